/-
  Short names for five lemmas.
-/
import Derived.Test.YtonmjkmaadgceabGreatProg
import Derived.ArgAppend
import Derived.BigQuiet
import Derived.Deep.Cut
import Derived.Deep.CutBlock
import Derived.Deep.CutRange
import Derived.Deep.MidRow
import Derived.Deep.OwnRows
import Derived.Deep.QuietTactic
import Derived.Deep.Slices
import Derived.IntWalk
import Derived.Laws.AppendOwn
import Derived.Laws.BitsLemmas
import Derived.Laws.BytesArg
import Derived.Laws.Concat
import Derived.Laws.CopyRow
import Derived.Laws.IdiomCopy
import Derived.Laws.IdiomStrings
import Derived.Lib.AppendZeros
import Derived.Lib.ConvBytes
import Derived.Lib.Hide
import Derived.Lib.ItoaNum
import Derived.OpenShut
import Derived.OrdersHeld
import Derived.OwnWalk
import Derived.ProofKit
import Derived.Shelf.Spec.SlicesInsertGrow
import Derived.StillTail
import Derived.StillTailTactics
import Derived.WalkKit
import Derived.WalkLawsBesides
import Derived.WalkSpells
set_option linter.unusedVariables false
set_option linter.defProp false
set_option linter.unusedSimpArgs false
set_option linter.unnecessarySimpa false
namespace Go.Proofs.YtonmjkmaadgceabGreat
open Go Go.RowKit _root_.Go.Proofs.Tryz
inductive Qx (p:Prop)|k
instance {p:Prop}:CoeSort (Qx p) Prop:=⟨λ_=>p⟩
instance {p:Prop}:CoeOut (Qx p) Prop:=⟨λ_=>p⟩
inductive Qy {α:Type} (a:α)|k
instance {α:Type} {a:α}:CoeOut (Qy a) α:=⟨λ_=>a⟩
def Qb (w v:World):Qx (Below w.heap.size w v):=.k
def Qi (n:Int):Qx (-9223372036854775808<=n/\n<=9223372036854775807):=.k
def Qc (w:World) (b o:Nat) (v:Value):Qx (w.cell? ⟨b,o,none⟩=some v):=.k
def Qd (w u:World) (o:Nat) (v:Value):Qx (w.cell? ⟨u.heap.size,o,none⟩=some v):=.k
def Qr (w:World) (b:Nat) (c:Array Value) (t:Nat):Qx (w.heap[b]?=some (.cells c t (0,0))):=.k
def Ql (u v:World) (b:Nat):Qy (λk:Nat=>u.heap.size<=k/\k < v.heap.size/\k≠b):=.k
def Qs {α:Type} (a:Option Addr) (l:List α) (c:Nat):Qy (Value.slice a l.length c):=.k
def Qn (n:Int):Qy (Value.int .i64 n):=.k
def zA {α : Type} (l : List α) (i : Nat) (a : α) : l.toArray.setIfInBounds i a = (l.set i a).toArray := List.setIfInBounds_toArray l i a
def zB {α : Type} {x : α} {xs : List α} {a : α} : (x :: xs).set 0 a = a :: xs := rfl
def zC {α : Type} {x : α} {xs : List α} {i : Nat} {a : α} : (x :: xs).set (i + 1) a = x :: xs.set i a := rfl
def yD {p : Prop} (h : p) : Go.RowKit.Hid p := Lib.hid h
def bR {B : Nat} {w : World} : Below B w w := Below.refl B w
def nL {n : Nat} : n <= n := Nat.le_refl n
def tQ {w w1 w2 : World} (h : Below w.heap.size w w1) (k : Below w1.heap.size w1 w2) : Below w.heap.size w w2 := h.trans (k.mono h.size)
def bT : True := True.intro
variable {p : Prop}
abbrev bQ (w : World) (v : Value) (e : Ending) (w' : World) : Prop := e = .returned v /\ Below w.heap.size w w'
def zU {b : Bool} : ((!b) = true) = (b = false) := by cases b <;> simp
def zV {b : Bool} : ((!b) = false) = (b = true) := by cases b <;> simp
def cL {w wx : World} {a : Addr} {v : Value} (hb : Below w.heap.size w wx) (h : w.cell? a = some v) : wx.cell? a = some v := cell_later hb h
def bF (h:p:=by repeat (first|(with_reducible exact bR) | refine Below.alloc ?_ (by simp;try omega) _ | refine Below.drew ?_ | refine Below.setCell ?_ (by simp;try omega) _)):p:=h
def bC9 (h:p:=by omega):p:=h
def bC3 (h:p:=by kernel_rfl):p:=h
def tK (h:p:=by rw [<- D];simp [go_sem]):p:=h
def pK (h:p:=by exact λc a d v w h=>by cases d <;> exact h):p:=h
def wO (h:p:=by simp;try omega):p:=h
def bC8 (h:p:=by decide):p:=h
def pJ (h:p:=by exact λk hk=>by have:=hk.1;have:=hk.2;omega):p:=h
def mH (h:p:=by exact λj I=>⟨by have:=I.1;omega,by have:=I.2;omega⟩):p:=h
def bC4 (h:p:=by simp;omega):p:=h
def rM (h:p:=by rw [<- F];exact bR.alloc nL _):p:=h
def nH (h:p:=by exact λk q h=>by have h1:=q.1;have h2:=q.2;omega):p:=h
def bD1 (h:p:=by rfl):p:=h
def qU (h:p:=by exact λj I=>⟨I.1,by have:=I.2;omega⟩):p:=h
def bD0 (h:p:=by simp):p:=h
def tL (h:p:=by rw [<- X];simp [go_sem]):p:=h
def qV (h:p:=by exact λj I=>⟨by have:=I.1;omega,I.2⟩):p:=h
def wM (h:p:=by exact λk hk=>by omega):p:=h
def vB (h:p:=by rw [<- F];exact kG rfl):p:=h
def fB (h:p:=by exact λj I=>⟨by have:=I.1;omega,by have:=I.2;simp [World.setCell];omega⟩):p:=h
def bB1 (h:p:=by rw [<- F];simp):p:=h
def mM (h:p:=by exact λj h1 h2=>by have p:=h1.2;have q:=h2.1;omega):p:=h
def rO (h:p:=by rw [<- X];exact bR.alloc nL _):p:=h
def dD (h:p:=by exact λk q=>⟨q.1,Nat.lt_of_lt_of_le q.2.1 hb.size,Nat.ne_of_lt (by rw [ag];exact q.2.1)⟩):p:=h
def dR (h:p:=by exact λj h1 h2=>by simp (discharger:=(simp;omega)) only [heap_setCell_other]):p:=h
def rY (h:p:=by show w.heap.size < _;omega):p:=h
def bM (h:p:=by first | omega|(simp only [List.flatten_cons,List.flatten_nil,List.length_append,List.length_cons,List.length_nil];omega)):p:=h
def dX (h:p:=by intro q;have:=q.1;first | omega|(simp at this;omega)|(simp at this)):p:=h
def bH (h:p:=by exact λk q=>by rcases q with q | q | q;exact ⟨q.1,by have:=q.2;omega⟩;exact ⟨by have:=q.1;omega,by have:=q.2;omega⟩;exact ⟨by have:=q.1;omega,q.2⟩):p:=h
def vN (h:p:=by have:=HL.out;omega):p:=h
def gK (h:p:=by exact λk q=>⟨by have:=q.1;omega,q.2,by have:=q.1;omega⟩):p:=h
def dG (h:p:=by exact λj I=>⟨by first | omega|(have:=I.1;omega),by first | omega|(have:=I.2;omega)⟩):p:=h
def bS (h:p:=by intro c hc;simp only [List.mem_cons,List.not_mem_nil,or_false] at hc;rcases hc with rfl | rfl | rfl <;> rfl):p:=h
def rZ (h:p:=by exact λk q h=>by have:=q.1;omega):p:=h
def wH (h:p:=by unfold Big;omega):p:=h
def fJ (h:p:=by exact λj I=>⟨by have:=I.1;omega,by simpa [World.setCell] using I.2⟩):p:=h
def vO (h:p:=by rw [<- F];exact sT1):p:=h
def gZ (h:p:=by exact λk q=>.inl (by first | exact q | exact .inl q)):p:=h
def dU (h:p:=by exact λj I=>⟨by have:=I.1;omega,by have:=I.2.1;simp [World.setCell];omega⟩):p:=h
def cB (h:p:=by exact λj q=>q.elim (λq=>⟨q.1,by omega,q.2.2⟩) (λq=>⟨by have:=q.1;omega,q.2,by have:=q.1;omega⟩)):p:=h
def cK (h:p:=by intro c hc;simp only [List.mem_cons,List.not_mem_nil,or_false] at hc;rcases hc with rfl <;> rfl):p:=h
def fG (h:p:=by exact λk q=>⟨by have:=q.1;omega,by have:=q.2;omega,by have:=q.1;omega⟩):p:=h
def bJ (h:p:=by exact λk q=>by rcases q with q | q;exact ⟨q.1,by have:=q.2.1;omega,q.2.2⟩;exact ⟨by have:=q.1;omega,by have:=q.2;omega,by have:=q.1;omega⟩):p:=h
def tC (h:p:=by rw [<- ad];simp [go_sem]):p:=h
def bV (h:p:=by exact λj h1 h2=>by have:=aa.out;have:=ab.out;rw [<- E];simp (discharger:=(simp;omega)) only [heap_setCell_other]):p:=h
def sD (h:p:=by exact λk hk=>by have:=hk.1;omega):p:=h
def wP (h:p:=by exact λk q=>by omega):p:=h
def sF (h:p:=by exact λj q=>⟨q.1,by omega,q.2.2⟩):p:=h
def bK (h:p:=by exact λj I hl=>J j hl (by first | omega|(have h1:=I.1;have h2:=I.2;intro q;have:=q.1;have:=q.2;omega)|(intro q;have:=q.1;have:=q.2;omega))):p:=h
def qB (h:p:=by (try simp only);rw [jS h];exact q):p:=h
def qJ (h:p:=by exact λk hk=>⟨by omega,by simp;omega⟩):p:=h
def dI (h:p:=by simpa only [Bool.and_eq_true,decide_eq_true_eq,Bool.not_eq_true'] using hi.2):p:=h
def mV (h:p:=by exact λj I=>⟨by have:=I.1;have:=E.size;omega,I.2⟩):p:=h
def fP (h:p:=by intro q;rcases q with q | q;(have q1:=q.1;omega);omega):p:=h
def nI (h:p:=by exact λj h1 h2=>by have:=h1.2.1;have:=h2.1;omega):p:=h
def wR (h:p:=by simpa using hl):p:=h
def nS (h:p:=by exact λk h1 h2=>by have:=h1.2;have:=h2.1;omega):p:=h
def fC (h:p:=by exact λj q=>⟨by have:=q.1;omega,by have:=q.2;simp [World.setCell];omega⟩):p:=h
def fD (h:p:=by simp [results,results97,go_sem,ad,aj,an,al,bb,av,bh,bg,bm,bi]):p:=h
def fH (h:p:=by exact λk q=>⟨by have:=q.1;omega,by have:=q.2;omega,by have:=q.2;omega⟩):p:=h
def cO (h:p:=by exact λj h1 h2=>by have:=aa.out;rw [<- E];simp (discharger:=(simp;omega)) only [heap_setCell_other]):p:=h
def dV (h:p:=by rw [L.out];first | rfl|(simp;done)|(rw [Bool.eq_iff_iff];simp;omega)):p:=h
def bB2 (h:p:=by rw [<- D];simp):p:=h
def mD (h:p:=by exact λj I=>⟨I.1,by simpa [World.setCell] using I.2⟩):p:=h
def dC (h:p:=by exact λk q=>⟨by have:=q.1;omega,by have:=q.2;omega,by have:=q.1;omega,by have:=q.1;omega⟩):p:=h
def pV (h:p:=by unfold Addr.add;split <;> simp_all):p:=h
def qX (h:p:=by first | omega|(simp;try omega)):p:=h
def pF (h:p:=by exact λk q=>⟨q.1,by have:=q.2.1;omega,q.2.2⟩):p:=h
def bB3 (h:p:=by simpa using h):p:=h
def bW (h:p:=by exact λk q=>by rcases q with q | q;exact ⟨q.1,by have:=q.2;omega⟩;exact ⟨by have:=q.1;omega,by have:=q.2;omega⟩):p:=h
def bE (h:p:=by exact λk q=>by rcases q with q | q | q;exact ⟨q.1,by have:=q.2;omega⟩;exact ⟨by have:=q.1;omega,by have:=q.2;omega⟩;exact ⟨by have:=q.1;(try simp at this);omega,q.2⟩):p:=h
def gL (h:p:=by simp [results,results156,go_sem,ad,an,aj,al]):p:=h
def vP (h:p:=by have:=b5.out;omega):p:=h
def bG (h:p:=by exact λj q=>by rcases q with q | q | q;exact ⟨by have:=q.1;omega,by have:=q.2;omega⟩;exact ⟨by have:=q.1;omega,by have:=q.2;omega⟩;exact ⟨by have:=q.1;omega,q.2⟩):p:=h
def sU (h:p:=by exact λk q=>by have:=q.1;omega):p:=h
def sG (h:p:=by first | omega|(simp;omega)):p:=h
def mE (h:p:=by rw [decide_eq_true g.1,decide_eq_true g.2];rfl):p:=h
def bI (h:p:=by exact λj q=>by rcases q with q | q | q;exact ⟨q.1,by have:=q.2;omega⟩;exact ⟨by have:=q.1;omega,by have:=q.2;omega⟩;exact ⟨by have:=q.1;omega,q.2⟩):p:=h
def bB4 (h:p:=by simpa using I):p:=h
def dA (h:p:=by split <;> (try simp only [List.length_append,List.length_cons,List.length_nil]) <;> omega):p:=h
def sI (h:p:=by rw [<- F];exact jV (kG rfl)):p:=h
def rF (h:p:=by exact λj h1 h2=>by have:=h1.1;omega):p:=h
def rG (h:p:=by rw [<- ad];exact bR.alloc nL _):p:=h
def tN (h:p:=by exact λq=>by have:=q.1;omega):p:=h
def sM (h:p:=by show 1<=_;unfold Big;omega):p:=h
def gV (h:p:=by simp [results,results96,go_sem,ad,an,aj,al]):p:=h
def gW (h:p:=by exact λk q1 q2=>by have h1:=q1.2.1;have h2:=q2.1;omega):p:=h
def vK (h:p:=by unfold maxLen;omega):p:=h
def pG (h:p:=by first | omega|(simp;done)|(simp;omega)):p:=h
def rU (h:p:=by rw [<- D];exact kG (by simp)):p:=h
def vQ (h:p:=by have:=bb.out;omega):p:=h
def bL (h:p:=by rw [<- Srt.zL (key:=key) ul,<- Srt.zL (key:=key) hl];show (!decide (Srt.yw key xs (N - 1 - h) < Srt.yw key xs h))=_;rw [hu]):p:=h
def bN (h:p:=by exact λk q h=>by first|(have h1:=sA k q;have h2:=h1.1;have h3:=h1.2;omega)|(have h1:=sB k q;have h2:=h1.1;have h3:=h1.2;omega)):p:=h
def wW (h:p:=by simpa using hc):p:=h
def qY (h:p:=by exact λj q=>⟨by have:=q.1;omega,q.2⟩):p:=h
def qZ (h:p:=by first|(simp;done)|(simp;omega)):p:=h
def rA (h:p:=by exact λk q=>⟨q.1,by have:=q.2;omega⟩):p:=h
def rC (h:p:=by exact λj q=>⟨q.1,by have:=q.2;omega⟩):p:=h
def fQ (h:p:=by simpa using congrArg (λo=>o.map (λz=>z.2.1)) kAi):p:=h
def fT (h:p:=by simpa using congrArg (λo=>o.map (λz=>z.2.1)) kCt):p:=h
def sV (h:p:=by exact λj q=>by have:=q.1;omega):p:=h
def rP (h:p:=by rw [<- D];exact bR.alloc nL _):p:=h
def vR (h:p:=by have:=az.out;omega):p:=h
def wX (h:p:=by simpa using h3):p:=h
def bP (h:p:=by have h_:=kMz (now:=now) (x:=(x0,(xc,xe),x2,x3,x4,x5,x6)) (k:=k) hlt;rw [<- L.out] at h_;rw [<- HP.out];exact h_):p:=h
def nT (h:p:=by exact λk q1 q2=>by have:=q1.2;have:=q2.1;omega):p:=h
def nU (h:p:=by rw [getD_replicate_false] at hl;cases hl):p:=h
def bU (h:p:=by exact λj q=>q.elim (λq=>⟨q.1,by have:=q.2.1;omega,q.2.2⟩) (λq=>⟨by have:=q.1;omega,q.2,by have:=q.1;omega⟩)):p:=h
def tF (h:p:=by rw [a9];exact kD.kDq bv):p:=h
def nX (h:p:=by have:=R.2.2;unfold maxLen at this;omega):p:=h
def nY (h:p:=by match c0,l0 with | [o],_=>exact ⟨_,rfl⟩):p:=h
def nZ (h:p:=by match c1,l1 with | [D],_=>exact ⟨_,rfl⟩):p:=h
def bX (h:p:=by have h1:=kLh (now:=now) (x:=(x0,(xc,xe),x2,x3,x4,x5,x6)) (k:=k);rw [<- L.out] at h1;simp only at h1;omega):p:=h
def dY (h:p:=by simp [results,results162,go_sem,a4,bh,a5,bf,b8,b4,b5,b7,ca,b9]):p:=h
def vC (h:p:=by rw [h] at hr;cases hr):p:=h
def vS (h:p:=by have:=HM.out;omega):p:=h
def rH (h:p:=by rw [<- E];simp [World.setCell]):p:=h
def bY (h:p:=by exact λj h1 h2=>by have L:=h1.1;have p2:=h1.2;simp (discharger:=(simp;omega)) only [heap_setCell_other]):p:=h
def bZ (h:p:=by rw [L.out];have:=bb.out;have:=HK.out;have:=HR.out;simp only [List.length_append];unfold Big;omega):p:=h
def bB5 (h:p:=by simpa using q):p:=h
def mO (h:p:=by have q:=kD.zD ai.out aa;rw [a5] at q;exact q):p:=h
def mW (h:p:=by simp [results,results186,go_sem,K2,F2]):p:=h
def mX (h:p:=by simp [results,results176,go_sem,K2,F2]):p:=h
def mY (h:p:=by have q:=kD.zD ai.out an;rw [X] at q;exact q):p:=h
def cZ (h:p:=by exact λj q=>by rcases q with q | q | q <;> (have q1:=q.1;have q2:=q.2;(try have q3:=q2.1);omega)):p:=h
def vT (h:p:=by have:=o.size;omega):p:=h
def dB (h:p:=by simp [results,results132,go_sem,R0,F0,R1,F1,R2,F2,R3,F3,R4,F4,R5,F5,R6,F6,R7,F7]):p:=h
def bB6 (h:p:=by simp [go_sem]):p:=h
def nV (h:p:=by exact λk q=>by have h1:=q.1;have h2:=q.2;omega):p:=h
def sN (h:p:=by rw [Srt.kAm];exact HL.out):p:=h
def wY (h:p:=by simpa using ba):p:=h
def wZ (h:p:=by simpa using hp):p:=h
def dE (h:p:=by show (xc,kJm xc (kEg y0 xe)++[((y0,y1,y2,y3,y4),t)])=_;rw [HK.out,d3.out,HZ.out]):p:=h
def dF (h:p:=by exact λj h1 h2=>by rw [<- E];simp (discharger:=(simp;omega)) only [heap_setCell_other]):p:=h
def vL (h:p:=by rw [L.out];exact a5):p:=h
def dH (h:p:=by rw [ByteArray.size_append];have:({ data:=#[47] }:ByteArray).size=1:=rfl;omega):p:=h
def gM (h:p:=by simp [results,results134,go_sem,a4,bh,a5,bf]):p:=h
def bB7 (h:p:=by rw [<- X];simp):p:=h
def tO (h:p:=by rw [o];split <;> omega):p:=h
def rV (h:p:=by rw [List.length_take];omega):p:=h
def pR (h:p:=by rw [<- bt,Nat.mul_comm];exact ay.out):p:=h
def pW (h:p:=by rw [List.length_append];exact hlen):p:=h
def pX (h:p:=by exact λq=>by simp at q;simpa using hne q):p:=h
def dK (h:p:=by exact λj=>by have:=ho (j + 1);simpa [Nat.add_assoc,Nat.add_comm 1 j] using this):p:=h
def dL (h:p:=by exact λi=>by have:=ho (i + 1);simpa [Nat.add_assoc,Nat.add_comm 1 i] using this):p:=h
def dP (h:p:=by simpa only [Bool.and_eq_true,decide_eq_true_eq,Bool.not_eq_true'] using O):p:=h
def mF (h:p:=by exact λk q h=>by have h1:=q.2.1;have h2:=q.2.2;omega):p:=h
def dQ (h:p:=by exact λk q=>by rcases q with q | q;exact q;exact ⟨by omega,by omega,by omega⟩):p:=h
def qC (h:p:=by exact λk hk=>⟨by have:=hk.1;omega,hk.2⟩):p:=h
def dS (h:p:=by exact λk q=>⟨by have:=q.1.1;omega,by have:=q.1.2;omega,by have:=q.1.1;omega⟩):p:=h
def sO (h:p:=by exact λq=>bx (by simpa using q)):p:=h
def qE (h:p:=by rw [L.out];simp;unfold Big;omega):p:=h
def qF (h:p:=by rw [I.out,<- db.out];exact HF.out):p:=h
def qH (h:p:=by rw [a5];exact kD.cells3 av b2 bz):p:=h
def wI (h:p:=by exact λk q h=>by omega):p:=h
def dW (h:p:=by exact λj q=>⟨by have:=q.1;omega,by have:=q.2.1;simp [World.setCell];omega⟩):p:=h
def mZ (h:p:=by exact λj I=>⟨by have:=I.1;simp at this;omega,I.2⟩):p:=h
def dZ (h:p:=by simp [results,results133,go_sem,ad,aj,an,al,bb,av,bh,bg,bm,bi]):p:=h
def nA (h:p:=by simp [results,results141,go_sem,KR,FR]):p:=h
def qK (h:p:=by (try simp only);rw [jS h,q];rfl):p:=h
def qL (h:p:=by first | exact Y | simpa using Y):p:=h
def qM (h:p:=by first | exact V | simpa using V):p:=h
def qN (h:p:=by first | exact G | simpa using G):p:=h
def fA (h:p:=by rw [hy,bb.out];split <;> first | rfl | exact (Srt.kNf _ _ _ _).symm):p:=h
def qO (h:p:=by rw [<- F];exact jV (jV (kG rfl))):p:=h
def qP (h:p:=by rw [X];exact kD.cells3 ad bk bl):p:=h
def fE (h:p:=by have h2:=zY (p:=λz=>!(z==ex)) (l:=F) (k:=k) hk;unfold Big;omega):p:=h
def rD (h:p:=by exact λk h=>⟨h.1,by have:=h.2;omega⟩):p:=h
def fF (h:p:=by rw [hu];split <;> first | exact br.out|(rw [Srt.zu];exact br.out)):p:=h
def rE (h:p:=by have:=List.mem_range.1 I;omega):p:=h
def nQ (h:p:=by rw [L.out,List.length_append,<- H.out];rfl):p:=h
def fI (h:p:=by (first | rw [kQa hN] | rw [kQb hN]);first | rfl|(rw [E.out];rfl)):p:=h
def vU (h:p:=by rw [<- F];exact sT2):p:=h
def vV (h:p:=by simpa using hB.1.1):p:=h
def nW (h:p:=by exact λj h1 h2=>by have:=h1.2;have:=h2.1;omega):p:=h
def bA0 (h:p:=by simpa using hk):p:=h
def bA1 (h:p:=by simpa using h1):p:=h
def bA2 (h:p:=by simpa using h0):p:=h
def fK (h:p:=by simp [results,results173,go_sem,ad,an,bb,bh,aj,al,av,bg]):p:=h
def rQ (h:p:=by rw [ag,h3,Nat.add_mul];omega):p:=h
def wG (h:p:=by have:=H.out;omega):p:=h
def vD (h:p:=by rw [<- X];exact kG rfl):p:=h
def vE (h:p:=by rw [List.take_length]):p:=h
def pI (h:p:=by exact λk q=>by rcases q with q | q <;> omega):p:=h
def sJ (h:p:=by exact λi hi=>by have:=hi.1;omega):p:=h
def pM (h:p:=by exact λk hk=>⟨.inl hk.1,λh=>by cases h⟩):p:=h
def pO (h:p:=by exact λq=>by rcases q with q | q <;> omega):p:=h
def fM (h:p:=by exact λj I=>I.elim .inl (λh=>.inr ⟨by have:=h.1;omega,h.2⟩)):p:=h
def fO (h:p:=by have h1:=zY (p:=kJb n l) (l:=l) (k:=k) hk;rw [kGf];omega):p:=h
def sP (h:p:=by exact λy hy=>h y (by simp [hy])):p:=h
def pU (h:p:=by rw [L.out];unfold kEd;simp [hg,hne]):p:=h
def sQ (h:p:=by rw [Srt.kCo];exact HL.out):p:=h
def sS (h:p:=by rw [Srt.kCr];exact HL.out):p:=h
def fU (h:p:=by show (kJn l n fs).length<=Big;rw [kLl];unfold Big;omega):p:=h
def pY (h:p:=by rw [ByteArray.size_append,G];omega):p:=h
def fV (h:p:=by exact λk q=>⟨by have:=q.1;omega,by have:=q.2.1;omega,q.2.2⟩):p:=h
def vW (h:p:=by have:=HN.out;omega):p:=h
def gB (h:p:=by rw [g1,List.append_assoc,List.take_append_drop,<- g2]):p:=h
def gD (h:p:=by simp only [ByteArray.size_extract];unfold Big;omega):p:=h
def gF (h:p:=by rw [L.out,List.length_append];unfold Big;simp;omega):p:=h
def gG (h:p:=by have:=(Array.getElem?_eq_some_iff.1 XR.out).1;omega):p:=h
def tH (h:p:=by simpa using (ho 0).symm):p:=h
def tJ (h:p:=by rw [a5];exact kD.kLb av):p:=h
def qI (h:p:=by rw [<- N];exact jV (kG (by simp))):p:=h
def gH (h:p:=by exact λj I=>⟨by have:=I.1;omega,by have:=I.2;simp;omega⟩):p:=h
def gI (h:p:=by rw [<- Srt.zL (key:=key) hl,<- Srt.zL (key:=key) al]):p:=h
def gJ (h:p:=by rw [<- Srt.zL (key:=key) ml,<- Srt.zL (key:=key) hl]):p:=h
def qQ (h:p:=by rw [<- N];exact jV (jV (kG rfl))):p:=h
def gN (h:p:=by exact λy hy=>by rw [List.mem_singleton.1 hy];exact hx.2):p:=h
def gP (h:p:=by simp [results,results159,go_sem,M0,M1,F0,F1]):p:=h
def gQ (h:p:=by exact λj q=>⟨by have:=q.1;omega,q.2,by have:=q.2;omega⟩):p:=h
def gT (h:p:=by simp [results,results177,go_sem,a4,bh,a5,bf]):p:=h
def tT (h:p:=by rw [<- F];exact kK BO 1):p:=h
def qR (h:p:=by have:=ag.out;simp at this;omega):p:=h
def tV (h:p:=by rw [X];exact kD.kLb ad):p:=h
def tX (h:p:=by rw [L];split <;> omega):p:=h
def gX (h:p:=by intro y hy;rw [List.mem_singleton.1 hy];exact hb):p:=h
def rJ (h:p:=by rw [af.out,br.out];simp;omega):p:=h
def mG (h:p:=by exact λq hq=>⟨by have:=hq.1;have:=F.size;omega,hq.2⟩):p:=h
def vH (h:p:=by simpa [Big] using hb):p:=h
def mJ (h:p:=by exact λk q=>⟨by have:=q.1;omega,by have:=q.2;omega⟩):p:=h
def mK (h:p:=by rw [V.out];simp;have:=bb.out;unfold Big;omega):p:=h
def vI (h:p:=by rw [HQ.out];exact hk):p:=h
def rR (h:p:=by show 1<=_;unfold maxLen;omega):p:=h
def bC6 (h:p:=by simp [hy]):p:=h
def bC7 (h:p:=by simp [hp]):p:=h
def mP (h:p:=by have:=kD.kCn (by decide) au;unfold Big;omega):p:=h
def mQ (h:p:=by exact λj I=>⟨I.1,by have:=I.2;have:=aa.size;omega⟩):p:=h
def mR (h:p:=by exact λj I=>⟨I.1,by have:=I.2;have:=ar.size;omega⟩):p:=h
def mU (h:p:=by exact λj I=>⟨I.1,by have:=I.2;have:=b2.size;omega⟩):p:=h
def nC (h:p:=by rw [HQ.out.1];have:=ar.out;unfold Big;omega):p:=h
def rW (h:p:=by exact λx hx=>hlt x (by simp [hx])):p:=h
def rX (h:p:=by rw [<- N];exact kG (by simp)):p:=h
def nD (h:p:=by exact λj I=>⟨by have:=I.1;have:=o.size;omega,I.2⟩):p:=h
def vM (h:p:=by rw [inv.size];omega):p:=h
def nE (h:p:=by have q:=kD.zD R.out an;rw [a5] at q;exact q):p:=h
def nG (h:p:=by have q:=kD.zD J.out an;rw [a5] at q;exact q):p:=h
def bA3 (h:p:=by simpa using hf):p:=h
def bA4 (h:p:=by simpa using hz):p:=h
def bA5 (h:p:=by simpa using ht):p:=h
def bA6 (h:p:=by simpa using hr):p:=h
def bA7 (h:p:=by rw [hB.1];simp):p:=h
def bA8 (h:p:=by simpa using hv):p:=h
def nJ (h:p:=by simp [results,results73,go_sem,R0,F0]):p:=h
def nK (h:p:=by exact λk hk=>by rcases hk with hk | hk <;> omega):p:=h
def nM (h:p:=by simp [results,results31,go_sem,R0,F0]):p:=h
def nN (h:p:=by simp [results,results19,go_sem,R0,F0]):p:=h
def nO (h:p:=by have q:=kD.zD R.out aa;rw [X] at q;exact q):p:=h
def nP (h:p:=by have q:=kD.zD J.out aa;rw [X] at q;exact q):p:=h
def sK (h:p:=by exact λk q=>by have:=q.1.1;omega):p:=h
def nR (h:p:=by rw [Nat.mul_comm];rwa [Nat.pow_succ] at h):p:=h
def vY (h:p:=by have:=br.out;omega):p:=h
def vZ (h:p:=by have:=co.out;omega):p:=h
def pE (h:p:=by match c2,l2 with | [W],_=>exact ⟨_,rfl⟩):p:=h
def sZ (h:p:=by exact λq=>by have:=q.1.1;omega):p:=h
def bC0 (h:p:=by exact λq=>by omega):p:=h
def wJ (h:p:=by simpa using hlen):p:=h
def wK (h:p:=by simp at hk;omega):p:=h
def tY (h:p:=by rw [L.out];exact H.out):p:=h
def tZ (h:p:=by rw [<- F];exact kK BO 4):p:=h
def bC1 (h:p:=by rw [HD.out]):p:=h
def qA (h:p:=by exact λj q=>⟨by omega,by omega,by omega⟩):p:=h
def vG (h:p:=by rw [<- F];exact kK B 0):p:=h
def bA9 (h:p:=by rw [hv,hi];rfl):p:=h
def bB0 (h:p:=by simpa using ei):p:=h
def bC5 (h:p:=by simp [Big]):p:=h
def bB8 (h:p:=by simpa using o):p:=h
def bB9 (h:p:=by simpa using D):p:=h
def wB (h:p:=by rw [<- F];exact sT8):p:=h
def wE (h:p:=by have:=aw.out;omega):p:=h
def wF (h:p:=by have:=ag.out;omega):p:=h
def bC2 (h:p:=by rw [am.out]):p:=h
def xD (h:p:=by
 have hb:Qb W v:=(by rw [<- F];exact bR.alloc nL _);have BB:Qr v W.heap.size #[.slice none 0 0,.slice none 0 0,.slice none 0 0,Qn 0,Qn 0] 68:=(by rw [<- F];exact kG rfl);have zv:W.heap.size + 1<=v.heap.size:=(by rw [<- F];simp);exact And.intro hb (And.intro BB zv)):p:=h
def xE (h:p:=by
 have EB:Qb w N:=by rw [<- D];exact bF
 have K0:Qd N w 0 (.slice cw x.1.length b6):=tK;have K1:Qd N w 1 (.int .i64 x.2.1.1):=tK;have K2:Qd N w 2 (.slice cz x.2.1.2.length co):=tK;have K3:Qd N w 3 (.slice dk x.2.2.1.length c8):=tK;have K4:Qd N w 4 (.slice dj x.2.2.2.1.length di):=tK;have K5:Qd N w 5 (.slice c5 x.2.2.2.2.1.length c4):=tK;have K6:Qd N w 6 (.slice c3 x.2.2.2.2.2.1.length cm):=tK;have K7:Qd N w 7 (.int .i64 x.2.2.2.2.2.2):=tK;exact And.intro EB (And.intro K0 (And.intro K1 (And.intro K2 (And.intro K3 (And.intro K4 (And.intro K5 (And.intro K6 K7)))))))):p:=h
def xG (h:p:=by
 replace hc:=hc.below hb;replace N:=N.trans (Touch.of_below hb);exact And.intro hc N):p:=h
def xH (h:p:=by
 have R5:=E.1.kC R bC9;have Z:=N.trans E.1;have af:=E.2;have bc:=yD (J.out.touch E.1 pJ);have aj:wS1.frozen? ⟨w.heap.size,0,none⟩=false:=frozen_of_row wS1 w.heap.size 0 _ _ R5;have al:wS1.frozen? ⟨w.heap.size,1,none⟩=false:=frozen_of_row wS1 w.heap.size 1 _ _ R5;have av:wS1.frozen? ⟨w.heap.size,2,none⟩=false:=frozen_of_row wS1 w.heap.size 2 _ _ R5;have bg:wS1.frozen? ⟨w.heap.size,3,none⟩=false:=frozen_of_row wS1 w.heap.size 3 _ _ R5;have ad:=kE R5 (j:=0) (v:=.slice none 0 0) rfl;have an:=kE R5 (j:=1) (v:=.int .i64 0) rfl;have bb:=kE R5 (j:=2) (v:=.int .i64 0) rfl;have bh:=kE R5 (j:=3) (v:=.int .i64 0) rfl;exact And.intro R5 (And.intro Z (And.intro af (And.intro bc (And.intro aj (And.intro al (And.intro av (And.intro bg (And.intro ad (And.intro an (And.intro bb bh))))))))))):p:=h
def xI (h:p:=by
 have cg:=Int.natCast_nonneg a;have c4:(a:Int) < m:=bC9;have c3:(m:Int) < z:=bC9;have ck:(z:Int)<=16777216:=bC9;have dd:(z:Int)<=n:=bC9;have b9:(m:Int) - (a:Int)=((m - a:Nat):Int):=bC9;have az:(z:Int) - (m:Int)=((z - m:Nat):Int):=bC9;exact And.intro cg (And.intro c4 (And.intro c3 (And.intro ck (And.intro dd (And.intro b9 az)))))):p:=h
def xJ (h:p:=by
 have A0:=(o.cell (p:=⟨w.heap.size,0,none⟩) rY).trans ao;have A1:=(o.cell (p:=⟨w.heap.size,1,none⟩) rY).trans ah;have A2:=(o.cell (p:=⟨w.heap.size,2,none⟩) rY).trans aj;have Y:=EB.trans (o.mono bC9);have B0:=cL Y C0;have B1:=cL Y C1;have U:=cL Y C2;exact And.intro A0 (And.intro A1 (And.intro A2 (And.intro Y (And.intro B0 (And.intro B1 U)))))):p:=h
def xK (h:p:=by
 replace HL:Hid ((kD.slice 9 kD.str).own v [.slice (some ⟨b6,0,none⟩) 3 3] [{ data:=#[47,107,101,121,47,97] },{ data:=#[47,107,101,121,47,98] },{ data:=#[47,97,47,107,101,121] }] (λk=>k=b6)):=yD (HL.out.touch D wI);replace h6:U.heap.size<=b6/\b6 < v.heap.size:=⟨h6.1,Nat.lt_of_lt_of_le h6.2 D.size⟩;exact And.intro HL h6):p:=h
def xL (h:p:=by
 have M0:=kE XV.out (j:=0) (v:=.int .i64 c) rfl;have M1:=kE XV.out (j:=1) rfl;have R0:=kE ((o.block _ (show w.heap.size + 1 < w.heap.size + 1 + 1 by omega)).trans XR.out) (j:=0) (v:=.int .i64 0) rfl;have R1:=kE ((o.block _ (show w.heap.size + 1 < w.heap.size + 1 + 1 by omega)).trans XR.out) (j:=1) (v:=.slice none 0 0) rfl;have F0:=λj=>frozen_of_row wr (w.heap.size + 1) j _ _ ((o.block _ (show w.heap.size + 1 < w.heap.size + 1 + 1 by omega)).trans XR.out);have b0:=F0 0;have bv:=F0 1;exact And.intro M0 (And.intro M1 (And.intro R0 (And.intro R1 (And.intro F0 (And.intro b0 bv)))))):p:=h
def xM (h:p:=by
 replace J:=yD (J.out.touch D pJ);replace N:=N.trans D;exact And.intro J N):p:=h
def xN (h:p:=by
 replace BR:=kC BR hb;replace BO:=kC BO hb;replace J:=yD (J.out.below hb);replace U:=(tQ U hb);exact And.intro BR (And.intro BO (And.intro J U))):p:=h
def xO (h:p:=by
 replace HL:Hid ((kD.slice 9 kD.str).own v [.slice (some ⟨b6,0,none⟩) 3 3] [{ data:=#[47,107,101,121,47,97] },{ data:=#[47,107,101,121,47,98] },{ data:=#[47,97,47,107,101,121] }] (λk=>k=b6)):=yD (HL.out.below hb);replace h6:U.heap.size<=b6/\b6 < v.heap.size:=⟨h6.1,Nat.lt_of_lt_of_le h6.2 hb.size⟩;have o:U.heap.size<=b/\b < v.heap.size:=⟨by omega,by omega⟩;exact And.intro HL (And.intro h6 o)):p:=h
def xP (h:p:=by
 have al:wS1.frozen? ⟨w.heap.size,1,none⟩=false:=frozen_of_row wS1 (w.heap.size) 1 _ _ RS;have bb:Qd wS1 w 2 Z:=kE RS rfl;have av:wS1.frozen? ⟨w.heap.size,2,none⟩=false:=frozen_of_row wS1 (w.heap.size) 2 _ _ RS;have bh:Qd wS1 w 3 ag:=kE RS rfl;have bg:wS1.frozen? ⟨w.heap.size,3,none⟩=false:=frozen_of_row wS1 (w.heap.size) 3 _ _ RS;have bm:Qd wS1 w 4 ab:=kE RS rfl;have bi:wS1.frozen? ⟨w.heap.size,4,none⟩=false:=frozen_of_row wS1 (w.heap.size) 4 _ _ RS;have c7:Qd wS1 w 5 ac:=kE RS rfl;have df:wS1.frozen? ⟨w.heap.size,5,none⟩=false:=frozen_of_row wS1 (w.heap.size) 5 _ _ RS;have c9:Qd wS1 w 6 aa:=kE RS rfl;have da:wS1.frozen? ⟨w.heap.size,6,none⟩=false:=frozen_of_row wS1 (w.heap.size) 6 _ _ RS;have dc:Qd wS1 w 7 ae:=kE RS rfl;have dh:wS1.frozen? ⟨w.heap.size,7,none⟩=false:=frozen_of_row wS1 (w.heap.size) 7 _ _ RS;have bw:=yD (J.out.touch E.touch pJ);exact And.intro al (And.intro bb (And.intro av (And.intro bh (And.intro bg (And.intro bm (And.intro bi (And.intro c7 (And.intro df (And.intro c9 (And.intro da (And.intro dc (And.intro dh bw))))))))))))):p:=h
def xQ (h:p:=by
 replace hc:=hc.below X;have N:Touch (λk=>k=p) w Y:=Touch.of_below X;exact And.intro hc N):p:=h
def xR (h:p:=by
 have R0:Qc V (w.heap.size + 1) 0 (.slice none 0 0):=(o.cell (p:=⟨w.heap.size + 1,0,none⟩) bD0).trans bB6;have F0:V.frozen? ⟨w.heap.size + 1,0,none⟩=false:=(o.frozen (p:=⟨w.heap.size + 1,0,none⟩) bD0).trans bB6;exact And.intro R0 F0):p:=h
def xS (h:p:=by
 have bt:=Int.ofNat_lt.2 hlt;have bp:=Int.natCast_nonneg k;have c1:(k:Int)<=(pl:Int):=bC9;have a8:k<=pl:=bC9;exact And.intro bt (And.intro bp (And.intro c1 a8))):p:=h
def xU (h:p:=by
 have L0:=kE ((o.block _ (show w.heap.size < w.heap.size + 1 + 1 by omega)).trans XB.out) (j:=0) (v:=.int .i64 c) rfl;have L1:=kE ((o.block _ (show w.heap.size < w.heap.size + 1 + 1 by omega)).trans XB.out) (j:=1) (v:=.slice la l.length lp) rfl;have Y:Qb w wr:=EA.trans (o.mono bC9);have b3:=Int.natCast_nonneg k;exact And.intro L0 (And.intro L1 (And.intro Y b3))):p:=h
def xV (h:p:=by
 have HZ:Hid (wA.heap.size=w.heap.size + 3):=yD (by rw [<- N];simp);have EA:Qb w wA:=by rw [<- N];exact bF
 have XB:Hid (Qr wA w.heap.size #[Qn c,Qs la l lp] 27):=yD qQ;have XR:Hid (Qr wA (w.heap.size + 1) #[Qn 0,.slice none 0 0] 27):=yD qI;have XO:Hid (Qr wA (w.heap.size + 1 + 1) #[Qn c,.slice none 0 0] 27):=yD rX;exact And.intro HZ (And.intro EA (And.intro XB (And.intro XR XO)))):p:=h
def xW (h:p:=by
 replace Z:=Z.jh D gZ;replace BN:=D.kC BN bC9;replace BT:=D.kC BT bC9;replace J:=yD (J.out.touch D nH);replace L:=yD (L.out.touch D nH);exact And.intro Z (And.intro BN (And.intro BT (And.intro J L)))):p:=h
def xX (h:p:=by
 have hb:Below W.heap.size W v:=(by rw [<- F];exact bR.alloc nL _);have BB:v.heap[W.heap.size]?=some (.cells #[.slice none 0 0,.slice none 0 0,.slice none 0 0,.int .i64 0,.int .i64 0] 68 (0,0)):=(by rw [<- F];exact kG rfl);have zv:W.heap.size + 1<=v.heap.size:=(by rw [<- F];simp);exact And.intro hb (And.intro BB zv)):p:=h
def xY (h:p:=by
 have a1:=yL (T:=λk=>S k/\k < w.heap.size) (yM (w':=w.drew.alloc (.cells (cs.toArray++cells.toArray++Builtin.zeroCells z.cells (grownCap w (xs.length + m) cap e - (xs.length + m))) e)) (zO g7) (λk hk=>heap_alloc_old w.drew _ hk.2)) (λk hk=>⟨hk.1.1,hk.2⟩);have a2:=yL (T:=λk=>T k/\k < w.heap.size) (yM (w':=w.drew.alloc (.cells (cs.toArray++cells.toArray++Builtin.zeroCells z.cells (grownCap w (xs.length + m) cap e - (xs.length + m))) e)) (zO hrow) (λk hk=>heap_alloc_old w.drew _ hk.2)) (λk hk=>hk);exact And.intro a1 a2):p:=h
def xZ (h:p:=by
 have av:=kD.yX HL.out hlt;have ag:=List.take_succ_eq_append_getElem hlt;exact And.intro av ag):p:=h
def y7 (h:p:=by
 have M0:=kE (b:=w.heap.size + 1) o (j:=0) rfl;have F0:=frozen_of_row U (w.heap.size + 1) 0 _ _ o;have M1:=kE (b:=w.heap.size + 1) o (j:=1) rfl;have F1:=frozen_of_row U (w.heap.size + 1) 1 _ _ o;have M2:=kE (b:=w.heap.size + 1) o (j:=2) rfl;have F2:=frozen_of_row U (w.heap.size + 1) 2 _ _ o;have M3:=kE (b:=w.heap.size + 1) o (j:=3) rfl;have F3:=frozen_of_row U (w.heap.size + 1) 3 _ _ o;have M4:=kE (b:=w.heap.size + 1) o (j:=4) rfl;have F4:=frozen_of_row U (w.heap.size + 1) 4 _ _ o;have M5:=kE (b:=w.heap.size + 1) o (j:=5) rfl;have F5:=frozen_of_row U (w.heap.size + 1) 5 _ _ o;have M6:=kE (b:=w.heap.size + 1) o (j:=6) rfl;have F6:=frozen_of_row U (w.heap.size + 1) 6 _ _ o;exact And.intro M0 (And.intro F0 (And.intro M1 (And.intro F1 (And.intro M2 (And.intro F2 (And.intro M3 (And.intro F3 (And.intro M4 (And.intro F4 (And.intro M5 (And.intro F5 (And.intro M6 F6))))))))))))):p:=h
def y8 (h:p:=by
 have hz:((a.length:Int) != b.length)=false:=bC4;have bj:(a.length != b.length)=false:=wR;exact And.intro hz bj):p:=h
def y9 (h:p:=by
 have o:U.heap.size<=b/\b < v.heap.size:=⟨by omega,by omega⟩;replace E:=And.intro (E.1.trans (Touch.of_below hb)) (E.2.below hb);exact And.intro o E):p:=h
def z8 (h:p:=by
 replace R:=kC R ak;replace J:=yD (J.out.below ak);replace hc:=hc.below ak;replace N:=N.trans (Touch.of_below ak);exact And.intro R (And.intro J (And.intro hc N))):p:=h
def A7 (h:p:=by
 replace BB:=D.kC BB bC9;replace o:U.heap.size<=b/\b < v.heap.size:=⟨o.1,Nat.lt_of_lt_of_le o.2 D.size⟩;exact And.intro BB o):p:=h
def A8 (h:p:=by
 have db:((p:Int) + (q:Int)) / 2=(h:Int):=bC9;have df:p<=h:=bC9;have c8:h < q:=bC9;have da:=Int.natCast_nonneg h;exact And.intro db (And.intro df (And.intro c8 da))):p:=h
def A9 (h:p:=by
 replace hc:=hc.touch hT bC9 wM;replace Z:=Z.jh hT wP;exact And.intro hc Z):p:=h
def AA (h:p:=by
 replace BX:=kC BX hb;replace BY:=kC BY hb;replace BZ:=kC BZ hb;replace XO:=yD (XO.out.below hb);replace YO:=yD (YO.out.below hb);replace ZO:=yD (ZO.out.below hb);replace U:=(tQ U hb);exact And.intro BX (And.intro BY (And.intro BZ (And.intro XO (And.intro YO (And.intro ZO U)))))):p:=h
def AB (h:p:=by
 replace BX:=kC BX hb;replace BR:=kC BR hb;replace BO:=kC BO hb;replace BT:=kC BT hb;replace J:=yD (J.out.below hb);replace U:=(tQ U hb);exact And.intro BX (And.intro BR (And.intro BO (And.intro BT (And.intro J U))))):p:=h
def AC (h:p:=by
 have bd:Hid ((kD.slice 68 jJ).rd w [Qs cw x.1 b6] x.1):=yD ⟨ad,X⟩;have a4:Hid (kN.rd w [Qn x.2.1.1,Qs cz x.2.1.2 co] x.2.1):=yD ⟨a3,q1⟩;have av:Hid ((kD.slice 43 kH).rd w [Qs dk x.2.2.1 c8] x.2.2.1):=yD ⟨az,q2⟩;have bf:Hid ((kD.slice 99 jG).rd w [Qs dj x.2.2.2.1 di] x.2.2.2.1):=yD ⟨ba,q3⟩;have a2:Hid ((kD.slice 77 kY).rd w [Qs c5 x.2.2.2.2.1 c4] x.2.2.2.2.1):=yD ⟨bm,q4⟩;have aw:Hid ((kD.slice 108 kL).rd w [Qs c3 x.2.2.2.2.2.1 cm] x.2.2.2.2.2.1):=yD ⟨bz,q5⟩;exact And.intro bd (And.intro a4 (And.intro av (And.intro bf (And.intro a2 aw))))):p:=h
def AJ (h:p:=by
 have hb:Qb t v:=(by rw [<- F];exact bR.alloc nL _);have BB:Qr v t.heap.size #[.slice none 0 0,.slice none 0 0,.slice none 0 0,Qn 0,Qn 0] 68:=(by rw [<- F];exact kG rfl);have zv:t.heap.size + 1<=v.heap.size:=(by rw [<- F];simp);exact And.intro hb (And.intro BB zv)):p:=h
def AL (h:p:=by
 have HL:Hid ((kD.slice 111 jD).rd w [Qs la l lp] l):=yD ⟨hl,av.2⟩;have a5:l.length<=16777216:=av.2.1;have bp:=yD c7;exact And.intro HL (And.intro a5 bp)):p:=h
def AO (h:p:=by
 have ax:Qd w3 V 0 (.slice a 0 c):=kE B rfl;have az:w3.frozen? ⟨V.heap.size,0,none⟩=false:=frozen_of_row w3 (V.heap.size) 0 _ _ B;have GB:(World.alloc w3 (.cells #[.string { data:=#[97] }] 9)).frozen? ⟨V.heap.size,0,none⟩=false:=(frozen?_alloc_cells _ _ _ _).trans az;have HB:(World.alloc w3 (.cells #[.string { data:=#[97] }] 9)).cell? ⟨V.heap.size,0,none⟩=some (.slice a 0 c):=kE (kC B (bR.alloc nL _)) rfl;exact And.intro ax (And.intro az (And.intro GB HB))):p:=h
def AP (h:p:=by
 have bj:=E.size;have bi:=EC.size;have aw:=o.size;have ab:Qb wr _:=(tQ EC E);replace J:=yD (J.out.below ab);have O:=(tQ o ab);exact And.intro bj (And.intro bi (And.intro aw (And.intro ab (And.intro J O))))):p:=h
def AQ (h:p:=by
 have hb:Qb W v:=(by rw [<- F];exact bR.alloc nL _);have zv:W.heap.size + 1<=v.heap.size:=(by rw [<- F];simp);exact And.intro hb zv):p:=h
def AR (h:p:=by
 have EC:Qb wr wC:=rO;have ca:wC.heap.size=wr.heap.size + 1:=bB7;have M0:Qd wC wr 0 (.slice ac (x0).length ay):=tL;exact And.intro EC (And.intro ca M0)):p:=h
def AU (h:p:=by
 have o:wz.heap.size<=b/\b < v.heap.size:=⟨by omega,by omega⟩;replace E:=And.intro (E.1.trans (Touch.of_below hb)) (E.2.below hb);exact And.intro o E):p:=h
def AV (h:p:=by
 replace J:=yD (J.out.touch D pJ);replace HR:=yD (HR.out.touch D pJ);replace N:=N.trans D;exact And.intro J (And.intro HR N)):p:=h
def AX (h:p:=by
 have HD:Hid (decide (x=y)=false->decide (a=b)=false):=yD pX;have HX:Hid (decide (x=y)=true->a.take (k + 1)=b.take (k + 1)):=yD sO;exact And.intro HD HX):p:=h
def AY (h:p:=by
 have hb:Qb w Y:=by rw [<- F];exact (bR.alloc nL _).alloc bD0 _
 have RN:Qr Y w.heap.size #[.slice none 0 0,Qn 0,.slice none 0 0,.slice none 0 0,.slice none 0 0,.slice none 0 0,.slice none 0 0,Qn 0] 33:=sI;have RT:Qr Y (w.heap.size + 1) #[.slice none 0 0,.slice none 0 0,.slice none 0 0,.slice none 0 0] 84:=by rw [<- F];exact kG bD0
 have bd:w.heap.size + 2<=Y.heap.size:=bB1;exact And.intro hb (And.intro RN (And.intro RT bd))):p:=h
def AZ (h:p:=by
 have co:IntKind.i64.wrap (j:Int)=j:=IntWalk.i64_in _ bC9;have ch:=Int.natCast_nonneg j;exact And.intro co ch):p:=h
def BC (h:p:=by
 have U:Qb w Y:=by rw [<- F];exact bF
 have BX:Qr Y w.heap.size #[Qs cw x0 b6,Qn xc,Qs cz xe co,Qs dk x2 c8,Qs dj x3 di,Qs c5 x4 c4,Qs c3 x5 cm,Qn x6] 33:=sI;have BR:Qr Y (w.heap.size + 1) #[.slice none 0 0,Qn 0,.slice none 0 0,.slice none 0 0,.slice none 0 0,.slice none 0 0,.slice none 0 0,Qn 0] 33:=by rw [<- F];exact kG bD0
 have bd:w.heap.size + 2<=Y.heap.size:=bB1;exact And.intro U (And.intro BX (And.intro BR bd))):p:=h
def BF (h:p:=by
 have EB:Qb w N:=by rw [<- D];exact bF
 have G:Qd N w 0 (.slice U (n).length J):=tK;exact And.intro EB G):p:=h
def BG (h:p:=by
 have bk:=D.size;replace R:=D.kC R bC9;replace N:=N.trans D;exact And.intro bk (And.intro R N)):p:=h
def BH (h:p:=by
 have eo:Hid ((kD.slice 43 kH).rd w [Qs dk x2 c8] x2):=yD ⟨az,hx.2.2.2.1⟩;have gb:Hid (kN.rd w [Qn xc,Qs cz xe co] (xc,xe)):=yD ⟨a3,hx.2.2.1⟩;have a8:x2.length<=2000000:=Nat.le_trans hB.2.2.1.1 bC8;have em:=yD (show ∀ y∈x2,y.2.1.length<=2000000 from λy hy=>Nat.le_trans (hB.2.2.1.2 y hy).2.1 bC8);have d5:x3.length<=1048576:=hB.2.2.2.1.1;have ga:=kD.kAd az;exact And.intro eo (And.intro gb (And.intro a8 (And.intro em (And.intro d5 ga))))):p:=h
def BI (h:p:=by
 have dq:=yD (show zf now (x0,(xc,xe),x2,x3,x4,x5,x6) (k + 1)=((y1.foldl (λs r=>yK s y0 r.2.1) s),if mOk y0 x4 then kOb (kJy (x0,(xc,xe),P,(y1.foldl (λs r=>yK s y0 r.2.1) s),x4,m,x6) y0 0) (zX y0 x4) m else m) by rw [db.out];unfold zT;rw [if_neg du,if_neg ei]);have fq:decide (0<=idxOf (ja y0) P)=false:=bB0;exact And.intro dq fq):p:=h
def BJ (h:p:=by
 have bu:z<=16777216:=bC9;have bj:z<=n:=bC9;have c0:n<=16777216:=bC9;have b5:=yD hz;exact And.intro bu (And.intro bj (And.intro c0 b5))):p:=h
def BL (h:p:=by
 have V:Below wS.heap.size wS (World.alloc wS (.cells #[] 5)):=bR.alloc nL _;have bl:wS.heap.size + 1<=(World.alloc wS (.cells #[] 5)).heap.size:=(by simp);have RV:=((kD.kR.void (e:=5) (r:=kD.byte) (w:=(World.alloc wS (.cells #[] 5))) (a:=some ⟨wS.heap.size,0,none⟩) (S:=λ_=>False)).own (Nat.zero_le _)).rd;exact And.intro V (And.intro bl RV)):p:=h
def BM (h:p:=by
 have ak:j < n:=bC9;have b3:k < n:=bC9;have cq:(j:Int) < n:=bC9;have cw:(k:Int) < n:=bC9;have bp:=Int.natCast_nonneg k;have co:(j:Int) - 1=(k:Int):=bC9;have hw:IntKind.i64.wrap (k:Int)=k:=IntWalk.i64_in _ bC9;have hp:decide ((j:Int) > a)=true:=bC4;have b9:decide (a < j)=true:=bB9;have cf:(a:Int) < j:=bC9;have HY:=yD (λq=>(kYh (key:=key) hk D an aa q).symm.trans Y.out);have a4:=yD (λq=>(inner_no (key:=key) (a:=a) hk an aa q).symm.trans Y.out);exact And.intro ak (And.intro b3 (And.intro cq (And.intro cw (And.intro bp (And.intro co (And.intro hw (And.intro hp (And.intro b9 (And.intro cf (And.intro HY a4))))))))))):p:=h
def BP (h:p:=by
 have J:Hid (kU.own V [Qs a2 y.1 c2] y.1 (jX (w.heap.size + 1 + 1) V.heap.size)):=yD (O2.wide nD);have R:Qb w V:=F.trans (Below.mono (Below.trans bF ak) F.size);replace R0:=cL ak R0;replace F0:V.frozen? ⟨w.heap.size + 1,0,none⟩=false:=(ak.frozen (p:=⟨w.heap.size + 1,0,none⟩) (by have:=o.size;simp;omega)).trans F0;exact And.intro J (And.intro R (And.intro R0 F0))):p:=h
def BV (h:p:=by
 have bc:∀ q u,([.slice bn (x.1).length bo,.int .i64 x.2.1,.int .i64 x.2.2]:List Value)[q]?=some u->wS.cell? ⟨b,j * kY.n + q,none⟩=some u:=qH;have be:∀ q u,([.slice ac (y.1).length ay,.int .i64 y.2.1,.int .i64 y.2.2]:List Value)[q]?=some u->wS.cell? ⟨b,k * kY.n + q,none⟩=some u:=qP;exact And.intro bc be):p:=h
def C8 (h:p:=by
 have ah:Qd w8 w4 1 (.int .i64 kc):=kE BY rfl;have ad:Qd w8 w4 2 (.slice ce ye.length bh):=kE BY rfl;have am:Qd w8 w4 3 (.slice b6 y2.length bf):=kE BY rfl;have N:Qd w8 w4 4 (.slice b2 y3.length bn):=kE BY rfl;have J:Qd w8 w4 5 (.slice b1 x4.length bo):=kE BY rfl;have G:Qd w8 w4 6 (.slice b3 y5.length bp):=kE BY rfl;have D:Qd w8 w4 7 (.int .i64 x6):=kE BY rfl;exact And.intro ah (And.intro ad (And.intro am (And.intro N (And.intro J (And.intro G D)))))):p:=h
def C9 (h:p:=by
 have X:Qb w Y:=rM;have R:Qr Y w.heap.size #[.slice none 0 0] 40:=vB;have bd:w.heap.size + 1<=Y.heap.size:=bB1;exact And.intro X (And.intro R bd)):p:=h
def CB (h:p:=by
 replace BB:=kC BB hb;replace o:U.heap.size<=b/\b < v.heap.size:=⟨o.1,Nat.lt_of_lt_of_le o.2 hb.size⟩;exact And.intro BB o):p:=h
def CE (h:p:=by
 have EC:Qb wr wC:=rO;have M0:Qd wC wr 0 (.slice xa x.1.length xp):=tL;have M1:Qd wC wr 1 (.int .i64 x.2.1):=tL;have M2:Qd wC wr 2 (.int .i64 x.2.2):=tL;replace K0:=cL EC K0;exact And.intro EC (And.intro M0 (And.intro M1 (And.intro M2 K0)))):p:=h
def CF (h:p:=by
 have J:=yD h;have bb:=yD hn;have cc:Hid (Touch S w w):=yD (Touch.refl _ _);exact And.intro J (And.intro bb cc)):p:=h
def CG (h:p:=by
 have fh:=yD (show u=y1.foldl (λs r=>yK s y0 r.2.1) s by have h_:=HU.out;rwa [List.take_length] at h_);replace dq:=yD (show zf now (x0,(xc,xe),x2,x3,x4,x5,x6) (k + 1)=(u,if mOk y0 x4 then kOb (kJy (x0,(xc,xe),P,u,x4,m,x6) y0 0) (zX y0 x4) m else m) by rw [dq.out,<- fh.out]);exact And.intro fh dq):p:=h
def CJ (h:p:=by
 replace D:=(Touch.of_below (S:=λk=>k=p) (bR.alloc nL _)).trans D;have bv:=D.size;exact And.intro D bv):p:=h
def CK (h:p:=by
 have I:=λq=>idxOf_hit hlt q HN.out;have H:=λq=>kBx hlt q HN.out;exact And.intro I H):p:=h
def CL (h:p:=by
 have hne:=λq=>kCf hlt az q;have bx:=λq=>zW HN.out hlt az q;exact And.intro hne bx):p:=h
def CO (h:p:=by
 have HY:=yD (λe=>(kQl (p:=(λh=>!decide (Srt.yw key xs m < Srt.yw key xs h))) hlt hh e).symm.trans HB.out);have a4:=yD (λe=>(bs_no (p:=(λh=>!decide (Srt.yw key xs m < Srt.yw key xs h))) hlt hh e).symm.trans HB.out);have hl:h < xs.length:=vP;have ml:m < xs.length:=vP;have dc:(h:Int) < n:=bC9;have Y:(m:Int) < n:=bC9;exact And.intro HY (And.intro a4 (And.intro hl (And.intro ml (And.intro dc Y))))):p:=h
def CP (h:p:=by
 replace HK:=yD (HK.out.below hb);replace BX:=kC BX hb;replace R:=kC R hb;exact And.intro HK (And.intro BX R)):p:=h
def CQ (h:p:=by
 have HY:=yD (λe=>(kQl (p:=(λh=>decide (Srt.yw key xs h < Srt.yw key xs a))) hlt hh e).symm.trans HB.out);have a4:=yD (λe=>(bs_no (p:=(λh=>decide (Srt.yw key xs h < Srt.yw key xs a))) hlt hh e).symm.trans HB.out);have hl:h < xs.length:=vP;have al:a < xs.length:=vP;have dc:(h:Int) < n:=bC9;have c2:(a:Int) < n:=bC9;exact And.intro HY (And.intro a4 (And.intro hl (And.intro al (And.intro dc c2))))):p:=h
def CR (h:p:=by
 have ax:(prog.info? 77).map (·.size)=some 3:=fT;have N:∀ c∈([.slice bn (x.1).length bo,.int .i64 x.2.1,.int .i64 x.2.2]:List Value),c.oneCell'=true:=bS;have F:∀ c∈([.slice ac (y.1).length ay,.int .i64 y.2.1,.int .i64 y.2.2]:List Value),c.oneCell'=true:=bS;exact And.intro ax (And.intro N F)):p:=h
def CS (h:p:=by
 have EB:Qb w N:=rP;have K0:Qd N w 0 (.slice na n.length np):=tK;have bu:N.heap.size=w.heap.size + 1:=bB2;exact And.intro EB (And.intro K0 bu)):p:=h
def CU (h:p:=by
 have h6:U.heap.size<=b6/\b6 < v.heap.size:=⟨by omega,by omega⟩;replace E:=And.intro (E.1.trans (Touch.of_below hb)) (E.2.below hb);exact And.intro h6 E):p:=h
def CV (h:p:=by
 replace HK:=yD (HK.out.touch D (λk q h=>hS k q.1 h));replace BX:=D.kC BX bC9;replace R:=D.kC R bC9;exact And.intro HK (And.intro BX R)):p:=h
def CW (h:p:=by
 have EB:Qb w N:=by rw [<- D];exact bF
 have K0:Qd N w 0 (.slice aa a.length al):=tK;have K1:Qc N (w.heap.size + 1) 0 (.slice ab b.length X):=tK;exact And.intro EB (And.intro K0 K1)):p:=h
def CX (h:p:=by
 have D:=λ(q:u % 10=0)=>kOs (P:=prog) (w:=wr) (src:=22) (dst:=9) (z:=48) (x:=UInt8.ofNat (48 + u % 10)) (by rw [q];rfl) underlying22 underlying5 underlying9;have G:(⟨#[UInt8.ofNat (48 + u % 10)]⟩:ByteArray).size=1:=rfl;exact And.intro D G):p:=h
def CY (h:p:=by
 have HY:=yD (λe=>(kQl (p:=(λc=>!decide (Srt.yw key xs (N - 1 - c) < Srt.yw key xs c))) hlt hh e).symm.trans HB.out);have a4:=yD (λe=>(bs_no (p:=(λc=>!decide (Srt.yw key xs (N - 1 - c) < Srt.yw key xs c))) hlt hh e).symm.trans HB.out);exact And.intro HY a4):p:=h
def CZ (h:p:=by
 have H:Below u.heap.size u (u.alloc (.cells cx.toArray e)):=bR.alloc nL _;have hS:(slice e r).own u [.slice a len cap] xs (λk=>S k/\k < w.heap.size):=⟨(slice e r).mono ((slice e r).live hown.1) (λk hk=>hu.block k hk.2),hown.2⟩;exact And.intro H hS):p:=h
def D5 (h:p:=by
 have B0:=cL Y C0;have B1:=cL Y C1;have U:=cL Y C2;exact And.intro B0 (And.intro B1 U)):p:=h
def D6 (h:p:=by
 have aj:(kn:Int)<=l.length:=bC9;have ak:(kn:Int)<=cap:=bC9;have an:kn<=l.length:=bC9;have am:(l.length:Int)<=cap:=bC9;have ch:0 < l.length - kn:=bC9;exact And.intro aj (And.intro ak (And.intro an (And.intro am ch)))):p:=h
def D7 (h:p:=by
 have EC:Qb wr wC:=rO;have M0:Qd wC wr 0 (.slice ac x.1.1.length ay):=tL;have M1:Qd wC wr 1 (.slice ai x.1.2.1.length bc):=tL;have M2:Qd wC wr 2 (.slice am x.1.2.2.1.length bu):=tL;have M3:Qd wC wr 3 (.int .i64 x.1.2.2.2.1):=tL;have M4:Qd wC wr 4 (.int .i64 x.1.2.2.2.2):=tL;have M5:Qd wC wr 5 (.int .i64 x.2):=tL;exact And.intro EC (And.intro M0 (And.intro M1 (And.intro M2 (And.intro M3 (And.intro M4 M5)))))):p:=h
def D8 (h:p:=by
 have ch:=Int.natCast_nonneg j;have bp:=Int.natCast_nonneg k;have cq:(j:Int) < n:=vN;have cw:(k:Int) < n:=vN;have b9:(a:Int) + (i:Int)=(j:Int):=bC9;have bt:(z:Int) + (i:Int)=(k:Int):=bC9;have H:j<=16777216:=bC9;have R:k<=16777216:=bC9;have co:IntKind.i64.wrap (j:Int)=j:=IntWalk.i64_in _ bC9;have bq:IntKind.i64.wrap (k:Int)=k:=IntWalk.i64_in _ bC9;exact And.intro ch (And.intro bp (And.intro cq (And.intro cw (And.intro b9 (And.intro bt (And.intro H (And.intro R (And.intro co bq))))))))):p:=h
def D9 (h:p:=by
 have bw:=an.size;replace J:=yD ((J.out.below an).wide (T:=jX w.heap.size w4.heap.size) qU);exact And.intro bw J):p:=h
def DC (h:p:=by
 have hT:Touch (λk=>k=w.heap.size + 1) t2 t3:=(by rw [<- F];exact sT4);replace RT:Qr t3 (w.heap.size + 1) #[Qs a7 t.1 b8,Qs bx t.2.1 cw,Qs be t.2.2.1 cz,Qs cl t.2.2.2 co] 84:=(by rw [<- F];exact kK (kK (kK (kK (RT) 0) 1) 2) 3);have fj:=hT.size;exact And.intro hT (And.intro RT fj)):p:=h
def DD (h:p:=by
 replace O0:=cL E5.out O0;replace Z0:=(E5.out.frozen (p:=⟨b,kn * 3,none⟩) HB.out).trans Z0;replace O1:=cL E5.out O1;replace Z1:=(E5.out.frozen (p:=⟨b,kn * 3 + 1,none⟩) HB.out).trans Z1;replace O2:=cL E5.out O2;replace Z2:=(E5.out.frozen (p:=⟨b,kn * 3 + 2,none⟩) HB.out).trans Z2;exact And.intro O0 (And.intro Z0 (And.intro O1 (And.intro Z1 (And.intro O2 Z2))))):p:=h
def DF (h:p:=by
 have HL:=yD hl;have HN:=yD hn;have a5:l.length<=16777216:=hl.2.1;exact And.intro HL (And.intro HN a5)):p:=h
def DI (h:p:=by
 have c6:IntKind.i64.wrap (ma:Int)=ma:=IntWalk.i64_in _ bC9;have dr:IntKind.i64.wrap (zm:Int)=zm:=IntWalk.i64_in _ bC9;have X:IntKind.i64.wrap (N:Int)=N:=IntWalk.i64_in _ bC9;have cq:=Int.natCast_nonneg mid;have d0:=Int.natCast_nonneg N;have d7:(N:Int)<=33554432:=bC9;have b7:a < mid:=bC9;have dk:mid < z:=bC9;exact And.intro c6 (And.intro dr (And.intro X (And.intro cq (And.intro d0 (And.intro d7 (And.intro b7 dk))))))):p:=h
def DJ (h:p:=by
 replace BR:=kC BR ak;replace J:=yD (J.out.below ak);replace U:=(tQ U ak);exact And.intro BR (And.intro J U)):p:=h
def DK (h:p:=by
 have ag:k < on:=bC9;have bt:(0:Int)<=k:=bC9;have bx:(k:Int) < on:=bC9;have bf:=yD (J.out.own a5);exact And.intro ag (And.intro bt (And.intro bx bf))):p:=h
def DL (h:p:=by
 have EB:Qb w N:=by rw [<- D];exact bF
 have J:Qd N w 0 (.slice aa (x.1).length R):=tK;have I:Qd N w 1 (.slice aj (x.2.1).length ah):=tK;have o:Qd N w 2 (.slice ag (x.2.2.1).length X):=tK;have Y:Qd N w 3 (.int .i64 x.2.2.2.1):=tK;have ai:Qd N w 4 (.int .i64 x.2.2.2.2):=tK;exact And.intro EB (And.intro J (And.intro I (And.intro o (And.intro Y ai))))):p:=h
def DN (h:p:=by
 have c5:¬ (q:Int) < q:=bC9;have HE:=yD ((kQm (p:=(λh=>!decide (Srt.yw key xs m < Srt.yw key xs h))) (i:=q) (j:=q) bC9).symm.trans HB.out);have G:Hid (Srt.symm key (f + 1) a m z xs=Srt.down q m xs):=yD (by rw [HF.out,<- HE.out]);exact And.intro c5 (And.intro HE G)):p:=h
def DR (h:p:=by
 have EB:Qb w N:=by rw [<- D];exact bF
 have af:Qd N w 0 (.slice aa (x.1).length R):=tK;have J:Qd N w 1 (.slice aj (x.2.1).length ah):=tK;have I:Qd N w 2 (.slice ag (x.2.2.1).length X):=tK;have o:Qd N w 3 (.int .i64 x.2.2.2.1):=tK;have O:Qd N w 4 (.int .i64 x.2.2.2.2):=tK;exact And.intro EB (And.intro af (And.intro J (And.intro I (And.intro o O))))):p:=h
def DT (h:p:=by
 have E1:=(tQ EB O);have bq:=O.size;have J:=yD (O1.wide (T:=jX w.heap.size Y.heap.size) qV);exact And.intro E1 (And.intro bq J)):p:=h
def DU (h:p:=by
 have cv:=D.size;replace Z:=Z.jh D gZ;replace BN:=D.kC BN bC9;replace HR:=yD (HR.out.touch D nH);exact And.intro cv (And.intro Z (And.intro BN HR))):p:=h
def DV (h:p:=by
 have ED:Qb wT wD:=rG;have bn:=ED.size;have D0:Qd wD wT 0 (.slice a7 x.1.1.length br):=tC;have D1:Qd wD wT 1 (.slice bx x.1.2.1.length b9):=tC;have D2:Qd wD wT 2 (.slice be x.1.2.2.1.length a8):=tC;have D3:Qd wD wT 3 (.int .i64 x.1.2.2.2.1):=tC;have D4:Qd wD wT 4 (.int .i64 x.1.2.2.2.2):=tC;exact And.intro ED (And.intro bn (And.intro D0 (And.intro D1 (And.intro D2 (And.intro D3 D4)))))):p:=h
def DW (h:p:=by
 have hr:i∈Region.ready .any l.toArray listed:=vV;have bu:q.all (λx=>decide (x.1 < n) && !D.contains x.1)=true:=dI;exact And.intro hr bu):p:=h
def DX (h:p:=by
 have ev:=E.1.size;have RS:=E.1.kC BN bC9;have ad:Qc O R 0 (.slice a0 x0.length c0):=kE RS rfl;have aj:O.frozen? ⟨R,0,none⟩=false:=frozen_of_row O (R) 0 _ _ RS;have an:Qc O R 1 (.int .i64 kc):=kE RS rfl;have al:O.frozen? ⟨R,1,none⟩=false:=frozen_of_row O (R) 1 _ _ RS;exact And.intro ev (And.intro RS (And.intro ad (And.intro aj (And.intro an al))))):p:=h
def DY (h:p:=by
 have bu:q.all (λx=>decide (x.1 < n) && !D.contains x.1)=true:=dI;have hil:i < l.toArray.size:=Nat.lt_trans hi.1.1 hn;exact And.intro bu hil):p:=h
def DZ (h:p:=by
 have a5:Qc w5 (w.heap.size + 2) 1 (.slice none 0 0):=kE BR rfl;have b8:Qc w5 (w.heap.size + 2) 2 (.slice none 0 0):=kE BR rfl;have b5:Qc w5 (w.heap.size + 2) 3 (.int .i64 0):=kE BR rfl;have ca:Qc w5 (w.heap.size + 2) 4 (.int .i64 0):=kE BR rfl;exact And.intro a5 (And.intro b8 (And.intro b5 ca))):p:=h
def EE (h:p:=by
 have XR:Qr N (w.heap.size + 1) #[.slice none 0 0,Qn 0,.slice none 0 0,.slice none 0 0,.slice none 0 0,.slice none 0 0,.slice none 0 0,Qn 0] 33:=by rw [<- D];exact kG bD0
 have bu:N.heap.size=w.heap.size + 2:=bB2;exact And.intro XR bu):p:=h
def EF (h:p:=by
 have bc:∀ q u,([.int .i64 x]:List Value)[q]?=some u->wS.cell? ⟨b,j * kD.int.n + q,none⟩=some u:=tJ;have be:∀ q u,([.int .i64 y]:List Value)[q]?=some u->wS.cell? ⟨b,k * kD.int.n + q,none⟩=some u:=tV;exact And.intro bc be):p:=h
def EG (h:p:=by
 have EB:Qb w N:=by rw [<- D];exact bF
 have V:Qd N w 0 (.slice U (n).length J):=tK;exact And.intro EB V):p:=h
def EH (h:p:=by
 have G:cells.length=m * i.size:=by rw [hsize,d9,hm]
 have O:cur.toList.length=p.length + (cs.length + tl.length):=by rw [g2];simp
 have al:cur.size=p.length + (cs.length + tl.length):=by rw [<- O,Array.length_toList]
 exact And.intro G (And.intro O al)):p:=h
def EI (h:p:=by
 have b2:Touch (λk=>k=V.heap.size) w6 w7:=vU;replace BO:Qr w7 V.heap.size #[Qs cc x0 ck,Qn xc,Qs ea ev ep,Qs pa P pc,Qs sa s sc,Qs dd x4 df,Qs ma m mc,Qn x6] 33:=by rw [<- F];exact kK (kK (BO) 1) 2
 have dp:=b2.size;exact And.intro b2 (And.intro BO dp)):p:=h
def EJ (h:p:=by
 have cz:(q:Int) - 1=(t:Int):=bC9;have V:a<=t:=bC9;have ar:IntKind.i64.wrap (t:Int)=t:=IntWalk.i64_in _ bC9;have ak:t + 1<=z:=bC9;have D:(t:Int) < n:=bC9;have G:Hid (Srt.symm key (f + 1) a m z xs=Srt.up (t - a) a xs):=yD (by rw [HF.out,<- HE.out,ht]);exact And.intro cz (And.intro V (And.intro ar (And.intro ak (And.intro D G))))):p:=h
def EK (h:p:=by
 have E3:Qb w v3:=by rw [<- E];exact (F3.setCell pG _)
 have aq:Hid (v3.heap.size=w3.heap.size):=yD rH;replace F:=yD (kD.own.out (w':=v3) F.out bV);replace R:=yD (kD.own.out (w':=v3) R.out bV);replace ai:=yD (kD.own.out (w':=v3) ai.out bV);exact And.intro E3 (And.intro aq (And.intro F (And.intro R ai)))):p:=h
def EL (h:p:=by
 have V:=Z.skip;have br:=yD (kHn hil hno);have af:=yD (kBl (p:=λy=>!p y) hil (by simp [hyes]));have ad:=yD Z.mem;have R:=Z.len;exact And.intro V (And.intro br (And.intro af (And.intro ad R)))):p:=h
def EM (h:p:=by
 replace BB:=kC BB hb;replace o:wr.heap.size<=b/\b < v.heap.size:=⟨o.1,Nat.lt_of_lt_of_le o.2 hb.size⟩;exact And.intro BB o):p:=h
def EN (h:p:=by
 have bt:Touch (λk=>k=V.heap.size) w4 w5:=vO;replace BO:Qr w5 V.heap.size #[Qs cc x0 ck,Qn xc,Qs c9 xe dh,Qs pa P pc,Qs e3 x3 e0,Qs dd x4 df,Qs ez x5 e6,Qn x6] 33:=by rw [<- F];exact kK BO 3
 have bv:=bt.size;exact And.intro bt (And.intro BO bv)):p:=h
def EO (h:p:=by
 have bj:=E.size;have bi:=EC.size;have aw:=o.size;have bo:=aq.size;have ab:Qb wr wS:=(tQ ER E);replace J:=yD (J.out.below ab);have O:=(tQ o ab);exact And.intro bj (And.intro bi (And.intro aw (And.intro bo (And.intro ab (And.intro J O)))))):p:=h
def EP (h:p:=by
 replace R:=D.kC R bC9;replace B:=D.kC B bC9;exact And.intro R B):p:=h
def ES (h:p:=by
 have EB:Qb w N:=by rw [<- D];exact bF
 have ax:N.heap.size=w.heap.size + 2:=bB2;have K0:Qd N w 0 (.slice an n.length G):=tK;have K1:Qc N (w.heap.size + 1) 0 (.slice none 0 0):=tK;have F1:N.frozen? ⟨w.heap.size + 1,0,none⟩=false:=tK;exact And.intro EB (And.intro ax (And.intro K0 (And.intro K1 F1)))):p:=h
def EU (h:p:=by
 have X:Qb w Y:=rM;have R:Qr Y w.heap.size #[.slice none 0 0,Qn 0,.slice none 0 0,.slice none 0 0,.slice none 0 0,.slice none 0 0,.slice none 0 0,Qn 0] 33:=vB;have bd:w.heap.size + 1<=Y.heap.size:=bB1;exact And.intro X (And.intro R bd)):p:=h
def EW (h:p:=by
 have ak:Qb V w3:=rM;have B:Qr w3 V.heap.size #[.slice a n c] 40:=vB;have bl:V.heap.size + 1<=w3.heap.size:=bB1;exact And.intro ak (And.intro B bl)):p:=h
def EX (h:p:=by
 have ak:¬ (m:Int) - (a:Int)=1:=bC9;have ar:(((m - a:Nat):Int)==1)=false:=bC4;exact And.intro ak ar):p:=h
def EY (h:p:=by
 have ca:=EC.size;have bx:w.heap.size + 1<=V.heap.size:=by simpa using a6
 have E2:Qb w wC:=Below.trans (bR.alloc nL _) ((ak.trans (EC.mono a6)).mono bD0);replace U:=kC U EC;replace HD:=yD (λq=>(HD.out q).below EC);have R:=cL EC ax;have K5:=kE B5 (j:=0) rfl;exact And.intro ca (And.intro bx (And.intro E2 (And.intro U (And.intro HD (And.intro R K5)))))):p:=h
def EZ (h:p:=by
 replace HB:Hid ((kD.slice 5 kD.byte).ji v [Qs ba Z bc] Z (Ql U v b)):=yD ((HB.out.below hb).wide dD);replace HK:Hid (kU.ji v [Qs ka ks kc] ks (Ql U v b)):=yD ((HK.out.below hb).wide dD);exact And.intro HB HK):p:=h
def F8 (h:p:=by
 have M1:Qd wC wr 1 (.int .i64 x1):=tL;have M2:Qd wC wr 2 (.int .i64 x2):=tL;exact And.intro M1 M2):p:=h
def F9 (h:p:=by
 have EB:Qb w N:=by rw [<- D];exact bF
 have K5:Qd N w 5 (.slice c5 x.2.2.2.2.1.length c4):=tK;have K6:Qd N w 6 (.slice c3 x.2.2.2.2.2.1.length cm):=tK;have R:Qc N (w.heap.size + 1) 0 (.slice na n.length np):=tK;exact And.intro EB (And.intro K5 (And.intro K6 R))):p:=h
def FB (h:p:=by
 have an:Hid (x.1.length<=Big):=yD X.1;have a1:Hid (x.2.2.1.length<=Big):=yD q2.1;have ah:Hid (x.2.2.2.1.length<=Big):=yD q3.1;have ag:Hid (x.2.2.2.2.1.length<=Big):=yD q4.1;have al:Hid (x.2.2.2.2.2.1.length<=Big):=yD q5.1;exact And.intro an (And.intro a1 (And.intro ah (And.intro ag al)))):p:=h
def FC (h:p:=by
 have A0:=(G.cell (p:=⟨w.heap.size,0,none⟩) rY).trans ao;have A1:=(G.cell (p:=⟨w.heap.size,1,none⟩) rY).trans ah;have A2:=(G.cell (p:=⟨w.heap.size,2,none⟩) rY).trans aj;have Y:=EB.trans (G.mono bC9);exact And.intro A0 (And.intro A1 (And.intro A2 Y))):p:=h
def FD (h:p:=by
 have A0:=(E.cell (p:=⟨w.heap.size,0,none⟩) rY).trans ao;have A1:=(E.cell (p:=⟨w.heap.size,1,none⟩) rY).trans ah;have A2:=(E.cell (p:=⟨w.heap.size,2,none⟩) rY).trans aj;have Y:=EB.trans (E.mono bC9);exact And.intro A0 (And.intro A1 (And.intro A2 Y))):p:=h
def FE (h:p:=by
 have RR:Hid ((kD.slice 77 kY).rd w [Qs c5 x.2.2.2.2.1 c4] x.2.2.2.2.1):=yD ⟨bm,q5⟩;have RM:Hid ((kD.slice 108 kL).rd w [Qs c3 x.2.2.2.2.2.1 cm] x.2.2.2.2.2.1):=yD ⟨bz,q6⟩;exact And.intro RR RM):p:=h
def FH (h:p:=by
 have cc:(F:Int)<=16777216:=bC9;have ai:(D:Int)<=16777216:=bC9;have bu:=Int.natCast_nonneg F;have br:=Int.natCast_nonneg D;have co:IntKind.i64.wrap (F:Int)=F:=IntWalk.i64_in _ bC9;have bq:IntKind.i64.wrap (D:Int)=D:=IntWalk.i64_in _ bC9;exact And.intro cc (And.intro ai (And.intro bu (And.intro br (And.intro co bq))))):p:=h
def FI (h:p:=by
 have am:=yD (show zf now (x0,(xc,xe),x2,x3,x4,x5,x6) (k + 1)=(u,kHj (zX y0 x4) f0 m) by rw [dq.out,dm];rfl);have e9:(0:Int) < (f0 :: fr).length:=qZ;have da:(f0 :: fr).length=fr.length + 1:=bD0;exact And.intro am (And.intro e9 da)):p:=h
def FJ (h:p:=by
 have zv:=D.size;replace HB:Hid ((kD.slice 5 kD.byte).ji v [Qs ba Z bc] Z (Ql U v p)):=yD ((HB.out.touch D rZ).wide (λk q=>⟨q.1,Nat.lt_of_lt_of_le q.2.1 D.size,q.2.2⟩));exact And.intro zv HB):p:=h
def FK (h:p:=by
 have zv:=D.size;have ck:=o.2;replace HB:Hid ((kD.slice 5 kD.byte).ji v [Qs ba Z bc] Z (Ql U v b)):=yD ((HB.out.touch D rZ).wide (λk q=>⟨q.1,Nat.lt_of_lt_of_le q.2.1 D.size,q.2.2⟩));exact And.intro zv (And.intro ck HB)):p:=h
def FL (h:p:=by
 replace HR:=yD (HR.out.touch hT nH);replace HP:=yD (HP.out.touch hT nH);exact And.intro HR HP):p:=h
def FM (h:p:=by
 replace ar:Hid (kU.ji v [Qs J n1 U] n1 (Ql wr v b)):=yD ((ar.out.below hb).wide dD);replace a7:Hid (kU.ji v [Qs ak n2 ao] n2 (Ql wr v b)):=yD ((a7.out.below hb).wide dD);exact And.intro ar a7):p:=h
def FN (h:p:=by
 have bj:=E.size;have O:=(tQ ab E);have XW:=kC XV.out O;have ak:=o.trans (O.mono bC9);replace J:=yD (J.out.below O);exact And.intro bj (And.intro O (And.intro XW (And.intro ak J)))):p:=h
def FO (h:p:=by
 have ak:Qb V w3:=rM;have BO:Qr w3 V.heap.size #[Qs cc x0 ck,Qn xc,Qs c9 xe dh,Qs f3 x2 f5,Qs e3 x3 e0,Qs dd x4 df,Qs ez x5 e6,Qn x6] 33:=vB;have bl:V.heap.size + 1<=w3.heap.size:=bB1;exact And.intro ak (And.intro BO bl)):p:=h
def FP (h:p:=by
 have bg:O.frozen? ⟨R,3,none⟩=false:=frozen_of_row O (R) 3 _ _ RS;have bm:Qc O R 4 (.slice a3 0 c3):=kE RS rfl;have bi:O.frozen? ⟨R,4,none⟩=false:=frozen_of_row O (R) 4 _ _ RS;exact And.intro bg (And.intro bm bi)):p:=h
def FQ (h:p:=by
 have BR:Qr Y (w.heap.size + 2) #[.slice none 0 0,.slice none 0 0,.slice none 0 0,Qn 0,Qn 0] 68:=by rw [<- F];exact kG bD0
 have bd:w.heap.size + 3<=Y.heap.size:=bB1;exact And.intro BR bd):p:=h
def FT (h:p:=by
 have ax:(prog.info? 3).map (·.size)=some 1:=fQ;have N:∀ c∈([.int .i64 x]:List Value),c.oneCell'=true:=cK;have F:∀ c∈([.int .i64 y]:List Value),c.oneCell'=true:=cK;exact And.intro ax (And.intro N F)):p:=h
def FU (h:p:=by
 have E2:Qb w v2:=by rw [<- E];exact (F2.setCell pG _)
 have ab:Hid (v2.heap.size=V.heap.size):=yD rH;replace F:=yD (kD.own.out (w':=v2) F.out cO);replace R:=yD (kD.own.out (w':=v2) R.out cO);exact And.intro E2 (And.intro ab (And.intro F R))):p:=h
def FV (h:p:=by
 have ab:=(tQ aq ED);have XS:=kC XV.out ab;have M0:=kE XS (j:=0) (v:=.int .i64 c) rfl;have M1:=kE XS (j:=1) rfl;replace L0:=cL ab L0;replace L1:=cL ab L1;replace a3:=cL ab a3;have FX:=yD (λ(W:World) (hW:Qb wD W)=>cLs10 hW L0 L1 M0 M1 a3 D0 D1 D2 D3 D4);exact And.intro ab (And.intro XS (And.intro M0 (And.intro M1 (And.intro L0 (And.intro L1 (And.intro a3 FX))))))):p:=h
def FW (h:p:=by
 have da:O.frozen? ⟨R,6,none⟩=false:=frozen_of_row O (R) 6 _ _ RS;have dc:Qc O R 7 (.int .i64 0):=kE RS rfl;have dh:O.frozen? ⟨R,7,none⟩=false:=frozen_of_row O (R) 7 _ _ RS;exact And.intro da (And.intro dc dh)):p:=h
def FY (h:p:=by
 have EC:Qb wT wC:=rO;have K0:Qd wC wT 0 (.slice a7 x0.length br):=tL;exact And.intro EC K0):p:=h
def FZ (h:p:=by
 have EC:Qb wV wC:=rO;have ca:wV.heap.size<=wC.heap.size:=EC.size;have a9:Qd wC wV 0 (.int .i64 f):=tL;have a8:Qd wC wV 1 (.int .i64 x1):=tL;have a6:Qd wC wV 2 (.int .i64 y3):=tL;have E6:=(tQ E5 EC);have a2:=yD (bc.out.below EC);replace af:=cL EC af;exact And.intro EC (And.intro ca (And.intro a9 (And.intro a8 (And.intro a6 (And.intro E6 (And.intro a2 af))))))):p:=h
def G5 (h:p:=by
 have A0:Qc wr b (m * 3) c0:=U 0 c0 rfl;have A1:Qc wr b (m * 3 + 1) c1:=U 1 c1 rfl;have A2:Qc wr b (m * 3 + 2) c2:=U 2 c2 rfl;have o:∀ q,q < 3->kn * 3 + q < cap * 3:=by intro q hq;omega
 exact And.intro A0 (And.intro A1 (And.intro A2 o))):p:=h
def G6 (h:p:=by
 have zv:=hb.size;replace ar:Hid (kU.ji v [Qs J n1 U] n1 (Ql wr v au)):=yD ((ar.out.below hb).wide (λk q=>⟨q.1,Nat.lt_of_lt_of_le q.2.1 hb.size,q.2.2⟩));exact And.intro zv ar):p:=h
def G7 (h:p:=by
 replace av:=cL E av;replace b2:=cL E b2;replace bz:=cL E bz;replace ad:=cL E ad;replace bk:=cL E bk;replace bl:=cL E bl;exact And.intro av (And.intro b2 (And.intro bz (And.intro ad (And.intro bk bl))))):p:=h
def G8 (h:p:=by
 replace J:=yD (J.out.below aq);replace hc:=hc.below aq;replace N:=N.trans (Touch.of_below aq);exact And.intro J (And.intro hc N)):p:=h
def G9 (h:p:=by
 have zv:=hb.size;have ck:=o.2;replace ar:Hid (kU.ji v [Qs J n1 U] n1 (Ql wr v b)):=yD ((ar.out.below hb).wide (λk q=>⟨q.1,Nat.lt_of_lt_of_le q.2.1 hb.size,q.2.2⟩));exact And.intro zv (And.intro ck ar)):p:=h
def GA (h:p:=by
 replace hO:jr.ji _ [Qs a0 x0 c0,Qn kc,Qs a1 xe c1,Qs a2 x2 c2,Qs a3 x3 c3,Qs a4 x4 c4,Qs a5 x5 c5,Qn x6] (x0,(kc,xe),x2,x3,x4,x5,x6) _:=hO;have J:=yD hO;exact And.intro hO J):p:=h
def GD (h:p:=by
 replace BT:=hT.kC BT bC9;replace J:=yD (J.out.touch hT nH);replace L:=yD (L.out.touch hT nH);exact And.intro BT (And.intro J L)):p:=h
def GG (h:p:=by
 have hd:decide ((y.1.length:Int) < x.1.length)=false:=wX;have aq:decide ((x.1.length:Int) > y.1.length)=false:=wX;have ac:decide (y.1.length < x.1.length)=false:=wX;replace K0:=cL o K0;exact And.intro hd (And.intro aq (And.intro ac K0))):p:=h
def GH (h:p:=by
 have c1:¬ (a:Int) < j:=bC9;have hp:decide ((j:Int) > a)=false:=bC4;have b9:decide (a < j)=false:=bB9;have I:Hid (cu=Srt.inner key a i cur):=yD ((kVk (key:=key) D).symm.trans Y.out);exact And.intro c1 (And.intro hp (And.intro b9 I))):p:=h
def GI (h:p:=by
 have ul:u < xs.length:=vP;have hl:h < xs.length:=vP;have dc:(h:Int) < n:=bC9;have d5:(u:Int) < n:=bC9;have eb:(N1:Int) - (h:Int)=(u:Int):=bC9;have d2:=Int.natCast_nonneg u;have d4:IntKind.i64.wrap (u:Int)=u:=IntWalk.i64_in _ bC9;exact And.intro ul (And.intro hl (And.intro dc (And.intro d5 (And.intro eb (And.intro d2 d4)))))):p:=h
def GJ (h:p:=by
 have c5:¬ (q:Int) < q:=bC9;have HE:=yD ((kQm (p:=(λc=>!decide (Srt.yw key xs (N - 1 - c) < Srt.yw key xs c))) (i:=q) (j:=q) bC9).symm.trans HB.out);exact And.intro c5 HE):p:=h
def GK (h:p:=by
 have hd:decide ((b.length:Int)<=a.length)=false:=wW;have ac:decide (b.length<=a.length)=false:=wW;have L:=yD (prefN_no hc);have FX:=yD (λ(W:World) (hW:Qb N W)=>kIk hW K0 K1);exact And.intro hd (And.intro ac (And.intro L FX))):p:=h
def GL (h:p:=by
 have bk:=λq=>kCw (p:=λy=>!p y) hlt q;have da:=λq=>kBl (p:=λy=>!p y) hlt q;exact And.intro bk da):p:=h
def GM (h:p:=by
 have ac:decide (b.length<=a.length)=true:=wW;have bc:(b.length:Int)<=a.length:=bC9;have G:(b.length:Int)<=al:=bC9;have L:=yD (kXx hc);have FX:=yD (λ(W:World) (hW:Qb N W)=>kIk hW K0 K1);exact And.intro ac (And.intro bc (And.intro G (And.intro L FX)))):p:=h
def GN (h:p:=by
 have cg:=Int.natCast_nonneg a;have c4:(a:Int) < m:=bC9;have c3:(m:Int) < z:=bC9;have ck:(z:Int)<=16777216:=bC9;have b9:(m:Int) - (a:Int)=((m - a:Nat):Int):=bC9;have bt:(z:Int) - (m:Int)=((z - m:Nat):Int):=bC9;exact And.intro cg (And.intro c4 (And.intro c3 (And.intro ck (And.intro b9 bt))))):p:=h
def GQ (h:p:=by
 replace D:=(Touch.of_below (S:=λk=>k=p) (bR.alloc nL _)).trans D;have bw:=D.size;exact And.intro D bw):p:=h
def GR (h:p:=by
 have EB:Qb w N:=by rw [<- D];exact bF
 have K0:Qd N w 0 (.slice na n.length np):=tK;exact And.intro EB K0):p:=h
def GU (h:p:=by
 have ad:Qd wS1 w 0 af:=kE RS rfl;have aj:wS1.frozen? ⟨w.heap.size,0,none⟩=false:=frozen_of_row wS1 (w.heap.size) 0 _ _ RS;have an:Qd wS1 w 1 ah:=kE RS rfl;exact And.intro ad (And.intro aj an)):p:=h
def GV (h:p:=by
 have X:Qb w Y:=rM;have R:Qr Y w.heap.size #[.slice none 0 0,.slice none 0 0,.slice none 0 0,Qn 0,Qn 0] 68:=vB;have bd:w.heap.size + 1<=Y.heap.size:=bB1;exact And.intro X (And.intro R bd)):p:=h
def GX (h:p:=by
 have c5:¬ (q:Int) < q:=bC9;have HE:=yD ((kQm (p:=(λh=>decide (Srt.yw key xs h < Srt.yw key xs a))) (i:=q) (j:=q) bC9).symm.trans HB.out);exact And.intro c5 HE):p:=h
def GY (h:p:=by
 have aw:=yD ag;have X:=yD hg;have O:=yD h;have bb:=yD hn;have ae:Hid (Srt.stable key xs=Srt.passes key n (n + 1) 20 (Srt.blocks key n (n + 1) 0 xs)):=yD (by rw [hn];rfl);have c0:n<=16777216:=bC9;exact And.intro aw (And.intro X (And.intro O (And.intro bb (And.intro ae c0))))):p:=h
def GZ (h:p:=by
 have HA:=yD ha;have D:=λ(W:World) (a:Option Addr) (n c:Nat)=>Lib.run_eql_slice_nil (P:=prog) W 41 45 a n c 0 0 underlying41;exact And.intro HA D):p:=h
def H7 (h:p:=by
 have K0:Qd V w 0 (.slice an n.length G):=(o.cell (p:=⟨w.heap.size,0,none⟩) bD0).trans bB6;have F:Qb w V:=Below.trans bF (o.mono qX);exact And.intro K0 F):p:=h
def H8 (h:p:=by
 have aw:Z.length<=4:=bC9;have HB:Hid ((kD.slice 5 kD.byte).ji v [Qs ba Z bc] Z (Ql U v b)):=yD (hO.ji.wide gK);replace E:=And.intro (E.1.trans D) G;exact And.intro aw (And.intro HB E)):p:=h
def H9 (h:p:=by
 have aw:Z.length<=4:=bC9;have HB:Hid ((kD.slice 5 kD.byte).ji v [Qs ba Z bc] Z (Ql U v p)):=yD (hO.ji.wide gK);replace E:=And.intro (E.1.trans D) G;exact And.intro aw (And.intro HB E)):p:=h
def HV (h:p:=by
 have cg:=Int.natCast_nonneg a;have bx:=Int.natCast_nonneg z;exact And.intro cg bx):p:=h
def I1 (h:p:=by
 have dn:(N:Int) - 1=(N1:Int):=bC9;have dm:IntKind.i64.wrap (N1:Int)=N1:=IntWalk.i64_in _ bC9;have dp:=Int.natCast_nonneg N1;have dy:=Int.natCast_nonneg lo;have du:(hi:Int)<=m:=bC9;exact And.intro dn (And.intro dm (And.intro dp (And.intro dy du)))):p:=h
def I4 (h:p:=by
 have dv:m * r.n=cells.length:=by rw [G,hsize]
 have Y:off + xs.length * i.size=(p++cs).length:=by rw [List.length_append,g3,ag,hsize]
 exact And.intro dv Y):p:=h
def I5 (h:p:=by
 have hb:=dig_int (u:=u);have H:=kOs (P:=prog) (w:=wr) (src:=22) (dst:=9) hb underlying22 underlying5 underlying9;exact And.intro hb H):p:=h
def I6 (h:p:=by
 have EB:Qb w N:=by rw [<- D];exact bF
 have G:Qd N w 0 (.slice I (m.1).length R):=tK;have ad:Qd N w 1 (.int .i64 m.2.1):=tK;have af:Qd N w 2 (.int .i64 m.2.2):=tK;exact And.intro EB (And.intro G (And.intro ad af))):p:=h
def I7 (h:p:=by
 have F:=(tQ EB o);have R0:=cL o K1;have F0:wr.frozen? ⟨w.heap.size + 1,0,none⟩=false:=(o.frozen (p:=⟨w.heap.size + 1,0,none⟩) bC4).trans F1;exact And.intro F (And.intro R0 F0)):p:=h
def I8 (h:p:=by
 have E1:Qb w v1:=by rw [<- E];exact (F1.setCell pG _)
 have aa:Hid (v1.heap.size=Y.heap.size):=yD rH;replace F:=yD (kD.own.out (w':=v1) F.out dF);exact And.intro E1 (And.intro aa F)):p:=h
def I9 (h:p:=by
 have bt:Touch (λk=>k=V.heap.size) w4 w5:=vO;replace B:Qr w5 V.heap.size #[.slice (some ⟨w3.heap.size,0,none⟩) 1 1] 40:=vG;have bv:=bt.size;exact And.intro bt (And.intro B bv)):p:=h
def IA (h:p:=by
 have hno:=λq=>(mB_no (n:=n) hlt q).trans HM.out;have au:=λq q2=>mB_up (n:=n) hlt q I HM.out q2;have ae:=λq2=>mB_keep (n:=n) hlt I HM.out q2;exact And.intro hno (And.intro au ae)):p:=h
def aA (h:p:=by
 have hlt:b < w.heap.size:=by
  rcases Nat.lt_or_ge b w.heap.size with q | q
  · exact q
  unfold World.cell? at k;simp [Array.getElem?_eq_none q] at k
 have e:=h.block b hlt hb;unfold World.cell? at k ⊢;simp only at k ⊢;rw [e];exact k):p:=h
def aB (h:p:=by
 have HQ:=yD (jAg hv);clear hv;go_wp2_with fail;refine (kDb (HL.out.below G)).mono ?_;rintro e w8 ⟨v8,rfl,O8,ay⟩;have bp:=yD (O8.cast HQ.out.1.symm);clear O8;go_wp2;go_ret2;exact ⟨v8,by rw [HQ.out.2];rfl,(bp.out.own (by rw [HQ.out.1];exact a5)).wide qV,(tQ G ay)⟩):p:=h
def aC (h:p:=by
 have L:=yD (show kEl (y0,y1,y2,y3,y4) t (xc,xe)=(xc,Z) from (kRv dx.out).trans dE);obtain ⟨G,o⟩:=yT BO;obtain ⟨a4,a5⟩:=yT BR;obtain ⟨bh,bf⟩:=kCm BR;go_wp2;refine bodyPost_ret (v:=.agg #[Qn xc,Qs ga Z gc]) gM rfl ⟨[Qn xc,Qs ga Z gc],rfl,?_,?_⟩
 · rw [L.out];exact ((show kN.own _ _ (xc,Z) _ from kD.kIg (r:=kD.int) (q:=(kD.slice 111 jD)) (cs:=[.int .i64 xc]) (kD.jB ae) (HQ.out.own (by have:=b5.out;unfold Big;omega))).touch sT2 rF).wide fC
 · exact U.trans (Touch.below sT2 U.size wM)):p:=h
def aD (h:p:=by
 obtain ⟨b,off,h,_⟩:=kD.kFa ha.1 (i:=0) bD0;cases h):p:=h
def aF (h:p:=by
 intro v2 V hown o hz;have J:=yD hown;obtain ⟨a2,c2,hv⟩:=hown.zP;obtain rfl:=hv;have F:Qb w V:=Below.trans bF o;clear hown O0 o;go_wp2;go_ret;exact ⟨_,rfl,by simpa using J.out.own vH,F⟩):p:=h
def aG (h:p:=by
 have h:=kD.yO (e:=9) (r:=kD.str) (w:=(w.alloc (.cells #[.slice aa x.length al] 40)).alloc (.cells #[.slice none 0 0] 40)) (cs:=[]) (xs:=[]) (T:=λ_=>False) (S:=λk=>k=w.heap.size + 1 + 1) bD0 bD0 rfl (λ_ h=>h.elim) bD0;simpa using h):p:=h
def aH (h:p:=by
 refine kD.own.wide (S:=jX (v0.heap.size) (w3.heap.size)) ?_ fB;exact kD.jl (r:=kU) (q:=(kD.pair (kD.slice 5 kD.byte) (kD.pair kU (kD.pair kD.int kD.int)))) (cs:=[.slice N x0.length G]) (ds:=[.slice be x1.length a8,.slice U x2.length H,.int .i64 x3,.int .i64 x4]) (x:=x0) (y:=(x1,x2,x3,x4)) (S:=jX (v0.heap.size) (w3.heap.size)) (kD.own.out F.out dR) (kD.jl (r:=(kD.slice 5 kD.byte)) (q:=(kD.pair kU (kD.pair kD.int kD.int))) (cs:=[.slice be x1.length a8]) (ds:=[.slice U x2.length H,.int .i64 x3,.int .i64 x4]) (x:=x1) (y:=(x2,x3,x4)) (S:=jX (v1.heap.size) (w3.heap.size)) (kD.own.out R.out dR) (kD.jv (r:=kU) (q:=(kD.pair kD.int kD.int)) (cs:=[.slice U x2.length H]) (ds:=[.int .i64 x3,.int .i64 x4]) (x:=x2) (y:=(x3,x4)) (kD.own.out ai.out dR) (kD.yC (r:=kD.int) (q:=kD.int) (cs:=[.int .i64 x3]) (ds:=[.int .i64 x4]) (x:=x3) (y:=x4) (kD.jB N3.out) (kD.jB N4.out))) mH mH mM) mH mH mM):p:=h
def aI (h:p:=by
 intro v2 V D F a6;replace D:=kD.kR.cast D (ba.out.symm);have R:=yD D;have G:=O.trans F;clear D J F;go_wp2;go_roundw;case rel=>exact ⟨k + 1,by omega,by go_num,R,G⟩
 simp [intOf];omega):p:=h
def aJ (h:p:=by
 refine kD.kR.wide (S:=jX wS.heap.size u0.heap.size) (kD.kR.keep O.out ?_) ?_
 · exact bY
 exact qV):p:=h
def aK (h:p:=by
 refine kD.own.wide (S:=jX (u0.heap.size) (U.heap.size)) ?_ fB;exact kD.jl (r:=kN) (q:=(kD.pair (kD.slice 43 kH) (kD.pair (kD.slice 99 jG) (kD.pair (kD.slice 77 kY) (kD.pair (kD.slice 108 kL) kD.int))))) (cs:=[.int .i64 x.2.1.1,.slice am x.2.1.2.length V]) (ds:=[.slice ak bh ao,.slice aj a5 af,.slice ae ay ac,.slice aa J Z,.int .i64 x.2.2.2.2.2.2]) (x:=x.2.1) (y:=x.2.2) (S:=jX (u0.heap.size) (U.heap.size)) (kD.own.out F.out dR) (kD.jl (r:=(kD.slice 43 kH)) (q:=(kD.pair (kD.slice 99 jG) (kD.pair (kD.slice 77 kY) (kD.pair (kD.slice 108 kL) kD.int)))) (cs:=[.slice ak bh ao]) (ds:=[.slice aj a5 af,.slice ae ay ac,.slice aa J Z,.int .i64 x.2.2.2.2.2.2]) (x:=x.2.2.1) (y:=x.2.2.2) (S:=jX (Y.heap.size) (U.heap.size)) (kD.own.out R.out dR) (kD.jl (r:=(kD.slice 99 jG)) (q:=(kD.pair (kD.slice 77 kY) (kD.pair (kD.slice 108 kL) kD.int))) (cs:=[.slice aj a5 af]) (ds:=[.slice ae ay ac,.slice aa J Z,.int .i64 x.2.2.2.2.2.2]) (x:=x.2.2.2.1) (y:=x.2.2.2.2) (S:=jX (u2.heap.size) (U.heap.size)) (kD.own.out ai.out dR) (kD.jl (r:=(kD.slice 77 kY)) (q:=(kD.pair (kD.slice 108 kL) kD.int)) (cs:=[.slice ae ay ac]) (ds:=[.slice aa J Z,.int .i64 x.2.2.2.2.2.2]) (x:=x.2.2.2.2.1) (y:=x.2.2.2.2.2) (S:=jX (u3.heap.size) (U.heap.size)) (kD.own.out be.out dR) (kD.jv (r:=(kD.slice 108 kL)) (q:=kD.int) (cs:=[.slice aa J Z]) (ds:=[.int .i64 x.2.2.2.2.2.2]) (x:=x.2.2.2.2.2.1) (y:=x.2.2.2.2.2.2) (kD.own.out bc.out dR) (kD.jB ax.out)) qU qV mM) qU qV mM) qU qV mM) qU qV mM):p:=h
def aL (h:p:=by
 obtain rfl:k=l.length:=bC9;go_wp2;go_ret;exact ⟨_,rfl,kD.kR.cast J.out bD0,o⟩):p:=h
def aM (h:p:=by
 go_wp2_with (at_builtin;refine kD.jL rfl _ _ 25 rfl (r:=jD) (e:=111) underlying25 zt rfl bC8 bC8 (B:=w.heap.size + 3) J.out bD1 bD1 rfl (kD.own.wide (T:=jX wr.heap.size wT.heap.size) (kD.jv (r:=jJ) (q:=kD.int) (cs:=[.slice a7 x.1.1.length br,.slice bx x.1.2.1.length b9,.slice be x.1.2.2.1.length a8,.int .i64 x.1.2.2.2.1,.int .i64 x.1.2.2.2.2]) (ds:=[.int .i64 x.2]) (x:=x.1) (y:=x.2) (OT.below (tQ ED E)) (kD.jB HU.out)) (λj I=>I)) rfl mM qU mH bC9 bC9 ?_);intro v2 V D F a6;obtain ⟨b5,cm,cl,az,b1⟩:=D.parts;obtain rfl:=az;have aa:=(F.block _ bC9).trans XW;have N1:=kE aa (j:=1) rfl;have NF:=frozen_of_row V (w.heap.size + 1 + 1) 1 _ _ aa;have G:=ak.trans (F.mono bC9);have a9:=yD aa;have R:=yD (kD.kR.cast D (ba.out.symm));clear aa D J F o;go_wp2;go_roundw;case rel=>exact ⟨k + 1,_,by omega,by go_num,yD (heap_setCell_same V _ 1 _ _ _ a9.out),yD ((R.out.setCell dX).wide mD),G.setCell bD0 _,by simp [World.setCell];omega⟩
 simp [intOf];omega):p:=h
def aN (h:p:=by
 go_wp2_with fail;refine (HI.out _ rfl).mono ?_;rintro e Y ⟨rfl,O⟩;have F:=yD (J.out.below O);go_wp2;go_ret;exact ⟨_,rfl,F.out.cast HF.out,Touch.of_below O⟩):p:=h
def aO (h:p:=by
 refine ⟨i + 1,i,by omega,by omega,rfl,by go_num,yD rJ,yD ?_,E1⟩;rw [af.out,br.out,show i + 1 - i=0 + 1 by omega];exact G1.out):p:=h
def aP (h:p:=by
 have ae:=yD aa;have a5:=yD al;clear aa al db ab bf a1;go_wp2;go_roundw;case rel =>
  refine ⟨m + 1,kn + 1,by omega,by omega,by go_num,by go_num,yD nQ,yD ?_,yD ((E.out.trans (Touch.of_below E5.out)).trans (a5.out.wide (λj I=>I ▸ ad.out)))⟩;rw [L.out,show m + 1 - (kn + 1)=m - kn by omega];exact ae.out
 simp [intOf];omega):p:=h
def aQ (h:p:=by
 have L:=yD (bf.out bC7);go_wp2;go_roundw;case rel =>
  refine ⟨m + 1,kn,by omega,by omega,rfl,by go_num,yD tY,yD ?_,yD (E.out.trans (Touch.of_below E5.out))⟩;rw [L.out,show m + 1 - kn=(m - kn) + 1 by omega];exact ab.out.below E5.out
 simp [intOf];omega):p:=h
def aR (h:p:=by
 have H6:=yD h6;have T6:=yD t6;clear h6 t6 HG;go_wp2;go_ret;exact ⟨_,rfl,by rw [H.out];exact H6.out,E.out.trans (T6.out.wide (λj I=>I ▸ ad.out))⟩):p:=h
def aS (h:p:=by
 intro j u I;have F:(⟨b,off,none⟩:Addr).add j=⟨b,off + j,none⟩:=pV;have an:=(List.getElem?_eq_some_iff.1 I).1;rw [F,cell_of_row w b _ cur e (0,0) g1,<- Array.getElem?_toList,g2,List.getElem?_append_right bC9,List.getElem?_append_left bC9];rw [<- I];congr 1;omega):p:=h
def aT (h:p:=by
 simp only [Array.size_append,List.size_toArray,size_zeroCells,hzs,G,ag,hsize,<- Nat.add_mul];have:xs.length + m + (grownCap w (xs.length + m) cap e - (xs.length + m))=grownCap w (xs.length + m) cap e:=by omega
 rw [this];omega):p:=h
def aU (h:p:=by
 refine .inr ⟨_,_,rfl,λj v I=>?_⟩;have F:(⟨u.heap.size,0,none⟩:Addr).add j=⟨u.heap.size,j,none⟩:=pV;rw [F,cell_of_row _ _ j cx.toArray e (0,0) (heap_alloc_new u _)];simpa using I):p:=h
def aV (h:p:=by
 have b9:(u.alloc (.cells cx.toArray e)).heap.size=u.heap.size + 1:=bD0;refine ⟨v',w',hr,⟨(slice e r).wide ho.1 ?_,ho.2⟩,(Touch.of_below H).trans o⟩;rintro k (hk | hk | hk)
 · exact .inl hk.1
 · exact .inr (.inl hk.1)
 exact .inr (.inr ⟨by omega,hk.2⟩)):p:=h
def aW (h:p:=by
 clear L ab;go_upto_region 10 with fail;obtain ⟨ad,an⟩:=yT R;obtain ⟨bo,o⟩:=yT BK;obtain ⟨aj,al⟩:=kCm R;go_wp2;refine bodyPost_ret (v:=.agg #[Qn kc,Qs a3 q c3]) gV rfl ⟨a3,c3,kc,q,rfl,?_,by omega,hc.touch sT2 bC9 wM,N.jO sT2 bC9⟩;exact ((kHt HQ.out bC9).touch (T:=λk=>k=w.heap.size) sT2 rZ).wide dU):p:=h
def aX (h:p:=by
 obtain ⟨ad,an⟩:=yT R;obtain ⟨bo,o⟩:=yT BK;obtain ⟨aj,al⟩:=kCm R;go_wp2;refine bodyPost_ret (v:=.agg #[Qn kc,Qs ka l kp]) gV rfl ⟨ka,kp,kc,l,rfl,?_,by omega,hc.touch sT2 bC9 wM,N.jO sT2 bC9⟩;exact ((kHt (J.out.ji.wide (T:=λk=>w.heap.size < k/\k < w4.heap.size/\k≠V.heap.size) fH) bC9).touch (T:=λk=>k=w.heap.size) sT2 rZ).wide dU):p:=h
def aY (h:p:=by
 simp only [Act.put,zA,zB,zC] at h_;exact h_):p:=h
def aZ (h:p:=by
 have h_:=aa xb ba bc Z ac ae ai af am ah x ok b v E ao L aw HB b0 HQ o BB;simp only [Act.put,zA,zB,zC] at h_;exact h_):p:=h
def bA (h:p:=by
 refine H _ _ E ?_;clear H K;refine jF ?_;have h_:=ar xb ba bc Z b v E ao L aw HB o BB;simp only [Act.put,zA,zB,zC] at h_;exact h_):p:=h
def bB (h:p:=by
 refine H _ _ E ?_;clear H K;refine jF ?_;have h_:=c0 xb b v E ao L o BB;simp only [Act.put,zA,zB,zC] at h_;exact h_):p:=h
def bC (h:p:=by
 go_wp2;refine bodyPost_ret (v:=.tuple #[.agg #[.slice none 0 0],.bool false]) mW rfl ⟨none,0,false,[],rfl,kD.jd,by simp,yD yj.nil,?_⟩;exact E2.setCell bD0 _):p:=h
def bO (h:p:=by
 obtain ⟨aj,al⟩:=kCm R;go_wp2;refine bodyPost_ret (v:=.tuple #[.agg #[.slice none 0 0,.slice none 0 0],.bool false]) gL rfl ⟨[.slice none 0 0,.slice none 0 0],([],[]),false,rfl,?_,?_⟩
 · exact kD.jl (r:=zR) (q:=zR) (cs:=[.slice none 0 0]) (ds:=[.slice none 0 0]) (A:=λ_=>False) (B:=λ_=>False) kD.jd kD.jd (λ_ h=>h.elim) (λ_ h=>h.elim) (λ_ h _=>h)
 exact U.trans (Touch.below sT2 U.size wM)):p:=h
def dJ (h:p:=by
 have ad:Qd w7 w 0 (.slice none 0 0):=kE R rfl;have an:Qd w7 w 1 (.slice none 0 0):=kE R rfl;obtain ⟨aj,al⟩:=kCm R;go_wp2;refine bodyPost_ret (v:=.tuple #[.agg #[.slice none 0 0,.slice none 0 0],.bool false]) gL rfl ⟨[.slice none 0 0,.slice none 0 0],([],[]),false,rfl,?_,?_⟩
 · exact kD.jl (r:=zR) (q:=zR) (cs:=[.slice none 0 0]) (ds:=[.slice none 0 0]) (A:=λ_=>False) (B:=λ_=>False) kD.jd kD.jd (λ_ h=>h.elim) (λ_ h=>h.elim) (λ_ h _=>h)
 exact U.trans (Touch.below sT2 U.size wM)):p:=h
def dM (h:p:=by
 replace E:=(tQ E hb);refine H _ _ E ?_;clear H K;refine jF ?_;have h_:=J ac ae ai af am ah sg b v E HQ o BB;simp only [Act.put,zA,zB,zC] at h_;exact h_):p:=h
def dN (h:p:=by
 replace E:=(tQ E hb);refine H _ _ E ?_;clear H K;refine jF ?_;have h_:=R b v E o BB;simp only [Act.put,zA,zB,zC] at h_;exact h_):p:=h
def dO (h:p:=by
 replace E:=(tQ E hb);refine H _ _ E ?_;clear H K;refine jF ?_;have h_:=T9 b v E o BB;simp only [Act.put,zA,zB,zC] at h_;exact h_):p:=h
def eD (h:p:=by
 obtain ⟨b3,ce,cg,cd,ch⟩:=yt BQ;obtain ⟨bh,bf,b4,b7,b9⟩:=kBr BR;go_wp2;refine bodyPost_ret (v:=.tuple #[.agg #[.slice none 0 0,.slice none 0 0,.slice none 0 0,Qn 0,Qn 0],.bool false]) dY rfl ⟨[.slice none 0 0,.slice none 0 0,.slice none 0 0,Qn 0,Qn 0],([],[],[],0,0),false,rfl,?_,?_,?_⟩
 · exact kYp
 · simp
 exact U.trans (Touch.below sT5 U.size wM)):p:=h
def eF (h:p:=by
 have h_:=bz J U n1 ak ao n2 ac ae ai af am ah x ok b v E ar a7 b0 HQ o BB;simp only [Act.put,zA,zB,zC] at h_;exact h_):p:=h
def eG (h:p:=by
 replace E:=(tQ E hb);refine H _ _ E ?_;clear H K;refine jF ?_;have h_:=cz J U n1 ak ao n2 b v E ar a7 o BB;simp only [Act.put,zA,zB,zC] at h_;exact h_):p:=h
def eH (h:p:=by
 replace E:=(tQ E hb);refine H _ _ E ?_;clear H K;refine jF ?_;have h_:=d3 J U n1 b v E ar o BB;simp only [Act.put,zA,zB,zC] at h_;exact h_):p:=h
def eO (h:p:=by
 go_wp2;go_roundw;case rel=>exact ⟨j + 1,ca,cc,cl,by go_num,by omega,yD wE,dz,BT,yD (HC.out.wide rD),hc,by omega,Z⟩
 simp [intOf];omega):p:=h
def eP (h:p:=by
 go_wp2;refine bodyPost_ret (v:=.tuple #[.agg #[.slice none 0 0],.bool false]) mX rfl ⟨none,0,false,[],rfl,kD.jd,by simp,yD kCq.nil,?_⟩;exact E2.setCell bD0 _):p:=h
def eQ (h:p:=by
 go_wp2;refine bodyPost_ret (v:=.slice a n c) (by simp [results,results139,go_sem]) rfl ⟨a,n,c,s,rfl,HN.out,HL.out,J.out,hc,N⟩):p:=h
def eT (h:p:=by
 clear hQ;replace hc:=hc.touch hT tN sU;replace N:=N.kBv hT (λk q=>q.1);clear hT J HR;go_wp2;go_ret;exact ⟨_,_,l2,rfl,af.out.mono bC9,R.out.ji,hc,N⟩):p:=h
def eU (h:p:=by
 go_wp2;go_ret;exact ⟨_,rfl,by omega,by omega,hc,N⟩):p:=h
def eX (h:p:=by
 have h_:=aq x ba bc Z b6 y ka kc ks z b v E ao L aw HB au HK bx bq hw o BB;simp only [Act.put,zA,zB,zC] at h_;exact h_):p:=h
def eY (h:p:=by
 replace E:=And.intro (E.1.trans (Touch.of_below hb)) (E.2.below hb);refine H _ _ E ?_;clear H K;refine jF ?_;have h_:=a8 x ba bc Z b6 y ka kc ks b v E ao L aw HB au HK o BB;simp only [Act.put,zA,zB,zC] at h_;exact h_):p:=h
def eZ (h:p:=by
 refine H _ _ E ?_;clear H K;refine jF ?_;have h_:=bp x ba bc Z b6 y b v E ao L aw HB au o BB;simp only [Act.put,zA,zB,zC] at h_;exact h_):p:=h
def fZ (h:p:=by
 replace E:=And.intro (E.1.trans (Touch.of_below hb)) (E.2.below hb);refine H _ _ E ?_;clear H K;refine jF ?_;have h_:=bj x ba bc Z b6 b v E ao L aw HB h6 HL o BB;simp only [Act.put,zA,zB,zC] at h_;exact h_):p:=h
def gU (h:p:=by
 refine H _ _ E ?_;clear H K;refine jF ?_;have h_:=b7 x ba bc Z b6 v E ao L aw HB h6 HL;simp only [Act.put,zA,zB,zC] at h_;exact h_):p:=h
def gY (h:p:=by
 refine H _ _ E ?_;clear H K;refine jF ?_;have h_:=b1 x ba bc Z b v E ao L aw HB o BB;simp only [Act.put,zA,zB,zC] at h_;exact h_):p:=h
def iA (h:p:=by
 replace E:=And.intro (E.1.trans (Touch.of_below hb)) (E.2.below hb);refine H _ _ E ?_;clear H K;refine jF ?_;have h_:=br x b6 b v E ao L h6 HL o BB;simp only [Act.put,zA,zB,zC] at h_;exact h_):p:=h
def iB (h:p:=by
 refine H _ _ E ?_;clear H K;refine jF ?_;have h_:=ch x b6 v E ao L h6 HL;simp only [Act.put,zA,zB,zC] at h_;exact h_):p:=h
def iC (h:p:=by
 refine H _ _ E ?_;clear H K;refine jF ?_;have h_:=ce x b v E ao L o BB;simp only [Act.put,zA,zB,zC] at h_;exact h_):p:=h
def iD (h:p:=by
 replace E:=And.intro (E.1.trans (Touch.of_below hb)) (E.2.below hb);refine H _ _ E ?_;clear H K;refine jF ?_;have h_:=cf b6 b v E h6 HL o BB;simp only [Act.put,zA,zB,zC] at h_;exact h_):p:=h
def iE (h:p:=by
 have h:=kD.yO (e:=5) (r:=kD.byte) (w:=w.alloc (.cells #[.slice an n.length G] 40)) (cs:=[]) (xs:=[]) (T:=λ_=>False) (S:=λk=>k=w.heap.size + 1) bD0 bD0 rfl (λ_ h=>h.elim) bD0;simpa using h):p:=h
def iF (h:p:=by
 subst hz;have E:=yD (show s=⟨(kHo N).toArray⟩ by
   have h:=HP.out;rw [kVv,List.nil_append] at h;apply ByteArray.ext;rw [<- h])
 go_wp2;go_ret;exact ⟨fI,o⟩):p:=h
def iG (h:p:=by
 have h1:=congrArg List.length HP.out;have h2:=kLa 19 (u:=N) bC9;rw [F.out] at h1;simp only [List.length_append,List.length_cons,List.length_nil] at h1;have h3:s.data.toList.length=s.size:=bD0;omega):p:=h
def iH (h:p:=by
 go_wp2_with fail;go_roundw;case rel=>exact ⟨u / 10,_,by omega,by go_num,rfl,pY,HX,(o.alloc o.size _)⟩
 simp [intOf];omega):p:=h
def iI (h:p:=by
 have L:=yD (idxOf_miss hlt HN.out);go_wp2;go_ret;exact ⟨jT L.out.symm,(tQ EB o)⟩):p:=h
def iJ (h:p:=by
 rintro e Y ⟨rfl,O⟩;have F:Qb w Y:=(tQ EB O);clear O;go_wp2;go_ret;exact ⟨rfl,F⟩):p:=h
def iK (h:p:=by
 intro k hk;have hs:=h2.size;rcases hk with hk | hk | hk
 · have:=hSB k hk;exact ⟨this.1,by omega⟩
 · exact hk.elim
 exact ⟨by omega,hk.2⟩):p:=h
def iL (h:p:=by
 intro q u hq;have b9:=(List.getElem?_eq_some_iff.1 hq).1;rw [cell_of_row w b _ _ e (0,0) h1];simp only [List.getElem?_toArray];rw [List.getElem?_append_right (by rw [ag,Nat.add_mul];omega),List.getElem?_append_right rQ,List.append_assoc,List.getElem?_append_left rQ];rw [<- hq];congr 1;rw [ag,h3,Nat.add_mul];omega):p:=h
def iM (h:p:=by
 rintro e Y ⟨rfl,O⟩;have R:Qb w Y:=Below.trans bF (O.mono bD0);clear O;go_wp2;go_ret;exact ⟨kX bD0,R⟩):p:=h
def iN (h:p:=by
 generalize X:World.alloc t1 (.cells #[.slice ra r.1.length rp,.int .i64 r.2.1,.int .i64 r.2.2] 77)=t2 at Y O ⊢;have be:=O.size;have V:=O;clear X O;replace U:=U.below V;replace E:=(tQ E V);refine H _ _ E ?_;clear H K V;refine jF ?_;refine kP (k:=7) rfl bC3 rfl (λK H=>?_);have a5:=E.size;obtain ⟨v2,t3,hr,F,L,bc⟩:=jP (B:=wq.heap.size) U Y mH E.size bC4;refine kD.kV _ _ _ rfl bD1 bD1 hr ?_;obtain ⟨a2,n2,c2,az,a7⟩:=F.parts;obtain rfl:=az;replace E:=E.trans L;have G:=F;clear U;have U:=G;clear F G Y;refine H _ _ E ?_;clear H K hr L;refine jF ?_;refine kP (k:=11) rfl bC3 rfl (λK H=>?_);have ay:=E.size;obtain ⟨v3,t4,hr,F,L,bb⟩:=jP (B:=wq.heap.size) U (ax.out.below E) qU E.size bC4;refine kD.kV _ _ _ rfl bD1 bD1 hr ?_;obtain ⟨a3,n3,c3,ac,bn⟩:=F.parts;obtain rfl:=ac;replace E:=E.trans L;have G:=F;clear U;have U:=G;clear F G;refine H _ _ E ?_;clear H K hr L;refine jF ?_;refine kQ 12 ?_;refine jf bC3 ?_;have av:=yD (kD.kR.cast U (show _=Srt.put kBy l r from by rw [aa.out,List.nil_append]));have a9:=E.size;have aw:=yD ((tQ EB (tQ am E)));clear U aa;go_wp2;go_ret;exact ⟨_,rfl,av.out.wide qV,aw.out⟩):p:=h
def iO (h:p:=by
 obtain ⟨v1,t2,hr,U,L,be⟩:=jP (w:=t1) (v:=.slice (some ⟨wS.heap.size,0,none⟩) 0 0) (xs:=[]) (S:=λ_=>False) (B:=t1.heap.size) kD.kR.void (ag.out.below E) (λ_ h=>h.elim) nL bC4;refine kD.kV _ _ _ rfl bD1 bD1 hr ?_;obtain ⟨a1,n1,c1,ab,ar⟩:=U.parts;obtain rfl:=ab;replace Y:=Y.below L;replace E:=(tQ E L);refine H _ _ E ?_;clear H K hr L;refine jF ?_;refine kP (k:=7) rfl bC3 rfl (λK H=>?_);have a5:=E.size;obtain ⟨v2,t3,hr,F,L,bc⟩:=jP (B:=wq.heap.size) U Y mH E.size bC4;refine kD.kV _ _ _ rfl bD1 bD1 hr ?_;obtain ⟨a2,n2,c2,az,a7⟩:=F.parts;obtain rfl:=az;replace E:=E.trans L;have G:=F;clear U;have U:=G;clear F G Y;refine H _ _ E ?_;clear H K hr L;refine jF ?_;refine kP (k:=11) rfl bC3 rfl (λK H=>?_);have ay:=E.size;obtain ⟨v3,t4,hr,F,L,bb⟩:=jP (B:=wq.heap.size) U (ax.out.below E) qU E.size bC4;refine kD.kV _ _ _ rfl bD1 bD1 hr ?_;obtain ⟨a3,n3,c3,ac,bn⟩:=F.parts;obtain rfl:=ac;replace E:=E.trans L;have G:=F;clear U;have U:=G;clear F G;refine H _ _ E ?_;clear H K hr L;refine jF ?_;refine kQ 12 ?_;refine jf bC3 ?_;have av:=yD (kD.kR.cast U (show _=Srt.put kBy l r from by rw [aa.out,List.nil_append]));have a9:=E.size;have aw:=yD ((tQ EB (tQ am E)));clear U aa;go_wp2;go_ret;exact ⟨_,rfl,av.out.wide qV,aw.out⟩):p:=h
def iP (h:p:=by
 obtain ⟨v1,t2,hr,U,L,be⟩:=jP (w:=t1) (v:=.slice (some ⟨t0.heap.size,0,none⟩) 0 0) (xs:=[]) (S:=λ_=>False) (B:=t1.heap.size) kD.kR.void (ag.out.below E) (λ_ h=>h.elim) nL bC4;refine kD.kV _ _ _ rfl bD1 bD1 hr ?_;obtain ⟨a1,n1,c1,ab,ar⟩:=U.parts;obtain rfl:=ab;replace Y:=Y.below L;replace E:=(tQ E L);refine H _ _ E ?_;clear H K hr L;refine jF ?_;refine kP (k:=7) rfl bC3 rfl (λK H=>?_);have a5:=E.size;obtain ⟨v2,t3,hr,F,L,bc⟩:=jP (B:=wq.heap.size) U Y mH E.size bC4;refine kD.kV _ _ _ rfl bD1 bD1 hr ?_;obtain ⟨a2,n2,c2,az,a7⟩:=F.parts;obtain rfl:=az;replace E:=E.trans L;have G:=F;clear U;have U:=G;clear F G Y;refine H _ _ E ?_;clear H K hr L;refine jF ?_;refine kP (k:=11) rfl bC3 rfl (λK H=>?_);have ay:=E.size;obtain ⟨v3,t4,hr,F,L,bb⟩:=jP (B:=wq.heap.size) U (ax.out.below E) qU E.size bC4;refine kD.kV _ _ _ rfl bD1 bD1 hr ?_;obtain ⟨a3,n3,c3,ac,bn⟩:=F.parts;obtain rfl:=ac;replace E:=E.trans L;have G:=F;clear U;have U:=G;clear F G;refine H _ _ E ?_;clear H K hr L;refine jF ?_;refine kQ 12 ?_;refine jf bC3 ?_;have av:=yD (kD.kR.cast U (show _=Srt.put kBy l r from by rw [aa.out,List.nil_append]));have a9:=E.size;have aw:=yD ((tQ EB (tQ am E)));clear U aa;go_wp2;go_ret;exact ⟨_,rfl,av.out.wide qV,aw.out⟩):p:=h
def iQ (h:p:=by
 generalize X:World.alloc t1 (.cells #[.slice ra r.1.length rp,.int .i64 r.2.1,.int .i64 r.2.2] 77)=t2 at Y O ⊢;have be:=O.size;have V:=O;clear X O;replace U:=U.below V;replace E:=(tQ E V);refine H _ _ E ?_;clear H K V;refine jF ?_;refine kP (k:=7) rfl bC3 rfl (λK H=>?_);have a5:=E.size;obtain ⟨v2,t3,hr,F,L,bc⟩:=jP (B:=wq.heap.size) U Y mH E.size bC4;refine kD.kV _ _ _ rfl bD1 bD1 hr ?_;obtain ⟨a2,n2,c2,az,a7⟩:=F.parts;obtain rfl:=az;replace E:=E.trans L;have G:=F;clear U;have U:=G;clear F G Y;refine H _ _ E ?_;clear H K hr L;refine jF ?_;refine kP (k:=11) rfl bC3 rfl (λK H=>?_);have ay:=E.size;obtain ⟨v3,t4,hr,F,L,bb⟩:=jP (B:=wq.heap.size) U ((ax _).out.below E) qU E.size bC4;refine kD.kV _ _ _ rfl bD1 bD1 hr ?_;obtain ⟨a3,n3,c3,ac,bn⟩:=F.parts;obtain rfl:=ac;replace E:=E.trans L;have G:=F;clear U;have U:=G;clear F G;refine H _ _ E ?_;clear H K hr L;refine jF ?_;refine kQ 12 ?_;refine jf bC3 ?_;have av:=yD (kD.kR.cast U (show _=Srt.put kBy l r from by rw [aa.out,List.nil_append]));have a9:=E.size;have aw:=yD ((tQ EB (tQ am E)));clear U aa;go_wp2;go_ret;exact ⟨_,rfl,av.out.wide qV,aw.out⟩):p:=h
def iR (h:p:=by
 obtain ⟨v1,t2,hr,U,L,be⟩:=jP (w:=t1) (v:=.slice (some ⟨wS.heap.size,0,none⟩) 0 0) (xs:=[]) (S:=λ_=>False) (B:=t1.heap.size) kD.kR.void (ag.out.below E) (λ_ h=>h.elim) nL bC4;refine kD.kV _ _ _ rfl bD1 bD1 hr ?_;obtain ⟨a1,n1,c1,ab,ar⟩:=U.parts;obtain rfl:=ab;replace Y:=Y.below L;replace E:=(tQ E L);refine H _ _ E ?_;clear H K hr L;refine jF ?_;refine kP (k:=7) rfl bC3 rfl (λK H=>?_);have a5:=E.size;obtain ⟨v2,t3,hr,F,L,bc⟩:=jP (B:=wq.heap.size) U Y mH E.size bC4;refine kD.kV _ _ _ rfl bD1 bD1 hr ?_;obtain ⟨a2,n2,c2,az,a7⟩:=F.parts;obtain rfl:=az;replace E:=E.trans L;have G:=F;clear U;have U:=G;clear F G Y;refine H _ _ E ?_;clear H K hr L;refine jF ?_;refine kP (k:=11) rfl bC3 rfl (λK H=>?_);have ay:=E.size;obtain ⟨v3,t4,hr,F,L,bb⟩:=jP (B:=wq.heap.size) U ((ax _).out.below E) qU E.size bC4;refine kD.kV _ _ _ rfl bD1 bD1 hr ?_;obtain ⟨a3,n3,c3,ac,bn⟩:=F.parts;obtain rfl:=ac;replace E:=E.trans L;have G:=F;clear U;have U:=G;clear F G;refine H _ _ E ?_;clear H K hr L;refine jF ?_;refine kQ 12 ?_;refine jf bC3 ?_;have av:=yD (kD.kR.cast U (show _=Srt.put kBy l r from by rw [aa.out,List.nil_append]));have a9:=E.size;have aw:=yD ((tQ EB (tQ am E)));clear U aa;go_wp2;go_ret;exact ⟨_,rfl,av.out.wide qV,aw.out⟩):p:=h
def iT (h:p:=by
 obtain ⟨v1,t2,hr,U,L,be⟩:=jP (w:=t1) (v:=.slice (some ⟨t0.heap.size,0,none⟩) 0 0) (xs:=[]) (S:=λ_=>False) (B:=t1.heap.size) kD.kR.void (ag.out.below E) (λ_ h=>h.elim) nL bC4;refine kD.kV _ _ _ rfl bD1 bD1 hr ?_;obtain ⟨a1,n1,c1,ab,ar⟩:=U.parts;obtain rfl:=ab;replace Y:=Y.below L;replace E:=(tQ E L);refine H _ _ E ?_;clear H K hr L;refine jF ?_;refine kP (k:=7) rfl bC3 rfl (λK H=>?_);have a5:=E.size;obtain ⟨v2,t3,hr,F,L,bc⟩:=jP (B:=wq.heap.size) U Y mH E.size bC4;refine kD.kV _ _ _ rfl bD1 bD1 hr ?_;obtain ⟨a2,n2,c2,az,a7⟩:=F.parts;obtain rfl:=az;replace E:=E.trans L;have G:=F;clear U;have U:=G;clear F G Y;refine H _ _ E ?_;clear H K hr L;refine jF ?_;refine kP (k:=11) rfl bC3 rfl (λK H=>?_);have ay:=E.size;obtain ⟨v3,t4,hr,F,L,bb⟩:=jP (B:=wq.heap.size) U ((ax _).out.below E) qU E.size bC4;refine kD.kV _ _ _ rfl bD1 bD1 hr ?_;obtain ⟨a3,n3,c3,ac,bn⟩:=F.parts;obtain rfl:=ac;replace E:=E.trans L;have G:=F;clear U;have U:=G;clear F G;refine H _ _ E ?_;clear H K hr L;refine jF ?_;refine kQ 12 ?_;refine jf bC3 ?_;have av:=yD (kD.kR.cast U (show _=Srt.put kBy l r from by rw [aa.out,List.nil_append]));have a9:=E.size;have aw:=yD ((tQ EB (tQ am E)));clear U aa;go_wp2;go_ret;exact ⟨_,rfl,av.out.wide qV,aw.out⟩):p:=h
def iU (h:p:=by
 have ad:(Srt.sorted kBy ((l.take k).filter (kJb n l))).length<=16777216:=fO;generalize Srt.sorted kBy ((l.take k).filter (kJb n l))=H at *;obtain ⟨FS,al⟩:∃ FS:List Int,FS=H.map (λr=>r.2.1):=⟨_,rfl⟩;have G:=yD al;clear al;have aq:on<=16777216:=vQ;clear ad aw a4 bj bi br;obtain ⟨wz,ai⟩:∃ wz,wz=wr:=⟨_,rfl⟩;subst ai;go_wp2;go_loopw [9,10] (λv i wx=>∃ (j:Nat),j<=on/\i=.int .i64 j/\Hid (kD.kR 3 kD.int wx v (FS.take j) (jX wz.heap.size wx.heap.size))/\Qb wz wx) (λ_ i _=>on - (intOf i).toNat);case atStart=>exact ⟨0,Nat.zero_le _,rfl,yD kD.kR.void,bF⟩
 obtain ⟨j,I,rfl,HI,ak⟩:=hrel;obtain ⟨ia,bl,ic,hi,ag⟩:=HI.out.parts;obtain rfl:=hi;have a9:=ak.size;by_cases az:j < on
 · have aa:j < H.length:=vQ;have hil:bl<=16777216:=qR;obtain ⟨qb,qo,rfl,ae,af,ah,qr,A0,A1,A2⟩:=kD.zg (J.out.kBc.below ak) aa rfl;have ba:=yD (show FS.take (j + 1)=FS.take j++[H[j].2.1] by (have hl:j < FS.length:=by rw [G.out];simpa using aa);rw [List.take_succ_eq_append_getElem hl];simp [G.out]);generalize H[j]=x at *;obtain ⟨bg,Z,aj,ap,ao,au⟩:=jM (show kY.raw w _ x from qr);simp only [List.cons.injEq,and_true] at Z;obtain ⟨rfl,rfl,rfl⟩:=Z;clear aj ap au qr;have bx:(FS.take j).length<=16777216:=wF;go_wp2_with (at_builtin;refine kD.jL rfl _ _ 59 rfl (r:=kD.int) (e:=3) underlying59 kAi rfl bC8 bC8 (B:=wz.heap.size) HI.out bD1 bD1 rfl (kD.jB ao _) rfl (λ_ _ h=>h) qU (λ_ h=>h.elim) bC9 bC9 ?_);intro v5 w5 hown bh bv;have bc:=yD (kD.kR.cast hown ba.out.symm);have U:=ak.trans bh;clear hown bh;go_wp2;go_roundw;case rel=>exact ⟨j + 1,by omega,by go_num,bc,U⟩
   simp [intOf];omega
 obtain rfl:j=on:=bC9;have HF:=yD (HI.out.cast (show _=kDv l n by rw [V.out,<- G.out,List.take_of_length_le (by rw [G.out];simp;have:=bb.out;omega)]));have a3:¬ (j:Int) < j:=bC9;go_wp2;go_ret;exact ⟨_,rfl,(HF.out.own mK).wide mG,(tQ F ak)⟩):p:=h
def iV (h:p:=by
 have D:Qd w9 w4 7 (.int .i64 x6):=kE BY rfl;obtain ⟨X,aa,af,ac,ae,ai,al,an⟩:=jR BX;obtain ⟨a7,ay,a8,ax,ba,ar,az,av⟩:=jR BZ;go_wp2_with fail;refine (kBi (kFh YO.out.raw) (kFh XO.out.rd.1)).mono ?_;rintro e bj ⟨R,hb⟩;have L:e=.returned (.bool true):=R.trans bD0;subst L;clear R;have c6:=hb.size;replace BX:=kC BX hb;replace BY:=kC BY hb;replace BZ:=kC BZ hb;replace XO:=yD (XO.out.below hb);replace YO:=yD (YO.out.below hb);replace ZO:=yD (ZO.out.below hb);replace U:=(tQ U hb);clear aq ah ad am N J G D X aa af ac ae ai al an a7 ay a8 ax ba ar az av;clear hb;obtain ⟨aq,ah,ad,am,N,J,G,D⟩:=jR BY;obtain ⟨X,aa,af,ac,ae,ai,al,an⟩:=jR BX;go_wp2_with fail;refine (kBj (kAl YO.out.rd).1 (kAl XO.out.rd).1).mono ?_;rintro e bu ⟨R,hb⟩;have L:e=.returned (.bool true):=R.trans bD0;subst L;clear R;have dl:=hb.size;replace BX:=kC BX hb;replace BY:=kC BY hb;replace BZ:=kC BZ hb;replace XO:=yD (XO.out.below hb);replace YO:=yD (YO.out.below hb);replace ZO:=yD (ZO.out.below hb);replace U:=(tQ U hb);clear aq ah ad am N J G D X aa af ac ae ai al an;clear hb;go_wp2;go_ret;exact ⟨rfl,U⟩):p:=h
def iW (h:p:=by
 have D:Qd bj w4 7 (.int .i64 x6):=kE BY rfl;obtain ⟨X,aa,af,ac,ae,ai,al,an⟩:=jR BX;obtain ⟨a7,ay,a8,ax,ba,ar,az,av⟩:=jR BZ;go_wp2_with fail;refine (kBi (kFh YO.out.raw) (kFh XO.out.rd.1)).mono ?_;rintro e bu ⟨R,hb⟩;have L:e=.returned (.bool true):=R.trans bD0;subst L;clear R;have dl:=hb.size;replace BX:=kC BX hb;replace BY:=kC BY hb;replace BZ:=kC BZ hb;replace XO:=yD (XO.out.below hb);replace YO:=yD (YO.out.below hb);replace ZO:=yD (ZO.out.below hb);replace U:=(tQ U hb);clear aq ah ad am N J G D X aa af ac ae ai al an a7 ay a8 ax ba ar az av;clear hb;obtain ⟨aq,ah,ad,am,N,J,G,D⟩:=jR BY;obtain ⟨X,aa,af,ac,ae,ai,al,an⟩:=jR BX;go_wp2_with fail;refine (kBj (kAl YO.out.rd).1 (kAl XO.out.rd).1).mono ?_;rintro e cv ⟨R,hb⟩;have L:e=.returned (.bool true):=R.trans bD0;subst L;clear R;have d0:=hb.size;replace BX:=kC BX hb;replace BY:=kC BY hb;replace BZ:=kC BZ hb;replace XO:=yD (XO.out.below hb);replace YO:=yD (YO.out.below hb);replace ZO:=yD (ZO.out.below hb);replace U:=(tQ U hb);clear aq ah ad am N J G D X aa af ac ae ai al an;clear hb;go_wp2;go_ret;exact ⟨rfl,U⟩):p:=h
def iX (h:p:=by
 obtain rfl:c0=_:=by simpa using he
 clear he hr;by_cases hp:p x[k]=true
 · rw [hp] at C;have HC:=yD C;clear C;have L:=yD (idxOf_hit hlt hp HN.out);clear hp;go_wp2_with fail;refine HC.out.mono ?_;rintro e Y ⟨rfl,O⟩;go_wp2;go_ret;exact ⟨jT L.out.symm,(tQ o O)⟩
 have hp:p x[k]=false:=wZ;rw [hp] at C;have HC:=yD C;clear C;have L:=yD (kBx hlt hp HN.out);clear hp;go_wp2_with fail;refine HC.out.mono ?_;rintro e Y ⟨rfl,O⟩;go_wp2;go_roundw;case rel=>exact ⟨k + 1,by omega,by go_num,L.out,(tQ o O)⟩
 simp [intOf];omega):p:=h
def iY (h:p:=by
 have L:=yD (idxOf_miss hlt HN.out);go_wp2;go_ret;exact ⟨jT L.out.symm,o⟩):p:=h
def iZ (h:p:=by
 go_wp2;go_loopw [8] (λi wr=>∃ k:Nat,k<=x.length/\i=.int .i64 k/\(∀ j,(h:j < k)->(h2:j < x.length)->p x[j]=false)/\Qb w wr) (λi _=>x.length - (intOf i).toNat);case atStart=>exact ⟨0,Nat.zero_le _,rfl,λ_ h=>by omega,bR⟩
 obtain ⟨k,hk,rfl,hno,o⟩:=hrel;have HN:=yD hno;clear hno;by_cases hlt:k < x.length
 · obtain ⟨ba,H,rfl,c0,c1,c2,hr,A0,A1,A2⟩:=kD.zg (ha.below o) hlt rfl;have C:=aw.out wr o k hlt _ hr;by_cases hp:p x[k]=true
   · rw [hp] at C;have HC:=yD C;clear C;have L:=yD (idxOf_hit hlt hp HN.out);clear hp;go_wp2_with fail;refine HC.out.mono ?_;rintro e Y ⟨rfl,O⟩;go_wp2;go_ret;exact ⟨jT L.out.symm,(tQ o O)⟩
   have hp:p x[k]=false:=wZ;rw [hp] at C;have HC:=yD C;clear C;have L:=yD (kBx hlt hp HN.out);clear hp;go_wp2_with fail;refine HC.out.mono ?_;rintro e Y ⟨rfl,O⟩;go_wp2;go_roundw;case rel=>exact ⟨k + 1,by omega,by go_num,L.out,(tQ o O)⟩
   simp [intOf];omega
 have L:=yD (idxOf_miss hlt HN.out);go_wp2;go_ret;exact ⟨jT L.out.symm,o⟩):p:=h
def l5 (h:p:=by
 have C:=aw.out wr o k hlt _ hr;by_cases hp:p x[k]=true
 · rw [hp] at C;have HC:=yD C;clear C;have L:=yD (idxOf_hit hlt hp HN.out);clear hp;go_wp2_with fail;refine HC.out.mono ?_;rintro e Y ⟨rfl,O⟩;go_wp2;go_ret;exact ⟨jT L.out.symm,(tQ o O)⟩
 have hp:p x[k]=false:=wZ;rw [hp] at C;have HC:=yD C;clear C;have L:=yD (kBx hlt hp HN.out);clear hp;go_wp2_with fail;refine HC.out.mono ?_;rintro e Y ⟨rfl,O⟩;go_wp2;go_roundw;case rel=>exact ⟨k + 1,by omega,by go_num,L.out,(tQ o O)⟩
 simp [intOf];omega):p:=h
def l6 (h:p:=by
 have F:=(tQ EB E);go_wp2;go_ret;exact ⟨kX L.out.symm,F⟩):p:=h
def l7 (h:p:=by
 constructor
 · rintro ⟨h1,h2,h3⟩;exact ⟨h3,h1,h2⟩
 rintro ⟨h1,h2,h3⟩;exact ⟨h2,h3,h1⟩):p:=h
def l8 (h:p:=by
 rintro e Y ⟨rfl,O⟩;have R:Qb w Y:=Below.trans bF (O.mono bD0);clear O;by_cases h:idxOf (yA n f) l < 0
 · have L:=yD (kYk h);go_wp2;go_ret;exact ⟨jT L.out.symm,R⟩
 obtain ⟨k,hk,hi⟩:=kDu h;have L:=yD (kVs hk hi);rw [hi] at h ⊢;clear hi;obtain ⟨ba,H,rfl,c0,c1,c2,hr,A0,A1,A2⟩:=kD.zg (HL.out.below R) hk rfl;obtain ⟨v0,he,_⟩:=yF hr;simp only [List.cons.injEq,and_true] at he;obtain ⟨rfl,rfl,rfl⟩:=he;clear hr;generalize l[k]=y at *;have dr:=Int.ofNat_lt.2 hk;go_wp2;go_ret;exact ⟨jT L.out.symm,R⟩):p:=h
def l9 (h:p:=by
 go_wp2;go_ret;exact ⟨jT L.out.symm,rfl⟩):p:=h
def lC (h:p:=by
 have L:=yD (show eqN a b=false by unfold eqN;simp;rintro rfl;exact hl rfl);have hz:((a.length:Int) != b.length)=true:=bC4;have bj:(a.length != b.length)=true:=wR;go_wp2;go_ret;exact ⟨kX L.out.symm,bR⟩):p:=h
def lD (h:p:=by
 have F:=(tQ o E);cases hz:(x.toList==y.toList)
 · have L:=yD (show eqN a b=false by
     rw [kQn] at hz;simp at hz;unfold eqN;simp;exact HD.out hz)
   clear HD HX;go_wp2;go_ret;exact ⟨kX L.out.symm,F⟩
 have L:=yD (HX.out (by rw [kQn] at hz;simpa using hz));clear HD HX;go_wp2;go_roundw;case rel=>exact ⟨k + 1,by omega,by go_num,L,F⟩
 simp [intOf];omega):p:=h
def lF (h:p:=by
 have L:=yD (show eqN a b=true by unfold eqN;simp;exact kBa HN.out hlt HL.out);go_wp2;go_ret;exact ⟨kX L.out.symm,o⟩):p:=h
def lG (h:p:=by
 have ar:Hid (((F.take k).filter (λz=>!(z==ex))).length<=Big):=yD fE;go_wp2;go_ret;exact ⟨_,rfl,by rw [V.out];exact (HI.out.own ar.out).wide qV,(tQ E4 o)⟩):p:=h
def lH (h:p:=by
 obtain ⟨i,hi,rfl⟩:=List.mem_take_iff_getElem.1 hy;exact List.pairwise_iff_getElem.1 h2 i k bC9 hk bC9):p:=h
def lI (h:p:=by
 go_wp2;go_ret;exact ⟨kX L.out.symm,rfl⟩):p:=h
def lJ (h:p:=by
 have V:=O;clear X O;replace U:=U.below V;replace E:=(tQ E V);refine H _ _ E ?_;clear H K V;refine jF ?_;refine kP (k:=10) rfl bC3 rfl (λK H=>?_);have a5:=E.size;obtain ⟨v2,t3,hr,F,L,bc⟩:=jg (B:=wq.heap.size) U Y mH E.size bC4;refine kD.kV _ _ _ rfl bD1 bD1 hr ?_;obtain ⟨a2,n2,c2,az,a7⟩:=F.parts;obtain rfl:=az;replace E:=E.trans L;have G:=F;clear U;have U:=G;clear F G Y;refine H _ _ E ?_;clear H K hr L;refine jF ?_;refine kP (k:=14) rfl bC3 rfl (λK H=>?_);have ay:=E.size;obtain ⟨v3,t4,hr,F,L,bb⟩:=jg (B:=wq.heap.size) U (ax.out.below E) qU E.size bC4;refine kD.kV _ _ _ rfl bD1 bD1 hr ?_;obtain ⟨a3,n3,c3,ac,bn⟩:=F.parts;obtain rfl:=ac;replace E:=E.trans L;have G:=F;clear U;have U:=G;clear F G;refine H _ _ E ?_;clear H K hr L;refine jF ?_;refine kQ 15 ?_;refine jf bC3 ?_;have av:=yD (kD.kR.cast U (show _=Srt.sorted (ym l n) (fs.take (i + 1)) from by rw [aa.out,List.nil_append]));have a9:=E.size;have bq:=am.size;have aw:=yD (am.trans (E.mono (am.size)));clear U aa;go_wp2;go_roundw;case rel=>exact ⟨i + 1,by omega,by go_num,yD (av.out.wide qV),(tQ o aw.out)⟩
 simp [intOf];omega):p:=h
def lK (h:p:=by
 obtain ⟨a1,n1,c1,ab,ar⟩:=U.parts;obtain rfl:=ab;replace Y:=Y.below L;replace E:=(tQ E L);refine H _ _ E ?_;clear H K hr L;refine jF ?_;refine kP (k:=10) rfl bC3 rfl (λK H=>?_);have a5:=E.size;obtain ⟨v2,t3,hr,F,L,bc⟩:=jg (B:=wq.heap.size) U Y mH E.size bC4;refine kD.kV _ _ _ rfl bD1 bD1 hr ?_;obtain ⟨a2,n2,c2,az,a7⟩:=F.parts;obtain rfl:=az;replace E:=E.trans L;have G:=F;clear U;have U:=G;clear F G Y;refine H _ _ E ?_;clear H K hr L;refine jF ?_;refine kP (k:=14) rfl bC3 rfl (λK H=>?_);have ay:=E.size;obtain ⟨v3,t4,hr,F,L,bb⟩:=jg (B:=wq.heap.size) U (ax.out.below E) qU E.size bC4;refine kD.kV _ _ _ rfl bD1 bD1 hr ?_;obtain ⟨a3,n3,c3,ac,bn⟩:=F.parts;obtain rfl:=ac;replace E:=E.trans L;have G:=F;clear U;have U:=G;clear F G;refine H _ _ E ?_;clear H K hr L;refine jF ?_;refine kQ 15 ?_;refine jf bC3 ?_;have av:=yD (kD.kR.cast U (show _=Srt.sorted (ym l n) (fs.take (i + 1)) from by rw [aa.out,List.nil_append]));have a9:=E.size;have bq:=am.size;have aw:=yD (am.trans (E.mono (am.size)));clear U aa;go_wp2;go_roundw;case rel=>exact ⟨i + 1,by omega,by go_num,yD (av.out.wide qV),(tQ o aw.out)⟩
 simp [intOf];omega):p:=h
def lM (h:p:=by
 have V:=O;clear X O;replace U:=U.below V;replace E:=(tQ E V);refine H _ _ E ?_;clear H K V;refine jF ?_;refine kP (k:=10) rfl bC3 rfl (λK H=>?_);have a5:=E.size;obtain ⟨v2,t3,hr,F,L,bc⟩:=jg (B:=wq.heap.size) U Y mH E.size bC4;refine kD.kV _ _ _ rfl bD1 bD1 hr ?_;obtain ⟨a2,n2,c2,az,a7⟩:=F.parts;obtain rfl:=az;replace E:=E.trans L;have G:=F;clear U;have U:=G;clear F G Y;refine H _ _ E ?_;clear H K hr L;refine jF ?_;refine kP (k:=14) rfl bC3 rfl (λK H=>?_);have ay:=E.size;obtain ⟨v3,t4,hr,F,L,bb⟩:=jg (B:=wq.heap.size) U ((ax _).out.below E) qU E.size bC4;refine kD.kV _ _ _ rfl bD1 bD1 hr ?_;obtain ⟨a3,n3,c3,ac,bn⟩:=F.parts;obtain rfl:=ac;replace E:=E.trans L;have G:=F;clear U;have U:=G;clear F G;refine H _ _ E ?_;clear H K hr L;refine jF ?_;refine kQ 15 ?_;refine jf bC3 ?_;have av:=yD (kD.kR.cast U (show _=Srt.sorted (ym l n) (fs.take (i + 1)) from by rw [aa.out,List.nil_append]));have a9:=E.size;have bq:=am.size;have aw:=yD (am.trans (E.mono (am.size)));clear U aa;go_wp2;go_roundw;case rel=>exact ⟨i + 1,by omega,by go_num,yD (av.out.wide qV),(tQ o aw.out)⟩
 simp [intOf];omega):p:=h
def lN (h:p:=by
 obtain ⟨a1,n1,c1,ab,ar⟩:=U.parts;obtain rfl:=ab;replace Y:=Y.below L;replace E:=(tQ E L);refine H _ _ E ?_;clear H K hr L;refine jF ?_;refine kP (k:=10) rfl bC3 rfl (λK H=>?_);have a5:=E.size;obtain ⟨v2,t3,hr,F,L,bc⟩:=jg (B:=wq.heap.size) U Y mH E.size bC4;refine kD.kV _ _ _ rfl bD1 bD1 hr ?_;obtain ⟨a2,n2,c2,az,a7⟩:=F.parts;obtain rfl:=az;replace E:=E.trans L;have G:=F;clear U;have U:=G;clear F G Y;refine H _ _ E ?_;clear H K hr L;refine jF ?_;refine kP (k:=14) rfl bC3 rfl (λK H=>?_);have ay:=E.size;obtain ⟨v3,t4,hr,F,L,bb⟩:=jg (B:=wq.heap.size) U ((ax _).out.below E) qU E.size bC4;refine kD.kV _ _ _ rfl bD1 bD1 hr ?_;obtain ⟨a3,n3,c3,ac,bn⟩:=F.parts;obtain rfl:=ac;replace E:=E.trans L;have G:=F;clear U;have U:=G;clear F G;refine H _ _ E ?_;clear H K hr L;refine jF ?_;refine kQ 15 ?_;refine jf bC3 ?_;have av:=yD (kD.kR.cast U (show _=Srt.sorted (ym l n) (fs.take (i + 1)) from by rw [aa.out,List.nil_append]));have a9:=E.size;have bq:=am.size;have aw:=yD (am.trans (E.mono (am.size)));clear U aa;go_wp2;go_roundw;case rel=>exact ⟨i + 1,by omega,by go_num,yD (av.out.wide qV),(tQ o aw.out)⟩
 simp [intOf];omega):p:=h
def lQ (h:p:=by
 have L:=yD (kOo (f:=f) (l:=l) (by rw [hv];rfl));go_wp2;go_ret;exact ⟨_,rfl,(J.out.cast L.out.symm).own vL,E2⟩):p:=h
def lS (h:p:=by
 have L:=yD (kOo (f:=f) (l:=l) bA9);go_wp2;go_ret;exact ⟨_,rfl,(J.out.cast L.out.symm).own vL,E2⟩):p:=h
def lT (h:p:=by
 intro v5 w5 F R bv;have bc:=yD (F.cast L.out.symm);have E5:=(tQ E4 ER).trans R;clear F R;go_wp2;go_ret;exact ⟨_,rfl,bc.out.own gF,E5⟩):p:=h
def lU (h:p:=by
 have Z:¬ (l.length:Int) < 24:=bC9;have L:=yD (kPw HB.out vI af);go_wp2;go_ret;exact ⟨_,rfl,(J.out.cast L.out.symm).own vL,E4⟩):p:=h
def lV (h:p:=by
 go_wp2;go_ret;have bw:=an.size;have cg:=E.size;refine ⟨_,rfl,((au.wide (T:=jX w.heap.size u4.heap.size) ?_).cast L.out.symm).own bZ,(tQ E2 F)⟩;rintro j (I | I)
 · exact ⟨I.1,by have:=I.2;have:=F.size;omega⟩
 exact ⟨by omega,I.2⟩):p:=h
def lW (h:p:=by
 have L:=yD (show decide (a=b)=false by simp;rintro rfl;exact hl rfl);have hz:((a.length:Int) != b.length)=true:=bC4;have bj:(a.length != b.length)=true:=wR;go_wp2;go_ret;exact ⟨kX L.out.symm,bR⟩):p:=h
def lX (h:p:=by
 have L:=yD (show decide (a=b)=true by simp;exact kBa HN.out hlt HL.out);go_wp2;go_ret;exact ⟨kX L.out.symm,o⟩):p:=h
def lY (h:p:=by
 go_wp2;go_roundw;case rel=>exact ⟨k + 1,by omega,by go_num,L,F⟩
 simp [intOf];omega):p:=h
def lZ (h:p:=by
 have R:=(tQ EB ar);by_cases af:24 < q.length
 · obtain ⟨_,b,off,rfl,ao,aw⟩:=kD.kKo ax.out bC9;have ae:=(kD.kAd ax.out.raw);have Z:(24:Int) < q.length:=bC9;have ag:(1:Int)<=q.length:=bC9;have G:¬ o=1:=bC9;have ac:(q.length:Int)<=o:=bC9;have ak:o<=9223372036854775807:=ae.2;have HD:=yD (kD.kPf ax.out (k:=1) bC9);have V:Hid (yK l n x=q.drop 1):=yD (by unfold yK;rw [I.out,if_pos af]);clear ax I;go_wp2;go_ret;refine ⟨_,rfl,?_,R⟩;rw [V.out];exact HD.out
 have Z:¬ (24:Int) < q.length:=bC9;have V:Hid (yK l n x=q):=yD (by unfold yK;rw [I.out,if_neg af]);clear I;go_wp2;go_ret;refine ⟨_,rfl,?_,R⟩;rw [V.out];exact ax.out):p:=h
def mI (h:p:=by
 clear o;clear OA;replace U:=U.below hb;replace Y:=Y.below hb;replace E:=(tQ E hb);refine H _ _ E ?_;clear H K hb;refine jF ?_;refine kP (k:=6) rfl bC3 rfl (λK H=>?_);have R:=E.size;obtain ⟨v_,t4,hr,F,L,bb,J⟩:=kD.kBg (P:=prog) (t:=59) (ty:=59) (r:=kD.int) (e:=3) (w:=t3) (B:=N.heap.size) underlying59 kAi rfl bC8 bC8 kD.yg U (OB.own wH).rd dG E.size bM;refine kD.kV _ _ _ rfl bD1 bD1 hr ?_;obtain ⟨az,ar,bd,Z,ah⟩:=F.parts;obtain rfl:=Z;replace Y:=Y.keep bK;replace E:=E.trans L;clear hr L J U OB;have G:=F;clear F;refine H _ _ E ?_;clear H K R;refine jF ?_;refine kP (k:=10) rfl bC3 rfl (λK H=>?_);have R:=E.size;obtain ⟨v_,t5,hr,F,L,aq,J⟩:=kD.kBg (P:=prog) (t:=59) (ty:=59) (r:=kD.int) (e:=3) (w:=t4) (B:=N.heap.size) underlying59 kAi rfl bC8 bC8 kD.yg G (Y.own sM).rd dG E.size bM;refine kD.kV _ _ _ rfl bD1 bD1 hr ?_;obtain ⟨ba,an,a4,Z,ag⟩:=F.parts;obtain rfl:=Z;replace E:=E.trans L;clear hr L J G Y;have ac:=F;clear F;refine H _ _ E ?_;clear H K R;refine jF ?_;refine kQ 11 ?_;refine jf bC3 ?_;go_wp2;go_ret;exact ⟨_,rfl,(ac.cast bC1).wide qV,(tQ EB E)⟩):p:=h
def o5 (h:p:=by
 refine wpOp_mono go ?_;unfold wpOp;simp only [h0];exact h):p:=h
def o6 (h:p:=by
 refine ⟨ak,?_⟩;by_cases F:j=i
 · subst F;exact hy.wpOp hi hS ⟨hS,H⟩
 · have:=X _ _ _ H j (ready_mono I F);omega):p:=h
def o7 (h:p:=by
 refine ⟨ak,?_⟩;by_cases F:j=i
 · subst F;exact hy.wpOp hi hS ⟨hS,H⟩
 · have h1:=(H.2 j (ready_mono I F)).2;obtain ⟨W,J,N,G⟩:=mem_ready.1 I;have Z:∀ e∈J.after,Region.binds md e=true->e.on≠i:=λe he hb aa=>by
     have h1:=G e he hb;rw [aa,getD_both a6] at h1;cases h1
   have h2:=wpOp_putIf N (O j J N F W Z) (λcs b=>E i V cs b hi) (λcs b=>E j J cs b N) hQ hy h1;have U:∀ k ok,ops[k]?=some ok->k≠i->(listed.setIfInBounds j true).getD k true=false ->
       (∀ e∈ok.after,Region.binds md e=true->e.on≠i)->V.apart ops ok=true:=λk ok hk ac a6 hno=>by
     refine O k ok hk ac ?_ hno
     by_cases hjk:j=k
     · subst hjk;exact W
     · rw [getD_set_ne true hjk] at a6;exact a6
   refine wpOp_mono (λa' w' h3=>⟨h3.2.1,ih (listed.setIfInBounds j true) a' w' (inv.set I ak) U (ready_mono hr (Ne.symm F)) h3.1 h3.2.1 ?_⟩) h2;rw [Array.setIfInBounds_comm _ _ F];exact h3.2.2):p:=h
def o8 (h:p:=by
 have:l[i]?=some l.toArray[i]:=by simp
 simp only [kz,this]):p:=h
def o9 (h:p:=by
 refine ⟨by simpa [kDg] using hB,l.drop n,λj=>by simp [List.getElem?_drop],by simp;omega,?_⟩;simp only [kz,List.nil_append,List.map_nil] at h;generalize l.drop n=r at h ⊢;cases r <;> exact h):p:=h
def oC (h:p:=by
 unfold wpOp;simp only [h0];exact h):p:=h
def oD (h:p:=by
 subst O;have h1:=List.all_eq_true.1 hs i (List.mem_range.2 hi);rw [Y,Bool.false_or] at h1;obtain ⟨j,I,br⟩:=List.any_eq_true.1 h1;simp only [Bool.and_eq_true,decide_eq_true_eq,Bool.not_eq_true'] at br;obtain ⟨J,N,e,he,hb,o⟩:=Region.waitsFor_spec br.2.2;have U:j<=t:=rE;by_cases d3:j=t
 · subst d3;have:J=R:=Option.some.inj (N.symm.trans E);subst this;have h2:=G e he hb;rw [o,getD_both a6] at h2;cases h2
 · cases hl:listed.getD j false with
   | true =>
     have h2:=inv.closed j J N hl e he hb;rw [o,getD_both a6] at h2;cases h2
   | false =>
     have H:j < listed.size:=vM;exact ih (t - j) bC9 j rfl bC9 br.2.1 (getD_in H hl) t nL hr):p:=h
def oF (h:p:=by
 obtain ⟨j,I,br⟩:=List.any_eq_true.1 h1;simp only [Bool.and_eq_true,decide_eq_true_eq] at br;obtain ⟨V,L,e,he,hb,o⟩:=Region.waitsFor_spec br.2;have:V=R:=Option.some.inj (L.symm.trans E);subst this;have d3:j < t:=bB4;have h2:=G e he hb;rw [o,getD_both (inv.tail j bC9 bC9)] at h2;cases h2):p:=h
def oG (h:p:=by
 simp only [kDh,Bool.and_eq_true] at hB;simp only [kz,List.map_nil] at h;have h:S2 w/\kCl P l.toArray S2 Q k (kz l q2) (q2.map (·.2)) a w:=h;exact ⟨hB.1,hB.2,h.1,k,h.2⟩):p:=h
def oH (h:p:=by
 unfold tree at h;refine wp_region_held (S:=S) hm ?_;have e:(Array.replicate l.toArray.size false)=(List.replicate l.length false).toArray:=bD0;rw [e,show l.toArray.size=l.length by simp];exact h):p:=h
def oI (h:p:=by
 clear b0 b4 bh bv a8 ax N F;have b1:=yD (a3.out.trans (kDp ba.out BK.1));have ca:Hid ((Srt.sw cu j k).length=n):=yD (by rw [Srt.kAm];exact az.out);go_roundw;case rel=>exact ⟨k,Srt.sw cu j k,by go_num,by omega,by omega,b7,ca,a2,b1⟩
 simp [intOf];omega):p:=h
def oJ (h:p:=by
 have bf:Hid (Srt.outer key a (z - (i + 1)) (i + 1) cu=Srt.kBz key a z xs):=yD qF;go_wp2;go_roundw;case rel=>exact ⟨i + 1,cu,by go_num,by omega,.inl bC9,bf,az,bt,a3⟩
 simp [intOf];omega):p:=h
def oK (h:p:=by
 have HE:Hid (cur=Srt.kBz key a z xs):=yD ((kYb (key:=key) (a:=a) (cu:=cur) hlt).symm.trans HF.out);have c0:¬ (i:Int) < z:=bC9;go_wp2;go_end0;exact ⟨rfl,J.out.cast HE.out,L.out⟩):p:=h
def oL (h:p:=by
 clear b0 b4 bh bv a8 ax N F;have b1:=yD (a3.out.trans (kDp ba.out BK.1));have ca:Hid ((Srt.sw cu j k).length=n):=yD sN;go_roundw;case rel=>exact ⟨i + 1,Srt.sw cu j k,by go_num,by omega,b7,ca,a2,b1⟩
 simp [intOf];omega):p:=h
def oM (h:p:=by
 have HE:Hid (cu=Srt.swr c a z xs):=yD ((swr_end (a:=a) (b:=z) (cu:=cu) hlt).symm.trans HF.out);have c0:¬ (i:Int) < c:=bC9;go_wp2;go_end0;exact ⟨rfl,J.out.cast HE.out,L.out⟩):p:=h
def oN (h:p:=by
 rintro e V ⟨rfl,O2,T2⟩;have R:=yD O2;have am:=yD (L.out.trans T2);clear O2 T2;go_wp2;go_end0;exact ⟨rfl,R.out.cast HE.out,am.out⟩):p:=h
def oO (h:p:=by
 rintro e V ⟨rfl,O2,T2⟩;have R:=yD O2;have am:=yD (L.out.trans T2);have az:Hid ((Srt.swr q mp m cu).length=n):=yD sQ;clear O2 T2;go_wp2;go_roundw;case rel=>exact ⟨E,q,Srt.swr q mp m cu,rfl,rfl,by omega,hq,by omega,Y,HE,az,R,am⟩
 simp [intOf];omega):p:=h
def oP (h:p:=by
 rintro e V ⟨rfl,O2,T2⟩;have R:=yD O2;have am:=yD (L.out.trans T2);have az:Hid ((Srt.swr p mp o cu).length=n):=yD sQ;clear O2 T2;go_wp2;go_roundw;case rel=>exact ⟨p,E,Srt.swr p mp o cu,rfl,rfl,hp,by omega,N,by omega,HE,az,R,am⟩
 simp [intOf];omega):p:=h
def oQ (h:p:=by
 have FX:=yD (λ(W:World) (hW:Qb wr W)=>kIk hW av ad);refine yf (λW=>Qb wr W) [2,3,4] [(0,true),(1,true),(5,true),(6,true),(7,true),(8,true),(9,true),(10,true),(11,true),(12,true),(13,true),(14,true)] bC3 bC3 pK (bR.drew) ?_;intro wS E;simp only [kz,zF,List.length_cons,List.length_nil,List.getElem?_cons_succ,List.getElem?_cons_zero,List.map_cons,List.map_nil,List.cons_append,List.nil_append,List.drop_succ_cons,List.drop_zero,Nat.reduceAdd,Nat.zero_add];iterate 3
  refine kFe (v:=?_) rfl (λW=>?_) ?_;rotate_left;(· go_simp;try with_reducible rfl)
  refine jF ?_
 refine pre_nil ?_;iterate 12
  refine ku ?_
 refine jc ?_;have a3:=yD (br.out.trans (Touch.of_below E));replace ai:=yD (ai.out.below E);replace av:=cL E av;replace ad:=cL E ad;have BK:=kD.kCs ai.out aa;have a5:k * kD.int.n=k:=Nat.mul_one _;have X:j * kD.int.n=j:=Nat.mul_one _;have bh:wS.there b (k) 1:=mO;have bv:wS.there b (j) 1:=mY;have bc:∀ q u,([.int .i64 x]:List Value)[q]?=some u->wS.cell? ⟨b,k * kD.int.n + q,none⟩=some u:=tJ;have be:∀ q u,([.int .i64 y]:List Value)[q]?=some u->wS.cell? ⟨b,j * kD.int.n + q,none⟩=some u:=tV;obtain ⟨s1,s2⟩:=kD.kDs (ci:=[.int .i64 x]) (cj:=[.int .i64 y]) ai.out aa an bC9 rfl rfl bc be (pi:=k) (pj:=j) a5.symm X.symm;have a2:=yD s1;have ba:=yD s2;clear s1 s2 bc be a5 X;have ax:(prog.info? 3).map (·.size)=some 1:=fQ;have N:∀ c∈([.int .i64 x]:List Value),c.oneCell'=true:=cK;have F:∀ c∈([.int .i64 y]:List Value),c.oneCell'=true:=cK;refine yI rfl 3 _ _ rfl b (k) (.int .i64 y) [.int .i64 y] rfl bD1 bD1 bh ax F ?_;intro w5 a9;have a8:w5.there b (j) 1:=tF;have b0:=yD a9;clear a9;go_wp2_with (refine yI rfl 3 _ _ rfl b (j) (.int .i64 x) [.int .i64 x] rfl bD1 bD1 a8 ax N ?_);rw [<- b0.out] at a2 ba;generalize b4:kD.setCells w5 b (j) [.int .i64 x]=w6 at *;clear b0 b4 bh bv a8 ax N F;have b1:=yD (a3.out.trans (kDp ba.out BK.1));have ca:Hid ((Srt.sw cu k j).length=n):=yD sN;go_roundw;case rel=>exact ⟨j,Srt.sw cu k j,rfl,by omega,by omega,b7,ca,a2,b1⟩
 simp [intOf];omega):p:=h
def oU (h:p:=by
 obtain rfl:k=t:=bC9;have L:=yD (G.out.trans ((HG.out).symm.trans (up_end (cu:=cu) (by omega:¬ k < k))));have c7:¬ (k:Int) < k:=bC9;go_wp2;first | go_end0|((try simp only [Exit.inBlock,Exit.then]);refine bodyPost_ret (results_none rfl _ _ _) rfl ?_)
 exact ⟨rfl,ai.out.cast L.out.symm,br.out⟩):p:=h
def oV (h:p:=by
 have L:=yD (G.out.trans ((HG.out).symm.trans (down_end (cu:=cu) hlt)));have c7:¬ (q:Int) < k:=bC9;have al:decide ((k:Int) > q)=false:=bC4;go_wp2;first | go_end0|((try simp only [Exit.inBlock,Exit.then]);refine bodyPost_ret (results_none rfl _ _ _) rfl ?_)
 exact ⟨rfl,ai.out.cast L.out.symm,br.out⟩):p:=h
def oW (h:p:=by
 by_cases hmm:mid < m
 · have bv:(mid:Int) < m:=bC9;have dg:decide ((m:Int) > mid)=true:=bC4;have e1:lo=N - z:=by rw [ai.out,if_pos hmm]
   have e2:hi=mid:=by rw [a5.out,if_pos hmm]
   have e3:(N:Int) - (z:Int)=(lo:Int):=bC9;have e4:IntKind.i64.wrap (lo:Int)=lo:=IntWalk.i64_in _ bC9;go_wp2;go_meet;exact ⟨by first | rfl | rw [e1],by first | rfl | rw [e2],J,cc⟩
 have bv:¬ (mid:Int) < m:=bC9;have dg:decide ((m:Int) > mid)=false:=bC4;have e1:lo=a:=by rw [ai.out,if_neg hmm]
 have e2:hi=m:=by rw [a5.out,if_neg hmm]
 go_wp2;go_meet;exact ⟨by first | rfl | rw [e1],by first | rfl | rw [e2],J,cc⟩):p:=h
def oZ (h:p:=by
 by_cases g1:q < m
 · have Y:(q:Int) < m:=bC9;by_cases g2:m < e
   · have I:(m:Int) < e:=bC9;go_wp2;go_meet;exact ⟨by rw [decide_eq_true g1,decide_eq_true g2];rfl,R,am⟩
   have I:¬ (m:Int) < e:=bC9;go_wp2;go_meet;exact ⟨by rw [decide_eq_true g1,decide_eq_false g2];rfl,R,am⟩
 have Y:¬ (q:Int) < m:=bC9;go_wp2;go_meet;exact ⟨by rw [decide_eq_false g1];rfl,R,am⟩):p:=h
def p8 (h:p:=by
 rintro e2 V ⟨rfl,O2,T2⟩;have aa:=yD O2;have O:=yD (a9.out.trans T2);clear O2 T2;try go_wp2
 go_meet;exact ⟨yD (aa.out.cast (by rw [HY.out,if_pos g])),O⟩):p:=h
def pQ (h:p:=by
 have hb:(decide (q < m) && decide (m < e))=false:=by
  rcases Nat.lt_or_ge q m with q1 | q1
  · rw [decide_eq_true q1,decide_eq_false (λq2=>g ⟨q1,q2⟩)];rfl
  rw [decide_eq_false bC9];rfl
 simp only [hb];go_wp2;go_meet;exact ⟨yD (be.out.cast (by rw [HY.out,if_neg g])),a9⟩):p:=h
def q8 (h:p:=by
 by_cases g1:a < q
 · have Y:(a:Int) < q:=bC9;by_cases g2:q < mid
   · have I:(q:Int) < mid:=bC9;go_wp2;go_meet;exact ⟨by rw [decide_eq_true g1,decide_eq_true g2];rfl,bc,a8⟩
   have I:¬ (q:Int) < mid:=bC9;go_wp2;go_meet;exact ⟨by rw [decide_eq_true g1,decide_eq_false g2];rfl,bc,a8⟩
 have Y:¬ (a:Int) < q:=bC9;go_wp2;go_meet;exact ⟨by rw [decide_eq_false g1];rfl,bc,a8⟩):p:=h
def q9 (h:p:=by
 by_cases g:a < q/\q < mid
 · have hb:(decide (a < q) && decide (q < mid))=true:=mE;simp only [hb];go_wp2_with fail;refine (b4.out _ a q mid y al.out a2.out br.out vY g.1 g.2 vY bC9).mono ?_;rintro e2 V ⟨rfl,O2,T2⟩;have aa:=yD O2;have O:=yD (ba.out.trans T2);clear O2 T2;try go_wp2
   go_meet;exact ⟨yD (aa.out.cast (by rw [HU.out,if_pos g])),O⟩
 have hb:(decide (a < q) && decide (q < mid))=false:=by
  rcases Nat.lt_or_ge a q with q1 | q1
  · rw [decide_eq_true q1,decide_eq_false (λq2=>g ⟨q1,q2⟩)];rfl
  rw [decide_eq_false bC9];rfl
 simp only [hb];go_wp2;go_meet;exact ⟨yD (a2.out.cast (by rw [HU.out,if_neg g])),ba⟩):p:=h
def qD (h:p:=by
 by_cases g1:mid < e
 · have Y:(mid:Int) < e:=bC9;by_cases g2:e < z
   · have I:(e:Int) < z:=bC9;go_wp2;go_meet;exact ⟨by rw [decide_eq_true g1,decide_eq_true g2];rfl,ax,b1⟩
   have I:¬ (e:Int) < z:=bC9;go_wp2;go_meet;exact ⟨by rw [decide_eq_true g1,decide_eq_false g2];rfl,ax,b1⟩
 have Y:¬ (mid:Int) < e:=bC9;go_wp2;go_meet;exact ⟨by rw [decide_eq_false g1];rfl,ax,b1⟩):p:=h
def qG (h:p:=by
 by_cases g:mid < e/\e < z
 · have hb:(decide (mid < e) && decide (e < z))=true:=mE;simp only [hb];go_wp2_with fail;refine (b4.out _ mid e z u al.out bp.out co.out vZ g.1 g.2 vZ bC9).mono ?_;rintro e2 V ⟨rfl,O2,T2⟩;have aa:=yD O2;have O:=yD (b0.out.trans T2);clear O2 T2;go_wp2;first | go_end0|((try simp only [Exit.inBlock,Exit.then]);refine bodyPost_ret (results_none rfl _ _ _) rfl ?_)
   exact ⟨rfl,aa.out.cast (by rw [HF.out,if_pos g]),O.out⟩
 have hb:(decide (mid < e) && decide (e < z))=false:=by
  rcases Nat.lt_or_ge mid e with q1 | q1
  · rw [decide_eq_true q1,decide_eq_false (λq2=>g ⟨q1,q2⟩)];rfl
  rw [decide_eq_false bC9];rfl
 simp only [hb];go_wp2;first | go_end0|((try simp only [Exit.inBlock,Exit.then]);refine bodyPost_ret (results_none rfl _ _ _) rfl ?_)
 exact ⟨rfl,bp.out.cast (by rw [HF.out,if_neg g]),b0.out⟩):p:=h
def qW (h:p:=by
 go_wp2;go_loopw [8] (λi wr=>i=.int .i64 1/\wr=w) (λi _=>0);case atStart=>exact ⟨rfl,rfl⟩
 obtain ⟨rfl,hw⟩:=hrel;obtain rfl:=hw;go_wp2;go_end0;exact ⟨rfl,rfl⟩):p:=h
def r9 (h:p:=by
 rintro e V ⟨rfl,bq⟩;obtain rfl:=bq.symm;go_wp2;go_loopw [6,7,8] (λi _ _ wx=>i=.int .i64 20/\wx=wr) (λi _ _ _=>0);case atStart=>exact ⟨rfl,rfl⟩
 obtain ⟨rfl,hw⟩:=hrel;obtain rfl:=hw;go_wp2;go_end0;exact ⟨rfl,rfl⟩):p:=h
def rT (h:p:=by
 rintro e V ⟨rfl,O2,T2⟩;have R:=yD O2;have am:=yD (L.out.trans T2);clear O2 T2;have az:Hid ((Srt.kBz key p q cu).length=n):=yD (by rw [Srt.kCg];exact HL.out);go_wp2;go_roundw;case rel=>exact ⟨q,W,_,rfl,by first | rfl|(go_num),by omega,yD wG,D,az,R,am⟩
 simp [intOf];omega):p:=h
def sW (h:p:=by
 rintro e V ⟨rfl,O2,T2⟩;have ai:=yD O2;have br:=yD (am.out.trans T2);clear O2 T2;have aa:Hid ((Srt.symm key s2 p ps q cv).length=n):=yD (by rw [Srt.zu];exact az.out);go_wp2;go_roundw;case rel=>exact ⟨q,f3,_,rfl,by first | rfl|(go_num),by omega,yD (by have:=af.out;omega),a3,aa,ai,br⟩
 simp [intOf];omega):p:=h
def u6 (h:p:=by
 rintro e V ⟨rfl,O2,T2⟩;have ai:=yD (O2.cast I.out);have br:=yD (am.out.trans T2);clear O2 T2;have aa:Hid ((Srt.pass key n s (n + 1) 0 cu).length=n):=yD sS;go_wp2;go_roundw;case rel=>exact ⟨s2,W,_,rfl,by omega,by omega,yD wG,yD pR,aa,ai,br⟩
 simp [intOf];omega):p:=h
def u7 (h:p:=by
 have bv:¬ (ps:Int) < n:=bC9;have I:=yD ((pass_end (key:=key) (cu:=cv) a8 hm N F.out).symm.trans a1.out);have ai:=yD (R.out.cast I.out);have aa:Hid ((Srt.pass key n s (n + 1) 0 cu).length=n):=yD sS;go_wp2;go_roundw;case rel=>exact ⟨s2,W,_,rfl,by omega,by omega,yD wG,yD pR,aa,ai,am⟩
 simp [intOf];omega):p:=h
def uA (h:p:=by
 have a6:¬ (s:Int) < n:=bC9;have HE:=yD ((kUs (key:=key) (f:=f) (cu:=cu) hlt).symm.trans (HB.out.trans ae.out.symm));go_wp2;go_end0;exact ⟨rfl,J.out.cast HE.out,L.out⟩):p:=h
def uB (h:p:=by
 go_wp2_with fail;refine o.out.mono ?_;rintro e V ⟨rfl,bq⟩;obtain rfl:=bq.symm;go_wp2;go_end0;exact ⟨rfl,J.out,Touch.refl _ _⟩):p:=h
def uC (h:p:=by
 go_wp2_with fail;refine HC.out.mono ?_;rintro e V ⟨rfl,O2,T2⟩;have R:=yD O2;have am:=yD T2;clear O2 T2;go_wp2;go_end0;exact ⟨rfl,R.out,am.out⟩):p:=h
def uD (h:p:=by
 refine pre_nil ?_;iterate 12
  refine ku ?_
 refine jc ?_;have a3:=yD (br.out.trans (Touch.of_below E));replace ai:=yD (ai.out.below E);replace av:=cL E av;replace b2:=cL E b2;replace bz:=cL E bz;replace ad:=cL E ad;replace bk:=cL E bk;replace bl:=cL E bl;have BK:=kD.kCs ai.out aa;have a5:k * kY.n=k * 3:=rfl;have X:j * kY.n=j * 3:=rfl;have bh:wS.there b (k * 3) 3:=mO;have bv:wS.there b (j * 3) 3:=mY;have bc:∀ q u,([.slice bn (x.1).length bo,.int .i64 x.2.1,.int .i64 x.2.2]:List Value)[q]?=some u->wS.cell? ⟨b,k * kY.n + q,none⟩=some u:=qH;have be:∀ q u,([.slice ac (y.1).length ay,.int .i64 y.2.1,.int .i64 y.2.2]:List Value)[q]?=some u->wS.cell? ⟨b,j * kY.n + q,none⟩=some u:=qP;obtain ⟨s1,s2⟩:=kD.kDs (ci:=[.slice bn (x.1).length bo,.int .i64 x.2.1,.int .i64 x.2.2]) (cj:=[.slice ac (y.1).length ay,.int .i64 y.2.1,.int .i64 y.2.2]) ai.out aa an bC9 rfl rfl bc be (pi:=k * 3) (pj:=j * 3) a5.symm X.symm;have a2:=yD s1;have ba:=yD s2;clear s1 s2 bc be a5 X;have ax:(prog.info? 77).map (·.size)=some 3:=fT;have N:∀ c∈([.slice bn (x.1).length bo,.int .i64 x.2.1,.int .i64 x.2.2]:List Value),c.oneCell'=true:=bS;have F:∀ c∈([.slice ac (y.1).length ay,.int .i64 y.2.1,.int .i64 y.2.2]:List Value),c.oneCell'=true:=bS;refine yI rfl 77 _ _ rfl b (k * 3) (.agg #[.slice ac (y.1).length ay,Qn y.2.1,Qn y.2.2]) [.slice ac (y.1).length ay,.int .i64 y.2.1,.int .i64 y.2.2] rfl bD1 bD1 bh ax F ?_;intro w5 a9;have a8:w5.there b (j * 3) 3:=tF;have b0:=yD a9;clear a9;go_wp2_with (refine yI rfl 77 _ _ rfl b (j * 3) (.agg #[.slice bn (x.1).length bo,Qn x.2.1,Qn x.2.2]) [.slice bn (x.1).length bo,.int .i64 x.2.1,.int .i64 x.2.2] rfl bD1 bD1 a8 ax N ?_);rw [<- b0.out] at a2 ba;generalize b4:kD.setCells w5 b (j * 3) [.slice bn (x.1).length bo,.int .i64 x.2.1,.int .i64 x.2.2]=w6 at *;clear b0 b4 bh bv a8 ax N F;have b1:=yD (a3.out.trans (kDp ba.out BK.1));have ca:Hid ((Srt.sw cu k j).length=n):=yD sN;go_roundw;case rel=>exact ⟨j,Srt.sw cu k j,rfl,by omega,by omega,b7,ca,a2,b1⟩
 simp [intOf];omega):p:=h
def uE (h:p:=by
 go_wp2;go_roundw;case rel=>exact ⟨k + 1,sa,ma,sc,mc,s,m,by go_num,by omega,yD bC2,yD (J.out.wide sF),BX,BR,BO,by omega,U⟩
 simp [intOf];omega):p:=h
def uF (h:p:=by
 have am:=yD (show zf now (x0,(xc,xe),x2,x3,x4,x5,x6) (k + 1)=(s,m) by rw [db.out];unfold zT;rw [if_neg du,if_pos ei]);have fq:decide (0<=idxOf (ja y0) P)=true:=bB0;generalize idxOf (ja y0) P=ip at *;go_wp2;go_roundw;case rel=>exact ⟨k + 1,sa,ma,sc,mc,s,m,by go_num,by omega,yD bC2,yD (J.out.wide sF),BX,BR,BO,by omega,U⟩
 simp [intOf];omega):p:=h
def uG (h:p:=by
 clear R;go_wp2;go_roundw;case rel=>exact ⟨j + 1,va,vc,u2,by go_num,by omega,by omega,f8,J,BX,BR,BO,BT,by omega,U⟩
 simp [intOf];omega):p:=h
def uH (h:p:=by
 have am:=yD (show zf now (x0,(xc,xe),x2,x3,x4,x5,x6) (k + 1)=(u,m) by rw [dq.out,dm];rfl);go_wp2;go_roundw;case rel=>exact ⟨k + 1,ta,ma,tc,mc,u,m,by go_num,by omega,yD am.out.symm,yD (J.out.wide sF),BX,BR,BO,by omega,U⟩
 simp [intOf];omega):p:=h
def uI (h:p:=by
 have am:=yD (show zf now (x0,(xc,xe),x2,x3,x4,x5,x6) (k + 1)=(u,m) by rw [dq.out,dm];rfl);have e8:¬ (0:Int) < ([]:List Int).length:=bD0;go_wp2;go_roundw;case rel=>exact ⟨k + 1,ta,ma,tc,mc,u,m,by go_num,by omega,yD am.out.symm,yD (J.out.wide sF),BX,BR,BO,by omega,U⟩
 case measure=>simp [intOf];omega):p:=h
def uJ (h:p:=by
 replace BX:=kC BX hb;replace BR:=kC BR hb;replace BO:=kC BO hb;replace BT:=kC BT hb;replace BK:=kC BK hb;replace J:=yD (J.out.below hb);replace HK:=yD (HK.out.below hb);replace HF:=yD (HF.out.below hb);replace U:=(tQ U hb);clear G o H D N ag ab ah bo ar ax aw a1 a2 be bc a7;clear hb;obtain ⟨m2,b1⟩:∃ m2,kHj (zX y0 x4) f0 m=m2:=⟨_,rfl⟩;rw [b1] at O9;replace am:=yD (am.out.trans (by rw [b1]));clear b1;obtain ⟨va,vc,rfl,_⟩:=kD.sl O9.raw;have R:=yD ((kIz J.out O9 nI).wide (T:=(λj=>w.heap.size + 2<=j/\j < cv.heap.size/\j≠V.heap.size)) cB);clear J O9;obtain ⟨G,o,H,D,N,ag,ab,ah⟩:=jR BO;obtain ⟨ar,ax,aw,a1,a2,be,bc,a7⟩:=kAw BO;go_wp2;generalize F:World.setCell cv _ _=dn;have bb:Touch (λk=>k=V.heap.size) cv dn:=vO;replace BO:Qr dn V.heap.size #[Qs cc x0 ck,Qn xc,Qs c9 xe dh,Qs pa P pc,Qs ta u tc,Qs dd x4 df,Qs va m2 vc,Qn x6] 33:=by rw [<- F];exact kK BO 6
 have et:=bb.size;clear F;replace BX:=bb.kC BX bC9;replace BR:=bb.kC BR bC9;replace BT:=bb.kC BT bC9;replace BK:=bb.kC BK bC9;replace R:=yD (R.out.touch bb pJ);replace U:=U.trans (bb.below U.size wM);clear G o H D N ag ab ah ar ax aw a1 a2 be bc a7;clear bb;have J:=yD (R.out.wide (T:=(λj=>w.heap.size + 2<=j/\j < dn.heap.size/\j≠V.heap.size)) sF);clear R;go_wp2;go_roundw;case rel=>exact ⟨k + 1,ta,va,tc,vc,u,m2,by go_num,by omega,yD am.out.symm,yD (J.out.wide sF),BX,BR,BO,by omega,U⟩
 case measure=>simp [intOf];omega):p:=h
def uK (h:p:=by
 obtain ⟨_,_,rfl,ad,ag⟩:=kD.yN h;have aj:=kZ ad;obtain ⟨_,rfl,o⟩:=aj;obtain ⟨_,_,rfl,a3,F⟩:=kD.yN ag;obtain ⟨rfl,ai⟩:=kD.jY a3;obtain ⟨rfl,bd⟩:=kD.jY F;exact ⟨_,rfl,ad,o,ai,bd⟩):p:=h
def uL (h:p:=by
 obtain ⟨c0,Y,A0,B0,rfl,Z,X,I,O,J⟩:=h;obtain ⟨c1,N,A1,B1,rfl,L,q1,hA1,H,hd1⟩:=X;obtain ⟨rfl,_⟩:=q1;have l0:=kD.len _ Z;have l1:=kD.len _ L;change _=1 at l0;change _=1 at l1;have e:((c0++(c1++[.int .i64 x.2.2])):List Value).set 2 (.int .i64 v)=(c0++(c1++[.int .i64 v])):=by
  obtain ⟨o,rfl⟩:∃ o,c0=[o]:=nY;obtain ⟨D,rfl⟩:∃ D,c1=[D]:=nZ;rfl
 rw [e];exact ⟨_,_,A0,B0,rfl,Z,⟨_,_,A1,B1,rfl,L,⟨rfl,hv⟩,hA1,H,hd1⟩,I,O,J⟩):p:=h
def uM (h:p:=by
 obtain ⟨_,_,rfl,ad,ag⟩:=kD.yN h;have aj:=kZ ad;obtain ⟨_,rfl,o⟩:=aj;obtain ⟨rfl,ai⟩:=kD.jY ag;exact ⟨_,rfl,ad,o,ai⟩):p:=h
def uN (h:p:=by
 go_wp2;go_ret;exact ⟨kX dV,o⟩):p:=h
def uO (h:p:=by
 have bw:=an.size;have cg:=E.size;have be:=yD au;clear au;go_wp2;go_ret;exact ⟨_,rfl,be.out.wide fM,F⟩):p:=h
def uP (h:p:=by
 go_simp;generalize X:World.alloc wS _=t0;have V:Qb wS t0:=rO;have bl:=V.size;clear X;replace E:=(tQ E V);refine H _ _ E ?_;clear H K V;refine jF ?_;refine je (i:=4) (j:=6) rfl rfl bC3 rfl rfl (λK H=>?_) (λK H=>?_)
 · have bi:=E.size;obtain ⟨v1,t1,hr,U,L,bk⟩:=jP (w:=t0) (v:=.slice (some ⟨wS.heap.size,0,none⟩) 0 0) (xs:=[]) (S:=λ_=>False) (B:=t0.heap.size) kD.kR.void (ag.out.below E) (λ_ h=>h.elim) nL bC4;refine kD.kV _ _ _ rfl bD1 bD1 hr ?_;obtain ⟨a1,n1,c1,ab,ar⟩:=U.parts;obtain rfl:=ab;replace E:=(tQ E L);refine H _ _ E ?_;clear H K hr L;refine jF ?_;refine kP (k:=6) rfl bC3 rfl (λK H=>?_);have bh:=E.size;go_simp;have Y:=kAh (w:=t1) (cs:=[.slice ra r.1.length rp,.int .i64 r.2.1,.int .i64 r.2.2]) (x:=r) (show (kD.kEp kY w0).is true _ [_,_,_] r _ from HR.out.1) HR.out.2;have O:Below t1.heap.size t1 (World.alloc t1 (.cells #[.slice ra r.1.length rp,.int .i64 r.2.1,.int .i64 r.2.2] 77)):=bR.alloc nL _;exact iN
 have bi:=E.size;go_simp;have Y:=kAh (w:=t0) (cs:=[.slice ra r.1.length rp,.int .i64 r.2.1,.int .i64 r.2.2]) (x:=r) (show (kD.kEp kY w0).is true _ [_,_,_] r _ from HR.out.1) HR.out.2;have O:Below t0.heap.size t0 (World.alloc t0 (.cells #[.slice ra r.1.length rp,.int .i64 r.2.1,.int .i64 r.2.2] 77)):=bR.alloc nL _;generalize X:World.alloc t0 (.cells #[.slice ra r.1.length rp,.int .i64 r.2.1,.int .i64 r.2.2] 77)=t1 at Y O ⊢;have bk:=O.size;have V:=O;clear X O;replace E:=(tQ E V);refine H _ _ E ?_;clear H K V;refine jF ?_;refine kP (k:=4) rfl bC3 rfl (λK H=>?_);have bh:=E.size;exact iO):p:=h
def uQ (h:p:=by
 have bo:=E.size;go_simp;have Y:=kAh (w:=wS) (cs:=[.slice ra r.1.length rp,.int .i64 r.2.1,.int .i64 r.2.2]) (x:=r) (show (kD.kEp kY w0).is true _ [_,_,_] r _ from HR.out.1) HR.out.2;have O:Below wS.heap.size wS (World.alloc wS (.cells #[.slice ra r.1.length rp,.int .i64 r.2.1,.int .i64 r.2.2] 77)):=bR.alloc nL _;generalize X:World.alloc wS (.cells #[.slice ra r.1.length rp,.int .i64 r.2.1,.int .i64 r.2.2] 77)=t0 at Y O ⊢;have bl:=O.size;have V:=O;clear X O;replace E:=(tQ E V);refine H _ _ E ?_;clear H K V;refine jF ?_;refine kP (k:=0) rfl bC3 rfl (λK H=>?_);have bi:=E.size;go_simp;generalize X:World.alloc t0 _=t1;have V:Qb t0 t1:=rO;have bk:=V.size;clear X;replace Y:=Y.below V;replace E:=(tQ E V);refine H _ _ E ?_;clear H K V;refine jF ?_;refine kP (k:=4) rfl bC3 rfl (λK H=>?_);have bh:=E.size;exact iP):p:=h
def uR (h:p:=by
 go_simp;generalize X:World.alloc wS _=t0;have V:Qb wS t0:=rO;have bl:=V.size;clear X;replace E:=(tQ E V);refine H _ _ E ?_;clear H K V;refine jF ?_;refine je (i:=4) (j:=6) rfl rfl bC3 rfl rfl (λK H=>?_) (λK H=>?_)
 · have bi:=E.size;obtain ⟨v1,t1,hr,U,L,bk⟩:=jP (w:=t0) (v:=.slice (some ⟨wS.heap.size,0,none⟩) 0 0) (xs:=[]) (S:=λ_=>False) (B:=t0.heap.size) kD.kR.void (ag.out.below E) (λ_ h=>h.elim) nL bC4;refine kD.kV _ _ _ rfl bD1 bD1 hr ?_;obtain ⟨a1,n1,c1,ab,ar⟩:=U.parts;obtain rfl:=ab;replace E:=(tQ E L);refine H _ _ E ?_;clear H K hr L;refine jF ?_;refine kP (k:=6) rfl bC3 rfl (λK H=>?_);have bh:=E.size;go_simp;have Y:=kAh (w:=t1) (cs:=[.slice ra r.1.length rp,.int .i64 r.2.1,.int .i64 r.2.2]) (x:=r) (show (kD.kEp kY w0).is true _ [_,_,_] r _ from HR.out.1) HR.out.2;have O:Below t1.heap.size t1 (World.alloc t1 (.cells #[.slice ra r.1.length rp,.int .i64 r.2.1,.int .i64 r.2.2] 77)):=bR.alloc nL _;exact iQ
 have bi:=E.size;go_simp;have Y:=kAh (w:=t0) (cs:=[.slice ra r.1.length rp,.int .i64 r.2.1,.int .i64 r.2.2]) (x:=r) (show (kD.kEp kY w0).is true _ [_,_,_] r _ from HR.out.1) HR.out.2;have O:Below t0.heap.size t0 (World.alloc t0 (.cells #[.slice ra r.1.length rp,.int .i64 r.2.1,.int .i64 r.2.2] 77)):=bR.alloc nL _;generalize X:World.alloc t0 (.cells #[.slice ra r.1.length rp,.int .i64 r.2.1,.int .i64 r.2.2] 77)=t1 at Y O ⊢;have bk:=O.size;have V:=O;clear X O;replace E:=(tQ E V);refine H _ _ E ?_;clear H K V;refine jF ?_;refine kP (k:=4) rfl bC3 rfl (λK H=>?_);have bh:=E.size;exact iR):p:=h
def uS (h:p:=by
 have bo:=E.size;go_simp;have Y:=kAh (w:=wS) (cs:=[.slice ra r.1.length rp,.int .i64 r.2.1,.int .i64 r.2.2]) (x:=r) (show (kD.kEp kY w0).is true _ [_,_,_] r _ from HR.out.1) HR.out.2;have O:Below wS.heap.size wS (World.alloc wS (.cells #[.slice ra r.1.length rp,.int .i64 r.2.1,.int .i64 r.2.2] 77)):=bR.alloc nL _;generalize X:World.alloc wS (.cells #[.slice ra r.1.length rp,.int .i64 r.2.1,.int .i64 r.2.2] 77)=t0 at Y O ⊢;have bl:=O.size;have V:=O;clear X O;replace E:=(tQ E V);refine H _ _ E ?_;clear H K V;refine jF ?_;refine kP (k:=0) rfl bC3 rfl (λK H=>?_);have bi:=E.size;go_simp;generalize X:World.alloc t0 _=t1;have V:Qb t0 t1:=rO;have bk:=V.size;clear X;replace Y:=Y.below V;replace E:=(tQ E V);refine H _ _ E ?_;clear H K V;refine jF ?_;refine kP (k:=4) rfl bC3 rfl (λK H=>?_);have bh:=E.size;exact iT):p:=h
def uT (h:p:=by
 have aq:Qd w9 w4 0 (.slice bc x0.length be):=kE BY rfl;have ah:Qd w9 w4 1 (.int .i64 kc):=kE BY rfl;have ad:Qd w9 w4 2 (.slice ce ye.length bh):=kE BY rfl;have am:Qd w9 w4 3 (.slice b6 y2.length bf):=kE BY rfl;have N:Qd w9 w4 4 (.slice b2 y3.length bn):=kE BY rfl;have J:Qd w9 w4 5 (.slice b1 x4.length bo):=kE BY rfl;have G:Qd w9 w4 6 (.slice b3 y5.length bp):=kE BY rfl;exact iV):p:=h
def uU (h:p:=by
 have aq:Qd bj w4 0 (.slice bc x0.length be):=kE BY rfl;have ah:Qd bj w4 1 (.int .i64 kc):=kE BY rfl;have ad:Qd bj w4 2 (.slice ce ye.length bh):=kE BY rfl;have am:Qd bj w4 3 (.slice b6 y2.length bf):=kE BY rfl;have N:Qd bj w4 4 (.slice b2 y3.length bn):=kE BY rfl;have J:Qd bj w4 5 (.slice b1 x4.length bo):=kE BY rfl;have G:Qd bj w4 6 (.slice b3 y5.length bp):=kE BY rfl;exact iW):p:=h
def uV (h:p:=by
 obtain ⟨k,hk,rfl,HN,o⟩:=hrel;by_cases hlt:k < a.length
 · have az:k < b.length:=vN;obtain ⟨ba,H,rfl,c0,hr,A0⟩:=kD.kCv (ad.below o) hlt rfl;obtain ⟨bb,J,rfl,Y,G,B0⟩:=kD.kCv (ag.below o) az rfl;obtain ⟨he,_⟩:=kD.zi hr;obtain rfl:c0=_:=by simpa using he
   obtain ⟨I,_⟩:=kD.zi G;obtain rfl:Y=_:=by simpa using I
   clear he I hr G;have hne:=λq=>kCf hlt az q;have bx:=λq=>zW HN.out hlt az q;generalize a[k]=x at *;generalize b[k]=y at *;have HD:=yD hne;have HX:=yD bx;clear hne bx;go_wp2_with fail;have FX:=yD (λ(W:World) (hW:Qb wr W)=>kIk hW A0 B0);refine kM (λW=>Qb wr W) [true,true,true,true,true,true,true,true,true] bC3 bC3 pK (bR.drew) ?_;intro wS E;iterate 9
    all_goals refine ku ?_
   all_goals refine kS ?_
   exact lD
 exact lF):p:=h
def uW (h:p:=by
 clear X;replace E:=(tQ E V);refine H _ _ E ?_;clear H K V;refine jF ?_;refine je (i:=4) (j:=9) rfl rfl bC3 rfl rfl (λK H=>?_) (λK H=>?_)
 · have bi:=E.size;obtain ⟨v1,t1,hr,U,L,bk⟩:=jg (w:=t0) (v:=.slice (some ⟨wS.heap.size,0,none⟩) 0 0) (xs:=[]) (S:=λ_=>False) (B:=t0.heap.size) kD.kR.void (ag.out.below E) (λ_ h=>h.elim) nL bC4;refine kD.kV _ _ _ rfl bD1 bD1 hr ?_;obtain ⟨a1,n1,c1,ab,ar⟩:=U.parts;obtain rfl:=ab;replace E:=(tQ E L);refine H _ _ E ?_;clear H K hr L;refine jF ?_;refine kP (k:=9) rfl bC3 rfl (λK H=>?_);have bh:=E.size;go_simp;have Y:=kCd (w:=t1) (cs:=[.int .i64 x]) (x:=x) (show kD.int.is true _ [.int .i64 x] x _ from ⟨rfl,Z⟩) trivial;have O:Below t1.heap.size t1 (World.alloc t1 (.cells #[.int .i64 x] 3)):=bR.alloc nL _;generalize X:World.alloc t1 (.cells #[.int .i64 x] 3)=t2 at Y O ⊢;have be:=O.size;exact lJ
 have bi:=E.size;go_simp;have Y:=kCd (w:=t0) (cs:=[.int .i64 x]) (x:=x) (show kD.int.is true _ [.int .i64 x] x _ from ⟨rfl,Z⟩) trivial;have O:Below t0.heap.size t0 (World.alloc t0 (.cells #[.int .i64 x] 3)):=bR.alloc nL _;generalize X:World.alloc t0 (.cells #[.int .i64 x] 3)=t1 at Y O ⊢;have bk:=O.size;have V:=O;clear X O;replace E:=(tQ E V);refine H _ _ E ?_;clear H K V;refine jF ?_;refine kP (k:=4) rfl bC3 rfl (λK H=>?_);have bh:=E.size;obtain ⟨v1,t2,hr,U,L,be⟩:=jg (w:=t1) (v:=.slice (some ⟨wS.heap.size,0,none⟩) 0 0) (xs:=[]) (S:=λ_=>False) (B:=t1.heap.size) kD.kR.void (ag.out.below E) (λ_ h=>h.elim) nL bC4;refine kD.kV _ _ _ rfl bD1 bD1 hr ?_;exact lK):p:=h
def uX (h:p:=by
 have bo:=E.size;go_simp;have Y:=kCd (w:=wS) (cs:=[.int .i64 x]) (x:=x) (show kD.int.is true _ [.int .i64 x] x _ from ⟨rfl,Z⟩) trivial;have O:Below wS.heap.size wS (World.alloc wS (.cells #[.int .i64 x] 3)):=bR.alloc nL _;generalize X:World.alloc wS (.cells #[.int .i64 x] 3)=t0 at Y O ⊢;have bl:=O.size;have V:=O;clear X O;replace E:=(tQ E V);refine H _ _ E ?_;clear H K V;refine jF ?_;refine kP (k:=0) rfl bC3 rfl (λK H=>?_);have bi:=E.size;go_simp;generalize X:World.alloc t0 _=t1;have V:Qb t0 t1:=rO;have bk:=V.size;clear X;replace Y:=Y.below V;replace E:=(tQ E V);refine H _ _ E ?_;clear H K V;refine jF ?_;refine kP (k:=4) rfl bC3 rfl (λK H=>?_);have bh:=E.size;obtain ⟨v1,t2,hr,U,L,be⟩:=jg (w:=t1) (v:=.slice (some ⟨t0.heap.size,0,none⟩) 0 0) (xs:=[]) (S:=λ_=>False) (B:=t1.heap.size) kD.kR.void (ag.out.below E) (λ_ h=>h.elim) nL bC4;refine kD.kV _ _ _ rfl bD1 bD1 hr ?_;exact lK):p:=h
def uY (h:p:=by
 clear X;replace E:=(tQ E V);refine H _ _ E ?_;clear H K V;refine jF ?_;refine je (i:=4) (j:=9) rfl rfl bC3 rfl rfl (λK H=>?_) (λK H=>?_)
 · have bi:=E.size;obtain ⟨v1,t1,hr,U,L,bk⟩:=jg (w:=t0) (v:=.slice (some ⟨wS.heap.size,0,none⟩) 0 0) (xs:=[]) (S:=λ_=>False) (B:=t0.heap.size) kD.kR.void (ag.out.below E) (λ_ h=>h.elim) nL bC4;refine kD.kV _ _ _ rfl bD1 bD1 hr ?_;obtain ⟨a1,n1,c1,ab,ar⟩:=U.parts;obtain rfl:=ab;replace E:=(tQ E L);refine H _ _ E ?_;clear H K hr L;refine jF ?_;refine kP (k:=9) rfl bC3 rfl (λK H=>?_);have bh:=E.size;go_simp;have Y:=kCd (w:=t1) (cs:=[.int .i64 x]) (x:=x) (show kD.int.is true _ [.int .i64 x] x _ from ⟨rfl,Z⟩) trivial;have O:Below t1.heap.size t1 (World.alloc t1 (.cells #[.int .i64 x] 3)):=bR.alloc nL _;generalize X:World.alloc t1 (.cells #[.int .i64 x] 3)=t2 at Y O ⊢;have be:=O.size;exact lM
 have bi:=E.size;go_simp;have Y:=kCd (w:=t0) (cs:=[.int .i64 x]) (x:=x) (show kD.int.is true _ [.int .i64 x] x _ from ⟨rfl,Z⟩) trivial;have O:Below t0.heap.size t0 (World.alloc t0 (.cells #[.int .i64 x] 3)):=bR.alloc nL _;generalize X:World.alloc t0 (.cells #[.int .i64 x] 3)=t1 at Y O ⊢;have bk:=O.size;have V:=O;clear X O;replace E:=(tQ E V);refine H _ _ E ?_;clear H K V;refine jF ?_;refine kP (k:=4) rfl bC3 rfl (λK H=>?_);have bh:=E.size;obtain ⟨v1,t2,hr,U,L,be⟩:=jg (w:=t1) (v:=.slice (some ⟨wS.heap.size,0,none⟩) 0 0) (xs:=[]) (S:=λ_=>False) (B:=t1.heap.size) kD.kR.void (ag.out.below E) (λ_ h=>h.elim) nL bC4;refine kD.kV _ _ _ rfl bD1 bD1 hr ?_;exact lN):p:=h
def uZ (h:p:=by
 have bo:=E.size;go_simp;have Y:=kCd (w:=wS) (cs:=[.int .i64 x]) (x:=x) (show kD.int.is true _ [.int .i64 x] x _ from ⟨rfl,Z⟩) trivial;have O:Below wS.heap.size wS (World.alloc wS (.cells #[.int .i64 x] 3)):=bR.alloc nL _;generalize X:World.alloc wS (.cells #[.int .i64 x] 3)=t0 at Y O ⊢;have bl:=O.size;have V:=O;clear X O;replace E:=(tQ E V);refine H _ _ E ?_;clear H K V;refine jF ?_;refine kP (k:=0) rfl bC3 rfl (λK H=>?_);have bi:=E.size;go_simp;generalize X:World.alloc t0 _=t1;have V:Qb t0 t1:=rO;have bk:=V.size;clear X;replace Y:=Y.below V;replace E:=(tQ E V);refine H _ _ E ?_;clear H K V;refine jF ?_;refine kP (k:=4) rfl bC3 rfl (λK H=>?_);have bh:=E.size;obtain ⟨v1,t2,hr,U,L,be⟩:=jg (w:=t1) (v:=.slice (some ⟨t0.heap.size,0,none⟩) 0 0) (xs:=[]) (S:=λ_=>False) (B:=t1.heap.size) kD.kR.void (ag.out.below E) (λ_ h=>h.elim) nL bC4;refine kD.kV _ _ _ rfl bD1 bD1 hr ?_;exact lN):p:=h
def vF (h:p:=by
 refine jF ?_;refine kP (k:=10) rfl bC3 rfl (λK H=>?_);have R:=E.size;obtain ⟨v_,t5,hr,F,L,aq,J⟩:=kD.kBg (P:=prog) (t:=59) (ty:=59) (r:=kD.int) (e:=3) (w:=t4) (B:=N.heap.size) underlying59 kAi rfl bC8 bC8 kD.yg G (Y.own sM).rd dG E.size bM;refine kD.kV _ _ _ rfl bD1 bD1 hr ?_;obtain ⟨ba,an,a4,Z,ag⟩:=F.parts;obtain rfl:=Z;replace E:=E.trans L;clear hr L J G Y;have ac:=F;clear F;refine H _ _ E ?_;clear H K R;refine jF ?_;refine kQ 11 ?_;refine jf bC3 ?_;go_wp2;go_ret;exact ⟨_,rfl,(ac.cast bC1).wide qV,(tQ EB E)⟩):p:=h
def vJ (h:p:=by
 replace E:=(tQ E V);refine H _ _ E ?_;clear H K V;clear R;refine jF ?_;refine kP (k:=4) rfl bC3 rfl (λK H=>?_);go_simp;refine (kCz RV (HK.out.below (tQ EB E))).mono ?_;rintro e t2 ⟨ax,rfl,O,hb⟩;obtain ⟨av,ay,aw,ab,aj⟩:=O.parts;obtain rfl:=ab;have be:=hb.size;have OA:=O.wide (T:=jX t1.heap.size t2.heap.size) mV;clear O;clear RV;replace U:=U.below hb;replace Y:=Y.below hb;replace E:=(tQ E hb);refine H _ _ E ?_;clear H K hb;refine jF ?_;refine kP (k:=5) rfl bC3 rfl (λK H=>?_);go_simp;refine (kAb (OA.own wH).rd.1 bC9).mono ?_;rintro e t3 ⟨ao,rfl,o,hb⟩;obtain ⟨ak,am,au,aa,af⟩:=o.parts;obtain rfl:=aa;have bc:=hb.size;have OB:=o.wide (T:=jX t2.heap.size t3.heap.size) mV;exact mI):p:=h
def vX (h:p:=by
 have FX:=yD (λ(W:World) (hW:Qb wr W)=>kKa hW av b2 bz ad bk bl);refine yf (λW=>Qb wr W) [2,3,4] [(0,true),(1,true),(5,true),(6,true),(7,true),(8,true),(9,true),(10,true),(11,true),(12,true),(13,true),(14,true)] bC3 bC3 pK (bR.drew) ?_;intro wS E;simp only [kz,zF,List.length_cons,List.length_nil,List.getElem?_cons_succ,List.getElem?_cons_zero,List.map_cons,List.map_nil,List.cons_append,List.nil_append,List.drop_succ_cons,List.drop_zero,Nat.reduceAdd,Nat.zero_add];iterate 3
  refine kFe (v:=?_) rfl (λW=>?_) ?_;rotate_left;(· go_simp;try with_reducible rfl)
  refine jF ?_
 exact uD):p:=h
def x8 (h:p:=by
 have bq:=am.size;go_upto_region 4 with fail;by_cases bv:k < lp
 · have bt:¬ lp=k:=bC9;rcases ba.out with ⟨h1,h2⟩|⟨b,hb⟩
   · exact absurd bv bC9
   first | subst hb|(simp only [Option.some.injEq,Addr.mk.injEq,and_true] at hb;obtain ⟨rfl,rfl⟩:=hb)
   have ax:=yD (kD.kTd bf.out (k:=k) bx);rw [Nat.zero_add,show k * (kD.kEp kY w0).n=k * 3 from rfl] at ax;have FX:=yD (λ(W:World) (hW:Qb wq W)=>kJd hW K0 K1 K2);refine yR (λW=>Qb wq W) bC3 (bR.drew) ?_;intro wS E;refine kQ 1 ?_;refine kQ 2 ?_;refine kQ 3 ?_;refine kQ 5 ?_;refine kQ 8 ?_;refine kQ 9 ?_;refine kQ 10 ?_;refine je (i:=0) (j:=6) rfl rfl bC3 rfl rfl (λK H=>?_) (λK H=>?_)
   · have bo:=E.size;exact uP
   exact uQ
 have bt:lp=k:=bC9;subst bt;have ax:=λ(ad:Option Addr)=>yD (show (kD.slice 77 (kD.kEp kY w0)).rd wq [.slice ad 0 0] (l.drop lp) from by rw [List.drop_eq_nil_of_le bC9];exact kD.kSy vK);have FX:=yD (λ(W:World) (hW:Qb wq W)=>kJd hW K0 K1 K2);refine yR (λW=>Qb wq W) bC3 (bR.drew) ?_;intro wS E;refine kQ 1 ?_;refine kQ 2 ?_;refine kQ 3 ?_;refine kQ 5 ?_;refine kQ 8 ?_;refine kQ 9 ?_;refine kQ 10 ?_;refine je (i:=0) (j:=6) rfl rfl bC3 rfl rfl (λK H=>?_) (λK H=>?_)
 · have bo:=E.size;exact uR
 exact uS):p:=h
def x9 (h:p:=by
 first | subst hb|(simp only [Option.some.injEq,Addr.mk.injEq,and_true] at hb;obtain ⟨rfl,rfl⟩:=hb)
 have bt:¬ cap=k:=bC9;have ax:=yD (kD.kTd bf.out (k:=k) vS);rw [Nat.zero_add,show k * kD.int.n=k from Nat.mul_one k] at ax;have FX:=yD (λ(W:World) (hW:Qb wq W)=>cL hW ae);refine yR (λW=>Qb wq W) bC3 (bR.drew) ?_;intro wS E;refine kQ 1 ?_;refine kQ 2 ?_;refine kQ 3 ?_;refine kQ 5 ?_;refine kQ 6 ?_;refine kQ 7 ?_;refine kQ 8 ?_;refine kQ 11 ?_;refine kQ 12 ?_;refine kQ 13 ?_;refine je (i:=0) (j:=9) rfl rfl bC3 rfl rfl (λK H=>?_) (λK H=>?_)
 · have bo:=E.size;go_simp;generalize X:World.alloc wS _=t0;have V:Qb wS t0:=rO;have bl:=V.size;exact uW
 exact uX):p:=h
def xA (h:p:=by
 have bt:cap=k:=bC9;subst bt;have ax:=λ(ad:Option Addr)=>yD (show (kD.slice 3 kD.int).rd wq [.slice ad 0 0] (LL.drop cap) from by rw [List.drop_eq_nil_of_le vS];exact kD.kSy vK);have FX:=yD (λ(W:World) (hW:Qb wq W)=>cL hW ae);refine yR (λW=>Qb wq W) bC3 (bR.drew) ?_;intro wS E;refine kQ 1 ?_;refine kQ 2 ?_;refine kQ 3 ?_;refine kQ 5 ?_;refine kQ 6 ?_;refine kQ 7 ?_;refine kQ 8 ?_;refine kQ 11 ?_;refine kQ 12 ?_;refine kQ 13 ?_;refine je (i:=0) (j:=9) rfl rfl bC3 rfl rfl (λK H=>?_) (λK H=>?_)
 · have bo:=E.size;go_simp;generalize X:World.alloc wS _=t0;have V:Qb wS t0:=rO;have bl:=V.size;exact uY
 exact uZ):p:=h
def xB (h:p:=by
 clear E;have bf:=yD (a8.out.below am);have ag:=yD (kD.kOc bf.out (k:=k) bx);have b0:l.length < 16777216:=hlen;exact x8):p:=h
def xC (h:p:=by
 clear E;have bf:=yD ((ai.out.own (by have:=HM.out;unfold Big;omega)).rd);have ag:=yD (kD.kOc bf.out (k:=k) vS);have b0:LL.length<=16777216:=vS;go_upto_region 8 with fail;by_cases bv:k < cap
 · rcases kD.kPx ai.out with ⟨h1,h2⟩|⟨b,hb⟩
   · exact absurd bv bC9
   exact x9
 exact xA):p:=h
end Go.Proofs.YtonmjkmaadgceabGreat
