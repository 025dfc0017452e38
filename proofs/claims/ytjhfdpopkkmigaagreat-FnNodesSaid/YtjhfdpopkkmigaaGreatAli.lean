/-
  Short names for five lemmas.
-/
import Derived.Test.YtjhfdpopkkmigaaGreatProg
import Derived.ArgAppend
import Derived.BigQuiet
import Derived.Deep.Cut
import Derived.Deep.CutBlock
import Derived.Deep.CutRange
import Derived.Deep.MidRow
import Derived.Deep.OwnRows
import Derived.Deep.QuietTactic
import Derived.Deep.Slices
import Derived.IntWalk
import Derived.Laws.AppendOwn
import Derived.Laws.BitsLemmas
import Derived.Laws.BytesArg
import Derived.Laws.Concat
import Derived.Laws.CopyRow
import Derived.Laws.IdiomCopy
import Derived.Laws.IdiomStrings
import Derived.Lib.AppendZeros
import Derived.Lib.ConvBytes
import Derived.Lib.Hide
import Derived.Lib.ItoaNum
import Derived.OpenShut
import Derived.OrdersHeld
import Derived.OwnWalk
import Derived.ProofKit
import Derived.Shelf.Spec.SlicesInsertGrow
import Derived.StillTail
import Derived.StillTailTactics
import Derived.WalkKit
import Derived.WalkLawsBesides
import Derived.WalkSpells
set_option linter.unusedVariables false
set_option linter.defProp false
set_option linter.unusedSimpArgs false
set_option linter.unnecessarySimpa false
namespace Go.Proofs.YtjhfdpopkkmigaaGreat
open Go Go.RowKit _root_.Go.Proofs.Tryz
inductive Qx (p:Prop)|k
instance {p:Prop}:CoeSort (Qx p) Prop:=⟨λ_=>p⟩
instance {p:Prop}:CoeOut (Qx p) Prop:=⟨λ_=>p⟩
inductive Qy {α:Type} (a:α)|k
instance {α:Type} {a:α}:CoeOut (Qy a) α:=⟨λ_=>a⟩
def Qb (w v:World):Qx (Below w.heap.size w v):=.k
def Qi (n:Int):Qx (-9223372036854775808<=n/\n<=9223372036854775807):=.k
def Qc (w:World) (b o:Nat) (v:Value):Qx (w.cell? ⟨b,o,none⟩=some v):=.k
def Qd (w u:World) (o:Nat) (v:Value):Qx (w.cell? ⟨u.heap.size,o,none⟩=some v):=.k
def Qr (w:World) (b:Nat) (c:Array Value) (t:Nat):Qx (w.heap[b]?=some (.cells c t (0,0))):=.k
def Ql (u v:World) (b:Nat):Qy (λk:Nat=>u.heap.size<=k/\k < v.heap.size/\k≠b):=.k
def Qs {α:Type} (a:Option Addr) (l:List α) (c:Nat):Qy (Value.slice a l.length c):=.k
def Qn (n:Int):Qy (Value.int .i64 n):=.k
def zA {α : Type} (l : List α) (i : Nat) (a : α) : l.toArray.setIfInBounds i a = (l.set i a).toArray := List.setIfInBounds_toArray l i a
def zB {α : Type} {x : α} {xs : List α} {a : α} : (x :: xs).set 0 a = a :: xs := rfl
def zC {α : Type} {x : α} {xs : List α} {i : Nat} {a : α} : (x :: xs).set (i + 1) a = x :: xs.set i a := rfl
def yD {p : Prop} (h : p) : Go.RowKit.Hid p := Lib.hid h
def bR {B : Nat} {w : World} : Below B w w := Below.refl B w
def nL {n : Nat} : n <= n := Nat.le_refl n
def tQ {w w1 w2 : World} (h : Below w.heap.size w w1) (k : Below w1.heap.size w1 w2) : Below w.heap.size w w2 := h.trans (k.mono h.size)
def bT : True := True.intro
variable {p : Prop}
abbrev bQ (w : World) (v : Value) (e : Ending) (w' : World) : Prop := e = .returned v /\ Below w.heap.size w w'
def zU {b : Bool} : ((!b) = true) = (b = false) := by cases b <;> simp
def zV {b : Bool} : ((!b) = false) = (b = true) := by cases b <;> simp
def cL {w wx : World} {a : Addr} {v : Value} (hb : Below w.heap.size w wx) (h : w.cell? a = some v) : wx.cell? a = some v := cell_later hb h
def bG (h:p:=by repeat (first|(with_reducible exact bR) | refine Below.alloc ?_ (by simp;try omega) _ | refine Below.drew ?_ | refine Below.setCell ?_ (by simp;try omega) _)):p:=h
def bD1 (h:p:=by omega):p:=h
def bC5 (h:p:=by kernel_rfl):p:=h
def tT (h:p:=by rw [<- J];simp [go_sem]):p:=h
def wX (h:p:=by simp;try omega):p:=h
def pY (h:p:=by exact λc a d v w h=>by cases d <;> exact h):p:=h
def bD0 (h:p:=by decide):p:=h
def nT (h:p:=by exact λk q h=>by have h1:=q.1;have h2:=q.2;omega):p:=h
def mU (h:p:=by exact λj I=>⟨by have:=I.1;omega,by have:=I.2;omega⟩):p:=h
def pX (h:p:=by exact λk hk=>by have:=hk.1;have:=hk.2;omega):p:=h
def bC6 (h:p:=by simp;omega):p:=h
def rT (h:p:=by rw [<- F];exact bR.alloc nL _):p:=h
def bD3 (h:p:=by rfl):p:=h
def rC (h:p:=by exact λj I=>⟨I.1,by have:=I.2;omega⟩):p:=h
def dX (h:p:=by exact λj h1 h2=>by simp (discharger:=(simp;omega)) only [heap_setCell_other]):p:=h
def bD2 (h:p:=by simp):p:=h
def fF (h:p:=by exact λj I=>⟨by have:=I.1;omega,by have:=I.2;simp [World.setCell];omega⟩):p:=h
def rD (h:p:=by exact λj I=>⟨by have:=I.1;omega,I.2⟩):p:=h
def wW (h:p:=by exact λk hk=>by omega):p:=h
def bB3 (h:p:=by rw [<- F];simp):p:=h
def tV (h:p:=by rw [<- D];simp [go_sem]):p:=h
def vD (h:p:=by rw [<- F];exact kH rfl):p:=h
def mZ (h:p:=by exact λj h1 h2=>by have p:=h1.2;have q:=h2.1;omega):p:=h
def bA (h:p:=by exact λhl=>kD.jY (r:=kD.slice 38 jF) (q:=(kD.pair kP (kD.pair (kD.slice 145 kJ) (kD.pair (kD.slice 102 jE) (kD.pair (kD.slice 131 kS) (kD.pair (kD.slice 149 kL) kD.int)))))) (cs:=[.slice va vn vc]) (ds:=[.int .i64 x.2.1.1,.slice b5 x.2.1.2.length am,.slice ag x.2.2.1.length af,.slice ae x.2.2.2.1.length ac,.slice ab x.2.2.2.2.1.length U,.slice a1 x.2.2.2.2.2.1.length aw,.int .i64 x.2.2.2.2.2.2]) (x:=x.1++[t]) (y:=x.2) (S:=jU N.heap.size w3.heap.size) (ai.out.own (by simp;unfold Big;omega)) cq.out (λi p=>by rcases p with p | p | p;exact ⟨p.1,by have:=p.2;omega⟩;exact ⟨by have:=p.1;omega,by have:=p.2;omega⟩;exact ⟨by have:=p.1;omega,by have:=p.2;omega⟩) (λi p=>⟨by have:=p.1;omega,by have:=p.2;omega⟩) (λi p q=>by have q1:=q.1;have q2:=q.2;rcases p with p | p | p;(have p2:=p.2;omega);(have p1:=p.1;omega);(have p1:=p.1;omega))):p:=h
def bM (h:p:=by repeat (first|(with_reducible exact o) | refine Below.alloc ?_ (by have:=o.size;simp;try omega) _ | refine Below.drew ?_)):p:=h
def dG (h:p:=by exact λk q=>⟨q.1,Nat.lt_of_lt_of_le q.2.1 hb.size,Nat.ne_of_lt (by rw [ap];exact q.2.1)⟩):p:=h
def sJ (h:p:=by show w.heap.size < _;omega):p:=h
def bO (h:p:=by first | omega|(simp only [List.flatten_cons,List.flatten_nil,List.length_append,List.length_cons,List.length_nil];omega)):p:=h
def vQ (h:p:=by have:=HL.out;omega):p:=h
def fZ (h:p:=by exact λj I=>⟨by have:=I.1;omega,by simpa [World.setCell] using I.2⟩):p:=h
def dB (h:p:=by repeat (first|(with_reducible exact bR) | refine Below.alloc ?_ (by simp;try omega) _)):p:=h
def rU (h:p:=by rw [<- D];exact bR.alloc nL _):p:=h
def bI (h:p:=by exact λk q=>by rcases q with q | q | q;exact ⟨q.1,by have:=q.2;omega⟩;exact ⟨by have:=q.1;omega,by have:=q.2;omega⟩;exact ⟨by have:=q.1;omega,q.2⟩):p:=h
def fB (h:p:=by intro q;have:=q.1;first | omega|(simp at this;omega)|(simp at this)):p:=h
def gW (h:p:=by exact λk q=>⟨by have:=q.1;omega,q.2,by have:=q.1;omega⟩):p:=h
def gH (h:p:=by intro q;rcases q with q | q;(have q1:=q.1;omega);omega):p:=h
def dK (h:p:=by exact λj I=>⟨by first | omega|(have:=I.1;omega),by first | omega|(have:=I.2;omega)⟩):p:=h
def bU (h:p:=by intro c hc;simp only [List.mem_cons,List.not_mem_nil,or_false] at hc;rcases hc with rfl | rfl | rfl <;> rfl):p:=h
def sK (h:p:=by exact λk q h=>by have:=q.1;omega):p:=h
def mM (h:p:=by exact λk q=>.inl (by first | exact q | exact .inl q)):p:=h
def dZ (h:p:=by exact λj I=>⟨by have:=I.1;omega,by have:=I.2.1;simp [World.setCell];omega⟩):p:=h
def cK (h:p:=by intro c hc;simp only [List.mem_cons,List.not_mem_nil,or_false] at hc;rcases hc with rfl <;> rfl):p:=h
def wM (h:p:=by unfold Big;omega):p:=h
def wY (h:p:=by simpa using hl):p:=h
def vR (h:p:=by rw [<- F];exact sT1):p:=h
def fO (h:p:=by exact λk q=>⟨by have:=q.1;omega,by have:=q.2;omega,by have:=q.1;omega⟩):p:=h
def wZ (h:p:=by exact λk q=>by omega):p:=h
def rE (h:p:=by first | omega|(simp;try omega)):p:=h
def bJ (h:p:=by exact λk q=>by rcases q with q | q;exact ⟨q.1,by have:=q.2.1;omega,q.2.2⟩;exact ⟨by have:=q.1;omega,by have:=q.2;omega,by have:=q.1;omega⟩):p:=h
def sM (h:p:=by exact λk hk=>by have:=hk.1;omega):p:=h
def bX (h:p:=by exact λj h1 h2=>by have:=X.out;have:=Y.out;rw [<- D];simp (discharger:=(simp;omega)) only [heap_setCell_other]):p:=h
def sD (h:p:=by have:=o.size;simp;try omega):p:=h
def bK (h:p:=by exact λj I hl=>L j hl (by first | omega|(have h1:=I.1;have h2:=I.2;intro q;have:=q.1;have:=q.2;omega)|(intro q;have:=q.1;have:=q.2;omega))):p:=h
def qK (h:p:=by (try simp only);rw [jZ h];exact q):p:=h
def rV (h:p:=by rw [<- U];exact bR.alloc nL _):p:=h
def sN (h:p:=by rw [<- F];exact jR (kH rfl)):p:=h
def tX (h:p:=by rw [<- Y];simp [go_sem]):p:=h
def dM (h:p:=by simpa only [Bool.and_eq_true,decide_eq_true_eq,Bool.not_eq_true'] using hi.2):p:=h
def nH (h:p:=by exact λj I=>⟨by have:=I.1;have:=E.size;omega,I.2⟩):p:=h
def qV (h:p:=by exact λk hk=>⟨by omega,by simp;omega⟩):p:=h
def pF (h:p:=by exact λk h1 h2=>by have:=h1.2;have:=h2.1;omega):p:=h
def bB4 (h:p:=by rw [<- J];simp):p:=h
def sF (h:p:=by rw [<- J];exact kH (by simp)):p:=h
def fG (h:p:=by exact λj q=>⟨by have:=q.1;omega,by have:=q.2;simp [World.setCell];omega⟩):p:=h
def fH (h:p:=by simp [results,results32,go_sem,ac,ak,an,al,bd,ax,bh,be,bp,bo]):p:=h
def fP (h:p:=by exact λk q=>⟨by have:=q.1;omega,by have:=q.2;omega,by have:=q.2;omega⟩):p:=h
def cO (h:p:=by exact λj h1 h2=>by have:=X.out;rw [<- D];simp (discharger:=(simp;omega)) only [heap_setCell_other]):p:=h
def fA (h:p:=by rw [U.out];first | rfl|(simp;done)|(rw [Bool.eq_iff_iff];simp;omega)):p:=h
def bB5 (h:p:=by simpa using h):p:=h
def dC (h:p:=by exact λk q=>⟨by have:=q.1;omega,by have:=q.2;omega,by have:=q.1;omega,by have:=q.1;omega⟩):p:=h
def qG (h:p:=by unfold Addr.add;split <;> simp_all):p:=h
def pR (h:p:=by exact λk q=>⟨q.1,by have:=q.2.1;omega,q.2.2⟩):p:=h
def bA0 (h:p:=by simpa using hz):p:=h
def bW (h:p:=by exact λk q=>by rcases q with q | q;exact ⟨q.1,by have:=q.2;omega⟩;exact ⟨by have:=q.1;omega,by have:=q.2;omega⟩):p:=h
def bF (h:p:=by exact λk q=>by rcases q with q | q | q;exact ⟨q.1,by have:=q.2;omega⟩;exact ⟨by have:=q.1;omega,by have:=q.2;omega⟩;exact ⟨by have:=q.1;(try simp at this);omega,q.2⟩):p:=h
def gX (h:p:=by simp [results,results195,go_sem,ac,an,ak,al]):p:=h
def vS (h:p:=by have:=b4.out;omega):p:=h
def tC (h:p:=by exact λk q=>by have:=q.1;omega):p:=h
def mO (h:p:=by rw [decide_eq_true g.1,decide_eq_true g.2];rfl):p:=h
def dA (h:p:=by split <;> (try simp only [List.length_append,List.length_cons,List.length_nil]) <;> omega):p:=h
def sO (h:p:=by first | omega|(simp;omega)):p:=h
def tY (h:p:=by exact λq=>by have:=q.1;omega):p:=h
def gY (h:p:=by simp [results,results114,go_sem,ac,an,ak,al]):p:=h
def sS (h:p:=by show 1<=_;unfold Big;omega):p:=h
def bB6 (h:p:=by simpa using I):p:=h
def mG (h:p:=by exact λk q1 q2=>by have h1:=q1.2.1;have h2:=q2.1;omega):p:=h
def vN (h:p:=by unfold maxLen;omega):p:=h
def rW (h:p:=by rw [<- J];exact bR.alloc nL _):p:=h
def pU (h:p:=by first | omega|(simp;done)|(simp;omega)):p:=h
def mP (h:p:=by exact λj I=>⟨I.1,by simpa [World.setCell] using I.2⟩):p:=h
def vT (h:p:=by rw [<- F];exact sT8):p:=h
def bN (h:p:=by rw [<- Srt.zM (key:=key) ul,<- Srt.zM (key:=key) hl];show (!decide (Srt.zG key xs (N - 1 - h) < Srt.zG key xs h))=_;rw [hu]):p:=h
def bP (h:p:=by exact λk q h=>by first|(have h1:=sA k q;have h2:=h1.1;have h3:=h1.2;omega)|(have h1:=sB k q;have h2:=h1.1;have h3:=h1.2;omega)):p:=h
def bA1 (h:p:=by simpa using hc):p:=h
def rG (h:p:=by exact λk q=>⟨q.1,by have:=q.2;omega⟩):p:=h
def gI (h:p:=by simpa using congrArg (λo=>o.map (λz=>z.2.1)) kAi):p:=h
def gJ (h:p:=by simpa using congrArg (λo=>o.map (λz=>z.2.1)) kCr):p:=h
def qH (h:p:=by exact λq=>by simp at q;simpa using hne q):p:=h
def tF (h:p:=by exact λj q=>by have:=q.1;omega):p:=h
def vU (h:p:=by have:=o.size;omega):p:=h
def vV (h:p:=by have:=aa.out;omega):p:=h
def bA2 (h:p:=by simpa using h3):p:=h
def pG (h:p:=by exact λk q1 q2=>by have:=q1.2;have:=q2.1;omega):p:=h
def pI (h:p:=by rw [getD_replicate_false] at hl;cases hl):p:=h
def bV (h:p:=by exact λj q=>q.elim (λq=>⟨q.1,by have:=q.2.1;omega,q.2.2⟩) (λq=>⟨by have:=q.1;omega,q.2,by have:=q.1;omega⟩)):p:=h
def tL (h:p:=by rw [bi];exact kD.kDm b3):p:=h
def pK (h:p:=by match c0,l0 with | [o],_=>exact ⟨_,rfl⟩):p:=h
def pM (h:p:=by match c1,l1 with | [D],_=>exact ⟨_,rfl⟩):p:=h
def rH (h:p:=by exact λj q=>⟨by have:=q.1;omega,q.2⟩):p:=h
def rJ (h:p:=by first|(simp;done)|(simp;omega)):p:=h
def vF (h:p:=by rw [h] at hr;cases hr):p:=h
def vW (h:p:=by have:=HM.out;omega):p:=h
def bY (h:p:=by exact λj h1 h2=>by have p1:=h1.1;have p2:=h1.2;simp (discharger:=(simp;omega)) only [heap_setCell_other]):p:=h
def bZ (h:p:=by exact λi p q=>by rcases p with p | p | p;(have p2:=p.2;omega);(have p1:=p.1;omega);(have p1:=p.1;omega)):p:=h
def rQ (h:p:=by exact λj h1 h2=>by have:=h1.1;omega):p:=h
def rR (h:p:=by rw [<- D];simp [World.setCell]):p:=h
def cB (h:p:=by rw [U.out];have:=bh.out;have:=HK.out;have:=HR.out;simp only [List.length_append];unfold Big;omega):p:=h
def tH (h:p:=by exact λq=>D (by simpa using q)):p:=h
def fU (h:p:=by simp [results,results197,go_sem,ar,al,au,ak,R,D,G,J,ab,U]):p:=h
def bB7 (h:p:=by simpa using q):p:=h
def rX (h:p:=by rw [<- Y];exact bR.alloc nL _):p:=h
def nA (h:p:=by have q:=kD.zJ ai.out am;rw [bc] at q;exact q):p:=h
def nC (h:p:=by have q:=kD.zJ ai.out a4;rw [a9] at q;exact q):p:=h
def nI (h:p:=by simp [results,results220,go_sem,K2,F2]):p:=h
def nJ (h:p:=by simp [results,results164,go_sem,K2,F2]):p:=h
def cZ (h:p:=by exact λj q=>by rcases q with q | q | q <;> (have q1:=q.1;have q2:=q.2;(try have q3:=q2.1);omega)):p:=h
def bB8 (h:p:=by simp [go_sem]):p:=h
def pJ (h:p:=by exact λk q=>by have h1:=q.1;have h2:=q.2;omega):p:=h
def sU (h:p:=by rw [Srt.kAm];exact HL.out):p:=h
def dD (h:p:=by exact λi p q=>by have p1:=p.1;have p2:=p.2;rcases q with q | q;(have q2:=q.2;omega);omega):p:=h
def dE (h:p:=by simp [results,results7,go_sem,R0,F0,R1,F1,R2,F2,R3,F3,R4,F4,R5,F5,R6,F6,R7,F7]):p:=h
def dF (h:p:=by simp [results,results6,go_sem,R0,F0,R1,F1,R2,F2,R3,F3,R4,F4,R5,F5,R6,F6,R7,F7]):p:=h
def pO (h:p:=by have:=Z.2.2;unfold maxLen at this;omega):p:=h
def dH (h:p:=by simp [results,results13,go_sem,aj,ai,am,ak,al,ag,af,ae,ac,Y,ab,ah,U,aq,ar,au]):p:=h
def bA3 (h:p:=by simpa using bb):p:=h
def dI (h:p:=by exact λj h1 h2=>by rw [<- D];simp (discharger:=(simp;omega)) only [heap_setCell_other]):p:=h
def dJ (h:p:=by show (I,kJr I (kEe y0 xe)++[((y0,y1,y2,y3,y4),t)])=_;rw [HK.out,d3.out,HZ.out]):p:=h
def dL (h:p:=by rw [ByteArray.size_append];have:({ data:=#[47] }:ByteArray).size=1:=rfl;omega):p:=h
def gZ (h:p:=by simp [results,results168,go_sem,ar,al,au,ak]):p:=h
def tZ (h:p:=by rw [o];split <;> omega):p:=h
def vX (h:p:=by have:=bh.out;omega):p:=h
def qD (h:p:=by rw [<- bo,Nat.mul_comm];exact a2.out):p:=h
def qI (h:p:=by rw [List.length_append];exact hlen):p:=h
def dO (h:p:=by exact λj=>by have:=ho (j + 1);simpa [Nat.add_assoc,Nat.add_comm 1 j] using this):p:=h
def dP (h:p:=by exact λi=>by have:=ho (i + 1);simpa [Nat.add_assoc,Nat.add_comm 1 i] using this):p:=h
def dU (h:p:=by simpa only [Bool.and_eq_true,decide_eq_true_eq,Bool.not_eq_true'] using O):p:=h
def mQ (h:p:=by exact λk q h=>by have h1:=q.2.1;have h2:=q.2.2;omega):p:=h
def dW (h:p:=by exact λk q=>by rcases q with q | q;exact q;exact ⟨by omega,by omega,by omega⟩):p:=h
def qL (h:p:=by exact λk hk=>⟨by have:=hk.1;omega,hk.2⟩):p:=h
def qM (h:p:=by first | exact aq | simpa using aq):p:=h
def qN (h:p:=by first | exact au | simpa using au):p:=h
def qO (h:p:=by first | exact a9 | simpa using a9):p:=h
def bA4 (h:p:=by simpa using hp):p:=h
def dY (h:p:=by exact λk q=>⟨by have:=q.1.1;omega,by have:=q.1.2;omega,by have:=q.1.1;omega⟩):p:=h
def qQ (h:p:=by rw [I.out,<- ap.out];exact HF.out):p:=h
def wO (h:p:=by exact λk q h=>by omega):p:=h
def nK (h:p:=by exact λj I=>⟨by have:=I.1;simp at this;omega,I.2⟩):p:=h
def fC (h:p:=by simp [results,results167,go_sem,ac,ak,an,al,bd,ax,bh,be,bp,bo]):p:=h
def fD (h:p:=by have h2:=kAa (p:=λz=>!(z==ex)) (l:=F) (k:=k) hk;unfold Big;omega):p:=h
def qW (h:p:=by (try simp only);rw [jZ h,q];rfl):p:=h
def fE (h:p:=by rw [hy,bl.out];split <;> first | rfl | exact (Srt.kNk _ _ _ _).symm):p:=h
def qX (h:p:=by rw [<- F];exact jR (jR (kH rfl))):p:=h
def qY (h:p:=by rw [bc];exact kD.cells3 G bt bp):p:=h
def qZ (h:p:=by rw [a9];exact kD.cells3 R br bv):p:=h
def fI (h:p:=by simp [results,results10,go_sem,R0,F0,R1,F1,R2,F2,R3,F3,R4,F4]):p:=h
def fJ (h:p:=by simp [results,results42,go_sem,R0,F0,R1,F1,R2,F2,R3,F3,R4,F4]):p:=h
def fK (h:p:=by simp [results,results40,go_sem,R0,F0,R1,F1,R2,F2,R3,F3,R4,F4]):p:=h
def nU (h:p:=by simp [results,results88,go_sem,KR,FR]):p:=h
def rM (h:p:=by exact λk h=>⟨h.1,by have:=h.2;omega⟩):p:=h
def rO (h:p:=by exact λj q=>⟨q.1,by have:=q.2;omega⟩):p:=h
def fM (h:p:=by simp [results,results9,go_sem,R0,F0,R1,F1,R2,F2,R3,F3,R4,F4]):p:=h
def rP (h:p:=by have:=List.mem_range.1 I;omega):p:=h
def fQ (h:p:=by (first | rw [kQh hN] | rw [kQi hN]);first | rfl|(rw [E.out];rfl)):p:=h
def vY (h:p:=by simpa using hB.1.1):p:=h
def fT (h:p:=by rw [hu];split <;> first | exact O.out|(rw [Srt.zu];exact O.out)):p:=h
def fV (h:p:=by simp [results,results8,go_sem,aj,ai,am,ak,al,ag,af,ae,ac]):p:=h
def bA5 (h:p:=by simpa using hk):p:=h
def bA6 (h:p:=by simpa using h1):p:=h
def bA7 (h:p:=by simpa using h0):p:=h
def gB (h:p:=by simp [results,results206,go_sem,ac,an,bd,bh,ak,al,ax,be]):p:=h
def wJ (h:p:=by have:=I.out;omega):p:=h
def vG (h:p:=by rw [<- D];exact kH rfl):p:=h
def pV (h:p:=by exact λk q=>by rcases q with q | q <;> omega):p:=h
def sP (h:p:=by exact λi hi=>by have:=hi.1;omega):p:=h
def gD (h:p:=by have h1:=kAa (p:=kJe n l) (l:=l) (k:=k) hk;rw [kGj];omega):p:=h
def qA (h:p:=by exact λk hk=>⟨.inl hk.1,λh=>by cases h⟩):p:=h
def qB (h:p:=by exact λq=>by rcases q with q | q <;> omega):p:=h
def gF (h:p:=by exact λj I=>I.elim .inl (λh=>.inr ⟨by have:=h.1;omega,h.2⟩)):p:=h
def gG (h:p:=by exact λi q=>by rcases q with q | q;(have q1:=q.1;omega);omega):p:=h
def sV (h:p:=by exact λy hy=>h y (by simp [hy])):p:=h
def qE (h:p:=by rw [ByteArray.size_append,ac];omega):p:=h
def qF (h:p:=by rw [U.out];unfold kEc;simp [hg,hne]):p:=h
def sW (h:p:=by rw [Srt.kCn];exact HL.out):p:=h
def sZ (h:p:=by rw [Srt.kCp];exact HL.out):p:=h
def gK (h:p:=by show (kJs l n fs).length<=Big;rw [kLm];unfold Big;omega):p:=h
def gL (h:p:=by exact λq=>by rcases q with q | q;(have q1:=q.1;omega);omega):p:=h
def gM (h:p:=by exact λk q=>⟨by have:=q.1;omega,by have:=q.2.1;omega,q.2.2⟩):p:=h
def wB (h:p:=by have:=HN.out;omega):p:=h
def gP (h:p:=by rw [g1,List.append_assoc,List.take_append_drop,<- g2]):p:=h
def gQ (h:p:=by simp only [ByteArray.size_extract];unfold Big;omega):p:=h
def tN (h:p:=by simpa using (ho 0).symm):p:=h
def tO (h:p:=by rw [d3];split <;> omega):p:=h
def qU (h:p:=by rw [U.out];simp;unfold Big;omega):p:=h
def gT (h:p:=by exact λj I=>⟨by have:=I.1;omega,by have:=I.2;simp;omega⟩):p:=h
def gU (h:p:=by rw [<- Srt.zM (key:=key) hl,<- Srt.zM (key:=key) al]):p:=h
def gV (h:p:=by rw [<- Srt.zM (key:=key) ml,<- Srt.zM (key:=key) hl]):p:=h
def mD (h:p:=by exact λy hy=>by rw [List.mem_singleton.1 hy];exact hx.2):p:=h
def mE (h:p:=by simp [results,results209,go_sem,ar,al,au,ak]):p:=h
def bB9 (h:p:=by rw [<- D];simp):p:=h
def rA (h:p:=by have:=bo.out;simp at this;omega):p:=h
def vB (h:p:=by rw [bc];exact kD.kLa G):p:=h
def vC (h:p:=by rw [a9];exact kD.kLa R):p:=h
def mH (h:p:=by intro y hy;rw [List.mem_singleton.1 hy];exact hb):p:=h
def mI (h:p:=by simp [results,results66,go_sem,M0,M1,F0,F1]):p:=h
def mJ (h:p:=by simp [results,results53,go_sem,M0,M1,F0,F1]):p:=h
def vH (h:p:=by rw [List.take_length]):p:=h
def vI (h:p:=by rw [<- F];exact kF Y 1):p:=h
def mR (h:p:=by exact λq hq=>⟨by have:=hq.1;have:=F.size;omega,hq.2⟩):p:=h
def vL (h:p:=by simpa [Big] using hb):p:=h
def mX (h:p:=by exact λk q=>⟨by have:=q.1;omega,by have:=q.2;omega⟩):p:=h
def mY (h:p:=by rw [V.out];simp;have:=bh.out;unfold Big;omega):p:=h
def rY (h:p:=by show 1<=_;unfold maxLen;omega):p:=h
def nD (h:p:=by have:=kD.kCk (by decide) ar;unfold Big;omega):p:=h
def nE (h:p:=by exact λj I=>⟨I.1,by have:=I.2;have:=af.size;omega⟩):p:=h
def nG (h:p:=by exact λj I=>⟨I.1,by have:=I.2;have:=b2.size;omega⟩):p:=h
def nM (h:p:=by rw [HQ.out.1];have:=ay.out;unfold Big;omega):p:=h
def sG (h:p:=by exact λx hx=>hlt x (by simp [hx])):p:=h
def nN (h:p:=by simp [results,results100,go_sem,R0,F0]):p:=h
def sI (h:p:=by rw [List.length_take];omega):p:=h
def vO (h:p:=by rw [U.out];exact bc):p:=h
def nO (h:p:=by exact λj I=>⟨by have:=I.1;have:=o.size;omega,I.2⟩):p:=h
def vP (h:p:=by rw [inv.size];omega):p:=h
def nP (h:p:=by have q:=kD.zJ Z.out a4;rw [bc] at q;exact q):p:=h
def nQ (h:p:=by have q:=kD.zJ Z.out am;rw [a9] at q;exact q):p:=h
def nR (h:p:=by have q:=kD.zJ L.out a4;rw [bc] at q;exact q):p:=h
def nS (h:p:=by have q:=kD.zJ L.out am;rw [a9] at q;exact q):p:=h
def bA8 (h:p:=by simpa using hf):p:=h
def bA9 (h:p:=by simpa using ht):p:=h
def bB0 (h:p:=by simpa using hr):p:=h
def bB1 (h:p:=by rw [hB.1];simp):p:=h
def bB2 (h:p:=by simpa using hv):p:=h
def nV (h:p:=by exact λj h1 h2=>by have:=h1.2.1;have:=h2.1;omega):p:=h
def nW (h:p:=by exact λk hk=>by rcases hk with hk | hk <;> omega):p:=h
def nX (h:p:=by simp [results,results62,go_sem,R0,F0]):p:=h
def nY (h:p:=by simp [results,results47,go_sem,R0,F0]):p:=h
def sQ (h:p:=by exact λk q=>by have:=q.1.1;omega):p:=h
def nZ (h:p:=by rw [U.out,List.length_append,<- N.out];rfl):p:=h
def pE (h:p:=by rw [Nat.mul_comm];rwa [Nat.pow_succ] at h):p:=h
def wE (h:p:=by have:=co.out;omega):p:=h
def wF (h:p:=by rw [<- F];exact sT2):p:=h
def wK (h:p:=by have:=O.out;omega):p:=h
def pQ (h:p:=by match c2,l2 with | [U],_=>exact ⟨_,rfl⟩):p:=h
def tK (h:p:=by exact λq=>by have:=q.1.1;omega):p:=h
def pW (h:p:=by exact λq=>by have q1:=q.1;have q2:=q.2;omega):p:=h
def bC8 (h:p:=by simp [hy]):p:=h
def wP (h:p:=by simpa using hlen):p:=h
def wR (h:p:=by simp at hk;omega):p:=h
def bC3 (h:p:=by rw [HD.out]):p:=h
def vJ (h:p:=by simp;unfold Big;omega):p:=h
def qJ (h:p:=by exact λj q=>⟨by omega,by omega,by omega⟩):p:=h
def vK (h:p:=by rw [<- F];exact kF B 0):p:=h
def bC7 (h:p:=by simp [Big]):p:=h
def bC0 (h:p:=by simpa using o):p:=h
def bC1 (h:p:=by simpa using O):p:=h
def bC9 (h:p:=by simp [hp]):p:=h
def wG (h:p:=by rw [hsize];exact J):p:=h
def wH (h:p:=by have:=av.out;omega):p:=h
def wI (h:p:=by have:=bo.out;omega):p:=h
def bC2 (h:p:=by exact λq=>by omega):p:=h
def bC4 (h:p:=by rw [ec.out]):p:=h
def xA (h:p:=by
 have R:Qb w N:=by rw [<- J];exact bG
 have K0:Qd N w 0 (.slice bp x.1.length bi):=tT;have K1:Qd N w 1 (.int .i64 x.2.1.1):=tT;have K2:Qd N w 2 (.slice bw x.2.1.2.length bt):=tT;have K3:Qd N w 3 (.slice ck x.2.2.1.length cc):=tT;have K4:Qd N w 4 (.slice b9 x.2.2.2.1.length b8):=tT;have K5:Qd N w 5 (.slice bx x.2.2.2.2.1.length bu):=tT;have K6:Qd N w 6 (.slice b0 x.2.2.2.2.2.1.length bz):=tT;have K7:Qd N w 7 (.int .i64 x.2.2.2.2.2.2):=tT;exact And.intro R (And.intro K0 (And.intro K1 (And.intro K2 (And.intro K3 (And.intro K4 (And.intro K5 (And.intro K6 K7)))))))):p:=h
def xB (h:p:=by
 have hb:Qb W v:=(by rw [<- F];exact bR.alloc nL _);have BB:Qr v W.heap.size #[.slice none 0 0,.slice none 0 0,.slice none 0 0,Qn 0,Qn 0] 38:=(by rw [<- F];exact kH rfl);have zv:W.heap.size + 1<=v.heap.size:=(by rw [<- F];simp);exact And.intro hb (And.intro BB zv)):p:=h
def xC (h:p:=by
 have R0:=kE (b:=w.heap.size + 2) X (j:=0) rfl;have F0:=frozen_of_row V (w.heap.size + 2) 0 _ _ X;have R1:=kE (b:=w.heap.size + 2) X (j:=1) rfl;have F1:=frozen_of_row V (w.heap.size + 2) 1 _ _ X;have R2:=kE (b:=w.heap.size + 2) X (j:=2) rfl;have F2:=frozen_of_row V (w.heap.size + 2) 2 _ _ X;have R3:=kE (b:=w.heap.size + 2) X (j:=3) rfl;have F3:=frozen_of_row V (w.heap.size + 2) 3 _ _ X;have R4:=kE (b:=w.heap.size + 2) X (j:=4) rfl;have F4:=frozen_of_row V (w.heap.size + 2) 4 _ _ X;exact And.intro R0 (And.intro F0 (And.intro R1 (And.intro F1 (And.intro R2 (And.intro F2 (And.intro R3 (And.intro F3 (And.intro R4 F4))))))))):p:=h
def xD (h:p:=by
 replace XO:=yD (XO.out.below hb);replace TO:=yD (TO.out.below hb);replace YO:=yD (YO.out.below hb);replace ZO:=yD (ZO.out.below hb);replace Y:=yD (Y.out.below hb);replace CO:=yD (CO.out.below hb);replace SO:=yD (SO.out.below hb);replace MO:=yD (MO.out.below hb);exact And.intro XO (And.intro TO (And.intro YO (And.intro ZO (And.intro Y (And.intro CO (And.intro SO MO))))))):p:=h
def xE (h:p:=by
 replace hc:=hc.below hb;replace J:=J.trans (Touch.of_below hb);exact And.intro hc J):p:=h
def xG (h:p:=by
 have hz:((a.length:Int) != b.length)=false:=bC6;have a3:(a.length != b.length)=false:=wY;exact And.intro hz a3):p:=h
def xH (h:p:=by
 have R5:=E.1.kC R bD1;have o:=J.trans E.1;have am:=E.2;have az:=yD (L.out.touch E.1 pX);have ak:wS1.frozen? ⟨w.heap.size,0,none⟩=false:=frozen_of_row wS1 w.heap.size 0 _ _ R5;have al:wS1.frozen? ⟨w.heap.size,1,none⟩=false:=frozen_of_row wS1 w.heap.size 1 _ _ R5;have ax:wS1.frozen? ⟨w.heap.size,2,none⟩=false:=frozen_of_row wS1 w.heap.size 2 _ _ R5;have be:wS1.frozen? ⟨w.heap.size,3,none⟩=false:=frozen_of_row wS1 w.heap.size 3 _ _ R5;have ac:=kE R5 (j:=0) (v:=.slice none 0 0) rfl;have an:=kE R5 (j:=1) (v:=.int .i64 0) rfl;have bd:=kE R5 (j:=2) (v:=.int .i64 0) rfl;have bh:=kE R5 (j:=3) (v:=.int .i64 0) rfl;exact And.intro R5 (And.intro o (And.intro am (And.intro az (And.intro ak (And.intro al (And.intro ax (And.intro be (And.intro ac (And.intro an (And.intro bd bh))))))))))):p:=h
def xI (h:p:=by
 have cl:=Int.natCast_nonneg a;have c4:(a:Int) < m:=bD1;have c3:(m:Int) < z:=bD1;have cq:(z:Int)<=16777216:=bD1;have db:(z:Int)<=n:=bD1;have cf:(m:Int) - (a:Int)=((m - a:Nat):Int):=bD1;have bu:(z:Int) - (m:Int)=((z - m:Nat):Int):=bD1;exact And.intro cl (And.intro c4 (And.intro c3 (And.intro cq (And.intro db (And.intro cf bu)))))):p:=h
def xJ (h:p:=by
 have A0:=(o.cell (p:=⟨w.heap.size,0,none⟩) sJ).trans am;have A1:=(o.cell (p:=⟨w.heap.size,1,none⟩) sJ).trans ak;have A2:=(o.cell (p:=⟨w.heap.size,2,none⟩) sJ).trans al;have EW:=R.trans (o.mono bD1);have Y:=cL EW C0;have B1:=cL EW C1;have B2:=cL EW C2;exact And.intro A0 (And.intro A1 (And.intro A2 (And.intro EW (And.intro Y (And.intro B1 B2)))))):p:=h
def xK (h:p:=by
 replace L:=yD (L.out.touch D pX);replace J:=J.trans D;exact And.intro L J):p:=h
def xL (h:p:=by
 replace HL:Hid ((kD.slice 9 kD.str).own v [.slice (some ⟨b6,0,none⟩) 3 3] [{ data:=#[47,107,101,121,47,97] },{ data:=#[47,107,101,121,47,98] },{ data:=#[47,97,47,107,101,121] }] (λk=>k=b6)):=yD (HL.out.touch D wO);replace h6:wb.heap.size<=b6/\b6 < v.heap.size:=⟨h6.1,Nat.lt_of_lt_of_le h6.2 D.size⟩;exact And.intro HL h6):p:=h
def xM (h:p:=by
 replace hO:je.ji _ [Qs a0 x0 c0,Qn kc,Qs a1 xe c1,Qs a2 x2 c2,Qs a3 x3 c3,Qs a4 x4 c4,Qs a5 X c5,Qn o] (x0,(kc,xe),x2,x3,x4,X,o) _:=hO;have L:=yD hO;have HX:=yD hx;exact And.intro hO (And.intro L HX)):p:=h
def xN (h:p:=by
 replace HL:Hid ((kD.slice 9 kD.str).own v [.slice (some ⟨b6,0,none⟩) 3 3] [{ data:=#[47,107,101,121,47,97] },{ data:=#[47,107,101,121,47,98] },{ data:=#[47,97,47,107,101,121] }] (λk=>k=b6)):=yD (HL.out.below hb);replace h6:wb.heap.size<=b6/\b6 < v.heap.size:=⟨h6.1,Nat.lt_of_lt_of_le h6.2 hb.size⟩;have o:wb.heap.size<=b/\b < v.heap.size:=⟨by omega,by omega⟩;exact And.intro HL (And.intro h6 o)):p:=h
def xO (h:p:=by
 replace hc:=hc.below ag;have J:Touch (λk=>k=p) w w1:=Touch.of_below ag;exact And.intro hc J):p:=h
def xP (h:p:=by
 replace BX:=kC BX hb;replace BT:=kC BT hb;replace BY:=kC BY hb;replace BZ:=kC BZ hb;replace BB:=kC BB hb;replace BC:=kC BC hb;exact And.intro BX (And.intro BT (And.intro BY (And.intro BZ (And.intro BB BC))))):p:=h
def xQ (h:p:=by
 have af:Qd N w 2 (.slice ar (x.2.1.2).length ao):=tT;have V:Qd N w 3 (.slice bx (x.2.2.1).length a6):=tT;have ay:Qd N w 4 (.slice bq (x.2.2.2.1).length bn):=tT;have bj:Qd N w 5 (.slice bv (x.2.2.2.2.1).length bt):=tT;have bp:Qd N w 6 (.slice bg (x.2.2.2.2.2.1).length bk):=tT;have bo:Qd N w 7 (.int .i64 x.2.2.2.2.2.2):=tT;have D:Qc N (w.heap.size + 1) 0 (.slice al (y.1).length ak):=tT;have ae:Qc N (w.heap.size + 1) 1 (.int .i64 y.2.1.1):=tT;have ag:Qc N (w.heap.size + 1) 2 (.slice a1 (y.2.1.2).length a5):=tT;have a8:Qc N (w.heap.size + 1) 3 (.slice b1 (y.2.2.1).length a7):=tT;have a4:Qc N (w.heap.size + 1) 4 (.slice bf (y.2.2.2.1).length bw):=tT;have be:Qc N (w.heap.size + 1) 5 (.slice b0 (y.2.2.2.2.1).length b3):=tT;have b2:Qc N (w.heap.size + 1) 6 (.slice bh (y.2.2.2.2.2.1).length bu):=tT;have bz:Qc N (w.heap.size + 1) 7 (.int .i64 y.2.2.2.2.2.2):=tT;exact And.intro af (And.intro V (And.intro ay (And.intro bj (And.intro bp (And.intro bo (And.intro D (And.intro ae (And.intro ag (And.intro a8 (And.intro a4 (And.intro be (And.intro b2 bz))))))))))))):p:=h
def xR (h:p:=by
 replace L:=yD (L.out.below aa);replace hc:=hc.below aa;replace J:=J.trans (Touch.of_below aa);exact And.intro L (And.intro hc J)):p:=h
def xS (h:p:=by
 have aa:Qb V w3:=rT;have BX:Qr w3 V.heap.size #[Qs a0 x0 c0,Qn kc,Qs a1 xe c1,Qs a2 x2 c2,Qs a3 x3 c3,Qs a4 x4 c4,Qs a5 X c5,Qn o] 33:=vD;have bi:V.heap.size + 1<=w3.heap.size:=bB3;exact And.intro aa (And.intro BX bi)):p:=h
def xU (h:p:=by
 have R0:Qc V (w.heap.size + 1) 0 (.slice none 0 0):=(o.cell (p:=⟨w.heap.size + 1,0,none⟩) bD2).trans bB8;have F0:V.frozen? ⟨w.heap.size + 1,0,none⟩=false:=(o.frozen (p:=⟨w.heap.size + 1,0,none⟩) bD2).trans bB8;exact And.intro R0 F0):p:=h
def xV (h:p:=by
 have R0:=kE (b:=w.heap.size + 1 + 1) o.out (j:=0) rfl;have F0:=frozen_of_row w4 (w.heap.size + 1 + 1) 0 _ _ o.out;have R1:=kE (b:=w.heap.size + 1 + 1) o.out (j:=1) rfl;have F1:=frozen_of_row w4 (w.heap.size + 1 + 1) 1 _ _ o.out;have R2:=kE (b:=w.heap.size + 1 + 1) o.out (j:=2) rfl;have F2:=frozen_of_row w4 (w.heap.size + 1 + 1) 2 _ _ o.out;have R3:=kE (b:=w.heap.size + 1 + 1) o.out (j:=3) rfl;have F3:=frozen_of_row w4 (w.heap.size + 1 + 1) 3 _ _ o.out;have R4:=kE (b:=w.heap.size + 1 + 1) o.out (j:=4) rfl;have F4:=frozen_of_row w4 (w.heap.size + 1 + 1) 4 _ _ o.out;have R5:=kE (b:=w.heap.size + 1 + 1) o.out (j:=5) rfl;have F5:=frozen_of_row w4 (w.heap.size + 1 + 1) 5 _ _ o.out;have R6:=kE (b:=w.heap.size + 1 + 1) o.out (j:=6) rfl;have F6:=frozen_of_row w4 (w.heap.size + 1 + 1) 6 _ _ o.out;exact And.intro R0 (And.intro F0 (And.intro R1 (And.intro F1 (And.intro R2 (And.intro F2 (And.intro R3 (And.intro F3 (And.intro R4 (And.intro F4 (And.intro R5 (And.intro F5 (And.intro R6 F6))))))))))))):p:=h
def xW (h:p:=by
 have R:Qb w N:=by rw [<- J];exact bG
 have L:Qd N w 0 (.slice ac (x.1).length Y):=tT;exact And.intro R L):p:=h
def xX (h:p:=by
 have bv:=Int.ofNat_lt.2 hlt;have bk:=Int.natCast_nonneg k;have c5:(k:Int)<=(pl:Int):=bD1;have a2:k<=pl:=bD1;exact And.intro bv (And.intro bk (And.intro c5 a2))):p:=h
def xY (h:p:=by
 have XR:Qr N (w.heap.size + 1) #[.slice none 0 0,Qn 0,.slice none 0 0,.slice none 0 0,.slice none 0 0,.slice none 0 0,.slice none 0 0,Qn 0] 33:=by rw [<- J];exact kH bD2
 have bq:N.heap.size=w.heap.size + 2:=bB4;exact And.intro XR bq):p:=h
def xZ (h:p:=by
 have R:Qb w N:=by rw [<- J];exact bG
 have D:Qd N w 0 (.slice I (n).length G):=tT;exact And.intro R D):p:=h
def y7 (h:p:=by
 have hb:Qb w w1:=by rw [<- F];exact (bR.alloc nL _).alloc bD2 _
 have R:Qr w1 w.heap.size #[.slice none 0 0,Qn 0,.slice none 0 0,.slice none 0 0,.slice none 0 0,.slice none 0 0,.slice none 0 0,Qn 0] 33:=sN;exact And.intro hb R):p:=h
def y8 (h:p:=by
 have R0:=kE (b:=w.heap.size + 1 + 1) X8 (j:=0) rfl;have F0:=frozen_of_row w8 (w.heap.size + 1 + 1) 0 _ _ X8;have R1:=kE (b:=w.heap.size + 1 + 1) X8 (j:=1) rfl;have F1:=frozen_of_row w8 (w.heap.size + 1 + 1) 1 _ _ X8;have R2:=kE (b:=w.heap.size + 1 + 1) X8 (j:=2) rfl;have F2:=frozen_of_row w8 (w.heap.size + 1 + 1) 2 _ _ X8;have R3:=kE (b:=w.heap.size + 1 + 1) X8 (j:=3) rfl;have F3:=frozen_of_row w8 (w.heap.size + 1 + 1) 3 _ _ X8;have R4:=kE (b:=w.heap.size + 1 + 1) X8 (j:=4) rfl;have F4:=frozen_of_row w8 (w.heap.size + 1 + 1) 4 _ _ X8;have R5:=kE (b:=w.heap.size + 1 + 1) X8 (j:=5) rfl;have F5:=frozen_of_row w8 (w.heap.size + 1 + 1) 5 _ _ X8;have R6:=kE (b:=w.heap.size + 1 + 1) X8 (j:=6) rfl;have F6:=frozen_of_row w8 (w.heap.size + 1 + 1) 6 _ _ X8;exact And.intro R0 (And.intro F0 (And.intro R1 (And.intro F1 (And.intro R2 (And.intro F2 (And.intro R3 (And.intro F3 (And.intro R4 (And.intro F4 (And.intro R5 (And.intro F5 (And.intro R6 F6))))))))))))):p:=h
def y9 (h:p:=by
 have HD:Hid (decide (x=y)=false->decide (a=b)=false):=yD qH;have HX:Hid (decide (x=y)=true->a.take (k + 1)=b.take (k + 1)):=yD tH;exact And.intro HD HX):p:=h
def z8 (h:p:=by
 replace Z:=Z.ja D mM;replace BN:=D.kC BN bD1;replace BT:=D.kC BT bD1;replace L:=yD (L.out.touch D nT);replace U:=yD (U.out.touch D nT);exact And.intro Z (And.intro BN (And.intro BT (And.intro L U)))):p:=h
def A7 (h:p:=by
 have hb:Below W.heap.size W v:=(by rw [<- F];exact bR.alloc nL _);have BB:v.heap[W.heap.size]?=some (.cells #[.slice none 0 0,.slice none 0 0,.slice none 0 0,.int .i64 0,.int .i64 0] 38 (0,0)):=(by rw [<- F];exact kH rfl);have zv:W.heap.size + 1<=v.heap.size:=(by rw [<- F];simp);exact And.intro hb (And.intro BB zv)):p:=h
def A8 (h:p:=by
 have EC:Qb wr wC:=rU;have M0:Qd wC wr 0 (.slice ad x.1.1.length aw):=tV;have M1:Qd wC wr 1 (.slice ai x.1.2.1.length bj):=tV;have M2:Qd wC wr 2 (.slice aj x.1.2.2.1.length cl):=tV;have M3:Qd wC wr 3 (.int .i64 x.1.2.2.2.1):=tV;have M4:Qd wC wr 4 (.int .i64 x.1.2.2.2.2):=tV;have M5:Qd wC wr 5 (.int .i64 x.2):=tV;exact And.intro EC (And.intro M0 (And.intro M1 (And.intro M2 (And.intro M3 (And.intro M4 M5)))))):p:=h
def A9 (h:p:=by
 have hne:=λq=>zF hlt X q;have D:=λq=>jv HN.out hlt X q;exact And.intro hne D):p:=h
def AA (h:p:=by
 have a1:=yK (T:=λk=>S k/\k < w.heap.size) (yG (w':=w.drew.alloc (.cells (cs.toArray++cells.toArray++Builtin.zeroCells z.cells (grownCap w (xs.length + m) cap e - (xs.length + m))) e)) (zO g7) (λk hk=>heap_alloc_old w.drew _ hk.2)) (λk hk=>⟨hk.1.1,hk.2⟩);have a2:=yK (T:=λk=>T k/\k < w.heap.size) (yG (w':=w.drew.alloc (.cells (cs.toArray++cells.toArray++Builtin.zeroCells z.cells (grownCap w (xs.length + m) cap e - (xs.length + m))) e)) (zO hrow) (λk hk=>heap_alloc_old w.drew _ hk.2)) (λk hk=>hk);exact And.intro a1 a2):p:=h
def AB (h:p:=by
 have M0:=kE (b:=w.heap.size + 1) X (j:=0) rfl;have F0:=frozen_of_row wV (w.heap.size + 1) 0 _ _ X;have M1:=kE (b:=w.heap.size + 1) X (j:=1) rfl;have F1:=frozen_of_row wV (w.heap.size + 1) 1 _ _ X;have M2:=kE (b:=w.heap.size + 1) X (j:=2) rfl;have F2:=frozen_of_row wV (w.heap.size + 1) 2 _ _ X;have M3:=kE (b:=w.heap.size + 1) X (j:=3) rfl;have F3:=frozen_of_row wV (w.heap.size + 1) 3 _ _ X;have M4:=kE (b:=w.heap.size + 1) X (j:=4) rfl;have F4:=frozen_of_row wV (w.heap.size + 1) 4 _ _ X;have M5:=kE (b:=w.heap.size + 1) X (j:=5) rfl;have F5:=frozen_of_row wV (w.heap.size + 1) 5 _ _ X;have M6:=kE (b:=w.heap.size + 1) X (j:=6) rfl;have F6:=frozen_of_row wV (w.heap.size + 1) 6 _ _ X;exact And.intro M0 (And.intro F0 (And.intro M1 (And.intro F1 (And.intro M2 (And.intro F2 (And.intro M3 (And.intro F3 (And.intro M4 (And.intro F4 (And.intro M5 (And.intro F5 (And.intro M6 F6))))))))))))):p:=h
def AJ (h:p:=by
 have M0:=kE (b:=w.heap.size + 1) X (j:=0) rfl;have F0:=frozen_of_row F (w.heap.size + 1) 0 _ _ X;have M1:=kE (b:=w.heap.size + 1) X (j:=1) rfl;have F1:=frozen_of_row F (w.heap.size + 1) 1 _ _ X;have M2:=kE (b:=w.heap.size + 1) X (j:=2) rfl;have F2:=frozen_of_row F (w.heap.size + 1) 2 _ _ X;have M3:=kE (b:=w.heap.size + 1) X (j:=3) rfl;have F3:=frozen_of_row F (w.heap.size + 1) 3 _ _ X;have M4:=kE (b:=w.heap.size + 1) X (j:=4) rfl;have F4:=frozen_of_row F (w.heap.size + 1) 4 _ _ X;have M5:=kE (b:=w.heap.size + 1) X (j:=5) rfl;have F5:=frozen_of_row F (w.heap.size + 1) 5 _ _ X;have M6:=kE (b:=w.heap.size + 1) X (j:=6) rfl;have F6:=frozen_of_row F (w.heap.size + 1) 6 _ _ X;exact And.intro M0 (And.intro F0 (And.intro M1 (And.intro F1 (And.intro M2 (And.intro F2 (And.intro M3 (And.intro F3 (And.intro M4 (And.intro F4 (And.intro M5 (And.intro F5 (And.intro M6 F6))))))))))))):p:=h
def AL (h:p:=by
 have o:wb.heap.size<=b/\b < v.heap.size:=⟨by omega,by omega⟩;replace E:=And.intro (E.1.trans (Touch.of_below hb)) (E.2.below hb);exact And.intro o E):p:=h
def AP (h:p:=by
 have al:=kD.yh HL.out hlt;have am:=List.take_succ_eq_append_getElem hlt;exact And.intro al am):p:=h
def AQ (h:p:=by
 replace BB:=D.kC BB bD1;replace o:wb.heap.size<=b/\b < v.heap.size:=⟨o.1,Nat.lt_of_lt_of_le o.2 D.size⟩;exact And.intro BB o):p:=h
def AR (h:p:=by
 have c9:((p:Int) + (q:Int)) / 2=(h:Int):=bD1;have de:p<=h:=bD1;have c6:h < q:=bD1;have c8:=Int.natCast_nonneg h;exact And.intro c9 (And.intro de (And.intro c6 c8))):p:=h
def AU (h:p:=by
 have ap:Hid (x.1.length < 16777216->je.own w3 [.slice va vn vc,Qn x.2.1.1,Qs b5 x.2.1.2 am,Qs ag x.2.2.1 af,Qs ae x.2.2.2.1 ac,Qs ab x.2.2.2.2.1 U,Qs a1 x.2.2.2.2.2.1 aw,Qn x.2.2.2.2.2.2] (kFq t x) (jU N.heap.size w3.heap.size)):=yD bA;have Y:Hid (je.raw w3 [.slice va vn vc,Qn x.2.1.1,Qs b5 x.2.1.2 am,Qs ag x.2.2.1 af,Qs ae x.2.2.2.1 ac,Qs ab x.2.2.2.2.1 U,Qs a1 x.2.2.2.2.2.1 aw,Qn x.2.2.2.2.2.2] (kFq t x)):=yD (kLl ai.out.kAz cq.out.raw);exact And.intro ap Y):p:=h
def AV (h:p:=by
 have D0:Qc N (w.heap.size + 1) 0 (.slice dq t.1.length d4):=tT;have D1:Qc N (w.heap.size + 1) 1 (.slice dx t.2.1.length d7):=tT;have D2:Qc N (w.heap.size + 1) 2 (.slice dv t.2.2.1.length d9):=tT;have D3:Qc N (w.heap.size + 1) 3 (.int .i64 t.2.2.2.1):=tT;have D4:Qc N (w.heap.size + 1) 4 (.int .i64 t.2.2.2.2):=tT;have XR:Hid (Qr N (w.heap.size + 1 + 1) #[.slice none 0 0,Qn 0,.slice none 0 0,.slice none 0 0,.slice none 0 0,.slice none 0 0,.slice none 0 0,Qn 0] 33):=yD sF;have bq:w.heap.size + 3<=N.heap.size:=bB4;exact And.intro D0 (And.intro D1 (And.intro D2 (And.intro D3 (And.intro D4 (And.intro XR bq)))))):p:=h
def AX (h:p:=by
 have Z:Qd N w 1 (.int .i64 x.2.1):=tT;have af:Qd N w 2 (.int .i64 x.2.2):=tT;have D:Qc N (w.heap.size + 1) 0 (.slice al (y.1).length ak):=tT;have ae:Qc N (w.heap.size + 1) 1 (.int .i64 y.2.1):=tT;have ag:Qc N (w.heap.size + 1) 2 (.int .i64 y.2.2):=tT;exact And.intro Z (And.intro af (And.intro D (And.intro ae ag)))):p:=h
def AY (h:p:=by
 have U:=yD (lk_no (idxOf_miss (p:=kKx n t) hlt HW.out));have F:=(tQ R o);have X:=XR.out;have b6:¬ (k:Int) < l.length:=bD1;have R0:=kE (b:=w.heap.size + 2) X (j:=0) rfl;have F0:=frozen_of_row wr (w.heap.size + 2) 0 _ _ X;have R1:=kE (b:=w.heap.size + 2) X (j:=1) rfl;have F1:=frozen_of_row wr (w.heap.size + 2) 1 _ _ X;have R2:=kE (b:=w.heap.size + 2) X (j:=2) rfl;have F2:=frozen_of_row wr (w.heap.size + 2) 2 _ _ X;have R3:=kE (b:=w.heap.size + 2) X (j:=3) rfl;have F3:=frozen_of_row wr (w.heap.size + 2) 3 _ _ X;have R4:=kE (b:=w.heap.size + 2) X (j:=4) rfl;have F4:=frozen_of_row wr (w.heap.size + 2) 4 _ _ X;exact And.intro U (And.intro F (And.intro X (And.intro b6 (And.intro R0 (And.intro F0 (And.intro R1 (And.intro F1 (And.intro R2 (And.intro F2 (And.intro R3 (And.intro F3 (And.intro R4 F4))))))))))))):p:=h
def AZ (h:p:=by
 replace BR:=kC BR hb;replace Y:=kC Y hb;replace L:=yD (L.out.below hb);replace EE:=(tQ EE hb);exact And.intro BR (And.intro Y (And.intro L EE))):p:=h
def BG (h:p:=by
 have M0:=kE (b:=w.heap.size) X (j:=0) rfl;have F0:=frozen_of_row w1 w.heap.size 0 _ _ X;have M1:=kE (b:=w.heap.size) X (j:=1) rfl;have F1:=frozen_of_row w1 w.heap.size 1 _ _ X;have M2:=kE (b:=w.heap.size) X (j:=2) rfl;have F2:=frozen_of_row w1 w.heap.size 2 _ _ X;have M3:=kE (b:=w.heap.size) X (j:=3) rfl;have F3:=frozen_of_row w1 w.heap.size 3 _ _ X;have M4:=kE (b:=w.heap.size) X (j:=4) rfl;have F4:=frozen_of_row w1 w.heap.size 4 _ _ X;have M5:=kE (b:=w.heap.size) X (j:=5) rfl;have F5:=frozen_of_row w1 w.heap.size 5 _ _ X;have M6:=kE (b:=w.heap.size) X (j:=6) rfl;have F6:=frozen_of_row w1 w.heap.size 6 _ _ X;exact And.intro M0 (And.intro F0 (And.intro M1 (And.intro F1 (And.intro M2 (And.intro F2 (And.intro M3 (And.intro F3 (And.intro M4 (And.intro F4 (And.intro M5 (And.intro F5 (And.intro M6 F6))))))))))))):p:=h
def BH (h:p:=by
 replace XO:=yD (XO.out.below hb);replace TO:=yD (TO.out.below hb);replace YO:=yD (YO.out.below hb);replace ZO:=yD (ZO.out.below hb);exact And.intro XO (And.intro TO (And.intro YO ZO))):p:=h
def BI (h:p:=by
 have bd:Hid ((kD.slice 38 jF).rd w [Qs bp x.1 bi] x.1):=yD ⟨G,V⟩;have bc:Hid (kP.rd w [Qn x.2.1.1,Qs bw x.2.1.2 bt] x.2.1):=yD ⟨aq,q1⟩;have ax:Hid ((kD.slice 145 kJ).rd w [Qs ck x.2.2.1 cc] x.2.2.1):=yD ⟨au,q2⟩;have bf:Hid ((kD.slice 102 jE).rd w [Qs b9 x.2.2.2.1 b8] x.2.2.2.1):=yD ⟨a4,q3⟩;have a9:Hid ((kD.slice 131 kS).rd w [Qs bx x.2.2.2.2.1 bu] x.2.2.2.2.1):=yD ⟨a6,q4⟩;have a2:Hid ((kD.slice 149 kL).rd w [Qs b0 x.2.2.2.2.2.1 bz] x.2.2.2.2.2.1):=yD ⟨bg,Y⟩;exact And.intro bd (And.intro bc (And.intro ax (And.intro bf (And.intro a9 a2))))):p:=h
def BJ (h:p:=by
 have hb:Qb t v:=(by rw [<- F];exact bR.alloc nL _);have BB:Qr v t.heap.size #[.slice none 0 0,.slice none 0 0,.slice none 0 0,Qn 0,Qn 0] 38:=(by rw [<- F];exact kH rfl);have zv:t.heap.size + 1<=v.heap.size:=(by rw [<- F];simp);exact And.intro hb (And.intro BB zv)):p:=h
def BL (h:p:=by
 have M0:=kE XV.out (j:=0) (v:=.int .i64 c) rfl;have M1:=kE XV.out (j:=1) rfl;have R0:=kE ((o.block _ (show w.heap.size + 1 < w.heap.size + 1 + 1 by omega)).trans XR.out) (j:=0) (v:=.int .i64 0) rfl;have R1:=kE ((o.block _ (show w.heap.size + 1 < w.heap.size + 1 + 1 by omega)).trans XR.out) (j:=1) (v:=.slice none 0 0) rfl;have F0:=λj=>frozen_of_row wr (w.heap.size + 1) j _ _ ((o.block _ (show w.heap.size + 1 < w.heap.size + 1 + 1 by omega)).trans XR.out);exact And.intro M0 (And.intro M1 (And.intro R0 (And.intro R1 F0)))):p:=h
def BO (h:p:=by
 replace hc:=hc.touch N bD1 wW;replace Z:=Z.ja N wZ;exact And.intro hc Z):p:=h
def BP (h:p:=by
 have Z:Qd N w 1 (.slice au (x.2.1).length ap):=tT;have af:Qd N w 2 (.slice ar (x.2.2.1).length ao):=tT;have V:Qd N w 3 (.int .i64 x.2.2.2.1):=tT;have ay:Qd N w 4 (.int .i64 x.2.2.2.2):=tT;have D:Qc N (w.heap.size + 1) 0 (.slice al (y.1).length ak):=tT;have ae:Qc N (w.heap.size + 1) 1 (.slice a6 (y.2.1).length a7):=tT;have ag:Qc N (w.heap.size + 1) 2 (.slice a1 (y.2.2.1).length a5):=tT;have a8:Qc N (w.heap.size + 1) 3 (.int .i64 y.2.2.2.1):=tT;have a4:Qc N (w.heap.size + 1) 4 (.int .i64 y.2.2.2.2):=tT;exact And.intro Z (And.intro af (And.intro V (And.intro ay (And.intro D (And.intro ae (And.intro ag (And.intro a8 a4)))))))):p:=h
def C8 (h:p:=by
 have av:Qd w3 V 0 (.slice a 0 c):=kE B rfl;have a3:w3.frozen? ⟨V.heap.size,0,none⟩=false:=frozen_of_row w3 (V.heap.size) 0 _ _ B;have GB:(World.alloc w3 (.cells #[.string { data:=#[97] }] 9)).frozen? ⟨V.heap.size,0,none⟩=false:=(frozen?_alloc_cells _ _ _ _).trans a3;have HB:(World.alloc w3 (.cells #[.string { data:=#[97] }] 9)).cell? ⟨V.heap.size,0,none⟩=some (.slice a 0 c):=kE (kC B (bR.alloc nL _)) rfl;exact And.intro av (And.intro a3 (And.intro GB HB))):p:=h
def C9 (h:p:=by
 have hb:Qb W v:=(by rw [<- F];exact bR.alloc nL _);have zv:W.heap.size + 1<=v.heap.size:=(by rw [<- F];simp);exact And.intro hb zv):p:=h
def CB (h:p:=by
 have o:wz.heap.size<=b/\b < v.heap.size:=⟨by omega,by omega⟩;replace E:=And.intro (E.1.trans (Touch.of_below hb)) (E.2.below hb);exact And.intro o E):p:=h
def CE (h:p:=by
 have HZ:Hid (wA.heap.size=w.heap.size + 3):=yD (by rw [<- N];simp);have EA:Qb w wA:=by rw [<- N];exact bG
 have XB:Hid (Qr wA w.heap.size #[Qn c,Qs la l lp] 27):=yD (by rw [<- N];exact jR (jR (kH rfl)));have XR:Hid (Qr wA (w.heap.size + 1) #[Qn 0,.slice none 0 0] 27):=yD (by rw [<- N];exact jR (kH bD2));have XO:Hid (Qr wA (w.heap.size + 1 + 1) #[Qn c,.slice none 0 0] 27):=yD (by rw [<- N];exact kH bD2);exact And.intro HZ (And.intro EA (And.intro XB (And.intro XR XO)))):p:=h
def CF (h:p:=by
 have TA:Touch (λk=>jU N.heap.size mid k\/k=w1.heap.size) wT w3:=(TU.wide (λk h=>.inl h)).trans (TW.wide (λk h=>.inr h));have ar:=TW.size;have o:=yD (TA.kC XR.out gL);have cq:=yD (HR.out.touch TA dD);have ai:=yD (Z.out.touch TW bZ);have E3:=ET.trans (TA.below (B:=w.heap.size) (by have:=ET.size;omega) gG);replace K0:=TA.cellAt gH K0;replace K1:=TA.cellAt gH K1;replace K2:=TA.cellAt gH K2;replace K3:=TA.cellAt gH K3;replace K4:=TA.cellAt gH K4;replace K5:=TA.cellAt gH K5;replace K6:=TA.cellAt gH K6;replace K7:=TA.cellAt gH K7;exact And.intro TA (And.intro ar (And.intro o (And.intro cq (And.intro ai (And.intro E3 (And.intro K0 (And.intro K1 (And.intro K2 (And.intro K3 (And.intro K4 (And.intro K5 (And.intro K6 K7))))))))))))):p:=h
def CG (h:p:=by
 replace L:=yD (L.out.touch D pX);replace HR:=yD (HR.out.touch D pX);replace J:=J.trans D;exact And.intro L (And.intro HR J)):p:=h
def CJ (h:p:=by
 have hb:Qb w w1:=by rw [<- F];exact (bR.alloc nL _).alloc bD2 _
 have RN:Qr w1 w.heap.size #[.slice none 0 0,Qn 0,.slice none 0 0,.slice none 0 0,.slice none 0 0,.slice none 0 0,.slice none 0 0,Qn 0] 33:=sN;have RT:Qr w1 (w.heap.size + 1) #[.slice none 0 0,.slice none 0 0,.slice none 0 0,.slice none 0 0] 79:=by rw [<- F];exact kH bD2
 have bf:w.heap.size + 2<=w1.heap.size:=bB3;exact And.intro hb (And.intro RN (And.intro RT bf))):p:=h
def CK (h:p:=by
 have ay:Qd wS1 c2 1 (.int .i64 L.2.1.1):=kE BD rfl;have b1:Qd wS1 c2 2 (.slice dx L.2.1.2.length d7):=kE BD rfl;have cv:Qd wS1 c2 3 (.slice dv L.2.2.1.length d8):=kE BD rfl;have cd:Qd wS1 c2 4 (.slice eh L.2.2.2.1.length em):=kE BD rfl;have d0:Qd wS1 c2 5 (.slice ei L.2.2.2.2.1.length ej):=kE BD rfl;have dz:Qd wS1 c2 6 (.slice el L.2.2.2.2.2.1.length ek):=kE BD rfl;have d1:Qd wS1 c2 7 (.int .i64 L.2.2.2.2.2.2):=kE BD rfl;exact And.intro ay (And.intro b1 (And.intro cv (And.intro cd (And.intro d0 (And.intro dz d1)))))):p:=h
def CL (h:p:=by
 have co:IntKind.i64.wrap (j:Int)=j:=IntWalk.i64_in _ bD1;have b0:=Int.natCast_nonneg j;exact And.intro co b0):p:=h
def CP (h:p:=by
 have EF:Qb w V:=E1.trans (Below.mono (Below.trans bG ab) E1.size);have L:=yD O2;have a8:=E1.size;have X:=kC XR.out (Below.trans bG ab);exact And.intro EF (And.intro L (And.intro a8 X))):p:=h
def CQ (h:p:=by
 replace D:=(Touch.of_below (S:=λk=>k=p) (bR.alloc nL _)).trans D;have bg:=D.size;exact And.intro D bg):p:=h
def CR (h:p:=by
 replace hc:=hc.touch N bD1 wW;replace E:=E.trans (N.wide (λk q=>.inr (.inl q)));exact And.intro hc E):p:=h
def CS (h:p:=by
 have M0:Qd wC wr 0 (.slice ad (x0).length aw):=tV;have M1:Qd wC wr 1 (.int .i64 x1):=tV;have M2:Qd wC wr 2 (.int .i64 x2):=tV;exact And.intro M0 (And.intro M1 M2)):p:=h
def CU (h:p:=by
 have R:Qb w N:=by rw [<- J];exact bG
 have az:N.heap.size=w.heap.size + 3:=bB4;have K0:Qd N w 0 (.slice bp x.1.length bi):=tT;have K1:Qd N w 1 (.int .i64 x.2.1.1):=tT;have K2:Qd N w 2 (.slice bw x.2.1.2.length bt):=tT;have N0:Qc N (w.heap.size + 1) 0 (.slice an n.length a7):=tT;have XR:Hid (Qr N (w.heap.size + 2) #[.slice none 0 0,.slice none 0 0,.slice none 0 0,Qn 0,Qn 0] 38):=yD sF;exact And.intro R (And.intro az (And.intro K0 (And.intro K1 (And.intro K2 (And.intro N0 XR)))))):p:=h
def CV (h:p:=by
 have bq:z<=16777216:=bD1;have a3:z<=n:=bD1;have c0:n<=16777216:=bD1;have b4:=yD hz;exact And.intro bq (And.intro a3 (And.intro c0 b4))):p:=h
def CW (h:p:=by
 have ab:j < n:=bD1;have b6:k < n:=bD1;have dq:(j:Int) < n:=bD1;have cz:(k:Int) < n:=bD1;have bk:=Int.natCast_nonneg k;have cm:(j:Int) - 1=(k:Int):=bD1;have hw:IntKind.i64.wrap (k:Int)=k:=IntWalk.i64_in _ bD1;have hp:decide ((j:Int) > a)=true:=bC6;have cf:decide (a < j)=true:=bC1;have ck:(a:Int) < j:=bD1;have HY:=yD (λq=>(kYu (key:=key) hk O a4 am q).symm.trans al.out);have a5:=yD (λq=>(inner_no (key:=key) (a:=a) hk a4 am q).symm.trans al.out);exact And.intro ab (And.intro b6 (And.intro dq (And.intro cz (And.intro bk (And.intro cm (And.intro hw (And.intro hp (And.intro cf (And.intro ck (And.intro HY a5))))))))))):p:=h
def CX (h:p:=by
 have V:Below wS.heap.size wS (World.alloc wS (.cells #[] 5)):=bR.alloc nL _;have bo:wS.heap.size + 1<=(World.alloc wS (.cells #[] 5)).heap.size:=(by simp);have RV:=((kD.kU.void (e:=5) (r:=kD.byte) (w:=(World.alloc wS (.cells #[] 5))) (a:=some ⟨wS.heap.size,0,none⟩) (S:=λ_=>False)).own (Nat.zero_le _)).rd;exact And.intro V (And.intro bo RV)):p:=h
def CY (h:p:=by
 have bg:=O.size;have bt:=hc.lt.2;replace R:=kC R O;replace RN:=kC RN O;have J:Touch (λk=>k=p) w V:=Touch.of_below (tQ EE O);exact And.intro bg (And.intro bt (And.intro R (And.intro RN J)))):p:=h
def CZ (h:p:=by
 have eq:∀ U:World,Sem.run prog (Instr.field 68 (.agg #[Qs a Y c,Qn n,Qn h,Qn lt]) 0) U=.ok (.agg #[Qs a Y c]) U:=λU=>by kernel_rfl
 have HQ:=yD (hQ.ji);exact And.intro eq HQ):p:=h
def D5 (h:p:=by
 have bm:∀ q u,([.slice a2 (x.1).length be,.int .i64 x.2.1,.int .i64 x.2.2]:List Value)[q]?=some u->wS.cell? ⟨b,j * kS.n + q,none⟩=some u:=qY;have bw:∀ q u,([.slice ad (y.1).length aw,.int .i64 y.2.1,.int .i64 y.2.2]:List Value)[q]?=some u->wS.cell? ⟨b,k * kS.n + q,none⟩=some u:=qZ;exact And.intro bm bw):p:=h
def D6 (h:p:=by
 have L:Hid (kW.own V [Qs a2 y.1 c2] y.1 (jU (w.heap.size + 1 + 1) V.heap.size)):=yD (O2.wide nO);have EF:Qb w V:=F.trans (Below.mono (Below.trans bG ab) F.size);replace R0:=cL ab R0;replace F0:V.frozen? ⟨w.heap.size + 1,0,none⟩=false:=(ab.frozen (p:=⟨w.heap.size + 1,0,none⟩) (by have:=o.size;simp;omega)).trans F0;exact And.intro L (And.intro EF (And.intro R0 F0))):p:=h
def D7 (h:p:=by
 have ag:Qb w w1:=rT;have R:Qr w1 w.heap.size #[.slice none 0 0] 36:=vD;have bf:w.heap.size + 1<=w1.heap.size:=bB3;exact And.intro ag (And.intro R bf)):p:=h
def D8 (h:p:=by
 replace BB:=kC BB hb;replace o:wb.heap.size<=b/\b < v.heap.size:=⟨o.1,Nat.lt_of_lt_of_le o.2 hb.size⟩;exact And.intro BB o):p:=h
def D9 (h:p:=by
 have L0:=kE ((o.block _ (show w.heap.size < w.heap.size + 1 + 1 by omega)).trans XB.out) (j:=0) (v:=.int .i64 c) rfl;have L1:=kE ((o.block _ (show w.heap.size < w.heap.size + 1 + 1 by omega)).trans XB.out) (j:=1) (v:=.slice la l.length lp) rfl;have EW:Qb w wr:=EA.trans (o.mono bD1);have b6:=Int.natCast_nonneg k;exact And.intro L0 (And.intro L1 (And.intro EW b6))):p:=h
def DC (h:p:=by
 have EC:Qb wr wC:=rU;have M0:Qd wC wr 0 (.slice xa x.1.length xp):=tV;have M1:Qd wC wr 1 (.int .i64 x.2.1):=tV;have M2:Qd wC wr 2 (.int .i64 x.2.2):=tV;replace K0:=cL EC K0;exact And.intro EC (And.intro M0 (And.intro M1 (And.intro M2 K0)))):p:=h
def DD (h:p:=by
 have L:=yD h;have bl:=yD hn;have dc:Hid (Touch S w w):=yD (Touch.refl _ _);exact And.intro L (And.intro bl dc)):p:=h
def DF (h:p:=by
 replace D:=(Touch.of_below (S:=λk=>k=p) (bR.alloc nL _)).trans D;have br:=D.size;exact And.intro D br):p:=h
def DI (h:p:=by
 have a2:=E.size;have au:=EC.size;have aa:=o.size;have X:Qb wr _:=(tQ EC E);replace L:=yD (L.out.below X);have R:=(tQ o X);exact And.intro a2 (And.intro au (And.intro aa (And.intro X (And.intro L R))))):p:=h
def DJ (h:p:=by
 have au:=λq=>idxOf_hit hlt q HN.out;have Z:=λq=>kBd hlt q HN.out;exact And.intro au Z):p:=h
def DK (h:p:=by
 have N:Touch (λk=>k=w.heap.size) t4 t5:=(by rw [<- F];exact sT8);replace R:Qr t5 w.heap.size #[Qs a0 x0 c0,Qn kc,Qs a1 xe c1,Qs a2 x2 c2,Qs a3 x3 c3,Qs a4 x4 c4,Qs a5 X c5,Qn o] 33:=(by rw [<- F];exact kF (kF (kF (kF (kF (kF (kF (kF (R) 0) 1) 2) 3) 4) 5) 6) 7);have an:=N.size;exact And.intro N (And.intro R an)):p:=h
def DL (h:p:=by
 have N:Touch (λk=>k=w.heap.size) t2 t3:=(by rw [<- F];exact sT8);replace R:Qr t3 w.heap.size #[Qs a0 x0 c0,Qn kc,Qs a1 xe c1,Qs a2 x2 c2,Qs a3 x3 c3,Qs a4 x4 c4,Qs a5 X c5,Qn o] 33:=(by rw [<- F];exact kF (kF (kF (kF (kF (kF (kF (kF (R) 0) 1) 2) 3) 4) 5) 6) 7);have dw:=N.size;exact And.intro N (And.intro R dw)):p:=h
def DN (h:p:=by
 replace HK:=yD (HK.out.below hb);replace BX:=kC BX hb;replace R:=kC R hb;exact And.intro HK (And.intro BX R)):p:=h
def DR (h:p:=by
 have HY:=yD (λe=>(kQs (p:=(λh=>!decide (Srt.zG key xs m < Srt.zG key xs h))) hlt hh e).symm.trans HB.out);have a5:=yD (λe=>(bs_no (p:=(λh=>!decide (Srt.zG key xs m < Srt.zG key xs h))) hlt hh e).symm.trans HB.out);have hl:h < xs.length:=vS;have ml:m < xs.length:=vS;have da:(h:Int) < n:=bD1;have al:(m:Int) < n:=bD1;exact And.intro HY (And.intro a5 (And.intro hl (And.intro ml (And.intro da al))))):p:=h
def DT (h:p:=by
 have HY:=yD (λe=>(kQs (p:=(λh=>decide (Srt.zG key xs h < Srt.zG key xs a))) hlt hh e).symm.trans HB.out);have a5:=yD (λe=>(bs_no (p:=(λh=>decide (Srt.zG key xs h < Srt.zG key xs a))) hlt hh e).symm.trans HB.out);have hl:h < xs.length:=vS;have al:a < xs.length:=vS;have da:(h:Int) < n:=bD1;have c2:(a:Int) < n:=bD1;exact And.intro HY (And.intro a5 (And.intro hl (And.intro al (And.intro da c2))))):p:=h
def DU (h:p:=by
 have Y:=cL EW C0;have B1:=cL EW C1;have B2:=cL EW C2;exact And.intro Y (And.intro B1 B2)):p:=h
def DV (h:p:=by
 have az:(prog.info? 131).map (·.size)=some 3:=gJ;have aj:∀ c∈([.slice a2 (x.1).length be,.int .i64 x.2.1,.int .i64 x.2.2]:List Value),c.oneCell'=true:=bU;have N:∀ c∈([.slice ad (y.1).length aw,.int .i64 y.2.1,.int .i64 y.2.2]:List Value),c.oneCell'=true:=bU;exact And.intro az (And.intro aj N)):p:=h
def DW (h:p:=by
 have h6:wb.heap.size<=b6/\b6 < v.heap.size:=⟨by omega,by omega⟩;replace E:=And.intro (E.1.trans (Touch.of_below hb)) (E.2.below hb);exact And.intro h6 E):p:=h
def DX (h:p:=by
 replace R:=D.kC R bD1;replace J:=J.trans D;exact And.intro R J):p:=h
def DY (h:p:=by
 have R:Qb w N:=by rw [<- J];exact bG
 have K0:Qd N w 0 (.slice aa a.length am):=tT;have K1:Qc N (w.heap.size + 1) 0 (.slice ab b.length aq):=tT;exact And.intro R (And.intro K0 K1)):p:=h
def DZ (h:p:=by
 have R:Qb w N:=by rw [<- J];exact bG
 have L:Qd N w 0 (.slice ac (x.1.1).length Y):=tT;have Z:Qd N w 1 (.slice au (x.1.2.1).length ap):=tT;have af:Qd N w 2 (.slice ar (x.1.2.2.1).length ao):=tT;have V:Qd N w 3 (.int .i64 x.1.2.2.2.1):=tT;have ay:Qd N w 4 (.int .i64 x.1.2.2.2.2):=tT;have bj:Qd N w 5 (.int .i64 x.2):=tT;exact And.intro R (And.intro L (And.intro Z (And.intro af (And.intro V (And.intro ay bj)))))):p:=h
def EB (h:p:=by
 have R:Qb w N:=by rw [<- J];exact bG
 have az:N.heap.size=w.heap.size + 3:=bB4;have K1:Qd N w 1 (.slice aa l.length am):=tT;have K2:Qc N (w.heap.size + 1) 0 (.slice an n.length a7):=tT;have XR:Hid (Qr N (w.heap.size + 2) #[.slice none 0 0,.slice none 0 0,.slice none 0 0,Qn 0,Qn 0] 38):=yD sF;exact And.intro R (And.intro az (And.intro K1 (And.intro K2 XR)))):p:=h
def EG (h:p:=by
 have D:=λ(q:u % 10=0)=>kOz (P:=prog) (w:=wr) (src:=22) (dst:=9) (z:=48) (x:=UInt8.ofNat (48 + u % 10)) (by rw [q];rfl) underlying22 underlying5 underlying9;have ac:(⟨#[UInt8.ofNat (48 + u % 10)]⟩:ByteArray).size=1:=rfl;exact And.intro D ac):p:=h
def EH (h:p:=by
 have HY:=yD (λe=>(kQs (p:=(λc=>!decide (Srt.zG key xs (N - 1 - c) < Srt.zG key xs c))) hlt hh e).symm.trans HB.out);have a5:=yD (λe=>(bs_no (p:=(λc=>!decide (Srt.zG key xs (N - 1 - c) < Srt.zG key xs c))) hlt hh e).symm.trans HB.out);exact And.intro HY a5):p:=h
def EI (h:p:=by
 have E:Below u.heap.size u (u.alloc (.cells cx.toArray e)):=bR.alloc nL _;have hS:(slice e r).own u [.slice a len cap] xs (λk=>S k/\k < w.heap.size):=⟨(slice e r).mono ((slice e r).live hown.1) (λk hk=>hu.block k hk.2),hown.2⟩;exact And.intro E hS):p:=h
def EJ (h:p:=by
 have X:Qb w1 wC:=rU;have XM:Hid (Qr wC w1.heap.size #[.slice oa on oc,Qn x.2.1.1,Qs b5 x.2.1.2 am,Qs ag x.2.2.1 af,Qs ae x.2.2.2.1 ac,Qs ab x.2.2.2.2.1 U,Qs a1 x.2.2.2.2.2.1 aw,Qn x.2.2.2.2.2.2] 33):=yD vG;have cl:w1.heap.size + 1<=wC.heap.size:=bB9;exact And.intro X (And.intro XM cl)):p:=h
def EK (h:p:=by
 replace DO:=yD (DO.out.below hb);replace EO:=yD (EO.out.below hb);replace FO:=yD (FO.out.below hb);exact And.intro DO (And.intro EO FO)):p:=h
def EL (h:p:=by
 have b0:=Int.natCast_nonneg j;have bk:=Int.natCast_nonneg k;have dq:(j:Int) < n:=vQ;have cz:(k:Int) < n:=vQ;have cm:(a:Int) + (i:Int)=(j:Int):=bD1;have bo:(z:Int) + (i:Int)=(k:Int):=bD1;have O:j<=16777216:=bD1;have V:k<=16777216:=bD1;have Y:IntKind.i64.wrap (j:Int)=j:=IntWalk.i64_in _ bD1;have H:IntKind.i64.wrap (k:Int)=k:=IntWalk.i64_in _ bD1;exact And.intro b0 (And.intro bk (And.intro dq (And.intro cz (And.intro cm (And.intro bo (And.intro O (And.intro V (And.intro Y H))))))))):p:=h
def EM (h:p:=by
 have N:Touch (λk=>k=w.heap.size + 1) t2 t3:=(by rw [<- F];exact sT4);replace RT:Qr t3 (w.heap.size + 1) #[Qs a8 t.1 ce,Qs bn t.2.1 co,Qs bb t.2.2.1 cq,Qs df t.2.2.2 dg] 79:=(by rw [<- F];exact kF (kF (kF (kF (RT) 0) 1) 2) 3);have dw:=N.size;exact And.intro N (And.intro RT dw)):p:=h
def EN (h:p:=by
 replace R:=kC R bD;replace RN:=kC RN bD;replace hc:=hc.below bD;have ao:=bD.size;exact And.intro R (And.intro RN (And.intro hc ao))):p:=h
def EP (h:p:=by
 replace R:=D.kC R bD1;replace RN:=D.kC RN bD1;exact And.intro R RN):p:=h
def ES (h:p:=by
 have c5:IntKind.i64.wrap (ma:Int)=ma:=IntWalk.i64_in _ bD1;have dp:IntKind.i64.wrap (zm:Int)=zm:=IntWalk.i64_in _ bD1;have U:IntKind.i64.wrap (N:Int)=N:=IntWalk.i64_in _ bD1;have cc:=Int.natCast_nonneg mid;have dy:=Int.natCast_nonneg N;have d6:(N:Int)<=33554432:=bD1;have b0:a < mid:=bD1;have dj:mid < z:=bD1;exact And.intro c5 (And.intro dp (And.intro U (And.intro cc (And.intro dy (And.intro d6 (And.intro b0 dj))))))):p:=h
def EU (h:p:=by
 have R:Qb w N:=by rw [<- J];exact bG
 have ae:Qd N w 0 (.slice ac (x.1).length Y):=tT;have O:Qd N w 1 (.slice au (x.2.1).length ap):=tT;have L:Qd N w 2 (.slice ar (x.2.2.1).length ao):=tT;have D:Qd N w 3 (.int .i64 x.2.2.2.1):=tT;have Z:Qd N w 4 (.int .i64 x.2.2.2.2):=tT;exact And.intro R (And.intro ae (And.intro O (And.intro L (And.intro D Z))))):p:=h
def EX (h:p:=by
 have TU:Touch (jU N.heap.size mid) wT V:=(Touch.of_below (bR.alloc nL _)).trans (F.out.wide (λk h=>h.2));have cg:=TU.kC XM.out pW;have N0:=kE cg (j:=0) rfl;have NF:=frozen_of_row V w1.heap.size 0 _ _ cg;have d3:vn<=16777217:=by have:=cw.out;simp at this;omega
 exact And.intro TU (And.intro cg (And.intro N0 (And.intro NF d3)))):p:=h
def EY (h:p:=by
 have cw:¬ (q:Int) < q:=bD1;have HE:=yD ((kQt (p:=(λh=>!decide (Srt.zG key xs m < Srt.zG key xs h))) (i:=q) (j:=q) bD1).symm.trans HB.out);have bn:Hid (Srt.symm key (f + 1) a m z xs=Srt.down q m xs):=yD (by rw [HF.out,<- HE.out]);exact And.intro cw (And.intro HE bn)):p:=h
def EZ (h:p:=by
 have dr:=D.size;replace Z:=Z.ja D mM;replace BN:=D.kC BN bD1;replace HR:=yD (HR.out.touch D nT);exact And.intro dr (And.intro Z (And.intro BN HR))):p:=h
def F8 (h:p:=by
 have au:Qc w5 (w.heap.size + 2) 1 (.slice none 0 0):=kE BR rfl;have R:Qc w5 (w.heap.size + 2) 2 (.slice none 0 0):=kE BR rfl;have G:Qc w5 (w.heap.size + 2) 3 (.int .i64 0):=kE BR rfl;have ab:Qc w5 (w.heap.size + 2) 4 (.int .i64 0):=kE BR rfl;exact And.intro au (And.intro R (And.intro G ab))):p:=h
def F9 (h:p:=by
 have hr:i∈Region.ready .any l.toArray listed:=vY;have bu:q.all (λx=>decide (x.1 < n) && !G.contains x.1)=true:=dM;exact And.intro hr bu):p:=h
def FB (h:p:=by
 replace hc:=hc.touch N bD1 wW;replace E:=E.trans (N.wide (λk q=>.inr (.inr (q))));exact And.intro hc E):p:=h
def FC (h:p:=by
 have e5:=E.1.size;have RS:=E.1.kC BN bD1;have ac:Qc O R 0 (.slice a0 x0.length c0):=kE RS rfl;have ak:O.frozen? ⟨R,0,none⟩=false:=frozen_of_row O (R) 0 _ _ RS;have an:Qc O R 1 (.int .i64 kc):=kE RS rfl;have al:O.frozen? ⟨R,1,none⟩=false:=frozen_of_row O (R) 1 _ _ RS;exact And.intro e5 (And.intro RS (And.intro ac (And.intro ak (And.intro an al))))):p:=h
def FD (h:p:=by
 have bu:q.all (λx=>decide (x.1 < n) && !G.contains x.1)=true:=dM;have hil:i < l.toArray.size:=Nat.lt_trans hi.1.1 hn;exact And.intro bu hil):p:=h
def FE (h:p:=by
 have bm:∀ q u,([.int .i64 x]:List Value)[q]?=some u->wS.cell? ⟨b,j * kD.int.n + q,none⟩=some u:=vB;have bw:∀ q u,([.int .i64 y]:List Value)[q]?=some u->wS.cell? ⟨b,k * kD.int.n + q,none⟩=some u:=vC;exact And.intro bm bw):p:=h
def FH (h:p:=by
 have R:Qb w N:=rW;have XB:Qr N w.heap.size #[.slice none 0 0,Qn 0,.slice none 0 0,.slice none 0 0,.slice none 0 0,.slice none 0 0,.slice none 0 0,Qn 0] 33:=by rw [<- J];exact kH rfl
 have bq:N.heap.size=w.heap.size + 1:=bB4;exact And.intro R (And.intro XB bq)):p:=h
def FI (h:p:=by
 have O:cells.length=m * i.size:=by rw [hsize,ah,hm]
 have U:cur.toList.length=p.length + (cs.length + tl.length):=by rw [g2];simp
 have V:cur.size=p.length + (cs.length + tl.length):=by rw [<- U,Array.length_toList]
 exact And.intro O (And.intro U V)):p:=h
def FJ (h:p:=by
 have HL:Hid ((kD.slice 122 jC).rd w [Qs la l lp] l):=yD ⟨hl,al.2⟩;have bc:l.length<=16777216:=al.2.1;have bx:=yD a3;exact And.intro HL (And.intro bc bx)):p:=h
def FK (h:p:=by
 have E3:Qb w v3:=by rw [<- D];exact (F3.setCell pU _)
 have av:Hid (v3.heap.size=w3.heap.size):=yD rR;replace aa:=yD (kD.own.out (w':=v3) aa.out bX);replace Z:=yD (kD.own.out (w':=v3) Z.out bX);replace ai:=yD (kD.own.out (w':=v3) ai.out bX);exact And.intro E3 (And.intro av (And.intro aa (And.intro Z ai)))):p:=h
def FL (h:p:=by
 replace K0:=cL O K0;replace K1:=cL O K1;replace K2:=cL O K2;exact And.intro K0 (And.intro K1 K2)):p:=h
def FM (h:p:=by
 replace BB:=kC BB hb;replace o:wr.heap.size<=b/\b < v.heap.size:=⟨o.1,Nat.lt_of_lt_of_le o.2 hb.size⟩;exact And.intro BB o):p:=h
def FN (h:p:=by
 have cm:(q:Int) - 1=(t:Int):=bD1;have ab:a<=t:=bD1;have au:IntKind.i64.wrap (t:Int)=t:=IntWalk.i64_in _ bD1;have ap:t + 1<=z:=bD1;have D:(t:Int) < n:=bD1;have bn:Hid (Srt.symm key (f + 1) a m z xs=Srt.up (t - a) a xs):=yD (by rw [HF.out,<- HE.out,ht]);exact And.intro cm (And.intro ab (And.intro au (And.intro ap (And.intro D bn))))):p:=h
def FP (h:p:=by
 replace HK:=yD (HK.out.touch D (λk q h=>hS k q.1 h));replace BX:=D.kC BX bD1;exact And.intro HK BX):p:=h
def FQ (h:p:=by
 have R:Qb w N:=by rw [<- J];exact bG
 have az:N.heap.size=w.heap.size + 2:=bB4;have K0:Qd N w 0 (.slice an n.length a7):=tT;have K1:Qc N (w.heap.size + 1) 0 (.slice none 0 0):=tT;have F1:N.frozen? ⟨w.heap.size + 1,0,none⟩=false:=tT;exact And.intro R (And.intro az (And.intro K0 (And.intro K1 F1)))):p:=h
def FT (h:p:=by
 have a2:=E.size;have au:=EC.size;have aa:=o.size;have bk:=an.size;have X:Qb wr wS:=(tQ ER E);replace L:=yD (L.out.below X);have R:=(tQ o X);exact And.intro a2 (And.intro au (And.intro aa (And.intro bk (And.intro X (And.intro L R)))))):p:=h
def FU (h:p:=by
 have ag:Qb w w1:=rT;have R:Qr w1 w.heap.size #[.slice none 0 0,Qn 0,.slice none 0 0,.slice none 0 0,.slice none 0 0,.slice none 0 0,.slice none 0 0,Qn 0] 33:=vD;have bf:w.heap.size + 1<=w1.heap.size:=bB3;exact And.intro ag (And.intro R bf)):p:=h
def FV (h:p:=by
 replace R:=D.kC R bD1;replace B:=D.kC B bD1;exact And.intro R B):p:=h
def FW (h:p:=by
 have aa:Qb V w3:=rT;have B:Qr w3 V.heap.size #[.slice a n c] 36:=vD;have bi:V.heap.size + 1<=w3.heap.size:=bB3;exact And.intro aa (And.intro B bi)):p:=h
def FY (h:p:=by
 have b1:x.1.length<=16777216:=q1.1;have b2:x.2.1.2.length<=16777216:=q2.1;have R:x.2.2.1.length<=16777216:=q3.1;have O:x.2.2.2.1.length<=16777216:=q4.1;have V:x.2.2.2.2.1.length<=16777216:=Y.1;have b6:x.2.2.2.2.2.1.length<=16777216:=q6.1;exact And.intro b1 (And.intro b2 (And.intro R (And.intro O (And.intro V b6))))):p:=h
def FZ (h:p:=by
 have ab:¬ (m:Int) - (a:Int)=1:=bD1;have ap:(((m - a:Nat):Int)==1)=false:=bC6;exact And.intro ab ap):p:=h
def G5 (h:p:=by
 have cl:=EC.size;have b1:w.heap.size + 1<=V.heap.size:=by simpa using a7
 have E2:Qb w wC:=Below.trans (bR.alloc nL _) ((ab.trans (EC.mono a7)).mono bD2);replace B2:=kC B2 EC;replace HD:=yD (λq=>(HD.out q).below EC);have AC:=cL EC az;have K5:=kE B5 (j:=0) rfl;exact And.intro cl (And.intro b1 (And.intro E2 (And.intro B2 (And.intro HD (And.intro AC K5)))))):p:=h
def G6 (h:p:=by
 replace HB:Hid ((kD.slice 5 kD.byte).ji v [Qs ba Z bc] Z (Ql wb v b)):=yD ((HB.out.below hb).wide dG);replace HK:Hid (kW.ji v [Qs ka ks kc] ks (Ql wb v b)):=yD ((HK.out.below hb).wide dG);exact And.intro HB HK):p:=h
def G7 (h:p:=by
 have HL:=yD hl;have HN:=yD hn;have bc:l.length<=16777216:=hl.2.1;exact And.intro HL (And.intro HN bc)):p:=h
def G8 (h:p:=by
 have R:Qb w N:=by rw [<- J];exact bG
 have K5:Qd N w 5 (.slice bx x.2.2.2.2.1.length bu):=tT;have K6:Qd N w 6 (.slice b0 x.2.2.2.2.2.1.length bz):=tT;have KN:Qc N (w.heap.size + 1) 0 (.slice na n.length np):=tT;exact And.intro R (And.intro K5 (And.intro K6 KN))):p:=h
def G9 (h:p:=by
 have an:Hid (x.1.length<=Big):=yD V.1;have a1:Hid (x.2.2.1.length<=Big):=yD q2.1;have bh:Hid (x.2.2.2.1.length<=Big):=yD q3.1;have ao:Hid (x.2.2.2.2.1.length<=Big):=yD q4.1;have al:Hid (x.2.2.2.2.2.1.length<=Big):=yD Y.1;exact And.intro an (And.intro a1 (And.intro bh (And.intro ao al)))):p:=h
def GA (h:p:=by
 have A0:=(E.cell (p:=⟨w.heap.size,0,none⟩) sJ).trans am;have A1:=(E.cell (p:=⟨w.heap.size,1,none⟩) sJ).trans ak;have A2:=(E.cell (p:=⟨w.heap.size,2,none⟩) sJ).trans al;have EW:=R.trans (E.mono bD1);exact And.intro A0 (And.intro A1 (And.intro A2 EW))):p:=h
def GD (h:p:=by
 have A0:=(D.cell (p:=⟨w.heap.size,0,none⟩) sJ).trans am;have A1:=(D.cell (p:=⟨w.heap.size,1,none⟩) sJ).trans ak;have A2:=(D.cell (p:=⟨w.heap.size,2,none⟩) sJ).trans al;have EW:=R.trans (D.mono bD1);exact And.intro A0 (And.intro A1 (And.intro A2 EW))):p:=h
def GG (h:p:=by
 have aq:(J:Int)<=16777216:=bD1;have bq:(E:Int)<=16777216:=bD1;have bu:=Int.natCast_nonneg J;have bn:=Int.natCast_nonneg E;have Y:IntKind.i64.wrap (J:Int)=J:=IntWalk.i64_in _ bD1;have H:IntKind.i64.wrap (E:Int)=E:=IntWalk.i64_in _ bD1;exact And.intro aq (And.intro bq (And.intro bu (And.intro bn (And.intro Y H))))):p:=h
def GH (h:p:=by
 have RR:Hid ((kD.slice 131 kS).rd w [Qs bx x.2.2.2.2.1 bu] x.2.2.2.2.1):=yD ⟨a6,Y⟩;have RM:Hid ((kD.slice 149 kL).rd w [Qs b0 x.2.2.2.2.2.1 bz] x.2.2.2.2.2.1):=yD ⟨bg,q6⟩;exact And.intro RR RM):p:=h
def GI (h:p:=by
 replace BX:=kC BX hb;replace BT:=kC BT hb;replace BY:=kC BY hb;replace BZ:=kC BZ hb;exact And.intro BX (And.intro BT (And.intro BY BZ))):p:=h
def GJ (h:p:=by
 have zv:=D.size;replace HB:Hid ((kD.slice 5 kD.byte).ji v [Qs ba Z bc] Z (Ql wb v p)):=yD ((HB.out.touch D sK).wide (λk q=>⟨q.1,Nat.lt_of_lt_of_le q.2.1 D.size,q.2.2⟩));exact And.intro zv HB):p:=h
def GK (h:p:=by
 have zv:=D.size;have b9:=o.2;replace HB:Hid ((kD.slice 5 kD.byte).ji v [Qs ba Z bc] Z (Ql wb v b)):=yD ((HB.out.touch D sK).wide (λk q=>⟨q.1,Nat.lt_of_lt_of_le q.2.1 D.size,q.2.2⟩));exact And.intro zv (And.intro b9 HB)):p:=h
def GL (h:p:=by
 have R:Qb w N:=rW;have K0:Qd N w 0 (.slice na n.length np):=tT;have bq:N.heap.size=w.heap.size + 1:=bB4;exact And.intro R (And.intro K0 bq)):p:=h
def GM (h:p:=by
 replace BS:=kC BS hb;replace BM:=kC BM hb;replace BD:=kC BD hb;exact And.intro BS (And.intro BM BD)):p:=h
def GN (h:p:=by
 replace ar:Hid (kW.ji v [Qs L n1 Y] n1 (Ql wr v b)):=yD ((ar.out.below hb).wide dG);replace a8:Hid (kW.ji v [Qs ao n2 aq] n2 (Ql wr v b)):=yD ((a8.out.below hb).wide dG);exact And.intro ar a8):p:=h
def GQ (h:p:=by
 have BR:Qr w1 (w.heap.size + 2) #[.slice none 0 0,.slice none 0 0,.slice none 0 0,Qn 0,Qn 0] 38:=by rw [<- F];exact kH bD2
 have bf:w.heap.size + 3<=w1.heap.size:=bB3;exact And.intro BR bf):p:=h
def GR (h:p:=by
 have be:O.frozen? ⟨R,3,none⟩=false:=frozen_of_row O (R) 3 _ _ RS;have bp:Qc O R 4 (.slice a3 0 c3):=kE RS rfl;have bo:O.frozen? ⟨R,4,none⟩=false:=frozen_of_row O (R) 4 _ _ RS;exact And.intro be (And.intro bp bo)):p:=h
def GU (h:p:=by
 have bv:(0:Int)<=k:=bD1;have a3:(k:Int) < on:=bD1;exact And.intro bv a3):p:=h
def GV (h:p:=by
 have E2:Qb w v2:=by rw [<- D];exact (F2.setCell pU _)
 have Y:Hid (v2.heap.size=V.heap.size):=yD rR;replace aa:=yD (kD.own.out (w':=v2) aa.out cO);replace Z:=yD (kD.own.out (w':=v2) Z.out cO);exact And.intro E2 (And.intro Y (And.intro aa Z))):p:=h
def GX (h:p:=by
 replace HR:=yD (HR.out.touch N nT);replace HP:=yD (HP.out.touch N nT);exact And.intro HR HP):p:=h
def GY (h:p:=by
 have dy:O.frozen? ⟨R,6,none⟩=false:=frozen_of_row O (R) 6 _ _ RS;have d1:Qc O R 7 (.int .i64 0):=kE RS rfl;have d5:O.frozen? ⟨R,7,none⟩=false:=frozen_of_row O (R) 7 _ _ RS;exact And.intro dy (And.intro d1 d5)):p:=h
def GZ (h:p:=by
 have az:(prog.info? 3).map (·.size)=some 1:=gI;have aj:∀ c∈([.int .i64 x]:List Value),c.oneCell'=true:=cK;have N:∀ c∈([.int .i64 y]:List Value),c.oneCell'=true:=cK;exact And.intro az (And.intro aj N)):p:=h
def H8 (h:p:=by
 have b3:=aj.size;replace L:=yD ((L.out.below aj).wide (T:=jU w.heap.size w4.heap.size) rC);exact And.intro b3 L):p:=h
def H9 (h:p:=by
 have EC:Qb wT wC:=rU;have K0:Qd wC wT 0 (.slice a8 x0.length bm):=tV;exact And.intro EC K0):p:=h
def HV (h:p:=by
 have EC:Qb wV wC:=rU;have cl:wV.heap.size<=wC.heap.size:=EC.size;have a7:Qd wC wV 0 (.int .i64 f):=tV;have ay:Qd wC wV 1 (.int .i64 x1):=tV;have aq:Qd wC wV 2 (.int .i64 y3):=tV;have E6:=(tQ E5 EC);have bb:=yD (az.out.below EC);replace aa:=cL EC aa;exact And.intro EC (And.intro cl (And.intro a7 (And.intro ay (And.intro aq (And.intro E6 (And.intro bb aa))))))):p:=h
def I1 (h:p:=by
 have N:Touch (λk=>k=w.heap.size + 1) t5 t6:=(by rw [<- F];exact sT1);replace RN:Qr t6 (w.heap.size + 1) #[Qs a Y c] 36:=(by rw [<- F];exact kF (RN) 0);have aq:=N.size;exact And.intro N (And.intro RN aq)):p:=h
def I4 (h:p:=by
 have zv:=hb.size;replace ar:Hid (kW.ji v [Qs L n1 Y] n1 (Ql wr v au)):=yD ((ar.out.below hb).wide (λk q=>⟨q.1,Nat.lt_of_lt_of_le q.2.1 hb.size,q.2.2⟩));exact And.intro zv ar):p:=h
def I5 (h:p:=by
 have o:Hid ((kD.slice 38 jF).rd w [Qs bp x.1 bi] x.1):=yD ⟨G,q1⟩;have RR:Hid ((kD.slice 131 kS).rd w [Qs bx x.2.2.2.2.1 bu] x.2.2.2.2.1):=yD ⟨a6,Y⟩;exact And.intro o RR):p:=h
def I6 (h:p:=by
 have hd:decide ((y.1.length:Int) < x.1.length)=false:=bA2;have al:decide ((x.1.length:Int) > y.1.length)=false:=bA2;have ad:decide (y.1.length < x.1.length)=false:=bA2;replace K0:=cL o K0;exact And.intro hd (And.intro al (And.intro ad K0))):p:=h
def I7 (h:p:=by
 replace L:=yD (L.out.below aw);replace hc:=hc.below aw;replace J:=J.trans (Touch.of_below aw);exact And.intro L (And.intro hc J)):p:=h
def I8 (h:p:=by
 have zv:=hb.size;have b9:=o.2;replace ar:Hid (kW.ji v [Qs L n1 Y] n1 (Ql wr v b)):=yD ((ar.out.below hb).wide (λk q=>⟨q.1,Nat.lt_of_lt_of_le q.2.1 hb.size,q.2.2⟩));exact And.intro zv (And.intro b9 ar)):p:=h
def I9 (h:p:=by
 replace G:=cL E G;replace bt:=cL E bt;replace bp:=cL E bp;replace R:=cL E R;replace br:=cL E br;replace bv:=cL E bv;exact And.intro G (And.intro bt (And.intro bp (And.intro R (And.intro br bv))))):p:=h
def IA (h:p:=by
 have R:Qb w N:=rW;have M0:Qd N w 0 (.int .i64 0):=tT;have M1:Qd N w 1 (.slice none 0 0):=tT;have F0:N.frozen? ⟨w.heap.size,0,none⟩=false:=tT;have F1:N.frozen? ⟨w.heap.size,1,none⟩=false:=tT;exact And.intro R (And.intro M0 (And.intro M1 (And.intro F0 F1)))):p:=h
def IB (h:p:=by
 have c1:¬ (a:Int) < j:=bD1;have hp:decide ((j:Int) > a)=false:=bC6;have cf:decide (a < j)=false:=bC1;have I:Hid (cu=Srt.inner key a i cur):=yD ((kWa (key:=key) O).symm.trans al.out);exact And.intro c1 (And.intro hp (And.intro cf I))):p:=h
def IC (h:p:=by
 have ul:u < xs.length:=vS;have hl:h < xs.length:=vS;have da:(h:Int) < n:=bD1;have d4:(u:Int) < n:=bD1;have ea:(N1:Int) - (h:Int)=(u:Int):=bD1;have d0:=Int.natCast_nonneg u;have d2:IntKind.i64.wrap (u:Int)=u:=IntWalk.i64_in _ bD1;exact And.intro ul (And.intro hl (And.intro da (And.intro d4 (And.intro ea (And.intro d0 d2)))))):p:=h
def IE (h:p:=by
 have hd:decide ((b.length:Int)<=a.length)=false:=bA1;have ad:decide (b.length<=a.length)=false:=bA1;have U:=yD (prefN_no hc);have FX:=yD (λ(W:World) (hW:Qb N W)=>kHv hW K0 K1);exact And.intro hd (And.intro ad (And.intro U FX))):p:=h
def IG (h:p:=by
 have cw:¬ (q:Int) < q:=bD1;have HE:=yD ((kQt (p:=(λc=>!decide (Srt.zG key xs (N - 1 - c) < Srt.zG key xs c))) (i:=q) (j:=q) bD1).symm.trans HB.out);exact And.intro cw HE):p:=h
def II (h:p:=by
 have M0:=kE ao.out (j:=0) rfl;have M1:=kE ao.out (j:=1) rfl;have M2:=kE ao.out (j:=2) rfl;have M3:=kE ao.out (j:=3) rfl;have M4:=kE ao.out (j:=4) rfl;have M5:=kE ao.out (j:=5) rfl;have M6:=kE ao.out (j:=6) rfl;have M7:=kE ao.out (j:=7) rfl;exact And.intro M0 (And.intro M1 (And.intro M2 (And.intro M3 (And.intro M4 (And.intro M5 (And.intro M6 M7))))))):p:=h
def IJ (h:p:=by
 have ad:decide (b.length<=a.length)=true:=bA1;have bm:(b.length:Int)<=a.length:=bD1;have ac:(b.length:Int)<=am:=bD1;have U:=yD (kYl hc);have FX:=yD (λ(W:World) (hW:Qb N W)=>kHv hW K0 K1);exact And.intro ad (And.intro bm (And.intro ac (And.intro U FX)))):p:=h
def IK (h:p:=by
 have cl:=Int.natCast_nonneg a;have c4:(a:Int) < m:=bD1;have c3:(m:Int) < z:=bD1;have cq:(z:Int)<=16777216:=bD1;have cm:(m:Int) - (a:Int)=((m - a:Nat):Int):=bD1;have bo:(z:Int) - (m:Int)=((z - m:Nat):Int):=bD1;exact And.intro cl (And.intro c4 (And.intro c3 (And.intro cq (And.intro cm bo))))):p:=h
def IL (h:p:=by
 replace D:=(Touch.of_below (S:=λk=>k=p) (bR.alloc nL _)).trans D;have bu:=D.size;exact And.intro D bu):p:=h
def IM (h:p:=by
 replace ab:=yD (ab.out.wide (T:=λk=>lb<=k/\k<=lb) (λk q=>⟨Nat.le_of_eq q.symm,Nat.le_of_eq q⟩));have dy:=Nat.le_of_eq bc;have dt:=Nat.le_of_eq bc.symm;exact And.intro ab (And.intro dy dt)):p:=h
def IP (h:p:=by
 replace BT:=N.kC BT bD1;replace L:=yD (L.out.touch N nT);replace U:=yD (U.out.touch N nT);exact And.intro BT (And.intro L U)):p:=h
def IQ (h:p:=by
 replace o:=yD (kC o.out aj);replace ap:=yD (λhl=>(ap.out hl).below aj);replace K0:=cL aj K0;replace M0:=cL aj M0;replace K1:=cL aj K1;replace M1:=cL aj M1;replace K2:=cL aj K2;replace M2:=cL aj M2;replace K3:=cL aj K3;replace M3:=cL aj M3;replace K4:=cL aj K4;replace M4:=cL aj M4;replace K5:=cL aj K5;replace M5:=cL aj M5;exact And.intro o (And.intro ap (And.intro K0 (And.intro M0 (And.intro K1 (And.intro M1 (And.intro K2 (And.intro M2 (And.intro K3 (And.intro M3 (And.intro K4 (And.intro M4 (And.intro K5 M5))))))))))))):p:=h
def IR (h:p:=by
 have E1:=(tQ R O);have bj:=O.size;have L:=yD (O1.wide (T:=jU w.heap.size w1.heap.size) rD);exact And.intro E1 (And.intro bj L)):p:=h
def IU (h:p:=by
 have EC:Qb wr wC:=rU;have cl:wC.heap.size=wr.heap.size + 1:=bB9;exact And.intro EC cl):p:=h
def IV (h:p:=by
 replace K0:=cL X K0;replace K1:=cL X K1;replace K2:=cL X K2;replace K3:=cL X K3;replace K4:=cL X K4;replace K5:=cL X K5;replace K6:=cL X K6;replace K7:=cL X K7;replace D0:=cL X D0;replace D1:=cL X D1;replace D2:=cL X D2;replace D3:=cL X D3;replace D4:=cL X D4;have FX:=yD (λ(W:World) (hW:Qb wC W)=>kGx hW M0 D0 D1 D2 D3 D4);exact And.intro K0 (And.intro K1 (And.intro K2 (And.intro K3 (And.intro K4 (And.intro K5 (And.intro K6 (And.intro K7 (And.intro D0 (And.intro D1 (And.intro D2 (And.intro D3 (And.intro D4 FX))))))))))))):p:=h
def IW (h:p:=by
 have R:Qb w N:=by rw [<- J];exact bG
 have K0:Qd N w 0 (.slice na n.length np):=tT;exact And.intro R K0):p:=h
def IX (h:p:=by
 have o:Hid ((kD.slice 38 jF).rd w [Qs bp x.1 bi] x.1):=yD ⟨G,q1⟩;have H:Hid (kP.rd w [Qn x.2.1.1,Qs bw x.2.1.2 bt] x.2.1):=yD ⟨aq,q2⟩;exact And.intro o H):p:=h
def IY (h:p:=by
 have ag:Qb w w1:=rT;have R:Qr w1 w.heap.size #[.slice none 0 0,.slice none 0 0,.slice none 0 0,Qn 0,Qn 0] 38:=vD;have bf:w.heap.size + 1<=w1.heap.size:=bB3;exact And.intro ag (And.intro R bf)):p:=h
def IZ (h:p:=by
 have cw:¬ (q:Int) < q:=bD1;have HE:=yD ((kQt (p:=(λh=>decide (Srt.zG key xs h < Srt.zG key xs a))) (i:=q) (j:=q) bD1).symm.trans HB.out);exact And.intro cw HE):p:=h
def J2 (h:p:=by
 have W:=yD hg;have D:=yD h;have bl:=yD hn;have ak:Hid (Srt.stable key xs=Srt.passes key n (n + 1) 20 (Srt.blocks key n (n + 1) 0 xs)):=yD (by rw [hn];rfl);have c0:n<=16777216:=bD1;exact And.intro W (And.intro D (And.intro bl (And.intro ak c0)))):p:=h
def J3 (h:p:=by
 have K0:Qd V w 0 (.slice an n.length a7):=(o.cell (p:=⟨w.heap.size,0,none⟩) bD2).trans bB8;have F:Qb w V:=Below.trans bG (o.mono rE);exact And.intro K0 F):p:=h
def J4 (h:p:=by
 replace XR:=yD (kC XR.out E);replace XM:=yD (kC XM.out E);replace L:=yD (L.out.below E);replace HR:=yD (HR.out.below E);have ET:=(tQ EC E);have az:=E.size;replace K0:=cL E K0;replace K1:=cL E K1;replace K2:=cL E K2;replace K3:=cL E K3;replace K4:=cL E K4;replace K5:=cL E K5;replace K6:=cL E K6;replace K7:=cL E K7;exact And.intro XR (And.intro XM (And.intro L (And.intro HR (And.intro ET (And.intro az (And.intro K0 (And.intro K1 (And.intro K2 (And.intro K3 (And.intro K4 (And.intro K5 (And.intro K6 K7))))))))))))):p:=h
def J5 (h:p:=by
 have aw:Z.length<=4:=bD1;have HB:Hid ((kD.slice 5 kD.byte).ji v [Qs ba Z bc] Z (Ql wb v b)):=yD (hO.ji.wide gW);replace E:=And.intro (E.1.trans D) G;exact And.intro aw (And.intro HB E)):p:=h
def J6 (h:p:=by
 have aw:Z.length<=4:=bD1;have HB:Hid ((kD.slice 5 kD.byte).ji v [Qs ba Z bc] Z (Ql wb v p)):=yD (hO.ji.wide gW);replace E:=And.intro (E.1.trans D) G;exact And.intro aw (And.intro HB E)):p:=h
def J7 (h:p:=by
 have R:Qb w N:=by rw [<- J];exact bG
 have D:Qd N w 0 (.slice H (m.1).length L):=tT;have ae:Qd N w 1 (.int .i64 m.2.1):=tT;have ag:Qd N w 2 (.int .i64 m.2.2):=tT;exact And.intro R (And.intro D (And.intro ae ag))):p:=h
def J8 (h:p:=by
 have cl:=Int.natCast_nonneg a;have b1:=Int.natCast_nonneg z;exact And.intro cl b1):p:=h
def J9 (h:p:=by
 have dm:(N:Int) - 1=(N1:Int):=bD1;have dl:IntKind.i64.wrap (N1:Int)=N1:=IntWalk.i64_in _ bD1;have dn:=Int.natCast_nonneg N1;have dw:=Int.natCast_nonneg lo;have dr:(hi:Int)<=m:=bD1;exact And.intro dm (And.intro dl (And.intro dn (And.intro dw dr)))):p:=h
def JA (h:p:=by
 have E1:Qb w v1:=by rw [<- D];exact (F1.setCell pU _)
 have X:Hid (v1.heap.size=w1.heap.size):=yD rR;replace aa:=yD (kD.own.out (w':=v1) aa.out dI);exact And.intro E1 (And.intro X aa)):p:=h
def JB (h:p:=by
 have hb:=dig_int (u:=u);have H:=kOz (P:=prog) (w:=wr) (src:=22) (dst:=9) hb underlying22 underlying5 underlying9;exact And.intro hb H):p:=h
def JC (h:p:=by
 have eb:m * r.n=cells.length:=by rw [O,hsize]
 have G:off + xs.length * i.size=(p++cs).length:=by rw [List.length_append,g3,J,hsize]
 exact And.intro eb G):p:=h
def JD (h:p:=by
 have F:=(tQ R o);have R0:=cL o K1;have F0:wr.frozen? ⟨w.heap.size + 1,0,none⟩=false:=(o.frozen (p:=⟨w.heap.size + 1,0,none⟩) bC6).trans F1;exact And.intro F (And.intro R0 F0)):p:=h
def JE (h:p:=by
 have a8:Touch (λk=>k=V.heap.size) w4 w5:=vR;replace B:Qr w5 V.heap.size #[.slice (some ⟨w3.heap.size,0,none⟩) 1 1] 36:=vK;have br:=a8.size;exact And.intro a8 (And.intro B br)):p:=h
def JF (h:p:=by
 have hno:=λq=>(mB_no (n:=n) hlt q).trans HM.out;have ar:=λq q2=>mB_up (n:=n) hlt q I HM.out q2;have ae:=λq2=>mB_keep (n:=n) hlt I HM.out q2;exact And.intro hno (And.intro ar ae)):p:=h
def JG (h:p:=by
 have BR:Qr w1 (w.heap.size + 2) #[Qn 0,.slice none 0 0] 27:=by rw [<- F];exact kH bD2
 have bf:w.heap.size + 3<=w1.heap.size:=bB3;exact And.intro BR bf):p:=h
def aA (h:p:=by
 have hlt:b < w.heap.size:=by
  rcases Nat.lt_or_ge b w.heap.size with q | q
  · exact q
  unfold World.cell? at k;simp [Array.getElem?_eq_none q] at k
 have e:=h.block b hlt hb;unfold World.cell? at k ⊢;simp only at k ⊢;rw [e];exact k):p:=h
def aB (h:p:=by
 have HQ:=yD (jAv hv);clear hv;go_wp2_with fail;refine (kCc (HL.out.below H)).mono ?_;rintro e w8 ⟨v8,rfl,O8,ax⟩;have b1:=yD (O8.cast HQ.out.1.symm);clear O8;go_wp2;go_ret2;exact ⟨v8,by rw [HQ.out.2];rfl,(b1.out.own (by rw [HQ.out.1];exact bc)).wide rD,(tQ H ax)⟩):p:=h
def aC (h:p:=by
 have U:=yD (show kEi (y0,y1,y2,y3,y4) t (I,xe)=(I,Z) from (kSe dx.out).trans dJ);obtain ⟨H,o⟩:=yQ Y;obtain ⟨ar,au⟩:=yQ BR;obtain ⟨al,ak⟩:=kCj BR;go_wp2;refine bodyPost_ret (v:=.agg #[Qn I,Qs ga Z gc]) gZ rfl ⟨[Qn I,Qs ga Z gc],rfl,?_,?_⟩
 · rw [U.out];exact ((show kP.own _ _ (I,Z) _ from kD.kKy (r:=kD.int) (q:=(kD.slice 122 jC)) (cs:=[.int .i64 I]) (kD.jG az) (HQ.out.own (by have:=b4.out;unfold Big;omega))).touch sT2 rQ).wide fG
 · exact EE.trans (Touch.below sT2 EE.size wW)):p:=h
def aD (h:p:=by
 obtain ⟨b,off,h,_⟩:=kD.kFw ha.1 (i:=0) bD2;cases h):p:=h
def aF (h:p:=by
 intro v2 V hown o hz;have L:=yD hown;obtain ⟨a2,c2,hv⟩:=hown.zW;obtain rfl:=hv;have F:Qb w V:=Below.trans bG o;clear hown O0 o;go_wp2;go_ret;exact ⟨_,rfl,by simpa using L.out.own vL,F⟩):p:=h
def aG (h:p:=by
 have h:=kD.yO (e:=9) (r:=kD.str) (w:=(w.alloc (.cells #[.slice aa x.length am] 36)).alloc (.cells #[.slice none 0 0] 36)) (cs:=[]) (xs:=[]) (T:=λ_=>False) (S:=λk=>k=w.heap.size + 1 + 1) bD2 bD2 rfl (λ_ h=>h.elim) bD2;simpa using h):p:=h
def aH (h:p:=by
 refine kD.own.wide (S:=jU (v0.heap.size) (w3.heap.size)) ?_ fF;exact kD.jY (r:=kW) (q:=(kD.pair (kD.slice 5 kD.byte) (kD.pair kW (kD.pair kD.int kD.int)))) (cs:=[.slice H x0.length E]) (ds:=[.slice bb x1.length a9,.slice N x2.length F,.int .i64 x3,.int .i64 x4]) (x:=x0) (y:=(x1,x2,x3,x4)) (S:=jU (v0.heap.size) (w3.heap.size)) (kD.own.out aa.out dX) (kD.jY (r:=(kD.slice 5 kD.byte)) (q:=(kD.pair kW (kD.pair kD.int kD.int))) (cs:=[.slice bb x1.length a9]) (ds:=[.slice N x2.length F,.int .i64 x3,.int .i64 x4]) (x:=x1) (y:=(x2,x3,x4)) (S:=jU (v1.heap.size) (w3.heap.size)) (kD.own.out Z.out dX) (kD.yN (r:=kW) (q:=(kD.pair kD.int kD.int)) (cs:=[.slice N x2.length F]) (ds:=[.int .i64 x3,.int .i64 x4]) (x:=x2) (y:=(x3,x4)) (kD.own.out ai.out dX) (kD.yJ (r:=kD.int) (q:=kD.int) (cs:=[.int .i64 x3]) (ds:=[.int .i64 x4]) (x:=x3) (y:=x4) (kD.jG N3.out) (kD.jG N4.out))) mU mU mZ) mU mU mZ):p:=h
def aI (h:p:=by
 intro v2 V F G a7;replace F:=kD.kU.cast F (bl.out.symm);have Z:=yD F;have O:=R.trans G;clear F L G;go_wp2;go_roundw;case rel=>exact ⟨k + 1,by omega,by go_num,Z,O⟩
 simp [intOf];omega):p:=h
def aJ (h:p:=by
 refine kD.kU.wide (S:=jU wS.heap.size O.heap.size) (kD.kU.keep D.out ?_) ?_
 · exact bY
 exact rD):p:=h
def aK (h:p:=by
 refine kD.own.wide (S:=jU (O.heap.size) (F.heap.size)) ?_ fF;exact kD.jY (r:=kP) (q:=(kD.pair (kD.slice 145 kJ) (kD.pair (kD.slice 102 jE) (kD.pair (kD.slice 131 kS) (kD.pair (kD.slice 149 kL) kD.int))))) (cs:=[.int .i64 x.2.1.1,.slice e0 x.2.1.2.length ad]) (ds:=[.slice b5 bb am,.slice ag ay af,.slice ae aw ac,.slice ab o U,.int .i64 x.2.2.2.2.2.2]) (x:=x.2.1) (y:=x.2.2) (S:=jU (O.heap.size) (F.heap.size)) (kD.own.out aa.out dX) (kD.jY (r:=(kD.slice 145 kJ)) (q:=(kD.pair (kD.slice 102 jE) (kD.pair (kD.slice 131 kS) (kD.pair (kD.slice 149 kL) kD.int)))) (cs:=[.slice b5 bb am]) (ds:=[.slice ag ay af,.slice ae aw ac,.slice ab o U,.int .i64 x.2.2.2.2.2.2]) (x:=x.2.2.1) (y:=x.2.2.2) (S:=jU (u1.heap.size) (F.heap.size)) (kD.own.out Z.out dX) (kD.jY (r:=(kD.slice 102 jE)) (q:=(kD.pair (kD.slice 131 kS) (kD.pair (kD.slice 149 kL) kD.int))) (cs:=[.slice ag ay af]) (ds:=[.slice ae aw ac,.slice ab o U,.int .i64 x.2.2.2.2.2.2]) (x:=x.2.2.2.1) (y:=x.2.2.2.2) (S:=jU (u2.heap.size) (F.heap.size)) (kD.own.out ai.out dX) (kD.jY (r:=(kD.slice 131 kS)) (q:=(kD.pair (kD.slice 149 kL) kD.int)) (cs:=[.slice ae aw ac]) (ds:=[.slice ab o U,.int .i64 x.2.2.2.2.2.2]) (x:=x.2.2.2.2.1) (y:=x.2.2.2.2.2) (S:=jU (u3.heap.size) (F.heap.size)) (kD.own.out bm.out dX) (kD.yN (r:=(kD.slice 149 kL)) (q:=kD.int) (cs:=[.slice ab o U]) (ds:=[.int .i64 x.2.2.2.2.2.2]) (x:=x.2.2.2.2.2.1) (y:=x.2.2.2.2.2.2) (kD.own.out az.out dX) (kD.jG ap.out)) rC rD mZ) rC rD mZ) rC rD mZ) rC rD mZ):p:=h
def aL (h:p:=by
 obtain rfl:k=l.length:=bD1;go_wp2;go_ret;exact ⟨_,rfl,kD.kU.cast L.out bD2,o⟩):p:=h
def aM (h:p:=by
 intro v2 V F G a7;obtain ⟨es,b8,eu,a6,bt⟩:=F.parts;obtain rfl:=a6;have aa:=(G.block _ bD1).trans XW;have N1:=kE aa (j:=1) rfl;have NF:=frozen_of_row V (w.heap.size + 1 + 1) 1 _ _ aa;have O:=am.trans (G.mono bD1);have az:=yD aa;have Z:=yD (kD.kU.cast F (bl.out.symm));clear aa F L G o;go_wp2;go_roundw;case rel=>exact ⟨k + 1,_,by omega,by go_num,yD (heap_setCell_same V _ 1 _ _ _ az.out),yD ((Z.out.setCell fB).wide mP),O.setCell bD2 _,by simp [World.setCell];omega⟩
 simp [intOf];omega):p:=h
def aN (h:p:=by
 refine kD.own.wide (S:=jU wS.heap.size wV.heap.size) ?_ fF;exact kD.jY (r:=kD.slice 38 jF) (q:=kD.pair kP (kD.pair (kD.slice 145 kJ) (kD.pair (kD.slice 102 jE) (kD.pair (kD.slice 131 kS) (kD.pair (kD.slice 149 kL) kD.int))))) (A:=jU wS.heap.size wT.heap.size) (B:=jU wT.heap.size wV.heap.size) (kD.own.out aa.out dX) (kD.jY (A:=jU wT.heap.size wU.heap.size) (B:=jU wU.heap.size wV.heap.size) (kD.own.out Z.out dX) (kAk (kAk (kD.jY (A:=jU wU.heap.size wV.heap.size) (B:=λ_=>False) (kD.own.out ai.out dX) (kAk (kD.flat.own (kD.jG (n:=0) bD1))) (λ_ h=>h) (λ_ h=>h.elim) (λ_ _ h=>h)))) rC rD mZ) rC rD mZ):p:=h
def aO (h:p:=by
 go_wp2_with fail;refine (HI.out _ rfl).mono ?_;rintro e w1 ⟨rfl,O⟩;have aa:=yD (L.out.below O);go_wp2;go_ret;exact ⟨_,rfl,aa.out.cast HF.out,Touch.of_below O⟩):p:=h
def aP (h:p:=by
 refine ⟨i + 1,i,by omega,by omega,rfl,by go_num,yD (by rw [bd.out,cd.out];simp;omega),yD ?_,E1⟩;rw [bd.out,cd.out,show i + 1 - i=0 + 1 by omega];exact G1.out):p:=h
def aQ (h:p:=by
 have ad:=yD ez;have a5:=yD au;clear ez au ap ey b4 a1;go_wp2;go_roundw;case rel =>
  refine ⟨m + 1,kn + 1,by omega,by omega,by go_num,by go_num,yD nZ,yD ?_,yD ((E.out.trans (Touch.of_below E5.out)).trans (a5.out.wide (λj I=>I ▸ ab.out)))⟩;rw [U.out,show m + 1 - (kn + 1)=m - kn by omega];exact ad.out
 simp [intOf];omega):p:=h
def aR (h:p:=by
 have U:=yD (b4.out bC9);go_wp2;go_roundw;case rel =>
  refine ⟨m + 1,kn,by omega,by omega,rfl,by go_num,yD (by rw [U.out];exact N.out),yD ?_,yD (E.out.trans (Touch.of_below E5.out))⟩;rw [U.out,show m + 1 - kn=(m - kn) + 1 by omega];exact ey.out.below E5.out
 simp [intOf];omega):p:=h
def aS (h:p:=by
 have H6:=yD h6;have T6:=yD t6;clear h6 t6 HG;go_wp2;go_ret;exact ⟨_,rfl,by rw [N.out];exact H6.out,E.out.trans (T6.out.wide (λj I=>I ▸ ab.out))⟩):p:=h
def aT (h:p:=by
 intro j u I;have F:(⟨b,off,none⟩:Addr).add j=⟨b,off + j,none⟩:=qG;have a4:=(List.getElem?_eq_some_iff.1 I).1;rw [F,cell_of_row w b _ cur e (0,0) g1,<- Array.getElem?_toList,g2,List.getElem?_append_right bD1,List.getElem?_append_left bD1];rw [<- I];congr 1;omega):p:=h
def aU (h:p:=by
 simp only [Array.size_append,List.size_toArray,size_zeroCells,hzs,O,J,hsize,<- Nat.add_mul];have:xs.length + m + (grownCap w (xs.length + m) cap e - (xs.length + m))=grownCap w (xs.length + m) cap e:=by omega
 rw [this];omega):p:=h
def aV (h:p:=by
 refine .inr ⟨_,_,rfl,λj v I=>?_⟩;have F:(⟨u.heap.size,0,none⟩:Addr).add j=⟨u.heap.size,j,none⟩:=qG;rw [F,cell_of_row _ _ j cx.toArray e (0,0) (heap_alloc_new u _)];simpa using I):p:=h
def aW (h:p:=by
 have cm:(u.alloc (.cells cx.toArray e)).heap.size=u.heap.size + 1:=bD2;refine ⟨v',w',hr,⟨(slice e r).wide ho.1 ?_,ho.2⟩,(Touch.of_below E).trans o⟩;rintro k (hk | hk | hk)
 · exact .inl hk.1
 · exact .inr (.inl hk.1)
 exact .inr (.inr ⟨by omega,hk.2⟩)):p:=h
def aX (h:p:=by
 clear N ax;go_upto_region 10 with fail;obtain ⟨ac,an⟩:=yQ R;obtain ⟨av,a2⟩:=yQ BK;obtain ⟨ak,al⟩:=kCj R;go_wp2;refine bodyPost_ret (v:=.agg #[Qn kc,Qs a3 q c3]) gY rfl ⟨a3,c3,kc,q,rfl,?_,by omega,hc.touch sT2 bD1 wW,J.jP sT2 bD1⟩;exact ((kIa HQ.out bD1).touch (T:=λk=>k=w.heap.size) sT2 sK).wide dZ):p:=h
def aY (h:p:=by
 obtain ⟨ac,an⟩:=yQ R;obtain ⟨av,a2⟩:=yQ BK;obtain ⟨ak,al⟩:=kCj R;go_wp2;refine bodyPost_ret (v:=.agg #[Qn kc,Qs ka l kp]) gY rfl ⟨ka,kp,kc,l,rfl,?_,by omega,hc.touch sT2 bD1 wW,J.jP sT2 bD1⟩;exact ((kIa (L.out.ji.wide (T:=λk=>w.heap.size < k/\k < w4.heap.size/\k≠V.heap.size) fP) bD1).touch (T:=λk=>k=w.heap.size) sT2 sK).wide dZ):p:=h
def aZ (h:p:=by
 simp only [Act.put,zA,zB,zC] at h_;exact h_):p:=h
def bB (h:p:=by
 have h_:=X xb ba bc Z ad ae ai af aj ah x ok b v E ao U aw HB b5 HQ o BB;simp only [Act.put,zA,zB,zC] at h_;exact h_):p:=h
def bC (h:p:=by
 refine H _ _ E ?_;clear H K;refine jD ?_;have h_:=am xb ba bc Z b v E ao U aw HB o BB;simp only [Act.put,zA,zB,zC] at h_;exact h_):p:=h
def bE (h:p:=by
 refine H _ _ E ?_;clear H K;refine jD ?_;have h_:=ch xb b v E ao U o BB;simp only [Act.put,zA,zB,zC] at h_;exact h_):p:=h
def bH (h:p:=by
 replace hc:=hc.touch N bD1 wW;replace E:=E.trans (N.wide (λk q=>.inr (.inr (q))));clear N;refine H _ _ E ?_;clear H K;refine jD ?_;refine kQ 9 ?_;refine jW bC5 ?_;obtain ⟨aj,ai,am,ak,al,ag,af,ae⟩:=yL R;have ac:=kE RN (j:=0) rfl;have zS:=E.size;go_wp2;refine bodyPost_ret (v:=.tuple #[.agg #[Qs a0 x0 c0,Qn kc,Qs a1 xe c1,Qs a2 x2 c2,Qs a3 x3 c3,Qs a4 x4 c4,Qs a5 X c5,Qn o],.agg #[Qs a Y c],.int .i64 y]) fV rfl ⟨[Qs a0 x0 c0,Qn kc,Qs a1 xe c1,Qs a2 x2 c2,Qs a3 x3 c3,Qs a4 x4 c4,Qs a5 X c5,Qn o],(x0,(kc,xe),x2,x3,x4,X,o),a,c,Y,y,rfl,?_,HX.out,?_,a6,?_⟩
 · exact (L.out.touch E nT).wide (T:=jU w.heap.size _) mU
 · exact HQ.out.wide (T:=jU w.heap.size _) mU
 exact (J.ja (S:=λk=>k=p) E wZ).below nL wW):p:=h
def bL (h:p:=by
 go_wp2;refine bodyPost_ret (v:=.tuple #[.agg #[.slice none 0 0],.bool false]) nI rfl ⟨none,0,false,[],rfl,kD.jr,by simp,yD yu.nil,?_⟩;exact E2.setCell bD2 _):p:=h
def bS (h:p:=by
 obtain ⟨ak,al⟩:=kCj R;go_wp2;refine bodyPost_ret (v:=.tuple #[.agg #[.slice none 0 0,.slice none 0 0],.bool false]) gX rfl ⟨[.slice none 0 0,.slice none 0 0],([],[]),false,rfl,?_,?_⟩
 · exact kD.jY (r:=zP) (q:=zP) (cs:=[.slice none 0 0]) (ds:=[.slice none 0 0]) (A:=λ_=>False) (B:=λ_=>False) kD.jr kD.jr (λ_ h=>h.elim) (λ_ h=>h.elim) (λ_ h _=>h)
 exact EE.trans (Touch.below sT2 EE.size wW)):p:=h
def dN (h:p:=by
 have ac:Qd w7 w 0 (.slice none 0 0):=kE R rfl;have an:Qd w7 w 1 (.slice none 0 0):=kE R rfl;obtain ⟨ak,al⟩:=kCj R;go_wp2;refine bodyPost_ret (v:=.tuple #[.agg #[.slice none 0 0,.slice none 0 0],.bool false]) gX rfl ⟨[.slice none 0 0,.slice none 0 0],([],[]),false,rfl,?_,?_⟩
 · exact kD.jY (r:=zP) (q:=zP) (cs:=[.slice none 0 0]) (ds:=[.slice none 0 0]) (A:=λ_=>False) (B:=λ_=>False) kD.jr kD.jr (λ_ h=>h.elim) (λ_ h=>h.elim) (λ_ h _=>h)
 exact EE.trans (Touch.below sT2 EE.size wW)):p:=h
def dQ (h:p:=by
 replace E:=(tQ E hb);refine H _ _ E ?_;clear H K;refine jD ?_;have h_:=Y ad ae ai af aj ah sg b v E HQ o BB;simp only [Act.put,zA,zB,zC] at h_;exact h_):p:=h
def dR (h:p:=by
 replace E:=(tQ E hb);refine H _ _ E ?_;clear H K;refine jD ?_;have h_:=ac b v E o BB;simp only [Act.put,zA,zB,zC] at h_;exact h_):p:=h
def dS (h:p:=by
 replace E:=(tQ E hb);refine H _ _ E ?_;clear H K;refine jD ?_;have h_:=T9 b v E o BB;simp only [Act.put,zA,zB,zC] at h_;exact h_):p:=h
def dV (h:p:=by
 obtain ⟨bw,bx,b4,b0,b3⟩:=yI BQ;obtain ⟨al,ak,D,J,U⟩:=kBh BR;go_wp2;refine bodyPost_ret (v:=.tuple #[.agg #[.slice none 0 0,.slice none 0 0,.slice none 0 0,Qn 0,Qn 0],.bool false]) fU rfl ⟨[.slice none 0 0,.slice none 0 0,.slice none 0 0,Qn 0,Qn 0],([],[],[],0,0),false,rfl,?_,?_,?_⟩
 · exact kZc
 · simp
 exact EE.trans (Touch.below sT5 EE.size wW)):p:=h
def eD (h:p:=by
 have h_:=ch L Y n1 ao aq n2 ad ae ai af aj ah x ok b v E ar a8 b5 HQ o BB;simp only [Act.put,zA,zB,zC] at h_;exact h_):p:=h
def eF (h:p:=by
 replace E:=(tQ E hb);refine H _ _ E ?_;clear H K;refine jD ?_;have h_:=cw L Y n1 ao aq n2 b v E ar a8 o BB;simp only [Act.put,zA,zB,zC] at h_;exact h_):p:=h
def eG (h:p:=by
 replace E:=(tQ E hb);refine H _ _ E ?_;clear H K;refine jD ?_;have h_:=dx L Y n1 b v E ar o BB;simp only [Act.put,zA,zB,zC] at h_;exact h_):p:=h
def eH (h:p:=by
 go_wp2;go_roundw;case rel=>exact ⟨j + 1,ca,cc,cl,by go_num,by omega,yD wH,dk,BT,yD (HC.out.wide rM),hc,by omega,Z⟩
 simp [intOf];omega):p:=h
def eO (h:p:=by
 go_wp2;refine bodyPost_ret (v:=.tuple #[.agg #[.slice none 0 0],.bool false]) nJ rfl ⟨none,0,false,[],rfl,kD.jr,by simp,yD kCo.nil,?_⟩;exact E2.setCell bD2 _):p:=h
def eP (h:p:=by
 go_wp2;refine bodyPost_ret (v:=.slice a n c) (by simp [results,results172,go_sem]) rfl ⟨a,n,c,s,rfl,HN.out,HL.out,L.out,hc,J⟩):p:=h
def eQ (h:p:=by
 clear hQ;replace hc:=hc.touch N tY tC;replace J:=J.kBq N (λk q=>q.1);clear N L HR;go_wp2;go_ret;exact ⟨_,_,l2,rfl,af.out.mono bD1,Z.out.ji,hc,J⟩):p:=h
def eT (h:p:=by
 go_wp2;go_ret;exact ⟨_,rfl,by omega,by omega,hc,J⟩):p:=h
def eU (h:p:=by
 have h_:=az x ba bc Z b6 y ka kc ks z b v E ao U aw HB ar HK b1 bj hw o BB;simp only [Act.put,zA,zB,zC] at h_;exact h_):p:=h
def eX (h:p:=by
 replace E:=And.intro (E.1.trans (Touch.of_below hb)) (E.2.below hb);refine H _ _ E ?_;clear H K;refine jD ?_;have h_:=bk x ba bc Z b6 y ka kc ks b v E ao U aw HB ar HK o BB;simp only [Act.put,zA,zB,zC] at h_;exact h_):p:=h
def eY (h:p:=by
 refine H _ _ E ?_;clear H K;refine jD ?_;have h_:=bv x ba bc Z b6 y b v E ao U aw HB ar o BB;simp only [Act.put,zA,zB,zC] at h_;exact h_):p:=h
def eZ (h:p:=by
 replace E:=And.intro (E.1.trans (Touch.of_below hb)) (E.2.below hb);refine H _ _ E ?_;clear H K;refine jD ?_;have h_:=bm x ba bc Z b6 b v E ao U aw HB h6 HL o BB;simp only [Act.put,zA,zB,zC] at h_;exact h_):p:=h
def gN (h:p:=by
 refine H _ _ E ?_;clear H K;refine jD ?_;have h_:=b8 x ba bc Z b6 v E ao U aw HB h6 HL;simp only [Act.put,zA,zB,zC] at h_;exact h_):p:=h
def iA (h:p:=by
 refine H _ _ E ?_;clear H K;refine jD ?_;have h_:=b4 x ba bc Z b v E ao U aw HB o BB;simp only [Act.put,zA,zB,zC] at h_;exact h_):p:=h
def iB (h:p:=by
 replace E:=And.intro (E.1.trans (Touch.of_below hb)) (E.2.below hb);refine H _ _ E ?_;clear H K;refine jD ?_;have h_:=b0 x b6 b v E ao U h6 HL o BB;simp only [Act.put,zA,zB,zC] at h_;exact h_):p:=h
def iC (h:p:=by
 refine H _ _ E ?_;clear H K;refine jD ?_;have h_:=ck x b6 v E ao U h6 HL;simp only [Act.put,zA,zB,zC] at h_;exact h_):p:=h
def iD (h:p:=by
 refine H _ _ E ?_;clear H K;refine jD ?_;have h_:=ce x b v E ao U o BB;simp only [Act.put,zA,zB,zC] at h_;exact h_):p:=h
def iE (h:p:=by
 replace E:=And.intro (E.1.trans (Touch.of_below hb)) (E.2.below hb);refine H _ _ E ?_;clear H K;refine jD ?_;have h_:=ch b6 b v E h6 HL o BB;simp only [Act.put,zA,zB,zC] at h_;exact h_):p:=h
def iF (h:p:=by
 have h:=kD.yO (e:=5) (r:=kD.byte) (w:=w.alloc (.cells #[.slice an n.length a7] 36)) (cs:=[]) (xs:=[]) (T:=λ_=>False) (S:=λk=>k=w.heap.size + 1) bD2 bD2 rfl (λ_ h=>h.elim) bD2;simpa using h):p:=h
def iG (h:p:=by
 have U:=yD (show decide (a=b)=false by simp;rintro rfl;exact hl rfl);have hz:((a.length:Int) != b.length)=true:=bC6;have a3:(a.length != b.length)=true:=wY;go_wp2;go_ret;exact ⟨kK U.out.symm,bR⟩):p:=h
def iH (h:p:=by
 have F:=(tQ o E);cases hz:((x.toNat:Int)==(y.toNat:Int))
 · have U:=yD (show decide (a=b)=false by
     simp at hz;simp;exact HD.out (λq=>hz (by rw [q])))
   clear HD HX;go_wp2;go_ret;exact ⟨kK U.out.symm,F⟩
 have U:=yD (HX.out (u8_inj bA0));clear HD HX;go_wp2;go_roundw;case rel=>exact ⟨k + 1,by omega,by go_num,U,F⟩
 simp [intOf];omega):p:=h
def iI (h:p:=by
 have U:=yD (show decide (a=b)=true by simp;exact yY HN.out hlt HL.out);go_wp2;go_ret;exact ⟨kK U.out.symm,o⟩):p:=h
def iJ (h:p:=by
 rintro e w1 ⟨rfl,O⟩;go_wp2;go_ret;exact ⟨rfl,O⟩):p:=h
def iK (h:p:=by
 subst hz;have E:=yD (show s=⟨(kHt N).toArray⟩ by
   have h:=HP.out;rw [kWm,List.nil_append] at h;apply ByteArray.ext;rw [<- h])
 go_wp2;go_ret;exact ⟨fQ,o⟩):p:=h
def iL (h:p:=by
 have h1:=congrArg List.length HP.out;have h2:=kKz 19 (u:=N) bD1;rw [F.out] at h1;simp only [List.length_append,List.length_cons,List.length_nil] at h1;have h3:s.data.toList.length=s.size:=bD2;omega):p:=h
def iM (h:p:=by
 go_wp2_with fail;go_roundw;case rel=>exact ⟨u / 10,_,by omega,by go_num,rfl,qE,HX,(o.alloc o.size _)⟩
 simp [intOf];omega):p:=h
def iN (h:p:=by
 have U:=yD (idxOf_miss hlt HN.out);go_wp2;go_ret;exact ⟨jX U.out.symm,(tQ R o)⟩):p:=h
def iO (h:p:=by
 rintro e w1 ⟨rfl,O⟩;have F:Qb w w1:=(tQ R O);clear O;go_wp2;go_ret;exact ⟨rfl,F⟩):p:=h
def iP (h:p:=by
 rw [HD.out];exact (kD.own.out L.out dX).wide fZ):p:=h
def iQ (h:p:=by
 intro k hk;have hs:=h2.size;rcases hk with hk | hk | hk
 · have:=hSB k hk;exact ⟨this.1,by omega⟩
 · exact hk.elim
 exact ⟨by omega,hk.2⟩):p:=h
def iR (h:p:=by
 generalize U:World.alloc t1 (.cells #[.slice ra r.1.length rp,.int .i64 r.2.1,.int .i64 r.2.2] 131)=t2 at X G ⊢;have bh:=G.size;have V:=G;clear U G;replace Y:=Y.below V;replace E:=(tQ E V);refine H _ _ E ?_;clear H K V;refine jD ?_;refine kN (k:=7) rfl bC5 rfl (λK H=>?_);have ay:=E.size;obtain ⟨v2,t3,hr,D,O,bg⟩:=jQ (B:=wq.heap.size) Y X mU E.size bC6;refine kD.kV _ _ _ rfl bD3 bD3 hr ?_;obtain ⟨a2,n2,c2,a6,a8⟩:=D.parts;obtain rfl:=a6;replace E:=E.trans O;have F:=D;clear Y;have Y:=F;clear D F X;refine H _ _ E ?_;clear H K hr O;refine jD ?_;refine kN (k:=11) rfl bC5 rfl (λK H=>?_);have aw:=E.size;obtain ⟨v3,t4,hr,D,O,bc⟩:=jQ (B:=wq.heap.size) Y (ap.out.below E) rC E.size bC6;refine kD.kV _ _ _ rfl bD3 bD3 hr ?_;obtain ⟨a3,n3,c3,av,be⟩:=D.parts;obtain rfl:=av;replace E:=E.trans O;have F:=D;clear Y;have Y:=F;clear D F;refine H _ _ E ?_;clear H K hr O;refine jD ?_;refine kQ 12 ?_;refine jW bC5 ?_;have am:=yD (kD.kU.cast Y (show _=Srt.put kBr l r from by rw [al.out,List.nil_append]));have bi:=E.size;have an:=yD ((tQ R (tQ aq E)));clear Y al;go_wp2;go_ret;exact ⟨_,rfl,am.out.wide rD,an.out⟩):p:=h
def iT (h:p:=by
 obtain ⟨v1,t2,hr,Y,O,bh⟩:=jQ (w:=t1) (v:=.slice (some ⟨wS.heap.size,0,none⟩) 0 0) (xs:=[]) (S:=λ_=>False) (B:=t1.heap.size) kD.kU.void (az.out.below E) (λ_ h=>h.elim) nL bC6;refine kD.kV _ _ _ rfl bD3 bD3 hr ?_;obtain ⟨a1,n1,c1,aj,ar⟩:=Y.parts;obtain rfl:=aj;replace X:=X.below O;replace E:=(tQ E O);refine H _ _ E ?_;clear H K hr O;refine jD ?_;refine kN (k:=7) rfl bC5 rfl (λK H=>?_);have ay:=E.size;obtain ⟨v2,t3,hr,D,O,bg⟩:=jQ (B:=wq.heap.size) Y X mU E.size bC6;refine kD.kV _ _ _ rfl bD3 bD3 hr ?_;obtain ⟨a2,n2,c2,a6,a8⟩:=D.parts;obtain rfl:=a6;replace E:=E.trans O;have F:=D;clear Y;have Y:=F;clear D F X;refine H _ _ E ?_;clear H K hr O;refine jD ?_;refine kN (k:=11) rfl bC5 rfl (λK H=>?_);have aw:=E.size;obtain ⟨v3,t4,hr,D,O,bc⟩:=jQ (B:=wq.heap.size) Y (ap.out.below E) rC E.size bC6;refine kD.kV _ _ _ rfl bD3 bD3 hr ?_;obtain ⟨a3,n3,c3,av,be⟩:=D.parts;obtain rfl:=av;replace E:=E.trans O;have F:=D;clear Y;have Y:=F;clear D F;refine H _ _ E ?_;clear H K hr O;refine jD ?_;refine kQ 12 ?_;refine jW bC5 ?_;have am:=yD (kD.kU.cast Y (show _=Srt.put kBr l r from by rw [al.out,List.nil_append]));have bi:=E.size;have an:=yD ((tQ R (tQ aq E)));clear Y al;go_wp2;go_ret;exact ⟨_,rfl,am.out.wide rD,an.out⟩):p:=h
def iU (h:p:=by
 obtain ⟨v1,t2,hr,Y,O,bh⟩:=jQ (w:=t1) (v:=.slice (some ⟨t0.heap.size,0,none⟩) 0 0) (xs:=[]) (S:=λ_=>False) (B:=t1.heap.size) kD.kU.void (az.out.below E) (λ_ h=>h.elim) nL bC6;refine kD.kV _ _ _ rfl bD3 bD3 hr ?_;obtain ⟨a1,n1,c1,aj,ar⟩:=Y.parts;obtain rfl:=aj;replace X:=X.below O;replace E:=(tQ E O);refine H _ _ E ?_;clear H K hr O;refine jD ?_;refine kN (k:=7) rfl bC5 rfl (λK H=>?_);have ay:=E.size;obtain ⟨v2,t3,hr,D,O,bg⟩:=jQ (B:=wq.heap.size) Y X mU E.size bC6;refine kD.kV _ _ _ rfl bD3 bD3 hr ?_;obtain ⟨a2,n2,c2,a6,a8⟩:=D.parts;obtain rfl:=a6;replace E:=E.trans O;have F:=D;clear Y;have Y:=F;clear D F X;refine H _ _ E ?_;clear H K hr O;refine jD ?_;refine kN (k:=11) rfl bC5 rfl (λK H=>?_);have aw:=E.size;obtain ⟨v3,t4,hr,D,O,bc⟩:=jQ (B:=wq.heap.size) Y (ap.out.below E) rC E.size bC6;refine kD.kV _ _ _ rfl bD3 bD3 hr ?_;obtain ⟨a3,n3,c3,av,be⟩:=D.parts;obtain rfl:=av;replace E:=E.trans O;have F:=D;clear Y;have Y:=F;clear D F;refine H _ _ E ?_;clear H K hr O;refine jD ?_;refine kQ 12 ?_;refine jW bC5 ?_;have am:=yD (kD.kU.cast Y (show _=Srt.put kBr l r from by rw [al.out,List.nil_append]));have bi:=E.size;have an:=yD ((tQ R (tQ aq E)));clear Y al;go_wp2;go_ret;exact ⟨_,rfl,am.out.wide rD,an.out⟩):p:=h
def iV (h:p:=by
 generalize U:World.alloc t1 (.cells #[.slice ra r.1.length rp,.int .i64 r.2.1,.int .i64 r.2.2] 131)=t2 at X G ⊢;have bh:=G.size;have V:=G;clear U G;replace Y:=Y.below V;replace E:=(tQ E V);refine H _ _ E ?_;clear H K V;refine jD ?_;refine kN (k:=7) rfl bC5 rfl (λK H=>?_);have ay:=E.size;obtain ⟨v2,t3,hr,D,O,bg⟩:=jQ (B:=wq.heap.size) Y X mU E.size bC6;refine kD.kV _ _ _ rfl bD3 bD3 hr ?_;obtain ⟨a2,n2,c2,a6,a8⟩:=D.parts;obtain rfl:=a6;replace E:=E.trans O;have F:=D;clear Y;have Y:=F;clear D F X;refine H _ _ E ?_;clear H K hr O;refine jD ?_;refine kN (k:=11) rfl bC5 rfl (λK H=>?_);have aw:=E.size;obtain ⟨v3,t4,hr,D,O,bc⟩:=jQ (B:=wq.heap.size) Y ((ap _).out.below E) rC E.size bC6;refine kD.kV _ _ _ rfl bD3 bD3 hr ?_;obtain ⟨a3,n3,c3,av,be⟩:=D.parts;obtain rfl:=av;replace E:=E.trans O;have F:=D;clear Y;have Y:=F;clear D F;refine H _ _ E ?_;clear H K hr O;refine jD ?_;refine kQ 12 ?_;refine jW bC5 ?_;have am:=yD (kD.kU.cast Y (show _=Srt.put kBr l r from by rw [al.out,List.nil_append]));have bi:=E.size;have an:=yD ((tQ R (tQ aq E)));clear Y al;go_wp2;go_ret;exact ⟨_,rfl,am.out.wide rD,an.out⟩):p:=h
def iW (h:p:=by
 obtain ⟨v1,t2,hr,Y,O,bh⟩:=jQ (w:=t1) (v:=.slice (some ⟨wS.heap.size,0,none⟩) 0 0) (xs:=[]) (S:=λ_=>False) (B:=t1.heap.size) kD.kU.void (az.out.below E) (λ_ h=>h.elim) nL bC6;refine kD.kV _ _ _ rfl bD3 bD3 hr ?_;obtain ⟨a1,n1,c1,aj,ar⟩:=Y.parts;obtain rfl:=aj;replace X:=X.below O;replace E:=(tQ E O);refine H _ _ E ?_;clear H K hr O;refine jD ?_;refine kN (k:=7) rfl bC5 rfl (λK H=>?_);have ay:=E.size;obtain ⟨v2,t3,hr,D,O,bg⟩:=jQ (B:=wq.heap.size) Y X mU E.size bC6;refine kD.kV _ _ _ rfl bD3 bD3 hr ?_;obtain ⟨a2,n2,c2,a6,a8⟩:=D.parts;obtain rfl:=a6;replace E:=E.trans O;have F:=D;clear Y;have Y:=F;clear D F X;refine H _ _ E ?_;clear H K hr O;refine jD ?_;refine kN (k:=11) rfl bC5 rfl (λK H=>?_);have aw:=E.size;obtain ⟨v3,t4,hr,D,O,bc⟩:=jQ (B:=wq.heap.size) Y ((ap _).out.below E) rC E.size bC6;refine kD.kV _ _ _ rfl bD3 bD3 hr ?_;obtain ⟨a3,n3,c3,av,be⟩:=D.parts;obtain rfl:=av;replace E:=E.trans O;have F:=D;clear Y;have Y:=F;clear D F;refine H _ _ E ?_;clear H K hr O;refine jD ?_;refine kQ 12 ?_;refine jW bC5 ?_;have am:=yD (kD.kU.cast Y (show _=Srt.put kBr l r from by rw [al.out,List.nil_append]));have bi:=E.size;have an:=yD ((tQ R (tQ aq E)));clear Y al;go_wp2;go_ret;exact ⟨_,rfl,am.out.wide rD,an.out⟩):p:=h
def iX (h:p:=by
 obtain ⟨v1,t2,hr,Y,O,bh⟩:=jQ (w:=t1) (v:=.slice (some ⟨t0.heap.size,0,none⟩) 0 0) (xs:=[]) (S:=λ_=>False) (B:=t1.heap.size) kD.kU.void (az.out.below E) (λ_ h=>h.elim) nL bC6;refine kD.kV _ _ _ rfl bD3 bD3 hr ?_;obtain ⟨a1,n1,c1,aj,ar⟩:=Y.parts;obtain rfl:=aj;replace X:=X.below O;replace E:=(tQ E O);refine H _ _ E ?_;clear H K hr O;refine jD ?_;refine kN (k:=7) rfl bC5 rfl (λK H=>?_);have ay:=E.size;obtain ⟨v2,t3,hr,D,O,bg⟩:=jQ (B:=wq.heap.size) Y X mU E.size bC6;refine kD.kV _ _ _ rfl bD3 bD3 hr ?_;obtain ⟨a2,n2,c2,a6,a8⟩:=D.parts;obtain rfl:=a6;replace E:=E.trans O;have F:=D;clear Y;have Y:=F;clear D F X;refine H _ _ E ?_;clear H K hr O;refine jD ?_;refine kN (k:=11) rfl bC5 rfl (λK H=>?_);have aw:=E.size;obtain ⟨v3,t4,hr,D,O,bc⟩:=jQ (B:=wq.heap.size) Y ((ap _).out.below E) rC E.size bC6;refine kD.kV _ _ _ rfl bD3 bD3 hr ?_;obtain ⟨a3,n3,c3,av,be⟩:=D.parts;obtain rfl:=av;replace E:=E.trans O;have F:=D;clear Y;have Y:=F;clear D F;refine H _ _ E ?_;clear H K hr O;refine jD ?_;refine kQ 12 ?_;refine jW bC5 ?_;have am:=yD (kD.kU.cast Y (show _=Srt.put kBr l r from by rw [al.out,List.nil_append]));have bi:=E.size;have an:=yD ((tQ R (tQ aq E)));clear Y al;go_wp2;go_ret;exact ⟨_,rfl,am.out.wide rD,an.out⟩):p:=h
def iY (h:p:=by
 have Y:(Srt.sorted kBr ((l.take k).filter (kJe n l))).length<=16777216:=gD;generalize Srt.sorted kBr ((l.take k).filter (kJe n l))=H at *;obtain ⟨FS,an⟩:∃ FS:List Int,FS=H.map (λr=>r.2.1):=⟨_,rfl⟩;have G:=yD an;clear an;have au:on<=16777216:=vX;clear Y av a5 aa ba cd;obtain ⟨wz,ai⟩:∃ wz,wz=wr:=⟨_,rfl⟩;subst ai;go_wp2;go_loopw [9,10] (λv i wx=>∃ (j:Nat),j<=on/\i=.int .i64 j/\Hid (kD.kU 3 kD.int wx v (FS.take j) (jU wz.heap.size wx.heap.size))/\Qb wz wx) (λ_ i _=>on - (intOf i).toNat);case atStart=>exact ⟨0,Nat.zero_le _,rfl,yD kD.kU.void,bG⟩
 obtain ⟨j,I,rfl,HI,ab⟩:=hrel;obtain ⟨ia,ca,ic,hi,bo⟩:=HI.out.parts;obtain rfl:=hi;have a6:=ab.size;by_cases a3:j < on
 · have am:j < H.length:=vX;have hil:ca<=16777216:=rA;obtain ⟨qb,qo,rfl,ae,af,ah,qr,A0,A1,A2⟩:=kD.zt (L.out.kAz.below ab) am rfl;have bl:=yD (show FS.take (j + 1)=FS.take j++[H[j].2.1] by (have hl:j < FS.length:=by rw [G.out];simpa using am);rw [List.take_succ_eq_append_getElem hl];simp [G.out]);generalize H[j]=x at *;obtain ⟨bd,ac,ag,ak,ao,ax⟩:=jJ (show kS.raw w _ x from qr);simp only [List.cons.injEq,and_true] at ac;obtain ⟨rfl,rfl,rfl⟩:=ac;clear ag ak ax qr;have cf:(FS.take j).length<=16777216:=wI;go_wp2_with (at_builtin;refine kD.jO rfl _ _ 51 rfl (r:=kD.int) (e:=3) underlying51 kAi rfl bD0 bD0 (B:=wz.heap.size) HI.out bD3 bD3 rfl (kD.jG ao _) rfl (λ_ _ h=>h) rC (λ_ h=>h.elim) bD1 bD1 ?_);intro v5 w5 hown bn ce;have az:=yD (kD.kU.cast hown bl.out.symm);have b5:=ab.trans bn;clear hown bn;go_wp2;go_roundw;case rel=>exact ⟨j + 1,by omega,by go_num,az,b5⟩
   simp [intOf];omega
 obtain rfl:j=on:=bD1;have HF:=yD (HI.out.cast (show _=kDq l n by rw [V.out,<- G.out,List.take_of_length_le (by rw [G.out];simp;have:=bh.out;omega)]));have a4:¬ (j:Int) < j:=bD1;go_wp2;go_ret;exact ⟨_,rfl,(HF.out.own mY).wide mR,(tQ F ab)⟩):p:=h
def iZ (h:p:=by
 have aq:Qd wS1 w4 0 (.slice a7 R.1.length bc):=kE BY rfl;have ah:Qd wS1 w4 1 (.int .i64 R.2.1.1):=kE BY rfl;have ag:Qd wS1 w4 2 (.slice b0 R.2.1.2.length bz):=kE BY rfl;have ai:Qd wS1 w4 3 (.slice bh R.2.2.1.length bq):=kE BY rfl;have ac:Qd wS1 w4 4 (.slice db R.2.2.2.1.length a9):=kE BY rfl;have aw:Qd wS1 w4 5 (.slice c8 R.2.2.2.2.1.length ba):=kE BY rfl;have au:Qd wS1 w4 6 (.slice dc R.2.2.2.2.2.1.length b2):=kE BY rfl;have ar:Qd wS1 w4 7 (.int .i64 R.2.2.2.2.2.2):=kE BY rfl;obtain ⟨ae,af,b7,b4,b6,c6,c7,c9⟩:=yL BX;have j6:R=x:=by rw [<- gj.out];exact (kTu gd.out).1
 go_wp2_with fail;refine (kBj (cx:=[.slice a7 R.1.length bc,.int .i64 R.2.1.1,.slice b0 R.2.1.2.length bz,.slice bh R.2.2.1.length bq,.slice db R.2.2.2.1.length a9,.slice c8 R.2.2.2.2.1.length ba,.slice dc R.2.2.2.2.2.1.length b2,.int .i64 R.2.2.2.2.2.2]) YO.out.raw (cy:=[.slice cl x.1.length cm,.int .i64 x.2.1.1,.slice b3 x.2.1.2.length cf,.slice ch x.2.2.1.length cg,.slice f4 x.2.2.2.1.length fk,.slice e7 x.2.2.2.2.1.length fg,.slice fb x.2.2.2.2.2.1.length e8,.int .i64 x.2.2.2.2.2.2]) XO.out.rd.1).mono ?_;rintro e d6 ⟨D,hb⟩;have o:e=.returned (.bool true):=D.trans (by rw [decide_eq_true j6]);subst o;clear D;have ev:=hb.size;replace BX:=kC BX hb;replace BT:=kC BT hb;replace BY:=kC BY hb;replace BD:=kC BD hb;replace BK:=kC BK hb;replace XO:=yD (XO.out.below hb);replace TO:=yD (TO.out.below hb);replace YO:=yD (YO.out.below hb);replace DO:=yD (DO.out.below hb);replace LO:=yD (LO.out.below hb);replace KO:=yD (KO.out.below hb);replace EE:=(tQ EE hb);clear aq ah ag ai ac aw au ar ae af b7 b4 b6 c6 c7 c9;clear hb;go_wp2;go_ret;exact ⟨rfl,EE⟩):p:=h
def lC (h:p:=by
 replace BD:=kC BD hb;replace BK:=kC BK hb;replace BV:=kC BV hb;replace XO:=yD (XO.out.below hb);replace TO:=yD (TO.out.below hb);replace YO:=yD (YO.out.below hb);replace DO:=yD (DO.out.below hb);replace LO:=yD (LO.out.below hb);replace KO:=yD (KO.out.below hb);replace VO:=yD (VO.out.below hb);replace EE:=(tQ EE hb);clear fj fl fm fp fq bm bj bl bk a5 aq ah ag ai ac aw au ar;clear hb;obtain ⟨aq,ah,ag,ai,ac,aw,au,ar⟩:=yL BY;go_wp2_with fail;refine (zb (cx:=[.slice a7 R.1.length bc,.int .i64 R.2.1.1,.slice b0 R.2.1.2.length bz,.slice bh R.2.2.1.length bq,.slice db R.2.2.2.1.length a9,.slice c8 R.2.2.2.2.1.length ba,.slice dc R.2.2.2.2.2.1.length b2,.int .i64 R.2.2.2.2.2.2]) YO.out.raw).mono ?_;rintro e m8 ⟨D,hb⟩;have o:e=.returned (.bool true):=D.trans (by rw [H3.out]);subst o;clear D;have ik:=hb.size;replace BX:=kC BX hb;replace BT:=kC BT hb;replace BY:=kC BY hb;replace BD:=kC BD hb;replace BK:=kC BK hb;replace BV:=kC BV hb;replace XO:=yD (XO.out.below hb);replace TO:=yD (TO.out.below hb);replace YO:=yD (YO.out.below hb);replace DO:=yD (DO.out.below hb);replace LO:=yD (LO.out.below hb);replace KO:=yD (KO.out.below hb);replace VO:=yD (VO.out.below hb);replace EE:=(tQ EE hb);clear aq ah ag ai ac aw au ar;clear hb;go_wp2;go_ret;exact ⟨rfl,EE⟩):p:=h
def lD (h:p:=by
 obtain rfl:c0=_:=by simpa using he
 clear he hr;by_cases hp:p x[k]=true
 · rw [hp] at C;have HC:=yD C;clear C;have U:=yD (idxOf_hit hlt hp HN.out);clear hp;go_wp2_with fail;refine HC.out.mono ?_;rintro e w1 ⟨rfl,O⟩;go_wp2;go_ret;exact ⟨jX U.out.symm,(tQ o O)⟩
 have hp:p x[k]=false:=bA4;rw [hp] at C;have HC:=yD C;clear C;have U:=yD (kBd hlt hp HN.out);clear hp;go_wp2_with fail;refine HC.out.mono ?_;rintro e w1 ⟨rfl,O⟩;go_wp2;go_roundw;case rel=>exact ⟨k + 1,by omega,by go_num,U.out,(tQ o O)⟩
 simp [intOf];omega):p:=h
def lF (h:p:=by
 have U:=yD (idxOf_miss hlt HN.out);go_wp2;go_ret;exact ⟨jX U.out.symm,o⟩):p:=h
def lG (h:p:=by
 go_wp2;go_loopw [8] (λi wr=>∃ k:Nat,k<=x.length/\i=.int .i64 k/\(∀ j,(h:j < k)->(h2:j < x.length)->p x[j]=false)/\Qb w wr) (λi _=>x.length - (intOf i).toNat);case atStart=>exact ⟨0,Nat.zero_le _,rfl,λ_ h=>by omega,bR⟩
 obtain ⟨k,hk,rfl,hno,o⟩:=hrel;have HN:=yD hno;clear hno;by_cases hlt:k < x.length
 · obtain ⟨ba,H,rfl,c0,c1,c2,hr,A0,A1,A2⟩:=kD.zt (ha.below o) hlt rfl;have C:=av.out wr o k hlt _ hr;by_cases hp:p x[k]=true
   · rw [hp] at C;have HC:=yD C;clear C;have U:=yD (idxOf_hit hlt hp HN.out);clear hp;go_wp2_with fail;refine HC.out.mono ?_;rintro e w1 ⟨rfl,O⟩;go_wp2;go_ret;exact ⟨jX U.out.symm,(tQ o O)⟩
   have hp:p x[k]=false:=bA4;rw [hp] at C;have HC:=yD C;clear C;have U:=yD (kBd hlt hp HN.out);clear hp;go_wp2_with fail;refine HC.out.mono ?_;rintro e w1 ⟨rfl,O⟩;go_wp2;go_roundw;case rel=>exact ⟨k + 1,by omega,by go_num,U.out,(tQ o O)⟩
   simp [intOf];omega
 have U:=yD (idxOf_miss hlt HN.out);go_wp2;go_ret;exact ⟨jX U.out.symm,o⟩):p:=h
def lH (h:p:=by
 have C:=av.out wr o k hlt _ hr;by_cases hp:p x[k]=true
 · rw [hp] at C;have HC:=yD C;clear C;have U:=yD (idxOf_hit hlt hp HN.out);clear hp;go_wp2_with fail;refine HC.out.mono ?_;rintro e w1 ⟨rfl,O⟩;go_wp2;go_ret;exact ⟨jX U.out.symm,(tQ o O)⟩
 have hp:p x[k]=false:=bA4;rw [hp] at C;have HC:=yD C;clear C;have U:=yD (kBd hlt hp HN.out);clear hp;go_wp2_with fail;refine HC.out.mono ?_;rintro e w1 ⟨rfl,O⟩;go_wp2;go_roundw;case rel=>exact ⟨k + 1,by omega,by go_num,U.out,(tQ o O)⟩
 simp [intOf];omega):p:=h
def lI (h:p:=by
 simp only [List.cons.injEq,and_true] at ac;obtain ⟨rfl,rfl,rfl⟩:=ac;obtain ⟨ad,aw,rfl,bf⟩:=kD.sl ak;have a1:=Int.ofNat_lt.2 X;have H:=World.block_lt_of_cell? _ _ a7;have E:=World.block_lt_of_cell? _ _ ap;simp only at H E;go_wp2_with fail;refine (av.out _ bM _ _ x y (HR.out.below dB) (N.out.below dB)).mono ?_;rintro e w1 ⟨rfl,O⟩;have F:Qb w w1:=Below.trans bM (O.mono sD);clear O;cases hz:decide (x=y)
 · have U:=yD (show decide (a=b)=false by simp;exact HD.out bA0);clear HD HX HR N;go_wp2;go_ret;exact ⟨kK U.out.symm,F⟩
 have U:=yD (HX.out bA0);clear HD HX HR N;go_wp2;go_roundw;case rel=>exact ⟨k + 1,by omega,by go_num,U,F⟩
 simp [intOf];omega):p:=h
def lJ (h:p:=by
 have a1:=Int.ofNat_lt.2 X;have H:=World.block_lt_of_cell? _ _ a7;have E:=World.block_lt_of_cell? _ _ ap;simp only at H E;go_wp2_with fail;refine (av.out _ bM _ _ x y (HR.out.below dB) (N.out.below dB)).mono ?_;rintro e w1 ⟨rfl,O⟩;have F:Qb w w1:=Below.trans bM (O.mono sD);clear O;cases hz:decide (x=y)
 · have U:=yD (show decide (a=b)=false by simp;exact HD.out bA0);clear HD HX HR N;go_wp2;go_ret;exact ⟨kK U.out.symm,F⟩
 have U:=yD (HX.out bA0);clear HD HX HR N;go_wp2;go_roundw;case rel=>exact ⟨k + 1,by omega,by go_num,U,F⟩
 simp [intOf];omega):p:=h
def lK (h:p:=by
 have F:=(tQ R E);go_wp2;go_ret;exact ⟨kK U.out.symm,F⟩):p:=h
def lM (h:p:=by
 constructor
 · rintro ⟨h1,h2,h3⟩;exact ⟨h3,h1,h2⟩
 rintro ⟨h1,h2,h3⟩;exact ⟨h2,h3,h1⟩):p:=h
def lN (h:p:=by
 rintro e w1 ⟨rfl,O⟩;have EF:Qb w w1:=Below.trans bG (O.mono bD2);clear O;by_cases h:idxOf (yX n f) l < 0
 · have U:=yD (kYz h);go_wp2;go_ret;exact ⟨jX U.out.symm,EF⟩
 obtain ⟨k,hk,hi⟩:=kGb h;have U:=yD (kWj hk hi);rw [hi] at h ⊢;clear hi;obtain ⟨ba,H,rfl,c0,c1,c2,hr,A0,A1,A2⟩:=kD.zt (HL.out.below EF) hk rfl;obtain ⟨v0,he,_⟩:=jh hr;simp only [List.cons.injEq,and_true] at he;obtain ⟨rfl,rfl,rfl⟩:=he;clear hr;generalize l[k]=y at *;have co:=Int.ofNat_lt.2 hk;go_wp2;go_ret;exact ⟨jX U.out.symm,EF⟩):p:=h
def lQ (h:p:=by
 go_wp2;go_ret;exact ⟨jX U.out.symm,rfl⟩):p:=h
def lS (h:p:=by
 have U:=yD (show eqN a b=false by unfold eqN;simp;rintro rfl;exact hl rfl);have hz:((a.length:Int) != b.length)=true:=bC6;have a3:(a.length != b.length)=true:=wY;go_wp2;go_ret;exact ⟨kK U.out.symm,bR⟩):p:=h
def lT (h:p:=by
 have F:=(tQ o E);cases hz:(x.toList==y.toList)
 · have U:=yD (show eqN a b=false by
     rw [kQu] at hz;simp at hz;unfold eqN;simp;exact HD.out hz)
   clear HD HX;go_wp2;go_ret;exact ⟨kK U.out.symm,F⟩
 have U:=yD (HX.out (by rw [kQu] at hz;simpa using hz));clear HD HX;go_wp2;go_roundw;case rel=>exact ⟨k + 1,by omega,by go_num,U,F⟩
 simp [intOf];omega):p:=h
def lU (h:p:=by
 have U:=yD (show eqN a b=true by unfold eqN;simp;exact yY HN.out hlt HL.out);go_wp2;go_ret;exact ⟨kK U.out.symm,o⟩):p:=h
def lV (h:p:=by
 refine kD.own.wide (S:=jU N.heap.size w1.heap.size) ?_ fF;exact kAk (kYo (kD.own.out L.out dX) (kAk (kAk (kAk (kAk (kD.flat.own (kD.jG (n:=0) bD1)))))))):p:=h
def lW (h:p:=by
 have ay:Hid (((F.take k).filter (λz=>!(z==ex))).length<=Big):=yD fD;go_wp2;go_ret;exact ⟨_,rfl,by rw [V.out];exact (HI.out.own ay.out).wide rD,(tQ E4 o)⟩):p:=h
def lX (h:p:=by
 go_wp2;go_ret;exact ⟨kK U.out.symm,rfl⟩):p:=h
def lY (h:p:=by
 have V:=G;clear U G;replace Y:=Y.below V;replace E:=(tQ E V);refine H _ _ E ?_;clear H K V;refine jD ?_;refine kN (k:=10) rfl bC5 rfl (λK H=>?_);have ay:=E.size;obtain ⟨v2,t3,hr,D,O,bg⟩:=jm (B:=wq.heap.size) Y X mU E.size bC6;refine kD.kV _ _ _ rfl bD3 bD3 hr ?_;obtain ⟨a2,n2,c2,a6,a8⟩:=D.parts;obtain rfl:=a6;replace E:=E.trans O;have F:=D;clear Y;have Y:=F;clear D F X;refine H _ _ E ?_;clear H K hr O;refine jD ?_;refine kN (k:=14) rfl bC5 rfl (λK H=>?_);have aw:=E.size;obtain ⟨v3,t4,hr,D,O,bc⟩:=jm (B:=wq.heap.size) Y (ap.out.below E) rC E.size bC6;refine kD.kV _ _ _ rfl bD3 bD3 hr ?_;obtain ⟨a3,n3,c3,av,be⟩:=D.parts;obtain rfl:=av;replace E:=E.trans O;have F:=D;clear Y;have Y:=F;clear D F;refine H _ _ E ?_;clear H K hr O;refine jD ?_;refine kQ 15 ?_;refine jW bC5 ?_;have am:=yD (kD.kU.cast Y (show _=Srt.sorted (yw l n) (fs.take (i + 1)) from by rw [al.out,List.nil_append]));have bi:=E.size;have bz:=aq.size;have an:=yD (aq.trans (E.mono (aq.size)));clear Y al;go_wp2;go_roundw;case rel=>exact ⟨i + 1,by omega,by go_num,yD (am.out.wide rD),(tQ o an.out)⟩
 simp [intOf];omega):p:=h
def lZ (h:p:=by
 obtain ⟨a1,n1,c1,aj,ar⟩:=Y.parts;obtain rfl:=aj;replace X:=X.below O;replace E:=(tQ E O);refine H _ _ E ?_;clear H K hr O;refine jD ?_;refine kN (k:=10) rfl bC5 rfl (λK H=>?_);have ay:=E.size;obtain ⟨v2,t3,hr,D,O,bg⟩:=jm (B:=wq.heap.size) Y X mU E.size bC6;refine kD.kV _ _ _ rfl bD3 bD3 hr ?_;obtain ⟨a2,n2,c2,a6,a8⟩:=D.parts;obtain rfl:=a6;replace E:=E.trans O;have F:=D;clear Y;have Y:=F;clear D F X;refine H _ _ E ?_;clear H K hr O;refine jD ?_;refine kN (k:=14) rfl bC5 rfl (λK H=>?_);have aw:=E.size;obtain ⟨v3,t4,hr,D,O,bc⟩:=jm (B:=wq.heap.size) Y (ap.out.below E) rC E.size bC6;refine kD.kV _ _ _ rfl bD3 bD3 hr ?_;obtain ⟨a3,n3,c3,av,be⟩:=D.parts;obtain rfl:=av;replace E:=E.trans O;have F:=D;clear Y;have Y:=F;clear D F;refine H _ _ E ?_;clear H K hr O;refine jD ?_;refine kQ 15 ?_;refine jW bC5 ?_;have am:=yD (kD.kU.cast Y (show _=Srt.sorted (yw l n) (fs.take (i + 1)) from by rw [al.out,List.nil_append]));have bi:=E.size;have bz:=aq.size;have an:=yD (aq.trans (E.mono (aq.size)));clear Y al;go_wp2;go_roundw;case rel=>exact ⟨i + 1,by omega,by go_num,yD (am.out.wide rD),(tQ o an.out)⟩
 simp [intOf];omega):p:=h
def mF (h:p:=by
 have V:=G;clear U G;replace Y:=Y.below V;replace E:=(tQ E V);refine H _ _ E ?_;clear H K V;refine jD ?_;refine kN (k:=10) rfl bC5 rfl (λK H=>?_);have ay:=E.size;obtain ⟨v2,t3,hr,D,O,bg⟩:=jm (B:=wq.heap.size) Y X mU E.size bC6;refine kD.kV _ _ _ rfl bD3 bD3 hr ?_;obtain ⟨a2,n2,c2,a6,a8⟩:=D.parts;obtain rfl:=a6;replace E:=E.trans O;have F:=D;clear Y;have Y:=F;clear D F X;refine H _ _ E ?_;clear H K hr O;refine jD ?_;refine kN (k:=14) rfl bC5 rfl (λK H=>?_);have aw:=E.size;obtain ⟨v3,t4,hr,D,O,bc⟩:=jm (B:=wq.heap.size) Y ((ap _).out.below E) rC E.size bC6;refine kD.kV _ _ _ rfl bD3 bD3 hr ?_;obtain ⟨a3,n3,c3,av,be⟩:=D.parts;obtain rfl:=av;replace E:=E.trans O;have F:=D;clear Y;have Y:=F;clear D F;refine H _ _ E ?_;clear H K hr O;refine jD ?_;refine kQ 15 ?_;refine jW bC5 ?_;have am:=yD (kD.kU.cast Y (show _=Srt.sorted (yw l n) (fs.take (i + 1)) from by rw [al.out,List.nil_append]));have bi:=E.size;have bz:=aq.size;have an:=yD (aq.trans (E.mono (aq.size)));clear Y al;go_wp2;go_roundw;case rel=>exact ⟨i + 1,by omega,by go_num,yD (am.out.wide rD),(tQ o an.out)⟩
 simp [intOf];omega):p:=h
def mK (h:p:=by
 obtain ⟨a1,n1,c1,aj,ar⟩:=Y.parts;obtain rfl:=aj;replace X:=X.below O;replace E:=(tQ E O);refine H _ _ E ?_;clear H K hr O;refine jD ?_;refine kN (k:=10) rfl bC5 rfl (λK H=>?_);have ay:=E.size;obtain ⟨v2,t3,hr,D,O,bg⟩:=jm (B:=wq.heap.size) Y X mU E.size bC6;refine kD.kV _ _ _ rfl bD3 bD3 hr ?_;obtain ⟨a2,n2,c2,a6,a8⟩:=D.parts;obtain rfl:=a6;replace E:=E.trans O;have F:=D;clear Y;have Y:=F;clear D F X;refine H _ _ E ?_;clear H K hr O;refine jD ?_;refine kN (k:=14) rfl bC5 rfl (λK H=>?_);have aw:=E.size;obtain ⟨v3,t4,hr,D,O,bc⟩:=jm (B:=wq.heap.size) Y ((ap _).out.below E) rC E.size bC6;refine kD.kV _ _ _ rfl bD3 bD3 hr ?_;obtain ⟨a3,n3,c3,av,be⟩:=D.parts;obtain rfl:=av;replace E:=E.trans O;have F:=D;clear Y;have Y:=F;clear D F;refine H _ _ E ?_;clear H K hr O;refine jD ?_;refine kQ 15 ?_;refine jW bC5 ?_;have am:=yD (kD.kU.cast Y (show _=Srt.sorted (yw l n) (fs.take (i + 1)) from by rw [al.out,List.nil_append]));have bi:=E.size;have bz:=aq.size;have an:=yD (aq.trans (E.mono (aq.size)));clear Y al;go_wp2;go_roundw;case rel=>exact ⟨i + 1,by omega,by go_num,yD (am.out.wide rD),(tQ o an.out)⟩
 simp [intOf];omega):p:=h
def mV (h:p:=by
 go_wp2;go_ret;have b3:=aj.size;have cw:=E.size;refine ⟨_,rfl,((aq.wide (T:=jU w.heap.size u4.heap.size) ?_).cast U.out.symm).own cB,(tQ E2 D)⟩;rintro j (I | I)
 · exact ⟨I.1,by have:=I.2;have:=D.size;omega⟩
 exact ⟨by omega,I.2⟩):p:=h
def mW (h:p:=by
 go_wp2;go_roundw;case rel=>exact ⟨k + 1,by omega,by go_num,U,F⟩
 simp [intOf];omega):p:=h
def o5 (h:p:=by
 clear o;clear OA;replace Y:=Y.below hb;replace X:=X.below hb;replace E:=(tQ E hb);refine H _ _ E ?_;clear H K hb;refine jD ?_;refine kN (k:=6) rfl bC5 rfl (λK H=>?_);have bn:=E.size;obtain ⟨v_,t4,hr,D,O,bc,L⟩:=kD.kBg (P:=prog) (t:=51) (ty:=51) (r:=kD.int) (e:=3) (w:=t3) (B:=N.heap.size) underlying51 kAi rfl bD0 bD0 kD.yg Y (OB.own wM).rd dK E.size bO;refine kD.kV _ _ _ rfl bD3 bD3 hr ?_;obtain ⟨au,ar,cd,ab,ah⟩:=D.parts;obtain rfl:=ab;replace X:=X.keep bK;replace E:=E.trans O;clear hr O L Y OB;have F:=D;clear D;refine H _ _ E ?_;clear H K bn;refine jD ?_;refine kN (k:=10) rfl bC5 rfl (λK H=>?_);have bn:=E.size;obtain ⟨v_,t5,hr,D,O,ap,L⟩:=kD.kBg (P:=prog) (t:=51) (ty:=51) (r:=kD.int) (e:=3) (w:=t4) (B:=N.heap.size) underlying51 kAi rfl bD0 bD0 kD.yg F (X.own sS).rd dK E.size bO;refine kD.kV _ _ _ rfl bD3 bD3 hr ?_;obtain ⟨a4,an,b2,ab,ag⟩:=D.parts;obtain rfl:=ab;replace E:=E.trans O;clear hr O L F X;have ae:=D;clear D;refine H _ _ E ?_;clear H K bn;refine jD ?_;refine kQ 11 ?_;refine jW bC5 ?_;go_wp2;go_ret;exact ⟨_,rfl,(ae.cast bC3).wide rD,(tQ R E)⟩):p:=h
def o6 (h:p:=by
 refine wpOp_mono go ?_;unfold wpOp;simp only [h0];exact h):p:=h
def o7 (h:p:=by
 refine ⟨ab,?_⟩;by_cases F:j=i
 · subst F;exact hy.wpOp hi hS ⟨hS,H⟩
 · have:=Y _ _ _ H j (ready_mono I F);omega):p:=h
def o8 (h:p:=by
 refine ⟨ab,?_⟩;by_cases F:j=i
 · subst F;exact hy.wpOp hi hS ⟨hS,H⟩
 · have h1:=(H.2 j (ready_mono I F)).2;obtain ⟨W,N,J,O⟩:=mem_ready.1 I;have Z:∀ e∈N.after,Region.binds md e=true->e.on≠i:=λe he hb aa=>by
     have h1:=O e he hb;rw [aa,getD_both E] at h1;cases h1
   have h2:=wpOp_putIf J (R j N J F W Z) (λcs b=>D i V cs b hi) (λcs b=>D j N cs b J) hQ hy h1;have U:∀ k ok,ops[k]?=some ok->k≠i->(listed.setIfInBounds j true).getD k true=false ->
       (∀ e∈ok.after,Region.binds md e=true->e.on≠i)->V.apart ops ok=true:=λk ok hk ad E hno=>by
     refine R k ok hk ad ?_ hno
     by_cases hjk:j=k
     · subst hjk;exact W
     · rw [getD_set_ne true hjk] at E;exact E
   refine wpOp_mono (λa' w' h3=>⟨h3.2.1,ih (listed.setIfInBounds j true) a' w' (inv.set I ab) U (ready_mono hr (Ne.symm F)) h3.1 h3.2.1 ?_⟩) h2;rw [Array.setIfInBounds_comm _ _ F];exact h3.2.2):p:=h
def o9 (h:p:=by
 have:l[i]?=some l.toArray[i]:=by simp
 simp only [jB,this]):p:=h
def oC (h:p:=by
 refine ⟨by simpa [kDd] using hB,l.drop n,λj=>by simp [List.getElem?_drop],by simp;omega,?_⟩;simp only [jB,List.nil_append,List.map_nil] at h;generalize l.drop n=r at h ⊢;cases r <;> exact h):p:=h
def oD (h:p:=by
 unfold wpOp;simp only [h0];exact h):p:=h
def oF (h:p:=by
 subst U;have h1:=List.all_eq_true.1 hs i (List.mem_range.2 hi);rw [dy,Bool.false_or] at h1;obtain ⟨j,I,bn⟩:=List.any_eq_true.1 h1;simp only [Bool.and_eq_true,decide_eq_true_eq,Bool.not_eq_true'] at bn;obtain ⟨N,J,e,he,hb,o⟩:=Region.waitsFor_spec bn.2.2;have W:j<=t:=rP;by_cases R:j=t
 · subst R;have:N=V:=Option.some.inj (J.symm.trans D);subst this;have h2:=O e he hb;rw [o,getD_both E] at h2;cases h2
 · cases hl:listed.getD j false with
   | true =>
     have h2:=inv.closed j N J hl e he hb;rw [o,getD_both E] at h2;cases h2
   | false =>
     have H:j < listed.size:=vP;exact ih (t - j) bD1 j rfl bD1 bn.2.1 (getD_in H hl) t nL hr):p:=h
def oG (h:p:=by
 obtain ⟨j,I,bn⟩:=List.any_eq_true.1 h1;simp only [Bool.and_eq_true,decide_eq_true_eq] at bn;obtain ⟨X,L,e,he,hb,o⟩:=Region.waitsFor_spec bn.2;have:X=V:=Option.some.inj (L.symm.trans D);subst this;have R:j < t:=bB6;have h2:=O e he hb;rw [o,getD_both (inv.tail j bD1 bD1)] at h2;cases h2):p:=h
def oH (h:p:=by
 simp only [kDe,Bool.and_eq_true] at hB;simp only [jB,List.map_nil] at h;have h:S2 w/\kCi P l.toArray S2 Q k (jB l q2) (q2.map (·.2)) a w:=h;exact ⟨hB.1,hB.2,h.1,k,h.2⟩):p:=h
def oI (h:p:=by
 unfold tree at h;refine wp_region_held (S:=S) hm ?_;have e:(Array.replicate l.toArray.size false)=(List.replicate l.length false).toArray:=bD2;rw [e,show l.toArray.size=l.length by simp];exact h):p:=h
def oJ (h:p:=by
 clear b5 cc b2 b3 bg az aj N;have b8:=yD (ar.out.trans (kDl bj.out BK.1));have cg:Hid ((Srt.sw cu j k).length=n):=yD (by rw [Srt.kAm];exact aa.out);go_roundw;case rel=>exact ⟨k,Srt.sw cu j k,by go_num,by omega,by omega,ce,cg,bb,b8⟩
 simp [intOf];omega):p:=h
def oK (h:p:=by
 have b4:Hid (Srt.outer key a (z - (i + 1)) (i + 1) cu=Srt.kBs key a z xs):=yD qQ;go_wp2;go_roundw;case rel=>exact ⟨i + 1,cu,by go_num,by omega,.inl bD1,b4,aa,bx,ar⟩
 simp [intOf];omega):p:=h
def oL (h:p:=by
 have HE:Hid (cur=Srt.kBs key a z xs):=yD ((kYq (key:=key) (a:=a) (cu:=cur) hlt).symm.trans HF.out);have c0:¬ (i:Int) < z:=bD1;go_wp2;go_end0;exact ⟨rfl,L.out.cast HE.out,U.out⟩):p:=h
def oM (h:p:=by
 clear b5 cc b2 b3 bg az aj N;have b8:=yD (ar.out.trans (kDl bj.out BK.1));have cg:Hid ((Srt.sw cu j k).length=n):=yD sU;go_roundw;case rel=>exact ⟨i + 1,Srt.sw cu j k,by go_num,by omega,ce,cg,bb,b8⟩
 simp [intOf];omega):p:=h
def oN (h:p:=by
 have HE:Hid (cu=Srt.swr c a z xs):=yD ((swr_end (a:=a) (b:=z) (cu:=cu) hlt).symm.trans HF.out);have c0:¬ (i:Int) < c:=bD1;go_wp2;go_end0;exact ⟨rfl,L.out.cast HE.out,U.out⟩):p:=h
def oO (h:p:=by
 rintro e V ⟨rfl,O2,T2⟩;have Z:=yD O2;have F:=yD (U.out.trans T2);clear O2 T2;go_wp2;go_end0;exact ⟨rfl,Z.out.cast HE.out,F.out⟩):p:=h
def oP (h:p:=by
 rintro e V ⟨rfl,O2,T2⟩;have Z:=yD O2;have F:=yD (U.out.trans T2);have aa:Hid ((Srt.swr q o m cu).length=n):=yD sW;clear O2 T2;go_wp2;go_roundw;case rel=>exact ⟨I,q,Srt.swr q o m cu,rfl,rfl,by omega,hq,by omega,X,HE,aa,Z,F⟩
 simp [intOf];omega):p:=h
def oQ (h:p:=by
 rintro e V ⟨rfl,O2,T2⟩;have Z:=yD O2;have F:=yD (U.out.trans T2);have aa:Hid ((Srt.swr p o G cu).length=n):=yD sW;clear O2 T2;go_wp2;go_roundw;case rel=>exact ⟨p,I,Srt.swr p o G cu,rfl,rfl,hp,by omega,R,by omega,HE,aa,Z,F⟩
 simp [intOf];omega):p:=h
def oU (h:p:=by
 have FX:=yD (λ(W:World) (hW:Qb wr W)=>kHv hW G R);refine yf (λW=>Qb wr W) [2,3,4] [(0,true),(1,true),(5,true),(6,true),(7,true),(8,true),(9,true),(10,true),(11,true),(12,true),(13,true),(14,true)] bC5 bC5 pY (bR.drew) ?_;intro wS E;simp only [jB,zK,List.length_cons,List.length_nil,List.getElem?_cons_succ,List.getElem?_cons_zero,List.map_cons,List.map_nil,List.cons_append,List.nil_append,List.drop_succ_cons,List.drop_zero,Nat.reduceAdd,Nat.zero_add];iterate 3
  refine kFd (v:=?_) rfl (λW=>?_) ?_;rotate_left;(· go_simp;try with_reducible rfl)
  refine jD ?_
 refine pre_nil ?_;iterate 12
  refine kX ?_
 refine jy ?_;have ar:=yD (b1.out.trans (Touch.of_below E));replace ai:=yD (ai.out.below E);replace G:=cL E G;replace R:=cL E R;have BK:=kD.kCq ai.out am;have bc:k * kD.int.n=k:=Nat.mul_one _;have a9:j * kD.int.n=j:=Nat.mul_one _;have b2:wS.there b (k) 1:=nA;have b3:wS.there b (j) 1:=nC;have bm:∀ q u,([.int .i64 x]:List Value)[q]?=some u->wS.cell? ⟨b,k * kD.int.n + q,none⟩=some u:=vB;have bw:∀ q u,([.int .i64 y]:List Value)[q]?=some u->wS.cell? ⟨b,j * kD.int.n + q,none⟩=some u:=vC;obtain ⟨s1,s2⟩:=kD.kDo (ci:=[.int .i64 x]) (cj:=[.int .i64 y]) ai.out am a4 bD1 rfl rfl bm bw (pi:=k) (pj:=j) bc.symm a9.symm;have bb:=yD s1;have bj:=yD s2;clear s1 s2 bm bw bc a9;have az:(prog.info? 3).map (·.size)=some 1:=gI;have aj:∀ c∈([.int .i64 x]:List Value),c.oneCell'=true:=cK;have N:∀ c∈([.int .i64 y]:List Value),c.oneCell'=true:=cK;refine yC rfl 3 _ _ rfl b (k) (.int .i64 y) [.int .i64 y] rfl bD3 bD3 b2 az N ?_;intro w5 bi;have bg:w5.there b (j) 1:=tL;have b5:=yD bi;clear bi;go_wp2_with (refine yC rfl 3 _ _ rfl b (j) (.int .i64 x) [.int .i64 x] rfl bD3 bD3 bg az aj ?_);rw [<- b5.out] at bb bj;generalize cc:kD.setCells w5 b (j) [.int .i64 x]=w6 at *;clear b5 cc b2 b3 bg az aj N;have b8:=yD (ar.out.trans (kDl bj.out BK.1));have cg:Hid ((Srt.sw cu k j).length=n):=yD sU;go_roundw;case rel=>exact ⟨j,Srt.sw cu k j,rfl,by omega,by omega,ce,cg,bb,b8⟩
 simp [intOf];omega):p:=h
def oV (h:p:=by
 obtain rfl:k=t:=bD1;have U:=yD (bn.out.trans ((HG.out).symm.trans (up_end (cu:=cu) (by omega:¬ k < k))));have V:¬ (k:Int) < k:=bD1;go_wp2;first | go_end0|((try simp only [Exit.inBlock,Exit.then]);refine bodyPost_ret (results_none rfl _ _ _) rfl ?_)
 exact ⟨rfl,ai.out.cast U.out.symm,b1.out⟩):p:=h
def oW (h:p:=by
 have U:=yD (bn.out.trans ((HG.out).symm.trans (down_end (cu:=cu) hlt)));have V:¬ (q:Int) < k:=bD1;have aq:decide ((k:Int) > q)=false:=bC6;go_wp2;first | go_end0|((try simp only [Exit.inBlock,Exit.then]);refine bodyPost_ret (results_none rfl _ _ _) rfl ?_)
 exact ⟨rfl,ai.out.cast U.out.symm,b1.out⟩):p:=h
def oZ (h:p:=by
 by_cases hmm:mid < m
 · have bc:(mid:Int) < m:=bD1;have cz:decide ((m:Int) > mid)=true:=bC6;have e1:lo=N - z:=by rw [ed.out,if_pos hmm]
   have e2:hi=mid:=by rw [a4.out,if_pos hmm]
   have e3:(N:Int) - (z:Int)=(lo:Int):=bD1;have e4:IntKind.i64.wrap (lo:Int)=lo:=IntWalk.i64_in _ bD1;go_wp2;go_meet;exact ⟨by first | rfl | rw [e1],by first | rfl | rw [e2],L,dc⟩
 have bc:¬ (mid:Int) < m:=bD1;have cz:decide ((m:Int) > mid)=false:=bC6;have e1:lo=a:=by rw [ed.out,if_neg hmm]
 have e2:hi=m:=by rw [a4.out,if_neg hmm]
 go_wp2;go_meet;exact ⟨by first | rfl | rw [e1],by first | rfl | rw [e2],L,dc⟩):p:=h
def p8 (h:p:=by
 by_cases g1:q < m
 · have am:(q:Int) < m:=bD1;by_cases g2:m < e
   · have I:(m:Int) < e:=bD1;go_wp2;go_meet;exact ⟨by rw [decide_eq_true g1,decide_eq_true g2];rfl,Z,F⟩
   have I:¬ (m:Int) < e:=bD1;go_wp2;go_meet;exact ⟨by rw [decide_eq_true g1,decide_eq_false g2];rfl,Z,F⟩
 have am:¬ (q:Int) < m:=bD1;go_wp2;go_meet;exact ⟨by rw [decide_eq_false g1];rfl,Z,F⟩):p:=h
def p9 (h:p:=by
 rintro e2 V ⟨rfl,O2,T2⟩;have aq:=yD O2;have ai:=yD (bi.out.trans T2);clear O2 T2;try go_wp2
 go_meet;exact ⟨yD (aq.out.cast (by rw [HY.out,if_pos g])),ai⟩):p:=h
def q8 (h:p:=by
 have hb:(decide (q < m) && decide (m < e))=false:=by
  rcases Nat.lt_or_ge q m with q1 | q1
  · rw [decide_eq_true q1,decide_eq_false (λq2=>g ⟨q1,q2⟩)];rfl
  rw [decide_eq_false bD1];rfl
 simp only [hb];go_wp2;go_meet;exact ⟨yD (bm.out.cast (by rw [HY.out,if_neg g])),bi⟩):p:=h
def q9 (h:p:=by
 by_cases g1:a < q
 · have am:(a:Int) < q:=bD1;by_cases g2:q < mid
   · have I:(q:Int) < mid:=bD1;go_wp2;go_meet;exact ⟨by rw [decide_eq_true g1,decide_eq_true g2];rfl,az,bg⟩
   have I:¬ (q:Int) < mid:=bD1;go_wp2;go_meet;exact ⟨by rw [decide_eq_true g1,decide_eq_false g2];rfl,az,bg⟩
 have am:¬ (a:Int) < q:=bD1;go_wp2;go_meet;exact ⟨by rw [decide_eq_false g1];rfl,az,bg⟩):p:=h
def qC (h:p:=by
 by_cases g:a < q/\q < mid
 · have hb:(decide (a < q) && decide (q < mid))=true:=mO;simp only [hb];go_wp2_with fail;refine (bw.out _ a q mid y au.out bb.out O.out wK g.1 g.2 wK bD1).mono ?_;rintro e2 V ⟨rfl,O2,T2⟩;have aq:=yD O2;have ai:=yD (bj.out.trans T2);clear O2 T2;try go_wp2
   go_meet;exact ⟨yD (aq.out.cast (by rw [HU.out,if_pos g])),ai⟩
 have hb:(decide (a < q) && decide (q < mid))=false:=by
  rcases Nat.lt_or_ge a q with q1 | q1
  · rw [decide_eq_true q1,decide_eq_false (λq2=>g ⟨q1,q2⟩)];rfl
  rw [decide_eq_false bD1];rfl
 simp only [hb];go_wp2;go_meet;exact ⟨yD (bb.out.cast (by rw [HU.out,if_neg g])),bj⟩):p:=h
def qP (h:p:=by
 by_cases g1:mid < e
 · have am:(mid:Int) < e:=bD1;by_cases g2:e < z
   · have I:(e:Int) < z:=bD1;go_wp2;go_meet;exact ⟨by rw [decide_eq_true g1,decide_eq_true g2];rfl,al,b8⟩
   have I:¬ (e:Int) < z:=bD1;go_wp2;go_meet;exact ⟨by rw [decide_eq_true g1,decide_eq_false g2];rfl,al,b8⟩
 have am:¬ (mid:Int) < e:=bD1;go_wp2;go_meet;exact ⟨by rw [decide_eq_false g1];rfl,al,b8⟩):p:=h
def qR (h:p:=by
 by_cases g:mid < e/\e < z
 · have hb:(decide (mid < e) && decide (e < z))=true:=mO;simp only [hb];go_wp2_with fail;refine (bw.out _ mid e z u au.out b1.out co.out wE g.1 g.2 wE bD1).mono ?_;rintro e2 V ⟨rfl,O2,T2⟩;have aq:=yD O2;have ai:=yD (bk.out.trans T2);clear O2 T2;go_wp2;first | go_end0|((try simp only [Exit.inBlock,Exit.then]);refine bodyPost_ret (results_none rfl _ _ _) rfl ?_)
   exact ⟨rfl,aq.out.cast (by rw [HF.out,if_pos g]),ai.out⟩
 have hb:(decide (mid < e) && decide (e < z))=false:=by
  rcases Nat.lt_or_ge mid e with q1 | q1
  · rw [decide_eq_true q1,decide_eq_false (λq2=>g ⟨q1,q2⟩)];rfl
  rw [decide_eq_false bD1];rfl
 simp only [hb];go_wp2;first | go_end0|((try simp only [Exit.inBlock,Exit.then]);refine bodyPost_ret (results_none rfl _ _ _) rfl ?_)
 exact ⟨rfl,b1.out.cast (by rw [HF.out,if_neg g]),bk.out⟩):p:=h
def r9 (h:p:=by
 go_wp2;go_loopw [8] (λi wr=>i=.int .i64 1/\wr=w) (λi _=>0);case atStart=>exact ⟨rfl,rfl⟩
 obtain ⟨rfl,hw⟩:=hrel;obtain rfl:=hw;go_wp2;go_end0;exact ⟨rfl,rfl⟩):p:=h
def rF (h:p:=by
 rintro e V ⟨rfl,H⟩;obtain rfl:=H.symm;go_wp2;go_loopw [6,7,8] (λi _ _ wx=>i=.int .i64 20/\wx=wr) (λi _ _ _=>0);case atStart=>exact ⟨rfl,rfl⟩
 obtain ⟨rfl,hw⟩:=hrel;obtain rfl:=hw;go_wp2;go_end0;exact ⟨rfl,rfl⟩):p:=h
def rZ (h:p:=by
 rintro e V ⟨rfl,O2,T2⟩;have Z:=yD O2;have F:=yD (U.out.trans T2);clear O2 T2;have aa:Hid ((Srt.kBs key p q cu).length=n):=yD (by rw [Srt.kCd];exact HL.out);go_wp2;go_roundw;case rel=>exact ⟨q,R,_,rfl,by first | rfl|(go_num),by omega,yD wJ,H,aa,Z,F⟩
 simp [intOf];omega):p:=h
def tJ (h:p:=by
 rintro e V ⟨rfl,O2,T2⟩;have ai:=yD O2;have b1:=yD (F.out.trans T2);clear O2 T2;have ae:Hid ((Srt.symm key s2 p Y q cv).length=n):=yD (by rw [Srt.zu];exact aa.out);go_wp2;go_roundw;case rel=>exact ⟨q,f3,_,rfl,by first | rfl|(go_num),by omega,yD (by have:=al.out;omega),a5,ae,ai,b1⟩
 simp [intOf];omega):p:=h
def uA (h:p:=by
 rintro e V ⟨rfl,O2,T2⟩;have ai:=yD (O2.cast N.out);have b1:=yD (F.out.trans T2);clear O2 T2;have ae:Hid ((Srt.pass key n s (n + 1) 0 cu).length=n):=yD sZ;go_wp2;go_roundw;case rel=>exact ⟨s2,R,_,rfl,by omega,by omega,yD wJ,yD qD,ae,ai,b1⟩
 simp [intOf];omega):p:=h
def uB (h:p:=by
 have bc:¬ (Y:Int) < n:=bD1;have N:=yD ((pass_end (key:=key) (cu:=cv) ba hm O G.out).symm.trans a1.out);have ai:=yD (Z.out.cast N.out);have ae:Hid ((Srt.pass key n s (n + 1) 0 cu).length=n):=yD sZ;go_wp2;go_roundw;case rel=>exact ⟨s2,R,_,rfl,by omega,by omega,yD wJ,yD qD,ae,ai,F⟩
 simp [intOf];omega):p:=h
def uC (h:p:=by
 have a7:¬ (s:Int) < n:=bD1;have HE:=yD ((kVk (key:=key) (f:=f) (cu:=cu) hlt).symm.trans (HB.out.trans ak.out.symm));go_wp2;go_end0;exact ⟨rfl,L.out.cast HE.out,U.out⟩):p:=h
def uD (h:p:=by
 go_wp2_with fail;refine o.out.mono ?_;rintro e V ⟨rfl,H⟩;obtain rfl:=H.symm;go_wp2;go_end0;exact ⟨rfl,L.out,Touch.refl _ _⟩):p:=h
def uE (h:p:=by
 go_wp2_with fail;refine HC.out.mono ?_;rintro e V ⟨rfl,O2,T2⟩;have Z:=yD O2;have F:=yD T2;clear O2 T2;go_wp2;go_end0;exact ⟨rfl,Z.out,F.out⟩):p:=h
def uF (h:p:=by
 refine pre_nil ?_;iterate 12
  refine kX ?_
 refine jy ?_;have ar:=yD (b1.out.trans (Touch.of_below E));replace ai:=yD (ai.out.below E);replace G:=cL E G;replace bt:=cL E bt;replace bp:=cL E bp;replace R:=cL E R;replace br:=cL E br;replace bv:=cL E bv;have BK:=kD.kCq ai.out am;have bc:k * kS.n=k * 3:=rfl;have a9:j * kS.n=j * 3:=rfl;have b2:wS.there b (k * 3) 3:=nA;have b3:wS.there b (j * 3) 3:=nC;have bm:∀ q u,([.slice a2 (x.1).length be,.int .i64 x.2.1,.int .i64 x.2.2]:List Value)[q]?=some u->wS.cell? ⟨b,k * kS.n + q,none⟩=some u:=qY;have bw:∀ q u,([.slice ad (y.1).length aw,.int .i64 y.2.1,.int .i64 y.2.2]:List Value)[q]?=some u->wS.cell? ⟨b,j * kS.n + q,none⟩=some u:=qZ;obtain ⟨s1,s2⟩:=kD.kDo (ci:=[.slice a2 (x.1).length be,.int .i64 x.2.1,.int .i64 x.2.2]) (cj:=[.slice ad (y.1).length aw,.int .i64 y.2.1,.int .i64 y.2.2]) ai.out am a4 bD1 rfl rfl bm bw (pi:=k * 3) (pj:=j * 3) bc.symm a9.symm;have bb:=yD s1;have bj:=yD s2;clear s1 s2 bm bw bc a9;have az:(prog.info? 131).map (·.size)=some 3:=gJ;have aj:∀ c∈([.slice a2 (x.1).length be,.int .i64 x.2.1,.int .i64 x.2.2]:List Value),c.oneCell'=true:=bU;have N:∀ c∈([.slice ad (y.1).length aw,.int .i64 y.2.1,.int .i64 y.2.2]:List Value),c.oneCell'=true:=bU;refine yC rfl 131 _ _ rfl b (k * 3) (.agg #[.slice ad (y.1).length aw,Qn y.2.1,Qn y.2.2]) [.slice ad (y.1).length aw,.int .i64 y.2.1,.int .i64 y.2.2] rfl bD3 bD3 b2 az N ?_;intro w5 bi;have bg:w5.there b (j * 3) 3:=tL;have b5:=yD bi;clear bi;go_wp2_with (refine yC rfl 131 _ _ rfl b (j * 3) (.agg #[.slice a2 (x.1).length be,Qn x.2.1,Qn x.2.2]) [.slice a2 (x.1).length be,.int .i64 x.2.1,.int .i64 x.2.2] rfl bD3 bD3 bg az aj ?_);rw [<- b5.out] at bb bj;generalize cc:kD.setCells w5 b (j * 3) [.slice a2 (x.1).length be,.int .i64 x.2.1,.int .i64 x.2.2]=w6 at *;clear b5 cc b2 b3 bg az aj N;have b8:=yD (ar.out.trans (kDl bj.out BK.1));have cg:Hid ((Srt.sw cu k j).length=n):=yD sU;go_roundw;case rel=>exact ⟨j,Srt.sw cu k j,rfl,by omega,by omega,ce,cg,bb,b8⟩
 simp [intOf];omega):p:=h
def uG (h:p:=by
 obtain ⟨_,_,rfl,G,al⟩:=kD.yH h;have ag:=ko G;obtain ⟨_,rfl,o⟩:=ag;obtain ⟨_,_,rfl,aq,aa⟩:=kD.yH al;obtain ⟨rfl,ai⟩:=kD.jb aq;obtain ⟨rfl,bf⟩:=kD.jb aa;exact ⟨_,rfl,G,o,ai,bf⟩):p:=h
def uH (h:p:=by
 obtain ⟨c0,Z,A0,Y,rfl,p0,V,I,N,L⟩:=h;obtain ⟨c1,H,A1,B1,rfl,p1,q1,hA1,F,hd1⟩:=V;obtain ⟨rfl,_⟩:=q1;have l0:=kD.len _ p0;have l1:=kD.len _ p1;change _=1 at l0;change _=1 at l1;have e:((c0++(c1++[.int .i64 x.2.2])):List Value).set 2 (.int .i64 v)=(c0++(c1++[.int .i64 v])):=by
  obtain ⟨o,rfl⟩:∃ o,c0=[o]:=pK;obtain ⟨D,rfl⟩:∃ D,c1=[D]:=pM;rfl
 rw [e];exact ⟨_,_,A0,Y,rfl,p0,⟨_,_,A1,B1,rfl,p1,⟨rfl,hv⟩,hA1,F,hd1⟩,I,N,L⟩):p:=h
def uI (h:p:=by
 obtain ⟨_,_,rfl,G,al⟩:=kD.yH h;have ag:=ko G;obtain ⟨_,rfl,o⟩:=ag;obtain ⟨rfl,ai⟩:=kD.jb al;exact ⟨_,rfl,G,o,ai⟩):p:=h
def uJ (h:p:=by
 go_wp2;go_ret;exact ⟨kK fA,o⟩):p:=h
def uK (h:p:=by
 have b3:=aj.size;have cw:=E.size;have bm:=yD aq;clear aq;go_wp2;go_ret;exact ⟨_,rfl,bm.out.wide gF,D⟩):p:=h
def uL (h:p:=by
 obtain ⟨k,hk,rfl,HN,o⟩:=hrel;by_cases hlt:k < a.length
 · have X:k < b.length:=vQ;obtain ⟨ba,H,rfl,c0,hr,A0⟩:=kD.kCa (G.below o) hlt rfl;obtain ⟨bb,V,rfl,Z,I,Y⟩:=kD.kCa (al.below o) X rfl;have he:=kD.kLb hr;obtain rfl:c0=_:=by simpa using he
   have O:=kD.kLb I;obtain rfl:Z=_:=by simpa using O
   clear he O hr I;have hne:=λq=>zF hlt X q;have D:=λq=>jv HN.out hlt X q;generalize a[k]=x at *;generalize b[k]=y at *;have HD:=yD hne;have HX:=yD D;clear hne D;go_wp2_with fail;have FX:=yD (λ(W:World) (hW:Qb wr W)=>kHv hW A0 Y);refine kM (λW=>Qb wr W) [true,true,true,true,true,true,true,true,true] bC5 bC5 pY (bR.drew) ?_;intro wS E;iterate 9
    all_goals refine kX ?_
   all_goals refine kR ?_
   exact iH
 exact iI):p:=h
def uM (h:p:=by
 go_simp;generalize U:World.alloc wS _=t0;have V:Qb wS t0:=rV;have bo:=V.size;clear U;replace E:=(tQ E V);refine H _ _ E ?_;clear H K V;refine jD ?_;refine jl (i:=4) (j:=6) rfl rfl bC5 rfl rfl (λK H=>?_) (λK H=>?_)
 · have bm:=E.size;obtain ⟨v1,t1,hr,Y,O,bj⟩:=jQ (w:=t0) (v:=.slice (some ⟨wS.heap.size,0,none⟩) 0 0) (xs:=[]) (S:=λ_=>False) (B:=t0.heap.size) kD.kU.void (az.out.below E) (λ_ h=>h.elim) nL bC6;refine kD.kV _ _ _ rfl bD3 bD3 hr ?_;obtain ⟨a1,n1,c1,aj,ar⟩:=Y.parts;obtain rfl:=aj;replace E:=(tQ E O);refine H _ _ E ?_;clear H K hr O;refine jD ?_;refine kN (k:=6) rfl bC5 rfl (λK H=>?_);have bb:=E.size;go_simp;have X:=kAh (w:=t1) (cs:=[.slice ra r.1.length rp,.int .i64 r.2.1,.int .i64 r.2.2]) (x:=r) (show (kD.kEk kS w0).is true _ [_,_,_] r _ from HR.out.1) HR.out.2;have G:Below t1.heap.size t1 (World.alloc t1 (.cells #[.slice ra r.1.length rp,.int .i64 r.2.1,.int .i64 r.2.2] 131)):=bR.alloc nL _;exact iR
 have bm:=E.size;go_simp;have X:=kAh (w:=t0) (cs:=[.slice ra r.1.length rp,.int .i64 r.2.1,.int .i64 r.2.2]) (x:=r) (show (kD.kEk kS w0).is true _ [_,_,_] r _ from HR.out.1) HR.out.2;have G:Below t0.heap.size t0 (World.alloc t0 (.cells #[.slice ra r.1.length rp,.int .i64 r.2.1,.int .i64 r.2.2] 131)):=bR.alloc nL _;generalize U:World.alloc t0 (.cells #[.slice ra r.1.length rp,.int .i64 r.2.1,.int .i64 r.2.2] 131)=t1 at X G ⊢;have bj:=G.size;have V:=G;clear U G;replace E:=(tQ E V);refine H _ _ E ?_;clear H K V;refine jD ?_;refine kN (k:=4) rfl bC5 rfl (λK H=>?_);have bb:=E.size;exact iT):p:=h
def uN (h:p:=by
 have bn:=E.size;go_simp;have X:=kAh (w:=wS) (cs:=[.slice ra r.1.length rp,.int .i64 r.2.1,.int .i64 r.2.2]) (x:=r) (show (kD.kEk kS w0).is true _ [_,_,_] r _ from HR.out.1) HR.out.2;have G:Below wS.heap.size wS (World.alloc wS (.cells #[.slice ra r.1.length rp,.int .i64 r.2.1,.int .i64 r.2.2] 131)):=bR.alloc nL _;generalize U:World.alloc wS (.cells #[.slice ra r.1.length rp,.int .i64 r.2.1,.int .i64 r.2.2] 131)=t0 at X G ⊢;have bo:=G.size;have V:=G;clear U G;replace E:=(tQ E V);refine H _ _ E ?_;clear H K V;refine jD ?_;refine kN (k:=0) rfl bC5 rfl (λK H=>?_);have bm:=E.size;go_simp;generalize U:World.alloc t0 _=t1;have V:Qb t0 t1:=rV;have bj:=V.size;clear U;replace X:=X.below V;replace E:=(tQ E V);refine H _ _ E ?_;clear H K V;refine jD ?_;refine kN (k:=4) rfl bC5 rfl (λK H=>?_);have bb:=E.size;exact iU):p:=h
def uO (h:p:=by
 go_simp;generalize U:World.alloc wS _=t0;have V:Qb wS t0:=rV;have bo:=V.size;clear U;replace E:=(tQ E V);refine H _ _ E ?_;clear H K V;refine jD ?_;refine jl (i:=4) (j:=6) rfl rfl bC5 rfl rfl (λK H=>?_) (λK H=>?_)
 · have bm:=E.size;obtain ⟨v1,t1,hr,Y,O,bj⟩:=jQ (w:=t0) (v:=.slice (some ⟨wS.heap.size,0,none⟩) 0 0) (xs:=[]) (S:=λ_=>False) (B:=t0.heap.size) kD.kU.void (az.out.below E) (λ_ h=>h.elim) nL bC6;refine kD.kV _ _ _ rfl bD3 bD3 hr ?_;obtain ⟨a1,n1,c1,aj,ar⟩:=Y.parts;obtain rfl:=aj;replace E:=(tQ E O);refine H _ _ E ?_;clear H K hr O;refine jD ?_;refine kN (k:=6) rfl bC5 rfl (λK H=>?_);have bb:=E.size;go_simp;have X:=kAh (w:=t1) (cs:=[.slice ra r.1.length rp,.int .i64 r.2.1,.int .i64 r.2.2]) (x:=r) (show (kD.kEk kS w0).is true _ [_,_,_] r _ from HR.out.1) HR.out.2;have G:Below t1.heap.size t1 (World.alloc t1 (.cells #[.slice ra r.1.length rp,.int .i64 r.2.1,.int .i64 r.2.2] 131)):=bR.alloc nL _;exact iV
 have bm:=E.size;go_simp;have X:=kAh (w:=t0) (cs:=[.slice ra r.1.length rp,.int .i64 r.2.1,.int .i64 r.2.2]) (x:=r) (show (kD.kEk kS w0).is true _ [_,_,_] r _ from HR.out.1) HR.out.2;have G:Below t0.heap.size t0 (World.alloc t0 (.cells #[.slice ra r.1.length rp,.int .i64 r.2.1,.int .i64 r.2.2] 131)):=bR.alloc nL _;generalize U:World.alloc t0 (.cells #[.slice ra r.1.length rp,.int .i64 r.2.1,.int .i64 r.2.2] 131)=t1 at X G ⊢;have bj:=G.size;have V:=G;clear U G;replace E:=(tQ E V);refine H _ _ E ?_;clear H K V;refine jD ?_;refine kN (k:=4) rfl bC5 rfl (λK H=>?_);have bb:=E.size;exact iW):p:=h
def uP (h:p:=by
 have bn:=E.size;go_simp;have X:=kAh (w:=wS) (cs:=[.slice ra r.1.length rp,.int .i64 r.2.1,.int .i64 r.2.2]) (x:=r) (show (kD.kEk kS w0).is true _ [_,_,_] r _ from HR.out.1) HR.out.2;have G:Below wS.heap.size wS (World.alloc wS (.cells #[.slice ra r.1.length rp,.int .i64 r.2.1,.int .i64 r.2.2] 131)):=bR.alloc nL _;generalize U:World.alloc wS (.cells #[.slice ra r.1.length rp,.int .i64 r.2.1,.int .i64 r.2.2] 131)=t0 at X G ⊢;have bo:=G.size;have V:=G;clear U G;replace E:=(tQ E V);refine H _ _ E ?_;clear H K V;refine jD ?_;refine kN (k:=0) rfl bC5 rfl (λK H=>?_);have bm:=E.size;go_simp;generalize U:World.alloc t0 _=t1;have V:Qb t0 t1:=rV;have bj:=V.size;clear U;replace X:=X.below V;replace E:=(tQ E V);refine H _ _ E ?_;clear H K V;refine jD ?_;refine kN (k:=4) rfl bC5 rfl (λK H=>?_);have bb:=E.size;exact iX):p:=h
def uQ (h:p:=by
 clear hb;rw [H2.out] at hO;obtain ⟨eo,ep,fu,fy,es,eu,rfl⟩:=yS hO.raw;rw [H1.out];have VO:=yD (hO);clear hO;go_upto_region 22 with fail;generalize F:World.alloc d6 _=er;have I:Qb d6 er:=rT;have BV:Qr er d6.heap.size #[Qs eo t.1 ep,Qs fu t.2.1 fy,Qs es t.2.2.1 eu,Qn t.2.2.2.1,Qn t.2.2.2.2] 38:=vD;have g4:d6.heap.size + 1<=er.heap.size:=bB3;clear F;replace BX:=kC BX I;replace BT:=kC BT I;replace BY:=kC BY I;replace BD:=kC BD I;replace BK:=kC BK I;replace XO:=yD (XO.out.below I);replace TO:=yD (TO.out.below I);replace YO:=yD (YO.out.below I);replace DO:=yD (DO.out.below I);replace LO:=yD (LO.out.below I);replace KO:=yD (KO.out.below I);replace VO:=yD (VO.out.below I);replace EE:=(tQ EE I);clear I;obtain ⟨fj,fl,fm,fp,fq⟩:=yI BV;obtain ⟨bm,bj,bl,bk,a5⟩:=yI BT;obtain ⟨aq,ah,ag,ai,ac,aw,au,ar⟩:=yL BY;go_wp2_with fail;refine (kBx (cx:=[.slice eo t.1.length ep,.slice fu t.2.1.length fy,.slice es t.2.2.1.length eu,.int .i64 t.2.2.2.1,.int .i64 t.2.2.2.2]) VO.out.raw (cy:=[.slice a8 t.1.length ce,.slice bn t.2.1.length co,.slice bb t.2.2.1.length cq,.int .i64 t.2.2.2.1,.int .i64 t.2.2.2.2]) TO.out.rd.1).mono ?_;rintro e ni ⟨D,hb⟩;have o:e=.returned (.bool true):=D.trans bD2;subst o;clear D;have ii:=hb.size;replace BX:=kC BX hb;replace BT:=kC BT hb;replace BY:=kC BY hb;exact lC):p:=h
def uR (h:p:=by
 obtain ⟨k,hk,rfl,HN,o⟩:=hrel;by_cases hlt:k < a.length
 · have X:k < b.length:=vQ;obtain ⟨ba,H,rfl,c0,hr,A0⟩:=kD.kCa (G.below o) hlt rfl;obtain ⟨bb,V,rfl,Z,I,Y⟩:=kD.kCa (al.below o) X rfl;obtain ⟨he,_⟩:=kD.zi hr;obtain rfl:c0=_:=by simpa using he
   obtain ⟨O,_⟩:=kD.zi I;obtain rfl:Z=_:=by simpa using O
   clear he O hr I;have hne:=λq=>zF hlt X q;have D:=λq=>jv HN.out hlt X q;generalize a[k]=x at *;generalize b[k]=y at *;have HD:=yD hne;have HX:=yD D;clear hne D;go_wp2_with fail;have FX:=yD (λ(W:World) (hW:Qb wr W)=>kHv hW A0 Y);refine kM (λW=>Qb wr W) [true,true,true,true,true,true,true,true,true] bC5 bC5 pY (bR.drew) ?_;intro wS E;iterate 9
    all_goals refine kX ?_
   all_goals refine kR ?_
   exact lT
 exact lU):p:=h
def uS (h:p:=by
 clear U;replace E:=(tQ E V);refine H _ _ E ?_;clear H K V;refine jD ?_;refine jl (i:=4) (j:=9) rfl rfl bC5 rfl rfl (λK H=>?_) (λK H=>?_)
 · have bm:=E.size;obtain ⟨v1,t1,hr,Y,O,bj⟩:=jm (w:=t0) (v:=.slice (some ⟨wS.heap.size,0,none⟩) 0 0) (xs:=[]) (S:=λ_=>False) (B:=t0.heap.size) kD.kU.void (az.out.below E) (λ_ h=>h.elim) nL bC6;refine kD.kV _ _ _ rfl bD3 bD3 hr ?_;obtain ⟨a1,n1,c1,aj,ar⟩:=Y.parts;obtain rfl:=aj;replace E:=(tQ E O);refine H _ _ E ?_;clear H K hr O;refine jD ?_;refine kN (k:=9) rfl bC5 rfl (λK H=>?_);have bb:=E.size;go_simp;have X:=kBy (w:=t1) (cs:=[.int .i64 x]) (x:=x) (show kD.int.is true _ [.int .i64 x] x _ from ⟨rfl,ac⟩) trivial;have G:Below t1.heap.size t1 (World.alloc t1 (.cells #[.int .i64 x] 3)):=bR.alloc nL _;generalize U:World.alloc t1 (.cells #[.int .i64 x] 3)=t2 at X G ⊢;have bh:=G.size;exact lY
 have bm:=E.size;go_simp;have X:=kBy (w:=t0) (cs:=[.int .i64 x]) (x:=x) (show kD.int.is true _ [.int .i64 x] x _ from ⟨rfl,ac⟩) trivial;have G:Below t0.heap.size t0 (World.alloc t0 (.cells #[.int .i64 x] 3)):=bR.alloc nL _;generalize U:World.alloc t0 (.cells #[.int .i64 x] 3)=t1 at X G ⊢;have bj:=G.size;have V:=G;clear U G;replace E:=(tQ E V);refine H _ _ E ?_;clear H K V;refine jD ?_;refine kN (k:=4) rfl bC5 rfl (λK H=>?_);have bb:=E.size;obtain ⟨v1,t2,hr,Y,O,bh⟩:=jm (w:=t1) (v:=.slice (some ⟨wS.heap.size,0,none⟩) 0 0) (xs:=[]) (S:=λ_=>False) (B:=t1.heap.size) kD.kU.void (az.out.below E) (λ_ h=>h.elim) nL bC6;refine kD.kV _ _ _ rfl bD3 bD3 hr ?_;exact lZ):p:=h
def uT (h:p:=by
 have bn:=E.size;go_simp;have X:=kBy (w:=wS) (cs:=[.int .i64 x]) (x:=x) (show kD.int.is true _ [.int .i64 x] x _ from ⟨rfl,ac⟩) trivial;have G:Below wS.heap.size wS (World.alloc wS (.cells #[.int .i64 x] 3)):=bR.alloc nL _;generalize U:World.alloc wS (.cells #[.int .i64 x] 3)=t0 at X G ⊢;have bo:=G.size;have V:=G;clear U G;replace E:=(tQ E V);refine H _ _ E ?_;clear H K V;refine jD ?_;refine kN (k:=0) rfl bC5 rfl (λK H=>?_);have bm:=E.size;go_simp;generalize U:World.alloc t0 _=t1;have V:Qb t0 t1:=rV;have bj:=V.size;clear U;replace X:=X.below V;replace E:=(tQ E V);refine H _ _ E ?_;clear H K V;refine jD ?_;refine kN (k:=4) rfl bC5 rfl (λK H=>?_);have bb:=E.size;obtain ⟨v1,t2,hr,Y,O,bh⟩:=jm (w:=t1) (v:=.slice (some ⟨t0.heap.size,0,none⟩) 0 0) (xs:=[]) (S:=λ_=>False) (B:=t1.heap.size) kD.kU.void (az.out.below E) (λ_ h=>h.elim) nL bC6;refine kD.kV _ _ _ rfl bD3 bD3 hr ?_;exact lZ):p:=h
def uU (h:p:=by
 clear U;replace E:=(tQ E V);refine H _ _ E ?_;clear H K V;refine jD ?_;refine jl (i:=4) (j:=9) rfl rfl bC5 rfl rfl (λK H=>?_) (λK H=>?_)
 · have bm:=E.size;obtain ⟨v1,t1,hr,Y,O,bj⟩:=jm (w:=t0) (v:=.slice (some ⟨wS.heap.size,0,none⟩) 0 0) (xs:=[]) (S:=λ_=>False) (B:=t0.heap.size) kD.kU.void (az.out.below E) (λ_ h=>h.elim) nL bC6;refine kD.kV _ _ _ rfl bD3 bD3 hr ?_;obtain ⟨a1,n1,c1,aj,ar⟩:=Y.parts;obtain rfl:=aj;replace E:=(tQ E O);refine H _ _ E ?_;clear H K hr O;refine jD ?_;refine kN (k:=9) rfl bC5 rfl (λK H=>?_);have bb:=E.size;go_simp;have X:=kBy (w:=t1) (cs:=[.int .i64 x]) (x:=x) (show kD.int.is true _ [.int .i64 x] x _ from ⟨rfl,ac⟩) trivial;have G:Below t1.heap.size t1 (World.alloc t1 (.cells #[.int .i64 x] 3)):=bR.alloc nL _;generalize U:World.alloc t1 (.cells #[.int .i64 x] 3)=t2 at X G ⊢;have bh:=G.size;exact mF
 have bm:=E.size;go_simp;have X:=kBy (w:=t0) (cs:=[.int .i64 x]) (x:=x) (show kD.int.is true _ [.int .i64 x] x _ from ⟨rfl,ac⟩) trivial;have G:Below t0.heap.size t0 (World.alloc t0 (.cells #[.int .i64 x] 3)):=bR.alloc nL _;generalize U:World.alloc t0 (.cells #[.int .i64 x] 3)=t1 at X G ⊢;have bj:=G.size;have V:=G;clear U G;replace E:=(tQ E V);refine H _ _ E ?_;clear H K V;refine jD ?_;refine kN (k:=4) rfl bC5 rfl (λK H=>?_);have bb:=E.size;obtain ⟨v1,t2,hr,Y,O,bh⟩:=jm (w:=t1) (v:=.slice (some ⟨wS.heap.size,0,none⟩) 0 0) (xs:=[]) (S:=λ_=>False) (B:=t1.heap.size) kD.kU.void (az.out.below E) (λ_ h=>h.elim) nL bC6;refine kD.kV _ _ _ rfl bD3 bD3 hr ?_;exact mK):p:=h
def uV (h:p:=by
 have bn:=E.size;go_simp;have X:=kBy (w:=wS) (cs:=[.int .i64 x]) (x:=x) (show kD.int.is true _ [.int .i64 x] x _ from ⟨rfl,ac⟩) trivial;have G:Below wS.heap.size wS (World.alloc wS (.cells #[.int .i64 x] 3)):=bR.alloc nL _;generalize U:World.alloc wS (.cells #[.int .i64 x] 3)=t0 at X G ⊢;have bo:=G.size;have V:=G;clear U G;replace E:=(tQ E V);refine H _ _ E ?_;clear H K V;refine jD ?_;refine kN (k:=0) rfl bC5 rfl (λK H=>?_);have bm:=E.size;go_simp;generalize U:World.alloc t0 _=t1;have V:Qb t0 t1:=rV;have bj:=V.size;clear U;replace X:=X.below V;replace E:=(tQ E V);refine H _ _ E ?_;clear H K V;refine jD ?_;refine kN (k:=4) rfl bC5 rfl (λK H=>?_);have bb:=E.size;obtain ⟨v1,t2,hr,Y,O,bh⟩:=jm (w:=t1) (v:=.slice (some ⟨t0.heap.size,0,none⟩) 0 0) (xs:=[]) (S:=λ_=>False) (B:=t1.heap.size) kD.kU.void (az.out.below E) (λ_ h=>h.elim) nL bC6;refine kD.kV _ _ _ rfl bD3 bD3 hr ?_;exact mK):p:=h
def uW (h:p:=by
 refine jD ?_;refine kN (k:=10) rfl bC5 rfl (λK H=>?_);have bn:=E.size;obtain ⟨v_,t5,hr,D,O,ap,L⟩:=kD.kBg (P:=prog) (t:=51) (ty:=51) (r:=kD.int) (e:=3) (w:=t4) (B:=N.heap.size) underlying51 kAi rfl bD0 bD0 kD.yg F (X.own sS).rd dK E.size bO;refine kD.kV _ _ _ rfl bD3 bD3 hr ?_;obtain ⟨a4,an,b2,ab,ag⟩:=D.parts;obtain rfl:=ab;replace E:=E.trans O;clear hr O L F X;have ae:=D;clear D;refine H _ _ E ?_;clear H K bn;refine jD ?_;refine kQ 11 ?_;refine jW bC5 ?_;go_wp2;go_ret;exact ⟨_,rfl,(ae.cast bC3).wide rD,(tQ R E)⟩):p:=h
def uX (h:p:=by
 replace E:=(tQ E V);refine H _ _ E ?_;clear H K V;clear bn;refine jD ?_;refine kN (k:=4) rfl bC5 rfl (λK H=>?_);go_simp;refine (kCw RV (HK.out.below (tQ R E))).mono ?_;rintro e t2 ⟨ay,rfl,Z,hb⟩;obtain ⟨aw,az,ax,ad,aj⟩:=Z.parts;obtain rfl:=ad;have bh:=hb.size;have OA:=Z.wide (T:=jU t1.heap.size t2.heap.size) nH;clear Z;clear RV;replace Y:=Y.below hb;replace X:=X.below hb;replace E:=(tQ E hb);refine H _ _ E ?_;clear H K hb;refine jD ?_;refine kN (k:=5) rfl bC5 rfl (λK H=>?_);go_simp;refine (kAc (OA.own wM).rd.1 bD1).mono ?_;rintro e t3 ⟨ao,rfl,o,hb⟩;obtain ⟨ak,am,av,ac,af⟩:=o.parts;obtain rfl:=ac;have bg:=hb.size;have OB:=o.wide (T:=jU t2.heap.size t3.heap.size) nH;exact o5):p:=h
def uY (h:p:=by
 have FX:=yD (λ(W:World) (hW:Qb wr W)=>kGx hW G bt bp R br bv);refine yf (λW=>Qb wr W) [2,3,4] [(0,true),(1,true),(5,true),(6,true),(7,true),(8,true),(9,true),(10,true),(11,true),(12,true),(13,true),(14,true)] bC5 bC5 pY (bR.drew) ?_;intro wS E;simp only [jB,zK,List.length_cons,List.length_nil,List.getElem?_cons_succ,List.getElem?_cons_zero,List.map_cons,List.map_nil,List.cons_append,List.nil_append,List.drop_succ_cons,List.drop_zero,Nat.reduceAdd,Nat.zero_add];iterate 3
  refine kFd (v:=?_) rfl (λW=>?_) ?_;rotate_left;(· go_simp;try with_reducible rfl)
  refine jD ?_
 exact uF):p:=h
def uZ (h:p:=by
 have bz:=aq.size;go_upto_region 4 with fail;by_cases bu:k < lp
 · have bt:¬ lp=k:=bD1;rcases a9.out with ⟨h1,h2⟩|⟨b,hb⟩
   · exact absurd bu bD1
   first | subst hb|(simp only [Option.some.injEq,Addr.mk.injEq,and_true] at hb;obtain ⟨rfl,rfl⟩:=hb)
   have ap:=yD (kD.kTs ba.out (k:=k) bw);rw [Nat.zero_add,show k * (kD.kEk kS w0).n=k * 3 from rfl] at ap;have FX:=yD (λ(W:World) (hW:Qb wq W)=>kKb hW K0 K1 K2);refine yM (λW=>Qb wq W) bC5 (bR.drew) ?_;intro wS E;refine kQ 1 ?_;refine kQ 2 ?_;refine kQ 3 ?_;refine kQ 5 ?_;refine kQ 8 ?_;refine kQ 9 ?_;refine kQ 10 ?_;refine jl (i:=0) (j:=6) rfl rfl bC5 rfl rfl (λK H=>?_) (λK H=>?_)
   · have bn:=E.size;exact uM
   exact uN
 have bt:lp=k:=bD1;subst bt;have ap:=λ(ad:Option Addr)=>yD (show (kD.slice 131 (kD.kEk kS w0)).rd wq [.slice ad 0 0] (l.drop lp) from by rw [List.drop_eq_nil_of_le bD1];exact kD.kTl vN);have FX:=yD (λ(W:World) (hW:Qb wq W)=>kKb hW K0 K1 K2);refine yM (λW=>Qb wq W) bC5 (bR.drew) ?_;intro wS E;refine kQ 1 ?_;refine kQ 2 ?_;refine kQ 3 ?_;refine kQ 5 ?_;refine kQ 8 ?_;refine kQ 9 ?_;refine kQ 10 ?_;refine jl (i:=0) (j:=6) rfl rfl bC5 rfl rfl (λK H=>?_) (λK H=>?_)
 · have bn:=E.size;exact uO
 exact uP):p:=h
def vE (h:p:=by
 have gb:=E.size;replace BX:=kC BX E;replace BT:=kC BT E;replace BY:=kC BY E;replace BD:=kC BD E;replace BK:=kC BK E;replace XO:=yD (XO.out.below E);replace TO:=yD (TO.out.below E);replace YO:=yD (YO.out.below E);replace DO:=yD (DO.out.below E);replace LO:=yD (LO.out.below E);replace KO:=yD (KO.out.below E);replace EE:=(tQ EE E);clear E;cases bo
 · exact iZ
 obtain ⟨fo,ft,fe⟩:=kWw (now:=99999) gd.out;rw [gj.out] at fo ft fe;have H1:=yD fo;have H2:=yD ft;have H3:=yD fe;clear fo ft fe;obtain ⟨aq,ah,ag,ai,ac,aw,au,ar⟩:=yL BY;obtain ⟨bm,bj,bl,bk,a5⟩:=yI BT;go_wp2_with fail;refine (kGl (cx:=[.slice a7 R.1.length bc,.int .i64 R.2.1.1,.slice b0 R.2.1.2.length bz,.slice bh R.2.2.1.length bq,.slice db R.2.2.2.1.length a9,.slice c8 R.2.2.2.2.1.length ba,.slice dc R.2.2.2.2.2.1.length b2,.int .i64 R.2.2.2.2.2.2]) YO.out.rd (cn:=[.slice a8 t.1.length ce]) (data_nm TO.out).rd (t:=99999) bD1).mono ?_;rintro e d6 ⟨vs,rfl,hO,hb⟩;have ev:=hb.size;replace BX:=kC BX hb;replace BT:=kC BT hb;replace BY:=kC BY hb;replace BD:=kC BD hb;replace BK:=kC BK hb;replace XO:=yD (XO.out.below hb);replace TO:=yD (TO.out.below hb);replace YO:=yD (YO.out.below hb);replace DO:=yD (DO.out.below hb);replace LO:=yD (LO.out.below hb);replace KO:=yD (KO.out.below hb);replace EE:=(tQ EE hb);clear aq ah ag ai ac aw au ar bm bj bl bk a5;exact uQ):p:=h
def vM (h:p:=by
 first | subst hb|(simp only [Option.some.injEq,Addr.mk.injEq,and_true] at hb;obtain ⟨rfl,rfl⟩:=hb)
 have bt:¬ cap=k:=bD1;have ap:=yD (kD.kTs ba.out (k:=k) vW);rw [Nat.zero_add,show k * kD.int.n=k from Nat.mul_one k] at ap;have FX:=yD (λ(W:World) (hW:Qb wq W)=>cL hW ae);refine yM (λW=>Qb wq W) bC5 (bR.drew) ?_;intro wS E;refine kQ 1 ?_;refine kQ 2 ?_;refine kQ 3 ?_;refine kQ 5 ?_;refine kQ 6 ?_;refine kQ 7 ?_;refine kQ 8 ?_;refine kQ 11 ?_;refine kQ 12 ?_;refine kQ 13 ?_;refine jl (i:=0) (j:=9) rfl rfl bC5 rfl rfl (λK H=>?_) (λK H=>?_)
 · have bn:=E.size;go_simp;generalize U:World.alloc wS _=t0;have V:Qb wS t0:=rV;have bo:=V.size;exact uS
 exact uT):p:=h
def vZ (h:p:=by
 have bt:cap=k:=bD1;subst bt;have ap:=λ(ad:Option Addr)=>yD (show (kD.slice 3 kD.int).rd wq [.slice ad 0 0] (LL.drop cap) from by rw [List.drop_eq_nil_of_le vW];exact kD.kTl vN);have FX:=yD (λ(W:World) (hW:Qb wq W)=>cL hW ae);refine yM (λW=>Qb wq W) bC5 (bR.drew) ?_;intro wS E;refine kQ 1 ?_;refine kQ 2 ?_;refine kQ 3 ?_;refine kQ 5 ?_;refine kQ 6 ?_;refine kQ 7 ?_;refine kQ 8 ?_;refine kQ 11 ?_;refine kQ 12 ?_;refine kQ 13 ?_;refine jl (i:=0) (j:=9) rfl rfl bC5 rfl rfl (λK H=>?_) (λK H=>?_)
 · have bn:=E.size;go_simp;generalize U:World.alloc wS _=t0;have V:Qb wS t0:=rV;have bo:=V.size;exact uU
 exact uV):p:=h
def x8 (h:p:=by
 clear E;have ba:=yD (a7.out.below aq);have az:=yD (kD.kOh ba.out (k:=k) bw);have b1:l.length < 16777216:=hlen;exact uZ):p:=h
def x9 (h:p:=by
 clear E;have ba:=yD ((ai.out.own (by have:=HM.out;unfold Big;omega)).rd);have az:=yD (kD.kOh ba.out (k:=k) vW);have b1:LL.length<=16777216:=vW;go_upto_region 8 with fail;by_cases bu:k < cap
 · rcases kD.kQb ai.out with ⟨h1,h2⟩|⟨b,hb⟩
   · exact absurd bu bD1
   exact vM
 exact vZ):p:=h
end Go.Proofs.YtjhfdpopkkmigaaGreat
