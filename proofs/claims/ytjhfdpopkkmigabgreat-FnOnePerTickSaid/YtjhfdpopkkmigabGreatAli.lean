/-
  Short names for five lemmas.
-/
import Derived.Test.YtjhfdpopkkmigabGreatProg
import Derived.ArgAppend
import Derived.BigQuiet
import Derived.Deep.Cut
import Derived.Deep.CutBlock
import Derived.Deep.CutRange
import Derived.Deep.MidRow
import Derived.Deep.OwnRows
import Derived.Deep.QuietTactic
import Derived.Deep.Slices
import Derived.IntWalk
import Derived.Laws.AppendOwn
import Derived.Laws.BitsLemmas
import Derived.Laws.BytesArg
import Derived.Laws.Concat
import Derived.Laws.CopyRow
import Derived.Laws.IdiomCopy
import Derived.Laws.IdiomStrings
import Derived.Lib.AppendZeros
import Derived.Lib.ConvBytes
import Derived.Lib.Hide
import Derived.Lib.ItoaNum
import Derived.OpenShut
import Derived.OrdersHeld
import Derived.OwnWalk
import Derived.ProofKit
import Derived.Shelf.Spec.SlicesInsertGrow
import Derived.StillTail
import Derived.StillTailTactics
import Derived.WalkKit
import Derived.WalkLawsBesides
import Derived.WalkSpells
set_option linter.unusedVariables false
set_option linter.defProp false
set_option linter.unusedSimpArgs false
set_option linter.unnecessarySimpa false
namespace Go.Proofs.YtjhfdpopkkmigabGreat
open Go Go.RowKit _root_.Go.Proofs.Tryz
inductive Qx (p:Prop)|k
instance {p:Prop}:CoeSort (Qx p) Prop:=⟨λ_=>p⟩
instance {p:Prop}:CoeOut (Qx p) Prop:=⟨λ_=>p⟩
inductive Qy {α:Type} (a:α)|k
instance {α:Type} {a:α}:CoeOut (Qy a) α:=⟨λ_=>a⟩
def Qb (w v:World):Qx (Below w.heap.size w v):=.k
def Qi (n:Int):Qx (-9223372036854775808<=n/\n<=9223372036854775807):=.k
def Qc (w:World) (b o:Nat) (v:Value):Qx (w.cell? ⟨b,o,none⟩=some v):=.k
def Qd (w u:World) (o:Nat) (v:Value):Qx (w.cell? ⟨u.heap.size,o,none⟩=some v):=.k
def Qr (w:World) (b:Nat) (c:Array Value) (t:Nat):Qx (w.heap[b]?=some (.cells c t (0,0))):=.k
def Ql (u v:World) (b:Nat):Qy (λk:Nat=>u.heap.size<=k/\k < v.heap.size/\k≠b):=.k
def Qs {α:Type} (a:Option Addr) (l:List α) (c:Nat):Qy (Value.slice a l.length c):=.k
def Qn (n:Int):Qy (Value.int .i64 n):=.k
def zA {α : Type} (l : List α) (i : Nat) (a : α) : l.toArray.setIfInBounds i a = (l.set i a).toArray := List.setIfInBounds_toArray l i a
def zB {α : Type} {x : α} {xs : List α} {a : α} : (x :: xs).set 0 a = a :: xs := rfl
def zC {α : Type} {x : α} {xs : List α} {i : Nat} {a : α} : (x :: xs).set (i + 1) a = x :: xs.set i a := rfl
def yD {p : Prop} (h : p) : Go.RowKit.Hid p := Lib.hid h
def bR {B : Nat} {w : World} : Below B w w := Below.refl B w
def nL {n : Nat} : n <= n := Nat.le_refl n
def tQ {w w1 w2 : World} (h : Below w.heap.size w w1) (k : Below w1.heap.size w1 w2) : Below w.heap.size w w2 := h.trans (k.mono h.size)
def bT : True := True.intro
variable {p : Prop}
abbrev bQ (w : World) (v : Value) (e : Ending) (w' : World) : Prop := e = .returned v /\ Below w.heap.size w w'
def zU {b : Bool} : ((!b) = true) = (b = false) := by cases b <;> simp
def zV {b : Bool} : ((!b) = false) = (b = true) := by cases b <;> simp
def cL {w wx : World} {a : Addr} {v : Value} (hb : Below w.heap.size w wx) (h : w.cell? a = some v) : wx.cell? a = some v := cell_later hb h
def bI (h:p:=by repeat (first|(with_reducible exact bR) | refine Below.alloc ?_ (by simp;try omega) _ | refine Below.drew ?_ | refine Below.setCell ?_ (by simp;try omega) _)):p:=h
def bH3 (h:p:=by omega):p:=h
def bG6 (h:p:=by kernel_rfl):p:=h
def bD6 (h:p:=by simp;try omega):p:=h
def qW (h:p:=by exact λk hk=>by have:=hk.1;have:=hk.2;omega):p:=h
def wF (h:p:=by rw [<- J];simp [go_sem]):p:=h
def bH2 (h:p:=by decide):p:=h
def qY (h:p:=by exact λc a d v w h=>by cases d <;> exact h):p:=h
def mV (h:p:=by exact λj hj=>⟨by have:=hj.1;omega,by have:=hj.2;omega⟩):p:=h
def bG7 (h:p:=by simp;omega):p:=h
def tK (h:p:=by rw [<- G];exact bR.alloc nL _):p:=h
def pV (h:p:=by exact λk q h=>by have h1:=q.1;have h2:=q.2;omega):p:=h
def bH5 (h:p:=by rfl):p:=h
def bD5 (h:p:=by exact λk hk=>by omega):p:=h
def rQ (h:p:=by exact λj hj=>⟨hj.1,by have:=hj.2;omega⟩):p:=h
def fE (h:p:=by exact λj hj=>⟨by have:=hj.1;omega,by have:=hj.2;simp [World.setCell];omega⟩):p:=h
def bH4 (h:p:=by simp):p:=h
def rR (h:p:=by exact λj hj=>⟨by have:=hj.1;omega,hj.2⟩):p:=h
def bF4 (h:p:=by rw [<- G];simp):p:=h
def wW (h:p:=by rw [<- G];exact kG rfl):p:=h
def fC (h:p:=by exact λj h1 h2=>by simp (discharger:=(simp;omega)) only [heap_setCell_other]):p:=h
def wG (h:p:=by rw [<- D];simp [go_sem]):p:=h
def nX (h:p:=by exact λj h1 h2=>by have p:=h1.2;have q:=h2.1;omega):p:=h
def dK (h:p:=by exact λk q=>⟨q.1,Nat.lt_of_lt_of_le q.2.1 hb.size,Nat.ne_of_lt (by rw [ax];exact q.2.1)⟩):p:=h
def vC (h:p:=by show w.heap.size < _;omega):p:=h
def bS (h:p:=by first | omega|(simp only [List.flatten_cons,List.flatten_nil,List.length_append,List.length_cons,List.length_nil];omega)):p:=h
def bB2 (h:p:=by rw [<- G];exact sT1):p:=h
def gB (h:p:=by exact λj hj=>⟨by have:=hj.1;omega,by simpa [World.setCell] using hj.2⟩):p:=h
def fP (h:p:=by exact λj q=>⟨by have:=q.1;omega,by have:=q.2;simp [World.setCell];omega⟩):p:=h
def bB3 (h:p:=by have:=HL.out;omega):p:=h
def tL (h:p:=by rw [<- D];exact bR.alloc nL _):p:=h
def bL (h:p:=by exact λk q=>by rcases q with q | q | q;exact ⟨q.1,by have:=q.2;omega⟩;exact ⟨by have:=q.1;omega,by have:=q.2;omega⟩;exact ⟨by have:=q.1;omega,q.2⟩):p:=h
def fH (h:p:=by intro q;have:=q.1;first | omega|(simp at this;omega)|(simp at this)):p:=h
def mM (h:p:=by exact λk q=>⟨by have:=q.1;omega,q.2,by have:=q.1;omega⟩):p:=h
def dL (h:p:=by exact λj hj=>⟨by first | omega|(have:=hj.1;omega),by first | omega|(have:=hj.2;omega)⟩):p:=h
def nJ (h:p:=by exact λk q=>.inl (by first | exact q | exact .inl q)):p:=h
def bW (h:p:=by intro c hc;simp only [List.mem_cons,List.not_mem_nil,or_false] at hc;rcases hc with rfl | rfl | rfl <;> rfl):p:=h
def vD (h:p:=by exact λk q h=>by have:=q.1;omega):p:=h
def bD0 (h:p:=by unfold Big;omega):p:=h
def tC (h:p:=by exact λj h1 h2=>by have:=h1.1;omega):p:=h
def fA (h:p:=by exact λj hj=>⟨by have:=hj.1;omega,by have:=hj.2.1;simp [World.setCell];omega⟩):p:=h
def gD (h:p:=by exact λk q=>⟨by have:=q.1;omega,by have:=q.2;omega,by have:=q.1;omega⟩):p:=h
def cZ (h:p:=by intro c hc;simp only [List.mem_cons,List.not_mem_nil,or_false] at hc;rcases hc with rfl <;> rfl):p:=h
def sP (h:p:=by first | omega|(simp;try omega)):p:=h
def bN (h:p:=by exact λk q=>by rcases q with q | q;exact ⟨q.1,by have:=q.2.1;omega,q.2.2⟩;exact ⟨by have:=q.1;omega,by have:=q.2;omega,by have:=q.1;omega⟩):p:=h
def bD7 (h:p:=by exact λk q=>by omega):p:=h
def bY (h:p:=by exact λj h1 h2=>by have:=ad.out;have:=ak.out;rw [<- D];simp (discharger:=(simp;omega)) only [heap_setCell_other]):p:=h
def fF (h:p:=by exact λj q=>⟨by have:=q.1;omega,by have:=q.2.1;simp [World.setCell];omega⟩):p:=h
def vE (h:p:=by exact λk hk=>by have:=hk.1;omega):p:=h
def bA (h:p:=by exact λj hj=>by rcases hj with hj | hj | hj;exact ⟨by have:=hj.1;omega,by have:=hj.2;simp [World.setCell];omega⟩;exact ⟨by have:=(ak.out j hj).1;omega,by have:=(ak.out j hj).2;simp [World.setCell];omega⟩;exact ⟨by have:=hj.1;simp at this;omega,by have:=hj.2;simp [World.setCell];omega⟩):p:=h
def bM (h:p:=by exact λj hj hl=>R j hl (by first | omega|(have h1:=hj.1;have h2:=hj.2;intro q;have:=q.1;have:=q.2;omega)|(intro q;have:=q.1;have:=q.2;omega))):p:=h
def rT (h:p:=by (try simp only);rw [ja h];exact q):p:=h
def tN (h:p:=by rw [<- U];exact bR.alloc nL _):p:=h
def nK (h:p:=by exact λj hj=>⟨by have:=hj.1;have:=E.size;omega,hj.2⟩):p:=h
def sG (h:p:=by exact λk hk=>⟨by omega,by simp;omega⟩):p:=h
def bD8 (h:p:=by simpa using hl):p:=h
def dP (h:p:=by simpa only [Bool.and_eq_true,decide_eq_true_eq,Bool.not_eq_true'] using hi.2):p:=h
def gW (h:p:=by intro q;rcases q with q | q;(have q1:=q.1;omega);omega):p:=h
def pW (h:p:=by exact λj h1 h2=>by have:=h1.2.1;have:=h2.1;omega):p:=h
def dD (h:p:=by simp [results,results6,go_sem,au,ao,aw,an,be,a9,bd,bb,bz,br,da,c4,c9,c7,df,c5,db,c8]):p:=h
def dE (h:p:=by simp [results,results8,go_sem,au,ao,aw,an,be,a9,bd,bb,bz,br,da,c4,c9,c7,df,c5,db,c8]):p:=h
def bF5 (h:p:=by rw [<- J];simp):p:=h
def vQ (h:p:=by exact λj q=>by have:=q.1;omega):p:=h
def qE (h:p:=by exact λk h1 h2=>by have:=h1.2;have:=h2.1;omega):p:=h
def qN (h:p:=by exact λk q=>⟨q.1,by have:=q.2.1;omega,q.2.2⟩):p:=h
def fQ (h:p:=by simp [results,results64,go_sem,ak,al,ao,an,az,ay,a7,a6,bp,bn]):p:=h
def tX (h:p:=by rw [<- J];exact kG (by simp)):p:=h
def gF (h:p:=by exact λk q=>⟨by have:=q.1;omega,by have:=q.2;omega,by have:=q.2;omega⟩):p:=h
def vF (h:p:=by rw [<- G];exact jM (kG rfl)):p:=h
def dA (h:p:=by exact λj q=>q.elim (λq=>⟨q.1,by omega,q.2.2⟩) (λq=>⟨by have:=q.1;omega,q.2,by have:=q.1;omega⟩)):p:=h
def rH (h:p:=by unfold Addr.add;split <;> simp_all):p:=h
def dB (h:p:=by exact λj h1 h2=>by have:=ad.out;rw [<- D];simp (discharger:=(simp;omega)) only [heap_setCell_other]):p:=h
def bF6 (h:p:=by simpa using h):p:=h
def bB (h:p:=by exact λj hj=>by rcases hj with hj | hj | hj;exact ⟨by have:=hj.1;omega,by have:=hj.2;omega⟩;exact ⟨by have:=hj.1;omega,by have:=hj.2;omega⟩;exact ⟨by have:=hj.1;omega,by have:=hj.2;omega⟩):p:=h
def bG (h:p:=by rw [<- hF];unfold kEi;rw [show kGd ((U,(xc,xe),x2,x3,x4,x5,x6)).2.2.1 ((q0,q1,q2,q3)).1 f=kn from ei.out,show kEw (U,(xc,xe),x2,x3,x4,x5,x6) ((q0,q1,q2,q3)).1 f=fs from el.out]):p:=h
def dJ (h:p:=by exact λk q=>⟨by have:=q.1;omega,by have:=q.2;omega,by have:=q.1;omega,by have:=q.1;omega⟩):p:=h
def sS (h:p:=by exact λj q=>⟨by have:=q.1;omega,q.2⟩):p:=h
def vR (h:p:=by exact λk q=>by have:=q.1;omega):p:=h
def qO (h:p:=by first | omega|(simp;done)|(simp;omega)):p:=h
def dN (h:p:=by exact λj h1 h2=>by rw [<- D];simp (discharger:=(simp;omega)) only [heap_setCell_other]):p:=h
def vV (h:p:=by rw [<- ab];simp [go_sem]):p:=h
def bZ (h:p:=by exact λk q=>by rcases q with q | q;exact ⟨q.1,by have:=q.2;omega⟩;exact ⟨by have:=q.1;omega,by have:=q.2;omega⟩):p:=h
def bH (h:p:=by exact λk q=>by rcases q with q | q | q;exact ⟨q.1,by have:=q.2;omega⟩;exact ⟨by have:=q.1;omega,by have:=q.2;omega⟩;exact ⟨by have:=q.1;(try simp at this);omega,q.2⟩):p:=h
def gK (h:p:=by simp [results,results17,go_sem,ak,al,ao,an,az,ay,a7,a6]):p:=h
def mO (h:p:=by exact λj hj=>⟨hj.1,by simpa [World.setCell] using hj.2⟩):p:=h
def mP (h:p:=by simp [results,results174,go_sem,ak,ao,al,an]):p:=h
def bD9 (h:p:=by simpa using hj):p:=h
def bB4 (h:p:=by have:=bf.out;omega):p:=h
def bJ (h:p:=by exact λj q=>by rcases q with q | q | q;exact ⟨by have:=q.1;omega,by have:=q.2;omega⟩;exact ⟨by have:=q.1;omega,by have:=q.2;omega⟩;exact ⟨by have:=q.1;omega,q.2⟩):p:=h
def vG (h:p:=by first | omega|(simp;omega)):p:=h
def qK (h:p:=by match c0,l0 with | [o],_=>exact ⟨_,rfl⟩):p:=h
def nM (h:p:=by rw [decide_eq_true g.1,decide_eq_true g.2];rfl):p:=h
def bK (h:p:=by exact λj q=>q.elim (λq=>⟨q.1,by omega,q.2.2,by have:=q.2.1;omega⟩) (λq=>⟨by have:=q.1;omega,q.2,by have:=q.1;omega,by have:=q.1;have:=q.2;omega⟩)):p:=h
def bA9 (h:p:=by unfold maxLen;omega):p:=h
def dF (h:p:=by split <;> (try simp only [List.length_append,List.length_cons,List.length_nil]) <;> omega):p:=h
def dG (h:p:=by intro y hy;simp only [List.mem_singleton] at hy;rw [hy];exact ⟨trivial,trivial,trivial⟩):p:=h
def tF (h:p:=by rw [<- D];simp [World.setCell]):p:=h
def wH (h:p:=by exact λq=>by have:=q.1;omega):p:=h
def vL (h:p:=by show 1<=_;unfold Big;omega):p:=h
def mX (h:p:=by simp [results,results63,go_sem,ak,ao,al,an]):p:=h
def mY (h:p:=by exact λk q1 q2=>by have h1:=q1.2.1;have h2:=q2.1;omega):p:=h
def bO (h:p:=by exact λj q=>q.elim (λq=>⟨q.1,by omega,q.2.2⟩) (λq=>⟨by have:=q.1;omega,q.2,by have:=q.1;omega,by have:=q.1;have:=q.2;omega⟩)):p:=h
def qP (h:p:=by match c1,G with | [D],_=>exact ⟨_,rfl⟩):p:=h
def bP (h:p:=by rw [<- Srt.zZ (key:=key) ul,<- Srt.zZ (key:=key) hl];show (!decide (Srt.zJ key xs (N - 1 - h) < Srt.zJ key xs h))=_;rw [hu]):p:=h
def sI (h:p:=by rw [<- G];exact jM (jM (kG rfl))):p:=h
def bU (h:p:=by exact λk q h=>by first|(have h1:=sA k q;have h2:=h1.1;have h3:=h1.2;omega)|(have h1:=sB k q;have h2:=h1.1;have h3:=h1.2;omega)):p:=h
def vH (h:p:=by exact λj q=>⟨q.1,by omega,q.2.2⟩):p:=h
def bE0 (h:p:=by simpa using hc):p:=h
def sU (h:p:=by exact λk q=>⟨q.1,by have:=q.2;omega⟩):p:=h
def gX (h:p:=by simpa using congrArg (λo=>o.map (λz=>z.2.1)) kAm):p:=h
def gY (h:p:=by simpa using congrArg (λo=>o.map (λz=>z.2.1)) kDa):p:=h
def rJ (h:p:=by rw [L.out.1];simp;unfold Big;omega):p:=h
def tO (h:p:=by rw [<- J];exact bR.alloc nL _):p:=h
def bB5 (h:p:=by have:=o.size;omega):p:=h
def bE1 (h:p:=by simpa using h3):p:=h
def qF (h:p:=by exact λk q1 q2=>by have:=q1.2;have:=q2.1;omega):p:=h
def qG (h:p:=by rw [getD_replicate_false] at hl;cases hl):p:=h
def qH (h:p:=by have:=b0.2.2;unfold maxLen at this;omega):p:=h
def bX (h:p:=by exact λj q=>q.elim (λq=>⟨q.1,by have:=q.2.1;omega,q.2.2⟩) (λq=>⟨by have:=q.1;omega,q.2,by have:=q.1;omega⟩)):p:=h
def vW (h:p:=by rw [ba];exact kD.kEg b0):p:=h
def bC8 (h:p:=by have:=N.out;omega):p:=h
def fG (h:p:=by rw [L.out];first | rfl|(simp;done)|(rw [Bool.eq_iff_iff];simp;omega)):p:=h
def fI (h:p:=by simp [results,results178,go_sem,au,ao,aw,an,be,a9,bd,bb,bz,br]):p:=h
def cB (h:p:=by have h:=kZd ho.out;rwa [show kEw (U,(xc,xe),x2,x3,x4,x5,x6) ((q0,q1,q2,q3)).1 f=fs from el.out] at h):p:=h
def bE2 (h:p:=by simpa using hk):p:=h
def wX (h:p:=by rw [h] at hr;cases hr):p:=h
def gG (h:p:=by exact λj q=>⟨by have:=q.1;omega,by have:=q.2;omega,by have:=q.2;omega⟩):p:=h
def bB6 (h:p:=by have:=HM.out;omega):p:=h
def cK (h:p:=by exact λj h1 h2=>by have p1:=h1.1;have p2:=h1.2;simp (discharger:=(simp;omega)) only [heap_setCell_other]):p:=h
def cO (h:p:=by rw [L.out];have:=a1.out;have:=HK.out;have:=HR.out;simp only [List.length_append];unfold Big;omega):p:=h
def nR (h:p:=by have q:=kD.zN ai.out hkl;rw [a5] at q;exact q):p:=h
def bF7 (h:p:=by simp [go_sem]):p:=h
def nY (h:p:=by have q:=kD.zN ai.out aj;rw [a1] at q;exact q):p:=h
def gL (h:p:=by simp [results,results15,go_sem,ak,al,ao,an,az,ay,a7,a6]):p:=h
def rM (h:p:=by exact λq=>by simp at q;simpa using hne q):p:=h
def pI (h:p:=by simp [results,results203,go_sem,K2,F2]):p:=h
def pJ (h:p:=by simp [results,results187,go_sem,K2,F2]):p:=h
def tY (h:p:=by rw [IntKind.wrap_i64];omega):p:=h
def dC (h:p:=by exact λj q=>by rcases q with q | q | q <;> (have q1:=q.1;have q2:=q.2;(try have q3:=q2.1);omega)):p:=h
def dH (h:p:=by simp [results,results131,go_sem,R0,F0,R1,F1,R2,F2,R3,F3,R4,F4,R5,F5,R6,F6,R7,F7]):p:=h
def qI (h:p:=by exact λk q=>by have h1:=q.1;have h2:=q.2;omega):p:=h
def bF8 (h:p:=by simpa using q):p:=h
def qJ (h:p:=by exact λj h1 h2=>by have:=h1.2;have:=h2.1;omega):p:=h
def vM (h:p:=by rw [Srt.kAw];exact HL.out):p:=h
def dI (h:p:=by exact λj hj=>hj.elim .inl (λq=>.inr (λp=>by have:=p.2;have:=q.1;simp at this;omega))):p:=h
def bC9 (h:p:=by have:=J.out;omega):p:=h
def sV (h:p:=by first|(simp;done)|(simp;omega)):p:=h
def vT (h:p:=by exact λq=>D (by simpa using q)):p:=h
def qQ (h:p:=by exact λj q=>⟨q.1,by have:=q.2.1;omega,q.2.2⟩):p:=h
def bE3 (h:p:=by simpa using bl):p:=h
def bE4 (h:p:=by simpa using hp):p:=h
def dM (h:p:=by show (xc,kLe xc (kEx y0 xe)++[((y0,y1,y2,y3,y4),t)])=_;rw [HK.out,db.out,HZ.out]):p:=h
def qX (h:p:=by exact λj hj=>by have:=(ak.out j hj).1;omega):p:=h
def dO (h:p:=by rw [ByteArray.size_append];have:({ data:=#[47] }:ByteArray).size=1:=rfl;omega):p:=h
def mQ (h:p:=by simp [results,results133,go_sem,au,ao,aw,an]):p:=h
def wI (h:p:=by rw [o];split <;> omega):p:=h
def bB7 (h:p:=by have:=a1.out;omega):p:=h
def rD (h:p:=by rw [<- bn,Nat.mul_comm];exact bj.out):p:=h
def rO (h:p:=by rw [List.length_append];exact hlen):p:=h
def dU (h:p:=by exact λj=>by have:=ho (j + 1);simpa [Nat.add_assoc,Nat.add_comm 1 j] using this):p:=h
def dV (h:p:=by exact λi=>by have:=ho (i + 1);simpa [Nat.add_assoc,Nat.add_comm 1 i] using this):p:=h
def dY (h:p:=by simpa only [Bool.and_eq_true,decide_eq_true_eq,Bool.not_eq_true'] using L):p:=h
def dZ (h:p:=by exact λj h1 h2=>by have p:=h1.2;have q:=h2.1;have p2:=h1.1;have q2:=h2.2;omega):p:=h
def nN (h:p:=by exact λj hj=>⟨by have:=hj.1;simp at this;omega,hj.2⟩):p:=h
def nO (h:p:=by exact λk q h=>by have h1:=q.2.1;have h2:=q.2.2;omega):p:=h
def fB (h:p:=by exact λk q=>by rcases q with q | q;exact q;exact ⟨by omega,by omega,by omega⟩):p:=h
def rU (h:p:=by exact λk hk=>⟨by have:=hk.1;omega,hk.2⟩):p:=h
def bE5 (h:p:=by simpa using hz):p:=h
def rV (h:p:=by rw [af.out,<- an.out];exact HF.out):p:=h
def rW (h:p:=by first | exact ad | simpa using ad):p:=h
def rX (h:p:=by first | exact an | simpa using an):p:=h
def fD (h:p:=by exact λk q=>⟨by have:=q.1.1;omega,by have:=q.1.2;omega,by have:=q.1.1;omega⟩):p:=h
def sD (h:p:=by rw [L.out];simp;unfold Big;omega):p:=h
def sF (h:p:=by rw [a5];exact kD.cells3 aq bq bp):p:=h
def bD1 (h:p:=by exact λk q h=>by omega):p:=h
def fJ (h:p:=by simp [results,results132,go_sem,ak,al,ao,an,az,ay,a7,a6,bp,bn]):p:=h
def fK (h:p:=by simp [results,results108,go_sem,R0,F0,R1,F1,R2,F2,R3,F3,R4,F4]):p:=h
def fM (h:p:=by have h2:=kAh (p:=λz=>!(z==ex)) (l:=F) (k:=k) hk;unfold Big;omega):p:=h
def sJ (h:p:=by (try simp only);rw [ja h,q];rfl):p:=h
def sK (h:p:=by first | exact O | simpa using O):p:=h
def fO (h:p:=by rw [hy,bc.out];split <;> first | rfl | exact (Srt.kPc _ _ _ _).symm):p:=h
def sM (h:p:=by have:=List.mem_range.1 hj;omega):p:=h
def sN (h:p:=by rw [a1];exact kD.cells3 J br bt):p:=h
def fT (h:p:=by simp [results,results40,go_sem,R0,F0,R1,F1,R2,F2,R3,F3,R4,F4]):p:=h
def fU (h:p:=by simp [results,results24,go_sem,R0,F0,R1,F1,R2,F2,R3,F3,R4,F4]):p:=h
def fV (h:p:=by simp [results,results83,go_sem,R0,F0,R1,F1,R2,F2,R3,F3,R4,F4]):p:=h
def fZ (h:p:=by rw [hu];split <;> first | exact av.out|(rw [Srt.kAc];exact av.out)):p:=h
def pX (h:p:=by rw [L.out,List.length_append,<- ei.out];rfl):p:=h
def pY (h:p:=by simp [results,results68,go_sem,KR,FR]):p:=h
def sW (h:p:=by exact λk h=>⟨h.1,by have:=h.2;omega⟩):p:=h
def sZ (h:p:=by exact λj q=>⟨q.1,by have:=q.2;omega⟩):p:=h
def gH (h:p:=by (first | rw [kSf hN] | rw [kSg hN]);first | rfl|(rw [E.out];rfl)):p:=h
def gI (h:p:=by exact λj q=>⟨by have:=q.1;omega,by have:=q.2;omega,by have:=q.1;omega⟩):p:=h
def gJ (h:p:=by exact λj q=>by rcases q with q | q | q <;> (have:=q.1;have:=q.2;omega)):p:=h
def bB8 (h:p:=by rw [<- G];exact sT2):p:=h
def bB9 (h:p:=by simpa using hB.1.1):p:=h
def tH (h:p:=by rw [<- ab];exact bR.alloc nL _):p:=h
def bE6 (h:p:=by simpa using h1):p:=h
def qL (h:p:=by simp only [Nat.min_def];split <;> omega):p:=h
def gM (h:p:=by simp [results,results45,go_sem,au,ao,aw,an,be,a9,bd,bb]):p:=h
def gN (h:p:=by simp [results,results28,go_sem,au,ao,aw,an,be,a9,bd,bb]):p:=h
def gP (h:p:=by simp [results,results67,go_sem,ak,ao,az,a7,al,an,ay,a6]):p:=h
def wY (h:p:=by rw [<- G];exact kI B 1):p:=h
def wZ (h:p:=by rw [<- G];exact kI B 0):p:=h
def qR (h:p:=by exact λk q=>by rcases q with q | q <;> omega):p:=h
def qU (h:p:=by match c2,O with | [L],_=>exact ⟨_,rfl⟩):p:=h
def tZ (h:p:=by rw [List.length_take];omega):p:=h
def gT (h:p:=by exact λj hj=>hj.elim .inl (λh=>.inr ⟨by have:=h.1;omega,h.2⟩)):p:=h
def vI (h:p:=by exact λi hi=>by have:=hi.1;omega):p:=h
def gU (h:p:=by have h1:=kAh (p:=kKr n l) (l:=l) (k:=k) hk;rw [kHk];omega):p:=h
def qZ (h:p:=by exact λk hk=>⟨.inl hk.1,λh=>by cases h⟩):p:=h
def rA (h:p:=by exact λq=>by rcases q with q | q <;> omega):p:=h
def gV (h:p:=by exact λj q r=>by have:=q.2.1;have:=q.2.2.1;have:=q.2.2.2;omega):p:=h
def vN (h:p:=by exact λy hy=>h y (by simp [hy])):p:=h
def rE (h:p:=by exact λk hk=>by have:=E.2.size.size;omega):p:=h
def rF (h:p:=by rw [ByteArray.size_append,dp];omega):p:=h
def bB0 (h:p:=by rw [L.out];exact bc):p:=h
def rG (h:p:=by rw [L.out];unfold kEu;simp [hg,hne]):p:=h
def vO (h:p:=by rw [Srt.kCv];exact HL.out):p:=h
def vP (h:p:=by rw [Srt.kCy];exact HL.out):p:=h
def gZ (h:p:=by simp only [List.size_toArray,List.length_append];omega):p:=h
def mD (h:p:=by show (kLf l n fs).length<=Big;rw [kNg];unfold Big;omega):p:=h
def mE (h:p:=by exact λj hj=>⟨by have:=hj.1;omega,by have:=hj.2;simp;omega⟩):p:=h
def mF (h:p:=by exact λk q=>⟨by have:=q.1;omega,by have:=q.2.1;omega,q.2.2⟩):p:=h
def bC0 (h:p:=by have:=HN.out;omega):p:=h
def mH (h:p:=by rw [g1,List.append_assoc,List.take_append_drop,<- g2]):p:=h
def mI (h:p:=by simp only [ByteArray.size_extract];unfold Big;omega):p:=h
def vX (h:p:=by simp [Act.eval,Act.put]):p:=h
def bG4 (h:p:=by rw [HE.out]):p:=h
def vY (h:p:=by simpa using (ho 0).symm):p:=h
def vZ (h:p:=by rw [a5];exact kD.kMw aq):p:=h
def wB (h:p:=by rw [ai];split <;> omega):p:=h
def mJ (h:p:=by rw [<- Srt.zZ (key:=key) hl,<- Srt.zZ (key:=key) al]):p:=h
def mK (h:p:=by rw [<- Srt.zZ (key:=key) ml,<- Srt.zZ (key:=key) hl]):p:=h
def mR (h:p:=by exact λy hy=>by rw [List.mem_singleton.1 hy];exact hx.2):p:=h
def mU (h:p:=by simp [results,results176,go_sem,M0,M1,F0,F1]):p:=h
def bF9 (h:p:=by rw [<- D];simp):p:=h
def wJ (h:p:=by rw [<- G];exact kI BO 1):p:=h
def sO (h:p:=by have:=aa.out;simp at this;omega):p:=h
def wK (h:p:=by rw [<- G];exact kI BO 3):p:=h
def wM (h:p:=by rw [<- G];exact kI BO 8):p:=h
def wO (h:p:=by rw [a1];exact kD.kMw J):p:=h
def mZ (h:p:=by intro y hy;rw [List.mem_singleton.1 hy];exact hb):p:=h
def nA (h:p:=by simp [results,results41,go_sem,au,ao,aw,an]):p:=h
def nC (h:p:=by simp [results,results25,go_sem,au,ao,aw,an]):p:=h
def bG8 (h:p:=by simp [Big]):p:=h
def bA0 (h:p:=by rw [<- D];exact kG rfl):p:=h
def bA1 (h:p:=by simp;unfold Big;omega):p:=h
def bA2 (h:p:=by rw [L.out.1];exact bc):p:=h
def bA3 (h:p:=by rw [List.take_length]):p:=h
def nE (h:p:=by exact λq hq=>⟨by have:=hq.1;have:=EG.size;omega,hq.2⟩):p:=h
def nG (h:p:=by exact λj hj=>⟨hj.1,by have:=hj.2;have:=ab.size;omega⟩):p:=h
def nH (h:p:=by exact λj hj=>⟨hj.1,by have:=hj.2;have:=ap.size;omega⟩):p:=h
def nI (h:p:=by exact λj hj=>⟨hj.1,by have:=hj.2;have:=br.size;omega⟩):p:=h
def tJ (h:p:=by rw [ae.out,bx.out];simp;omega):p:=h
def nP (h:p:=by exact λj hj=>⟨by have:=hj.1;have:=o.size;omega,hj.2⟩):p:=h
def nQ (h:p:=by exact λj q=>⟨by omega,by simp [World.setCell];omega⟩):p:=h
def bA5 (h:p:=by rw [<- Y];exact kFl _):p:=h
def bA6 (h:p:=by have:=E.1.size;omega):p:=h
def bA7 (h:p:=by simpa [Big] using hb):p:=h
def nU (h:p:=by exact λk q=>⟨by have:=q.1;omega,by have:=q.2;omega⟩):p:=h
def nV (h:p:=by rw [U.out];simp;have:=a1.out;unfold Big;omega):p:=h
def tT (h:p:=by show 1<=_;unfold maxLen;omega):p:=h
def bG9 (h:p:=by simp [hp]):p:=h
def nZ (h:p:=by have:=kD.kCr (by decide) aw;unfold Big;omega):p:=h
def pE (h:p:=by rw [<- R];unfold World.frozen?;simp only [e1]):p:=h
def pF (h:p:=by have q:=kD.zN R.out hkl;rw [a1] at q;exact q):p:=h
def pG (h:p:=by have q:=kD.zN I.out hkl;rw [a1] at q;exact q):p:=h
def pK (h:p:=by exact λj hj hn=>b7.out j (by have:=hj.2;omega) hn):p:=h
def pM (h:p:=by rw [HQ.out.1];have:=bg.out;unfold Big;omega):p:=h
def vB (h:p:=by exact λx hx=>hlt x (by simp [hx])):p:=h
def pO (h:p:=by simp [results,results112,go_sem,R0,F0]):p:=h
def pQ (h:p:=by obtain ⟨a,c,h⟩:=kD.kQ.yw hQ;exact ⟨a,_,c,h⟩):p:=h
def bB1 (h:p:=by rw [inv.size];omega):p:=h
def pR (h:p:=by have q:=kD.zN R.out aj;rw [a5] at q;exact q):p:=h
def pU (h:p:=by have q:=kD.zN I.out aj;rw [a5] at q;exact q):p:=h
def bE7 (h:p:=by simpa using hf):p:=h
def bE8 (h:p:=by simpa using ht):p:=h
def bE9 (h:p:=by simpa using h0):p:=h
def bF0 (h:p:=by rw [hB.1];simp):p:=h
def bF1 (h:p:=by simpa using hv):p:=h
def qA (h:p:=by simp [results,results66,go_sem,R0,F0]):p:=h
def qB (h:p:=by exact λk hk=>by rcases hk with hk | hk <;> omega):p:=h
def qC (h:p:=by simp [results,results54,go_sem,R0,F0]):p:=h
def vJ (h:p:=by rw [<- J];exact jM (kG rfl)):p:=h
def vK (h:p:=by exact λk q=>by have:=q.1.1;omega):p:=h
def bC1 (h:p:=by rw [<- G];exact sT8):p:=h
def bC2 (h:p:=by rw [<- G];exact sT4):p:=h
def qD (h:p:=by rw [Nat.mul_comm];rwa [Nat.pow_succ] at h):p:=h
def bC4 (h:p:=by have:=av.out;omega):p:=h
def bC5 (h:p:=by have:=b9.out;omega):p:=h
def qM (h:p:=by match c3,l3 with | [W],_=>exact ⟨_,rfl⟩):p:=h
def vU (h:p:=by exact λq=>by have:=q.1.1;omega):p:=h
def qV (h:p:=by exact λj q r=>by have:=q.2.1;have:=r.1;omega):p:=h
def bH0 (h:p:=by simp [hy]):p:=h
def bD2 (h:p:=by simpa using hlen):p:=h
def wE (h:p:=by rw [L.out];exact ei.out):p:=h
def bD3 (h:p:=by simp at hk;omega):p:=h
def bD4 (h:p:=by simp at aw;omega):p:=h
def wP (h:p:=by rw [<- G];exact kI BO 7):p:=h
def wR (h:p:=by rw [<- G];exact kI BO 4):p:=h
def bG5 (h:p:=by rw [HD.out]):p:=h
def rP (h:p:=by exact λj q=>⟨by omega,by omega,by omega⟩):p:=h
def bF2 (h:p:=by simpa using hr):p:=h
def bF3 (h:p:=by simpa using gi):p:=h
def bG0 (h:p:=by simpa using o):p:=h
def bG1 (h:p:=by simpa using D):p:=h
def bH1 (h:p:=by rw [<- h4]):p:=h
def bC6 (h:p:=by have:=au.out;omega):p:=h
def bC7 (h:p:=by have:=aa.out;omega):p:=h
def bG2 (h:p:=by rw [<- Y];rfl):p:=h
def bG3 (h:p:=by exact λq=>by omega):p:=h
def xE (h:p:=by
 have hb:Qb W v:=(by rw [<- G];exact bR.alloc nL _);have BB:Qr v W.heap.size #[.slice none 0 0,.slice none 0 0,.slice none 0 0,Qn 0,Qn 0] 70:=(by rw [<- G];exact kG rfl);have zv:W.heap.size + 1<=v.heap.size:=(by rw [<- G];simp);exact And.intro hb (And.intro BB zv)):p:=h
def xG (h:p:=by
 have R0:=kE (b:=w.heap.size + 2) F (j:=0) rfl;have F0:=frozen_of_row V (w.heap.size + 2) 0 _ _ F;have R1:=kE (b:=w.heap.size + 2) F (j:=1) rfl;have F1:=frozen_of_row V (w.heap.size + 2) 1 _ _ F;have R2:=kE (b:=w.heap.size + 2) F (j:=2) rfl;have F2:=frozen_of_row V (w.heap.size + 2) 2 _ _ F;have R3:=kE (b:=w.heap.size + 2) F (j:=3) rfl;have F3:=frozen_of_row V (w.heap.size + 2) 3 _ _ F;have R4:=kE (b:=w.heap.size + 2) F (j:=4) rfl;have F4:=frozen_of_row V (w.heap.size + 2) 4 _ _ F;exact And.intro R0 (And.intro F0 (And.intro R1 (And.intro F1 (And.intro R2 (And.intro F2 (And.intro R3 (And.intro F3 (And.intro R4 F4))))))))):p:=h
def xH (h:p:=by
 replace BA:=kC BA hb;replace BV:=kC BV hb;replace BB:=kC BB hb;replace BC:=kC BC hb;replace XO:=yD (XO.out.below hb);replace J:=yD (J.out.below hb);replace AO:=yD (AO.out.below hb);replace NO:=yD (NO.out.below hb);replace OO:=yD (OO.out.below hb);replace VO:=yD (VO.out.below hb);replace BO:=yD (BO.out.below hb);replace PO:=yD (PO.out.below hb);replace CO:=yD (CO.out.below hb);replace o:=(tQ o hb);exact And.intro BA (And.intro BV (And.intro BB (And.intro BC (And.intro XO (And.intro J (And.intro AO (And.intro NO (And.intro OO (And.intro VO (And.intro BO (And.intro PO (And.intro CO o))))))))))))):p:=h
def xI (h:p:=by
 replace hc:=hc.below hb;replace J:=J.trans (Touch.of_below hb);exact And.intro hc J):p:=h
def xJ (h:p:=by
 have EB:Qb w N:=by rw [<- J];exact bI
 have K0:Qd N w 0 (.slice dx x.1.length dv):=wF;have K1:Qd N w 1 (.int .i64 x.2.1.1):=wF;have K2:Qd N w 2 (.slice dy x.2.1.2.length dw):=wF;have K3:Qd N w 3 (.slice e7 x.2.2.1.length e1):=wF;have K4:Qd N w 4 (.slice e4 x.2.2.2.1.length e0):=wF;have K5:Qd N w 5 (.slice eu x.2.2.2.2.1.length er):=wF;have K6:Qd N w 6 (.slice en x.2.2.2.2.2.1.length eh):=wF;have K7:Qd N w 7 (.int .i64 x.2.2.2.2.2.2):=wF;exact And.intro EB (And.intro K0 (And.intro K1 (And.intro K2 (And.intro K3 (And.intro K4 (And.intro K5 (And.intro K6 K7)))))))):p:=h
def xK (h:p:=by
 replace I:=yD (I.out.touch D qW);replace J:=J.trans D;exact And.intro I J):p:=h
def xL (h:p:=by
 have R5:=E.1.kC R bH3;have N:=J.trans E.1;have ah:=E.2;have aj:=yD (I.out.touch E.1 qW);have al:wS1.frozen? ⟨w.heap.size,0,none⟩=false:=frozen_of_row wS1 w.heap.size 0 _ _ R5;have an:wS1.frozen? ⟨w.heap.size,1,none⟩=false:=frozen_of_row wS1 w.heap.size 1 _ _ R5;have ay:wS1.frozen? ⟨w.heap.size,2,none⟩=false:=frozen_of_row wS1 w.heap.size 2 _ _ R5;have a6:wS1.frozen? ⟨w.heap.size,3,none⟩=false:=frozen_of_row wS1 w.heap.size 3 _ _ R5;have ak:=kE R5 (j:=0) (v:=.slice none 0 0) rfl;have ao:=kE R5 (j:=1) (v:=.int .i64 0) rfl;have az:=kE R5 (j:=2) (v:=.int .i64 0) rfl;have a7:=kE R5 (j:=3) (v:=.int .i64 0) rfl;exact And.intro R5 (And.intro N (And.intro ah (And.intro aj (And.intro al (And.intro an (And.intro ay (And.intro a6 (And.intro ak (And.intro ao (And.intro az a7))))))))))):p:=h
def xM (h:p:=by
 replace BX:=kC BX hb;replace BQ:=kC BQ hb;replace X:=kC X hb;replace BO:=kC BO hb;exact And.intro BX (And.intro BQ (And.intro X BO))):p:=h
def xN (h:p:=by
 have cl:=Int.natCast_nonneg a;have c4:(a:Int) < m:=bH3;have c3:(m:Int) < z:=bH3;have cm:(z:Int)<=16777216:=bH3;have de:(z:Int)<=n:=bH3;have L:(m:Int) - (a:Int)=((m - a:Nat):Int):=bH3;have a9:(z:Int) - (m:Int)=((z - m:Nat):Int):=bH3;exact And.intro cl (And.intro c4 (And.intro c3 (And.intro cm (And.intro de (And.intro L a9)))))):p:=h
def xO (h:p:=by
 have A0:=(o.cell (p:=⟨w.heap.size,0,none⟩) vC).trans am;have A1:=(o.cell (p:=⟨w.heap.size,1,none⟩) vC).trans aj;have A2:=(o.cell (p:=⟨w.heap.size,2,none⟩) vC).trans ak;have EW:=EB.trans (o.mono bH3);have U:=cL EW C0;have B1:=cL EW C1;have X:=cL EW C2;exact And.intro A0 (And.intro A1 (And.intro A2 (And.intro EW (And.intro U (And.intro B1 X)))))):p:=h
def xP (h:p:=by
 replace HL:Hid ((kD.slice 9 kD.str).own v [.slice (some ⟨X,0,none⟩) 3 3] [{ data:=#[47,107,101,121,47,97] },{ data:=#[47,107,101,121,47,98] },{ data:=#[47,97,47,107,101,121] }] (λk=>k=X)):=yD (HL.out.touch D bD1);replace h6:wb.heap.size<=X/\X < v.heap.size:=⟨h6.1,Nat.lt_of_lt_of_le h6.2 D.size⟩;exact And.intro HL h6):p:=h
def xQ (h:p:=by
 replace hc:=hc.below U;have J:Touch (λk=>k=p) w w1:=Touch.of_below U;exact And.intro hc J):p:=h
def xR (h:p:=by
 replace HL:Hid ((kD.slice 9 kD.str).own v [.slice (some ⟨X,0,none⟩) 3 3] [{ data:=#[47,107,101,121,47,97] },{ data:=#[47,107,101,121,47,98] },{ data:=#[47,97,47,107,101,121] }] (λk=>k=X)):=yD (HL.out.below hb);replace h6:wb.heap.size<=X/\X < v.heap.size:=⟨h6.1,Nat.lt_of_lt_of_le h6.2 hb.size⟩;have N:wb.heap.size<=b/\b < v.heap.size:=⟨by omega,by omega⟩;exact And.intro HL (And.intro h6 N)):p:=h
def xS (h:p:=by
 have R0:Qc V (w.heap.size + 1) 0 (.slice none 0 0):=(o.cell (p:=⟨w.heap.size + 1,0,none⟩) bH4).trans bF7;have F0:V.frozen? ⟨w.heap.size + 1,0,none⟩=false:=(o.frozen (p:=⟨w.heap.size + 1,0,none⟩) bH4).trans bF7;exact And.intro R0 F0):p:=h
def xU (h:p:=by
 have EC:Qb wV wC:=tL;have aw:wV.heap.size<=wC.heap.size:=EC.size;have bm:Qd wC wV 0 (.int .i64 f):=wG;have be:Qd wC wV 1 (.int .i64 F):=wG;have a9:Qd wC wV 2 (.int .i64 y3):=wG;have E6:=(tQ E5 EC);have ao:=yD (aj.out.below EC);replace af:=cL EC af;exact And.intro EC (And.intro aw (And.intro bm (And.intro be (And.intro a9 (And.intro E6 (And.intro ao af))))))):p:=h
def xV (h:p:=by
 replace I:=yD (I.out.below hb);replace o:=(tQ o hb);exact And.intro I o):p:=h
def xW (h:p:=by
 have hz:((a.length:Int) != b.length)=false:=bG7;have bo:(a.length != b.length)=false:=bD8;exact And.intro hz bo):p:=h
def xX (h:p:=by
 replace af:=af.ji D nJ;replace BN:=D.kC BN bH3;replace BT:=D.kC BT bH3;replace I:=yD (I.out.touch D pV);replace L:=yD (L.out.touch D pV);exact And.intro af (And.intro BN (And.intro BT (And.intro I L)))):p:=h
def xY (h:p:=by
 replace XO:=yD (XO.out.below hb);replace J:=yD (J.out.below hb);replace AO:=yD (AO.out.below hb);replace NO:=yD (NO.out.below hb);replace OO:=yD (OO.out.below hb);exact And.intro XO (And.intro J (And.intro AO (And.intro NO OO)))):p:=h
def xZ (h:p:=by
 have hb:Below W.heap.size W v:=(by rw [<- G];exact bR.alloc nL _);have BB:v.heap[W.heap.size]?=some (.cells #[.slice none 0 0,.slice none 0 0,.slice none 0 0,.int .i64 0,.int .i64 0] 70 (0,0)):=(by rw [<- G];exact kG rfl);have zv:W.heap.size + 1<=v.heap.size:=(by rw [<- G];simp);exact And.intro hb (And.intro BB zv)):p:=h
def y5 (h:p:=by
 have X:=kD.yX HL.out hlt;have bx:=List.take_succ_eq_append_getElem hlt;exact And.intro X bx):p:=h
def y7 (h:p:=by
 have a1:=yL (T:=λk=>S k/\k < w.heap.size) (yI (w':=w.drew.alloc (.cells (cs.toArray++cells.toArray++Builtin.zeroCells z.cells (grownCap w (xs.length + m) cap e - (xs.length + m))) e)) (zb g7) (λk hk=>heap_alloc_old w.drew _ hk.2)) (λk hk=>⟨hk.1.1,hk.2⟩);have a2:=yL (T:=λk=>T k/\k < w.heap.size) (yI (w':=w.drew.alloc (.cells (cs.toArray++cells.toArray++Builtin.zeroCells z.cells (grownCap w (xs.length + m) cap e - (xs.length + m))) e)) (zb hrow) (λk hk=>heap_alloc_old w.drew _ hk.2)) (λk hk=>hk);exact And.intro a1 a2):p:=h
def y8 (h:p:=by
 have EB:Qb w N:=by rw [<- J];exact bI
 have D:Qd N w 0 (.slice X (n).length I):=wF;exact And.intro EB D):p:=h
def y9 (h:p:=by
 replace hc:=hc.touch hT bH3 bD5;replace af:=af.ji hT bD7;exact And.intro hc af):p:=h
def z8 (h:p:=by
 have M0:=kE (b:=w.heap.size + 1) F (j:=0) rfl;have F0:=frozen_of_row D (w.heap.size + 1) 0 _ _ F;have M1:=kE (b:=w.heap.size + 1) F (j:=1) rfl;have F1:=frozen_of_row D (w.heap.size + 1) 1 _ _ F;have M2:=kE (b:=w.heap.size + 1) F (j:=2) rfl;have F2:=frozen_of_row D (w.heap.size + 1) 2 _ _ F;have M3:=kE (b:=w.heap.size + 1) F (j:=3) rfl;have F3:=frozen_of_row D (w.heap.size + 1) 3 _ _ F;have M4:=kE (b:=w.heap.size + 1) F (j:=4) rfl;have F4:=frozen_of_row D (w.heap.size + 1) 4 _ _ F;have M5:=kE (b:=w.heap.size + 1) F (j:=5) rfl;have F5:=frozen_of_row D (w.heap.size + 1) 5 _ _ F;have M6:=kE (b:=w.heap.size + 1) F (j:=6) rfl;have F6:=frozen_of_row D (w.heap.size + 1) 6 _ _ F;exact And.intro M0 (And.intro F0 (And.intro M1 (And.intro F1 (And.intro M2 (And.intro F2 (And.intro M3 (And.intro F3 (And.intro M4 (And.intro F4 (And.intro M5 (And.intro F5 (And.intro M6 F6))))))))))))):p:=h
def A7 (h:p:=by
 have N:wb.heap.size<=b/\b < v.heap.size:=⟨by omega,by omega⟩;replace E:=And.intro (E.1.trans (Touch.of_below hb)) (E.2.below hb);exact And.intro N E):p:=h
def A8 (h:p:=by
 replace BB:=D.kC BB bH3;replace N:wb.heap.size<=b/\b < v.heap.size:=⟨N.1,Nat.lt_of_lt_of_le N.2 D.size⟩;exact And.intro BB N):p:=h
def A9 (h:p:=by
 replace R:=kC R ad;replace I:=yD (I.out.below ad);replace hc:=hc.below ad;replace J:=J.trans (Touch.of_below ad);exact And.intro R (And.intro I (And.intro hc J))):p:=h
def AA (h:p:=by
 replace D:=(Touch.of_below (S:=λk=>k=p) (bR.alloc nL _)).trans D;have b3:=D.size;exact And.intro D b3):p:=h
def AB (h:p:=by
 have HD:Hid (decide (x=y)=false->decide (a=b)=false):=yD rM;have HX:Hid (decide (x=y)=true->a.take (k + 1)=b.take (k + 1)):=yD vT;exact And.intro HD HX):p:=h
def AC (h:p:=by
 have o:Qb w w1:=by rw [<- G];exact bI
 have BX:Qr w1 w.heap.size #[Qs dx U dv,Qn xc,Qs dy xe dw,Qs e7 x2 e1,Qs e4 x3 e0,Qs eu x4 er,Qs en x5 eh,Qn x6] 33:=sI;have BQ:Qr w1 (w.heap.size + 1) #[Qs d5 q0 ed,Qn q1,Qn q2,Qn q3] 38:=by rw [<- G];exact jM (kG bH4)
 have X:Qr w1 (w.heap.size + 2) #[.slice none 0 0,Qn 0,.slice none 0 0,.slice none 0 0,.slice none 0 0,.slice none 0 0,.slice none 0 0,Qn 0,.slice none 0 0] 43:=by rw [<- G];exact kG bH4
 have bo:w.heap.size + 3<=w1.heap.size:=bF4;exact And.intro o (And.intro BX (And.intro BQ (And.intro X bo)))):p:=h
def AJ (h:p:=by
 have dc:((p:Int) + (q:Int)) / 2=(h:Int):=bH3;have dg:p<=h:=bH3;have c7:h < q:=bH3;have db:=Int.natCast_nonneg h;exact And.intro dc (And.intro dg (And.intro c7 db))):p:=h
def AL (h:p:=by
 have L:=yD (lk_no (idxOf_miss (p:=kLo n t) hlt HW.out));have EG:=(tQ EB o);have F:=XR.out;have du:¬ (k:Int) < l.length:=bH3;have R0:=kE (b:=w.heap.size + 2) F (j:=0) rfl;have F0:=frozen_of_row wr (w.heap.size + 2) 0 _ _ F;have R1:=kE (b:=w.heap.size + 2) F (j:=1) rfl;have F1:=frozen_of_row wr (w.heap.size + 2) 1 _ _ F;have R2:=kE (b:=w.heap.size + 2) F (j:=2) rfl;have F2:=frozen_of_row wr (w.heap.size + 2) 2 _ _ F;have R3:=kE (b:=w.heap.size + 2) F (j:=3) rfl;have F3:=frozen_of_row wr (w.heap.size + 2) 3 _ _ F;have R4:=kE (b:=w.heap.size + 2) F (j:=4) rfl;have F4:=frozen_of_row wr (w.heap.size + 2) 4 _ _ F;exact And.intro L (And.intro EG (And.intro F (And.intro du (And.intro R0 (And.intro F0 (And.intro R1 (And.intro F1 (And.intro R2 (And.intro F2 (And.intro R3 (And.intro F3 (And.intro R4 F4))))))))))))):p:=h
def AP (h:p:=by
 have am:Hid ((kD.slice 70 jI).rd w [Qs dx x.1 dv] x.1):=yD ⟨Z,q0⟩;have al:Hid (kT.rd w [Qn x.2.1.1,Qs dy x.2.1.2 dw] x.2.1):=yD ⟨ba,q1⟩;have X:Hid ((kD.slice 93 kH).rd w [Qs e7 x.2.2.1 e1] x.2.2.1):=yD ⟨bj,q2⟩;have an:Hid ((kD.slice 121 jD).rd w [Qs e4 x.2.2.2.1 e0] x.2.2.2.1):=yD ⟨bu,q3⟩;have ak:Hid ((kD.slice 144 kY).rd w [Qs eu x.2.2.2.2.1 er] x.2.2.2.2.1):=yD ⟨b2,q4⟩;have aa:Hid ((kD.slice 166 kR).rd w [Qs en x.2.2.2.2.2.1 eh] x.2.2.2.2.2.1):=yD ⟨dg,q5⟩;exact And.intro am (And.intro al (And.intro X (And.intro an (And.intro ak aa))))):p:=h
def AQ (h:p:=by
 have hb:Qb t v:=(by rw [<- G];exact bR.alloc nL _);have BB:Qr v t.heap.size #[.slice none 0 0,.slice none 0 0,.slice none 0 0,Qn 0,Qn 0] 70:=(by rw [<- G];exact kG rfl);have zv:t.heap.size + 1<=v.heap.size:=(by rw [<- G];simp);exact And.intro hb (And.intro BB zv)):p:=h
def AR (h:p:=by
 have M0:=kE XV.out (j:=0) (v:=.int .i64 c) rfl;have M1:=kE XV.out (j:=1) rfl;have R0:=kE ((o.block _ (show w.heap.size + 1 < w.heap.size + 1 + 1 by omega)).trans XR.out) (j:=0) (v:=.int .i64 0) rfl;have R1:=kE ((o.block _ (show w.heap.size + 1 < w.heap.size + 1 + 1 by omega)).trans XR.out) (j:=1) (v:=.slice none 0 0) rfl;have F0:=λj=>frozen_of_row wr (w.heap.size + 1) j _ _ ((o.block _ (show w.heap.size + 1 < w.heap.size + 1 + 1 by omega)).trans XR.out);exact And.intro M0 (And.intro M1 (And.intro R0 (And.intro R1 F0)))):p:=h
def AU (h:p:=by
 have gj:Hid ((kD.slice 93 kH).rd w [Qs e7 x2 e1] x2):=yD ⟨bj,hx.2.2.2.1⟩;have ie:Hid ((kD.slice 121 jD).rd w [Qs e4 x3 e0] x3):=yD ⟨bu,hx.2.2.2.2.1⟩;have i3:Hid (kT.rd w [Qn xc,Qs dy xe dw] (xc,xe)):=yD ⟨ba,hx.2.2.1⟩;have fw:Hid (kN.rd w [Qs d5 q0 ed] q0):=yD ⟨a4,hq.2.1⟩;have i2:Hid (Qi q1):=yD fk;have b8:Hid (∀ y∈x2,y.2.1.length<=1048576):=yD (λy hy=>(hB.2.2.1.2 y hy).2.1);have f7:x3.length<=2000000:=Nat.le_trans hB.2.2.2.1.1 bH2;have i7:x4.length<=1048576:=hB.2.2.2.2.1.1;exact And.intro gj (And.intro ie (And.intro i3 (And.intro fw (And.intro i2 (And.intro b8 (And.intro f7 i7))))))):p:=h
def AV (h:p:=by
 replace R:=D.kC R bH3;replace B:=D.kC B bH3;exact And.intro R B):p:=h
def AX (h:p:=by
 have EB:Qb w N:=by rw [<- J];exact bI
 have I:Qd N w 0 (.int .i64 r.1):=wF;have o:Qd N w 1 (.int .i64 r.2.1):=wF;have F:Qd N w 2 (.int .i64 r.2.2):=wF;exact And.intro EB (And.intro I (And.intro o F))):p:=h
def AY (h:p:=by
 have ag:Qd w3 V 0 (.slice a 0 c):=kE B rfl;have aq:w3.frozen? ⟨V.heap.size,0,none⟩=false:=frozen_of_row w3 (V.heap.size) 0 _ _ B;have GB:(World.alloc w3 (.cells #[.string { data:=#[97] }] 9)).frozen? ⟨V.heap.size,0,none⟩=false:=(frozen?_alloc_cells _ _ _ _).trans aq;have HB:(World.alloc w3 (.cells #[.string { data:=#[97] }] 9)).cell? ⟨V.heap.size,0,none⟩=some (.slice a 0 c):=kE (kC B (bR.alloc nL _)) rfl;exact And.intro ag (And.intro aq (And.intro GB HB))):p:=h
def AZ (h:p:=by
 have E1:Qb w v1:=by rw [<- D];exact (F1.setCell qO _)
 have ad:Hid (v1.heap.size=w1.heap.size):=yD tF;replace ab:=yD (kD.own.out (w':=v1) ab.out dN);exact And.intro E1 (And.intro ad ab)):p:=h
def BG (h:p:=by
 have hb:Qb W v:=(by rw [<- G];exact bR.alloc nL _);have zv:W.heap.size + 1<=v.heap.size:=(by rw [<- G];simp);exact And.intro hb zv):p:=h
def BH (h:p:=by
 have a2:=E.size;have an:=EC.size;have ax:=o.size;have Z:Qb wr _:=(tQ EC E);replace I:=yD (I.out.below Z);have aa:=(tQ o Z);exact And.intro a2 (And.intro an (And.intro ax (And.intro Z (And.intro I aa))))):p:=h
def BI (h:p:=by
 replace X:=kC X ad;replace I:=yD (I.out.below ad);replace o:=(tQ o ad);exact And.intro X (And.intro I o)):p:=h
def BJ (h:p:=by
 have EC:Qb wr wC:=tL;have aw:wC.heap.size=wr.heap.size + 1:=bF9;have M0:Qd wC wr 0 (.slice ac (U).length az):=wG;exact And.intro EC (And.intro aw M0)):p:=h
def BL (h:p:=by
 have HZ:Hid (wA.heap.size=w.heap.size + 3):=yD (by rw [<- aa];simp);have EA:Qb w wA:=by rw [<- aa];exact bI
 have XB:Hid (Qr wA w.heap.size #[Qn c,Qs la l lp] 27):=yD (by rw [<- aa];exact jM (jM (kG rfl)));have XR:Hid (Qr wA (w.heap.size + 1) #[Qn 0,.slice none 0 0] 27):=yD (by rw [<- aa];exact jM (kG bH4));have XO:Hid (Qr wA (w.heap.size + 1 + 1) #[Qn c,.slice none 0 0] 27):=yD (by rw [<- aa];exact kG bH4);exact And.intro HZ (And.intro EA (And.intro XB (And.intro XR XO)))):p:=h
def BM (h:p:=by
 have N:wz.heap.size<=b/\b < v.heap.size:=⟨by omega,by omega⟩;replace E:=And.intro (E.1.trans (Touch.of_below hb)) (E.2.below hb);exact And.intro N E):p:=h
def BP (h:p:=by
 have bv:=D.size;replace R:=D.kC R bH3;replace J:=J.trans D;exact And.intro bv (And.intro R J)):p:=h
def BR (h:p:=by
 have a1:b≠J:=λq=>ak (q ▸ h6);have bq:cs.length + tl.length=cap * 3:=by simpa using h5
 have a3:cap<=9223372036854775807:=h2;have I:Hid (∀ (W:World),kD.row kM true W (cs.take (i * 3)++(cx++cs.drop (i * 3))) (l.take i++x :: l.drop i) (λ_=>False)):=yD (λW=>kD.row_ins (w':=W) kDr h7 (Nat.le_of_lt hi) hx);have ax:Hid (∀ y∈l.take i++x :: l.drop i,kM.bdd Big y):=yD (kD.mem_ins b7 aa);exact And.intro a1 (And.intro bq (And.intro a3 (And.intro I ax)))):p:=h
def BZ (h:p:=by
 replace I:=yD (I.out.touch D qW);replace HR:=yD (HR.out.touch D qW);replace J:=J.trans D;exact And.intro I (And.intro HR J)):p:=h
def C8 (h:p:=by
 have hb:Qb w w1:=by rw [<- G];exact (bR.alloc nL _).alloc bH4 _
 have RN:Qr w1 w.heap.size #[.slice none 0 0,Qn 0,.slice none 0 0,.slice none 0 0,.slice none 0 0,.slice none 0 0,.slice none 0 0,Qn 0] 33:=vF;have RT:Qr w1 (w.heap.size + 1) #[.slice none 0 0,.slice none 0 0,.slice none 0 0,.slice none 0 0] 57:=by rw [<- G];exact kG bH4
 have bo:w.heap.size + 2<=w1.heap.size:=bF4;exact And.intro hb (And.intro RN (And.intro RT bo))):p:=h
def C9 (h:p:=by
 replace R:=L.kC R bH3;replace I:=yD (I.out.touch L qW);replace hc:=hc.touch L bH3 bD5;replace J:=J.jJ L bH3;exact And.intro R (And.intro I (And.intro hc J))):p:=h
def CB (h:p:=by
 have c6:IntKind.i64.wrap (j:Int)=j:=IntWalk.i64_in _ bH3;have bz:=Int.natCast_nonneg j;exact And.intro c6 bz):p:=h
def CE (h:p:=by
 have EF:Qb w V:=E1.trans (Below.mono (Below.trans bI af) E1.size);have I:=yD O2;have al:=E1.size;have F:=kC XR.out (Below.trans bI af);exact And.intro EF (And.intro I (And.intro al F))):p:=h
def CF (h:p:=by
 have o:Below w.heap.size w w1:=by rw [<- G];exact bI
 have BX:w1.heap[w.heap.size]?=some (.cells #[.slice b8 U.length Z,.int .i64 F,.int .i64 x2,.int .i64 x3] 38 (0,0)):=vF;have X:w1.heap[w.heap.size + 1]?=some (.cells #[.slice none 0 0,.int .i64 0,.int .i64 0,.int .i64 0] 38 (0,0)):=by rw [<- G];exact kG bH4
 have bo:w.heap.size + 2<=w1.heap.size:=bF4;exact And.intro o (And.intro BX (And.intro X bo))):p:=h
def CG (h:p:=by
 have hne:=λq=>kBp hlt ad q;have D:=λq=>zT HN.out hlt ad q;exact And.intro hne D):p:=h
def CJ (h:p:=by
 have EB:Qb w N:=by rw [<- J];exact bI
 have U:N.heap.size=w.heap.size + 3:=bF5;have K0:Qd N w 0 (.slice dx x.1.length dv):=wF;have K1:Qd N w 1 (.int .i64 x.2.1.1):=wF;have K2:Qd N w 2 (.slice dy x.2.1.2.length dw):=wF;have N0:Qc N (w.heap.size + 1) 0 (.slice an n.length au):=wF;have XR:Hid (Qr N (w.heap.size + 2) #[.slice none 0 0,.slice none 0 0,.slice none 0 0,Qn 0,Qn 0] 70):=yD tX;exact And.intro EB (And.intro U (And.intro K0 (And.intro K1 (And.intro K2 (And.intro N0 XR)))))):p:=h
def CK (h:p:=by
 have bk:z<=16777216:=bH3;have bo:z<=n:=bH3;have cw:n<=16777216:=bH3;have bf:=yD hz;exact And.intro bk (And.intro bo (And.intro cw bf))):p:=h
def CL (h:p:=by
 have L:=yD (kRk (t:=t) (show yH (n,F,x2,x3) f l=true by simp only [yH,HK.out,Bool.not_true,Bool.not_false,Bool.and_true,Bool.true_and,Bool.and_false,Bool.false_and,Bool.or_true,Bool.true_or,Bool.or_false,Bool.false_or,Bool.not_not,ge_iff_le,bh,ck,an,V,V]) hk);have ce:=kPm L.out.2 hk;have dl:¬ (0<=idxOf (jQ n) l):=bH3;exact And.intro L (And.intro ce dl)):p:=h
def CP (h:p:=by
 have ad:j < n:=bH3;have du:k < n:=bH3;have c9:(j:Int) < n:=bH3;have co:(k:Int) < n:=bH3;have ce:=Int.natCast_nonneg k;have bd:(j:Int) - 1=(k:Int):=bH3;have hw:IntKind.i64.wrap (k:Int)=k:=IntWalk.i64_in _ bH3;have hp:decide ((j:Int) > a)=true:=bG7;have ch:decide (a < j)=true:=bG1;have ck:(a:Int) < j:=bH3;have HY:=yD (λq=>(kZy (key:=key) hk D aj hkl q).symm.trans al.out);have a4:=yD (λq=>(inner_no (key:=key) (a:=a) hk aj hkl q).symm.trans al.out);exact And.intro ad (And.intro du (And.intro c9 (And.intro co (And.intro ce (And.intro bd (And.intro hw (And.intro hp (And.intro ch (And.intro ck (And.intro HY a4))))))))))):p:=h
def CQ (h:p:=by
 have V:Below wS.heap.size wS (World.alloc wS (.cells #[] 5)):=bR.alloc nL _;have bi:wS.heap.size + 1<=(World.alloc wS (.cells #[] 5)).heap.size:=(by simp);have RV:=((kD.kQ.void (e:=5) (r:=kD.byte) (w:=(World.alloc wS (.cells #[] 5))) (a:=some ⟨wS.heap.size,0,none⟩) (S:=λ_=>False)).own (Nat.zero_le _)).rd;exact And.intro V (And.intro bi RV)):p:=h
def CR (h:p:=by
 have I:Hid (kN.own V [Qs a2 y.1 c2] y.1 (jb (w.heap.size + 1 + 1) V.heap.size)):=yD (O2.wide nP);have EF:Qb w V:=EG.trans (Below.mono (Below.trans bI af) EG.size);replace R0:=cL af R0;replace F0:V.frozen? ⟨w.heap.size + 1,0,none⟩=false:=(af.frozen (p:=⟨w.heap.size + 1,0,none⟩) (by have:=o.size;simp;omega)).trans F0;exact And.intro I (And.intro EF (And.intro R0 F0))):p:=h
def CS (h:p:=by
 have bl:∀ q u,([.slice a2 (x.1).length a3,.int .i64 x.2.1,.int .i64 x.2.2]:List Value)[q]?=some u->wS.cell? ⟨b,j * kY.n + q,none⟩=some u:=sF;have bu:∀ q u,([.slice ac (y.1).length az,.int .i64 y.2.1,.int .i64 y.2.2]:List Value)[q]?=some u->wS.cell? ⟨b,k * kY.n + q,none⟩=some u:=sN;exact And.intro bl bu):p:=h
def CU (h:p:=by
 have U:Qb w w1:=tK;have R:Qr w1 w.heap.size #[.slice none 0 0] 36:=wW;have bo:w.heap.size + 1<=w1.heap.size:=bF4;exact And.intro U (And.intro R bo)):p:=h
def CV (h:p:=by
 replace BB:=kC BB hb;replace N:wb.heap.size<=b/\b < v.heap.size:=⟨N.1,Nat.lt_of_lt_of_le N.2 hb.size⟩;exact And.intro BB N):p:=h
def CW (h:p:=by
 have L0:=kE ((o.block _ (show w.heap.size < w.heap.size + 1 + 1 by omega)).trans XB.out) (j:=0) (v:=.int .i64 c) rfl;have L1:=kE ((o.block _ (show w.heap.size < w.heap.size + 1 + 1 by omega)).trans XB.out) (j:=1) (v:=.slice la l.length lp) rfl;have EW:Qb w wr:=EA.trans (o.mono bH3);have du:=Int.natCast_nonneg k;exact And.intro L0 (And.intro L1 (And.intro EW du))):p:=h
def CX (h:p:=by
 have EB:Qb w N:=by rw [<- J];exact bI
 have I:Qd N w 0 (.slice X (x.1).length G):=wF;exact And.intro EB I):p:=h
def CY (h:p:=by
 have EC:Qb wr wC:=tL;have M0:Qd wC wr 0 (.slice xa x.1.length xp):=wG;have M1:Qd wC wr 1 (.int .i64 x.2.1):=wG;have M2:Qd wC wr 2 (.int .i64 x.2.2):=wG;replace K0:=cL EC K0;exact And.intro EC (And.intro M0 (And.intro M1 (And.intro M2 K0)))):p:=h
def CZ (h:p:=by
 have I:=yD h;have bc:=yD hn;have cc:Hid (Touch S w w):=yD (Touch.refl _ _);exact And.intro I (And.intro bc cc)):p:=h
def D5 (h:p:=by
 have R:=λq=>idxOf_hit hlt q HN.out;have H:=λq=>kAs hlt q HN.out;exact And.intro R H):p:=h
def D6 (h:p:=by
 have HY:=yD (λe=>(kSs (p:=(λh=>!decide (Srt.zJ key xs m < Srt.zJ key xs h))) hlt hh e).symm.trans HB.out);have a4:=yD (λe=>(bs_no (p:=(λh=>!decide (Srt.zJ key xs m < Srt.zJ key xs h))) hlt hh e).symm.trans HB.out);have hl:h < xs.length:=bB4;have ml:m < xs.length:=bB4;have dd:(h:Int) < n:=bH3;have ad:(m:Int) < n:=bH3;exact And.intro HY (And.intro a4 (And.intro hl (And.intro ml (And.intro dd ad))))):p:=h
def D7 (h:p:=by
 replace HK:=yD (HK.out.below hb);replace BX:=kC BX hb;replace R:=kC R hb;exact And.intro HK (And.intro BX R)):p:=h
def D8 (h:p:=by
 have HY:=yD (λe=>(kSs (p:=(λh=>decide (Srt.zJ key xs h < Srt.zJ key xs a))) hlt hh e).symm.trans HB.out);have a4:=yD (λe=>(bs_no (p:=(λh=>decide (Srt.zJ key xs h < Srt.zJ key xs a))) hlt hh e).symm.trans HB.out);have hl:h < xs.length:=bB4;have al:a < xs.length:=bB4;have dd:(h:Int) < n:=bH3;have c2:(a:Int) < n:=bH3;exact And.intro HY (And.intro a4 (And.intro hl (And.intro al (And.intro dd c2))))):p:=h
def D9 (h:p:=by
 have U:=cL EW C0;have B1:=cL EW C1;have X:=cL EW C2;exact And.intro U (And.intro B1 X)):p:=h
def DC (h:p:=by
 have o:Qb w w1:=by rw [<- G];exact bI
 have BX:Qr w1 w.heap.size #[Qn xc,Qs b2 xe am] 27:=sI;have BN:Qr w1 (w.heap.size + 1) #[Qs na n np] 36:=by rw [<- G];exact jM (kG bH4)
 have X:Qr w1 (w.heap.size + 2) #[Qn 0,.slice none 0 0] 27:=by rw [<- G];exact kG bH4
 have bo:w.heap.size + 3<=w1.heap.size:=bF4;exact And.intro o (And.intro BX (And.intro BN (And.intro X bo)))):p:=h
def DD (h:p:=by
 have K1:Qd N w 1 (.int .i64 F):=wF;have K2:Qd N w 2 (.int .i64 x2):=wF;have K3:Qd N w 3 (.int .i64 x3):=wF;exact And.intro K1 (And.intro K2 K3)):p:=h
def DF (h:p:=by
 have U:(prog.info? 144).map (·.size)=some 3:=gY;have av:∀ c∈([.slice a2 (x.1).length a3,.int .i64 x.2.1,.int .i64 x.2.2]:List Value),c.oneCell'=true:=bW;have ab:∀ c∈([.slice ac (y.1).length az,.int .i64 y.2.1,.int .i64 y.2.2]:List Value),c.oneCell'=true:=bW;exact And.intro U (And.intro av ab)):p:=h
def DI (h:p:=by
 have EB:Qb w N:=tO;have K0:Qd N w 0 (.slice na n.length np):=wF;have bk:N.heap.size=w.heap.size + 1:=bF5;exact And.intro EB (And.intro K0 bk)):p:=h
def DJ (h:p:=by
 have b4:=Int.ofNat_lt.2 hlt;have ce:=Int.natCast_nonneg k;have br:(k:Int)<=(pl:Int):=bH3;have ab:k<=pl:=bH3;exact And.intro b4 (And.intro ce (And.intro br ab))):p:=h
def DK (h:p:=by
 have h6:wb.heap.size<=X/\X < v.heap.size:=⟨by omega,by omega⟩;replace E:=And.intro (E.1.trans (Touch.of_below hb)) (E.2.below hb);exact And.intro h6 E):p:=h
def DL (h:p:=by
 have EB:Qb w N:=by rw [<- J];exact bI
 have K0:Qd N w 0 (.slice aa a.length ao):=wF;have K1:Qc N (w.heap.size + 1) 0 (.slice ab b.length af):=wF;exact And.intro EB (And.intro K0 K1)):p:=h
def DN (h:p:=by
 replace HK:=yD (HK.out.touch D (λk q h=>hS k q.1 h));replace BX:=D.kC BX bH3;replace R:=D.kC R bH3;exact And.intro HK (And.intro BX R)):p:=h
def DR (h:p:=by
 have EB:Qb w N:=by rw [<- J];exact bI
 have U:N.heap.size=w.heap.size + 3:=bF5;have K1:Qd N w 1 (.slice aa l.length ao):=wF;have K2:Qc N (w.heap.size + 1) 0 (.slice an n.length au):=wF;have XR:Hid (Qr N (w.heap.size + 2) #[.slice none 0 0,.slice none 0 0,.slice none 0 0,Qn 0,Qn 0] 70):=yD tX;exact And.intro EB (And.intro U (And.intro K1 (And.intro K2 XR)))):p:=h
def DT (h:p:=by
 have D:=λ(q:u % 10=0)=>kQl (P:=prog) (w:=wr) (src:=22) (dst:=9) (z:=48) (x:=UInt8.ofNat (48 + u % 10)) (by rw [q];rfl) underlying22 underlying5 underlying9;have dp:(⟨#[UInt8.ofNat (48 + u % 10)]⟩:ByteArray).size=1:=rfl;exact And.intro D dp):p:=h
def DU (h:p:=by
 have HY:=yD (λe=>(kSs (p:=(λc=>!decide (Srt.zJ key xs (N - 1 - c) < Srt.zJ key xs c))) hlt hh e).symm.trans HB.out);have a4:=yD (λe=>(bs_no (p:=(λc=>!decide (Srt.zJ key xs (N - 1 - c) < Srt.zJ key xs c))) hlt hh e).symm.trans HB.out);exact And.intro HY a4):p:=h
def DV (h:p:=by
 have E:Below u.heap.size u (u.alloc (.cells cx.toArray e)):=bR.alloc nL _;have hS:(slice e r).own u [.slice a len cap] xs (λk=>S k/\k < w.heap.size):=⟨(slice e r).mono ((slice e r).live hown.1) (λk hk=>hu.block k hk.2),hown.2⟩;exact And.intro E hS):p:=h
def DW (h:p:=by
 have ak:(kn:Int)<=l.length:=bH3;have am:(kn:Int)<=cap:=bH3;have aq:kn<=l.length:=bH3;have ap:(l.length:Int)<=cap:=bH3;have bz:0 < l.length - kn:=bH3;exact And.intro ak (And.intro am (And.intro aq (And.intro ap bz)))):p:=h
def DX (h:p:=by
 have EC:Qb wr wC:=tL;have M0:Qd wC wr 0 (.slice ac x.1.1.length az):=wG;have M1:Qd wC wr 1 (.slice ai x.1.2.1.length bl):=wG;have M2:Qd wC wr 2 (.slice aj x.1.2.2.1.length bf):=wG;have M3:Qd wC wr 3 (.int .i64 x.1.2.2.2.1):=wG;have M4:Qd wC wr 4 (.int .i64 x.1.2.2.2.2):=wG;have M5:Qd wC wr 5 (.int .i64 x.2):=wG;exact And.intro EC (And.intro M0 (And.intro M1 (And.intro M2 (And.intro M3 (And.intro M4 M5)))))):p:=h
def DY (h:p:=by
 have bz:=Int.natCast_nonneg j;have ce:=Int.natCast_nonneg k;have c9:(j:Int) < n:=bB3;have co:(k:Int) < n:=bB3;have ch:(a:Int) + (i:Int)=(j:Int):=bH3;have bn:(z:Int) + (i:Int)=(k:Int):=bH3;have N:j<=16777216:=bH3;have R:k<=16777216:=bH3;have c8:IntKind.i64.wrap (j:Int)=j:=IntWalk.i64_in _ bH3;have H:IntKind.i64.wrap (k:Int)=k:=IntWalk.i64_in _ bH3;exact And.intro bz (And.intro ce (And.intro c9 (And.intro co (And.intro ch (And.intro bn (And.intro N (And.intro R (And.intro c8 H))))))))):p:=h
def DZ (h:p:=by
 replace K0:=cL O K0;replace K1:=cL O K1;replace K2:=cL O K2;exact And.intro K0 (And.intro K1 K2)):p:=h
def EE (h:p:=by
 have hT:Touch (λk=>k=w.heap.size + 1) t2 t3:=(by rw [<- G];exact sT4);replace RT:Qr t3 (w.heap.size + 1) #[Qs bi t.1 ck,Qs bz t.2.1 cw,Qs bb t.2.2.1 cz,Qs cl t.2.2.2 co] 57:=(by rw [<- G];exact kI (kI (kI (kI (RT) 0) 1) 2) 3);have e7:=hT.size;exact And.intro hT (And.intro RT e7)):p:=h
def EH (h:p:=by
 replace O0:=cL E5.out O0;replace Z0:=(E5.out.frozen (p:=⟨b,kn * 3,none⟩) HB.out).trans Z0;replace O1:=cL E5.out O1;replace Z1:=(E5.out.frozen (p:=⟨b,kn * 3 + 1,none⟩) HB.out).trans Z1;replace O2:=cL E5.out O2;replace Z2:=(E5.out.frozen (p:=⟨b,kn * 3 + 2,none⟩) HB.out).trans Z2;exact And.intro O0 (And.intro Z0 (And.intro O1 (And.intro Z1 (And.intro O2 Z2))))):p:=h
def EI (h:p:=by
 have U:Qb w w1:=tK;have R:Qr w1 w.heap.size #[.slice none 0 0,Qn 0,Qn 0,Qn 0] 38:=wW;have bo:w.heap.size + 1<=w1.heap.size:=bF4;exact And.intro U (And.intro R bo)):p:=h
def EJ (h:p:=by
 have HL:=yD hl;have HN:=yD hn;have bc:l.length<=16777216:=hl.2.1;exact And.intro HL (And.intro HN bc)):p:=h
def EK (h:p:=by
 replace BX:=kC BX hb;replace BW:=kC BW hb;exact And.intro BX BW):p:=h
def EM (h:p:=by
 have c5:IntKind.i64.wrap (ma:Int)=ma:=IntWalk.i64_in _ bH3;have dw:IntKind.i64.wrap (zm:Int)=zm:=IntWalk.i64_in _ bH3;have U:IntKind.i64.wrap (N:Int)=N:=IntWalk.i64_in _ bH3;have dh:=Int.natCast_nonneg mid;have d4:=Int.natCast_nonneg N;have eb:(N:Int)<=33554432:=bH3;have co:a < mid:=bH3;have dq:mid < z:=bH3;exact And.intro c5 (And.intro dw (And.intro U (And.intro dh (And.intro d4 (And.intro eb (And.intro co dq))))))):p:=h
def EN (h:p:=by
 have E1:=(tQ EB O);have bf:=O.size;have I:=yD (O1.wide (T:=jb w.heap.size w1.heap.size) rR);exact And.intro E1 (And.intro bf I)):p:=h
def EO (h:p:=by
 have cm:=D.size;replace af:=af.ji D nJ;replace BN:=D.kC BN bH3;replace HR:=yD (HR.out.touch D pV);exact And.intro cm (And.intro af (And.intro BN HR))):p:=h
def EP (h:p:=by
 have cz:¬ (q:Int) < q:=bH3;have HE:=yD ((kSt (p:=(λh=>!decide (Srt.zJ key xs m < Srt.zJ key xs h))) (i:=q) (j:=q) bH3).symm.trans HB.out);have bh:Hid (Srt.symm key (f + 1) a m z xs=Srt.down q m xs):=yD (by rw [HF.out,<- HE.out]);exact And.intro cz (And.intro HE bh)):p:=h
def ES (h:p:=by
 have hr:i∈Region.ready .any l.toArray listed:=bB9;have hi2:q.all (λx=>decide (x.1 < n) && !D.contains x.1)=true:=dP;exact And.intro hr hi2):p:=h
def EX (h:p:=by
 replace BX:=a8.kC BX bH3;replace BQ:=a8.kC BQ bH3;replace X:=a8.kC X bH3;exact And.intro BX (And.intro BQ X)):p:=h
def EY (h:p:=by
 have fi:=E.1.size;have RS:=E.1.kC BN bH3;have ak:Qc Y R 0 (.slice a0 U.length c0):=kE RS rfl;have al:Y.frozen? ⟨R,0,none⟩=false:=frozen_of_row Y (R) 0 _ _ RS;have ao:Qc Y R 1 (.int .i64 kc):=kE RS rfl;have an:Y.frozen? ⟨R,1,none⟩=false:=frozen_of_row Y (R) 1 _ _ RS;exact And.intro fi (And.intro RS (And.intro ak (And.intro al (And.intro ao an))))):p:=h
def EZ (h:p:=by
 have hi2:q.all (λx=>decide (x.1 < n) && !D.contains x.1)=true:=dP;have hil:i < l.toArray.size:=Nat.lt_trans hi.1.1 hn;exact And.intro hi2 hil):p:=h
def F8 (h:p:=by
 have XR:Qr N (w.heap.size + 1) #[.slice none 0 0,Qn 0,.slice none 0 0,.slice none 0 0,.slice none 0 0,.slice none 0 0,.slice none 0 0,Qn 0] 33:=by rw [<- J];exact kG bH4
 have bk:N.heap.size=w.heap.size + 2:=bF5;exact And.intro XR bk):p:=h
def F9 (h:p:=by
 have bl:∀ q u,([.int .i64 x]:List Value)[q]?=some u->wS.cell? ⟨b,j * kD.int.n + q,none⟩=some u:=vZ;have bu:∀ q u,([.int .i64 y]:List Value)[q]?=some u->wS.cell? ⟨b,k * kD.int.n + q,none⟩=some u:=wO;exact And.intro bl bu):p:=h
def FB (h:p:=by
 have aw:Qc w5 (w.heap.size + 2) 1 (.slice none 0 0):=kE X rfl;have be:Qc w5 (w.heap.size + 2) 2 (.slice none 0 0):=kE X rfl;have bd:Qc w5 (w.heap.size + 2) 3 (.int .i64 0):=kE X rfl;have bz:Qc w5 (w.heap.size + 2) 4 (.int .i64 0):=kE X rfl;exact And.intro aw (And.intro be (And.intro bd bz))):p:=h
def FC (h:p:=by
 have EB:Qb w N:=by rw [<- J];exact bI
 have K0:Qd N w 0 (.slice na n.length np):=wF;exact And.intro EB K0):p:=h
def FD (h:p:=by
 replace BY:=kC BY hb;replace X:=kC X hb;replace BO:=kC BO hb;exact And.intro BY (And.intro X BO)):p:=h
def FE (h:p:=by
 have I:cells.length=m * i.size:=by rw [hsize,W,hm]
 have N:cur.toList.length=p.length + (cs.length + tl.length):=by rw [g2];simp
 have V:cur.size=p.length + (cs.length + tl.length):=by rw [<- N,Array.length_toList]
 exact And.intro I (And.intro N V)):p:=h
def FH (h:p:=by
 replace X:=kC X hb;replace o:=(tQ o hb);exact And.intro X o):p:=h
def FI (h:p:=by
 have D:Touch (λk=>k=V.heap.size) w3 w4:=bB2;replace BO:w4.heap[V.heap.size]?=some (.cells #[.slice bf U.length bg,.int .i64 F,.int .i64 (x2 - 1),.int .i64 x3] 38 (0,0)):=by rw [<- G];exact kI BO 2
 have b5:=D.size;exact And.intro D (And.intro BO b5)):p:=h
def FJ (h:p:=by
 have HL:Hid ((kD.slice 127 jH).rd w [Qs la l lp] l):=yD ⟨hl,X.2⟩;have bc:l.length<=16777216:=X.2.1;have ce:=yD e8;exact And.intro HL (And.intro bc ce)):p:=h
def FK (h:p:=by
 replace BY:=kC BY hb;replace I:=yD (I.out.below hb);replace HY:=yD (HY.out.below hb);exact And.intro BY (And.intro I HY)):p:=h
def FL (h:p:=by
 have E3:Qb w v3:=by rw [<- D];exact (F3.setCell qO _)
 have aw:Hid (v3.heap.size=w3.heap.size):=yD tF;replace ab:=yD (kD.own.out (w':=v3) ab.out bY);replace R:=yD (kD.own.out (w':=v3) R.out bY);replace ai:=yD (kD.own.out (w':=v3) ai.out bY);exact And.intro E3 (And.intro aw (And.intro ab (And.intro R ai)))):p:=h
def FM (h:p:=by
 replace BB:=kC BB hb;replace N:wr.heap.size<=b/\b < v.heap.size:=⟨N.1,Nat.lt_of_lt_of_le N.2 hb.size⟩;exact And.intro BB N):p:=h
def FN (h:p:=by
 have ch:(q:Int) - 1=(t:Int):=bH3;have af:a<=t:=bH3;have ap:IntKind.i64.wrap (t:Int)=t:=IntWalk.i64_in _ bH3;have an:t + 1<=z:=bH3;have D:(t:Int) < n:=bH3;have bh:Hid (Srt.symm key (f + 1) a m z xs=Srt.up (t - a) a xs):=yD (by rw [HF.out,<- HE.out,ht]);exact And.intro ch (And.intro af (And.intro ap (And.intro an (And.intro D bh))))):p:=h
def FO (h:p:=by
 have N:=R.skip;have bx:=yD (kIv hil hno);have ae:=yD (kDi (p:=λy=>!p y) hil (by simp [hyes]));have ad:=yD R.mem;have b0:=R.len;exact And.intro N (And.intro bx (And.intro ae (And.intro ad b0)))):p:=h
def FP (h:p:=by
 replace BX:=D.kC BX bH3;replace X:=D.kC X bH3;replace I:=yD (I.out.touch D qW);replace o:=o.trans (D.below o.size bD5);exact And.intro BX (And.intro X (And.intro I o))):p:=h
def FQ (h:p:=by
 have HR:Hid (kFj (n,F,x2,x3) f t=(f,F,y3)):=yD bG2;have HY:Hid (Qi y3):=yD bA5;exact And.intro HR HY):p:=h
def FT (h:p:=by
 have EB:Qb w N:=by rw [<- J];exact bI
 have U:N.heap.size=w.heap.size + 2:=bF5;have K0:Qd N w 0 (.slice an n.length au):=wF;have K1:Qc N (w.heap.size + 1) 0 (.slice none 0 0):=wF;have F1:N.frozen? ⟨w.heap.size + 1,0,none⟩=false:=wF;exact And.intro EB (And.intro U (And.intro K0 (And.intro K1 F1)))):p:=h
def FU (h:p:=by
 have a2:=E.size;have an:=EC.size;have ax:=o.size;have f2:=al.size;have Z:Qb wr wS:=(tQ ER E);replace I:=yD (I.out.below Z);have aa:=(tQ o Z);exact And.intro a2 (And.intro an (And.intro ax (And.intro f2 (And.intro Z (And.intro I aa)))))):p:=h
def FV (h:p:=by
 replace hc:=hc.below av;replace J:=J.trans (Touch.of_below av);exact And.intro hc J):p:=h
def FW (h:p:=by
 have ad:Qb V w3:=tK;have B:Qr w3 V.heap.size #[.slice a n c] 36:=wW;have bt:V.heap.size + 1<=w3.heap.size:=bF4;exact And.intro ad (And.intro B bt)):p:=h
def FY (h:p:=by
 have af:¬ (m:Int) - (a:Int)=1:=bH3;have ap:(((m - a:Nat):Int)==1)=false:=bG7;exact And.intro af ap):p:=h
def FZ (h:p:=by
 have aw:=EC.size;have bi:w.heap.size + 1<=V.heap.size:=by simpa using a9
 have E2:Qb w wC:=Below.trans (bR.alloc nL _) ((af.trans (EC.mono a9)).mono bH4);replace X:=kC X EC;replace HD:=yD (λq=>(HD.out q).below EC);have O:=cL EC bk;have K5:=kE B5 (j:=0) rfl;exact And.intro aw (And.intro bi (And.intro E2 (And.intro X (And.intro HD (And.intro O K5)))))):p:=h
def G5 (h:p:=by
 replace HB:Hid ((kD.slice 5 kD.byte).jo v [Qs ba L bc] L (Ql wb v b)):=yD ((HB.out.below hb).wide dK);replace HK:Hid (kN.jo v [Qs ka ks kc] ks (Ql wb v b)):=yD ((HK.out.below hb).wide dK);exact And.intro HB HK):p:=h
def G6 (h:p:=by
 have V:Hid (x.1.length<=Big):=yD q0.1;have ax:Hid (x.2.2.1.length<=Big):=yD q2.1;have cl:Hid (x.2.2.2.1.length<=Big):=yD q3.1;have cf:Hid (x.2.2.2.2.1.length<=Big):=yD q4.1;have ad:Hid (x.2.2.2.2.2.1.length<=Big):=yD q5.1;exact And.intro V (And.intro ax (And.intro cl (And.intro cf ad)))):p:=h
def G7 (h:p:=by
 have ad:Below V.heap.size V w3:=tK;have BO:w3.heap[V.heap.size]?=some (.cells #[.slice bf U.length bg,.int .i64 F,.int .i64 x2,.int .i64 x3] 38 (0,0)):=wW;have bt:V.heap.size + 1<=w3.heap.size:=bF4;exact And.intro ad (And.intro BO bt)):p:=h
def G8 (h:p:=by
 have EB:Qb w N:=by rw [<- J];exact bI
 have K5:Qd N w 5 (.slice eu x.2.2.2.2.1.length er):=wF;have K6:Qd N w 6 (.slice en x.2.2.2.2.2.1.length eh):=wF;have X:Qc N (w.heap.size + 1) 0 (.slice na n.length np):=wF;exact And.intro EB (And.intro K5 (And.intro K6 X))):p:=h
def G9 (h:p:=by
 replace hc:=hc.below hb;have J:Touch (λk=>k=p) w w1:=Touch.of_below hb;exact And.intro hc J):p:=h
def GA (h:p:=by
 have A0:=(E.cell (p:=⟨w.heap.size,0,none⟩) vC).trans am;have A1:=(E.cell (p:=⟨w.heap.size,1,none⟩) vC).trans aj;have A2:=(E.cell (p:=⟨w.heap.size,2,none⟩) vC).trans ak;have EW:=EB.trans (E.mono bH3);exact And.intro A0 (And.intro A1 (And.intro A2 EW))):p:=h
def GD (h:p:=by
 have A0:=(D.cell (p:=⟨w.heap.size,0,none⟩) vC).trans am;have A1:=(D.cell (p:=⟨w.heap.size,1,none⟩) vC).trans aj;have A2:=(D.cell (p:=⟨w.heap.size,2,none⟩) vC).trans ak;have EW:=EB.trans (D.mono bH3);exact And.intro A0 (And.intro A1 (And.intro A2 EW))):p:=h
def GG (h:p:=by
 replace BW:=D.kC BW bH3;replace I:=yD (I.out.touch D qW);replace HQ:=yD (HQ.out.touch D qW);replace J:=J.trans D;exact And.intro BW (And.intro I (And.intro HQ J))):p:=h
def GH (h:p:=by
 have RR:Hid ((kD.slice 144 kY).rd w [Qs eu x.2.2.2.2.1 er] x.2.2.2.2.1):=yD ⟨b2,q5⟩;have RM:Hid ((kD.slice 166 kR).rd w [Qs en x.2.2.2.2.2.1 eh] x.2.2.2.2.2.1):=yD ⟨dg,q6⟩;exact And.intro RR RM):p:=h
def GI (h:p:=by
 have be:(G:Int)<=16777216:=bH3;have bk:(E:Int)<=16777216:=bH3;have hi2:=Int.natCast_nonneg G;have bf:=Int.natCast_nonneg E;have c8:IntKind.i64.wrap (G:Int)=G:=IntWalk.i64_in _ bH3;have H:IntKind.i64.wrap (E:Int)=E:=IntWalk.i64_in _ bH3;exact And.intro be (And.intro bk (And.intro hi2 (And.intro bf (And.intro c8 H))))):p:=h
def GJ (h:p:=by
 have HD:=yD (show kQy (U,F,x2,x3)=(U,F,x2 - 1,x3) by unfold kQy;rw [if_neg hh];rfl);have HK:=yD (show kIg (U,F,x2,x3)=true by unfold kIg;simp only;rw [decide_eq_false hh];rfl);exact And.intro HD HK):p:=h
def GK (h:p:=by
 have zv:=D.size;replace HB:Hid ((kD.slice 5 kD.byte).jo v [Qs ba L bc] L (Ql wb v p)):=yD ((HB.out.touch D vD).wide (λk q=>⟨q.1,Nat.lt_of_lt_of_le q.2.1 D.size,q.2.2⟩));exact And.intro zv HB):p:=h
def GL (h:p:=by
 have zv:=D.size;have b4:=N.2;replace HB:Hid ((kD.slice 5 kD.byte).jo v [Qs ba L bc] L (Ql wb v b)):=yD ((HB.out.touch D vD).wide (λk q=>⟨q.1,Nat.lt_of_lt_of_le q.2.1 D.size,q.2.2⟩));exact And.intro zv (And.intro b4 HB)):p:=h
def GM (h:p:=by
 replace HR:=yD (HR.out.touch hT pV);replace HP:=yD (HP.out.touch hT pV);exact And.intro HR HP):p:=h
def GN (h:p:=by
 have X:Qr w1 (w.heap.size + 2) #[.slice none 0 0,.slice none 0 0,.slice none 0 0,Qn 0,Qn 0] 70:=by rw [<- G];exact kG bH4
 have bo:w.heap.size + 3<=w1.heap.size:=bF4;exact And.intro X bo):p:=h
def GQ (h:p:=by
 replace a8:Hid (kN.jo v [Qs o n1 I] n1 (Ql wr v b)):=yD ((a8.out.below hb).wide dK);replace bb:Hid (kN.jo v [Qs X n2 aa] n2 (Ql wr v b)):=yD ((bb.out.below hb).wide dK);exact And.intro a8 bb):p:=h
def GR (h:p:=by
 have a6:Y.frozen? ⟨R,3,none⟩=false:=frozen_of_row Y (R) 3 _ _ RS;have bp:Qc Y R 4 (.slice a3 0 c3):=kE RS rfl;have bn:Y.frozen? ⟨R,4,none⟩=false:=frozen_of_row Y (R) 4 _ _ RS;exact And.intro a6 (And.intro bp bn)):p:=h
def GU (h:p:=by
 have b4:(0:Int)<=k:=bH3;have a2:(k:Int) < on:=bH3;exact And.intro b4 a2):p:=h
def GV (h:p:=by
 have E2:Qb w v2:=by rw [<- D];exact (F2.setCell qO _)
 have ak:Hid (v2.heap.size=V.heap.size):=yD tF;replace ab:=yD (kD.own.out (w':=v2) ab.out dB);replace R:=yD (kD.own.out (w':=v2) R.out dB);exact And.intro E2 (And.intro ak (And.intro ab R))):p:=h
def GX (h:p:=by
 have ep:Y.frozen? ⟨R,6,none⟩=false:=frozen_of_row Y (R) 6 _ _ RS;have er:Qc Y R 7 (.int .i64 0):=kE RS rfl;have e1:Y.frozen? ⟨R,7,none⟩=false:=frozen_of_row Y (R) 7 _ _ RS;exact And.intro ep (And.intro er e1)):p:=h
def GY (h:p:=by
 have U:(prog.info? 3).map (·.size)=some 1:=gX;have av:∀ c∈([.int .i64 x]:List Value),c.oneCell'=true:=cZ;have ab:∀ c∈([.int .i64 y]:List Value),c.oneCell'=true:=cZ;exact And.intro U (And.intro av ab)):p:=h
def GZ (h:p:=by
 have EB:Qb w N:=by rw [<- J];exact bI
 have ae:Qd N w 0 (.slice X (x.1).length G):=wF;have I:Qd N w 1 (.int .i64 x.2.1):=wF;have F:Qd N w 2 (.int .i64 x.2.2.1):=wF;have o:Qd N w 3 (.int .i64 x.2.2.2):=wF;exact And.intro EB (And.intro ae (And.intro I (And.intro F o)))):p:=h
def H5 (h:p:=by
 replace TL:=TL.trans (hT.wide (λj q=>.inr q));replace X:=hT.kC X bH3;replace BO:=hT.kC BO bH3;replace BY:=hT.kC BY bH3;replace I:=yD (I.out.touch hT qW);replace HY:=yD (HY.out.touch hT qW);replace o:=o.trans (hT.below o.size bD5);exact And.intro TL (And.intro X (And.intro BO (And.intro BY (And.intro I (And.intro HY o)))))):p:=h
def H7 (h:p:=by
 have o:Qd N w 1 (.slice a2 (x.2.1).length a1):=wF;have F:Qd N w 2 (.slice ah (x.2.2.1).length ag):=wF;have V:Qd N w 3 (.int .i64 x.2.2.2.1):=wF;have au:Qd N w 4 (.int .i64 x.2.2.2.2):=wF;exact And.intro o (And.intro F (And.intro V au))):p:=h
def H8 (h:p:=by
 have EC:Qb wT wC:=tL;have K0:Qd wC wT 0 (.slice bi U.length cv):=wG;exact And.intro EC K0):p:=h
def H9 (h:p:=by
 have A0:Qc wr b (m * 3) c0:=Y 0 c0 rfl;have A1:Qc wr b (m * 3 + 1) c1:=Y 1 c1 rfl;have A2:Qc wr b (m * 3 + 2) c2:=Y 2 c2 rfl;have o:∀ q,q < 3->kn * 3 + q < cap * 3:=by intro q hq;omega
 exact And.intro A0 (And.intro A1 (And.intro A2 o))):p:=h
def HV (h:p:=by
 have zv:=hb.size;replace a8:Hid (kN.jo v [Qs o n1 I] n1 (Ql wr v am)):=yD ((a8.out.below hb).wide (λk q=>⟨q.1,Nat.lt_of_lt_of_le q.2.1 hb.size,q.2.2⟩));exact And.intro zv a8):p:=h
def I1 (h:p:=by
 have hd:decide ((y.1.length:Int) < x.1.length)=false:=bE1;have Z:decide ((x.1.length:Int) > y.1.length)=false:=bE1;have ac:decide (y.1.length < x.1.length)=false:=bE1;replace K0:=cL o K0;exact And.intro hd (And.intro Z (And.intro ac K0))):p:=h
def I4 (h:p:=by
 replace aq:=cL E aq;replace bq:=cL E bq;replace bp:=cL E bp;replace J:=cL E J;replace br:=cL E br;replace bt:=cL E bt;exact And.intro aq (And.intro bq (And.intro bp (And.intro J (And.intro br bt))))):p:=h
def I5 (h:p:=by
 have zv:=hb.size;have b4:=N.2;replace a8:Hid (kN.jo v [Qs o n1 I] n1 (Ql wr v b)):=yD ((a8.out.below hb).wide (λk q=>⟨q.1,Nat.lt_of_lt_of_le q.2.1 hb.size,q.2.2⟩));exact And.intro zv (And.intro b4 a8)):p:=h
def I6 (h:p:=by
 have ul:u < xs.length:=bB4;have hl:h < xs.length:=bB4;have dd:(h:Int) < n:=bH3;have d9:(u:Int) < n:=bH3;have ef:(N1:Int) - (h:Int)=(u:Int):=bH3;have d6:=Int.natCast_nonneg u;have d8:IntKind.i64.wrap (u:Int)=u:=IntWalk.i64_in _ bH3;exact And.intro ul (And.intro hl (And.intro dd (And.intro d9 (And.intro ef (And.intro d6 d8)))))):p:=h
def I7 (h:p:=by
 replace BT:=hT.kC BT bH3;replace I:=yD (I.out.touch hT pV);replace L:=yD (L.out.touch hT pV);exact And.intro BT (And.intro I L)):p:=h
def I8 (h:p:=by
 have c1:¬ (a:Int) < j:=bH3;have hp:decide ((j:Int) > a)=false:=bG7;have ch:decide (a < j)=false:=bG1;have af:Hid (cu=Srt.inner key a i cur):=yD ((kXc (key:=key) D).symm.trans al.out);exact And.intro c1 (And.intro hp (And.intro ch af))):p:=h
def I9 (h:p:=by
 replace R:=D.kC R bH3;replace O:=D.kC O bH3;replace BX:=D.kC BX bH3;exact And.intro R (And.intro O BX)):p:=h
def IA (h:p:=by
 have hd:decide ((b.length:Int)<=a.length)=false:=bE0;have ac:decide (b.length<=a.length)=false:=bE0;have L:=yD (prefN_no hc);have FX:=yD (λ(W:World) (hW:Qb N W)=>kIz hW K0 K1);exact And.intro hd (And.intro ac (And.intro L FX))):p:=h
def IB (h:p:=by
 have cz:¬ (q:Int) < q:=bH3;have HE:=yD ((kSt (p:=(λc=>!decide (Srt.zJ key xs (N - 1 - c) < Srt.zJ key xs c))) (i:=q) (j:=q) bH3).symm.trans HB.out);exact And.intro cz HE):p:=h
def IC (h:p:=by
 have bo:=λq=>kFr (p:=λy=>!p y) hlt q;have br:=λq=>kDi (p:=λy=>!p y) hlt q;exact And.intro bo br):p:=h
def IE (h:p:=by
 have ac:decide (b.length<=a.length)=true:=bE0;have bl:(b.length:Int)<=a.length:=bH3;have dp:(b.length:Int)<=ao:=bH3;have L:=yD (kZq hc);have FX:=yD (λ(W:World) (hW:Qb N W)=>kIz hW K0 K1);exact And.intro ac (And.intro bl (And.intro dp (And.intro L FX)))):p:=h
def IG (h:p:=by
 have cl:=Int.natCast_nonneg a;have c4:(a:Int) < m:=bH3;have c3:(m:Int) < z:=bH3;have cm:(z:Int)<=16777216:=bH3;have ch:(m:Int) - (a:Int)=((m - a:Nat):Int):=bH3;have bn:(z:Int) - (m:Int)=((z - m:Nat):Int):=bH3;exact And.intro cl (And.intro c4 (And.intro c3 (And.intro cm (And.intro ch bn))))):p:=h
def II (h:p:=by
 replace D:=(Touch.of_below (S:=λk=>k=p) (bR.alloc nL _)).trans D;have b5:=D.size;exact And.intro D b5):p:=h
def IJ (h:p:=by
 replace K0:=cL o K0;replace K1:=cL o K1;exact And.intro K0 K1):p:=h
def IK (h:p:=by
 have E:Hid ((kD.slice 70 jI).rd w [Qs dx x.1 dv] x.1):=yD ⟨Z,q1⟩;have H:Hid (kT.rd w [Qn x.2.1.1,Qs dy x.2.1.2 dw] x.2.1):=yD ⟨ba,q2⟩;exact And.intro E H):p:=h
def IL (h:p:=by
 have U:Qb w w1:=tK;have R:Qr w1 w.heap.size #[.slice none 0 0,.slice none 0 0,.slice none 0 0,Qn 0,Qn 0] 70:=wW;have bo:w.heap.size + 1<=w1.heap.size:=bF4;exact And.intro U (And.intro R bo)):p:=h
def IM (h:p:=by
 have g7:Hid (Qi y6):=yD (by rw [<- fr];exact kFl _);have b7:=yD (show kMu (U,(xc,xe),x2,x3,x4,x5,x6)=(U,(xc,xe),x2,x3,x4,x5,y6) by rw [kMt,fr]);exact And.intro g7 b7):p:=h
def IP (h:p:=by
 have ah:=kE (b:=w.heap.size + 1 + 1) H.out (j:=0) (v:=.slice a0 (U).length p0) rfl;have ag:=frozen_of_row w1 (w.heap.size + 1 + 1) 0 _ _ H.out;exact And.intro ah ag):p:=h
def IQ (h:p:=by
 replace HQ:=yD (HQ.out.touch L qW);replace hc:=hc.touch L bH3 bD5;replace J:=J.jJ L bH3;exact And.intro HQ (And.intro hc J)):p:=h
def IR (h:p:=by
 have cz:¬ (q:Int) < q:=bH3;have HE:=yD ((kSt (p:=(λh=>decide (Srt.zJ key xs h < Srt.zJ key xs a))) (i:=q) (j:=q) bH3).symm.trans HB.out);exact And.intro cz HE):p:=h
def IU (h:p:=by
 have ap:(i:Int)<=(l.length:Int) + 1:=bH3;have ad:¬ (cap=i):=bH3;have bh:(i:Int) + 1<=(l.length:Int) + 1:=bH3;have av:i + 1<=l.length + 1:=bH3;have X:(i:Int)<=(l.length:Int):=bH3;exact And.intro ap (And.intro ad (And.intro bh (And.intro av X)))):p:=h
def IV (h:p:=by
 have Z:=yD hg;have O:=yD h;have bc:=yD hn;have ah:Hid (Srt.stable key xs=Srt.passes key n (n + 1) 20 (Srt.blocks key n (n + 1) 0 xs)):=yD (by rw [hn];rfl);have cw:n<=16777216:=bH3;exact And.intro Z (And.intro O (And.intro bc (And.intro ah cw)))):p:=h
def IW (h:p:=by
 have HA:=yD ha;have D:=λ(W:World) (a:Option Addr) (n c:Nat)=>Lib.run_eql_slice_nil (P:=prog) W 89 91 a n c 0 0 underlying89;exact And.intro HA D):p:=h
def IX (h:p:=by
 have N:w4.heap.size<=b/\b < v.heap.size:=⟨by omega,by omega⟩;replace E:=And.intro (E.1.trans (Touch.of_below hb)) (E.2.below hb);exact And.intro N E):p:=h
def IY (h:p:=by
 have K0:Qd V w 0 (.slice an n.length au):=(o.cell (p:=⟨w.heap.size,0,none⟩) bH4).trans bF7;have EG:Qb w V:=Below.trans bI (o.mono sP);exact And.intro K0 EG):p:=h
def IZ (h:p:=by
 have a8:L.length<=4:=bH3;have HB:Hid ((kD.slice 5 kD.byte).jo v [Qs ba L bc] L (Ql wb v b)):=yD (hO.jo.wide mM);replace E:=And.intro (E.1.trans D) F;exact And.intro a8 (And.intro HB E)):p:=h
def J2 (h:p:=by
 have a8:L.length<=4:=bH3;have HB:Hid ((kD.slice 5 kD.byte).jo v [Qs ba L bc] L (Ql wb v p)):=yD (hO.jo.wide mM);replace E:=And.intro (E.1.trans D) F;exact And.intro a8 (And.intro HB E)):p:=h
def J3 (h:p:=by
 have av:Qb w5 w6:=tK;have BF:Qr w6 w5.heap.size #[Qs g1 d0 g6,Qs hr d1 g9,Qs hp d2 hn,Qn d3,Qn d4] 70:=wW;have dh:w5.heap.size + 1<=w6.heap.size:=bF4;exact And.intro av (And.intro BF dh)):p:=h
def J4 (h:p:=by
 have cl:=Int.natCast_nonneg a;have bi:=Int.natCast_nonneg z;exact And.intro cl bi):p:=h
def J5 (h:p:=by
 have du:(N:Int) - 1=(N1:Int):=bH3;have dt:IntKind.i64.wrap (N1:Int)=N1:=IntWalk.i64_in _ bH3;have dv:=Int.natCast_nonneg N1;have d2:=Int.natCast_nonneg lo;have dy:(hi:Int)<=m:=bH3;exact And.intro du (And.intro dt (And.intro dv (And.intro d2 dy)))):p:=h
def J6 (h:p:=by
 have hb:=dig_int (u:=u);have F:=kQl (P:=prog) (w:=wr) (src:=22) (dst:=9) hb underlying22 underlying5 underlying9;exact And.intro hb F):p:=h
def J7 (h:p:=by
 have hno:=λq=>(mB_no (n:=n) hlt q).trans HM.out;have ay:=λq q2=>mB_up (n:=n) hlt q hj HM.out q2;have G:=λq2=>mB_keep (n:=n) hlt hj HM.out q2;exact And.intro hno (And.intro ay G)):p:=h
def J8 (h:p:=by
 have bv:=hb.size;replace BX:=kC BX hb;exact And.intro bv BX):p:=h
def J9 (h:p:=by
 have d1:m * r.n=cells.length:=by rw [I,hsize]
 have J:off + xs.length * i.size=(p++cs).length:=by rw [List.length_append,g3,F,hsize]
 exact And.intro d1 J):p:=h
def JA (h:p:=by
 have cm:Touch (λk=>k=V.heap.size) w4 w5:=bB2;replace B:Qr w5 V.heap.size #[.slice (some ⟨w3.heap.size,0,none⟩) 1 1] 36:=wZ;have b3:=cm.size;exact And.intro cm (And.intro B b3)):p:=h
def JB (h:p:=by
 have EG:=(tQ EB o);have R0:=cL o K1;have F0:wr.frozen? ⟨w.heap.size + 1,0,none⟩=false:=(o.frozen (p:=⟨w.heap.size + 1,0,none⟩) bG7).trans F1;exact And.intro EG (And.intro R0 F0)):p:=h
def JC (h:p:=by
 replace R:=yD (R.out.touch a8 qW);replace o:=o.trans (a8.below o.size bD5);exact And.intro R o):p:=h
def JD (h:p:=by
 replace G:=cL EB G;have FX:=yD (λ(W:World) (hW:Qb N W)=>kEe hW I o F G);exact And.intro G FX):p:=h
def aA (h:p:=by
 have hlt:b < w.heap.size:=by
  rcases Nat.lt_or_ge b w.heap.size with q | q
  · exact q
  unfold World.cell? at k;simp [Array.getElem?_eq_none q] at k
 have e:=h.block b hlt hb;unfold World.cell? at k ⊢;simp only at k ⊢;rw [e];exact k):p:=h
def aB (h:p:=by
 unfold tree at h;refine wp_region_held (S:=S) hm ?_;have e:(Array.replicate l.toArray.size false)=(List.replicate l.length false).toArray:=bH4;rw [e,show l.toArray.size=l.length by simp];exact h):p:=h
def aC (h:p:=by
 intro k hk;rcases hk with hk | hk | hk
 · exact .inl hk.1
 · exact .inr (.inl hk.1)
 exact .inr (.inr ⟨by simpa using hk.1,hk.2⟩)):p:=h
def aD (h:p:=by
 clear c7;replace E:=And.intro (tQ E.1 EL) (And.intro (cL EL E.2.1) (And.intro (cL EL E.2.2.1) (And.intro (cL EL E.2.2.2.1) (cL EL E.2.2.2.2))));rw [<- bq];replace bq:=Nat.le_antisymm_iff.1 bq;refine H _ _ E ?_;clear H K EL;refine kP (k:=8) rfl bG6 rfl (λK H=>?_);have aq:=E.1.size;obtain ⟨pa,pn,pc,hp,bj⟩:=bx.parts;obtain rfl:=hp;have ap:∀ k,(some k=(Value.slice oa on oc).ownBlock/\jb N.heap.size w4.heap.size k)->N.heap.size<=k/\k < w4.heap.size:=λk hk=>hk.2;have G:∀ (bb i:Nat) (u:Value),Qc wL bb i u->(bb < N.heap.size\/w4.heap.size<=bb)->Qc w5 bb i u:=λbb i u hu hq=>by have e1:w5.heap[bb]?=wL.heap[bb]?:=am.block _ (World.block_lt_of_cell? _ _ hu) (λq=>by have:=q.2.1;have:=q.2.2;omega);unfold World.cell? at hu ⊢;simp only [e1];exact hu
 have cw:Below w.heap.size wL w5:=am.below bA6 (λk hk=>by have:=hk.2.1;omega);have c5:=am.size;replace E:=And.intro (E.1.trans cw) (And.intro (G _ _ _ E.2.1 (.inl bH3)) (And.intro (G _ _ _ E.2.2.1 (.inr bH3)) (And.intro (G _ _ _ E.2.2.2.1 (.inr bH3)) (G _ _ _ E.2.2.2.2 (.inr bH3)))));refine kD.kV _ _ _ rfl bH5 bH5 a6 ?_;refine H _ _ E ?_;clear H K a6 am G ap cw;refine kL 9 ?_;refine kL 10 ?_;refine jg bG6 ?_;have bp:=yD ((kHa bx).cast (by rw [L.out.1,HR.out]:_=kBk (n,F,x2,x3) f t l));have E9:=E.1;clear bx;go_wp2;go_ret2;exact ⟨_,by rw [L.out.2];rfl,(bp.out.own rJ).wide bB,E9⟩):p:=h
def aF (h:p:=by
 go_wp2_with fail;refine (kHv (cx:=[.int .i64 f,.int .i64 F,.int .i64 y3]) (x:=(f,F,y3)) (c1.out.alloc _) bH3 (heap_alloc_new w7 _) (λq=>by have:=(ak.out _ q).2;omega) (kD.flat.own (S:=λ_=>False) (kD.jW (kD.ku HF.out) (kD.jW (kD.ku b5.out) (kD.ku HY.out)))).1 ⟨trivial,trivial,trivial⟩ hi).mono ?_;rintro e w8 ⟨v8,rfl,O8,T8⟩;have b9:=T8.size;simp only [World.size_alloc] at b9;have b7:Hid (∀ j,j < wC.heap.size->¬ B j->w8.heap[j]?=wC.heap[j]?):=yD (λj hj hn=>by
   rw [T8.block j bG7 hn,heap_alloc_old w7 _ bH3,cz.out.block j bH3];exact bg.out.block j hj hn)
 have ch:=yD (ar.out w8 v8 (kIt (f,F,y3) l[k].2.1) _ pK (O8.cast aa.out.symm) dI (Nat.le_trans (kMf _ _) bD0));have cl:=yD ((kHa ch.out).cast (by rw [L.out.1,HR.out]:_=kBk (n,F,x2,x3) f t l));have c2:¬ B b:=λq=>(HB.out b q).2 rfl;have e1:=b7.out b cm c2;have da:Qc w8 b (k * 3 + 1) (.slice ra l[k].2.1.length rp):=by
  have A1:=c8.out;unfold World.cell? at A1 ⊢;simp only [e1];exact A1
 have ah:w8.frozen? ⟨b,k * 3 + 1,none⟩=false:=pE;have E8:Qb w w8:=(((E6.trans (bg.out.below bH3 qX)).trans (cz.out.mono bH3)).alloc bH3 _).trans (T8.below bG7 qX);obtain ⟨qa,qn,qc,cc,cg⟩:=O8.parts;obtain rfl:=cc;clear O8 T8 ch b7 e1 c1;go_wp2;go_ret2;exact ⟨_,by rw [L.out.2];rfl,(cl.out.own rJ).wide bA,E8.setCell (show w.heap.size<=b by have:=Z.1;omega) _⟩):p:=h
def aG (h:p:=by
 have HQ:=yD (jCc hv);clear hv;go_wp2_with fail;refine (kDm (HL.out.below E)).mono ?_;rintro e w8 ⟨v8,rfl,O8,ar⟩;have bx:=yD (O8.cast HQ.out.1.symm);clear O8;go_wp2;go_ret2;exact ⟨v8,by rw [HQ.out.2];rfl,(bx.out.own (by rw [HQ.out.1];exact bc)).wide rR,(tQ E ar)⟩):p:=h
def aH (h:p:=by
 intro j v hj;have aj:j < c'.length:=(List.getElem?_eq_some_iff.1 hj).1;simp only [World.cell?,hb,Option.isSome_none,Bool.false_eq_true,if_false];rw [<- Array.getElem?_toList,hc,List.getElem?_append_right bH3,List.append_assoc,List.getElem?_append_right bH3,List.append_assoc,List.getElem?_append_left bH3];rw [<- hj];congr 1;omega):p:=h
def aI (h:p:=by
 have L:=yD (show kFf (y0,y1,y2,y3,y4) t (xc,xe)=(xc,Z) from (kTs fg.out).trans dM);obtain ⟨N,J⟩:=yM BO;obtain ⟨au,aw⟩:=yM X;obtain ⟨ao,an⟩:=kBw X;go_wp2;refine bodyPost_ret (v:=.agg #[Qn xc,Qs ga Z gc]) mQ rfl ⟨[Qn xc,Qs ga Z gc],rfl,?_,?_⟩
 · rw [L.out];exact ((show kT.own _ _ (xc,Z) _ from kD.kDd (r:=kD.int) (q:=(kD.slice 127 jH)) (cs:=[.int .i64 xc]) (kD.ku ag) (HQ.out.own (by have:=bf.out;unfold Big;omega))).touch sT2 tC).wide fP
 · exact o.trans (Touch.below sT2 o.size bD5)):p:=h
def aJ (h:p:=by
 obtain ⟨b,off,h,_⟩:=kD.kFd ha.1 (i:=0) bH4;cases h):p:=h
def aK (h:p:=by
 intro v2 V hown o hz;have I:=yD hown;obtain ⟨a2,c2,hv⟩:=hown.yw;obtain rfl:=hv;have EG:Qb w V:=Below.trans bI o;clear hown O0 o;go_wp2;go_ret;exact ⟨_,rfl,by simpa using I.out.own bA7,EG⟩):p:=h
def aL (h:p:=by
 have h:=kD.yJ (e:=9) (r:=kD.str) (w:=(w.alloc (.cells #[.slice aa x.length ao] 36)).alloc (.cells #[.slice none 0 0] 36)) (cs:=[]) (xs:=[]) (T:=λ_=>False) (S:=λk=>k=w.heap.size + 1 + 1) bH4 bH4 rfl (λ_ h=>h.elim) bH4;simpa using h):p:=h
def aM (h:p:=by
 refine kD.own.wide (S:=jb (v0.heap.size) (w1.heap.size)) ?_ fE;exact kD.yF (r:=kN) (q:=(kD.pair kD.int (kD.pair kD.int kD.int))) (cs:=[.slice G U.length E]) (ds:=[.int .i64 F,.int .i64 x2,.int .i64 x3]) (x:=U) (y:=(F,x2,x3)) (kD.own.out ab.out fC) (kD.jW (r:=kD.int) (q:=(kD.pair kD.int kD.int)) (cs:=[.int .i64 F]) (ds:=[.int .i64 x2,.int .i64 x3]) (x:=F) (y:=(x2,x3)) (kD.ku N1.out) (kD.jW (r:=kD.int) (q:=kD.int) (cs:=[.int .i64 x2]) (ds:=[.int .i64 x3]) (x:=x2) (y:=x3) (kD.ku o.out) (kD.ku N3.out)))):p:=h
def aN (h:p:=by
 refine kD.own.wide (S:=jb (v0.heap.size) (w3.heap.size)) ?_ fE;exact kD.jh (r:=kN) (q:=(kD.pair (kD.slice 5 kD.byte) (kD.pair kN (kD.pair kD.int kD.int)))) (cs:=[.slice G U.length E]) (ds:=[.slice bb F.length av,.slice N x2.length L,.int .i64 x3,.int .i64 x4]) (x:=U) (y:=(F,x2,x3,x4)) (S:=jb (v0.heap.size) (w3.heap.size)) (kD.own.out ab.out fC) (kD.jh (r:=(kD.slice 5 kD.byte)) (q:=(kD.pair kN (kD.pair kD.int kD.int))) (cs:=[.slice bb F.length av]) (ds:=[.slice N x2.length L,.int .i64 x3,.int .i64 x4]) (x:=F) (y:=(x2,x3,x4)) (S:=jb (v1.heap.size) (w3.heap.size)) (kD.own.out R.out fC) (kD.yF (r:=kN) (q:=(kD.pair kD.int kD.int)) (cs:=[.slice N x2.length L]) (ds:=[.int .i64 x3,.int .i64 x4]) (x:=x2) (y:=(x3,x4)) (kD.own.out ai.out fC) (kD.jW (r:=kD.int) (q:=kD.int) (cs:=[.int .i64 x3]) (ds:=[.int .i64 x4]) (x:=x3) (y:=x4) (kD.ku N3.out) (kD.ku N4.out))) mV mV nX) mV mV nX):p:=h
def aO (h:p:=by
 intro v2 V J O a9;replace J:=kD.kQ.cast J (b4.out.symm);have R:=yD J;have ad:=aa.trans O;clear J I O;go_wp2;go_roundw;case rel=>exact ⟨k + 1,by omega,by go_num,R,ad⟩
 simp [intOf];omega):p:=h
def aP (h:p:=by
 refine kD.kQ.wide (S:=jb wS.heap.size u0.heap.size) (kD.kQ.keep O.out ?_) ?_
 · exact cK
 exact rR):p:=h
def aQ (h:p:=by
 refine kD.own.wide (S:=jb (u0.heap.size) (D.heap.size)) ?_ fE;exact kD.jh (r:=kT) (q:=(kD.pair (kD.slice 93 kH) (kD.pair (kD.slice 121 jD) (kD.pair (kD.slice 144 kY) (kD.pair (kD.slice 166 kR) kD.int))))) (cs:=[.int .i64 x.2.1.1,.slice b4 x.2.1.2.length U]) (ds:=[.slice be a7 ae,.slice bd aq Y,.slice au av L,.slice ao o G,.int .i64 x.2.2.2.2.2.2]) (x:=x.2.1) (y:=x.2.2) (S:=jb (u0.heap.size) (D.heap.size)) (kD.own.out ab.out fC) (kD.jh (r:=(kD.slice 93 kH)) (q:=(kD.pair (kD.slice 121 jD) (kD.pair (kD.slice 144 kY) (kD.pair (kD.slice 166 kR) kD.int)))) (cs:=[.slice be a7 ae]) (ds:=[.slice bd aq Y,.slice au av L,.slice ao o G,.int .i64 x.2.2.2.2.2.2]) (x:=x.2.2.1) (y:=x.2.2.2) (S:=jb (u1.heap.size) (D.heap.size)) (kD.own.out R.out fC) (kD.jh (r:=(kD.slice 121 jD)) (q:=(kD.pair (kD.slice 144 kY) (kD.pair (kD.slice 166 kR) kD.int))) (cs:=[.slice bd aq Y]) (ds:=[.slice au av L,.slice ao o G,.int .i64 x.2.2.2.2.2.2]) (x:=x.2.2.2.1) (y:=x.2.2.2.2) (S:=jb (u2.heap.size) (D.heap.size)) (kD.own.out ai.out fC) (kD.jh (r:=(kD.slice 144 kY)) (q:=(kD.pair (kD.slice 166 kR) kD.int)) (cs:=[.slice au av L]) (ds:=[.slice ao o G,.int .i64 x.2.2.2.2.2.2]) (x:=x.2.2.2.2.1) (y:=x.2.2.2.2.2) (S:=jb (u3.heap.size) (D.heap.size)) (kD.own.out bl.out fC) (kD.yF (r:=(kD.slice 166 kR)) (q:=kD.int) (cs:=[.slice ao o G]) (ds:=[.int .i64 x.2.2.2.2.2.2]) (x:=x.2.2.2.2.2.1) (y:=x.2.2.2.2.2.2) (kD.own.out aj.out fC) (kD.ku b7.out)) rQ rR nX) rQ rR nX) rQ rR nX) rQ rR nX):p:=h
def aR (h:p:=by
 obtain rfl:k=l.length:=bH3;go_wp2;go_ret;exact ⟨_,rfl,kD.kQ.cast I.out bH4,o⟩):p:=h
def aS (h:p:=by
 intro v2 V J O a9;obtain ⟨bm,cz,cd,aw,b2⟩:=J.parts;obtain rfl:=aw;have af:=(O.block _ bH3).trans XW;have N1:=kE af (j:=1) rfl;have NF:=frozen_of_row V (w.heap.size + 1 + 1) 1 _ _ af;have ad:=a3.trans (O.mono bH3);have bh:=yD af;have R:=yD (kD.kQ.cast J (b4.out.symm));clear af J I O o;go_wp2;go_roundw;case rel=>exact ⟨k + 1,_,by omega,by go_num,yD (heap_setCell_same V _ 1 _ _ _ bh.out),yD ((R.out.setCell fH).wide mO),ad.setCell bH4 _,by simp [World.setCell];omega⟩
 simp [intOf];omega):p:=h
def aT (h:p:=by
 go_wp2_with fail;refine (HI.out _ rfl).mono ?_;rintro e w1 ⟨rfl,O⟩;have ab:=yD (I.out.below O);go_wp2;go_ret;exact ⟨_,rfl,ab.out.cast HF.out,Touch.of_below O⟩):p:=h
def aU (h:p:=by
 refine ⟨i + 1,i,by omega,by omega,rfl,by go_num,yD tJ,yD ?_,E1⟩;rw [ae.out,bx.out,show i + 1 - i=0 + 1 by omega];exact G1.out):p:=h
def aV (h:p:=by
 have aj:=yD W;have ag:=yD al;clear W al an ac ax ao;go_wp2;go_roundw;case rel =>
  refine ⟨m + 1,kn + 1,by omega,by omega,by go_num,by go_num,yD pX,yD ?_,yD ((E.out.trans (Touch.of_below E5.out)).trans (ag.out.wide (λj hj=>hj ▸ ad.out)))⟩;rw [L.out,show m + 1 - (kn + 1)=m - kn by omega];exact aj.out
 simp [intOf];omega):p:=h
def aW (h:p:=by
 have L:=yD (ax.out bG9);go_wp2;go_roundw;case rel =>
  refine ⟨m + 1,kn,by omega,by omega,rfl,by go_num,yD wE,yD ?_,yD (E.out.trans (Touch.of_below E5.out))⟩;rw [L.out,show m + 1 - kn=(m - kn) + 1 by omega];exact ac.out.below E5.out
 simp [intOf];omega):p:=h
def aX (h:p:=by
 have H6:=yD h6;have T6:=yD t6;clear h6 t6 HG;go_wp2;go_ret;exact ⟨_,rfl,by rw [ei.out];exact H6.out,E.out.trans (T6.out.wide (λj hj=>hj ▸ ad.out))⟩):p:=h
def aY (h:p:=by
 intro j u hj;have G:(⟨b,off,none⟩:Addr).add j=⟨b,off + j,none⟩:=rH;have aj:=(List.getElem?_eq_some_iff.1 hj).1;rw [G,cell_of_row w b _ cur e (0,0) g1,<- Array.getElem?_toList,g2,List.getElem?_append_right bH3,List.getElem?_append_left bH3];rw [<- hj];congr 1;omega):p:=h
def aZ (h:p:=by
 simp only [Array.size_append,List.size_toArray,size_zeroCells,hzs,I,F,hsize,<- Nat.add_mul];have:xs.length + m + (grownCap w (xs.length + m) cap e - (xs.length + m))=grownCap w (xs.length + m) cap e:=by omega
 rw [this];omega):p:=h
def bC (h:p:=by
 refine .inr ⟨_,_,rfl,λj v hj=>?_⟩;have G:(⟨u.heap.size,0,none⟩:Addr).add j=⟨u.heap.size,j,none⟩:=rH;rw [G,cell_of_row _ _ j cx.toArray e (0,0) (heap_alloc_new u _)];simpa using hj):p:=h
def bE (h:p:=by
 have ch:(u.alloc (.cells cx.toArray e)).heap.size=u.heap.size + 1:=bH4;refine ⟨v',w',hr,⟨(slice e r).wide ho.1 ?_,ho.2⟩,(Touch.of_below E).trans o⟩;rintro k (hk | hk | hk)
 · exact .inl hk.1
 · exact .inr (.inl hk.1)
 exact .inr (.inr ⟨by omega,hk.2⟩)):p:=h
def bF (h:p:=by
 clear o ae;go_upto_region 10 with fail;obtain ⟨ak,ao⟩:=yM R;obtain ⟨L,ac⟩:=yM BK;obtain ⟨al,an⟩:=kBw R;go_wp2;refine bodyPost_ret (v:=.agg #[Qn kc,Qs a3 q c3]) mX rfl ⟨a3,c3,kc,q,rfl,?_,by omega,hc.touch sT2 bH3 bD5,J.jJ sT2 bH3⟩;exact ((kJg HQ.out bH3).touch (T:=λk=>k=w.heap.size) sT2 vD).wide fA):p:=h
def bV (h:p:=by
 obtain ⟨ak,ao⟩:=yM R;obtain ⟨L,ac⟩:=yM BK;obtain ⟨al,an⟩:=kBw R;go_wp2;refine bodyPost_ret (v:=.agg #[Qn kc,Qs ka l kp]) mX rfl ⟨ka,kp,kc,l,rfl,?_,by omega,hc.touch sT2 bH3 bD5,J.jJ sT2 bH3⟩;exact ((kJg (I.out.jo.wide (T:=λk=>w.heap.size < k/\k < w4.heap.size/\k≠V.heap.size) gF) bH3).touch (T:=λk=>k=w.heap.size) sT2 vD).wide fA):p:=h
def dQ (h:p:=by
 obtain ⟨ak,ao,az,a7⟩:=jZ R;obtain ⟨ag,af,Z,O⟩:=jZ B;obtain ⟨al,an,ay,a6⟩:=kAq R;go_wp2;refine bodyPost_ret (v:=.agg #[Qs a ps c,Qn nn,Qn h,Qn lt]) gL rfl ⟨a,c,ps,nn,h,lt,rfl,?_,by omega,hh,ht,hc.touch sT4 bH3 bD5,J.jJ sT4 bH3⟩;exact (I.out.touch sT4 vQ).wide fE):p:=h
def dR (h:p:=by
 simp only [Act.put,zA,zB,zC] at h_;exact h_):p:=h
def dS (h:p:=by
 refine jG ?_;have h_:=bq k na nc ra rc y b v E hk aw hA1 hA2 HN N BB;simp only [Act.put,zA,zB,zC] at h_;exact h_):p:=h
def dW (h:p:=by
 have h_:=I xb ba bc L ac Y ai ae aj ah x ok b v E au o a8 HB bg HQ N BB;simp only [Act.put,zA,zB,zC] at h_;exact h_):p:=h
def dX (h:p:=by
 refine H _ _ E ?_;clear H K;refine jG ?_;have h_:=ad xb ba bc L b v E au o a8 HB N BB;simp only [Act.put,zA,zB,zC] at h_;exact h_):p:=h
def eD (h:p:=by
 refine H _ _ E ?_;clear H K;refine jG ?_;have h_:=ch xb b v E au o N BB;simp only [Act.put,zA,zB,zC] at h_;exact h_):p:=h
def eF (h:p:=by
 go_wp2;refine bodyPost_ret (v:=.tuple #[.agg #[.slice none 0 0],.bool false]) pI rfl ⟨none,0,false,[],rfl,kD.jm,by simp,yD zF.nil,?_⟩;exact E2.setCell bH4 _):p:=h
def eG (h:p:=by
 obtain ⟨al,an⟩:=kBw R;go_wp2;refine bodyPost_ret (v:=.tuple #[.agg #[.slice none 0 0,.slice none 0 0],.bool false]) mP rfl ⟨[.slice none 0 0,.slice none 0 0],([],[]),false,rfl,?_,?_⟩
 · exact kD.jh (r:=zf) (q:=zf) (cs:=[.slice none 0 0]) (ds:=[.slice none 0 0]) (A:=λ_=>False) (B:=λ_=>False) kD.jm kD.jm (λ_ h=>h.elim) (λ_ h=>h.elim) (λ_ h _=>h)
 exact o.trans (Touch.below sT2 o.size bD5)):p:=h
def eH (h:p:=by
 have ak:Qd w7 w 0 (.slice none 0 0):=kE R rfl;have ao:Qd w7 w 1 (.slice none 0 0):=kE R rfl;obtain ⟨al,an⟩:=kBw R;go_wp2;refine bodyPost_ret (v:=.tuple #[.agg #[.slice none 0 0,.slice none 0 0],.bool false]) mP rfl ⟨[.slice none 0 0,.slice none 0 0],([],[]),false,rfl,?_,?_⟩
 · exact kD.jh (r:=zf) (q:=zf) (cs:=[.slice none 0 0]) (ds:=[.slice none 0 0]) (A:=λ_=>False) (B:=λ_=>False) kD.jm kD.jm (λ_ h=>h.elim) (λ_ h=>h.elim) (λ_ h _=>h)
 exact o.trans (Touch.below sT2 o.size bD5)):p:=h
def eO (h:p:=by
 replace E:=(tQ E hb);refine H _ _ E ?_;clear H K;refine jG ?_;have h_:=I ac Y ai ae aj ah sg b v E HQ N BB;simp only [Act.put,zA,zB,zC] at h_;exact h_):p:=h
def eP (h:p:=by
 replace E:=(tQ E hb);refine H _ _ E ?_;clear H K;refine jG ?_;have h_:=U b v E N BB;simp only [Act.put,zA,zB,zC] at h_;exact h_):p:=h
def eQ (h:p:=by
 replace E:=(tQ E hb);refine H _ _ E ?_;clear H K;refine jG ?_;have h_:=T9 b v E N BB;simp only [Act.put,zA,zB,zC] at h_;exact h_):p:=h
def eT (h:p:=by
 obtain ⟨ag,ap,ar,aq,bm⟩:=zD BQ;obtain ⟨ao,an,a9,bb,br⟩:=kBv X;go_wp2;refine bodyPost_ret (v:=.tuple #[.agg #[.slice none 0 0,.slice none 0 0,.slice none 0 0,Qn 0,Qn 0],.bool false]) fI rfl ⟨[.slice none 0 0,.slice none 0 0,.slice none 0 0,Qn 0,Qn 0],([],[],[],0,0),false,rfl,?_,?_,?_⟩
 · exact jAj
 · simp
 exact o.trans (Touch.below sT5 o.size bD5)):p:=h
def eU (h:p:=by
 have h_:=b2 o I n1 X aa n2 ac Y ai ae aj ah x ok b v E a8 bb bg HQ N BB;simp only [Act.put,zA,zB,zC] at h_;exact h_):p:=h
def eX (h:p:=by
 replace E:=(tQ E hb);refine H _ _ E ?_;clear H K;refine jG ?_;have h_:=cz o I n1 X aa n2 b v E a8 bb N BB;simp only [Act.put,zA,zB,zC] at h_;exact h_):p:=h
def eY (h:p:=by
 replace E:=(tQ E hb);refine H _ _ E ?_;clear H K;refine jG ?_;have h_:=dw o I n1 b v E a8 N BB;simp only [Act.put,zA,zB,zC] at h_;exact h_):p:=h
def eZ (h:p:=by
 go_wp2;go_roundw;case rel=>exact ⟨j + 1,ca,cc,cl,by go_num,by omega,yD bC6,dr,BT,yD (HC.out.wide sW),hc,by omega,af⟩
 simp [intOf];omega):p:=h
def gQ (h:p:=by
 go_wp2;refine bodyPost_ret (v:=.tuple #[.agg #[.slice none 0 0],.bool false]) pJ rfl ⟨none,0,false,[],rfl,kD.jm,by simp,yD kCw.nil,?_⟩;exact E2.setCell bH4 _):p:=h
def iA (h:p:=by
 go_wp2;refine bodyPost_ret (v:=.slice a n c) (by simp [results,results136,go_sem]) rfl ⟨a,n,c,s,rfl,HN.out,HL.out,I.out,hc,J⟩):p:=h
def iB (h:p:=by
 clear hQ;replace hc:=hc.touch hT wH vR;replace J:=J.kBz hT (λk q=>q.1);clear hT I HR;go_wp2;go_ret;exact ⟨_,_,O,rfl,ab.out.mono bH3,R.out.jo,hc,J⟩):p:=h
def iC (h:p:=by
 go_wp2;go_ret;exact ⟨_,rfl,by omega,by omega,hc,J⟩):p:=h
def iD (h:p:=by
 have h_:=aa x ba bc L X y ka kc ks z b v E au o a8 HB aw HK bi bf hw N BB;simp only [Act.put,zA,zB,zC] at h_;exact h_):p:=h
def iE (h:p:=by
 replace E:=And.intro (E.1.trans (Touch.of_below hb)) (E.2.below hb);refine H _ _ E ?_;clear H K;refine jG ?_;have h_:=ar x ba bc L X y ka kc ks b v E au o a8 HB aw HK N BB;simp only [Act.put,zA,zB,zC] at h_;exact h_):p:=h
def iF (h:p:=by
 refine H _ _ E ?_;clear H K;refine jG ?_;have h_:=a2 x ba bc L X y b v E au o a8 HB aw N BB;simp only [Act.put,zA,zB,zC] at h_;exact h_):p:=h
def iG (h:p:=by
 replace E:=And.intro (E.1.trans (Touch.of_below hb)) (E.2.below hb);refine H _ _ E ?_;clear H K;refine jG ?_;have h_:=a1 x ba bc L X b v E au o a8 HB h6 HL N BB;simp only [Act.put,zA,zB,zC] at h_;exact h_):p:=h
def iH (h:p:=by
 refine H _ _ E ?_;clear H K;refine jG ?_;have h_:=b0 x ba bc L X v E au o a8 HB h6 HL;simp only [Act.put,zA,zB,zC] at h_;exact h_):p:=h
def iI (h:p:=by
 refine H _ _ E ?_;clear H K;refine jG ?_;have h_:=bb x ba bc L b v E au o a8 HB N BB;simp only [Act.put,zA,zB,zC] at h_;exact h_):p:=h
def iJ (h:p:=by
 replace E:=And.intro (E.1.trans (Touch.of_below hb)) (E.2.below hb);refine H _ _ E ?_;clear H K;refine jG ?_;have h_:=a4 x X b v E au o h6 HL N BB;simp only [Act.put,zA,zB,zC] at h_;exact h_):p:=h
def iK (h:p:=by
 refine H _ _ E ?_;clear H K;refine jG ?_;have h_:=cf x X v E au o h6 HL;simp only [Act.put,zA,zB,zC] at h_;exact h_):p:=h
def iL (h:p:=by
 refine H _ _ E ?_;clear H K;refine jG ?_;have h_:=b9 x b v E au o N BB;simp only [Act.put,zA,zB,zC] at h_;exact h_):p:=h
def iM (h:p:=by
 replace E:=And.intro (E.1.trans (Touch.of_below hb)) (E.2.below hb);refine H _ _ E ?_;clear H K;refine jG ?_;have h_:=ce X b v E h6 HL N BB;simp only [Act.put,zA,zB,zC] at h_;exact h_):p:=h
def iN (h:p:=by
 have h:=kD.yJ (e:=5) (r:=kD.byte) (w:=w.alloc (.cells #[.slice an n.length au] 36)) (cs:=[]) (xs:=[]) (T:=λ_=>False) (S:=λk=>k=w.heap.size + 1) bH4 bH4 rfl (λ_ h=>h.elim) bH4;simpa using h):p:=h
def iO (h:p:=by
 subst hz;have E:=yD (show s=⟨(kIw N).toArray⟩ by
   have h:=HP.out;rw [kXn,List.nil_append] at h;apply ByteArray.ext;rw [<- h])
 go_wp2;go_ret;exact ⟨gH,o⟩):p:=h
def iP (h:p:=by
 have h1:=congrArg List.length HP.out;have h2:=kMv 19 (u:=N) bH3;rw [G.out] at h1;simp only [List.length_append,List.length_cons,List.length_nil] at h1;have h3:s.data.toList.length=s.size:=bH4;omega):p:=h
def iQ (h:p:=by
 go_wp2_with fail;go_roundw;case rel=>exact ⟨u / 10,_,by omega,by go_num,rfl,rF,HX,(o.alloc o.size _)⟩
 simp [intOf];omega):p:=h
def iR (h:p:=by
 have L:=yD (idxOf_miss hlt HN.out);go_wp2;go_ret;exact ⟨jV L.out.symm,(tQ EB o)⟩):p:=h
def iT (h:p:=by
 rintro e w1 ⟨rfl,O⟩;have EG:Qb w w1:=(tQ EB O);clear O;go_wp2;go_ret;exact ⟨rfl,EG⟩):p:=h
def iU (h:p:=by
 rw [HD.out];exact (kD.own.out I.out fC).wide gB):p:=h
def iV (h:p:=by
 intro k hk;have hs:=h2.size;rcases hk with hk | hk | hk
 · have:=hSB k hk;exact ⟨this.1,by omega⟩
 · exact hk.elim
 exact ⟨by omega,hk.2⟩):p:=h
def iW (h:p:=by
 rintro e w1 ⟨rfl,O⟩;have EF:Qb w w1:=Below.trans bI (O.mono bH4);clear O;go_wp2;go_ret;exact ⟨kW bH4,EF⟩):p:=h
def iX (h:p:=by
 intro z hz;rcases List.mem_or_eq_of_mem_set hz with q | q
 · exact hb z q
 rw [q];exact hby):p:=h
def iY (h:p:=by
 simp only [Array.toList_setIfInBounds,List.toList_toArray];rw [List.append_assoc,List.append_assoc,List.set_append_right _ _ bH3,hl,show i * r.n + j - i * r.n=j by omega,List.set_append_left _ _ bH3];simp):p:=h
def iZ (h:p:=by
 generalize U:World.alloc t1 (.cells #[.slice ra r.1.length rp,.int .i64 r.2.1,.int .i64 r.2.2] 144)=t2 at RL O ⊢;have be:=O.size;have V:=O;clear U O;replace X:=X.below V;replace E:=(tQ E V);refine H _ _ E ?_;clear H K V;refine jG ?_;refine kP (k:=7) rfl bG6 rfl (λK H=>?_);have aq:=E.size;obtain ⟨v2,t3,hr,D,L,bd⟩:=jU (B:=wq.heap.size) X RL mV E.size bG7;refine kD.kV _ _ _ rfl bH5 bH5 hr ?_;obtain ⟨a2,n2,c2,aw,bb⟩:=D.parts;obtain rfl:=aw;replace E:=E.trans L;have F:=D;clear X;have X:=F;clear D F RL;refine H _ _ E ?_;clear H K hr L;refine jG ?_;refine kP (k:=11) rfl bG6 rfl (λK H=>?_);have av:=E.size;obtain ⟨v3,t4,hr,D,L,bc⟩:=jU (B:=wq.heap.size) X (b7.out.below E) rQ E.size bG7;refine kD.kV _ _ _ rfl bH5 bH5 hr ?_;obtain ⟨a3,n3,c3,Z,bg⟩:=D.parts;obtain rfl:=Z;replace E:=E.trans L;have F:=D;clear X;have X:=F;clear D F;refine H _ _ E ?_;clear H K hr L;refine jG ?_;refine kL 12 ?_;refine jg bG6 ?_;have ap:=yD (kD.kQ.cast X (show _=Srt.put kCa l r from by rw [aa.out,List.nil_append]));have bh:=E.size;have ao:=yD ((tQ EB (tQ ab E)));clear X aa;go_wp2;go_ret;exact ⟨_,rfl,ap.out.wide rR,ao.out⟩):p:=h
def l6 (h:p:=by
 obtain ⟨v1,t2,hr,X,L,be⟩:=jU (w:=t1) (v:=.slice (some ⟨wS.heap.size,0,none⟩) 0 0) (xs:=[]) (S:=λ_=>False) (B:=t1.heap.size) kD.kQ.void (au.out.below E) (λ_ h=>h.elim) nL bG7;refine kD.kV _ _ _ rfl bH5 bH5 hr ?_;obtain ⟨a1,n1,c1,ac,a8⟩:=X.parts;obtain rfl:=ac;replace RL:=RL.below L;replace E:=(tQ E L);refine H _ _ E ?_;clear H K hr L;refine jG ?_;refine kP (k:=7) rfl bG6 rfl (λK H=>?_);have aq:=E.size;obtain ⟨v2,t3,hr,D,L,bd⟩:=jU (B:=wq.heap.size) X RL mV E.size bG7;refine kD.kV _ _ _ rfl bH5 bH5 hr ?_;obtain ⟨a2,n2,c2,aw,bb⟩:=D.parts;obtain rfl:=aw;replace E:=E.trans L;have F:=D;clear X;have X:=F;clear D F RL;refine H _ _ E ?_;clear H K hr L;refine jG ?_;refine kP (k:=11) rfl bG6 rfl (λK H=>?_);have av:=E.size;obtain ⟨v3,t4,hr,D,L,bc⟩:=jU (B:=wq.heap.size) X (b7.out.below E) rQ E.size bG7;refine kD.kV _ _ _ rfl bH5 bH5 hr ?_;obtain ⟨a3,n3,c3,Z,bg⟩:=D.parts;obtain rfl:=Z;replace E:=E.trans L;have F:=D;clear X;have X:=F;clear D F;refine H _ _ E ?_;clear H K hr L;refine jG ?_;refine kL 12 ?_;refine jg bG6 ?_;have ap:=yD (kD.kQ.cast X (show _=Srt.put kCa l r from by rw [aa.out,List.nil_append]));have bh:=E.size;have ao:=yD ((tQ EB (tQ ab E)));clear X aa;go_wp2;go_ret;exact ⟨_,rfl,ap.out.wide rR,ao.out⟩):p:=h
def l7 (h:p:=by
 obtain ⟨v1,t2,hr,X,L,be⟩:=jU (w:=t1) (v:=.slice (some ⟨t0.heap.size,0,none⟩) 0 0) (xs:=[]) (S:=λ_=>False) (B:=t1.heap.size) kD.kQ.void (au.out.below E) (λ_ h=>h.elim) nL bG7;refine kD.kV _ _ _ rfl bH5 bH5 hr ?_;obtain ⟨a1,n1,c1,ac,a8⟩:=X.parts;obtain rfl:=ac;replace RL:=RL.below L;replace E:=(tQ E L);refine H _ _ E ?_;clear H K hr L;refine jG ?_;refine kP (k:=7) rfl bG6 rfl (λK H=>?_);have aq:=E.size;obtain ⟨v2,t3,hr,D,L,bd⟩:=jU (B:=wq.heap.size) X RL mV E.size bG7;refine kD.kV _ _ _ rfl bH5 bH5 hr ?_;obtain ⟨a2,n2,c2,aw,bb⟩:=D.parts;obtain rfl:=aw;replace E:=E.trans L;have F:=D;clear X;have X:=F;clear D F RL;refine H _ _ E ?_;clear H K hr L;refine jG ?_;refine kP (k:=11) rfl bG6 rfl (λK H=>?_);have av:=E.size;obtain ⟨v3,t4,hr,D,L,bc⟩:=jU (B:=wq.heap.size) X (b7.out.below E) rQ E.size bG7;refine kD.kV _ _ _ rfl bH5 bH5 hr ?_;obtain ⟨a3,n3,c3,Z,bg⟩:=D.parts;obtain rfl:=Z;replace E:=E.trans L;have F:=D;clear X;have X:=F;clear D F;refine H _ _ E ?_;clear H K hr L;refine jG ?_;refine kL 12 ?_;refine jg bG6 ?_;have ap:=yD (kD.kQ.cast X (show _=Srt.put kCa l r from by rw [aa.out,List.nil_append]));have bh:=E.size;have ao:=yD ((tQ EB (tQ ab E)));clear X aa;go_wp2;go_ret;exact ⟨_,rfl,ap.out.wide rR,ao.out⟩):p:=h
def l8 (h:p:=by
 generalize U:World.alloc t1 (.cells #[.slice ra r.1.length rp,.int .i64 r.2.1,.int .i64 r.2.2] 144)=t2 at RL O ⊢;have be:=O.size;have V:=O;clear U O;replace X:=X.below V;replace E:=(tQ E V);refine H _ _ E ?_;clear H K V;refine jG ?_;refine kP (k:=7) rfl bG6 rfl (λK H=>?_);have aq:=E.size;obtain ⟨v2,t3,hr,D,L,bd⟩:=jU (B:=wq.heap.size) X RL mV E.size bG7;refine kD.kV _ _ _ rfl bH5 bH5 hr ?_;obtain ⟨a2,n2,c2,aw,bb⟩:=D.parts;obtain rfl:=aw;replace E:=E.trans L;have F:=D;clear X;have X:=F;clear D F RL;refine H _ _ E ?_;clear H K hr L;refine jG ?_;refine kP (k:=11) rfl bG6 rfl (λK H=>?_);have av:=E.size;obtain ⟨v3,t4,hr,D,L,bc⟩:=jU (B:=wq.heap.size) X ((b7 _).out.below E) rQ E.size bG7;refine kD.kV _ _ _ rfl bH5 bH5 hr ?_;obtain ⟨a3,n3,c3,Z,bg⟩:=D.parts;obtain rfl:=Z;replace E:=E.trans L;have F:=D;clear X;have X:=F;clear D F;refine H _ _ E ?_;clear H K hr L;refine jG ?_;refine kL 12 ?_;refine jg bG6 ?_;have ap:=yD (kD.kQ.cast X (show _=Srt.put kCa l r from by rw [aa.out,List.nil_append]));have bh:=E.size;have ao:=yD ((tQ EB (tQ ab E)));clear X aa;go_wp2;go_ret;exact ⟨_,rfl,ap.out.wide rR,ao.out⟩):p:=h
def l9 (h:p:=by
 obtain ⟨v1,t2,hr,X,L,be⟩:=jU (w:=t1) (v:=.slice (some ⟨wS.heap.size,0,none⟩) 0 0) (xs:=[]) (S:=λ_=>False) (B:=t1.heap.size) kD.kQ.void (au.out.below E) (λ_ h=>h.elim) nL bG7;refine kD.kV _ _ _ rfl bH5 bH5 hr ?_;obtain ⟨a1,n1,c1,ac,a8⟩:=X.parts;obtain rfl:=ac;replace RL:=RL.below L;replace E:=(tQ E L);refine H _ _ E ?_;clear H K hr L;refine jG ?_;refine kP (k:=7) rfl bG6 rfl (λK H=>?_);have aq:=E.size;obtain ⟨v2,t3,hr,D,L,bd⟩:=jU (B:=wq.heap.size) X RL mV E.size bG7;refine kD.kV _ _ _ rfl bH5 bH5 hr ?_;obtain ⟨a2,n2,c2,aw,bb⟩:=D.parts;obtain rfl:=aw;replace E:=E.trans L;have F:=D;clear X;have X:=F;clear D F RL;refine H _ _ E ?_;clear H K hr L;refine jG ?_;refine kP (k:=11) rfl bG6 rfl (λK H=>?_);have av:=E.size;obtain ⟨v3,t4,hr,D,L,bc⟩:=jU (B:=wq.heap.size) X ((b7 _).out.below E) rQ E.size bG7;refine kD.kV _ _ _ rfl bH5 bH5 hr ?_;obtain ⟨a3,n3,c3,Z,bg⟩:=D.parts;obtain rfl:=Z;replace E:=E.trans L;have F:=D;clear X;have X:=F;clear D F;refine H _ _ E ?_;clear H K hr L;refine jG ?_;refine kL 12 ?_;refine jg bG6 ?_;have ap:=yD (kD.kQ.cast X (show _=Srt.put kCa l r from by rw [aa.out,List.nil_append]));have bh:=E.size;have ao:=yD ((tQ EB (tQ ab E)));clear X aa;go_wp2;go_ret;exact ⟨_,rfl,ap.out.wide rR,ao.out⟩):p:=h
def lC (h:p:=by
 obtain ⟨v1,t2,hr,X,L,be⟩:=jU (w:=t1) (v:=.slice (some ⟨t0.heap.size,0,none⟩) 0 0) (xs:=[]) (S:=λ_=>False) (B:=t1.heap.size) kD.kQ.void (au.out.below E) (λ_ h=>h.elim) nL bG7;refine kD.kV _ _ _ rfl bH5 bH5 hr ?_;obtain ⟨a1,n1,c1,ac,a8⟩:=X.parts;obtain rfl:=ac;replace RL:=RL.below L;replace E:=(tQ E L);refine H _ _ E ?_;clear H K hr L;refine jG ?_;refine kP (k:=7) rfl bG6 rfl (λK H=>?_);have aq:=E.size;obtain ⟨v2,t3,hr,D,L,bd⟩:=jU (B:=wq.heap.size) X RL mV E.size bG7;refine kD.kV _ _ _ rfl bH5 bH5 hr ?_;obtain ⟨a2,n2,c2,aw,bb⟩:=D.parts;obtain rfl:=aw;replace E:=E.trans L;have F:=D;clear X;have X:=F;clear D F RL;refine H _ _ E ?_;clear H K hr L;refine jG ?_;refine kP (k:=11) rfl bG6 rfl (λK H=>?_);have av:=E.size;obtain ⟨v3,t4,hr,D,L,bc⟩:=jU (B:=wq.heap.size) X ((b7 _).out.below E) rQ E.size bG7;refine kD.kV _ _ _ rfl bH5 bH5 hr ?_;obtain ⟨a3,n3,c3,Z,bg⟩:=D.parts;obtain rfl:=Z;replace E:=E.trans L;have F:=D;clear X;have X:=F;clear D F;refine H _ _ E ?_;clear H K hr L;refine jG ?_;refine kL 12 ?_;refine jg bG6 ?_;have ap:=yD (kD.kQ.cast X (show _=Srt.put kCa l r from by rw [aa.out,List.nil_append]));have bh:=E.size;have ao:=yD ((tQ EB (tQ ab E)));clear X aa;go_wp2;go_ret;exact ⟨_,rfl,ap.out.wide rR,ao.out⟩):p:=h
def lD (h:p:=by
 have V:(Srt.sorted kCa ((l.take k).filter (kKr n l))).length<=16777216:=gU;generalize Srt.sorted kCa ((l.take k).filter (kKr n l))=H at *;obtain ⟨F,Z⟩:∃ F:List Int,F=H.map (λr=>r.2.1):=⟨_,rfl⟩;have el:=yD Z;clear Z;have al:on<=16777216:=bB7;clear V au a4 av hc bx;obtain ⟨wz,ai⟩:∃ wz,wz=wr:=⟨_,rfl⟩;subst ai;go_wp2;go_loopw [9,10] (λv i wx=>∃ (j:Nat),j<=on/\i=.int .i64 j/\Hid (kD.kQ 3 kD.int wx v (F.take j) (jb wz.heap.size wx.heap.size))/\Qb wz wx) (λ_ i _=>on - (intOf i).toNat);case atStart=>exact ⟨0,Nat.zero_le _,rfl,yD kD.kQ.void,bI⟩
 obtain ⟨j,hj,rfl,HI,af⟩:=hrel;obtain ⟨ia,bd,ic,hi,aa⟩:=HI.out.parts;obtain rfl:=hi;have bg:=af.size;by_cases a9:j < on
 · have hkl:j < H.length:=bB7;have hil:bd<=16777216:=sO;obtain ⟨qb,qo,rfl,Y,ae,ah,qr,A0,A1,A2⟩:=kD.kAn (I.out.kBi.below af) hkl rfl;have b4:=yD (show F.take (j + 1)=F.take j++[H[j].2.1] by (have hl:j < F.length:=by rw [el.out];simpa using hkl);rw [List.take_succ_eq_append_getElem hl];simp [el.out]);generalize H[j]=x at *;obtain ⟨a6,G,ag,ak,am,ar⟩:=jS (show kY.raw w _ x from qr);simp only [List.cons.injEq,and_true] at G;obtain ⟨rfl,rfl,rfl⟩:=G;clear ag ak ar qr;have bi:(F.take j).length<=16777216:=bC7;go_wp2_with (at_builtin;refine kD.jP rfl _ _ 49 rfl (r:=kD.int) (e:=3) underlying49 kAm rfl bH2 bH2 (B:=wz.heap.size) HI.out bH5 bH5 rfl (kD.ku am _) rfl (λ_ _ h=>h) rQ (λ_ h=>h.elim) bH3 bH3 ?_);intro v5 w5 hown bh bz;have aj:=yD (kD.kQ.cast hown b4.out.symm);have bb:=af.trans bh;clear hown bh;go_wp2;go_roundw;case rel=>exact ⟨j + 1,by omega,by go_num,aj,bb⟩
   simp [intOf];omega
 obtain rfl:j=on:=bH3;have HF:=yD (HI.out.cast (show _=kEm l n by rw [U.out,<- el.out,List.take_of_length_le (by rw [el.out];simp;have:=a1.out;omega)]));have ba:¬ (j:Int) < j:=bH3;go_wp2;go_ret;exact ⟨_,rfl,(HF.out.own nV).wide nE,(tQ EG af)⟩):p:=h
def lF (h:p:=by
 have aj:=(List.getElem?_eq_some_iff.1 hj).1;rw [cell_of_row w b j _ 91 (0,0) h3];simp only [List.getElem?_toArray];rw [List.getElem?_append_left aj];exact hj):p:=h
def lG (h:p:=by
 obtain rfl:c0=_:=by simpa using he
 clear he hr;by_cases hp:p x[k]=true
 · rw [hp] at C;have HC:=yD C;clear C;have L:=yD (idxOf_hit hlt hp HN.out);clear hp;go_wp2_with fail;refine HC.out.mono ?_;rintro e w1 ⟨rfl,O⟩;go_wp2;go_ret;exact ⟨jV L.out.symm,(tQ o O)⟩
 have hp:p x[k]=false:=bE4;rw [hp] at C;have HC:=yD C;clear C;have L:=yD (kAs hlt hp HN.out);clear hp;go_wp2_with fail;refine HC.out.mono ?_;rintro e w1 ⟨rfl,O⟩;go_wp2;go_roundw;case rel=>exact ⟨k + 1,by omega,by go_num,L.out,(tQ o O)⟩
 simp [intOf];omega):p:=h
def lH (h:p:=by
 have L:=yD (idxOf_miss hlt HN.out);go_wp2;go_ret;exact ⟨jV L.out.symm,o⟩):p:=h
def lI (h:p:=by
 rintro e w1 ⟨rfl,O⟩;go_wp2;go_ret;exact ⟨rfl,O⟩):p:=h
def lJ (h:p:=by
 go_wp2;go_loopw [8] (λi wr=>∃ k:Nat,k<=x.length/\i=.int .i64 k/\(∀ j,(h:j < k)->(h2:j < x.length)->p x[j]=false)/\Qb w wr) (λi _=>x.length - (intOf i).toNat);case atStart=>exact ⟨0,Nat.zero_le _,rfl,λ_ h=>by omega,bR⟩
 obtain ⟨k,hk,rfl,hno,o⟩:=hrel;have HN:=yD hno;clear hno;by_cases hlt:k < x.length
 · obtain ⟨ba,G,rfl,c0,c1,c2,hr,A0,A1,A2⟩:=kD.kAn (ha.below o) hlt rfl;have C:=au.out wr o k hlt _ hr;by_cases hp:p x[k]=true
   · rw [hp] at C;have HC:=yD C;clear C;have L:=yD (idxOf_hit hlt hp HN.out);clear hp;go_wp2_with fail;refine HC.out.mono ?_;rintro e w1 ⟨rfl,O⟩;go_wp2;go_ret;exact ⟨jV L.out.symm,(tQ o O)⟩
   have hp:p x[k]=false:=bE4;rw [hp] at C;have HC:=yD C;clear C;have L:=yD (kAs hlt hp HN.out);clear hp;go_wp2_with fail;refine HC.out.mono ?_;rintro e w1 ⟨rfl,O⟩;go_wp2;go_roundw;case rel=>exact ⟨k + 1,by omega,by go_num,L.out,(tQ o O)⟩
   simp [intOf];omega
 have L:=yD (idxOf_miss hlt HN.out);go_wp2;go_ret;exact ⟨jV L.out.symm,o⟩):p:=h
def lK (h:p:=by
 have C:=au.out wr o k hlt _ hr;by_cases hp:p x[k]=true
 · rw [hp] at C;have HC:=yD C;clear C;have L:=yD (idxOf_hit hlt hp HN.out);clear hp;go_wp2_with fail;refine HC.out.mono ?_;rintro e w1 ⟨rfl,O⟩;go_wp2;go_ret;exact ⟨jV L.out.symm,(tQ o O)⟩
 have hp:p x[k]=false:=bE4;rw [hp] at C;have HC:=yD C;clear C;have L:=yD (kAs hlt hp HN.out);clear hp;go_wp2_with fail;refine HC.out.mono ?_;rintro e w1 ⟨rfl,O⟩;go_wp2;go_roundw;case rel=>exact ⟨k + 1,by omega,by go_num,L.out,(tQ o O)⟩
 simp [intOf];omega):p:=h
def lM (h:p:=by
 rintro e w1 ⟨rfl,O⟩;have EF:Qb w w1:=Below.trans bI (O.mono bH4);clear O;by_cases h:idxOf (jQ n) l < 0
 · have L:=yD (kZw h);generalize idxOf (jQ n) l=q at *;go_wp2;go_ret;exact ⟨jV L.out.symm,EF⟩
 obtain ⟨k,hk,hi⟩:=kAz h;have L:=yD (kKn hk hi);rw [hi] at h ⊢;clear hi;obtain ⟨ba,G,rfl,c0,c1,c2,hr,A0,A1,A2⟩:=kD.kAn (HL.out.below EF) hk rfl;obtain ⟨v0,v1,he,p0,p1,p2,F⟩:=jR hr;simp only [List.cons.injEq,and_true] at he;obtain ⟨rfl,rfl,rfl⟩:=he;clear hr p0 p1 p2 F;generalize l[k]=y at *;have dl:=Int.ofNat_lt.2 hk;have ce:=Int.natCast_nonneg k;go_wp2;go_ret;exact ⟨jV L.out.symm,EF⟩):p:=h
def lN (h:p:=by
 have ab:=(tQ o E);go_wp2;go_roundw;case rel=>exact ⟨k + 1,by go_num,by omega,yD (ah.out a8.out),ab⟩
 simp [intOf];omega):p:=h
def lQ (h:p:=by
 have ab:=(tQ o E);go_wp2;go_roundw;case rel=>exact ⟨m + 1,by go_num,by omega,HH,ab⟩
 simp [intOf];omega):p:=h
def lS (h:p:=by
 rintro e w4 ⟨rfl,ad⟩;replace K0:=cL ad K0;have E4:=(tQ E1 ad);have b1:=ad.size;replace I:=yD ((I.out.below ad).wide (T:=jb w.heap.size w4.heap.size) rQ);clear ad E1;by_cases hk:idxOf (jQ n) l < 0
 · have L:=yD (kQg (t:=t) hk);have dl:¬ (0<=idxOf (jQ n) l):=bH3;generalize hq:idxOf (jQ n) l=q at *;clear hq;go_wp2;go_ret;exact ⟨_,rfl,(I.out.cast L.out.symm).own bB0,E4⟩
 obtain ⟨k,hkl,ac⟩:=kAz hk;have au:=yD ac;rw [ac];clear hk ac;obtain ⟨b,cap,hv,Z,a8,a4,U⟩:=kD.zy I.out hkl;simp only [Value.slice.injEq] at hv;obtain ⟨rfl,o,rfl⟩:=hv;have bt:k < on:=bH3;have b4:(0:Int)<=k:=bH3;have a2:(k:Int) < on:=bH3;have ax:=yD (I.out.own bc);obtain ⟨c0,c1,c2,hr,A0,A1,A2⟩:=kD.at3 ax.out.raw hkl rfl;clear hr;have ah:=kD.kGg I.out bH3 (k * 3 + 2);have L:=yD (kGy (t:=t) au.out hkl);obtain ⟨s1,s2⟩:=kD.kEv (i:=k) (j:=2) (p:=k * 3 + 2) (u:=.int .i64 t) I.out bc hkl bH2 (λh=>kFk _ HF.out h) (show kH.bdd Big (kAe l[k] t) from kD.yX ax.out.rd hkl) rfl;have ae:=yD (s1.cast L.out.symm);clear s1 s2 o;go_wp2;go_ret;exact ⟨_,rfl,(ae.out.own sD).wide mO,E4.setCell Z.1 _⟩):p:=h
def lT (h:p:=by
 have EG:=(tQ EB E);go_wp2;go_ret;exact ⟨kW L.out.symm,EG⟩):p:=h
def lU (h:p:=by
 constructor
 · rintro ⟨h1,h2,h3⟩;exact ⟨h3,h1,h2⟩
 rintro ⟨h1,h2,h3⟩;exact ⟨h2,h3,h1⟩):p:=h
def lV (h:p:=by
 rintro e w1 ⟨rfl,O⟩;have EF:Qb w w1:=Below.trans bI (O.mono bH4);clear O;by_cases h:idxOf (yf n f) l < 0
 · have L:=yD (jAd h);go_wp2;go_ret;exact ⟨jV L.out.symm,EF⟩
 obtain ⟨k,hk,hi⟩:=kHb h;have L:=yD (kXl hk hi);rw [hi] at h ⊢;clear hi;obtain ⟨ba,G,rfl,c0,c1,c2,hr,A0,A1,A2⟩:=kD.kAn (HL.out.below EF) hk rfl;obtain ⟨v0,he,_⟩:=yV hr;simp only [List.cons.injEq,and_true] at he;obtain ⟨rfl,rfl,rfl⟩:=he;clear hr;generalize l[k]=y at *;have dl:=Int.ofNat_lt.2 hk;go_wp2;go_ret;exact ⟨jV L.out.symm,EF⟩):p:=h
def lW (h:p:=by
 go_wp2;go_ret;exact ⟨jV L.out.symm,rfl⟩):p:=h
def lX (h:p:=by
 have L:=yD (show eqN a b=false by unfold eqN;simp;rintro rfl;exact hl rfl);have hz:((a.length:Int) != b.length)=true:=bG7;have bo:(a.length != b.length)=true:=bD8;go_wp2;go_ret;exact ⟨kW L.out.symm,bR⟩):p:=h
def lY (h:p:=by
 have EG:=(tQ o E);cases hz:(x.toList==y.toList)
 · have L:=yD (show eqN a b=false by
     rw [kSu] at hz;simp at hz;unfold eqN;simp;exact HD.out hz)
   clear HD HX;go_wp2;go_ret;exact ⟨kW L.out.symm,EG⟩
 have L:=yD (HX.out (by rw [kSu] at hz;simpa using hz));clear HD HX;go_wp2;go_roundw;case rel=>exact ⟨k + 1,by omega,by go_num,L,EG⟩
 simp [intOf];omega):p:=h
def lZ (h:p:=by
 have L:=yD (show eqN a b=true by unfold eqN;simp;exact kBa HN.out hlt HL.out);go_wp2;go_ret;exact ⟨kW L.out.symm,o⟩):p:=h
def mG (h:p:=by
 have bg:Hid (((F.take k).filter (λz=>!(z==ex))).length<=Big):=yD fM;go_wp2;go_ret;exact ⟨_,rfl,by rw [U.out];exact (HI.out.own bg.out).wide rR,(tQ E4 o)⟩):p:=h
def mW (h:p:=by
 go_wp2;go_ret;exact ⟨kW L.out.symm,rfl⟩):p:=h
def nD (h:p:=by
 have V:=O;clear U O;replace X:=X.below V;replace E:=(tQ E V);refine H _ _ E ?_;clear H K V;refine jG ?_;refine kP (k:=10) rfl bG6 rfl (λK H=>?_);have aq:=E.size;obtain ⟨v2,t3,hr,D,L,bd⟩:=jv (B:=wq.heap.size) X RL mV E.size bG7;refine kD.kV _ _ _ rfl bH5 bH5 hr ?_;obtain ⟨a2,n2,c2,aw,bb⟩:=D.parts;obtain rfl:=aw;replace E:=E.trans L;have F:=D;clear X;have X:=F;clear D F RL;refine H _ _ E ?_;clear H K hr L;refine jG ?_;refine kP (k:=14) rfl bG6 rfl (λK H=>?_);have av:=E.size;obtain ⟨v3,t4,hr,D,L,bc⟩:=jv (B:=wq.heap.size) X (b7.out.below E) rQ E.size bG7;refine kD.kV _ _ _ rfl bH5 bH5 hr ?_;obtain ⟨a3,n3,c3,Z,bg⟩:=D.parts;obtain rfl:=Z;replace E:=E.trans L;have F:=D;clear X;have X:=F;clear D F;refine H _ _ E ?_;clear H K hr L;refine jG ?_;refine kL 15 ?_;refine jg bG6 ?_;have ap:=yD (kD.kQ.cast X (show _=Srt.sorted (zG l n) (fs.take (i + 1)) from by rw [aa.out,List.nil_append]));have bh:=E.size;have bn:=ab.size;have ao:=yD (ab.trans (E.mono (ab.size)));clear X aa;go_wp2;go_roundw;case rel=>exact ⟨i + 1,by omega,by go_num,yD (ap.out.wide rR),(tQ o ao.out)⟩
 simp [intOf];omega):p:=h
def nS (h:p:=by
 obtain ⟨a1,n1,c1,ac,a8⟩:=X.parts;obtain rfl:=ac;replace RL:=RL.below L;replace E:=(tQ E L);refine H _ _ E ?_;clear H K hr L;refine jG ?_;refine kP (k:=10) rfl bG6 rfl (λK H=>?_);have aq:=E.size;obtain ⟨v2,t3,hr,D,L,bd⟩:=jv (B:=wq.heap.size) X RL mV E.size bG7;refine kD.kV _ _ _ rfl bH5 bH5 hr ?_;obtain ⟨a2,n2,c2,aw,bb⟩:=D.parts;obtain rfl:=aw;replace E:=E.trans L;have F:=D;clear X;have X:=F;clear D F RL;refine H _ _ E ?_;clear H K hr L;refine jG ?_;refine kP (k:=14) rfl bG6 rfl (λK H=>?_);have av:=E.size;obtain ⟨v3,t4,hr,D,L,bc⟩:=jv (B:=wq.heap.size) X (b7.out.below E) rQ E.size bG7;refine kD.kV _ _ _ rfl bH5 bH5 hr ?_;obtain ⟨a3,n3,c3,Z,bg⟩:=D.parts;obtain rfl:=Z;replace E:=E.trans L;have F:=D;clear X;have X:=F;clear D F;refine H _ _ E ?_;clear H K hr L;refine jG ?_;refine kL 15 ?_;refine jg bG6 ?_;have ap:=yD (kD.kQ.cast X (show _=Srt.sorted (zG l n) (fs.take (i + 1)) from by rw [aa.out,List.nil_append]));have bh:=E.size;have bn:=ab.size;have ao:=yD (ab.trans (E.mono (ab.size)));clear X aa;go_wp2;go_roundw;case rel=>exact ⟨i + 1,by omega,by go_num,yD (ap.out.wide rR),(tQ o ao.out)⟩
 simp [intOf];omega):p:=h
def nT (h:p:=by
 have V:=O;clear U O;replace X:=X.below V;replace E:=(tQ E V);refine H _ _ E ?_;clear H K V;refine jG ?_;refine kP (k:=10) rfl bG6 rfl (λK H=>?_);have aq:=E.size;obtain ⟨v2,t3,hr,D,L,bd⟩:=jv (B:=wq.heap.size) X RL mV E.size bG7;refine kD.kV _ _ _ rfl bH5 bH5 hr ?_;obtain ⟨a2,n2,c2,aw,bb⟩:=D.parts;obtain rfl:=aw;replace E:=E.trans L;have F:=D;clear X;have X:=F;clear D F RL;refine H _ _ E ?_;clear H K hr L;refine jG ?_;refine kP (k:=14) rfl bG6 rfl (λK H=>?_);have av:=E.size;obtain ⟨v3,t4,hr,D,L,bc⟩:=jv (B:=wq.heap.size) X ((b7 _).out.below E) rQ E.size bG7;refine kD.kV _ _ _ rfl bH5 bH5 hr ?_;obtain ⟨a3,n3,c3,Z,bg⟩:=D.parts;obtain rfl:=Z;replace E:=E.trans L;have F:=D;clear X;have X:=F;clear D F;refine H _ _ E ?_;clear H K hr L;refine jG ?_;refine kL 15 ?_;refine jg bG6 ?_;have ap:=yD (kD.kQ.cast X (show _=Srt.sorted (zG l n) (fs.take (i + 1)) from by rw [aa.out,List.nil_append]));have bh:=E.size;have bn:=ab.size;have ao:=yD (ab.trans (E.mono (ab.size)));clear X aa;go_wp2;go_roundw;case rel=>exact ⟨i + 1,by omega,by go_num,yD (ap.out.wide rR),(tQ o ao.out)⟩
 simp [intOf];omega):p:=h
def nW (h:p:=by
 obtain ⟨a1,n1,c1,ac,a8⟩:=X.parts;obtain rfl:=ac;replace RL:=RL.below L;replace E:=(tQ E L);refine H _ _ E ?_;clear H K hr L;refine jG ?_;refine kP (k:=10) rfl bG6 rfl (λK H=>?_);have aq:=E.size;obtain ⟨v2,t3,hr,D,L,bd⟩:=jv (B:=wq.heap.size) X RL mV E.size bG7;refine kD.kV _ _ _ rfl bH5 bH5 hr ?_;obtain ⟨a2,n2,c2,aw,bb⟩:=D.parts;obtain rfl:=aw;replace E:=E.trans L;have F:=D;clear X;have X:=F;clear D F RL;refine H _ _ E ?_;clear H K hr L;refine jG ?_;refine kP (k:=14) rfl bG6 rfl (λK H=>?_);have av:=E.size;obtain ⟨v3,t4,hr,D,L,bc⟩:=jv (B:=wq.heap.size) X ((b7 _).out.below E) rQ E.size bG7;refine kD.kV _ _ _ rfl bH5 bH5 hr ?_;obtain ⟨a3,n3,c3,Z,bg⟩:=D.parts;obtain rfl:=Z;replace E:=E.trans L;have F:=D;clear X;have X:=F;clear D F;refine H _ _ E ?_;clear H K hr L;refine jG ?_;refine kL 15 ?_;refine jg bG6 ?_;have ap:=yD (kD.kQ.cast X (show _=Srt.sorted (zG l n) (fs.take (i + 1)) from by rw [aa.out,List.nil_append]));have bh:=E.size;have bn:=ab.size;have ao:=yD (ab.trans (E.mono (ab.size)));clear X aa;go_wp2;go_roundw;case rel=>exact ⟨i + 1,by omega,by go_num,yD (ap.out.wide rR),(tQ o ao.out)⟩
 simp [intOf];omega):p:=h
def o5 (h:p:=by
 go_wp2;go_ret;have b1:=ad.size;have bu:=E.size;refine ⟨_,rfl,((aq.wide (T:=jb w.heap.size u4.heap.size) ?_).cast L.out.symm).own cO,(tQ E2 D)⟩;rintro j (hj | hj)
 · exact ⟨hj.1,by have:=hj.2;have:=D.size;omega⟩
 exact ⟨by omega,hj.2⟩):p:=h
def o6 (h:p:=by
 have L:=yD (show decide (a=b)=false by simp;rintro rfl;exact hl rfl);have hz:((a.length:Int) != b.length)=true:=bG7;have bo:(a.length != b.length)=true:=bD8;go_wp2;go_ret;exact ⟨kW L.out.symm,bR⟩):p:=h
def o7 (h:p:=by
 have L:=yD (show decide (a=b)=true by simp;exact kBa HN.out hlt HL.out);go_wp2;go_ret;exact ⟨kW L.out.symm,o⟩):p:=h
def o8 (h:p:=by
 have EF:=(tQ EB ap);by_cases G:24 < q.length
 · obtain ⟨_,b,off,rfl,br,a8⟩:=kD.kGf a5.out bH3;have ad:=(kD.kCt a5.out.raw);have F:(24:Int) < q.length:=bH3;have ae:(1:Int)<=q.length:=bH3;have dp:¬ o=1:=bH3;have aa:(q.length:Int)<=o:=bH3;have ag:o<=9223372036854775807:=ad.2;have HD:=yD (kD.kQx a5.out (k:=1) bH3);have U:Hid (kAu l n x=q.drop 1):=yD (by unfold kAu;rw [D.out,if_pos G]);clear a5 D;go_wp2;go_ret;refine ⟨_,rfl,?_,EF⟩;rw [U.out];exact HD.out
 have F:¬ (24:Int) < q.length:=bH3;have U:Hid (kAu l n x=q):=yD (by unfold kAu;rw [D.out,if_neg G]);clear D;go_wp2;go_ret;refine ⟨_,rfl,?_,EF⟩;rw [U.out];exact a5.out):p:=h
def o9 (h:p:=by
 clear o;clear OA;replace X:=X.below hb;replace RL:=RL.below hb;replace E:=(tQ E hb);refine H _ _ E ?_;clear H K hb;refine jG ?_;refine kP (k:=6) rfl bG6 rfl (λK H=>?_);have bn:=E.size;obtain ⟨v_,t4,hr,D,L,bc,R⟩:=kD.kBo (P:=prog) (t:=49) (ty:=49) (r:=kD.int) (e:=3) (w:=t3) (B:=N.heap.size) underlying49 kAm rfl bH2 bH2 kD.yu X (OB.own bD0).rd dL E.size bS;refine kD.kV _ _ _ rfl bH5 bH5 hr ?_;obtain ⟨bj,au,ak,Y,ag⟩:=D.parts;obtain rfl:=Y;replace RL:=RL.keep bM;replace E:=E.trans L;clear hr L R X OB;have F:=D;clear D;refine H _ _ E ?_;clear H K bn;refine jG ?_;refine kP (k:=10) rfl bG6 rfl (λK H=>?_);have bn:=E.size;obtain ⟨v_,t5,hr,D,L,ar,R⟩:=kD.kBo (P:=prog) (t:=49) (ty:=49) (r:=kD.int) (e:=3) (w:=t4) (B:=N.heap.size) underlying49 kAm rfl bH2 bH2 kD.yu F (RL.own vL).rd dL E.size bS;refine kD.kV _ _ _ rfl bH5 bH5 hr ?_;obtain ⟨bu,ao,aj,Y,af⟩:=D.parts;obtain rfl:=Y;replace E:=E.trans L;clear hr L R F RL;have ac:=D;clear D;refine H _ _ E ?_;clear H K bn;refine jG ?_;refine kL 11 ?_;refine jg bG6 ?_;go_wp2;go_ret;exact ⟨_,rfl,(ac.cast bG5).wide rR,(tQ EB E)⟩):p:=h
def oC (h:p:=by
 refine wpOp_mono go ?_;unfold wpOp;simp only [h0];exact h):p:=h
def oD (h:p:=by
 refine ⟨ad,?_⟩;by_cases I:j=i
 · subst I;exact hy.wpOp hi hS ⟨hS,H⟩
 · have:=X _ _ _ H j (ready_mono hj I);omega):p:=h
def oF (h:p:=by
 refine ⟨ad,?_⟩;by_cases I:j=i
 · subst I;exact hy.wpOp hi hS ⟨hS,H⟩
 · have h1:=(H.2 j (ready_mono hj I)).2;obtain ⟨W,J,N,G⟩:=mem_ready.1 hj;have Z:∀ e∈J.after,Region.binds md e=true->e.on≠i:=λe he hb aa=>by
     have h1:=G e he hb;rw [aa,getD_both F] at h1;cases h1
   have h2:=wpOp_putIf N (R j J N I W Z) (λcs b=>E i V cs b hi) (λcs b=>E j J cs b N) hQ hy h1;have U:∀ k ok,ops[k]?=some ok->k≠i->(listed.setIfInBounds j true).getD k true=false ->
       (∀ e∈ok.after,Region.binds md e=true->e.on≠i)->V.apart ops ok=true:=λk ok hk ac F hno=>by
     refine R k ok hk ac ?_ hno
     by_cases hjk:j=k
     · subst hjk;exact W
     · rw [getD_set_ne true hjk] at F;exact F
   refine wpOp_mono (λa' w' h3=>⟨h3.2.1,ih (listed.setIfInBounds j true) a' w' (inv.set hj ad) U (ready_mono hr (Ne.symm I)) h3.1 h3.2.1 ?_⟩) h2;rw [Array.setIfInBounds_comm _ _ I];exact h3.2.2):p:=h
def oG (h:p:=by
 have:l[i]?=some l.toArray[i]:=by simp
 simp only [jB,this]):p:=h
def oH (h:p:=by
 refine ⟨by simpa [kDx] using hB,l.drop n,λj=>by simp [List.getElem?_drop],by simp;omega,?_⟩;simp only [jB,List.nil_append,List.map_nil] at h;generalize l.drop n=r at h ⊢;cases r <;> exact h):p:=h
def oI (h:p:=by
 unfold wpOp;simp only [h0];exact h):p:=h
def oJ (h:p:=by
 subst am;have h1:=List.all_eq_true.1 hs i (List.mem_range.2 hi);rw [Y,Bool.false_or] at h1;obtain ⟨j,hj,bf⟩:=List.any_eq_true.1 h1;simp only [Bool.and_eq_true,decide_eq_true_eq,Bool.not_eq_true'] at bf;obtain ⟨J,N,e,he,hb,o⟩:=Region.waitsFor_spec bf.2.2;have U:j<=t:=sM;by_cases O:j=t
 · subst O;have:J=R:=Option.some.inj (N.symm.trans E);subst this;have h2:=G e he hb;rw [o,getD_both F] at h2;cases h2
 · cases hl:listed.getD j false with
   | true =>
     have h2:=inv.closed j J N hl e he hb;rw [o,getD_both F] at h2;cases h2
   | false =>
     have I:j < listed.size:=bB1;exact ih (t - j) bH3 j rfl bH3 bf.2.1 (getD_in I hl) t nL hr):p:=h
def oK (h:p:=by
 obtain ⟨j,hj,bf⟩:=List.any_eq_true.1 h1;simp only [Bool.and_eq_true,decide_eq_true_eq] at bf;obtain ⟨V,L,e,he,hb,o⟩:=Region.waitsFor_spec bf.2;have:V=R:=Option.some.inj (L.symm.trans E);subst this;have O:j < t:=bD9;have h2:=G e he hb;rw [o,getD_both (inv.tail j bH3 bH3)] at h2;cases h2):p:=h
def oL (h:p:=by
 simp only [kDy,Bool.and_eq_true] at hB;simp only [jB,List.map_nil] at h;have h:S2 w/\kCq P l.toArray S2 Q k (jB l q2) (q2.map (·.2)) a w:=h;exact ⟨hB.1,hB.2,h.1,k,h.2⟩):p:=h
def oM (h:p:=by
 clear b1 b5 bx b0 bb U av ab;have b2:=yD (ay.out.trans (kEf bg.out BK.1));have b9:Hid ((Srt.sw cu j k).length=n):=yD (by rw [Srt.kAw];exact N.out);go_roundw;case rel=>exact ⟨k,Srt.sw cu j k,by go_num,by omega,by omega,b6,b9,ao,b2⟩
 simp [intOf];omega):p:=h
def oN (h:p:=by
 have ax:Hid (Srt.outer key a (z - (i + 1)) (i + 1) cu=Srt.kCb key a z xs):=yD rV;go_wp2;go_roundw;case rel=>exact ⟨i + 1,cu,by go_num,by omega,.inl bH3,ax,N,bv,ay⟩
 simp [intOf];omega):p:=h
def oO (h:p:=by
 have HE:Hid (cur=Srt.kCb key a z xs):=yD ((kZu (key:=key) (a:=a) (cu:=cur) hlt).symm.trans HF.out);have cw:¬ (i:Int) < z:=bH3;go_wp2;go_end0;exact ⟨rfl,I.out.cast HE.out,L.out⟩):p:=h
def oP (h:p:=by
 clear b1 b5 bx b0 bb U av ab;have b2:=yD (ay.out.trans (kEf bg.out BK.1));have b9:Hid ((Srt.sw cu j k).length=n):=yD vM;go_roundw;case rel=>exact ⟨i + 1,Srt.sw cu j k,by go_num,by omega,b6,b9,ao,b2⟩
 simp [intOf];omega):p:=h
def oQ (h:p:=by
 have HE:Hid (cu=Srt.swr c a z xs):=yD ((swr_end (a:=a) (b:=z) (cu:=cu) hlt).symm.trans HF.out);have cw:¬ (i:Int) < c:=bH3;go_wp2;go_end0;exact ⟨rfl,I.out.cast HE.out,L.out⟩):p:=h
def oU (h:p:=by
 rintro e V ⟨rfl,O2,D⟩;have R:=yD O2;have aa:=yD (L.out.trans D);clear O2 D;go_wp2;go_end0;exact ⟨rfl,R.out.cast HE.out,aa.out⟩):p:=h
def oV (h:p:=by
 rintro e V ⟨rfl,O2,D⟩;have R:=yD O2;have aa:=yD (L.out.trans D);have N:Hid ((Srt.swr q mp m cu).length=n):=yD vO;clear O2 D;go_wp2;go_roundw;case rel=>exact ⟨F,q,Srt.swr q mp m cu,rfl,rfl,by omega,hq,by omega,b6,HE,N,R,aa⟩
 simp [intOf];omega):p:=h
def oW (h:p:=by
 rintro e V ⟨rfl,O2,D⟩;have R:=yD O2;have aa:=yD (L.out.trans D);have N:Hid ((Srt.swr p mp o cu).length=n):=yD vO;clear O2 D;go_wp2;go_roundw;case rel=>exact ⟨p,F,Srt.swr p mp o cu,rfl,rfl,hp,by omega,W,by omega,HE,N,R,aa⟩
 simp [intOf];omega):p:=h
def oZ (h:p:=by
 have FX:=yD (λ(W:World) (hW:Qb wr W)=>kIz hW aq J);refine ym (λW=>Qb wr W) [2,3,4] [(0,true),(1,true),(5,true),(6,true),(7,true),(8,true),(9,true),(10,true),(11,true),(12,true),(13,true),(14,true)] bG6 bG6 qY (bR.drew) ?_;intro wS E;simp only [jB,zO,List.length_cons,List.length_nil,List.getElem?_cons_succ,List.getElem?_cons_zero,List.map_cons,List.map_nil,List.cons_append,List.nil_append,List.drop_succ_cons,List.drop_zero,Nat.reduceAdd,Nat.zero_add];iterate 3
  refine kGe (v:=?_) rfl (λW=>?_) ?_;rotate_left;(· go_simp;try with_reducible rfl)
  refine jG ?_
 refine pre_nil ?_;iterate 12
  refine ky ?_
 refine yG ?_;have ay:=yD (b7.out.trans (Touch.of_below E));replace ai:=yD (ai.out.below E);replace aq:=cL E aq;replace J:=cL E J;have BK:=kD.kCz ai.out hkl;have a5:k * kD.int.n=k:=Nat.mul_one _;have a1:j * kD.int.n=j:=Nat.mul_one _;have bx:wS.there b (k) 1:=nR;have b0:wS.there b (j) 1:=nY;have bl:∀ q u,([.int .i64 x]:List Value)[q]?=some u->wS.cell? ⟨b,k * kD.int.n + q,none⟩=some u:=vZ;have bu:∀ q u,([.int .i64 y]:List Value)[q]?=some u->wS.cell? ⟨b,j * kD.int.n + q,none⟩=some u:=wO;obtain ⟨s1,s2⟩:=kD.kEj (ci:=[.int .i64 x]) (cj:=[.int .i64 y]) ai.out hkl aj bH3 rfl rfl bl bu (pi:=k) (pj:=j) a5.symm a1.symm;have ao:=yD s1;have bg:=yD s2;clear s1 s2 bl bu a5 a1;have U:(prog.info? 3).map (·.size)=some 1:=gX;have av:∀ c∈([.int .i64 x]:List Value),c.oneCell'=true:=cZ;have ab:∀ c∈([.int .i64 y]:List Value),c.oneCell'=true:=cZ;refine yK rfl 3 _ _ rfl b (k) (.int .i64 y) [.int .i64 y] rfl bH5 bH5 bx U ab ?_;intro w5 ba;have bb:w5.there b (j) 1:=vW;have b1:=yD ba;clear ba;go_wp2_with (refine yK rfl 3 _ _ rfl b (j) (.int .i64 x) [.int .i64 x] rfl bH5 bH5 bb U av ?_);rw [<- b1.out] at ao bg;generalize b5:kD.setCells w5 b (j) [.int .i64 x]=w6 at *;clear b1 b5 bx b0 bb U av ab;have b2:=yD (ay.out.trans (kEf bg.out BK.1));have b9:Hid ((Srt.sw cu k j).length=n):=yD vM;go_roundw;case rel=>exact ⟨j,Srt.sw cu k j,rfl,by omega,by omega,b6,b9,ao,b2⟩
 simp [intOf];omega):p:=h
def q8 (h:p:=by
 obtain rfl:k=t:=bH3;have N:=yD (bh.out.trans ((HG.out).symm.trans (up_end (cu:=cu) (by omega:¬ k < k))));have V:¬ (k:Int) < k:=bH3;go_wp2;first | go_end0|((try simp only [Exit.inBlock,Exit.then]);refine bodyPost_ret (results_none rfl _ _ _) rfl ?_)
 exact ⟨rfl,ai.out.cast N.out.symm,b7.out⟩):p:=h
def q9 (h:p:=by
 have N:=yD (bh.out.trans ((HG.out).symm.trans (down_end (cu:=cu) hlt)));have V:¬ (q:Int) < k:=bH3;have al:decide ((k:Int) > q)=false:=bG7;go_wp2;first | go_end0|((try simp only [Exit.inBlock,Exit.then]);refine bodyPost_ret (results_none rfl _ _ _) rfl ?_)
 exact ⟨rfl,ai.out.cast N.out.symm,b7.out⟩):p:=h
def r9 (h:p:=by
 by_cases hmm:mid < m
 · have b1:(mid:Int) < m:=bH3;have dk:decide ((m:Int) > mid)=true:=bG7;have e1:lo=N - z:=by rw [bu.out,if_pos hmm]
   have e2:hi=mid:=by rw [b0.out,if_pos hmm]
   have e3:(N:Int) - (z:Int)=(lo:Int):=bH3;have e4:IntKind.i64.wrap (lo:Int)=lo:=IntWalk.i64_in _ bH3;go_wp2;go_meet;exact ⟨by first | rfl | rw [e1],by first | rfl | rw [e2],I,cc⟩
 have b1:¬ (mid:Int) < m:=bH3;have dk:decide ((m:Int) > mid)=false:=bG7;have e1:lo=a:=by rw [bu.out,if_neg hmm]
 have e2:hi=m:=by rw [b0.out,if_neg hmm]
 go_wp2;go_meet;exact ⟨by first | rfl | rw [e1],by first | rfl | rw [e2],I,cc⟩):p:=h
def rC (h:p:=by
 by_cases g1:q < m
 · have ba:(q:Int) < m:=bH3;by_cases g2:m < e
   · have an:(m:Int) < e:=bH3;go_wp2;go_meet;exact ⟨by rw [decide_eq_true g1,decide_eq_true g2];rfl,R,aa⟩
   have an:¬ (m:Int) < e:=bH3;go_wp2;go_meet;exact ⟨by rw [decide_eq_true g1,decide_eq_false g2];rfl,R,aa⟩
 have ba:¬ (q:Int) < m:=bH3;go_wp2;go_meet;exact ⟨by rw [decide_eq_false g1];rfl,R,aa⟩):p:=h
def rY (h:p:=by
 rintro e2 V ⟨rfl,O2,D⟩;have bb:=yD O2;have a1:=yD (b6.out.trans D);clear O2 D;try go_wp2
 go_meet;exact ⟨yD (bb.out.cast (by rw [HY.out,if_pos g])),a1⟩):p:=h
def rZ (h:p:=by
 have hb:(decide (q < m) && decide (m < e))=false:=by
  rcases Nat.lt_or_ge q m with q1 | q1
  · rw [decide_eq_true q1,decide_eq_false (λq2=>g ⟨q1,q2⟩)];rfl
  rw [decide_eq_false bH3];rfl
 simp only [hb];go_wp2;go_meet;exact ⟨yD (bl.out.cast (by rw [HY.out,if_neg g])),b6⟩):p:=h
def sQ (h:p:=by
 by_cases g1:a < q
 · have ba:(a:Int) < q:=bH3;by_cases g2:q < mid
   · have an:(q:Int) < mid:=bH3;go_wp2;go_meet;exact ⟨by rw [decide_eq_true g1,decide_eq_true g2];rfl,aj,b5⟩
   have an:¬ (q:Int) < mid:=bH3;go_wp2;go_meet;exact ⟨by rw [decide_eq_true g1,decide_eq_false g2];rfl,aj,b5⟩
 have ba:¬ (a:Int) < q:=bH3;go_wp2;go_meet;exact ⟨by rw [decide_eq_false g1];rfl,aj,b5⟩):p:=h
def tV (h:p:=by
 by_cases g:a < q/\q < mid
 · have hb:(decide (a < q) && decide (q < mid))=true:=nM;simp only [hb];go_wp2_with fail;refine (ce.out _ a q mid y bz.out ao.out av.out bC4 g.1 g.2 bC4 bH3).mono ?_;rintro e2 V ⟨rfl,O2,D⟩;have bb:=yD O2;have a1:=yD (bg.out.trans D);clear O2 D;try go_wp2
   go_meet;exact ⟨yD (bb.out.cast (by rw [HU.out,if_pos g])),a1⟩
 have hb:(decide (a < q) && decide (q < mid))=false:=by
  rcases Nat.lt_or_ge a q with q1 | q1
  · rw [decide_eq_true q1,decide_eq_false (λq2=>g ⟨q1,q2⟩)];rfl
  rw [decide_eq_false bH3];rfl
 simp only [hb];go_wp2;go_meet;exact ⟨yD (ao.out.cast (by rw [HU.out,if_neg g])),bg⟩):p:=h
def uA (h:p:=by
 by_cases g1:mid < e
 · have ba:(mid:Int) < e:=bH3;by_cases g2:e < z
   · have an:(e:Int) < z:=bH3;go_wp2;go_meet;exact ⟨by rw [decide_eq_true g1,decide_eq_true g2];rfl,a5,b2⟩
   have an:¬ (e:Int) < z:=bH3;go_wp2;go_meet;exact ⟨by rw [decide_eq_true g1,decide_eq_false g2];rfl,a5,b2⟩
 have ba:¬ (mid:Int) < e:=bH3;go_wp2;go_meet;exact ⟨by rw [decide_eq_false g1];rfl,a5,b2⟩):p:=h
def uB (h:p:=by
 by_cases g:mid < e/\e < z
 · have hb:(decide (mid < e) && decide (e < z))=true:=nM;simp only [hb];go_wp2_with fail;refine (ce.out _ mid e z u bz.out bx.out b9.out bC5 g.1 g.2 bC5 bH3).mono ?_;rintro e2 V ⟨rfl,O2,D⟩;have bb:=yD O2;have a1:=yD (b7.out.trans D);clear O2 D;go_wp2;first | go_end0|((try simp only [Exit.inBlock,Exit.then]);refine bodyPost_ret (results_none rfl _ _ _) rfl ?_)
   exact ⟨rfl,bb.out.cast (by rw [HF.out,if_pos g]),a1.out⟩
 have hb:(decide (mid < e) && decide (e < z))=false:=by
  rcases Nat.lt_or_ge mid e with q1 | q1
  · rw [decide_eq_true q1,decide_eq_false (λq2=>g ⟨q1,q2⟩)];rfl
  rw [decide_eq_false bH3];rfl
 simp only [hb];go_wp2;first | go_end0|((try simp only [Exit.inBlock,Exit.then]);refine bodyPost_ret (results_none rfl _ _ _) rfl ?_)
 exact ⟨rfl,bx.out.cast (by rw [HF.out,if_neg g]),b7.out⟩):p:=h
def uC (h:p:=by
 go_wp2;go_loopw [8] (λi wr=>i=.int .i64 1/\wr=w) (λi _=>0);case atStart=>exact ⟨rfl,rfl⟩
 obtain ⟨rfl,hw⟩:=hrel;obtain rfl:=hw;go_wp2;go_end0;exact ⟨rfl,rfl⟩):p:=h
def uD (h:p:=by
 rintro e V ⟨rfl,H⟩;obtain rfl:=H.symm;go_wp2;go_loopw [6,7,8] (λi _ _ wx=>i=.int .i64 20/\wx=wr) (λi _ _ _=>0);case atStart=>exact ⟨rfl,rfl⟩
 obtain ⟨rfl,hw⟩:=hrel;obtain rfl:=hw;go_wp2;go_end0;exact ⟨rfl,rfl⟩):p:=h
def uE (h:p:=by
 rintro e V ⟨rfl,O2,D⟩;have R:=yD O2;have aa:=yD (L.out.trans D);clear O2 D;have N:Hid ((Srt.kCb key p q cu).length=n):=yD (by rw [Srt.kCj];exact HL.out);go_wp2;go_roundw;case rel=>exact ⟨q,X,_,rfl,by first | rfl|(go_num),by omega,yD bC9,H,N,R,aa⟩
 simp [intOf];omega):p:=h
def uF (h:p:=by
 rintro e V ⟨rfl,O2,D⟩;have ai:=yD O2;have b7:=yD (aa.out.trans D);clear O2 D;have ab:Hid ((Srt.symm key s2 p ps q cv).length=n):=yD (by rw [Srt.kAc];exact N.out);go_wp2;go_roundw;case rel=>exact ⟨q,f3,_,rfl,by first | rfl|(go_num),by omega,yD (by have:=aj.out;omega),bb,ab,ai,b7⟩
 simp [intOf];omega):p:=h
def uG (h:p:=by
 rintro e V ⟨rfl,O2,D⟩;have ai:=yD (O2.cast U.out);have b7:=yD (aa.out.trans D);clear O2 D;have ab:Hid ((Srt.pass key n s (n + 1) 0 cu).length=n):=yD vP;go_wp2;go_roundw;case rel=>exact ⟨s2,X,_,rfl,by omega,by omega,yD bC9,yD rD,ab,ai,b7⟩
 simp [intOf];omega):p:=h
def uH (h:p:=by
 have b1:¬ (ps:Int) < n:=bH3;have U:=yD ((pass_end (key:=key) (cu:=cv) ba hm W G.out).symm.trans ax.out);have ai:=yD (R.out.cast U.out);have ab:Hid ((Srt.pass key n s (n + 1) 0 cu).length=n):=yD vP;go_wp2;go_roundw;case rel=>exact ⟨s2,X,_,rfl,by omega,by omega,yD bC9,yD rD,ab,ai,aa⟩
 simp [intOf];omega):p:=h
def uI (h:p:=by
 have be:¬ (s:Int) < n:=bH3;have HE:=yD ((kWk (key:=key) (f:=f) (cu:=cu) hlt).symm.trans (HB.out.trans ah.out.symm));go_wp2;go_end0;exact ⟨rfl,I.out.cast HE.out,L.out⟩):p:=h
def uJ (h:p:=by
 go_wp2_with fail;refine o.out.mono ?_;rintro e V ⟨rfl,H⟩;obtain rfl:=H.symm;go_wp2;go_end0;exact ⟨rfl,I.out,Touch.refl _ _⟩):p:=h
def uK (h:p:=by
 go_wp2_with fail;refine HC.out.mono ?_;rintro e V ⟨rfl,O2,D⟩;have R:=yD O2;have aa:=yD D;clear O2 D;go_wp2;go_end0;exact ⟨rfl,R.out,aa.out⟩):p:=h
def uL (h:p:=by
 refine pre_nil ?_;iterate 12
  refine ky ?_
 refine yG ?_;have ay:=yD (b7.out.trans (Touch.of_below E));replace ai:=yD (ai.out.below E);replace aq:=cL E aq;replace bq:=cL E bq;replace bp:=cL E bp;replace J:=cL E J;replace br:=cL E br;replace bt:=cL E bt;have BK:=kD.kCz ai.out hkl;have a5:k * kY.n=k * 3:=rfl;have a1:j * kY.n=j * 3:=rfl;have bx:wS.there b (k * 3) 3:=nR;have b0:wS.there b (j * 3) 3:=nY;have bl:∀ q u,([.slice a2 (x.1).length a3,.int .i64 x.2.1,.int .i64 x.2.2]:List Value)[q]?=some u->wS.cell? ⟨b,k * kY.n + q,none⟩=some u:=sF;have bu:∀ q u,([.slice ac (y.1).length az,.int .i64 y.2.1,.int .i64 y.2.2]:List Value)[q]?=some u->wS.cell? ⟨b,j * kY.n + q,none⟩=some u:=sN;obtain ⟨s1,s2⟩:=kD.kEj (ci:=[.slice a2 (x.1).length a3,.int .i64 x.2.1,.int .i64 x.2.2]) (cj:=[.slice ac (y.1).length az,.int .i64 y.2.1,.int .i64 y.2.2]) ai.out hkl aj bH3 rfl rfl bl bu (pi:=k * 3) (pj:=j * 3) a5.symm a1.symm;have ao:=yD s1;have bg:=yD s2;clear s1 s2 bl bu a5 a1;have U:(prog.info? 144).map (·.size)=some 3:=gY;have av:∀ c∈([.slice a2 (x.1).length a3,.int .i64 x.2.1,.int .i64 x.2.2]:List Value),c.oneCell'=true:=bW;have ab:∀ c∈([.slice ac (y.1).length az,.int .i64 y.2.1,.int .i64 y.2.2]:List Value),c.oneCell'=true:=bW;refine yK rfl 144 _ _ rfl b (k * 3) (.agg #[.slice ac (y.1).length az,Qn y.2.1,Qn y.2.2]) [.slice ac (y.1).length az,.int .i64 y.2.1,.int .i64 y.2.2] rfl bH5 bH5 bx U ab ?_;intro w5 ba;have bb:w5.there b (j * 3) 3:=vW;have b1:=yD ba;clear ba;go_wp2_with (refine yK rfl 144 _ _ rfl b (j * 3) (.agg #[.slice a2 (x.1).length a3,Qn x.2.1,Qn x.2.2]) [.slice a2 (x.1).length a3,.int .i64 x.2.1,.int .i64 x.2.2] rfl bH5 bH5 bb U av ?_);rw [<- b1.out] at ao bg;generalize b5:kD.setCells w5 b (j * 3) [.slice a2 (x.1).length a3,.int .i64 x.2.1,.int .i64 x.2.2]=w6 at *;clear b1 b5 bx b0 bb U av ab;have b2:=yD (ay.out.trans (kEf bg.out BK.1));have b9:Hid ((Srt.sw cu k j).length=n):=yD vM;go_roundw;case rel=>exact ⟨j,Srt.sw cu k j,rfl,by omega,by omega,b6,b9,ao,b2⟩
 simp [intOf];omega):p:=h
def uM (h:p:=by
 obtain ⟨_,_,rfl,Z,a4⟩:=kD.yC h;have ag:=kX Z;obtain ⟨_,rfl,o⟩:=ag;obtain ⟨_,_,rfl,ba,ef⟩:=kD.yC a4;obtain ⟨rfl,ai⟩:=kD.je ba;obtain ⟨rfl,ay⟩:=kD.je ef;exact ⟨_,rfl,Z,o,ai,ay⟩):p:=h
def uN (h:p:=by
 obtain ⟨c0,d0,A0,U,rfl,p0,q0,aw,N,J⟩:=h;obtain ⟨c1,d1,A1,B1,rfl,p1,q1,hA1,H,hd1⟩:=q0;obtain ⟨rfl,_⟩:=q1;have l0:=kD.len _ p0;have G:=kD.len _ p1;change _=1 at l0;change _=1 at G;have e:((c0++(c1++[.int .i64 x.2.2])):List Value).set 2 (.int .i64 v)=(c0++(c1++[.int .i64 v])):=by
  obtain ⟨o,rfl⟩:∃ o,c0=[o]:=qK;obtain ⟨D,rfl⟩:∃ D,c1=[D]:=qP;rfl
 rw [e];exact ⟨_,_,A0,U,rfl,p0,⟨_,_,A1,B1,rfl,p1,⟨rfl,hv⟩,hA1,H,hd1⟩,aw,N,J⟩):p:=h
def uO (h:p:=by
 obtain ⟨_,_,rfl,Z,a4⟩:=kD.yC h;have ag:=kX Z;obtain ⟨_,rfl,o⟩:=ag;obtain ⟨rfl,ai⟩:=kD.je a4;exact ⟨_,rfl,Z,o,ai⟩):p:=h
def uP (h:p:=by
 have b1:=ad.size;have bu:=E.size;have bl:=yD aq;clear aq;go_wp2;go_ret;exact ⟨_,rfl,bl.out.wide gT,D⟩):p:=h
def uQ (h:p:=by
 go_simp;generalize U:World.alloc wS _=t0;have V:Qb wS t0:=tN;have bi:=V.size;clear U;replace E:=(tQ E V);refine H _ _ E ?_;clear H K V;refine jG ?_;refine jr (i:=4) (j:=6) rfl rfl bG6 rfl rfl (λK H=>?_) (λK H=>?_)
 · have ba:=E.size;obtain ⟨v1,t1,hr,X,L,bf⟩:=jU (w:=t0) (v:=.slice (some ⟨wS.heap.size,0,none⟩) 0 0) (xs:=[]) (S:=λ_=>False) (B:=t0.heap.size) kD.kQ.void (au.out.below E) (λ_ h=>h.elim) nL bG7;refine kD.kV _ _ _ rfl bH5 bH5 hr ?_;obtain ⟨a1,n1,c1,ac,a8⟩:=X.parts;obtain rfl:=ac;replace E:=(tQ E L);refine H _ _ E ?_;clear H K hr L;refine jG ?_;refine kP (k:=6) rfl bG6 rfl (λK H=>?_);have a7:=E.size;go_simp;have RL:=kAl (w:=t1) (cs:=[.slice ra r.1.length rp,.int .i64 r.2.1,.int .i64 r.2.2]) (x:=r) (show (kD.kFh kY w0).is true _ [_,_,_] r _ from HR.out.1) HR.out.2;have O:Below t1.heap.size t1 (World.alloc t1 (.cells #[.slice ra r.1.length rp,.int .i64 r.2.1,.int .i64 r.2.2] 144)):=bR.alloc nL _;exact iZ
 have ba:=E.size;go_simp;have RL:=kAl (w:=t0) (cs:=[.slice ra r.1.length rp,.int .i64 r.2.1,.int .i64 r.2.2]) (x:=r) (show (kD.kFh kY w0).is true _ [_,_,_] r _ from HR.out.1) HR.out.2;have O:Below t0.heap.size t0 (World.alloc t0 (.cells #[.slice ra r.1.length rp,.int .i64 r.2.1,.int .i64 r.2.2] 144)):=bR.alloc nL _;generalize U:World.alloc t0 (.cells #[.slice ra r.1.length rp,.int .i64 r.2.1,.int .i64 r.2.2] 144)=t1 at RL O ⊢;have bf:=O.size;have V:=O;clear U O;replace E:=(tQ E V);refine H _ _ E ?_;clear H K V;refine jG ?_;refine kP (k:=4) rfl bG6 rfl (λK H=>?_);have a7:=E.size;exact l6):p:=h
def uR (h:p:=by
 have bo:=E.size;go_simp;have RL:=kAl (w:=wS) (cs:=[.slice ra r.1.length rp,.int .i64 r.2.1,.int .i64 r.2.2]) (x:=r) (show (kD.kFh kY w0).is true _ [_,_,_] r _ from HR.out.1) HR.out.2;have O:Below wS.heap.size wS (World.alloc wS (.cells #[.slice ra r.1.length rp,.int .i64 r.2.1,.int .i64 r.2.2] 144)):=bR.alloc nL _;generalize U:World.alloc wS (.cells #[.slice ra r.1.length rp,.int .i64 r.2.1,.int .i64 r.2.2] 144)=t0 at RL O ⊢;have bi:=O.size;have V:=O;clear U O;replace E:=(tQ E V);refine H _ _ E ?_;clear H K V;refine jG ?_;refine kP (k:=0) rfl bG6 rfl (λK H=>?_);have ba:=E.size;go_simp;generalize U:World.alloc t0 _=t1;have V:Qb t0 t1:=tN;have bf:=V.size;clear U;replace RL:=RL.below V;replace E:=(tQ E V);refine H _ _ E ?_;clear H K V;refine jG ?_;refine kP (k:=4) rfl bG6 rfl (λK H=>?_);have a7:=E.size;exact l7):p:=h
def uS (h:p:=by
 go_simp;generalize U:World.alloc wS _=t0;have V:Qb wS t0:=tN;have bi:=V.size;clear U;replace E:=(tQ E V);refine H _ _ E ?_;clear H K V;refine jG ?_;refine jr (i:=4) (j:=6) rfl rfl bG6 rfl rfl (λK H=>?_) (λK H=>?_)
 · have ba:=E.size;obtain ⟨v1,t1,hr,X,L,bf⟩:=jU (w:=t0) (v:=.slice (some ⟨wS.heap.size,0,none⟩) 0 0) (xs:=[]) (S:=λ_=>False) (B:=t0.heap.size) kD.kQ.void (au.out.below E) (λ_ h=>h.elim) nL bG7;refine kD.kV _ _ _ rfl bH5 bH5 hr ?_;obtain ⟨a1,n1,c1,ac,a8⟩:=X.parts;obtain rfl:=ac;replace E:=(tQ E L);refine H _ _ E ?_;clear H K hr L;refine jG ?_;refine kP (k:=6) rfl bG6 rfl (λK H=>?_);have a7:=E.size;go_simp;have RL:=kAl (w:=t1) (cs:=[.slice ra r.1.length rp,.int .i64 r.2.1,.int .i64 r.2.2]) (x:=r) (show (kD.kFh kY w0).is true _ [_,_,_] r _ from HR.out.1) HR.out.2;have O:Below t1.heap.size t1 (World.alloc t1 (.cells #[.slice ra r.1.length rp,.int .i64 r.2.1,.int .i64 r.2.2] 144)):=bR.alloc nL _;exact l8
 have ba:=E.size;go_simp;have RL:=kAl (w:=t0) (cs:=[.slice ra r.1.length rp,.int .i64 r.2.1,.int .i64 r.2.2]) (x:=r) (show (kD.kFh kY w0).is true _ [_,_,_] r _ from HR.out.1) HR.out.2;have O:Below t0.heap.size t0 (World.alloc t0 (.cells #[.slice ra r.1.length rp,.int .i64 r.2.1,.int .i64 r.2.2] 144)):=bR.alloc nL _;generalize U:World.alloc t0 (.cells #[.slice ra r.1.length rp,.int .i64 r.2.1,.int .i64 r.2.2] 144)=t1 at RL O ⊢;have bf:=O.size;have V:=O;clear U O;replace E:=(tQ E V);refine H _ _ E ?_;clear H K V;refine jG ?_;refine kP (k:=4) rfl bG6 rfl (λK H=>?_);have a7:=E.size;exact l9):p:=h
def uT (h:p:=by
 have bo:=E.size;go_simp;have RL:=kAl (w:=wS) (cs:=[.slice ra r.1.length rp,.int .i64 r.2.1,.int .i64 r.2.2]) (x:=r) (show (kD.kFh kY w0).is true _ [_,_,_] r _ from HR.out.1) HR.out.2;have O:Below wS.heap.size wS (World.alloc wS (.cells #[.slice ra r.1.length rp,.int .i64 r.2.1,.int .i64 r.2.2] 144)):=bR.alloc nL _;generalize U:World.alloc wS (.cells #[.slice ra r.1.length rp,.int .i64 r.2.1,.int .i64 r.2.2] 144)=t0 at RL O ⊢;have bi:=O.size;have V:=O;clear U O;replace E:=(tQ E V);refine H _ _ E ?_;clear H K V;refine jG ?_;refine kP (k:=0) rfl bG6 rfl (λK H=>?_);have ba:=E.size;go_simp;generalize U:World.alloc t0 _=t1;have V:Qb t0 t1:=tN;have bf:=V.size;clear U;replace RL:=RL.below V;replace E:=(tQ E V);refine H _ _ E ?_;clear H K V;refine jG ?_;refine kP (k:=4) rfl bG6 rfl (λK H=>?_);have a7:=E.size;exact lC):p:=h
def uU (h:p:=by
 obtain ⟨k,hk,rfl,HN,o⟩:=hrel;by_cases hlt:k < a.length
 · have ad:k < b.length:=bB3;obtain ⟨ba,G,rfl,c0,hr,A0⟩:=kD.kCu (Z.below o) hlt rfl;obtain ⟨bb,H,rfl,d0,I,U⟩:=kD.kCu (a4.below o) ad rfl;obtain ⟨he,_⟩:=kD.zz hr;obtain rfl:c0=_:=by simpa using he
   obtain ⟨F,_⟩:=kD.zz I;obtain rfl:d0=_:=by simpa using F
   clear he F hr I;have hne:=λq=>kBp hlt ad q;have D:=λq=>zT HN.out hlt ad q;generalize a[k]=x at *;generalize b[k]=y at *;have HD:=yD hne;have HX:=yD D;clear hne D;go_wp2_with fail;have FX:=yD (λ(W:World) (hW:Qb wr W)=>kIz hW A0 U);refine kK (λW=>Qb wr W) [true,true,true,true,true,true,true,true,true] bG6 bG6 qY (bR.drew) ?_;intro wS E;iterate 9
    all_goals refine ky ?_
   all_goals refine kS ?_
   exact lY
 exact lZ):p:=h
def uV (h:p:=by
 clear U;replace E:=(tQ E V);refine H _ _ E ?_;clear H K V;refine jG ?_;refine jr (i:=4) (j:=9) rfl rfl bG6 rfl rfl (λK H=>?_) (λK H=>?_)
 · have ba:=E.size;obtain ⟨v1,t1,hr,X,L,bf⟩:=jv (w:=t0) (v:=.slice (some ⟨wS.heap.size,0,none⟩) 0 0) (xs:=[]) (S:=λ_=>False) (B:=t0.heap.size) kD.kQ.void (au.out.below E) (λ_ h=>h.elim) nL bG7;refine kD.kV _ _ _ rfl bH5 bH5 hr ?_;obtain ⟨a1,n1,c1,ac,a8⟩:=X.parts;obtain rfl:=ac;replace E:=(tQ E L);refine H _ _ E ?_;clear H K hr L;refine jG ?_;refine kP (k:=9) rfl bG6 rfl (λK H=>?_);have a7:=E.size;go_simp;have RL:=kCf (w:=t1) (cs:=[.int .i64 x]) (x:=x) (show kD.int.is true _ [.int .i64 x] x _ from ⟨rfl,G⟩) trivial;have O:Below t1.heap.size t1 (World.alloc t1 (.cells #[.int .i64 x] 3)):=bR.alloc nL _;generalize U:World.alloc t1 (.cells #[.int .i64 x] 3)=t2 at RL O ⊢;have be:=O.size;exact nD
 have ba:=E.size;go_simp;have RL:=kCf (w:=t0) (cs:=[.int .i64 x]) (x:=x) (show kD.int.is true _ [.int .i64 x] x _ from ⟨rfl,G⟩) trivial;have O:Below t0.heap.size t0 (World.alloc t0 (.cells #[.int .i64 x] 3)):=bR.alloc nL _;generalize U:World.alloc t0 (.cells #[.int .i64 x] 3)=t1 at RL O ⊢;have bf:=O.size;have V:=O;clear U O;replace E:=(tQ E V);refine H _ _ E ?_;clear H K V;refine jG ?_;refine kP (k:=4) rfl bG6 rfl (λK H=>?_);have a7:=E.size;obtain ⟨v1,t2,hr,X,L,be⟩:=jv (w:=t1) (v:=.slice (some ⟨wS.heap.size,0,none⟩) 0 0) (xs:=[]) (S:=λ_=>False) (B:=t1.heap.size) kD.kQ.void (au.out.below E) (λ_ h=>h.elim) nL bG7;refine kD.kV _ _ _ rfl bH5 bH5 hr ?_;exact nS):p:=h
def uW (h:p:=by
 have bo:=E.size;go_simp;have RL:=kCf (w:=wS) (cs:=[.int .i64 x]) (x:=x) (show kD.int.is true _ [.int .i64 x] x _ from ⟨rfl,G⟩) trivial;have O:Below wS.heap.size wS (World.alloc wS (.cells #[.int .i64 x] 3)):=bR.alloc nL _;generalize U:World.alloc wS (.cells #[.int .i64 x] 3)=t0 at RL O ⊢;have bi:=O.size;have V:=O;clear U O;replace E:=(tQ E V);refine H _ _ E ?_;clear H K V;refine jG ?_;refine kP (k:=0) rfl bG6 rfl (λK H=>?_);have ba:=E.size;go_simp;generalize U:World.alloc t0 _=t1;have V:Qb t0 t1:=tN;have bf:=V.size;clear U;replace RL:=RL.below V;replace E:=(tQ E V);refine H _ _ E ?_;clear H K V;refine jG ?_;refine kP (k:=4) rfl bG6 rfl (λK H=>?_);have a7:=E.size;obtain ⟨v1,t2,hr,X,L,be⟩:=jv (w:=t1) (v:=.slice (some ⟨t0.heap.size,0,none⟩) 0 0) (xs:=[]) (S:=λ_=>False) (B:=t1.heap.size) kD.kQ.void (au.out.below E) (λ_ h=>h.elim) nL bG7;refine kD.kV _ _ _ rfl bH5 bH5 hr ?_;exact nS):p:=h
def uX (h:p:=by
 clear U;replace E:=(tQ E V);refine H _ _ E ?_;clear H K V;refine jG ?_;refine jr (i:=4) (j:=9) rfl rfl bG6 rfl rfl (λK H=>?_) (λK H=>?_)
 · have ba:=E.size;obtain ⟨v1,t1,hr,X,L,bf⟩:=jv (w:=t0) (v:=.slice (some ⟨wS.heap.size,0,none⟩) 0 0) (xs:=[]) (S:=λ_=>False) (B:=t0.heap.size) kD.kQ.void (au.out.below E) (λ_ h=>h.elim) nL bG7;refine kD.kV _ _ _ rfl bH5 bH5 hr ?_;obtain ⟨a1,n1,c1,ac,a8⟩:=X.parts;obtain rfl:=ac;replace E:=(tQ E L);refine H _ _ E ?_;clear H K hr L;refine jG ?_;refine kP (k:=9) rfl bG6 rfl (λK H=>?_);have a7:=E.size;go_simp;have RL:=kCf (w:=t1) (cs:=[.int .i64 x]) (x:=x) (show kD.int.is true _ [.int .i64 x] x _ from ⟨rfl,G⟩) trivial;have O:Below t1.heap.size t1 (World.alloc t1 (.cells #[.int .i64 x] 3)):=bR.alloc nL _;generalize U:World.alloc t1 (.cells #[.int .i64 x] 3)=t2 at RL O ⊢;have be:=O.size;exact nT
 have ba:=E.size;go_simp;have RL:=kCf (w:=t0) (cs:=[.int .i64 x]) (x:=x) (show kD.int.is true _ [.int .i64 x] x _ from ⟨rfl,G⟩) trivial;have O:Below t0.heap.size t0 (World.alloc t0 (.cells #[.int .i64 x] 3)):=bR.alloc nL _;generalize U:World.alloc t0 (.cells #[.int .i64 x] 3)=t1 at RL O ⊢;have bf:=O.size;have V:=O;clear U O;replace E:=(tQ E V);refine H _ _ E ?_;clear H K V;refine jG ?_;refine kP (k:=4) rfl bG6 rfl (λK H=>?_);have a7:=E.size;obtain ⟨v1,t2,hr,X,L,be⟩:=jv (w:=t1) (v:=.slice (some ⟨wS.heap.size,0,none⟩) 0 0) (xs:=[]) (S:=λ_=>False) (B:=t1.heap.size) kD.kQ.void (au.out.below E) (λ_ h=>h.elim) nL bG7;refine kD.kV _ _ _ rfl bH5 bH5 hr ?_;exact nW):p:=h
def uY (h:p:=by
 have bo:=E.size;go_simp;have RL:=kCf (w:=wS) (cs:=[.int .i64 x]) (x:=x) (show kD.int.is true _ [.int .i64 x] x _ from ⟨rfl,G⟩) trivial;have O:Below wS.heap.size wS (World.alloc wS (.cells #[.int .i64 x] 3)):=bR.alloc nL _;generalize U:World.alloc wS (.cells #[.int .i64 x] 3)=t0 at RL O ⊢;have bi:=O.size;have V:=O;clear U O;replace E:=(tQ E V);refine H _ _ E ?_;clear H K V;refine jG ?_;refine kP (k:=0) rfl bG6 rfl (λK H=>?_);have ba:=E.size;go_simp;generalize U:World.alloc t0 _=t1;have V:Qb t0 t1:=tN;have bf:=V.size;clear U;replace RL:=RL.below V;replace E:=(tQ E V);refine H _ _ E ?_;clear H K V;refine jG ?_;refine kP (k:=4) rfl bG6 rfl (λK H=>?_);have a7:=E.size;obtain ⟨v1,t2,hr,X,L,be⟩:=jv (w:=t1) (v:=.slice (some ⟨t0.heap.size,0,none⟩) 0 0) (xs:=[]) (S:=λ_=>False) (B:=t1.heap.size) kD.kQ.void (au.out.below E) (λ_ h=>h.elim) nL bG7;refine kD.kV _ _ _ rfl bH5 bH5 hr ?_;exact nW):p:=h
def uZ (h:p:=by
 refine jG ?_;refine kP (k:=10) rfl bG6 rfl (λK H=>?_);have bn:=E.size;obtain ⟨v_,t5,hr,D,L,ar,R⟩:=kD.kBo (P:=prog) (t:=49) (ty:=49) (r:=kD.int) (e:=3) (w:=t4) (B:=N.heap.size) underlying49 kAm rfl bH2 bH2 kD.yu F (RL.own vL).rd dL E.size bS;refine kD.kV _ _ _ rfl bH5 bH5 hr ?_;obtain ⟨bu,ao,aj,Y,af⟩:=D.parts;obtain rfl:=Y;replace E:=E.trans L;clear hr L R F RL;have ac:=D;clear D;refine H _ _ E ?_;clear H K bn;refine jG ?_;refine kL 11 ?_;refine jg bG6 ?_;go_wp2;go_ret;exact ⟨_,rfl,(ac.cast bG5).wide rR,(tQ EB E)⟩):p:=h
def vS (h:p:=by
 replace E:=(tQ E V);refine H _ _ E ?_;clear H K V;clear bn;refine jG ?_;refine kP (k:=4) rfl bG6 rfl (λK H=>?_);go_simp;refine (kDh RV (HK.out.below (tQ EB E))).mono ?_;rintro e t2 ⟨ay,rfl,I,hb⟩;obtain ⟨aw,az,ax,ab,ai⟩:=I.parts;obtain rfl:=ab;have be:=hb.size;have OA:=I.wide (T:=jb t1.heap.size t2.heap.size) nK;clear I;clear RV;replace X:=X.below hb;replace RL:=RL.below hb;replace E:=(tQ E hb);refine H _ _ E ?_;clear H K hb;refine jG ?_;refine kP (k:=5) rfl bG6 rfl (λK H=>?_);go_simp;refine (kAi (OA.own bD0).rd.1 bH3).mono ?_;rintro e t3 ⟨ap,rfl,o,hb⟩;obtain ⟨al,an,av,aa,ad⟩:=o.parts;obtain rfl:=aa;have bd:=hb.size;have OB:=o.wide (T:=jb t2.heap.size t3.heap.size) nK;exact o9):p:=h
def x8 (h:p:=by
 have FX:=yD (λ(W:World) (hW:Qb wr W)=>kIy hW aq bq bp J br bt);refine ym (λW=>Qb wr W) [2,3,4] [(0,true),(1,true),(5,true),(6,true),(7,true),(8,true),(9,true),(10,true),(11,true),(12,true),(13,true),(14,true)] bG6 bG6 qY (bR.drew) ?_;intro wS E;simp only [jB,zO,List.length_cons,List.length_nil,List.getElem?_cons_succ,List.getElem?_cons_zero,List.map_cons,List.map_nil,List.cons_append,List.nil_append,List.drop_succ_cons,List.drop_zero,Nat.reduceAdd,Nat.zero_add];iterate 3
  refine kGe (v:=?_) rfl (λW=>?_) ?_;rotate_left;(· go_simp;try with_reducible rfl)
  refine jG ?_
 exact uL):p:=h
def x9 (h:p:=by
 have bn:=ab.size;go_upto_region 4 with fail;by_cases bp:k < lp
 · have bm:¬ lp=k:=bH3;rcases R.out with ⟨h1,h2⟩|⟨b,hb⟩
   · exact absurd bp bH3
   first | subst hb|(simp only [Option.some.injEq,Addr.mk.injEq,and_true] at hb;obtain ⟨rfl,rfl⟩:=hb)
   have b7:=yD (kD.kVd ax.out (k:=k) bu);rw [Nat.zero_add,show k * (kD.kFh kY w0).n=k * 3 from rfl] at b7;have FX:=yD (λ(W:World) (hW:Qb wq W)=>kOb hW K0 K1 K2);refine yP (λW=>Qb wq W) bG6 (bR.drew) ?_;intro wS E;refine kL 1 ?_;refine kL 2 ?_;refine kL 3 ?_;refine kL 5 ?_;refine kL 8 ?_;refine kL 9 ?_;refine kL 10 ?_;refine jr (i:=0) (j:=6) rfl rfl bG6 rfl rfl (λK H=>?_) (λK H=>?_)
   · have bo:=E.size;exact uQ
   exact uR
 have bm:lp=k:=bH3;subst bm;have b7:=λ(ad:Option Addr)=>yD (show (kD.slice 144 (kD.kFh kY w0)).rd wq [.slice ad 0 0] (l.drop lp) from by rw [List.drop_eq_nil_of_le bH3];exact kD.kUx bA9);have FX:=yD (λ(W:World) (hW:Qb wq W)=>kOb hW K0 K1 K2);refine yP (λW=>Qb wq W) bG6 (bR.drew) ?_;intro wS E;refine kL 1 ?_;refine kL 2 ?_;refine kL 3 ?_;refine kL 5 ?_;refine kL 8 ?_;refine kL 9 ?_;refine kL 10 ?_;refine jr (i:=0) (j:=6) rfl rfl bG6 rfl rfl (λK H=>?_) (λK H=>?_)
 · have bo:=E.size;exact uS
 exact uT):p:=h
def xA (h:p:=by
 first | subst hb|(simp only [Option.some.injEq,Addr.mk.injEq,and_true] at hb;obtain ⟨rfl,rfl⟩:=hb)
 have bm:¬ cap=k:=bH3;have b7:=yD (kD.kVd ax.out (k:=k) bB6);rw [Nat.zero_add,show k * kD.int.n=k from Nat.mul_one k] at b7;have FX:=yD (λ(W:World) (hW:Qb wq W)=>cL hW Y);refine yP (λW=>Qb wq W) bG6 (bR.drew) ?_;intro wS E;refine kL 1 ?_;refine kL 2 ?_;refine kL 3 ?_;refine kL 5 ?_;refine kL 6 ?_;refine kL 7 ?_;refine kL 8 ?_;refine kL 11 ?_;refine kL 12 ?_;refine kL 13 ?_;refine jr (i:=0) (j:=9) rfl rfl bG6 rfl rfl (λK H=>?_) (λK H=>?_)
 · have bo:=E.size;go_simp;generalize U:World.alloc wS _=t0;have V:Qb wS t0:=tN;have bi:=V.size;exact uV
 exact uW):p:=h
def xB (h:p:=by
 have bm:cap=k:=bH3;subst bm;have b7:=λ(ad:Option Addr)=>yD (show (kD.slice 3 kD.int).rd wq [.slice ad 0 0] (LL.drop cap) from by rw [List.drop_eq_nil_of_le bB6];exact kD.kUx bA9);have FX:=yD (λ(W:World) (hW:Qb wq W)=>cL hW Y);refine yP (λW=>Qb wq W) bG6 (bR.drew) ?_;intro wS E;refine kL 1 ?_;refine kL 2 ?_;refine kL 3 ?_;refine kL 5 ?_;refine kL 6 ?_;refine kL 7 ?_;refine kL 8 ?_;refine kL 11 ?_;refine kL 12 ?_;refine kL 13 ?_;refine jr (i:=0) (j:=9) rfl rfl bG6 rfl rfl (λK H=>?_) (λK H=>?_)
 · have bo:=E.size;go_simp;generalize U:World.alloc wS _=t0;have V:Qb wS t0:=tN;have bi:=V.size;exact uX
 exact uY):p:=h
def xC (h:p:=by
 clear E;have ax:=yD (an.out.below ab);have au:=yD (kD.kPv ax.out (k:=k) bu);have bw:l.length < 16777216:=hlen;exact x9):p:=h
def xD (h:p:=by
 clear E;have ax:=yD ((ai.out.own (by have:=HM.out;unfold Big;omega)).rd);have au:=yD (kD.kPv ax.out (k:=k) bB6);have bw:LL.length<=16777216:=bB6;go_upto_region 8 with fail;by_cases bp:k < cap
 · rcases kD.kSc ai.out with ⟨h1,h2⟩|⟨b,hb⟩
   · exact absurd bp bH3
   exact xA
 exact xB):p:=h
end Go.Proofs.YtjhfdpopkkmigabGreat
