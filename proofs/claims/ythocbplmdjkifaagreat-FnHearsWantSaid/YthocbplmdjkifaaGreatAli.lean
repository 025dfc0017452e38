/-
  Short names for five lemmas.
-/
import Derived.Test.YthocbplmdjkifaaGreatProg
import Derived.ArgAppend
import Derived.BigQuiet
import Derived.Deep.Cut
import Derived.Deep.CutBlock
import Derived.Deep.CutRange
import Derived.Deep.MidRow
import Derived.Deep.OwnRows
import Derived.Deep.QuietTactic
import Derived.Deep.Slices
import Derived.IntWalk
import Derived.Laws.AppendOwn
import Derived.Laws.BitsLemmas
import Derived.Laws.BytesArg
import Derived.Laws.Concat
import Derived.Laws.CopyRow
import Derived.Laws.IdiomCopy
import Derived.Laws.IdiomStrings
import Derived.Lib.AppendZeros
import Derived.Lib.ConvBytes
import Derived.Lib.Hide
import Derived.Lib.ItoaNum
import Derived.OpenShut
import Derived.OrdersHeld
import Derived.OwnWalk
import Derived.ProofKit
import Derived.Shelf.Spec.SlicesInsertGrow
import Derived.StillTail
import Derived.StillTailTactics
import Derived.WalkKit
import Derived.WalkLawsBesides
import Derived.WalkSpells
set_option linter.unusedVariables false
set_option linter.defProp false
set_option linter.unusedSimpArgs false
set_option linter.unnecessarySimpa false
namespace Go.Proofs.YthocbplmdjkifaaGreat
open Go Go.RowKit _root_.Go.Proofs.Tryz
inductive Qx (p:Prop)|k
instance {p:Prop}:CoeSort (Qx p) Prop:=⟨λ_=>p⟩
instance {p:Prop}:CoeOut (Qx p) Prop:=⟨λ_=>p⟩
inductive Qy {α:Type} (a:α)|k
instance {α:Type} {a:α}:CoeOut (Qy a) α:=⟨λ_=>a⟩
def Qb (w v:World):Qx (Below w.heap.size w v):=.k
def Qi (n:Int):Qx (-9223372036854775808<=n/\n<=9223372036854775807):=.k
def Qc (w:World) (b o:Nat) (v:Value):Qx (w.cell? ⟨b,o,none⟩=some v):=.k
def Qd (w u:World) (o:Nat) (v:Value):Qx (w.cell? ⟨u.heap.size,o,none⟩=some v):=.k
def Qr (w:World) (b:Nat) (c:Array Value) (t:Nat):Qx (w.heap[b]?=some (.cells c t (0,0))):=.k
def Ql (u v:World) (b:Nat):Qy (λk:Nat=>u.heap.size<=k/\k < v.heap.size/\k≠b):=.k
def Qs {α:Type} (a:Option Addr) (l:List α) (c:Nat):Qy (Value.slice a l.length c):=.k
def Qn (n:Int):Qy (Value.int .i64 n):=.k
instance:CoeOut World Nat:=⟨λw=>w.heap.size⟩
structure Hk (p:Prop):Prop where
 o:p
def Qg {p r:Prop} (k:r) (h:Hk r->p:=by intro kq;go_wp2;go_roundw;(case rel=>exact kq.o);(case measure=>simp [intOf];omega)):p:=h ⟨k⟩
def Q2 {A B:Prop} (a:A) (b:B):A/\B:=⟨a,b⟩
def Q3 {A B C:Prop} (a:A) (b:B) (c:C):A/\B/\C:=⟨a,b,c⟩
def Q4 {A B C D:Prop} (a:A) (b:B) (c:C) (d:D):A/\B/\C/\D:=⟨a,b,c,d⟩
def Q5 {A B C D F:Prop} (a:A) (b:B) (c:C) (d:D) (f:F):A/\B/\C/\D/\F:=⟨a,b,c,d,f⟩
def Q6 {A B C D F G:Prop} (a:A) (b:B) (c:C) (d:D) (f:F) (g:G):A/\B/\C/\D/\F/\G:=⟨a,b,c,d,f,g⟩
def Q7 {A B C D F G H:Prop} (a:A) (b:B) (c:C) (d:D) (f:F) (g:G) (h:H):A/\B/\C/\D/\F/\G/\H:=⟨a,b,c,d,f,g,h⟩
def Q8 {A B C D F G H I:Prop} (a:A) (b:B) (c:C) (d:D) (f:F) (g:G) (h:H) (i:I):A/\B/\C/\D/\F/\G/\H/\I:=⟨a,b,c,d,f,g,h,i⟩
def Q9 {A B C D F G H I J:Prop} (a:A) (b:B) (c:C) (d:D) (f:F) (g:G) (h:H) (i:I) (j:J):A/\B/\C/\D/\F/\G/\H/\I/\J:=⟨a,b,c,d,f,g,h,i,j⟩
def Qe {A B C:Type} (a:Option Addr) (c:Nat) (b:Option Addr) (d:Nat) (e:Option Addr) (f:Nat) (x:List A × List B × List C × Int × Int):Qy ([Value.slice a x.1.length c,.slice b x.2.1.length d,.slice e x.2.2.1.length f,.int .i64 x.2.2.2.1,.int .i64 x.2.2.2.2] : List Value):=.k
def Qf {A B C:Type} (a:Option Addr) (c:Nat) (b:Option Addr) (d:Nat) (e:Option Addr) (f:Nat) (x:List A × List B × List C × Int × Int):Qy (#[Value.slice a x.1.length c,.slice b x.2.1.length d,.slice e x.2.2.1.length f,.int .i64 x.2.2.2.1,.int .i64 x.2.2.2.2] : Array Value):=.k
def Qh {T0 T2 T3 T4 T5 T6:Type} (a0:Option Addr) (l0:List T0) (c0:Nat) (n1:Int) (a2:Option Addr) (l2:List T2) (c2:Nat) (a3:Option Addr) (l3:List T3) (c3:Nat) (a4:Option Addr) (l4:List T4) (c4:Nat) (a5:Option Addr) (l5:List T5) (c5:Nat) (a6:Option Addr) (l6:List T6) (c6:Nat) (n7:Int):Qy (#[Value.slice a0 l0.length c0,Value.int .i64 n1,Value.slice a2 l2.length c2,Value.slice a3 l3.length c3,Value.slice a4 l4.length c4,Value.slice a5 l5.length c5,Value.slice a6 l6.length c6,Value.int .i64 n7] : Array Value):=.k
def Qj {T0 T1 T2:Type} (a0:Option Addr) (l0:List T0) (c0:Nat) (a1:Option Addr) (l1:List T1) (c1:Nat) (a2:Option Addr) (l2:List T2) (c2:Nat) (n3:Int) (n4:Int):Qy (#[Value.slice a0 l0.length c0,Value.slice a1 l1.length c1,Value.slice a2 l2.length c2,Value.int .i64 n3,Value.int .i64 n4] : Array Value):=.k
def Qk {T0:Type} (a0:Option Addr) (l0:List T0) (c0:Nat) (n1:Int) (n2:Int) (n3:Int):Qy (#[Value.slice a0 l0.length c0,Value.int .i64 n1,Value.int .i64 n2,Value.int .i64 n3] : Array Value):=.k
def zA {α : Type} (l : List α) (i : Nat) (a : α) : l.toArray.setIfInBounds i a = (l.set i a).toArray := List.setIfInBounds_toArray l i a
def zB {α : Type} {x : α} {xs : List α} {a : α} : (x :: xs).set 0 a = a :: xs := rfl
def zC {α : Type} {x : α} {xs : List α} {i : Nat} {a : α} : (x :: xs).set (i + 1) a = x :: xs.set i a := rfl
def yD {p : Prop} (h : p) : Go.RowKit.Hid p := Lib.hid h
def bR {B : Nat} {w : World} : Below B w w := Below.refl B w
def nL {n : Nat} : n <= n := Nat.le_refl n
def tQ {w w1 w2 : World} (h : Below w.heap.size w w1) (k : Below w1.heap.size w1 w2) : Below w.heap.size w w2 := h.trans (k.mono h.size)
def bT : True := True.intro
variable {p : Prop}
abbrev bQ (w : World) (v : Value) (e : Ending) (w' : World) : Prop := e = .returned v /\ Below w.heap.size w w'
def zU {b : Bool} : ((!b) = true) = (b = false) := by cases b <;> simp
def zV {b : Bool} : ((!b) = false) = (b = true) := by cases b <;> simp
def cL {w wx : World} {a : Addr} {v : Value} (hb : Below w.heap.size w wx) (h : w.cell? a = some v) : wx.cell? a = some v := cell_later hb h
def bI (h:p:=by repeat (first|(with_reducible exact bR) | refine Below.alloc ?_ (by simp;try omega) _ | refine Below.drew ?_ | refine Below.setCell ?_ (by simp;try omega) _)):p:=h
def bF2 (h:p:=by omega):p:=h
def bE5 (h:p:=by kernel_rfl):p:=h
def qV (h:p:=by exact λk hk=>by have:=hk.1;have:=hk.2;omega):p:=h
def bB7 (h:p:=by simp;try omega):p:=h
def qW (h:p:=by exact λc a d v w h=>by cases d <;> exact h):p:=h
def bF1 (h:p:=by decide):p:=h
def nK (h:p:=by exact λj I=>⟨by have:=I.1;omega,by have:=I.2;omega⟩):p:=h
def pR (h:p:=by exact λk q h=>by have h1:=q.1;have h2:=q.2;omega):p:=h
def bE6 (h:p:=by simp;omega):p:=h
def vS (h:p:=by rw [<- R];simp [go_sem]):p:=h
def bB6 (h:p:=by exact λk hk=>by omega):p:=h
def fT (h:p:=by exact λj I=>⟨by have:=I.1;omega,by have:=I.2;simp [World.setCell];omega⟩):p:=h
def bF4 (h:p:=by rfl):p:=h
def sI (h:p:=by exact λj I=>⟨I.1,by have:=I.2;omega⟩):p:=h
def bF3 (h:p:=by simp):p:=h
def fE (h:p:=by exact λj h1 h2=>by simp (discharger:=(simp;omega)) only [heap_setCell_other]):p:=h
def sJ (h:p:=by exact λj I=>⟨by have:=I.1;omega,I.2⟩):p:=h
def nT (h:p:=by exact λj h1 h2=>by have p:=h1.2;have q:=h2.1;omega):p:=h
def bU (h:p:=by repeat (first|(with_reducible exact o) | refine Below.alloc ?_ (by have:=o.size;simp;try omega) _ | refine Below.drew ?_)):p:=h
def dM (h:p:=by exact λk q=>⟨q.1,Nat.lt_of_lt_of_le q.2.1 hb.size,Nat.ne_of_lt (by rw [a6];exact q.2.1)⟩):p:=h
def bV (h:p:=by first | omega|(simp only [List.flatten_cons,List.flatten_nil,List.length_append,List.length_cons,List.length_nil];omega)):p:=h
def dJ (h:p:=by repeat (first|(with_reducible exact bR) | refine Below.alloc ?_ (by simp;try omega) _)):p:=h
def wY (h:p:=by rw [<- o];exact sT1):p:=h
def vT (h:p:=by rw [<- O];simp [go_sem]):p:=h
def fU (h:p:=by exact λj q=>⟨by have:=q.1;omega,by have:=q.2;simp [World.setCell];omega⟩):p:=h
def gL (h:p:=by exact λj I=>⟨by have:=I.1;omega,by simpa [World.setCell] using I.2⟩):p:=h
def bL (h:p:=by exact λk q=>by rcases q with q | q | q;exact ⟨q.1,by have:=q.2;omega⟩;exact ⟨by have:=q.1;omega,by have:=q.2;omega⟩;exact ⟨by have:=q.1;omega,q.2⟩):p:=h
def fK (h:p:=by intro q;have:=q.1;first | omega|(simp at this;omega)|(simp at this)):p:=h
def mM (h:p:=by exact λk q=>⟨by have:=q.1;omega,q.2,by have:=q.1;omega⟩):p:=h
def nD (h:p:=by exact λk q=>.inl (by first | exact q | exact .inl q)):p:=h
def dQ (h:p:=by exact λj I=>⟨by first | omega|(have:=I.1;omega),by first | omega|(have:=I.2;omega)⟩):p:=h
def tZ (h:p:=by exact λk q h=>by have:=q.1;omega):p:=h
def bB1 (h:p:=by unfold Big;omega):p:=h
def sW (h:p:=by exact λj h1 h2=>by have:=h1.1;omega):p:=h
def gF (h:p:=by exact λk q=>⟨by have:=q.1;omega,by have:=q.2;omega,by have:=q.1;omega⟩):p:=h
def fH (h:p:=by exact λj I=>⟨by have:=I.1;omega,by have:=I.2.1;simp [World.setCell];omega⟩):p:=h
def vB (h:p:=by exact λk hk=>by have:=hk.1;omega):p:=h
def tC (h:p:=by rw [<- O];exact bR.alloc nL _):p:=h
def sK (h:p:=by first | omega|(simp;try omega)):p:=h
def bO (h:p:=by exact λk q=>by rcases q with q | q;exact ⟨q.1,by have:=q.2.1;omega,q.2.2⟩;exact ⟨by have:=q.1;omega,by have:=q.2;omega,by have:=q.1;omega⟩):p:=h
def bB8 (h:p:=by exact λk q=>by omega):p:=h
def tL (h:p:=by have:=o.size;simp;try omega):p:=h
def fI (h:p:=by exact λj q=>⟨by have:=q.1;omega,by have:=q.2.1;simp [World.setCell];omega⟩):p:=h
def cK (h:p:=by exact λj h1 h2=>by have:=L.out;have:=ae.out;rw [<- D];simp (discharger:=(simp;omega)) only [heap_setCell_other]):p:=h
def wZ (h:p:=by have:=HL.out;omega):p:=h
def vK (h:p:=by exact λj q=>by have:=q.1;omega):p:=h
def bP (h:p:=by exact λj I hl=>o j hl (by first | omega|(have h1:=I.1;have h2:=I.2;intro q;have:=q.1;have:=q.2;omega)|(intro q;have:=q.1;have:=q.2;omega))):p:=h
def bA (h:p:=by exact λj I=>by rcases I with I | I | I;exact ⟨by have:=I.1;omega,by have:=I.2;simp [World.setCell];omega⟩;exact ⟨by have:=(bq.out j I).1;omega,by have:=(bq.out j I).2;simp [World.setCell];omega⟩;exact ⟨by have:=I.1;simp at this;omega,by have:=I.2;simp [World.setCell];omega⟩):p:=h
def rY (h:p:=by exact λk hk=>⟨by omega,by simp;omega⟩):p:=h
def qC (h:p:=by exact λk h1 h2=>by have:=h1.2;have:=h2.1;omega):p:=h
def rP (h:p:=by (try simp only);rw [jb h];exact q):p:=h
def bD4 (h:p:=by rw [<- R];simp):p:=h
def dS (h:p:=by simpa only [Bool.and_eq_true,decide_eq_true_eq,Bool.not_eq_true'] using hi.2):p:=h
def tN (h:p:=by rw [<- R];exact jD (by simp)):p:=h
def nX (h:p:=by exact λj I=>⟨by have:=I.1;have:=E.size;omega,I.2⟩):p:=h
def dE (h:p:=by simp [results,results12,go_sem,ay,al,az,aj,bf,bb,be,bd,b2,bx,c8,cz,c7,c3,dc,c1,c9,c4]):p:=h
def gZ (h:p:=by intro q;rcases q with q | q;(have q1:=q.1;omega);omega):p:=h
def pU (h:p:=by exact λj h1 h2=>by have:=h1.2.1;have:=h2.1;omega):p:=h
def dG (h:p:=by simp [results,results6,go_sem,ay,al,az,aj,bf,bb,be,bd,b2,bx,c8,cz,c7,c3,dc,c1,c9,c4]):p:=h
def bM (h:p:=by exact λj q=>by rcases q with q | q | q;exact ⟨q.1,by have:=q.2;omega⟩;exact ⟨by have:=q.1;omega,by have:=q.2;omega⟩;exact ⟨by have:=q.1;omega,q.2⟩):p:=h
def vC (h:p:=by show w.heap.size < _;omega):p:=h
def qM (h:p:=by first | omega|(simp;done)|(simp;omega)):p:=h
def qN (h:p:=by exact λk q=>⟨q.1,by have:=q.2.1;omega,q.2.2⟩):p:=h
def rF (h:p:=by unfold Addr.add;split <;> simp_all):p:=h
def fV (h:p:=by simp [results,results90,go_sem,aj,ak,an,al,az,ay,a8,a7,bt,bm]):p:=h
def gG (h:p:=by exact λk q=>⟨by have:=q.1;omega,by have:=q.2;omega,by have:=q.2;omega⟩):p:=h
def dB (h:p:=by exact λj q=>q.elim (λq=>⟨q.1,by omega,q.2.2⟩) (λq=>⟨by have:=q.1;omega,q.2,by have:=q.1;omega⟩)):p:=h
def tF (h:p:=by rw [<- o];exact bR.alloc nL _):p:=h
def rG (h:p:=by exact λq=>by simp at q;simpa using hne q):p:=h
def dD (h:p:=by exact λj h1 h2=>by have:=L.out;rw [<- D];simp (discharger:=(simp;omega)) only [heap_setCell_other]):p:=h
def bD5 (h:p:=by simpa using h):p:=h
def bD6 (h:p:=by rw [<- o];simp):p:=h
def vL (h:p:=by exact λk q=>by have:=q.1;omega):p:=h
def fJ (h:p:=by rw [L.out];first | rfl|(simp;done)|(rw [Bool.eq_iff_iff];simp;omega)):p:=h
def bE (h:p:=by rw [<- hF];unfold kGf;rw [show kTe ((x0,(xc,xe),x2,x3,x4,x5,x6)).2.2.1 ((q0,q1,q2,q3)).1 f=kn from eq.out,show kIp (x0,(xc,xe),x2,x3,x4,x5,x6) ((q0,q1,q2,q3)).1 f=fs from es.out]):p:=h
def bB9 (h:p:=by simpa using hz):p:=h
def dL (h:p:=by exact λk q=>⟨by have:=q.1;omega,by have:=q.2;omega,by have:=q.1;omega,by have:=q.1;omega⟩):p:=h
def bG (h:p:=by exact λj I=>by rcases I with I | I | I;exact ⟨by have:=I.1;omega,by have:=I.2;omega⟩;exact ⟨by have:=I.1;omega,by have:=I.2;omega⟩;exact ⟨by have:=I.1;omega,by have:=I.2;omega⟩):p:=h
def sO (h:p:=by exact λj q=>⟨by have:=q.1;omega,q.2⟩):p:=h
def nM (h:p:=by exact λk q=>⟨by have:=q.1;omega,by have:=q.2;omega⟩):p:=h
def vM (h:p:=by exact λq=>H (by simpa using q)):p:=h
def dP (h:p:=by exact λj h1 h2=>by rw [<- D];simp (discharger:=(simp;omega)) only [heap_setCell_other]):p:=h
def cB (h:p:=by exact λk q=>by rcases q with q | q;exact ⟨q.1,by have:=q.2;omega⟩;exact ⟨by have:=q.1;omega,by have:=q.2;omega⟩):p:=h
def bH (h:p:=by exact λk q=>by rcases q with q | q | q;exact ⟨q.1,by have:=q.2;omega⟩;exact ⟨by have:=q.1;omega,by have:=q.2;omega⟩;exact ⟨by have:=q.1;(try simp at this);omega,q.2⟩):p:=h
def gM (h:p:=by simp [results,results29,go_sem,aj,ak,an,al,az,ay,a8,a7]):p:=h
def gN (h:p:=by simp [results,results47,go_sem,aj,ak,an,al,az,ay,a8,a7]):p:=h
def mO (h:p:=by simp [results,results231,go_sem,aj,an,ak,al]):p:=h
def bJ (h:p:=by exact λj q=>by rcases q with q | q | q;exact ⟨by have:=q.1;omega,by have:=q.2;omega⟩;exact ⟨by have:=q.1;omega,by have:=q.2;omega⟩;exact ⟨by have:=q.1;omega,q.2⟩):p:=h
def vD (h:p:=by first | omega|(simp;omega)):p:=h
def qI (h:p:=by match c0,l0 with | [o],_=>exact ⟨_,rfl⟩):p:=h
def bD7 (h:p:=by simpa using I):p:=h
def nE (h:p:=by exact λj I=>⟨I.1,by simpa [World.setCell] using I.2⟩):p:=h
def bD8 (h:p:=by simpa using q):p:=h
def bK (h:p:=by exact λj q=>q.elim (λq=>⟨q.1,by omega,q.2.2,by have:=q.2.1;omega⟩) (λq=>⟨by have:=q.1;omega,q.2,by have:=q.1;omega,by have:=q.1;have:=q.2;omega⟩)):p:=h
def wR (h:p:=by unfold maxLen;omega):p:=h
def dH (h:p:=by split <;> (try simp only [List.length_append,List.length_cons,List.length_nil]) <;> omega):p:=h
def dI (h:p:=by intro y hy;simp only [List.mem_singleton] at hy;rw [hy];exact ⟨trivial,trivial,trivial⟩):p:=h
def sZ (h:p:=by rw [<- D];simp [World.setCell]):p:=h
def vU (h:p:=by exact λq=>by have:=q.1;omega):p:=h
def vI (h:p:=by show 1<=_;unfold Big;omega):p:=h
def mW (h:p:=by simp [results,results89,go_sem,aj,an,ak,al]):p:=h
def mX (h:p:=by exact λk q1 q2=>by have h1:=q1.2.1;have h2:=q2.1;omega):p:=h
def bS (h:p:=by exact λj q=>q.elim (λq=>⟨q.1,by omega,q.2.2⟩) (λq=>⟨by have:=q.1;omega,q.2,by have:=q.1;omega,by have:=q.1;have:=q.2;omega⟩)):p:=h
def qO (h:p:=by match c1,R with | [D],_=>exact ⟨_,rfl⟩):p:=h
def rZ (h:p:=by rw [<- o];exact jh (jh (jD rfl))):p:=h
def bW (h:p:=by exact λk q h=>by first|(have h1:=sA k q;have h2:=h1.1;have h3:=h1.2;omega)|(have h1:=sB k q;have h2:=h1.1;have h3:=h1.2;omega)):p:=h
def vE (h:p:=by exact λj q=>⟨q.1,by omega,q.2.2⟩):p:=h
def sP (h:p:=by exact λk q=>⟨q.1,by have:=q.2;omega⟩):p:=h
def rH (h:p:=by rw [L.out.1];simp;unfold Big;omega):p:=h
def tH (h:p:=by rw [<- R];exact bR.alloc nL _):p:=h
def bA0 (h:p:=by have:=o.size;omega):p:=h
def bC0 (h:p:=by simpa using hl):p:=h
def qD (h:p:=by exact λk q1 q2=>by have:=q1.2;have:=q2.1;omega):p:=h
def qE (h:p:=by rw [getD_replicate_false] at hl;cases hl):p:=h
def qF (h:p:=by have:=br.2.2;unfold maxLen at this;omega):p:=h
def bY (h:p:=by exact λj q=>q.elim (λq=>⟨q.1,by have:=q.2.1;omega,q.2.2⟩) (λq=>⟨by have:=q.1;omega,q.2,by have:=q.1;omega⟩)):p:=h
def bZ (h:p:=by intro c hc;simp only [List.mem_cons,List.not_mem_nil,or_false] at hc;rcases hc with rfl | rfl | rfl <;> rfl):p:=h
def fM (h:p:=by simp [results,results235,go_sem,ay,al,az,aj,bf,bb,be,bd,b2,bx]):p:=h
def cO (h:p:=by have h:=jDh hn.out;rwa [show kIp (x0,(xc,xe),x2,x3,x4,x5,x6) ((q0,q1,q2,q3)).1 f=fs from es.out] at h):p:=h
def sQ (h:p:=by first|(simp;done)|(simp;omega)):p:=h
def bC1 (h:p:=by simpa using hc):p:=h
def wB (h:p:=by rw [h] at hr;cases hr):p:=h
def gH (h:p:=by exact λj q=>⟨by have:=q.1;omega,by have:=q.2;omega,by have:=q.2;omega⟩):p:=h
def bA1 (h:p:=by have:=HM.out;omega):p:=h
def cZ (h:p:=by exact λj h1 h2=>by have p1:=h1.1;have p2:=h1.2;simp (discharger:=(simp;omega)) only [heap_setCell_other]):p:=h
def dA (h:p:=by rw [L.out];have:=ay.out;have:=HK.out;have:=HR.out;simp only [List.length_append];unfold Big;omega):p:=h
def dC (h:p:=by intro c hc;simp only [List.mem_cons,List.not_mem_nil,or_false] at hc;rcases hc with rfl <;> rfl):p:=h
def bD9 (h:p:=by simp [go_sem]):p:=h
def gP (h:p:=by simp [results,results27,go_sem,aj,ak,an,al,az,ay,a8,a7]):p:=h
def nY (h:p:=by simp [results,results255,go_sem,K2,F2]):p:=h
def nZ (h:p:=by simp [results,results206,go_sem,K2,F2]):p:=h
def tT (h:p:=by rw [IntKind.wrap_i64];omega):p:=h
def bC2 (h:p:=by simpa using hk):p:=h
def dF (h:p:=by exact λj q=>by rcases q with q | q | q <;> (have q1:=q.1;have q2:=q.2;(try have q3:=q2.1);omega)):p:=h
def bC3 (h:p:=by simpa using hp):p:=h
def dK (h:p:=by simp [results,results172,go_sem,R0,F0,R1,F1,R2,F2,R3,F3,R4,F4,R5,F5,R6,F6,R7,F7]):p:=h
def qG (h:p:=by exact λk q=>by have h1:=q.1;have h2:=q.2;omega):p:=h
def qH (h:p:=by exact λj h1 h2=>by have:=h1.2;have:=h2.1;omega):p:=h
def sS (h:p:=by exact λj q=>⟨q.1,by have:=q.2;omega⟩):p:=h
def dN (h:p:=by exact λj I=>I.elim .inl (λq=>.inr (λp=>by have:=p.2;have:=q.1;simp at this;omega))):p:=h
def qP (h:p:=by exact λj q=>⟨q.1,by have:=q.2.1;omega,q.2.2⟩):p:=h
def bC4 (h:p:=by simpa using bf):p:=h
def dO (h:p:=by show (xc,kNf xc (kFj y0 xe)++[((y0,y1,y2,y3,y4),t)])=_;rw [HK.out,dh.out,HZ.out]):p:=h
def dR (h:p:=by rw [ByteArray.size_append];have:({ data:=#[47] }:ByteArray).size=1:=rfl;omega):p:=h
def mP (h:p:=by simp [results,results174,go_sem,ay,al,az,aj]):p:=h
def bA2 (h:p:=by have:=ay.out;omega):p:=h
def rA (h:p:=by exact λj I=>by have:=(bq.out j I).1;omega):p:=h
def wE (h:p:=by rw [List.take_length]):p:=h
def rJ (h:p:=by rw [List.length_append];exact hlen):p:=h
def dX (h:p:=by exact λj=>by have:=ho (j + 1);simpa [Nat.add_assoc,Nat.add_comm 1 j] using this):p:=h
def dY (h:p:=by exact λi=>by have:=ho (i + 1);simpa [Nat.add_assoc,Nat.add_comm 1 i] using this):p:=h
def wF (h:p:=by rw [<- o];exact kG B 1):p:=h
def wG (h:p:=by rw [<- o];exact kG B 0):p:=h
def fB (h:p:=by simpa only [Bool.and_eq_true,decide_eq_true_eq,Bool.not_eq_true'] using N):p:=h
def fC (h:p:=by exact λj h1 h2=>by have p:=h1.2;have q:=h2.1;have p2:=h1.1;have q2:=h2.2;omega):p:=h
def nG (h:p:=by exact λk q h=>by have h1:=q.2.1;have h2:=q.2.2;omega):p:=h
def fD (h:p:=by exact λk q=>by rcases q with q | q;exact q;exact ⟨by omega,by omega,by omega⟩):p:=h
def rQ (h:p:=by exact λk hk=>⟨by have:=hk.1;omega,hk.2⟩):p:=h
def fF (h:p:=by exact λk q=>⟨by have:=q.1.1;omega,by have:=q.1.2;omega,by have:=q.1.1;omega⟩):p:=h
def rU (h:p:=by exact λj q=>⟨q.1,by have:=q.2.1;omega⟩):p:=h
def rV (h:p:=by rw [L.out];simp;unfold Big;omega):p:=h
def rW (h:p:=by rw [a3.out,<- R.out];exact HF.out):p:=h
def bB2 (h:p:=by exact λk q h=>by omega):p:=h
def pE (h:p:=by exact λj I=>⟨by have:=I.1;simp at this;omega,I.2⟩):p:=h
def fO (h:p:=by simp [results,results173,go_sem,aj,ak,an,al,az,ay,a8,a7,bt,bm]):p:=h
def fP (h:p:=by simp [results,results140,go_sem,R0,F0,R1,F1,R2,F2,R3,F3,R4,F4]):p:=h
def fQ (h:p:=by simp [results,results107,go_sem,R0,F0,R1,F1,R2,F2,R3,F3,R4,F4]):p:=h
def sD (h:p:=by (try simp only);rw [jb h,q];rfl):p:=h
def fZ (h:p:=by simp [results,results55,go_sem,R0,F0,R1,F1,R2,F2,R3,F3,R4,F4]):p:=h
def gB (h:p:=by simp [results,results36,go_sem,R0,F0,R1,F1,R2,F2,R3,F3,R4,F4]):p:=h
def gD (h:p:=by have h2:=zf (p:=λz=>!(z==ex)) (l:=F) (k:=k) hk;unfold Big;omega):p:=h
def pV (h:p:=by rw [L.out,List.length_append,<- eq.out];rfl):p:=h
def pW (h:p:=by simp [results,results94,go_sem,KR,FR]):p:=h
def sU (h:p:=by exact λk h=>⟨h.1,by have:=h.2;omega⟩):p:=h
def sV (h:p:=by have:=List.mem_range.1 I;omega):p:=h
def gI (h:p:=by (first | rw [kVd hN] | rw [kVe hN]);first | rfl|(rw [E.out];rfl)):p:=h
def gJ (h:p:=by exact λj q=>⟨by have:=q.1;omega,by have:=q.2;omega,by have:=q.1;omega⟩):p:=h
def gK (h:p:=by exact λj q=>by rcases q with q | q | q <;> (have:=q.1;have:=q.2;omega)):p:=h
def bA3 (h:p:=by rw [<- o];exact sT2):p:=h
def bA4 (h:p:=by simpa using hB.1.1):p:=h
def qJ (h:p:=by simp only [Nat.min_def];split <;> omega):p:=h
def qK (h:p:=by match c2,l2 with | [L],_=>exact ⟨_,rfl⟩):p:=h
def gQ (h:p:=by simp [results,results59,go_sem,ay,al,az,aj,bf,bb,be,bd]):p:=h
def gT (h:p:=by simp [results,results40,go_sem,ay,al,az,aj,bf,bb,be,bd]):p:=h
def gU (h:p:=by simp [results,results93,go_sem,aj,an,az,a8,ak,al,ay,a7]):p:=h
def qQ (h:p:=by exact λk q=>by rcases q with q | q <;> omega):p:=h
def tV (h:p:=by rw [List.length_take];omega):p:=h
def vF (h:p:=by exact λi hi=>by have:=hi.1;omega):p:=h
def qX (h:p:=by exact λk hk=>⟨.inl hk.1,λh=>by cases h⟩):p:=h
def qY (h:p:=by exact λq=>by rcases q with q | q <;> omega):p:=h
def gW (h:p:=by exact λj q r=>by have:=q.2.1;have:=q.2.2.1;have:=q.2.2.2;omega):p:=h
def gX (h:p:=by exact λj I=>I.elim .inl (λh=>.inr ⟨by have:=h.1;omega,h.2⟩)):p:=h
def gY (h:p:=by have h1:=zf (p:=kMp n l) (l:=l) (k:=k) hk;rw [kIm];omega):p:=h
def vJ (h:p:=by exact λy hy=>h y (by simp [hy])):p:=h
def rC (h:p:=by exact λk hk=>by have:=E.2.size.size;omega):p:=h
def rD (h:p:=by rw [ByteArray.size_append,dj];omega):p:=h
def wW (h:p:=by rw [L.out];exact bc):p:=h
def rE (h:p:=by rw [L.out];unfold kFh;simp [hg,hne]):p:=h
def mD (h:p:=by simp only [List.size_toArray,List.length_append];omega):p:=h
def mE (h:p:=by show (kNg l n fs).length<=Big;rw [kPi];unfold Big;omega):p:=h
def rM (h:p:=by exact λy hy=>by have:=(c.2 y hy).1;omega):p:=h
def mF (h:p:=by exact λk q=>⟨by have:=q.1;omega,by have:=q.2.1;omega,q.2.2⟩):p:=h
def bA5 (h:p:=by rw [<- o];exact sT8):p:=h
def bA6 (h:p:=by rw [<- o];exact sT4):p:=h
def bA7 (h:p:=by rw [<- o];exact sT5):p:=h
def mH (h:p:=by rw [g1,List.append_assoc,List.take_append_drop,<- g2]):p:=h
def mI (h:p:=by simp only [ByteArray.size_extract];unfold Big;omega):p:=h
def mJ (h:p:=by exact λq=>by have:=hne (by simpa using q);simp [vSt,this]):p:=h
def vP (h:p:=by simp [Act.eval,Act.put]):p:=h
def bE3 (h:p:=by rw [HE.out]):p:=h
def vQ (h:p:=by simpa using (ho 0).symm):p:=h
def rX (h:p:=by rw [<- R];exact jh (jD (by simp))):p:=h
def mK (h:p:=by exact λj I=>⟨by have:=I.1;omega,by have:=I.2;simp;omega⟩):p:=h
def bB0 (h:p:=by have:=Y.out;omega):p:=h
def sF (h:p:=by rw [<- R];exact jh (jh (jD rfl))):p:=h
def mQ (h:p:=by exact λy hy=>by rw [List.mem_singleton.1 hy];exact hx.2):p:=h
def mR (h:p:=by exact λj q=>⟨by have:=q.1;omega,q.2,by have:=q.1;omega⟩):p:=h
def mU (h:p:=by exact λq=>HE.out (hne (by rw [kSs] at q;simpa using q))):p:=h
def mV (h:p:=by simp [results,results233,go_sem,M0,M1,F0,F1]):p:=h
def bE0 (h:p:=by rw [<- O];simp):p:=h
def vV (h:p:=by rw [<- o];exact kG BO 1):p:=h
def sG (h:p:=by have:=an.out;simp at this;omega):p:=h
def vW (h:p:=by rw [<- o];exact kG BO 3):p:=h
def vX (h:p:=by rw [<- o];exact kG BO 8):p:=h
def mY (h:p:=by intro y hy;rw [List.mem_singleton.1 hy];exact hb):p:=h
def mZ (h:p:=by simp [results,results56,go_sem,ay,al,az,aj]):p:=h
def nA (h:p:=by simp [results,results37,go_sem,ay,al,az,aj]):p:=h
def bE7 (h:p:=by simp [Big]):p:=h
def wI (h:p:=by simp;unfold Big;omega):p:=h
def wJ (h:p:=by rw [L.out.1];exact bc):p:=h
def wK (h:p:=by rw [<- az];exact kGa _):p:=h
def nH (h:p:=by rw [ar.out];simp;have:=ay.out;unfold Big;omega):p:=h
def nI (h:p:=by exact λq hq=>⟨by have:=hq.1;have:=D.size;omega,hq.2⟩):p:=h
def nJ (h:p:=by exact λj q=>⟨by omega,by simp [World.setCell];omega⟩):p:=h
def wM (h:p:=by have:=E.1.size;omega):p:=h
def wO (h:p:=by simpa [Big] using hb):p:=h
def nP (h:p:=by exact λq=>by simpa using hne (λe=>q (by rw [e]))):p:=h
def nR (h:p:=by have q:=kD.kMh ab.out av;rw [ap] at q;exact q):p:=h
def nS (h:p:=by have q:=kD.kMh ab.out hkl;rw [U] at q;exact q):p:=h
def tJ (h:p:=by rw [Y.out,a3.out];simp;omega):p:=h
def tK (h:p:=by show 1<=_;unfold maxLen;omega):p:=h
def bE8 (h:p:=by simp [hp]):p:=h
def nU (h:p:=by have:=kD.kDd (by decide) bd;unfold Big;omega):p:=h
def nV (h:p:=by exact λj I=>⟨I.1,by have:=I.2;have:=bp.size;omega⟩):p:=h
def nW (h:p:=by rw [<- o];unfold World.frozen?;simp only [e1]):p:=h
def pF (h:p:=by rw [HQ.out.1];have:=b8.out;unfold Big;omega):p:=h
def tY (h:p:=by exact λx hx=>hlt x (by simp [hx])):p:=h
def pG (h:p:=by first|(simp [kPt,e];done)|(simp [kPt];done)):p:=h
def pJ (h:p:=by simp [results,results143,go_sem,R0,F0]):p:=h
def pK (h:p:=by exact λj I=>⟨by have:=I.1;have:=o.size;omega,I.2⟩):p:=h
def pM (h:p:=by simp [results,results114,go_sem,R0,F0]):p:=h
def pO (h:p:=by exact λj I=>⟨I.1,by have:=I.2;have:=V.size;omega⟩):p:=h
def pQ (h:p:=by obtain ⟨a,c,h⟩:=kD.kY.zJ hQ;exact ⟨a,_,c,h⟩):p:=h
def wX (h:p:=by rw [inv.size];omega):p:=h
def bC5 (h:p:=by simpa using h1):p:=h
def bC6 (h:p:=by simpa using hf):p:=h
def bC7 (h:p:=by simpa using ht):p:=h
def bC8 (h:p:=by simpa using hr):p:=h
def bC9 (h:p:=by rw [hB.1];simp):p:=h
def pX (h:p:=by simp [results,results92,go_sem,R0,F0]):p:=h
def pY (h:p:=by exact λk hk=>by rcases hk with hk | hk <;> omega):p:=h
def vG (h:p:=by rw [<- R];exact jh (jD rfl)):p:=h
def vH (h:p:=by exact λk q=>by have:=q.1.1;omega):p:=h
def qA (h:p:=by exact λj I hn=>bz.out j (by have:=I.2;omega) hn):p:=h
def qB (h:p:=by rw [Nat.mul_comm];rwa [Nat.pow_succ] at h):p:=h
def qL (h:p:=by match c3,l3 with | [V],_=>exact ⟨_,rfl⟩):p:=h
def vO (h:p:=by exact λq=>by have:=q.1.1;omega):p:=h
def qR (h:p:=by exact λq=>H (by rw [kSs] at q;simpa using q)):p:=h
def qU (h:p:=by exact λj q r=>by have:=q.2.1;have:=r.1;omega):p:=h
def bE9 (h:p:=by simp [hy]):p:=h
def bB3 (h:p:=by simpa using hlen):p:=h
def vR (h:p:=by rw [L.out];exact eq.out):p:=h
def bB4 (h:p:=by simp at hk;omega):p:=h
def bB5 (h:p:=by simp at bd;omega):p:=h
def vY (h:p:=by rw [<- o];exact kG BO 7):p:=h
def vZ (h:p:=by rw [<- o];exact kG BO 4):p:=h
def bE4 (h:p:=by rw [HD.out]):p:=h
def rO (h:p:=by exact λj q=>⟨by omega,by omega,by omega⟩):p:=h
def bD0 (h:p:=by exact λh=>by cases h):p:=h
def bD1 (h:p:=by simpa using gl):p:=h
def bD2 (h:p:=by simpa using h3):p:=h
def bD3 (h:p:=by simpa using hv):p:=h
def bE1 (h:p:=by rw [<- az];rfl):p:=h
def bF0 (h:p:=by rw [<- h4]):p:=h
def bA8 (h:p:=by have:=a5.out;omega):p:=h
def bA9 (h:p:=by have:=an.out;omega):p:=h
def bE2 (h:p:=by exact λq=>by omega):p:=h
def uR (h:p:=by
 have R0:=kE (b:=w.heap.size + 2) X (j:=0) rfl;have F0:=frozen_of_row w2 (w.heap.size + 2) 0 _ _ X;have R1:=kE (b:=w.heap.size + 2) X (j:=1) rfl;have F1:=frozen_of_row w2 (w.heap.size + 2) 1 _ _ X;have R2:=kE (b:=w.heap.size + 2) X (j:=2) rfl;have F2:=frozen_of_row w2 (w.heap.size + 2) 2 _ _ X;have R3:=kE (b:=w.heap.size + 2) X (j:=3) rfl;have F3:=frozen_of_row w2 (w.heap.size + 2) 3 _ _ X;have R4:=kE (b:=w.heap.size + 2) X (j:=4) rfl;have F4:=frozen_of_row w2 (w.heap.size + 2) 4 _ _ X;exact Q9 R0 F0 R1 F1 R2 F2 R3 F3 (Q2 R4 F4)):p:=h
def uS (h:p:=by
 replace J:=yD (J.out.touch D qV);replace O:=O.trans D;exact Q2 J O):p:=h
def uT (h:p:=by
 replace hc:=hc.below hb;replace O:=O.trans (Touch.of_below hb);exact Q2 hc O):p:=h
def uU (h:p:=by
 replace BX:=kC BX hb;replace BQ:=kC BQ hb;replace BR:=kC BR hb;replace BO:=kC BO hb;exact Q4 BX BQ BR BO):p:=h
def uV (h:p:=by
 have HD:Hid (decide (x=y)=false->decide (a=b)=false):=yD rG;have HX:Hid (decide (x=y)=true->a.take (k + 1)=b.take (k + 1)):=yD vM;exact Q2 HD HX):p:=h
def uW (h:p:=by
 have R5:=E.1.kC R bF2;have Z:=O.trans E.1;have ac:=E.2;have am:=yD (J.out.touch E.1 qV);have ak:wS1.frozen? ⟨w,0,none⟩=false:=frozen_of_row wS1 w 0 _ _ R5;have al:wS1.frozen? ⟨w,1,none⟩=false:=frozen_of_row wS1 w 1 _ _ R5;have ay:wS1.frozen? ⟨w,2,none⟩=false:=frozen_of_row wS1 w 2 _ _ R5;have a7:wS1.frozen? ⟨w,3,none⟩=false:=frozen_of_row wS1 w 3 _ _ R5;have aj:=kE R5 (j:=0) (v:=.slice none 0 0) rfl;have an:=kE R5 (j:=1) (v:=.int .i64 0) rfl;have az:=kE R5 (j:=2) (v:=.int .i64 0) rfl;have a8:=kE R5 (j:=3) (v:=.int .i64 0) rfl;exact Q9 R5 Z ac am ak al ay a7 (Q4 aj an az a8)):p:=h
def uX (h:p:=by
 have hz:((a.length:Int) != b.length)=false:=bE6;have HL:=yD hl;exact Q2 hz HL):p:=h
def uY (h:p:=by
 replace HL:Hid ((kD.slice 9 kD.str).own v [.slice (some ⟨U,0,none⟩) 3 3] [{ data:=#[47,107,101,121,47,97] },{ data:=#[47,107,101,121,47,98] },{ data:=#[47,97,47,107,101,121] }] (λk=>k=U)):=yD (HL.out.touch D bB2);replace h6:X.heap.size<=U/\U < v.heap.size:=⟨h6.1,Nat.lt_of_lt_of_le h6.2 D.size⟩;exact Q2 HL h6):p:=h
def uZ (h:p:=by
 replace hc:=hc.below ar;have O:Touch (λk=>k=p) w w1:=Touch.of_below ar;exact Q2 hc O):p:=h
def vN (h:p:=by
 have hne:=λq=>yS hlt ai q;have H:=λq=>jd Y.out hlt ai q;exact Q2 hne H):p:=h
def wH (h:p:=by
 replace HL:Hid ((kD.slice 9 kD.str).own v [.slice (some ⟨U,0,none⟩) 3 3] [{ data:=#[47,107,101,121,47,97] },{ data:=#[47,107,101,121,47,98] },{ data:=#[47,97,47,107,101,121] }] (λk=>k=U)):=yD (HL.out.below hb);replace h6:X.heap.size<=U/\U < v.heap.size:=⟨h6.1,Nat.lt_of_lt_of_le h6.2 hb.size⟩;have Z:X.heap.size<=b/\b < v.heap.size:=⟨by omega,by omega⟩;exact Q3 HL h6 Z):p:=h
def wP (h:p:=by
 replace J:=yD (J.out.below hb);replace U:=(tQ U hb);exact Q2 J U):p:=h
def x8 (h:p:=by
 have R0:Qc w2 (w.heap.size + 1) 0 (.slice none 0 0):=(o.cell (p:=⟨w.heap.size + 1,0,none⟩) bF3).trans bD9;have F0:w2.frozen? ⟨w.heap.size + 1,0,none⟩=false:=(o.frozen (p:=⟨w.heap.size + 1,0,none⟩) bF3).trans bD9;exact Q2 R0 F0):p:=h
def x9 (h:p:=by
 have Z:Qb w U:=by rw [<- R];exact bI
 have K0:Qd U w 0 (Qs em x.1 d7):=vS;have K1:Qd U w 1 (Qn x.2.1.1):=vS;have K2:Qd U w 2 (Qs dx x.2.1.2 dw):=vS;have K3:Qd U w 3 (Qs e9 x.2.2.1 e6):=vS;have K4:Qd U w 4 (Qs e7 x.2.2.2.1 e4):=vS;have K5:Qd U w 5 (Qs e0 x.2.2.2.2.1 ey):=vS;have K6:Qd U w 6 (Qs en x.2.2.2.2.2.1 ej):=vS;have K7:Qd U w 7 (Qn x.2.2.2.2.2.2):=vS;exact Q9 Z K0 K1 K2 K3 K4 K5 K6 K7):p:=h
def xA (h:p:=by
 replace XO:=yD (XO.out.below hb);replace QO:=yD (QO.out.below hb);replace AO:=yD (AO.out.below hb);replace NO:=yD (NO.out.below hb);replace OO:=yD (OO.out.below hb);replace LO:=yD (LO.out.below hb);replace RO:=yD (RO.out.below hb);exact Q7 XO QO AO NO OO LO RO):p:=h
def xB (h:p:=by
 replace ag:=ag.yB D nD;replace BN:=D.kC BN bF2;replace BT:=D.kC BT bF2;replace J:=yD (J.out.touch D pR);replace L:=yD (L.out.touch D pR);exact Q5 ag BN BT J L):p:=h
def xC (h:p:=by
 replace J:=yD (J.out.below ah);replace hc:=hc.below ah;replace O:=O.trans (Touch.of_below ah);exact Q3 J hc O):p:=h
def xD (h:p:=by
 have a1:=yU (T:=λk=>S k/\k < w.heap.size) (yV (w':=w.drew.alloc (.cells (cs.toArray++cells.toArray++Builtin.zeroCells z.cells (grownCap w (xs.length + m) cap e - (xs.length + m))) e)) (zl g7) (λk hk=>heap_alloc_old w.drew _ hk.2)) (λk hk=>⟨hk.1.1,hk.2⟩);have a2:=yU (T:=λk=>T k/\k < w.heap.size) (yV (w':=w.drew.alloc (.cells (cs.toArray++cells.toArray++Builtin.zeroCells z.cells (grownCap w (xs.length + m) cap e - (xs.length + m))) e)) (zl hrow) (λk hk=>heap_alloc_old w.drew _ hk.2)) (λk hk=>hk);exact Q2 a1 a2):p:=h
def xE (h:p:=by
 have av:=kD.yx HL.out hlt;have b3:=List.take_succ_eq_append_getElem hlt;exact Q2 av b3):p:=h
def xG (h:p:=by
 replace hc:=hc.touch hT bF2 bB6;replace ag:=ag.yB hT bB8;exact Q2 hc ag):p:=h
def xH (h:p:=by
 have EC:Qb wV wC:=tC;have bt:wV.heap.size<=wC.heap.size:=EC.size;have a9:Qd wC wV 0 (Qn f):=vT;have a7:Qd wC wV 1 (Qn x1):=vT;have ax:Qd wC wV 2 (Qn y3):=vT;have E6:=(tQ E5 EC);have ag:=yD (am.out.below EC);exact Q7 EC bt a9 a7 ax E6 ag):p:=h
def xI (h:p:=by
 have M0:=kE (b:=w.heap.size + 1) X (j:=0) rfl;have F0:=frozen_of_row J (w.heap.size + 1) 0 _ _ X;have M1:=kE (b:=w.heap.size + 1) X (j:=1) rfl;have F1:=frozen_of_row J (w.heap.size + 1) 1 _ _ X;have M2:=kE (b:=w.heap.size + 1) X (j:=2) rfl;have F2:=frozen_of_row J (w.heap.size + 1) 2 _ _ X;have M3:=kE (b:=w.heap.size + 1) X (j:=3) rfl;have F3:=frozen_of_row J (w.heap.size + 1) 3 _ _ X;have M4:=kE (b:=w.heap.size + 1) X (j:=4) rfl;have F4:=frozen_of_row J (w.heap.size + 1) 4 _ _ X;have M5:=kE (b:=w.heap.size + 1) X (j:=5) rfl;have F5:=frozen_of_row J (w.heap.size + 1) 5 _ _ X;have M6:=kE (b:=w.heap.size + 1) X (j:=6) rfl;have F6:=frozen_of_row J (w.heap.size + 1) 6 _ _ X;exact Q9 M0 F0 M1 F1 M2 F2 M3 F3 (Q6 M4 F4 M5 F5 M6 F6)):p:=h
def xJ (h:p:=by
 have be:=Int.ofNat_lt.2 hlt;have b9:=Int.natCast_nonneg k;have ch:(k:Int)<=(pl:Int):=bF2;exact Q3 be b9 ch):p:=h
def xK (h:p:=by
 replace R:=D.kC R bF2;replace B:=D.kC B bF2;exact Q2 R B):p:=h
def xL (h:p:=by
 have Z:X.heap.size<=b/\b < v.heap.size:=⟨by omega,by omega⟩;replace E:=And.intro (E.1.trans (Touch.of_below hb)) (E.2.below hb);exact Q2 Z E):p:=h
def xM (h:p:=by
 have Y0:=kE (b:=w.heap.size + 1) F (j:=0) (v:=Qs aq y.1 ap) rfl;have Y1:=kE (b:=w.heap.size + 1) F (j:=1) (v:=.int .i64 y.2.1.1) rfl;have Y2:=kE (b:=w.heap.size + 1) F (j:=2) (v:=Qs a7 y.2.1.2 a9) rfl;have Y3:=kE (b:=w.heap.size + 1) F (j:=3) (v:=Qs bp y.2.2.1 bk) rfl;have Y4:=kE (b:=w.heap.size + 1) F (j:=4) (v:=Qs bl y.2.2.2.1 bn) rfl;have Y5:=kE (b:=w.heap.size + 1) F (j:=5) (v:=Qs bo y.2.2.2.2.1 bq) rfl;have Y6:=kE (b:=w.heap.size + 1) F (j:=6) (v:=Qs bc y.2.2.2.2.2.1 bf) rfl;have Y7:=kE (b:=w.heap.size + 1) F (j:=7) (v:=.int .i64 y.2.2.2.2.2.2) rfl;exact Q8 Y0 Y1 Y2 Y3 Y4 Y5 Y6 Y7):p:=h
def xN (h:p:=by
 have Z:Qb w U:=by rw [<- R];exact bI
 have I:Qd U w 0 (Qs V n F):=vS;exact Q2 Z I):p:=h
def xO (h:p:=by
 replace D:=(Touch.of_below (S:=λk=>k=p) (bR.alloc nL _)).trans D;have b4:=D.size;exact Q2 D b4):p:=h
def xP (h:p:=by
 replace BB:=D.kC BB bF2;replace Z:X.heap.size<=b/\b < v.heap.size:=⟨Z.1,Nat.lt_of_lt_of_le Z.2 D.size⟩;exact Q2 BB Z):p:=h
def xQ (h:p:=by
 have L:=yD (lk_no (idxOf_miss (p:=kMq n t) hlt HW.out));have D:=(tQ Z o);have X:=XR.out;have dq:¬ (k:Int) < l.length:=bF2;have R0:=kE (b:=w.heap.size + 2) X (j:=0) rfl;have F0:=frozen_of_row wr (w.heap.size + 2) 0 _ _ X;have R1:=kE (b:=w.heap.size + 2) X (j:=1) rfl;have F1:=frozen_of_row wr (w.heap.size + 2) 1 _ _ X;have R2:=kE (b:=w.heap.size + 2) X (j:=2) rfl;have F2:=frozen_of_row wr (w.heap.size + 2) 2 _ _ X;have R3:=kE (b:=w.heap.size + 2) X (j:=3) rfl;have F3:=frozen_of_row wr (w.heap.size + 2) 3 _ _ X;have R4:=kE (b:=w.heap.size + 2) X (j:=4) rfl;have F4:=frozen_of_row wr (w.heap.size + 2) 4 _ _ X;exact Q9 L D X dq R0 F0 R1 F1 (Q6 R2 F2 R3 F3 R4 F4)):p:=h
def xR (h:p:=by
 replace XO:=yD (XO.out.below hb);replace QO:=yD (QO.out.below hb);replace NO:=yD (NO.out.below hb);replace OO:=yD (OO.out.below hb);exact Q4 XO QO NO OO):p:=h
def xS (h:p:=by
 have aw:Hid ((kD.slice 60 jF).rd w [Qs em x.1 d7] x.1):=yD ⟨V,q0⟩;have av:Hid (kP.rd w [Qn x.2.1.1,Qs dx x.2.1.2 dw] x.2.1):=yD ⟨a9,q1⟩;have an:Hid ((kD.slice 107 kH).rd w [Qs e9 x.2.2.1 e6] x.2.2.1):=yD ⟨bg,q2⟩;have ay:Hid ((kD.slice 140 kz).rd w [Qs e7 x.2.2.2.1 e4] x.2.2.2.1):=yD ⟨bo,q3⟩;have au:Hid ((kD.slice 176 jA).rd w [Qs e0 x.2.2.2.2.1 ey] x.2.2.2.2.1):=yD ⟨b1,q4⟩;have ar:Hid ((kD.slice 179 kN).rd w [Qs en x.2.2.2.2.2.1 ej] x.2.2.2.2.2.1):=yD ⟨cf,q5⟩;exact Q6 aw av an ay au ar):p:=h
def xU (h:p:=by
 have M0:=kE XV.out (j:=0) (v:=.int .i64 c) rfl;have M1:=kE XV.out (j:=1) rfl;have R0:=kE ((o.block _ (show w.heap.size + 1 < w.heap.size + 1 + 1 by omega)).trans XR.out) (j:=0) (v:=.int .i64 0) rfl;have R1:=kE ((o.block _ (show w.heap.size + 1 < w.heap.size + 1 + 1 by omega)).trans XR.out) (j:=1) (v:=.slice none 0 0) rfl;have F0:=λj=>frozen_of_row wr (w.heap.size + 1) j _ _ ((o.block _ (show w.heap.size + 1 < w.heap.size + 1 + 1 by omega)).trans XR.out);exact Q5 M0 M1 R0 R1 F0):p:=h
def xV (h:p:=by
 have gq:Hid ((kD.slice 107 kH).rd w [Qs e9 x2 e6] x2):=yD ⟨bg,hx.2.2.2.1⟩;have h7:Hid ((kD.slice 140 kz).rd w [Qs e7 x3 e4] x3):=yD ⟨bo,hx.2.2.2.2.1⟩;have iz:Hid (kP.rd w [Qn xc,Qs dx xe dw] (xc,xe)):=yD ⟨a9,hx.2.2.1⟩;have fw:Hid (kR.rd w [Qs dv q0 ek] q0):=yD ⟨ag,hq.2.1⟩;have iy:Hid (Qi q1):=yD fn;have cd:Hid (∀ y∈x2,y.2.1.length<=1048576):=yD (λy hy=>(hB.2.2.1.2 y hy).2.1);have f8:x3.length<=2000000:=Nat.le_trans hB.2.2.2.1.1 bF1;have il:x4.length<=19:=hB.2.2.2.2.1.1;exact Q8 gq h7 iz fw iy cd f8 il):p:=h
def xW (h:p:=by
 have U:Qb w w1:=by rw [<- o];exact bI
 have BX:Qr w1 w (Qh em x0 d7 xc dx xe dw e9 x2 e6 e7 x3 e4 e0 x4 ey en x5 ej x6) 33:=rZ;have BQ:Qr w1 (w.heap.size + 1) (Qk dv q0 ek q1 q2 q3) 38:=by rw [<- o];exact jh (jD bF3)
 have BR:Qr w1 (w.heap.size + 2) #[.slice none 0 0,Qn 0,.slice none 0 0,.slice none 0 0,.slice none 0 0,.slice none 0 0,.slice none 0 0,Qn 0,.slice none 0 0] 43:=by rw [<- o];exact jD bF3
 have bj:w.heap.size + 3<=w1.heap.size:=bD6;exact Q5 U BX BQ BR bj):p:=h
def xX (h:p:=by
 have E1:Qb w v1:=by rw [<- D];exact (F1.setCell qM _)
 have L:Hid (v1.heap.size=w1.heap.size):=yD sZ;replace aa:=yD (kD.own.out (w':=v1) aa.out dP);exact Q3 E1 L aa):p:=h
def xY (h:p:=by
 have hb:Qb W v:=(by rw [<- o];exact bR.alloc nL _);have zv:W.heap.size + 1<=v.heap.size:=(by rw [<- o];simp);exact Q2 hb zv):p:=h
def xZ (h:p:=by
 replace BR:=kC BR ah;replace J:=yD (J.out.below ah);replace U:=(tQ U ah);exact Q3 BR J U):p:=h
def y5 (h:p:=by
 replace BX:=kC BX hb;replace BW:=kC BW hb;replace BA:=kC BA hb;exact Q3 BX BW BA):p:=h
def y7 (h:p:=by
 have Z:wz.heap.size<=b/\b < v.heap.size:=⟨by omega,by omega⟩;replace E:=And.intro (E.1.trans (Touch.of_below hb)) (E.2.below hb);exact Q2 Z E):p:=h
def y8 (h:p:=by
 have bw:=D.size;replace R:=D.kC R bF2;replace O:=O.trans D;exact Q3 bw R O):p:=h
def y9 (h:p:=by
 have HZ:Hid (wA.heap.size=w.heap.size + 3):=yD (by rw [<- U];simp);have EA:Qb w wA:=by rw [<- U];exact bI
 have XB:Hid (Qr wA w #[Qn c,Qs la l lp] 27):=yD (by rw [<- U];exact jh (jh (jD rfl)));have XR:Hid (Qr wA (w.heap.size + 1) #[Qn 0,.slice none 0 0] 27):=yD (by rw [<- U];exact jh (jD bF3));have XO:Hid (Qr wA (w.heap.size + 1 + 1) #[Qn c,.slice none 0 0] 27):=yD (by rw [<- U];exact jD bF3);exact Q5 HZ EA XB XR XO):p:=h
def z8 (h:p:=by
 replace J:=yD (J.out.touch D qV);replace HR:=yD (HR.out.touch D qV);replace O:=O.trans D;exact Q3 J HR O):p:=h
def A7 (h:p:=by
 replace R:=V.kC R bF2;replace J:=yD (J.out.touch V qV);replace hc:=hc.touch V bF2 bB6;replace O:=O.jJ V bF2;exact Q4 R J hc O):p:=h
def A9 (h:p:=by
 have aw:w3.frozen? ⟨w2,0,none⟩=false:=frozen_of_row w3 (w2.heap.size) 0 _ _ B;have GB:(World.alloc w3 (.cells #[.string { data:=#[97] }] 9)).frozen? ⟨w2,0,none⟩=false:=(frozen?_alloc_cells _ _ _ _).trans aw;have HB:(World.alloc w3 (.cells #[.string { data:=#[97] }] 9)).cell? ⟨w2,0,none⟩=some (.slice a 0 c):=kE (kC B (bR.alloc nL _)) rfl;exact Q3 aw GB HB):p:=h
def AA (h:p:=by
 have br:=yD (show jo.raw w [Qs Y a.1.1 aj,Qn a.1.2.1.1,Qs ai a.1.2.1.2 af,Qs ae a.1.2.2.1 I,Qs ag a.1.2.2.2.1 ac,Qs V a.1.2.2.2.2.1 ab,Qs J a.1.2.2.2.2.2.1 H,Qn y.2.2.2.2.2.2] (kSe a y) from kBm am (kBm a6 (kBm ay (kBm av (kBm au (kBm an (⟨rfl,bh⟩:kD.int.raw w [_] _)))))));have bb:=yD (kZt (a:=a) (y:=y));have bm:=yD (jDk (a:=a) (y:=y));exact Q3 br bb bm):p:=h
def AB (h:p:=by
 have EC:Qb wr wC:=tC;have bt:wC.heap.size=wr.heap.size + 1:=bE0;have M0:Qd wC wr 0 (Qs ad x0 a4):=vT;exact Q3 EC bt M0):p:=h
def AC (h:p:=by
 have EF:Qb w w2:=E1.trans (Below.mono (Below.trans bI ag) E1.size);have J:=yD O2;have X:=kC XR.out (Below.trans bI ag);exact Q3 EF J X):p:=h
def AJ (h:p:=by
 have L:Qd di w4 1 (Qn J.2.1.1):=kE BA rfl;have bb:Qd di w4 2 (Qs dn J.2.1.2 cm):=kE BA rfl;have ba:Qd di w4 3 (Qs dt J.2.2.1 co):=kE BA rfl;have ax:Qd di w4 4 (Qs dq J.2.2.2.1 du):=kE BA rfl;have a9:Qd di w4 5 (Qs dw J.2.2.2.2.1 dl):=kE BA rfl;have ar:Qd di w4 6 (Qs dp J.2.2.2.2.2.1 dm):=kE BA rfl;have az:Qd di w4 7 (Qn J.2.2.2.2.2.2):=kE BA rfl;have ay:Qd di w4 8 (Qs oa os oc):=kE BA rfl;exact Q8 L bb ba ax a9 ar az ay):p:=h
def AL (h:p:=by
 replace J:=yD (J.out.below V);have U:=(tQ o V);exact Q2 J U):p:=h
def AP (h:p:=by
 have L:=yD (kUc (t:=t) (show yY (n,x1,x2,x3) f l=true by simp only [yY,HK.out,Bool.not_true,Bool.not_false,Bool.and_true,Bool.true_and,Bool.and_false,Bool.false_and,Bool.or_true,Bool.true_or,Bool.or_false,Bool.false_or,Bool.not_not,ge_iff_le,bh,b6,an,ao,ao]) hk);have bi:=kSk L.out.2 hk;exact Q2 L bi):p:=h
def AQ (h:p:=by
 have J:Hid (kR.own w2 [Qs a2 y.1 c2] y.1 (jg (w.heap.size + 1 + 1) w2)):=yD (O2.wide pK);have EF:Qb w w2:=D.trans (Below.mono (Below.trans bI ag) D.size);replace R0:=cL ag R0;replace F0:w2.frozen? ⟨w.heap.size + 1,0,none⟩=false:=(ag.frozen (p:=⟨w.heap.size + 1,0,none⟩) (by have:=o.size;simp;omega)).trans F0;exact Q4 J EF R0 F0):p:=h
def AR (h:p:=by
 have HD:Hid (kDr x y=false->decide (a=b)=false):=yD (λq=>by simpa using hne (jCx q));have HE:Hid (¬ x.2.1=y.2.1->decide (a=b)=false):=yD nP;have HX:Hid (kDr x y=true->x.2.1.length=y.2.1.length/\(x.2.1=y.2.1->a.take (k + 1)=b.take (k + 1))):=yD (λq=>⟨(kLx q).1,λe=>H ((kLx q).2 e)⟩);exact Q3 HD HE HX):p:=h
def AU (h:p:=by
 have aa:j < n:=bF2;have ef:(j:Int) < n:=bF2;have b3:(k:Int) < n:=bF2;have b9:=Int.natCast_nonneg k;have bv:(j:Int) - 1=(k:Int):=bF2;have hw:IntKind.i64.wrap (k:Int)=k:=IntWalk.i64_in _ bF2;have hp:decide ((j:Int) > a)=true:=bE6;have bz:(a:Int) < j:=bF2;have HY:=yD (λq=>(jEj (key:=key) hk bq av hkl q).symm.trans bj.out);have a7:=yD (λq=>(inner_no (key:=key) (a:=a) hk av hkl q).symm.trans bj.out);exact Q9 aa ef b3 b9 bv hw hp bz (Q2 HY a7)):p:=h
def AV (h:p:=by
 replace BB:=kC BB hb;replace Z:X.heap.size<=b/\b < v.heap.size:=⟨Z.1,Nat.lt_of_lt_of_le Z.2 hb.size⟩;exact Q2 BB Z):p:=h
def AX (h:p:=by
 have bN:Below wS wS (World.alloc wS (.cells #[] 5)):=bR.alloc nL _;have ak:wS.heap.size + 1<=(World.alloc wS (.cells #[] 5)).heap.size:=(by simp);have RV:=((kD.kY.void (e:=5) (r:=kD.byte) (w:=(World.alloc wS (.cells #[] 5))) (a:=some ⟨wS,0,none⟩) (S:=λ_=>False)).own (Nat.zero_le _)).rd;exact Q3 bN ak RV):p:=h
def AY (h:p:=by
 have Z:Qb w U:=by rw [<- R];exact bI
 have be:U.heap.size=w.heap.size + 3:=bD4;have K0:Qd U w 0 (Qs em x.1 d7):=vS;have K1:Qd U w 1 (Qn x.2.1.1):=vS;have K2:Qd U w 2 (Qs dx x.2.1.2 dw):=vS;have N0:Qc U (w.heap.size + 1) 0 (Qs an n a8):=vS;have XR:Hid (Qr U (w.heap.size + 2) #[.slice none 0 0,.slice none 0 0,.slice none 0 0,Qn 0,Qn 0] 60):=yD tN;exact Q7 Z be K0 K1 K2 N0 XR):p:=h
def AZ (h:p:=by
 have H:Hid (∀ (W:World),kD.row kQ true W (cs.take (i * 3)++(cx++cs.drop (i * 3))) (l.take i++x :: l.drop i) (λ_=>False)):=yD (λW=>kD.row_ins (w':=W) kEa h7 (Nat.le_of_lt hi) hx);have aw:Hid (∀ y∈l.take i++x :: l.drop i,kQ.bdd Big y):=yD (kD.mem_ins cd bf);exact Q2 H aw):p:=h
def BC (h:p:=by
 replace HK:=yD (HK.out.below hb);replace BX:=kC BX hb;replace R:=kC R hb;exact Q3 HK BX R):p:=h
def BG (h:p:=by
 have O:=λq=>idxOf_hit hlt q Y.out;have H:=λq=>kAv hlt q Y.out;exact Q2 O H):p:=h
def BH (h:p:=by
 have U:Qb w w1:=by rw [<- o];exact bI
 have BX:Qr w1 w #[Qn xc,Qs b1 xe aw] 27:=rZ;have BN:Qr w1 (w.heap.size + 1) #[Qs na n np] 36:=by rw [<- o];exact jh (jD bF3)
 have BR:Qr w1 (w.heap.size + 2) #[Qn 0,.slice none 0 0] 27:=by rw [<- o];exact jD bF3
 have bj:w.heap.size + 3<=w1.heap.size:=bD6;exact Q5 U BX BN BR bj):p:=h
def BI (h:p:=by
 replace HK:=yD (HK.out.touch D (λk q h=>hS k q.1 h));replace BX:=D.kC BX bF2;replace R:=D.kC R bF2;exact Q3 HK BX R):p:=h
def BJ (h:p:=by
 have h6:X.heap.size<=U/\U < v.heap.size:=⟨by omega,by omega⟩;replace E:=And.intro (E.1.trans (Touch.of_below hb)) (E.2.below hb);exact Q2 h6 E):p:=h
def BL (h:p:=by
 have hT:Touch (λk=>k=w.heap.size + 1) t2 t3:=(by rw [<- o];exact sT4);replace RT:Qr t3 (w.heap.size + 1) #[Qs b0 t.1 ck,Qs b6 t.2.1 dd,Qs bb t.2.2.1 dh,Qs c7 t.2.2.2 c8] 71:=(by rw [<- o];exact kG (kG (kG (kG (RT) 0) 1) 2) 3);have eu:=hT.size;exact Q3 hT RT eu):p:=h
def BM (h:p:=by
 replace HQ:=yD (HQ.out.touch D qV);replace O:=O.trans D;exact Q2 HQ O):p:=h
def BP (h:p:=by
 replace hc:=hc.below au;replace O:=O.trans (Touch.of_below au);exact Q2 hc O):p:=h
def BV (h:p:=by
 replace O0:=cL E5.out O0;replace Z0:=(E5.out.frozen (p:=⟨b,kn * 3,none⟩) HB.out).trans Z0;replace O1:=cL E5.out O1;replace Z1:=(E5.out.frozen (p:=⟨b,kn * 3 + 1,none⟩) HB.out).trans Z1;replace O2:=cL E5.out O2;replace Z2:=(E5.out.frozen (p:=⟨b,kn * 3 + 2,none⟩) HB.out).trans Z2;exact Q6 O0 Z0 O1 Z1 O2 Z2):p:=h
def BZ (h:p:=by
 have E:Below u u (u.alloc (.cells cx.toArray e)):=bR.alloc nL _;have hS:(slice e r).own u [.slice a len cap] xs (λk=>S k/\k < w.heap.size):=⟨(slice e r).mono ((slice e r).live hown.1) (λk hk=>hu.block k hk.2),hown.2⟩;exact Q2 E hS):p:=h
def CB (h:p:=by
 have EC:Qb wr wC:=tC;have M0:Qd wC wr 0 (Qs xa x.1 xp):=vT;have M1:Qd wC wr 1 (Qn x.2.1):=vT;have M2:Qd wC wr 2 (Qn x.2.2):=vT;replace K0:=cL EC K0;exact Q5 EC M0 M1 M2 K0):p:=h
def CE (h:p:=by
 have HL:=yD hl;have Y:=yD hn;have bc:l.length<=16777216:=hl.2.1;exact Q3 HL Y bc):p:=h
def CF (h:p:=by
 have Z:Qb w U:=by rw [<- R];exact bI
 have be:U.heap.size=w.heap.size + 3:=bD4;have K1:Qd U w 1 (Qs aa l al):=vS;have K2:Qc U (w.heap.size + 1) 0 (Qs an n a8):=vS;have XR:Hid (Qr U (w.heap.size + 2) #[.slice none 0 0,.slice none 0 0,.slice none 0 0,Qn 0,Qn 0] 60):=yD tN;exact Q5 Z be K1 K2 XR):p:=h
def CG (h:p:=by
 have Z:Qb w U:=tH;have K0:Qd U w 0 (Qs na n np):=vS;have bx:U.heap.size=w.heap.size + 1:=bD4;exact Q3 Z K0 bx):p:=h
def CJ (h:p:=by
 have HD:=yD hne;have HX:=yD H;have HR:=yD pr;have R:=yD qr;exact Q4 HD HX HR R):p:=h
def CK (h:p:=by
 have cg:=D.size;replace ag:=ag.yB D nD;replace BN:=D.kC BN bF2;replace HR:=yD (HR.out.touch D pR);exact Q4 cg ag BN HR):p:=h
def CL (h:p:=by
 replace BX:=a4.kC BX bF2;replace BQ:=a4.kC BQ bF2;replace BR:=a4.kC BR bF2;exact Q3 BX BQ BR):p:=h
def CO (h:p:=by
 have hr:i∈Region.ready .any l.toArray listed:=bA4;have hi2:q.all (λx=>decide (x.1 < n) && !D.contains x.1)=true:=dS;exact Q2 hr hi2):p:=h
def CP (h:p:=by
 have hi2:q.all (λx=>decide (x.1 < n) && !D.contains x.1)=true:=dS;have hil:i < l.toArray.size:=Nat.lt_trans hi.1.1 hn;exact Q2 hi2 hil):p:=h
def CQ (h:p:=by
 replace BR:=kC BR hb;replace U:=(tQ U hb);exact Q2 BR U):p:=h
def CR (h:p:=by
 have XR:Qr U (w.heap.size + 1) #[.slice none 0 0,Qn 0,.slice none 0 0,.slice none 0 0,.slice none 0 0,.slice none 0 0,.slice none 0 0,Qn 0] 33:=by rw [<- R];exact jD bF3
 have bx:U.heap.size=w.heap.size + 2:=bD4;exact Q2 XR bx):p:=h
def CS (h:p:=by
 have Z:Qb w U:=by rw [<- R];exact bI
 have K0:Qd U w 0 (Qs aa a al):=vS;have K1:Qc U (w.heap.size + 1) 0 (Qs ab b ar):=vS;exact Q3 Z K0 K1):p:=h
def CU (h:p:=by
 have fl:=E.1.size;have RS:=E.1.kC BN bF2;have aj:Qc am nb 0 (Qs a0 x0 c0):=kE RS rfl;have ak:am.frozen? ⟨nb,0,none⟩=false:=frozen_of_row am (nb) 0 _ _ RS;have an:Qc am nb 1 (Qn kc):=kE RS rfl;have al:am.frozen? ⟨nb,1,none⟩=false:=frozen_of_row am (nb) 1 _ _ RS;exact Q6 fl RS aj ak an al):p:=h
def CV (h:p:=by
 have D:Touch (λk=>k=w2.heap.size) w3 w4:=wY;replace BO:w4.heap[w2.heap.size]?=some (.cells #[.slice bt x0.length bu,.int .i64 x1,.int .i64 (x2 - 1),.int .i64 x3] 38 (0,0)):=by rw [<- o];exact kG BO 2
 have b5:=D.size;exact Q3 D BO b5):p:=h
def CW (h:p:=by
 have J:cells.length=m * i.size:=by rw [hsize,W,hm]
 have R:cur.toList.length=p.length + (cs.length + tl.length):=by rw [g2];simp
 have ab:cur.size=p.length + (cs.length + tl.length):=by rw [<- R,Array.length_toList]
 exact Q3 J R ab):p:=h
def CX (h:p:=by
 replace BR:=kC BR hb;replace BO:=kC BO hb;exact Q2 BR BO):p:=h
def CY (h:p:=by
 have az:Qc w5 (w.heap.size + 2) 1 (.slice none 0 0):=kE BR rfl;have bf:Qc w5 (w.heap.size + 2) 2 (.slice none 0 0):=kE BR rfl;have be:Qc w5 (w.heap.size + 2) 3 (Qn 0):=kE BR rfl;have b2:Qc w5 (w.heap.size + 2) 4 (Qn 0):=kE BR rfl;exact Q4 az bf be b2):p:=h
def CZ (h:p:=by
 replace BY:=kC BY hb;replace J:=yD (J.out.below hb);replace HY:=yD (HY.out.below hb);exact Q3 BY J HY):p:=h
def DC (h:p:=by
 have E3:Qb w v3:=by rw [<- D];exact (F3.setCell qM _)
 have al:Hid (v3.heap.size=w3.heap.size):=yD sZ;replace aa:=yD (kD.own.out (w':=v3) aa.out cK);replace ab:=yD (kD.own.out (w':=v3) ab.out cK);replace aq:=yD (kD.own.out (w':=v3) aq.out cK);exact Q5 E3 al aa ab aq):p:=h
def DD (h:p:=by
 replace K0:=cL N K0;replace K1:=cL N K1;replace K2:=cL N K2;exact Q3 K0 K1 K2):p:=h
def DF (h:p:=by
 have V:=o.skip;have a3:=yD (kKm hil hno);have Y:=yD (kCc (p:=λy=>!p y) hil (by simp [hyes]));have ac:=yD o.mem;have br:=o.len;exact Q5 V a3 Y ac br):p:=h
def DI (h:p:=by
 replace BB:=kC BB hb;replace Z:wr.heap.size<=b/\b < v.heap.size:=⟨Z.1,Nat.lt_of_lt_of_le Z.2 hb.size⟩;exact Q2 BB Z):p:=h
def DJ (h:p:=by
 have HR:Hid (kHn (n,x1,x2,x3) f t=(f,x1,y3)):=yD bE1;have HY:Hid (Qi y3):=yD wK;exact Q2 HR HY):p:=h
def DK (h:p:=by
 replace HB:Hid ((kD.slice 5 kD.byte).jr v [Qs ba bl bc] bl (Ql X v b)):=yD ((HB.out.below hb).wide dM);replace HK:Hid (kR.jr v [Qs ka Y kc] Y (Ql X v b)):=yD ((HK.out.below hb).wide dM);exact Q2 HB HK):p:=h
def DL (h:p:=by
 have ag:Hid (x.1.length<=Big):=yD q0.1;have ai:Hid (x.2.2.1.length<=Big):=yD q2.1;have az:Hid (x.2.2.2.1.length<=Big):=yD q3.1;have ak:Hid (x.2.2.2.2.1.length<=Big):=yD q4.1;have aj:Hid (x.2.2.2.2.2.1.length<=Big):=yD q5.1;exact Q5 ag ai az ak aj):p:=h
def DR (h:p:=by
 have HD:=yD (show kQj (x0,x1,x2,x3)=(x0,x1,x2 - 1,x3) by unfold kQj;rw [if_neg hh];rfl);have HK:=yD (show kJq (x0,x1,x2,x3)=true by unfold kJq;simp only;rw [decide_eq_false hh];rfl);exact Q2 HD HK):p:=h
def DT (h:p:=by
 replace hc:=hc.below hb;have O:Touch (λk=>k=p) w w1:=Touch.of_below hb;exact Q2 hc O):p:=h
def DU (h:p:=by
 have Z:Qb w U:=by rw [<- R];exact bI
 have be:U.heap.size=w.heap.size + 2:=bD4;have K0:Qd U w 0 (Qs an n a8):=vS;have K1:Qc U (w.heap.size + 1) 0 (.slice none 0 0):=vS;have F1:U.frozen? ⟨w.heap.size + 1,0,none⟩=false:=vS;exact Q5 Z be K0 K1 F1):p:=h
def DV (h:p:=by
 have RR:Hid ((kD.slice 176 jA).rd w [Qs e0 x.2.2.2.2.1 ey] x.2.2.2.2.1):=yD ⟨b1,q5⟩;have RM:Hid ((kD.slice 179 kN).rd w [Qs en x.2.2.2.2.2.1 ej] x.2.2.2.2.2.1):=yD ⟨cf,q6⟩;exact Q2 RR RM):p:=h
def DW (h:p:=by
 have a7:am.frozen? ⟨nb,3,none⟩=false:=frozen_of_row am (nb) 3 _ _ RS;have bt:Qc am nb 4 (.slice a3 0 c3):=kE RS rfl;have bm:am.frozen? ⟨nb,4,none⟩=false:=frozen_of_row am (nb) 4 _ _ RS;exact Q3 a7 bt bm):p:=h
def DX (h:p:=by
 have Z:Qb w U:=by rw [<- R];exact bI
 have K0:Qd U w 0 (Qs na n np):=vS;exact Q2 Z K0):p:=h
def DY (h:p:=by
 replace HR:=yD (HR.out.touch hT pR);replace HP:=yD (HP.out.touch hT pR);exact Q2 HR HP):p:=h
def DZ (h:p:=by
 have L1:=kE ((o.block _ (show w.heap.size < w.heap.size + 1 + 1 by omega)).trans XB.out) (j:=1) (v:=Qs la l lp) rfl;have O:Qb w wr:=EA.trans (o.mono bF2);have dq:=Int.natCast_nonneg k;exact Q3 L1 O dq):p:=h
def EB (h:p:=by
 have BR:Qr w1 (w.heap.size + 2) #[.slice none 0 0,.slice none 0 0,.slice none 0 0,Qn 0,Qn 0] 60:=by rw [<- o];exact jD bF3
 have bj:w.heap.size + 3<=w1.heap.size:=bD6;exact Q2 BR bj):p:=h
def EE (h:p:=by
 replace ap:Hid (kR.jr v [Qs J n1 U] n1 (Ql wr v b)):=yD ((ap.out.below hb).wide dM);replace ba:Hid (kR.jr v [Qs X n2 Y] n2 (Ql wr v b)):=yD ((ba.out.below hb).wide dM);exact Q2 ap ba):p:=h
def EG (h:p:=by
 have ey:am.frozen? ⟨nb,6,none⟩=false:=frozen_of_row am (nb) 6 _ _ RS;have e0:Qc am nb 7 (Qn 0):=kE RS rfl;have e5:am.frozen? ⟨nb,7,none⟩=false:=frozen_of_row am (nb) 7 _ _ RS;exact Q3 ey e0 e5):p:=h
def EH (h:p:=by
 have E2:Qb w v2:=by rw [<- D];exact (F2.setCell qM _)
 have ae:Hid (v2.heap.size=w2.heap.size):=yD sZ;replace aa:=yD (kD.own.out (w':=v2) aa.out dD);replace ab:=yD (kD.own.out (w':=v2) ab.out dD);exact Q4 E2 ae aa ab):p:=h
def EI (h:p:=by
 replace TL:=TL.trans (hT.wide (λj q=>.inr q));replace BR:=hT.kC BR bF2;replace BO:=hT.kC BO bF2;replace BY:=hT.kC BY bF2;replace J:=yD (J.out.touch hT qV);replace HY:=yD (HY.out.touch hT qV);replace U:=U.trans (hT.below U.size bB6);exact Q7 TL BR BO BY J HY U):p:=h
def EJ (h:p:=by
 replace BR:=D.kC BR bF2;replace J:=yD (J.out.touch D qV);replace U:=U.trans (D.below U.size bB6);exact Q3 BR J U):p:=h
def EK (h:p:=by
 have A0:Qc wr b (m * 3) c0:=U 0 c0 rfl;have A1:Qc wr b (m * 3 + 1) c1:=U 1 c1 rfl;have A2:Qc wr b (m * 3 + 2) c2:=U 2 c2 rfl;have D:∀ q,q < 3->kn * 3 + q < cap * 3:=by intro q hq;omega
 exact Q4 A0 A1 A2 D):p:=h
def EM (h:p:=by
 have zv:=hb.size;replace ap:Hid (kR.jr v [Qs J n1 U] n1 (Ql wr v aa)):=yD ((ap.out.below hb).wide (λk q=>⟨q.1,Nat.lt_of_lt_of_le q.2.1 hb.size,q.2.2⟩));exact Q2 zv ap):p:=h
def EN (h:p:=by
 have A0:=(o.cell (p:=⟨w,0,none⟩) vC).trans az;have O:=Z.trans (o.mono bF2);have B0:=cL O C0;exact Q3 A0 O B0):p:=h
def EO (h:p:=by
 have zv:=hb.size;have b9:=Z.2;replace ap:Hid (kR.jr v [Qs J n1 U] n1 (Ql wr v b)):=yD ((ap.out.below hb).wide (λk q=>⟨q.1,Nat.lt_of_lt_of_le q.2.1 hb.size,q.2.2⟩));exact Q3 zv b9 ap):p:=h
def EP (h:p:=by
 replace BT:=hT.kC BT bF2;replace J:=yD (J.out.touch hT pR);replace L:=yD (L.out.touch hT pR);exact Q3 BT J L):p:=h
def ES (h:p:=by
 replace XO:=yD (XO.out.below hb);replace QO:=yD (QO.out.below hb);exact Q2 XO QO):p:=h
def EW (h:p:=by
 replace R:=D.kC R bF2;replace N:=D.kC N bF2;replace BX:=D.kC BX bF2;exact Q3 R N BX):p:=h
def EX (h:p:=by
 have HD:Hid (decide (x=y)=false->vSt (a0,a1) (J,b1)=false):=yD mJ;have HX:Hid (decide (x=y)=true->a1.take (k + 1)=b1.take (k + 1)):=yD vM;have I:=yD (vCeS_eq x y);exact Q3 HD HX I):p:=h
def EY (h:p:=by
 have be:=λq=>kDj (p:=λy=>!p y) hlt q;have bh:=λq=>kCc (p:=λy=>!p y) hlt q;exact Q2 be bh):p:=h
def EZ (h:p:=by
 have Z:Qb w U:=by rw [<- R];exact bI
 have K5:Qd U w 5 (Qs e0 x.2.2.2.2.1 ey):=vS;have K6:Qd U w 6 (Qs en x.2.2.2.2.2.1 ej):=vS;have KN:Qc U (w.heap.size + 1) 0 (Qs na n np):=vS;exact Q4 Z K5 K6 KN):p:=h
def FB (h:p:=by
 replace D:=(Touch.of_below (S:=λk=>k=p) (bR.alloc nL _)).trans D;have b5:=D.size;exact Q2 D b5):p:=h
def FC (h:p:=by
 have ae:(kn:Int)<=l.length:=bF2;have ag:(kn:Int)<=cap:=bF2;have bi:0 < l.length - kn:=bF2;exact Q3 ae ag bi):p:=h
def FD (h:p:=by
 have g7:Hid (Qi y6):=yD (by rw [<- ft];exact kGa _);have cc:=yD (show kFy (x0,(xc,xe),x2,x3,x4,x5,x6)=(x0,(xc,xe),x2,x3,x4,x5,y6) by rw [kLn,ft]);exact Q2 g7 cc):p:=h
def FE (h:p:=by
 have E:Hid ((kD.slice 60 jF).rd w [Qs em x.1 d7] x.1):=yD ⟨V,q1⟩;have F:Hid (kP.rd w [Qn x.2.1.1,Qs dx x.2.1.2 dw] x.2.1):=yD ⟨a9,q2⟩;exact Q2 E F):p:=h
def FH (h:p:=by
 have E2:Qb w wC:=Below.trans (bR.alloc nL _) ((ag.trans (EC.mono ax)).mono bF3);replace B2:=kC B2 EC;replace HD:=yD (λq=>(HD.out q).below EC);have O:=cL EC bd;have K5:=kE B5 (j:=0) rfl;exact Q5 E2 B2 HD O K5):p:=h
def FI (h:p:=by
 have HA:=yD ha;have E:=λ(W:World) (a:Option Addr) (n c:Nat)=>Lib.run_eql_slice_nil (P:=prog) W 103 105 a n c 0 0 underlying103;exact Q2 HA E):p:=h
def FJ (h:p:=by
 replace HQ:=yD (HQ.out.touch V qV);replace hc:=hc.touch V bF2 bB6;replace O:=O.jJ V bF2;exact Q3 HQ hc O):p:=h
def FK (h:p:=by
 have Z:w4.heap.size<=b/\b < v.heap.size:=⟨by omega,by omega⟩;replace E:=And.intro (E.1.trans (Touch.of_below hb)) (E.2.below hb);exact Q2 Z E):p:=h
def FL (h:p:=by
 have au:bl.length<=4:=bF2;have HB:Hid ((kD.slice 5 kD.byte).jr v [Qs ba bl bc] bl (Ql X v b)):=yD (hO.jr.wide mM);replace E:=And.intro (E.1.trans D) F;exact Q3 au HB E):p:=h
def FM (h:p:=by
 have au:bl.length<=4:=bF2;have HB:Hid ((kD.slice 5 kD.byte).jr v [Qs ba bl bc] bl (Ql X v p)):=yD (hO.jr.wide mM);replace E:=And.intro (E.1.trans D) F;exact Q3 au HB E):p:=h
def FN (h:p:=by
 have cc:¬ (a:Int) < j:=bF2;have hp:decide ((j:Int) > a)=false:=bE6;have a3:Hid (cu=Srt.inner key a i cur):=yD ((jAy (key:=key) bq).symm.trans bj.out);exact Q3 cc hp a3):p:=h
def FO (h:p:=by
 have ej:m * r.n=cells.length:=by rw [J,hsize]
 have O:off + xs.length * i.size=(p++cs).length:=by rw [List.length_append,g3,an,hsize]
 exact Q2 ej O):p:=h
def FP (h:p:=by
 have hb:=dig_int (u:=u);have H:=jAi (P:=prog) (w:=wr) (src:=22) (dst:=9) hb underlying22 underlying5 underlying9;exact Q2 hb H):p:=h
def FQ (h:p:=by
 replace ab:=yD (ab.out.touch a4 qV);replace U:=U.trans (a4.below U.size bB6);exact Q2 ab U):p:=h
def FT (h:p:=by
 have D:=(tQ Z o);have R0:=cL o K1;have F0:wr.frozen? ⟨w.heap.size + 1,0,none⟩=false:=(o.frozen (p:=⟨w.heap.size + 1,0,none⟩) bE6).trans F1;exact Q3 D R0 F0):p:=h
def FU (h:p:=by
 have W:=kE (b:=w.heap.size + 1 + 1) E.out (j:=0) (v:=Qs a0 x0 p0) rfl;have U:=frozen_of_row w1 (w.heap.size + 1 + 1) 0 _ _ E.out;exact Q2 W U):p:=h
def FV (h:p:=by
 have hno:=λq=>(mB_no (n:=n) hlt q).trans HM.out;have aj:=λq q2=>mB_up (n:=n) hlt q I HM.out q2;have X:=λq2=>mB_keep (n:=n) hlt I HM.out q2;exact Q3 hno aj X):p:=h
def aA (h:p:=by
 have hlt:b < w.heap.size:=by
  rcases Nat.lt_or_ge b w with q | q
  · exact q
  unfold World.cell? at k;simp [Array.getElem?_eq_none q] at k
 have e:=h.block b hlt hb;unfold World.cell? at k ⊢;simp only at k ⊢;rw [e];exact k):p:=h
def aB (h:p:=by
 unfold tree at h;refine wp_region_held (S:=S) hm ?_;have e:(Array.replicate l.toArray.size false)=(List.replicate l.length false).toArray:=bF3;rw [e,show l.toArray.size=l.length by simp];exact h):p:=h
def aC (h:p:=by
 intro k hk;rcases hk with hk | hk | hk
 · exact .inl hk.1
 · exact .inr (.inl hk.1)
 exact .inr (.inr ⟨by simpa using hk.1,hk.2⟩)):p:=h
def aD (h:p:=by
 clear c3;replace E:=And.intro (tQ E.1 EL) (And.intro (cL EL E.2.1) (And.intro (cL EL E.2.2.1) (And.intro (cL EL E.2.2.2.1) (cL EL E.2.2.2.2))));rw [<- ce];replace ce:=Nat.le_antisymm_iff.1 ce;refine H _ _ E ?_;clear H K EL;refine kU (k:=8) rfl bE5 rfl (λK H=>?_);obtain ⟨pa,pn,pc,hp,bo⟩:=a4.parts;obtain rfl:=hp;have X:∀ (bb i:Nat) (u:Value),Qc wL bb i u->(bb < U.heap.size\/w4.heap.size<=bb)->Qc w5 bb i u:=λbb i u hu hq=>by have e1:w5.heap[bb]?=wL.heap[bb]?:=ah.block _ (World.block_lt_of_cell? _ _ hu) (λq=>by have:=q.2.1;have:=q.2.2;omega);unfold World.cell? at hu ⊢;simp only [e1];exact hu
 have ch:Below w wL w5:=ah.below wM (λk hk=>by have:=hk.2.1;omega);have cz:=ah.size;replace E:=And.intro (E.1.trans ch) (And.intro (X _ _ _ E.2.1 (.inl bF2)) (And.intro (X _ _ _ E.2.2.1 (.inr bF2)) (And.intro (X _ _ _ E.2.2.2.1 (.inr bF2)) (X _ _ _ E.2.2.2.2 (.inr bF2)))));refine kD.kX _ _ _ rfl bF4 bF4 aw ?_;refine H _ _ E ?_;clear H K aw ah X ch;refine kT 9 ?_;refine kT 10 ?_;refine jv bE5 ?_;have bm:=yD ((kIb a4).cast (by rw [L.out.1,HR.out]:_=kDv (n,x1,x2,x3) f t l));have E9:=E.1;clear a4;go_wp2;go_ret2;exact ⟨_,by rw [L.out.2];rfl,(bm.out.own rH).wide bG,E9⟩):p:=h
def aF (h:p:=by
 go_wp2_with fail;refine (kJb (cx:=[.int .i64 f,.int .i64 x1,.int .i64 y3]) (x:=(f,x1,y3)) (cm.out.alloc _) bF2 (heap_alloc_new w7 _) (λq=>by have:=(bq.out _ q).2;omega) (kD.flat.own (S:=λ_=>False) (kD.jl (kD.ky HF.out) (kD.jl (kD.ky bw.out) (kD.ky HY.out)))).1 ⟨trivial,trivial,trivial⟩ hi).mono ?_;rintro e w8 ⟨v8,rfl,O8,T8⟩;have b9:=T8.size;simp only [World.size_alloc] at b9;have bz:Hid (∀ j,j < wC.heap.size->¬ B j->w8.heap[j]?=wC.heap[j]?):=yD (λj I hn=>by
   rw [T8.block j bE6 hn,heap_alloc_old w7 _ bF2,cl.out.block j bF2];exact ba.out.block j I hn)
 have cc:=yD (aj.out w8 v8 (kLc (f,x1,y3) l[k].2.1) _ qA (O8.cast aa.out.symm) dN (Nat.le_trans (kOd _ _) bB1));have cf:=yD ((kIb cc.out).cast (by rw [L.out.1,HR.out]:_=kDv (n,x1,x2,x3) f t l));have c1:¬ B b:=λq=>(HB.out b q).2 rfl;have e1:=bz.out b cg c1;have c7:Qc w8 b (k * 3 + 1) (.slice ra l[k].2.1.length rp):=by
  have A1:=c4.out;unfold World.cell? at A1 ⊢;simp only [e1];exact A1
 have af:w8.frozen? ⟨b,k * 3 + 1,none⟩=false:=nW;have E8:Qb w w8:=(((E6.trans (ba.out.below bF2 rA)).trans (cl.out.mono bF2)).alloc bF2 _).trans (T8.below bE6 rA);obtain ⟨qa,qn,qc,b2,co⟩:=O8.parts;obtain rfl:=b2;clear O8 T8 cc bz e1 cm;go_wp2;go_ret2;exact ⟨_,by rw [L.out.2];rfl,(cf.out.own rH).wide bA,E8.setCell (show w.heap.size<=b by have:=V.1;omega) _⟩):p:=h
def aG (h:p:=by
 have HQ:=yD (jGl hv);clear hv;go_wp2_with fail;refine (kDw (HL.out.below E)).mono ?_;rintro e w8 ⟨v8,rfl,O8,ak⟩;have al:=yD (O8.cast HQ.out.1.symm);clear O8;go_wp2;go_ret2;exact ⟨v8,by rw [HQ.out.2];rfl,(al.out.own (by rw [HQ.out.1];exact bc)).wide sJ,(tQ E ak)⟩):p:=h
def aH (h:p:=by
 intro j v I;have av:j < c'.length:=(List.getElem?_eq_some_iff.1 I).1;simp only [World.cell?,hb,Option.isSome_none,Bool.false_eq_true,if_false];rw [<- Array.getElem?_toList,hc,List.getElem?_append_right bF2,List.append_assoc,List.getElem?_append_right bF2,List.append_assoc,List.getElem?_append_left bF2];rw [<- I];congr 1;omega):p:=h
def aI (h:p:=by
 have L:=yD (show kFs (y0,y1,y2,y3,y4) t (xc,xe)=(xc,Z) from (kWz fh.out).trans dO);obtain ⟨X,N⟩:=yN BO;obtain ⟨ay,az⟩:=yN BR;obtain ⟨al,aj⟩:=kCf BR;go_wp2;refine bodyPost_ret (v:=.agg #[Qn xc,Qs ga Z gc]) mP rfl ⟨[Qn xc,Qs ga Z gc],rfl,?_,?_⟩
 · rw [L.out];exact ((show kP.own _ _ (xc,Z) _ from kD.kBg (r:=kD.int) (q:=(kD.slice 144 jB)) (cs:=[.int .i64 xc]) (kD.ky ak) (HQ.out.own (by have:=di.out;unfold Big;omega))).touch sT2 sW).wide fU
 · exact U.trans (Touch.below sT2 U.size bB6)):p:=h
def aJ (h:p:=by
 obtain ⟨b,off,h,_⟩:=kD.kFq ha.1 (i:=0) bF3;cases h):p:=h
def aK (h:p:=by
 intro v2 w2 hown o hz;have J:=yD hown;obtain ⟨a2,c2,hv⟩:=hown.zJ;obtain rfl:=hv;have D:Qb w w2:=Below.trans bI o;clear hown O0 o;go_wp2;go_ret;exact ⟨_,rfl,by simpa using J.out.own wO,D⟩):p:=h
def aL (h:p:=by
 obtain rfl:k=l.length:=bF2;have L:=yD (show cntI l=m from HM.out);go_wp2;go_ret;exact ⟨jZ L.out.symm,o⟩):p:=h
def aM (h:p:=by
 have h:=kD.yR (e:=9) (r:=kD.str) (w:=(w.alloc (.cells #[.slice aa x.length al] 36)).alloc (.cells #[.slice none 0 0] 36)) (cs:=[]) (xs:=[]) (T:=λ_=>False) (S:=λk=>k=w.heap.size + 1 + 1) bF3 bF3 rfl (λ_ h=>h.elim) bF3;simpa using h):p:=h
def aN (h:p:=by
 refine kD.own.wide (S:=jg (v0.heap.size) (w1.heap.size)) ?_ fT;exact kD.yQ (r:=kR) (q:=(kD.pair kD.int (kD.pair kD.int kD.int))) (cs:=[.slice ad x0.length Y]) (ds:=[.int .i64 x1,.int .i64 x2,.int .i64 x3]) (x:=x0) (y:=(x1,x2,x3)) (kD.own.out aa.out fE) (kD.jl (r:=kD.int) (q:=(kD.pair kD.int kD.int)) (cs:=[.int .i64 x1]) (ds:=[.int .i64 x2,.int .i64 x3]) (x:=x1) (y:=(x2,x3)) (kD.ky N1.out) (kD.jl (r:=kD.int) (q:=kD.int) (cs:=[.int .i64 x2]) (ds:=[.int .i64 x3]) (x:=x2) (y:=x3) (kD.ky N2.out) (kD.ky N3.out)))):p:=h
def aO (h:p:=by
 refine kD.own.wide (S:=jg (v0.heap.size) (w3.heap.size)) ?_ fT;exact kD.jq (r:=kR) (q:=(kD.pair (kD.slice 5 kD.byte) (kD.pair kR (kD.pair kD.int kD.int)))) (cs:=[.slice ad x0.length Y]) (ds:=[.slice bb x1.length a3,.slice H x2.length F,.int .i64 x3,.int .i64 x4]) (x:=x0) (y:=(x1,x2,x3,x4)) (S:=jg (v0.heap.size) (w3.heap.size)) (kD.own.out aa.out fE) (kD.jq (r:=(kD.slice 5 kD.byte)) (q:=(kD.pair kR (kD.pair kD.int kD.int))) (cs:=[.slice bb x1.length a3]) (ds:=[.slice H x2.length F,.int .i64 x3,.int .i64 x4]) (x:=x1) (y:=(x2,x3,x4)) (S:=jg (v1.heap.size) (w3.heap.size)) (kD.own.out ab.out fE) (kD.yQ (r:=kR) (q:=(kD.pair kD.int kD.int)) (cs:=[.slice H x2.length F]) (ds:=[.int .i64 x3,.int .i64 x4]) (x:=x2) (y:=(x3,x4)) (kD.own.out aq.out fE) (kD.jl (r:=kD.int) (q:=kD.int) (cs:=[.int .i64 x3]) (ds:=[.int .i64 x4]) (x:=x3) (y:=x4) (kD.ky N3.out) (kD.ky N4.out))) nK nK nT) nK nK nT):p:=h
def aP (h:p:=by
 intro v2 w2 D N ax;replace D:=kD.kY.cast D (bm.out.symm);have ab:=yD D;have R:=U.trans N;clear D J N;refine Qg ?_;exact ⟨k + 1,by omega,by go_num,ab,R⟩):p:=h
def aQ (h:p:=by
 obtain rfl:k=l.length:=bF2;go_wp2;go_ret;exact ⟨_,rfl,kD.kY.cast J.out wE,o⟩):p:=h
def aR (h:p:=by
 refine kD.own.wide (S:=jg (u0.heap.size) (J.heap.size)) ?_ fT;exact kD.jq (r:=kP) (q:=(kD.pair (kD.slice 107 kH) (kD.pair (kD.slice 140 kz) (kD.pair (kD.slice 176 jA) (kD.pair (kD.slice 179 kN) kD.int))))) (cs:=[.int .i64 x.2.1.1,.slice b9 x.2.1.2.length Y]) (ds:=[.slice b3 bf ae,.slice bp O ad,.slice bh N ac,.slice bd o L,.int .i64 x.2.2.2.2.2.2]) (x:=x.2.1) (y:=x.2.2) (S:=jg (u0.heap.size) (J.heap.size)) (kD.own.out aa.out fE) (kD.jq (r:=(kD.slice 107 kH)) (q:=(kD.pair (kD.slice 140 kz) (kD.pair (kD.slice 176 jA) (kD.pair (kD.slice 179 kN) kD.int)))) (cs:=[.slice b3 bf ae]) (ds:=[.slice bp O ad,.slice bh N ac,.slice bd o L,.int .i64 x.2.2.2.2.2.2]) (x:=x.2.2.1) (y:=x.2.2.2) (S:=jg (u1.heap.size) (J.heap.size)) (kD.own.out ab.out fE) (kD.jq (r:=(kD.slice 140 kz)) (q:=(kD.pair (kD.slice 176 jA) (kD.pair (kD.slice 179 kN) kD.int))) (cs:=[.slice bp O ad]) (ds:=[.slice bh N ac,.slice bd o L,.int .i64 x.2.2.2.2.2.2]) (x:=x.2.2.2.1) (y:=x.2.2.2.2) (S:=jg (u2.heap.size) (J.heap.size)) (kD.own.out aq.out fE) (kD.jq (r:=(kD.slice 176 jA)) (q:=(kD.pair (kD.slice 179 kN) kD.int)) (cs:=[.slice bh N ac]) (ds:=[.slice bd o L,.int .i64 x.2.2.2.2.2.2]) (x:=x.2.2.2.2.1) (y:=x.2.2.2.2.2) (S:=jg (u3.heap.size) (J.heap.size)) (kD.own.out ao.out fE) (kD.yQ (r:=(kD.slice 179 kN)) (q:=kD.int) (cs:=[.slice bd o L]) (ds:=[.int .i64 x.2.2.2.2.2.2]) (x:=x.2.2.2.2.2.1) (y:=x.2.2.2.2.2.2) (kD.own.out am.out fE) (kD.ky cc.out)) sI sJ nT) sI sJ nT) sI sJ nT) sI sJ nT):p:=h
def aS (h:p:=by
 obtain rfl:k=l.length:=bF2;go_wp2;go_ret;exact ⟨_,rfl,kD.kY.cast J.out bF3,o⟩):p:=h
def aT (h:p:=by
 intro v2 w2 D N ax;obtain ⟨a8,b5,bl,ar,bv⟩:=D.parts;obtain rfl:=ar;have Z:=(N.block _ bF2).trans XW;have N1:=kE Z (j:=1) rfl;have NF:=frozen_of_row w2 (w.heap.size + 1 + 1) 1 _ _ Z;have R:=aa.trans (N.mono bF2);have X:=yD Z;have ab:=yD (kD.kY.cast D (bm.out.symm));clear Z D J N o;refine Qg ?_;exact ⟨k + 1,_,by omega,by go_num,yD (heap_setCell_same w2 _ 1 _ _ _ X.out),yD ((ab.out.setCell fK).wide nE),R.setCell bF3 _,by simp [World.setCell];omega⟩):p:=h
def aU (h:p:=by
 go_wp2_with fail;refine (HI.out _ rfl).mono ?_;rintro e w1 ⟨rfl,N⟩;have aa:=yD (J.out.below N);go_wp2;go_ret;exact ⟨_,rfl,aa.out.cast HF.out,Touch.of_below N⟩):p:=h
def aV (h:p:=by
 refine ⟨i + 1,i,by omega,by omega,rfl,by go_num,yD tJ,yD ?_,E1⟩;rw [Y.out,a3.out,show i + 1 - i=0 + 1 by omega];exact G1.out):p:=h
def aW (h:p:=by
 have ad:=yD bm;have ai:=yD au;clear bm au R Z al a1;go_wp2;go_roundw;case rel =>
  refine ⟨m + 1,kn + 1,by omega,by omega,by go_num,by go_num,yD pV,yD ?_,yD ((E.out.trans (Touch.of_below E5.out)).trans (ai.out.wide (λj I=>I ▸ ac.out)))⟩;rw [L.out,show m + 1 - (kn + 1)=m - kn by omega];exact ad.out
 simp [intOf];omega):p:=h
def aX (h:p:=by
 have L:=yD (al.out bE8);go_wp2;go_roundw;case rel =>
  refine ⟨m + 1,kn,by omega,by omega,rfl,by go_num,yD vR,yD ?_,yD (E.out.trans (Touch.of_below E5.out))⟩;rw [L.out,show m + 1 - kn=(m - kn) + 1 by omega];exact Z.out.below E5.out
 simp [intOf];omega):p:=h
def aY (h:p:=by
 have H6:=yD h6;have T6:=yD t6;clear h6 t6 HG;go_wp2;go_ret;exact ⟨_,rfl,by rw [eq.out];exact H6.out,E.out.trans (T6.out.wide (λj I=>I ▸ ac.out))⟩):p:=h
def aZ (h:p:=by
 intro j u I;have F:(⟨b,off,none⟩:Addr).add j=⟨b,off + j,none⟩:=rF;have av:=(List.getElem?_eq_some_iff.1 I).1;rw [F,cell_of_row w b _ cur e (0,0) g1,<- Array.getElem?_toList,g2,List.getElem?_append_right bF2,List.getElem?_append_left bF2];rw [<- I];congr 1;omega):p:=h
def bB (h:p:=by
 simp only [Array.size_append,List.size_toArray,size_zeroCells,hzs,J,an,hsize,<- Nat.add_mul];have:xs.length + m + (grownCap w (xs.length + m) cap e - (xs.length + m))=grownCap w (xs.length + m) cap e:=by omega
 rw [this];omega):p:=h
def bC (h:p:=by
 refine .inr ⟨_,_,rfl,λj v I=>?_⟩;have F:(⟨u,0,none⟩:Addr).add j=⟨u,j,none⟩:=rF;rw [F,cell_of_row _ _ j cx.toArray e (0,0) (heap_alloc_new u _)];simpa using I):p:=h
def bF (h:p:=by
 have ck:(u.alloc (.cells cx.toArray e)).heap.size=u.heap.size + 1:=bF3;refine ⟨v',w',hr,⟨(slice e r).wide ho.1 ?_,ho.2⟩,(Touch.of_below E).trans o⟩;rintro k (hk | hk | hk)
 · exact .inl hk.1
 · exact .inr (.inl hk.1)
 exact .inr (.inr ⟨by omega,hk.2⟩)):p:=h
def bX (h:p:=by
 clear L ad;go_upto_region 10 with fail;obtain ⟨aj,an⟩:=yN R;obtain ⟨N,aa⟩:=yN BK;obtain ⟨ak,al⟩:=kCf R;go_wp2;refine bodyPost_ret (v:=.agg #[Qn kc,Qs a3 q c3]) mW rfl ⟨a3,c3,kc,q,rfl,?_,by omega,hc.touch sT2 bF2 bB6,O.jJ sT2 bF2⟩;exact ((kKs HQ.out bF2).touch (T:=λk=>k=w.heap.size) sT2 tZ).wide fH):p:=h
def dU (h:p:=by
 obtain ⟨aj,an⟩:=yN R;obtain ⟨N,aa⟩:=yN BK;obtain ⟨ak,al⟩:=kCf R;go_wp2;refine bodyPost_ret (v:=.agg #[Qn kc,Qs ka l kp]) mW rfl ⟨ka,kp,kc,l,rfl,?_,by omega,hc.touch sT2 bF2 bB6,O.jJ sT2 bF2⟩;exact ((kKs (J.out.jr.wide (T:=λk=>w.heap.size < k/\k < w4.heap.size/\k≠w2.heap.size) gG) bF2).touch (T:=λk=>k=w.heap.size) sT2 tZ).wide fH):p:=h
def dV (h:p:=by
 obtain ⟨aj,an,az,a8⟩:=jW R;obtain ⟨aq,av,ag,N⟩:=jW B;obtain ⟨ak,al,ay,a7⟩:=zy R;go_wp2;refine bodyPost_ret (v:=.agg (Qk a ps c nn h lt)) gP rfl ⟨a,c,ps,nn,h,lt,rfl,?_,by omega,hh,ht,hc.touch sT4 bF2 bB6,O.jJ sT4 bF2⟩;exact (J.out.touch sT4 vK).wide fT):p:=h
def dW (h:p:=by
 simp only [Act.put,zA,zB,zC] at h_;exact h_):p:=h
def dZ (h:p:=by
 refine jH ?_;have h_:=bv k na nc ra rc y b v E hk ar hA1 hA2 Y Z BB;simp only [Act.put,zA,zB,zC] at h_;exact h_):p:=h
def eB (h:p:=by
 clear hQ;have eh:=hc.touch hT (λq=>bo q) vB;have b0:=O.kBr hT vB;clear hT hc O J;have Z:=yD bg;clear bg;go_wp2;go_roundw;case rel=>exact ⟨j,a2,_,l2,rfl,by go_num,by omega,by have:=Z.out;omega,ab,by omega,eh,b0⟩
 case measure=>first|(simp [intOf];done)|(simp [intOf];omega)):p:=h
def eD (h:p:=by
 have h_:=J xb ba bc bl ad ac am ae ao af x ok b v E ai L au HB bi HQ Z BB;simp only [Act.put,zA,zB,zC] at h_;exact h_):p:=h
def eF (h:p:=by
 refine H _ _ E ?_;clear H K;refine jH ?_;have h_:=aa xb ba bc bl b v E ai L au HB Z BB;simp only [Act.put,zA,zB,zC] at h_;exact h_):p:=h
def eG (h:p:=by
 refine H _ _ E ?_;clear H K;refine jH ?_;have h_:=cg xb b v E ai L Z BB;simp only [Act.put,zA,zB,zC] at h_;exact h_):p:=h
def eH (h:p:=by
 go_wp2;refine bodyPost_ret (v:=.tuple #[.agg #[.slice none 0 0],.bool false]) nY rfl ⟨none,0,false,[],rfl,kD.yF,by simp,yD zO.nil,?_⟩;exact E2.setCell bF3 _):p:=h
def eO (h:p:=by
 obtain ⟨ak,al⟩:=kCf R;go_wp2;refine bodyPost_ret (v:=.tuple #[.agg #[.slice none 0 0,.slice none 0 0],.bool false]) mO rfl ⟨[.slice none 0 0,.slice none 0 0],([],[]),false,rfl,?_,?_⟩
 · exact kD.jq (r:=zu) (q:=zu) (cs:=[.slice none 0 0]) (ds:=[.slice none 0 0]) (A:=λ_=>False) (B:=λ_=>False) kD.yF kD.yF (λ_ h=>h.elim) (λ_ h=>h.elim) (λ_ h _=>h)
 exact U.trans (Touch.below sT2 U.size bB6)):p:=h
def eP (h:p:=by
 have aj:Qd w7 w 0 (.slice none 0 0):=kE R rfl;have an:Qd w7 w 1 (.slice none 0 0):=kE R rfl;obtain ⟨ak,al⟩:=kCf R;go_wp2;refine bodyPost_ret (v:=.tuple #[.agg #[.slice none 0 0,.slice none 0 0],.bool false]) mO rfl ⟨[.slice none 0 0,.slice none 0 0],([],[]),false,rfl,?_,?_⟩
 · exact kD.jq (r:=zu) (q:=zu) (cs:=[.slice none 0 0]) (ds:=[.slice none 0 0]) (A:=λ_=>False) (B:=λ_=>False) kD.yF kD.yF (λ_ h=>h.elim) (λ_ h=>h.elim) (λ_ h _=>h)
 exact U.trans (Touch.below sT2 U.size bB6)):p:=h
def eQ (h:p:=by
 replace E:=(tQ E hb);refine H _ _ E ?_;clear H K;refine jH ?_;have h_:=J ad ac am ae ao af sg b v E HQ Z BB;simp only [Act.put,zA,zB,zC] at h_;exact h_):p:=h
def eT (h:p:=by
 replace E:=(tQ E hb);refine H _ _ E ?_;clear H K;refine jH ?_;have h_:=X b v E Z BB;simp only [Act.put,zA,zB,zC] at h_;exact h_):p:=h
def eU (h:p:=by
 replace E:=(tQ E hb);refine H _ _ E ?_;clear H K;refine jH ?_;have h_:=T9 b v E Z BB;simp only [Act.put,zA,zB,zC] at h_;exact h_):p:=h
def eX (h:p:=by
 obtain ⟨aq,av,ax,aw,b3⟩:=yZ BQ;obtain ⟨al,aj,bb,bd,bx⟩:=kCo BR;go_wp2;refine bodyPost_ret (v:=.tuple #[.agg #[.slice none 0 0,.slice none 0 0,.slice none 0 0,Qn 0,Qn 0],.bool false]) fM rfl ⟨[.slice none 0 0,.slice none 0 0,.slice none 0 0,Qn 0,Qn 0],([],[],[],0,0),false,rfl,?_,?_,?_⟩
 · exact jEr
 · simp
 exact U.trans (Touch.below sT5 U.size bB6)):p:=h
def eY (h:p:=by
 have h_:=cw J U n1 X Y n2 ad ac am ae ao af x ok b v E ap ba bi HQ Z BB;simp only [Act.put,zA,zB,zC] at h_;exact h_):p:=h
def eZ (h:p:=by
 replace E:=(tQ E hb);refine H _ _ E ?_;clear H K;refine jH ?_;have h_:=c6 J U n1 X Y n2 b v E ap ba Z BB;simp only [Act.put,zA,zB,zC] at h_;exact h_):p:=h
def fA (h:p:=by
 replace E:=(tQ E hb);refine H _ _ E ?_;clear H K;refine jH ?_;have h_:=dw J U n1 b v E ap Z BB;simp only [Act.put,zA,zB,zC] at h_;exact h_):p:=h
def fG (h:p:=by
 refine Qg ?_;exact ⟨j + 1,ca,cc,cl,by go_num,by omega,yD bA8,dp,BT,yD (HC.out.wide sU),hc,by omega,ag⟩):p:=h
def gV (h:p:=by
 go_wp2;refine bodyPost_ret (v:=.tuple #[.agg #[.slice none 0 0],.bool false]) nZ rfl ⟨none,0,false,[],rfl,kD.yF,by simp,yD kDg.nil,?_⟩;exact E2.setCell bF3 _):p:=h
def iA (h:p:=by
 go_wp2;refine bodyPost_ret (v:=.slice a n c) (by simp [results,results177,go_sem]) rfl ⟨a,n,c,s,rfl,Y.out,HL.out,J.out,hc,O⟩):p:=h
def iB (h:p:=by
 clear hQ;replace hc:=hc.touch hT vU vL;replace O:=O.kBr hT (λk q=>q.1);clear hT J HR;go_wp2;go_ret;exact ⟨_,_,l2,rfl,N.out.mono bF2,ab.out.jr,hc,O⟩):p:=h
def iC (h:p:=by
 obtain ⟨aq,av,ag,N⟩:=jW B;obtain ⟨ak,al,ay,a7⟩:=zy R;go_wp2;refine bodyPost_ret (v:=.agg (Qk a ps c n h t)) gN rfl ⟨a,c,ps,n,h,t,rfl,?_,by omega,by omega,by omega,hc.touch sT4 bF2 bB6,O.jJ sT4 bF2⟩;exact (J.out.touch sT4 vK).wide fT):p:=h
def iD (h:p:=by
 obtain ⟨ak,al,ay,a7⟩:=zy R;go_wp2;refine bodyPost_ret (v:=.agg (Qk qa y.1 qc n h t)) gN rfl ⟨qa,qc,y.1,n,h,t,rfl,?_,by omega,by omega,by omega,hc.touch sT4 bF2 bB6,O.jJ sT4 bF2⟩;exact (E.out.touch sT4 vK).wide fT):p:=h
def iE (h:p:=by
 go_wp2;go_ret;exact ⟨_,rfl,by omega,by omega,hc,O⟩):p:=h
def iF (h:p:=by
 have h_:=aa x ba bc bl U y ka kc Y z b v E ai L au HB bd HK a5 bn hw Z BB;simp only [Act.put,zA,zB,zC] at h_;exact h_):p:=h
def iG (h:p:=by
 replace E:=And.intro (E.1.trans (Touch.of_below hb)) (E.2.below hb);refine H _ _ E ?_;clear H K;refine jH ?_;have h_:=a2 x ba bc bl U y ka kc Y b v E ai L au HB bd HK Z BB;simp only [Act.put,zA,zB,zC] at h_;exact h_):p:=h
def iH (h:p:=by
 refine H _ _ E ?_;clear H K;refine jH ?_;have h_:=a9 x ba bc bl U y b v E ai L au HB bd Z BB;simp only [Act.put,zA,zB,zC] at h_;exact h_):p:=h
def iI (h:p:=by
 replace E:=And.intro (E.1.trans (Touch.of_below hb)) (E.2.below hb);refine H _ _ E ?_;clear H K;refine jH ?_;have h_:=a3 x ba bc bl U b v E ai L au HB h6 HL Z BB;simp only [Act.put,zA,zB,zC] at h_;exact h_):p:=h
def iJ (h:p:=by
 refine H _ _ E ?_;clear H K;refine jH ?_;have h_:=b6 x ba bc bl U v E ai L au HB h6 HL;simp only [Act.put,zA,zB,zC] at h_;exact h_):p:=h
def iK (h:p:=by
 refine H _ _ E ?_;clear H K;refine jH ?_;have h_:=b1 x ba bc bl b v E ai L au HB Z BB;simp only [Act.put,zA,zB,zC] at h_;exact h_):p:=h
def iL (h:p:=by
 replace E:=And.intro (E.1.trans (Touch.of_below hb)) (E.2.below hb);refine H _ _ E ?_;clear H K;refine jH ?_;have h_:=bb x U b v E ai L h6 HL Z BB;simp only [Act.put,zA,zB,zC] at h_;exact h_):p:=h
def iM (h:p:=by
 refine H _ _ E ?_;clear H K;refine jH ?_;have h_:=cm x U v E ai L h6 HL;simp only [Act.put,zA,zB,zC] at h_;exact h_):p:=h
def iN (h:p:=by
 refine H _ _ E ?_;clear H K;refine jH ?_;have h_:=b8 x b v E ai L Z BB;simp only [Act.put,zA,zB,zC] at h_;exact h_):p:=h
def iO (h:p:=by
 replace E:=And.intro (E.1.trans (Touch.of_below hb)) (E.2.below hb);refine H _ _ E ?_;clear H K;refine jH ?_;have h_:=cc U b v E h6 HL Z BB;simp only [Act.put,zA,zB,zC] at h_;exact h_):p:=h
def iP (h:p:=by
 have h:=kD.yR (e:=5) (r:=kD.byte) (w:=w.alloc (.cells #[.slice an n.length a8] 36)) (cs:=[]) (xs:=[]) (T:=λ_=>False) (S:=λk=>k=w.heap.size + 1) bF3 bF3 rfl (λ_ h=>h.elim) bF3;simpa using h):p:=h
def iQ (h:p:=by
 have L:=yD (show decide (a=b)=false by simp;rintro rfl;exact hl rfl);have hz:((a.length:Int) != b.length)=true:=bE6;go_wp2;go_ret;exact ⟨kJ L.out.symm,bR⟩):p:=h
def iR (h:p:=by
 obtain ⟨k,hk,rfl,Y,o⟩:=hrel;by_cases hlt:k < a.length
 · have ai:k < b.length:=wZ;obtain ⟨ba,X,rfl,c0,hr,A0⟩:=kD.kCk (V.below o) hlt rfl;obtain ⟨bb,J,rfl,d0,I,B0⟩:=kD.kCk (ag.below o) ai rfl;have he:=kD.kLr hr;obtain rfl:c0=_:=by simpa using he
   have F:=kD.kLr I;obtain rfl:d0=_:=by simpa using F
   clear he F hr I;have hne:=λq=>yS hlt ai q;have H:=λq=>jd Y.out hlt ai q;generalize a[k]=x at *;generalize b[k]=y at *;have HD:=yD hne;have HX:=yD H;clear hne H;go_wp2_with fail;have FX:=yD (λ(W:World) (hW:Qb wr W)=>kQm hW A0 B0);refine kK (λW=>Qb wr W) [true,true,true,true,true,true,true,true,true] bE5 bE5 qW (bR.drew) ?_;intro wS E;all_goals ((iterate 9 refine kS ?_);refine kM ?_)
   have D:=(tQ o E);cases hz:((x.toNat:Int)==(y.toNat:Int))
   · have L:=yD (show decide (a=b)=false by
       simp at hz;simp;exact HD.out (λq=>hz (by rw [q])))
     clear HD HX;go_wp2;go_ret;exact ⟨kJ L.out.symm,D⟩
   have L:=yD (HX.out (u8_inj bB9));clear HD HX;refine Qg ?_;exact ⟨k + 1,by omega,by go_num,L,D⟩
 have L:=yD (show decide (a=b)=true by simp;exact yJ Y.out hlt HL.out);go_wp2;go_ret;exact ⟨kJ L.out.symm,o⟩):p:=h
def iT (h:p:=by
 rintro e w1 ⟨rfl,N⟩;go_wp2;go_ret;exact ⟨rfl,N⟩):p:=h
def iU (h:p:=by
 have L:=yD (b1.out (yJ HM.out av N.out));have D:=(tQ o hq);refine Qg ?_;exact ⟨k + 1,by omega,by go_num,L,D⟩):p:=h
def iV (h:p:=by
 have L:=yD (show decide (a=b)=true by simp;exact yJ Y.out hlt HL.out);go_wp2;go_ret;exact ⟨kJ L.out.symm,o⟩):p:=h
def iW (h:p:=by
 have L:=yD (show vSt (a0,a1) (J,b1)=false by simp [vSt,hc]);have hz:(a0 != J)=true:=bC1;go_wp2;go_ret;exact ⟨kJ L.out.symm,Z⟩):p:=h
def iX (h:p:=by
 have L:=yD (show vSt (a0,a1) (J,b1)=false by simp [vSt];rintro _ rfl;exact hl rfl);have hz:((a1.length:Int) != b1.length)=true:=bE6;go_wp2;go_ret;exact ⟨kJ L.out.symm,Z⟩):p:=h
def iY (h:p:=by
 have L:=yD (show vSt (a0,a1) (J,b1)=true by have:=yJ Y.out hlt HL.out;have h2:=HC.out;subst this h2;simp [vSt]);have dq:¬ (k:Int) < a1.length:=bF2;go_wp2;go_ret;exact ⟨kJ L.out.symm,(tQ Z o)⟩):p:=h
def iZ (h:p:=by
 subst hz;have E:=yD (show s=⟨(kKn N).toArray⟩ by
   have h:=HP.out;rw [jBk,List.nil_append] at h;apply ByteArray.ext;rw [<- h])
 go_wp2;go_ret;exact ⟨gI,o⟩):p:=h
def l6 (h:p:=by
 have h1:=congrArg List.length HP.out;have h2:=kOu 19 (u:=N) bF2;rw [F.out] at h1;simp only [List.length_append,List.length_cons,List.length_nil] at h1;have h3:s.data.toList.length=s.size:=bF3;omega):p:=h
def l7 (h:p:=by
 go_wp2_with fail;go_roundw;case rel=>exact ⟨u / 10,_,by omega,by go_num,rfl,rD,HX,(o.alloc o.size _)⟩
 simp [intOf];omega):p:=h
def l8 (h:p:=by
 have L:=yD (idxOf_miss hlt Y.out);go_wp2;go_ret;exact ⟨jZ L.out.symm,(tQ Z o)⟩):p:=h
def l9 (h:p:=by
 rintro e w1 ⟨rfl,N⟩;have D:Qb w w1:=(tQ Z N);clear N;go_wp2;go_ret;exact ⟨rfl,D⟩):p:=h
def lC (h:p:=by
 rw [HD.out];exact (kD.own.out J.out fE).wide gL):p:=h
def lD (h:p:=by
 intro k hk;have hs:=h2.size;rcases hk with hk | hk | hk
 · have:=hSB k hk;exact ⟨this.1,by omega⟩
 · exact hk.elim
 exact ⟨by omega,hk.2⟩):p:=h
def lF (h:p:=by
 rintro e w1 ⟨rfl,N⟩;have EF:Qb w w1:=Below.trans bI (N.mono bF3);clear N;go_wp2;go_ret;exact ⟨kJ bF3,EF⟩):p:=h
def lG (h:p:=by
 intro z hz;rcases List.mem_or_eq_of_mem_set hz with q | q
 · exact hb z q
 rw [q];exact hby):p:=h
def lH (h:p:=by
 simp only [Array.toList_setIfInBounds,List.toList_toArray];rw [List.append_assoc,List.append_assoc,List.set_append_right _ _ bF2,hl,show i * r.n + j - i * r.n=j by omega,List.set_append_left _ _ bF2];simp):p:=h
def lI (h:p:=by
 clear am V;replace X:=X.below bN;replace E:=(tQ E bN);refine H _ _ E ?_;clear H K bN;refine jH ?_;refine kU (k:=7) rfl bE5 rfl (λK H=>?_);obtain ⟨v2,t3,hr,D,L,bc⟩:=jc (B:=wq.heap.size) X RL nK E.size bE6;refine kD.kX _ _ _ rfl bF4 bF4 hr ?_;obtain ⟨a2,n2,c2,ar,ba⟩:=D.parts;obtain rfl:=ar;replace E:=E.trans L;have N:=D;clear X;have X:=N;clear D N RL;refine H _ _ E ?_;clear H K hr L;refine jH ?_;refine kU (k:=11) rfl bE5 rfl (λK H=>?_);obtain ⟨v3,t4,hr,D,L,a5⟩:=jc (B:=wq.heap.size) X (cc.out.below E) sI E.size bE6;refine kD.kX _ _ _ rfl bF4 bF4 hr ?_;obtain ⟨a3,n3,c3,ao,bb⟩:=D.parts;obtain rfl:=ao;replace E:=E.trans L;have N:=D;clear X;have X:=N;clear D N;refine H _ _ E ?_;clear H K hr L;refine jH ?_;refine kT 12 ?_;refine jv bE5 ?_;have a4:=yD (kD.kY.cast X (show _=Srt.put kCj l r from by rw [aa.out,List.nil_append]));have an:=yD ((tQ Z (tQ ai E)));clear X aa;go_wp2;go_ret;exact ⟨_,rfl,a4.out.wide sJ,an.out⟩):p:=h
def lJ (h:p:=by
 obtain rfl:=al;replace RL:=RL.below L;replace E:=(tQ E L);refine H _ _ E ?_;clear H K hr L;refine jH ?_;refine kU (k:=7) rfl bE5 rfl (λK H=>?_);obtain ⟨v2,t3,hr,D,L,bc⟩:=jc (B:=wq.heap.size) X RL nK E.size bE6;refine kD.kX _ _ _ rfl bF4 bF4 hr ?_;obtain ⟨a2,n2,c2,ar,ba⟩:=D.parts;obtain rfl:=ar;replace E:=E.trans L;have N:=D;clear X;have X:=N;clear D N RL;refine H _ _ E ?_;clear H K hr L;refine jH ?_;refine kU (k:=11) rfl bE5 rfl (λK H=>?_);obtain ⟨v3,t4,hr,D,L,a5⟩:=jc (B:=wq.heap.size) X (cc.out.below E) sI E.size bE6;refine kD.kX _ _ _ rfl bF4 bF4 hr ?_;obtain ⟨a3,n3,c3,ao,bb⟩:=D.parts;obtain rfl:=ao;replace E:=E.trans L;have N:=D;clear X;have X:=N;clear D N;refine H _ _ E ?_;clear H K hr L;refine jH ?_;refine kT 12 ?_;refine jv bE5 ?_;have a4:=yD (kD.kY.cast X (show _=Srt.put kCj l r from by rw [aa.out,List.nil_append]));have an:=yD ((tQ Z (tQ ai E)));clear X aa;go_wp2;go_ret;exact ⟨_,rfl,a4.out.wide sJ,an.out⟩):p:=h
def lK (h:p:=by
 clear am V;replace X:=X.below bN;replace E:=(tQ E bN);refine H _ _ E ?_;clear H K bN;refine jH ?_;refine kU (k:=7) rfl bE5 rfl (λK H=>?_);obtain ⟨v2,t3,hr,D,L,bc⟩:=jc (B:=wq.heap.size) X RL nK E.size bE6;refine kD.kX _ _ _ rfl bF4 bF4 hr ?_;obtain ⟨a2,n2,c2,ar,ba⟩:=D.parts;obtain rfl:=ar;replace E:=E.trans L;have N:=D;clear X;have X:=N;clear D N RL;refine H _ _ E ?_;clear H K hr L;refine jH ?_;refine kU (k:=11) rfl bE5 rfl (λK H=>?_);obtain ⟨v3,t4,hr,D,L,a5⟩:=jc (B:=wq.heap.size) X ((cc _).out.below E) sI E.size bE6;refine kD.kX _ _ _ rfl bF4 bF4 hr ?_;obtain ⟨a3,n3,c3,ao,bb⟩:=D.parts;obtain rfl:=ao;replace E:=E.trans L;have N:=D;clear X;have X:=N;clear D N;refine H _ _ E ?_;clear H K hr L;refine jH ?_;refine kT 12 ?_;refine jv bE5 ?_;have a4:=yD (kD.kY.cast X (show _=Srt.put kCj l r from by rw [aa.out,List.nil_append]));have an:=yD ((tQ Z (tQ ai E)));clear X aa;go_wp2;go_ret;exact ⟨_,rfl,a4.out.wide sJ,an.out⟩):p:=h
def lL (h:p:=by
 obtain rfl:=al;replace RL:=RL.below L;replace E:=(tQ E L);refine H _ _ E ?_;clear H K hr L;refine jH ?_;refine kU (k:=7) rfl bE5 rfl (λK H=>?_);obtain ⟨v2,t3,hr,D,L,bc⟩:=jc (B:=wq.heap.size) X RL nK E.size bE6;refine kD.kX _ _ _ rfl bF4 bF4 hr ?_;obtain ⟨a2,n2,c2,ar,ba⟩:=D.parts;obtain rfl:=ar;replace E:=E.trans L;have N:=D;clear X;have X:=N;clear D N RL;refine H _ _ E ?_;clear H K hr L;refine jH ?_;refine kU (k:=11) rfl bE5 rfl (λK H=>?_);obtain ⟨v3,t4,hr,D,L,a5⟩:=jc (B:=wq.heap.size) X ((cc _).out.below E) sI E.size bE6;refine kD.kX _ _ _ rfl bF4 bF4 hr ?_;obtain ⟨a3,n3,c3,ao,bb⟩:=D.parts;obtain rfl:=ao;replace E:=E.trans L;have N:=D;clear X;have X:=N;clear D N;refine H _ _ E ?_;clear H K hr L;refine jH ?_;refine kT 12 ?_;refine jv bE5 ?_;have a4:=yD (kD.kY.cast X (show _=Srt.put kCj l r from by rw [aa.out,List.nil_append]));have an:=yD ((tQ Z (tQ ai E)));clear X aa;go_wp2;go_ret;exact ⟨_,rfl,a4.out.wide sJ,an.out⟩):p:=h
def lM (h:p:=by
 have ax:(Srt.sorted kCj ((l.take k).filter (kMp n l))).length<=16777216:=gY;generalize Srt.sorted kCj ((l.take k).filter (kMp n l))=H at *;obtain ⟨V,bi⟩:∃ V:List Int,V=H.map (λr=>r.2.1):=⟨_,rfl⟩;have es:=yD bi;clear bi;have bb:on<=16777216:=bA2;clear ax bg a7 ba g9 a3;obtain ⟨wz,a9⟩:∃ wz,wz=wr:=⟨_,rfl⟩;subst a9;go_wp2;go_loopw [9,10] (λv i wx=>∃ (j:Nat),j<=on/\i=.int .i64 j/\Hid (kD.kY 3 kD.int wx v (V.take j) (jg wz wx))/\Qb wz wx) (λ_ i _=>on - (intOf i).toNat);case atStart=>exact ⟨0,Nat.zero_le _,rfl,yD kD.kY.void,bI⟩
 obtain ⟨j,I,rfl,HI,ag⟩:=hrel;obtain ⟨ia,bj,ic,hi,an⟩:=HI.out.parts;obtain rfl:=hi;have bo:=ag.size;by_cases bl:j < on
 · have hkl:j < H.length:=bA2;have hil:bj<=16777216:=sG;obtain ⟨qb,qo,rfl,ac,ae,af,qr,A0,A1,A2⟩:=kD.zL (J.out.kKg.below ag) hkl rfl;have bm:=yD (show V.take (j + 1)=V.take j++[H[j].2.1] by (have hl:j < V.length:=by rw [es.out];simpa using hkl);rw [List.take_succ_eq_append_getElem hl];simp [es.out]);generalize H[j]=x at *;obtain ⟨rfl,rfl,ah,aj,ak,aw⟩:=yI (show jA.raw w _ x from qr);clear ah aj aw qr;have bp:(V.take j).length<=16777216:=bA9;go_wp2_with (at_builtin;refine kD.jR rfl _ _ 79 rfl (r:=kD.int) (e:=3) underlying79 kBl rfl bF1 bF1 (B:=wz.heap.size) HI.out bF4 bF4 rfl (kD.ky ak _) rfl (λ_ _ h=>h) sI (λ_ h=>h.elim) bF2 bF2 ?_);intro v5 w5 hown X b4;have am:=yD (kD.kY.cast hown bm.out.symm);have bd:=ag.trans X;clear hown X;refine Qg ?_;exact ⟨j + 1,by omega,by go_num,am,bd⟩
 obtain rfl:j=on:=bF2;have HF:=yD (HI.out.cast (show _=kDz l n by rw [ar.out,<- es.out,List.take_of_length_le (by rw [es.out];simp;have:=ay.out;omega)]));have bn:¬ (j:Int) < j:=bF2;go_wp2;go_ret;exact ⟨_,rfl,(HF.out.own nH).wide nI,(tQ D ag)⟩):p:=h
def lN (h:p:=by
 have av:=(List.getElem?_eq_some_iff.1 I).1;rw [cell_of_row w b j _ 105 (0,0) h3];simp only [List.getElem?_toArray];rw [List.getElem?_append_left av];exact I):p:=h
def lQ (h:p:=by
 have LF:=LB.out;go_wp2;go_roundw;case rel=>exact ⟨j + 1,by go_num,HJ.out,LF⟩
 have:=HJ.out;simp [intOf];omega):p:=h
def lS (h:p:=by
 replace BX:=kC BX hb;replace BW:=kC BW hb;replace BA:=kC BA hb;replace BB:=kC BB hb;replace XO:=yD (XO.out.below hb);replace QO:=yD (QO.out.below hb);replace NO:=yD (NO.out.below hb);replace OO:=yD (OO.out.below hb);replace b0:=yD (b0.out.below hb);replace U:=(tQ U hb);clear av L bb ba ax a9 ar az ay c7 cl c9 cv c8 de cz dh dc hb;go_wp2;go_ret;exact ⟨rfl,U⟩):p:=h
def lT (h:p:=by
 obtain rfl:c0=_:=by simpa using he
 clear he hr;by_cases hp:p x[k]=true
 · rw [hp] at C;have HC:=yD C;clear C;have L:=yD (idxOf_hit hlt hp Y.out);clear hp;go_wp2_with fail;refine HC.out.mono ?_;rintro e w1 ⟨rfl,N⟩;go_wp2;go_ret;exact ⟨jZ L.out.symm,(tQ o N)⟩
 have hp:p x[k]=false:=bC3;rw [hp] at C;have HC:=yD C;clear C;have L:=yD (kAv hlt hp Y.out);clear hp;go_wp2_with fail;refine HC.out.mono ?_;rintro e w1 ⟨rfl,N⟩;refine Qg ?_;exact ⟨k + 1,by omega,by go_num,L.out,(tQ o N)⟩):p:=h
def lU (h:p:=by
 have L:=yD (idxOf_miss hlt Y.out);go_wp2;go_ret;exact ⟨jZ L.out.symm,o⟩):p:=h
def lV (h:p:=by
 go_wp2;go_loopw [8] (λi wr=>∃ k:Nat,k<=x.length/\i=.int .i64 k/\(∀ j,(h:j < k)->(h2:j < x.length)->p x[j]=false)/\Qb w wr) (λi _=>x.length - (intOf i).toNat);case atStart=>exact ⟨0,Nat.zero_le _,rfl,λ_ h=>by omega,bR⟩
 obtain ⟨k,hk,rfl,hno,o⟩:=hrel;have Y:=yD hno;clear hno;by_cases hlt:k < x.length
 · obtain ⟨ba,X,rfl,c0,c1,c2,hr,A0,A1,A2⟩:=kD.zL (ha.below o) hlt rfl;have C:=a5.out wr o k hlt _ hr;by_cases hp:p x[k]=true
   · rw [hp] at C;have HC:=yD C;clear C;have L:=yD (idxOf_hit hlt hp Y.out);clear hp;go_wp2_with fail;refine HC.out.mono ?_;rintro e w1 ⟨rfl,N⟩;go_wp2;go_ret;exact ⟨jZ L.out.symm,(tQ o N)⟩
   have hp:p x[k]=false:=bC3;rw [hp] at C;have HC:=yD C;clear C;have L:=yD (kAv hlt hp Y.out);clear hp;go_wp2_with fail;refine HC.out.mono ?_;rintro e w1 ⟨rfl,N⟩;refine Qg ?_;exact ⟨k + 1,by omega,by go_num,L.out,(tQ o N)⟩
 have L:=yD (idxOf_miss hlt Y.out);go_wp2;go_ret;exact ⟨jZ L.out.symm,o⟩):p:=h
def lW (h:p:=by
 have C:=a5.out wr o k hlt _ hr;by_cases hp:p x[k]=true
 · rw [hp] at C;have HC:=yD C;clear C;have L:=yD (idxOf_hit hlt hp Y.out);clear hp;go_wp2_with fail;refine HC.out.mono ?_;rintro e w1 ⟨rfl,N⟩;go_wp2;go_ret;exact ⟨jZ L.out.symm,(tQ o N)⟩
 have hp:p x[k]=false:=bC3;rw [hp] at C;have HC:=yD C;clear C;have L:=yD (kAv hlt hp Y.out);clear hp;go_wp2_with fail;refine HC.out.mono ?_;rintro e w1 ⟨rfl,N⟩;refine Qg ?_;exact ⟨k + 1,by omega,by go_num,L.out,(tQ o N)⟩):p:=h
def lX (h:p:=by
 obtain ⟨ad,a4,rfl,a6⟩:=kD.sl aj;have b0:=Int.ofNat_lt.2 ai;have I:=World.block_lt_of_cell? _ _ ax;have J:=World.block_lt_of_cell? _ _ ap;simp only at I J;go_wp2_with fail;refine (a5.out _ bU _ _ x y (HR.out.below dJ) (R.out.below dJ)).mono ?_;rintro e w1 ⟨rfl,N⟩;have D:Qb w w1:=Below.trans bU (N.mono tL);clear N;cases hz:decide (x=y)
 · have L:=yD (show decide (a=b)=false by simp;exact HD.out bB9);clear HD HX HR R;go_wp2;go_ret;exact ⟨kJ L.out.symm,D⟩
 have L:=yD (HX.out bB9);clear HD HX HR R;refine Qg ?_;exact ⟨k + 1,by omega,by go_num,L,D⟩):p:=h
def lY (h:p:=by
 have b0:=Int.ofNat_lt.2 ai;have I:=World.block_lt_of_cell? _ _ ax;have J:=World.block_lt_of_cell? _ _ ap;simp only at I J;go_wp2_with fail;refine (a5.out _ bU _ _ x y (HR.out.below dJ) (R.out.below dJ)).mono ?_;rintro e w1 ⟨rfl,N⟩;have D:Qb w w1:=Below.trans bU (N.mono tL);clear N;cases hz:decide (x=y)
 · have L:=yD (show decide (a=b)=false by simp;exact HD.out bB9);clear HD HX HR R;go_wp2;go_ret;exact ⟨kJ L.out.symm,D⟩
 have L:=yD (HX.out bB9);clear HD HX HR R;refine Qg ?_;exact ⟨k + 1,by omega,by go_num,L,D⟩):p:=h
def lZ (h:p:=by
 rintro e w1 ⟨rfl,N⟩;have EF:Qb w w1:=Below.trans bI (N.mono bF3);clear N;by_cases h:idxOf (jV n) l < 0
 · have L:=yD (jEg h);generalize idxOf (jV n) l=q at *;go_wp2;go_ret;exact ⟨jZ L.out.symm,EF⟩
 obtain ⟨k,hk,hi⟩:=zn h;have L:=yD (jAv hk hi);rw [hi] at h ⊢;clear hi;obtain ⟨ba,X,rfl,c0,c1,c2,hr,A0,A1,A2⟩:=kD.zL (HL.out.below EF) hk rfl;obtain ⟨rfl,p0,p1,p2,F⟩:=jP hr;clear hr p0 p1 p2 F;generalize l[k]=y at *;have dt:=Int.ofNat_lt.2 hk;have b9:=Int.natCast_nonneg k;go_wp2;go_ret;exact ⟨jZ L.out.symm,EF⟩):p:=h
def mG (h:p:=by
 have ai:=(tQ I E);refine Qg ?_;exact ⟨k + 1,by go_num,by omega,yD (al.out a5.out),ai⟩):p:=h
def nC (h:p:=by
 rintro e w4 ⟨rfl,F⟩;have E4:=(tQ E1 F);have b5:=F.size;replace J:=yD ((J.out.below F).wide (T:=jg w w4) sI);clear F E1;by_cases hk:idxOf (jV n) l < 0
 · have L:=yD (kKz (t:=t) hk);generalize hq:idxOf (jV n) l=q at *;clear hq;go_wp2;go_ret;exact ⟨_,rfl,(J.out.cast L.out.symm).own wW,E4⟩
 obtain ⟨k,hkl,ad⟩:=zn hk;have av:=yD ad;rw [ad];clear hk ad;obtain ⟨b,cap,hv,V,au,ar,ap⟩:=kD.zm J.out hkl;simp only [Value.slice.injEq] at hv;obtain ⟨rfl,ab,rfl⟩:=hv;have be:(0:Int)<=k:=bF2;have a2:(k:Int) < on:=bF2;have a6:=yD (J.out.own bc);obtain ⟨c0,c1,c2,hr,A0,A1,A2⟩:=kD.at3 a6.out.raw hkl rfl;clear hr;have af:=kD.kGv J.out bF2 (k * 3 + 2);have L:=yD (kHy (t:=t) av.out hkl);obtain ⟨s1,s2⟩:=kD.kFi (i:=k) (j:=2) (p:=k * 3 + 2) (u:=.int .i64 t) J.out bc hkl bF1 (λh=>kFz _ HF.out h) (show kH.bdd Big (zk l[k] t) from kD.yx a6.out.rd hkl) rfl;have aa:=yD (s1.cast L.out.symm);clear s1 s2 ab;go_wp2;go_ret;exact ⟨_,rfl,(aa.out.own rV).wide nE,E4.setCell V.1 _⟩):p:=h
def nN (h:p:=by
 have D:=(tQ Z E);go_wp2;go_ret;exact ⟨kJ L.out.symm,D⟩):p:=h
def nO (h:p:=by
 constructor
 · rintro ⟨h1,h2,h3⟩;exact ⟨h3,h1,h2⟩
 rintro ⟨h1,h2,h3⟩;exact ⟨h2,h3,h1⟩):p:=h
def nQ (h:p:=by
 rintro e w1 ⟨rfl,N⟩;have EF:Qb w w1:=Below.trans bI (N.mono bF3);clear N;by_cases h:idxOf (zD n f) l < 0
 · have L:=yD (jEn h);go_wp2;go_ret;exact ⟨jZ L.out.symm,EF⟩
 obtain ⟨k,hk,hi⟩:=kIc h;have L:=yD (jBi hk hi);rw [hi] at h ⊢;clear hi;obtain ⟨ba,X,rfl,c0,c1,c2,hr,A0,A1,A2⟩:=kD.zL (HL.out.below EF) hk rfl;obtain ⟨rfl,rfl,_⟩:=yG hr;clear hr;generalize l[k]=y at *;have dt:=Int.ofNat_lt.2 hk;go_wp2;go_ret;exact ⟨jZ L.out.symm,EF⟩):p:=h
def o5 (h:p:=by
 go_wp2;go_ret;exact ⟨jZ L.out.symm,rfl⟩):p:=h
def o6 (h:p:=by
 have L:=yD (show eqN a b=false by unfold eqN;simp;rintro rfl;exact hl rfl);have hz:((a.length:Int) != b.length)=true:=bE6;go_wp2;go_ret;exact ⟨kJ L.out.symm,bR⟩):p:=h
def o7 (h:p:=by
 obtain ⟨k,hk,rfl,Y,o⟩:=hrel;by_cases hlt:k < a.length
 · have ai:k < b.length:=wZ;obtain ⟨ba,X,rfl,c0,hr,A0⟩:=kD.kCk (V.below o) hlt rfl;obtain ⟨bb,J,rfl,d0,I,B0⟩:=kD.kCk (ag.below o) ai rfl;obtain ⟨he,_⟩:=kD.kAj hr;obtain rfl:c0=_:=by simpa using he
   obtain ⟨F,_⟩:=kD.kAj I;obtain rfl:d0=_:=by simpa using F
   clear he F hr I;have hne:=λq=>yS hlt ai q;have H:=λq=>jd Y.out hlt ai q;generalize a[k]=x at *;generalize b[k]=y at *;have HD:=yD hne;have HX:=yD H;clear hne H;go_wp2_with fail;have FX:=yD (λ(W:World) (hW:Qb wr W)=>kQm hW A0 B0);refine kK (λW=>Qb wr W) [true,true,true,true,true,true,true,true,true] bE5 bE5 qW (bR.drew) ?_;intro wS E;all_goals ((iterate 9 refine kS ?_);refine kM ?_)
   have D:=(tQ o E);cases hz:(x.toList==y.toList)
   · have L:=yD (show eqN a b=false by
       rw [kSj] at hz;simp at hz;unfold eqN;simp;exact HD.out hz)
     clear HD HX;go_wp2;go_ret;exact ⟨kJ L.out.symm,D⟩
   have L:=yD (HX.out (by rw [kSj] at hz;simpa using hz));clear HD HX;refine Qg ?_;exact ⟨k + 1,by omega,by go_num,L,D⟩
 have L:=yD (show eqN a b=true by unfold eqN;simp;exact yJ Y.out hlt HL.out);go_wp2;go_ret;exact ⟨kJ L.out.symm,o⟩):p:=h
def o8 (h:p:=by
 have b8:Hid (((F.take k).filter (λz=>!(z==ex))).length<=Big):=yD gD;go_wp2;go_ret;exact ⟨_,rfl,by rw [ar.out];exact (HI.out.own b8.out).wide sJ,(tQ E4 o)⟩):p:=h
def o9 (h:p:=by
 obtain ⟨i,hi,rfl⟩:=List.mem_take_iff_getElem.1 hy;exact List.pairwise_iff_getElem.1 h2 i k bF2 hk bF2):p:=h
def oC (h:p:=by
 go_wp2;go_ret;exact ⟨kJ L.out.symm,rfl⟩):p:=h
def oD (h:p:=by
 clear am V;replace X:=X.below bN;replace E:=(tQ E bN);refine H _ _ E ?_;clear H K bN;refine jH ?_;refine kU (k:=10) rfl bE5 rfl (λK H=>?_);obtain ⟨v2,t3,hr,D,L,bc⟩:=yK (B:=wq.heap.size) X RL nK E.size bE6;refine kD.kX _ _ _ rfl bF4 bF4 hr ?_;obtain ⟨a2,n2,c2,ar,ba⟩:=D.parts;obtain rfl:=ar;replace E:=E.trans L;have N:=D;clear X;have X:=N;clear D N RL;refine H _ _ E ?_;clear H K hr L;refine jH ?_;refine kU (k:=14) rfl bE5 rfl (λK H=>?_);obtain ⟨v3,t4,hr,D,L,a5⟩:=yK (B:=wq.heap.size) X (cc.out.below E) sI E.size bE6;refine kD.kX _ _ _ rfl bF4 bF4 hr ?_;obtain ⟨a3,n3,c3,ao,bb⟩:=D.parts;obtain rfl:=ao;replace E:=E.trans L;have N:=D;clear X;have X:=N;clear D N;refine H _ _ E ?_;clear H K hr L;refine jH ?_;refine kT 15 ?_;refine jv bE5 ?_;have a4:=yD (kD.kY.cast X (show _=Srt.sorted (zP l n) (fs.take (i + 1)) from by rw [aa.out,List.nil_append]));have bh:=ai.size;have an:=yD (ai.trans (E.mono (ai.size)));clear X aa;refine Qg ?_;exact ⟨i + 1,by omega,by go_num,yD (a4.out.wide sJ),(tQ o an.out)⟩):p:=h
def oF (h:p:=by
 obtain rfl:=al;replace RL:=RL.below L;replace E:=(tQ E L);refine H _ _ E ?_;clear H K hr L;refine jH ?_;refine kU (k:=10) rfl bE5 rfl (λK H=>?_);obtain ⟨v2,t3,hr,D,L,bc⟩:=yK (B:=wq.heap.size) X RL nK E.size bE6;refine kD.kX _ _ _ rfl bF4 bF4 hr ?_;obtain ⟨a2,n2,c2,ar,ba⟩:=D.parts;obtain rfl:=ar;replace E:=E.trans L;have N:=D;clear X;have X:=N;clear D N RL;refine H _ _ E ?_;clear H K hr L;refine jH ?_;refine kU (k:=14) rfl bE5 rfl (λK H=>?_);obtain ⟨v3,t4,hr,D,L,a5⟩:=yK (B:=wq.heap.size) X (cc.out.below E) sI E.size bE6;refine kD.kX _ _ _ rfl bF4 bF4 hr ?_;obtain ⟨a3,n3,c3,ao,bb⟩:=D.parts;obtain rfl:=ao;replace E:=E.trans L;have N:=D;clear X;have X:=N;clear D N;refine H _ _ E ?_;clear H K hr L;refine jH ?_;refine kT 15 ?_;refine jv bE5 ?_;have a4:=yD (kD.kY.cast X (show _=Srt.sorted (zP l n) (fs.take (i + 1)) from by rw [aa.out,List.nil_append]));have bh:=ai.size;have an:=yD (ai.trans (E.mono (ai.size)));clear X aa;refine Qg ?_;exact ⟨i + 1,by omega,by go_num,yD (a4.out.wide sJ),(tQ o an.out)⟩):p:=h
def oG (h:p:=by
 clear am V;replace X:=X.below bN;replace E:=(tQ E bN);refine H _ _ E ?_;clear H K bN;refine jH ?_;refine kU (k:=10) rfl bE5 rfl (λK H=>?_);obtain ⟨v2,t3,hr,D,L,bc⟩:=yK (B:=wq.heap.size) X RL nK E.size bE6;refine kD.kX _ _ _ rfl bF4 bF4 hr ?_;obtain ⟨a2,n2,c2,ar,ba⟩:=D.parts;obtain rfl:=ar;replace E:=E.trans L;have N:=D;clear X;have X:=N;clear D N RL;refine H _ _ E ?_;clear H K hr L;refine jH ?_;refine kU (k:=14) rfl bE5 rfl (λK H=>?_);obtain ⟨v3,t4,hr,D,L,a5⟩:=yK (B:=wq.heap.size) X ((cc _).out.below E) sI E.size bE6;refine kD.kX _ _ _ rfl bF4 bF4 hr ?_;obtain ⟨a3,n3,c3,ao,bb⟩:=D.parts;obtain rfl:=ao;replace E:=E.trans L;have N:=D;clear X;have X:=N;clear D N;refine H _ _ E ?_;clear H K hr L;refine jH ?_;refine kT 15 ?_;refine jv bE5 ?_;have a4:=yD (kD.kY.cast X (show _=Srt.sorted (zP l n) (fs.take (i + 1)) from by rw [aa.out,List.nil_append]));have bh:=ai.size;have an:=yD (ai.trans (E.mono (ai.size)));clear X aa;refine Qg ?_;exact ⟨i + 1,by omega,by go_num,yD (a4.out.wide sJ),(tQ o an.out)⟩):p:=h
def oH (h:p:=by
 obtain rfl:=al;replace RL:=RL.below L;replace E:=(tQ E L);refine H _ _ E ?_;clear H K hr L;refine jH ?_;refine kU (k:=10) rfl bE5 rfl (λK H=>?_);obtain ⟨v2,t3,hr,D,L,bc⟩:=yK (B:=wq.heap.size) X RL nK E.size bE6;refine kD.kX _ _ _ rfl bF4 bF4 hr ?_;obtain ⟨a2,n2,c2,ar,ba⟩:=D.parts;obtain rfl:=ar;replace E:=E.trans L;have N:=D;clear X;have X:=N;clear D N RL;refine H _ _ E ?_;clear H K hr L;refine jH ?_;refine kU (k:=14) rfl bE5 rfl (λK H=>?_);obtain ⟨v3,t4,hr,D,L,a5⟩:=yK (B:=wq.heap.size) X ((cc _).out.below E) sI E.size bE6;refine kD.kX _ _ _ rfl bF4 bF4 hr ?_;obtain ⟨a3,n3,c3,ao,bb⟩:=D.parts;obtain rfl:=ao;replace E:=E.trans L;have N:=D;clear X;have X:=N;clear D N;refine H _ _ E ?_;clear H K hr L;refine jH ?_;refine kT 15 ?_;refine jv bE5 ?_;have a4:=yD (kD.kY.cast X (show _=Srt.sorted (zP l n) (fs.take (i + 1)) from by rw [aa.out,List.nil_append]));have bh:=ai.size;have an:=yD (ai.trans (E.mono (ai.size)));clear X aa;refine Qg ?_;exact ⟨i + 1,by omega,by go_num,yD (a4.out.wide sJ),(tQ o an.out)⟩):p:=h
def oI (h:p:=by
 have a5:=E.size;refine ⟨_,rfl,((ah.wide (T:=jg w u4) ?_).cast L.out.symm).own dA,(tQ E2 D)⟩;rintro j (I | I)
 · exact ⟨I.1,by have:=I.2;have:=D.size;omega⟩
 exact ⟨by omega,I.2⟩):p:=h
def oJ (h:p:=by
 have EF:=(tQ Z ai);by_cases ae:24 < q.length
 · obtain ⟨_,b,off,rfl,ck,au⟩:=kD.kGu X.out bF2;have ah:=(kD.kBj X.out.raw);have ac:(24:Int) < q.length:=bF2;have ad:(1:Int)<=q.length:=bF2;have dj:¬ o=1:=bF2;have HD:=yD (kD.kTt X.out (k:=1) bF2);have L:Hid (zX l n x=q.drop 1):=yD (by unfold zX;rw [D.out,if_pos ae]);clear X D;go_wp2;go_ret;refine ⟨_,rfl,?_,EF⟩;rw [L.out];exact HD.out
 have ac:¬ (24:Int) < q.length:=bF2;have L:Hid (zX l n x=q):=yD (by unfold zX;rw [D.out,if_neg ae]);clear D;go_wp2;go_ret;refine ⟨_,rfl,?_,EF⟩;rw [L.out];exact X.out):p:=h
def oK (h:p:=by
 obtain rfl:=ac;have bc:=hb.size;have OB:=J.wide (T:=jg t2 t3) nX;clear J OA;replace X:=X.below hb;replace RL:=RL.below hb;replace E:=(tQ E hb);refine H _ _ E ?_;clear H K hb;refine jH ?_;refine kU (k:=6) rfl bE5 rfl (λK H=>?_);obtain ⟨v_,t4,hr,D,L,a5,o⟩:=kD.kCa (P:=prog) (t:=79) (ty:=79) (r:=kD.int) (e:=3) (w:=t3) (B:=U.heap.size) underlying79 kBl rfl bF1 bF1 kD.zH X (OB.own bB1).rd dQ E.size bV;refine kD.kX _ _ _ rfl bF4 bF4 hr ?_;obtain ⟨bg,av,au,ab,ah⟩:=D.parts;obtain rfl:=ab;replace RL:=RL.keep bP;replace E:=E.trans L;clear hr L o X OB;have N:=D;clear D;refine H _ _ E ?_;clear H K;refine jH ?_;refine kU (k:=10) rfl bE5 rfl (λK H=>?_);obtain ⟨v_,t5,hr,D,L,ar,o⟩:=kD.kCa (P:=prog) (t:=79) (ty:=79) (r:=kD.int) (e:=3) (w:=t4) (B:=U.heap.size) underlying79 kBl rfl bF1 bF1 kD.zH N (RL.own vI).rd dQ E.size bV;refine kD.kX _ _ _ rfl bF4 bF4 hr ?_;obtain ⟨bo,ap,an,ab,ag⟩:=D.parts;obtain rfl:=ab;replace E:=E.trans L;clear hr L o N RL;have ae:=D;clear D;refine H _ _ E ?_;clear H K;refine jH ?_;refine kT 11 ?_;refine jv bE5 ?_;go_wp2;go_ret;exact ⟨_,rfl,(ae.cast bE4).wide sJ,(tQ Z E)⟩):p:=h
def oL (h:p:=by
 refine wpOp_mono go ?_;unfold wpOp;simp only [h0];exact h):p:=h
def oM (h:p:=by
 refine ⟨aa,?_⟩;by_cases J:j=i
 · subst J;exact hy.wpOp hi hS ⟨hS,H⟩
 · have:=Y _ _ _ H j (ready_mono I J);omega):p:=h
def oN (h:p:=by
 refine ⟨aa,?_⟩;by_cases J:j=i
 · subst J;exact hy.wpOp hi hS ⟨hS,H⟩
 · have h1:=(H.2 j (ready_mono I J)).2;obtain ⟨X,oj,N,O⟩:=mem_ready.1 I;have ab:∀ e∈oj.after,Region.binds md e=true->e.on≠i:=λe he hb ac=>by
     have h1:=O e he hb;rw [ac,getD_both F] at h1;cases h1
   have h2:=wpOp_putIf N (R j oj N J X ab) (λcs b=>E i W cs b hi) (λcs b=>E j oj cs b N) hQ hy h1;have V:∀ k ok,ops[k]?=some ok->k≠i->(listed.setIfInBounds j true).getD k true=false ->
       (∀ e∈ok.after,Region.binds md e=true->e.on≠i)->W.apart ops ok=true:=λk ok hk ad F hno=>by
     refine R k ok hk ad ?_ hno
     by_cases hjk:j=k
     · subst hjk;exact X
     · rw [getD_set_ne true hjk] at F;exact F
   refine wpOp_mono (λa' w' h3=>⟨h3.2.1,ih (listed.setIfInBounds j true) a' w' (inv.set I aa) V (ready_mono hr (Ne.symm J)) h3.1 h3.2.1 ?_⟩) h2;rw [Array.setIfInBounds_comm _ _ J];exact h3.2.2):p:=h
def oO (h:p:=by
 have:l[i]?=some l.toArray[i]:=by simp
 simp only [jG,this]):p:=h
def oP (h:p:=by
 refine ⟨by simpa [kEe] using hB,l.drop n,λj=>by simp [List.getElem?_drop],by simp;omega,?_⟩;simp only [jG,List.nil_append,List.map_nil] at h;generalize l.drop n=r at h ⊢;cases r <;> exact h):p:=h
def oQ (h:p:=by
 unfold wpOp;simp only [h0];exact h):p:=h
def oU (h:p:=by
 subst af;have h1:=List.all_eq_true.1 hs i (List.mem_range.2 hi);rw [Z,Bool.false_or] at h1;obtain ⟨j,I,bb⟩:=List.any_eq_true.1 h1;simp only [Bool.and_eq_true,decide_eq_true_eq,Bool.not_eq_true'] at bb;obtain ⟨oj,N,e,he,hb,ab⟩:=Region.waitsFor_spec bb.2.2;have W:j<=t:=sV;by_cases L:j=t
 · subst L;have:oj=U:=Option.some.inj (N.symm.trans o);subst this;have h2:=O e he hb;rw [ab,getD_both F] at h2;cases h2
 · cases hl:listed.getD j false with
   | true =>
     have h2:=inv.closed j oj N hl e he hb;rw [ab,getD_both F] at h2;cases h2
   | false =>
     have H:j < listed.size:=wX;exact ih (t - j) bF2 j rfl bF2 bb.2.1 (getD_in H hl) t nL hr):p:=h
def oV (h:p:=by
 obtain ⟨j,I,bb⟩:=List.any_eq_true.1 h1;simp only [Bool.and_eq_true,decide_eq_true_eq] at bb;obtain ⟨R,J,e,he,hb,ab⟩:=Region.waitsFor_spec bb.2;have:R=U:=Option.some.inj (J.symm.trans o);subst this;have L:j < t:=bD7;have h2:=O e he hb;rw [ab,getD_both (inv.tail j bF2 bF2)] at h2;cases h2):p:=h
def oW (h:p:=by
 simp only [kEf,Bool.and_eq_true] at hB;simp only [jG,List.map_nil] at h;have h:S2 w/\kDc P l.toArray S2 Q k (jG l q2) (q2.map (·.2)) a w:=h;exact ⟨hB.1,hB.2,h.1,k,h.2⟩):p:=h
def oZ (h:p:=by
 clear b2 bw b0 b1 aq be O N;have b6:=yD (I.out.trans (jDf ba.out BK.1));have b7:Hid ((Srt.sw cu j k).length=n):=yD (by rw [Srt.kPf];exact Z.out);go_roundw;case rel=>exact ⟨k,Srt.sw cu j k,by go_num,by omega,by omega,b5,b7,ag,b6⟩
 simp [intOf];omega):p:=h
def p8 (h:p:=by
 have al:Hid (Srt.outer key a (z - (i + 1)) (i + 1) cu=Srt.kFm key a z xs):=yD rW;refine Qg ?_;exact ⟨i + 1,cu,by go_num,by omega,.inl bF2,al,Z,bu,I⟩):p:=h
def q8 (h:p:=by
 have HE:Hid (cur=Srt.kFm key a z xs):=yD ((jEb (key:=key) (a:=a) (cu:=cur) hlt).symm.trans HF.out);have ch:¬ (i:Int) < z:=bF2;go_wp2;go_end0;exact ⟨rfl,J.out.cast HE.out,L.out⟩):p:=h
def q9 (h:p:=by
 go_wp2;go_loopw [8] (λi wr=>i=.int .i64 1/\wr=w) (λi _=>0);case atStart=>exact ⟨rfl,rfl⟩
 obtain ⟨rfl,hw⟩:=hrel;obtain rfl:=hw;go_wp2;go_end0;exact ⟨rfl,rfl⟩):p:=h
def qZ (h:p:=by
 go_wp2;go_loopw [7,8] (λi j wr=>i=.int .i64 0/\j=.int .i64 20/\wr=w) (λi j _=>0);case atStart=>exact ⟨rfl,rfl,rfl⟩
 obtain ⟨rfl,rfl,hw⟩:=hrel;obtain rfl:=hw;go_wp2_with fail;refine HX.out.mono ?_;rintro e w2 ⟨rfl,q⟩;have HQ:=yD q;clear q;go_wp2;go_loopw [6,7,8] (λi _ _ wx=>i=.int .i64 20/\wx=w2) (λi _ _ _=>0);case atStart=>exact ⟨rfl,rfl⟩
 obtain ⟨rfl,hw⟩:=hrel;obtain rfl:=hw;go_wp2;go_end0;exact ⟨rfl,HQ.out⟩):p:=h
def r9 (h:p:=by
 go_wp2_with fail;refine HC.out.mono ?_;rintro e w2 ⟨rfl,q⟩;have HQ:=yD q;clear q;go_wp2;go_end0;exact ⟨rfl,HQ.out⟩):p:=h
def rR (h:p:=by
 obtain ⟨_,_,rfl,V,ag⟩:=kD.yP h;have ah:=kw V;obtain ⟨_,rfl,o⟩:=ah;obtain ⟨_,_,rfl,a9,el⟩:=kD.yP ag;obtain ⟨rfl,aq⟩:=kD.yX a9;obtain ⟨rfl,a8⟩:=kD.yX el;exact ⟨_,rfl,V,o,aq,a8⟩):p:=h
def rT (h:p:=by
 simp only [List.cons.injEq,and_true] at he;obtain ⟨rfl,rfl,rfl⟩:=he;exact ⟨rfl,rfl,h2⟩):p:=h
def sM (h:p:=by
 obtain ⟨c0,d0,A0,B0,rfl,p0,q0,ar,O,J⟩:=h;obtain ⟨c1,d1,A1,B1,rfl,p1,q1,hA1,H,hd1⟩:=q0;obtain ⟨rfl,_⟩:=q1;have l0:=kD.len _ p0;have R:=kD.len _ p1;change _=1 at l0;change _=1 at R;have e:((c0++(c1++[.int .i64 x.2.2])):List Value).set 2 (Qn v)=(c0++(c1++[.int .i64 v])):=by
  obtain ⟨o,rfl⟩:∃ o,c0=[o]:=qI;obtain ⟨D,rfl⟩:∃ D,c1=[D]:=qO;rfl
 rw [e];exact ⟨_,_,A0,B0,rfl,p0,⟨_,_,A1,B1,rfl,p1,⟨rfl,hv⟩,hA1,H,hd1⟩,ar,O,J⟩):p:=h
def tO (h:p:=by
 obtain ⟨_,_,rfl,V,ag⟩:=kD.yP h;have ah:=kw V;obtain ⟨_,rfl,o⟩:=ah;obtain ⟨rfl,aq⟩:=kD.yX ag;exact ⟨_,rfl,V,o,aq⟩):p:=h
def tX (h:p:=by
 go_wp2;go_ret;exact ⟨kJ fJ,o⟩):p:=h
def uA (h:p:=by
 have a5:=E.size;have ao:=yD ah;clear ah;go_wp2;go_ret;exact ⟨_,rfl,ao.out.wide gX,D⟩):p:=h
def uB (h:p:=by
 intro t0 bN _ _;replace E:=(tQ E bN);refine H _ _ E ?_;clear H K bN;refine jH ?_;refine yH (i:=4) (j:=6) rfl rfl bE5 rfl rfl (λK H=>?_) (λK H=>?_)
 · have bg:=E.size;obtain ⟨v1,t1,hr,X,L,bp⟩:=jc (w:=t0) (v:=.slice (some ⟨wS,0,none⟩) 0 0) (xs:=[]) (S:=λ_=>False) (B:=t0.heap.size) kD.kY.void (ay.out.below E) (λ_ h=>h.elim) nL bE6;refine kD.kX _ _ _ rfl bF4 bF4 hr ?_;obtain ⟨a1,n1,c1,al,ap⟩:=X.parts;obtain rfl:=al;replace E:=(tQ E L);refine H _ _ E ?_;clear H K hr L;refine jH ?_;refine kU (k:=6) rfl bE5 rfl (λK H=>?_);go_simp;have RL:=kAz (w:=t1) (cs:=[.slice ra r.1.length rp,.int .i64 r.2.1,.int .i64 r.2.2]) (x:=r) (show (kD.kFu jA w0).is true _ [_,_,_] r _ from HR.out.1) HR.out.2;have V:Below t1 t1 (World.alloc t1 (.cells #[.slice ra r.1.length rp,.int .i64 r.2.1,.int .i64 r.2.2] 176)):=bR.alloc nL _;generalize am:World.alloc t1 (.cells #[.slice ra r.1.length rp,.int .i64 r.2.1,.int .i64 r.2.2] 176)=t2 at RL V ⊢;have be:=V.size;have bN:=V;exact lI
 have bg:=E.size;go_simp;have RL:=kAz (w:=t0) (cs:=[.slice ra r.1.length rp,.int .i64 r.2.1,.int .i64 r.2.2]) (x:=r) (show (kD.kFu jA w0).is true _ [_,_,_] r _ from HR.out.1) HR.out.2;have V:Below t0 t0 (World.alloc t0 (.cells #[.slice ra r.1.length rp,.int .i64 r.2.1,.int .i64 r.2.2] 176)):=bR.alloc nL _;generalize am:World.alloc t0 (.cells #[.slice ra r.1.length rp,.int .i64 r.2.1,.int .i64 r.2.2] 176)=t1 at RL V ⊢;have bN:=V;clear am V;replace E:=(tQ E bN);refine H _ _ E ?_;clear H K bN;refine jH ?_;refine kU (k:=4) rfl bE5 rfl (λK H=>?_);have bf:=E.size;obtain ⟨v1,t2,hr,X,L,be⟩:=jc (w:=t1) (v:=.slice (some ⟨wS,0,none⟩) 0 0) (xs:=[]) (S:=λ_=>False) (B:=t1.heap.size) kD.kY.void (ay.out.below E) (λ_ h=>h.elim) nL bE6;refine kD.kX _ _ _ rfl bF4 bF4 hr ?_;obtain ⟨a1,n1,c1,al,ap⟩:=X.parts;exact lJ):p:=h
def uC (h:p:=by
 have bj:=E.size;go_simp;have RL:=kAz (w:=wS) (cs:=[.slice ra r.1.length rp,.int .i64 r.2.1,.int .i64 r.2.2]) (x:=r) (show (kD.kFu jA w0).is true _ [_,_,_] r _ from HR.out.1) HR.out.2;have V:Below wS wS (World.alloc wS (.cells #[.slice ra r.1.length rp,.int .i64 r.2.1,.int .i64 r.2.2] 176)):=bR.alloc nL _;generalize am:World.alloc wS (.cells #[.slice ra r.1.length rp,.int .i64 r.2.1,.int .i64 r.2.2] 176)=t0 at RL V ⊢;have bN:=V;clear am V;replace E:=(tQ E bN);refine H _ _ E ?_;clear H K bN;refine jH ?_;refine kU (k:=0) rfl bE5 rfl (λK H=>?_);go_simp;refine ja ?_;intro t1 bN _ _;replace RL:=RL.below bN;replace E:=(tQ E bN);refine H _ _ E ?_;clear H K bN;refine jH ?_;refine kU (k:=4) rfl bE5 rfl (λK H=>?_);have bf:=E.size;obtain ⟨v1,t2,hr,X,L,be⟩:=jc (w:=t1) (v:=.slice (some ⟨t0,0,none⟩) 0 0) (xs:=[]) (S:=λ_=>False) (B:=t1.heap.size) kD.kY.void (ay.out.below E) (λ_ h=>h.elim) nL bE6;refine kD.kX _ _ _ rfl bF4 bF4 hr ?_;obtain ⟨a1,n1,c1,al,ap⟩:=X.parts;exact lJ):p:=h
def uD (h:p:=by
 intro t0 bN _ _;replace E:=(tQ E bN);refine H _ _ E ?_;clear H K bN;refine jH ?_;refine yH (i:=4) (j:=6) rfl rfl bE5 rfl rfl (λK H=>?_) (λK H=>?_)
 · have bg:=E.size;obtain ⟨v1,t1,hr,X,L,bp⟩:=jc (w:=t0) (v:=.slice (some ⟨wS,0,none⟩) 0 0) (xs:=[]) (S:=λ_=>False) (B:=t0.heap.size) kD.kY.void (ay.out.below E) (λ_ h=>h.elim) nL bE6;refine kD.kX _ _ _ rfl bF4 bF4 hr ?_;obtain ⟨a1,n1,c1,al,ap⟩:=X.parts;obtain rfl:=al;replace E:=(tQ E L);refine H _ _ E ?_;clear H K hr L;refine jH ?_;refine kU (k:=6) rfl bE5 rfl (λK H=>?_);go_simp;have RL:=kAz (w:=t1) (cs:=[.slice ra r.1.length rp,.int .i64 r.2.1,.int .i64 r.2.2]) (x:=r) (show (kD.kFu jA w0).is true _ [_,_,_] r _ from HR.out.1) HR.out.2;have V:Below t1 t1 (World.alloc t1 (.cells #[.slice ra r.1.length rp,.int .i64 r.2.1,.int .i64 r.2.2] 176)):=bR.alloc nL _;generalize am:World.alloc t1 (.cells #[.slice ra r.1.length rp,.int .i64 r.2.1,.int .i64 r.2.2] 176)=t2 at RL V ⊢;have be:=V.size;have bN:=V;exact lK
 have bg:=E.size;go_simp;have RL:=kAz (w:=t0) (cs:=[.slice ra r.1.length rp,.int .i64 r.2.1,.int .i64 r.2.2]) (x:=r) (show (kD.kFu jA w0).is true _ [_,_,_] r _ from HR.out.1) HR.out.2;have V:Below t0 t0 (World.alloc t0 (.cells #[.slice ra r.1.length rp,.int .i64 r.2.1,.int .i64 r.2.2] 176)):=bR.alloc nL _;generalize am:World.alloc t0 (.cells #[.slice ra r.1.length rp,.int .i64 r.2.1,.int .i64 r.2.2] 176)=t1 at RL V ⊢;have bN:=V;clear am V;replace E:=(tQ E bN);refine H _ _ E ?_;clear H K bN;refine jH ?_;refine kU (k:=4) rfl bE5 rfl (λK H=>?_);have bf:=E.size;obtain ⟨v1,t2,hr,X,L,be⟩:=jc (w:=t1) (v:=.slice (some ⟨wS,0,none⟩) 0 0) (xs:=[]) (S:=λ_=>False) (B:=t1.heap.size) kD.kY.void (ay.out.below E) (λ_ h=>h.elim) nL bE6;refine kD.kX _ _ _ rfl bF4 bF4 hr ?_;obtain ⟨a1,n1,c1,al,ap⟩:=X.parts;exact lL):p:=h
def uE (h:p:=by
 have bj:=E.size;go_simp;have RL:=kAz (w:=wS) (cs:=[.slice ra r.1.length rp,.int .i64 r.2.1,.int .i64 r.2.2]) (x:=r) (show (kD.kFu jA w0).is true _ [_,_,_] r _ from HR.out.1) HR.out.2;have V:Below wS wS (World.alloc wS (.cells #[.slice ra r.1.length rp,.int .i64 r.2.1,.int .i64 r.2.2] 176)):=bR.alloc nL _;generalize am:World.alloc wS (.cells #[.slice ra r.1.length rp,.int .i64 r.2.1,.int .i64 r.2.2] 176)=t0 at RL V ⊢;have bN:=V;clear am V;replace E:=(tQ E bN);refine H _ _ E ?_;clear H K bN;refine jH ?_;refine kU (k:=0) rfl bE5 rfl (λK H=>?_);go_simp;refine ja ?_;intro t1 bN _ _;replace RL:=RL.below bN;replace E:=(tQ E bN);refine H _ _ E ?_;clear H K bN;refine jH ?_;refine kU (k:=4) rfl bE5 rfl (λK H=>?_);have bf:=E.size;obtain ⟨v1,t2,hr,X,L,be⟩:=jc (w:=t1) (v:=.slice (some ⟨t0,0,none⟩) 0 0) (xs:=[]) (S:=λ_=>False) (B:=t1.heap.size) kD.kY.void (ay.out.below E) (λ_ h=>h.elim) nL bE6;refine kD.kX _ _ _ rfl bF4 bF4 hr ?_;obtain ⟨a1,n1,c1,al,ap⟩:=X.parts;exact lL):p:=h
def uF (h:p:=by
 intro t0 bN _ _;replace E:=(tQ E bN);refine H _ _ E ?_;clear H K bN;refine jH ?_;refine yH (i:=4) (j:=9) rfl rfl bE5 rfl rfl (λK H=>?_) (λK H=>?_)
 · have bg:=E.size;obtain ⟨v1,t1,hr,X,L,bp⟩:=yK (w:=t0) (v:=.slice (some ⟨wS,0,none⟩) 0 0) (xs:=[]) (S:=λ_=>False) (B:=t0.heap.size) kD.kY.void (ay.out.below E) (λ_ h=>h.elim) nL bE6;refine kD.kX _ _ _ rfl bF4 bF4 hr ?_;obtain ⟨a1,n1,c1,al,ap⟩:=X.parts;obtain rfl:=al;replace E:=(tQ E L);refine H _ _ E ?_;clear H K hr L;refine jH ?_;refine kU (k:=9) rfl bE5 rfl (λK H=>?_);go_simp;have RL:=kCq (w:=t1) (cs:=[.int .i64 x]) (x:=x) (show kD.int.is true _ [.int .i64 x] x _ from ⟨rfl,F⟩) trivial;have V:Below t1 t1 (World.alloc t1 (.cells #[.int .i64 x] 3)):=bR.alloc nL _;generalize am:World.alloc t1 (.cells #[.int .i64 x] 3)=t2 at RL V ⊢;have be:=V.size;have bN:=V;exact oD
 have bg:=E.size;go_simp;have RL:=kCq (w:=t0) (cs:=[.int .i64 x]) (x:=x) (show kD.int.is true _ [.int .i64 x] x _ from ⟨rfl,F⟩) trivial;have V:Below t0 t0 (World.alloc t0 (.cells #[.int .i64 x] 3)):=bR.alloc nL _;generalize am:World.alloc t0 (.cells #[.int .i64 x] 3)=t1 at RL V ⊢;have bN:=V;clear am V;replace E:=(tQ E bN);refine H _ _ E ?_;clear H K bN;refine jH ?_;refine kU (k:=4) rfl bE5 rfl (λK H=>?_);have bf:=E.size;obtain ⟨v1,t2,hr,X,L,be⟩:=yK (w:=t1) (v:=.slice (some ⟨wS,0,none⟩) 0 0) (xs:=[]) (S:=λ_=>False) (B:=t1.heap.size) kD.kY.void (ay.out.below E) (λ_ h=>h.elim) nL bE6;refine kD.kX _ _ _ rfl bF4 bF4 hr ?_;obtain ⟨a1,n1,c1,al,ap⟩:=X.parts;exact oF):p:=h
def uG (h:p:=by
 have bj:=E.size;go_simp;have RL:=kCq (w:=wS) (cs:=[.int .i64 x]) (x:=x) (show kD.int.is true _ [.int .i64 x] x _ from ⟨rfl,F⟩) trivial;have V:Below wS wS (World.alloc wS (.cells #[.int .i64 x] 3)):=bR.alloc nL _;generalize am:World.alloc wS (.cells #[.int .i64 x] 3)=t0 at RL V ⊢;have bN:=V;clear am V;replace E:=(tQ E bN);refine H _ _ E ?_;clear H K bN;refine jH ?_;refine kU (k:=0) rfl bE5 rfl (λK H=>?_);go_simp;refine ja ?_;intro t1 bN _ _;replace RL:=RL.below bN;replace E:=(tQ E bN);refine H _ _ E ?_;clear H K bN;refine jH ?_;refine kU (k:=4) rfl bE5 rfl (λK H=>?_);have bf:=E.size;obtain ⟨v1,t2,hr,X,L,be⟩:=yK (w:=t1) (v:=.slice (some ⟨t0,0,none⟩) 0 0) (xs:=[]) (S:=λ_=>False) (B:=t1.heap.size) kD.kY.void (ay.out.below E) (λ_ h=>h.elim) nL bE6;refine kD.kX _ _ _ rfl bF4 bF4 hr ?_;obtain ⟨a1,n1,c1,al,ap⟩:=X.parts;exact oF):p:=h
def uH (h:p:=by
 intro t0 bN _ _;replace E:=(tQ E bN);refine H _ _ E ?_;clear H K bN;refine jH ?_;refine yH (i:=4) (j:=9) rfl rfl bE5 rfl rfl (λK H=>?_) (λK H=>?_)
 · have bg:=E.size;obtain ⟨v1,t1,hr,X,L,bp⟩:=yK (w:=t0) (v:=.slice (some ⟨wS,0,none⟩) 0 0) (xs:=[]) (S:=λ_=>False) (B:=t0.heap.size) kD.kY.void (ay.out.below E) (λ_ h=>h.elim) nL bE6;refine kD.kX _ _ _ rfl bF4 bF4 hr ?_;obtain ⟨a1,n1,c1,al,ap⟩:=X.parts;obtain rfl:=al;replace E:=(tQ E L);refine H _ _ E ?_;clear H K hr L;refine jH ?_;refine kU (k:=9) rfl bE5 rfl (λK H=>?_);go_simp;have RL:=kCq (w:=t1) (cs:=[.int .i64 x]) (x:=x) (show kD.int.is true _ [.int .i64 x] x _ from ⟨rfl,F⟩) trivial;have V:Below t1 t1 (World.alloc t1 (.cells #[.int .i64 x] 3)):=bR.alloc nL _;generalize am:World.alloc t1 (.cells #[.int .i64 x] 3)=t2 at RL V ⊢;have be:=V.size;have bN:=V;exact oG
 have bg:=E.size;go_simp;have RL:=kCq (w:=t0) (cs:=[.int .i64 x]) (x:=x) (show kD.int.is true _ [.int .i64 x] x _ from ⟨rfl,F⟩) trivial;have V:Below t0 t0 (World.alloc t0 (.cells #[.int .i64 x] 3)):=bR.alloc nL _;generalize am:World.alloc t0 (.cells #[.int .i64 x] 3)=t1 at RL V ⊢;have bN:=V;clear am V;replace E:=(tQ E bN);refine H _ _ E ?_;clear H K bN;refine jH ?_;refine kU (k:=4) rfl bE5 rfl (λK H=>?_);have bf:=E.size;obtain ⟨v1,t2,hr,X,L,be⟩:=yK (w:=t1) (v:=.slice (some ⟨wS,0,none⟩) 0 0) (xs:=[]) (S:=λ_=>False) (B:=t1.heap.size) kD.kY.void (ay.out.below E) (λ_ h=>h.elim) nL bE6;refine kD.kX _ _ _ rfl bF4 bF4 hr ?_;obtain ⟨a1,n1,c1,al,ap⟩:=X.parts;exact oH):p:=h
def uI (h:p:=by
 have bj:=E.size;go_simp;have RL:=kCq (w:=wS) (cs:=[.int .i64 x]) (x:=x) (show kD.int.is true _ [.int .i64 x] x _ from ⟨rfl,F⟩) trivial;have V:Below wS wS (World.alloc wS (.cells #[.int .i64 x] 3)):=bR.alloc nL _;generalize am:World.alloc wS (.cells #[.int .i64 x] 3)=t0 at RL V ⊢;have bN:=V;clear am V;replace E:=(tQ E bN);refine H _ _ E ?_;clear H K bN;refine jH ?_;refine kU (k:=0) rfl bE5 rfl (λK H=>?_);go_simp;refine ja ?_;intro t1 bN _ _;replace RL:=RL.below bN;replace E:=(tQ E bN);refine H _ _ E ?_;clear H K bN;refine jH ?_;refine kU (k:=4) rfl bE5 rfl (λK H=>?_);have bf:=E.size;obtain ⟨v1,t2,hr,X,L,be⟩:=yK (w:=t1) (v:=.slice (some ⟨t0,0,none⟩) 0 0) (xs:=[]) (S:=λ_=>False) (B:=t1.heap.size) kD.kY.void (ay.out.below E) (λ_ h=>h.elim) nL bE6;refine kD.kX _ _ _ rfl bF4 bF4 hr ?_;obtain ⟨a1,n1,c1,al,ap⟩:=X.parts;exact oH):p:=h
def uJ (h:p:=by
 refine jH ?_;refine kU (k:=10) rfl bE5 rfl (λK H=>?_);obtain ⟨v_,t5,hr,D,L,ar,o⟩:=kD.kCa (P:=prog) (t:=79) (ty:=79) (r:=kD.int) (e:=3) (w:=t4) (B:=U.heap.size) underlying79 kBl rfl bF1 bF1 kD.zH N (RL.own vI).rd dQ E.size bV;refine kD.kX _ _ _ rfl bF4 bF4 hr ?_;obtain ⟨bo,ap,an,ab,ag⟩:=D.parts;obtain rfl:=ab;replace E:=E.trans L;clear hr L o N RL;have ae:=D;clear D;refine H _ _ E ?_;clear H K;refine jH ?_;refine kT 11 ?_;refine jv bE5 ?_;go_wp2;go_ret;exact ⟨_,rfl,(ae.cast bE4).wide sJ,(tQ Z E)⟩):p:=h
def uK (h:p:=by
 refine jH ?_;refine kU (k:=4) rfl bE5 rfl (λK H=>?_);go_simp;refine (kDn RV (HK.out.below (tQ Z E))).mono ?_;rintro e t2 ⟨az,rfl,O,hb⟩;obtain ⟨ax,a1,ay,ad,aj⟩:=O.parts;obtain rfl:=ad;have be:=hb.size;have OA:=O.wide (T:=jg t1 t2) nX;clear O RV;replace X:=X.below hb;replace RL:=RL.below hb;replace E:=(tQ E hb);refine H _ _ E ?_;clear H K hb;refine jH ?_;refine kU (k:=5) rfl bE5 rfl (λK H=>?_);go_simp;refine (kAs (OA.own bB1).rd.1 bF2).mono ?_;rintro e t3 ⟨aq,rfl,J,hb⟩;obtain ⟨al,ao,aw,ac,af⟩:=J.parts;exact oK):p:=h
def uL (h:p:=by
 have bl:¬ lp=k:=bF2;rcases O.out with ⟨h1,h2⟩|⟨b,hb⟩
 · exact absurd bo bF2
 first | subst hb|(simp only [Option.some.injEq,Addr.mk.injEq,and_true] at hb;obtain ⟨rfl,rfl⟩:=hb)
 have cc:=yD (kD.kYj a6.out (k:=k) bt);rw [Nat.zero_add,show k * (kD.kFu jA w0).n=k * 3 from rfl] at cc;have FX:=yD (λ(W:World) (hW:Qb wq W)=>kMt hW K0 K1 K2);refine yg (λW=>Qb wq W) bE5 (bR.drew) ?_;intro wS E;refine kT 1 ?_;refine kT 2 ?_;refine kT 3 ?_;refine kT 5 ?_;refine kT 8 ?_;refine kT 9 ?_;refine kT 10 ?_;refine yH (i:=0) (j:=6) rfl rfl bE5 rfl rfl (λK H=>?_) (λK H=>?_)
 · have bj:=E.size;go_simp;refine ja ?_;exact uB
 exact uC):p:=h
def uM (h:p:=by
 have bl:lp=k:=bF2;subst bl;have cc:=λ(ad:Option Addr)=>yD (show (kD.slice 176 (kD.kFu jA w0)).rd wq [.slice ad 0 0] (l.drop lp) from by rw [List.drop_eq_nil_of_le bF2];exact kD.kYc wR);have FX:=yD (λ(W:World) (hW:Qb wq W)=>kMt hW K0 K1 K2);refine yg (λW=>Qb wq W) bE5 (bR.drew) ?_;intro wS E;refine kT 1 ?_;refine kT 2 ?_;refine kT 3 ?_;refine kT 5 ?_;refine kT 8 ?_;refine kT 9 ?_;refine kT 10 ?_;refine yH (i:=0) (j:=6) rfl rfl bE5 rfl rfl (λK H=>?_) (λK H=>?_)
 · have bj:=E.size;go_simp;refine ja ?_;exact uD
 exact uE):p:=h
def uN (h:p:=by
 first | subst hb|(simp only [Option.some.injEq,Addr.mk.injEq,and_true] at hb;obtain ⟨rfl,rfl⟩:=hb)
 have bl:¬ cap=k:=bF2;have cc:=yD (kD.kYj a6.out (k:=k) bA1);rw [Nat.zero_add,show k * kD.int.n=k from Nat.mul_one k] at cc;have FX:=yD (λ(W:World) (hW:Qb wq W)=>cL hW ac);refine yg (λW=>Qb wq W) bE5 (bR.drew) ?_;intro wS E;refine kT 1 ?_;refine kT 2 ?_;refine kT 3 ?_;refine kT 5 ?_;refine kT 6 ?_;refine kT 7 ?_;refine kT 8 ?_;refine kT 11 ?_;refine kT 12 ?_;refine kT 13 ?_;refine yH (i:=0) (j:=9) rfl rfl bE5 rfl rfl (λK H=>?_) (λK H=>?_)
 · have bj:=E.size;go_simp;refine ja ?_;exact uF
 exact uG):p:=h
def uO (h:p:=by
 have bl:cap=k:=bF2;subst bl;have cc:=λ(ad:Option Addr)=>yD (show (kD.slice 3 kD.int).rd wq [.slice ad 0 0] (LL.drop cap) from by rw [List.drop_eq_nil_of_le bA1];exact kD.kYc wR);have FX:=yD (λ(W:World) (hW:Qb wq W)=>cL hW ac);refine yg (λW=>Qb wq W) bE5 (bR.drew) ?_;intro wS E;refine kT 1 ?_;refine kT 2 ?_;refine kT 3 ?_;refine kT 5 ?_;refine kT 6 ?_;refine kT 7 ?_;refine kT 8 ?_;refine kT 11 ?_;refine kT 12 ?_;refine kT 13 ?_;refine yH (i:=0) (j:=9) rfl rfl bE5 rfl rfl (λK H=>?_) (λK H=>?_)
 · have bj:=E.size;go_simp;refine ja ?_;exact uH
 exact uI):p:=h
def uP (h:p:=by
 clear E;have a6:=yD (R.out.below ai);have ay:=yD (kD.kSu a6.out (k:=k) bt);have bh:=ai.size;go_upto_region 4 with fail;by_cases bo:k < lp
 · exact uL
 exact uM):p:=h
def uQ (h:p:=by
 clear E;have a6:=yD ((aq.out.own (by have:=HM.out;unfold Big;omega)).rd);have ay:=yD (kD.kSu a6.out (k:=k) bA1);have b2:LL.length<=16777216:=bA1;go_upto_region 8 with fail;by_cases bo:k < cap
 · rcases kD.kUz aq.out with ⟨h1,h2⟩|⟨b,hb⟩
   · exact absurd bo bF2
   exact uN
 exact uO):p:=h
end Go.Proofs.YthocbplmdjkifaaGreat
