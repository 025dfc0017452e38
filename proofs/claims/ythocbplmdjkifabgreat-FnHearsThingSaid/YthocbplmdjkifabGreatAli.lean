/-
  Short names for five lemmas.
-/
import Derived.Test.YthocbplmdjkifabGreatProg
import Derived.ArgAppend
import Derived.BigQuiet
import Derived.Deep.Cut
import Derived.Deep.CutBlock
import Derived.Deep.CutRange
import Derived.Deep.MidRow
import Derived.Deep.OwnRows
import Derived.Deep.QuietTactic
import Derived.Deep.Slices
import Derived.IntWalk
import Derived.Laws.AppendOwn
import Derived.Laws.BitsLemmas
import Derived.Laws.BytesArg
import Derived.Laws.Concat
import Derived.Laws.CopyRow
import Derived.Laws.IdiomCopy
import Derived.Laws.IdiomStrings
import Derived.Lib.AppendZeros
import Derived.Lib.ConvBytes
import Derived.Lib.Hide
import Derived.Lib.ItoaNum
import Derived.OpenShut
import Derived.OrdersHeld
import Derived.OwnWalk
import Derived.ProofKit
import Derived.Shelf.Spec.SlicesInsertGrow
import Derived.StillTail
import Derived.StillTailTactics
import Derived.WalkKit
import Derived.WalkLawsBesides
import Derived.WalkSpells
set_option linter.unusedVariables false
set_option linter.defProp false
set_option linter.unusedSimpArgs false
set_option linter.unnecessarySimpa false
set_option maxRecDepth 100000
namespace Go.Proofs.YthocbplmdjkifabGreat
open Go Go.RowKit _root_.Go.Proofs.Tryz
inductive Qx (p:Prop)|k
instance {p:Prop}:CoeSort (Qx p) Prop:=⟨λ_=>p⟩
instance {p:Prop}:CoeOut (Qx p) Prop:=⟨λ_=>p⟩
inductive Qy {α:Type} (a:α)|k
instance {α:Type} {a:α}:CoeOut (Qy a) α:=⟨λ_=>a⟩
def Qa (n:Nat):Qy (some (⟨n,0,none⟩:Addr)):=.k
def Qb (w v:World):Qx (Below w.heap.size w v):=.k
def Qi (n:Int):Qx (-9223372036854775808<=n/\n<=9223372036854775807):=.k
def Qc (w:World) (b o:Nat) (v:Value):Qx (w.cell? ⟨b,o,none⟩=some v):=.k
def Qd (w u:World) (o:Nat) (v:Value):Qx (w.cell? ⟨u.heap.size,o,none⟩=some v):=.k
def Qr (w:World) (b:Nat) (c:Array Value) (t:Nat):Qx (w.heap[b]?=some (.cells c t (0,0))):=.k
def Ql (u v:World) (b:Nat):Qy (λk:Nat=>u.heap.size<=k/\k < v.heap.size/\k≠b):=.k
def Qs {α:Type} (a:Option Addr) (l:List α) (c:Nat):Qy (Value.slice a l.length c):=.k
def Qn (n:Int):Qy (Value.int .i64 n):=.k
def Q0:(!true)=false/\(!false)=true/\(∀ b:Bool,(b&&true)=b)/\(∀ b:Bool,(true&&b)=b)/\(∀ b:Bool,(b&&false)=false)/\(∀ b:Bool,(false&&b)=false)/\(∀ b:Bool,(b||true)=true)/\(∀ b:Bool,(true||b)=true)/\(∀ b:Bool,(b||false)=b)/\(∀ b:Bool,(false||b)=b)/\(∀ b:Bool,(!!b)=b):=by simp
instance:CoeOut World Nat:=⟨λw=>w.heap.size⟩
structure Hk (p:Prop):Prop where
 o:p
def Qg {p r:Prop} (k:r) (h:Hk r->p:=by intro kq;go_wp2;go_roundw;(case rel=>exact kq.o);(case measure=>simp [intOf];omega)):=h ⟨k⟩
def Q2 {A B:Prop} (a:A) (b:B):A/\B:=⟨a,b⟩
def Q3 {A B C:Prop} (a:A) (b:B) (c:C):A/\B/\C:=⟨a,b,c⟩
def Q4 {A B C D:Prop} (a:A) (b:B) (c:C) (d:D):A/\B/\C/\D:=⟨a,b,c,d⟩
def Q5 {A B C D F:Prop} (a:A) (b:B) (c:C) (d:D) (f:F):A/\B/\C/\D/\F:=⟨a,b,c,d,f⟩
def Q6 {A B C D F G:Prop} (a:A) (b:B) (c:C) (d:D) (f:F) (g:G):A/\B/\C/\D/\F/\G:=⟨a,b,c,d,f,g⟩
def Q7 {A B C D F G H:Prop} (a:A) (b:B) (c:C) (d:D) (f:F) (g:G) (h:H):A/\B/\C/\D/\F/\G/\H:=⟨a,b,c,d,f,g,h⟩
def Q8 {A B C D F G H I:Prop} (a:A) (b:B) (c:C) (d:D) (f:F) (g:G) (h:H) (i:I):A/\B/\C/\D/\F/\G/\H/\I:=⟨a,b,c,d,f,g,h,i⟩
def Q9 {A B C D F G H I J:Prop} (a:A) (b:B) (c:C) (d:D) (f:F) (g:G) (h:H) (i:I) (j:J):A/\B/\C/\D/\F/\G/\H/\I/\J:=⟨a,b,c,d,f,g,h,i,j⟩
def Qe {A B C:Type} (a:Option Addr) (c:Nat) (b:Option Addr) (d:Nat) (e:Option Addr) (f:Nat) (x:List A × List B × List C × Int × Int):Qy ([Value.slice a x.1.length c,.slice b x.2.1.length d,.slice e x.2.2.1.length f,.int .i64 x.2.2.2.1,.int .i64 x.2.2.2.2] : List Value):=.k
def Qf {A B C:Type} (a:Option Addr) (c:Nat) (b:Option Addr) (d:Nat) (e:Option Addr) (f:Nat) (x:List A × List B × List C × Int × Int):Qy (#[Value.slice a x.1.length c,.slice b x.2.1.length d,.slice e x.2.2.1.length f,.int .i64 x.2.2.2.1,.int .i64 x.2.2.2.2] : Array Value):=.k
def Qh {T0 T2 T3 T4 T5 T6:Type} (a0:Option Addr) (l0:List T0) (c0:Nat) (n1:Int) (a2:Option Addr) (l2:List T2) (c2:Nat) (a3:Option Addr) (l3:List T3) (c3:Nat) (a4:Option Addr) (l4:List T4) (c4:Nat) (a5:Option Addr) (l5:List T5) (c5:Nat) (a6:Option Addr) (l6:List T6) (c6:Nat) (n7:Int):Qy (#[Value.slice a0 l0.length c0,Value.int .i64 n1,Value.slice a2 l2.length c2,Value.slice a3 l3.length c3,Value.slice a4 l4.length c4,Value.slice a5 l5.length c5,Value.slice a6 l6.length c6,Value.int .i64 n7] : Array Value):=.k
def Qj {T0 T1 T2:Type} (a0:Option Addr) (l0:List T0) (c0:Nat) (a1:Option Addr) (l1:List T1) (c1:Nat) (a2:Option Addr) (l2:List T2) (c2:Nat) (n3:Int) (n4:Int):Qy (#[Value.slice a0 l0.length c0,Value.slice a1 l1.length c1,Value.slice a2 l2.length c2,Value.int .i64 n3,Value.int .i64 n4] : Array Value):=.k
def zA {α : Type} (l : List α) (i : Nat) (a : α) : l.toArray.setIfInBounds i a = (l.set i a).toArray := List.setIfInBounds_toArray l i a
def zB {α : Type} {x : α} {xs : List α} {a : α} : (x :: xs).set 0 a = a :: xs := rfl
def zC {α : Type} {x : α} {xs : List α} {i : Nat} {a : α} : (x :: xs).set (i + 1) a = x :: xs.set i a := rfl
def yD {p : Prop} (h : p) : Go.RowKit.Hid p := Lib.hid h
def bR {B : Nat} {w : World} : Below B w w := Below.refl B w
def nL {n : Nat} : n <= n := Nat.le_refl n
def tQ {w w1 w2 : World} (h : Below w.heap.size w w1) (k : Below w1.heap.size w1 w2) : Below w.heap.size w w2 := h.trans (k.mono h.size)
def bT : True := True.intro
variable {p q p1 p2 p3 p4 p5 p6 p7 p8 : Prop}
abbrev bQ (w : World) (v : Value) (e : Ending) (w' : World) : Prop := e = .returned v /\ Below w.heap.size w w'
def zU {b : Bool} : ((!b) = true) = (b = false) := by cases b <;> simp
def zV {b : Bool} : ((!b) = false) = (b = true) := by cases b <;> simp
def cL {w wx : World} {a : Addr} {v : Value} (hb : Below w.heap.size w wx) (h : w.cell? a = some v) : wx.cell? a = some v := cell_later hb h
def bK (h:p:=by repeat (first|(with_reducible exact bR) | refine Below.alloc ?_ (by simp;try omega) _ | refine Below.drew ?_ | refine Below.setCell ?_ (by simp;try omega) _)):=h
def bJ5 (h:p:=by omega):=h
def bI9 (h:p:=by kernel_rfl):=h
def rU (h:p:=by exact λk hk=>by have:=hk.1;have:=hk.2;omega):=h
def sD (h:p:=by exact λc a d v w h=>by cases d <;> exact h):=h
def bJ4 (h:p:=by decide):=h
def bF5 (h:p:=by simp;try omega):=h
def pJ (h:p:=by exact λj J=>⟨by have:=J.1;omega,by have:=J.2;omega⟩):=h
def qN (h:p:=by exact λk q h=>by have h1:=q.1;have h2:=q.2;omega):=h
def bA9 (h:p:=by rw [<- U];simp [go_sem]):=h
def bJ0 (h:p:=by simp;omega):=h
def bF2 (h:p:=by exact λk hk=>by omega):=h
def bJ7 (h:p:=by rfl):=h
def vD (h:p:=by exact λj J=>⟨J.1,by have:=J.2;omega⟩):=h
def bJ6 (h:p:=by simp):=h
def vE (h:p:=by exact λj J=>⟨by have:=J.1;omega,J.2⟩):=h
def gV (h:p:=by exact λj J=>⟨by have:=J.1;omega,by have:=J.2;simp [World.setCell];omega⟩):=h
def bY (h:p:=by first | omega|(simp only [List.flatten_cons,List.flatten_nil,List.length_append,List.length_cons,List.length_nil];omega)):=h
def pQ (h:p:=by exact λj h1 h2=>by have p:=h1.2;have q:=h2.1;omega):=h
def pW (h:p:=by exact λj J=>⟨by have:=J.1;have:=I.size;omega,J.2⟩):=h
def bE7 (h:p:=by unfold Big;omega):=h
def fG (h:p:=by exact λj J=>⟨by first | omega|(have:=J.1;omega),by first | omega|(have:=J.2;omega)⟩):=h
def bV (h:p:=by repeat (first|(with_reducible exact D) | refine Below.alloc ?_ (by have:=D.size;simp;try omega) _ | refine Below.drew ?_)):=h
def fB (h:p:=by exact λk q=>⟨q.1,Nat.lt_of_lt_of_le q.2.1 hb.size,Nat.ne_of_lt (by rw [bf];exact q.2.1)⟩):=h
def gJ (h:p:=by exact λj q=>⟨by have:=q.1;omega,by have:=q.2.1;simp [World.setCell];omega⟩):=h
def gG (h:p:=by exact λj h1 h2=>by simp (discharger:=(simp;omega)) only [heap_setCell_other]):=h
def bD0 (h:p:=by rw [<- G];exact sT1):=h
def gM (h:p:=by intro q;have:=q.1;first | omega|(simp at this;omega)|(simp at this)):=h
def dV (h:p:=by repeat (first|(with_reducible exact bR) | refine Below.alloc ?_ (by simp;try omega) _)):=h
def bB0 (h:p:=by rw [<- R];simp [go_sem]):=h
def wI (h:p:=by exact λk q h=>by have:=q.1;omega):=h
def qO (h:p:=by exact λj h1 h2=>by have:=h1.2.1;have:=h2.1;omega):=h
def rO (h:p:=by exact λj q=>⟨q.1,by have:=q.2.1;omega,q.2.2⟩):=h
def vN (h:p:=by exact λj h1 h2=>by have:=h1.1;omega):=h
def bM (h:p:=by exact λk q=>by rcases q with q | q | q;exact ⟨q.1,by have:=q.2;omega⟩;exact ⟨by have:=q.1;omega,by have:=q.2;omega⟩;exact ⟨by have:=q.1;omega,q.2⟩):=h
def nG (h:p:=by exact λk q=>⟨by have:=q.1;omega,q.2,by have:=q.1;omega⟩):=h
def bW (h:p:=by simp only [List.mem_cons,List.not_mem_nil,or_false] at hy;rcases hy with rfl | rfl | rfl;exact X0.2;exact X1.2;exact X2.2):=h
def mG (h:p:=by exact λj J=>⟨by have:=J.1;omega,by simpa [World.setCell] using J.2⟩):=h
def nY (h:p:=by exact λk q=>.inl (by first | exact q | exact .inl q)):=h
def wJ (h:p:=by exact λk hk=>by have:=hk.1;omega):=h
def gK (h:p:=by exact λj J=>⟨by have:=J.1;omega,by have:=J.2.1;simp [World.setCell];omega⟩):=h
def dK (h:p:=by exact λj q=>q.elim (λq=>⟨q.1,by omega,q.2.2⟩) (λq=>⟨by have:=q.1;omega,q.2,by have:=q.1;omega⟩)):=h
def gY (h:p:=by exact λk q=>⟨by have:=q.1;omega,by have:=q.2;omega,by have:=q.1;omega⟩):=h
def bB (h:p:=by exact λj q=>q.elim (λq=>⟨q.1,by have:=q.2.1;omega,q.2.2.1,(hST j).2 (.inl ⟨q.2.2.2,by have:=q.2.1;omega⟩)⟩) (λq=>⟨by have:=q.1;omega,q.2,by have:=q.1;omega,(hST j).2 (.inr ⟨q.1,q.2⟩)⟩)):=h
def vT (h:p:=by rw [<- R];exact bR.alloc nL _):=h
def bF6 (h:p:=by exact λk q=>by omega):=h
def gW (h:p:=by exact λj q=>⟨by have:=q.1;omega,by have:=q.2;simp [World.setCell];omega⟩):=h
def bP (h:p:=by exact λk q=>by rcases q with q | q;exact ⟨q.1,by have:=q.2.1;omega,q.2.2⟩;exact ⟨by have:=q.1;omega,by have:=q.2;omega,by have:=q.1;omega⟩):=h
def tO (h:p:=by exact λk hk=>⟨by omega,by simp;omega⟩):=h
def bI (h:p:=by exact λj q=>q.elim (λq=>⟨q.1,by have:=q.2.1;omega,q.2.2.1,(fv j).2 (.inl q.2.2.2)⟩) (λq=>⟨by have:=q.1;omega,q.2,by have:=q.1;omega,(fv j).2 (.inr ⟨q.1,q.2⟩)⟩)):=h
def dE (h:p:=by exact λj h1 h2=>by have:=aa.out;have:=X.out;rw [<- E];simp (discharger:=(simp;omega)) only [heap_setCell_other]):=h
def rA (h:p:=by exact λk h1 h2=>by have:=h1.2;have:=h2.1;omega):=h
def wK (h:p:=by exact λj q=>⟨q.1,by omega,q.2.2⟩):=h
def wW (h:p:=by show 1<=_;unfold Big;omega):=h
def bN (h:p:=by exact λj q=>by rcases q with q | q | q;exact ⟨q.1,by have:=q.2;omega⟩;exact ⟨by have:=q.1;omega,by have:=q.2;omega⟩;exact ⟨by have:=q.1;omega,q.2⟩):=h
def vY (h:p:=by have:=D.size;simp;try omega):=h
def bO (h:p:=by exact λj J hl=>ai j hl (by first | omega|(have h1:=J.1;have h2:=J.2;intro q;have:=q.1;have:=q.2;omega)|(intro q;have:=q.1;have:=q.2;omega))):=h
def sW (h:p:=by (try simp only);rw [jY h];exact q):=h
def bH6 (h:p:=by rw [<- U];simp):=h
def bD1 (h:p:=by have:=HL.out;omega):=h
def bH7 (h:p:=by rw [<- G];simp):=h
def bX (h:p:=by exact λj q=>⟨q.1,by have:=q.2.1;omega,λh=>((hST j).1 h).elim (λh2=>q.2.2 h2.1) (λh2=>by have:=h2.1;have:=q.2.1;omega)⟩):=h
def vU (h:p:=by rw [<- G];exact bR.alloc nL _):=h
def rC (h:p:=by have:=ae.2.2;unfold maxLen at this;omega):=h
def fI (h:p:=by simpa only [Bool.and_eq_true,decide_eq_true_eq,Bool.not_eq_true'] using hi.2):=h
def dN (h:p:=by simp [results,results12,go_sem,a9,be,bb,bd,b4,bv,b3,bx,b5,b0,c8,cz,c7,c5,c9,c4,du,dn]):=h
def mQ (h:p:=by intro q;rcases q with q | q;(have q1:=q.1;omega);omega):=h
def dR (h:p:=by simp [results,results6,go_sem,a9,be,bb,bd,b4,bv,b3,bx,b5,b0,c8,cz,c7,c5,c9,c4,du,dn]):=h
def bA (h:p:=by exact λj q=>by rcases q with q | q | q;exact ⟨q.1,by have:=q.2.1;omega,q.2.2⟩;exact ⟨by have:=q.1;omega,by have:=q.2;omega,λh=>by have:=hd j h;have:=q.1;omega⟩;exact ⟨by have:=q.1;omega,q.2,λh=>by have:=hd j h;have:=q.1;omega⟩):=h
def dC (h:p:=by exact λj q=>⟨q.1,by have:=q.2.1;omega,λh=>((fv j).1 h).elim q.2.2 (λh2=>by have:=h2.1;have:=q.2.1;omega)⟩):=h
def wM (h:p:=by show w.heap.size < _;omega):=h
def gN (h:p:=by simp [results,results157,go_sem,ae,au,aw,av,bh,be,bj,bi,bt,bp]):=h
def sP (h:p:=by unfold Addr.add;split <;> simp_all):=h
def gZ (h:p:=by exact λk q=>⟨by have:=q.1;omega,by have:=q.2;omega,by have:=q.2;omega⟩):=h
def bA0 (h:p:=by exact λk q=>by have:=q.1;omega):=h
def dM (h:p:=by exact λj h1 h2=>by have:=aa.out;rw [<- E];simp (discharger:=(simp;omega)) only [heap_setCell_other]):=h
def vZ (h:p:=by rw [<- U];exact kg (by simp)):=h
def dO (h:p:=by exact λj q=>by rcases q with q | q | q <;> (have q1:=q.1;have q2:=q.2;(try have q3:=q2.1);omega)):=h
def bC (h:p:=by exact λj q=>q.elim (λq=>⟨q.1,by have:=q.2.1;omega,q.2.2.1,(hl j).2 (.inl ⟨q.2.2.2,by have:=q.2.1;omega⟩)⟩) (λq=>⟨by have:=q.1;omega,q.2,by have:=q.1;omega,(hl j).2 (.inr ⟨q.1,q.2⟩)⟩)):=h
def wO (h:p:=by first | omega|(simp;omega)):=h
def gL (h:p:=by rw [L.out];first | rfl|(simp;done)|(rw [Bool.eq_iff_iff];simp;omega)):=h
def tT (h:p:=by rw [<- G];exact jJ (jJ (kg rfl))):=h
def nZ (h:p:=by exact λj J=>⟨J.1,by simpa [World.setCell] using J.2⟩):=h
def gX (h:p:=by simp [results,results82,go_sem,ae,au,aw,av,bh,be,bj,bi,bt,bp]):=h
def fA (h:p:=by exact λk q=>⟨by have:=q.1;omega,by have:=q.2;omega,by have:=q.1;omega,by have:=q.1;omega⟩):=h
def vG (h:p:=by first | omega|(simp;try omega)):=h
def rP (h:p:=by exact λk q=>⟨q.1,by have:=q.2.1;omega,q.2.2⟩):=h
def bH8 (h:p:=by simpa using h):=h
def fD (h:p:=by show (xc,kFh xc (kBk y0 xe)++[((y0,y1,y2,y3,y4),t)])=_;rw [HK.out,dn.out,HZ.out]):=h
def rV (h:p:=by simp [results,results295,go_sem]):=h
def rW (h:p:=by simp [results,results292,go_sem]):=h
def dD (h:p:=by exact λk q=>by rcases q with q | q;exact ⟨q.1,by have:=q.2;omega⟩;exact ⟨by have:=q.1;omega,by have:=q.2;omega⟩):=h
def vV (h:p:=by rw [<- U];exact bR.alloc nL _):=h
def bJ (h:p:=by exact λk q=>by rcases q with q | q | q;exact ⟨q.1,by have:=q.2;omega⟩;exact ⟨by have:=q.1;omega,by have:=q.2;omega⟩;exact ⟨by have:=q.1;(try simp at this);omega,q.2⟩):=h
def nH (h:p:=by simp [results,results248,go_sem,ae,aw,au,av]):=h
def bL (h:p:=by exact λj q=>by rcases q with q | q | q;exact ⟨by have:=q.1;omega,by have:=q.2;omega⟩;exact ⟨by have:=q.1;omega,by have:=q.2;omega⟩;exact ⟨by have:=q.1;omega,q.2⟩):=h
def bA1 (h:p:=by exact λj q=>by have:=q.1;omega):=h
def vH (h:p:=by exact λj q=>⟨by have:=q.1;omega,q.2⟩):=h
def fM (h:p:=by rw [d8.out];exact ae.out.wide (λj q=>⟨q.1,by have:=q.2.1;omega,q.2.2⟩)):=h
def bF7 (h:p:=by simpa using hz):=h
def rQ (h:p:=by first | omega|(simp;done)|(simp;omega)):=h
def pK (h:p:=by exact λk q=>⟨by have:=q.1;omega,by have:=q.2;omega⟩):=h
def rX (h:p:=by simp [results,results120,go_sem]):=h
def bC7 (h:p:=by unfold maxLen;omega):=h
def bH9 (h:p:=by simpa using J):=h
def dS (h:p:=by split <;> (try simp only [List.length_append,List.length_cons,List.length_nil]) <;> omega):=h
def vI (h:p:=by exact λj q=>⟨q.1,by have:=q.2;omega⟩):=h
def bD2 (h:p:=by have:=D.size;omega):=h
def sQ (h:p:=by exact λq=>by simp at q;simpa using hne q):=h
def bS (h:p:=by simpa [kGs] using O0.wide (T:=jW w (w.alloc (.cells #[.int .i64 (l.length:Int)] 3)).heap.size) (λk hk=>⟨by omega,by simp;omega⟩)):=h
def bB1 (h:p:=by exact λq=>by have:=q.1;omega):=h
def nI (h:p:=by simp [results,results156,go_sem,ae,aw,au,av]):=h
def nP (h:p:=by exact λk q1 q2=>by have h1:=q1.2.1;have h2:=q2.1;omega):=h
def rH (h:p:=by match c0,l0 with | [D],_=>exact ⟨_,rfl⟩):=h
def bU (h:p:=by exact λj q=>q.elim (λq=>⟨q.1,by omega,q.2.2⟩) (λq=>by have:=hq j q;exact ⟨by have:=this.1;omega,this.2,by have:=this.1;omega⟩)):=h
def bD3 (h:p:=by have:=ak.out;omega):=h
def bD4 (h:p:=by rw [<- G];exact sT5):=h
def bI0 (h:p:=by simpa using q):=h
def tV (h:p:=by rw [h];exact Bool.false_ne_true):=h
def bZ (h:p:=by exact λk q h=>by first|(have h1:=sA k q;have h2:=h1.1;have h3:=h1.2;omega)|(have h1:=sB k q;have h2:=h1.1;have h3:=h1.2;omega)):=h
def cB (h:p:=by exact λj q=>⟨q.1,by have:=q.2.1;omega,λh=>((hl j).1 h).elim (λh2=>q.2.2 h2.1) (λh2=>by have:=h2.1;have:=q.2.1;omega)⟩):=h
def fH (h:p:=by rw [ByteArray.size_append];have:({ data:=#[47] }:ByteArray).size=1:=rfl;omega):=h
def vJ (h:p:=by first|(simp;done)|(simp;omega)):=h
def vK (h:p:=by exact λk q=>⟨q.1,by have:=q.2;omega⟩):=h
def bA3 (h:p:=by exact λq=>E (by simpa using q)):=h
def cO (h:p:=by rw [<- fo];have h1:=kQt f (y0,y1,y2,y3,y4) (R.take k);have h2:(R.take k).length<=k:=List.length_take_le _ _;omega):=h
def bF8 (h:p:=by simpa using hp):=h
def cZ (h:p:=by have h_:=kSi (now:=now) (x:=(x0,(xc,xe),x2,x3,x4,x5,x6)) (k:=k) hlt;rw [<- L.out] at h_;rw [<- HP.out];exact h_):=h
def rD (h:p:=by exact λj h1 h2=>by have:=h1.2;have:=h2.1;omega):=h
def rE (h:p:=by exact λk q1 q2=>by have:=q1.2;have:=q2.1;omega):=h
def rF (h:p:=by rw [getD_replicate_false] at hl;cases hl):=h
def dA (h:p:=by exact λj q=>q.elim (λq=>⟨q.1,by have:=q.2.1;omega,q.2.2⟩) (λq=>⟨by have:=q.1;omega,q.2,by have:=q.1;omega⟩)):=h
def dB (h:p:=by intro c hc;simp only [List.mem_cons,List.not_mem_nil,or_false] at hc;rcases hc with rfl | rfl | rfl <;> rfl):=h
def rJ (h:p:=by match c1,l1 with | [E],_=>exact ⟨_,rfl⟩):=h
def dF (h:p:=by have h1:=jFo (now:=now) (x:=(x0,(xc,xe),x2,x3,x4,x5,x6)) (k:=k);rw [<- L.out] at h1;simp only at h1;omega):=h
def gP (h:p:=by simp [results,results159,go_sem,a9,be,bb,bd,b4,bv,b3,bx,b5,b0]):=h
def dG (h:p:=by exact λj h1 h2=>by have q1:=h2.1;have q2:=h2.2;rcases h1 with h1 | h1;(have:=h1.2;omega);(have:=h1.1;omega)):=h
def rY (h:p:=by simp [results,results121,go_sem]):=h
def dH (h:p:=by repeat (first|(with_reducible exact bR) | refine Below.alloc ?_ (by have:=E1.size;simp;try omega) _)):=h
def bF9 (h:p:=by simpa using hl):=h
def bB8 (h:p:=by rw [h] at hr;cases hr):=h
def mD (h:p:=by exact λj q=>⟨by have:=q.1;omega,by have:=q.2;omega,by have:=q.2;omega⟩):=h
def bD5 (h:p:=by have:=HM.out;omega):=h
def dI (h:p:=by exact λj h1 h2=>by have p1:=h1.1;have p2:=h1.2;simp (discharger:=(simp;omega)) only [heap_setCell_other]):=h
def vO (h:p:=by rw [<- E];simp [World.setCell]):=h
def dJ (h:p:=by rw [L.out];have:=ak.out;have:=HK.out;have:=HR.out;simp only [List.length_append];unfold Big;omega):=h
def dL (h:p:=by intro c hc;simp only [List.mem_cons,List.not_mem_nil,or_false] at hc;rcases hc with rfl <;> rfl):=h
def vW (h:p:=by rw [ag,h3,Nat.add_mul];omega):=h
def mI (h:p:=by simp [results,results44,go_sem,ae,au,aw,av,bh,be,bj,bi]):=h
def pX (h:p:=by simp [results,results280,go_sem,K2,F2]):=h
def pY (h:p:=by simp [results,results228,go_sem,K2,F2]):=h
def dQ (h:p:=by exact λj J=>by rcases J with J | J;exact ⟨J.1,by have:=J.2;omega⟩;exact ⟨by have:=J.1;omega,J.2⟩):=h
def bB2 (h:p:=by rw [<- G];exact kG BO 1):=h
def bB3 (h:p:=by rw [<- G];exact kG BO 4):=h
def dU (h:p:=by rw [ByteArray.size_append];have:({ data:=#[47,107,101,121] }:ByteArray).size=4:=rfl;omega):=h
def tJ (h:p:=by rw [L.out];simp;unfold Big;omega):=h
def tK (h:p:=by rw [h3];exact Bool.false_ne_true):=h
def bD6 (h:p:=by rw [<- G];exact sT2):=h
def bB9 (h:p:=by rw [List.take_length]):=h
def dX (h:p:=by simp [results,results216,go_sem,R0,F0,R1,F1,R2,F2,R3,F3,R4,F4,R5,F5,R6,F6,R7,F7]):=h
def bI1 (h:p:=by simp [go_sem]):=h
def rG (h:p:=by exact λk q=>by have h1:=q.1;have h2:=q.2;omega):=h
def dZ (h:p:=by exact λj q=>by rcases q with q | q | q <;> (have:=q.1;have:=q.2;exact ⟨by omega,by omega⟩)):=h
def bE5 (h:p:=by rw [L.out,hv];rfl):=h
def fC (h:p:=by exact λj q=>by have:=hSB j q;exact ⟨by have:=this.1;omega,this.2,by have:=this.1;omega⟩):=h
def bG0 (h:p:=by simpa using hc):=h
def bG1 (h:p:=by simpa using h0):=h
def bG2 (h:p:=by simpa using az):=h
def fE (h:p:=by exact λj h1 h2=>by rw [<- E];simp (discharger:=(simp;omega)) only [heap_setCell_other]):=h
def bA5 (h:p:=by have:=HN.out;simp;omega):=h
def bC8 (h:p:=by rw [L.out];exact bm):=h
def bE8 (h:p:=by rw [HD.out];simp):=h
def bB4 (h:p:=by exact λ_=>by rw [HK.out];rfl):=h
def bI2 (h:p:=by rw [<- R];simp):=h
def bB5 (h:p:=by rw [<- G];exact kG BO 6):=h
def wF (h:p:=by rw [List.length_take];omega):=h
def sM (h:p:=by exact λk hk=>by have:=I.2.size.size;omega):=h
def nQ (h:p:=by simp [results,results52,go_sem,a9,be,bb,bd]):=h
def nR (h:p:=by simp [results,results38,go_sem,a9,be,bb,bd]):=h
def bC1 (h:p:=by simp;unfold Big;omega):=h
def sS (h:p:=by rw [List.length_append];exact hlen):=h
def fQ (h:p:=by exact λj=>by have:=ho (j + 1);simpa [Nat.add_assoc,Nat.add_comm 1 j] using this):=h
def fT (h:p:=by exact λi=>by have:=ho (i + 1);simpa [Nat.add_assoc,Nat.add_comm 1 i] using this):=h
def gB (h:p:=by simpa only [Bool.and_eq_true,decide_eq_true_eq,Bool.not_eq_true'] using L):=h
def pE (h:p:=by exact λk q h=>by have h1:=q.2.1;have h2:=q.2.2;omega):=h
def gF (h:p:=by exact λk q=>by rcases q with q | q;exact q;exact ⟨by omega,by omega,by omega⟩):=h
def sZ (h:p:=by exact λk hk=>⟨by have:=hk.1;omega,hk.2⟩):=h
def tC (h:p:=by rw [a5.out,<- bg.out];exact HF.out):=h
def gH (h:p:=by exact λk q=>⟨by have:=q.1.1;omega,by have:=q.1.2;omega,by have:=q.1.1;omega⟩):=h
def gI (h:p:=by rw [<- List.eraseIdx_eq_take_drop_succ];exact List.eraseIdx_sublist _ _):=h
def bE9 (h:p:=by exact λk q h=>by omega):=h
def qA (h:p:=by exact λj J=>⟨by have:=J.1;simp at this;omega,J.2⟩):=h
def qB (h:p:=by rw [List.length_append,HK.out,HR.out];omega):=h
def gQ (h:p:=by simp [results,results158,go_sem,ae,au,aw,av,bh,be,bj,bi,bt,bp]):=h
def qC (h:p:=by simp [results,results222,go_sem,KR,FR]):=h
def qD (h:p:=by exact λj J=>⟨by have:=J.1;have:=D.size;omega,J.2⟩):=h
def gT (h:p:=by have h2:=kAe (p:=λz=>!(z==ex)) (l:=F) (k:=k) hk;unfold Big;omega):=h
def tX (h:p:=by (try simp only);rw [jY h,q];rfl):=h
def gU (h:p:=by exact λj J=>⟨by have h1:=J.1;have h2:=E1.size;(try simp at h1);omega,J.2⟩):=h
def tY (h:p:=by rw [<- G];exact kG (kG (BO) 1) 2):=h
def qP (h:p:=by rw [List.length_append,HK.out,R.out];omega):=h
def vL (h:p:=by exact λk h=>⟨h.1,by have:=h.2;omega⟩):=h
def vM (h:p:=by have:=List.mem_range.1 J;omega):=h
def qX (h:p:=by rw [L.out,List.length_append,<- I.out];rfl):=h
def bD7 (h:p:=by rw [<- G];exact sT8):=h
def mE (h:p:=by (first | rw [kWn hN] | rw [kWo hN]);first | rfl|(rw [I.out];rfl)):=h
def bD8 (h:p:=by simpa using hB.1.1):=h
def vP (h:p:=by have:=du.out;unfold Big;omega):=h
def vQ (h:p:=by simp only [List.append_assoc]):=h
def bG3 (h:p:=by simpa using hk):=h
def mH (h:p:=by simp [results,results103,go_sem,ae,aw,bh,bj,au,av,be,bi]):=h
def rM (h:p:=by match c2,l2 with | [J],_=>exact ⟨_,rfl⟩):=h
def mJ (h:p:=by rw [L.out,<- HP.out,HV.out];try simp only [List.append_assoc]):=h
def rR (h:p:=by exact λk q=>by rcases q with q | q <;> omega):=h
def mK (h:p:=by have:=W.out;unfold Big;simp only [List.length_append];omega):=h
def wP (h:p:=by rw [<- U];exact jJ (kg rfl)):=h
def wR (h:p:=by exact λi hi=>by have:=hi.1;omega):=h
def mM (h:p:=by have h1:=kAe (p:=kNs n l) (l:=l) (k:=k) hk;rw [kJs];omega):=h
def sG (h:p:=by exact λk hk=>⟨.inl hk.1,λh=>by cases h⟩):=h
def sI (h:p:=by exact λq=>by rcases q with q | q <;> omega):=h
def mO (h:p:=by have:=HX.out.2.2.1.1;exact Nat.le_trans this (by decide)):=h
def mP (h:p:=by exact λj J=>J.elim .inl (λh=>.inr ⟨by have:=h.1;omega,h.2⟩)):=h
def wX (h:p:=by exact λy hy=>h y (by simp [hy])):=h
def sN (h:p:=by rw [ByteArray.size_append,be];omega):=h
def sO (h:p:=by rw [L.out];unfold kGy;simp [hg,hne]):=h
def mR (h:p:=by show (kOf l n fs).length<=Big;rw [kQl];unfold Big;omega):=h
def sU (h:p:=by rw [this];exact Bool.false_ne_true):=h
def mU (h:p:=by exact λk q=>⟨by have:=q.1;omega,by have:=q.2.1;omega,q.2.2⟩):=h
def bD9 (h:p:=by rw [<- G];exact sT4):=h
def bE0 (h:p:=by have:=HN.out;omega):=h
def bG4 (h:p:=by rw [E.out];rfl):=h
def mW (h:p:=by rw [g1,List.append_assoc,List.take_append_drop,<- g2]):=h
def bG5 (h:p:=by simpa using fn):=h
def mY (h:p:=by rw [<- G];exact kG (kG (kG (kG (kG (BX) 0) 1) 2) 3) 4):=h
def mZ (h:p:=by simp only [ByteArray.size_extract];unfold Big;omega):=h
def nC (h:p:=by rw [L.out,List.length_append];unfold Big;simp;omega):=h
def bA6 (h:p:=by have:=a7.out;simp;omega):=h
def bA7 (h:p:=by simpa using (ho 0).symm):=h
def tL (h:p:=by rw [<- U];exact jJ (kg (by simp))):=h
def tN (h:p:=by rw [<- V];exact jJ (kg (by simp))):=h
def nD (h:p:=by exact λj J=>⟨by have:=J.1;omega,by have:=J.2;simp;omega⟩):=h
def nE (h:p:=by have:=(Array.getElem?_eq_some_iff.1 H.out).1;omega):=h
def tZ (h:p:=by rw [<- U];exact jJ (jJ (kg rfl))):=h
def vB (h:p:=by rw [<- V];exact jJ (jJ (kg rfl))):=h
def nJ (h:p:=by exact λy hy=>by rw [List.mem_singleton.1 hy];exact hx.2):=h
def nK (h:p:=by simp [results,results250,go_sem,M0,M1,F0,F1]):=h
def nM (h:p:=by exact λj h1 h2=>by have:=h1.2.1;have:=(hq j h2).1;omega):=h
def nN (h:p:=by exact λj q=>⟨by have:=q.1;omega,q.2,by have:=q.2;omega⟩):=h
def nO (h:p:=by simp [results,results258,go_sem,a9,be,bb,bd]):=h
def vC (h:p:=by have:=co.out;simp at this;omega):=h
def bB6 (h:p:=by rw [<- G];exact kG BO 3):=h
def nS (h:p:=by first | exact HB.out | exact hi_byte0 (by omega)):=h
def nT (h:p:=by intro y hy;rw [List.mem_singleton.1 hy];exact hb):=h
def nU (h:p:=by have h1:=c7.out;have h2:=ak.out;simp at h1;omega):=h
def nV (h:p:=by have:=kHm s.length;rw [List.length_append];omega):=h
def nW (h:p:=by have:=kQi y0 x3 (R.take k);rw [hs] at this;omega):=h
def bC2 (h:p:=by rw [<- G];exact kG B 1):=h
def bC3 (h:p:=by rw [<- G];exact kG B 0):=h
def vR (h:p:=by rw [eh.out,b0.out];simp;omega):=h
def pF (h:p:=by rw [ch.out];simp only [encS,List.append_assoc]):=h
def pG (h:p:=by rw [al.out];simp;have:=ak.out;unfold Big;omega):=h
def pI (h:p:=by exact λq hq=>⟨by have:=hq.1;have:=G.size;omega,hq.2⟩):=h
def vS (h:p:=by rw [<- bf];exact bR.alloc nL _):=h
def bC4 (h:p:=by simpa [Big] using hb):=h
def bC5 (h:p:=by rw [HQ.out];exact hk):=h
def pO (h:p:=by have q:=kD.kNo ae.out aq;rw [ar] at q;exact q):=h
def vX (h:p:=by show 1<=_;unfold maxLen;omega):=h
def bJ2 (h:p:=by simp [hy]):=h
def bJ3 (h:p:=by simp [hp]):=h
def pR (h:p:=by exact λj J=>⟨by have:=J.1;have:=af.size;omega,J.2⟩):=h
def pU (h:p:=by exact λj J=>⟨J.1,by have:=J.2;have:=ag.size;omega⟩):=h
def pV (h:p:=by exact λj J=>⟨J.1,by have:=J.2;have:=b9.size;omega⟩):=h
def qF (h:p:=by rw [HQ.out.1];have:=b5.out;unfold Big;omega):=h
def wG (h:p:=by exact λx hx=>hlt x (by simp [hx])):=h
def qG (h:p:=by simp [results,results106,go_sem,R0,F0]):=h
def wH (h:p:=by rw [<- V];exact kg (by simp)):=h
def qH (h:p:=by have:=kD.kEl (by decide) Y;unfold Big;omega):=h
def qI (h:p:=by rw [List.take_length,kVd,List.append_assoc]):=h
def qJ (h:p:=by exact λj J=>⟨J.1,by have:=J.2;have:=Z.size;omega⟩):=h
def qK (h:p:=by obtain ⟨a,c,h⟩:=kD.ko.zK hQ;exact ⟨a,_,c,h⟩):=h
def qL (h:p:=by rw [<- fo];exact Nat.le_trans (kQt _ _ _) h7):=h
def bC9 (h:p:=by rw [inv.size];omega):=h
def qM (h:p:=by have q:=kD.kNo ae.out Z;rw [U] at q;exact q):=h
def bG6 (h:p:=by simpa using h1):=h
def bG7 (h:p:=by simpa using hf):=h
def bG8 (h:p:=by simpa using ht):=h
def bG9 (h:p:=by simpa using hr):=h
def bH0 (h:p:=by rw [hB.1];simp):=h
def qQ (h:p:=by exact λk hk=>by rcases hk with hk | hk <;> omega):=h
def qR (h:p:=by rw [<- HP.out,HV.out,List.append_assoc];rfl):=h
def qU (h:p:=by simp [results,results53,go_sem,R0,F0]):=h
def qV (h:p:=by simp [results,results39,go_sem,R0,F0]):=h
def qW (h:p:=by have:=kSw (l:=t.1) (n:=n);unfold Big;omega):=h
def wV (h:p:=by exact λk q=>by have:=q.1.1;omega):=h
def qY (h:p:=by first | exact HB.out|(simp only [HB.out])):=h
def qZ (h:p:=by rw [Nat.mul_comm];rwa [Nat.pow_succ] at h):=h
def bE1 (h:p:=by rw [<- g0];exact h0):=h
def bE2 (h:p:=by have:=ae.2.1;omega):=h
def bI3 (h:p:=by rw [<- V];simp):=h
def wY (h:p:=by rw [ag,Nat.add_mul];omega):=h
def wZ (h:p:=by rw [L.out];simp;try omega):=h
def bE6 (h:p:=by rw [L.out,hh];rfl):=h
def bA4 (h:p:=by exact λq=>by have:=q.1.1;omega):=h
def rT (h:p:=by match c3,Y with | [W],_=>exact ⟨_,rfl⟩):=h
def bI6 (h:p:=by exact λq=>by omega):=h
def bF0 (h:p:=by simpa using hlen):=h
def bF1 (h:p:=by simp at hk;omega):=h
def bA8 (h:p:=by rw [<- bf];simp [go_sem]):=h
def sK (h:p:=by rw [<- G];exact jJ (jJ (jJ (kg rfl)))):=h
def bB7 (h:p:=by rw [L.out];exact I.out):=h
def bF3 (h:p:=by rw [L.out];simp):=h
def bF4 (h:p:=by simp only;omega):=h
def bI7 (h:p:=by rw [HD.out]):=h
def sV (h:p:=by exact λj q=>⟨by omega,by omega,by omega⟩):=h
def bH1 (h:p:=by rw [hv,hi];rfl):=h
def bH2 (h:p:=by rw [an,a9];rfl):=h
def bH3 (h:p:=by simpa using h3):=h
def bH4 (h:p:=by simpa using hv):=h
def bH5 (h:p:=by simpa using cd):=h
def bJ1 (h:p:=by simp [Big]):=h
def bI4 (h:p:=by simp [kIj,hq]):=h
def bI5 (h:p:=by simpa using D):=h
def bE3 (h:p:=by have:=al.out;omega):=h
def bE4 (h:p:=by have:=co.out;omega):=h
def bI8 (h:p:=by rw [b1.out]):=h
def aA (a1:p1)(a2:p2)(a3:p3)(k:q) (h:p1->p2->p3->Hk q->p:=by
 intro BX hb BT kq;replace BX:=kC BX hb;replace BT:=kC BT hb;exact kq.o BX BT):=h a1 a2 a3 ⟨k⟩
def aB (a1:p1)(a2:p2)(a3:p3)(a4:p4)(k:q) (h:p1->p2->p3->p4->Hk q->p:=by
 intro BX hb BD BR kq;replace BX:=kC BX hb;replace BD:=kC BD hb;replace BR:=kC BR hb;exact kq.o BX BD BR):=h a1 a2 a3 a4 ⟨k⟩
def aC (a1:p1)(a2:p2)(a3:p3)(a4:p4)(k:q) (h:p1->p2->p3->p4->Hk q->p:=by
 intro XO hb TO YO kq;refine MR XO λXO=>?_;refine MR TO λTO=>?_;refine MR YO λYO=>?_;exact kq.o XO TO YO):=h a1 a2 a3 a4 ⟨k⟩
def aD (a1:p1)(a2:p2)(a3:p3)(k:q) (h:p1->p2->p3->Hk q->p:=by
 intro RB hb HQ kq;refine MR RB λRB=>?_;refine MR HQ λHQ=>?_;exact kq.o RB HQ):=h a1 a2 a3 ⟨k⟩
def aF (a1:p1)(a2:p2)(a3:p3)(a4:p4)(a5:p5)(k:q) (h:p1->p2->p3->p4->p5->Hk q->p:=by
 intro XO I TO YO NO kq;replace XO:=yD (XO.below I);replace TO:=yD (TO.below I);replace YO:=yD (YO.below I);replace NO:=yD (NO.below I);exact kq.o XO TO YO NO):=h a1 a2 a3 a4 a5 ⟨k⟩
def aG (a1:p1)(a2:p2)(a3:p3)(a4:p4)(k:q) (h:p1->p2->p3->p4->Hk q->p:=by
 intro hb BD BR BO kq;replace BX:=kC BX hb;replace BD:=kC BD hb;replace BR:=kC BR hb;replace BO:=kC BO hb;exact kq.o BX BD BR BO):=h a1 a2 a3 a4 ⟨k⟩
def aH (a1:p1)(k:q) (h:p1->Hk q->p:=by
 intro F kq;obtain ⟨oa,on,oc,ho,ak⟩:=F.parts;exact kq.o oa on oc ho ak):=h a1 ⟨k⟩
def aI (a1:p1)(k:q) (h:p1->Hk q->p:=by
 intro hb kq;refine MR F λF=>?_;exact kq.o F):=h a1 ⟨k⟩
def aJ (a1:p1)(a2:p2)(a3:p3)(a4:p4)(k:q) (h:p1->p2->p3->p4->Hk q->p:=by
 intro D Y K1 K2 kq;replace Y:=cL D Y;replace K1:=cL D K1;replace K2:=cL D K2;exact kq.o Y K1 K2):=h a1 a2 a3 a4 ⟨k⟩
def aK (a1:p1)(a2:p2)(a3:p3)(k:q) (h:p1->p2->p3->Hk q->p:=by
 intro BT BX F kq;replace BT:=kC BT hb;replace BX:=kC BX hb;refine MR F λF=>?_;exact kq.o BT BX F):=h a1 a2 a3 ⟨k⟩
def aL (a1:p1)(a2:p2)(a3:p3)(k:q) (h:p1->p2->p3->Hk q->p:=by
 intro D Y K1 kq;replace Y:=cL D Y;replace K1:=cL D K1;exact kq.o Y K1):=h a1 a2 a3 ⟨k⟩
def aM (a1:p1)(k:q) (h:p1->Hk q->p:=by
 intro HV kq;refine LD HV λa1 n1 c1 an a5=>?_;exact kq.o a1 n1 c1 an a5):=h a1 ⟨k⟩
def aN (a1:p1)(a2:p2)(k:q) (h:p1->p2->Hk q->p:=by
 intro hl hn kq;have HL:=yD hl;have HN:=yD hn;exact kq.o HL HN):=h a1 a2 ⟨k⟩
def aO (h:p:=by
 refine LD L λa3 n3 c3 ar ba=>?_;exact L8):=h
def aP (h:p:=by
 obtain ⟨a3,n3,c3,ar,ba⟩:=L.parts;exact L8):=h
def aQ (k:q) (h:Hk q->p:=by
 intro kq;rintro e w9 ⟨v9,rfl,O9,H⟩;obtain ⟨a9,n9,c9,bb,I⟩:=O9.parts;obtain rfl:=bb;exact kq.o w9 H a9 n9 c9 I O9):=h ⟨k⟩
def aR (a1:p1)(a2:p2)(a3:p3)(k:q) (h:p1->p2->p3->Hk q->p:=by
 intro D R B kq;replace R:=D.kC R bJ5;replace B:=D.kC B bJ5;exact kq.o R B):=h a1 a2 a3 ⟨k⟩
def aS (a1:p1)(a2:p2)(k:q) (h:p1->p2->Hk q->p:=by
 intro BT F kq;replace BT:=kC BT hb;refine MR F λF=>?_;exact kq.o BT F):=h a1 a2 ⟨k⟩
def aT (h:p:=by
 refine LD L λa3 n3 c3 ar ba=>?_;exact LA):=h
def aU (h:p:=by
 by_cases hp:p x[k]=true
 · rw [hp] at C;have HC:=yD C;clear C;have L:=yD (idxOf_hit hlt hp HN.out);clear hp;go_wp2_with fail;refine HC.mono ?_;rintro e w1 ⟨rfl,O⟩;go_wp2;go_ret;exact ⟨jS L.symm,(tQ D O)⟩
 have hp:p x[k]=false:=bF8;rw [hp] at C;have HC:=yD C;clear C;have L:=yD (kAl hlt hp HN.out);clear hp;go_wp2_with fail;refine HC.mono ?_;rintro e w1 ⟨rfl,O⟩;refine Qg ?_;exact ⟨k + 1,by omega,by go_num,L.out,(tQ D O)⟩):=h
def aV (a1:p1)(a2:p2)(k:q) (h:p1->p2->Hk q->p:=by
 intro H hb kq;refine SK H hb λH I=>?_;exact kq.o H I):=h a1 a2 ⟨k⟩
def aW (k:q) (h:Hk q->p:=by
 intro kq;refine jD ?_;refine SY λt3 a7 a2 n2 c2 a6 I HV K E=>?_;exact kq.o t3 a7 a2 n2 c2 a6 I HV K E):=h ⟨k⟩
def aX (k:q) (h:Hk q->p:=by
 intro kq;refine jD ?_;refine MQ λK E v2 t3 hr L O a7=>?_;refine LD L λa2 n2 c2 a9 a6=>?_;obtain rfl:=a9;replace I:=I.trans O;have G:=L;have HV:=G;clear L G;refine E _ _ I ?_;clear hr O;refine MN λK E=>?_;exact kq.o t3 a7 a2 n2 c2 a6 I HV K E):=h ⟨k⟩
def aY (a1:p1)(a2:p2)(a3:p3)(k:q) (h:p1->p2->p3->Hk q->p:=by
 intro F hb HQ kq;refine MR F λF=>?_;refine MR HQ λHQ=>?_;replace H:=(tQ H hb);exact kq.o F HQ H):=h a1 a2 a3 ⟨k⟩
def aZ (h:p:=by
 obtain ⟨a3,n3,c3,ar,ba⟩:=L.parts;exact LA):=h
def bE (a1:p1)(k:q) (h:p1->Hk q->p:=by
 intro hb kq;refine LG hb λI=>?_;exact kq.o I):=h a1 ⟨k⟩
def bF (k:q) (h:Hk q->p:=by
 intro kq;refine SY λt3 a7 a2 n2 c2 a6 I HV K E=>?_;exact kq.o t3 a7 a2 n2 c2 a6 I HV K E):=h ⟨k⟩
def bG (k:q) (h:Hk q->p:=by
 intro kq;refine MQ λK E v2 t3 hr L O a7=>?_;refine LD L λa2 n2 c2 a9 a6=>?_;obtain rfl:=a9;replace I:=I.trans O;have G:=L;have HV:=G;clear L G;refine E _ _ I ?_;clear hr O;refine MN λK E=>?_;exact kq.o t3 a7 a2 n2 c2 a6 I HV K E):=h ⟨k⟩
def bH (a1:p1)(a2:p2)(k:q) (h:p1->p2->Hk q->p:=by
 intro HQ hb kq;refine MR HQ λHQ=>?_;replace H:=(tQ H hb);exact kq.o HQ H):=h a1 a2 ⟨k⟩
def cK (a1:p1)(a2:p2)(a3:p3)(k:q) (h:p1->p2->p3->Hk q->p:=by
 intro HZ hb TE kq;refine MR HZ λHZ=>?_;replace hc:=hc.below hb;refine OU TE λTE=>?_;clear hb;exact kq.o HZ hc TE):=h a1 a2 a3 ⟨k⟩
def dP (a1:p1)(a2:p2)(a3:p3)(k:q) (h:p1->p2->p3->Hk q->p:=by
 intro av BD BR kq;replace BX:=av.kC BX bJ5;replace BD:=av.kC BD bJ5;replace BR:=av.kC BR bJ5;exact kq.o BX BD BR):=h a1 a2 a3 ⟨k⟩
def dW (a1:p1)(a2:p2)(a3:p3)(a4:p4)(k:q) (h:p1->p2->p3->p4->Hk q->p:=by
 intro az BX R HL kq;replace BX:=az.kC BX bJ5;replace R:=az.kC R bJ5;replace HL:=yD (HL.touch az rU);exact kq.o BX R HL):=h a1 a2 a3 a4 ⟨k⟩
def dY (k:q) (h:Hk q->p:=by
 intro kq;refine LU λt1 hb bv b0 bw bb al bh=>?_;exact kq.o t1 hb bv b0 bw bb al bh):=h ⟨k⟩
def eB (a1:p1)(k:q) (h:p1->Hk q->p:=by
 intro hb kq;replace hc:=hc.below hb;refine OU TE λTE=>?_;clear hb;exact kq.o hc TE):=h a1 ⟨k⟩
def eD (k:q) (h:Hk q->p:=by
 intro kq;rintro e wT ⟨tc,rfl,OT,ba⟩;exact kq.o wT tc OT ba):=h ⟨k⟩
def eF (a1:p1)(a2:p2)(k:q) (h:p1->p2->Hk q->p:=by
 intro hb TE kq;replace hc:=hc.below hb;refine OU TE λTE=>?_;exact kq.o hc TE):=h a1 a2 ⟨k⟩
def eG (a1:p1)(k:q) (h:p1->Hk q->p:=by
 intro R kq;have cv:=hb.size;replace R:=kC R hb;exact kq.o cv R):=h a1 ⟨k⟩
def eH (a1:p1)(a2:p2)(a3:p3)(k:q) (h:p1->p2->p3->Hk q->p:=by
 intro az R F kq;replace R:=az.kC R bJ5;replace F:=yD (F.touch az rU);exact kq.o R F):=h a1 a2 a3 ⟨k⟩
def eO (k:q) (h:Hk q->p:=by
 intro kq;replace TE:=TE.trans D;have hc:=N;exact kq.o TE hc):=h ⟨k⟩
def eP (k:q) (h:Hk q->p:=by
 intro kq;go_simp;have HL:Hid (Cg.own (World.alloc W (.cells #[.string { data:=#[47,107,101,121,47,97] },.string { data:=#[47,107,101,121,47,98] },.string { data:=#[47,97,47,107,101,121] }] 9)) [.slice (some ⟨W,0,none⟩) 3 3] [{ data:=#[47,107,101,121,47,97] },{ data:=#[47,107,101,121,47,98] },{ data:=#[47,97,47,107,101,121] }] (λk=>k=W.heap.size)):=yD (kD.kCn W [{ data:=#[47,107,101,121,47,97] },{ data:=#[47,107,101,121,47,98] },{ data:=#[47,97,47,107,101,121] }] bJ4 bJ4);generalize G:World.alloc W _=v at HL ⊢;have hb:Qb W v:=(by rw [<- G];exact bR.alloc nL _);have zv:W.heap.size + 1<=v.heap.size:=(by rw [<- G];simp);clear G;exact kq.o v HL hb zv):=h ⟨k⟩
def eQ (a1:p1)(a2:p2)(k:q) (h:p1->p2->Hk q->p:=by
 intro H O kq;replace H:=H.below O;replace I:=(tQ I O);exact kq.o H I):=h a1 a2 ⟨k⟩
def eT (h:p:=by
 have cq:=Int.ofNat_lt.2 af;have F:=World.block_lt_of_cell? _ _ ak;have J:=World.block_lt_of_cell? _ _ a2;simp only at F J;go_wp2_with fail;refine (al.out _ bV _ _ x y (HR.below dV) (d7.below dV)).mono ?_;rintro e w1 ⟨rfl,O⟩;have G:Qb w w1:=Below.trans bV (O.mono vY);clear O;cases hz:decide (x=y)
 · have L:=yD (show decide (a=b)=false by simp;exact HD.out bF7);clear HD HX HR d7;go_wp2;go_ret;exact ⟨kJ L.symm,G⟩
 have L:=yD (HX.out bF7);clear HD HX HR d7;refine Qg ?_;exact ⟨k + 1,by omega,by go_num,L,G⟩):=h
def eU (k:q) (h:Hk q->p:=by
 intro kq;refine LX ?_;exact kq.o):=h ⟨k⟩
def eX (a1:p1)(a2:p2)(a3:p3)(k:q) (h:p1->p2->p3->Hk q->p:=by
 intro F D HR kq;replace F:=yD (F.touch D rU);replace HR:=yD (HR.touch D rU);exact kq.o F HR):=h a1 a2 a3 ⟨k⟩
def eY (a1:p1)(a2:p2)(k:q) (h:p1->p2->Hk q->p:=by
 intro F D kq;replace F:=yD (F.touch D rU);exact kq.o F):=h a1 a2 ⟨k⟩
def eZ (h:p:=by
 have cf:=kE (hW.kC BX bJ5) (j:=0) (v:=Qs a0 x0 c0) rfl;have db:=kE (hW.kC BX bJ5) (j:=1) (v:=.int .i64 kc) rfl;have dg:=kE (hW.kC BX bJ5) (j:=2) (v:=Qs a1 xe c1) rfl;have dj:=kE (hW.kC BX bJ5) (j:=3) (v:=Qs a2 x2 c2) rfl;have di:=kE (hW.kC BX bJ5) (j:=4) (v:=Qs a3 x3 c3) rfl;have dl:=kE (hW.kC BX bJ5) (j:=5) (v:=Qs a4 x4 c4) rfl;have dx:=kE (hW.kC BX bJ5) (j:=6) (v:=Qs a5 x5 c5) rfl;have d1:=kE (hW.kC BX bJ5) (j:=7) (v:=.int .i64 x6) rfl;have en:=kE (hW.kC BT bJ5) (j:=0) (v:=Qs a7 ar az) rfl;have em:=kE (hW.kC BT bJ5) (j:=1) (v:=Qs bg bo bw) rfl;have d2:=kE (hW.kC BT bJ5) (j:=2) (v:=Qs a8 a9 bz) rfl;have d4:=kE (hW.kC BT bJ5) (j:=3) (v:=Qs bl ba bv) rfl;clear hW;go_simp;try with_reducible rfl):=h
def fF (h:p:=by
 have L:=yD (show decide (a=b)=false by simp;rintro rfl;exact hl rfl);have hz:((a.length:Int) != b.length)=true:=bJ0;go_wp2;go_ret;exact ⟨kJ L.symm,bR⟩):=h
def fJ (h:p:=by
 have cf:=kE (hW.kC BX bJ5) (j:=0) (v:=Qs a0 x0 c0) rfl;have db:=kE (hW.kC BX bJ5) (j:=1) (v:=.int .i64 kc) rfl;have dg:=kE (hW.kC BX bJ5) (j:=2) (v:=Qs a1 xe c1) rfl;have dj:=kE (hW.kC BX bJ5) (j:=3) (v:=Qs a2 x2 c2) rfl;have di:=kE (hW.kC BX bJ5) (j:=4) (v:=Qs a3 x3 c3) rfl;have dl:=kE (hW.kC BX bJ5) (j:=5) (v:=Qs a4 x4 c4) rfl;have dx:=kE (hW.kC BX bJ5) (j:=6) (v:=Qs a5 x5 c5) rfl;have d1:=kE (hW.kC BX bJ5) (j:=7) (v:=.int .i64 x6) rfl;have en:=kE (hW.kC BT bJ5) (j:=0) (v:=Qs a7 ar az) rfl;have em:=kE (hW.kC BT bJ5) (j:=1) (v:=Qs bg bo bw) rfl;have d2:=kE (hW.kC BT bJ5) (j:=2) (v:=Qs a8 a9 bz) rfl;have d4:=kE (hW.kC BT bJ5) (j:=3) (v:=Qs bl ba bv) rfl;have au:=kE (hW.kC BD bJ5) (j:=0) (v:=Qs b0 y.1 b2) rfl;have aw:=kE (hW.kC BD bJ5) (j:=1) (v:=Qs cg y.2.1 ch) rfl;have av:=kE (hW.kC BD bJ5) (j:=2) (v:=Qs b9 y.2.2.1 cl) rfl;have ax:=kE (hW.kC BD bJ5) (j:=3) (v:=.int .i64 y.2.2.2.1) rfl;have ap:=kE (hW.kC BD bJ5) (j:=4) (v:=.int .i64 y.2.2.2.2) rfl;clear hW;go_simp;try with_reducible rfl):=h
def fK (k:q) (h:Hk q->p:=by
 intro kq;generalize U:World.alloc (World.alloc w _) _=X;have EB:Qb w X:=by rw [<- U];exact bK
 exact kq.o X U EB):=h ⟨k⟩
def fO (k:q) (h:Hk q->p:=by
 intro kq;rintro e w1 ⟨rfl,O⟩;exact kq.o w1 O):=h ⟨k⟩
def fP (k:q) (h:Hk q->p:=by
 intro kq;refine PN λI=>?_;refine E _ _ I ?_;exact kq.o I):=h ⟨k⟩
def fU (h:p:=by
 exact NU):=h
def fV (a1:p1)(a2:p2)(a3:p3)(k:q) (h:p1->p2->p3->Hk q->p:=by
 intro H hb OE kq;replace H:=H.below hb;refine SK OE hb λOE I=>?_;exact kq.o H OE I):=h a1 a2 a3 ⟨k⟩
def fZ (k:q) (h:Hk q->p:=by
 intro kq;go_simp;refine jZ ?_;intro v hb BB zv;obtain ⟨b,bf⟩:∃ b_,b_=W.heap.size:=⟨_,rfl⟩;rw [<- bf] at BB ⊢;exact kq.o v hb zv b BB bf):=h ⟨k⟩
def gD (k:q) (h:Hk q->p:=by
 intro kq;rintro e w9 ⟨ec,rfl,Oe,hb⟩;have d6:=hb.size;exact kq.o w9 ec Oe hb d6):=h ⟨k⟩
def iA (h:p:=by
 intro v2 w2 G O am;replace G:=kD.ko.cast G (ch.symm);have ae:=yD G;have U:=V.trans O;clear G F O;refine Qg ?_;exact ⟨k + 1,by omega,by go_num,ae,U⟩):=h
def iB (k:q) (h:Hk q->p:=by
 intro kq;refine jD ?_;refine kK (k:=6) rfl bI9 rfl (λK E=>?_);refine NK λt2 H bd R HV=>?_;refine LG R λI=>?_;clear R;refine jD ?_;exact kq.o t2 H bd HV I):=h ⟨k⟩
def iC (k:q) (h:Hk q->p:=by
 intro kq;refine jZ ?_;intro w1 ag R br;exact kq.o w1 ag R br):=h ⟨k⟩
def iD (k:q) (h:Hk q->p:=by
 intro kq;have EB:Qb w X:=by rw [<- U];exact bK
 exact kq.o EB):=h ⟨k⟩
def iE (k:q) (h:Hk q->p:=by
 intro kq;refine ND λK E t1 R=>?_;refine SK H R λH I=>?_;clear R;refine MS λK E be=>?_;exact kq.o t1 H I K E be):=h ⟨k⟩
def iF (a1:p1)(a2:p2)(h:p1->p2->p:=by
 intro L D;go_wp2;go_ret;exact ⟨kJ L.symm,D⟩):=h a1 a2
def iG (a1:p1)(k:q) (h:p1->Hk q->p:=by
 intro ag kq;replace hc:=hc.below ag;have TE:Touch (λk=>k=p) w w1:=Touch.of_below ag;clear ag;exact kq.o hc TE):=h a1 ⟨k⟩
def iH (a1:p1)(k:q) (h:p1->Hk q->p:=by
 intro BX kq;obtain ⟨am,ap,aq,ay⟩:=zF BT;obtain ⟨V,Y,ab,Z,aa⟩:=jP BX;exact kq.o am ap aq ay V Y ab Z aa):=h a1 ⟨k⟩
def iI (a1:p1)(a2:p2)(h:p1->p2->p:=by
 intro L G;refine Qg ?_;exact ⟨k + 1,by omega,by go_num,L,G⟩):=h a1 a2
def iJ (k:q) (h:Hk q->p:=by
 intro kq;refine PN λI=>?_;exact kq.o I):=h ⟨k⟩
def iK (h:p:=by
 refine kD.own.wide (S:=jW (u0.heap.size) (N.heap.size)) ?_ gV;exact kD.ji (r:=kS) (q:=(kD.pair Ce (kD.pair Cj (kD.pair Ch (kD.pair Cf kD.int))))) (cs:=[.int .i64 x.2.1.1,.slice gy x.2.1.2.length g6]) (ds:=[.slice ff be fm,.slice e9 Z fc,.slice b4 O V,.slice bk F L,.int .i64 x.2.2.2.2.2.2]) (x:=x.2.1) (y:=x.2.2) (S:=jW (u0.heap.size) (N.heap.size)) (kD.own.out R.out gG) (kD.ji (r:=Ce) (q:=(kD.pair Cj (kD.pair Ch (kD.pair Cf kD.int)))) (cs:=[.slice ff be fm]) (ds:=[.slice e9 Z fc,.slice b4 O V,.slice bk F L,.int .i64 x.2.2.2.2.2.2]) (x:=x.2.2.1) (y:=x.2.2.2) (S:=jW (u1.heap.size) (N.heap.size)) (kD.own.out ae.out gG) (kD.ji (r:=Cj) (q:=(kD.pair Ch (kD.pair Cf kD.int))) (cs:=[.slice e9 Z fc]) (ds:=[.slice b4 O V,.slice bk F L,.int .i64 x.2.2.2.2.2.2]) (x:=x.2.2.2.1) (y:=x.2.2.2.2) (S:=jW (u2.heap.size) (N.heap.size)) (kD.own.out ap.out gG) (kD.ji (r:=Ch) (q:=(kD.pair Cf kD.int)) (cs:=[.slice b4 O V]) (ds:=[.slice bk F L,.int .i64 x.2.2.2.2.2.2]) (x:=x.2.2.2.2.1) (y:=x.2.2.2.2.2) (S:=jW (u3.heap.size) (N.heap.size)) (kD.own.out aq.out gG) (kD.yR (r:=Cf) (q:=kD.int) (cs:=[.slice bk F L]) (ds:=[.int .i64 x.2.2.2.2.2.2]) (x:=x.2.2.2.2.2.1) (y:=x.2.2.2.2.2.2) (kD.own.out ar.out gG) (kD.jB dm.out)) vD vE pQ) vD vE pQ) vD vE pQ) vD vE pQ):=h
def iL (k:q) (h:Hk q->p:=by
 intro kq;obtain ⟨b6,bg⟩:∃ b_,b_=W.heap.size:=⟨_,rfl⟩;rw [<- bg] at HL ⊢;exact kq.o b6 HL bg):=h ⟨k⟩
def iM (k:q) (h:Hk q->p:=by
 intro kq;refine LZ λbg t0 H R=>?_;refine LG R λI=>?_;exact kq.o bg t0 H R I):=h ⟨k⟩
def iN (k:q) (h:Hk q->p:=by
 intro kq;have bf:=I.size;go_simp;have H:=kBt (w:=t0) (cs:=[.slice ra r.1.length rp,.int .i64 r.2.1,.int .i64 r.2.2]) (x:=r) (show (kD.kHj jA w0).is true _ [_,_,_] r _ from HR.1) HR.2;have Z:Below t0 t0 (World.alloc t0 (.cells #[.slice ra r.1.length rp,.int .i64 r.2.1,.int .i64 r.2.2] 139)):=bR.alloc nL _;generalize aa:World.alloc t0 (.cells #[.slice ra r.1.length rp,.int .i64 r.2.1,.int .i64 r.2.2] 139)=t1 at H Z ⊢;have R:=Z;clear aa Z;refine LG R λI=>?_;exact kq.o bf t1 H R I):=h ⟨k⟩
def iO (a1:p1)(k:q) (h:p1->Hk q->p:=by
 intro BO kq;obtain ⟨U,N,af,X,D,ah,ag,ai⟩:=jX BO;obtain ⟨ao,ar,ax,a1,a2,a6,a5,a4⟩:=kBn BO;exact kq.o U N af X D ah ag ai ao ar ax a1 a2 a6 a5 a4):=h a1 ⟨k⟩
def iP (k:q) (h:Hk q->p:=by
 intro kq;rintro e w2 ⟨m,b1,b3,ck,rfl,N,D⟩;have b8:=D.size;exact kq.o w2 m b1 b3 ck N D b8):=h ⟨k⟩
def iQ (k:q) (h:Hk q->p:=by
 intro kq;refine jD ?_;refine kK (k:=9) rfl bI9 rfl (λK E=>?_);refine O7 λt2 H bd R HV=>?_;refine LG R λI=>?_;clear R;refine jD ?_;exact kq.o t2 H bd HV I):=h ⟨k⟩
def iR (k:q) (h:Hk q->p:=by
 intro kq;rintro e w5 ⟨y,Y,a5,rfl,N,D⟩;replace D:=(Touch.of_below (S:=λk=>k=p) (bR.alloc nL _)).trans D;have df:=D.size;exact kq.o w5 y Y a5 N D df):=h ⟨k⟩
def iT (k:q) (h:Hk q->p:=by
 intro kq;simp only [Act.put,zA,zB,zC] at h_;exact kq.o h_):=h ⟨k⟩
def iU (k:q) (h:Hk q->p:=by
 intro kq;refine MS λK E be=>?_;refine QD λv1 t2 hr HV O bd=>?_;refine LD HV λa1 n1 c1 an a5=>?_;obtain rfl:=an;refine SK H O λH I=>?_;clear hr O;exact kq.o be t2 bd a1 n1 c1 a5 HV H I):=h ⟨k⟩
def iV (k:q) (h:Hk q->p:=by
 intro kq;refine MS λK E be=>?_;refine QE λv1 t2 hr HV O bd=>?_;refine LD HV λa1 n1 c1 an a5=>?_;obtain rfl:=an;refine SK H O λH I=>?_;clear hr O;exact kq.o be t2 bd a1 n1 c1 a5 HV H I):=h ⟨k⟩
def iW (h:p:=by
 have hz:((a.length:Int) != b.length)=true:=bJ0;go_wp2;go_ret;exact ⟨kJ L.symm,bR⟩):=h
def iX (k:q) (h:Hk q->p:=by
 intro kq;have cq:=hT.size;replace HR:=yD (HR.touch hT qN);replace HP:=yD (HP.touch hT qN);replace hc:=hc.touch hT bJ5 bF2;replace X:=X.yC hT bF6;obtain ⟨k0,k1,k2,k3,k4,k5,_,k6⟩:=kEu (HR.wide (T:=(λk=>tb<=k/\k < bp.heap.size/\k≠O/\k≠O + 1)) rP);have U:=HP.wide (T:=(λk=>tb<=k/\k < bp.heap.size/\k≠O/\k≠O + 1)) fA;go_meet;exact kq.o cq HR HP hc X k0 k1 k2 k3 k4 k5 k6 U):=h ⟨k⟩
def iY (k:q) (h:Hk q->p:=by
 intro kq;refine MW λhzs R5 L a9 ar au av be bi ae aw bh bj=>?_;exact kq.o hzs R5 L a9 ar au av be bi ae aw bh bj):=h ⟨k⟩
def iZ (a1:p1)(a2:p2)(h:p1->p2->p:=by
 intro L G;go_ret;exact ⟨kJ L.symm,G⟩):=h a1 a2
def l6 (k:q) (h:Hk q->p:=by
 intro kq;rintro e ch ⟨va,vc,l,rfl,hP,Y,N,D⟩;have c6:=D.size;exact kq.o ch va vc l hP Y N D c6):=h ⟨k⟩
def l7 (h:p:=by
 have cf:=kE (hW.kC BT bJ5) (j:=0) (v:=Qs a7 ar az) rfl;have db:=kE (hW.kC BT bJ5) (j:=1) (v:=Qs bg bo bw) rfl;have dg:=kE (hW.kC BT bJ5) (j:=2) (v:=Qs a8 a9 bz) rfl;have dj:=kE (hW.kC BT bJ5) (j:=3) (v:=Qs bl ba bv) rfl;have di:=kE (hW.kC X bJ5) (j:=0) (v:=.slice (some ⟨O,no,none⟩) z.1.length nc) rfl;have dl:=hW.kEm N0 bJ5;clear hW;go_simp;try with_reducible rfl):=h
def l8 (k:q) (h:Hk q->p:=by
 intro kq;refine QA ?_;have b6:=I.touch.size;obtain ⟨l_,G,RS⟩:=I.row;obtain ⟨af,ai,L,ah,Y,Z,V,aa,rfl⟩:=list8 G;have ae:Qd wS1 w 0 af:=kE RS rfl;have au:wS1.frozen? ⟨w,0,none⟩=false:=frozen_of_row wS1 (w.heap.size) 0 _ _ RS;have aw:Qd wS1 w 1 ai:=kE RS rfl;have av:wS1.frozen? ⟨w,1,none⟩=false:=frozen_of_row wS1 (w.heap.size) 1 _ _ RS;have bh:Qd wS1 w 2 L:=kE RS rfl;have be:wS1.frozen? ⟨w,2,none⟩=false:=frozen_of_row wS1 (w.heap.size) 2 _ _ RS;have bj:Qd wS1 w 3 ah:=kE RS rfl;have bi:wS1.frozen? ⟨w,3,none⟩=false:=frozen_of_row wS1 (w.heap.size) 3 _ _ RS;have bt:Qd wS1 w 4 Y:=kE RS rfl;have bp:wS1.frozen? ⟨w,4,none⟩=false:=frozen_of_row wS1 (w.heap.size) 4 _ _ RS;have U:Qd wS1 w 5 Z:=kE RS rfl;have dw:wS1.frozen? ⟨w,5,none⟩=false:=frozen_of_row wS1 (w.heap.size) 5 _ _ RS;have ar:Qd wS1 w 6 V:=kE RS rfl;have ce:wS1.frozen? ⟨w,6,none⟩=false:=frozen_of_row wS1 (w.heap.size) 6 _ _ RS;have dv:Qd wS1 w 7 aa:=kE RS rfl;have dy:wS1.frozen? ⟨w,7,none⟩=false:=frozen_of_row wS1 (w.heap.size) 7 _ _ RS;have bc:=yD (F.touch I.touch rU);have BS:=(TE.below nL bF2).trans (I.touch.below (B:=w.heap.size) bJ5 bF2);exact kq.o b6 af ai L ah Y Z V aa G RS ae au aw av bh be bj bi bt bp U dw ar ce dv dy bc BS):=h ⟨k⟩
def l9 (k:q) (h:Hk q->p:=by
 intro kq;generalize G:World.alloc (World.alloc (World.alloc w _) _) _=w1;have H:Qb w w1:=by rw [<- G];exact bK
 exact kq.o w1 G H):=h ⟨k⟩
def lC (a1:p1)(a2:p2)(k:q) (h:p1->p2->Hk q->p:=by
 intro O EB kq;replace Y:=cL O Y;have E1:=(tQ EB O);exact kq.o Y E1):=h a1 a2 ⟨k⟩
def lD (k:q) (h:Hk q->p:=by
 intro kq;have M0:=kE XV.out (j:=0) (v:=.int .i64 c) rfl;have M1:=kE XV.out (j:=1) rfl;have R0:=kE ((D.block _ (show w.heap.size + 1 < w.heap.size + 1 + 1 by omega)).trans H.out) (j:=0) (v:=.int .i64 0) rfl;have R1:=kE ((D.block _ (show w.heap.size + 1 < w.heap.size + 1 + 1 by omega)).trans H.out) (j:=1) (v:=.slice none 0 0) rfl;have F0:=λj=>frozen_of_row wr (w.heap.size + 1) j _ _ ((D.block _ (show w.heap.size + 1 < w.heap.size + 1 + 1 by omega)).trans H.out);have av:=F0 0;have ap:=F0 1;clear F0;have HF:=yD (F.cast bB9);exact kq.o M0 M1 R0 R1 av ap HF):=h ⟨k⟩
def lF (a1:p1)(k:q) (h:p1->Hk q->p:=by
 intro B kq;obtain ⟨ap,ah,O,L,E⟩:=jP B;obtain ⟨aq,ai,am,ao,H⟩:=kBb B;exact kq.o ap ah O L E aq ai am ao H):=h a1 ⟨k⟩
def lG (k:q) (h:Hk q->p:=by
 intro kq;have hne:=λq=>zg hlt af q;have E:=λq=>yO HN.out hlt af q;exact kq.o hne E):=h ⟨k⟩
def lH (k:q) (h:Hk q->p:=by
 intro kq;refine MV λbg t0 H R=>?_;refine LG R λI=>?_;exact kq.o bg t0 H R I):=h ⟨k⟩
def lI (k:q) (h:Hk q->p:=by
 intro kq;have bf:=I.size;go_simp;have H:=kEa (w:=t0) (cs:=[.int .i64 x]) (x:=x) (show kD.int.is true _ [.int .i64 x] x _ from ⟨rfl,N⟩) trivial;have Z:Below t0 t0 (World.alloc t0 (.cells #[.int .i64 x] 3)):=bR.alloc nL _;generalize aa:World.alloc t0 (.cells #[.int .i64 x] 3)=t1 at H Z ⊢;have R:=Z;clear aa Z;refine LG R λI=>?_;exact kq.o bf t1 H R I):=h ⟨k⟩
def lJ (k:q) (h:Hk q->p:=by
 intro kq;have hz:((a.length:Int) != b.length)=false:=bJ0;have HL:=yD hl;exact kq.o hz HL):=h ⟨k⟩
def lK (k:q) (h:Hk q->p:=by
 intro kq;refine PY λY K1 K2 K3 K4=>?_;have K5:Qd X w 5 (Qs d3 x.2.2.2.2.1 dy):=bA9;have K6:Qd X w 6 (Qs dx x.2.2.2.2.2.1 dr):=bA9;have K7:Qd X w 7 (Qn x.2.2.2.2.2.2):=bA9;have H:Qr X (w.heap.size + 1) #[.slice none 0 0,Qn 0,.slice none 0 0,.slice none 0 0,.slice none 0 0,.slice none 0 0,.slice none 0 0,Qn 0] 33:=by rw [<- U];exact kg bJ6
 have cc:X.heap.size=w.heap.size + 2:=bH6;have FX:=yD (λ(W:World) (hW:Qb X W)=>cLs8 hW Y K1 K2 K3 K4 K5 K6 K7);refine je (λW=>Qb X W) [(0,true),(1,true),(3,true),(4,true),(6,true),(7,true),(9,true),(10,true),(12,true),(13,true),(15,true),(16,true),(18,true),(19,true),(2,false),(5,false),(8,false),(11,false),(14,false),(17,false),(20,true)] bI9 bI9 sD (bR.drew) ?_;intro wS I;simp only [jE,List.length_cons,List.length_nil,List.getElem?_cons_succ,List.getElem?_cons_zero,List.map_cons,List.map_nil,List.cons_append,List.nil_append,List.drop_succ_cons,List.drop_zero];iterate 14
  all_goals refine kZ ?_
 exact kq.o Y K1 K2 K3 K4 K5 K6 K7 H cc FX wS I):=h ⟨k⟩
def lL (k:q) (h:Hk q->p:=by
 intro kq;have bf:=I.size;obtain ⟨v1,t1,hr,HV,O,bh⟩:=jd (w:=t0) (v:=.slice (some ⟨wS,0,none⟩) 0 0) (xs:=[]) (S:=λ_=>False) (B:=t0.heap.size) kD.ko.void (ag.below I) (λ_ h=>h.elim) nL bJ0;refine LD HV λa1 n1 c1 an a5=>?_;obtain rfl:=an;refine LG O λI=>?_;exact kq.o bf t1 O bh a1 n1 c1 a5 hr HV I):=h ⟨k⟩
def lM (k:q) (h:Hk q->p:=by
 intro kq;have bf:=I.size;obtain ⟨v1,t1,hr,HV,O,bh⟩:=yN (w:=t0) (v:=.slice (some ⟨wS,0,none⟩) 0 0) (xs:=[]) (S:=λ_=>False) (B:=t0.heap.size) kD.ko.void (ag.below I) (λ_ h=>h.elim) nL bJ0;refine LD HV λa1 n1 c1 an a5=>?_;obtain rfl:=an;refine LG O λI=>?_;exact kq.o bf t1 O bh a1 n1 c1 a5 hr HV I):=h ⟨k⟩
def lN (k:q) (h:Hk q->p:=by
 intro kq;go_simp;generalize G:World.setCell (World.setCell (World.setCell (World.setCell (World.setCell (World.setCell (World.setCell (World.setCell t2 _ _) _ _) _ _) _ _) _ _) _ _) _ _) _ _=t3;have hT:Touch (λk=>k=w.heap.size) t2 t3:=(by rw [<- G];exact sT8);replace R:Qr t3 w (Qh a0 x0 c0 kc a1 xe c1 a2 x2 c2 a3 x3 c3 a4 x4 c4 a5 x5 c5 x6) 33:=(by rw [<- G];exact kG (kG (kG (kG (kG (kG (kG (kG (R) 0) 1) 2) 3) 4) 5) 6) 7);have ea:=hT.size;clear G;exact kq.o t3 hT R ea):=h ⟨k⟩
def lQ (k:q) (h:Hk q->p:=by
 intro kq;have O0:kD.ko 9 kD.str (((w.alloc (.cells #[.slice aa x.length H] 41)).alloc (.cells #[.slice none 0 0] 41)).alloc (.cells #[] 9)) (.slice (some ⟨w.heap.size + 1 + 1,0,none⟩) 0 0) [] (λk=>k=w.heap.size + 1 + 1):=by
  have h:=kD.yf (e:=9) (r:=kD.str) (w:=(w.alloc (.cells #[.slice aa x.length H] 41)).alloc (.cells #[.slice none 0 0] 41)) (cs:=[]) (xs:=[]) (T:=λ_=>False) (S:=λk=>k=w.heap.size + 1 + 1) bJ6 bJ6 rfl (λ_ h=>h.elim) bJ6;simpa using h
 exact kq.o O0):=h ⟨k⟩
def lS (k:q) (h:Hk q->p:=by
 intro kq;obtain ⟨n1,HN⟩:∃ n1,Hid (l.length=n1 + 1):=⟨l.length - 1,yD bJ5⟩;rw [HN.out] at hil hlen a2;rw [HN.out];have HK:Hid ((l.take i).length=i):=yD bA5;have HR:Hid ((l.drop (i + 1)).length=n1 - i):=yD bA5;have hne:((i:Int)==(i:Int) + 1)=false:=bF5;have Z:i<=cap:=bJ5;have U:(i:Int)<=cap:=bJ5;have af:i + 1<=cap:=bJ5;have aq:i + 1<=n1 + 1:=bJ5;have V:¬ cap=n1:=bJ5;have Y:(i:Int)<=(i:Int) + 1:=bJ5;have ac:(0:Int)<=(i:Int) + 1:=bJ5;have O:i<=n1:=bJ5;exact kq.o n1 a2 hlen hil HN HK HR hne Z U af aq V Y ac O):=h ⟨k⟩
def lT (k:q) (h:Hk q->p:=by
 intro kq;refine kK (k:=10) rfl bI9 rfl (λK E=>?_);exact kq.o K E):=h ⟨k⟩
def lU (k:q) (h:Hk q->p:=by
 intro kq;replace HL:Hid (Cg.own v [.slice (some ⟨b6,0,none⟩) 3 3] [{ data:=#[47,107,101,121,47,97] },{ data:=#[47,107,101,121,47,98] },{ data:=#[47,97,47,107,101,121] }] (λk=>k=b6)):=yD (HL.touch D bE9);replace h6:V.heap.size<=b6/\b6 < v.heap.size:=⟨h6.1,Nat.lt_of_lt_of_le h6.2 D.size⟩;exact kq.o HL h6):=h ⟨k⟩
def lV (k:q) (h:Hk q->p:=by
 intro kq;have L:=yD (show decide (a=b)=true by simp;exact zN HN.out hlt HL.out);exact kq.o L):=h ⟨k⟩
def lW (h:p:=by
 have b5:¬ (a:Int) < j:=bJ5;have hp:decide ((j:Int) > a)=false:=bJ0;have a5:Hid (cu=Srt.inner key a i cur):=yD ((jDf (key:=key) bj).symm.trans ba.out);go_upto_region 4 with fail;refine QQ ?_;intro wS I;all_goals ((iterate 3 refine kZ ?_);refine jo λb a1=>?_;cases b <;> try simp only [jm] at a1)
 all_goals ((iterate 10 refine kZ ?_);(first|(refine kI rfl I ?_)|(fail));refine jD ?_;refine kZ ?_;refine jo λb V=>?_;cases b <;> try simp only [jm] at V)
 all_goals (refine kR ?_;have H:=yD (b1.trans (Touch.of_below I));have bp:=yD (ae.below I))
 have aa:Hid (Srt.outer key a (z - (i + 1)) (i + 1) cu=Srt.kHc key a z xs):=yD tC;refine Qg ?_;exact ⟨i + 1,cu,by go_num,by omega,.inl bJ5,aa,an,bp,H⟩):=h
def lX (h:p:=by
 refine kD.own.wide (S:=jW (v0.heap.size) (w3.heap.size)) ?_ gV;exact kD.ji (r:=kQ) (q:=(kD.pair Cc (kD.pair kQ (kD.pair kD.int kD.int)))) (cs:=[.slice I x0.length F]) (ds:=[.slice a8 x1.length cl,.slice L x2.length G,.int .i64 x3,.int .i64 x4]) (x:=x0) (y:=(x1,x2,x3,x4)) (S:=jW (v0.heap.size) (w3.heap.size)) (kD.own.out R.out gG) (kD.ji (r:=Cc) (q:=(kD.pair kQ (kD.pair kD.int kD.int))) (cs:=[.slice a8 x1.length cl]) (ds:=[.slice L x2.length G,.int .i64 x3,.int .i64 x4]) (x:=x1) (y:=(x2,x3,x4)) (S:=jW (v1.heap.size) (w3.heap.size)) (kD.own.out ae.out gG) (kD.yR (r:=kQ) (q:=(kD.pair kD.int kD.int)) (cs:=[.slice L x2.length G]) (ds:=[.int .i64 x3,.int .i64 x4]) (x:=x2) (y:=(x3,x4)) (kD.own.out ap.out gG) (kD.yh (r:=kD.int) (q:=kD.int) (cs:=[.int .i64 x3]) (ds:=[.int .i64 x4]) (x:=x3) (y:=x4) (kD.jB N3.out) (kD.jB N4.out))) pJ pJ pQ) pJ pJ pQ):=h
def lY (a1:p1)(k:q) (h:p1->Hk q->p:=by
 intro bm kq;refine NJ bm λH=>?_;exact kq.o H):=h a1 ⟨k⟩
def lZ (h:p:=by
 obtain ⟨c0,d0,A0,B0,rfl,p0,q0,af,U,R⟩:=h;obtain ⟨c1,I,A1,B1,rfl,p1,q1,hA1,H,hd1⟩:=q0;obtain ⟨rfl,_⟩:=q1;have l0:=kD.len _ p0;have l1:=kD.len _ p1;change _=1 at l0;change _=1 at l1;have e:((c0++(c1++[.int .i64 x.2.2])):List Value).set 2 (Qn v)=(c0++(c1++[.int .i64 v])):=by
  obtain ⟨D,rfl⟩:∃ D,c0=[D]:=rH;obtain ⟨E,rfl⟩:∃ E,c1=[E]:=rJ;rfl
 rw [e];exact ⟨_,_,A0,B0,rfl,p0,⟨_,_,A1,B1,rfl,p1,⟨rfl,hv⟩,hA1,H,hd1⟩,af,U,R⟩):=h
def mF (a1:p1)(a2:p2)(h:p1->p2->p:=by
 intro bd H;refine LQ λcv a5=>?_;all_goals refine kR ?_
 have ce:Hid _:=yD ((bd.below a5).wide (T:=jW (w.heap.size + 1) cv) (λj J=>⟨J.1,by have:=J.2;have:=a5.size;omega⟩));have bi:=H.trans (a5.mono (by have:=H.size;omega));clear a5 A0 B0 R;refine Qg ?_;exact ⟨k + 1,by omega,by go_num,by rw [b1.out],yD (by rw [b1.out];exact ce.cast bJ6),bi⟩):=h a1 a2
def mV (k:q) (h:Hk q->p:=by
 intro kq;replace I:=And.intro (I.1.trans D) N;refine E _ _ I ?_;exact kq.o I):=h ⟨k⟩
def mX (k:q) (h:Hk q->p:=by
 intro kq;refine NC λa4 ar=>?_;exact kq.o a4 ar):=h ⟨k⟩
def nA (k:q) (h:Hk q->p:=by
 intro kq;generalize U:World.alloc (World.alloc (World.alloc w _) _) _=X;exact kq.o X U):=h ⟨k⟩
def nX (k:q) (h:Hk q->p:=by
 intro kq;have V:(xs.length + m) * r.n<=cap * r.n:=Nat.mul_le_mul_right _ D;rw [Nat.add_mul] at V;have eo:m * r.n=cells.length:=by rw [G,hsize]
 have Z:off + xs.length * i.size=(p++cs).length:=by rw [List.length_append,g3,ag,hsize]
 have hr:=run_append_room_cells (P:=P) (w:=w) t ty e i ht hi b off xs.length cap ad m c cells G ac (row_one hrow) D
   (λj J=>by
     rw [cell_of_row w b _ cur e (0,0) g1];have:off + xs.length * i.size + j < cur.size:=by rw [Z,List.length_append];omega
     simp [this])
   (λj _=>frozen_of_row w b _ _ _ g1)
 rw [kLl] at hr;have R:=kBf (e:=e) cells (tl.take cells.length) (p++cs) (tl.drop cells.length) w b (off + xs.length * i.size) mW Z.symm wF;refine ⟨_,_,hr,?_,(kAc cells w b _).wide (λk hk=>by rw [hk];exact g6)⟩;have W:∀ k,k≠b->(setCells w b (off + xs.length * i.size) cells).heap[k]?=w.heap[k]?:=λk hk=>kBj cells w b _ k hk;exact kq.o V eo Z hr R W):=h ⟨k⟩
def o5 (k:q) (h:Hk q->p:=by
 intro kq;have bc:k < on:=bJ5;rw [List.drop_eq_getElem_cons Z] at H;have ae:=H.len;simp only [List.length_take,List.length_cons,List.length_drop] at ae;have a2:on<=oc:=bE2;have a5:oc<=9223372036854775807:=rC;have af:=H.mem;have ah:=H.frozen (k * 3 + 2);have G:Hid (kD.gap 142 kL w2 b oc l.length (l.take k) 1 (l.drop (k + 1)) (jW w w2)):=yD H.skip;clear ae;have a8:=yD (F.own bm);obtain ⟨c0,c1,c2,hr,A0,A1,A2⟩:=kD.at3 a8.raw Z rfl;obtain ⟨rfl,rfl,ay,ap,bb,bt⟩:=jy hr;have R:=yD (jBz bd.out Z);have D:=yD (kWj bd.out Z);have aa:=yD (λ(v:Int) (hv:Qi v)=>kD.kFb (i:=k) (j:=2) (p:=k * 3 + 2) (u:=.int .i64 v) F.out bm Z bJ4 (λh=>kEn v hv h) (show kL.bdd Big (ym l[k] v) from kD.zL a8.rd Z) rfl);have ak:=yD ai;clear hr ay ap bb;refine P9 λbg bu=>?_;have br:k<=oc:=bJ5;have bo:=Go.IntWalk.i64_in ((k:Int) + 1) bJ5;exact kq.o bc a2 a5 af ah G a8 c0 A0 A1 A2 bt R D aa ak bg bu br bo):=h ⟨k⟩
def o6 (h:p:=by
 have Z:j < H.length:=bD3;have hil:a8<=16777216:=vC;obtain ⟨qb,qo,rfl,ah,aj,ao,qr,A0,A1,A2⟩:=kD.zx (F.kMm.below V) Z rfl;have ch:=yD (show FS.take (j + 1)=FS.take j++[H[j].2.1] by (have hl:j < FS.length:=by rw [E.out];simpa using Z);rw [List.take_succ_eq_append_getElem hl];simp [E.out]);generalize H[j]=x at *;obtain ⟨rfl,rfl,au,az,aw,bi⟩:=yS (show jA.raw w _ x from qr);clear au az bi qr;have bd:(FS.take j).length<=16777216:=bE4;go_wp2_with (at_builtin;refine kD.jN rfl _ _ 63 rfl (r:=kD.int) (e:=3) underlying63 zk rfl bJ4 bJ4 (B:=wz.heap.size) HI.out bJ7 bJ7 rfl (kD.jB aw _) rfl (λ_ _ h=>h) vD (λ_ h=>h.elim) bJ5 bJ5 ?_);intro v5 w5 hown a1 bw;have ar:=yD (kD.ko.cast hown ch.symm);have bv:=V.trans a1;clear hown a1;refine Qg ?_;exact ⟨j + 1,by omega,by go_num,ar,bv⟩):=h
def o7 (a1:p1)(k:q) (h:p1->Hk q->p:=by
 intro HN kq;refine MP HN ?_;exact kq.o):=h a1 ⟨k⟩
def o8 (a1:p1)(k:q) (h:p1->Hk q->p:=by
 intro D kq;refine QH λU=>?_;exact kq.o U):=h a1 ⟨k⟩
def o9 (k:q) (h:Hk q->p:=by
 intro kq;have X1:=kC H I;have E1:=(tQ EB I);have M0:=kE (b:=w.heap.size + 1) X1 (j:=0) rfl;have F0:=frozen_of_row N (w.heap.size + 1) 0 _ _ X1;have M1:=kE (b:=w.heap.size + 1) X1 (j:=1) rfl;have F1:=frozen_of_row N (w.heap.size + 1) 1 _ _ X1;have M2:=kE (b:=w.heap.size + 1) X1 (j:=2) rfl;have F2:=frozen_of_row N (w.heap.size + 1) 2 _ _ X1;have M3:=kE (b:=w.heap.size + 1) X1 (j:=3) rfl;have F3:=frozen_of_row N (w.heap.size + 1) 3 _ _ X1;have M4:=kE (b:=w.heap.size + 1) X1 (j:=4) rfl;have F4:=frozen_of_row N (w.heap.size + 1) 4 _ _ X1;have M5:=kE (b:=w.heap.size + 1) X1 (j:=5) rfl;have F5:=frozen_of_row N (w.heap.size + 1) 5 _ _ X1;have M6:=kE (b:=w.heap.size + 1) X1 (j:=6) rfl;have F6:=frozen_of_row N (w.heap.size + 1) 6 _ _ X1;have M7:=kE (b:=w.heap.size + 1) X1 (j:=7) rfl;have F7:=frozen_of_row N (w.heap.size + 1) 7 _ _ X1;go_wp2;exact kq.o X1 E1 M0 F0 M1 F1 M2 F2 M3 F3 M4 F4 M5 F5 M6 F6 M7 F7):=h ⟨k⟩
def oC (k:q) (h:Hk q->p:=by
 intro kq;have HD:Hid (decide (x=y)=false->decide (a=b)=false):=yD sQ;have HX:Hid (decide (x=y)=true->a.take (k + 1)=b.take (k + 1)):=yD bA3;exact kq.o HD HX):=h ⟨k⟩
def oD (k:q) (h:Hk q->p:=by
 intro kq;replace HL:Hid (Cg.own v [.slice (some ⟨b6,0,none⟩) 3 3] [{ data:=#[47,107,101,121,47,97] },{ data:=#[47,107,101,121,47,98] },{ data:=#[47,97,47,107,101,121] }] (λk=>k=b6)):=yD (HL.below hb);replace h6:V.heap.size<=b6/\b6 < v.heap.size:=⟨h6.1,Nat.lt_of_lt_of_le h6.2 hb.size⟩;refine UE λU=>?_;exact kq.o HL h6 U):=h ⟨k⟩
def oF (k:q) (h:Hk q->p:=by
 intro kq;have h6:V.heap.size<=b6/\b6 < v.heap.size:=⟨by omega,by omega⟩;refine PN λI=>?_;refine E _ _ I ?_;exact kq.o h6 I):=h ⟨k⟩
def oG (h:p:=by
 obtain rfl:=a9;have Y:=(O.block _ bJ5).trans XW;have N1:=kE Y (j:=1) rfl;have NF:=frozen_of_row w2 (w.heap.size + 1 + 1) 1 _ _ Y;have U:=ab.trans (O.mono bJ5);have b6:=yD Y;have ae:=yD (kD.ko.cast G (ch.symm));clear Y G F O D;refine Qg ?_;exact ⟨k + 1,_,by omega,by go_num,yD (heap_setCell_same w2 _ 1 _ _ _ b6.out),yD ((ae.setCell gM).wide nZ),U.setCell bJ6 _,by simp [World.setCell];omega⟩):=h
def oH (k:q) (h:Hk q->p:=by
 intro kq;generalize U:World.alloc w _=X;have EB:Qb w X:=vV;have Y:Qd X w 0 (Qs na n np):=bA9;have cc:X.heap.size=w.heap.size + 1:=bH6;clear U;exact kq.o X EB Y cc):=h ⟨k⟩
def oI (k:q) (h:Hk q->p:=by
 intro kq;generalize G:World.alloc (World.alloc (World.alloc (World.alloc w _) _) _) _=w1;have H:Qb w w1:=by rw [<- G];exact bK
 have BX:Qr w1 w (Qh dg x0 dd xc dj xe di d4 x2 dz eb x3 d9 d3 x4 dy dx x5 dr x6) 33:=sK;have BT:Qr w1 (w.heap.size + 1) #[Qs f7 p0 gd,Qs gy p1 g6,Qs ff p2 fm,Qs e9 p3 fc] 38:=by rw [<- G];exact jJ (jJ (kg bJ6))
 have BD:Qr w1 (w.heap.size + 2) (Qj fb y0 e7 ie y1 ia hw y2 hu y3 y4) 43:=by rw [<- G];exact jJ (kg bJ6)
 have BR:Qr w1 (w.heap.size + 3) #[.slice none 0 0,Qn 0,.slice none 0 0,.slice none 0 0,.slice none 0 0,.slice none 0 0,.slice none 0 0,Qn 0,.slice none 0 0] 48:=by rw [<- G];exact kg bJ6
 have br:w.heap.size + 4<=w1.heap.size:=bH7;clear G;obtain ⟨V,Y,ab,Z,aa,aj,ak,al⟩:=jX BX;exact kq.o w1 H BX BT BD BR br V Y ab Z aa aj ak al):=h ⟨k⟩
def oJ (k:q) (h:Hk q->p:=by
 intro kq;have R0:Qc w2 (w.heap.size + 1) 0 (.slice none 0 0):=(D.cell (p:=⟨w.heap.size + 1,0,none⟩) bJ6).trans bI1;have F0:w2.frozen? ⟨w.heap.size + 1,0,none⟩=false:=(D.frozen (p:=⟨w.heap.size + 1,0,none⟩) bJ6).trans bI1;go_wp2;exact kq.o R0 F0):=h ⟨k⟩
def oK (a1:p1)(a2:p2)(h:p1->p2->p:=by
 intro L D;go_wp2;go_ret;exact ⟨jS L.symm,D⟩):=h a1 a2
def oL (k:q) (h:Hk q->p:=by
 intro kq;have bm:l.length<=16777216:=hl.2.1;exact kq.o bm):=h ⟨k⟩
def oM (k:q) (h:Hk q->p:=by
 intro kq;refine jZ ?_;intro X EB N _;exact kq.o X EB N):=h ⟨k⟩
def oN (k:q) (h:Hk q->p:=by
 intro kq;have I:∀ j u,cs[j]?=some u->w.cell? ((⟨b,off,none⟩:Addr).add j)=some u:=by
  intro j u J;have F:(⟨b,off,none⟩:Addr).add j=⟨b,off + j,none⟩:=sP;have aq:=(List.getElem?_eq_some_iff.1 J).1;rw [F,cell_of_row w b _ cur e (0,0) g1,<- Array.getElem?_toList,g2,List.getElem?_append_right bJ5,List.getElem?_append_left bJ5];rw [<- J];congr 1;omega
 have L:(xs.length + m) * i.bytes<=140737488355328:=by
  have:(xs.length + m) * i.bytes<=16777216 * 1000:=Nat.mul_le_mul bJ5 bJ5;omega
 have hr:=run_append_grow (P:=P) w t ty e i z ht hi hz ⟨b,off,none⟩ xs.length cap cs (by rw [hsize];exact ag) I ad m c cells G ac bJ5 bJ5 (growslice_fits bJ5 L);refine ⟨_,_,hr,?_,⟨rfl,rfl,rfl,by simp,λk hk _=>heap_alloc_old w.drew _ hk⟩⟩;have bp:=grownCap_ge w (xs.length + m) cap e;have aa:=grownCap_le_maxLen w (xs.length + m) cap e bC7;exact kq.o I L hr bp aa):=h ⟨k⟩
def oO (k:q) (h:Hk q->p:=by
 intro kq;refine QA ?_;exact kq.o):=h ⟨k⟩
def oP (k:q) (h:Hk q->p:=by
 intro kq;have BR:Qr w1 (w.heap.size + 2) #[.slice none 0 0,.slice none 0 0,.slice none 0 0,Qn 0,Qn 0] 43:=by rw [<- G];exact kg bJ6
 have br:w.heap.size + 3<=w1.heap.size:=bH7;exact kq.o BR br):=h ⟨k⟩
def oQ (a1:p1)(k:q) (h:p1->Hk q->p:=by
 intro az kq;replace hc:=hc.touch az bJ5 bF2;replace TE:=TE.jO az bJ5;exact kq.o hc TE):=h a1 ⟨k⟩
def oU (k:q) (h:Hk q->p:=by
 intro kq;replace hc:=hc.touch hT bJ5 bF2;exact kq.o hc):=h ⟨k⟩
def oV (k:q) (h:Hk q->p:=by
 intro kq;replace hO:jc.jv _ [Qs a0 x0 c0,Qn kc,Qs a1 xe c1,Qs a2 x2 c2,Qs a3 x3 c3,Qs a4 x4 c4,Qs a5 x5 c5,Qn x6] (x0,(kc,xe),x2,x3,x4,x5,x6) _:=hO;exact kq.o hO):=h ⟨k⟩
def oW (k:q) (h:Hk q->p:=by
 intro kq;refine QL λgg hv=>?_;have ih:Hid (Ch.rd w [Qs d3 x4 dy] x4):=yD ⟨bt,hx.2.2.2.2.2.1⟩;have it:Hid (Cf.rd w [Qs dx x5 dr] x5):=yD ⟨c6,hx.2.2.2.2.2.2.1⟩;have h5:Hid (Cm.raw w [Qs dg x0 dd] x0):=yD ac;have eh:Hid (kQ.rd w [Qs fb y0 e7] y0):=yD ⟨fe,hy.2.1⟩;have gf:xe.length<=16777215:=Nat.le_trans hB.2.1.2.1 bJ4;have f9:x3.length<=2000000:=Nat.le_trans hB.2.2.2.1.1 bJ4;exact kq.o gg hv ih it h5 eh gf f9):=h ⟨k⟩
def oZ (k:q) (h:Hk q->p:=by
 intro kq;rw [E.out] at F;have ab:=yD F;have N:=yD ((Touch.of_below (S:=S) I).trans ((aa.trans J).wide (λk hk=>hk ▸ X.out)));exact kq.o ab N):=h ⟨k⟩
def p9 (k:q) (h:Hk q->p:=by
 intro kq;obtain ⟨Y,K1,K2,K3,K4⟩:=jP N;have FX:=yD (λ(W:World) (hW:Qb X W)=>kRf hW Y K1 K2 K3 K4);exact kq.o Y K1 K2 K3 K4 FX):=h ⟨k⟩
def pM (k:q) (h:Hk q->p:=by
 intro kq;rw [hi] at HI;rw [List.drop_eq_getElem_cons hil] at H;have Y:=H.skip;have b0:=yD (kLv hil hno);have eh:=yD (kCh (p:=λy=>!p y) hil (by simp [hyes]));refine PD λX ae a2 a5=>?_;clear ae;have bu:((i:Int)==-1)=false:=vJ;exact kq.o HI Y b0 eh X a2 a5 bu):=h ⟨k⟩
def q8 (k:q) (h:Hk q->p:=by
 intro kq;intro wS I;iterate 4
  all_goals refine kZ ?_
 exact kq.o wS I):=h ⟨k⟩
def q9 (k:q) (h:Hk q->p:=by
 intro kq;refine kN (λW=>Qb wr W) [true,true,true,true,true,true,false] bI9 bI9 sD (bR.drew) ?_;intro wS I;iterate 6
  all_goals refine kZ ?_
 exact kq.o wS I):=h ⟨k⟩
def r9 (h:p:=by
 rw [L.out];exact kLz (F.touch sT9 vN) ((HQ.touch sT9 vN).own gp) gJ gJ (λj q r=>r.2.2 q.2.2.2)):=h
def rZ (h:p:=by
 have aj:=yD Z;have a7:=yD ai;clear Z ai bg ab aa an;go_wp2;go_roundw;case rel =>
  refine ⟨m + 1,U + 1,by omega,by omega,by go_num,by go_num,yD qX,yD ?_,yD ((E.trans (Touch.of_below E5.out)).trans (a7.wide (λj J=>J ▸ X.out)))⟩;rw [L.out,show m + 1 - (U + 1)=m - U by omega];exact aj.out
 simp [intOf];omega):=h
def sF (a1:p1)(a2:p2)(k:q) (h:p1->p2->Hk q->p:=by
 intro A0 B0 kq;have FX:=yD (λ(W:World) (hW:Qb wr W)=>kNa hW A0 B0);refine kN (λW=>Qb wr W) [true,true,true,true,true,true,true,true,true] bI9 bI9 sD (bR.drew) ?_;intro wS I;exact kq.o FX wS I):=h a1 a2 ⟨k⟩
def sJ (h:p:=by
 rw [E.out] at F;have ab:=yD F;have N:=yD ((Touch.of_below (S:=S) I).trans ((aa.trans J).wide (λk hk=>hk ▸ X.out)));clear av aa J F;have h1:(i:Int)<=(i:Int) + 1:=bJ5;have h2:(i:Int)<=(i:Int) + 1:=bJ5;exact QY):=h
def tF (k:q) (h:Hk q->p:=by
 intro kq;refine P9 λbg bu=>?_;have a8:=yD (F.own bm);obtain ⟨c0,c1,c2,hr,A0,A1,A2⟩:=kD.at3 a8.raw Z rfl;obtain ⟨rfl,rfl,ay,ap,bb,bt⟩:=jy hr;have ah:=kD.kIi F.out bJ5 (k * 3 + 2);have L:=yD (recF_up HB.out bd.out Z);obtain ⟨s1,s2⟩:=kD.kFb (i:=k) (j:=2) (p:=k * 3 + 2) (u:=.int .i64 (upF l[k].2.2)) F.out bm Z bJ4 (λh=>kEn _ upF_rng h) (show kL.bdd Big (ym l[k] (upF l[k].2.2)) from kD.zL a8.rd Z) rfl;have aj:=yD (λv (hv:v=upF l[k].2.2)=>(show kD.ko 142 kL (w4.setCell ⟨b,k * 3 + 2,none⟩ (Qn v)) _ _ _ from hv ▸ s1.cast L.symm));clear s1 s2 hr ay ap bb;exact kq.o bg bu a8 c0 A0 A1 A2 bt ah L aj):=h ⟨k⟩
def tH (k:q) (h:Hk q->p:=by
 intro kq;have Y:Qd X w 0 (Qs a7 t.1 b7):=bA9;have K1:Qd X w 1 (Qs bg t.2.1 c2):=bA9;have K2:Qd X w 2 (Qs a8 t.2.2.1 cl):=bA9;have K3:Qd X w 3 (Qs bl t.2.2.2 av):=bA9;have K4:Qc X (w.heap.size + 1) 0 (Qs an n am):=bA9;exact kq.o Y K1 K2 K3 K4):=h ⟨k⟩
def uA (h:p:=by
 go_wp2;go_ret;exact ⟨jS L.symm,(tQ EB D)⟩):=h
def uB (k:q) (h:Hk q->p:=by
 intro kq;intro wS I;iterate 3
  all_goals refine kZ ?_
 exact kq.o wS I):=h ⟨k⟩
def uC (k:q) (h:Hk q->p:=by
 intro kq;intro wS I;iterate 6
  all_goals refine kZ ?_
 exact kq.o wS I):=h ⟨k⟩
def uD (k:q) (h:Hk q->p:=by
 intro kq;simp only [Act.put,zA,zB,zC];exact kq.o):=h ⟨k⟩
def uE (h:p:=by
 obtain rfl:k=l.length:=bJ5;go_wp2;go_ret;exact ⟨_,rfl,kD.ko.cast F.out bJ6,D⟩):=h
def uF (k:q) (h:Hk q->p:=by
 intro kq;have HZ:Hid (Z.heap.size=w.heap.size + 3):=yD bI3;have EA:Qb w Z:=by rw [<- V];exact bK
 have XB:Hid (Qr Z w #[Qn c,Qs la l lp] 27):=yD vB;have H:Hid (Qr Z (w.heap.size + 1) #[Qn 0,.slice none 0 0] 27):=yD tN;have XO:Hid (Qr Z (w.heap.size + 1 + 1) #[Qn c,.slice none 0 0] 27):=yD wH;exact kq.o HZ EA XB H XO):=h ⟨k⟩
def uG (k:q) (h:Hk q->p:=by
 intro kq;have ao:Hid (Cm.rd w [Qs dg x.1 dd] x.1):=yD ⟨ac,q0⟩;have al:Hid (kS.rd w [Qn x.2.1.1,Qs dj x.2.1.2 di] x.2.1):=yD ⟨bc,q1⟩;have ah:Hid (Ce.rd w [Qs d4 x.2.2.1 dz] x.2.2.1):=yD ⟨bf,q2⟩;have av:Hid (Cj.rd w [Qs eb x.2.2.2.1 d9] x.2.2.2.1):=yD ⟨bp,q3⟩;refine QC q4 q5 λak ai=>?_;have dm:=yD dp;exact kq.o ao al ah av ak ai dm):=h ⟨k⟩
def uH (h:p:=by
 have EF:=(tQ EB ag);by_cases aq:24 < q.length
 · obtain ⟨_,b,off,rfl,dm,bk⟩:=kD.kJv ab.out bJ5;have ah:=(kD.kBx ab.raw);have ao:(24:Int) < q.length:=bJ5;have aa:(1:Int)<=q.length:=bJ5;have be:¬ D=1:=bJ5;have HD:=yD (kD.kVe ab.out (k:=1) bJ5);have O:Hid (yT l n x=q.drop 1):=yD (by unfold yT;rw [fi.out,if_pos aq]);clear ab fi;go_wp2;go_ret;refine ⟨_,rfl,?_,EF⟩;rw [O.out];exact HD.out
 have ao:¬ (24:Int) < q.length:=bJ5;have O:Hid (yT l n x=q):=yD (by unfold yT;rw [fi.out,if_neg aq]);clear fi;go_wp2;go_ret;refine ⟨_,rfl,?_,EF⟩;rw [O.out];exact ab.out):=h
def uI (k:q) (h:Hk q->p:=by
 intro kq;have bg:=I.size;go_simp;refine jZ ?_;intro t0 R _ _;refine LG R λI=>?_;exact kq.o bg t0 R I):=h ⟨k⟩
def uJ (k:q) (h:Hk q->p:=by
 intro kq;generalize U:World.alloc w _=X;exact kq.o X U):=h ⟨k⟩
def uK (k:q) (h:Hk q->p:=by
 intro kq;intro wS I;simp only [jE,List.length_cons,List.length_nil,List.getElem?_cons_succ,List.getElem?_cons_zero,List.map_cons,List.map_nil,List.cons_append,List.nil_append,List.drop_succ_cons,List.drop_zero];exact kq.o wS I):=h ⟨k⟩
def uL (k:q) (h:Hk q->p:=by
 intro kq;refine kK (k:=6) rfl bI9 rfl (λK E=>?_);exact kq.o K E):=h ⟨k⟩
def uM (a1:p1)(h:p1->p:=by
 intro H;have ag:on<=24:=bD3;go_wp2_with (at_builtin;refine kD.jN rfl _ _ 31 rfl (r:=kL) (e:=142) underlying31 zY rfl bJ4 bJ4 (B:=w.heap.size) F.out bJ7 bJ7 rfl (kD.own.wide (T:=jW w4 wT) (kD.yR (r:=kQ) (q:=kD.pair kD.int kD.int) (cs:=[.slice a7 n.length b7]) (ds:=[.int .i64 f,.int .i64 1]) (x:=n) (y:=(f,1)) (H) (kD.yh (kD.jB HF.out) (kD.jB (n:=1) bJ5))) (λj J=>J)) rfl pQ vD pJ bJ5 bD3 ?_);intro v5 w5 aa ae bw;have ar:=yD (aa.cast L.symm);have E5:=(tQ E4 ER).trans ae;clear aa ae;go_wp2;go_ret;exact ⟨_,rfl,ar.own nC,E5⟩):=h a1
def uN (k:q) (h:Hk q->p:=by
 intro kq;intro wS I;simp only [jE,List.getElem?_cons_succ,List.getElem?_cons_zero,List.map_cons,List.map_nil];exact kq.o wS I):=h ⟨k⟩
def uO (k:q) (h:Hk q->p:=by
 intro kq;refine jU (λW=>Qb w W) [true,true,true,true,true,true] bI9 bI9 sD (bR.drew) ?_;intro wS I;iterate 6
  all_goals first|(refine kI rfl I ?_)|(refine jF (v:=?_) rfl (λW hW=>?_) ?_;rotate_left;(· go_simp;try with_reducible rfl))
  all_goals try simp only [Act.put,zA,zB,zC]
 exact kq.o wS I):=h ⟨k⟩
def uP (k:q) (h:Hk q->p:=by
 intro kq;have L:=yD (idxOf_miss hlt HN.out);exact kq.o L):=h ⟨k⟩
def uQ (k:q) (h:Hk q->p:=by
 intro kq;refine QC q5 q6 λZ RM=>?_;exact kq.o Z RM):=h ⟨k⟩
def uR (a1:p1)(h:p1->p:=by
 intro EF;go_ret;exact ⟨jS L.symm,EF⟩):=h a1
def uS (k:q) (h:Hk q->p:=by
 intro kq;generalize G:World.setCell w5 _ _=w6;have az:Touch (λk=>k=w2.heap.size) w5 w6:=bD0;exact kq.o w6 G az):=h ⟨k⟩
def uT (k:q) (h:Hk q->p:=by
 intro kq;refine kIu (λW=>Qb bm W) [2,3,4] [(0,true),(1,true),(5,true),(6,true),(7,true),(8,true),(9,true),(10,true),(11,true),(12,true),(13,true),(14,true)] bI9 bI9 sD (bR.drew) ?_;intro wS I;simp only [jE,kBo,List.length_cons,List.length_nil,List.getElem?_cons_succ,List.getElem?_cons_zero,List.map_cons,List.map_nil,List.cons_append,List.nil_append,List.drop_succ_cons,List.drop_zero,Nat.reduceAdd,Nat.zero_add];iterate 3
  refine pre_read (v:=?_) rfl (λW=>?_) ?_;rotate_left;(· go_simp;try with_reducible rfl)
  refine jD ?_
 refine pre_nil ?_;iterate 12
  refine kZ ?_
 refine jq ?_;replace H:=yD (H.trans (Touch.of_below I));replace ae:=yD (ae.below I);exact kq.o wS I H ae):=h ⟨k⟩
def uU (k:q) (h:Hk q->p:=by
 intro kq;replace HQ:=yD (HQ.wide (T:=(λj=>w6.heap.size<=j/\j < b6.heap.size/\¬ ST j)) rO);have L:=yD ((kCa (f:=f) g5.out).trans (show ((x0,kDa (y0,y1,y2,y3,y4) t x0 (xc,xe),kJc y0 x2,kDe y0 x3 (kEo y0 x2),x4,kIq f y0 x4 x5,x6),kBu f (y0,y1,y2,y3,y4) (kEo y0 x2))=((x0,(xc,xe),P,s,x4,ms,x6),Q) by rw [ge.out,d7.out,f0.out,g9.out,fr.out,fi.out]));obtain ⟨U,N,af,X,D,ah,ag,ai,J⟩:=zD BO;obtain ⟨a9,bb,b4,b3,b5,c8,c7,c9,du⟩:=zD BR;obtain ⟨be,bd,bv,bx,b0,cz,c5,c4,dn⟩:=kCf BR;go_wp2;exact kq.o HQ L U N af X D ah ag ai J a9 bb b4 b3 b5 c8 c7 c9 du be bd bv bx b0 cz c5 c4 dn):=h ⟨k⟩
def uV (k:q) (h:Hk q->p:=by
 intro kq;replace HQ:=yD (HQ.wide (T:=(λj=>w6.heap.size<=j/\j < er.heap.size/\¬ ST j)) rO);have L:=yD ((kCa (f:=f) g5.out).trans (show ((x0,kDa (y0,y1,y2,y3,y4) t x0 (xc,xe),kJc y0 x2,kDe y0 x3 (kEo y0 x2),x4,kIq f y0 x4 x5,x6),kBu f (y0,y1,y2,y3,y4) (kEo y0 x2))=((x0,(xc,ev),P,s,x4,ms,x6),Q) by rw [ge.out,d7.out,f0.out,g9.out,fr.out,fi.out]));obtain ⟨U,N,af,X,D,ah,ag,ai,J⟩:=zD BO;obtain ⟨a9,bb,b4,b3,b5,c8,c7,c9,du⟩:=zD BR;obtain ⟨be,bd,bv,bx,b0,cz,c5,c4,dn⟩:=kCf BR;go_wp2;exact kq.o HQ L U N af X D ah ag ai J a9 bb b4 b3 b5 c8 c7 c9 du be bd bv bx b0 cz c5 c4 dn):=h ⟨k⟩
def uW (h:p:=by
 have ae:Qd w7 w 0 (.slice none 0 0):=kE R rfl;have aw:Qd w7 w 1 (.slice none 0 0):=kE R rfl;exact LM):=h
def uX (k:q) (h:Hk q->p:=by
 intro kq;refine kBz ?_;intro X EB N Z _;obtain ⟨ah,J,U,aa,ac,a4,bv,bn⟩:=jX N;obtain ⟨F,V,aj,a5,a8,bj,bz,bx⟩:=jX Z;clear N Z;have FX:=yD (λ(W:World) (hW:Qb X W)=>cLs16 hW ah J U aa ac a4 bv bn F V aj a5 a8 bj bz bx);refine kX (λW=>Qb X W) [true,true,true,true,false,true,true,true,true,true,false,true,true,true,true,true,true,false,true,true,true,true,true,true,false,true,true,true,true,true,true,false,true,true,true,true,true,true,false,true,true,true,true,true,true,true,true,true] bR ?_;exact kq.o X EB ah J U aa ac a4 bv bn F V aj a5 a8 bj bz bx FX):=h ⟨k⟩
def uY (k:q) (h:Hk q->p:=by
 intro kq;generalize R:World.alloc wr _=wC;have EC:Qb wr wC:=vT;have a9:wC.heap.size=wr.heap.size + 1:=bI2;have M0:Qd wC wr 0 (Qs ai x0 a6):=bB0;exact kq.o wC R EC a9 M0):=h ⟨k⟩
def uZ (k:q) (h:Hk q->p:=by
 intro kq;obtain ⟨k,hk⟩:∃ k,k + 1=j:=⟨j - 1,by omega⟩;have aq:j < cu.length:=by have:=an.out;omega
 have Z:k < cu.length:=bJ5;have X:j < n:=bJ5;have ek:(j:Int) < n:=bJ5;have br:(k:Int) < n:=bJ5;have dt:=Int.natCast_nonneg k;have bh:(j:Int) - 1=(k:Int):=bJ5;have hw:IntKind.i64.wrap (k:Int)=k:=IntWalk.i64_in _ bJ5;have hp:decide ((j:Int) > a)=true:=bJ0;have bv:(a:Int) < j:=bJ5;have HY:=yD (λq=>(jGs (key:=key) hk bj aq Z q).symm.trans ba.out);have ax:=yD (λq=>(inner_no (key:=key) (a:=a) hk aq Z q).symm.trans ba.out);exact kq.o k hk aq Z X ek br dt bh hw hp bv HY ax):=h ⟨k⟩
def vF (k:q) (h:Hk q->p:=by
 intro kq;obtain ⟨i,hi,hz,hsize,E⟩:=info_parts hinf;obtain ⟨cells,hsrc,hrow⟩:=jIh hy.1;have D:row r true w cells ys (λ_=>False):=kUe hf hrow;obtain ⟨v',w',hr,h2,h3⟩:=kIf (P:=P) (ty:=ty) ht hi hz hsize hzs hn bJ5 hown hsrc (zu hrow) (row_one hrow) hlen;exact kq.o i hi hz hsize E cells hsrc hrow D v' w' hr h2 @h3):=h ⟨k⟩
def wB (k:q) (h:Hk q->p:=by
 intro kq;have a5:=kJm aw.out Z;have bl:=yD (λq1=>ms_star1 (s:=s) (out:=out) H2.out Z q1);have b6:=yD (λq1 q2 q3=>ms_new (s:=s) (out:=out) H2.out Z q1 q2 q3);have bf:=yD (λq1 q2 j q3 q4 q5=>ms_old (s:=s) (out:=out) (j:=j) H2.out Z q1 q2 q3 q4 q5);have be:=yD (λq1 q2 j q3 q4 q5=>ms_other (s:=s) (out:=out) (j:=j) H2.out Z q1 q2 q3 q4 q5);have bi:=yD (λq1 q2 q3=>ms_same (s:=s) (out:=out) H2.out Z q1 q2 q3);have bk:=yD (λq1 q2 q3=>ms_diff (s:=s) (out:=out) H2.out Z q1 q2 q3);exact kq.o a5 bl b6 bf be bi bk):=h ⟨k⟩
def x8 (a1:p1)(k:q) (h:p1->Hk q->p:=by
 intro d8 kq;have f3:=Nat.le_of_eq d8;have f1:=Nat.le_of_eq d8.symm;clear d8;exact kq.o f3 f1):=h a1 ⟨k⟩
def x9 (k:q) (h:Hk q->p:=by
 intro kq;have hk:k < x2.length:=bJ5;obtain ⟨d5,dn,ag,ce,bq,ac⟩:=kD.kUg HL.out hk;simp only [Option.some.injEq,Addr.mk.injEq,and_true] at ag;obtain ⟨rfl,rfl⟩:=ag;obtain ⟨v0,v1,rfl,hN,hR,hs⟩:=kUi bq;exact kq.o hk v0 v1 bq ac hN hR hs):=h ⟨k⟩
def xA (k:q) (h:Hk q->p:=by
 intro kq;go_upto_region 13 with fail;obtain ⟨ae,aw,bh,bj,bt⟩:=jP R;obtain ⟨ap,ah,O,L,E⟩:=jP B;obtain ⟨au,av,be,bi,bp⟩:=kBb R;exact kq.o ae aw bh bj bt ap ah O L E au av be bi bp):=h ⟨k⟩
def xB (k:q) (h:Hk q->p:=by
 intro kq;go_simp;generalize G:World.setCell (World.setCell (World.setCell (World.setCell (World.setCell W _ _) _ _) _ _) _ _) _ _=v;have hT:Touch (λk=>k=b) W v:=(by rw [<- G];exact sT5);exact kq.o v G hT):=h ⟨k⟩
def xC (h:p:=by
 have L:=yD (aa.out bJ3);go_wp2;go_roundw;case rel =>
  refine ⟨m + 1,U,by omega,by omega,rfl,by go_num,yD bB7,yD ?_,yD (E.trans (Touch.of_below E5.out))⟩;rw [L.out,show m + 1 - U=(m - U) + 1 by omega];exact ab.below E5.out
 simp [intOf];omega):=h
def xD (k:q) (h:Hk q->p:=by
 intro kq;go_wp2_with (at_builtin;refine kD.jN rfl _ _ 25 rfl (r:=kz) (e:=135) underlying25 zH rfl bJ4 bJ4 (B:=w.heap.size + 3) F.out bJ7 bJ7 rfl (kD.own.wide (T:=jW wr wT) (kD.yR (r:=jC) (q:=kD.int) (cs:=[.slice a7 x.1.1.length b7,.slice bg x.1.2.1.length c2,.slice a8 x.1.2.2.1.length cl,.int .i64 x.1.2.2.2.1,.int .i64 x.1.2.2.2.2]) (ds:=[.int .i64 x.2]) (x:=x.1) (y:=x.2) (OT.below (tQ ED I)) (kD.jB HU.out)) (λj J=>J)) rfl pQ vD pJ bJ5 bJ5 ?_);intro v2 w2 G O am;exact kq.o v2 w2 G O am):=h ⟨k⟩
def xE (k:q) (h:Hk q->p:=by
 intro kq;refine PZ ?_;intro wS I;iterate 6
  all_goals refine kZ ?_
 exact kq.o wS I):=h ⟨k⟩
def xG (k:q) (h:Hk q->p:=by
 intro kq;have a1:=yx (T:=λk=>S k/\k < w.heap.size) (yu (w':=w.drew.alloc (.cells (cs.toArray++cells.toArray++Builtin.zeroCells z.cells (grownCap w (xs.length + m) cap e - (xs.length + m))) e)) (kAh g7) (λk hk=>heap_alloc_old w.drew _ hk.2)) (λk hk=>⟨hk.1.1,hk.2⟩);have a2:=yx (T:=λk=>T k/\k < w.heap.size) (yu (w':=w.drew.alloc (.cells (cs.toArray++cells.toArray++Builtin.zeroCells z.cells (grownCap w (xs.length + m) cap e - (xs.length + m))) e)) (kAh hrow) (λk hk=>heap_alloc_old w.drew _ hk.2)) (λk hk=>hk);exact kq.o a1 a2):=h ⟨k⟩
def xH (h:p:=by
 exact QY):=h
def xI (k:q) (h:Hk q->p:=by
 intro kq;have fr:=yD (kZy (f:=f) (x5:=x5) gq.out);have L:=yD ((kCa (f:=f) g5.out).trans (show ((x0,kDa (y0,y1,y2,y3,y4) t x0 (xc,xe),kJc y0 x2,kDe y0 x3 (kEo y0 x2),x4,kIq f y0 x4 x5,x6),kBu f (y0,y1,y2,y3,y4) (kEo y0 x2))=((x0,(xc,ev),P,s,x4,x5,x6),Q) by rw [ge.out,d7.out,f0.out,g9.out,fr.out,fi.out]));obtain ⟨U,N,af,X,D,ah,ag,ai,J⟩:=zD BO;obtain ⟨a9,bb,b4,b3,b5,c8,c7,c9,du⟩:=zD BR;obtain ⟨be,bd,bv,bx,b0,cz,c5,c4,dn⟩:=kCf BR;go_wp2;exact kq.o fr L U N af X D ah ag ai J a9 bb b4 b3 b5 c8 c7 c9 du be bd bv bx b0 cz c5 c4 dn):=h ⟨k⟩
def xJ (k:q) (h:Hk q->p:=by
 intro kq;have fr:=yD (kZy (f:=f) (x5:=x5) gq.out);have L:=yD ((kCa (f:=f) g5.out).trans (show ((x0,kDa (y0,y1,y2,y3,y4) t x0 (xc,xe),kJc y0 x2,kDe y0 x3 (kEo y0 x2),x4,kIq f y0 x4 x5,x6),kBu f (y0,y1,y2,y3,y4) (kEo y0 x2))=((x0,(xc,xe),P,s,x4,x5,x6),Q) by rw [ge.out,d7.out,f0.out,g9.out,fr.out,fi.out]));obtain ⟨U,N,af,X,D,ah,ag,ai,J⟩:=zD BO;obtain ⟨a9,bb,b4,b3,b5,c8,c7,c9,du⟩:=zD BR;obtain ⟨be,bd,bv,bx,b0,cz,c5,c4,dn⟩:=kCf BR;go_wp2;exact kq.o fr L U N af X D ah ag ai J a9 bb b4 b3 b5 c8 c7 c9 du be bd bv bx b0 cz c5 c4 dn):=h ⟨k⟩
def xK (k:q) (h:Hk q->p:=by
 intro kq;have b3:=dm.2;have bk:=dm.1;have FX:=yD (λ(W:World) (hW:Touch (λk=>k=p) w4 W/\yz w0 W p)=>kE (hW.1.kC BX bJ5) (j:=3) (v:=.slice (some ⟨bb,off,none⟩) x2.length c2) rfl);refine yZ (λW=>Touch (λk=>k=p) w4 W/\yz w0 W p) bI9 (⟨Touch.of_below bR.drew,hc.below bR.drew⟩) ?_;intro t I;have ee:=I.1.size;refine QM ?_;refine kP 3 ?_;refine kP 4 ?_;refine kP 5 ?_;refine kHo ?_;intro T A hT hA;exact kq.o b3 bk FX t I ee T A hT hA):=h ⟨k⟩
def xL (k:q) (h:Hk q->p:=by
 intro kq;refine kBz ?_;intro X EB N Z _;obtain ⟨ah,J,U⟩:=kBc N;obtain ⟨F,V,aj⟩:=kBc Z;clear N Z;have FX:=yD (λ(W:World) (hW:Qb X W)=>kPa hW ah J U F V aj);exact kq.o X EB ah J U F V aj FX):=h ⟨k⟩
def xM (k:q) (h:Hk q->p:=by
 intro kq;go_upto_region 6 with fail;generalize R:World.alloc wT _=wC;have EC:Qb wT wC:=vT;have Y:Qd wC wT 0 (Qs a7 x0 b7):=bB0;clear R;have ER:=(tQ ba EC);exact kq.o wC EC Y ER):=h ⟨k⟩
def xN (k:q) (h:Hk q->p:=by
 intro kq;go_enter func263,ntmps263;have O0:kD.ko 5 kD.byte ((w.alloc (.cells #[.slice an n.length am] 41)).alloc (.cells #[] 5)) (.slice (some ⟨w.heap.size + 1,0,none⟩) 0 0) [] (λk=>k=w.heap.size + 1):=by
  have h:=kD.yf (e:=5) (r:=kD.byte) (w:=w.alloc (.cells #[.slice an n.length am] 41)) (cs:=[]) (xs:=[]) (T:=λ_=>False) (S:=λk=>k=w.heap.size + 1) bJ6 bJ6 rfl (λ_ h=>h.elim) bJ6;simpa using h
 exact kq.o O0):=h ⟨k⟩
def xO (k:q) (h:Hk q->p:=by
 intro kq;refine QL λgg hv=>?_;exact kq.o gg hv):=h ⟨k⟩
def xP (k:q) (h:Hk q->p:=by
 intro kq;obtain ⟨b6,c8,co,c9⟩:=zF RT;obtain ⟨cd,cz,c7,da⟩:=kIg RT;go_simp;generalize G:World.setCell (World.setCell (World.setCell (World.setCell t3 _ _) _ _) _ _) _ _=t4;have hT:Touch (λk=>k=w.heap.size + 1) t3 t4:=(by rw [<- G];exact sT4);replace RT:Qr t4 (w.heap.size + 1) #[Qs a7 ar az,Qs bg bo bw,Qs a8 a9 bz,Qs bl ba bv] 38:=(by rw [<- G];exact kG (kG (kG (kG (RT) 0) 1) 2) 3);have d3:=hT.size;clear G b6 cd c8 cz co c7 c9 da;exact kq.o t4 hT RT d3):=h ⟨k⟩
def xQ (k:q) (h:Hk q->p:=by
 intro kq;have J:j < l.length:=bJ5;have dh:=Int.natCast_nonneg j;have a7:=Int.ofNat_lt.2 J;obtain ⟨yb,yo,yE,bm,br,bo,yr,E,bc,a1⟩:=kD.zx N.1 J rfl;simp only [Option.some.injEq,Addr.mk.injEq,and_true] at yE;obtain ⟨rfl,rfl⟩:=yE;obtain ⟨rfl,rfl,bp,bj,bv,b0⟩:=yS yr;obtain ⟨ya,yp,rfl,yl⟩:=kD.sl bj;clear yr bv b0 bj bp;have hno:=λq=>(mB_no (n:=n) hlt q).trans HM.out;have ak:=λq q2=>mB_up (n:=n) hlt q J HM.out q2;have O:=λq2=>mB_keep (n:=n) hlt J HM.out q2;exact kq.o J dh a7 bc a1 ya yp yl E hno ak O):=h ⟨k⟩
def xR (h:p:=by
 have HB:=yD (hi_byte hlt);have HV:=yD (kZv hlt);go_wp2_with (at_builtin;refine kD.jN rfl _ _ 22 rfl (r:=kD.byte) (e:=5) underlying22 kDm rfl bJ4 bJ4 (B:=w.heap.size) F.out bJ7 bJ7 rfl (kNc (x:=UInt8.ofNat m) nS) rfl (λ_ _ h=>h) vD (λ_ h=>h.elim) bD2 bJ0 ?_);intro v3 w3 E U bq;have ap:=yD E;obtain ⟨a3,n3,c3,ar,ba⟩:=E.parts;obtain rfl:=ar;have G:=D.trans U;clear E U;go_wp2;go_ret;exact ⟨_,rfl,ap.cast mJ,G⟩):=h
def xS (a1:p1)(a2:p2)(a3:p3)(a4:p4)(k:q) (h:p1->p2->p3->p4->Hk q->p:=by
 intro V a2 a4 a5 kq;have FX:=yD (λ(W:World) (hW:Qb wr W)=>kIm hW V a2 a4 a5);exact kq.o FX):=h a1 a2 a3 a4 ⟨k⟩
def xU (k:q) (h:Hk q->p:=by
 intro kq;have BN:Qr X w (Qh bc x.1 I x.2.1.1 ba x.2.1.2 E a2 x.2.2.1 az J x.2.2.2.1 a1 an x.2.2.2.2.1 af aw x.2.2.2.2.2.1 au x.2.2.2.2.2.2) 33:=tZ;have BT:Qr X (w.heap.size + 1) #[Qs a7 t.1 b7,Qs bg t.2.1 c2,Qs a8 t.2.2.1 cl,Qs bl t.2.2.2 av] 38:=by rw [<- U];exact jJ (kg bJ6)
 have BX:Qr X (w.heap.size + 1 + 1) (Qf ak a3 b5 b3 b2 bq y) 43:=by rw [<- U];exact kg bJ6
 obtain ⟨bn,ax,ah,R,ag,ao,aj,ai⟩:=jX BN;exact kq.o BN BT BX bn ax ah R ag ao aj ai):=h ⟨k⟩
def xV (a1:p1)(a2:p2)(a3:p3)(a4:p4)(a5:p5)(k:q) (h:p1->p2->p3->p4->p5->Hk q->p:=by
 intro O3 ag E2 N H kq;have ap:=yD O3;clear O3;have bq:=ag.size;have F3:=(tQ E2 ag);replace N:=yD (kC N.out ag);replace H:=yD (kC H.out ag);exact kq.o ap bq F3 N H):=h a1 a2 a3 a4 a5 ⟨k⟩
def xW (a1:p1)(h:p1->p:=by
 intro G;go_wp2;go_ret;exact ⟨rfl,G⟩):=h a1
def xX (k:q) (h:Hk q->p:=by
 intro kq;refine QF ?_;intro wS I;iterate 3
  all_goals refine kZ ?_
 exact kq.o wS I):=h ⟨k⟩
def xY (k:q) (h:Hk q->p:=by
 intro kq;have dh:=jBw (n:=y0) (s:=x3) hlt;have hj:=λq=>jHd (f:=f) (y:=(y0,y1,y2,y3,y4)) hlt q;have gt:=λq=>dataQ_no (f:=f) (y:=(y0,y1,y2,y3,y4)) hlt q;obtain ⟨s,hs⟩:∃ s,kDe y0 x3 (R.take k)=s:=⟨_,rfl⟩;rw [hs] at F dh;have e5:s.length<=2000000:=nW;clear hs;obtain ⟨Q,fo⟩:∃ Q,kBu f (y0,y1,y2,y3,y4) (R.take k)=Q:=⟨_,rfl⟩;have gp:Q.length<=16777216:=cO;rw [fo] at HQ hj gt;clear fo;exact kq.o s dh F e5 Q gt hj HQ gp):=h ⟨k⟩
def xZ (a1:p1)(k:q) (h:p1->Hk q->p:=by
 intro h kq;obtain ⟨⟨a',H,cap',h0,h1,h2,h3,h4⟩,gf,O⟩:=h;simp only [List.cons.injEq,Value.slice.injEq,and_true] at h0;obtain ⟨rfl,rfl,rfl⟩:=h0;exact kq.o gf O h1 h3 h4 h2):=h a1 ⟨k⟩
def y5 (k:q) (h:Hk q->p:=by
 intro kq;refine QQ ?_;exact kq.o):=h ⟨k⟩
def y7 (k:q) (h:Hk q->p:=by
 intro kq;obtain ⟨b,bf⟩:∃ b_,b_=t.heap.size:=⟨_,rfl⟩;rw [<- bf] at BB ⊢;exact kq.o b BB bf):=h ⟨k⟩
def y8 (k:q) (h:Hk q->p:=by
 intro kq;refine kK (k:=9) rfl bI9 rfl (λK E=>?_);exact kq.o K E):=h ⟨k⟩
def y9 (k:q) (h:Hk q->p:=by
 intro kq;refine kBz ?_;intro X EB N Z _;obtain ⟨ah,J,U,aa,ac⟩:=jP N;obtain ⟨F,V,aj,a5,a8⟩:=jP Z;clear N Z;have FX:=yD (λ(W:World) (hW:Qb X W)=>kYs hW ah J U aa ac F V aj a5 a8);refine kX (λW=>Qb X W) [true,true,true,true,false,true,true,true,true,true,false,true,true,true,true,true,true,false,true,true,true,true,true,true,true,true,true,true,true,true,true,true,true,true] bR ?_;exact kq.o X EB ah J U aa ac F V aj a5 a8 FX):=h ⟨k⟩
def z8 (k:q) (h:Hk q->p:=by
 intro kq;have bk:¬ cap=k:=bJ5;have dm:=yD (kD.jAd a8.out (k:=k) bD5);rw [Nat.zero_add,show k * kD.int.n=k from Nat.mul_one k] at dm;refine TJ λFX wS I=>?_;exact kq.o bk dm FX wS I):=h ⟨k⟩
def A7 (a1:p1)(k:q) (h:p1->Hk q->p:=by
 intro R kq;replace R:=kC R O;have TE:Touch (λk=>k=p) w w2:=Touch.of_below (tQ H O);exact kq.o R TE):=h a1 ⟨k⟩
def A8 (k:q) (h:Hk q->p:=by
 intro kq;have bg:=Int.ofNat_lt.2 hlt;have dt:=Int.natCast_nonneg k;have cz:(k:Int)<=(pl:Int):=bJ5;exact kq.o bg dt cz):=h ⟨k⟩
def A9 (k:q) (h:Hk q->p:=by
 intro kq;have hG:=G.out;rw [List.drop_eq_getElem_cons hlt] at hG;have br:=λq=>kDp (p:=λy=>!p y) hlt q;have bn:=λq=>kCh (p:=λy=>!p y) hlt q;obtain ⟨cs,hr,ag,a3,ac,V⟩:=hG.next;have W:=hG.skip;have ah:=hG.frozen;exact kq.o hG br bn cs hr ag a3 ac V W ah):=h ⟨k⟩
def AA (k:q) (h:Hk q->p:=by
 intro kq;have V:Qd bo w 0 (Qs dg x0 dd):=kE BX rfl;have Y:Qd bo w 1 (Qn xc):=kE BX rfl;have ab:Qd bo w 2 (Qs dj xe di):=kE BX rfl;have Z:Qd bo w 3 (Qs d4 x2 dz):=kE BX rfl;have aa:Qd bo w 4 (Qs eb x3 d9):=kE BX rfl;have aj:Qd bo w 5 (Qs d3 x4 dy):=kE BX rfl;have ak:Qd bo w 6 (Qs dx x5 dr):=kE BX rfl;have al:Qd bo w 7 (Qn x6):=kE BX rfl;have bn:Qd bo w9 0 (Qs ma M mp):=kE BN rfl;exact kq.o V Y ab Z aa aj ak al bn):=h ⟨k⟩
def AB (k:q) (h:Hk q->p:=by
 intro kq;have V:Qd b6 w 0 (Qs dg x0 dd):=kE BX rfl;have Y:Qd b6 w 1 (Qn xc):=kE BX rfl;have ab:Qd b6 w 2 (Qs dj xe di):=kE BX rfl;have Z:Qd b6 w 3 (Qs d4 x2 dz):=kE BX rfl;have aa:Qd b6 w 4 (Qs eb x3 d9):=kE BX rfl;have aj:Qd b6 w 5 (Qs d3 x4 dy):=kE BX rfl;have ak:Qd b6 w 6 (Qs dx x5 dr):=kE BX rfl;have al:Qd b6 w 7 (Qn x6):=kE BX rfl;have bn:Qd b6 cf 0 (Qs ma M mp):=kE BN rfl;exact kq.o V Y ab Z aa aj ak al bn):=h ⟨k⟩
def AC (a1:p1)(a2:p2)(k:q) (h:p1->p2->Hk q->p:=by
 intro BR BQ kq;have a9:Qc w4 (w.heap.size + 2) 0 (.slice none 0 0):=kE BR rfl;have bb:Qc w4 (w.heap.size + 2) 1 (.slice none 0 0):=kE BR rfl;have b4:Qc w4 (w.heap.size + 2) 2 (.slice none 0 0):=kE BR rfl;have b3:Qc w4 (w.heap.size + 2) 3 (Qn 0):=kE BR rfl;have b5:Qc w4 (w.heap.size + 2) 4 (Qn 0):=kE BR rfl;obtain ⟨db,dk,dl,cd,cg⟩:=jP BQ;obtain ⟨be,bd,bv,bx,b0⟩:=kBb BR;go_wp2;exact kq.o a9 bb b4 b3 b5 db dk dl cd cg be bd bv bx b0):=h a1 a2 ⟨k⟩
def AJ (k:q) (h:Hk q->p:=by
 intro kq;generalize G:World.setCell w4 _ _=w5;have cg:Touch (λk=>k=w2.heap.size) w4 w5:=bD0;exact kq.o w5 G cg):=h ⟨k⟩
def AL (k:q) (h:Hk q->p:=by
 intro kq;refine OV a2 a4 a5 λFX=>?_;refine kN (λW=>Qb wr W) [true,true,true,true,true,false,true,true,true,true,true,true,true,false,true,true,true,true,true,true,true,true,false,true,true,true,true,true,true,true,true,true,true,true,true,true,true,true,true,false,true,true] bI9 bI9 sD (bR.drew) ?_;refine PM λwS I=>?_;exact kq.o FX wS I):=h ⟨k⟩
def AP (k:q) (h:Hk q->p:=by
 intro kq;have V:Qd w8 w 0 (Qs dg x0 dd):=kE BX rfl;have Y:Qd w8 w 1 (Qn xc):=kE BX rfl;have ab:Qd w8 w 2 (Qs dj xe di):=kE BX rfl;have Z:Qd w8 w 3 (Qs d4 x2 dz):=kE BX rfl;have aa:Qd w8 w 4 (Qs eb x3 d9):=kE BX rfl;have aj:Qd w8 w 5 (Qs d3 x4 dy):=kE BX rfl;have ak:Qd w8 w 6 (Qs dx x5 dr):=kE BX rfl;have al:Qd w8 w 7 (Qn x6):=kE BX rfl;obtain ⟨au,aw,bi,bm,bk⟩:=jP BD;exact kq.o V Y ab Z aa aj ak al au aw bi bm bk):=h ⟨k⟩
def AQ (k:q) (h:Hk q->p:=by
 intro kq;refine jU (λW=>Qb w W) [true,true,true,true,true,true] bI9 bI9 sD (bR.drew) ?_;exact kq.o):=h ⟨k⟩
def AR (k:q) (h:Hk q->p:=by
 intro kq;go_simp;generalize G:World.setCell (World.setCell (World.setCell (World.setCell (World.setCell t4 _ _) _ _) _ _) _ _) _ _=t5;have hT:Touch (λk=>k=w.heap.size + 2) t4 t5:=(by rw [<- G];exact sT5);replace V:Qr t5 (w.heap.size + 2) (Qf b0 b2 cg ch b9 cl y) 43:=(by rw [<- G];exact kG (kG (kG (kG (kG (V) 0) 1) 2) 3) 4);have d9:=hT.size;clear G;exact kq.o t5 hT V d9):=h ⟨k⟩
def AU (k:q) (h:Hk q->p:=by
 intro kq;have R:=λq=>idxOf_hit hlt q HN.out;have J:=λq=>kAl hlt q HN.out;exact kq.o R J):=h ⟨k⟩
def AV (a1:p1)(k:q) (h:p1->Hk q->p:=by
 intro HV kq;have bn:=I.size;go_simp;have R:Below t1 t1 (World.alloc t1 (.cells #[.int .i64 x.2.2.2.1] 3)):=bR.alloc nL _;have bd:t1.heap.size + 1<=(World.alloc t1 (.cells #[.int .i64 x.2.2.2.1] 3)).heap.size:=(by simp);have H:=kLo (w:=t1) (x:=x.2.2.2.1) (e:=3) HF.out;generalize aa:World.alloc t1 (.cells #[.int .i64 x.2.2.2.1] 3)=t2 at R bd H ⊢;clear aa;replace HV:=HV.below R;exact kq.o bn t2 R bd H HV):=h a1 ⟨k⟩
def AX (h:p:=by
 replace ck:=yD (ck.touch av rU);replace HQ:=yD (HQ.touch av rU);replace ae:=yD (ae.touch av rU);refine NJ av λH=>?_;clear U N af X D ah ag ai J ao ar ax a1 a2 a6 a5 a4 b1 av;refine Qg ?_;exact ⟨k + 1,ga,va,gn,gc,s2.length,vc,SN,by go_num,by omega,yD ((kD.ko.cast HQ.out (h9.out hne).symm).wide rO),yD fM,ck,BX,BD,BR,BO,by omega,H⟩):=h
def AY (k:q) (h:Hk q->p:=by
 intro kq;go_simp;have R:Below wS wS (World.alloc wS (.cells #[] 5)):=bR.alloc nL _;have be:wS.heap.size + 1<=(World.alloc wS (.cells #[] 5)).heap.size:=(by simp);have Z:=((kD.ko.void (e:=5) (r:=kD.byte) (w:=(World.alloc wS (.cells #[] 5))) (a:=some ⟨wS,0,none⟩) (S:=λ_=>False)).own (Nat.zero_le _)).rd;generalize aa:World.alloc wS (.cells #[] 5)=t0 at R be Z ⊢;clear aa;exact kq.o t0 R be Z):=h ⟨k⟩
def AZ (k:q) (h:Hk q->p:=by
 intro kq;have FX:=yD (λ(W:World) (hW:Qb wr W)=>kPa hW ak a9 ba a2 a4 a5);refine kN (λW=>Qb wr W) [true,true,true,true,true,true,true,true,true,true,true,true,true,true,true,true,true,true,true,true,true,true,true,true,true,true,true,true,true,true,true,true,true,true,true,false,true,true] bI9 bI9 sD (bR.drew) ?_;intro wS I;iterate 11
  all_goals refine kZ ?_
 exact kq.o FX wS I):=h ⟨k⟩
def BF (k:q) (h:Hk q->p:=by
 intro kq;obtain ⟨a',H,cap',h0,h1,h2,h3,h4⟩:=h;simp only [List.cons.injEq,Value.slice.injEq,and_true] at h0;obtain ⟨rfl,rfl,rfl⟩:=h0;exact kq.o h1 h3 h4 h2):=h ⟨k⟩
def BG (k:q) (h:Hk q->p:=by
 intro kq;obtain ⟨k,Z,al⟩:=kCo hk;have bd:=yD al;rw [al];have L:=yD (jDr al Z);clear al;have bg:(0:Int)<=k:=bJ5;have bu:(k:Int) < x.2.2.1.length:=bJ5;have O:=E2;obtain ⟨qb,qo,qE,c0,c1,c2,qr,Q0,W,Q2⟩:=kD.zx (HP.below O) Z rfl;obtain ⟨rfl,au,az,aw,bi⟩:=jV qr;obtain ⟨sa,sp,rfl,_⟩:=kD.sl aw;have HB:=yD (cw.2 _ (List.getElem_mem Z));clear qr au az bi Q0 Q2;exact kq.o k Z bd L bg bu O qb qo qE c0 sa sp W aw HB):=h ⟨k⟩
def BH (k:q) (h:Hk q->p:=by
 intro kq;replace HB:Hid (Cc.jv v [Qs ba L X] L (Ql V v b)):=yD ((HB.below hb).wide fB);exact kq.o HB):=h ⟨k⟩
def BI (k:q) (h:Hk q->p:=by
 intro kq;go_simp;refine (kJp (s:=zz l yb) a4 (cx:=[.slice na n.length nc,.slice ba b_.length X,.slice ya yb.length yc,.int .i64 tl,.int .i64 0]) (x:=(n,b_,yb,tl,0)) (jDx (S:=λ_=>True) ((HN.below H).below I) ((HB.below H).below I) ((HY.below H).below I) ht bJ5) (by show b_.length<=_;omega)).mono ?_;rintro e v ⟨sg,ds,rfl,hO,ch,hb⟩;have zv:=hb.size;exact kq.o v sg ds hO ch hb zv):=h ⟨k⟩
def BJ (k:q) (h:Hk q->p:=by
 intro kq;have hb:Qb w w1:=by rw [<- G];exact (((bR.alloc nL _).alloc bF5 _).alloc bF5 _)
 have R:Qr w1 w #[.slice none 0 0,Qn 0,.slice none 0 0,.slice none 0 0,.slice none 0 0,.slice none 0 0,.slice none 0 0,Qn 0] 33:=tT;have RT:Qr w1 (w.heap.size + 1) #[.slice none 0 0,.slice none 0 0,.slice none 0 0,.slice none 0 0] 38:=by rw [<- G];exact jJ (kg bJ6)
 exact kq.o hb R RT):=h ⟨k⟩
def BL (k:q) (h:Hk q->p:=by
 intro kq;have L:=yD (an.out bJ3);replace O0:=cL E5.out O0;replace Z0:=(E5.frozen (p:=⟨b,U * 3,none⟩) HB.out).trans Z0;replace O1:=cL E5.out O1;replace Z1:=(E5.frozen (p:=⟨b,U * 3 + 1,none⟩) HB.out).trans Z1;replace O2:=cL E5.out O2;replace Z2:=(E5.frozen (p:=⟨b,U * 3 + 2,none⟩) HB.out).trans Z2;obtain ⟨Z,ai⟩:=bg.out w5 E5.out bJ5 _ rfl;exact kq.o L O0 Z0 O1 Z1 O2 Z2 Z ai):=h ⟨k⟩
def BP (k:q) (h:Hk q->p:=by
 intro kq;have cw:=yD (show ∀ k (h:k < t.2.2.2.length),jC.bdd Big t.2.2.2[k] from λk h=>ac.2.2.2.2.2 _ (List.getElem_mem h));have bx:=yD hB;exact kq.o cw bx):=h ⟨k⟩
def BZ (h:p:=by
 rcases h with ⟨⟨a,rfl⟩,rfl⟩|⟨b,cap,cur,cs,tl,rfl,h1,h2,h3,h4,h5,h6,h7⟩;exact ⟨a,0,0,rfl,rfl,Nat.le_refl _,Nat.zero_le _,.inl ⟨rfl,λ_=>rfl⟩⟩;exact ⟨_,_,cap,rfl,rfl,h1,h2,.inr ⟨b,0,rfl,cur,e,(0,0),[],cs,tl,h3,by simpa using h4,rfl,by omega,λ_=>⟨rfl,rfl⟩,h6,yx h7 (λk hk=>⟨hk.1,λ_=>hk.2⟩)⟩⟩):=h
def CB (a1:p1)(k:q) (h:p1->Hk q->p:=by
 intro G kq;go_simp;have R:Below t3 t3 (World.alloc t3 (.cells #[.int .i64 x.2.2.2.1] 3)):=bR.alloc nL _;have a4:t3.heap.size + 1<=(World.alloc t3 (.cells #[.int .i64 x.2.2.2.1] 3)).heap.size:=(by simp);have H:=kLo (w:=t3) (x:=x.2.2.2.1) (e:=3) HF.out;generalize aa:World.alloc t3 (.cells #[.int .i64 x.2.2.2.1] 3)=t4 at R a4 H ⊢;clear aa;replace G:=G.below R;exact kq.o t4 R a4 H G):=h a1 ⟨k⟩
def CE (k:q) (h:Hk q->p:=by
 intro kq;have bn:=I.size;go_simp;have R:Below wS wS (World.alloc wS (.cells #[.int .i64 x.2.2.2.1] 3)):=bR.alloc nL _;have be:wS.heap.size + 1<=(World.alloc wS (.cells #[.int .i64 x.2.2.2.1] 3)).heap.size:=(by simp);have H:=kLo (w:=wS) (x:=x.2.2.2.1) (e:=3) HF.out;generalize aa:World.alloc wS (.cells #[.int .i64 x.2.2.2.1] 3)=t0 at R be H ⊢;clear aa;exact kq.o bn t0 R be H):=h ⟨k⟩
def CF (k:q) (h:Hk q->p:=by
 intro kq;have bn:=I.size;go_simp;have R:Below t0 t0 (World.alloc t0 (.cells #[.int .i64 x.2.2.2.1] 3)):=bR.alloc nL _;have bh:t0.heap.size + 1<=(World.alloc t0 (.cells #[.int .i64 x.2.2.2.1] 3)).heap.size:=(by simp);have H:=kLo (w:=t0) (x:=x.2.2.2.1) (e:=3) HF.out;generalize aa:World.alloc t0 (.cells #[.int .i64 x.2.2.2.1] 3)=t1 at R bh H ⊢;clear aa;exact kq.o bn t1 R bh H):=h ⟨k⟩
def CG (k:q) (h:Hk q->p:=by
 intro kq;have bn:=I.size;go_simp;have R:Below t2 t2 (World.alloc t2 (.cells #[.int .i64 x.2.2.2.1] 3)):=bR.alloc nL _;have a7:t2.heap.size + 1<=(World.alloc t2 (.cells #[.int .i64 x.2.2.2.1] 3)).heap.size:=(by simp);have H:=kLo (w:=t2) (x:=x.2.2.2.1) (e:=3) HF.out;generalize aa:World.alloc t2 (.cells #[.int .i64 x.2.2.2.1] 3)=t3 at R a7 H ⊢;clear aa;exact kq.o bn t3 R a7 H):=h ⟨k⟩
def CJ (k:q) (h:Hk q->p:=by
 intro kq;have K5:Qd X w 5 (Qs d3 x.2.2.2.2.1 dy):=bA9;have K6:Qd X w 6 (Qs dx x.2.2.2.2.2.1 dr):=bA9;exact kq.o K5 K6):=h ⟨k⟩
def CK (a1:p1)(k:q) (h:p1->Hk q->p:=by
 intro E1 kq;have cd:=N.size;replace F:=yD ((F.below N).wide (T:=jW w w4) vD);clear E1;exact kq.o cd F):=h a1 ⟨k⟩
def CL (k:q) (h:Hk q->p:=by
 intro kq;obtain ⟨b,off,ha,cs,hr,hc⟩:=kFf h hi;have hl:=r.len hr;rw [hn] at hl hc;exact kq.o b off ha cs hr hc hl):=h ⟨k⟩
def CO (k:q) (h:Hk q->p:=by
 intro kq;have hG:=G.out;rw [List.drop_length,List.take_length] at hG;rw [List.take_length] at I;have HG:=yD hG;clear hG;have ao:(U:Int)<=l.length:=bJ5;have aq:(U:Int)<=cap:=bJ5;have dh:0 < l.length - U:=bJ5;exact kq.o I hlt HG ao aq dh):=h ⟨k⟩
def CP (k:q) (h:Hk q->p:=by
 intro kq;have L1:=kE ((D.block _ (show w.heap.size < w.heap.size + 1 + 1 by omega)).trans XB.out) (j:=1) (v:=Qs la l lp) rfl;have R:Qb w wr:=EA.trans (D.mono bJ5);have b4:=Int.natCast_nonneg k;exact kq.o L1 R b4):=h ⟨k⟩
def CQ (k:q) (h:Hk q->p:=by
 intro kq;have HD:Hid (1 < ps.length->Cg.own w2 [.slice (if c2=1 then some ⟨b2,0,none⟩ else some ⟨b2,1,none⟩) (ps.length - 1) (c2 - 1)] (ps.drop 1) (jW (w.heap.size + 1) w2)):=yD (by
   intro h1;have h:=(F.own bE7).wide (T:=jW (w.heap.size + 1) w2) qA;have be:¬ c2=1:=bJ5;rw [if_neg be];exact kD.kVe h (k:=1) bJ5)
 exact kq.o HD):=h ⟨k⟩
def CR (k:q) (h:Hk q->p:=by
 intro kq;have h:=h _ hS;unfold pre at h;unfold kMk at h;have F:HeadInv .any l.toArray (D.length + q.length) (Array.replicate l.toArray.size false) :=
   ⟨by simp,λj oj _ hl=>rF,λt _ ht=>getD_in bG8 (getD_replicate_false _ _)⟩
 refine wp_region_any hm ?_;obtain ⟨b1,b2,O,L,R,b6,N,I,U,G⟩:=hB;have E:q.all (λx=>decide (x.1 < D.length + q.length) && !D.contains x.1)=true:=gB;exact kq.o h F b1 b2 O L R b6 N I U G E):=h ⟨k⟩
def CS (k:q) (h:Hk q->p:=by
 intro kq;have F:Hid (kQ.own w2 [Qs a2 y.1 c2] y.1 (jW (w.heap.size + 1 + 1) w2)):=yD (O2.wide qD);have EF:Qb w w2:=G.trans (Below.mono (Below.trans bK V) G.size);replace R0:=cL V R0;replace F0:w2.frozen? ⟨w.heap.size + 1,0,none⟩=false:=(V.frozen (p:=⟨w.heap.size + 1,0,none⟩) (by have:=D.size;simp;omega)).trans F0;go_wp2;exact kq.o F EF R0 F0):=h ⟨k⟩
def CU (a1:p1)(k:q) (h:p1->Hk q->p:=by
 intro R kq;clear R;have FX:=yD (λ(W:World) (hW:Qb wC W)=>kJf hW M0 M1 M2);exact kq.o FX):=h a1 ⟨k⟩
def CV (k:q) (h:Hk q->p:=by
 intro kq;have dm:=yD (kD.jAd a8.out (k:=k) bp);rw [Nat.zero_add,show k * (kD.kHj jA w0).n=k * 3 from rfl] at dm;have FX:=yD (λ(W:World) (hW:Qb wq W)=>kJf hW Y K1 K2);refine N8 λwS I=>?_;refine kP 8 ?_;refine kP 9 ?_;refine kP 10 ?_;exact kq.o dm FX wS I):=h ⟨k⟩
def CW (a1:p1)(k:q) (h:p1->Hk q->p:=by
 intro BO kq;have ed:=yD (show u=y1.foldl (λs r=>yT s y0 r.2.1) s by have h_:=HU.out;rwa [List.take_length] at h_);replace bw:=yD (show kCb now (x0,(xc,xe),x2,x3,x4,x5,x6) (k + 1)=(u,if mOk y0 x4 then jBe (kOt (x0,(xc,xe),P,u,x4,m,x6) y0 0) (kAd y0 x4) m else m) by rw [bw.out,<- ed.out]);clear ed;obtain ⟨U,N,af,X,D,ah,ag,ai⟩:=jX BO;exact kq.o h_ bw U N af X D ah ag ai):=h a1 ⟨k⟩
def CX (k:q) (h:Hk q->p:=by
 intro kq;have aq:w3.frozen? ⟨w2,0,none⟩=false:=frozen_of_row w3 (w2.heap.size) 0 _ _ B;have GB:(World.alloc w3 (.cells #[.string { data:=#[97] }] 9)).frozen? ⟨w2,0,none⟩=false:=(frozen?_alloc_cells _ _ _ _).trans aq;have HB:(World.alloc w3 (.cells #[.string { data:=#[97] }] 9)).cell? ⟨w2,0,none⟩=some (.slice a 0 c):=kE (kC B (bR.alloc nL _)) rfl;exact kq.o aq GB HB):=h ⟨k⟩
def CY (k:q) (h:Hk q->p:=by
 intro kq;have BR:Qr w1 (w.heap.size + 2) #[Qn 0,.slice none 0 0] 27:=by rw [<- G];exact kg bJ6
 have br:w.heap.size + 3<=w1.heap.size:=bH7;obtain ⟨V,Y⟩:=yA BX;exact kq.o BR br V Y):=h ⟨k⟩
def CZ (k:q) (h:Hk q->p:=by
 intro kq;have a3:=kD.zL HL.out hlt;have dh:=List.take_succ_eq_append_getElem hlt;exact kq.o a3 dh):=h ⟨k⟩
def D5 (k:q) (h:Hk q->p:=by
 intro kq;have L:=Lib.run_convert_string_bytes (P:=prog) wr 9 22 5 s (u:=.string) underlying9 underlying22 underlying5;have I:=yD (kSc (w:=wr) (e:=5) (e2:=5) (s:=s) bJ5);have af:=bytesWorld_below' wr 5 s;obtain ⟨W1,Z⟩:∃ W1,W1=Lib.bytesWorld wr 5 s:=⟨_,rfl⟩;rw [<- Z] at L I af;clear Z;exact kq.o W1 af I L):=h ⟨k⟩
def D6 (h:p:=by
 clear H af;go_upto_region 10 with fail;obtain ⟨ae,aw⟩:=yA R;obtain ⟨bh,bj⟩:=yA BK;obtain ⟨au,av⟩:=kCg R;go_wp2;refine bodyPost_ret (v:=.agg #[Qn kc,Qs a3 q c3]) nI rfl ⟨a3,c3,kc,q,rfl,?_,by omega,hc.touch sT2 bJ5 bF2,TE.jO sT2 bJ5⟩;exact ((kMd HQ.out bJ5).touch (T:=λk=>k=w.heap.size) sT2 wI).wide gK):=h
def D7 (k:q) (h:Hk q->p:=by
 intro kq;have bw:=yD (show kCb now (x0,(xc,xe),x2,x3,x4,x5,x6) (k + 1)=((y1.foldl (λs r=>yT s y0 r.2.1) s),if mOk y0 x4 then jBe (kOt (x0,(xc,xe),P,(y1.foldl (λs r=>yT s y0 r.2.1) s),x4,m,x6) y0 0) (kAd y0 x4) m else m) by rw [bg.out];unfold kDv;rw [if_neg cw,if_neg cd]);have ej:decide (0<=idxOf (jR y0) P)=false:=bH5;exact kq.o bw ej):=h ⟨k⟩
def D8 (k:q) (h:Hk q->p:=by
 intro kq;have F:=yD hown;have bb:(b++kEi s.length).length<=20000000:=nV;go_wp2_with (at_builtin;refine kD.yH rfl _ _ 22 rfl (r:=kD.byte) (e:=5) underlying22 kDm rfl bJ4 bJ4 kD.kEv (B:=w.heap.size) F.out bJ7 bJ7 (I.below G) (λk hk=>⟨hk.1,hk.2⟩) G.size bJ5 ?_);intro v3 w3 E U bq;have ap:=yD E;exact kq.o F bb v3 w3 E U bq ap):=h ⟨k⟩
def D9 (h:p:=by
 go_wp2_with fail;refine (HI.out _ rfl).mono ?_;rintro e w1 ⟨rfl,O⟩;have R:=yD (F.below O);go_wp2;go_ret;exact ⟨_,rfl,R.cast HF.out,Touch.of_below O⟩):=h
def DC (h:p:=by
 have b1:=yD (show kCb now (x0,(xc,xe),x2,x3,x4,x5,x6) (k + 1)=(s,m) by rw [bg.out];unfold kDv;rw [if_neg cw,if_pos cd]);have ej:decide (0<=idxOf (jR y0) P)=true:=bH5;generalize idxOf (jR y0) P=ip at *;exact QW):=h
def DD (h:p:=by
 exact QW):=h
def DF (k:q) (h:Hk q->p:=by
 intro kq;have h6:V.heap.size<=b6/\b6 < v.heap.size:=⟨by omega,by omega⟩;exact kq.o h6):=h ⟨k⟩
def DI (k:q) (h:Hk q->p:=by
 intro kq;have HL:Hid (Cn.rd w [Qs la l lp] l):=yD ⟨hl,a3.2⟩;have bm:l.length<=16777216:=a3.2.1;exact kq.o HL bm):=h ⟨k⟩
def DJ (k:q) (h:Hk q->p:=by
 intro kq;replace X:=X.yC D nY;replace BN:=D.kC BN bJ5;replace HR:=yD (HR.touch D qN);have hc:=N;exact kq.o X BN HR hc):=h ⟨k⟩
def DK (k:q) (h:Hk q->p:=by
 intro kq;have U:wr.heap.size<=b/\b < v.heap.size:=⟨by omega,by omega⟩;refine LG hb λI=>?_;exact kq.o U I):=h ⟨k⟩
def DL (a1:p1)(h:p1->p:=by
 intro E2;go_wp2;go_ret;exact ⟨_,rfl,(F.cast L.symm).own bC8,E2⟩):=h a1
def DR (a1:p1)(h:p1->p:=by
 intro E2;go_wp2;refine bodyPost_ret (v:=.tuple #[.agg #[.slice none 0 0],.bool false]) pY rfl ⟨none,0,false,[],rfl,kD.jr,by simp,yD kEs.nil,?_⟩;exact E2.setCell bJ6 _):=h a1
def DT (h:p:=by
 go_wp2;go_ret;exact ⟨jS L.symm,rfl⟩):=h
def DU (a1:p1)(h:p1->p:=by
 intro E2;go_wp2;refine bodyPost_ret (v:=.tuple #[.agg #[.slice none 0 0],.bool false]) pX rfl ⟨none,0,false,[],rfl,kD.jr,by simp,yD zR.nil,?_⟩;exact E2.setCell bJ6 _):=h a1
def DV (k:q) (h:Hk q->p:=by
 intro kq;have FX:=yD (λ(W:World) (hW:Qb wr W)=>cLs8 hW Y K1 K2 K3 K4 K5 K6 K7);refine kX (λW=>Qb wr W) [true,true,true,true,true,true,true,false,true,true,true,true,false,true,true,true,true,false,true,true,true,true,false,true,true,true,true,true,true,true,true,true,true,true,true,true] bR ?_;exact kq.o FX):=h ⟨k⟩
def DW (k:q) (h:Hk q->p:=by
 intro kq;replace N:=yD W;have E3:Qb w v3:=by rw [<- E];exact (F3.setCell rQ _)
 have av:Hid (v3.heap.size=w3.heap.size):=yD vO;replace R:=yD (kD.own.out (w':=v3) R.out dE);replace ae:=yD (kD.own.out (w':=v3) ae.out dE);replace ap:=yD (kD.own.out (w':=v3) ap.out dE);exact kq.o N E3 av R ae ap):=h ⟨k⟩
def DX (a1:p1)(k:q) (h:p1->Hk q->p:=by
 intro N kq;have E2:Qb w v2:=by rw [<- E];exact (F2.setCell rQ _)
 have X:Hid (v2.heap.size=w2.heap.size):=yD vO;replace R:=yD (kD.own.out (w':=v2) R.out dM);replace ae:=yD (kD.own.out (w':=v2) ae.out dM);have ah:=kE (b:=w.heap.size) N.out (j:=2) (v:=Qs a2 x2 p2) rfl;exact kq.o E2 X R ae ah):=h a1 ⟨k⟩
def DY (h:p:=by
 refine bodyPost_ret (v:=.tuple #[.agg #[.slice none 0 0,.slice none 0 0,.slice none 0 0,Qn 0,Qn 0],.bool false]) gP rfl ⟨[.slice none 0 0,.slice none 0 0,.slice none 0 0,Qn 0,Qn 0],([],[],[],0,0),false,rfl,?_,?_,?_⟩;exact jHc;simp;exact H.trans (Touch.below sT5 H.size bF2)):=h
def DZ (k:q) (h:Hk q->p:=by
 intro kq;have bn:X.heap.size=w.heap.size + 2:=bH6;exact kq.o bn):=h ⟨k⟩
def EE (k:q) (h:Hk q->p:=by
 intro kq;have V:Qd X w 0 (Qs N n E):=bA9;exact kq.o V):=h ⟨k⟩
def EG (h:p:=by
 exact QP):=h
def EH (k:q) (h:Hk q->p:=by
 intro kq;have:l[i]?=some l.toArray[i]:=by simp
 exact kq.o this):=h ⟨k⟩
def EI (k:q) (h:Hk q->p:=by
 intro kq;obtain ⟨q0,q1,q2,q3,q4,q5,q6⟩:=hx.2;have aa:Hid (x.1.length<=Big):=yD q0.1;have af:Hid (x.2.2.1.length<=Big):=yD q2.1;have ag:Hid (x.2.2.2.1.length<=Big):=yD q3.1;have ab:Hid (x.2.2.2.2.1.length<=Big):=yD q4.1;have au:Hid (x.2.2.2.2.2.1.length<=Big):=yD q5.1;exact kq.o q0 q1 q2 q3 q4 q5 q6 aa af ag ab au):=h ⟨k⟩
def EJ (k:q) (h:Hk q->p:=by
 intro kq;have cc:w.heap.size + 1<=X.heap.size:=bH6;have Y:Qd X w 0 (Qs na n np):=bA9;have FX:=yD (λ(W:World) (hW:Qb X W)=>cL hW Y);refine jf (λW=>Qb X W) [(0,true),(2,true),(4,true),(1,false),(3,false),(5,true),(6,false),(7,false),(8,true)] bI9 bI9 sD (bR.drew) ?_;exact kq.o cc Y FX):=h ⟨k⟩
def EK (k:q) (h:Hk q->p:=by
 intro kq;go_simp;refine (kCl (l:=t0) (HK.touch I.1 (λk q h=>hS k q.1 h)).rd.1 (cb:=[.slice ya ys.length yc]) (HY.touch I.1 wI).rd (cn:=[.slice na qs.length nc]) (HN.touch I.1 rG).rd HB.rd bJ5 (tl:=4000) bJ4).mono ?_;rintro e v ⟨ds,x,ok,rfl,hO,c2,hb⟩;have zv:=hb.size;exact kq.o v ds x ok hO c2 hb zv):=h ⟨k⟩
def EL (k:q) (h:Hk q->p:=by
 intro kq;have al:=yD ag;unfold jL at hg;have D:=yD h;have b0:=yD hn;have b6:z<=16777216:=bJ5;have am:z<=n:=bJ5;have a9:n<=cap\/xs=[]:=by
  rcases D.2 with ⟨_,q⟩|⟨_,_,_,_,_,q,q2,_⟩;exact .inr q;simp only [Value.slice.injEq] at q;left;omega
 clear a9;exact kq.o al hg D b0 b6 am q):=h ⟨k⟩
def EM (h:p:=by
 have bv:(u.alloc (.cells cx.toArray e)).heap.size=u.heap.size + 1:=bJ6;refine ⟨v',w',hr,⟨(slice e r).wide ho.1 ?_,ho.2⟩,(Touch.of_below G).trans D⟩;rintro k (hk | hk | hk);exact .inl hk.1;exact .inr (.inl hk.1);exact .inr (.inr ⟨by omega,hk.2⟩)):=h
def EN (a1:p1)(k:q) (h:p1->Hk q->p:=by
 intro ag kq;have L:=G.below ag;have G:=yD L;clear L;replace E:=(tQ E ag);have z3:=ag.size;clear ag;exact kq.o G E z3):=h a1 ⟨k⟩
def EO (a1:p1)(h:p1->p:=by
 intro cq;refine NJ cq λH=>?_;clear U N af X D ah ag ai J ao ar ax a1 a2 a6 a5 a4 b1 cq;refine Qg ?_;exact ⟨k + 1,g3,va,n3,c3,s2.length,vc,SN,by go_num,by omega,yD ((kD.ko.cast HQ.out (i0.out hne).symm).wide rO),yD fM,ck,BX,BD,BR,BO,by omega,H⟩):=h a1
def EP (k:q) (h:Hk q->p:=by
 intro kq;refine jD ?_;refine kR ?_;generalize G:World.setCell u3 _ _=wQ;have H:Touch (λk=>k=w2.heap.size) u3 wQ:=bD0;have BQ:Qr wQ w2 #[Qn kc,Qs a3 q c3] 27:=by rw [<- G];exact kG BK 1
 have du:=H.size;clear G;have BK:=BQ;clear BQ;replace R:=H.kC R bJ5;exact kq.o wQ H du BK R):=h ⟨k⟩
def ES (k:q) (h:Hk q->p:=by
 intro kq;have O0:kD.ko 106 kH (w.alloc (.cells #[] 106)) (.slice (some ⟨w,0,none⟩) 0 0) [] (jW w (w.alloc (.cells #[] 106)).heap.size) :=
   kD.yf (e:=106) (r:=kH) (w:=w) (cs:=[]) (xs:=[]) (T:=λ_=>False) bJ6 bJ6 rfl (λ_ h=>h.elim) ⟨Nat.le_refl _,by simp⟩
 exact kq.o O0):=h ⟨k⟩
def EU (k:q) (h:Hk q->p:=by
 intro kq;have O0:kD.ko 131 jG (w.alloc (.cells #[] 131)) (.slice (some ⟨w,0,none⟩) 0 0) [] (jW w (w.alloc (.cells #[] 131)).heap.size) :=
   kD.yf (e:=131) (r:=jG) (w:=w) (cs:=[]) (xs:=[]) (T:=λ_=>False) bJ6 bJ6 rfl (λ_ h=>h.elim) ⟨Nat.le_refl _,by simp⟩
 exact kq.o O0):=h ⟨k⟩
def EW (k:q) (h:Hk q->p:=by
 intro kq;have O0:kD.ko 139 jA (w.alloc (.cells #[] 139)) (.slice (some ⟨w,0,none⟩) 0 0) [] (jW w (w.alloc (.cells #[] 139)).heap.size) :=
   kD.yf (e:=139) (r:=jA) (w:=w) (cs:=[]) (xs:=[]) (T:=λ_=>False) bJ6 bJ6 rfl (λ_ h=>h.elim) ⟨Nat.le_refl _,by simp⟩
 exact kq.o O0):=h ⟨k⟩
def EX (k:q) (h:Hk q->p:=by
 intro kq;have O0:kD.ko 142 kL (w.alloc (.cells #[] 142)) (.slice (some ⟨w,0,none⟩) 0 0) [] (jW w (w.alloc (.cells #[] 142)).heap.size) :=
   kD.yf (e:=142) (r:=kL) (w:=w) (cs:=[]) (xs:=[]) (T:=λ_=>False) bJ6 bJ6 rfl (λ_ h=>h.elim) ⟨Nat.le_refl _,by simp⟩
 exact kq.o O0):=h ⟨k⟩
def EY (k:q) (h:Hk q->p:=by
 intro kq;have al:=D.trans ((af.mono bJ5).trans (ab.mono (by have:=af.size;omega)));have ae:Hid (kD.ko 5 kD.byte w5 (.slice a5 n5 c5) (b++kEi n.length++kLa (n.take (k + 1))) (jW (w.heap.size + 1) w5)):=yD ((hown.cast pF).wide pR);exact kq.o al ae):=h ⟨k⟩
def EZ (h:p:=by
 refine ⟨i + 1,i,by omega,by omega,rfl,by go_num,yD vR,yD ?_,E1⟩;rw [eh.out,b0.out,show i + 1 - i=0 + 1 by omega];exact G1.out):=h
def F8 (k:q) (h:Hk q->p:=by
 intro kq;refine kK (k:=3) rfl bI9 rfl (λK E=>?_);go_simp;exact kq.o K E):=h ⟨k⟩
def F9 (h:p:=by
 clear bo bq bt bw av bn R O;have N:=yD (H.trans (jFm a2.out BK.1));have b4:Hid ((Srt.sw cu j k).length=n):=yD (by rw [Srt.kQh];exact an.out);go_roundw;case rel=>exact ⟨k,Srt.sw cu j k,by go_num,by omega,by omega,b3,b4,be,N⟩
 simp [intOf];omega):=h
def FB (k:q) (h:Hk q->p:=by
 intro kq;have ag:(l.take k).length<=k:=bJ0;exact kq.o ag):=h ⟨k⟩
def FC (k:q) (h:Hk q->p:=by
 intro kq;have hsrc:Src (u.alloc (.cells cx.toArray e)) (.slice (some ⟨u,0,none⟩) 1 c) 1 cx:=by
  refine .inr ⟨_,_,rfl,λj v J=>?_⟩;have F:(⟨u,0,none⟩:Addr).add j=⟨u,j,none⟩:=sP;rw [F,cell_of_row _ _ j cx.toArray e (0,0) (heap_alloc_new u _)];simpa using J
 exact kq.o hsrc):=h ⟨k⟩
def FD (h:p:=by
 clear am ap aq ay V Y ab Z aa b4 L R bb a9;go_roundw;case rel=>exact ⟨n + 1,_,y,b2,dr,ai,ar,ax,a6,bd,b3,rfl,by omega,dt,yD (f0.trans (by rw [show 3 - n=4 - (n + 1) by omega])),yD (HQ.wide vD),BT,BY,c5,an,by omega,H⟩
 simp [slen];omega):=h
def FE (h:p:=by
 obtain rfl:=hw.symm;have HD:=yD (show kYq d x=(d * 1000003 + modP x + 13).tmod 2147483647 from rfl);generalize modP x=m at *;go_wp2;go_round;case rel=>exact ⟨k + 1,by omega,by go_num,by rw [I.out,HD.out,<- kTt bJ5]⟩
 simp [intOf];omega):=h
def FH (a1:p1)(k:q) (h:p1->Hk q->p:=by
 intro hT kq;replace U:w4.heap.size<=b/\b < v.heap.size:=⟨U.1,Nat.lt_of_lt_of_le U.2 hT.size⟩;exact kq.o U):=h a1 ⟨k⟩
def FI (a1:p1)(k:q) (h:p1->Hk q->p:=by
 intro D kq;replace U:wz.heap.size<=b/\b < v.heap.size:=⟨U.1,Nat.lt_of_lt_of_le U.2 D.size⟩;exact kq.o U):=h a1 ⟨k⟩
def FJ (a1:p1)(k:q) (h:p1->Hk q->p:=by
 intro hb kq;replace U:wr.heap.size<=b/\b < v.heap.size:=⟨U.1,Nat.lt_of_lt_of_le U.2 hb.size⟩;exact kq.o U):=h a1 ⟨k⟩
def FK (k:q) (h:Hk q->p:=by
 intro kq;have ag:=yD (kD.kDw (hl.below D) hk);exact kq.o ag):=h ⟨k⟩
def FL (a1:p1)(h:p1->p:=by
 intro L;go_wp2;go_ret;exact ⟨kJ L.symm,rfl⟩):=h a1
def FM (a1:p1)(k:q) (h:p1->Hk q->p:=by
 intro N kq;have E1:Qb w v1:=by rw [<- E];exact (F1.setCell rQ _)
 have aa:Hid (v1.heap.size=w1.heap.size):=yD vO;replace R:=yD (kD.own.out (w':=v1) R.out fE);have Z:=kE (b:=w.heap.size) N.out (j:=1) (v:=Qs a1 x1 p1) rfl;exact kq.o E1 aa R Z):=h a1 ⟨k⟩
def FN (k:q) (h:Hk q->p:=by
 intro kq;obtain ⟨fs,c3⟩:∃ fs,kOt (x0,(xc,xe),P,u,x4,m,x6) y0 0=fs:=⟨_,rfl⟩;rw [c3] at Of;replace bw:=yD (show kCb now (x0,(xc,xe),x2,x3,x4,x5,x6) (k + 1)=(u,if mOk y0 x4 then jBe fs (kAd y0 x4) m else m) by rw [bw.out,c3]);clear c3;exact kq.o fs Of bw):=h ⟨k⟩
def FO (k:q) (h:Hk q->p:=by
 intro kq;have FX:=yD (λ(W:World) (hW:Qb wD W)=>kYs hW L0 L1 M0 M1 aq D0 D1 D2 D3 D4);refine jU (λW=>Qb wD W) [true,true,true,true,true,true,true,true,true,true,false] bI9 bI9 sD (bR.drew) ?_;intro wS I;iterate 10
  all_goals refine kZ ?_
 exact kq.o FX wS I):=h ⟨k⟩
def FP (k:q) (h:Hk q->p:=by
 intro kq;have g4:¬ ((R.length:Int) < R.length):=bJ5;rw [List.take_length] at HQ F;obtain ⟨s,hs⟩:∃ s,kDe y0 x3 R=s:=⟨_,rfl⟩;obtain ⟨Q,fo⟩:∃ Q,kBu f (y0,y1,y2,y3,y4) R=Q:=⟨_,rfl⟩;have gp:Q.length<=Big:=qL;rw [hs] at F;rw [fo] at HQ;exact kq.o dt hlt g4 s F hs Q HQ fo gp):=h ⟨k⟩
def FQ (k:q) (h:Hk q->p:=by
 intro kq;generalize G:World.alloc (World.alloc (World.alloc w2 _) _) _=w3;have hb:Qb w2 w3:=by rw [<- G];exact (((bR.alloc nL _).alloc bF5 _).alloc bF5 _)
 have BX:Qr w3 w2 (Qh a0 x0 c0 kc a1 xe c1 a2 x2 c2 a3 x3 c3 a4 x4 c4 a5 x5 c5 x6) 33:=tT;exact kq.o w3 G hb BX):=h ⟨k⟩
def FT (k:q) (h:Hk q->p:=by
 intro kq;have FX:=yD (λ(W:World) (hW:Qb wC W)=>kIm hW Y a2 a4 a5);refine jU (λW=>Qb wC W) [true,true,true,true,true,true,true,true,true,true,true,true,true,false] bI9 bI9 sD (bR.drew) ?_;intro wS I;iterate 13
  all_goals refine kZ ?_
 exact kq.o FX wS I):=h ⟨k⟩
def FU (k:q) (h:Hk q->p:=by
 intro kq;have aq:Hid (kD.ko 5 kD.byte w4 (.slice a4 n4 c4) (b++kEi n.length) (jW (w.heap.size + 1) w4)):=yD (E.wide vE);have ar:w.heap.size < w4.heap.size:=by have:=N.size;omega
 have b0:=yD Y;have W:=yD (kHm n.length);exact kq.o aq ar b0 W):=h ⟨k⟩
def FV (k:q) (h:Hk q->p:=by
 intro kq;have V:=(tQ D af);go_wp2_with (at_builtin;refine kD.jN rfl _ _ 24 rfl (r:=jC) (e:=43) underlying24 kNq rfl bJ4 bJ4 (B:=w.heap.size) F.out bJ7 bJ7 rfl (kD.own.wide (T:=jW wr wT) (OT.below ED) pJ) rfl pQ vD pJ bJ5 bJ5 ?_);exact kq.o V):=h ⟨k⟩
def FW (k:q) (h:Hk q->p:=by
 intro kq;have G:Below u u (u.alloc (.cells cx.toArray e)):=bR.alloc nL _;have hS:(slice e r).own u [.slice a len cap] xs (λk=>S k/\k < w.heap.size):=⟨(slice e r).mono ((slice e r).live hown.1) (λk hk=>hu.block k hk.2),hown.2⟩;exact kq.o G hS):=h ⟨k⟩
def FY (h:p:=by
 obtain rfl:k=l.length:=bJ5;go_wp2;go_ret;exact ⟨_,rfl,kD.ko.cast F.out bB9,D⟩):=h
def FZ (h:p:=by
 go_ret;exact ⟨jS L.symm,rfl⟩):=h
def G5 (k:q) (h:Hk q->p:=by
 intro kq;have ei:=kNt (l:=u) (n:=y0) (x:=z1);obtain ⟨u2,hu2⟩:∃ u2,yT u y0 z1=u2:=⟨_,rfl⟩;rw [hu2] at O9 ei;have fm:=yD (show u2=(y1.take (j + 1)).foldl (λs r=>yT s y0 r.2.1) s by rw [e7.out];exact hu2.symm);clear hu2;exact kq.o u2 ei O9 fm):=h ⟨k⟩
def G6 (k:q) (h:Hk q->p:=by
 intro kq;refine ⟨t.os.trans h.os,t.tape.trans h.tape,t.output.trans h.output,Nat.le_trans h.size t.size,λk hk hn=>?_⟩;exact kq.o k hk hn):=h ⟨k⟩
def G7 (h:p:=by
 clear h6 t6 HG;go_wp2;go_ret;exact ⟨_,rfl,by rw [I.out];exact H6.out,E.trans (T6.wide (λj J=>J ▸ X.out))⟩):=h
def G8 (h:p:=by
 have ce:¬ (j:Int) < y.2.1.length:=bJ5;have aq:y.2.1.take j=y.2.1:=List.take_of_length_le bJ5;have HR:=yD ((F.cast (congrArg kDq aq)).cast L.symm);clear aq;go_wp2;go_ret;exact ⟨_,rfl,(HR.own (by rw [L.out,kKz];exact e5)).wide vE,(tQ E2 D)⟩):=h
def G9 (k:q) (h:Hk q->p:=by
 intro kq;have V:=(tQ H af);go_wp2_with (at_builtin;refine kD.jN rfl _ _ 24 rfl (r:=jC) (e:=43) underlying24 kNq rfl bJ4 bJ4 (B:=w.heap.size) F.out bJ7 bJ7 rfl (kD.own.wide (T:=jW wC wT) (OT) pJ) rfl pQ vD pJ bJ5 bJ5 ?_);exact kq.o V):=h ⟨k⟩
def GA (k:q) (h:Hk q->p:=by
 intro kq;have af:=ac 0 _ rfl;have hA1:=ac 1 _ rfl;have hA2:=ac 2 _ rfl;simp only [Nat.add_zero,kDs] at af hA1 hA2;have HN:=yD hN;obtain ⟨y,hy⟩:∃ y_,x2[k]=y_:=⟨_,rfl⟩;rw [hy] at af hA1 hA2 HN;clear hy;exact kq.o y HN hA2 hA1 af):=h ⟨k⟩
def GD (k:q) (h:Hk q->p:=by
 intro kq;have FX:=yD (λ(W:World) (hW:Qb wr W)=>cL hW Y);refine kX (λW=>Qb wr W) [true,false,true,true,true,true,true,true,true,false,true,true,true,true,true,true,true,true,true,true,true,true,true,true] bR ?_;intro wS I;exact kq.o FX wS I):=h ⟨k⟩
def GG (k:q) (h:Hk q->p:=by
 intro kq;have Y:Qd X w 0 (Qs dg r.1 dd):=bA9;have K1:Qd X w 1 (Qs ax r.2 au):=bA9;have K2:Qc X (w.heap.size + 1) 0 (Qs f7 n gd):=bA9;have K3:X.cell? ⟨w.heap.size + 1 + 1,0,none⟩=some (.slice b0 m.length af):=bA9;exact kq.o Y K1 K2 K3):=h ⟨k⟩
def GH (h:p:=by
 have HQ:=yD q;clear q;go_wp2;go_loopw [6,7,8] (λi _ _ wx=>i=.int .i64 20/\wx=w2) (λi _ _ _=>0);case atStart=>exact ⟨rfl,rfl⟩
 obtain ⟨rfl,hw⟩:=hrel;obtain rfl:=hw;go_wp2;go_end0;exact ⟨rfl,HQ.out⟩):=h
def GI (k:q) (h:Hk q->p:=by
 intro kq;have d4:k + 1<=oc:=bJ5;have em:k + 1<=on:=bJ5;have g4:(k:Int) + 1<=on:=bJ5;have bf:(0:Int)<=(k:Int) + 1:=bJ5;exact kq.o d4 em g4 bf):=h ⟨k⟩
def GJ (k:q) (h:Hk q->p:=by
 intro kq;generalize G:World.setCell (World.setCell w6 _ _) _ _=w7;have bm:Touch (λk=>k=w2.heap.size) w6 w7:=bD6;replace BO:Qr w7 w2 (Qh b9 x0 cc xc ea ev ep pa P pc sa s sc b2 x4 ce ma m mc x6) 33:=tY;have dm:=bm.size;clear G;exact kq.o w7 bm BO dm):=h ⟨k⟩
def GK (k:q) (h:Hk q->p:=by
 intro kq;replace HQ:=yD (HQ.wide (T:=(λj=>w6.heap.size<=j/\j < wq.heap.size/\¬ SX j)) (λj q=>⟨q.1,q.2.1,λh=>q.2.2 ((g8 j).1 h).1⟩));have hd:∀ j,SX j->j < wq.heap.size:=λj h=>((g8 j).1 h).2;exact kq.o HQ hd):=h ⟨k⟩
def GL (k:q) (h:Hk q->p:=by
 intro kq;refine kX (λW=>Qb X W) [true,true,false,true,true,true,true,true,true,true,true,true,true,true,true,true,true,true,true,false,true,true,true,true,false,true,true,true,true,false,true,true] bR ?_;intro wS I;exact kq.o wS I):=h ⟨k⟩
def GM (k:q) (h:Hk q->p:=by
 intro kq;replace I:=And.intro (I.1.jO hT bJ5) (I.2.touch hT bJ5 sM);refine E _ _ I ?_;exact kq.o I):=h ⟨k⟩
def GN (k:q) (h:Hk q->p:=by
 intro kq;have bq:x2.length<=2000000:=Nat.le_trans hB.2.2.1.1 bJ4;have ch:=yD (show ∀ y∈x2,y.2.1.length<=2000000 from λy hy=>Nat.le_trans (hB.2.2.1.2 y hy).2.1 bJ4);have f9:x3.length<=1048576:=hB.2.2.2.1.1;exact kq.o bq ch f9):=h ⟨k⟩
def GQ (k:q) (h:Hk q->p:=by
 intro kq;have N:kQ.rd wr _ x0:=⟨au,a3.1⟩;exact kq.o N):=h ⟨k⟩
def GR (h:p:=by
 have b1:=yD (show kCb now (x0,(xc,xe),x2,x3,x4,x5,x6) (k + 1)=(u,m) by rw [bw.out,bu];rfl);refine Qg ?_;exact ⟨k + 1,ta,ma,tc,mc,u,m,by go_num,by omega,yD b1.symm,yD (F.wide wK),BX,BR,BO,by omega,H⟩):=h
def GU (k:q) (h:Hk q->p:=by
 intro kq;refine kN (λW=>Qb wC W) [true,true,false,true,true,true,true,false,true,true,true,true,true,false,true,true,true,true,true,true,true,true,true,true,false,true,true] bI9 bI9 sD (bR.drew) ?_;intro wS I;exact kq.o wS I):=h ⟨k⟩
def GV (k:q) (h:Hk q->p:=by
 intro kq;have C:=al.out wr D k hlt _ hr;exact kq.o C):=h ⟨k⟩
def GX (h:p:=by
 obtain ⟨_,_,rfl,ac,a3⟩:=kD.yV h;have au:=kT ac;obtain ⟨_,rfl,D⟩:=au;obtain ⟨_,_,rfl,bc,ek⟩:=kD.yV a3;obtain ⟨rfl,ap⟩:=kD.yX bc;obtain ⟨rfl,bb⟩:=kD.yX ek;exact ⟨_,rfl,ac,D,ap,bb⟩):=h
def GY (k:q) (h:Hk q->p:=by
 intro kq;obtain ⟨cb,I,he,c0,cr,an⟩:=kD.kAu (F.kMm) (i:=0) bx rfl;simp only [Option.some.injEq,Addr.mk.injEq,and_true] at he;obtain ⟨rfl,rfl⟩:=he;have az:[c0]=[.string ps[0]]:=(kD.zQ cr).1;obtain rfl:c0=.string ps[0]:=bG2;clear cr az;exact kq.o an):=h ⟨k⟩
def GZ (k:q) (h:Hk q->p:=by
 intro kq;have G:cells.length=m * i.size:=by rw [hsize,e5,hm]
 have N:cur.toList.length=p.length + (cs.length + tl.length):=by rw [g2];simp
 have O:cur.size=p.length + (cs.length + tl.length):=by rw [<- N,Array.length_toList]
 exact kq.o G N O):=h ⟨k⟩
def H5 (k:q) (h:Hk q->p:=by
 intro kq;refine kK (k:=8) rfl bI9 rfl (λK E=>?_);exact kq.o K E):=h ⟨k⟩
def H7 (k:q) (h:Hk q->p:=by
 intro kq;have l1:=kMx x.1;have l2:=kMx x.2.2.1;have HD:=yD (show signed x=zi (kEp x.1)++zi x.2.1++zi (kEp x.2.2.1)++[x.2.2.2.1] from rfl);have m1:=kGa (kEp x.1);have m2:=kGa x.2.1;have m3:=kGa (kEp x.2.2.1);exact kq.o l1 l2 HD m1 m2 m3):=h ⟨k⟩
def H8 (h:p:=by
 have hlt:b < w.heap.size:=by
  rcases Nat.lt_or_ge b w with q | q;exact q;unfold World.cell? at k;simp [Array.getElem?_eq_none q] at k
 have e:=h.block b hlt hb;unfold World.cell? at k ⊢;simp only at k ⊢;rw [e];exact k):=h
def H9 (k:q) (h:Hk q->p:=by
 intro kq;go_simp;refine (kGv (l:=kl) (dr.rd.below I).1 (cn:=[.slice F n1.length H]) a5.rd (cb:=[.slice V n2.length Y]) a6.rd (tl:=5000) bJ4).mono ?_;rintro e v ⟨ds,x,ok,rfl,hO,b4,hb⟩;have zv:=hb.size;exact kq.o v ds x ok hO b4 hb zv):=h ⟨k⟩
def I1 (k:q) (h:Hk q->p:=by
 intro kq;have dm:=yD (show kLc (x0,(xc,xe),x2,x3,x4,x5,x6)=(x0,(xc,xe),x2,x3,x4,x5,y6) by rw [kVf,gw]);exact kq.o dm):=h ⟨k⟩
def I4 (k:q) (h:Hk q->p:=by
 intro kq;have ch:=yD (kTa hlt);have au:=kJm HV.out hlt;have ao:=kQs HV.out hk;have a8:Hid (Cc.rd wr [.slice oa on oc] (b++kEi n.length++kLa (n.take k))):=yD ((F.own mK).rd);exact kq.o ch au ao a8):=h ⟨k⟩
def I5 (k:q) (h:Hk q->p:=by
 intro kq;have ac:=yD (kD.kKu (e:=9) w3 (kD.kFr (s:={ data:=#[97] }) bJ4));generalize G:World.alloc w3 _=w4 at ac ⊢;have cd:Qb w3 w4:=vU;have de:w3.heap.size + 1<=w4.heap.size:=bH7;clear G;exact kq.o w4 ac cd de):=h ⟨k⟩
def I6 (h:p:=by
 obtain rfl:=ar;have E3:Qb w w3:=E1.trans (Below.trans dH (ag.mono (by have:=E1.size;simp;omega)));have ap:=yD (O3.wide (T:=jW w w3) gU);clear O3 ag V Z;go_wp2;go_ret;exact ⟨_,rfl,ap.cast L.symm,E3⟩):=h
def I7 (k:q) (h:Hk q->p:=by
 intro kq;have A0:Qc wr b (m * 3) c0:=ac 0 c0 rfl;have A1:Qc wr b (m * 3 + 1) c1:=ac 1 c1 rfl;have A2:Qc wr b (m * 3 + 2) c2:=ac 2 c2 rfl;have D:∀ q,q < 3->U * 3 + q < cap * 3:=by intro q hq;omega
 exact kq.o A0 A1 A2 D):=h ⟨k⟩
def I8 (k:q) (h:Hk q->p:=by
 intro kq;have b1:=yD (show kCb now (x0,(xc,xe),x2,x3,x4,x5,x6) (k + 1)=(s,m) by rw [bg.out];unfold kDv;rw [if_pos cw]);have d8:(y1.length:Int)=0:=bJ5;have er:((y1.length:Int)==0)=true:=by rw [beq_iff_eq];omega
 exact kq.o b1 d8 er):=h ⟨k⟩
def I9 (h:p:=by
 go_simp;try with_reducible rfl):=h
def IA (k:q) (h:Hk q->p:=by
 intro kq;rw [show i + (n1 - i)=n1 by omega] at D;have E:Hid ((l.take i++l.drop (i + 1)).length=n1):=yD qB;exact kq.o D av aa E):=h ⟨k⟩
def IB (k:q) (h:Hk q->p:=by
 intro kq;have BT:Qr X w #[Qs a7 t.1 b7,Qs bg t.2.1 c2,Qs a8 t.2.2.1 cl,Qs bl t.2.2.2 av] 38:=wP;have BX:Qr X (w.heap.size + 1) (Qf bc I bf bt ba E x0) 43:=by rw [<- U];exact kg bJ6
 exact kq.o BT BX):=h ⟨k⟩
def IC (k:q) (h:Hk q->p:=by
 intro kq;have E2:Qb w wC:=Below.trans (bR.alloc nL _) ((V.trans (EC.mono am)).mono bJ6);replace B2:=kC B2 EC;replace HD:=yD (λq=>(HD.out q).below EC);have N:=cL EC an;have K5:=kE B5 (j:=0) rfl;exact kq.o E2 B2 HD N K5):=h ⟨k⟩
def IE (k:q) (h:Hk q->p:=by
 intro kq;refine kN (λW=>Qb wr W) [true,true,true,true,true,true,true,true,true,true,true,true,true,true,false,true] bI9 bI9 sD (bR.drew) ?_;intro wS I;iterate 7
  all_goals refine kZ ?_
 exact kq.o wS I):=h ⟨k⟩
def IG (h:p:=by
 have HE:Hid (cur=Srt.kHc key a z xs):=yD ((jGi (key:=key) (a:=a) (cu:=cur) hlt).symm.trans HF.out);have cd:¬ (i:Int) < z:=bJ5;go_wp2;go_end0;exact ⟨rfl,F.cast HE.out,L.out⟩):=h
def II (k:q) (h:Hk q->p:=by
 intro kq;have a4:=O.size;have F:=yD (O1.wide (T:=jW w w1) vE);exact kq.o a4 F):=h ⟨k⟩
def IJ (h:p:=by
 go_wp2;go_loopw [8] (λi wr=>i=.int .i64 1/\wr=w) (λi _=>0);case atStart=>exact ⟨rfl,rfl⟩
 obtain ⟨rfl,hw⟩:=hrel;obtain rfl:=hw;go_wp2;go_end0;exact ⟨rfl,rfl⟩):=h
def IK (k:q) (h:Hk q->p:=by
 intro kq;intro wS1 aj;iterate 3
  all_goals first|(refine kI rfl aj ?_)|(refine jF (v:=?_) rfl (λW hW=>?_) ?_;rotate_left;(· go_simp;try with_reducible rfl))
  all_goals refine jD ?_
 exact kq.o wS1 aj):=h ⟨k⟩
def IL (k:q) (h:Hk q->p:=by
 intro kq;replace HB:Hid (Cc.jv v [Qs ba L X] L (Ql V v b)):=yD ((HB.below hb).wide (λk q=>⟨q.1,Nat.lt_of_lt_of_le q.2.1 hb.size,q.2.2⟩));replace BB:=kC BB hb;exact kq.o HB BB):=h ⟨k⟩
def IM (h:p:=by
 simp only [Array.size_append,List.size_toArray,size_zeroCells,hzs,G,ag,hsize,<- Nat.add_mul];have:xs.length + m + (grownCap w (xs.length + m) cap e - (xs.length + m))=grownCap w (xs.length + m) cap e:=by omega
 rw [this];omega):=h
def IP (k:q) (h:Hk q->p:=by
 intro kq;have F:Qc X (w.heap.size + 1) 0 (Qs af m ag):=bA9;have FX:=yD (λ(W:World) (hW:Qb X W)=>kNa hW V F);refine kX (λW=>Qb X W) [true,true,true,false,true,true] bR ?_;exact kq.o F FX):=h ⟨k⟩
def IQ (a1:p1)(k:q) (h:p1->Hk q->p:=by
 intro H kq;have ER:=H.trans (D.mono bJ5);have zr:=D.size;have Y:=(D.cell (p:=⟨w,0,none⟩) bF4).trans b0.out;have K1:=(D.cell (p:=⟨w.heap.size + 1,0,none⟩) bF4).trans bm.out;exact kq.o ER zr Y K1):=h a1 ⟨k⟩
def IR (k:q) (h:Hk q->p:=by
 intro kq;have KN:Qc X (w.heap.size + 1) 0 (Qs na n np):=bA9;exact kq.o KN):=h ⟨k⟩
def IU (k:q) (h:Hk q->p:=by
 intro kq;refine (zT (s:={ data:=#[47,107,101,121,47,97] }) bJ4).mono ?_;exact kq.o):=h ⟨k⟩
def IV (k:q) (h:Hk q->p:=by
 intro kq;have mf:=λo2 q=>m_fail (out2:=o2) hlt HA.out q;have md:=λo2 q=>m_done (out2:=o2) HV.out hlt HA.out q;have mg:=λo2 q=>mAt_go (t3:=0) (out3:=o2) hlt HA.out q;exact kq.o mf md mg):=h ⟨k⟩
def IW (a1:p1)(a2:p2)(h:p1->p2->p:=by
 intro hr cw;clear HR HL HG hr;go_wp2_with fail;refine yP.mono ?_;rintro e w1 ⟨rfl,F⟩;obtain rfl:=F.symm;rw [cw];go_wp2;go_ret;exact ⟨kJ L.symm,EB.trans (Below.mono bK EB.size)⟩):=h a1 a2
def IX (a1:p1)(k:q) (h:p1->Hk q->p:=by
 intro hb kq;replace U:w1.heap.size<=b/\b < v.heap.size:=⟨U.1,Nat.lt_of_lt_of_le U.2 hb.size⟩;exact kq.o U):=h a1 ⟨k⟩
def IY (k:q) (h:Hk q->p:=by
 intro kq;replace a5:Hid (kQ.jv v [Qs F n1 H] n1 (Ql wr v b)):=yD ((a5.below hb).wide fB);replace a6:Hid (kQ.jv v [Qs V n2 Y] n2 (Ql wr v b)):=yD ((a6.below hb).wide fB);exact kq.o a5 a6):=h ⟨k⟩
def IZ (a1:p1)(h:p1->p:=by
 intro E3;repeat (first|(with_reducible exact E3) | refine Below.setCell ?_ vG _)):=h a1
def J2 (h:p:=by
 simp only [if_true] at h;split at h;simp at h;omega
 · cases h):=h
def J3 (h:p:=by
 rcases Nat.eq_zero_or_pos xs.length with h0 | h0
 · obtain ⟨a,cap,rfl⟩:=h.zK;exact ⟨_,_,rfl⟩
 obtain ⟨b,cap,rfl,_⟩:=kD.kAp h h0;exact ⟨_,_,rfl⟩):=h
def J4 (h:p:=by
 unfold tree at h;refine wp_region_held (S:=S) hm ?_;have e:(Array.replicate l.toArray.size false)=(List.replicate l.length false).toArray:=bJ6;rw [e,show l.toArray.size=l.length by simp];exact h):=h
def J5 (a1:p1)(h:p1->p:=by
 intro hv;have HF:Hid (zJ t now 4 x0=false):=yD (D.out);clear hv;go_wp2;refine bodyPost_ret (v:=.tuple #[.slice none 0 0,.bool false]) rX rfl ?_;exact ⟨_,by rw [HF.out],H⟩):=h a1
def J6 (k:q) (h:Hk q->p:=by
 intro kq;refine je (λW=>Qb wC W) [(0,true),(1,true),(2,true),(4,true),(5,true),(7,true),(8,true),(3,false),(6,false),(9,true),(10,false)] bI9 bI9 sD (bR.drew) ?_;exact kq.o):=h ⟨k⟩
def J7 (k:q) (h:Hk q->p:=by
 intro kq;refine kX (λW=>Qb X W) [true,true,true,false,true] bR ?_;exact kq.o):=h ⟨k⟩
def J8 (k:q) (h:Hk q->p:=by
 intro kq;have L:=yD (show allows n m r=((kKp r && kGz r.1 n []) && kGz r.2 m (ptB r.1 n [])) from rfl);have bg:=mB_len6 (p:=r.1) (n:=n) (l:=[]);simp only [List.length_nil] at bg;exact kq.o L bg):=h ⟨k⟩
def J9 (k:q) (h:Hk q->p:=by
 intro kq;replace HB:Hid (Cc.jv v [Qs ba L X] L (Ql V v b)):=yD ((HB.touch D wI).wide (λk q=>⟨q.1,Nat.lt_of_lt_of_le q.2.1 D.size,q.2.2⟩));exact kq.o HB):=h ⟨k⟩
def JA (k:q) (h:Hk q->p:=by
 intro kq;replace HB:Hid (Cc.jv v [Qs ba L X] L (Ql V v p)):=yD ((HB.touch D wI).wide (λk q=>⟨q.1,Nat.lt_of_lt_of_le q.2.1 D.size,q.2.2⟩));exact kq.o HB):=h ⟨k⟩
def JB (k:q) (h:Hk q->p:=by
 intro kq;have R:Qb w wr:=G.trans (D.mono bJ5);have ap:w.heap.size < wr.heap.size:=bD2;have Y:Qd wr w 0 (Qs an n am):=(D.cell (p:=⟨w,0,none⟩) bJ6).trans b0.out;exact kq.o R ap Y):=h ⟨k⟩
def JC (k:q) (h:Hk q->p:=by
 intro kq;have Y:Qd X w 0 (Qs aa a H):=bA9;have K1:Qc X (w.heap.size + 1) 0 (Qs ab b R):=bA9;exact kq.o Y K1):=h ⟨k⟩
def JD (h:p:=by
 clear hQ;replace hc:=hc.touch hT bB1 bA0;replace TE:=TE.kCk hT (λk q=>q.1);clear hT F HR;go_wp2;go_ret;exact ⟨_,_,l2,rfl,d8.mono bJ5,ae.jv,hc,TE⟩):=h
def JE (k:q) (h:Hk q->p:=by
 intro kq;replace HB:Hid (Cc.jv v [Qs ba L X] L (Ql V v p)):=yD ((HB.below hb).wide (λk q=>⟨q.1,Nat.lt_of_lt_of_le q.2.1 hb.size,q.2.2⟩));exact kq.o HB):=h ⟨k⟩
def JF (h:p:=by
 obtain rfl:=a6;have ae:=yD av;have ax:=D.trans ao;clear av ao F D hi;refine Qg ?_;exact ⟨k + 1,_,by omega,by omega,by go_num,MG,by simp;omega,ae,ax⟩):=h
def JG (k:q) (h:Hk q->p:=by
 intro kq;go_simp;refine (kEc I.2 bd bJ5).mono ?_;exact kq.o):=h ⟨k⟩
def JH (k:q) (h:Hk q->p:=by
 intro kq;have a3:=kD.zL HL.out hlt;have br:=λq=>fm_yes (p:=kIj) (g:=(λx:jw=>x.2.2.2)) hlt q;have bn:=λq=>fm_no (p:=kIj) (g:=(λx:jw=>x.2.2.2)) hlt q;exact kq.o a3 br bn):=h ⟨k⟩
def JI (k:q) (h:Hk q->p:=by
 intro kq;have BX:Qr w1 w #[Qn xc,Qs bf xe bt] 27:=tT;have BY:Qr w1 (w.heap.size + 1) (Qj ak y0 a3 b5 y1 b3 b2 y2 bq y3 y4) 43:=by rw [<- G];exact jJ (kg bJ6)
 exact kq.o BX BY):=h ⟨k⟩
def JJ (k:q) (h:Hk q->p:=by
 intro kq;have dh:=U.2;replace a5:Hid (kQ.jv v [Qs F n1 H] n1 (Ql wr v b)):=yD ((a5.below hb).wide (λk q=>⟨q.1,Nat.lt_of_lt_of_le q.2.1 hb.size,q.2.2⟩));exact kq.o dh a5):=h ⟨k⟩
def JK (k:q) (h:Hk q->p:=by
 intro kq;go_simp;refine (kCw ((HL.below H).below I) (cn:=[.slice ya yb.length yc]) ((HY.1.below H).below I)).mono ?_;rintro e v ⟨rfl,hb⟩;have zv:=hb.size;exact kq.o v hb zv):=h ⟨k⟩
def JL (k:q) (h:Hk q->p:=by
 intro kq;have Y:Qd X w 0 (Qs an n am):=bA9;have K1:Qc X (w.heap.size + 1) 0 (.slice none 0 0):=bA9;have F1:X.frozen? ⟨w.heap.size + 1,0,none⟩=false:=bA9;exact kq.o Y K1 F1):=h ⟨k⟩
def JM (k:q) (h:Hk q->p:=by
 intro kq;have G:=(tQ EB D);have R0:=cL D K1;have F0:wr.frozen? ⟨w.heap.size + 1,0,none⟩=false:=(D.frozen (p:=⟨w.heap.size + 1,0,none⟩) bJ0).trans F1;exact kq.o G R0 F0):=h ⟨k⟩
def JN (k:q) (h:Hk q->p:=by
 intro kq;go_simp;refine (kw (n:=(x2.length:Int)) I.2 bJ5).mono ?_;exact kq.o):=h ⟨k⟩
def JO (k:q) (h:Hk q->p:=by
 intro kq;replace HK:Hid (kQ.jv v [Qs ka ks kc] ks (Ql V v b)):=yD ((HK.below hb).wide fB);refine UE λU=>?_;exact kq.o HK U):=h ⟨k⟩
def JP (k:q) (h:Hk q->p:=by
 intro kq;have FX:=yD (λ(W:World) (hW:Qb X W)=>kRf hW F V aj D ae);refine kX (λW=>Qb X W) [true,true,true,true,true,true,true,true,false,true,true] bR ?_;exact kq.o FX):=h ⟨k⟩
def JQ (k:q) (h:Hk q->p:=by
 intro kq;obtain ⟨ev,he⟩:=kYr (y0,y1,y2,y3,y4) t xc xe;rw [he] at Oe;have f0:=yD ((jEb (t:=t) (x1:=(xc,xe)) (y:=(y0,y1,y2,y3,y4)) g7).trans he);clear he;exact kq.o ev Oe f0):=h ⟨k⟩
def JR (k:q) (h:Hk q->p:=by
 intro kq;have c5:Hid (jC.raw w [Qs ak y0 a3,Qs b5 y1 b3,Qs b2 y2 bq,Qn y3,Qn y4] (y0,y1,y2,y3,y4)):=yD hy.1;have eh:Hid (kQ.raw w [Qs ak y0 a3] y0):=yD bp;exact kq.o c5 eh):=h ⟨k⟩
def JS (k:q) (h:Hk q->p:=by
 intro kq;refine je (λW=>Qb wC W) [(0,true),(1,true),(2,true),(4,true),(5,true),(6,true),(7,true),(3,false),(8,true),(9,false)] bI9 bI9 sD (bR.drew) ?_;exact kq.o):=h ⟨k⟩
def JU (h:p:=by
 obtain rfl:=hw.symm;have O:inR (2147483647:Int) 1 1000000000000=true:=bJ4;rw [O];go_wp2;go_ret;exact ⟨jS (by rw [HE.out];exact kTt bJ5),rfl⟩):=h
def JV (h:p:=by
 intro k hk;have hs:=h2.size;rcases hk with hk | hk | hk;have:=hSB k hk;exact ⟨this.1,by omega⟩;exact hk.elim;exact ⟨by omega,hk.2⟩):=h
def JW (h:p:=by
 have h1:=congrArg List.length HP.out;have h2:=kQa 19 (u:=N) bJ5;rw [F.out] at h1;simp only [List.length_append,List.length_cons,List.length_nil] at h1;have h3:s.data.toList.length=s.size:=bJ6;omega):=h
def JX (k:q) (h:Hk q->p:=by
 intro kq;replace a5:Hid (kQ.jv v [Qs F n1 H] n1 (Ql wr v ac)):=yD ((a5.below hb).wide (λk q=>⟨q.1,Nat.lt_of_lt_of_le q.2.1 hb.size,q.2.2⟩));exact kq.o a5):=h ⟨k⟩
def JY (h:p:=by
 have G:=yD (O8.cast HQ.1.symm);clear O8;go_wp2;go_ret2;exact ⟨v8,by rw [HQ.2];rfl,(G.own (by rw [HQ.1];exact bm)).wide vE,(tQ E ao)⟩):=h
def JZ (h:p:=by
 subst hz;have I:=yD (show s=⟨(kLw N).toArray⟩ by
   have h:=HP.out;rw [jDv,List.nil_append] at h;apply ByteArray.ext;rw [<- h])
 go_wp2;go_ret;exact ⟨mE,D⟩):=h
def K8 (k:q) (h:Hk q->p:=by
 intro kq;refine (kBh (hc.below (bR.alloc nL _)) (kD.kCn _ [{ data:=#[49] },{ data:=#[50] },{ data:=#[120,45,49] }] bJ4 bJ4) bJ5 bJ4 bJ4).mono ?_;exact kq.o):=h ⟨k⟩
def K9 (k:q) (h:Hk q->p:=by
 intro kq;refine kX (λW=>Qb X W) [true,true,true,true,false,true,true,true,true,true,true,true,true,true,true,true,true,true,true,true] bR ?_;exact kq.o):=h ⟨k⟩
def KA (h:p:=by
 obtain rfl:=ar;have G:=D.trans U;clear E U;refine Qg ?_;exact ⟨m / 128,pre++[vlo m],by omega,by go_num,yD qR,yD (ap.cast vQ),G⟩):=h
def KE (h:p:=by
 obtain ⟨_,_,rfl,ac,a3⟩:=kD.yV h;have au:=kT ac;obtain ⟨_,rfl,D⟩:=au;obtain ⟨rfl,ap⟩:=kD.yX a3;exact ⟨_,rfl,ac,D,ap⟩):=h
def KF (k:q) (h:Hk q->p:=by
 intro kq;have eh:=yD (show jBd now (x0,(xc,xe),x2,x3,x4,x5,x6)=(x0,(xc,ev),P,s,x4,m,x6) by unfold jBd;simp only [HE.out,HP.out,<- L.out]);exact kq.o eh):=h ⟨k⟩
def KG (h:p:=by
 go_wp2;refine bodyPost_ret (v:=.tuple #[.slice oa on oc,.bool true]) rV rfl ?_;exact ⟨_,by rw [M.1],(F.cast M.2.symm).wide vE,ER⟩):=h
def KH (h:p:=by
 go_wp2;refine bodyPost_ret (v:=.tuple #[.slice a8 n8 c8,.bool false]) rW rfl ?_;exact ⟨_,by rw [M.1],(G.cast M.2.symm).wide pJ,E⟩):=h
def KI (h:p:=by
 go_wp2;refine bodyPost_ret (v:=.tuple #[.slice oa on oc,.bool true]) rW rfl ?_;exact ⟨_,by rw [M.1],(F.cast M.2.symm).wide vE,ER⟩):=h
def KJ (h:p:=by
 go_wp2;all_goals go_ret
 all_goals exact ⟨_,rfl,((aj.out _ (by unfold upF;omega)).own tJ).wide nZ,E4.setCell af.1 _⟩):=h
def KL (a1:p1)(h:p1->p:=by
 intro D;have L:=yD (aa.out (by simp [kIj]));clear an aa;refine Qg ?_;exact ⟨k + 1,by omega,by go_num,yD (F.cast L.symm),D⟩):=h a1
def KQ (h:p:=by
 have cf:=hW.1.kEm af bJ5;have db:=hW.1.kEm hA1 bJ5;have dg:=hW.1.kEm hA2 bJ5;clear hW;go_simp;try with_reducible rfl):=h
def KS (h:p:=by
 unfold idxOf at *;cases e:x.findIdx? p with
 | none=>rw [e] at h;simp at h
 | some i=>exact ⟨i,(List.findIdx?_eq_some_iff_getElem.1 e).1,rfl⟩):=h
def KT (h:p:=by
 have L:=yD (kWi hk);go_wp2;go_ret;exact ⟨_,rfl,(F.cast L.symm).own (by rw [L.out];unfold Big;omega),E2⟩):=h
def KU (h:p:=by
 clear E K;refine jD ?_;have h_:=bn x ba X L b6 v I bd H bk HB h6 HL;exact NU):=h
def KV (a1:p1)(h:p1->p:=by
 intro D;have L:=yD (aa.out bI4);clear an aa;refine Qg ?_;exact ⟨k + 1,by omega,by go_num,yD (F.cast L.symm),D⟩):=h a1
def KW (h:p:=by
 clear ae;refine Qg ?_;exact ⟨j + 1,va,vc,u2,by go_num,by omega,by omega,fm,F,BX,BR,BO,BT,by omega,H⟩):=h
def KX (h:p:=by
 have ar:=yD (aa.cast ch.symm);clear aa ae F ch;refine Qg ?_;exact ⟨j + 1,by omega,by go_num,ar,a1⟩):=h
def KY (h:p:=by
 constructor;rintro ⟨h1,h2,h3⟩;exact ⟨h3,h1,h2⟩;rintro ⟨h1,h2,h3⟩;exact ⟨h2,h3,h1⟩):=h
def KZ (h:p:=by
 rcases hsrc with ⟨h,_⟩ | h;exact absurd h b1;exact h):=h
def L6 (h:p:=by
 go_wp2;go_ret;exact ⟨kJ gL,D⟩):=h
def L8 (h:p:=by
 obtain rfl:=ar;exact QZ):=h
def L9 (h:p:=by
 exact QZ):=h
def LA (h:p:=by
 obtain rfl:=ar;exact RF):=h
def LC (h:p:=by
 exact RF):=h
def LD (a1:p1)(k:q) (h:p1->Hk q->p:=by
 intro HV kq;refine RA HV λa1 n1 c1 an a5=>?_;exact kq.o a1 n1 c1 an a5):=h a1 ⟨k⟩
def LG (a1:p1)(k:q) (h:p1->Hk q->p:=by
 intro hb kq;replace I:=(tQ I hb);refine E _ _ I ?_;exact kq.o I):=h a1 ⟨k⟩
def LH (a1:p1)(a2:p2)(k:q) (h:p1->p2->Hk q->p:=by
 intro H hb kq;refine RD H hb λH I=>?_;exact kq.o H I):=h a1 a2 ⟨k⟩
def LJ (h:p:=by
 go_wp2;go_loopw [8] (λi wr=>∃ k:Nat,k<=x.length/\i=.int .i64 k/\(∀ j,(h:j < k)->(h2:j < x.length)->p x[j]=false)/\Qb w wr) (λi _=>x.length - (intOf i).toNat);case atStart=>exact ⟨0,Nat.zero_le _,rfl,λ_ h=>by omega,bR⟩
 obtain ⟨k,hk,rfl,hno,D⟩:=hrel;have HN:=yD hno;clear hno;by_cases hlt:k < x.length
 · obtain ⟨ba,ah,rfl,c0,c1,c2,hr,A0,A1,A2⟩:=kD.zx (ha.below D) hlt rfl;refine GV λC=>?_;exact aU
 refine uP λL=>?_;exact oK L D):=h
def LK (a1:p1)(a2:p2)(k:q) (h:p1->p2->Hk q->p:=by
 intro b3 ck kq;refine eO λTE hc=>?_;replace b3:=b3 bJ4;clear ck;exact kq.o TE hc b3):=h a1 a2 ⟨k⟩
def LM (h:p:=by
 obtain ⟨au,av⟩:=kCg R;exact RX):=h
def LP (h:p:=by
 exact RX):=h
def LQ (k:q) (h:Hk q->p:=by
 intro kq;refine TI λc3 ag=>?_;iterate 2
  all_goals first|(refine kI rfl ag ?_)|(refine jF (v:=?_) rfl (λW hW=>?_) ?_;rotate_left;(· have I:=cL hW A0;have aa:=cL hW B0;skip;go_simp;try with_reducible rfl))
  all_goals refine jD ?_
  all_goals first|(refine kI rfl ag ?_)|(refine jF (v:=?_) rfl (λW hW=>?_) ?_;rotate_left;(· go_simp;try with_reducible rfl))
  all_goals refine jD ?_
 exact kq.o c3 ag):=h ⟨k⟩
def LU (k:q) (h:Hk q->p:=by
 intro kq;refine R9 λt2 hb D F U a1 ag bd=>?_;exact kq.o t2 hb D F U a1 ag bd):=h ⟨k⟩
def LV (k:q) (h:Hk q->p:=by
 intro kq;refine eD λwT tc OT ba=>?_;obtain ⟨ed,et,e0,rfl,bh,bu,bw,co,dw,ej,ei⟩:=jT OT.raw;obtain ⟨a7,b7,rfl,ez,bg,c2,rfl,ew,a8,cl,rfl,eu⟩:=kD.sx bu (kD.sx bw (kD.sl dw));clear bh bu bw co dw ej ei;have ee:=ba.size;exact kq.o wT ba a7 b7 ez bg c2 ew a8 cl eu OT ee):=h ⟨k⟩
def LW (h:p:=by
 obtain ⟨k,hk,rfl,HN,D⟩:=hrel;by_cases hlt:k < a.length
 · have af:k < b.length:=bD1;obtain ⟨ba,ah,rfl,c0,hr,A0⟩:=kD.kAu (ac.below D) hlt rfl;obtain ⟨bb,J,rfl,d0,an,B0⟩:=kD.kAu (a3.below D) af rfl;obtain ⟨he,_⟩:=kD.zQ hr;obtain rfl:c0=_:=by simpa using he
   obtain ⟨F,_⟩:=kD.zQ an;obtain rfl:d0=_:=by simpa using F
   clear he F hr an;refine lG λhne E=>?_;generalize a[k]=x at *;generalize b[k]=y at *;refine aN hne E λHD HX=>?_;clear hne E;go_wp2_with fail;refine sF A0 B0 λFX wS I=>?_;all_goals ((iterate 9 refine kZ ?_);refine kR ?_)
   have G:=(tQ D I);cases hz:(x.toList==y.toList)
   · have L:=yD (show eqN a b=false by
       rw [kTh] at hz;simp at hz;unfold eqN;simp;exact HD.out hz)
     clear HD HX;go_wp2;exact iZ L G
   have L:=yD (HX.out (by rw [kTh] at hz;simpa using hz));clear HD HX;exact iI L G
 have L:=yD (show eqN a b=true by unfold eqN;simp;exact zN HN.out hlt HL.out);exact iF L D):=h
def LX (k:q) (h:Hk q->p:=by
 intro kq;refine kD.kV _ _ _ rfl bJ7 bJ7 hr ?_;exact kq.o):=h ⟨k⟩
def LY (h:p:=by
 refine iT λh_=>?_;exact h_):=h
def LZ (k:q) (h:Hk q->p:=by
 intro kq;refine RO λbg t0 H R=>?_;exact kq.o bg t0 H R):=h ⟨k⟩
def M8 (h:p:=by
 obtain ⟨k,hk,rfl,HN,D⟩:=hrel;by_cases hlt:k < a.length
 · have af:k < b.length:=bD1;obtain ⟨ba,ah,rfl,c0,hr,A0⟩:=kD.kAu (ac.below D) hlt rfl;obtain ⟨bb,J,rfl,d0,an,B0⟩:=kD.kAu (a3.below D) af rfl;have he:=kD.kKe hr;obtain rfl:c0=_:=by simpa using he
   have F:=kD.kKe an;obtain rfl:d0=_:=by simpa using F
   clear he F hr an;refine lG λhne E=>?_;generalize a[k]=x at *;generalize b[k]=y at *;refine aN hne E λHD HX=>?_;clear hne E;go_wp2_with fail;refine sF A0 B0 λFX wS I=>?_;all_goals ((iterate 9 refine kZ ?_);refine kR ?_)
   have G:=(tQ D I);cases hz:((x.toNat:Int)==(y.toNat:Int))
   · have L:=yD (show decide (a=b)=false by
       simp at hz;simp;exact HD.out (λq=>hz (by rw [q])))
     clear HD HX;go_wp2;exact iZ L G
   have L:=yD (HX.out (u8_inj bF7));clear HD HX;exact iI L G
 refine lV λL=>?_;exact iF L D):=h
def M9 (a1:p1)(k:q) (h:p1->Hk q->p:=by
 intro hb kq;refine aA BX hb BT λBX BT=>?_;refine aA BY hb BA λBY BA=>?_;exact kq.o BX BT BY BA):=h a1 ⟨k⟩
def MB (k:q) (h:Hk q->p:=by
 intro kq;refine kK (k:=0) rfl bI9 rfl (λK E=>?_);go_simp;refine jZ ?_;intro t1 R _ _;refine SH R λH I=>?_;clear R;refine S9 λK E=>?_;have be:=I.size;refine RZ λv1 t2 hr HV O bd=>?_;refine aM HV λa1 n1 c1 an a5=>?_;obtain rfl:=an;refine SH O λH I=>?_;clear hr O;refine jD ?_;refine kK (k:=10) rfl bI9 rfl (λK E=>?_);obtain ⟨v2,t3,hr,L,O,a7⟩:=yN (B:=wq.heap.size) HV H pJ I.size bJ0;refine aM L λa2 n2 c2 a9 a6=>?_;obtain rfl:=a9;refine U6 λI G HV=>?_;clear L G;refine E _ _ I ?_;clear hr O;refine jD ?_;refine kK (k:=14) rfl bI9 rfl (λK E=>?_);exact kq.o t1 H be t2 bd a1 n1 c1 a5 t3 a7 a2 n2 c2 a6 I HV K E):=h ⟨k⟩
def MC (k:q) (h:Hk q->p:=by
 intro kq;refine kK (k:=0) rfl bI9 rfl (λK E=>?_);go_simp;refine jZ ?_;intro t1 R _ _;refine SH R λH I=>?_;clear R;refine S9 λK E=>?_;have be:=I.size;refine RY λv1 t2 hr HV O bd=>?_;refine aM HV λa1 n1 c1 an a5=>?_;obtain rfl:=an;refine SH O λH I=>?_;clear hr O;refine jD ?_;refine SE λK E v2 t3 hr L O a7=>?_;refine aM L λa2 n2 c2 a9 a6=>?_;obtain rfl:=a9;refine U6 λI G HV=>?_;clear L G;refine E _ _ I ?_;clear hr O;refine RQ λK E=>?_;exact kq.o t1 H be t2 bd a1 n1 c1 a5 t3 a7 a2 n2 c2 a6 I HV K E):=h ⟨k⟩
def ME (k:q) (h:Hk q->p:=by
 intro kq;refine eY F D λF=>?_;refine eO λTE hc=>?_;exact kq.o F TE hc):=h ⟨k⟩
def MH (a1:p1)(k:q) (h:p1->Hk q->p:=by
 intro hb kq;refine aI hb λF=>?_;replace H:=(tQ H hb);exact kq.o F H):=h a1 ⟨k⟩
def MI (k:q) (h:Hk q->p:=by
 intro kq;refine eD λw2 cs O hb=>?_;have b8:=hb.size;refine aA BX hb BR λBX BR=>?_;replace H:=(tQ H hb);obtain ⟨h3,h4,iq,io,ij,ig,rfl,es,f2,f8,fk,fd,fg,fh,fp,gm⟩:=yF O.raw;obtain ⟨b9,cc,rfl,h0,da,dc,rfl,h6,f4,gb,rfl,im,e6,e8,rfl,ir,b2,ce,rfl,ii,d0,d1,rfl,id⟩:=kD.sx es (kD.sx fk (kD.sx fd (kD.sx fg (kD.sx fh (kD.sl fp)))));clear es f2 f8 fk fd fg fh fp gm;exact kq.o w2 b8 BX BR H b9 cc h0 da dc h6 f4 gb im e6 e8 ir b2 ce ii d0 d1 id O):=h ⟨k⟩
def MJ (k:q) (h:Hk q->p:=by
 intro kq;refine uJ λX U=>?_;refine iD λEB=>?_;exact kq.o X U EB):=h ⟨k⟩
def MK (a1:p1)(k:q) (h:p1->Hk q->p:=by
 intro an kq;refine aI an λF=>?_;refine eB an λhc TE=>?_;clear an;exact kq.o F hc TE):=h a1 ⟨k⟩
def ML (k:q) (h:Hk q->p:=by
 intro kq;refine eD λwT tc OT ba=>?_;obtain ⟨ed,rfl,bh⟩:=kT OT.raw;obtain ⟨a7,b7,rfl,_⟩:=kD.sl bh;exact kq.o wT ba a7 b7 bh OT):=h ⟨k⟩
def MM (k:q) (h:Hk q->p:=by
 intro kq;have de:=hb.size;refine aA BX hb BT λBX BT=>?_;exact kq.o de BX BT):=h ⟨k⟩
def MN (k:q) (h:Hk q->p:=by
 intro kq;refine RQ λK E=>?_;exact kq.o K E):=h ⟨k⟩
def MP (a1:p1)(k:q) (h:p1->Hk q->p:=by
 intro HN kq;refine RV HN ?_;exact kq.o):=h a1 ⟨k⟩
def MQ (k:q) (h:Hk q->p:=by
 intro kq;refine SE λK E v2 t3 hr L O a7=>?_;exact kq.o K E v2 t3 hr L O a7):=h ⟨k⟩
def MR (a1:p1)(k:q) (h:p1->Hk q->p:=by
 intro HK kq;replace HK:=yD (HK.below hb);exact kq.o HK):=h a1 ⟨k⟩
def MS (k:q) (h:Hk q->p:=by
 intro kq;refine S9 λK E=>?_;have be:=I.size;exact kq.o K E be):=h ⟨k⟩
def MU (a1:p1)(k:q) (h:p1->Hk q->p:=by
 intro hb kq;refine aC XO hb TO YO λXO TO YO=>?_;refine aC AO hb NO OO λAO NO OO=>?_;exact kq.o XO TO YO AO NO OO):=h a1 ⟨k⟩
def MV (k:q) (h:Hk q->p:=by
 intro kq;refine SI λbg t0 H R=>?_;exact kq.o bg t0 H R):=h ⟨k⟩
def MW (k:q) (h:Hk q->p:=by
 intro kq;refine jD ?_;refine kZ ?_;refine kZ ?_;refine jq ?_;have hzs:=I.1.size;have R5:=I.1.kC R bJ5;have L:=TE.trans I.1;have a9:=I.2;have ar:=yD (F.touch I.1 rU);have au:wS1.frozen? ⟨w,0,none⟩=false:=frozen_of_row wS1 w 0 _ _ R5;have av:wS1.frozen? ⟨w,1,none⟩=false:=frozen_of_row wS1 w 1 _ _ R5;have be:wS1.frozen? ⟨w,2,none⟩=false:=frozen_of_row wS1 w 2 _ _ R5;have bi:wS1.frozen? ⟨w,3,none⟩=false:=frozen_of_row wS1 w 3 _ _ R5;have ae:=kE R5 (j:=0) (v:=.slice none 0 0) rfl;have aw:=kE R5 (j:=1) (v:=.int .i64 0) rfl;have bh:=kE R5 (j:=2) (v:=.int .i64 0) rfl;have bj:=kE R5 (j:=3) (v:=.int .i64 0) rfl;go_wp2;exact kq.o hzs R5 L a9 ar au av be bi ae aw bh bj):=h ⟨k⟩
def MX (h:p:=by
 go_wp2_with fail;refine (kEb (HL.below ER)).mono ?_;refine aQ λw9 H a9 n9 c9 I O9=>?_;exact TG):=h
def MZ (k:q) (h:Hk q->p:=by
 intro kq;refine eD λcf v8 O8 hb=>?_;have ef:=hb.size;refine aA BX hb BD λBX BD=>?_;refine aA BR hb BO λBR BO=>?_;replace BN:=kC BN hb;refine aC F hb HQ eg λF HQ eg=>?_;replace H:=(tQ H hb);obtain ⟨ms,f6⟩:∃ l,kLn M f x5=l:=⟨_,rfl⟩;rw [f6] at O8;have fr:=yD (show kIq f y0 x4 x5=ms by rw [kUf gq.out,ho.out];exact f6);clear f6;obtain ⟨na,nc,rfl,_⟩:=kD.sl O8.raw;obtain ⟨ST,hST⟩:∃ SN:Nat->Prop,∀ j,SN j↔((S1 j/\j < bo.heap.size)\/(bo.heap.size<=j/\j < cf.heap.size)):=⟨_,λ_=>Iff.rfl⟩;exact kq.o cf ef BX BD BR BO BN F HQ H ms fr na nc O8 ST hST):=h ⟨k⟩
def N7 (k:q) (h:Hk q->p:=by
 intro kq;refine iC λw1 ag R br=>?_;refine iG ag λhc TE=>?_;exact kq.o w1 R br hc TE):=h ⟨k⟩
def N8 (k:q) (h:Hk q->p:=by
 intro kq;refine TB λwS I=>?_;exact kq.o wS I):=h ⟨k⟩
def N9 (k:q) (h:Hk q->p:=by
 intro kq;refine kK (k:=10) rfl bI9 rfl (λK E=>?_);obtain ⟨v2,t3,hr,L,O,a7⟩:=yN (B:=wq.heap.size) HV H pJ I.size bJ0;exact kq.o K E v2 t3 hr L O a7):=h ⟨k⟩
def NA (k:q) (h:Hk q->p:=by
 intro kq;refine gD λd5 v8 O8 hb ft=>?_;refine aB BX hb BD BR λBX BD BR=>?_;refine aK BO BN HQ λBO BN HQ=>?_;refine aI hb λF=>?_;refine bH eg hb λeg H=>?_;obtain ⟨ms,f6⟩:∃ l,kLn M f x5=l:=⟨_,rfl⟩;rw [f6] at O8;have fr:=yD (show kIq f y0 x4 x5=ms by rw [kUf gq.out,ho.out];exact f6);clear f6;obtain ⟨na,nc,rfl,_⟩:=kD.sl O8.raw;obtain ⟨ST,hST⟩:∃ SN:Nat->Prop,∀ j,SN j↔((SC j/\j < b6.heap.size)\/(b6.heap.size<=j/\j < d5.heap.size)):=⟨_,λ_=>Iff.rfl⟩;exact kq.o d5 ft BX BD BR BO BN HQ F H ms fr na nc O8 ST hST):=h ⟨k⟩
def NB (k:q) (h:Hk q->p:=by
 intro kq;have eq:=hb.size;refine aA BX hb BD λBX BD=>?_;refine aA BR hb BO λBR BO=>?_;refine aD F hb HQ λF HQ=>?_;replace H:=(tQ H hb);exact kq.o eq BX BD BR BO F HQ H):=h ⟨k⟩
def NC (k:q) (h:Hk q->p:=by
 intro kq;refine TI λa4 ar=>?_;exact kq.o a4 ar):=h ⟨k⟩
def ND (k:q) (h:Hk q->p:=by
 intro kq;refine jD ?_;refine kK (k:=0) rfl bI9 rfl (λK E=>?_);go_simp;refine jZ ?_;intro t1 R _ _;exact kq.o K E t1 R):=h ⟨k⟩
def NE (k:q) (h:Hk q->p:=by
 intro kq;refine iJ λI=>?_;refine E _ _ I ?_;exact kq.o I):=h ⟨k⟩
def NG (a1:p1)(k:q) (h:p1->Hk q->p:=by
 intro hb kq;refine aC XO hb TO YO λXO TO YO=>?_;refine aD NO hb OO λNO OO=>?_;replace H:=(tQ H hb);exact kq.o XO TO YO NO OO H):=h a1 ⟨k⟩
def NH (h:p:=by
 go_wp2;go_loopw [8] (λi wr=>∃ k:Nat,k<=x.length/\i=.int .i64 k/\(∀ j,(h:j < k)->(h2:j < x.length)->p x[j]=false)/\Qb w wr) (λi _=>x.length - (intOf i).toNat);case atStart=>exact ⟨0,Nat.zero_le _,rfl,λ_ h=>by omega,bR⟩
 obtain ⟨k,hk,rfl,hno,D⟩:=hrel;have HN:=yD hno;clear hno;by_cases hlt:k < x.length
 · obtain ⟨ba,ah,rfl,c0,c1,hr,A0,A1⟩:=kD.kRc (ha.below D) hlt rfl;refine GV λC=>?_;exact aU
 refine uP λL=>?_;exact oK L D):=h
def NI (k:q) (h:Hk q->p:=by
 intro kq;replace R:=D.kC R bJ5;refine eO λTE hc=>?_;exact kq.o R TE hc):=h ⟨k⟩
def NJ (a1:p1)(k:q) (h:p1->Hk q->p:=by
 intro av kq;replace H:=H.trans (av.below H.size bF2);exact kq.o H):=h a1 ⟨k⟩
def NK (k:q) (h:Hk q->p:=by
 intro kq;go_simp;have H:=kBt (w:=t1) (cs:=[.slice ra r.1.length rp,.int .i64 r.2.1,.int .i64 r.2.2]) (x:=r) (show (kD.kHj jA w0).is true _ [_,_,_] r _ from HR.1) HR.2;have Z:Below t1 t1 (World.alloc t1 (.cells #[.slice ra r.1.length rp,.int .i64 r.2.1,.int .i64 r.2.2] 139)):=bR.alloc nL _;generalize aa:World.alloc t1 (.cells #[.slice ra r.1.length rp,.int .i64 r.2.1,.int .i64 r.2.2] 139)=t2 at H Z ⊢;have bd:=Z.size;have R:=Z;clear aa Z;replace HV:=HV.below R;exact kq.o t2 H bd R HV):=h ⟨k⟩
def NL (k:q) (h:Hk q->p:=by
 intro kq;refine gD λw9 ec Oe hb d6=>?_;refine aB BX hb BD BR λBX BD BR=>?_;replace BO:=kC BO hb;refine aI hb λF=>?_;refine bH HQ hb λHQ H=>?_;refine JQ λev Oe f0=>?_;obtain ⟨sv,rfl,eo,gu⟩:=jM Oe.raw;obtain ⟨ea,ep,rfl,_⟩:=kD.sl gu;clear eo gu;obtain ⟨SC,hl⟩:∃ SN:Nat->Prop,∀ j,SN j↔((S1 j/\j < w8.heap.size)\/(w8.heap.size<=j/\j < w9.heap.size)):=⟨_,λ_=>Iff.rfl⟩;exact kq.o w9 d6 BX BD BR BO F HQ H ev f0 ea ep Oe SC hl):=h ⟨k⟩
def NM (k:q) (h:Hk q->p:=by
 intro kq;refine eB hb λhc TE=>?_;have HZ:=yD (hr);exact kq.o hc TE HZ):=h ⟨k⟩
def NN (k:q) (h:Hk q->p:=by
 intro kq;refine eD λw1 v1 O1 O=>?_;refine lC O EB λY E1=>?_;refine II λa4 F=>?_;refine aH O1 λoa on oc ho ak=>?_;obtain rfl:=ho;exact kq.o w1 Y E1 a4 oa on oc ak F):=h ⟨k⟩
def NP (k:q) (h:Hk q->p:=by
 intro kq;refine eD λw1 pc OP O=>?_;obtain ⟨be,rfl,ay⟩:=kT OP.raw;obtain ⟨bx,bz,rfl,_⟩:=kD.sl ay;clear ay;have HP:=yD OP.rd;have E1:=(tQ EB O);exact kq.o w1 O bx bz OP HP E1):=h ⟨k⟩
def NQ (k:q) (h:Hk q->p:=by
 intro kq;refine AJ λw5 G cg=>?_;replace BO:Qr w5 w2 (Qh b9 x0 cc xc da xe dc pa P pc e6 x3 e8 b2 x4 ce d0 x5 d1 x6) 33:=bB6;have df:=cg.size;refine aR cg BX BR λBX BR=>?_;refine eY ae cg λae=>?_;refine lY cg λH=>?_;have F:=yD (ae.wide (T:=(λj=>w.heap.size + 2<=j/\j < w5.heap.size/\j≠w2.heap.size)) wK);exact kq.o w5 BO df BX BR H F):=h ⟨k⟩
def NR (a1:p1)(k:q) (h:p1->Hk q->p:=by
 intro bq kq;refine aB BX bq BD BR λBX BD BR=>?_;replace BO:=kC BO bq;exact kq.o BX BD BR BO):=h a1 ⟨k⟩
def NS (h:p:=by
 go_wp2_with (at_builtin;refine kD.jN rfl _ _ 63 rfl (r:=kD.int) (e:=3) underlying63 zk rfl bJ4 bJ4 (B:=w.heap.size) F.out bJ7 bJ7 rfl (kD.jB (n:=bInt c) (by unfold bInt;have:=c.toNat_lt;omega) _) rfl (λ_ _ h=>h) vD (λ_ h=>h.elim) bJ5 bJ0 ?_);intro v2 w2 Y V am;have ae:=yD (Y.cast I.symm);refine aH Y λda G H a9 a7=>?_;obtain rfl:=a9;have O:=D.trans V;clear Y V F D;exact iI ae O):=h
def NT (k:q) (h:Hk q->p:=by
 intro kq;have br:=hb.size;refine aA BT hb BX λBT BX=>?_;exact kq.o br BT BX):=h ⟨k⟩
def NU (h:p:=by
 simp only [Act.put,zA,zB,zC] at h_;exact h_):=h
def NV (h:p:=by
 refine fO λw1 O=>?_;have EF:Qb w w1:=Below.trans bK (O.mono bJ6);clear O;by_cases h:idxOf (yg n f) l < 0
 · have L:=yD (jGy h);go_wp2;exact uR EF
 obtain ⟨k,hk,hi⟩:=kFe h;have L:=yD (jDq hk hi);rw [hi] at h ⊢;clear hi;obtain ⟨ba,ah,rfl,c0,c1,c2,hr,A0,A1,A2⟩:=kD.zx (HL.below EF) hk rfl;obtain ⟨rfl,rfl,_⟩:=jy hr;clear hr;generalize l[k]=y at *;have em:=Int.ofNat_lt.2 hk;exact oK L EF):=h
def NW (k:q) (h:Hk q->p:=by
 intro kq;refine aN hl hn λHL HN=>?_;exact kq.o HL HN):=h ⟨k⟩
def NY (h:p:=by
 have HV:=yD (jHl hlt);have bp:(127:Int) < m:=bJ5;go_wp2_with (at_builtin;refine kD.jN rfl _ _ 22 rfl (r:=kD.byte) (e:=5) underlying22 kDm rfl bJ4 bJ4 (B:=w.heap.size) F.out bJ7 bJ7 rfl (kNc (x:=vlo m) qY) rfl (λ_ _ h=>h) vD (λ_ h=>h.elim) bD2 bJ0 ?_);intro v3 w3 E U bq;have ap:=yD E;refine aH E λa3 n3 c3 ar ba=>?_;exact KA):=h
def NZ (h:p:=by
 refine lV λL=>?_;exact iF L D):=h
def O7 (k:q) (h:Hk q->p:=by
 intro kq;go_simp;have H:=kEa (w:=t1) (cs:=[.int .i64 x]) (x:=x) (show kD.int.is true _ [.int .i64 x] x _ from ⟨rfl,N⟩) trivial;have Z:Below t1 t1 (World.alloc t1 (.cells #[.int .i64 x] 3)):=bR.alloc nL _;generalize aa:World.alloc t1 (.cells #[.int .i64 x] 3)=t2 at H Z ⊢;have bd:=Z.size;have R:=Z;clear aa Z;replace HV:=HV.below R;exact kq.o t2 H bd R HV):=h ⟨k⟩
def OD (k:q) (h:Hk q->p:=by
 intro kq;refine aN hne E λHD HX=>?_;refine aN pr qr λHR d7=>?_;exact kq.o HD HX HR d7):=h ⟨k⟩
def OI (k:q) (h:Hk q->p:=by
 intro kq;have X:=D.size;have af:Qb wr _:=(tQ EC I);refine aI af λF=>?_;have V:=(tQ D af);exact kq.o X af F V):=h ⟨k⟩
def OJ (k:q) (h:Hk q->p:=by
 intro kq;refine x9 λhk v0 v1 bq ac hN hR hs=>?_;obtain ⟨na,nc,rfl,_⟩:=kD.sl hN.rd.1;have af:=ac 0 _ rfl;simp only [Nat.add_zero,kDs] at af;have HN:=yD hN;have HZ:=yD (ao.out _ (List.getElem_mem hk));obtain ⟨z,hz⟩:∃ z_,x2[k]=z_:=⟨_,rfl⟩;rw [hz] at af HN HZ;clear hz;refine mV λI=>?_;exact kq.o hk v1 na nc z HZ HN af I):=h ⟨k⟩
def OL (k:q) (h:Hk q->p:=by
 intro kq;refine oM λwD ED N=>?_;have ay:=ED.size;obtain ⟨D0,D1,D2,D3,D4⟩:=jP N;have af:=(tQ ba ED);exact kq.o wD ED ay D0 D1 D2 D3 D4 af):=h ⟨k⟩
def OM (k:q) (h:Hk q->p:=by
 intro kq;refine iO R λb6 c8 co c9 dr ee eh ej cd cz c7 da dp ef ei eg=>?_;refine lN λt3 hT R ea=>?_;exact kq.o t3 hT R ea):=h ⟨k⟩
def OQ (h:p:=by
 refine fO λw3 ag=>?_;have E3:=(tQ E2 ag);clear ag E2;cases hv:kKp r
 · have HU:Hid (allows n m r=false):=yD bE5;clear hv;go_wp2;exact iZ HU E3
 cases N
 · have HU:Hid (allows n m r=false):=yD bE5;clear hv;go_wp2;exact iZ HU E3
 have HU:Hid (allows n m r=W):=yD bE5;clear hv;exact iF HU E3):=h
def OU (a1:p1)(k:q) (h:p1->Hk q->p:=by
 intro X kq;replace X:=X.trans (Touch.of_below hb);exact kq.o X):=h a1 ⟨k⟩
def OV (a1:p1)(a2:p2)(a3:p3)(k:q) (h:p1->p2->p3->Hk q->p:=by
 intro a2 a4 a5 kq;have FX:=yD (λ(W:World) (hW:Qb wr W)=>kJf hW a2 a4 a5);exact kq.o FX):=h a1 a2 a3 ⟨k⟩
def OW (k:q) (h:Hk q->p:=by
 intro kq;refine fO λw1 hw=>?_;obtain rfl:=hw.symm;exact kq.o hw):=h ⟨k⟩
def OX (k:q) (h:Hk q->p:=by
 intro kq;go_simp;refine iC λv hb BB zv=>?_;refine y7 λb BB bf=>?_;exact kq.o v hb zv b BB bf):=h ⟨k⟩
def OY (a1:p1)(k:q) (h:p1->Hk q->p:=by
 intro HY kq;replace HY:=yD (HY.touch hT qN);refine oU λhc=>?_;exact kq.o HY hc):=h a1 ⟨k⟩
def P5 (h:p:=by
 refine eD λw2 v2 hown G=>?_;refine aH hown λa2 n2 c2 hv a6=>?_;obtain rfl:=hv;refine D8 λF bb v3 w3 E U bq ap=>?_;clear hown;refine aH E λa3 n3 c3 ar ba=>?_;obtain rfl:=ar;have D:=G.trans U;clear E U;go_wp2;go_ret;exact ⟨_,rfl,ap.cast vQ,D⟩):=h
def P6 (k:q) (h:Hk q->p:=by
 intro kq;have gx:=I.size;have bl:=EC.size;have X:=D.size;have ee:=ba.size;have af:Qb wr wS:=(tQ ER I);refine aI af λF=>?_;have V:=(tQ D af);exact kq.o gx bl X ee af F V):=h ⟨k⟩
def P7 (a1:p1)(k:q) (h:p1->Hk q->p:=by
 intro D kq;refine oM λX EB N=>?_;obtain ⟨ah,J,U⟩:=kBc N;replace D:=cL EB D;have FX:=yD (λ(W:World) (hW:Qb X W)=>kIm hW ah J U D);exact kq.o X EB ah J U D FX):=h a1 ⟨k⟩
def P8 (a1:p1)(a2:p2)(k:q) (h:p1->p2->Hk q->p:=by
 intro OB OC kq;obtain ⟨v_,t4,hr,L,O,a4,ai⟩:=kD.zt (P:=prog) (t:=63) (ty:=63) (r:=kD.int) (e:=3) (w:=t3) (B:=X.heap.size) underlying63 zk rfl bJ4 bJ4 kD.yL OB (OC.own bE7).rd fG I.size bY;refine eU ?_;refine aH L λbf am gi ak ab=>?_;obtain rfl:=ak;exact kq.o t4 O a4 ai bf am gi ab hr L):=h a1 a2 ⟨k⟩
def P9 (k:q) (h:Hk q->p:=by
 intro kq;have bg:(0:Int)<=k:=bJ5;have bu:(k:Int) < on:=bJ5;exact kq.o bg bu):=h ⟨k⟩
def PD (k:q) (h:Hk q->p:=by
 intro kq;have X:=yD H.mem;have ae:=H.len;simp only [List.length_take,List.length_cons,List.length_drop] at ae;have a2:l.length<=cap:=ae.2.1;have a5:cap<=9223372036854775807:=rC;exact kq.o X ae a2 a5):=h ⟨k⟩
def PE (a1:p1)(h:p1->p:=by
 intro D;refine uP λL=>?_;exact oK L D):=h a1
def PG (k:q) (h:Hk q->p:=by
 intro kq;refine allC ?_;intro wC EC N _;obtain ⟨M0,M1,M2⟩:=kBc N;clear N;refine (al.out wC (E.trans (Touch.of_below EC)) _ _ (HR.below EC)).mono ?_;refine fO λw5 a1=>?_;have E5:=yD (tQ EC a1);refine aJ a1 M0 M1 M2 λM0 M1 M2=>?_;clear EC;exact kq.o wC w5 E5 M0 M1 M2):=h ⟨k⟩
def PH (k:q) (h:Hk q->p:=by
 intro kq;refine oM λX EB N=>?_;refine p9 λY K1 K2 K3 K4 FX=>?_;refine jf (λW=>Qb X W) [(0,true),(1,true),(2,true),(4,true),(3,false),(5,false),(6,true)] bI9 bI9 sD (bR.drew) ?_;refine uN λwS I=>?_;iterate 4
  all_goals refine kZ ?_
 exact kq.o X EB Y K1 K2 K3 K4 FX wS I):=h ⟨k⟩
def PI (k:q) (h:Hk q->p:=by
 intro kq;refine (HI.out _ rfl).mono ?_;refine fO λw1 O=>?_;have G1:=yD (Y.below O);have E1:=yD (Touch.of_below (S:=S) O);exact kq.o w1 O G1 E1):=h ⟨k⟩
def PK (k:q) (h:Hk q->p:=by
 intro kq;refine aB BX hb BR BO λBX BR BO=>?_;refine aS BT F λBT F=>?_;replace H:=(tQ H hb);exact kq.o BX BR BO BT F H):=h ⟨k⟩
def PL (h:p:=by
 go_wp2;go_loopw [7,8] (λi j wr=>i=.int .i64 0/\j=.int .i64 20/\wr=w) (λi j _=>0);case atStart=>exact ⟨rfl,rfl,rfl⟩
 obtain ⟨rfl,rfl,hw⟩:=hrel;obtain rfl:=hw;go_wp2_with fail;refine HX.mono ?_;refine fO λw2 q=>?_;exact GH):=h
def PM (k:q) (h:Hk q->p:=by
 intro kq;intro wS I;iterate 5
  all_goals refine kZ ?_
 exact kq.o wS I):=h ⟨k⟩
def PN (k:q) (h:Hk q->p:=by
 intro kq;replace I:=And.intro (I.1.trans (Touch.of_below hb)) (I.2.below hb);exact kq.o I):=h ⟨k⟩
def PO (h:p:=by
 refine fO λw1 O=>?_;have G:Qb w w1:=(tQ EB O);clear O;exact xW G):=h
def PP (k:q) (h:Hk q->p:=by
 intro kq;refine jZ ?_;intro w1 ag _ br;refine iG ag λhc TE=>?_;clear ag;exact kq.o w1 br hc TE):=h ⟨k⟩
def PQ (k:q) (h:Hk q->p:=by
 intro kq;obtain ⟨ek,e5,e4,du,bp,bj,bv,b0,cg,c3,c4⟩:=jT a1.1;simp only [List.cons.injEq,and_true] at du;obtain ⟨rfl,rfl,rfl⟩:=du;refine aN bp b0 λdw b6=>?_;have dx:=yD (show kQ.rd w _ x.2.2.1 from ⟨b0,a1.2.2.2.1⟩);clear bp bj bv b0 cg c3 c4;exact kq.o dw b6 dx):=h ⟨k⟩
def PR (k:q) (h:Hk q->p:=by
 intro kq;have F:=yD (kD.ko.wide (T:=λj=>w1.heap.size<=j/\j < w4.heap.size/\j≠w2.heap.size) ac.out sV);refine AJ λw5 G cg=>?_;replace B:Qr w5 w2 #[.slice (some ⟨w3,0,none⟩) 1 1] 41:=bC3;have df:=cg.size;exact kq.o F w5 cg B df):=h ⟨k⟩
def PS (h:p:=by
 refine oZ λab N=>?_;clear F J av aa;have h1:(n1:Int)<=cap:=bJ5;have h2:(n1:Int)<=(n1:Int) + 1:=bJ5;exact xH):=h
def PT (k:q) (h:Hk q->p:=by
 intro kq;have br:=hb.size;refine aB BN hb BT BX λBN BT BX=>?_;replace H:=(tQ H hb);exact kq.o br BN BT BX H):=h ⟨k⟩
def PU (k:q) (h:Hk q->p:=by
 intro kq;refine uY λwC R EC a9 M0=>?_;have M1:Qd wC wr 1 (Qs ar x1 bd):=bB0;have M2:Qd wC wr 2 (Qn x2):=bB0;refine CU R λFX=>?_;refine J6 ?_;refine uK λwS I=>?_;iterate 7
  all_goals refine kZ ?_
 exact kq.o wC EC a9 M0 M1 M2 FX wS I):=h ⟨k⟩
def PV (k:q) (h:Hk q->p:=by
 intro kq;have gx:=I.size;have X:=(tQ af I);have XW:=kC XV.out X;have ab:=D.trans (X.mono bJ5);refine aI X λF=>?_;exact kq.o gx X XW ab F):=h ⟨k⟩
def PW (k:q) (h:Hk q->p:=by
 intro kq;refine oV λhO=>?_;refine aN hO hx λF HX=>?_;exact kq.o hO F HX):=h ⟨k⟩
def PY (k:q) (h:Hk q->p:=by
 intro kq;have Y:Qd X w 0 (Qs dg x.1 dd):=bA9;have K1:Qd X w 1 (Qn x.2.1.1):=bA9;have K2:Qd X w 2 (Qs dj x.2.1.2 di):=bA9;have K3:Qd X w 3 (Qs d4 x.2.2.1 dz):=bA9;have K4:Qd X w 4 (Qs eb x.2.2.2.1 d9):=bA9;exact kq.o Y K1 K2 K3 K4):=h ⟨k⟩
def PZ (k:q) (h:Hk q->p:=by
 intro kq;refine kN (λW=>Qb wr W) [true,true,true,true,true,true,false,true,true,true,true,true,true,true,true,true,true,true,true,true,true,true,true,true,true,true,true,true] bI9 bI9 sD (bR.drew) ?_;exact kq.o):=h ⟨k⟩
def QA (k:q) (h:Hk q->p:=by
 intro kq;try simp only [Act.put,zA,zB,zC]
 exact kq.o):=h ⟨k⟩
def QB (a1:p1)(h:p1->p:=by
 intro T9;clear E K;refine jD ?_;have h_:=T9 b v I U BB;exact fU):=h a1
def QC (a1:p1)(a2:p2)(k:q) (h:p1->p2->Hk q->p:=by
 intro q4 q5 kq;have ak:Hid (Ch.rd w [Qs d3 x.2.2.2.2.1 dy] x.2.2.2.2.1):=yD ⟨bt,q4⟩;have ai:Hid (Cf.rd w [Qs dx x.2.2.2.2.2.1 dr] x.2.2.2.2.2.1):=yD ⟨c6,q5⟩;exact kq.o ak ai):=h a1 a2 ⟨k⟩
def QD (k:q) (h:Hk q->p:=by
 intro kq;obtain ⟨v1,t2,hr,HV,O,bd⟩:=jd (w:=t1) (v:=.slice (some ⟨wS,0,none⟩) 0 0) (xs:=[]) (S:=λ_=>False) (B:=t1.heap.size) kD.ko.void (ag.below I) (λ_ h=>h.elim) nL bJ0;exact kq.o v1 t2 hr HV O bd):=h ⟨k⟩
def QE (k:q) (h:Hk q->p:=by
 intro kq;obtain ⟨v1,t2,hr,HV,O,bd⟩:=yN (w:=t1) (v:=.slice (some ⟨wS,0,none⟩) 0 0) (xs:=[]) (S:=λ_=>False) (B:=t1.heap.size) kD.ko.void (ag.below I) (λ_ h=>h.elim) nL bJ0;exact kq.o v1 t2 hr HV O bd):=h ⟨k⟩
def QF (k:q) (h:Hk q->p:=by
 intro kq;refine kN (λW=>Qb wC W) [true,true,true,false,true,true,true,true,true,true,true,true,true,true,true,true,true,true,true,true,true,true] bI9 bI9 sD (bR.drew) ?_;exact kq.o):=h ⟨k⟩
def QG (k:q) (h:Hk q->p:=by
 intro kq;refine fK λX U EB=>?_;have zB:w.heap.size + 2<=X.heap.size:=bH6;have Y:Qd X w 0 (Qs ap p bh):=bA9;have K1:Qc X (w.heap.size + 1) 0 (Qs an n am):=bA9;exact kq.o X EB zB Y K1):=h ⟨k⟩
def QH (k:q) (h:Hk q->p:=by
 intro kq;replace U:V.heap.size<=b/\b < v.heap.size:=⟨U.1,Nat.lt_of_lt_of_le U.2 D.size⟩;exact kq.o U):=h ⟨k⟩
def QI (h:p:=by
 refine eD λw5 v5 hown ab=>?_;refine aH hown λa5 n5 c5 db c7=>?_;obtain rfl:=db;refine EY λal ae=>?_;clear D F R Y a8 A0 af L ab hown;exact iI ae al):=h
def QJ (h:p:=by
 refine aX λt3 a7 a2 n2 c2 a6 I HV K E=>?_;clear H;obtain ⟨v3,t4,hr,L,O,a4⟩:=jd (B:=wq.heap.size) HV ((dm _).out.below I) vD I.size bJ0;exact aT):=h
def QK (h:p:=by
 refine aW λt3 a7 a2 n2 c2 a6 I HV K E=>?_;clear H;obtain ⟨v3,t4,hr,L,O,a4⟩:=yN (B:=wq.heap.size) HV ((dm _).out.below I) vD I.size bJ0;exact aO):=h
def QL (k:q) (h:Hk q->p:=by
 intro kq;have gg:Hid (Ce.rd w [Qs d4 x2 dz] x2):=yD ⟨bf,hx.2.2.2.1⟩;have hv:Hid (kS.rd w [Qn xc,Qs dj xe di] (xc,xe)):=yD ⟨bc,hx.2.2.1⟩;exact kq.o gg hv):=h ⟨k⟩
def QM (k:q) (h:Hk q->p:=by
 intro kq;refine kP 0 ?_;refine kP 1 ?_;refine kP 2 ?_;exact kq.o):=h ⟨k⟩
def QN (h:p:=by
 refine aX λt3 a7 a2 n2 c2 a6 I HV K E=>?_;clear H;refine UA λv3 t4 hr L O a4=>?_;exact aT):=h
def QO (h:p:=by
 refine aW λt3 a7 a2 n2 c2 a6 I HV K E=>?_;clear H;refine UB λv3 t4 hr L O a4=>?_;exact aO):=h
def QP (h:p:=by
 refine Qg ?_;exact ⟨k + 1,_,by omega,by omega,by go_num,MG,by omega,F,D⟩):=h
def QQ (k:q) (h:Hk q->p:=by
 intro kq;refine kN (λW=>Qb wr W) [true,true,true,true,true,true,true,true,true,true,true,true,true,true,false,true,true] bI9 bI9 sD (bR.drew) ?_;exact kq.o):=h ⟨k⟩
def QR (h:p:=by
 have HU:Hid (ze x t y now=false):=yD bE6;have D:decide (0<=idxOf (jR y.1) x.2.2.1)=false:=hh;clear hh;go_wp2;exact iZ HU H):=h
def QS (h:p:=by
 refine fO λw1 O=>?_;exact xW O):=h
def QT (h:p:=by
 have HQ:=yD (jIw hv);clear hv;go_wp2_with fail;refine (kFn (HL.below E)).mono ?_;refine eD λw8 v8 O8 ao=>?_;exact JY):=h
def QU (h:p:=by
 go_wp2_with fail;refine HC.mono ?_;refine fO λw2 q=>?_;have HQ:=yD q;clear q;go_wp2;go_end0;exact ⟨rfl,HQ.out⟩):=h
def QV (h:p:=by
 refine uP λL=>?_;exact uA):=h
def QW (h:p:=by
 refine Qg ?_;exact ⟨k + 1,sa,ma,sc,mc,s,m,by go_num,by omega,yD bI8,yD (F.wide wK),BX,BR,BO,by omega,H⟩):=h
def QX (h:p:=by
 refine fO λw1 O=>?_;have EF:Qb w w1:=Below.trans bK (O.mono bJ6);clear O;go_wp2;go_ret;exact ⟨kJ bJ6,EF⟩):=h
def QY (h:p:=by
 refine kD.wpList_append_run rfl _ _ _ rfl bJ7 bJ7 D ?_;go_wp2;go_ret;exact ⟨_,rfl,ab.out,N.out⟩):=h
def QZ (h:p:=by
 refine U6 λI G HV=>?_;clear L G;refine E _ _ I ?_;clear E K hr O;refine jD ?_;refine kP 15 ?_;refine jb bI9 ?_;have al:=yD (kD.ko.cast HV (show _=Srt.sorted (zm l n) (fs.take (i + 1)) from by rw [ac.out,List.nil_append]));have bj:=af.size;have av:=yD (af.trans (I.mono (af.size)));clear HV ac;refine Qg ?_;exact ⟨i + 1,by omega,by go_num,yD (al.wide vE),(tQ D av.out)⟩):=h
def R8 (k:q) (h:Hk q->p:=by
 intro kq;refine eD λw6 ec Oe hb=>?_;have dq:=hb.size;refine aA BX hb BR λBX BR=>?_;replace BO:=kC BO hb;refine MH hb λF H=>?_;obtain ⟨ev,he⟩:∃ ev,evict now (xc,xe)=(xc,ev):=⟨_,rfl⟩;rw [he] at Oe;have HE:=yD he;clear he;obtain ⟨sv,rfl,eo,gu⟩:=jM Oe.raw;obtain ⟨ea,ep,rfl,_⟩:=kD.sl gu;clear eo gu;have ae:=yD ((kFp F.out Oe qO).wide (T:=(λj=>w.heap.size + 2<=j/\j < w6.heap.size/\j≠w2.heap.size)) dK);obtain ⟨U,N,af,X,D,ah,ag,ai⟩:=jX BO;obtain ⟨a9,bb,b4,b3,b5,c8,c7,c9⟩:=jX BR;obtain ⟨ao,ar,ax,a1,a2,a6,a5,a4⟩:=kBn BO;obtain ⟨be,bd,bv,bx,b0,cz,c5,c4⟩:=kBn BR;refine KF λeh=>?_;exact kq.o w6 dq BX BR BO H ev HE ea ep ae U N af X D ah ag ai a9 bb b4 b3 b5 c8 c7 c9 ao ar ax a1 a2 a6 a5 a4 be bd bv bx b0 cz c5 c4 eh):=h ⟨k⟩
def R9 (k:q) (h:Hk q->p:=by
 intro kq;rintro e t3 ⟨b4,rfl,am,hb⟩;obtain ⟨b5,b2,b3,av,bu⟩:=am.parts;obtain rfl:=av;have a7:=hb.size;exact kq.o t3 hb b5 b2 b3 bu am a7):=h ⟨k⟩
def RA (a1:p1)(k:q) (h:p1->Hk q->p:=by
 intro L kq;refine kD.kV _ _ _ rfl bJ7 bJ7 hr ?_;obtain ⟨a2,n2,c2,a9,a6⟩:=L.parts;exact kq.o a2 n2 c2 a9 a6):=h a1 ⟨k⟩
def RD (a1:p1)(a2:p2)(k:q) (h:p1->p2->Hk q->p:=by
 intro H hb kq;refine U5 H hb λH I=>?_;exact kq.o H I):=h a1 a2 ⟨k⟩
def RF (h:p:=by
 refine U6 λI G HV=>?_;clear L G;refine E _ _ I ?_;clear E K hr O;refine jD ?_;refine kP 12 ?_;refine jb bI9 ?_;have al:=yD (kD.ko.cast HV (show _=Srt.put kDk l r from by rw [ac.out,List.nil_append]));have av:=yD ((tQ EB (tQ af I)));clear HV ac;go_wp2;go_ret;exact ⟨_,rfl,al.wide vE,av.out⟩):=h
def RH (k:q) (h:Hk q->p:=by
 intro kq;refine eD λw4 v4 O4 hb=>?_;have de:=hb.size;refine aA BX hb BR λBX BR=>?_;replace BO:=kC BO hb;refine MH hb λF H=>?_;obtain ⟨V,Y,ab,Z,aa,aj,ak,al⟩:=jX BX;refine iO BO λU N af X D ah ag ai ao ar ax a1 a2 a6 a5 a4=>?_;have fj:=jDt now x2;obtain ⟨P,hP⟩:∃ P,kKj now x2=P:=⟨_,rfl⟩;rw [hP] at O4 fj;have HP:=yD hP;clear hP;obtain ⟨pa,pc,rfl,_⟩:=kD.sl O4.raw;have ae:=yD ((kHb F.out O4 qO).wide (T:=(λj=>w.heap.size + 2<=j/\j < w4.heap.size/\j≠w2.heap.size)) dK);exact kq.o w4 de BX BR BO H V Y ab Z aa aj ak al U N af X D ah ag ai ao ar ax a1 a2 a6 a5 a4 P fj HP pa pc ae):=h ⟨k⟩
def RI (k:q) (h:Hk q->p:=by
 intro kq;rintro e w5 ⟨v4,u4,rfl,O4,hb⟩;refine MM λdf BX BT=>?_;refine aA BD hb BR λBD BR=>?_;replace BO:=kC BO hb;refine MH hb λF H=>?_;clear hb;obtain ⟨P,hP⟩:∃ P,kJc y0 x2=P:=⟨_,rfl⟩;obtain ⟨R,hR⟩:∃ R,kEo y0 x2=R:=⟨_,rfl⟩;rw [hP,hR] at O4;refine aN hP hR λge d7=>?_;clear hP hR;obtain ⟨SA,SB,OA,OB,hq,hSB,_⟩:=kD.jGf O4;obtain ⟨pa,pc,rfl,_,ra,rc,rfl,_⟩:=kD.sx OA.raw (kD.sl OB.raw);clear O4;have h7:R.length<=16777216:=OB.2.1;exact kq.o w5 df BX BT BD BR BO F H P R ge d7 SA SB hq hSB pa pc OA ra rc OB h7):=h ⟨k⟩
def RJ (k:q) (h:Hk q->p:=by
 intro kq;refine gD λcf mc Om hb ef=>?_;refine aB BX hb BD BR λBX BD BR=>?_;refine aS BO HQ λBO HQ=>?_;refine MH hb λF H=>?_;obtain ⟨M,hM⟩:∃ M,kAd y0 x4=M:=⟨_,rfl⟩;rw [hM] at Om;have ho:=yD hM;clear hM;obtain ⟨mv,rfl,gh⟩:=kT Om.raw;obtain ⟨ma,mp,rfl,_⟩:=kD.sl gh;clear gh;have eg:=yD Om;obtain ⟨mk,fj⟩:∃ b,mOk y0 x4=b:=⟨_,rfl⟩;rw [fj];have gq:=yD fj;clear fj;exact kq.o cf ef BX BD BR BO HQ F H M ho ma mp eg mk gq):=h ⟨k⟩
def RL (a1:p1)(k:q) (h:p1->Hk q->p:=by
 intro hb kq;have dq:=hb.size;refine M9 hb λBX BT BY BA=>?_;exact kq.o dq BX BT BY BA):=h a1 ⟨k⟩
def RO (k:q) (h:Hk q->p:=by
 intro kq;have bg:=I.size;go_simp;have H:=kBt (w:=wS) (cs:=[.slice ra r.1.length rp,.int .i64 r.2.1,.int .i64 r.2.2]) (x:=r) (show (kD.kHj jA w0).is true _ [_,_,_] r _ from HR.1) HR.2;have Z:Below wS wS (World.alloc wS (.cells #[.slice ra r.1.length rp,.int .i64 r.2.1,.int .i64 r.2.2] 139)):=bR.alloc nL _;generalize aa:World.alloc wS (.cells #[.slice ra r.1.length rp,.int .i64 r.2.1,.int .i64 r.2.2] 139)=t0 at H Z ⊢;have R:=Z;clear aa Z;exact kq.o bg t0 H R):=h ⟨k⟩
def RP (a1:p1)(k:q) (h:p1->Hk q->p:=by
 intro an kq;replace R:=kC R an;refine MK an λF hc TE=>?_;clear an;exact kq.o R F hc TE):=h a1 ⟨k⟩
def RQ (k:q) (h:Hk q->p:=by
 intro kq;refine jD ?_;refine kK (k:=11) rfl bI9 rfl (λK E=>?_);exact kq.o K E):=h ⟨k⟩
def RU (k:q) (h:Hk q->p:=by
 intro kq;refine eD λw9 mc Om hb=>?_;refine NB λd6 BX BD BR BO F HQ H=>?_;obtain ⟨M,hM⟩:∃ M,kAd y0 x4=M:=⟨_,rfl⟩;rw [hM] at Om;have ho:=yD hM;clear hM;obtain ⟨mv,rfl,gh⟩:=kT Om.raw;obtain ⟨ma,mp,rfl,_⟩:=kD.sl gh;clear gh;have eg:=yD Om;obtain ⟨mk,fj⟩:∃ b,mOk y0 x4=b:=⟨_,rfl⟩;rw [fj];have gq:=yD fj;clear fj;exact kq.o w9 d6 BX BD BR BO F HQ H M ho ma mp eg mk gq):=h ⟨k⟩
def RV (a1:p1)(k:q) (h:p1->Hk q->p:=by
 intro HK kq;refine U8 ?_;exact kq.o):=h a1 ⟨k⟩
def RX (h:p:=by
 go_wp2;refine bodyPost_ret (v:=.tuple #[.agg #[.slice none 0 0,.slice none 0 0],.bool false]) nH rfl ⟨[.slice none 0 0,.slice none 0 0],([],[]),false,rfl,?_,?_⟩;exact kD.ji (r:=zZ) (q:=zZ) (cs:=[.slice none 0 0]) (ds:=[.slice none 0 0]) (A:=λ_=>False) (B:=λ_=>False) kD.jr kD.jr (λ_ h=>h.elim) (λ_ h=>h.elim) (λ_ h _=>h);exact H.trans (Touch.below sT2 H.size bF2)):=h
def RY (k:q) (h:Hk q->p:=by
 intro kq;refine UC λv1 t2 hr HV O bd=>?_;exact kq.o v1 t2 hr HV O bd):=h ⟨k⟩
def RZ (k:q) (h:Hk q->p:=by
 intro kq;refine UD λv1 t2 hr HV O bd=>?_;exact kq.o v1 t2 hr HV O bd):=h ⟨k⟩
def S9 (k:q) (h:Hk q->p:=by
 intro kq;refine jD ?_;refine kK (k:=4) rfl bI9 rfl (λK E=>?_);exact kq.o K E):=h ⟨k⟩
def SE (k:q) (h:Hk q->p:=by
 intro kq;refine kK (k:=7) rfl bI9 rfl (λK E=>?_);obtain ⟨v2,t3,hr,L,O,a7⟩:=jd (B:=wq.heap.size) HV H pJ I.size bJ0;exact kq.o K E v2 t3 hr L O a7):=h ⟨k⟩
def SF (k:q) (h:Hk q->p:=by
 intro kq;refine eY F D λF=>?_;refine LK b3 ck λTE hc b3=>?_;exact kq.o F TE hc b3):=h ⟨k⟩
def SH (a1:p1)(k:q) (h:p1->Hk q->p:=by
 intro O kq;refine eQ H O λH I=>?_;refine E _ _ I ?_;exact kq.o H I):=h a1 ⟨k⟩
def SI (k:q) (h:Hk q->p:=by
 intro kq;have bg:=I.size;go_simp;have H:=kEa (w:=wS) (cs:=[.int .i64 x]) (x:=x) (show kD.int.is true _ [.int .i64 x] x _ from ⟨rfl,N⟩) trivial;have Z:Below wS wS (World.alloc wS (.cells #[.int .i64 x] 3)):=bR.alloc nL _;generalize aa:World.alloc wS (.cells #[.int .i64 x] 3)=t0 at H Z ⊢;have R:=Z;clear aa Z;exact kq.o bg t0 H R):=h ⟨k⟩
def SK (a1:p1)(a2:p2)(k:q) (h:p1->p2->Hk q->p:=by
 intro H O kq;replace H:=H.below O;refine LG O λI=>?_;exact kq.o H I):=h a1 a2 ⟨k⟩
def SL (k:q) (h:Hk q->p:=by
 intro kq;refine NW λHL HN=>?_;refine oL λbm=>?_;exact kq.o HL HN bm):=h ⟨k⟩
def SQ (k:q) (h:Hk q->p:=by
 intro kq;refine iC λw3 an BO cv=>?_;refine aA BX an BR λBX BR=>?_;refine MH an λF H=>?_;exact kq.o w3 BO cv BX BR F H):=h ⟨k⟩
def SS (k:q) (h:Hk q->p:=by
 intro kq;refine (zo N).mono ?_;refine ML λwT ba a7 b7 bh OT=>?_;refine xM λwC EC Y ER=>?_;exact kq.o wT ba a7 b7 OT wC EC Y ER):=h ⟨k⟩
def SV (k:q) (h:Hk q->p:=by
 intro kq;refine MR HK λHK=>?_;refine aA BX hb R λBX R=>?_;exact kq.o HK BX R):=h ⟨k⟩
def SY (k:q) (h:Hk q->p:=by
 intro kq;refine N9 λK E v2 t3 hr L O a7=>?_;refine LD L λa2 n2 c2 a9 a6=>?_;obtain rfl:=a9;replace I:=I.trans O;have G:=L;have HV:=G;clear G;refine E _ _ I ?_;refine jD ?_;refine kK (k:=14) rfl bI9 rfl (λK E=>?_);exact kq.o t3 a7 a2 n2 c2 a6 I HV K E):=h ⟨k⟩
def TB (k:q) (h:Hk q->p:=by
 intro kq;refine yZ (λW=>Qb wq W) bI9 (bR.drew) ?_;intro wS I;refine kP 1 ?_;refine kP 2 ?_;refine kP 3 ?_;refine kP 5 ?_;exact kq.o wS I):=h ⟨k⟩
def TC (k:q) (h:Hk q->p:=by
 intro kq;refine MJ λX U EB=>?_;refine EE λF=>?_;exact kq.o X EB F):=h ⟨k⟩
def TF (k:q) (h:Hk q->p:=by
 intro kq;refine MJ λX U EB=>?_;have Y:Qd X w 0 (Qs an n am):=bA9;exact kq.o X U EB Y):=h ⟨k⟩
def TG (h:p:=by
 have E9:=ER.trans (H.mono (ER).size);have z9:=(ER).size;have W:=H.size;go_wp2;refine bodyPost_ret (v:=.tuple #[.slice a9 n9 c9,.bool false]) rW rfl ?_;exact ⟨_,by rw [M.1],(O9.cast M.2.symm).wide vE,E9⟩):=h
def TH (h:p:=by
 go_wp2_with fail;refine (kCy (px.below EC)).mono ?_;refine LV λwT ba a7 b7 ez bg c2 ew a8 cl eu OT ee=>?_;have af:=ba;refine aI af λF=>?_;refine G9 λV=>?_;exact iA):=h
def TI (k:q) (h:Hk q->p:=by
 intro kq;intro c3 ag;iterate 4
  all_goals first|(refine kI rfl ag ?_)|(refine jF (v:=?_) rfl (λW hW=>?_) ?_;rotate_left;(· go_simp;try with_reducible rfl))
  all_goals refine jD ?_
 exact kq.o c3 ag):=h ⟨k⟩
def TJ (k:q) (h:Hk q->p:=by
 intro kq;have FX:=yD (λ(W:World) (hW:Qb wq W)=>cL hW ah);refine N8 λwS I=>?_;refine kP 6 ?_;refine kP 7 ?_;refine kP 8 ?_;refine kP 11 ?_;refine kP 12 ?_;refine kP 13 ?_;exact kq.o FX wS I):=h ⟨k⟩
def TK (k:q) (h:Hk q->p:=by
 intro kq;have U:wz.heap.size<=b/\b < v.heap.size:=⟨by omega,by omega⟩;refine NE λI=>?_;exact kq.o U I):=h ⟨k⟩
def TL (k:q) (h:Hk q->p:=by
 intro kq;refine UE λU=>?_;refine NE λI=>?_;exact kq.o U I):=h ⟨k⟩
def TM (h:p:=by
 clear E K;refine jD ?_;have h_:=a1 x ba X L b6 b v I bd H bk HB h6 HL U BB;exact LY):=h
def TN (h:p:=by
 refine bG λt3 a7 a2 n2 c2 a6 I HV K E=>?_;clear H;refine UA λv3 t4 hr L O a4=>?_;refine LX ?_;exact aZ):=h
def TP (h:p:=by
 refine bF λt3 a7 a2 n2 c2 a6 I HV K E=>?_;clear H;refine UB λv3 t4 hr L O a4=>?_;refine LX ?_;exact aP):=h
def TQ (a1:p1)(h:p1->p:=by
 intro aa;have h_:=aa x ba X L b6 y ka kc ks z b v I bd H bk HB Y HK a7 a4 hw U BB;exact LY):=h a1
def TS (a1:p1)(h:p1->p:=by
 intro F;have h_:=F xb ba X L ai ah ar aj ax ao x ok b v I bd H bk HB b4 HQ U BB;exact LY):=h a1
def TT (a1:p1)(h:p1->p:=by
 intro bg;have h_:=bg F H n1 V Y n2 ai ah ar aj ax ao x ok b v I a5 a6 b4 HQ U BB;exact LY):=h a1
def TV (h:p:=by
 obtain ⟨v3,t4,hr,L,O,a4⟩:=jd (B:=wq.heap.size) HV ((dm _).out.below I) vD I.size bJ0;refine aM L λa3 n3 c3 ar ba=>?_;obtain rfl:=ar;exact LC):=h
def TY (h:p:=by
 obtain ⟨v3,t4,hr,L,O,a4⟩:=yN (B:=wq.heap.size) HV ((dm _).out.below I) vD I.size bJ0;refine aM L λa3 n3 c3 ar ba=>?_;obtain rfl:=ar;exact L9):=h
def TZ (a1:p1)(h:p1->p:=by
 intro a6;refine jD ?_;have h_:=a6 k na nc ra rc y b v I hk af hA1 hA2 HN U BB;exact LY):=h a1
def U0 (a1:p1)(h:p1->p:=by
 intro F;clear E K;refine jD ?_;have h_:=F ai ah ar aj ax ao sg b v I HQ U BB;exact LY):=h a1
def U1 (h:p:=by
 clear E K;refine jD ?_;have h_:=a3 x b6 b v I bd H h6 HL U BB;exact LY):=h
def U2 (a1:p1)(h:p1->p:=by
 intro ed;refine QA ?_;have h_:=ed k na nc z b v I hk af HN HZ U BB;exact LY):=h a1
def U3 (h:p:=by
 refine NE λI=>?_;clear E K;refine jD ?_;have h_:=az x ba X L b6 y ka kc ks b v I bd H bk HB Y HK U BB;exact LY):=h
def U4 (h:p:=by
 refine fO λw2 hb=>?_;refine PT λb8 BN BT BX H=>?_;clear am ap aq ay V Y ab Z aa hb;exact iF HU H):=h
def U5 (a1:p1)(a2:p2)(k:q) (h:p1->p2->Hk q->p:=by
 intro H hb kq;replace H:=H.below hb;replace I:=(tQ I hb);refine E _ _ I ?_;exact kq.o H I):=h a1 a2 ⟨k⟩
def U6 (k:q) (h:Hk q->p:=by
 intro kq;replace I:=I.trans O;have G:=L;have HV:=G;exact kq.o I G HV):=h ⟨k⟩
def U7 (k:q) (h:Hk q->p:=by
 intro kq;replace I:=I.trans O;have G:=L;have HV:=G;clear G;refine E _ _ I ?_;exact kq.o I HV):=h ⟨k⟩
def U8 (k:q) (h:Hk q->p:=by
 intro kq;refine UF ?_;exact kq.o):=h ⟨k⟩
def U9 (k:q) (h:Hk q->p:=by
 intro kq;refine (kw (n:=10) hc bJ4).mono ?_;refine iP λw2 m b1 b3 ck N D b8=>?_;refine SF λF TE hc b3=>?_;exact kq.o w2 m b1 b8 F TE hc b3):=h ⟨k⟩
def UA (k:q) (h:Hk q->p:=by
 intro kq;obtain ⟨v3,t4,hr,L,O,a4⟩:=jd (B:=wq.heap.size) HV (dm.below I) vD I.size bJ0;exact kq.o v3 t4 hr L O a4):=h ⟨k⟩
def UB (k:q) (h:Hk q->p:=by
 intro kq;obtain ⟨v3,t4,hr,L,O,a4⟩:=yN (B:=wq.heap.size) HV (dm.below I) vD I.size bJ0;exact kq.o v3 t4 hr L O a4):=h ⟨k⟩
def UC (k:q) (h:Hk q->p:=by
 intro kq;obtain ⟨v1,t2,hr,HV,O,bd⟩:=jd (w:=t1) (v:=.slice (some ⟨t0,0,none⟩) 0 0) (xs:=[]) (S:=λ_=>False) (B:=t1.heap.size) kD.ko.void (ag.below I) (λ_ h=>h.elim) nL bJ0;exact kq.o v1 t2 hr HV O bd):=h ⟨k⟩
def UD (k:q) (h:Hk q->p:=by
 intro kq;obtain ⟨v1,t2,hr,HV,O,bd⟩:=yN (w:=t1) (v:=.slice (some ⟨t0,0,none⟩) 0 0) (xs:=[]) (S:=λ_=>False) (B:=t1.heap.size) kD.ko.void (ag.below I) (λ_ h=>h.elim) nL bJ0;exact kq.o v1 t2 hr HV O bd):=h ⟨k⟩
def UE (k:q) (h:Hk q->p:=by
 intro kq;have U:V.heap.size<=b/\b < v.heap.size:=⟨by omega,by omega⟩;exact kq.o U):=h ⟨k⟩
def UF (k:q) (h:Hk q->p:=by
 intro kq;go_simp;refine (kAz ((kD.ko.void (e:=5) (r:=kD.byte) (a:=none) (S:=λ_=>False)).own (Nat.zero_le _)).rd (HK.below (tQ EB I))).mono ?_;exact kq.o):=h ⟨k⟩
def VV (h:p:=by
 have R:Below t5 t5 (World.alloc t5 (.cells #[.slice D F U,.slice ae ab af,.slice V G Z] 63)):=bR.alloc nL _;have aw:t5.heap.size + 1<=(World.alloc t5 (.cells #[.slice D F U,.slice ae ab af,.slice V G Z] 63)).heap.size:=(by simp);have X0:=(OB.own bE7).rd;have X1:=(OE.own bE7).rd;have X2:=(OG.own bE7).rd;have Y0:=kGl (e:=63) (r:=Ck) rfl (kg (w:=t5) (o:=(.cells #[.slice D F U,.slice ae ab af,.slice V G Z] 63)) rfl) (X0.1.alloc (.cells #[.slice D F U,.slice ae ab af,.slice V G Z] 63)) (X1.1.alloc (.cells #[.slice D F U,.slice ae ab af,.slice V G Z] 63)) (X2.1.alloc (.cells #[.slice D F U,.slice ae ab af,.slice V G Z] 63));have RT:(kD.slice 63 Ck).rd (World.alloc t5 (.cells #[.slice D F U,.slice ae ab af,.slice V G Z] 63)) [.slice (some ⟨t5,0,none⟩) 3 3] [zi (kEp x.1),zi x.2.1,zi (kEp x.2.2.1)]:=⟨Y0,by show 3<=_;unfold Big;omega,λy hy=>bW⟩;exact Q7 R aw X0 X1 X2 Y0 RT):=h
def VW (h:p:=by
 replace X:=X.yC D nY;replace BN:=D.kC BN bJ5;replace BT:=D.kC BT bJ5;replace F:=yD (F.touch D qN);replace L:=yD (L.touch D qN);exact Q5 X BN BT F L):=h
def VX (h:p:=by
 replace F:=yD (F.touch D rU);replace TE:=TE.trans D;exact Q2 F TE):=h
def VY (h:p:=by
 replace hc:=hc.touch hT bJ5 bF2;replace X:=X.yC hT bF6;exact Q2 hc X):=h
def VZ (h:p:=by
 have E:=λ(q:u % 10=0)=>kUl (P:=prog) (w:=wr) (src:=22) (dst:=9) (z:=48) (x:=UInt8.ofNat (48 + u % 10)) (by rw [q];rfl) underlying22 underlying5 underlying9;have be:(⟨#[UInt8.ofNat (48 + u % 10)]⟩:ByteArray).size=1:=rfl;exact Q2 E be):=h
def W9 (h:p:=by
 have EC:Qb wr wC:=vT;have M0:Qd wC wr 0 (Qs xa x.1 xp):=bB0;have M1:Qd wC wr 1 (Qn x.2.1):=bB0;have M2:Qd wC wr 2 (Qn x.2.2):=bB0;replace Y:=cL EC Y;exact Q5 EC M0 M1 M2 Y):=h
def WA (h:p:=by
 have hT:Touch (λk=>k=w.heap.size + 1) t2 t3:=(by rw [<- G];exact sT4);replace RT:Qr t3 (w.heap.size + 1) #[Qs a7 t.1 az,Qs bg t.2.1 bw,Qs a8 t.2.2.1 bz,Qs bl t.2.2.2 bv] 38:=(by rw [<- G];exact kG (kG (kG (kG (RT) 0) 1) 2) 3);have ea:=hT.size;exact Q3 hT RT ea):=h
def WB (h:p:=by
 have dm:=λ(ad:Option Addr)=>yD (show (kD.slice 139 (kD.kHj jA w0)).rd wq [.slice ad 0 0] (l.drop lp) from by rw [List.drop_eq_nil_of_le bJ5];exact kD.kZu bC7);have FX:=yD (λ(W:World) (hW:Qb wq W)=>kJf hW Y K1 K2);exact Q2 dm FX):=h
def WC (h:p:=by
 have hr:i∈Region.ready .any l.toArray listed:=bD8;have Y:q.all (λx=>decide (x.1 < n) && !D.contains x.1)=true:=fI;exact Q2 hr Y):=h
def WE (h:p:=by
 replace BR:=hT.kC BR bJ5;replace BO:=hT.kC BO bJ5;replace H:=H.trans (hT.below H.size bF2);exact Q3 BR BO H):=h
def WF (h:p:=by
 have Y:q.all (λx=>decide (x.1 < n) && !D.contains x.1)=true:=fI;have hil:i < l.toArray.size:=Nat.lt_trans hi.1.1 hn;exact Q2 Y hil):=h
def WG (h:p:=by
 replace BR:=kC BR hb;replace BO:=kC BO hb;replace F:=yD (F.below hb);replace H:=(tQ H hb);exact Q4 BR BO F H):=h
def WH (h:p:=by
 have fl:=I.1.size;have RS:=I.1.kC BN bJ5;have ae:Qc ac O 0 (Qs a0 x0 c0):=kE RS rfl;have au:ac.frozen? ⟨O,0,none⟩=false:=frozen_of_row ac (O) 0 _ _ RS;have aw:Qc ac O 1 (Qn kc):=kE RS rfl;have av:ac.frozen? ⟨O,1,none⟩=false:=frozen_of_row ac (O) 1 _ _ RS;exact Q6 fl RS ae au aw av):=h
def WI (h:p:=by
 have bb:Qc w5 (w.heap.size + 2) 1 (.slice none 0 0):=kE BR rfl;have b4:Qc w5 (w.heap.size + 2) 2 (.slice none 0 0):=kE BR rfl;have b3:Qc w5 (w.heap.size + 2) 3 (Qn 0):=kE BR rfl;have b5:Qc w5 (w.heap.size + 2) 4 (Qn 0):=kE BR rfl;exact Q4 bb b4 b3 b5):=h
def WJ (h:p:=by
 have hT:Touch (λk=>k=w2.heap.size) t4 t5:=(by rw [<- G];exact sT5);replace BY:Qr t5 w2 (Qf d0 df dq ck dv dz z_) 43:=(by rw [<- G];exact kG (kG (kG (kG (kG (BY) 0) 1) 2) 3) 4);have d9:=hT.size;exact Q3 hT BY d9):=h
def WK (h:p:=by
 have b1:=yD (show kCb now (x0,(xc,xe),x2,x3,x4,x5,x6) (k + 1)=(u,kOr (kAd y0 x4) f0 m) by rw [bw.out,bu];rfl);have d2:(0:Int) < (f0 :: fr).length:=vJ;have bn:(f0 :: fr).length=fr.length + 1:=bJ6;exact Q3 b1 d2 bn):=h
def WL (h:p:=by
 have bi:ac.frozen? ⟨O,3,none⟩=false:=frozen_of_row ac (O) 3 _ _ RS;have bt:Qc ac O 4 (.slice a3 0 c3):=kE RS rfl;have bp:ac.frozen? ⟨O,4,none⟩=false:=frozen_of_row ac (O) 4 _ _ RS;exact Q3 bi bt bp):=h
def WM (h:p:=by
 have ce:ac.frozen? ⟨O,6,none⟩=false:=frozen_of_row ac (O) 6 _ _ RS;have dv:Qc ac O 7 (Qn 0):=kE RS rfl;have dy:ac.frozen? ⟨O,7,none⟩=false:=frozen_of_row ac (O) 7 _ _ RS;exact Q3 ce dv dy):=h
def WN (h:p:=by
 have A0:=(D.cell (p:=⟨w,0,none⟩) wM).trans a1;have R:=EB.trans (D.mono bJ5);have B0:=cL R C0;exact Q3 A0 R B0):=h
def WO (h:p:=by
 have HA:=yD ha;have E:=λ(W:World) (a:Option Addr) (n c:Nat)=>Lib.run_eql_slice_nil (P:=prog) W 79 83 a n c 0 0 underlying79;exact Q2 HA E):=h
def WP (h:p:=by
 replace BT:=hT.kC BT bJ5;replace F:=yD (F.touch hT qN);replace L:=yD (L.touch hT qN);exact Q3 BT F L):=h
def WQ (h:p:=by
 have HA:=yD ha;have E:=λ(W:World) (a:Option Addr) (n c:Nat)=>Lib.run_eql_slice_nil (P:=prog) W 22 5 a n c 0 0 underlying22;exact Q2 HA E):=h
def WR (h:p:=by
 have hb:=dig_int (u:=u);have L:=kUl (P:=prog) (w:=wr) (src:=22) (dst:=9) hb underlying22 underlying5 underlying9;exact Q2 hb L):=h
def UG (h:p:=by
 simp only [h,Int.toNat_natCast,jY hk];rw [if_neg bJ5]):=h
def UH (h:p:=by
 intro j v J;have aq:j < c'.length:=(List.getElem?_eq_some_iff.1 J).1;simp only [World.cell?,hb,Option.isSome_none,Bool.false_eq_true,if_false];rw [<- Array.getElem?_toList,hc,List.getElem?_append_right bJ5,List.append_assoc,List.getElem?_append_right bJ5,List.append_assoc,List.getElem?_append_left bJ5];rw [<- J];congr 1;omega):=h
def UI (h:p:=by
 have L:=yD (show kAv (y0,y1,y2,y3,y4) t (xc,xe)=(xc,Z) from (kGm dk.out).trans fD);obtain ⟨U,N⟩:=yA BO;obtain ⟨a9,bb⟩:=yA BR;obtain ⟨be,bd⟩:=kCg BR;go_wp2;refine bodyPost_ret (v:=.agg #[Qn xc,Qs ga Z gc]) nQ rfl ⟨[Qn xc,Qs ga Z gc],rfl,?_,?_⟩;rw [L.out];exact ((show kS.own _ _ (xc,Z) _ from kD.kCp (r:=kD.int) (q:=Cn) (cs:=[.int .i64 xc]) (kD.jB ae) (HQ.own vP)).touch sT2 vN).wide gW
 · exact H.trans (Touch.below sT2 H.size bF2)):=h
def UJ (h:p:=by
 go_wp2;refine bodyPost_ret (v:=.tuple #[.slice none 0 0,.bool false]) rX rfl ?_;exact ⟨_,by rw [HF.out],H⟩):=h
def UK (h:p:=by
 obtain ⟨b,off,h,_⟩:=kD.kFf ha.1 (i:=0) bJ6;cases h):=h
def UL (h:p:=by
 intro v2 w2 hown D hz;have F:=yD hown;obtain ⟨a2,c2,hv⟩:=hown.zK;obtain rfl:=hv;have G:Qb w w2:=Below.trans bK D;clear hown O0 D;go_wp2;go_ret;exact ⟨_,rfl,by simpa using F.own bC4,G⟩):=h
def UM (h:p:=by
 refine OL λwD ED ay D0 D1 D2 D3 D4 af=>?_;refine aI af λF=>?_;refine FV λV=>?_;exact iA):=h
def UN (h:p:=by
 intro v2 w2 hown D hz;have F:=yD hown;obtain ⟨a2,c2,hv⟩:=hown.zK;obtain rfl:=hv;have G:Qb w w2:=Below.trans bK D;clear hown O0 D;go_wp2;go_ret;exact ⟨_,rfl,by simpa using F.out,G⟩):=h
def UO (h:p:=by
 obtain ⟨ae,aw⟩:=yA R;obtain ⟨bh,bj⟩:=yA BK;obtain ⟨au,av⟩:=kCg R;go_wp2;refine bodyPost_ret (v:=.agg #[Qn kc,Qs ka l kp]) nI rfl ⟨ka,kp,kc,l,rfl,?_,by omega,hc.touch sT2 bJ5 bF2,TE.jO sT2 bJ5⟩;exact ((kMd (F.jv.wide (T:=λk=>w.heap.size < k/\k < w4.heap.size/\k≠w2.heap.size) gZ) bJ5).touch (T:=λk=>k=w.heap.size) sT2 wI).wide gK):=h
def UQ (h:p:=by
 obtain ⟨ae,aw,bh,bj⟩:=zF R;obtain ⟨ap,ah,O,L⟩:=zF B;obtain ⟨au,av,be,bi⟩:=kIg R;go_wp2;refine bodyPost_ret (v:=.agg #[Qs a ps c,Qn nn,Qn h,Qn lt]) mI rfl ⟨a,c,ps,nn,h,lt,rfl,?_,by omega,hh,ht,hc.touch sT4 bJ5 bF2,TE.jO sT4 bJ5⟩;exact (F.touch sT4 bA1).wide gV):=h
def UR (h:p:=by
 clear hQ;have bt:=hc.touch hT (λq=>bc q) wJ;have a6:=TE.kCk hT wJ;clear hT hc TE F;have an:=yD bq;clear bq;go_wp2;go_roundw;case rel=>exact ⟨j,a2,_,l2,rfl,by go_num,by omega,by have:=an.out;omega,ae,by omega,bt,a6⟩
 case measure=>first|(simp [intOf];done)|(simp [intOf];omega)):=h
def UT (h:p:=by
 refine Qg ?_;exact ⟨j + 1,ca,cc,cl,by go_num,by omega,yD bE3,bz,BT,yD (HC.wide vL),hc,by omega,X⟩):=h
def UU (h:p:=by
 go_wp2;refine bodyPost_ret (v:=.slice a n c) (by simp [results,results220,go_sem]) rfl ⟨a,n,c,s,rfl,HN.out,HL.out,F.out,hc,TE⟩):=h
def UV (h:p:=by
 replace I:=I.trans (hT.wide (λk q=>.inr (q)));clear hT;refine E _ _ I ?_;clear E K;refine jD ?_;refine jb bI9 ?_;have zS:=I.size;replace R:=I.kC R bJ5;replace TE:=TE.yC I bF6;clear I;obtain ⟨ae,aw,bh,bj,bt⟩:=jP R;obtain ⟨a6,ax,ai,bc,ah⟩:=jP BY;obtain ⟨au,av,be,bi,bp⟩:=kBb R;go_wp2;refine bodyPost_ret (v:=.agg (Qf d0 df dq ck dv dz z_)) gX rfl ⟨(Qe d0 df dq ck dv dz z_),z_,rfl,?_,d4,hc.touch sT5 bJ5 bF2,TE.jO sT5 bJ5⟩;exact (HZ.touch (T:=λk=>k=w.heap.size + 2) sT5 wI).wide (T:=jW w _) gV):=h
def UW (h:p:=by
 obtain ⟨au,av,be,bi,bp⟩:=kBb R;go_wp2;refine bodyPost_ret (v:=.agg (Qf b0 b2 cg ch b9 cl y)) gX rfl ⟨(Qe b0 b2 cg ch b9 cl y),y,rfl,?_,dw,hc.touch sT5 bJ5 bF2,TE.jO sT5 bJ5⟩;exact (HY.touch (T:=λk=>k=w.heap.size + 2) sT5 wI).wide (T:=jW w _) gV):=h
def UX (h:p:=by
 go_wp2;go_ret;exact ⟨_,rfl,by omega,by omega,hc,TE⟩):=h
def UY (h:p:=by
 refine NE λI=>?_;clear E K;refine jD ?_;have h_:=bz b6 b v I h6 HL U BB;exact LY):=h
def UZ (h:p:=by
 have h1:=congrArg List.length HP.out;have h2:=jAm (n:=N) bJ5;simp only [List.length_append] at h1;omega):=h
def V3 (h:p:=by
 go_wp2_with fail;go_roundw;case rel=>exact ⟨u / 10,_,by omega,by go_num,rfl,sN,HX,(D.alloc D.size _)⟩
 simp [intOf];omega):=h
def V4 (h:p:=by
 intro q u hq;have cl:=(List.getElem?_eq_some_iff.1 hq).1;rw [cell_of_row w b _ _ e (0,0) h1];simp only [List.getElem?_toArray];rw [List.getElem?_append_right wY,List.getElem?_append_right vW,List.append_assoc,List.getElem?_append_left vW];rw [<- hq];congr 1;rw [ag,h3,Nat.add_mul];omega):=h
def V5 (h:p:=by
 obtain rfl:=hi;have bf:=V.size;by_cases a9:j < on;exact o6;obtain rfl:j=on:=bJ5;have HF:=yD (HI.cast (show _=kFq l n by rw [al.out,<- E.out,List.take_of_length_le (by rw [E.out];simp;have:=ak.out;omega)]));have bc:¬ (j:Int) < j:=bJ5;go_wp2;go_ret;exact ⟨_,rfl,(HF.own pG).wide pI,(tQ G V)⟩):=h
def V6 (h:p:=by
 have b5:Hid (((F.take k).filter (λz=>!(z==ex))).length<=Big):=yD gT;go_wp2;go_ret;exact ⟨_,rfl,by rw [al.out];exact (HI.own b5.out).wide vE,(tQ E4 D)⟩):=h
def V7 (h:p:=by
 unfold kBu;rw [List.take_succ_eq_append_getElem h,List.filter_append,List.map_append];simp [hf]):=h
def V8 (h:p:=by
 go_wp2;refine bodyPost_ret (v:=.tuple #[.slice a8 n8 c8,.bool false]) rV rfl ?_;exact ⟨_,by rw [M.1],(G.cast M.2.symm).wide pJ,E⟩):=h
def V9 (h:p:=by
 go_wp2;refine bodyPost_ret (v:=.tuple #[.slice a8 n8 c8,.bool false]) rV rfl ?_;exact ⟨_,by rw [M.1],(R.cast M.2.symm).wide pJ,ER⟩):=h
def VA (h:p:=by
 obtain ⟨i,hi,rfl⟩:=List.mem_take_iff_getElem.1 hy;exact List.pairwise_iff_getElem.1 h2 i k bJ5 hk bJ5):=h
def VB (h:p:=by
 have b6:=I.size;refine ⟨_,rfl,((a9.wide (T:=jW w u4) ?_).cast L.symm).own dJ,(tQ E2 a6)⟩;rintro j (J | J);exact ⟨J.1,by have:=J.2;have:=a6.size;omega⟩;exact ⟨by omega,J.2⟩):=h
def VC (h:p:=by
 obtain rfl:=V;have aq:=yD a9;clear a9;go_wp2;go_ret2;refine ⟨_,_,rfl,?_,(tQ E5 a6)⟩;rw [L.1,L.2];exact kD.ji (r:=Ce) (q:=Ci) (cs:=[_]) (ds:=[_]) (aq.own bC1) (ay.own am) dQ pJ dG):=h
def VD (h:p:=by
 obtain rfl:=ak;replace I:=I.trans O;clear hr O ai G H;have af:=L;clear L;refine E _ _ I ?_;clear E K;refine jD ?_;refine kP 11 ?_;refine jb bI9 ?_;go_wp2;go_ret;exact ⟨_,rfl,(af.cast bI7).wide vE,(tQ EB I)⟩):=h
def VE (h:p:=by
 clear E K hb;refine jD ?_;refine kK (k:=16) rfl bI9 rfl (λK E=>?_);have bn:=I.size;obtain ⟨v_,t8,hr,L,O,bi,ai⟩:=kD.zt (P:=prog) (t:=63) (ty:=63) (r:=kD.int) (e:=3) (w:=t7) (B:=X.heap.size) underlying63 zk rfl bJ4 bJ4 kD.yL OT (H.own wW).rd fG I.size bY;refine kD.kV _ _ _ rfl bJ7 bJ7 hr ?_;obtain ⟨dp,bk,a5,ak,az⟩:=L.parts;obtain rfl:=ak;replace I:=I.trans O;clear hr O ai OT H;have HV:=L;clear L;refine E _ _ I ?_;clear E K bn;refine jD ?_;refine kP 17 ?_;refine jb bI9 ?_;go_wp2;go_ret;exact ⟨_,rfl,(HV.cast bE8).wide vE,(tQ EB I)⟩):=h
def VF (h:p:=by
 obtain rfl:=ak;replace I:=I.trans O;clear hr O ai OT H;have HV:=L;clear L;refine E _ _ I ?_;clear E K bn;refine jD ?_;refine kP 17 ?_;refine jb bI9 ?_;go_wp2;go_ret;exact ⟨_,rfl,(HV.cast bE8).wide vE,(tQ EB I)⟩):=h
def VG (h:p:=by
 refine wpOp_mono go ?_;unfold wpOp;simp only [h0];exact h):=h
def VH (h:p:=by
 refine ⟨X,?_⟩;by_cases af:j=i;subst af;exact hy.wpOp hi hS ⟨hS,H⟩
 · have:=W _ _ _ H j (ready_mono J af);omega):=h
def VI (h:p:=by
 refine ⟨X,?_⟩;by_cases af:j=i;subst af;exact hy.wpOp hi hS ⟨hS,H⟩
 · have h1:=(H.2 j (ready_mono J af)).2;obtain ⟨V,oj,F,G⟩:=mem_ready.1 J;have Z:∀ e∈oj.after,Region.binds md e=true->e.on≠i:=λe he hb aa=>by
     have h1:=G e he hb;rw [aa,getD_both R] at h1;cases h1
   have h2:=wpOp_putIf F (I j oj F af V Z) (λcs b=>E i U cs b hi) (λcs b=>E j oj cs b F) hQ hy h1;have N:∀ k ok,ops[k]?=some ok->k≠i->(listed.setIfInBounds j true).getD k true=false ->
       (∀ e∈ok.after,Region.binds md e=true->e.on≠i)->U.apart ops ok=true:=λk ok hk al R hno=>by
     refine I k ok hk al ?_ hno
     by_cases hjk:j=k
     subst hjk;exact V
     · rw [getD_set_ne true hjk] at R;exact R
   refine wpOp_mono (λa' w' h3=>⟨h3.2.1,ih (listed.setIfInBounds j true) a' w' (inv.set J X) N (ready_mono hr (Ne.symm af)) h3.1 h3.2.1 ?_⟩) h2;rw [Array.setIfInBounds_comm _ _ af];exact h3.2.2):=h
def VJ (h:p:=by
 refine EH λthis=>?_;simp only [jE,this]):=h
def VK (h:p:=by
 refine ⟨by simpa [kFu] using hB,l.drop n,λj=>by simp [List.getElem?_drop],by simp;omega,?_⟩;simp only [jE,List.nil_append,List.map_nil] at h;generalize l.drop n=r at h ⊢;cases r <;> exact h):=h
def VL (h:p:=by
 unfold wpOp;simp only [h0];exact h):=h
def VM (h:p:=by
 subst N;have h1:=List.all_eq_true.1 hs i (List.mem_range.2 hi);rw [Y,Bool.false_or] at h1;obtain ⟨j,J,a7⟩:=List.any_eq_true.1 h1;simp only [Bool.and_eq_true,decide_eq_true_eq,Bool.not_eq_true'] at a7;obtain ⟨oj,F,e,he,hb,ai⟩:=Region.waitsFor_spec a7.2.2;have U:j<=t:=vM;by_cases b7:j=t
 · subst b7;have:oj=O:=Option.some.inj (F.symm.trans E);subst this;have h2:=G e he hb;rw [ai,getD_both R] at h2;cases h2
 · cases hl:listed.getD j false with
   | true =>
     have h2:=inv.closed j oj F hl e he hb;rw [ai,getD_both R] at h2;cases h2
   | false =>
     have I:j < listed.size:=bC9;exact ih (t - j) bJ5 j rfl bJ5 a7.2.1 (getD_in I hl) t nL hr):=h
def VN (h:p:=by
 obtain ⟨j,J,a7⟩:=List.any_eq_true.1 h1;simp only [Bool.and_eq_true,decide_eq_true_eq] at a7;obtain ⟨W,L,e,he,hb,ai⟩:=Region.waitsFor_spec a7.2;have:W=O:=Option.some.inj (L.symm.trans E);subst this;have b7:j < t:=bH9;have h2:=G e he hb;rw [ai,getD_both (inv.tail j bJ5 bJ5)] at h2;cases h2):=h
def VP (h:p:=by
 simp only [kFv,Bool.and_eq_true] at hB;simp only [jE,List.map_nil] at h;have h:S2 w/\kEk P l.toArray S2 Q k (jE l q2) (q2.map (·.2)) a w:=h;exact ⟨hB.1,hB.2,h.1,k,h.2⟩):=h
def VQ (h:p:=by
 have b1:=yD (show kCb now (x0,(xc,xe),x2,x3,x4,x5,x6) (k + 1)=(u,m) by rw [bw.out,bu];rfl);have et:¬ (0:Int) < ([]:List Int).length:=bJ6;refine Qg ?_;exact ⟨k + 1,ta,ma,tc,mc,u,m,by go_num,by omega,yD b1.symm,yD (F.wide wK),BX,BR,BO,by omega,H⟩):=h
def VR (h:p:=by
 rintro e b6 ⟨v9,rfl,O9,hb⟩;have e3:=hb.size;replace BX:=kC BX hb;replace BR:=kC BR hb;replace BO:=kC BO hb;replace BT:=kC BT hb;replace BK:=kC BK hb;replace F:=yD (F.below hb);replace HK:=yD (HK.below hb);replace HF:=yD (HF.below hb);replace H:=(tQ H hb);clear U N af X D ah ag ai bh ao ar ax a1 a2 a6 a5 a4 hb;obtain ⟨m2,ck⟩:∃ m2,kOr (kAd y0 x4) f0 m=m2:=⟨_,rfl⟩;rw [ck] at O9;replace b1:=yD (b1.trans (by rw [ck]));clear ck;obtain ⟨va,vc,rfl,_⟩:=kD.sl O9.raw;have ae:=yD ((kDj F.out O9 qO).wide (T:=(λj=>w.heap.size + 2<=j/\j < b6.heap.size/\j≠w2.heap.size)) dK);clear F O9;obtain ⟨U,N,af,X,D,ah,ag,ai⟩:=jX BO;obtain ⟨ao,ar,ax,a1,a2,a6,a5,a4⟩:=kBn BO;go_wp2;generalize G:World.setCell b6 _ _=d5;have ay:Touch (λk=>k=w2.heap.size) b6 d5:=bD0;replace BO:Qr d5 w2 (Qh b9 x0 cc xc da xe dc pa P pc ta u tc b2 x4 ce va m2 vc x6) 33:=bB5;have ft:=ay.size;clear G;replace BX:=ay.kC BX bJ5;replace BR:=ay.kC BR bJ5;replace BT:=ay.kC BT bJ5;replace BK:=ay.kC BK bJ5;replace ae:=yD (ae.touch ay rU);replace H:=H.trans (ay.below H.size bF2);clear U N af X D ah ag ai ao ar ax a1 a2 a6 a5 a4 ay;have F:=yD (ae.wide (T:=(λj=>w.heap.size + 2<=j/\j < d5.heap.size/\j≠w2.heap.size)) wK);clear ae;refine Qg ?_;exact ⟨k + 1,ta,va,tc,vc,u,m2,by go_num,by omega,yD b1.symm,yD (F.wide wK),BX,BR,BO,by omega,H⟩):=h
def VS (h:p:=by
 simp only [List.cons.injEq,and_true] at he;obtain ⟨rfl,rfl,rfl⟩:=he;exact ⟨rfl,rfl,h2⟩):=h
def VT (h:p:=by
 have b6:=I.size;have aq:=yD a9;clear a9;go_wp2;go_ret;exact ⟨_,rfl,aq.wide mP,a6⟩):=h
def VU (h:p:=by
 obtain ⟨dp,bk,a5,ak,az⟩:=L.parts;obtain rfl:=ak;replace I:=I.trans O;clear hr O ai OT H;have HV:=L;clear L;refine E _ _ I ?_;clear E K bn;refine jD ?_;refine kP 17 ?_;refine jb bI9 ?_;go_wp2;go_ret;exact ⟨_,rfl,(HV.cast bE8).wide vE,(tQ EB I)⟩):=h
end Go.Proofs.YthocbplmdjkifabGreat
