/-
  Short names for five lemmas.
-/
import Derived.Test.YtonmjkmaadgceaaGreatProg
import Derived.ArgAppend
import Derived.BigQuiet
import Derived.Deep.Cut
import Derived.Deep.CutBlock
import Derived.Deep.CutRange
import Derived.Deep.MidRow
import Derived.Deep.OwnRows
import Derived.Deep.QuietTactic
import Derived.Deep.Slices
import Derived.IntWalk
import Derived.Laws.AppendOwn
import Derived.Laws.BitsLemmas
import Derived.Laws.BytesArg
import Derived.Laws.Concat
import Derived.Laws.CopyRow
import Derived.Laws.IdiomCopy
import Derived.Laws.IdiomStrings
import Derived.Lib.AppendZeros
import Derived.Lib.ConvBytes
import Derived.Lib.Hide
import Derived.Lib.ItoaNum
import Derived.OpenShut
import Derived.OrdersHeld
import Derived.OwnWalk
import Derived.ProofKit
import Derived.Shelf.Spec.SlicesInsertGrow
import Derived.StillTail
import Derived.StillTailTactics
import Derived.WalkKit
import Derived.WalkLawsBesides
import Derived.WalkSpells
set_option linter.unusedVariables false
set_option linter.unusedSimpArgs false
set_option linter.unnecessarySimpa false
namespace Go.Proofs.YtonmjkmaadgceaaGreat
open Go Go.RowKit _root_.Go.Proofs.Tryz
theorem zA {α : Type} (l : List α) (i : Nat) (a : α) : l.toArray.setIfInBounds i a = (l.set i a).toArray := List.setIfInBounds_toArray l i a
theorem zB {α : Type} {x : α} {xs : List α} {a : α} : (x :: xs).set 0 a = a :: xs := rfl
theorem zC {α : Type} {x : α} {xs : List α} {i : Nat} {a : α} : (x :: xs).set (i + 1) a = x :: xs.set i a := rfl
theorem yD {p : Prop} (h : p) : Go.RowKit.Hid p := Lib.hid h
theorem bR {B : Nat} {w : World} : Below B w w := Below.refl B w
theorem nL {n : Nat} : n ≤ n := Nat.le_refl n
theorem tQ {w w1 w2 : World} (h : Below w.heap.size w w1) (k : Below w1.heap.size w1 w2) : Below w.heap.size w w2 := h.trans (k.mono h.size)
theorem bT : True := True.intro
variable {p : Prop}
abbrev bQ (w : World) (v : Value) (e : Ending) (w' : World) : Prop := e = .returned v ∧ Below w.heap.size w w'
theorem zU {b : Bool} : ((!b) = true) = (b = false) := by cases b <;> simp
theorem zV {b : Bool} : ((!b) = false) = (b = true) := by cases b <;> simp
theorem cL {w wx : World} {a : Addr} {v : Value} (hb : Below w.heap.size w wx) (h : w.cell? a = some v) : wx.cell? a = some v := cell_later hb h
theorem bI (h:p:=by repeat (first|(with_reducible exact bR) | refine Below.alloc ?_ (by simp;try omega) _ | refine Below.drew ?_ | refine Below.setCell ?_ (by simp;try omega) _)):p:=h
theorem bB9 (h:p:=by omega):p:=h
theorem bB4 (h:p:=by kernel_rfl):p:=h
theorem bB8 (h:p:=by decide):p:=h
theorem tN (h:p:=by rw [← H];simp [go_sem]):p:=h
theorem qD (h:p:=by exact fun c a d v w h=>by cases d <;> exact h):p:=h
theorem qB (h:p:=by exact fun k hk=>by have:=hk.1;have:=hk.2;omega):p:=h
theorem wF (h:p:=by simp;try omega):p:=h
theorem rX (h:p:=by rw [← F];exact bR.alloc nL _):p:=h
theorem nO (h:p:=by exact fun k q h=>by have h1:=q.1;have h2:=q.2;omega):p:=h
theorem mR (h:p:=by exact fun j I=>⟨by have:=I.1;omega,by have:=I.2;omega⟩):p:=h
theorem wB (h:p:=by exact fun k hk=>by omega):p:=h
theorem tO (h:p:=by rw [← F];simp [go_sem]):p:=h
theorem bS (h:p:=by first | omega|(simp only [List.flatten_cons,List.flatten_nil,List.length_append,List.length_cons,List.length_nil];omega)):p:=h
theorem bC0 (h:p:=by simp):p:=h
theorem fK (h:p:=by exact fun j I=>⟨by have:=I.1;omega,by have:=I.2;simp [World.setCell];omega⟩):p:=h
theorem bA3 (h:p:=by rw [← F];simp):p:=h
theorem rE (h:p:=by exact fun j I=>⟨I.1,by have:=I.2;omega⟩):p:=h
theorem tX (h:p:=by rw [← F];exact kG rfl):p:=h
theorem nA (h:p:=by exact fun j I=>⟨by have:=I.1;have:=E.size;omega,I.2⟩):p:=h
theorem mW (h:p:=by exact fun j h1 h2=>by have p:=h1.2;have q:=h2.1;omega):p:=h
theorem bC1 (h:p:=by rfl):p:=h
theorem rF (h:p:=by exact fun j I=>⟨by have:=I.1;omega,I.2⟩):p:=h
theorem vV (h:p:=by unfold Big;omega):p:=h
theorem dN (h:p:=by exact fun j I=>⟨by first | omega|(have:=I.1;omega),by first | omega|(have:=I.2;omega)⟩):p:=h
theorem fD (h:p:=by exact fun j h1 h2=>by simp (discharger:=(simp;omega)) only [heap_setCell_other]):p:=h
theorem dK (h:p:=by exact fun k q=>⟨q.1,Nat.lt_of_lt_of_le q.2.1 hb.size,Nat.ne_of_lt (by rw [ay];exact q.2.1)⟩):p:=h
theorem sJ (h:p:=by show w.heap.size < _;omega):p:=h
theorem bB5 (h:p:=by simp;omega):p:=h
theorem sK (h:p:=by exact fun k q h=>by have:=q.1;omega):p:=h
theorem bW (h:p:=by rw [← F];exact ((((kC _ _ _ _).trans (kC _ _ _ _)).trans (kC _ _ _ _)).trans (kC _ _ _ _)).trans (kC _ _ _ _)):p:=h
theorem bL (h:p:=by exact fun k q=>by rcases q with q | q | q;exact ⟨q.1,by have:=q.2;omega⟩;exact ⟨by have:=q.1;omega,by have:=q.2;omega⟩;exact ⟨by have:=q.1;omega,q.2⟩):p:=h
theorem gU (h:p:=by exact fun k q=>⟨by have:=q.1;omega,q.2,by have:=q.1;omega⟩):p:=h
theorem bF (h:p:=by rw [← F];exact (((((((kC _ _ _ _).trans (kC _ _ _ _)).trans (kC _ _ _ _)).trans (kC _ _ _ _)).trans (kC _ _ _ _)).trans (kC _ _ _ _)).trans (kC _ _ _ _)).trans (kC _ _ _ _)):p:=h
theorem bO (h:p:=by simp only [List.mem_cons,List.not_mem_nil,or_false] at hy;rcases hy with rfl | rfl | rfl;exact X0.2;exact X1.2;exact X2.2):p:=h
theorem fI (h:p:=by intro q;have:=q.1;first | omega|(simp at this;omega)|(simp at this)):p:=h
theorem mK (h:p:=by exact fun k q=>.inl (by first | exact q | exact .inl q)):p:=h
theorem fF (h:p:=by exact fun j I=>⟨by have:=I.1;omega,by have:=I.2.1;simp [World.setCell];omega⟩):p:=h
theorem fU (h:p:=by exact fun k q=>⟨by have:=q.1;omega,by have:=q.2;omega,by have:=q.1;omega⟩):p:=h
theorem wG (h:p:=by exact fun k q=>by omega):p:=h
theorem bN (h:p:=by exact fun k q=>by rcases q with q | q;exact ⟨q.1,by have:=q.2.1;omega,q.2.2⟩;exact ⟨by have:=q.1;omega,by have:=q.2;omega,by have:=q.1;omega⟩):p:=h
theorem fG (h:p:=by exact fun j q=>⟨by have:=q.1;omega,by have:=q.2.1;simp [World.setCell];omega⟩):p:=h
theorem cB (h:p:=by exact fun j h1 h2=>by have:=U.out;have:=W.out;rw [← E];simp (discharger:=(simp;omega)) only [heap_setCell_other]):p:=h
theorem fM (h:p:=by exact fun j q=>⟨by have:=q.1;omega,by have:=q.2;simp [World.setCell];omega⟩):p:=h
theorem rR (h:p:=by exact fun j h1 h2=>by have:=h1.1;omega):p:=h
theorem gD (h:p:=by exact fun j I=>⟨by have:=I.1;omega,by simpa [World.setCell] using I.2⟩):p:=h
theorem sM (h:p:=by exact fun k hk=>by have:=hk.1;omega):p:=h
theorem bM (h:p:=by exact fun j I hl=>ah j hl (by first | omega|(have h1:=I.1;have h2:=I.2;intro q;have:=q.1;have:=q.2;omega)|(intro q;have:=q.1;have:=q.2;omega))):p:=h
theorem sS (h:p:=by show 1≤_;unfold Big;omega):p:=h
theorem qR (h:p:=by (try simp only);rw [jM h];exact q):p:=h
theorem pO (h:p:=by exact fun j q=>⟨q.1,by have:=q.2.1;omega,q.2.2⟩):p:=h
theorem qZ (h:p:=by exact fun k hk=>⟨by omega,by simp;omega⟩):p:=h
theorem nW (h:p:=by exact fun k h1 h2=>by have:=h1.2;have:=h2.1;omega):p:=h
theorem tJ (h:p:=by rw [← a3];simp [go_sem]):p:=h
theorem dB (h:p:=by simp [results,results10,go_sem,ax,ar,a1,aq,cq,cj,ck,co,cw,cv,dv,d5,dt,d7,d2,d6,dy,d8]):p:=h
theorem gJ (h:p:=by intro q;rcases q with q | q;(have q1:=q.1;omega);omega):p:=h
theorem bA4 (h:p:=by rw [← H];simp):p:=h
theorem fO (h:p:=by simp [results,results81,go_sem,ac,aq,au,ar,bi,bh,bm,bl,bv,bu]):p:=h
theorem fV (h:p:=by exact fun k q=>⟨by have:=q.1;omega,by have:=q.2;omega,by have:=q.2;omega⟩):p:=h
theorem qN (h:p:=by unfold Addr.add;split <;> simp_all):p:=h
theorem dA (h:p:=by exact fun j h1 h2=>by have:=U.out;rw [← E];simp (discharger:=(simp;omega)) only [heap_setCell_other]):p:=h
theorem dC (h:p:=by exact fun j q=>by rcases q with q | q | q <;> (have q1:=q.1;have q2:=q.2;(try have q3:=q2.1);omega)):p:=h
theorem bA (h:p:=by exact fun j q=>q.elim (fun q=>⟨q.1,by have:=q.2.1;omega,q.2.2.1,(hST j).2 (.inl ⟨q.2.2.2,by have:=q.2.1;omega⟩)⟩) (fun q=>⟨by have:=q.1;omega,q.2,by have:=q.1;omega,(hST j).2 (.inr ⟨q.1,q.2⟩)⟩)):p:=h
theorem sZ (h:p:=by exact fun k q=>by have:=q.1;omega):p:=h
theorem nP (h:p:=by exact fun j h1 h2=>by have:=h1.2.1;have:=h2.1;omega):p:=h
theorem fH (h:p:=by rw [U.out];first | rfl|(simp;done)|(rw [Bool.eq_iff_iff];simp;omega)):p:=h
theorem sU (h:p:=by rw [← F];exact kC _ _ _ _):p:=h
theorem rA (h:p:=by rw [← F];exact jC (jC (kG rfl))):p:=h
theorem fP (h:p:=by simp [results,results40,go_sem,ac,aq,au,ar,bi,bh,bm,bl,bv,bu]):p:=h
theorem sD (h:p:=by rw [← H];exact kG (by simp)):p:=h
theorem dJ (h:p:=by exact fun k q=>⟨by have:=q.1;omega,by have:=q.2;omega,by have:=q.1;omega,by have:=q.1;omega⟩):p:=h
theorem rH (h:p:=by first | omega|(simp;try omega)):p:=h
theorem pQ (h:p:=by exact fun k q=>⟨q.1,by have:=q.2.1;omega,q.2.2⟩):p:=h
theorem dL (h:p:=by show (xc,kFx xc (kCf y0 xe)++[((y0,y1,y2,y3,y4),t)])=_;rw [HK.out,dn.out,HZ.out]):p:=h
theorem qC (h:p:=by simp [results,results186,go_sem]):p:=h
theorem bY (h:p:=by exact fun k q=>by rcases q with q | q;exact ⟨q.1,by have:=q.2;omega⟩;exact ⟨by have:=q.1;omega,by have:=q.2;omega⟩):p:=h
theorem bG (h:p:=by exact fun k q=>by rcases q with q | q | q;exact ⟨q.1,by have:=q.2;omega⟩;exact ⟨by have:=q.1;omega,by have:=q.2;omega⟩;exact ⟨by have:=q.1;(try simp at this);omega,q.2⟩):p:=h
theorem bH (h:p:=by exact fun j q=>q.elim (fun q=>⟨q.1,by have:=q.2.1;omega,q.2.2.1,(ft j).2 (.inl q.2.2.2)⟩) (fun q=>⟨by have:=q.1;omega,q.2,by have:=q.1;omega,(ft j).2 (.inr ⟨q.1,q.2⟩)⟩)):p:=h
theorem gV (h:p:=by simp [results,results139,go_sem,ac,au,aq,ar]):p:=h
theorem dP (h:p:=by simpa only [Bool.and_eq_true,decide_eq_true_eq,Bool.not_eq_true'] using hi.2):p:=h
theorem bJ (h:p:=by exact fun j q=>by rcases q with q | q | q;exact ⟨by have:=q.1;omega,by have:=q.2;omega⟩;exact ⟨by have:=q.1;omega,by have:=q.2;omega⟩;exact ⟨by have:=q.1;omega,q.2⟩):p:=h
theorem nX (h:p:=by have:=ak.2.2;unfold maxLen at this;omega):p:=h
theorem sN (h:p:=by first | omega|(simp;omega)):p:=h
theorem pR (h:p:=by first | omega|(simp;done)|(simp;omega)):p:=h
theorem bK (h:p:=by simpa [kDz] using O0.wide (T:=jR w.heap.size (w.alloc (.cells #[.int .i64 (l.length:Int)] 3)).heap.size) (fun k hk=>⟨by omega,by simp;omega⟩)):p:=h
theorem qF (h:p:=by simp [results,results59,go_sem]):p:=h
theorem dE (h:p:=by split <;> (try simp only [List.length_append,List.length_cons,List.length_nil]) <;> omega):p:=h
theorem vL (h:p:=by have:=D.size;omega):p:=h
theorem tT (h:p:=by exact fun q=>by have:=q.1;omega):p:=h
theorem mE (h:p:=by simp [results,results80,go_sem,ac,au,aq,ar]):p:=h
theorem mF (h:p:=by exact fun k q1 q2=>by have h1:=q1.2.1;have h2:=q2.1;omega):p:=h
theorem rY (h:p:=by rw [← H];exact bR.alloc nL _):p:=h
theorem pG (h:p:=by match c0,l0 with | [D],_=>exact ⟨_,rfl⟩):p:=h
theorem mM (h:p:=by exact fun j I=>⟨I.1,by simpa [World.setCell] using I.2⟩):p:=h
theorem mO (h:p:=by rw [← F];exact (kC _ _ _ _).trans (kC _ _ _ _)):p:=h
theorem dM (h:p:=by exact fun j h1 h2=>by rw [← E];simp (discharger:=(simp;omega)) only [heap_setCell_other]):p:=h
theorem bP (h:p:=by exact fun j q=>⟨q.1,by have:=q.2.1;omega,fun h=>((hST j).1 h).elim (fun h2=>q.2.2 h2.1) (fun h2=>by have:=h2.1;have:=q.2.1;omega)⟩):p:=h
theorem rC (h:p:=by rw [h];exact Bool.false_ne_true):p:=h
theorem bU (h:p:=by exact fun k q h=>by first|(have h1:=sA k q;have h2:=h1.1;have h3:=h1.2;omega)|(have h1:=sB k q;have h2:=h1.1;have h3:=h1.2;omega)):p:=h
theorem mU (h:p:=by exact fun k q=>⟨by have:=q.1;omega,by have:=q.2;omega⟩):p:=h
theorem dO (h:p:=by rw [ByteArray.size_append];have:({ data:=#[47] }:ByteArray).size=1:=rfl;omega):p:=h
theorem rJ (h:p:=by exact fun j q=>⟨by have:=q.1;omega,q.2⟩):p:=h
theorem rM (h:p:=by exact fun k q=>⟨q.1,by have:=q.2;omega⟩):p:=h
theorem rT (h:p:=by rw [← E];simp [World.setCell]):p:=h
theorem bA5 (h:p:=by simpa using h):p:=h
theorem tC (h:p:=by exact fun j q=>by have:=q.1;omega):p:=h
theorem nY (h:p:=by exact fun k q1 q2=>by have:=q1.2;have:=q2.1;omega):p:=h
theorem bX (h:p:=by exact fun j q=>q.elim (fun q=>⟨q.1,by have:=q.2.1;omega,q.2.2⟩) (fun q=>⟨by have:=q.1;omega,q.2,by have:=q.1;omega⟩)):p:=h
theorem bZ (h:p:=by exact fun j q=>⟨q.1,by have:=q.2.1;omega,fun h=>((ft j).1 h).elim q.2.2 (fun h2=>by have:=h2.1;have:=q.2.1;omega)⟩):p:=h
theorem pJ (h:p:=by match c1,l1 with | [E],_=>exact ⟨_,rfl⟩):p:=h
theorem sO (h:p:=by rw [← F];exact jC (kG rfl)):p:=h
theorem fQ (h:p:=by simp [results,results84,go_sem,ax,ar,a1,aq,cq,cj,ck,co,cw,cv]):p:=h
theorem cK (h:p:=by repeat (first|(with_reducible exact bR) | refine Below.alloc ?_ (by have:=E1.size;simp;try omega) _)):p:=h
theorem wH (h:p:=by simpa using h0):p:=h
theorem cO (h:p:=by exact fun j h1 h2=>by have p1:=h1.1;have p2:=h1.2;simp (discharger:=(simp;omega)) only [heap_setCell_other]):p:=h
theorem qG (h:p:=by exact fun h2=>by have:=h2.1;have:=q.2.1;omega):p:=h
theorem cZ (h:p:=by rw [U.out];have:=bl.out;have:=HK.out;have:=HR.out;simp only [List.length_append];unfold Big;omega):p:=h
theorem bA6 (h:p:=by simpa using I):p:=h
theorem vI (h:p:=by unfold maxLen;omega):p:=h
theorem nC (h:p:=by simp [results,results174,go_sem,K2,F2]):p:=h
theorem nD (h:p:=by simp [results,results127,go_sem,K2,F2]):p:=h
theorem sF (h:p:=by rw [N,h3,Nat.add_mul];omega):p:=h
theorem wI (h:p:=by simpa using hl):p:=h
theorem wJ (h:p:=by simpa using hp):p:=h
theorem dF (h:p:=by rw [ByteArray.size_append];have:({ data:=#[47,107,101,121] }:ByteArray).size=4:=rfl;omega):p:=h
theorem qX (h:p:=by rw [h3];exact Bool.false_ne_true):p:=h
theorem tY (h:p:=by rw [← F];exact kH I 1):p:=h
theorem dI (h:p:=by simp [results,results106,go_sem,R0,F0,R1,F1,R2,F2,R3,F3,R4,F4,R5,F5,R6,F6,R7,F7]):p:=h
theorem nZ (h:p:=by exact fun j h1 h2=>by have:=h1.2;have:=h2.1;omega):p:=h
theorem pE (h:p:=by exact fun k q=>by have h1:=q.1;have h2:=q.2;omega):p:=h
theorem pF (h:p:=by rw [getD_replicate_false] at hl;cases hl):p:=h
theorem wK (h:p:=by simpa using be):p:=h
theorem rU (h:p:=by rw [← a3];exact bR.alloc nL _):p:=h
theorem tK (h:p:=by have:=HN.out;simp;omega):p:=h
theorem vW (h:p:=by rw [HD.out];simp):p:=h
theorem gW (h:p:=by simp [results,results107,go_sem,ax,ar,a1,aq]):p:=h
theorem mG (h:p:=by simp [results,results34,go_sem,ax,ar,a1,aq]):p:=h
theorem tZ (h:p:=by rw [List.take_length]):p:=h
theorem qO (h:p:=by rw [List.length_append];exact hlen):p:=h
theorem dV (h:p:=by rw [c4.out];exact ag.out.wide (fun j q=>⟨q.1,by have:=q.2.1;omega,q.2.2⟩)):p:=h
theorem dW (h:p:=by exact fun j=>by have:=ho (j + 1);simpa [Nat.add_assoc,Nat.add_comm 1 j] using this):p:=h
theorem dX (h:p:=by exact fun i=>by have:=ho (i + 1);simpa [Nat.add_assoc,Nat.add_comm 1 i] using this):p:=h
theorem vC (h:p:=by rw [h] at hr;cases hr):p:=h
theorem fA (h:p:=by simpa only [Bool.and_eq_true,decide_eq_true_eq,Bool.not_eq_true'] using L):p:=h
theorem sP (h:p:=by rw [← H];exact jC (kG rfl)):p:=h
theorem mP (h:p:=by exact fun k q h=>by have h1:=q.2.1;have h2:=q.2.2;omega):p:=h
theorem fC (h:p:=by exact fun k q=>by rcases q with q | q;exact q;exact ⟨by omega,by omega,by omega⟩):p:=h
theorem qU (h:p:=by exact fun k hk=>⟨by have:=hk.1;omega,hk.2⟩):p:=h
theorem fE (h:p:=by exact fun k q=>⟨by have:=q.1.1;omega,by have:=q.1.2;omega,by have:=q.1.1;omega⟩):p:=h
theorem qY (h:p:=by rw [U.out];simp;unfold Big;omega):p:=h
theorem vX (h:p:=by exact fun k q h=>by omega):p:=h
theorem nE (h:p:=by exact fun j I=>⟨by have:=I.1;simp at this;omega,I.2⟩):p:=h
theorem bA7 (h:p:=by simp [go_sem]):p:=h
theorem nG (h:p:=by rw [List.length_append,HK.out,HR.out];omega):p:=h
theorem nH (h:p:=by simp [results,results114,go_sem,KR,FR]):p:=h
theorem rD (h:p:=by (try simp only);rw [jM h,q];rfl):p:=h
theorem fJ (h:p:=by exact fun j I=>⟨by have h1:=I.1;have h2:=E1.size;(try simp at h1);omega,I.2⟩):p:=h
theorem fT (h:p:=by simp [results,results82,go_sem,ac,aq,au,ar,bi,bh,bm,bl,bv,bu]):p:=h
theorem nQ (h:p:=by rw [List.length_append,HK.out,N.out];omega):p:=h
theorem rO (h:p:=by exact fun k h=>⟨h.1,by have:=h.2;omega⟩):p:=h
theorem rP (h:p:=by exact fun j q=>⟨q.1,by have:=q.2;omega⟩):p:=h
theorem fZ (h:p:=by (first | rw [kOz hN] | rw [kPa hN]);first | rfl|(rw [E.out];rfl)):p:=h
theorem rV (h:p:=by have:=dq.out;unfold Big;omega):p:=h
theorem rW (h:p:=by simp only [List.append_assoc]):p:=h
theorem tV (h:p:=by exact fun _=>by rw [HK.out];rfl):p:=h
theorem wM (h:p:=by simpa using h1):p:=h
theorem wN (h:p:=by simpa using hc):p:=h
theorem gF (h:p:=by simp [results,results155,go_sem,ac,au,bi,bm,aq,ar,bh,bl]):p:=h
theorem pK (h:p:=by match c2,l2 with | [H],_=>exact ⟨_,rfl⟩):p:=h
theorem gG (h:p:=by rw [U.out,← HP.out,HV.out];try simp only [List.append_assoc]):p:=h
theorem gH (h:p:=by have:=aw.out;unfold Big;simp only [List.length_append];omega):p:=h
theorem pU (h:p:=by exact fun k q=>by rcases q with q | q <;> omega):p:=h
theorem qH (h:p:=by exact fun k hk=>⟨.inl hk.1,fun h=>by cases h⟩):p:=h
theorem qI (h:p:=by exact fun q=>by rcases q with q | q <;> omega):p:=h
theorem gI (h:p:=by exact fun j I=>I.elim .inl (fun h=>.inr ⟨by have:=h.1;omega,h.2⟩)):p:=h
theorem sV (h:p:=by exact fun y hy=>h y (by simp [hy])):p:=h
theorem qK (h:p:=by exact fun k hk=>by have:=E.2.size.size;omega):p:=h
theorem qL (h:p:=by rw [ByteArray.size_append,ag];omega):p:=h
theorem qM (h:p:=by rw [U.out];unfold kEe;simp [hg,hne]):p:=h
theorem qP (h:p:=by rw [this];exact Bool.false_ne_true):p:=h
theorem gK (h:p:=by exact fun k q=>⟨by have:=q.1;omega,by have:=q.2.1;omega,q.2.2⟩):p:=h
theorem vM (h:p:=by have:=HN.out;omega):p:=h
theorem vN (h:p:=by have:=HL.out;omega):p:=h
theorem vO (h:p:=by simpa using hB.1.1):p:=h
theorem wO (h:p:=by rw [J.out];rfl):p:=h
theorem gM (h:p:=by rw [g1,List.append_assoc,List.take_append_drop,← g2]):p:=h
theorem wP (h:p:=by simpa using h3):p:=h
theorem gQ (h:p:=by simp only [ByteArray.size_extract];unfold Big;omega):p:=h
theorem tL (h:p:=by simpa using (ho 0).symm):p:=h
theorem gT (h:p:=by exact fun j I=>⟨by have:=I.1;omega,by have:=I.2;simp;omega⟩):p:=h
theorem gX (h:p:=by exact fun y hy=>by rw [List.mem_singleton.1 hy];exact hx.2):p:=h
theorem gY (h:p:=by simp [results,results141,go_sem,M0,M1,F0,F1]):p:=h
theorem gZ (h:p:=by simp [results,results159,go_sem,ax,ar,a1,aq]):p:=h
theorem mH (h:p:=by first | exact HB.out | exact hi_byte0 (by omega)):p:=h
theorem mI (h:p:=by have:=kEp s.length;rw [List.length_append];omega):p:=h
theorem rQ (h:p:=by have:=List.mem_range.1 I;omega):p:=h
theorem vD (h:p:=by simp;unfold Big;omega):p:=h
theorem mQ (h:p:=by rw [bu.out];simp only [encS,List.append_assoc]):p:=h
theorem vG (h:p:=by simpa [Big] using hb):p:=h
theorem bB7 (h:p:=by simp [hy]):p:=h
theorem mX (h:p:=by have:=kE.kBz (by decide) al;unfold Big;omega):p:=h
theorem mY (h:p:=by exact fun j I=>⟨I.1,by have:=I.2;have:=aa.size;omega⟩):p:=h
theorem mZ (h:p:=by exact fun j I=>⟨I.1,by have:=I.2;have:=ce.size;omega⟩):p:=h
theorem nI (h:p:=by rw [HQ.out.1];have:=ax.out;unfold Big;omega):p:=h
theorem sG (h:p:=by exact fun x hx=>hlt x (by simp [hx])):p:=h
theorem nJ (h:p:=by simp [results,results153,go_sem,R0,F0]):p:=h
theorem sI (h:p:=by rw [List.length_take];omega):p:=h
theorem nK (h:p:=by exact fun j I=>⟨by have:=I.1;have:=O.size;omega,I.2⟩):p:=h
theorem nM (h:p:=by rw [List.take_length,kOb,List.append_assoc]):p:=h
theorem bB2 (h:p:=by rw [bh.out]):p:=h
theorem vJ (h:p:=by rw [U.out];exact bj):p:=h
theorem nN (h:p:=by exact fun j I=>⟨by have:=I.1;have:=D.size;omega,I.2⟩):p:=h
theorem wR (h:p:=by simpa using hk):p:=h
theorem wW (h:p:=by simpa using hz):p:=h
theorem wX (h:p:=by simpa using hf):p:=h
theorem wY (h:p:=by simpa using hr):p:=h
theorem wZ (h:p:=by simpa using ey):p:=h
theorem nR (h:p:=by exact fun k hk=>by rcases hk with hk | hk <;> omega):p:=h
theorem nS (h:p:=by rw [← HP.out,HV.out,List.append_assoc];rfl):p:=h
theorem nT (h:p:=by simp [results,results35,go_sem,R0,F0]):p:=h
theorem sQ (h:p:=by exact fun k q=>by have:=q.1.1;omega):p:=h
theorem vP (h:p:=by have:=bl.out;omega):p:=h
theorem nU (h:p:=by first | exact HB.out|(simp only [HB.out])):p:=h
theorem nV (h:p:=by rw [Nat.mul_comm];rwa [Nat.pow_succ] at h):p:=h
theorem vQ (h:p:=by rw [← g0];exact h0):p:=h
theorem sW (h:p:=by rw [U.out];simp;try omega):p:=h
theorem pM (h:p:=by match c3,l3 with | [U],_=>exact ⟨_,rfl⟩):p:=h
theorem tF (h:p:=by exact fun q=>by have:=q.1.1;omega):p:=h
theorem tH (h:p:=by rw [N,Nat.add_mul];omega):p:=h
theorem pV (h:p:=by rw [← F];exact kC w5 (V.heap.size) 0 _):p:=h
theorem pW (h:p:=by rw [← F];exact kC u3 (V.heap.size) 1 _):p:=h
theorem pX (h:p:=by rw [← F];exact kC w4 (V.heap.size) 0 _):p:=h
theorem pY (h:p:=by rw [← F];exact kC w5 (V.heap.size) 4 _):p:=h
theorem qA (h:p:=by rw [← F];exact kC w5 (V.heap.size) 3 _):p:=h
theorem vY (h:p:=by simpa using hlen):p:=h
theorem vZ (h:p:=by simp at hk;omega):p:=h
theorem wC (h:p:=by rw [U.out];simp):p:=h
theorem bB3 (h:p:=by rw [HD.out]):p:=h
theorem qQ (h:p:=by exact fun j q=>⟨by omega,by omega,by omega⟩):p:=h
theorem vE (h:p:=by rw [← F];exact kH B 0):p:=h
theorem vF (h:p:=by rw [← F];exact kH I 4):p:=h
theorem bA0 (h:p:=by simpa using ht):p:=h
theorem bA1 (h:p:=by simpa using hg):p:=h
theorem bA2 (h:p:=by rw [hB.1];simp):p:=h
theorem bB6 (h:p:=by simp [Big]):p:=h
theorem bA8 (h:p:=by simpa using O):p:=h
theorem bA9 (h:p:=by rw [F,b5];rfl):p:=h
theorem bB0 (h:p:=by simpa using D):p:=h
theorem vK (h:p:=by rw [inv.size];omega):p:=h
theorem vR (h:p:=by rw [hsize];exact N):p:=h
theorem vS (h:p:=by have:=bf.out;omega):p:=h
theorem vT (h:p:=by have:=Y.size;omega):p:=h
theorem vU (h:p:=by have:=ak.2.1;omega):p:=h
theorem bB1 (h:p:=by exact fun q=>by omega):p:=h
theorem oN (h:p:=by
 have hb:Below W.heap.size W v:=(by rw [← F];exact bR.alloc nL _)
 have BB:v.heap[W.heap.size]?=some (.cells #[.slice none 0 0,.slice none 0 0,.slice none 0 0,.int .i64 0,.int .i64 0] 43 (0,0)):=(by rw [← F];exact kG rfl)
 have zv:W.heap.size + 1≤v.heap.size:=(by rw [← F];simp)
 exact And.intro hb (And.intro BB zv)):p:=h
theorem oO (h:p:=by
 have Z:Below w.heap.size w N:=by rw [← H];exact bI
 have K0:N.cell? ⟨w.heap.size,0,none⟩=some (.slice cl x.1.length b6):=tN
 have K1:N.cell? ⟨w.heap.size,1,none⟩=some (.int .i64 x.2.1.1):=tN
 have K2:N.cell? ⟨w.heap.size,2,none⟩=some (.slice c6 x.2.1.2.length c5):=tN
 have K3:N.cell? ⟨w.heap.size,3,none⟩=some (.slice dq x.2.2.1.length dp):=tN
 have K4:N.cell? ⟨w.heap.size,4,none⟩=some (.slice ee x.2.2.2.1.length eb):=tN
 have K5:N.cell? ⟨w.heap.size,5,none⟩=some (.slice d3 x.2.2.2.2.1.length dw):=tN
 have K6:N.cell? ⟨w.heap.size,6,none⟩=some (.slice d4 x.2.2.2.2.2.1.length dr):=tN
 have K7:N.cell? ⟨w.heap.size,7,none⟩=some (.int .i64 x.2.2.2.2.2.2):=tN
 exact And.intro Z (And.intro K0 (And.intro K1 (And.intro K2 (And.intro K3 (And.intro K4 (And.intro K5 (And.intro K6 K7)))))))):p:=h
theorem oP (h:p:=by
 replace hc:=hc.below hb
 replace H:=H.trans (Touch.of_below hb)
 exact And.intro hc H):p:=h
theorem oQ (h:p:=by
 have R5:=E.1.kD R bB9
 have Y:=H.trans E.1
 have bc:=E.2
 have aw:=yD (L.out.touch E.1 qB)
 have aq:wS1.frozen? ⟨w.heap.size,0,none⟩=false:=frozen_of_row wS1 w.heap.size 0 _ _ R5
 have ar:wS1.frozen? ⟨w.heap.size,1,none⟩=false:=frozen_of_row wS1 w.heap.size 1 _ _ R5
 have bh:wS1.frozen? ⟨w.heap.size,2,none⟩=false:=frozen_of_row wS1 w.heap.size 2 _ _ R5
 have bl:wS1.frozen? ⟨w.heap.size,3,none⟩=false:=frozen_of_row wS1 w.heap.size 3 _ _ R5
 have ac:=kF R5 (j:=0) (v:=.slice none 0 0) rfl
 have au:=kF R5 (j:=1) (v:=.int .i64 0) rfl
 have bi:=kF R5 (j:=2) (v:=.int .i64 0) rfl
 have bm:=kF R5 (j:=3) (v:=.int .i64 0) rfl
 exact And.intro R5 (And.intro Y (And.intro bc (And.intro aw (And.intro aq (And.intro ar (And.intro bh (And.intro bl (And.intro ac (And.intro au (And.intro bi bm))))))))))):p:=h
theorem oU (h:p:=by
 have K0:N.cell? ⟨w.heap.size,0,none⟩=some (.slice cl x.1.length b6):=tN
 have K1:N.cell? ⟨w.heap.size,1,none⟩=some (.slice av x.2.1.length au):=tN
 have K2:N.cell? ⟨w.heap.size,2,none⟩=some (.slice c6 x.2.2.1.length c5):=tN
 have K3:N.cell? ⟨w.heap.size,3,none⟩=some (.int .i64 x.2.2.2.1):=tN
 have K4:N.cell? ⟨w.heap.size,4,none⟩=some (.int .i64 x.2.2.2.2):=tN
 exact And.intro K0 (And.intro K1 (And.intro K2 (And.intro K3 K4)))):p:=h
theorem oV (h:p:=by
 have A0:=(D.cell (p:=⟨w.heap.size,0,none⟩) sJ).trans ar
 have A1:=(D.cell (p:=⟨w.heap.size,1,none⟩) sJ).trans ao
 have A2:=(D.cell (p:=⟨w.heap.size,2,none⟩) sJ).trans aq
 have EW:=Z.trans (D.mono bB9)
 have B0:=cL EW C0
 have B1:=cL EW C1
 have B2:=cL EW C2
 exact And.intro A0 (And.intro A1 (And.intro A2 (And.intro EW (And.intro B0 (And.intro B1 B2)))))):p:=h
theorem oW (h:p:=by
 replace HL:Hid ((kE.slice 9 kE.str).own v [.slice (some ⟨X,0,none⟩) 3 3] [{ data:=#[47,107,101,121,47,97] },{ data:=#[47,107,101,121,47,98] },{ data:=#[47,97,47,107,101,121] }] (fun k=>k=X)):=yD (HL.out.touch D vX)
 replace h6:wb.heap.size≤X∧X < v.heap.size:=⟨h6.1,Nat.lt_of_lt_of_le h6.2 D.size⟩
 exact And.intro HL h6):p:=h
theorem oZ (h:p:=by
 replace L:=yD (L.out.touch D qB)
 replace H:=H.trans D
 exact And.intro L H):p:=h
theorem p8 (h:p:=by
 have hb:Below t.heap.size t v:=(by rw [← F];exact bR.alloc nL _)
 have BB:v.heap[t.heap.size]?=some (.cells #[.slice none 0 0,.slice none 0 0,.slice none 0 0,.int .i64 0,.int .i64 0] 43 (0,0)):=(by rw [← F];exact kG rfl)
 have zv:t.heap.size + 1≤v.heap.size:=(by rw [← F];simp)
 exact And.intro hb (And.intro BB zv)):p:=h
theorem p9 (h:p:=by
 replace HL:Hid ((kE.slice 9 kE.str).own v [.slice (some ⟨X,0,none⟩) 3 3] [{ data:=#[47,107,101,121,47,97] },{ data:=#[47,107,101,121,47,98] },{ data:=#[47,97,47,107,101,121] }] (fun k=>k=X)):=yD (HL.out.below hb)
 replace h6:wb.heap.size≤X∧X < v.heap.size:=⟨h6.1,Nat.lt_of_lt_of_le h6.2 hb.size⟩
 have N:wb.heap.size≤b∧b < v.heap.size:=⟨by omega,by omega⟩
 exact And.intro HL (And.intro h6 N)):p:=h
theorem q8 (h:p:=by
 replace hc:=hc.below ak
 have H:Touch (fun k=>k=p) w w1:=Touch.of_below ak
 exact And.intro hc H):p:=h
theorem q9 (h:p:=by
 have EC:Below wr.heap.size wr R:=rX
 have ac:=EC.size
 have M0:R.cell? ⟨wr.heap.size,0,none⟩=some (.int .i64 x0):=tO
 have M1:R.cell? ⟨wr.heap.size,1,none⟩=some (.bool x1):=tO
 have M2:R.cell? ⟨wr.heap.size,2,none⟩=some (.slice am (x2.1).length bt):=tO
 have M3:R.cell? ⟨wr.heap.size,3,none⟩=some (.int .i64 x2.2.1):=tO
 have M4:R.cell? ⟨wr.heap.size,4,none⟩=some (.int .i64 x2.2.2.1):=tO
 have M5:R.cell? ⟨wr.heap.size,5,none⟩=some (.int .i64 x2.2.2.2):=tO
 have M6:R.cell? ⟨wr.heap.size,6,none⟩=some (.slice bq (x3.1).length b5):=tO
 have M7:R.cell? ⟨wr.heap.size,7,none⟩=some (.slice b1 (x3.2.1).length bn):=tO
 have M8:R.cell? ⟨wr.heap.size,8,none⟩=some (.slice b6 (x3.2.2.1).length br):=tO
 have M9:R.cell? ⟨wr.heap.size,9,none⟩=some (.int .i64 x3.2.2.2.1):=tO
 have cd:R.cell? ⟨wr.heap.size,10,none⟩=some (.int .i64 x3.2.2.2.2):=tO
 exact And.intro EC (And.intro ac (And.intro M0 (And.intro M1 (And.intro M2 (And.intro M3 (And.intro M4 (And.intro M5 (And.intro M6 (And.intro M7 (And.intro M8 (And.intro M9 cd)))))))))))):p:=h
theorem qJ (h:p:=by
 have a8:=Int.ofNat_lt.2 hlt
 have di:=Int.natCast_nonneg k
 have a7:(k:Int)≤(pl:Int):=bB9
 have a2:k≤pl:=bB9
 exact And.intro a8 (And.intro di (And.intro a7 a2))):p:=h
theorem qV (h:p:=by
 have hb:Below w.heap.size w w1:=by rw [← F];exact (((bR.alloc nL _).alloc wF _).alloc wF _)
 have R:w1.heap[w.heap.size]?=some (.cells #[.slice none 0 0,.int .i64 0,.slice none 0 0,.slice none 0 0,.slice none 0 0,.slice none 0 0,.slice none 0 0,.int .i64 0] 33 (0,0)):=rA
 have RT:w1.heap[w.heap.size + 1]?=some (.cells #[.slice none 0 0,.slice none 0 0,.slice none 0 0,.slice none 0 0] 38 (0,0)):=by rw [← F];exact jC (kG bC0)
 have RD:w1.heap[w.heap.size + 2]?=some (.cells #[.slice none 0 0,.slice none 0 0,.slice none 0 0,.int .i64 0,.int .i64 0] 43 (0,0)):=by rw [← F];exact kG bC0
 have bn:w.heap.size + 3≤w1.heap.size:=bA3
 exact And.intro hb (And.intro R (And.intro RT (And.intro RD bn)))):p:=h
theorem qW (h:p:=by
 replace BR:=kD BR hb
 replace I:=kD I hb
 replace L:=yD (L.out.below hb)
 replace X:=(tQ X hb)
 exact And.intro BR (And.intro I (And.intro L X))):p:=h
theorem r9 (h:p:=by
 have M0:R.cell? ⟨wr.heap.size,0,none⟩=some (.slice ae (x0).length be):=tO
 have M1:R.cell? ⟨wr.heap.size,1,none⟩=some (.int .i64 x1):=tO
 have M2:R.cell? ⟨wr.heap.size,2,none⟩=some (.int .i64 x2):=tO
 exact And.intro M0 (And.intro M1 M2)):p:=h
theorem rG (h:p:=by
 replace X:=X.jZ D mK
 replace BN:=D.kD BN bB9
 replace BT:=D.kD BT bB9
 replace L:=yD (L.out.touch D nO)
 replace U:=yD (U.out.touch D nO)
 exact And.intro X (And.intro BN (And.intro BT (And.intro L U)))):p:=h
theorem rZ (h:p:=by
 have Z:Below w.heap.size w N:=by rw [← H];exact bI
 have X:N.cell? ⟨w.heap.size,0,none⟩=some (.slice V (n).length L):=tN
 exact And.intro Z X):p:=h
theorem u6 (h:p:=by
 have Z:Below w.heap.size w N:=by rw [← H];exact bI
 have F:N.cell? ⟨w.heap.size,0,none⟩=some (.slice V (n).length L):=tN
 exact And.intro Z F):p:=h
theorem u7 (h:p:=by
 have HK:Hid ((l.take i).length=i):=yD tK
 have HR:Hid ((l.drop (i + 1)).length=L - i):=yD tK
 have hne:((i:Int)==(i:Int) + 1)=false:=wF
 have af:i≤cap:=bB9
 have aa:(i:Int)≤cap:=bB9
 have ah:i + 1≤cap:=bB9
 have av:i + 1≤L + 1:=bB9
 have ac:¬ cap=L:=bB9
 have ae:(i:Int)≤(i:Int) + 1:=bB9
 have ag:(0:Int)≤(i:Int) + 1:=bB9
 have R:i≤L:=bB9
 exact And.intro HK (And.intro HR (And.intro hne (And.intro af (And.intro aa (And.intro ah (And.intro av (And.intro ac (And.intro ae (And.intro ag R)))))))))):p:=h
theorem uA (h:p:=by
 have Y:Touch (fun k=>k=w.heap.size) t2 t3:=(by rw [← F];exact (((((((kC _ _ _ _).trans (kC _ _ _ _)).trans (kC _ _ _ _)).trans (kC _ _ _ _)).trans (kC _ _ _ _)).trans (kC _ _ _ _)).trans (kC _ _ _ _)).trans (kC _ _ _ _))
 replace R:t3.heap[w.heap.size]?=some (.cells #[.slice a0 x0.length c0,.int .i64 kc,.slice a1 xe.length c1,.slice a2 x2.length c2,.slice a3 x3.length c3,.slice a4 x4.length c4,.slice a5 x5.length c5,.int .i64 x6] 33 (0,0)):=(by rw [← F];exact kH (kH (kH (kH (kH (kH (kH (kH (R) 0) 1) 2) 3) 4) 5) 6) 7)
 have d5:=Y.size
 exact And.intro Y (And.intro R d5)):p:=h
theorem uB (h:p:=by
 have a1:=yH (T:=fun k=>S k∧k < w.heap.size) (yC (w':=w.drew.alloc (.cells (cs.toArray++cells.toArray++Builtin.zeroCells z.cells (grownCap w (xs.length + m) cap e - (xs.length + m))) e)) (zK g7) (fun k hk=>heap_alloc_old w.drew _ hk.2)) (fun k hk=>⟨hk.1.1,hk.2⟩)
 have a2:=yH (T:=fun k=>T k∧k < w.heap.size) (yC (w':=w.drew.alloc (.cells (cs.toArray++cells.toArray++Builtin.zeroCells z.cells (grownCap w (xs.length + m) cap e - (xs.length + m))) e)) (zK hrow) (fun k hk=>heap_alloc_old w.drew _ hk.2)) (fun k hk=>hk)
 exact And.intro a1 a2):p:=h
theorem uC (h:p:=by
 replace BX:=kD BX hb
 replace BT:=kD BT hb
 replace BY:=kD BY hb
 replace Z:=yD (Z.out.below hb)
 replace TO:=yD (TO.out.below hb)
 replace YO:=yD (YO.out.below hb)
 exact And.intro BX (And.intro BT (And.intro BY (And.intro Z (And.intro TO YO))))):p:=h
theorem uD (h:p:=by
 have Z:Below w.heap.size w N:=rY
 have K0:N.cell? ⟨w.heap.size,0,none⟩=some (.slice na n.length np):=tN
 have b8:N.heap.size=w.heap.size + 1:=bA4
 exact And.intro Z (And.intro K0 b8)):p:=h
theorem uE (h:p:=by
 have M0:=kF (b:=w.heap.size + 1) X1 (j:=0) rfl
 have F0:=frozen_of_row O (w.heap.size + 1) 0 _ _ X1
 have M1:=kF (b:=w.heap.size + 1) X1 (j:=1) rfl
 have F1:=frozen_of_row O (w.heap.size + 1) 1 _ _ X1
 have M2:=kF (b:=w.heap.size + 1) X1 (j:=2) rfl
 have F2:=frozen_of_row O (w.heap.size + 1) 2 _ _ X1
 have M3:=kF (b:=w.heap.size + 1) X1 (j:=3) rfl
 have F3:=frozen_of_row O (w.heap.size + 1) 3 _ _ X1
 have M4:=kF (b:=w.heap.size + 1) X1 (j:=4) rfl
 have F4:=frozen_of_row O (w.heap.size + 1) 4 _ _ X1
 have M5:=kF (b:=w.heap.size + 1) X1 (j:=5) rfl
 have F5:=frozen_of_row O (w.heap.size + 1) 5 _ _ X1
 have M6:=kF (b:=w.heap.size + 1) X1 (j:=6) rfl
 have F6:=frozen_of_row O (w.heap.size + 1) 6 _ _ X1
 exact And.intro M0 (And.intro F0 (And.intro M1 (And.intro F1 (And.intro M2 (And.intro F2 (And.intro M3 (And.intro F3 (And.intro M4 (And.intro F4 (And.intro M5 (And.intro F5 (And.intro M6 F6))))))))))))):p:=h
theorem uF (h:p:=by
 have a1:Hid ((kE.slice 43 jA).rd w [.slice cl x.1.length b6] x.1):=yD ⟨ac,q0⟩
 have ax:Hid (kN.rd w [.int .i64 x.2.1.1,.slice c6 x.2.1.2.length c5] x.2.1):=yD ⟨ay,q1⟩
 have ao:Hid ((kE.slice 71 kJ).rd w [.slice dq x.2.2.1.length dp] x.2.2.1):=yD ⟨ba,q2⟩
 have a2:Hid ((kE.slice 123 jF).rd w [.slice ee x.2.2.2.1.length eb] x.2.2.2.1):=yD ⟨bg,q3⟩
 have ar:Hid ((kE.slice 102 jT).rd w [.slice d3 x.2.2.2.2.1.length dw] x.2.2.2.2.1):=yD ⟨b2,q4⟩
 have aq:Hid ((kE.slice 105 kL).rd w [.slice d4 x.2.2.2.2.2.1.length dr] x.2.2.2.2.2.1):=yD ⟨da,q5⟩
 exact And.intro a1 (And.intro ax (And.intro ao (And.intro a2 (And.intro ar aq))))):p:=h
theorem uG (h:p:=by
 have N:wb.heap.size≤b∧b < v.heap.size:=⟨by omega,by omega⟩
 replace E:=And.intro (E.1.trans (Touch.of_below hb)) (E.2.below hb)
 exact And.intro N E):p:=h
theorem uH (h:p:=by
 have HZ:Hid (wA.heap.size=w.heap.size + 3):=yD (by rw [← O];simp)
 have EA:Below w.heap.size w wA:=by rw [← O];exact bI
 have XB:Hid (wA.heap[w.heap.size]?=some (.cells #[.int .i64 c,.slice la l.length lp] 27 (0,0))):=yD (by rw [← O];exact jC (jC (kG rfl)))
 have XR:Hid (wA.heap[w.heap.size + 1]?=some (.cells #[.int .i64 0,.slice none 0 0] 27 (0,0))):=yD (by rw [← O];exact jC (kG bC0))
 have Z:Hid (wA.heap[w.heap.size + 1 + 1]?=some (.cells #[.int .i64 c,.slice none 0 0] 27 (0,0))):=yD (by rw [← O];exact kG bC0)
 exact And.intro HZ (And.intro EA (And.intro XB (And.intro XR Z)))):p:=h
theorem uI (h:p:=by
 have EC:Below wr.heap.size wr R:=rX
 have M0:R.cell? ⟨wr.heap.size,0,none⟩=some (.slice xa x.1.length xp):=tO
 have M1:R.cell? ⟨wr.heap.size,1,none⟩=some (.int .i64 x.2.1):=tO
 have M2:R.cell? ⟨wr.heap.size,2,none⟩=some (.int .i64 x.2.2):=tO
 replace K0:=cL EC K0
 exact And.intro EC (And.intro M0 (And.intro M1 (And.intro M2 K0)))):p:=h
theorem uJ (h:p:=by
 have a9:=kE.zM HL.out hlt
 have b1:=List.take_succ_eq_append_getElem hlt
 exact And.intro a9 b1):p:=h
theorem uK (h:p:=by
 replace BB:=D.kD BB bB9
 replace N:wb.heap.size≤b∧b < v.heap.size:=⟨N.1,Nat.lt_of_lt_of_le N.2 D.size⟩
 exact And.intro BB N):p:=h
theorem uL (h:p:=by
 have R0:V.cell? ⟨w.heap.size + 1,0,none⟩=some (.slice none 0 0):=(D.cell (p:=⟨w.heap.size + 1,0,none⟩) bC0).trans bA7
 have F0:V.frozen? ⟨w.heap.size + 1,0,none⟩=false:=(D.frozen (p:=⟨w.heap.size + 1,0,none⟩) bC0).trans bA7
 exact And.intro R0 F0):p:=h
theorem uM (h:p:=by
 have X:Below w.heap.size w w1:=by rw [← F];exact bI
 have BX:w1.heap[w.heap.size]?=some (.cells #[.int .i64 xc,.slice ay xe.length bx] 27 (0,0)):=rA
 have BY:w1.heap[w.heap.size + 1]?=some (.cells #[.slice bl y0.length b0,.slice co y1.length cl,.slice cj y2.length b4,.int .i64 y3,.int .i64 y4] 43 (0,0)):=by rw [← F];exact jC (kG bC0)
 have BR:w1.heap[w.heap.size + 2]?=some (.cells #[.int .i64 0,.slice none 0 0] 27 (0,0)):=by rw [← F];exact kG bC0
 have bn:w.heap.size + 3≤w1.heap.size:=bA3
 exact And.intro X (And.intro BX (And.intro BY (And.intro BR bn)))):p:=h
theorem uN (h:p:=by
 have Z:Below w.heap.size w N:=by rw [← H];exact bI
 have K0:N.cell? ⟨w.heap.size,0,none⟩=some (.slice an n.length aj):=tN
 exact And.intro Z K0):p:=h
theorem uO (h:p:=by
 have hb:Below W.heap.size W v:=(by rw [← F];exact bR.alloc nL _)
 have zv:W.heap.size + 1≤v.heap.size:=(by rw [← F];simp)
 exact And.intro hb zv):p:=h
theorem uP (h:p:=by
 have hb:Below w.heap.size w w1:=by rw [← F];exact (bR.alloc nL _).alloc bC0 _
 have RN:w1.heap[w.heap.size]?=some (.cells #[.slice none 0 0,.int .i64 0,.slice none 0 0,.slice none 0 0,.slice none 0 0,.slice none 0 0,.slice none 0 0,.int .i64 0] 33 (0,0)):=sO
 have RT:w1.heap[w.heap.size + 1]?=some (.cells #[.slice none 0 0,.slice none 0 0,.slice none 0 0,.slice none 0 0] 38 (0,0)):=by rw [← F];exact kG bC0
 have bn:w.heap.size + 2≤w1.heap.size:=bA3
 exact And.intro hb (And.intro RN (And.intro RT bn))):p:=h
theorem uQ (h:p:=by
 have EC:Below wr.heap.size wr R:=rX
 have M0:R.cell? ⟨wr.heap.size,0,none⟩=some (.slice ae x.1.1.length be):=tO
 have M1:R.cell? ⟨wr.heap.size,1,none⟩=some (.slice ao x.1.2.1.length br):=tO
 have M2:R.cell? ⟨wr.heap.size,2,none⟩=some (.slice am x.1.2.2.1.length bt):=tO
 have M3:R.cell? ⟨wr.heap.size,3,none⟩=some (.int .i64 x.1.2.2.2.1):=tO
 have M4:R.cell? ⟨wr.heap.size,4,none⟩=some (.int .i64 x.1.2.2.2.2):=tO
 have M5:R.cell? ⟨wr.heap.size,5,none⟩=some (.int .i64 x.2):=tO
 exact And.intro EC (And.intro M0 (And.intro M1 (And.intro M2 (And.intro M3 (And.intro M4 M5)))))):p:=h
theorem uR (h:p:=by
 replace BX:=kD BX hb
 replace BD:=kD BD hb
 replace BR:=kD BR hb
 replace I:=kD I hb
 exact And.intro BX (And.intro BD (And.intro BR I))):p:=h
theorem uS (h:p:=by
 have av:w3.cell? ⟨V.heap.size,0,none⟩=some (.slice a 0 c):=kF B rfl
 have ab:w3.frozen? ⟨V.heap.size,0,none⟩=false:=frozen_of_row w3 (V.heap.size) 0 _ _ B
 have GB:(World.alloc w3 (.cells #[.string { data:=#[97] }] 9)).frozen? ⟨V.heap.size,0,none⟩=false:=(frozen?_alloc_cells _ _ _ _).trans ab
 have HB:(World.alloc w3 (.cells #[.string { data:=#[97] }] 9)).cell? ⟨V.heap.size,0,none⟩=some (.slice a 0 c):=kF (kD B (bR.alloc nL _)) rfl
 exact And.intro av (And.intro ab (And.intro GB HB))):p:=h
theorem uT (h:p:=by
 have M0:=kF XV.out (j:=0) (v:=.int .i64 c) rfl
 have M1:=kF XV.out (j:=1) rfl
 have R0:=kF ((D.block _ (show w.heap.size + 1 < w.heap.size + 1 + 1 by omega)).trans XR.out) (j:=0) (v:=.int .i64 0) rfl
 have R1:=kF ((D.block _ (show w.heap.size + 1 < w.heap.size + 1 + 1 by omega)).trans XR.out) (j:=1) (v:=.slice none 0 0) rfl
 have F0:=fun j=>frozen_of_row wr (w.heap.size + 1) j _ _ ((D.block _ (show w.heap.size + 1 < w.heap.size + 1 + 1 by omega)).trans XR.out)
 exact And.intro M0 (And.intro M1 (And.intro R0 (And.intro R1 F0)))):p:=h
theorem uU (h:p:=by
 replace hc:=hc.touch Y bB9 wB
 replace X:=X.jZ Y wG
 exact And.intro hc X):p:=h
theorem uV (h:p:=by
 have Y:Touch (fun k=>k=w.heap.size + 2) t4 t5:=(by rw [← F];exact ((((kC _ _ _ _).trans (kC _ _ _ _)).trans (kC _ _ _ _)).trans (kC _ _ _ _)).trans (kC _ _ _ _))
 replace RD:t5.heap[w.heap.size + 2]?=some (.cells #[.slice ai y.1.length b2,.slice b5 y.2.1.length b8,.slice b3 y.2.2.1.length cd,.int .i64 y.2.2.2.1,.int .i64 y.2.2.2.2] 43 (0,0)):=(by rw [← F];exact kH (kH (kH (kH (kH (RD) 0) 1) 2) 3) 4)
 have d9:=Y.size
 exact And.intro Y (And.intro RD d9)):p:=h
theorem uW (h:p:=by
 have ak:Below w.heap.size w w1:=rX
 have R:w1.heap[w.heap.size]?=some (.cells #[.slice none 0 0] 41 (0,0)):=tX
 have bn:w.heap.size + 1≤w1.heap.size:=bA3
 exact And.intro ak (And.intro R bn)):p:=h
theorem uX (h:p:=by
 have Y:Touch (fun k=>k=V.heap.size) t4 t5:=(by rw [← F];exact ((((kC _ _ _ _).trans (kC _ _ _ _)).trans (kC _ _ _ _)).trans (kC _ _ _ _)).trans (kC _ _ _ _))
 replace BY:t5.heap[V.heap.size]?=some (.cells #[.slice dx z_.1.length dn,.slice du z_.2.1.length dc,.slice dv z_.2.2.1.length dw,.int .i64 z_.2.2.2.1,.int .i64 z_.2.2.2.2] 43 (0,0)):=(by rw [← F];exact kH (kH (kH (kH (kH (BY) 0) 1) 2) 3) 4)
 have d9:=Y.size
 exact And.intro Y (And.intro BY d9)):p:=h
theorem uY (h:p:=by
 have Z:Below w.heap.size w N:=by rw [← H];exact bI
 have K0:N.cell? ⟨w.heap.size,0,none⟩=some (.slice av t.1.length bh):=tN
 have K1:N.cell? ⟨w.heap.size,1,none⟩=some (.slice bd t.2.1.length cu):=tN
 have K2:N.cell? ⟨w.heap.size,2,none⟩=some (.slice aw t.2.2.1.length bi):=tN
 have K3:N.cell? ⟨w.heap.size,3,none⟩=some (.slice ag t.2.2.2.length ac):=tN
 have K4:N.cell? ⟨w.heap.size + 1,0,none⟩=some (.slice an n.length aj):=tN
 exact And.intro Z (And.intro K0 (And.intro K1 (And.intro K2 (And.intro K3 K4))))):p:=h
theorem uZ (h:p:=by
 have Z:Below w.heap.size w N:=by rw [← H];exact bI
 have af:N.cell? ⟨w.heap.size,0,none⟩=some (.slice ae (x.1).length L):=tN
 have ac:N.cell? ⟨w.heap.size,1,none⟩=some (.slice an (x.2.1).length X):=tN
 have O:N.cell? ⟨w.heap.size,2,none⟩=some (.slice al (x.2.2.1).length F):=tN
 have D:N.cell? ⟨w.heap.size,3,none⟩=some (.int .i64 x.2.2.2.1):=tN
 have R:N.cell? ⟨w.heap.size,4,none⟩=some (.int .i64 x.2.2.2.2):=tN
 exact And.intro Z (And.intro af (And.intro ac (And.intro O (And.intro D R))))):p:=h
theorem vB (h:p:=by
 have Y:Touch (fun k=>k=b) W v:=(by rw [← F];exact ((((kC _ _ _ _).trans (kC _ _ _ _)).trans (kC _ _ _ _)).trans (kC _ _ _ _)).trans (kC _ _ _ _))
 replace BB:v.heap[b]?=some (.cells #[.slice ae x.1.length ah,.slice ao x.2.1.length ai,.slice am x.2.2.1.length aj,.int .i64 x.2.2.2.1,.int .i64 x.2.2.2.2] 43 (0,0)):=(by rw [← F];exact kH (kH (kH (kH (kH (BB) 0) 1) 2) 3) 4)
 exact And.intro Y BB):p:=h
theorem vH (h:p:=by
 have Z:Below w.heap.size w N:=by rw [← H];exact bI
 have K0:N.cell? ⟨w.heap.size,0,none⟩=some (.slice cl r.1.length b6):=tN
 have K1:N.cell? ⟨w.heap.size,1,none⟩=some (.slice av r.2.length au):=tN
 exact And.intro Z (And.intro K0 K1)):p:=h
theorem x8 (h:p:=by
 replace R:=kD R ap
 replace L:=yD (L.out.below ap)
 replace hc:=hc.below ap
 replace H:=H.trans (Touch.of_below ap)
 exact And.intro R (And.intro L (And.intro hc H))):p:=h
theorem x9 (h:p:=by
 have Y:Touch (fun k=>k=w.heap.size + 1) t2 t3:=(by rw [← F];exact (((kC _ _ _ _).trans (kC _ _ _ _)).trans (kC _ _ _ _)).trans (kC _ _ _ _))
 replace RT:t3.heap[w.heap.size + 1]?=some (.cells #[.slice av t.1.length br,.slice bd t.2.1.length bw,.slice aw t.2.2.1.length bz,.slice ag t.2.2.2.length bt] 38 (0,0)):=(by rw [← F];exact kH (kH (kH (kH (RT) 0) 1) 2) 3)
 have d5:=Y.size
 exact And.intro Y (And.intro RT d5)):p:=h
theorem xA (h:p:=by
 have N:L.heap.size≤b∧b < v.heap.size:=⟨by omega,by omega⟩
 replace E:=And.intro (E.1.trans (Touch.of_below hb)) (E.2.below hb)
 exact And.intro N E):p:=h
theorem xB (h:p:=by
 have Y:Touch (fun k=>k=w.heap.size + 1) t3 t4:=(by rw [← F];exact (((kC _ _ _ _).trans (kC _ _ _ _)).trans (kC _ _ _ _)).trans (kC _ _ _ _))
 replace RT:t4.heap[w.heap.size + 1]?=some (.cells #[.slice av af.length br,.slice bd bx.length bw,.slice aw ba.length bz,.slice ag bq.length bt] 38 (0,0)):=(by rw [← F];exact kH (kH (kH (kH (RT) 0) 1) 2) 3)
 have d3:=Y.size
 exact And.intro Y (And.intro RT d3)):p:=h
theorem xC (h:p:=by
 replace L:=yD (L.out.touch D qB)
 replace HR:=yD (HR.out.touch D qB)
 replace H:=H.trans D
 exact And.intro L (And.intro HR H)):p:=h
theorem xD (h:p:=by
 have fg:=E.size
 have ac:=EC.size
 have a5:=D.size
 have af:Below wr.heap.size wr _:=(tQ EC E)
 replace L:=yD (L.out.below af)
 have aa:=(tQ D af)
 exact And.intro fg (And.intro ac (And.intro a5 (And.intro af (And.intro L aa))))):p:=h
theorem xE (h:p:=by
 have bo:=D.size
 replace R:=D.kD R bB9
 replace H:=H.trans D
 exact And.intro bo (And.intro R H)):p:=h
theorem xG (h:p:=by
 have hb:Below V.heap.size V w3:=by rw [← F];exact (((bR.alloc nL _).alloc wF _).alloc wF _)
 have BX:w3.heap[V.heap.size]?=some (.cells #[.slice a0 x0.length c0,.int .i64 kc,.slice a1 xe.length c1,.slice a2 x2.length c2,.slice a3 x3.length c3,.slice a4 x4.length c4,.slice a5 x5.length c5,.int .i64 x6] 33 (0,0)):=rA
 exact And.intro hb BX):p:=h
theorem xH (h:p:=by
 replace HB:Hid ((kE.slice 5 kE.byte).jY v [.slice ba U.length bc] U (fun k=>wb.heap.size≤k∧k < v.heap.size∧k≠b)):=yD ((HB.out.below hb).wide (fun k q=>⟨q.1,Nat.lt_of_lt_of_le q.2.1 hb.size,q.2.2⟩))
 replace BB:=kD BB hb
 replace N:wb.heap.size≤b∧b < v.heap.size:=⟨N.1,Nat.lt_of_lt_of_le N.2 hb.size⟩
 exact And.intro HB (And.intro BB N)):p:=h
theorem xI (h:p:=by
 have Y:Below wS.heap.size wS (World.alloc wS (.cells #[] 5)):=bR.alloc nL _
 have bf:wS.heap.size + 1≤(World.alloc wS (.cells #[] 5)).heap.size:=(by simp)
 have X:=((kE.ku.void (e:=5) (r:=kE.byte) (w:=(World.alloc wS (.cells #[] 5))) (a:=some ⟨wS.heap.size,0,none⟩) (S:=fun _=>False)).own (Nat.zero_le _)).rd
 exact And.intro Y (And.intro bf X)):p:=h
theorem xJ (h:p:=by
 replace Z:=yD (Z.out.below E)
 replace TO:=yD (TO.out.below E)
 replace YO:=yD (YO.out.below E)
 exact And.intro Z (And.intro TO YO)):p:=h
theorem xK (h:p:=by
 have L0:=kF ((D.block _ (show w.heap.size < w.heap.size + 1 + 1 by omega)).trans XB.out) (j:=0) (v:=.int .i64 c) rfl
 have L1:=kF ((D.block _ (show w.heap.size < w.heap.size + 1 + 1 by omega)).trans XB.out) (j:=1) (v:=.slice la l.length lp) rfl
 have EW:Below w.heap.size w wr:=EA.trans (D.mono bB9)
 have a6:=Int.natCast_nonneg k
 exact And.intro L0 (And.intro L1 (And.intro EW a6))):p:=h
theorem xL (h:p:=by
 have EC:Below wT.heap.size wT R:=rX
 have K0:R.cell? ⟨wT.heap.size,0,none⟩=some (.slice av x0.length bh):=tO
 exact And.intro EC K0):p:=h
theorem xM (h:p:=by
 have E1:Below w.heap.size w v1:=by rw [← E];exact (F1.setCell pR _)
 have U:Hid (v1.heap.size=w1.heap.size):=yD rT
 replace X:=yD (kE.own.out (w':=v1) X.out dM)
 exact And.intro E1 (And.intro U X)):p:=h
theorem xN (h:p:=by
 replace BT:=kD BT hb
 replace BX:=kD BX hb
 replace L:=yD (L.out.below hb)
 replace X:=(tQ X hb)
 exact And.intro BT (And.intro BX (And.intro L X))):p:=h
theorem xO (h:p:=by
 replace HB:Hid ((kE.slice 5 kE.byte).jY v [.slice ba U.length bc] U (fun k=>wb.heap.size≤k∧k < v.heap.size∧k≠b)):=yD ((HB.out.below hb).wide dK)
 replace HK:Hid (kM.jY v [.slice ka ks.length kc] ks (fun k=>wb.heap.size≤k∧k < v.heap.size∧k≠b)):=yD ((HK.out.below hb).wide dK)
 exact And.intro HB HK):p:=h
theorem xP (h:p:=by
 have a1:w5.cell? ⟨w.heap.size + 2,1,none⟩=some (.slice none 0 0):=kF BR rfl
 have cq:w5.cell? ⟨w.heap.size + 2,2,none⟩=some (.slice none 0 0):=kF BR rfl
 have ck:w5.cell? ⟨w.heap.size + 2,3,none⟩=some (.int .i64 0):=kF BR rfl
 have cw:w5.cell? ⟨w.heap.size + 2,4,none⟩=some (.int .i64 0):=kF BR rfl
 exact And.intro a1 (And.intro cq (And.intro ck cw))):p:=h
theorem xQ (h:p:=by
 replace D:=(Touch.of_below (S:=fun k=>k=p) (bR.alloc nL _)).trans D
 have cd:=D.size
 exact And.intro D cd):p:=h
theorem xR (h:p:=by
 have J:=fun q=>idxOf_hit hlt q HN.out
 have I:=fun q=>kAm hlt q HN.out
 exact And.intro J I):p:=h
theorem xS (h:p:=by
 replace ag:Hid (kM.jY v [.slice Z L.length af] L (fun k=>wr.heap.size≤k∧k < v.heap.size∧k≠b)):=yD ((ag.out.below hb).wide dK)
 replace al:Hid (kM.jY v [.slice ap n2.length av] n2 (fun k=>wr.heap.size≤k∧k < v.heap.size∧k≠b)):=yD ((al.out.below hb).wide dK)
 exact And.intro ag al):p:=h
theorem xU (h:p:=by
 replace L:=yD (L.out.below hb)
 replace HQ:=yD (HQ.out.below hb)
 replace X:=(tQ X hb)
 exact And.intro L (And.intro HQ X)):p:=h
theorem xV (h:p:=by
 replace HK:=yD (HK.out.below hb)
 replace BX:=kD BX hb
 replace R:=kD R hb
 exact And.intro HK (And.intro BX R)):p:=h
theorem xW (h:p:=by
 have ap:Below V.heap.size V w3:=rX
 have B:w3.heap[V.heap.size]?=some (.cells #[.slice a n c] 41 (0,0)):=tX
 have bp:V.heap.size + 1≤w3.heap.size:=bA3
 exact And.intro ap (And.intro B bp)):p:=h
theorem xX (h:p:=by
 have B0:=cL EW C0
 have B1:=cL EW C1
 have B2:=cL EW C2
 exact And.intro B0 (And.intro B1 B2)):p:=h
theorem xY (h:p:=by
 have fh:=E.1.size
 have RS:=E.1.kD BN bB9
 have ac:O.cell? ⟨nb,0,none⟩=some (.slice a0 x0.length c0):=kF RS rfl
 have aq:O.frozen? ⟨nb,0,none⟩=false:=frozen_of_row O (nb) 0 _ _ RS
 have au:O.cell? ⟨nb,1,none⟩=some (.int .i64 kc):=kF RS rfl
 have ar:O.frozen? ⟨nb,1,none⟩=false:=frozen_of_row O (nb) 1 _ _ RS
 exact And.intro fh (And.intro RS (And.intro ac (And.intro aq (And.intro au ar))))):p:=h
theorem xZ (h:p:=by
 have EC:Below wV.heap.size wV R:=rX
 have bo:wV.heap.size≤R.heap.size:=EC.size
 have bv:R.cell? ⟨wV.heap.size,0,none⟩=some (.int .i64 f):=tO
 have bu:R.cell? ⟨wV.heap.size,1,none⟩=some (.int .i64 x1):=tO
 have bn:R.cell? ⟨wV.heap.size,2,none⟩=some (.int .i64 y3):=tO
 have E6:=(tQ E5 EC)
 have ae:=yD (aw.out.below EC)
 replace D:=cL EC D
 exact And.intro EC (And.intro bo (And.intro bv (And.intro bu (And.intro bn (And.intro E6 (And.intro ae D))))))):p:=h
theorem y5 (h:p:=by
 have h6:wb.heap.size≤X∧X < v.heap.size:=⟨by omega,by omega⟩
 replace E:=And.intro (E.1.trans (Touch.of_below hb)) (E.2.below hb)
 exact And.intro h6 E):p:=h
theorem y7 (h:p:=by
 replace HK:=yD (HK.out.touch D (fun k q h=>hS k q.1 h))
 replace BX:=D.kD BX bB9
 replace R:=D.kD R bB9
 exact And.intro HK (And.intro BX R)):p:=h
theorem y8 (h:p:=by
 have XR:N.heap[w.heap.size + 1]?=some (.cells #[.slice none 0 0,.int .i64 0,.slice none 0 0,.slice none 0 0,.slice none 0 0,.slice none 0 0,.slice none 0 0,.int .i64 0] 33 (0,0)):=by rw [← H];exact kG bC0
 have b8:N.heap.size=w.heap.size + 2:=bA4
 exact And.intro XR b8):p:=h
theorem y9 (h:p:=by
 have F:=fun (q:u % 10=0)=>kNn (P:=prog) (w:=wr) (src:=22) (dst:=9) (z:=48) (x:=UInt8.ofNat (48 + u % 10)) (by rw [q];rfl) underlying22 underlying5 underlying9
 have ag:(⟨#[UInt8.ofNat (48 + u % 10)]⟩:ByteArray).size=1:=rfl
 exact And.intro F ag):p:=h
theorem z8 (h:p:=by
 have Z:Below w.heap.size w N:=by rw [← H];exact bI
 have F:N.cell? ⟨w.heap.size,0,none⟩=some (.slice ab (m.1).length ac):=tN
 have L:N.cell? ⟨w.heap.size,1,none⟩=some (.int .i64 m.2.1):=tN
 have V:N.cell? ⟨w.heap.size,2,none⟩=some (.int .i64 m.2.2):=tN
 exact And.intro Z (And.intro F (And.intro L V))):p:=h
theorem A7 (h:p:=by
 have H:Below u.heap.size u (u.alloc (.cells cx.toArray e)):=bR.alloc nL _
 have hS:(slice e r).own u [.slice a len cap] xs (fun k=>S k∧k < w.heap.size):=⟨(slice e r).mono ((slice e r).live hown.1) (fun k hk=>hu.block k hk.2),hown.2⟩
 exact And.intro H hS):p:=h
theorem A8 (h:p:=by
 replace hO:yA.jY _ [.slice a0 x0.length c0,.int .i64 kc,.slice a1 xe.length c1,.slice a2 x2.length c2,.slice a3 x3.length c3,.slice a4 x4.length c4,.slice a5 x5.length c5,.int .i64 x6] (x0,(kc,xe),x2,x3,x4,x5,x6) _:=hO
 have L:=yD hO
 exact And.intro hO L):p:=h
theorem A9 (h:p:=by
 have Y:Below t3.heap.size t3 (World.alloc t3 (.cells #[.int .i64 x.2.2.2.1] 3)):=bR.alloc nL _
 have az:t3.heap.size + 1≤(World.alloc t3 (.cells #[.int .i64 x.2.2.2.1] 3)).heap.size:=(by simp)
 have L:=kHf (w:=t3) (x:=x.2.2.2.1) (e:=3) HF.out
 exact And.intro Y (And.intro az L)):p:=h
theorem AA (h:p:=by
 have Y:Below t2.heap.size t2 (World.alloc t2 (.cells #[.int .i64 x.2.2.2.1] 3)):=bR.alloc nL _
 have a2:t2.heap.size + 1≤(World.alloc t2 (.cells #[.int .i64 x.2.2.2.1] 3)).heap.size:=(by simp)
 have L:=kHf (w:=t2) (x:=x.2.2.2.1) (e:=3) HF.out
 exact And.intro Y (And.intro a2 L)):p:=h
theorem AB (h:p:=by
 have Y:Below t1.heap.size t1 (World.alloc t1 (.cells #[.int .i64 x.2.2.2.1] 3)):=bR.alloc nL _
 have a9:t1.heap.size + 1≤(World.alloc t1 (.cells #[.int .i64 x.2.2.2.1] 3)).heap.size:=(by simp)
 have L:=kHf (w:=t1) (x:=x.2.2.2.1) (e:=3) HF.out
 exact And.intro Y (And.intro a9 L)):p:=h
theorem AJ (h:p:=by
 have Y:Below t0.heap.size t0 (World.alloc t0 (.cells #[.int .i64 x.2.2.2.1] 3)):=bR.alloc nL _
 have bb:t0.heap.size + 1≤(World.alloc t0 (.cells #[.int .i64 x.2.2.2.1] 3)).heap.size:=(by simp)
 have L:=kHf (w:=t0) (x:=x.2.2.2.1) (e:=3) HF.out
 exact And.intro Y (And.intro bb L)):p:=h
theorem AL (h:p:=by
 have Y:Below wS.heap.size wS (World.alloc wS (.cells #[.int .i64 x.2.2.2.1] 3)):=bR.alloc nL _
 have bf:wS.heap.size + 1≤(World.alloc wS (.cells #[.int .i64 x.2.2.2.1] 3)).heap.size:=(by simp)
 have L:=kHf (w:=wS) (x:=x.2.2.2.1) (e:=3) HF.out
 exact And.intro Y (And.intro bf L)):p:=h
theorem AO (h:p:=by
 have bt:=X.size
 replace L:=yD ((L.out.below X).wide (T:=jR w.heap.size w4.heap.size) rE)
 exact And.intro bt L):p:=h
theorem AP (h:p:=by
 have zv:=D.size
 replace HB:Hid ((kE.slice 5 kE.byte).jY v [.slice ba U.length bc] U (fun k=>wb.heap.size≤k∧k < v.heap.size∧k≠p)):=yD ((HB.out.touch D sK).wide (fun k q=>⟨q.1,Nat.lt_of_lt_of_le q.2.1 D.size,q.2.2⟩))
 exact And.intro zv HB):p:=h
theorem AQ (h:p:=by
 have fg:=E.size
 have ac:=EC.size
 have a5:=D.size
 have em:=au.size
 have af:Below wr.heap.size wr wS:=(tQ ER E)
 replace L:=yD (L.out.below af)
 have aa:=(tQ D af)
 exact And.intro fg (And.intro ac (And.intro a5 (And.intro em (And.intro af (And.intro L aa)))))):p:=h
theorem AR (h:p:=by
 have a8:(0:Int)≤k:=bB9
 have be:(k:Int) < on:=bB9
 exact And.intro a8 be):p:=h
theorem AU (h:p:=by
 have HL:Hid ((kE.slice 98 kw).rd w [.slice la l.length lp] l):=yD ⟨hl,a9.2⟩
 have bj:l.length≤16777216:=a9.2.1
 have cg:=yD ei
 exact And.intro HL (And.intro bj cg)):p:=h
theorem AV (h:p:=by
 have zv:=D.size
 have c6:=N.2
 replace HB:Hid ((kE.slice 5 kE.byte).jY v [.slice ba U.length bc] U (fun k=>wb.heap.size≤k∧k < v.heap.size∧k≠b)):=yD ((HB.out.touch D sK).wide (fun k q=>⟨q.1,Nat.lt_of_lt_of_le q.2.1 D.size,q.2.2⟩))
 exact And.intro zv (And.intro c6 HB)):p:=h
theorem AX (h:p:=by
 have E1:=(tQ Z O)
 have az:=O.size
 have L:=yD (O1.wide (T:=jR w.heap.size w1.heap.size) rF)
 exact And.intro E1 (And.intro az L)):p:=h
theorem AY (h:p:=by
 have de:=D.size
 replace X:=X.jZ D mK
 replace BN:=D.kD BN bB9
 replace HR:=yD (HR.out.touch D nO)
 exact And.intro de (And.intro X (And.intro BN HR))):p:=h
theorem AZ (h:p:=by
 have ED:Below wr.heap.size wr wD:=rU
 have N0:wD.cell? ⟨wr.heap.size,0,none⟩=some (.int .i64 y.1):=tJ
 have N1:wD.cell? ⟨wr.heap.size,1,none⟩=some (.int .i64 y.2.1):=tJ
 have N2:wD.cell? ⟨wr.heap.size,2,none⟩=some (.int .i64 y.2.2):=tJ
 have D1:=cL ED C1
 exact And.intro ED (And.intro N0 (And.intro N1 (And.intro N2 D1)))):p:=h
theorem BC (h:p:=by
 have E3:Below w.heap.size w v3:=by rw [← E];exact (F3.setCell pR _)
 have au:Hid (v3.heap.size=w3.heap.size):=yD rT
 replace X:=yD (kE.own.out (w':=v3) X.out cB)
 replace ag:=yD (kE.own.out (w':=v3) ag.out cB)
 replace ae:=yD (kE.own.out (w':=v3) ae.out cB)
 exact And.intro E3 (And.intro au (And.intro X (And.intro ag ae)))):p:=h
theorem BF (h:p:=by
 have zv:=hb.size
 replace ag:Hid (kM.jY v [.slice Z L.length af] L (fun k=>wr.heap.size≤k∧k < v.heap.size∧k≠aw)):=yD ((ag.out.below hb).wide (fun k q=>⟨q.1,Nat.lt_of_lt_of_le q.2.1 hb.size,q.2.2⟩))
 exact And.intro zv ag):p:=h
theorem BG (h:p:=by
 have zv:=hb.size
 have c6:=N.2
 replace ag:Hid (kM.jY v [.slice Z L.length af] L (fun k=>wr.heap.size≤k∧k < v.heap.size∧k≠b)):=yD ((ag.out.below hb).wide (fun k q=>⟨q.1,Nat.lt_of_lt_of_le q.2.1 hb.size,q.2.2⟩))
 exact And.intro zv (And.intro c6 ag)):p:=h
theorem BH (h:p:=by
 have G:cells.length=m * i.size:=by rw [hsize,e7,hm]
 have R:cur.toList.length=p.length + (cs.length + tl.length):=by rw [g2];simp
 have ac:cur.size=p.length + (cs.length + tl.length):=by rw [← R,Array.length_toList]
 exact And.intro G (And.intro R ac)):p:=h
theorem BI (h:p:=by
 have EW:Below w.heap.size w wr:=G.trans (D.mono bB9)
 have aq:w.heap.size < wr.heap.size:=vL
 have K0:wr.cell? ⟨w.heap.size,0,none⟩=some (.slice an n.length aj):=(D.cell (p:=⟨w.heap.size,0,none⟩) bC0).trans af.out
 exact And.intro EW (And.intro aq K0)):p:=h
theorem BJ (h:p:=by
 have dd:Hid (jA.raw w [.slice bl y0.length b0,.slice co y1.length cl,.slice cj y2.length b4,.int .i64 y3,.int .i64 y4] (y0,y1,y2,y3,y4)):=yD hy.1
 have fh:Hid (kM.raw w [.slice bl y0.length b0] y0):=yD bj
 exact And.intro dd fh):p:=h
theorem BL (h:p:=by
 have BR:w1.heap[w.heap.size + 2]?=some (.cells #[.slice none 0 0,.slice none 0 0,.slice none 0 0,.int .i64 0,.int .i64 0] 43 (0,0)):=by rw [← F];exact kG bC0
 have bn:w.heap.size + 3≤w1.heap.size:=bA3
 exact And.intro BR bn):p:=h
theorem BM (h:p:=by
 have R:=Lib.run_convert_string_bytes (P:=prog) wr 9 22 5 s (u:=.string) underlying9 underlying22 underlying5
 have E:=yD (kMa (w:=wr) (e:=5) (e2:=5) (s:=s) bB9)
 have O:=bytesWorld_below' wr 5 s
 exact And.intro R (And.intro E O)):p:=h
theorem BO (h:p:=by
 have bo:=EC.size
 have bb:w.heap.size + 1≤V.heap.size:=by simpa using an
 have E2:Below w.heap.size w R:=Below.trans (bR.alloc nL _) ((ab.trans (EC.mono an)).mono bC0)
 replace B2:=kD B2 EC
 replace HD:=yD (fun q=>(HD.out q).below EC)
 have AC:=cL EC bd
 have K5:=kF B5 (j:=0) rfl
 exact And.intro bo (And.intro bb (And.intro E2 (And.intro B2 (And.intro HD (And.intro AC K5)))))):p:=h
theorem BP (h:p:=by
 replace BB:=kD BB hb
 replace N:wr.heap.size≤b∧b < v.heap.size:=⟨N.1,Nat.lt_of_lt_of_le N.2 hb.size⟩
 exact And.intro BB N):p:=h
theorem BS (h:p:=by
 have ak:Below w.heap.size w w1:=rX
 have R:w1.heap[w.heap.size]?=some (.cells #[.slice none 0 0,.slice none 0 0,.slice none 0 0,.int .i64 0,.int .i64 0] 43 (0,0)):=tX
 have bn:w.heap.size + 1≤w1.heap.size:=bA3
 exact And.intro ak (And.intro R bn)):p:=h
theorem BV (h:p:=by
 replace L:=yD (L.out.below hb)
 replace U:=yD (U.out.below hb)
 exact And.intro L U):p:=h
theorem BZ (h:p:=by
 replace R:=D.kD R bB9
 replace B:=D.kD B bB9
 exact And.intro R B):p:=h
theorem C8 (h:p:=by
 have bl:O.frozen? ⟨nb,3,none⟩=false:=frozen_of_row O (nb) 3 _ _ RS
 have bv:O.cell? ⟨nb,4,none⟩=some (.slice a3 0 c3):=kF RS rfl
 have bu:O.frozen? ⟨nb,4,none⟩=false:=frozen_of_row O (nb) 4 _ _ RS
 exact And.intro bl (And.intro bv bu)):p:=h
theorem C9 (h:p:=by
 have N:Below w6.heap.size w6 w7:=rX
 have B:w7.heap[w6.heap.size]?=some (.cells #[.slice ia ps.length ic,.int .i64 nn,.int .i64 X,.int .i64 nt] 79 (0,0)):=tX
 have dg:w6.heap.size + 1≤w7.heap.size:=bA3
 exact And.intro N (And.intro B dg)):p:=h
theorem CB (h:p:=by
 have EC:Below wr.heap.size wr R:=rX
 have bo:R.heap.size=wr.heap.size + 1:=bA3
 exact And.intro EC bo):p:=h
theorem CE (h:p:=by
 have Z:Below w.heap.size w N:=by rw [← H];exact bI
 have K0:N.cell? ⟨w.heap.size,0,none⟩=some (.slice aa a.length J):=tN
 have K1:N.cell? ⟨w.heap.size + 1,0,none⟩=some (.slice ab b.length I):=tN
 exact And.intro Z (And.intro K0 K1)):p:=h
theorem CF (h:p:=by
 have eq:O.frozen? ⟨nb,6,none⟩=false:=frozen_of_row O (nb) 6 _ _ RS
 have er:O.cell? ⟨nb,7,none⟩=some (.int .i64 0):=kF RS rfl
 have et:O.frozen? ⟨nb,7,none⟩=false:=frozen_of_row O (nb) 7 _ _ RS
 exact And.intro eq (And.intro er et)):p:=h
theorem CG (h:p:=by
 have bk:U.length≤4:=bB9
 have HB:Hid ((kE.slice 5 kE.byte).jY v [.slice ba U.length bc] U (fun k=>wb.heap.size≤k∧k < v.heap.size∧k≠b)):=yD (hO.jY.wide gU)
 replace E:=And.intro (E.1.trans D) G
 exact And.intro bk (And.intro HB E)):p:=h
theorem CJ (h:p:=by
 have bk:U.length≤4:=bB9
 have HB:Hid ((kE.slice 5 kE.byte).jY v [.slice ba U.length bc] U (fun k=>wb.heap.size≤k∧k < v.heap.size∧k≠p)):=yD (hO.jY.wide gU)
 replace E:=And.intro (E.1.trans D) G
 exact And.intro bk (And.intro HB E)):p:=h
theorem CK (h:p:=by
 replace K0:=cL W K0
 have G:=(tQ X W)
 have au:Hid (kE.ku 5 kE.byte w4 (.slice a4 n4 c4) (b++kBx n.length) (jR (w.heap.size + 1) w4.heap.size)):=yD (F.wide rF)
 have ar:w.heap.size < w4.heap.size:=by have:=W.size;omega
 exact And.intro K0 (And.intro G (And.intro au ar))):p:=h
theorem CL (h:p:=by
 have ah:Hid (x.1.length≤Big):=yD q0.1
 have am:Hid (x.2.2.1.length≤Big):=yD q2.1
 have a4:Hid (x.2.2.2.1.length≤Big):=yD q3.1
 have aj:Hid (x.2.2.2.2.1.length≤Big):=yD q4.1
 have ap:Hid (x.2.2.2.2.2.1.length≤Big):=yD q5.1
 exact And.intro ah (And.intro am (And.intro a4 (And.intro aj ap)))):p:=h
theorem CO (h:p:=by
 have K0:V.cell? ⟨w.heap.size,0,none⟩=some (.slice an n.length aj):=(D.cell (p:=⟨w.heap.size,0,none⟩) bC0).trans bA7
 have G:Below w.heap.size w V:=Below.trans bI (D.mono rH)
 exact And.intro K0 G):p:=h
theorem CP (h:p:=by
 have HL:=yD hl
 have HN:=yD hn
 have bj:l.length≤16777216:=hl.2.1
 exact And.intro HL (And.intro HN bj)):p:=h
theorem CQ (h:p:=by
 replace hc:=hc.below hb
 have H:Touch (fun k=>k=p) w w1:=Touch.of_below hb
 exact And.intro hc H):p:=h
theorem CR (h:p:=by
 have E2:Below w.heap.size w v2:=by rw [← E];exact (F2.setCell pR _)
 have W:Hid (v2.heap.size=V.heap.size):=yD rT
 replace X:=yD (kE.own.out (w':=v2) X.out dA)
 replace ag:=yD (kE.own.out (w':=v2) ag.out dA)
 exact And.intro E2 (And.intro W (And.intro X ag))):p:=h
theorem CS (h:p:=by
 have A0:=(F.cell (p:=⟨w.heap.size,0,none⟩) sJ).trans ar
 have A1:=(F.cell (p:=⟨w.heap.size,1,none⟩) sJ).trans ao
 have A2:=(F.cell (p:=⟨w.heap.size,2,none⟩) sJ).trans aq
 have EW:=Z.trans (F.mono bB9)
 exact And.intro A0 (And.intro A1 (And.intro A2 EW))):p:=h
theorem CU (h:p:=by
 have A0:=(E.cell (p:=⟨w.heap.size,0,none⟩) sJ).trans ar
 have A1:=(E.cell (p:=⟨w.heap.size,1,none⟩) sJ).trans ao
 have A2:=(E.cell (p:=⟨w.heap.size,2,none⟩) sJ).trans aq
 have EW:=Z.trans (E.mono bB9)
 exact And.intro A0 (And.intro A1 (And.intro A2 EW))):p:=h
theorem CV (h:p:=by
 have Z:Below w.heap.size w N:=by rw [← H];exact bI
 have K0:N.cell? ⟨w.heap.size,0,none⟩=some (.int .i64 c):=tN
 have K1:N.cell? ⟨w.heap.size,1,none⟩=some (.slice aa l.length pl):=tN
 exact And.intro Z (And.intro K0 K1)):p:=h
theorem CW (h:p:=by
 have ak:Below w.heap.size w w1:=rX
 have R:w1.heap[w.heap.size]?=some (.cells #[.slice none 0 0,.int .i64 0,.int .i64 0,.int .i64 0] 79 (0,0)):=tX
 have bn:w.heap.size + 1≤w1.heap.size:=bA3
 exact And.intro ak (And.intro R bn)):p:=h
theorem CX (h:p:=by
 have ao:on≤oc:=vU
 have a4:oc≤9223372036854775807:=nX
 have af:=D.mem
 have bg:=D.frozen (k * 3 + 2)
 have G:Hid (kE.gap 105 kL V b oc l.length (l.take k) 1 (l.drop (k + 1)) (jR w.heap.size V.heap.size)):=yD D.skip
 exact And.intro ao (And.intro a4 (And.intro af (And.intro bg G)))):p:=h
theorem CY (h:p:=by
 have HR:Hid (kQh (n,x1,x2,x3) f t=(f,x1,y3)):=yD (by rw [← am];rfl)
 have HY:Hid (-9223372036854775808≤y3∧y3≤9223372036854775807):=yD (by rw [← am];exact kRo _)
 exact And.intro HR HY):p:=h
theorem CZ (h:p:=by
 have O:Touch (fun k=>k=V.heap.size) u3 wQ:=pW
 have BQ:wQ.heap[V.heap.size]?=some (.cells #[.int .i64 kc,.slice a3 q.length c3] 27 (0,0)):=by rw [← F];exact kH BK 1
 have b6:=O.size
 exact And.intro O (And.intro BQ b6)):p:=h
theorem D5 (h:p:=by
 replace BR:=kD BR ap
 replace L:=yD (L.out.below ap)
 replace X:=(tQ X ap)
 exact And.intro BR (And.intro L X)):p:=h
theorem D6 (h:p:=by
 replace HR:=yD (HR.out.touch Y nO)
 replace HP:=yD (HP.out.touch Y nO)
 exact And.intro HR HP):p:=h
theorem D7 (h:p:=by
 replace L:=yD ((L.out.below EC).wide (T:=jR w.heap.size R.heap.size) rE)
 have ak:=(tQ D EC)
 exact And.intro L ak):p:=h
theorem D8 (h:p:=by
 have HN:=yD ac
 have HC:=yD a3
 have HK:=yD a5
 have HF:=yD (show I64q x.2.2.2.1 from bg)
 have l1:=kIb x.1
 have l2:=kIb x.2.2.1
 have HD:=yD (show signed x=yf (kCa x.1)++yf x.2.1++yf (kCa x.2.2.1)++[x.2.2.2.1] from rfl)
 have m1:=kDk (kCa x.1)
 have m2:=kDk x.2.1
 have m3:=kDk (kCa x.2.2.1)
 exact And.intro HN (And.intro HC (And.intro HK (And.intro HF (And.intro l1 (And.intro l2 (And.intro HD (And.intro m1 (And.intro m2 m3))))))))):p:=h
theorem D9 (h:p:=by
 replace BX:=kD BX E
 replace BT:=kD BT E
 replace BY:=kD BY E
 exact And.intro BX (And.intro BT BY)):p:=h
theorem DC (h:p:=by
 have cz:Touch (fun k=>k=V.heap.size) w4 w5:=pX
 replace B:w5.heap[V.heap.size]?=some (.cells #[.slice (some ⟨w3.heap.size,0,none⟩) 1 1] 41 (0,0)):=vE
 have cd:=cz.size
 exact And.intro cz (And.intro B cd)):p:=h
theorem DD (h:p:=by
 replace L:=yD (L.out.below ba)
 replace hc:=hc.below ba
 replace H:=H.trans (Touch.of_below ba)
 exact And.intro L (And.intro hc H)):p:=h
theorem DF (h:p:=by
 have Z:Below w.heap.size w N:=by rw [← H];exact bI
 have b8:w.heap.size + 1≤N.heap.size:=bA4
 have K0:N.cell? ⟨w.heap.size,0,none⟩=some (.slice na n.length np):=tN
 exact And.intro Z (And.intro b8 K0)):p:=h
theorem DI (h:p:=by
 have M0:R.cell? ⟨wr.heap.size,0,none⟩=some (.slice ae (x0).length be):=tO
 have M1:R.cell? ⟨wr.heap.size,1,none⟩=some (.slice ao (x1).length br):=tO
 exact And.intro M0 M1):p:=h
theorem DJ (h:p:=by
 have bu:=yD (kMq hlt)
 have ax:=kIm HV.out hlt
 have ap:=kKw HV.out hk
 have a6:Hid ((kE.slice 5 kE.byte).rd wr [.slice oa on oc] (b++kBx n.length++kGv (n.take k))):=yD ((L.out.own gH).rd)
 exact And.intro bu (And.intro ax (And.intro ap a6))):p:=h
theorem DK (h:p:=by
 replace BY:=Y.kD BY bB9
 replace BR:=Y.kD BR bB9
 replace I:=Y.kD I bB9
 exact And.intro BY (And.intro BR I)):p:=h
theorem DL (h:p:=by
 have ak:Below w.heap.size w w1:=rX
 have R:w1.heap[w.heap.size]?=some (.cells #[.int .i64 0,.slice none 0 0] 27 (0,0)):=tX
 have bn:w.heap.size + 1≤w1.heap.size:=bA3
 exact And.intro ak (And.intro R bn)):p:=h
theorem DN (h:p:=by
 replace D:=(Touch.of_below (S:=fun k=>k=p) (bR.alloc nL _)).trans D
 have b9:=D.size
 exact And.intro D b9):p:=h
theorem DR (h:p:=by
 replace hc:=hc.below hb
 replace E:=E.trans (Touch.of_below hb)
 exact And.intro hc E):p:=h
theorem DT (h:p:=by
 replace O:=yD (O.out.wide (T:=fun k=>lb≤k∧k≤lb) (fun k q=>⟨Nat.le_of_eq q.symm,Nat.le_of_eq q⟩))
 have ed:=Nat.le_of_eq bj
 have ec:=Nat.le_of_eq bj.symm
 exact And.intro O (And.intro ed ec)):p:=h
theorem DU (h:p:=by
 replace Y:je.jY _ [.slice av af.length br,.slice bd bx.length bw,.slice aw ba.length bz,.slice ag bq.length bt] (af,bx,ba,bq) _:=Y
 have U:=yD Y
 have dn:=yD hlt
 exact And.intro Y (And.intro U dn)):p:=h
theorem DV (h:p:=by
 replace BT:=Y.kD BT bB9
 replace L:=yD (L.out.touch Y nO)
 replace U:=yD (U.out.touch Y nO)
 exact And.intro BT (And.intro L U)):p:=h
theorem DW (h:p:=by
 have fh:=E.1.size
 have RS:=E.1.kD BK bB9
 have ac:O.cell? ⟨kb,0,none⟩=some (.int .i64 kc):=kF RS rfl
 have aq:O.frozen? ⟨kb,0,none⟩=false:=frozen_of_row O (kb) 0 _ _ RS
 exact And.intro fh (And.intro RS (And.intro ac aq))):p:=h
theorem DX (h:p:=by
 replace BX:=kD BX hb
 replace BY:=kD BY hb
 exact And.intro BX BY):p:=h
theorem DY (h:p:=by
 have N:w4.heap.size≤b∧b < v.heap.size:=⟨by omega,by omega⟩
 replace E:=And.intro (E.1.trans (Touch.of_below hb)) (E.2.below hb)
 exact And.intro N E):p:=h
theorem DZ (h:p:=by
 have HA:=yD ha
 have E:=fun (W:World) (a:Option Addr) (n c:Nat)=>Lib.run_eql_slice_nil (P:=prog) W 22 5 a n c 0 0 underlying22
 exact And.intro HA E):p:=h
theorem EB (h:p:=by
 have ak:Below w.heap.size w w1:=rX
 have bn:w.heap.size + 1≤w1.heap.size:=bA3
 exact And.intro ak bn):p:=h
theorem EE (h:p:=by
 have hb:=dig_int (u:=u)
 have R:=kNn (P:=prog) (w:=wr) (src:=22) (dst:=9) hb underlying22 underlying5 underlying9
 exact And.intro hb R):p:=h
theorem EG (h:p:=by
 have ee:m * r.n=cells.length:=by rw [G,hsize]
 have J:off + xs.length * i.size=(p++cs).length:=by rw [List.length_append,g3,N,hsize]
 exact And.intro ee J):p:=h
theorem aA (h:p:=by
 have hlt:b < w.heap.size:=by
  rcases Nat.lt_or_ge b w.heap.size with q | q
  · exact q
  unfold World.cell? at k
  simp [Array.getElem?_eq_none q] at k
 have e:=h.block b hlt hb
 unfold World.cell? at k ⊢
 simp only at k ⊢
 rw [e];exact k):p:=h
theorem aB (h:p:=by
 simp only [h,Int.toNat_natCast,jM hk]
 rw [if_neg bB9]):p:=h
theorem aC (h:p:=by
 have HQ:=yD (kXd hv)
 clear hv
 go_wp2_with fail
 refine (kCv (HL.out.below E)).mono ?_
 rintro e w8 ⟨v8,rfl,O8,bc⟩
 have bf:=yD (O8.cast HQ.out.1.symm)
 clear O8
 go_wp2
 go_ret2
 exact ⟨v8,by rw [HQ.out.2];rfl,(bf.out.own (by rw [HQ.out.1];exact bj)).wide rF,(tQ E bc)⟩):p:=h
theorem aD (h:p:=by
 intro j v I
 have av:j < c'.length:=(List.getElem?_eq_some_iff.1 I).1
 simp only [World.cell?,hb,Option.isSome_none,Bool.false_eq_true,if_false]
 rw [← Array.getElem?_toList,hc,List.getElem?_append_right bB9,List.append_assoc,List.getElem?_append_right bB9,List.append_assoc,List.getElem?_append_left bB9]
 rw [← I];congr 1;omega):p:=h
theorem aF (h:p:=by
 have U:=yD (show kAb (y0,y1,y2,y3,y4) t (xc,xe)=(xc,Z) from (kGw dk.out).trans dL)
 obtain ⟨H,G⟩:=jc I
 obtain ⟨ax,a1⟩:=jc BR
 obtain ⟨ar,aq⟩:=kAo BR
 go_wp2
 refine bodyPost_ret (v:=.agg #[.int .i64 xc,.slice ga Z.length gc]) gW rfl ⟨[.int .i64 xc,.slice ga Z.length gc],rfl,?_,?_⟩
 · rw [U.out];exact ((show kN.own _ _ (xc,Z) _ from kE.kBe (r:=kE.int) (q:=(kE.slice 98 kw)) (cs:=[.int .i64 xc]) (kE.ky am) (HQ.out.own rV)).touch ((kC _ _ _ _).trans (kC _ _ _ _)) rR).wide fM
 · exact X.trans (Touch.below ((kC _ _ _ _).trans (kC _ _ _ _)) X.size wB)):p:=h
theorem aG (h:p:=by
 clear hv
 go_wp2
 refine bodyPost_ret (v:=.tuple #[.slice none 0 0,.bool false]) qF rfl ?_
 exact ⟨_,by rw [HF.out],X⟩):p:=h
theorem aH (h:p:=by
 clear ha
 go_wp2
 refine bodyPost_ret (v:=.tuple #[.slice none 0 0,.bool false]) qF rfl ?_
 exact ⟨_,by rw [HF.out],X⟩):p:=h
theorem aI (h:p:=by
 replace BT:=kD BT hb
 replace BX:=kD BX hb
 replace X:=(tQ X hb)
 clear a8 az a7 a6 aa ab an ak al
 clear hb
 go_wp2
 go_ret
 exact ⟨kR HU.out.symm,X⟩):p:=h
theorem aJ (h:p:=by
 obtain ⟨b,off,h,_⟩:=kE.kEk ha.1 (i:=0) bC0
 cases h):p:=h
theorem aK (h:p:=by
 intro v2 V hown D hz
 have L:=yD hown
 obtain ⟨a2,c2,hv⟩:=hown.zL
 obtain rfl:=hv
 have G:Below w.heap.size w V:=Below.trans bI D
 clear hown O0 D
 go_wp2
 go_ret
 exact ⟨_,rfl,by simpa using L.out.own vG,G⟩):p:=h
theorem aL (h:p:=by
 have h:=kE.yV (e:=9) (r:=kE.str) (w:=(w.alloc (.cells #[.slice aa x.length J] 41)).alloc (.cells #[.slice none 0 0] 41)) (cs:=[]) (xs:=[]) (T:=fun _=>False) (S:=fun k=>k=w.heap.size + 1 + 1) bC0 bC0 rfl (fun _ h=>h.elim) bC0
 simpa using h):p:=h
theorem aM (h:p:=by
 refine kE.own.wide (S:=jR (v0.heap.size) (w3.heap.size)) ?_ fK
 exact kE.ja (r:=kM) (q:=(kE.pair (kE.slice 5 kE.byte) (kE.pair kM (kE.pair kE.int kE.int)))) (cs:=[.slice Z x0.length N]) (ds:=[.slice aw x1.length bi,.slice J x2.length G,.int .i64 x3,.int .i64 x4]) (x:=x0) (y:=(x1,x2,x3,x4)) (S:=jR (v0.heap.size) (w3.heap.size)) (kE.own.out X.out fD) (kE.ja (r:=(kE.slice 5 kE.byte)) (q:=(kE.pair kM (kE.pair kE.int kE.int))) (cs:=[.slice aw x1.length bi]) (ds:=[.slice J x2.length G,.int .i64 x3,.int .i64 x4]) (x:=x1) (y:=(x2,x3,x4)) (S:=jR (v1.heap.size) (w3.heap.size)) (kE.own.out ag.out fD) (kE.jw (r:=kM) (q:=(kE.pair kE.int kE.int)) (cs:=[.slice J x2.length G]) (ds:=[.int .i64 x3,.int .i64 x4]) (x:=x2) (y:=(x3,x4)) (kE.own.out ae.out fD) (kE.jr (r:=kE.int) (q:=kE.int) (cs:=[.int .i64 x3]) (ds:=[.int .i64 x4]) (x:=x3) (y:=x4) (kE.ky N3.out) (kE.ky N4.out))) mR mR mW) mR mR mW):p:=h
theorem aN (h:p:=by
 go_wp2_with fail
 refine (kAj (px.below EC)).mono ?_
 rintro e wT ⟨tc,rfl,OT,au⟩
 obtain ⟨dh,el,eu,rfl,a2,bk,bm,b7,c2,dl,dj⟩:=jN OT.raw
 obtain ⟨av,bh,rfl,et⟩:=kE.sl bk
 obtain ⟨bd,cu,rfl,er⟩:=kE.sl bm
 obtain ⟨aw,bi,rfl,eo⟩:=kE.sl c2
 clear a2 bk bm b7 c2 dl dj
 have em:=au.size
 have af:=au
 replace L:=yD (L.out.below af)
 have aa:=(tQ ak af)
 go_wp2_with (at_builtin;refine kE.jK rfl _ _ 24 rfl (r:=jA) (e:=43) underlying24 kKv rfl bB8 bB8 (B:=w.heap.size) L.out bC1 bC1 rfl (kE.own.wide (T:=jR R.heap.size wT.heap.size) (OT) mR) rfl mW rE mR bB9 bB9 ?_)
 intro v2 V G Y an
 replace G:=kE.ku.cast G (bu.out.symm)
 have ag:=yD G
 have H:=aa.trans Y
 clear G L Y
 go_wp2
 go_roundw
 case rel=>exact ⟨k + 1,by omega,by go_num,ag,H⟩
 simp [intOf];omega):p:=h
theorem aO (h:p:=by
 obtain rfl:k=l.length:=bB9
 go_wp2
 go_ret
 exact ⟨_,rfl,kE.ku.cast L.out tZ,D⟩):p:=h
theorem aP (h:p:=by
 intro v2 V G Y an
 replace G:=kE.ku.cast G (bu.out.symm)
 have ag:=yD G
 have H:=aa.trans Y
 clear G L Y
 go_wp2
 go_roundw
 case rel=>exact ⟨k + 1,by omega,by go_num,ag,H⟩
 simp [intOf];omega):p:=h
theorem aQ (h:p:=by
 refine kE.ku.wide (S:=jR wS.heap.size u0.heap.size) (kE.ku.keep G.out ?_) ?_
 · exact cO
 exact rF):p:=h
theorem aR (h:p:=by
 refine kE.own.wide (S:=jR (u0.heap.size) (O.heap.size)) ?_ fK
 exact kE.ja (r:=kN) (q:=(kE.pair (kE.slice 71 kJ) (kE.pair (kE.slice 123 jF) (kE.pair (kE.slice 102 jT) (kE.pair (kE.slice 105 kL) kE.int))))) (cs:=[.int .i64 x.2.1.1,.slice fr x.2.1.2.length fp]) (ds:=[.slice ej af ek,.slice ef V d9,.slice ab R aa,.slice Y L U,.int .i64 x.2.2.2.2.2.2]) (x:=x.2.1) (y:=x.2.2) (S:=jR (u0.heap.size) (O.heap.size)) (kE.own.out X.out fD) (kE.ja (r:=(kE.slice 71 kJ)) (q:=(kE.pair (kE.slice 123 jF) (kE.pair (kE.slice 102 jT) (kE.pair (kE.slice 105 kL) kE.int)))) (cs:=[.slice ej af ek]) (ds:=[.slice ef V d9,.slice ab R aa,.slice Y L U,.int .i64 x.2.2.2.2.2.2]) (x:=x.2.2.1) (y:=x.2.2.2) (S:=jR (u1.heap.size) (O.heap.size)) (kE.own.out ag.out fD) (kE.ja (r:=(kE.slice 123 jF)) (q:=(kE.pair (kE.slice 102 jT) (kE.pair (kE.slice 105 kL) kE.int))) (cs:=[.slice ef V d9]) (ds:=[.slice ab R aa,.slice Y L U,.int .i64 x.2.2.2.2.2.2]) (x:=x.2.2.2.1) (y:=x.2.2.2.2) (S:=jR (u2.heap.size) (O.heap.size)) (kE.own.out ae.out fD) (kE.ja (r:=(kE.slice 102 jT)) (q:=(kE.pair (kE.slice 105 kL) kE.int)) (cs:=[.slice ab R aa]) (ds:=[.slice Y L U,.int .i64 x.2.2.2.2.2.2]) (x:=x.2.2.2.2.1) (y:=x.2.2.2.2.2) (S:=jR (u3.heap.size) (O.heap.size)) (kE.own.out au.out fD) (kE.jw (r:=(kE.slice 105 kL)) (q:=kE.int) (cs:=[.slice Y L U]) (ds:=[.int .i64 x.2.2.2.2.2.2]) (x:=x.2.2.2.2.2.1) (y:=x.2.2.2.2.2.2) (kE.own.out aw.out fD) (kE.ky gf.out)) rE rF mW) rE rF mW) rE rF mW) rE rF mW):p:=h
theorem aS (h:p:=by
 obtain rfl:k=l.length:=bB9
 go_wp2
 go_ret
 exact ⟨_,rfl,kE.ku.cast L.out bC0,D⟩):p:=h
theorem aT (h:p:=by
 intro v2 V G Y an
 obtain ⟨a7,cl,b3,b5,cd⟩:=G.parts;obtain rfl:=b5
 have al:=(Y.block _ bB9).trans XW
 have N1:=kF al (j:=1) rfl
 have NF:=frozen_of_row V (w.heap.size + 1 + 1) 1 _ _ al
 have H:=a5.trans (Y.mono bB9)
 have b6:=yD al
 have ag:=yD (kE.ku.cast G (bu.out.symm))
 clear al G L Y D
 go_wp2
 go_roundw
 case rel=>exact ⟨k + 1,_,by omega,by go_num,yD (heap_setCell_same V _ 1 _ _ _ b6.out),yD ((ag.out.setCell fI).wide mM),H.setCell bC0 _,by simp [World.setCell];omega⟩
 simp [intOf];omega):p:=h
theorem aU (h:p:=by
 rw [J.out] at I
 have ab:=yD I
 have Y:=yD ((Touch.of_below (S:=S) E).trans ((X.trans U).wide (fun k hk=>hk ▸ Z.out)))
 clear O X U I
 have h1:(i:Int)≤(i:Int) + 1:=bB9
 have h2:(i:Int)≤(i:Int) + 1:=bB9
 refine kE.wpList_append_run rfl _ _ _ rfl bC1 bC1 F ?_
 go_wp2
 go_ret
 exact ⟨_,rfl,ab.out,Y.out⟩):p:=h
theorem aV (h:p:=by
 rw [J.out] at I
 have ab:=yD I
 have Y:=yD ((Touch.of_below (S:=S) E).trans ((X.trans U).wide (fun k hk=>hk ▸ Z.out)))
 clear O X U I
 have h1:(L:Int)≤cap:=bB9
 have h2:(L:Int)≤(L:Int) + 1:=bB9
 refine kE.wpList_append_run rfl _ _ _ rfl bC1 bC1 F ?_
 go_wp2
 go_ret
 exact ⟨_,rfl,ab.out,Y.out⟩):p:=h
theorem aW (h:p:=by
 rintro e w1 ⟨rfl,hw⟩
 obtain rfl:=hw.symm
 have R:inR (2147483647:Int) 1 1000000000000=true:=bB8
 rw [R]
 go_wp2
 go_ret
 exact ⟨jW (by rw [HE.out];exact kNb bB9),rfl⟩):p:=h
theorem aX (h:p:=by
 rintro e w1 ⟨rfl,hw⟩
 obtain rfl:=hw.symm
 have HD:=yD (show kQt d x=(d * 1000003 + modP x + 13).tmod 2147483647 from rfl)
 generalize modP x=m at *
 go_wp2
 go_round
 case rel=>exact ⟨k + 1,by omega,by go_num,by rw [E.out,HD.out,← kNb bB9]⟩
 simp [intOf];omega):p:=h
theorem aY (h:p:=by
 intro j u I
 have F:(⟨b,off,none⟩:Addr).add j=⟨b,off + j,none⟩:=qN
 have av:=(List.getElem?_eq_some_iff.1 I).1
 rw [F,cell_of_row w b _ cur e (0,0) g1,← Array.getElem?_toList,g2,List.getElem?_append_right bB9,List.getElem?_append_left bB9]
 rw [← I];congr 1;omega):p:=h
theorem aZ (h:p:=by
 simp only [Array.size_append,List.size_toArray,size_zeroCells,hzs,G,N,hsize,← Nat.add_mul]
 have:xs.length + m + (grownCap w (xs.length + m) cap e - (xs.length + m))=grownCap w (xs.length + m) cap e:=by omega
 rw [this];omega):p:=h
theorem bB (h:p:=by
 refine .inr ⟨_,_,rfl,fun j v I=>?_⟩
 have F:(⟨u.heap.size,0,none⟩:Addr).add j=⟨u.heap.size,j,none⟩:=qN
 rw [F,cell_of_row _ _ j cx.toArray e (0,0) (heap_alloc_new u _)]
 simpa using I):p:=h
theorem bC (h:p:=by
 have b3:(u.alloc (.cells cx.toArray e)).heap.size=u.heap.size + 1:=bC0
 refine ⟨v',w',hr,⟨(slice e r).wide ho.1 ?_,ho.2⟩,(Touch.of_below H).trans D⟩
 rintro k (hk | hk | hk)
 · exact .inl hk.1
 · exact .inr (.inl hk.1)
 exact .inr (.inr ⟨by omega,hk.2⟩)):p:=h
theorem bE (h:p:=by
 clear O af
 go_upto_region 10 with fail
 obtain ⟨ac,au⟩:=jc R
 obtain ⟨N,U⟩:=jc BK
 obtain ⟨aq,ar⟩:=kAo R
 go_wp2
 refine bodyPost_ret (v:=.agg #[.int .i64 kc,.slice a3 q.length c3]) mE rfl ⟨a3,c3,kc,q,rfl,?_,by omega,hc.touch ((kC _ _ _ _).trans (kC _ _ _ _)) bB9 wB,H.jJ ((kC _ _ _ _).trans (kC _ _ _ _)) bB9⟩
 exact ((kHp HQ.out bB9).touch (T:=fun k=>k=w.heap.size) ((kC _ _ _ _).trans (kC _ _ _ _)) sK).wide fF):p:=h
theorem bV (h:p:=by
 obtain ⟨ac,au⟩:=jc R
 obtain ⟨N,U⟩:=jc BK
 obtain ⟨aq,ar⟩:=kAo R
 go_wp2
 refine bodyPost_ret (v:=.agg #[.int .i64 kc,.slice ka l.length kp]) mE rfl ⟨ka,kp,kc,l,rfl,?_,by omega,hc.touch ((kC _ _ _ _).trans (kC _ _ _ _)) bB9 wB,H.jJ ((kC _ _ _ _).trans (kC _ _ _ _)) bB9⟩
 exact ((kHp (L.out.jY.wide (T:=fun k=>w.heap.size < k∧k < w4.heap.size∧k≠V.heap.size) fV) bB9).touch (T:=fun k=>k=w.heap.size) ((kC _ _ _ _).trans (kC _ _ _ _)) sK).wide fF):p:=h
theorem dD (h:p:=by
 simp only [Act.put,zA,zB,zC] at h_
 exact h_):p:=h
theorem dG (h:p:=by
 refine kX ?_
 have h_:=aa xb ba bc U ae ah ao ai am aj x ok b v E ax Z bk HB ci HQ N BB
 simp only [Act.put,zA,zB,zC] at h_
 exact h_):p:=h
theorem dH (h:p:=by
 refine J _ _ E ?_
 clear J K
 refine kX ?_
 have h_:=ap xb ba bc U b v E ax Z bk HB N BB
 simp only [Act.put,zA,zB,zC] at h_
 exact h_):p:=h
theorem dQ (h:p:=by
 refine J _ _ E ?_
 clear J K
 refine kX ?_
 have h_:=cq xb b v E ax Z N BB
 simp only [Act.put,zA,zB,zC] at h_
 exact h_):p:=h
theorem dR (h:p:=by
 go_wp2
 refine bodyPost_ret (v:=.tuple #[.agg #[.slice none 0 0],.bool false]) nC rfl ⟨none,0,false,[],rfl,kE.jf,by simp,yD yM.nil,?_⟩
 exact E2.setCell bC0 _):p:=h
theorem dS (h:p:=by
 obtain ⟨aq,ar⟩:=kAo R
 go_wp2
 refine bodyPost_ret (v:=.tuple #[.agg #[.slice none 0 0,.slice none 0 0],.bool false]) gV rfl ⟨[.slice none 0 0,.slice none 0 0],([],[]),false,rfl,?_,?_⟩
 · exact kE.ja (r:=yw) (q:=yw) (cs:=[.slice none 0 0]) (ds:=[.slice none 0 0]) (A:=fun _=>False) (B:=fun _=>False) kE.jf kE.jf (fun _ h=>h.elim) (fun _ h=>h.elim) (fun _ h _=>h)
 exact X.trans (Touch.below ((kC _ _ _ _).trans (kC _ _ _ _)) X.size wB)):p:=h
theorem dU (h:p:=by
 have ac:w7.cell? ⟨w.heap.size,0,none⟩=some (.slice none 0 0):=kF R rfl
 have au:w7.cell? ⟨w.heap.size,1,none⟩=some (.slice none 0 0):=kF R rfl
 obtain ⟨aq,ar⟩:=kAo R
 go_wp2
 refine bodyPost_ret (v:=.tuple #[.agg #[.slice none 0 0,.slice none 0 0],.bool false]) gV rfl ⟨[.slice none 0 0,.slice none 0 0],([],[]),false,rfl,?_,?_⟩
 · exact kE.ja (r:=yw) (q:=yw) (cs:=[.slice none 0 0]) (ds:=[.slice none 0 0]) (A:=fun _=>False) (B:=fun _=>False) kE.jf kE.jf (fun _ h=>h.elim) (fun _ h=>h.elim) (fun _ h _=>h)
 exact X.trans (Touch.below ((kC _ _ _ _).trans (kC _ _ _ _)) X.size wB)):p:=h
theorem dY (h:p:=by
 replace E:=(tQ E hb)
 refine J _ _ E ?_
 clear J K
 refine kX ?_
 have h_:=G ae ah ao ai am aj sg b v E HQ N BB
 simp only [Act.put,zA,zB,zC] at h_
 exact h_):p:=h
theorem dZ (h:p:=by
 replace E:=(tQ E hb)
 refine J _ _ E ?_
 clear J K
 refine kX ?_
 have h_:=L b v E N BB
 simp only [Act.put,zA,zB,zC] at h_
 exact h_):p:=h
theorem eB (h:p:=by
 replace E:=(tQ E hb)
 refine J _ _ E ?_
 clear J K
 refine kX ?_
 have h_:=T9 b v E N BB
 simp only [Act.put,zA,zB,zC] at h_
 exact h_):p:=h
theorem eD (h:p:=by
 obtain ⟨bx,b5,b8,bg,ch⟩:=jU BQ
 obtain ⟨ar,aq,cj,co,cv⟩:=zh BR
 go_wp2
 refine bodyPost_ret (v:=.tuple #[.agg #[.slice none 0 0,.slice none 0 0,.slice none 0 0,.int .i64 0,.int .i64 0],.bool false]) fQ rfl ⟨[.slice none 0 0,.slice none 0 0,.slice none 0 0,.int .i64 0,.int .i64 0],([],[],[],0,0),false,rfl,?_,?_,?_⟩
 · exact kVv
 · simp
 exact X.trans (Touch.below (((((kC _ _ _ _).trans (kC _ _ _ _)).trans (kC _ _ _ _)).trans (kC _ _ _ _)).trans (kC _ _ _ _)) X.size wB)):p:=h
theorem eF (h:p:=by
 refine kX ?_
 have h_:=b0 Z af L ap av n2 ae ah ao ai am aj x ok b v E ag al ci HQ N BB
 simp only [Act.put,zA,zB,zC] at h_
 exact h_):p:=h
theorem eG (h:p:=by
 replace E:=(tQ E hb)
 refine J _ _ E ?_
 clear J K
 refine kX ?_
 have h_:=ck Z af L ap av n2 b v E ag al N BB
 simp only [Act.put,zA,zB,zC] at h_
 exact h_):p:=h
theorem eH (h:p:=by
 replace E:=(tQ E hb)
 refine J _ _ E ?_
 clear J K
 refine kX ?_
 have h_:=d0 Z af L b v E ag N BB
 simp only [Act.put,zA,zB,zC] at h_
 exact h_):p:=h
theorem eO (h:p:=by
 go_wp2
 go_roundw
 case rel=>exact ⟨j + 1,ca,cc,cl,by go_num,by omega,yD vS,co,BT,yD (HC.out.wide rO),hc,by omega,X⟩
 simp [intOf];omega):p:=h
theorem eP (h:p:=by
 go_wp2
 refine bodyPost_ret (v:=.tuple #[.agg #[.slice none 0 0],.bool false]) nD rfl ⟨none,0,false,[],rfl,kE.jf,by simp,yD kCd.nil,?_⟩
 exact E2.setCell bC0 _):p:=h
theorem eQ (h:p:=by
 go_wp2
 refine bodyPost_ret (v:=.slice a n c) (by simp [results,results112,go_sem]) rfl ⟨a,n,c,s,rfl,HN.out,HL.out,L.out,hc,H⟩):p:=h
theorem eT (h:p:=by
 clear hQ
 replace hc:=hc.touch Y tT sZ
 replace H:=H.kBj Y (fun k q=>q.1)
 clear Y L HR
 go_wp2
 go_ret
 exact ⟨_,_,l2,rfl,c4.out.mono bB9,ag.out.jY,hc,H⟩):p:=h
theorem eU (h:p:=by
 obtain ⟨aq,ar,bh,bl,bu⟩:=zh R
 go_wp2
 refine bodyPost_ret (v:=.agg #[.slice ai y.1.length b2,.slice b5 y.2.1.length b8,.slice b3 y.2.2.1.length cd,.int .i64 y.2.2.2.1,.int .i64 y.2.2.2.2]) fP rfl ⟨[.slice ai y.1.length b2,.slice b5 y.2.1.length b8,.slice b3 y.2.2.1.length cd,.int .i64 y.2.2.2.1,.int .i64 y.2.2.2.2],y,rfl,?_,dh,hc.touch (((((kC _ _ _ _).trans (kC _ _ _ _)).trans (kC _ _ _ _)).trans (kC _ _ _ _)).trans (kC _ _ _ _)) bB9 wB,H.jJ (((((kC _ _ _ _).trans (kC _ _ _ _)).trans (kC _ _ _ _)).trans (kC _ _ _ _)).trans (kC _ _ _ _)) bB9⟩
 exact (HY.out.touch (T:=fun k=>k=w.heap.size + 2) (((((kC _ _ _ _).trans (kC _ _ _ _)).trans (kC _ _ _ _)).trans (kC _ _ _ _)).trans (kC _ _ _ _)) sK).wide (T:=jR w.heap.size _) fK):p:=h
theorem eX (h:p:=by
 replace HZ:=yD (HZ.out.touch Y nO)
 replace hc:=hc.touch Y bB9 wB
 replace E:=E.trans (Y.wide (fun k q=>.inr (q)))
 clear Y
 refine J _ _ E ?_
 clear J K
 refine kX ?_
 refine yR bB4 ?_
 have zS:=E.size
 replace R:=E.kD R bB9
 replace H:=H.jZ E wG
 clear E
 obtain ⟨ac,au,bi,bm,bv⟩:=jU R
 obtain ⟨be,bf,bc,bg,a9⟩:=jU BY
 obtain ⟨aq,ar,bh,bl,bu⟩:=zh R
 go_wp2
 refine bodyPost_ret (v:=.agg #[.slice dx z_.1.length dn,.slice du z_.2.1.length dc,.slice dv z_.2.2.1.length dw,.int .i64 z_.2.2.2.1,.int .i64 z_.2.2.2.2]) fP rfl ⟨[.slice dx z_.1.length dn,.slice du z_.2.1.length dc,.slice dv z_.2.2.1.length dw,.int .i64 z_.2.2.2.1,.int .i64 z_.2.2.2.2],z_,rfl,?_,d1,hc.touch (((((kC _ _ _ _).trans (kC _ _ _ _)).trans (kC _ _ _ _)).trans (kC _ _ _ _)).trans (kC _ _ _ _)) bB9 wB,H.jJ (((((kC _ _ _ _).trans (kC _ _ _ _)).trans (kC _ _ _ _)).trans (kC _ _ _ _)).trans (kC _ _ _ _)) bB9⟩
 exact (HZ.out.touch (T:=fun k=>k=w.heap.size + 2) (((((kC _ _ _ _).trans (kC _ _ _ _)).trans (kC _ _ _ _)).trans (kC _ _ _ _)).trans (kC _ _ _ _)) sK).wide (T:=jR w.heap.size _) fK):p:=h
theorem eY (h:p:=by
 try simp only [Act.put,zA,zB,zC]
 have h_:=d8 k na nc z b v E hk L HN HZ N BB
 simp only [Act.put,zA,zB,zC] at h_
 exact h_):p:=h
theorem eZ (h:p:=by
 go_wp2
 go_ret
 exact ⟨_,rfl,by omega,by omega,hc,H⟩):p:=h
theorem fB (h:p:=by
 refine kX ?_
 have h_:=ag x ba bc U X y ka kc ks z b v E ax Z bk HB al HK bb az hw N BB
 simp only [Act.put,zA,zB,zC] at h_
 exact h_):p:=h
theorem gB (h:p:=by
 replace E:=And.intro (E.1.trans (Touch.of_below hb)) (E.2.below hb)
 refine J _ _ E ?_
 clear J K
 refine kX ?_
 have h_:=a4 x ba bc U X y ka kc ks b v E ax Z bk HB al HK N BB
 simp only [Act.put,zA,zB,zC] at h_
 exact h_):p:=h
theorem gL (h:p:=by
 refine J _ _ E ?_
 clear J K
 refine kX ?_
 have h_:=a6 x ba bc U X y b v E ax Z bk HB al N BB
 simp only [Act.put,zA,zB,zC] at h_
 exact h_):p:=h
theorem gN (h:p:=by
 replace E:=And.intro (E.1.trans (Touch.of_below hb)) (E.2.below hb)
 refine J _ _ E ?_
 clear J K
 refine kX ?_
 have h_:=a5 x ba bc U X b v E ax Z bk HB h6 HL N BB
 simp only [Act.put,zA,zB,zC] at h_
 exact h_):p:=h
theorem gP (h:p:=by
 refine J _ _ E ?_
 clear J K
 refine kX ?_
 have h_:=bz x ba bc U X v E ax Z bk HB h6 HL
 simp only [Act.put,zA,zB,zC] at h_
 exact h_):p:=h
theorem iA (h:p:=by
 refine J _ _ E ?_
 clear J K
 refine kX ?_
 have h_:=bq x ba bc U b v E ax Z bk HB N BB
 simp only [Act.put,zA,zB,zC] at h_
 exact h_):p:=h
theorem iB (h:p:=by
 replace E:=And.intro (E.1.trans (Touch.of_below hb)) (E.2.below hb)
 refine J _ _ E ?_
 clear J K
 refine kX ?_
 have h_:=bf x X b v E ax Z h6 HL N BB
 simp only [Act.put,zA,zB,zC] at h_
 exact h_):p:=h
theorem iC (h:p:=by
 refine J _ _ E ?_
 clear J K
 refine kX ?_
 have h_:=cc x X v E ax Z h6 HL
 simp only [Act.put,zA,zB,zC] at h_
 exact h_):p:=h
theorem iD (h:p:=by
 refine J _ _ E ?_
 clear J K
 refine kX ?_
 have h_:=b1 x b v E ax Z N BB
 simp only [Act.put,zA,zB,zC] at h_
 exact h_):p:=h
theorem iE (h:p:=by
 replace E:=And.intro (E.1.trans (Touch.of_below hb)) (E.2.below hb)
 refine J _ _ E ?_
 clear J K
 refine kX ?_
 have h_:=b2 X b v E h6 HL N BB
 simp only [Act.put,zA,zB,zC] at h_
 exact h_):p:=h
theorem iF (h:p:=by
 intro v2 V hown D hz
 have L:=yD hown
 obtain ⟨a2,c2,hv⟩:=hown.zL
 obtain rfl:=hv
 have G:Below w.heap.size w V:=Below.trans bI D
 clear hown O0 D
 go_wp2
 go_ret
 exact ⟨_,rfl,by simpa using L.out,G⟩):p:=h
theorem iG (h:p:=by
 have h1:=congrArg List.length HP.out
 have h2:=kRt (n:=N) bB9
 simp only [List.length_append] at h1
 omega):p:=h
theorem iH (h:p:=by
 have HB:=yD (hi_byte hlt)
 have HV:=yD (kRj hlt)
 go_wp2_with (at_builtin;refine kE.jK rfl _ _ 22 rfl (r:=kE.byte) (e:=5) underlying22 kBl rfl bB8 bB8 (B:=w.heap.size) L.out bC1 bC1 rfl (kIf (x:=UInt8.ofNat m) mH) rfl (fun _ _ h=>h) rE (fun _ h=>h.elim) vL bB5 ?_)
 intro v3 w3 F H a7
 have ae:=yD F
 obtain ⟨a3,n3,c3,ac,ai⟩:=F.parts
 obtain rfl:=ac
 have G:=D.trans H
 clear F H
 go_wp2
 go_ret
 exact ⟨_,rfl,ae.out.cast gG,G⟩):p:=h
theorem iI (h:p:=by
 have HV:=yD (kWc hlt)
 have ak:(127:Int) < m:=bB9
 go_wp2_with (at_builtin;refine kE.jK rfl _ _ 22 rfl (r:=kE.byte) (e:=5) underlying22 kBl rfl bB8 bB8 (B:=w.heap.size) L.out bC1 bC1 rfl (kIf (x:=vlo m) nU) rfl (fun _ _ h=>h) rE (fun _ h=>h.elim) vL bB5 ?_)
 intro v3 w3 F H a7
 have ae:=yD F
 obtain ⟨a3,n3,c3,ac,ai⟩:=F.parts
 obtain rfl:=ac
 have G:=D.trans H
 clear F H
 go_wp2
 go_roundw
 case rel=>exact ⟨m / 128,pre++[vlo m],by omega,by go_num,yD nS,yD (ae.out.cast rW),G⟩
 simp [intOf];omega):p:=h
theorem iJ (h:p:=by
 rintro e V ⟨v2,rfl,hown,G⟩
 obtain ⟨a2,n2,c2,hv,al⟩:=hown.parts
 obtain rfl:=hv
 have L:=yD hown
 have N:(b++kBx s.length).length≤20000000:=mI
 clear hown
 go_wp2_with (at_builtin;refine kE.yF rfl _ _ 22 rfl (r:=kE.byte) (e:=5) underlying22 kBl rfl bB8 bB8 kE.kCh (B:=w.heap.size) L.out bC1 bC1 (E.out.below G) (fun k hk=>⟨hk.1,hk.2⟩) G.size bB9 ?_)
 intro v3 w3 F H a7
 have ae:=yD F
 obtain ⟨a3,n3,c3,ac,ai⟩:=F.parts
 obtain rfl:=ac
 have D:=G.trans H
 clear F H
 go_wp2
 go_ret
 exact ⟨_,rfl,ae.out.cast rW,D⟩):p:=h
theorem iK (h:p:=by
 have h:=kE.yV (e:=5) (r:=kE.byte) (w:=w.alloc (.cells #[.slice an n.length aj] 41)) (cs:=[]) (xs:=[]) (T:=fun _=>False) (S:=fun k=>k=w.heap.size + 1) bC0 bC0 rfl (fun _ h=>h.elim) bC0
 simpa using h):p:=h
theorem iL (h:p:=by
 rintro e w5 ⟨v5,rfl,hown,ah⟩
 obtain ⟨a5,n5,c5,c3,c1⟩:=hown.parts
 obtain rfl:=c3
 have ao:=D.trans ((O.mono bB9).trans (ah.mono (by have:=O.size;omega)))
 have ag:Hid (kE.ku 5 kE.byte w5 (.slice a5 n5 c5) (b++kBx n.length++kGv (n.take (k + 1))) (jR (w.heap.size + 1) w5.heap.size)):=yD ((hown.cast mQ).wide nK)
 clear hown ah L a6 A0 D R O K0 EW
 go_wp2
 go_roundw
 case rel=>exact ⟨k + 1,by omega,by go_num,ag,ao⟩
 simp [intOf];omega):p:=h
theorem iM (h:p:=by
 have hz:((a.length:Int) != b.length)=true:=bB5
 have H:(a.length != b.length)=true:=wI
 go_wp2
 go_ret
 exact ⟨kR U.out.symm,bR⟩):p:=h
theorem iN (h:p:=by
 go_wp2
 go_ret
 exact ⟨kR U.out.symm,G⟩):p:=h
theorem iO (h:p:=by
 clear HD HX
 go_wp2
 go_roundw
 case rel=>exact ⟨k + 1,by omega,by go_num,U,G⟩
 simp [intOf];omega):p:=h
theorem iP (h:p:=by
 subst hz
 have E:=yD (show s=⟨(kHj N).toArray⟩ by
   have h:=HP.out
   rw [kTo,List.nil_append] at h
   apply ByteArray.ext
   rw [← h])
 go_wp2
 go_ret
 exact ⟨fZ,D⟩):p:=h
theorem iQ (h:p:=by
 have h1:=congrArg List.length HP.out
 have h2:=kKl 19 (u:=N) bB9
 rw [G.out] at h1
 simp only [List.length_append,List.length_cons,List.length_nil] at h1
 have h3:s.data.toList.length=s.size:=bC0
 omega):p:=h
theorem iR (h:p:=by
 go_wp2_with fail
 go_roundw
 case rel=>exact ⟨u / 10,_,by omega,by go_num,rfl,qL,HX,(D.alloc D.size _)⟩
 simp [intOf];omega):p:=h
theorem iT (h:p:=by
 have U:=yD (idxOf_miss hlt HN.out)
 go_wp2
 go_ret
 exact ⟨jW U.out.symm,(tQ Z D)⟩):p:=h
theorem iU (h:p:=by
 rintro e w1 ⟨rfl,O⟩
 have G:Below w.heap.size w w1:=(tQ Z O)
 clear O
 go_wp2
 go_ret
 exact ⟨rfl,G⟩):p:=h
theorem iV (h:p:=by
 intro k hk
 have hs:=h2.size
 rcases hk with hk | hk | hk
 · have:=hSB k hk;exact ⟨this.1,by omega⟩
 · exact hk.elim
 exact ⟨by omega,hk.2⟩):p:=h
theorem iW (h:p:=by
 intro q u hq
 have bf:=(List.getElem?_eq_some_iff.1 hq).1
 rw [cell_of_row w b _ _ e (0,0) h1]
 simp only [List.getElem?_toArray]
 rw [List.getElem?_append_right tH,List.getElem?_append_right sF,List.append_assoc,List.getElem?_append_left sF]
 rw [← hq];congr 1;rw [N,h3,Nat.add_mul];omega):p:=h
theorem iX (h:p:=by
 clear ay ax bl b6 HG
 obtain ⟨R,L,ar,aq,U,ap,O,ah,ae⟩:=kBi BA
 have LF:=LB.out
 go_wp2
 go_roundw
 case rel=>exact ⟨j + 1,rfl,by go_num,HJ.out,LF⟩
 have:=HJ.out;simp [intOf];omega):p:=h
theorem iY (h:p:=by
 have U:=yD (idxOf_miss hlt HN.out)
 go_wp2
 go_ret
 exact ⟨jW U.out.symm,D⟩):p:=h
theorem iZ (h:p:=by
 rintro e w1 ⟨rfl,O⟩
 go_wp2
 go_ret
 exact ⟨rfl,O⟩):p:=h
theorem l6 (h:p:=by
 have C:=bf.out wr D k hlt _ hr
 by_cases hp:p x[k]=true
 · rw [hp] at C
   have HC:=yD C;clear C
   have U:=yD (idxOf_hit hlt hp HN.out);clear hp
   go_wp2_with fail
   refine HC.out.mono ?_
   rintro e w1 ⟨rfl,O⟩
   go_wp2
   go_ret
   exact ⟨jW U.out.symm,(tQ D O)⟩
 have hp:p x[k]=false:=wJ
 rw [hp] at C
 have HC:=yD C;clear C
 have U:=yD (kAm hlt hp HN.out);clear hp
 go_wp2_with fail
 refine HC.out.mono ?_
 rintro e w1 ⟨rfl,O⟩
 go_wp2
 go_roundw
 case rel=>exact ⟨k + 1,by omega,by go_num,U.out,(tQ D O)⟩
 simp [intOf];omega):p:=h
theorem l7 (h:p:=by
 go_wp2
 go_loopw [8] (fun i wr=>∃ k:Nat,k≤x.length∧i=.int .i64 k∧(∀ j,(h:j < k)→(h2:j < x.length)→p x[j]=false)∧Below w.heap.size w wr) (fun i _=>x.length - (intOf i).toNat)
 case atStart=>exact ⟨0,Nat.zero_le _,rfl,fun _ h=>by omega,bR⟩
 obtain ⟨k,hk,rfl,X,D⟩:=hrel
 have HN:=yD X;clear X
 by_cases hlt:k < x.length
 · obtain ⟨ba,ah,rfl,c0,c1,c2,hr,A0,A1,A2⟩:=kE.kDv (ha.below D) hlt rfl
   have C:=bf.out wr D k hlt _ hr
   by_cases hp:p x[k]=true
   · rw [hp] at C
     have HC:=yD C;clear C
     have U:=yD (idxOf_hit hlt hp HN.out);clear hp
     go_wp2_with fail
     refine HC.out.mono ?_
     rintro e w1 ⟨rfl,O⟩
     go_wp2
     go_ret
     exact ⟨jW U.out.symm,(tQ D O)⟩
   have hp:p x[k]=false:=wJ
   rw [hp] at C
   have HC:=yD C;clear C
   have U:=yD (kAm hlt hp HN.out);clear hp
   go_wp2_with fail
   refine HC.out.mono ?_
   rintro e w1 ⟨rfl,O⟩
   go_wp2
   go_roundw
   case rel=>exact ⟨k + 1,by omega,by go_num,U.out,(tQ D O)⟩
   simp [intOf];omega
 have U:=yD (idxOf_miss hlt HN.out)
 go_wp2
 go_ret
 exact ⟨jW U.out.symm,D⟩):p:=h
theorem l8 (h:p:=by
 go_wp2
 go_loopw [8] (fun i wr=>∃ k:Nat,k≤x.length∧i=.int .i64 k∧(∀ j,(h:j < k)→(h2:j < x.length)→p x[j]=false)∧Below w.heap.size w wr) (fun i _=>x.length - (intOf i).toNat)
 case atStart=>exact ⟨0,Nat.zero_le _,rfl,fun _ h=>by omega,bR⟩
 obtain ⟨k,hk,rfl,X,D⟩:=hrel
 have HN:=yD X;clear X
 by_cases hlt:k < x.length
 · obtain ⟨ba,ah,rfl,c0,c1,hr,A0,A1⟩:=kE.get2 (ha.below D) hlt rfl
   have C:=bf.out wr D k hlt _ hr
   by_cases hp:p x[k]=true
   · rw [hp] at C
     have HC:=yD C;clear C
     have U:=yD (idxOf_hit hlt hp HN.out);clear hp
     go_wp2_with fail
     refine HC.out.mono ?_
     rintro e w1 ⟨rfl,O⟩
     go_wp2
     go_ret
     exact ⟨jW U.out.symm,(tQ D O)⟩
   have hp:p x[k]=false:=wJ
   rw [hp] at C
   have HC:=yD C;clear C
   have U:=yD (kAm hlt hp HN.out);clear hp
   go_wp2_with fail
   refine HC.out.mono ?_
   rintro e w1 ⟨rfl,O⟩
   go_wp2
   go_roundw
   case rel=>exact ⟨k + 1,by omega,by go_num,U.out,(tQ D O)⟩
   simp [intOf];omega
 have U:=yD (idxOf_miss hlt HN.out)
 go_wp2
 go_ret
 exact ⟨jW U.out.symm,D⟩):p:=h
theorem l9 (h:p:=by
 clear ay ab
 go_wp2
 go_roundw
 case rel=>exact ⟨k + 1,by omega,by go_num,yD (L.out.cast U.out.symm),ak⟩
 simp [intOf];omega):p:=h
theorem lC (h:p:=by
 go_wp2
 go_ret
 exact ⟨jW U.out.symm,rfl⟩):p:=h
theorem lD (h:p:=by
 unfold kAd
 rw [List.take_succ_eq_append_getElem h,List.filter_append,List.map_append]
 simp [hf]):p:=h
theorem lF (h:p:=by
 go_wp2
 refine bodyPost_ret (v:=.tuple #[.slice a8 n8 c8,.bool false]) qC rfl ?_
 exact ⟨_,by rw [M.out.1],(bf.out.cast M.out.2.symm).wide mR,E⟩):p:=h
theorem lG (h:p:=by
 go_wp2
 refine bodyPost_ret (v:=.tuple #[.slice oa on oc,.bool true]) qC rfl ?_
 exact ⟨_,by rw [M.out.1],(L.out.cast M.out.2.symm).wide rF,ER⟩):p:=h
theorem lH (h:p:=by
 go_wp2_with fail
 refine (kBr (HL.out.below ER)).mono ?_
 rintro e w9 ⟨v9,rfl,O9,O⟩
 obtain ⟨a9,n9,c9,bb,ac⟩:=O9.parts
 obtain rfl:=bb
 have E9:=ER.trans (O.mono (ER).size)
 have z9:=(ER).size
 have a2:=O.size
 go_wp2
 refine bodyPost_ret (v:=.tuple #[.slice a9 n9 c9,.bool false]) qC rfl ?_
 exact ⟨_,by rw [M.out.1],(O9.cast M.out.2.symm).wide rF,E9⟩):p:=h
theorem lI (h:p:=by
 go_wp2
 go_roundw
 case rel=>exact ⟨k + 1,_,by omega,by omega,by go_num,MG,by omega,L,D⟩
 simp [intOf];omega):p:=h
theorem lJ (h:p:=by
 obtain ⟨i,hi,rfl⟩:=List.mem_take_iff_getElem.1 hy
 exact List.pairwise_iff_getElem.1 h2 i k bB9 hk bB9):p:=h
theorem lK (h:p:=by
 have U:=yD (isLet_no h2)
 have hz:((s.size:Int)==2)=false:=bB5
 go_wp2
 go_ret
 exact ⟨kR U.out.symm,rfl⟩):p:=h
theorem lL (h:p:=by
 have U:=yD (kVr h0)
 have D:¬ ((s[0].toNat:Int)=63):=vQ
 have E:((s[0].toNat:Int)==63)=false:=bB0
 clear g1 r1
 go_wp2
 go_ret
 exact ⟨kR U.out.symm,rfl⟩):p:=h
theorem lM (h:p:=by
 have U:=yD (kVg hk)
 go_wp2
 go_ret
 exact ⟨_,rfl,(L.out.cast U.out.symm).own (by rw [U.out];unfold Big;omega),E2⟩):p:=h
theorem lN (h:p:=by
 go_wp2
 go_ret
 have bt:=X.size
 have bw:=E.size
 refine ⟨_,rfl,((ax.wide (T:=jR w.heap.size u4.heap.size) ?_).cast U.out.symm).own cZ,(tQ E2 R)⟩
 rintro j (I | I)
 · exact ⟨I.1,by have:=I.2;have:=R.size;omega⟩
 exact ⟨by omega,I.2⟩):p:=h
theorem lQ (h:p:=by
 clear hv HD HX
 go_wp2
 go_roundw
 case rel=>exact ⟨k + 1,by omega,by go_num,U,D⟩
 simp [intOf];omega):p:=h
theorem lS (h:p:=by
 have HU:Hid (allows n m r=false):=yD (by rw [U.out,hv];rfl)
 clear hv
 go_wp2
 go_ret
 exact ⟨kR HU.out.symm,E3⟩):p:=h
theorem lT (h:p:=by
 have EF:=(tQ Z az)
 by_cases ah:24 < q.length
 · obtain ⟨_,b,off,rfl,dg,bk⟩:=kE.kHv ab.out bB9
   have aj:=(kE.kCq ab.out.raw)
   have Y:(24:Int) < q.length:=bB9
   have ai:(1:Int)≤q.length:=bB9
   have ag:¬ D=1:=bB9
   have af:(q.length:Int)≤D:=bB9
   have an:D≤9223372036854775807:=aj.2
   have HD:=yD (kE.kOc ab.out (k:=1) bB9)
   have O:Hid (zF l n x=q.drop 1):=yD (by unfold zF;rw [e3.out,if_pos ah])
   clear ab e3
   go_wp2
   go_ret
   refine ⟨_,rfl,?_,EF⟩
   rw [O.out]
   exact HD.out
 have Y:¬ (24:Int) < q.length:=bB9
 have O:Hid (zF l n x=q):=yD (by unfold zF;rw [e3.out,if_neg ah])
 clear e3
 go_wp2
 go_ret
 refine ⟨_,rfl,?_,EF⟩
 rw [O.out]
 exact ab.out):p:=h
theorem lU (h:p:=by
 clear O0
 obtain ⟨k,hk,rfl,L,D⟩:=hrel
 obtain ⟨oa,on,oc,ho,bl⟩:=L.out.parts;obtain rfl:=ho
 by_cases hlt:k < l.length
 · obtain ⟨ba,ah,rfl,c0,hr,A0⟩:=kE.kBo (hl.below D) hlt rfl
   have he:=kE.kOg hr
   obtain rfl:c0=_:=by simpa using he
   clear he hr
   have E:=yD (kQb hlt)
   generalize l[k]=c at *
   have N:=c.toNat_lt
   have J:=D.size
   have aa:=kQc l k
   have HC:Hid ((c.toNat:Int)=bInt c):=yD rfl
   go_wp2_with (at_builtin;refine kE.jK rfl _ _ 48 rfl (r:=kE.int) (e:=3) underlying48 zu rfl bB8 bB8 (B:=w.heap.size) L.out bC1 bC1 rfl (kE.ky (n:=bInt c) (by unfold bInt;have:=c.toNat_lt;omega) _) rfl (fun _ _ h=>h) rE (fun _ h=>h.elim) bB9 bB5 ?_)
   intro v2 V G ab an
   have ag:=yD (G.cast E.out.symm)
   obtain ⟨df,H,ci,b5,F⟩:=G.parts;obtain rfl:=b5
   have Y:=D.trans ab
   clear G ab L D
   go_wp2
   go_roundw
   case rel=>exact ⟨k + 1,by omega,by go_num,ag,Y⟩
   simp [intOf];omega
 have U:=yD (kSc hlt)
 go_wp2
 go_ret
 exact ⟨_,rfl,L.out.cast U.out,D⟩):p:=h
theorem lV (h:p:=by
 clear OA
 replace HV:=HV.below hb
 replace L:=L.below hb
 replace E:=(tQ E hb)
 refine J _ _ E ?_
 clear J K hb
 refine kX ?_
 refine kY (k:=6) rfl bB4 rfl (fun K J=>?_)
 have bn:=E.size
 obtain ⟨v_,t4,hr,D,O,az,ah⟩:=kE.yh (P:=prog) (t:=48) (ty:=48) (r:=kE.int) (e:=3) (w:=t3) (B:=N.heap.size) underlying48 zu rfl bB8 bB8 kE.jl HV (OB.own vV).rd dN E.size bS
 refine kE.jP _ _ _ rfl bC1 bC1 hr ?_
 obtain ⟨ba,am,fi,aj,ab⟩:=D.parts
 obtain rfl:=aj
 replace L:=L.keep bM
 replace E:=E.trans O
 clear hr O ah HV OB
 have U:=D
 clear D
 refine J _ _ E ?_
 clear J K bn
 refine kX ?_
 refine kY (k:=10) rfl bB4 rfl (fun K J=>?_)
 have bn:=E.size
 obtain ⟨v_,t5,hr,D,O,a1,ah⟩:=kE.yh (P:=prog) (t:=48) (ty:=48) (r:=kE.int) (e:=3) (w:=t4) (B:=N.heap.size) underlying48 zu rfl bB8 bB8 kE.jl U (L.own sS).rd dN E.size bS
 refine kE.jP _ _ _ rfl bC1 bC1 hr ?_
 obtain ⟨bg,ak,fl,aj,aa⟩:=D.parts
 obtain rfl:=aj
 replace E:=E.trans O
 clear hr O ah U L
 have V:=D
 clear D
 refine J _ _ E ?_
 clear J K bn
 refine kX ?_
 refine jB 11 ?_
 refine kX ?_
 refine yR bB4 ?_
 go_wp2
 go_ret
 exact ⟨_,rfl,(V.cast bB3).wide rF,(tQ Z E)⟩):p:=h
theorem lW (h:p:=by
 replace L:=L.below Y
 replace E:=(tQ E Y)
 refine J _ _ E ?_
 clear J K Y
 clear bn
 refine kX ?_
 refine kY (k:=12) rfl bB4 rfl (fun K J=>?_)
 go_simp
 refine (kAc RT bB5 bB5).mono ?_
 rintro e t7 ⟨bq,rfl,ag,hb⟩
 obtain ⟨bj,bo,bm,an,a7⟩:=ag.parts
 obtain rfl:=an
 have bd:=hb.size
 have OT:=ag.wide (T:=jR t6.heap.size t7.heap.size) nA
 clear ag
 clear RT
 replace L:=L.below hb
 replace E:=(tQ E hb)
 refine J _ _ E ?_
 clear J K hb
 refine kX ?_
 refine kY (k:=16) rfl bB4 rfl (fun K J=>?_)
 have bn:=E.size
 obtain ⟨v_,t8,hr,D,O,bk,ah⟩:=kE.yh (P:=prog) (t:=48) (ty:=48) (r:=kE.int) (e:=3) (w:=t7) (B:=N.heap.size) underlying48 zu rfl bB8 bB8 kE.jl OT (L.own sS).rd dN E.size bS
 refine kE.jP _ _ _ rfl bC1 bC1 hr ?_
 obtain ⟨dd,bl,bp,aj,a4⟩:=D.parts
 obtain rfl:=aj
 replace E:=E.trans O
 clear hr O ah OT L
 have HV:=D
 clear D
 refine J _ _ E ?_
 clear J K bn
 refine kX ?_
 refine jB 17 ?_
 refine kX ?_
 refine yR bB4 ?_
 go_wp2
 go_ret
 exact ⟨_,rfl,(HV.cast vW).wide rF,(tQ Z E)⟩):p:=h
theorem lX (h:p:=by
 refine wpOp_mono go ?_
 unfold wpOp
 simp only [h0]
 exact h):p:=h
theorem lY (h:p:=by
 refine ⟨ab,?_⟩
 by_cases G:j=i
 · subst G;exact hy.wpOp hi hS ⟨hS,H⟩
 · have:=Z _ _ _ H j (ready_mono I G)
   omega):p:=h
theorem lZ (h:p:=by
 refine ⟨ab,?_⟩
 by_cases G:j=i
 · subst G;exact hy.wpOp hi hS ⟨hS,H⟩
 · have h1:=(H.2 j (ready_mono I G)).2
   obtain ⟨Y,N,O,J⟩:=mem_ready.1 I
   have ac:∀ e∈N.after,Region.binds md e=true→e.on≠i:=fun e he hb ae=>by
     have h1:=J e he hb
     rw [ae,getD_both F] at h1
     cases h1
   have h2:=wpOp_putIf O (U j N O G Y ac) (fun cs b=>D i V cs b hi) (fun cs b=>D j N cs b O) hQ hy h1
   have W:∀ k ok,ops[k]?=some ok→k≠i→(listed.setIfInBounds j true).getD k true=false →
       (∀ e∈ok.after,Region.binds md e=true→e.on≠i)→V.apart ops ok=true:=fun k ok hk aj F X=>by
     refine U k ok hk aj ?_ X
     by_cases hjk:j=k
     · subst hjk;exact Y
     · rw [getD_set_ne true hjk] at F;exact F
   refine wpOp_mono (fun a' w' h3=>⟨h3.2.1,ih (listed.setIfInBounds j true) a' w' (inv.set I ab) W (ready_mono hr (Ne.symm G)) h3.1 h3.2.1 ?_⟩) h2
   rw [Array.setIfInBounds_comm _ _ G]
   exact h3.2.2):p:=h
theorem mD (h:p:=by
 have:l[i]?=some l.toArray[i]:=by simp
 simp only [jD,this]):p:=h
theorem mJ (h:p:=by
 subst U
 have h1:=List.all_eq_true.1 hs i (List.mem_range.2 hi)
 rw [aa,Bool.false_or] at h1
 obtain ⟨j,I,bq⟩:=List.any_eq_true.1 h1
 simp only [Bool.and_eq_true,decide_eq_true_eq,Bool.not_eq_true'] at bq
 obtain ⟨N,O,e,he,hb,ay⟩:=Region.waitsFor_spec bq.2.2
 have Z:j≤t:=rQ
 by_cases R:j=t
 · subst R
   have:N=V:=Option.some.inj (O.symm.trans D)
   subst this
   have h2:=J e he hb
   rw [ay,getD_both F] at h2
   cases h2
 · cases hl:listed.getD j false with
   | true =>
     have h2:=inv.closed j N O hl e he hb
     rw [ay,getD_both F] at h2
     cases h2
   | false =>
     have H:j < listed.size:=vK
     exact ih (t - j) bB9 j rfl bB9 bq.2.1 (getD_in H hl) t nL hr):p:=h
theorem mV (h:p:=by
 obtain ⟨j,I,bq⟩:=List.any_eq_true.1 h1
 simp only [Bool.and_eq_true,decide_eq_true_eq] at bq
 obtain ⟨Y,L,e,he,hb,ay⟩:=Region.waitsFor_spec bq.2
 have:Y=V:=Option.some.inj (L.symm.trans D)
 subst this
 have R:j < t:=bA6
 have h2:=J e he hb
 rw [ay,getD_both (inv.tail j bB9 bB9)] at h2
 cases h2):p:=h
theorem o5 (h:p:=by
 simp only [kDb,Bool.and_eq_true] at hB
 simp only [jD,List.map_nil] at h
 have h:S2 w∧kCs P l.toArray S2 Q k (jD l q2) (q2.map (·.2)) a w:=h
 exact ⟨hB.1,hB.2,h.1,k,h.2⟩):p:=h
theorem o6 (h:p:=by
 unfold tree at h
 refine wp_region_held (S:=S) hm ?_
 have e:(Array.replicate l.toArray.size false)=(List.replicate l.length false).toArray:=bC0
 rw [e,show l.toArray.size=l.length by simp]
 exact h):p:=h
theorem o7 (h:p:=by
 rintro e w3 ⟨v3,rfl,O3,Y⟩
 obtain ⟨a3,n3,c3,ac,ai⟩:=O3.parts;obtain rfl:=ac
 have E3:Below w.heap.size w w3:=E1.trans (Below.trans cK (Y.mono (by have:=E1.size;simp;omega)))
 have ae:=yD (O3.wide (T:=jR w.heap.size w3.heap.size) fJ)
 clear O3 Y RD X
 go_wp2
 go_ret
 exact ⟨_,rfl,ae.out.cast U.out.symm,E3⟩):p:=h
theorem o8 (h:p:=by
 obtain ⟨_,_,rfl,ac,a4⟩:=kE.jm h
 have ar:=kU ac
 obtain ⟨_,rfl,D⟩:=ar
 obtain ⟨_,_,rfl,ay,dg⟩:=kE.jm a4
 obtain ⟨rfl,ai⟩:=kE.yz ay
 obtain ⟨rfl,a1⟩:=kE.yz dg
 exact ⟨_,rfl,ac,D,ai,a1⟩):p:=h
theorem o9 (h:p:=by
 obtain ⟨c0,d0,A0,B0,rfl,p0,q0,L,J,I⟩:=h
 obtain ⟨c1,W,A1,B1,rfl,p1,q1,hA1,F,hd1⟩:=q0
 obtain ⟨rfl,_⟩:=q1
 have l0:=kE.len _ p0
 have l1:=kE.len _ p1
 change _=1 at l0;change _=1 at l1
 have e:((c0++(c1++[.int .i64 x.2.2])):List Value).set 2 (.int .i64 v)=(c0++(c1++[.int .i64 v])):=by
  obtain ⟨D,rfl⟩:∃ D,c0=[D]:=pG
  obtain ⟨E,rfl⟩:∃ E,c1=[E]:=pJ
  rfl
 rw [e]
 exact ⟨_,_,A0,B0,rfl,p0,⟨_,_,A1,B1,rfl,p1,⟨rfl,hv⟩,hA1,F,hd1⟩,L,J,I⟩):p:=h
theorem oC (h:p:=by
 obtain ⟨_,_,rfl,ac,a4⟩:=kE.jm h
 have ar:=kU ac
 obtain ⟨_,rfl,D⟩:=ar
 obtain ⟨rfl,ai⟩:=kE.yz a4
 exact ⟨_,rfl,ac,D,ai⟩):p:=h
theorem oD (h:p:=by
 go_wp2
 go_ret
 exact ⟨kR fH,D⟩):p:=h
theorem oF (h:p:=by
 have bt:=X.size
 have bw:=E.size
 have au:=yD ax
 clear ax
 go_wp2
 go_ret
 exact ⟨_,rfl,au.out.wide gI,R⟩):p:=h
theorem oG (h:p:=by
 refine kX ?_
 refine kY (k:=10) rfl bB4 rfl (fun K J=>?_)
 have bn:=E.size
 obtain ⟨v_,t5,hr,D,O,a1,ah⟩:=kE.yh (P:=prog) (t:=48) (ty:=48) (r:=kE.int) (e:=3) (w:=t4) (B:=N.heap.size) underlying48 zu rfl bB8 bB8 kE.jl U (L.own sS).rd dN E.size bS
 refine kE.jP _ _ _ rfl bC1 bC1 hr ?_
 obtain ⟨bg,ak,fl,aj,aa⟩:=D.parts
 obtain rfl:=aj
 replace E:=E.trans O
 clear hr O ah U L
 have V:=D
 clear D
 refine J _ _ E ?_
 clear J K bn
 refine kX ?_
 refine jB 11 ?_
 refine kX ?_
 refine yR bB4 ?_
 go_wp2
 go_ret
 exact ⟨_,rfl,(V.cast bB3).wide rF,(tQ Z E)⟩):p:=h
theorem oH (h:p:=by
 replace E:=(tQ E Y)
 refine J _ _ E ?_
 clear J K Y
 clear bn
 refine kX ?_
 refine kY (k:=4) rfl bB4 rfl (fun K J=>?_)
 go_simp
 refine (kCo X (HK.out.below (tQ Z E))).mono ?_
 rintro e t2 ⟨bw,rfl,al,hb⟩
 obtain ⟨bu,bz,bv,aq,be⟩:=al.parts
 obtain rfl:=aq
 have a9:=hb.size
 have OA:=al.wide (T:=jR t1.heap.size t2.heap.size) nA
 clear al
 clear X
 replace HV:=HV.below hb
 replace L:=L.below hb
 replace E:=(tQ E hb)
 refine J _ _ E ?_
 clear J K hb
 refine kX ?_
 refine kY (k:=5) rfl bB4 rfl (fun K J=>?_)
 go_simp
 refine (zx (OA.own vV).rd.1 bB9).mono ?_
 rintro e t3 ⟨br,rfl,af,hb⟩
 obtain ⟨F,G,R,ao,a6⟩:=af.parts
 obtain rfl:=ao
 have a2:=hb.size
 have OB:=af.wide (T:=jR t2.heap.size t3.heap.size) nA
 clear af
 exact lV):p:=h
theorem oI (h:p:=by
 refine kX ?_
 refine kY (k:=16) rfl bB4 rfl (fun K J=>?_)
 have bn:=E.size
 obtain ⟨v_,t8,hr,D,O,bk,ah⟩:=kE.yh (P:=prog) (t:=48) (ty:=48) (r:=kE.int) (e:=3) (w:=t7) (B:=N.heap.size) underlying48 zu rfl bB8 bB8 kE.jl OT (L.own sS).rd dN E.size bS
 refine kE.jP _ _ _ rfl bC1 bC1 hr ?_
 obtain ⟨dd,bl,bp,aj,a4⟩:=D.parts
 obtain rfl:=aj
 replace E:=E.trans O
 clear hr O ah OT L
 have HV:=D
 clear D
 refine J _ _ E ?_
 clear J K bn
 refine kX ?_
 refine jB 17 ?_
 refine kX ?_
 refine yR bB4 ?_
 go_wp2
 go_ret
 exact ⟨_,rfl,(HV.cast vW).wide rF,(tQ Z E)⟩):p:=h
theorem oJ (h:p:=by
 refine kX ?_
 refine kY (k:=10) rfl bB4 rfl (fun K J=>?_)
 go_simp
 refine (jg (OF.own vV).rd.1 bB9).mono ?_
 rintro e t5 ⟨bx,rfl,ak,hb⟩
 obtain ⟨V,U,X,ar,bc⟩:=ak.parts
 obtain rfl:=ar
 have a1:=hb.size
 have OG:=ak.wide (T:=jR t4.heap.size t5.heap.size) nA
 clear ak
 clear OF
 replace OB:=OB.below hb
 replace OE:=OE.below hb
 replace L:=L.below hb
 replace E:=(tQ E hb)
 refine J _ _ E ?_
 clear J K hb
 refine kX ?_
 refine kY (k:=11) rfl bB4 rfl (fun K J=>?_)
 have bn:=E.size
 go_simp
 have Y:Below t5.heap.size t5 (World.alloc t5 (.cells #[.slice F G R,.slice ab aa ae,.slice V U X] 48)):=bR.alloc nL _
 have ax:t5.heap.size + 1≤(World.alloc t5 (.cells #[.slice F G R,.slice ab aa ae,.slice V U X] 48)).heap.size:=(by simp)
 have X0:=(OB.own vV).rd
 have X1:=(OE.own vV).rd
 have X2:=(OG.own vV).rd
 have Y0:=kDs (e:=48) (r:=(kE.slice 3 kE.int)) rfl (kG (w:=t5) (o:=(.cells #[.slice F G R,.slice ab aa ae,.slice V U X] 48)) rfl) (X0.1.alloc (.cells #[.slice F G R,.slice ab aa ae,.slice V U X] 48)) (X1.1.alloc (.cells #[.slice F G R,.slice ab aa ae,.slice V U X] 48)) (X2.1.alloc (.cells #[.slice F G R,.slice ab aa ae,.slice V U X] 48))
 have RT:(kE.slice 48 (kE.slice 3 kE.int)).rd (World.alloc t5 (.cells #[.slice F G R,.slice ab aa ae,.slice V U X] 48)) [.slice (some ⟨t5.heap.size,0,none⟩) 3 3] [yf (kCa x.1),yf x.2.1,yf (kCa x.2.2.1)]:=⟨Y0,by show 3≤_;unfold Big;omega,fun y hy=>bO⟩
 clear X0 X1 X2 Y0 OB OE OG
 generalize ai:World.alloc t5 (.cells #[.slice F G R,.slice ab aa ae,.slice V U X] 48)=t6 at Y ax RT ⊢
 clear ai
 exact lW):p:=h
theorem oK (h:p:=by
 have OF:=am.wide (T:=jR t3.heap.size t4.heap.size) nA
 clear am
 replace L:=L.below hb
 replace OB:=OB.below hb
 replace OE:=OE.below hb
 replace E:=(tQ E hb)
 refine J _ _ E ?_
 clear J K hb
 refine kX ?_
 refine kY (k:=10) rfl bB4 rfl (fun K J=>?_)
 go_simp
 refine (jg (OF.own vV).rd.1 bB9).mono ?_
 rintro e t5 ⟨bx,rfl,ak,hb⟩
 obtain ⟨V,U,X,ar,bc⟩:=ak.parts
 obtain rfl:=ar
 have a1:=hb.size
 have OG:=ak.wide (T:=jR t4.heap.size t5.heap.size) nA
 clear ak
 clear OF
 replace L:=L.below hb
 replace OB:=OB.below hb
 replace OE:=OE.below hb
 replace E:=(tQ E hb)
 refine J _ _ E ?_
 clear J K hb
 refine kX ?_
 refine kY (k:=11) rfl bB4 rfl (fun K J=>?_)
 have bn:=E.size
 go_simp
 have Y:Below t5.heap.size t5 (World.alloc t5 (.cells #[.slice F G R,.slice ab aa ae,.slice V U X] 48)):=bR.alloc nL _
 have ax:t5.heap.size + 1≤(World.alloc t5 (.cells #[.slice F G R,.slice ab aa ae,.slice V U X] 48)).heap.size:=(by simp)
 have X0:=(OB.own vV).rd
 have X1:=(OE.own vV).rd
 have X2:=(OG.own vV).rd
 have Y0:=kDs (e:=48) (r:=(kE.slice 3 kE.int)) rfl (kG (w:=t5) (o:=(.cells #[.slice F G R,.slice ab aa ae,.slice V U X] 48)) rfl) (X0.1.alloc (.cells #[.slice F G R,.slice ab aa ae,.slice V U X] 48)) (X1.1.alloc (.cells #[.slice F G R,.slice ab aa ae,.slice V U X] 48)) (X2.1.alloc (.cells #[.slice F G R,.slice ab aa ae,.slice V U X] 48))
 have RT:(kE.slice 48 (kE.slice 3 kE.int)).rd (World.alloc t5 (.cells #[.slice F G R,.slice ab aa ae,.slice V U X] 48)) [.slice (some ⟨t5.heap.size,0,none⟩) 3 3] [yf (kCa x.1),yf x.2.1,yf (kCa x.2.2.1)]:=⟨Y0,by show 3≤_;unfold Big;omega,fun y hy=>bO⟩
 clear X0 X1 X2 Y0 OB OE OG
 generalize ai:World.alloc t5 (.cells #[.slice F G R,.slice ab aa ae,.slice V U X] 48)=t6 at Y ax RT ⊢
 clear ai
 exact lW):p:=h
theorem oL (h:p:=by
 refine kX ?_
 refine kY (k:=11) rfl bB4 rfl (fun K J=>?_)
 have bn:=E.size
 go_simp
 have Y:Below t5.heap.size t5 (World.alloc t5 (.cells #[.slice F G R,.slice ab aa ae,.slice V U X] 48)):=bR.alloc nL _
 have ax:t5.heap.size + 1≤(World.alloc t5 (.cells #[.slice F G R,.slice ab aa ae,.slice V U X] 48)).heap.size:=(by simp)
 have X0:=(OB.own vV).rd
 have X1:=(OE.own vV).rd
 have X2:=(OG.own vV).rd
 have Y0:=kDs (e:=48) (r:=(kE.slice 3 kE.int)) rfl (kG (w:=t5) (o:=(.cells #[.slice F G R,.slice ab aa ae,.slice V U X] 48)) rfl) (X0.1.alloc (.cells #[.slice F G R,.slice ab aa ae,.slice V U X] 48)) (X1.1.alloc (.cells #[.slice F G R,.slice ab aa ae,.slice V U X] 48)) (X2.1.alloc (.cells #[.slice F G R,.slice ab aa ae,.slice V U X] 48))
 have RT:(kE.slice 48 (kE.slice 3 kE.int)).rd (World.alloc t5 (.cells #[.slice F G R,.slice ab aa ae,.slice V U X] 48)) [.slice (some ⟨t5.heap.size,0,none⟩) 3 3] [yf (kCa x.1),yf x.2.1,yf (kCa x.2.2.1)]:=⟨Y0,by show 3≤_;unfold Big;omega,fun y hy=>bO⟩
 clear X0 X1 X2 Y0 OB OE OG
 generalize ai:World.alloc t5 (.cells #[.slice F G R,.slice ab aa ae,.slice V U X] 48)=t6 at Y ax RT ⊢
 clear ai
 exact lW):p:=h
theorem oM (h:p:=by
 refine kX ?_
 refine kY (k:=3) rfl bB4 rfl (fun K J=>?_)
 go_simp
 refine (jg (OA.own vV).rd.1 bB9).mono ?_
 rintro e t2 ⟨br,rfl,af,hb⟩
 obtain ⟨F,G,R,ao,a6⟩:=af.parts
 obtain rfl:=ao
 have a9:=hb.size
 have OB:=af.wide (T:=jR t1.heap.size t2.heap.size) nA
 clear af
 clear OA
 replace L:=L.below hb
 replace E:=(tQ E hb)
 refine J _ _ E ?_
 clear J K hb
 refine kX ?_
 refine kY (k:=6) rfl bB4 rfl (fun K J=>?_)
 go_simp
 refine (jg (HC.out.below (tQ Z E)) hc).mono ?_
 rintro e t3 ⟨b7,rfl,ap,hb⟩
 obtain ⟨ab,aa,ae,a8,b0⟩:=ap.parts
 obtain rfl:=a8
 have a2:=hb.size
 have OE:=ap.wide (T:=jR t2.heap.size t3.heap.size) nA
 clear ap
 replace L:=L.below hb
 replace OB:=OB.below hb
 replace E:=(tQ E hb)
 refine J _ _ E ?_
 clear J K hb
 refine kX ?_
 refine kY (k:=9) rfl bB4 rfl (fun K J=>?_)
 go_simp
 refine (zZ ((kE.ku.void (e:=5) (r:=kE.byte) (a:=none) (S:=fun _=>False)).own (Nat.zero_le _)).rd (HK.out.below (tQ Z E))).mono ?_
 rintro e t4 ⟨b4,rfl,am,hb⟩
 obtain ⟨b5,b1,b3,aw,bt⟩:=am.parts
 obtain rfl:=aw
 have az:=hb.size
 exact oK):p:=h
end Go.Proofs.YtonmjkmaadgceaaGreat
