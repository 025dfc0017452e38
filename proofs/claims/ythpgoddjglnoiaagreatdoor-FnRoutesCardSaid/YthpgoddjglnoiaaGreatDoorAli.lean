/-
  Short names for five lemmas.
-/
import Derived.WalkSpells
import Derived.Lib.Hide
set_option linter.unusedVariables false
set_option linter.unusedSimpArgs false
set_option linter.unnecessarySimpa false
namespace Go.Proofs.YthpgoddjglnoiaaGreatDoor
open Go Go.RowKit
theorem zA {α : Type} (l : List α) (i : Nat) (a : α) : l.toArray.setIfInBounds i a = (l.set i a).toArray := List.setIfInBounds_toArray l i a
theorem zB {α : Type} {x : α} {xs : List α} {a : α} : (x :: xs).set 0 a = a :: xs := rfl
theorem zC {α : Type} {x : α} {xs : List α} {i : Nat} {a : α} : (x :: xs).set (i + 1) a = x :: xs.set i a := rfl
theorem yD {p : Prop} (h : p) : Go.RowKit.Hid p := Lib.hid h
theorem bR {B : Nat} {w : World} : Below B w w := Below.refl B w
theorem nL {n : Nat} : n ≤ n := Nat.le_refl n
theorem tQ {w w1 w2 : World} (h : Below w.heap.size w w1) (k : Below w1.heap.size w1 w2) : Below w.heap.size w w2 := h.trans (k.mono h.size)
theorem zU {b : Bool} : ((!b) = true) = (b = false) := by cases b <;> simp
theorem zV {b : Bool} : ((!b) = false) = (b = true) := by cases b <;> simp
theorem cL {w wx : World} {a : Addr} {v : Value} (hb : Below w.heap.size w wx) (h : w.cell? a = some v) : wx.cell? a = some v := cell_later hb h
theorem bB {p : Prop} (h : p := by repeat (first|(with_reducible exact bR) | refine Below.alloc ?_ (by simp;try omega) _ | refine Below.drew ?_ | refine Below.setCell ?_ (by simp;try omega) _)) : p := h
theorem fV {p : Prop} (h : p := by omega) : p := h
theorem fP {p : Prop} (h : p := by kernel_rfl) : p := h
theorem fC {p : Prop} (h : p := by simp;try omega) : p := h
theorem bW {p : Prop} (h : p := by exact fun c a d v w h=>by cases d <;> exact h) : p := h
theorem fQ {p : Prop} (h : p := by simp;omega) : p := h
theorem dL {p : Prop} (h : p := by rw [← hwB];simp [go_sem]) : p := h
theorem bI {p : Prop} (h : p := by exact fun j hj=>⟨by have:=hj.1;omega,by have:=hj.2;omega⟩) : p := h
theorem fU {p : Prop} (h : p := by decide) : p := h
theorem fZ {p : Prop} (h : p := by simp) : p := h
theorem gB {p : Prop} (h : p := by rfl) : p := h
theorem bE {p : Prop} (h : p := by exact fun j hj=>⟨by have:=hj.1;omega,by have:=hj.2;simp [World.setCell];omega⟩) : p := h
theorem cK {p : Prop} (h : p := by exact fun j hj=>⟨hj.1,by have:=hj.2;omega⟩) : p := h
theorem bT {p : Prop} (h : p := by exact fun k hk=>by have:=hk.1;have:=hk.2;omega) : p := h
theorem bC {p : Prop} (h : p := by intro c hc;simp only [List.mem_cons,List.not_mem_nil,or_false] at hc;rcases hc with rfl | rfl | rfl <;> rfl) : p := h
theorem cO {p : Prop} (h : p := by exact fun j hj=>⟨by have:=hj.1;omega,hj.2⟩) : p := h
theorem dM {p : Prop} (h : p := by rw [← hwC];simp [go_sem]) : p := h
theorem dC {p : Prop} (h : p := by rw [← hw_];exact bR.alloc nL _) : p := h
theorem dI {p : Prop} (h : p := by exact fun k hk=>by have:=hk.1;omega) : p := h
theorem bG {p : Prop} (h : p := by exact fun j hj=>⟨by have:=hj.1;omega,by simpa [World.setCell] using hj.2⟩) : p := h
theorem dW {p : Prop} (h : p := by have:=HL.out;omega) : p := h
theorem dD {p : Prop} (h : p := by rw [← hwC];exact bR.alloc nL _) : p := h
theorem bF {p : Prop} (h : p := by intro q;have:=q.1;first | omega|(simp at this;omega)|(simp at this)) : p := h
theorem dN {p : Prop} (h : p := by rw [← hw_];exact kX rfl) : p := h
theorem bZ {p : Prop} (h : p := by simp [ByteArray.size_append];omega) : p := h
theorem bD {p : Prop} (h : p := by simpa only [Bool.and_eq_true,decide_eq_true_eq,Bool.not_eq_true'] using hi.2) : p := h
theorem dZ {p : Prop} (h : p := by exact fun k hk=>by omega) : p := h
theorem fA {p : Prop} (h : p := by rw [← hw_];simp) : p := h
theorem fD {p : Prop} (h : p := by simpa using hj) : p := h
theorem bK {p : Prop} (h : p := by exact fun k q=>⟨by have:=q.1;omega,by have:=q.2;omega⟩) : p := h
theorem fE {p : Prop} (h : p := by simpa using hl) : p := h
theorem dE {p : Prop} (h : p := by rw [← hwN];exact bR.alloc nL _) : p := h
theorem fM {p : Prop} (h : p := by simpa using h) : p := h
theorem bL {p : Prop} (h : p := by exact fun j h1 h2=>by have p:=h1.2;have q:=h2.1;omega) : p := h
theorem cB {p : Prop} (h : p := by unfold Addr.add;split <;> simp_all) : p := h
theorem bH {p : Prop} (h : p := by simpa using congrArg (fun o=>o.map (fun z=>z.2.1)) jX) : p := h
theorem fF {p : Prop} (h : p := by simpa using h3) : p := h
theorem fG {p : Prop} (h : p := by simpa using hc) : p := h
theorem bM {p : Prop} (h : p := by rw [HQ.out.1];have:=HLN.out;unfold Big;omega) : p := h
theorem bO {p : Prop} (h : p := by simp [results,Tryz.results84,go_sem,K2,F2]) : p := h
theorem dB {p : Prop} (h : p := by exact fun k hk=>⟨by omega,by simp;omega⟩) : p := h
theorem bQ {p : Prop} (h : p := by rw [getD_replicate_false] at hl;cases hl) : p := h
theorem dY {p : Prop} (h : p := by unfold Big;omega) : p := h
theorem dR {p : Prop} (h : p := by have:=HZL.out;omega) : p := h
theorem bU {p : Prop} (h : p := by rw [EQi];exact Rep.cells3 pA0 pA1 pA2) : p := h
theorem bV {p : Prop} (h : p := by rw [EQj];exact Rep.cells3 qA0 qA1 qA2) : p := h
theorem dQ {p : Prop} (h : p := by rw [h] at hr;cases hr) : p := h
theorem bJ {p : Prop} (h : p := by rw [decide_eq_true g.1,decide_eq_true g.2];rfl) : p := h
theorem cZ {p : Prop} (h : p := by (try simp only);rw [jC h];exact q) : p := h
theorem dS {p : Prop} (h : p := by have:=HON.out;omega) : p := h
theorem fO {p : Prop} (h : p := by simp [go_sem]) : p := h
theorem dU {p : Prop} (h : p := by unfold maxLen;omega) : p := h
theorem bP {p : Prop} (h : p := by simp [results,Tryz.results65,go_sem,KR,FR]) : p := h
theorem dF {p : Prop} (h : p := by first | omega|(simp;try omega)) : p := h
theorem bS {p : Prop} (h : p := by exact fun k q=>by rcases q with q | q <;> omega) : p := h
theorem dJ {p : Prop} (h : p := by first | omega|(simp;omega)) : p := h
theorem dK {p : Prop} (h : p := by rw [hw5];exact Rep.kCc THj) : p := h
theorem bX {p : Prop} (h : p := by exact fun q=>by rcases q with q | q <;> omega) : p := h
theorem bY {p : Prop} (h : p := by rw [ByteArray.size_append,hc1];omega) : p := h
theorem dV {p : Prop} (h : p := by have:=HL2.out;omega) : p := h
theorem fB {p : Prop} (h : p := by rw [← hwB];simp) : p := h
theorem dX {p : Prop} (h : p := by simpa using hB.1.1) : p := h
theorem fH {p : Prop} (h : p := by simpa using h1) : p := h
theorem fI {p : Prop} (h : p := by simpa using hz) : p := h
theorem dO {p : Prop} (h : p := by rw [HQ.out.1];exact hlb) : p := h
theorem dP {p : Prop} (h : p := by simpa using (ho 0).symm) : p := h
theorem dA {p : Prop} (h : p := by have:=HIN.out;simp at this;omega) : p := h
theorem dG {p : Prop} (h : p := by have:=hbel.size;simp;try omega) : p := h
theorem dH {p : Prop} (h : p := by rw [← hwB];exact bR.alloc nL _) : p := h
theorem fT {p : Prop} (h : p := by trivial) : p := h
theorem fJ {p : Prop} (h : p := by simpa using hf) : p := h
theorem fK {p : Prop} (h : p := by simpa using hv) : p := h
end Go.Proofs.YthpgoddjglnoiaaGreatDoor
