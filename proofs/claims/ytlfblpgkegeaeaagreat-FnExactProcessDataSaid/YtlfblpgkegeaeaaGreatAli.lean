/-
  Short names for five lemmas.
-/
import Derived.WalkSpells
import Derived.Lib.Hide
set_option linter.unusedVariables false
set_option linter.unusedSimpArgs false
set_option linter.unnecessarySimpa false
namespace Go.Proofs.YtlfblpgkegeaeaaGreat
open Go Go.RowKit
theorem zA {α : Type} (l : List α) (i : Nat) (a : α) : l.toArray.setIfInBounds i a = (l.set i a).toArray := List.setIfInBounds_toArray l i a
theorem zB {α : Type} {x : α} {xs : List α} {a : α} : (x :: xs).set 0 a = a :: xs := rfl
theorem zC {α : Type} {x : α} {xs : List α} {i : Nat} {a : α} : (x :: xs).set (i + 1) a = x :: xs.set i a := rfl
theorem yD {p : Prop} (h : p) : Go.RowKit.Hid p := Lib.hid h
theorem bR {B : Nat} {w : World} : Below B w w := Below.refl B w
theorem nL {n : Nat} : n ≤ n := Nat.le_refl n
theorem tQ {w w1 w2 : World} (h : Below w.heap.size w w1) (k : Below w1.heap.size w1 w2) : Below w.heap.size w w2 := h.trans (k.mono h.size)
theorem zU {b : Bool} : ((!b) = true) = (b = false) := by cases b <;> simp
theorem zV {b : Bool} : ((!b) = false) = (b = true) := by cases b <;> simp
theorem cL {w wx : World} {a : Addr} {v : Value} (hb : Below w.heap.size w wx) (h : w.cell? a = some v) : wx.cell? a = some v := cell_later hb h
theorem bH {p : Prop} (h : p := by repeat (first|(with_reducible exact bR) | refine Below.alloc ?_ (by simp;try omega) _ | refine Below.drew ?_ | refine Below.setCell ?_ (by simp;try omega) _)) : p := h
theorem rP {p : Prop} (h : p := by omega) : p := h
theorem qO {p : Prop} (h : p := by simp;try omega) : p := h
theorem rF {p : Prop} (h : p := by kernel_rfl) : p := h
theorem nV {p : Prop} (h : p := by rw [← hwB];simp [go_sem]) : p := h
theorem bU {p : Prop} (h : p := by repeat (first|(with_reducible exact bR) | refine Below.alloc ?_ (by simp;try omega) _ | refine Below.drew ?_)) : p := h
theorem dM {p : Prop} (h : p := by exact fun j h1 h2=>by simp (discharger:=(simp;omega)) only [heap_setCell_other]) : p := h
theorem fG {p : Prop} (h : p := by exact fun j hj=>⟨by have:=hj.1;omega,by have:=hj.2;omega⟩) : p := h
theorem rM {p : Prop} (h : p := by decide) : p := h
theorem gX {p : Prop} (h : p := by exact fun c a d v w h=>by cases d <;> exact h) : p := h
theorem rG {p : Prop} (h : p := by simp;omega) : p := h
theorem rQ {p : Prop} (h : p := by simp) : p := h
theorem bQ {p : Prop} (h : p := by first | omega|(simp only [List.flatten_cons,List.flatten_nil,List.length_append,List.length_cons,List.length_nil];omega)) : p := h
theorem gN {p : Prop} (h : p := by exact fun k hk=>by have:=hk.1;have:=hk.2;omega) : p := h
theorem mH {p : Prop} (h : p := by exact fun j hj=>⟨hj.1,by have:=hj.2;omega⟩) : p := h
theorem mI {p : Prop} (h : p := by exact fun j hj=>⟨by have:=hj.1;omega,hj.2⟩) : p := h
theorem fH {p : Prop} (h : p := by exact fun j hj=>⟨by have:=hj.1;have:=HS.size;omega,hj.2⟩) : p := h
theorem fP {p : Prop} (h : p := by exact fun j h1 h2=>by have p:=h1.2;have q:=h2.1;omega) : p := h
theorem bG {p : Prop} (h : p := by exact fun j hj=>hj.elim (fun q=>⟨q.1,by have:=q.2;simp [World.setCell] at this ⊢;omega⟩) (fun q=>⟨by have:=q.1;omega,by have:=q.2;simp [World.setCell] at this ⊢;omega⟩)) : p := h
theorem dG {p : Prop} (h : p := by exact fun j hj=>⟨by first | omega|(have:=hj.1;omega),by first | omega|(have:=hj.2;omega)⟩) : p := h
theorem rR {p : Prop} (h : p := by rfl) : p := h
theorem dO {p : Prop} (h : p := by exact fun j q=>⟨by have:=q.1;omega,by have:=q.2.1;simp [World.setCell];omega⟩) : p := h
theorem qF {p : Prop} (h : p := by unfold Big;omega) : p := h
theorem dN {p : Prop} (h : p := by exact fun j hj=>⟨by have:=hj.1;omega,by have:=hj.2;simp [World.setCell];omega⟩) : p := h
theorem fO {p : Prop} (h : p := by exact fun j hj=>⟨by have h:=hj.1;simp at h;omega,hj.2⟩) : p := h
theorem nW {p : Prop} (h : p := by rw [← hwC];simp [go_sem]) : p := h
theorem qI {p : Prop} (h : p := by exact fun k hk=>by omega) : p := h
theorem gL {p : Prop} (h : p := by exact fun j q=>⟨q.1,by have:=q.2.1;omega,q.2.2⟩) : p := h
theorem dA {p : Prop} (h : p := by repeat (first|(with_reducible exact HE1.out) | refine Below.setCell ?_ (by simp;try omega) _)) : p := h
theorem dP {p : Prop} (h : p := by intro q;have:=q.1;first | omega|(simp at this;omega)|(simp at this)) : p := h
theorem mZ {p : Prop} (h : p := by first|(simp;done)|(simp;omega)) : p := h
theorem bO {p : Prop} (h : p := by simp only [List.mem_cons,List.not_mem_nil,or_false] at hy;rcases hy with rfl | rfl | rfl;exact X0.2;exact X1.2;exact X2.2) : p := h
theorem nJ {p : Prop} (h : p := by exact fun j h1 h2=>by have:=h1.1;omega) : p := h
theorem fU {p : Prop} (h : p := by match c0,l0 with | [y0_0],_=>exact ⟨_,rfl⟩) : p := h
theorem dZ {p : Prop} (h : p := by have q:(!decide (x0=y0))=true:=‹_›;simp at q;simp [q]) : p := h
theorem gP {p : Prop} (h : p := by have:=HQ.out;unfold Top at this;omega) : p := h
theorem nR {p : Prop} (h : p := by exact fun i hi=>by rw [hi];exact hSb) : p := h
theorem bA {p : Prop} (h : p := by exact fun j q=>q.elim (fun q=>⟨q.1,by have:=q.2.1;omega,q.2.2.1,(hST j).2 (.inl ⟨q.2.2.2,by have:=q.2.1;omega⟩)⟩) (fun q=>⟨by have:=q.1;omega,q.2,by have:=q.1;omega,(hST j).2 (.inr ⟨q.1,q.2⟩)⟩)) : p := h
theorem bJ {p : Prop} (h : p := by simp [results,Tryz.results17,go_sem,KBR_0,FBR_0,KBR_1,FBR_1,KBR_2,FBR_2,KBR_3,FBR_3,KBR_4,FBR_4,KBR_5,FBR_5,KBR_6,FBR_6,KBR_7,FBR_7,KBR_8,FBR_8]) : p := h
theorem bK {p : Prop} (h : p := by simp [results,Tryz.results16,go_sem,KBR_0,FBR_0,KBR_1,FBR_1,KBR_2,FBR_2,KBR_3,FBR_3,KBR_4,FBR_4,KBR_5,FBR_5,KBR_6,FBR_6,KBR_7,FBR_7,KBR_8,FBR_8]) : p := h
theorem rC {p : Prop} (h : p := by simp [HT.out]) : p := h
theorem bV {p : Prop} (h : p := by exact fun j h1 h2=>by have:=HY1.out;have:=HY2.out;rw [← hws];simp (discharger:=(simp;omega)) only [heap_setCell_other]) : p := h
theorem bW {p : Prop} (h : p := by exact fun j h1 h2=>(hb3.block j (by simp;omega)).trans (by simp (discharger:=(simp;omega)) only [heap_setCell_other])) : p := h
theorem bX {p : Prop} (h : p := by exact fun j h1 h2=>(hb4.block j (by simp;omega)).trans (by simp (discharger:=(simp;omega)) only [heap_setCell_other])) : p := h
theorem bF {p : Prop} (h : p := by exact fun j q=>q.elim (fun q=>⟨q.1,by have:=q.2.1;omega,q.2.2.1,(hSN j).2 (.inl q.2.2.2)⟩) (fun q=>⟨by have:=q.1;omega,q.2,by have:=q.1;omega,(hSN j).2 (.inr ⟨q.1,q.2⟩)⟩)) : p := h
theorem fV {p : Prop} (h : p := by exact fun j h1 h2=>by have:=h1.2.1;have:=h2.1;omega) : p := h
theorem fZ {p : Prop} (h : p := by match c1,l1 with | [y1_0],_=>exact ⟨_,rfl⟩) : p := h
theorem dB {p : Prop} (h : p := by repeat (first|(with_reducible exact HE2.out) | refine Below.setCell ?_ (by simp;try omega) _)) : p := h
theorem bL {p : Prop} (h : p := by exact fun j hj hl=>hfr j hl (by first | omega|(have h1:=hj.1;have h2:=hj.2;intro q;have:=q.1;have:=q.2;omega)|(intro q;have:=q.1;have:=q.2;omega))) : p := h
theorem bY {p : Prop} (h : p := by exact fun j h1 h2=>(hb2.block j (by simp;omega)).trans (by simp (discharger:=(simp;omega)) only [heap_setCell_other])) : p := h
theorem bZ {p : Prop} (h : p := by exact fun j h1 h2=>(hb6.block j (by simp;omega)).trans (by simp (discharger:=(simp;omega)) only [heap_setCell_other])) : p := h
theorem dR {p : Prop} (h : p := by exact fun j hj=>⟨by have:=hj.1;omega,by simpa [World.setCell] using hj.2⟩) : p := h
theorem gQ {p : Prop} (h : p := by have:=HK.out;unfold Top at this;omega) : p := h
theorem mQ {p : Prop} (h : p := by exact fun k hk=>⟨by omega,by simp;omega⟩) : p := h
theorem nT {p : Prop} (h : p := by show 1≤_;unfold Big;omega) : p := h
theorem nA {p : Prop} (h : p := by rw [← hwC];exact bR.alloc nL _) : p := h
theorem bE {p : Prop} (h : p := by exact fun q=>by have q1:=q.1;have q2:=q.2;have l1:=L1.out;have l2:=L2.out;have l3:=L3.out;have l4:=L4.out;have l5:=L5.out;have l6:=L6.out;have l7:=L7.out;have l8:=L8.out;omega) : p := h
theorem fI {p : Prop} (h : p := by exact fun j h1 h2=>by have a1:=h1.2;have a2:=h2.1;omega) : p := h
theorem bP {p : Prop} (h : p := by exact fun j q=>⟨q.1,by have:=q.2.1;omega,fun h=>((hST j).1 h).elim (fun h2=>q.2.2 h2.1) (fun h2=>by have:=h2.1;have:=q.2.1;omega)⟩) : p := h
theorem dQ {p : Prop} (h : p := by exact fun j q=>⟨by have:=q.1;omega,by have:=q.2;simp [World.setCell];omega⟩) : p := h
theorem nC {p : Prop} (h : p := by rw [← hw_];exact bR.alloc nL _) : p := h
theorem mK {p : Prop} (h : p := by have h:=hb1.size;simp at h;omega) : p := h
theorem bI {p : Prop} (h : p := by exact fun q=>by have q1:=q.1;have q2:=q.2;have l1:=L1.out;have l2:=L2.out;have l3:=L3.out;have l4:=L4.out;have l5:=L5.out;have l6:=L6.out;have l7:=L7.out;omega) : p := h
theorem cB {p : Prop} (h : p := by exact fun j h1 h2=>(hb5.block j (by simp;omega)).trans (by simp (discharger:=(simp;omega)) only [heap_setCell_other])) : p := h
theorem gI {p : Prop} (h : p := by exact fun j q e=>by have p:=q.1;have r:=q.2;omega) : p := h
theorem cK {p : Prop} (h : p := by exact fun j q=>⟨q.1,by have:=q.2.1;omega,fun h=>((hSN j).1 h).elim q.2.2 (fun h2=>by have:=h2.1;have:=q.2.1;omega)⟩) : p := h
theorem mR {p : Prop} (h : p := by exact fun q=>by have:=(hAB1 _ q).2;omega) : p := h
theorem gB {p : Prop} (h : p := by match c3,l3 with | [y3_0],_=>exact ⟨_,rfl⟩) : p := h
theorem bM {p : Prop} (h : p := by exact fun q=>by have q1:=q.1;have q2:=q.2;have l1:=L1.out;have l2:=L2.out;have l3:=L3.out;have l4:=L4.out;have l5:=L5.out;have l6:=L6.out;omega) : p := h
theorem gY {p : Prop} (h : p := by exact fun h2=>by have:=h2.1;have:=q.2.1;omega) : p := h
theorem fJ {p : Prop} (h : p := by have q:(x1 != y1)=true:=‹_›;simp at q;simp [q]) : p := h
theorem fA {p : Prop} (h : p := by have q:(!decide (x1=y1))=true:=‹_›;simp at q;simp [q]) : p := h
theorem cZ {p : Prop} (h : p := by exact fun j h1 h2=>by have:=HY1.out;rw [← hws];simp (discharger:=(simp;omega)) only [heap_setCell_other]) : p := h
theorem qJ {p : Prop} (h : p := by rw [← hw_];simp) : p := h
theorem dC {p : Prop} (h : p := by repeat (first|(with_reducible exact HE3.out) | refine Below.setCell ?_ (by simp;try omega) _)) : p := h
theorem pF {p : Prop} (h : p := by rw [← hw_];exact kN rfl) : p := h
theorem pW {p : Prop} (h : p := by unfold maxLen;omega) : p := h
theorem dD {p : Prop} (h : p := by exact fun j q=>by rcases q with q | q | q <;> (have q1:=q.1;have q2:=q.2;(try have q3:=q2.1);omega)) : p := h
theorem qK {p : Prop} (h : p := by rw [← hwB];simp) : p := h
theorem gD {p : Prop} (h : p := by have:=hcap.2.2;unfold maxLen at this;omega) : p := h
theorem nK {p : Prop} (h : p := by rw [← hwB];exact kN (by simp)) : p := h
theorem bS {p : Prop} (h : p := by exact fun q=>by have q1:=q.1;have q2:=q.2;have l1:=L1.out;have l2:=L2.out;have l3:=L3.out;have l4:=L4.out;have l5:=L5.out;omega) : p := h
theorem rH {p : Prop} (h : p := by simp [hxy]) : p := h
theorem dF {p : Prop} (h : p := by show (xc,kFo xc (kCt y0 xe)++[((y0,y1,y2,y3,y4),t)])=_;rw [HK.out,HRM.out,HZ.out]) : p := h
theorem pM {p : Prop} (h : p := by rw [Rep.yK];exact hlt) : p := h
theorem gT {p : Prop} (h : p := by simp [results,Tryz.results243,go_sem]) : p := h
theorem gU {p : Prop} (h : p := by simp [results,Tryz.results249,go_sem]) : p := h
theorem dH {p : Prop} (h : p := by rw [HS2.out];exact HO2.out.wide (fun j q=>⟨q.1,by have:=q.2.1;omega,q.2.2⟩)) : p := h
theorem cO {p : Prop} (h : p := by have q0:(!decide (x0=y0))=false:=‹_›;simp at q0;have q1:(x1 != y1)=false:=‹_›;simp at q1;simp [q0,q1]) : p := h
theorem pX {p : Prop} (h : p := by exact fun q=>hab (by rw [q])) : p := h
theorem mD {p : Prop} (h : p := by unfold Addr.add;split <;> simp_all) : p := h
theorem pY {p : Prop} (h : p := by have:=HAB.out;omega) : p := h
theorem gV {p : Prop} (h : p := by simp [results,Tryz.results113,go_sem]) : p := h
theorem nX {p : Prop} (h : p := by rw [← hwD];simp [go_sem]) : p := h
theorem qE {p : Prop} (h : p := by rw [Rep.yK];omega) : p := h
theorem gF {p : Prop} (h : p := by match c4,l4 with | [y4_0],_=>exact ⟨_,rfl⟩) : p := h
theorem qB {p : Prop} (h : p := by simpa using ha.2.1) : p := h
theorem qL {p : Prop} (h : p := by rw [HF.out];rfl) : p := h
theorem gM {p : Prop} (h : p := by first | omega|(simp;done)|(simp;omega)) : p := h
theorem fK {p : Prop} (h : p := by have q:(x2 != y2)=true:=‹_›;simp at q;simp [q]) : p := h
theorem rD {p : Prop} (h : p := by simpa using h) : p := h
theorem mU {p : Prop} (h : p := by rw [h];exact Bool.false_ne_true) : p := h
theorem nS {p : Prop} (h : p := by first | omega|(simp;omega)) : p := h
theorem nE {p : Prop} (h : p := by first | omega|(simp;try omega)) : p := h
theorem gG {p : Prop} (h : p := by match c2,l2 with | [y2_0],_=>exact ⟨_,rfl⟩) : p := h
theorem fB {p : Prop} (h : p := by have q:(!decide (x2=y2))=true:=‹_›;simp at q;simp [q]) : p := h
theorem qP {p : Prop} (h : p := by rw [hz2];omega) : p := h
theorem qQ {p : Prop} (h : p := by simpa using h3) : p := h
theorem fD {p : Prop} (h : p := by exact fun i hi=>⟨by have h:=hi.1;(try simp at h);omega,hi.2⟩) : p := h
theorem mV {p : Prop} (h : p := by rw [← hws];simp [World.setCell]) : p := h
theorem gW {p : Prop} (h : p := by simp [results,Tryz.results102,go_sem]) : p := h
theorem nG {p : Prop} (h : p := by have:=X1.size;simpa using this) : p := h
theorem qR {p : Prop} (h : p := by simpa using hc) : p := h
theorem dS {p : Prop} (h : p := by exact fun j q=>⟨by have:=q.1;omega,by have:=q.2;omega,by have:=q.2;omega⟩) : p := h
theorem nY {p : Prop} (h : p := by rw [← hw_];exact jF BO 1) : p := h
theorem dV {p : Prop} (h : p := by simp [results,Tryz.results67,go_sem,KBR_0,FBR_0,KBR_1,FBR_1]) : p := h
theorem dW {p : Prop} (h : p := by simp [results,Tryz.results75,go_sem,KBR_0,FBR_0,KBR_1,FBR_1]) : p := h
theorem rJ {p : Prop} (h : p := by simp [hab]) : p := h
theorem gH {p : Prop} (h : p := by match c5,l5 with | [y5_0],_=>exact ⟨_,rfl⟩) : p := h
theorem mM {p : Prop} (h : p := by rw [h3];exact Bool.false_ne_true) : p := h
theorem mO {p : Prop} (h : p := by have h:=hb2.size;simp at h;omega) : p := h
theorem qC {p : Prop} (h : p := by rw [HT.out,hv];rfl) : p := h
theorem pO {p : Prop} (h : p := by have:=hbel.size;omega) : p := h
theorem gK {p : Prop} (h : p := by exact fun j h1 h2=>by have:=h1.2;have:=h2.1;omega) : p := h
theorem fC {p : Prop} (h : p := by have q:(!decide (x3=y3))=true:=‹_›;simp at q;simp [q]) : p := h
theorem qU {p : Prop} (h : p := by simpa using hl) : p := h
theorem qV {p : Prop} (h : p := by simpa using h0) : p := h
theorem pI {p : Prop} (h : p := by have:=HN.out;simp;omega) : p := h
theorem qG {p : Prop} (h : p := by rw [HD.out];simp) : p := h
theorem nQ {p : Prop} (h : p := by rw [← hwB];exact jD (kN rfl)) : p := h
theorem fE {p : Prop} (h : p := by exact fun j hj=>⟨hj.1,by simpa [World.setCell] using hj.2⟩) : p := h
theorem pK {p : Prop} (h : p := by exact fun _=>by rw [HK.out];rfl) : p := h
theorem fF {p : Prop} (h : p := by exact fun j hj=>⟨by have:=hj.1;have:=hbel.size;omega,hj.2⟩) : p := h
theorem rO {p : Prop} (h : p := by rw [q]) : p := h
theorem fM {p : Prop} (h : p := by have q:(x0 != y0)=true:=‹_›;simp at q;simp [q]) : p := h
theorem qW {p : Prop} (h : p := by simpa using h1) : p := h
theorem fQ {p : Prop} (h : p := by rw [List.length_append,HK.out,HR0.out];omega) : p := h
theorem rE {p : Prop} (h : p := by simp [go_sem]) : p := h
theorem fT {p : Prop} (h : p := by rw [List.length_append,HK.out,HR.out];omega) : p := h
theorem mW {p : Prop} (h : p := by exact fun q=>by have:=(hAB2 _ q).2;omega) : p := h
theorem mX {p : Prop} (h : p := by (try simp only);rw [jr h,q];rfl) : p := h
theorem nH {p : Prop} (h : p := by have:=HZL.out;unfold Big;omega) : p := h
theorem nI {p : Prop} (h : p := by rw [← hwB];exact bR.alloc nL _) : p := h
theorem nO {p : Prop} (h : p := by simp only [List.append_assoc]) : p := h
theorem nP {p : Prop} (h : p := by rw [hcl,h3,Nat.add_mul];omega) : p := h
theorem qX {p : Prop} (h : p := by simpa using hp) : p := h
theorem pQ {p : Prop} (h : p := by simp;unfold Big;omega) : p := h
theorem qH {p : Prop} (h : p := by rw [HL6.out];rfl) : p := h
theorem nU {p : Prop} (h : p := by have:=HON2.out;simp;omega) : p := h
theorem qM {p : Prop} (h : p := by simpa using zT_) : p := h
theorem mF {p : Prop} (h : p := by rw [← hwB];exact jD (kN (by simp))) : p := h
theorem mG {p : Prop} (h : p := by rw [this];exact Bool.false_ne_true) : p := h
theorem nZ {p : Prop} (h : p := by rw [← hw_];exact jF BO 4) : p := h
theorem pE {p : Prop} (h : p := by rw [← hw_];exact jF BO 6) : p := h
theorem mJ {p : Prop} (h : p := by rw [← hwB];exact jD (jD (kN rfl))) : p := h
theorem qY {p : Prop} (h : p := by simpa using hj) : p := h
theorem pJ {p : Prop} (h : p := by simpa using (ho 0).symm) : p := h
theorem mP {p : Prop} (h : p := by have h:=hb3.size;simp at h;omega) : p := h
theorem mY {p : Prop} (h : p := by exact fun q=>by have:=(hAB3 _ q).2;omega) : p := h
theorem pR {p : Prop} (h : p := by rw [List.take_length]) : p := h
theorem pU {p : Prop} (h : p := by simpa [Big] using hb) : p := h
theorem qN {p : Prop} (h : p := by rw [← hwC];simp) : p := h
theorem pV {p : Prop} (h : p := by have:=hcap.2.1;omega) : p := h
theorem qA {p : Prop} (h : p := by have:=X2.size;omega) : p := h
theorem qZ {p : Prop} (h : p := by simpa using hz) : p := h
theorem rA {p : Prop} (h : p := by simpa using hf) : p := h
theorem qD {p : Prop} (h : p := by rw [← g0];exact h0) : p := h
end Go.Proofs.YtlfblpgkegeaeaaGreat
