/-
  Routes of a face removed.
-/
import Derived.Test.YtclhapbahkjljaaCopyR
import Derived.Test.YtclhapbahkjljaaDelF
import Derived.IntWalk
namespace Go.Proofs.Ytclhapbahkjljaa
open Go.RowKit
set_option linter.unusedVariables false
set_option linter.unusedSimpArgs false
set_option linter.unnecessarySimpa false
def isFaceR (f : Int) (r : LRoute) : Bool := r.2.1 == f
set_option maxRecDepth 100000 in
set_option maxHeartbeats 2000000 in
theorem specRemoveFace_o {w : World} {vl : Value} {l : List LRoute} (hl : (Rep.slice 88 RRoute).rd w [vl] l) {f : Int} :
    Calls Try.prog 25 #[vl, .int .i64 f] w (Made0 88 RRoute (l.filter (fun r => !isFaceR f r)) w) := by
  have HL := Lib.hid hl
  obtain ⟨la, lp, lh, ll⟩ := Rep.len_raw hl.1; obtain rfl : vl = _ := by simpa using lh
  have hlb : l.length ≤ 16777216 := hl.2.1
  clear lh hl
  go_enter Try.func25, Try.ntmps25
  go_wp2
  have O0 : Rep.own0 88 RRoute (w.alloc (.cells #[] 88)) (.slice (some ⟨w.heap.size, 0, none⟩) 0 0) [] (Btw w.heap.size (w.alloc (.cells #[] 88)).heap.size) :=
    Rep.own0_lit (e := 88) (r := RRoute) (w := w) (cs := []) (xs := []) (T := fun _ => False) (by simp) (by simp) rfl (fun _ h => h.elim) ⟨Nat.le_refl _, by simp⟩
  go_loopw [5, 6] (fun v i wr => ∃ k : Nat, k ≤ l.length ∧ i = .int .i64 k ∧ Hid (Rep.own0 88 RRoute wr v ((l.take k).filter (fun r => !isFaceR f r)) (Btw w.heap.size wr.heap.size)) ∧ Below w.heap.size w wr) (fun _ i _ => l.length - (intOf i).toNat)
  case atStart => exact ⟨0, Nat.zero_le _, rfl, Lib.hid O0, (Below.refl _ _).alloc (Nat.le_refl _) _⟩
  case round =>
    clear O0
    obtain ⟨k, hk, rfl, HO, hbel⟩ := hrel
    obtain ⟨oa, on, oc, ho, HON⟩ := HO.out.parts; obtain rfl := ho
    have hlk : ((l.take k).filter (fun r => !isFaceR f r)).length ≤ k := by exact filter_take_le hk
    by_cases hlt : k < l.length
    · obtain ⟨qb, qo, rfl, qc0, qc1, qc2, qr, Aq0, Aq1, Aq2⟩ := Rep.get3 (HL.out.1.below hbel) hlt rfl
      have hbd := Rep.raw_bdd HL.out hlt
      have hfy := fun q => filter_yes (p := (fun r => !isFaceR f r)) hlt q
      have hfn := fun q => filter_no (p := (fun r => !isFaceR f r)) hlt q
      generalize l[k] = x at *
      have HFY := Lib.hid hfy; have HFN := Lib.hid hfn; clear hfy hfn
      obtain ⟨x0, x1, x2⟩ := x
      obtain ⟨qv0, qhe, q_0, q_1, q_2, q_3⟩ := RRoute_raw qr
      simp only [List.cons.injEq, and_true] at qhe
      obtain ⟨rfl, rfl, rfl⟩ := qhe
      obtain ⟨qa0, qp0, qh0, ql0⟩ := Rep.len_raw q_1; obtain rfl : qc0 = _ := by simpa using qh0
      clear qh0
      cases hq : x1 != f
      · have HT := Lib.hid (HFN.out hq)
        clear HFY HFN
        go_wp2
        go_roundw
        case rel => exact ⟨k + 1, by omega, by go_num, Lib.hid (HO.out.cast HT.out.symm), hbel⟩
        case measure => simp [intOf]; omega
      · have HSN := Lib.hid (HFY.out hq)
        clear HFY HFN
        have px0 : RName.rd wr _ x0 := ⟨q_0, hbd.1⟩
        go_wp2_with fail
        refine (specl4Copy_c px0).mono ?_
        rintro e wT ⟨tc, rfl, OT, hbT⟩
        obtain ⟨tv0, rfl, t_0⟩ := RName_raw OT.raw
        obtain ⟨ta0, tp0, th0, _⟩ := Rep.len_raw t_0; obtain rfl : tv0 = _ := (by simpa using th0)
        clear th0 t_0
        go_upto_region 7 with fail
        generalize hwC : World.alloc wT _ = wC
        have EC : Below wT.heap.size wT wC := by rw [← hwC]; exact (Below.refl _ _).alloc (Nat.le_refl _) _
        have K0 : wC.cell? ⟨wT.heap.size, 0, none⟩ = some (.slice ta0 x0.length tp0) := by rw [← hwC]; simp [go_sem]
        clear hwC
        have ER := hbT.trans (EC.mono hbT.size)
        replace Aq0 := cell_later ER Aq0
        replace Aq1 := cell_later ER Aq1
        replace Aq2 := cell_later ER Aq2
        refine wp_region_soft_tail (fun W => Below wC.heap.size wC W) [true, true, true, true, true, true, true, true, true, true, true, true, true, false] (by kernel_rfl) (by kernel_rfl) (fun c a d v w h => by cases d <;> exact h) ((Below.refl _ _).drew) ?_
        intro wS HS
        all_goals first | (refine soft_pass rfl HS ?_) | (refine soft_read (v := ?_) rfl (fun W hW => ?_) ?_; rotate_left; (· go_simp; try with_reducible rfl))
        all_goals try simp only [Act.put, List.setIfInBounds_toArray, List.set_cons_zero, List.set_cons_succ]
        all_goals first | (refine soft_pass rfl HS ?_) | (refine soft_read (v := ?_) rfl (fun W hW => ?_) ?_; rotate_left; (· have A_K0 := cell_later hW K0; have A_Aq0 := cell_later hW Aq0; have A_Aq1 := cell_later hW Aq1; have A_Aq2 := cell_later hW Aq2; clear hW; go_simp; try with_reducible rfl))
        all_goals try simp only [Act.put, List.setIfInBounds_toArray, List.set_cons_zero, List.set_cons_succ]
        all_goals first | (refine soft_pass rfl HS ?_) | (refine soft_read (v := ?_) rfl (fun W hW => ?_) ?_; rotate_left; (· go_simp; try with_reducible rfl))
        all_goals try simp only [Act.put, List.setIfInBounds_toArray, List.set_cons_zero, List.set_cons_succ]
        all_goals first | (refine soft_pass rfl HS ?_) | (refine soft_read (v := ?_) rfl (fun W hW => ?_) ?_; rotate_left; (· go_simp; try with_reducible rfl))
        all_goals try simp only [Act.put, List.setIfInBounds_toArray, List.set_cons_zero, List.set_cons_succ]
        all_goals first | (refine soft_pass rfl HS ?_) | (refine soft_read (v := ?_) rfl (fun W hW => ?_) ?_; rotate_left; (· go_simp; try with_reducible rfl))
        all_goals try simp only [Act.put, List.setIfInBounds_toArray, List.set_cons_zero, List.set_cons_succ]
        all_goals first | (refine soft_pass rfl HS ?_) | (refine soft_read (v := ?_) rfl (fun W hW => ?_) ?_; rotate_left; (· go_simp; try with_reducible rfl))
        all_goals try simp only [Act.put, List.setIfInBounds_toArray, List.set_cons_zero, List.set_cons_succ]
        all_goals first | (refine soft_pass rfl HS ?_) | (refine soft_read (v := ?_) rfl (fun W hW => ?_) ?_; rotate_left; (· have A_K0 := cell_later hW K0; have A_Aq0 := cell_later hW Aq0; have A_Aq1 := cell_later hW Aq1; have A_Aq2 := cell_later hW Aq2; clear hW; go_simp; try with_reducible rfl))
        all_goals try simp only [Act.put, List.setIfInBounds_toArray, List.set_cons_zero, List.set_cons_succ]
        all_goals first | (refine soft_pass rfl HS ?_) | (refine soft_read (v := ?_) rfl (fun W hW => ?_) ?_; rotate_left; (· go_simp; try with_reducible rfl))
        all_goals try simp only [Act.put, List.setIfInBounds_toArray, List.set_cons_zero, List.set_cons_succ]
        all_goals first | (refine soft_pass rfl HS ?_) | (refine soft_read (v := ?_) rfl (fun W hW => ?_) ?_; rotate_left; (· go_simp; try with_reducible rfl))
        all_goals try simp only [Act.put, List.setIfInBounds_toArray, List.set_cons_zero, List.set_cons_succ]
        all_goals first | (refine soft_pass rfl HS ?_) | (refine soft_read (v := ?_) rfl (fun W hW => ?_) ?_; rotate_left; (· go_simp; try with_reducible rfl))
        all_goals try simp only [Act.put, List.setIfInBounds_toArray, List.set_cons_zero, List.set_cons_succ]
        all_goals first | (refine soft_pass rfl HS ?_) | (refine soft_read (v := ?_) rfl (fun W hW => ?_) ?_; rotate_left; (· go_simp; try with_reducible rfl))
        all_goals try simp only [Act.put, List.setIfInBounds_toArray, List.set_cons_zero, List.set_cons_succ]
        all_goals first | (refine soft_pass rfl HS ?_) | (refine soft_read (v := ?_) rfl (fun W hW => ?_) ?_; rotate_left; (· have A_K0 := cell_later hW K0; have A_Aq0 := cell_later hW Aq0; have A_Aq1 := cell_later hW Aq1; have A_Aq2 := cell_later hW Aq2; clear hW; go_simp; try with_reducible rfl))
        all_goals try simp only [Act.put, List.setIfInBounds_toArray, List.set_cons_zero, List.set_cons_succ]
        all_goals first | (refine soft_pass rfl HS ?_) | (refine soft_read (v := ?_) rfl (fun W hW => ?_) ?_; rotate_left; (· go_simp; try with_reducible rfl))
        all_goals try simp only [Act.put, List.setIfInBounds_toArray, List.set_cons_zero, List.set_cons_succ]
        all_goals first | (refine soft_pass rfl HS ?_) | (refine soft_do rfl (fun K hK => ?_); go_simp; refine hK _ _ (HS.alloc HS.size _) ?_; clear hK K)
        all_goals try simp only [Act.put, List.setIfInBounds_toArray, List.set_cons_zero, List.set_cons_succ]
        all_goals refine soft_rest ?_
        have hsW := HS.size
        have hsC := EC.size
        have hrC := hbel.size
        have hsT := hbT.size
        have hbS : Below wr.heap.size wr wS := ER.trans (HS.mono ER.size)
        replace HO := Lib.hid (HO.out.below hbS)
        have hbW := hbel.trans (hbS.mono hbel.size)
        go_wp2_with (at_builtin; refine Rep.wpList_pushB rfl _ _ 43 rfl (r := RRoute) (e := 88) Try.underlying43 infRoute rfl (by decide) (by decide) (B := w.heap.size) HO.out (by rfl) (by rfl) rfl (Rep.own.wide (T := Btw wr.heap.size wT.heap.size) (Rep.own_flat (OT.below (EC.trans (HS.mono EC.size))) (Rep.flat_pair (Rep.flat_int q_2) (Rep.flat_int q_3))) (fun j hj => ⟨by have := hj.1; omega, by have := hj.2; omega⟩)) rfl (fun j h1 h2 => by have p := h1.2; have q := h2.1; omega) (fun j hj => ⟨hj.1, by have := hj.2; omega⟩) (fun j hj => ⟨by have := hj.1; omega, by have := hj.2; omega⟩) (by omega) (by first | omega | (simp; omega)) ?_)
        intro v2 w2 hown2 hbel2 hz2
        replace hown2 := Rep.own0.cast hown2 (HSN.out.symm)
        have HO2 := Lib.hid hown2
        have hbel3 := hbW.trans hbel2
        clear hown2 HO hbel2
        go_wp2
        go_roundw
        case rel => exact ⟨k + 1, by omega, by go_num, HO2, hbel3⟩
        case measure => simp [intOf]; omega
    · obtain rfl : k = l.length := by omega
      go_wp2
      go_ret
      exact ⟨_, rfl, Rep.own0.cast HO.out (by rw [List.take_length]), hbel⟩
set_option maxRecDepth 100000 in
set_option maxHeartbeats 2000000 in
theorem implRemoveFace1_c {w : World} {cr : List Value} {r : LRoute} (hr : RRoute.raw w cr r) {f : Int} {Bf : Nat} (Af0 : w.cell? ⟨Bf, 0, none⟩ = some (.int .i64 f)) :
    Calls Try.prog 71 (#[.agg cr.toArray] ++ #[.pointer (some ⟨Bf, 0, none⟩)]) w fun e w' => e = .returned (.bool (isFaceR f r)) ∧ Below w.heap.size w w' := by
  have Hr := Lib.hid hr
  obtain ⟨frv0, rfl, fr_0, fr_1, fr_2, fr_3⟩ := RRoute_raw hr
  obtain ⟨fra0, frp0, frh0, frl0⟩ := Rep.len_raw fr_1; obtain rfl : frv0 = _ := by simpa using frh0
  clear frh0
  show Calls Try.prog 71 #[_, _] w _
  go_enter Try.func71, Try.ntmps71
  go_upto_region 1 with fail
  generalize hwB : World.alloc w _ = wB
  have EB : Below w.heap.size w wB := by rw [← hwB]; exact (by repeat (first | (with_reducible exact Below.refl _ _) | refine Below.alloc ?_ (by simp; try omega) _ | refine Below.drew ?_ | refine Below.setCell ?_ (by simp; try omega) _))
  have K2_0 : wB.cell? ⟨w.heap.size, 0, none⟩ = some (.slice fra0 (r.1).length frp0) := by rw [← hwB]; simp [go_sem]
  have K2_1 : wB.cell? ⟨w.heap.size, 1, none⟩ = some (.int .i64 r.2.1) := by rw [← hwB]; simp [go_sem]
  have K2_2 : wB.cell? ⟨w.heap.size, 2, none⟩ = some (.int .i64 r.2.2) := by rw [← hwB]; simp [go_sem]
  clear hwB
  replace Af0 := cell_later EB Af0
  refine wp_region_soft_plain (fun W => Below wB.heap.size wB W) [true, true, true, true, true] (Below.refl _ _) ?_
  intro wS HS
  all_goals first | (refine soft_pass rfl HS ?_) | (refine soft_read (v := ?_) rfl (fun W hW => ?_) ?_; rotate_left; (· go_simp; try with_reducible rfl))
  all_goals try simp only [Act.put, List.setIfInBounds_toArray, List.set_cons_zero, List.set_cons_succ]
  all_goals first | (refine soft_pass rfl HS ?_) | (refine soft_read (v := ?_) rfl (fun W hW => ?_) ?_; rotate_left; (· have A_K2_0 := cell_later hW K2_0; have A_K2_1 := cell_later hW K2_1; have A_K2_2 := cell_later hW K2_2; have A_Af0 := cell_later hW Af0; clear hW; go_simp; try with_reducible rfl))
  all_goals try simp only [Act.put, List.setIfInBounds_toArray, List.set_cons_zero, List.set_cons_succ]
  all_goals first | (refine soft_pass rfl HS ?_) | (refine soft_read (v := ?_) rfl (fun W hW => ?_) ?_; rotate_left; (· have A_K2_0 := cell_later hW K2_0; have A_K2_1 := cell_later hW K2_1; have A_K2_2 := cell_later hW K2_2; have A_Af0 := cell_later hW Af0; clear hW; go_simp; try with_reducible rfl))
  all_goals try simp only [Act.put, List.setIfInBounds_toArray, List.set_cons_zero, List.set_cons_succ]
  all_goals first | (refine soft_pass rfl HS ?_) | (refine soft_read (v := ?_) rfl (fun W hW => ?_) ?_; rotate_left; (· go_simp; try with_reducible rfl))
  all_goals try simp only [Act.put, List.setIfInBounds_toArray, List.set_cons_zero, List.set_cons_succ]
  all_goals first | (refine soft_pass rfl HS ?_; have hg4 := True.intro) | (refine soft_part (v := ?_) (b := ?_) rfl (fun W hW => ?_) ?_ (fun b hg4 => ?_); rotate_left; rotate_left; (· go_simp; try with_reducible rfl); (· with_reducible rfl); cases b; all_goals first | (exact Bool.noConfusion hg4) | (simp only [Bool.not_eq_true', Bool.not_eq_false'] at hg4) | skip)
  all_goals try simp only [Act.put, List.setIfInBounds_toArray, List.set_cons_zero, List.set_cons_succ]
  all_goals refine soft_nil ?_
  all_goals have EG := EB.trans (HS.mono EB.size)
  all_goals first
    | (have HT := Lib.hid (show (isFaceR f r) = false by simp only [isFaceR, Bool.not_true, Bool.not_false, Bool.and_true, Bool.true_and, Bool.and_false, Bool.false_and, Bool.or_true, Bool.true_or, Bool.or_false, Bool.false_or, Bool.not_not, hg4]); go_wp2; go_ret; exact ⟨ret_bool HT.out.symm, EG⟩)
    | (have HT := Lib.hid (show (isFaceR f r) = true by simp only [isFaceR, Bool.not_true, Bool.not_false, Bool.and_true, Bool.true_and, Bool.and_false, Bool.false_and, Bool.or_true, Bool.true_or, Bool.or_false, Bool.false_or, Bool.not_not, hg4]); go_wp2; go_ret; exact ⟨ret_bool HT.out.symm, EG⟩)
theorem callable_implRemoveFace1 : Callable Try.prog 71 := callable_of Try.func71 (by kernel_rfl) (by kernel_rfl)
set_option maxHeartbeats 1000000 in
theorem implRemoveFace_o {w : World} {vl : Value} {l : List LRoute} (hl : (Rep.slice 88 RRoute).rd w [vl] l) {f : Int} :
    Calls Try.prog 26 #[vl, .int .i64 f] w (Made0 88 RRoute (l.filter (fun r => !isFaceR f r)) w) := by
  have HL := Lib.hid hl
  have hlb : l.length ≤ 16777216 := hl.2.1
  clear hl
  go_enter Try.func26, Try.ntmps26
  go_wp2_with fail
  generalize hwB : World.alloc w _ = wB
  have EB : Below w.heap.size w wB := by rw [← hwB]; exact (Below.refl _ _).alloc (Nat.le_refl _) _
  have hzB : wB.heap.size = w.heap.size + 1 := by rw [← hwB]; simp
  have K0 : wB.cell? ⟨w.heap.size, 0, none⟩ = some (.int .i64 f) := by rw [← hwB]; simp [go_sem]
  clear hwB
  refine (implcopyRoutes_c (HL.out.below EB)).mono ?_
  rintro e w1 ⟨v1, rfl, O1, hb1⟩
  have K1 := cell_later hb1 K0
  have hz1 := hb1.size
  go_wp2_with fail
  refine (DeleteFunc_Route_c (isFaceR f) callable_implRemoveFace1 O1 hlb (fun wr hb x cs hr => implRemoveFace1_c hr ?_)).mono ?_
  · have e1 : wr.heap[w.heap.size]? = w1.heap[w.heap.size]? := hb.block _ (by omega) (by intro q; have := q.1; omega)
    rw [← K1]
    unfold World.cell?
    simp only [e1]
  rintro e w2 ⟨v2, rfl, O2, T2⟩
  have hb2 : Below w.heap.size w w2 := (EB.trans (hb1.mono EB.size)).trans (T2.below (by omega) (fun j hj => by have := hj.1; omega))
  have hz2 := T2.size
  go_wp2
  go_ret
  exact ⟨_, rfl, O2.wide (fun j hj => ⟨by have := hj.1; omega, by have := hj.2; omega⟩), hb2⟩
theorem specRemoveFace_c {w : World} {vl : Value} {l : List LRoute} (hl : (Rep.slice 88 RRoute).rd w [vl] l) {f : Int} (hf : -9223372036854775808 ≤ f ∧ f ≤ 9223372036854775807) :
    Calls Try.prog 25 #[vl, .int .i64 f] w (MadePost (Rep.slice 88 RRoute) (l.filter (fun r => !isFaceR f r)) w) :=
  (specRemoveFace_o hl).mono fun e w1 h => h.post (Nat.le_trans (List.length_filter_le _ _) hl.2.1)
theorem implRemoveFace_c {w : World} {vl : Value} {l : List LRoute} (hl : (Rep.slice 88 RRoute).rd w [vl] l) {f : Int} (hf : -9223372036854775808 ≤ f ∧ f ≤ 9223372036854775807) :
    Calls Try.prog 26 #[vl, .int .i64 f] w (MadePost (Rep.slice 88 RRoute) (l.filter (fun r => !isFaceR f r)) w) :=
  (implRemoveFace_o hl).mono fun e w1 h => h.post (Nat.le_trans (List.length_filter_le _ _) hl.2.1)
end Go.Proofs.Ytclhapbahkjljaa
