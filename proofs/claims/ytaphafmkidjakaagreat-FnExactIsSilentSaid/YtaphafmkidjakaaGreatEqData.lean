/-
  Interests, data and what goes out: compared.
-/
import Derived.Test.YtaphafmkidjakaaGreatName
import Derived.Test.YtaphafmkidjakaaGreatLibEq
import Derived.Test.YtaphafmkidjakaaGreatNum
import Derived.IntWalk
import Derived.Deep.Cut
import Derived.WalkSpells
import Derived.WalkLawsBesides
import Derived.Laws.IdiomStrings
import Derived.Laws.BytesArg
namespace Go.Proofs.YtaphafmkidjakaaGreat
open Go.RowKit
set_option linter.unusedVariables false
set_option linter.unusedSimpArgs false
set_option linter.unnecessarySimpa false
theorem conv_bytes {P : Program} {w : World} {src e dst : TypeId} (hs : P.underlying src = some (.slice e)) (he : P.underlying e = some (.int .u8)) (hd : P.underlying dst = some .string) {xs : List UInt8} {a : Option Addr} {len cap : Nat} (h : (Rep.slice e Rep.byte).raw w [.slice a len cap] xs) :
    (convert src dst (.slice a len cap)).run P w = .ok (.string ⟨xs.toArray⟩) w := by
  obtain ⟨aa, pp, hv, _⟩ := Rep.len_raw h
  simp only [List.cons.injEq, Value.slice.injEq, and_true] at hv
  obtain ⟨rfl, rfl, rfl⟩ := hv
  by_cases h0 : xs = []
  · subst h0
    cases a with
    | none => have h2 := run_convert_bytes_string w src dst e none 0 cap hs he hd; exact h2.trans rfl
    | some a => exact run_convert_bytes_back w src dst e a cap [] hs he hd (fun j hj => by simp at hj)
  · have hp : 0 < xs.length := List.length_pos_iff.2 h0
    obtain ⟨b, off, rfl, _⟩ := Rep.get1 h hp rfl
    refine run_convert_bytes_back w src dst e ⟨b, off, none⟩ cap xs hs he hd (fun j hj => ?_)
    obtain ⟨b', off', hE, c0, hr, hc⟩ := Rep.get1 h hj rfl
    simp only [Option.some.injEq, Addr.mk.injEq, and_true] at hE
    obtain ⟨rfl, rfl⟩ := hE
    have hq := Rep.byte_raw hr
    obtain rfl : c0 = _ := by simpa using hq
    have hadd : (⟨b, off, none⟩ : Addr).add j = ⟨b, off + j, none⟩ := by unfold Addr.add; split <;> simp_all
    rw [hadd]
    exact hc
theorem bytes_eq (a b : List UInt8) : ((⟨a.toArray⟩ : ByteArray).toList == (⟨b.toArray⟩ : ByteArray).toList) = decide (a = b) := by
  rw [ba_beq, Bool.eq_iff_iff]
  simp
set_option maxHeartbeats 400000 in
theorem specEqualBytes_c {w : World} {va vb : Value} {a b : List UInt8} (a_0 : (Rep.slice 5 Rep.byte).raw w [va] a) (b_0 : (Rep.slice 5 Rep.byte).raw w [vb] b) :
    Calls Tryz.prog 200 #[va, vb] w fun e w' => e = .returned (.bool (decide (a = b))) ∧ Below w.heap.size w w' := by
  obtain ⟨aa, capa, hva, la⟩ := Rep.len_raw a_0; obtain rfl : va = _ := by simpa using hva
  obtain ⟨ab, capb, hvb, lb⟩ := Rep.len_raw b_0; obtain rfl : vb = _ := by simpa using hvb
  clear hva hvb
  have h1 := conv_bytes (P := Tryz.prog) (dst := 9) Tryz.underlying61 Tryz.underlying5 Tryz.underlying9 a_0
  have h2 := conv_bytes (P := Tryz.prog) (dst := 9) Tryz.underlying61 Tryz.underlying5 Tryz.underlying9 b_0
  have HE := Lib.hid (bytes_eq a b)
  generalize hsa : (⟨a.toArray⟩ : ByteArray) = sa at *
  generalize hsb : (⟨b.toArray⟩ : ByteArray) = sb at *
  clear hsa hsb a_0 b_0
  go_enter Tryz.func200, Tryz.ntmps200
  go_wp2
  go_ret
  exact ⟨ret_bool HE.out, Below.refl _ _⟩
set_option maxHeartbeats 1000000 in
theorem Equal_byte_c {w : World} {va vb : Value} {a b : List UInt8} (a_0 : (Rep.slice 5 Rep.byte).raw w [va] a) (b_0 : (Rep.slice 5 Rep.byte).raw w [vb] b) :
    Calls Tryz.prog 180 #[va, vb] w fun e w' => e = .returned (.bool (decide (a = b))) ∧ Below w.heap.size w w' := by
  obtain ⟨aa, capa, hva, la⟩ := Rep.len_raw a_0; obtain rfl : va = _ := by simpa using hva
  obtain ⟨ab, capb, hvb, lb⟩ := Rep.len_raw b_0; obtain rfl : vb = _ := by simpa using hvb
  clear hva hvb
  go_enter Tryz.func180, Tryz.ntmps180
  by_cases hl : a.length = b.length
  case neg =>
    have HT := Lib.hid (show decide (a = b) = false by simp; rintro rfl; exact hl rfl)
    have hz : ((a.length : Int) != b.length) = true := by simp; omega
    have hzn : (a.length != b.length) = true := by simpa using hl
    go_wp2
    go_ret
    exact ⟨ret_bool HT.out.symm, Below.refl _ _⟩
  have hz : ((a.length : Int) != b.length) = false := by simp; omega
  have hzn : (a.length != b.length) = false := by simpa using hl
  have HL := Lib.hid hl; clear hl
  go_wp2
  go_loopw [13] (fun i wr => ∃ k : Nat, k ≤ a.length ∧ i = .int .i64 k ∧ Hid (a.take k = b.take k) ∧ Below w.heap.size w wr) (fun i _ => a.length - (intOf i).toNat)
  case atStart => exact ⟨0, Nat.zero_le _, rfl, Lib.hid rfl, Below.refl _ _⟩
  case round =>
    obtain ⟨k, hk, rfl, HN, hbel⟩ := hrel
    by_cases hlt : k < a.length
    · have hlt2 : k < b.length := by have := HL.out; omega
      obtain ⟨ba, offa, rfl, c0, hr, A0⟩ := Rep.get1 (a_0.below hbel) hlt rfl
      obtain ⟨bb, offb, rfl, d0, hr2, B0⟩ := Rep.get1 (b_0.below hbel) hlt2 rfl
      have he := Rep.byte_raw hr
      obtain rfl : c0 = _ := by simpa using he
      have he2 := Rep.byte_raw hr2
      obtain rfl : d0 = _ := by simpa using he2
      clear he he2 hr hr2
      have hne := fun q => ne_of_get hlt hlt2 q
      have hnx := fun q => take_eq_succ HN.out hlt hlt2 q
      generalize a[k] = x at *
      generalize b[k] = y at *
      have HD := Lib.hid hne
      have HX := Lib.hid hnx
      clear hne hnx
      go_wp2_with fail
      refine wp_region_soft (fun W => Below wr.heap.size wr W) [true, true, true, true, true, true, true, true, true] (by kernel_rfl) (by kernel_rfl) (fun c a d v w h => by cases d <;> exact h) ((Below.refl _ _).drew) ?_
      intro wS HS
      all_goals first | (refine soft_pass rfl HS ?_) | (refine soft_read (v := ?_) rfl (fun W hW => ?_) ?_; rotate_left; (· go_simp; try with_reducible rfl))
      all_goals try simp only [Act.put, List.setIfInBounds_toArray, List.set_cons_zero, List.set_cons_succ]
      all_goals first | (refine soft_pass rfl HS ?_) | (refine soft_read (v := ?_) rfl (fun W hW => ?_) ?_; rotate_left; (· go_simp; try with_reducible rfl))
      all_goals try simp only [Act.put, List.setIfInBounds_toArray, List.set_cons_zero, List.set_cons_succ]
      all_goals first | (refine soft_pass rfl HS ?_) | (refine soft_read (v := ?_) rfl (fun W hW => ?_) ?_; rotate_left; (· go_simp; try with_reducible rfl))
      all_goals try simp only [Act.put, List.setIfInBounds_toArray, List.set_cons_zero, List.set_cons_succ]
      all_goals first | (refine soft_pass rfl HS ?_) | (refine soft_read (v := ?_) rfl (fun W hW => ?_) ?_; rotate_left; (· have A_A0 := cell_later hW A0; have A_B0 := cell_later hW B0; clear hW; go_simp; try with_reducible rfl))
      all_goals try simp only [Act.put, List.setIfInBounds_toArray, List.set_cons_zero, List.set_cons_succ]
      all_goals first | (refine soft_pass rfl HS ?_) | (refine soft_read (v := ?_) rfl (fun W hW => ?_) ?_; rotate_left; (· go_simp; try with_reducible rfl))
      all_goals try simp only [Act.put, List.setIfInBounds_toArray, List.set_cons_zero, List.set_cons_succ]
      all_goals first | (refine soft_pass rfl HS ?_) | (refine soft_read (v := ?_) rfl (fun W hW => ?_) ?_; rotate_left; (· go_simp; try with_reducible rfl))
      all_goals try simp only [Act.put, List.setIfInBounds_toArray, List.set_cons_zero, List.set_cons_succ]
      all_goals first | (refine soft_pass rfl HS ?_) | (refine soft_read (v := ?_) rfl (fun W hW => ?_) ?_; rotate_left; (· go_simp; try with_reducible rfl))
      all_goals try simp only [Act.put, List.setIfInBounds_toArray, List.set_cons_zero, List.set_cons_succ]
      all_goals first | (refine soft_pass rfl HS ?_) | (refine soft_read (v := ?_) rfl (fun W hW => ?_) ?_; rotate_left; (· have A_A0 := cell_later hW A0; have A_B0 := cell_later hW B0; clear hW; go_simp; try with_reducible rfl))
      all_goals try simp only [Act.put, List.setIfInBounds_toArray, List.set_cons_zero, List.set_cons_succ]
      all_goals first | (refine soft_pass rfl HS ?_) | (refine soft_read (v := ?_) rfl (fun W hW => ?_) ?_; rotate_left; (· go_simp; try with_reducible rfl))
      all_goals try simp only [Act.put, List.setIfInBounds_toArray, List.set_cons_zero, List.set_cons_succ]
      all_goals refine soft_nil ?_
      have EG := hbel.trans (HS.mono hbel.size)
      cases hz : ((x.toNat : Int) == (y.toNat : Int))
      · have HT := Lib.hid (show decide (a = b) = false by
          simp at hz; simp; exact HD.out (fun q => hz (by rw [q])))
        clear HD HX
        go_wp2
        go_ret
        exact ⟨ret_bool HT.out.symm, EG⟩
      · have HT := Lib.hid (HX.out (u8_inj (by simpa using hz)))
        clear HD HX
        go_wp2
        go_roundw
        case rel => exact ⟨k + 1, by omega, by go_num, HT, EG⟩
        case measure => simp [intOf]; omega
    · have HT := Lib.hid (show decide (a = b) = true by simp; exact eq_of_take HN.out hlt HL.out)
      go_wp2
      go_ret
      exact ⟨ret_bool HT.out.symm, hbel⟩
def vData (x y : LData) : Bool := (((eqN x.1 y.1 && decide (x.2.1 = y.2.1)) && eqN x.2.2.1 y.2.2.1) && (x.2.2.2.1 == y.2.2.2.1)) && (x.2.2.2.2 == y.2.2.2.2)
theorem vData_eq (x y : LData) : vData x y = decide (x = y) := by
  obtain ⟨x0, x1, x2, x3, x4⟩ := x
  obtain ⟨y0, y1, y2, y3, y4⟩ := y
  rw [Bool.eq_iff_iff]
  simp [vData, eqN, and_assoc]
set_option maxRecDepth 100000 in
set_option maxHeartbeats 2000000 in
theorem specEqualData_v {w : World} {cx : List Value} {x : LData} (hx : RData.raw w cx x) {cy : List Value} {y : LData} (hy : RData.raw w cy y) :
    Calls Tryz.prog 178 #[.agg cx.toArray, .agg cy.toArray] w fun e w' => e = .returned (.bool (vData x y)) ∧ Below w.heap.size w w' := by
  have Hx := Lib.hid hx
  obtain ⟨fxv0, fxv1, fxv2, rfl, fx_0, fx_1, fx_2, fx_3, fx_4, fx_5, fx_6⟩ := RData_raw hx
  obtain ⟨fxa0, fxp0, fxh0, fxl0⟩ := Rep.len_raw fx_1; obtain rfl : fxv0 = _ := by simpa using fxh0
  clear fxh0
  obtain ⟨fxa1, fxp1, fxh1, fxl1⟩ := Rep.len_raw fx_2; obtain rfl : fxv1 = _ := by simpa using fxh1
  clear fxh1
  obtain ⟨fxa2, fxp2, fxh2, fxl2⟩ := Rep.len_raw fx_4; obtain rfl : fxv2 = _ := by simpa using fxh2
  clear fxh2
  have Hy := Lib.hid hy
  obtain ⟨fyv0, fyv1, fyv2, rfl, fy_0, fy_1, fy_2, fy_3, fy_4, fy_5, fy_6⟩ := RData_raw hy
  obtain ⟨fya0, fyp0, fyh0, fyl0⟩ := Rep.len_raw fy_1; obtain rfl : fyv0 = _ := by simpa using fyh0
  clear fyh0
  obtain ⟨fya1, fyp1, fyh1, fyl1⟩ := Rep.len_raw fy_2; obtain rfl : fyv1 = _ := by simpa using fyh1
  clear fyh1
  obtain ⟨fya2, fyp2, fyh2, fyl2⟩ := Rep.len_raw fy_4; obtain rfl : fyv2 = _ := by simpa using fyh2
  clear fyh2
  go_enter Tryz.func178, Tryz.ntmps178
  go_upto_region 1 with fail
  generalize hwB : World.alloc (World.alloc w _) _ = wB
  have EB : Below w.heap.size w wB := by rw [← hwB]; exact (by repeat (first | (with_reducible exact Below.refl _ _) | refine Below.alloc ?_ (by simp; try omega) _ | refine Below.drew ?_ | refine Below.setCell ?_ (by simp; try omega) _))
  have K2_0 : wB.cell? ⟨w.heap.size, 0, none⟩ = some (.slice fxa0 (x.1).length fxp0) := by rw [← hwB]; simp [go_sem]
  have K2_1 : wB.cell? ⟨w.heap.size, 1, none⟩ = some (.slice fxa1 (x.2.1).length fxp1) := by rw [← hwB]; simp [go_sem]
  have K2_2 : wB.cell? ⟨w.heap.size, 2, none⟩ = some (.slice fxa2 (x.2.2.1).length fxp2) := by rw [← hwB]; simp [go_sem]
  have K2_3 : wB.cell? ⟨w.heap.size, 3, none⟩ = some (.int .i64 x.2.2.2.1) := by rw [← hwB]; simp [go_sem]
  have K2_4 : wB.cell? ⟨w.heap.size, 4, none⟩ = some (.int .i64 x.2.2.2.2) := by rw [← hwB]; simp [go_sem]
  have K3_0 : wB.cell? ⟨w.heap.size + 1, 0, none⟩ = some (.slice fya0 (y.1).length fyp0) := by rw [← hwB]; simp [go_sem]
  have K3_1 : wB.cell? ⟨w.heap.size + 1, 1, none⟩ = some (.slice fya1 (y.2.1).length fyp1) := by rw [← hwB]; simp [go_sem]
  have K3_2 : wB.cell? ⟨w.heap.size + 1, 2, none⟩ = some (.slice fya2 (y.2.2.1).length fyp2) := by rw [← hwB]; simp [go_sem]
  have K3_3 : wB.cell? ⟨w.heap.size + 1, 3, none⟩ = some (.int .i64 y.2.2.2.1) := by rw [← hwB]; simp [go_sem]
  have K3_4 : wB.cell? ⟨w.heap.size + 1, 4, none⟩ = some (.int .i64 y.2.2.2.2) := by rw [← hwB]; simp [go_sem]
  clear hwB
  refine wp_region_soft_plain (fun W => Below wB.heap.size wB W) [true, true, true, true, false, true, true, true, true, true, false, true, true, true, true, true, true, false, true, true, true, true, true, true, true, true, true, true, true, true, true, true, true, true] (Below.refl _ _) ?_
  intro wS HS
  all_goals first | (refine soft_pass rfl HS ?_) | (refine soft_read (v := ?_) rfl (fun W hW => ?_) ?_; rotate_left; (· go_simp; try with_reducible rfl))
  all_goals try simp only [Act.put, List.setIfInBounds_toArray, List.set_cons_zero, List.set_cons_succ]
  all_goals first | (refine soft_pass rfl HS ?_) | (refine soft_read (v := ?_) rfl (fun W hW => ?_) ?_; rotate_left; (· have A_K2_0 := cell_later hW K2_0; have A_K2_1 := cell_later hW K2_1; have A_K2_2 := cell_later hW K2_2; have A_K2_3 := cell_later hW K2_3; have A_K2_4 := cell_later hW K2_4; have A_K3_0 := cell_later hW K3_0; have A_K3_1 := cell_later hW K3_1; have A_K3_2 := cell_later hW K3_2; have A_K3_3 := cell_later hW K3_3; have A_K3_4 := cell_later hW K3_4; clear hW; go_simp; try with_reducible rfl))
  all_goals try simp only [Act.put, List.setIfInBounds_toArray, List.set_cons_zero, List.set_cons_succ]
  all_goals first | (refine soft_pass rfl HS ?_) | (refine soft_read (v := ?_) rfl (fun W hW => ?_) ?_; rotate_left; (· go_simp; try with_reducible rfl))
  all_goals try simp only [Act.put, List.setIfInBounds_toArray, List.set_cons_zero, List.set_cons_succ]
  all_goals first | (refine soft_pass rfl HS ?_) | (refine soft_read (v := ?_) rfl (fun W hW => ?_) ?_; rotate_left; (· have A_K2_0 := cell_later hW K2_0; have A_K2_1 := cell_later hW K2_1; have A_K2_2 := cell_later hW K2_2; have A_K2_3 := cell_later hW K2_3; have A_K2_4 := cell_later hW K2_4; have A_K3_0 := cell_later hW K3_0; have A_K3_1 := cell_later hW K3_1; have A_K3_2 := cell_later hW K3_2; have A_K3_3 := cell_later hW K3_3; have A_K3_4 := cell_later hW K3_4; clear hW; go_simp; try with_reducible rfl))
  all_goals try simp only [Act.put, List.setIfInBounds_toArray, List.set_cons_zero, List.set_cons_succ]
  all_goals first | (refine soft_pass rfl HS ?_) | (refine soft_do rfl (fun K hK => ?_); go_simp; refine (specEqualNames_c (Rep.raw.below fx_0 (EB.trans (HS.mono EB.size))) (Rep.raw.below fy_0 (EB.trans (HS.mono EB.size)))).mono ?_; rintro e wS1 ⟨rfl, hbS⟩; replace HS := HS.trans (hbS.mono HS.size); refine hK _ _ HS ?_; clear hK K hbS)
  all_goals try simp only [Act.put, List.setIfInBounds_toArray, List.set_cons_zero, List.set_cons_succ]
  all_goals first | (refine soft_pass rfl HS ?_; have hg5 := True.intro) | (refine soft_part (v := ?_) (b := ?_) rfl (fun W hW => ?_) ?_ (fun b hg5 => ?_); rotate_left; rotate_left; (· go_simp; try with_reducible rfl); (· with_reducible rfl); cases b; all_goals first | (exact Bool.noConfusion hg5) | (simp only [Bool.not_eq_true', Bool.not_eq_false'] at hg5) | skip)
  all_goals try simp only [Act.put, List.setIfInBounds_toArray, List.set_cons_zero, List.set_cons_succ]
  all_goals first | (refine soft_pass rfl HS ?_) | (refine soft_read (v := ?_) rfl (fun W hW => ?_) ?_; rotate_left; (· go_simp; try with_reducible rfl))
  all_goals try simp only [Act.put, List.setIfInBounds_toArray, List.set_cons_zero, List.set_cons_succ]
  all_goals first | (refine soft_pass rfl HS ?_) | (refine soft_read (v := ?_) rfl (fun W hW => ?_) ?_; rotate_left; (· have A_K2_0 := cell_later hW K2_0; have A_K2_1 := cell_later hW K2_1; have A_K2_2 := cell_later hW K2_2; have A_K2_3 := cell_later hW K2_3; have A_K2_4 := cell_later hW K2_4; have A_K3_0 := cell_later hW K3_0; have A_K3_1 := cell_later hW K3_1; have A_K3_2 := cell_later hW K3_2; have A_K3_3 := cell_later hW K3_3; have A_K3_4 := cell_later hW K3_4; clear hW; go_simp; try with_reducible rfl))
  all_goals try simp only [Act.put, List.setIfInBounds_toArray, List.set_cons_zero, List.set_cons_succ]
  all_goals first | (refine soft_pass rfl HS ?_) | (refine soft_read (v := ?_) rfl (fun W hW => ?_) ?_; rotate_left; (· go_simp; try with_reducible rfl))
  all_goals try simp only [Act.put, List.setIfInBounds_toArray, List.set_cons_zero, List.set_cons_succ]
  all_goals first | (refine soft_pass rfl HS ?_) | (refine soft_read (v := ?_) rfl (fun W hW => ?_) ?_; rotate_left; (· have A_K2_0 := cell_later hW K2_0; have A_K2_1 := cell_later hW K2_1; have A_K2_2 := cell_later hW K2_2; have A_K2_3 := cell_later hW K2_3; have A_K2_4 := cell_later hW K2_4; have A_K3_0 := cell_later hW K3_0; have A_K3_1 := cell_later hW K3_1; have A_K3_2 := cell_later hW K3_2; have A_K3_3 := cell_later hW K3_3; have A_K3_4 := cell_later hW K3_4; clear hW; go_simp; try with_reducible rfl))
  all_goals try simp only [Act.put, List.setIfInBounds_toArray, List.set_cons_zero, List.set_cons_succ]
  all_goals first | (refine soft_pass rfl HS ?_) | (refine soft_do rfl (fun K hK => ?_); go_simp; refine (specEqualBytes_c (Rep.raw.below fx_2 (EB.trans (HS.mono EB.size))) (Rep.raw.below fy_2 (EB.trans (HS.mono EB.size)))).mono ?_; rintro e wS1 ⟨rfl, hbS⟩; replace HS := HS.trans (hbS.mono HS.size); refine hK _ _ HS ?_; clear hK K hbS)
  all_goals try simp only [Act.put, List.setIfInBounds_toArray, List.set_cons_zero, List.set_cons_succ]
  all_goals first | (refine soft_pass rfl HS ?_) | (refine soft_read (v := ?_) rfl (fun W hW => ?_) ?_; rotate_left; (· go_simp; try with_reducible rfl))
  all_goals try simp only [Act.put, List.setIfInBounds_toArray, List.set_cons_zero, List.set_cons_succ]
  all_goals first | (refine soft_pass rfl HS ?_; have hg12 := True.intro) | (refine soft_part (v := ?_) (b := ?_) rfl (fun W hW => ?_) ?_ (fun b hg12 => ?_); rotate_left; rotate_left; (· go_simp; try with_reducible rfl); (· with_reducible rfl); cases b; all_goals first | (exact Bool.noConfusion hg12) | (simp only [Bool.not_eq_true', Bool.not_eq_false'] at hg12) | skip)
  all_goals try simp only [Act.put, List.setIfInBounds_toArray, List.set_cons_zero, List.set_cons_succ]
  all_goals first | (refine soft_pass rfl HS ?_) | (refine soft_read (v := ?_) rfl (fun W hW => ?_) ?_; rotate_left; (· go_simp; try with_reducible rfl))
  all_goals try simp only [Act.put, List.setIfInBounds_toArray, List.set_cons_zero, List.set_cons_succ]
  all_goals first | (refine soft_pass rfl HS ?_) | (refine soft_read (v := ?_) rfl (fun W hW => ?_) ?_; rotate_left; (· have A_K2_0 := cell_later hW K2_0; have A_K2_1 := cell_later hW K2_1; have A_K2_2 := cell_later hW K2_2; have A_K2_3 := cell_later hW K2_3; have A_K2_4 := cell_later hW K2_4; have A_K3_0 := cell_later hW K3_0; have A_K3_1 := cell_later hW K3_1; have A_K3_2 := cell_later hW K3_2; have A_K3_3 := cell_later hW K3_3; have A_K3_4 := cell_later hW K3_4; clear hW; go_simp; try with_reducible rfl))
  all_goals try simp only [Act.put, List.setIfInBounds_toArray, List.set_cons_zero, List.set_cons_succ]
  all_goals first | (refine soft_pass rfl HS ?_) | (refine soft_read (v := ?_) rfl (fun W hW => ?_) ?_; rotate_left; (· go_simp; try with_reducible rfl))
  all_goals try simp only [Act.put, List.setIfInBounds_toArray, List.set_cons_zero, List.set_cons_succ]
  all_goals first | (refine soft_pass rfl HS ?_) | (refine soft_read (v := ?_) rfl (fun W hW => ?_) ?_; rotate_left; (· have A_K2_0 := cell_later hW K2_0; have A_K2_1 := cell_later hW K2_1; have A_K2_2 := cell_later hW K2_2; have A_K2_3 := cell_later hW K2_3; have A_K2_4 := cell_later hW K2_4; have A_K3_0 := cell_later hW K3_0; have A_K3_1 := cell_later hW K3_1; have A_K3_2 := cell_later hW K3_2; have A_K3_3 := cell_later hW K3_3; have A_K3_4 := cell_later hW K3_4; clear hW; go_simp; try with_reducible rfl))
  all_goals try simp only [Act.put, List.setIfInBounds_toArray, List.set_cons_zero, List.set_cons_succ]
  all_goals first | (refine soft_pass rfl HS ?_) | (refine soft_do rfl (fun K hK => ?_); go_simp; refine (specEqualNames_c (Rep.raw.below fx_3 (EB.trans (HS.mono EB.size))) (Rep.raw.below fy_3 (EB.trans (HS.mono EB.size)))).mono ?_; rintro e wS1 ⟨rfl, hbS⟩; replace HS := HS.trans (hbS.mono HS.size); refine hK _ _ HS ?_; clear hK K hbS)
  all_goals try simp only [Act.put, List.setIfInBounds_toArray, List.set_cons_zero, List.set_cons_succ]
  all_goals first | (refine soft_pass rfl HS ?_) | (refine soft_read (v := ?_) rfl (fun W hW => ?_) ?_; rotate_left; (· go_simp; try with_reducible rfl))
  all_goals try simp only [Act.put, List.setIfInBounds_toArray, List.set_cons_zero, List.set_cons_succ]
  all_goals first | (refine soft_pass rfl HS ?_; have hg19 := True.intro) | (refine soft_part (v := ?_) (b := ?_) rfl (fun W hW => ?_) ?_ (fun b hg19 => ?_); rotate_left; rotate_left; (· go_simp; try with_reducible rfl); (· with_reducible rfl); cases b; all_goals first | (exact Bool.noConfusion hg19) | (simp only [Bool.not_eq_true', Bool.not_eq_false'] at hg19) | skip)
  all_goals try simp only [Act.put, List.setIfInBounds_toArray, List.set_cons_zero, List.set_cons_succ]
  all_goals first | (refine soft_pass rfl HS ?_) | (refine soft_read (v := ?_) rfl (fun W hW => ?_) ?_; rotate_left; (· go_simp; try with_reducible rfl))
  all_goals try simp only [Act.put, List.setIfInBounds_toArray, List.set_cons_zero, List.set_cons_succ]
  all_goals first | (refine soft_pass rfl HS ?_) | (refine soft_read (v := ?_) rfl (fun W hW => ?_) ?_; rotate_left; (· have A_K2_0 := cell_later hW K2_0; have A_K2_1 := cell_later hW K2_1; have A_K2_2 := cell_later hW K2_2; have A_K2_3 := cell_later hW K2_3; have A_K2_4 := cell_later hW K2_4; have A_K3_0 := cell_later hW K3_0; have A_K3_1 := cell_later hW K3_1; have A_K3_2 := cell_later hW K3_2; have A_K3_3 := cell_later hW K3_3; have A_K3_4 := cell_later hW K3_4; clear hW; go_simp; try with_reducible rfl))
  all_goals try simp only [Act.put, List.setIfInBounds_toArray, List.set_cons_zero, List.set_cons_succ]
  all_goals first | (refine soft_pass rfl HS ?_) | (refine soft_read (v := ?_) rfl (fun W hW => ?_) ?_; rotate_left; (· go_simp; try with_reducible rfl))
  all_goals try simp only [Act.put, List.setIfInBounds_toArray, List.set_cons_zero, List.set_cons_succ]
  all_goals first | (refine soft_pass rfl HS ?_) | (refine soft_read (v := ?_) rfl (fun W hW => ?_) ?_; rotate_left; (· have A_K2_0 := cell_later hW K2_0; have A_K2_1 := cell_later hW K2_1; have A_K2_2 := cell_later hW K2_2; have A_K2_3 := cell_later hW K2_3; have A_K2_4 := cell_later hW K2_4; have A_K3_0 := cell_later hW K3_0; have A_K3_1 := cell_later hW K3_1; have A_K3_2 := cell_later hW K3_2; have A_K3_3 := cell_later hW K3_3; have A_K3_4 := cell_later hW K3_4; clear hW; go_simp; try with_reducible rfl))
  all_goals try simp only [Act.put, List.setIfInBounds_toArray, List.set_cons_zero, List.set_cons_succ]
  all_goals first | (refine soft_pass rfl HS ?_) | (refine soft_read (v := ?_) rfl (fun W hW => ?_) ?_; rotate_left; (· go_simp; try with_reducible rfl))
  all_goals try simp only [Act.put, List.setIfInBounds_toArray, List.set_cons_zero, List.set_cons_succ]
  all_goals first | (refine soft_pass rfl HS ?_) | (refine soft_read (v := ?_) rfl (fun W hW => ?_) ?_; rotate_left; (· go_simp; try with_reducible rfl))
  all_goals try simp only [Act.put, List.setIfInBounds_toArray, List.set_cons_zero, List.set_cons_succ]
  all_goals first | (refine soft_pass rfl HS ?_; have hg26 := True.intro) | (refine soft_part (v := ?_) (b := ?_) rfl (fun W hW => ?_) ?_ (fun b hg26 => ?_); rotate_left; rotate_left; (· go_simp; try with_reducible rfl); (· with_reducible rfl); cases b; all_goals first | (exact Bool.noConfusion hg26) | (simp only [Bool.not_eq_true', Bool.not_eq_false'] at hg26) | skip)
  all_goals try simp only [Act.put, List.setIfInBounds_toArray, List.set_cons_zero, List.set_cons_succ]
  all_goals first | (refine soft_pass rfl HS ?_) | (refine soft_read (v := ?_) rfl (fun W hW => ?_) ?_; rotate_left; (· go_simp; try with_reducible rfl))
  all_goals try simp only [Act.put, List.setIfInBounds_toArray, List.set_cons_zero, List.set_cons_succ]
  all_goals first | (refine soft_pass rfl HS ?_) | (refine soft_read (v := ?_) rfl (fun W hW => ?_) ?_; rotate_left; (· have A_K2_0 := cell_later hW K2_0; have A_K2_1 := cell_later hW K2_1; have A_K2_2 := cell_later hW K2_2; have A_K2_3 := cell_later hW K2_3; have A_K2_4 := cell_later hW K2_4; have A_K3_0 := cell_later hW K3_0; have A_K3_1 := cell_later hW K3_1; have A_K3_2 := cell_later hW K3_2; have A_K3_3 := cell_later hW K3_3; have A_K3_4 := cell_later hW K3_4; clear hW; go_simp; try with_reducible rfl))
  all_goals try simp only [Act.put, List.setIfInBounds_toArray, List.set_cons_zero, List.set_cons_succ]
  all_goals first | (refine soft_pass rfl HS ?_) | (refine soft_read (v := ?_) rfl (fun W hW => ?_) ?_; rotate_left; (· go_simp; try with_reducible rfl))
  all_goals try simp only [Act.put, List.setIfInBounds_toArray, List.set_cons_zero, List.set_cons_succ]
  all_goals first | (refine soft_pass rfl HS ?_) | (refine soft_read (v := ?_) rfl (fun W hW => ?_) ?_; rotate_left; (· have A_K2_0 := cell_later hW K2_0; have A_K2_1 := cell_later hW K2_1; have A_K2_2 := cell_later hW K2_2; have A_K2_3 := cell_later hW K2_3; have A_K2_4 := cell_later hW K2_4; have A_K3_0 := cell_later hW K3_0; have A_K3_1 := cell_later hW K3_1; have A_K3_2 := cell_later hW K3_2; have A_K3_3 := cell_later hW K3_3; have A_K3_4 := cell_later hW K3_4; clear hW; go_simp; try with_reducible rfl))
  all_goals try simp only [Act.put, List.setIfInBounds_toArray, List.set_cons_zero, List.set_cons_succ]
  all_goals first | (refine soft_pass rfl HS ?_) | (refine soft_read (v := ?_) rfl (fun W hW => ?_) ?_; rotate_left; (· go_simp; try with_reducible rfl))
  all_goals try simp only [Act.put, List.setIfInBounds_toArray, List.set_cons_zero, List.set_cons_succ]
  all_goals first | (refine soft_pass rfl HS ?_) | (refine soft_read (v := ?_) rfl (fun W hW => ?_) ?_; rotate_left; (· go_simp; try with_reducible rfl))
  all_goals try simp only [Act.put, List.setIfInBounds_toArray, List.set_cons_zero, List.set_cons_succ]
  all_goals first | (refine soft_pass rfl HS ?_; have hg33 := True.intro) | (refine soft_part (v := ?_) (b := ?_) rfl (fun W hW => ?_) ?_ (fun b hg33 => ?_); rotate_left; rotate_left; (· go_simp; try with_reducible rfl); (· with_reducible rfl); cases b; all_goals first | (exact Bool.noConfusion hg33) | (simp only [Bool.not_eq_true', Bool.not_eq_false'] at hg33) | skip)
  all_goals try simp only [Act.put, List.setIfInBounds_toArray, List.set_cons_zero, List.set_cons_succ]
  all_goals refine soft_nil ?_
  all_goals have EG := EB.trans (HS.mono EB.size)
  all_goals first
    | (have HT := Lib.hid (show (vData x y) = false by simp only [vData, Bool.not_true, Bool.not_false, Bool.and_true, Bool.true_and, Bool.and_false, Bool.false_and, Bool.or_true, Bool.true_or, Bool.or_false, Bool.false_or, Bool.not_not, hg5, hg12, hg19, hg26, hg33]); go_wp2; go_ret; exact ⟨ret_bool HT.out.symm, EG⟩)
    | (have HT := Lib.hid (show (vData x y) = true by simp only [vData, Bool.not_true, Bool.not_false, Bool.and_true, Bool.true_and, Bool.and_false, Bool.false_and, Bool.or_true, Bool.true_or, Bool.or_false, Bool.false_or, Bool.not_not, hg5, hg12, hg19, hg26, hg33]); go_wp2; go_ret; exact ⟨ret_bool HT.out.symm, EG⟩)
theorem specEqualData_c {w : World} {cx : List Value} {x : LData} (hx : RData.raw w cx x) {cy : List Value} {y : LData} (hy : RData.raw w cy y) :
    Calls Tryz.prog 178 #[.agg cx.toArray, .agg cy.toArray] w fun e w' => e = .returned (.bool (decide (x = y))) ∧ Below w.heap.size w w' := by
  have h := specEqualData_v hx hy
  rw [vData_eq] at h
  exact h
set_option maxRecDepth 100000 in
set_option maxHeartbeats 2000000 in
theorem implEqualData_v {w : World} {cx : List Value} {x : LData} (hx : RData.raw w cx x) {cy : List Value} {y : LData} (hy : RData.raw w cy y) :
    Calls Tryz.prog 125 #[.agg cx.toArray, .agg cy.toArray] w fun e w' => e = .returned (.bool (vData x y)) ∧ Below w.heap.size w w' := by
  have Hx := Lib.hid hx
  obtain ⟨fxv0, fxv1, fxv2, rfl, fx_0, fx_1, fx_2, fx_3, fx_4, fx_5, fx_6⟩ := RData_raw hx
  obtain ⟨fxa0, fxp0, fxh0, fxl0⟩ := Rep.len_raw fx_1; obtain rfl : fxv0 = _ := by simpa using fxh0
  clear fxh0
  obtain ⟨fxa1, fxp1, fxh1, fxl1⟩ := Rep.len_raw fx_2; obtain rfl : fxv1 = _ := by simpa using fxh1
  clear fxh1
  obtain ⟨fxa2, fxp2, fxh2, fxl2⟩ := Rep.len_raw fx_4; obtain rfl : fxv2 = _ := by simpa using fxh2
  clear fxh2
  have Hy := Lib.hid hy
  obtain ⟨fyv0, fyv1, fyv2, rfl, fy_0, fy_1, fy_2, fy_3, fy_4, fy_5, fy_6⟩ := RData_raw hy
  obtain ⟨fya0, fyp0, fyh0, fyl0⟩ := Rep.len_raw fy_1; obtain rfl : fyv0 = _ := by simpa using fyh0
  clear fyh0
  obtain ⟨fya1, fyp1, fyh1, fyl1⟩ := Rep.len_raw fy_2; obtain rfl : fyv1 = _ := by simpa using fyh1
  clear fyh1
  obtain ⟨fya2, fyp2, fyh2, fyl2⟩ := Rep.len_raw fy_4; obtain rfl : fyv2 = _ := by simpa using fyh2
  clear fyh2
  go_enter Tryz.func125, Tryz.ntmps125
  go_upto_region 1 with fail
  generalize hwB : World.alloc (World.alloc w _) _ = wB
  have EB : Below w.heap.size w wB := by rw [← hwB]; exact (by repeat (first | (with_reducible exact Below.refl _ _) | refine Below.alloc ?_ (by simp; try omega) _ | refine Below.drew ?_ | refine Below.setCell ?_ (by simp; try omega) _))
  have K2_0 : wB.cell? ⟨w.heap.size, 0, none⟩ = some (.slice fxa0 (x.1).length fxp0) := by rw [← hwB]; simp [go_sem]
  have K2_1 : wB.cell? ⟨w.heap.size, 1, none⟩ = some (.slice fxa1 (x.2.1).length fxp1) := by rw [← hwB]; simp [go_sem]
  have K2_2 : wB.cell? ⟨w.heap.size, 2, none⟩ = some (.slice fxa2 (x.2.2.1).length fxp2) := by rw [← hwB]; simp [go_sem]
  have K2_3 : wB.cell? ⟨w.heap.size, 3, none⟩ = some (.int .i64 x.2.2.2.1) := by rw [← hwB]; simp [go_sem]
  have K2_4 : wB.cell? ⟨w.heap.size, 4, none⟩ = some (.int .i64 x.2.2.2.2) := by rw [← hwB]; simp [go_sem]
  have K3_0 : wB.cell? ⟨w.heap.size + 1, 0, none⟩ = some (.slice fya0 (y.1).length fyp0) := by rw [← hwB]; simp [go_sem]
  have K3_1 : wB.cell? ⟨w.heap.size + 1, 1, none⟩ = some (.slice fya1 (y.2.1).length fyp1) := by rw [← hwB]; simp [go_sem]
  have K3_2 : wB.cell? ⟨w.heap.size + 1, 2, none⟩ = some (.slice fya2 (y.2.2.1).length fyp2) := by rw [← hwB]; simp [go_sem]
  have K3_3 : wB.cell? ⟨w.heap.size + 1, 3, none⟩ = some (.int .i64 y.2.2.2.1) := by rw [← hwB]; simp [go_sem]
  have K3_4 : wB.cell? ⟨w.heap.size + 1, 4, none⟩ = some (.int .i64 y.2.2.2.2) := by rw [← hwB]; simp [go_sem]
  clear hwB
  refine wp_region_soft_plain (fun W => Below wB.heap.size wB W) [true, true, true, true, false, true, true, true, true, true, false, true, true, true, true, true, true, false, true, true, true, true, true, true, true, true, true, true, true, true, true, true, true, true] (Below.refl _ _) ?_
  intro wS HS
  all_goals first | (refine soft_pass rfl HS ?_) | (refine soft_read (v := ?_) rfl (fun W hW => ?_) ?_; rotate_left; (· go_simp; try with_reducible rfl))
  all_goals try simp only [Act.put, List.setIfInBounds_toArray, List.set_cons_zero, List.set_cons_succ]
  all_goals first | (refine soft_pass rfl HS ?_) | (refine soft_read (v := ?_) rfl (fun W hW => ?_) ?_; rotate_left; (· have A_K2_0 := cell_later hW K2_0; have A_K2_1 := cell_later hW K2_1; have A_K2_2 := cell_later hW K2_2; have A_K2_3 := cell_later hW K2_3; have A_K2_4 := cell_later hW K2_4; have A_K3_0 := cell_later hW K3_0; have A_K3_1 := cell_later hW K3_1; have A_K3_2 := cell_later hW K3_2; have A_K3_3 := cell_later hW K3_3; have A_K3_4 := cell_later hW K3_4; clear hW; go_simp; try with_reducible rfl))
  all_goals try simp only [Act.put, List.setIfInBounds_toArray, List.set_cons_zero, List.set_cons_succ]
  all_goals first | (refine soft_pass rfl HS ?_) | (refine soft_read (v := ?_) rfl (fun W hW => ?_) ?_; rotate_left; (· go_simp; try with_reducible rfl))
  all_goals try simp only [Act.put, List.setIfInBounds_toArray, List.set_cons_zero, List.set_cons_succ]
  all_goals first | (refine soft_pass rfl HS ?_) | (refine soft_read (v := ?_) rfl (fun W hW => ?_) ?_; rotate_left; (· have A_K2_0 := cell_later hW K2_0; have A_K2_1 := cell_later hW K2_1; have A_K2_2 := cell_later hW K2_2; have A_K2_3 := cell_later hW K2_3; have A_K2_4 := cell_later hW K2_4; have A_K3_0 := cell_later hW K3_0; have A_K3_1 := cell_later hW K3_1; have A_K3_2 := cell_later hW K3_2; have A_K3_3 := cell_later hW K3_3; have A_K3_4 := cell_later hW K3_4; clear hW; go_simp; try with_reducible rfl))
  all_goals try simp only [Act.put, List.setIfInBounds_toArray, List.set_cons_zero, List.set_cons_succ]
  all_goals first | (refine soft_pass rfl HS ?_) | (refine soft_do rfl (fun K hK => ?_); go_simp; refine (implEqualNames_c (Rep.raw.below fx_0 (EB.trans (HS.mono EB.size))) (Rep.raw.below fy_0 (EB.trans (HS.mono EB.size)))).mono ?_; rintro e wS1 ⟨rfl, hbS⟩; replace HS := HS.trans (hbS.mono HS.size); refine hK _ _ HS ?_; clear hK K hbS)
  all_goals try simp only [Act.put, List.setIfInBounds_toArray, List.set_cons_zero, List.set_cons_succ]
  all_goals first | (refine soft_pass rfl HS ?_; have hg5 := True.intro) | (refine soft_part (v := ?_) (b := ?_) rfl (fun W hW => ?_) ?_ (fun b hg5 => ?_); rotate_left; rotate_left; (· go_simp; try with_reducible rfl); (· with_reducible rfl); cases b; all_goals first | (exact Bool.noConfusion hg5) | (simp only [Bool.not_eq_true', Bool.not_eq_false'] at hg5) | skip)
  all_goals try simp only [Act.put, List.setIfInBounds_toArray, List.set_cons_zero, List.set_cons_succ]
  all_goals first | (refine soft_pass rfl HS ?_) | (refine soft_read (v := ?_) rfl (fun W hW => ?_) ?_; rotate_left; (· go_simp; try with_reducible rfl))
  all_goals try simp only [Act.put, List.setIfInBounds_toArray, List.set_cons_zero, List.set_cons_succ]
  all_goals first | (refine soft_pass rfl HS ?_) | (refine soft_read (v := ?_) rfl (fun W hW => ?_) ?_; rotate_left; (· have A_K2_0 := cell_later hW K2_0; have A_K2_1 := cell_later hW K2_1; have A_K2_2 := cell_later hW K2_2; have A_K2_3 := cell_later hW K2_3; have A_K2_4 := cell_later hW K2_4; have A_K3_0 := cell_later hW K3_0; have A_K3_1 := cell_later hW K3_1; have A_K3_2 := cell_later hW K3_2; have A_K3_3 := cell_later hW K3_3; have A_K3_4 := cell_later hW K3_4; clear hW; go_simp; try with_reducible rfl))
  all_goals try simp only [Act.put, List.setIfInBounds_toArray, List.set_cons_zero, List.set_cons_succ]
  all_goals first | (refine soft_pass rfl HS ?_) | (refine soft_read (v := ?_) rfl (fun W hW => ?_) ?_; rotate_left; (· go_simp; try with_reducible rfl))
  all_goals try simp only [Act.put, List.setIfInBounds_toArray, List.set_cons_zero, List.set_cons_succ]
  all_goals first | (refine soft_pass rfl HS ?_) | (refine soft_read (v := ?_) rfl (fun W hW => ?_) ?_; rotate_left; (· have A_K2_0 := cell_later hW K2_0; have A_K2_1 := cell_later hW K2_1; have A_K2_2 := cell_later hW K2_2; have A_K2_3 := cell_later hW K2_3; have A_K2_4 := cell_later hW K2_4; have A_K3_0 := cell_later hW K3_0; have A_K3_1 := cell_later hW K3_1; have A_K3_2 := cell_later hW K3_2; have A_K3_3 := cell_later hW K3_3; have A_K3_4 := cell_later hW K3_4; clear hW; go_simp; try with_reducible rfl))
  all_goals try simp only [Act.put, List.setIfInBounds_toArray, List.set_cons_zero, List.set_cons_succ]
  all_goals first | (refine soft_pass rfl HS ?_) | (refine soft_do rfl (fun K hK => ?_); go_simp; refine (Equal_byte_c (Rep.raw.below fx_2 (EB.trans (HS.mono EB.size))) (Rep.raw.below fy_2 (EB.trans (HS.mono EB.size)))).mono ?_; rintro e wS1 ⟨rfl, hbS⟩; replace HS := HS.trans (hbS.mono HS.size); refine hK _ _ HS ?_; clear hK K hbS)
  all_goals try simp only [Act.put, List.setIfInBounds_toArray, List.set_cons_zero, List.set_cons_succ]
  all_goals first | (refine soft_pass rfl HS ?_) | (refine soft_read (v := ?_) rfl (fun W hW => ?_) ?_; rotate_left; (· go_simp; try with_reducible rfl))
  all_goals try simp only [Act.put, List.setIfInBounds_toArray, List.set_cons_zero, List.set_cons_succ]
  all_goals first | (refine soft_pass rfl HS ?_; have hg12 := True.intro) | (refine soft_part (v := ?_) (b := ?_) rfl (fun W hW => ?_) ?_ (fun b hg12 => ?_); rotate_left; rotate_left; (· go_simp; try with_reducible rfl); (· with_reducible rfl); cases b; all_goals first | (exact Bool.noConfusion hg12) | (simp only [Bool.not_eq_true', Bool.not_eq_false'] at hg12) | skip)
  all_goals try simp only [Act.put, List.setIfInBounds_toArray, List.set_cons_zero, List.set_cons_succ]
  all_goals first | (refine soft_pass rfl HS ?_) | (refine soft_read (v := ?_) rfl (fun W hW => ?_) ?_; rotate_left; (· go_simp; try with_reducible rfl))
  all_goals try simp only [Act.put, List.setIfInBounds_toArray, List.set_cons_zero, List.set_cons_succ]
  all_goals first | (refine soft_pass rfl HS ?_) | (refine soft_read (v := ?_) rfl (fun W hW => ?_) ?_; rotate_left; (· have A_K2_0 := cell_later hW K2_0; have A_K2_1 := cell_later hW K2_1; have A_K2_2 := cell_later hW K2_2; have A_K2_3 := cell_later hW K2_3; have A_K2_4 := cell_later hW K2_4; have A_K3_0 := cell_later hW K3_0; have A_K3_1 := cell_later hW K3_1; have A_K3_2 := cell_later hW K3_2; have A_K3_3 := cell_later hW K3_3; have A_K3_4 := cell_later hW K3_4; clear hW; go_simp; try with_reducible rfl))
  all_goals try simp only [Act.put, List.setIfInBounds_toArray, List.set_cons_zero, List.set_cons_succ]
  all_goals first | (refine soft_pass rfl HS ?_) | (refine soft_read (v := ?_) rfl (fun W hW => ?_) ?_; rotate_left; (· go_simp; try with_reducible rfl))
  all_goals try simp only [Act.put, List.setIfInBounds_toArray, List.set_cons_zero, List.set_cons_succ]
  all_goals first | (refine soft_pass rfl HS ?_) | (refine soft_read (v := ?_) rfl (fun W hW => ?_) ?_; rotate_left; (· have A_K2_0 := cell_later hW K2_0; have A_K2_1 := cell_later hW K2_1; have A_K2_2 := cell_later hW K2_2; have A_K2_3 := cell_later hW K2_3; have A_K2_4 := cell_later hW K2_4; have A_K3_0 := cell_later hW K3_0; have A_K3_1 := cell_later hW K3_1; have A_K3_2 := cell_later hW K3_2; have A_K3_3 := cell_later hW K3_3; have A_K3_4 := cell_later hW K3_4; clear hW; go_simp; try with_reducible rfl))
  all_goals try simp only [Act.put, List.setIfInBounds_toArray, List.set_cons_zero, List.set_cons_succ]
  all_goals first | (refine soft_pass rfl HS ?_) | (refine soft_do rfl (fun K hK => ?_); go_simp; refine (implEqualNames_c (Rep.raw.below fx_3 (EB.trans (HS.mono EB.size))) (Rep.raw.below fy_3 (EB.trans (HS.mono EB.size)))).mono ?_; rintro e wS1 ⟨rfl, hbS⟩; replace HS := HS.trans (hbS.mono HS.size); refine hK _ _ HS ?_; clear hK K hbS)
  all_goals try simp only [Act.put, List.setIfInBounds_toArray, List.set_cons_zero, List.set_cons_succ]
  all_goals first | (refine soft_pass rfl HS ?_) | (refine soft_read (v := ?_) rfl (fun W hW => ?_) ?_; rotate_left; (· go_simp; try with_reducible rfl))
  all_goals try simp only [Act.put, List.setIfInBounds_toArray, List.set_cons_zero, List.set_cons_succ]
  all_goals first | (refine soft_pass rfl HS ?_; have hg19 := True.intro) | (refine soft_part (v := ?_) (b := ?_) rfl (fun W hW => ?_) ?_ (fun b hg19 => ?_); rotate_left; rotate_left; (· go_simp; try with_reducible rfl); (· with_reducible rfl); cases b; all_goals first | (exact Bool.noConfusion hg19) | (simp only [Bool.not_eq_true', Bool.not_eq_false'] at hg19) | skip)
  all_goals try simp only [Act.put, List.setIfInBounds_toArray, List.set_cons_zero, List.set_cons_succ]
  all_goals first | (refine soft_pass rfl HS ?_) | (refine soft_read (v := ?_) rfl (fun W hW => ?_) ?_; rotate_left; (· go_simp; try with_reducible rfl))
  all_goals try simp only [Act.put, List.setIfInBounds_toArray, List.set_cons_zero, List.set_cons_succ]
  all_goals first | (refine soft_pass rfl HS ?_) | (refine soft_read (v := ?_) rfl (fun W hW => ?_) ?_; rotate_left; (· have A_K2_0 := cell_later hW K2_0; have A_K2_1 := cell_later hW K2_1; have A_K2_2 := cell_later hW K2_2; have A_K2_3 := cell_later hW K2_3; have A_K2_4 := cell_later hW K2_4; have A_K3_0 := cell_later hW K3_0; have A_K3_1 := cell_later hW K3_1; have A_K3_2 := cell_later hW K3_2; have A_K3_3 := cell_later hW K3_3; have A_K3_4 := cell_later hW K3_4; clear hW; go_simp; try with_reducible rfl))
  all_goals try simp only [Act.put, List.setIfInBounds_toArray, List.set_cons_zero, List.set_cons_succ]
  all_goals first | (refine soft_pass rfl HS ?_) | (refine soft_read (v := ?_) rfl (fun W hW => ?_) ?_; rotate_left; (· go_simp; try with_reducible rfl))
  all_goals try simp only [Act.put, List.setIfInBounds_toArray, List.set_cons_zero, List.set_cons_succ]
  all_goals first | (refine soft_pass rfl HS ?_) | (refine soft_read (v := ?_) rfl (fun W hW => ?_) ?_; rotate_left; (· have A_K2_0 := cell_later hW K2_0; have A_K2_1 := cell_later hW K2_1; have A_K2_2 := cell_later hW K2_2; have A_K2_3 := cell_later hW K2_3; have A_K2_4 := cell_later hW K2_4; have A_K3_0 := cell_later hW K3_0; have A_K3_1 := cell_later hW K3_1; have A_K3_2 := cell_later hW K3_2; have A_K3_3 := cell_later hW K3_3; have A_K3_4 := cell_later hW K3_4; clear hW; go_simp; try with_reducible rfl))
  all_goals try simp only [Act.put, List.setIfInBounds_toArray, List.set_cons_zero, List.set_cons_succ]
  all_goals first | (refine soft_pass rfl HS ?_) | (refine soft_read (v := ?_) rfl (fun W hW => ?_) ?_; rotate_left; (· go_simp; try with_reducible rfl))
  all_goals try simp only [Act.put, List.setIfInBounds_toArray, List.set_cons_zero, List.set_cons_succ]
  all_goals first | (refine soft_pass rfl HS ?_) | (refine soft_read (v := ?_) rfl (fun W hW => ?_) ?_; rotate_left; (· go_simp; try with_reducible rfl))
  all_goals try simp only [Act.put, List.setIfInBounds_toArray, List.set_cons_zero, List.set_cons_succ]
  all_goals first | (refine soft_pass rfl HS ?_; have hg26 := True.intro) | (refine soft_part (v := ?_) (b := ?_) rfl (fun W hW => ?_) ?_ (fun b hg26 => ?_); rotate_left; rotate_left; (· go_simp; try with_reducible rfl); (· with_reducible rfl); cases b; all_goals first | (exact Bool.noConfusion hg26) | (simp only [Bool.not_eq_true', Bool.not_eq_false'] at hg26) | skip)
  all_goals try simp only [Act.put, List.setIfInBounds_toArray, List.set_cons_zero, List.set_cons_succ]
  all_goals first | (refine soft_pass rfl HS ?_) | (refine soft_read (v := ?_) rfl (fun W hW => ?_) ?_; rotate_left; (· go_simp; try with_reducible rfl))
  all_goals try simp only [Act.put, List.setIfInBounds_toArray, List.set_cons_zero, List.set_cons_succ]
  all_goals first | (refine soft_pass rfl HS ?_) | (refine soft_read (v := ?_) rfl (fun W hW => ?_) ?_; rotate_left; (· have A_K2_0 := cell_later hW K2_0; have A_K2_1 := cell_later hW K2_1; have A_K2_2 := cell_later hW K2_2; have A_K2_3 := cell_later hW K2_3; have A_K2_4 := cell_later hW K2_4; have A_K3_0 := cell_later hW K3_0; have A_K3_1 := cell_later hW K3_1; have A_K3_2 := cell_later hW K3_2; have A_K3_3 := cell_later hW K3_3; have A_K3_4 := cell_later hW K3_4; clear hW; go_simp; try with_reducible rfl))
  all_goals try simp only [Act.put, List.setIfInBounds_toArray, List.set_cons_zero, List.set_cons_succ]
  all_goals first | (refine soft_pass rfl HS ?_) | (refine soft_read (v := ?_) rfl (fun W hW => ?_) ?_; rotate_left; (· go_simp; try with_reducible rfl))
  all_goals try simp only [Act.put, List.setIfInBounds_toArray, List.set_cons_zero, List.set_cons_succ]
  all_goals first | (refine soft_pass rfl HS ?_) | (refine soft_read (v := ?_) rfl (fun W hW => ?_) ?_; rotate_left; (· have A_K2_0 := cell_later hW K2_0; have A_K2_1 := cell_later hW K2_1; have A_K2_2 := cell_later hW K2_2; have A_K2_3 := cell_later hW K2_3; have A_K2_4 := cell_later hW K2_4; have A_K3_0 := cell_later hW K3_0; have A_K3_1 := cell_later hW K3_1; have A_K3_2 := cell_later hW K3_2; have A_K3_3 := cell_later hW K3_3; have A_K3_4 := cell_later hW K3_4; clear hW; go_simp; try with_reducible rfl))
  all_goals try simp only [Act.put, List.setIfInBounds_toArray, List.set_cons_zero, List.set_cons_succ]
  all_goals first | (refine soft_pass rfl HS ?_) | (refine soft_read (v := ?_) rfl (fun W hW => ?_) ?_; rotate_left; (· go_simp; try with_reducible rfl))
  all_goals try simp only [Act.put, List.setIfInBounds_toArray, List.set_cons_zero, List.set_cons_succ]
  all_goals first | (refine soft_pass rfl HS ?_) | (refine soft_read (v := ?_) rfl (fun W hW => ?_) ?_; rotate_left; (· go_simp; try with_reducible rfl))
  all_goals try simp only [Act.put, List.setIfInBounds_toArray, List.set_cons_zero, List.set_cons_succ]
  all_goals first | (refine soft_pass rfl HS ?_; have hg33 := True.intro) | (refine soft_part (v := ?_) (b := ?_) rfl (fun W hW => ?_) ?_ (fun b hg33 => ?_); rotate_left; rotate_left; (· go_simp; try with_reducible rfl); (· with_reducible rfl); cases b; all_goals first | (exact Bool.noConfusion hg33) | (simp only [Bool.not_eq_true', Bool.not_eq_false'] at hg33) | skip)
  all_goals try simp only [Act.put, List.setIfInBounds_toArray, List.set_cons_zero, List.set_cons_succ]
  all_goals refine soft_nil ?_
  all_goals have EG := EB.trans (HS.mono EB.size)
  all_goals first
    | (have HT := Lib.hid (show (vData x y) = false by simp only [vData, Bool.not_true, Bool.not_false, Bool.and_true, Bool.true_and, Bool.and_false, Bool.false_and, Bool.or_true, Bool.true_or, Bool.or_false, Bool.false_or, Bool.not_not, hg5, hg12, hg19, hg26, hg33]); go_wp2; go_ret; exact ⟨ret_bool HT.out.symm, EG⟩)
    | (have HT := Lib.hid (show (vData x y) = true by simp only [vData, Bool.not_true, Bool.not_false, Bool.and_true, Bool.true_and, Bool.and_false, Bool.false_and, Bool.or_true, Bool.true_or, Bool.or_false, Bool.false_or, Bool.not_not, hg5, hg12, hg19, hg26, hg33]); go_wp2; go_ret; exact ⟨ret_bool HT.out.symm, EG⟩)
theorem implEqualData_c {w : World} {cx : List Value} {x : LData} (hx : RData.raw w cx x) {cy : List Value} {y : LData} (hy : RData.raw w cy y) :
    Calls Tryz.prog 125 #[.agg cx.toArray, .agg cy.toArray] w fun e w' => e = .returned (.bool (decide (x = y))) ∧ Below w.heap.size w w' := by
  have h := implEqualData_v hx hy
  rw [vData_eq] at h
  exact h
end Go.Proofs.YtaphafmkidjakaaGreat
