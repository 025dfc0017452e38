/-
  Interests, data and what goes out: compared.
-/
import Derived.Test.YtlfblpgkegeaeaaGreatName
import Derived.Test.YtlfblpgkegeaeaaGreatLibEq
import Derived.Test.YtlfblpgkegeaeaaGreatNum
import Derived.IntWalk
import Derived.Deep.Cut
import Derived.WalkSpells
import Derived.WalkLawsBesides
import Derived.Laws.IdiomStrings
import Derived.Laws.BytesArg
namespace Go.Proofs.YtlfblpgkegeaeaaGreat
open Go.RowKit
set_option linter.unusedVariables false
set_option linter.unusedSimpArgs false
set_option linter.unnecessarySimpa false
theorem conv_bytes {P : Program} {w : World} {src e dst : TypeId} (hs : P.underlying src = some (.slice e)) (he : P.underlying e = some (.int .u8)) (hd : P.underlying dst = some .string) {xs : List UInt8} {a : Option Addr} {len cap : Nat} (h : (Rep.slice e Rep.byte).raw w [.slice a len cap] xs) :
    (convert src dst (.slice a len cap)).run P w = .ok (.string ⟨xs.toArray⟩) w := by
  obtain ⟨aa, pp, hv, _⟩ := Rep.len_raw h
  simp only [List.cons.injEq, Value.slice.injEq, and_true] at hv
  obtain ⟨rfl, rfl, rfl⟩ := hv
  by_cases h0 : xs = []
  · subst h0
    cases a with
    | none => have h2 := run_convert_bytes_string w src dst e none 0 cap hs he hd; exact h2.trans rfl
    | some a => exact run_convert_bytes_back w src dst e a cap [] hs he hd (fun j hj => by simp at hj)
  · have hp : 0 < xs.length := List.length_pos_iff.2 h0
    obtain ⟨b, off, rfl, _⟩ := Rep.get1 h hp rfl
    refine run_convert_bytes_back w src dst e ⟨b, off, none⟩ cap xs hs he hd (fun j hj => ?_)
    obtain ⟨b', off', hE, c0, hr, hc⟩ := Rep.get1 h hj rfl
    simp only [Option.some.injEq, Addr.mk.injEq, and_true] at hE
    obtain ⟨rfl, rfl⟩ := hE
    have hq := Rep.byte_raw hr
    obtain rfl : c0 = _ := by simpa using hq
    have hadd : (⟨b, off, none⟩ : Addr).add j = ⟨b, off + j, none⟩ := by unfold Addr.add; split <;> simp_all
    rw [hadd]
    exact hc
theorem bytes_eq (a b : List UInt8) : ((⟨a.toArray⟩ : ByteArray).toList == (⟨b.toArray⟩ : ByteArray).toList) = decide (a = b) := by
  rw [ba_beq, Bool.eq_iff_iff]
  simp
set_option maxHeartbeats 400000 in
theorem specEqualBytes_c {w : World} {va vb : Value} {a b : List UInt8} (a_0 : (Rep.slice 5 Rep.byte).raw w [va] a) (b_0 : (Rep.slice 5 Rep.byte).raw w [vb] b) :
    Calls Tryz.prog 204 #[va, vb] w fun e w' => e = .returned (.bool (decide (a = b))) ∧ Below w.heap.size w w' := by
  obtain ⟨aa, capa, hva, la⟩ := Rep.len_raw a_0; obtain rfl : va = _ := by simpa using hva
  obtain ⟨ab, capb, hvb, lb⟩ := Rep.len_raw b_0; obtain rfl : vb = _ := by simpa using hvb
  clear hva hvb
  have h1 := conv_bytes (P := Tryz.prog) (dst := 9) Tryz.underlying40 Tryz.underlying5 Tryz.underlying9 a_0
  have h2 := conv_bytes (P := Tryz.prog) (dst := 9) Tryz.underlying40 Tryz.underlying5 Tryz.underlying9 b_0
  have HE := Lib.hid (bytes_eq a b)
  generalize hsa : (⟨a.toArray⟩ : ByteArray) = sa at *
  generalize hsb : (⟨b.toArray⟩ : ByteArray) = sb at *
  clear hsa hsb a_0 b_0
  go_enter Tryz.func204, Tryz.ntmps204
  go_wp2
  go_ret
  exact ⟨ret_bool HE.out, Below.refl _ _⟩
set_option maxHeartbeats 1000000 in
theorem Equal_byte_c {w : World} {va vb : Value} {a b : List UInt8} (a_0 : (Rep.slice 5 Rep.byte).raw w [va] a) (b_0 : (Rep.slice 5 Rep.byte).raw w [vb] b) :
    Calls Tryz.prog 215 #[va, vb] w fun e w' => e = .returned (.bool (decide (a = b))) ∧ Below w.heap.size w w' := by
  obtain ⟨aa, capa, hva, la⟩ := Rep.len_raw a_0; obtain rfl : va = _ := by simpa using hva
  obtain ⟨ab, capb, hvb, lb⟩ := Rep.len_raw b_0; obtain rfl : vb = _ := by simpa using hvb
  clear hva hvb
  go_enter Tryz.func215, Tryz.ntmps215
  by_cases hl : a.length = b.length
  case neg =>
    have HT := Lib.hid (show decide (a = b) = false by simp; rintro rfl; exact hl rfl)
    have hz : ((a.length : Int) != b.length) = true := by simp; omega
    have hzn : (a.length != b.length) = true := by simpa using hl
    go_wp2
    go_ret
    exact ⟨ret_bool HT.out.symm, Below.refl _ _⟩
  have hz : ((a.length : Int) != b.length) = false := by simp; omega
  have hzn : (a.length != b.length) = false := by simpa using hl
  have HL := Lib.hid hl; clear hl
  go_wp2
  go_loopw [13] (fun i wr => ∃ k : Nat, k ≤ a.length ∧ i = .int .i64 k ∧ Hid (a.take k = b.take k) ∧ Below w.heap.size w wr) (fun i _ => a.length - (intOf i).toNat)
  case atStart => exact ⟨0, Nat.zero_le _, rfl, Lib.hid rfl, Below.refl _ _⟩
  case round =>
    obtain ⟨k, hk, rfl, HN, hbel⟩ := hrel
    by_cases hlt : k < a.length
    · have hlt2 : k < b.length := by have := HL.out; omega
      obtain ⟨ba, offa, rfl, c0, hr, A0⟩ := Rep.get1 (a_0.below hbel) hlt rfl
      obtain ⟨bb, offb, rfl, d0, hr2, B0⟩ := Rep.get1 (b_0.below hbel) hlt2 rfl
      have he := Rep.byte_raw hr
      obtain rfl : c0 = _ := by simpa using he
      have he2 := Rep.byte_raw hr2
      obtain rfl : d0 = _ := by simpa using he2
      clear he he2 hr hr2
      have hne := fun q => ne_of_get hlt hlt2 q
      have hnx := fun q => take_eq_succ HN.out hlt hlt2 q
      generalize a[k] = x at *
      generalize b[k] = y at *
      have HD := Lib.hid hne
      have HX := Lib.hid hnx
      clear hne hnx
      go_wp2_with fail
      refine wp_region_soft (fun W => Below wr.heap.size wr W) [true, true, true, true, true, true, true, true, true] (by kernel_rfl) (by kernel_rfl) (fun c a d v w h => by cases d <;> exact h) ((Below.refl _ _).drew) ?_
      intro wS HS
      all_goals first | (refine soft_pass rfl HS ?_) | (refine soft_read (v := ?_) rfl (fun W hW => ?_) ?_; rotate_left; (· go_simp; try with_reducible rfl))
      all_goals try simp only [Act.put, List.setIfInBounds_toArray, List.set_cons_zero, List.set_cons_succ]
      all_goals first | (refine soft_pass rfl HS ?_) | (refine soft_read (v := ?_) rfl (fun W hW => ?_) ?_; rotate_left; (· go_simp; try with_reducible rfl))
      all_goals try simp only [Act.put, List.setIfInBounds_toArray, List.set_cons_zero, List.set_cons_succ]
      all_goals first | (refine soft_pass rfl HS ?_) | (refine soft_read (v := ?_) rfl (fun W hW => ?_) ?_; rotate_left; (· go_simp; try with_reducible rfl))
      all_goals try simp only [Act.put, List.setIfInBounds_toArray, List.set_cons_zero, List.set_cons_succ]
      all_goals first | (refine soft_pass rfl HS ?_) | (refine soft_read (v := ?_) rfl (fun W hW => ?_) ?_; rotate_left; (· have A_A0 := cell_later hW A0; have A_B0 := cell_later hW B0; clear hW; go_simp; try with_reducible rfl))
      all_goals try simp only [Act.put, List.setIfInBounds_toArray, List.set_cons_zero, List.set_cons_succ]
      all_goals first | (refine soft_pass rfl HS ?_) | (refine soft_read (v := ?_) rfl (fun W hW => ?_) ?_; rotate_left; (· go_simp; try with_reducible rfl))
      all_goals try simp only [Act.put, List.setIfInBounds_toArray, List.set_cons_zero, List.set_cons_succ]
      all_goals first | (refine soft_pass rfl HS ?_) | (refine soft_read (v := ?_) rfl (fun W hW => ?_) ?_; rotate_left; (· go_simp; try with_reducible rfl))
      all_goals try simp only [Act.put, List.setIfInBounds_toArray, List.set_cons_zero, List.set_cons_succ]
      all_goals first | (refine soft_pass rfl HS ?_) | (refine soft_read (v := ?_) rfl (fun W hW => ?_) ?_; rotate_left; (· go_simp; try with_reducible rfl))
      all_goals try simp only [Act.put, List.setIfInBounds_toArray, List.set_cons_zero, List.set_cons_succ]
      all_goals first | (refine soft_pass rfl HS ?_) | (refine soft_read (v := ?_) rfl (fun W hW => ?_) ?_; rotate_left; (· have A_A0 := cell_later hW A0; have A_B0 := cell_later hW B0; clear hW; go_simp; try with_reducible rfl))
      all_goals try simp only [Act.put, List.setIfInBounds_toArray, List.set_cons_zero, List.set_cons_succ]
      all_goals first | (refine soft_pass rfl HS ?_) | (refine soft_read (v := ?_) rfl (fun W hW => ?_) ?_; rotate_left; (· go_simp; try with_reducible rfl))
      all_goals try simp only [Act.put, List.setIfInBounds_toArray, List.set_cons_zero, List.set_cons_succ]
      all_goals refine soft_nil ?_
      have EG := hbel.trans (HS.mono hbel.size)
      cases hz : ((x.toNat : Int) == (y.toNat : Int))
      · have HT := Lib.hid (show decide (a = b) = false by
          simp at hz; simp; exact HD.out (fun q => hz (by rw [q])))
        clear HD HX
        go_wp2
        go_ret
        exact ⟨ret_bool HT.out.symm, EG⟩
      · have HT := Lib.hid (HX.out (u8_inj (by simpa using hz)))
        clear HD HX
        go_wp2
        go_roundw
        case rel => exact ⟨k + 1, by omega, by go_num, HT, EG⟩
        case measure => simp [intOf]; omega
    · have HT := Lib.hid (show decide (a = b) = true by simp; exact eq_of_take HN.out hlt HL.out)
      go_wp2
      go_ret
      exact ⟨ret_bool HT.out.symm, hbel⟩
def vData (x y : LData) : Bool := (((eqN x.1 y.1 && decide (x.2.1 = y.2.1)) && eqN x.2.2.1 y.2.2.1) && (x.2.2.2.1 == y.2.2.2.1)) && (x.2.2.2.2 == y.2.2.2.2)
theorem vData_eq (x y : LData) : vData x y = decide (x = y) := by
  obtain ⟨x0, x1, x2, x3, x4⟩ := x
  obtain ⟨y0, y1, y2, y3, y4⟩ := y
  rw [Bool.eq_iff_iff]
  simp [vData, eqN, and_assoc]
end Go.Proofs.YtlfblpgkegeaeaaGreat
