/-
  Names as the reference draws them.
-/
import Derived.Test.YtikjbdfkdkijkaaCur
import Derived.Test.YtikjbdfkdkijkaaVName
import Derived.Test.YtikjbdfkdkijkaaCopy
import Derived.Test.YtikjbdfkdkijkaaMade
import Derived.IntWalk
namespace Go.Proofs.Ytikjbdfkdkijkaa
open Go.RowKit
set_option linter.unusedVariables false
set_option linter.unusedSimpArgs false
set_option linter.unnecessarySimpa false
set_option maxRecDepth 100000 in
set_option maxHeartbeats 2000000 in
theorem specl4Split_c {w : World} {s : ByteArray} (hs : s.size ≤ 64) {by0 : Nat} (hb : by0 < 256) :
    Calls Try.prog 142 #[.string s, .int .u8 by0] w fun e w' => ∃ v, e = .returned v ∧ ∃ ps, Rep.own0 9 Rep.str w' v ps (Btw w.heap.size w'.heap.size) ∧ 0 < ps.length ∧ ps.length ≤ 65 ∧ Below w.heap.size w w' := by
  go_enter Try.func142, Try.ntmps142
  go_wp2
  go_loopw [5, 6, 7] (fun v f i wr => ∃ (k m : Nat) (ps : List ByteArray), k ≤ s.size + 1 ∧ m ≤ k ∧ i = .int .i64 k ∧ f = .int .i64 m ∧ ps.length ≤ k ∧ (k = s.size + 1 → 0 < ps.length) ∧ Hid (Rep.own0 9 Rep.str wr v ps (Btw w.heap.size wr.heap.size)) ∧ Below w.heap.size w wr) (fun _ _ i _ => s.size + 1 - (intOf i).toNat)
  case atStart => exact ⟨0, 0, [], by omega, by omega, rfl, rfl, by simp, by omega, Lib.hid Rep.own0.void, (Below.refl _ _).alloc (Nat.le_refl _) _⟩
  case round =>
    obtain ⟨k, m, ps, hk, hm, rfl, rfl, hpl, hp0, HO, hbel⟩ := hrel
    obtain ⟨oa, on, oc, ho, HON⟩ := HO.out.parts; obtain rfl := ho
    have hzr := hbel.size
    have hk0 := Int.natCast_nonneg k
    have hm0 := Int.natCast_nonneg m
    by_cases hle : k ≤ s.size
    · have hleI : (k : Int) ≤ s.size := by omega
      by_cases he : k = s.size
      · have heI : (k : Int) = s.size := by omega
        have hmk : (m : Int) ≤ k := by omega
        go_wp2_with (at_builtin; refine Rep.wpList_pushB rfl _ _ 25 rfl (r := Rep.str) (e := 9) Try.underlying25 infString rfl (by decide) (by decide) (B := w.heap.size) HO.out (by rfl) (by rfl) rfl (Rep.flat.own (S := fun _ => False) (Rep.flat_str (s := s.extract m s.size) (by simp only [ByteArray.size_extract]; unfold Big; omega))) rfl (fun _ _ h => h) (fun j hj => ⟨hj.1, by have := hj.2; omega⟩) (fun _ h => h.elim) (by omega) (by omega) ?_)
        intro v2 w2 ho2 hb2 hz2
        have HO2 := Lib.hid ho2
        obtain ⟨pa, pn, pc, hp, HPN⟩ := ho2.parts; obtain rfl := hp
        have hbel2 := hbel.trans hb2
        clear ho2 hb2
        go_wp2
        go_roundw
        case rel => exact ⟨k + 1, k + 1, _, by omega, by omega, by go_num, by go_num, by simp; omega, by simp, HO2, hbel2⟩
        case measure => simp [intOf]; omega
      · have heI : ¬ (k : Int) = s.size := by omega
        have hklI : (k : Int) < s.size := by omega
        have hkl : k < s.size := by omega
        have hmk : (m : Int) ≤ k := by omega
        go_upto_region 6 with fail
        refine wp_region_soft_plain (fun W => Below wr.heap.size wr W) [true, true, true, true, true, true, true, true, true, true, true] ((Below.refl _ _)) ?_
        intro wS HS
        all_goals first | (refine soft_pass rfl HS ?_) | (refine soft_read (v := ?_) rfl (fun W hW => ?_) ?_; rotate_left; (· go_simp; try with_reducible rfl))
        all_goals try simp only [Act.put, List.setIfInBounds_toArray, List.set_cons_zero, List.set_cons_succ]
        all_goals first | (refine soft_pass rfl HS ?_) | (refine soft_read (v := ?_) rfl (fun W hW => ?_) ?_; rotate_left; (· go_simp; try with_reducible rfl))
        all_goals try simp only [Act.put, List.setIfInBounds_toArray, List.set_cons_zero, List.set_cons_succ]
        all_goals first | (refine soft_pass rfl HS ?_) | (refine soft_read (v := ?_) rfl (fun W hW => ?_) ?_; rotate_left; (· go_simp; try with_reducible rfl))
        all_goals try simp only [Act.put, List.setIfInBounds_toArray, List.set_cons_zero, List.set_cons_succ]
        all_goals first | (refine soft_pass rfl HS ?_) | (refine soft_read (v := ?_) rfl (fun W hW => ?_) ?_; rotate_left; (· go_simp; try with_reducible rfl))
        all_goals try simp only [Act.put, List.setIfInBounds_toArray, List.set_cons_zero, List.set_cons_succ]
        all_goals first | (refine soft_pass rfl HS ?_; have hg4 := True.intro) | (refine soft_part (v := ?_) (b := ?_) rfl (fun W hW => ?_) ?_ (fun b hg4 => ?_); rotate_left; rotate_left; (· go_simp; try with_reducible rfl); (· with_reducible rfl); cases b; all_goals first | (exact Bool.noConfusion hg4) | (simp only [Bool.not_eq_true', Bool.not_eq_false'] at hg4) | skip)
        all_goals try simp only [Act.put, List.setIfInBounds_toArray, List.set_cons_zero, List.set_cons_succ]
        all_goals first | (refine soft_pass rfl HS ?_) | (refine soft_read (v := ?_) rfl (fun W hW => ?_) ?_; rotate_left; (· go_simp; try with_reducible rfl))
        all_goals try simp only [Act.put, List.setIfInBounds_toArray, List.set_cons_zero, List.set_cons_succ]
        all_goals first | (refine soft_pass rfl HS ?_) | (refine soft_read (v := ?_) rfl (fun W hW => ?_) ?_; rotate_left; (· go_simp; try with_reducible rfl))
        all_goals try simp only [Act.put, List.setIfInBounds_toArray, List.set_cons_zero, List.set_cons_succ]
        all_goals first | (refine soft_pass rfl HS ?_) | (refine soft_read (v := ?_) rfl (fun W hW => ?_) ?_; rotate_left; (· go_simp; try with_reducible rfl))
        all_goals try simp only [Act.put, List.setIfInBounds_toArray, List.set_cons_zero, List.set_cons_succ]
        all_goals first | (refine soft_pass rfl HS ?_) | (refine soft_read (v := ?_) rfl (fun W hW => ?_) ?_; rotate_left; (· go_simp; try with_reducible rfl))
        all_goals try simp only [Act.put, List.setIfInBounds_toArray, List.set_cons_zero, List.set_cons_succ]
        all_goals first | (refine soft_pass rfl HS ?_) | (refine soft_read (v := ?_) rfl (fun W hW => ?_) ?_; rotate_left; (· go_simp; try with_reducible rfl))
        all_goals try simp only [Act.put, List.setIfInBounds_toArray, List.set_cons_zero, List.set_cons_succ]
        all_goals first | (refine soft_pass rfl HS ?_; have hg10 := True.intro) | (refine soft_part (v := ?_) (b := ?_) rfl (fun W hW => ?_) ?_ (fun b hg10 => ?_); rotate_left; rotate_left; (· go_simp; try with_reducible rfl); (· with_reducible rfl); cases b; all_goals first | (exact Bool.noConfusion hg10) | (simp only [Bool.not_eq_true', Bool.not_eq_false'] at hg10) | skip)
        all_goals try simp only [Act.put, List.setIfInBounds_toArray, List.set_cons_zero, List.set_cons_succ]
        all_goals refine soft_nil ?_

        all_goals replace hbel := hbel.trans (HS.mono hbel.size)
        all_goals replace HO := Lib.hid ((HO.out.below HS).wide (T := Btw w.heap.size wS.heap.size) (fun j hj => ⟨hj.1, by have := hj.2; have := HS.size; omega⟩))
        all_goals have hzr := hbel.size
        all_goals clear HS
        all_goals first
          | (go_wp2; go_roundw; (case rel => exact ⟨k + 1, m, ps, by omega, by omega, by go_num, rfl, by omega, by omega, HO, hbel⟩); (case measure => simp [intOf]; omega))
          | skip
        all_goals
          go_wp2_with (at_builtin; refine Rep.wpList_pushB rfl _ _ 25 rfl (r := Rep.str) (e := 9) Try.underlying25 infString rfl (by decide) (by decide) (B := w.heap.size) HO.out (by rfl) (by rfl) rfl (Rep.flat.own (S := fun _ => False) (Rep.flat_str (s := s.extract m k) (by simp only [ByteArray.size_extract]; unfold Big; omega))) rfl (fun _ _ h => h) (fun j hj => ⟨hj.1, by have := hj.2; omega⟩) (fun _ h => h.elim) (by omega) (by omega) ?_)
          intro v2 w2 ho2 hb2 hz2
          have HO2 := Lib.hid ho2
          obtain ⟨pa, pn, pc, hp, HPN⟩ := ho2.parts; obtain rfl := hp
          have hbel2 := hbel.trans hb2
          clear ho2 hb2
          go_wp2
          go_roundw
          case rel => exact ⟨k + 1, k + 1, _, by omega, by omega, by go_num, by go_num, by simp; omega, by simp, HO2, hbel2⟩
          case measure => simp [intOf]; omega
    · have hleI : ¬ (k : Int) ≤ s.size := by omega
      have hp := hp0 (by omega)
      go_wp2
      go_ret
      exact ⟨_, rfl, ps, HO.out, hp, by omega, hbel⟩
end Go.Proofs.Ytikjbdfkdkijkaa
