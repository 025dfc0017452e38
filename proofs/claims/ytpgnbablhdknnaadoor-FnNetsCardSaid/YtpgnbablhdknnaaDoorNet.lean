/-
  Topologies: the links and what is read off them.
-/
import Derived.Test.YtpgnbablhdknnaaDoorLib
import Derived.Test.YtpgnbablhdknnaaDoorTypes
namespace Go.Proofs.YtpgnbablhdknnaaDoor
open Go.RowKit
set_option linter.unusedVariables false
def isLink (a b : Int) (k : LLink) : Bool := (k.1 == a && k.2 == b) || (k.1 == b && k.2 == a)
set_option maxHeartbeats 400000 in
theorem specLinkIndex_c {w : World} {ca : List Value} {x : LTopology} {a b : Int} (ha : RTopology.rd w ca x) (_ : -9223372036854775808 ≤ a ∧ a ≤ 9223372036854775807) (_ : -9223372036854775808 ≤ b ∧ b ≤ 9223372036854775807) :
    Calls Tryd.prog 19 #[.agg ca.toArray, .int .i64 a, .int .i64 b] w fun e w' => e = .returned (.int .i64 (idxOf (isLink a b) x.2)) ∧ Below w.heap.size w w' := by
  obtain ⟨av1, rfl, a_0, a_1⟩ := RTopology_raw ha.1
  obtain ⟨x0, x1⟩ := x
  clear ha a_0
  obtain ⟨aa, capa, hva, la⟩ := Rep.len_raw a_1; obtain rfl : av1 = _ := by simpa using hva
  clear hva
  go_enter Tryd.func19, Tryd.ntmps19
  go_wp2
  go_loop [7] (fun i => ∃ k : Nat, k ≤ x1.length ∧ i = .int .i64 k ∧ (∀ j, (h : j < k) → (h2 : j < x1.length) → isLink a b x1[j] = false)) (fun i => x1.length - (intOf i).toNat)
  case atStart => exact ⟨0, Nat.zero_le _, rfl, fun _ h => by omega⟩
  case round =>
    obtain ⟨k, hk, rfl, hno⟩ := hrel
    have HN := Lib.hid hno; clear hno
    by_cases hlt : k < x1.length
    · obtain ⟨ba, offa, rfl, c0, c1, hr, A0, A1⟩ := Rep.get2 a_1 hlt rfl
      obtain ⟨he, hr1, hr2⟩ := RLink_raw hr
      simp only [List.cons.injEq, and_true] at he
      obtain ⟨rfl, rfl⟩ := he
      have hbl := World.block_lt_of_cell? _ _ A0
      clear hr hr1 hr2
      simp only at hbl
      generalize hy : x1[k] = y at *
      obtain ⟨y1, y2⟩ := y
      have HY := Lib.hid hy; clear hy
      have hit : isLink a b (y1, y2) = true → Hid (idxOf (isLink a b) x1 = k) := fun q => Lib.hid (idxOf_hit hlt (by rw [HY.out]; exact q) HN.out)
      have mis : isLink a b (y1, y2) = false → Hid (∀ j, (h : j < k + 1) → (h2 : j < x1.length) → isLink a b x1[j] = false) := fun q => Lib.hid (no_succ hlt (by rw [HY.out]; exact q) HN.out)
      have HI := Lib.hid hit; have HM := Lib.hid mis; clear hit mis
      cases h1 : (y1 == a)
      · cases h3 : (y1 == b)
        · (have HT := HM.out (by simp [isLink, h1, h3]); clear HI HM; go_wp2; go_round; (case rel => exact ⟨k + 1, by omega, by go_num, HT.out⟩); (case measure => simp [intOf]; omega))
        · cases h4 : (y2 == a)
          · (have HT := HM.out (by simp [isLink, h1, h3, h4]); clear HI HM; go_wp2; go_round; (case rel => exact ⟨k + 1, by omega, by go_num, HT.out⟩); (case measure => simp [intOf]; omega))
          · (have HT := HI.out (by simp [isLink, h1, h3, h4]); clear HI HM; go_wp2; go_ret; exact ⟨ret_int HT.out.symm, (Below.refl _ _).alloc (Nat.le_refl _) _⟩)
      · cases h2 : (y2 == b)
        · cases h3 : (y1 == b)
          · (have HT := HM.out (by simp [isLink, h1, h2, h3]); clear HI HM; go_wp2; go_round; (case rel => exact ⟨k + 1, by omega, by go_num, HT.out⟩); (case measure => simp [intOf]; omega))
          · cases h4 : (y2 == a)
            · (have HT := HM.out (by simp [isLink, h1, h2, h3, h4]); clear HI HM; go_wp2; go_round; (case rel => exact ⟨k + 1, by omega, by go_num, HT.out⟩); (case measure => simp [intOf]; omega))
            · (have HT := HI.out (by simp [isLink, h1, h2, h3, h4]); clear HI HM; go_wp2; go_ret; exact ⟨ret_int HT.out.symm, (Below.refl _ _).alloc (Nat.le_refl _) _⟩)
        · (have HT := HI.out (by simp [isLink, h1, h2]); clear HI HM; go_wp2; go_ret; exact ⟨ret_int HT.out.symm, (Below.refl _ _).alloc (Nat.le_refl _) _⟩)
    · have HT := Lib.hid (idxOf_miss hlt HN.out)
      go_wp2
      go_ret
      exact ⟨ret_int HT.out.symm, (Below.refl _ _).alloc (Nat.le_refl _) _⟩

set_option maxHeartbeats 400000 in
theorem implLinkIndex1_c {wr : World} {cs : List Value} {y : LLink} {a b : Int} {B : Nat} (hr : RLink.raw wr cs y) (hA : wr.cell? ⟨B, 0, none⟩ = some (.int .i64 a)) (hB : wr.cell? ⟨B + 1, 0, none⟩ = some (.int .i64 b)) :
    Calls Tryd.prog 38 (#[.agg cs.toArray] ++ #[.pointer (some ⟨B, 0, none⟩), .pointer (some ⟨B + 1, 0, none⟩)]) wr fun e w' => e = .returned (.bool (isLink a b y)) ∧ Below wr.heap.size wr w' := by
  obtain ⟨rfl, h1, h2⟩ := RLink_raw hr
  obtain ⟨y1, y2⟩ := y
  clear hr h1 h2
  have hb1 := World.block_lt_of_cell? _ _ hA
  have hb2 := World.block_lt_of_cell? _ _ hB
  simp only at hb1 hb2
  show Calls Tryd.prog 38 #[_, _, _] wr _
  go_enter Tryd.func38, Tryd.ntmps38
  cases h1 : (y1 == a)
  · cases h3 : (y1 == b)
    · (have HT : Hid (isLink a b (y1, y2) = false) := Lib.hid (by simp [isLink, h1, h3]); go_wp2; go_ret; exact ⟨ret_bool HT.out.symm, (Below.refl _ _).alloc (Nat.le_refl _) _⟩)
    · cases h4 : (y2 == a) <;>
      (have HT := Lib.hid (show isLink a b (y1, y2) = _ by simp only [isLink, h1, h3, h4]; rfl); go_wp2; go_ret; exact ⟨ret_bool HT.out.symm, (Below.refl _ _).alloc (Nat.le_refl _) _⟩)
  · cases h2 : (y2 == b)
    · cases h3 : (y1 == b)
      · (have HT := Lib.hid (show isLink a b (y1, y2) = _ by simp only [isLink, h1, h2, h3]; rfl); go_wp2; go_ret; exact ⟨ret_bool HT.out.symm, (Below.refl _ _).alloc (Nat.le_refl _) _⟩)
      · cases h4 : (y2 == a) <;>
        (have HT := Lib.hid (show isLink a b (y1, y2) = _ by simp only [isLink, h1, h2, h3, h4]; rfl); go_wp2; go_ret; exact ⟨ret_bool HT.out.symm, (Below.refl _ _).alloc (Nat.le_refl _) _⟩)
    · (have HT : Hid (isLink a b (y1, y2) = true) := Lib.hid (by simp [isLink, h1, h2]); go_wp2; go_ret; exact ⟨ret_bool HT.out.symm, (Below.refl _ _).alloc (Nat.le_refl _) _⟩)

theorem callable_LinkIndex1 : Callable Tryd.prog 38 := callable_of Tryd.func38 (by kernel_rfl) (by kernel_rfl)
set_option maxHeartbeats 400000 in
theorem implLinkIndex_c {w : World} {ca : List Value} {x : LTopology} {a b : Int} (ha : RTopology.rd w ca x) (_ : -9223372036854775808 ≤ a ∧ a ≤ 9223372036854775807) (_ : -9223372036854775808 ≤ b ∧ b ≤ 9223372036854775807) :
    Calls Tryd.prog 18 #[.agg ca.toArray, .int .i64 a, .int .i64 b] w fun e w' => e = .returned (.int .i64 (idxOf (isLink a b) x.2)) ∧ Below w.heap.size w w' := by
  obtain ⟨av1, rfl, a_0, a_1⟩ := RTopology_raw ha.1
  obtain ⟨x0, x1⟩ := x
  clear ha a_0
  go_enter Tryd.func18, Tryd.ntmps18
  go_wp2_with fail
  refine (IndexFunc_Link_c (isLink a b) callable_LinkIndex1 (((a_1.alloc _).alloc _).alloc _) ?_).mono ?_
  · intro wr hb i h cs hr
    have c1 := (bcell hb).1 (w.heap.size + 1) 0 (by simp)
    have c2 := (bcell hb).1 (w.heap.size + 1 + 1) 0 (by simp)
    simp [go_sem] at c1 c2
    exact implLinkIndex1_c hr c1 c2
  rintro e w1 ⟨rfl, hb1⟩
  have E1 : Below w.heap.size w w1 := ((((Below.refl _ _).alloc (Nat.le_refl _) _).alloc (by simp) _).alloc (by simp; omega) _).trans (hb1.mono (by simp; omega))
  clear hb1
  go_wp2
  go_ret
  exact ⟨rfl, E1⟩
end Go.Proofs.YtpgnbablhdknnaaDoor
