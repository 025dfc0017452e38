/-
  Interests counted.
-/
import Derived.Test.YtigfchigjcnghaaLib
import Derived.Test.YtigfchigjcnghaaSoft
import Derived.IntWalk
import Derived.Deep.Cut
namespace Go.Proofs.Ytigfchigjcnghaa
open Go.RowKit
set_option linter.unusedSimpArgs false
set_option linter.unnecessarySimpa false
set_option linter.unusedVariables false
def cntK (l : List LOutgoing) : Nat → Int
  | 0 => 0
  | k + 1 => if (l.getD k (0, false, ([], 0, 0, 0), ([], [], [], 0, 0))).2.1 then cntK l k + 1 else cntK l k
def cntI (l : List LOutgoing) : Int := cntK l l.length
theorem cntK_bd (l : List LOutgoing) : ∀ k : Nat, 0 ≤ cntK l k ∧ cntK l k ≤ k
  | 0 => by simp [cntK]
  | k + 1 => by
    have := cntK_bd l k
    unfold cntK
    split <;> omega
theorem cntK_yes {l : List LOutgoing} {k : Nat} (h : k < l.length) (q : l[k].2.1 = true) : cntK l (k + 1) = cntK l k + 1 := by
  show (if _ then cntK l k + 1 else cntK l k) = _; rw [getD_get h, q]; rfl
theorem cntK_no {l : List LOutgoing} {k : Nat} (h : k < l.length) (q : l[k].2.1 = false) : cntK l (k + 1) = cntK l k := by
  show (if _ then cntK l k + 1 else cntK l k) = _; rw [getD_get h, q]; rfl
set_option maxRecDepth 100000 in
set_option maxHeartbeats 2000000 in
theorem specCountInterests_w {w : World} {vl : Value} {l : List LOutgoing} (hl : (Rep.slice 149 ROutgoing).raw w [vl] l) :
    Calls Try.prog 54 #[vl] w fun e w' => e = .returned (.int .i64 (cntI l)) ∧ Below w.heap.size w w' := by
  obtain ⟨aa, capa, hva, la⟩ := Rep.len_raw hl; obtain rfl : vl = _ := by simpa using hva
  clear hva
  go_enter Try.func54, Try.ntmps54
  go_wp2
  go_loopw [3, 4] (fun n i wr => ∃ (k : Nat) (m : Int), k ≤ l.length ∧ i = .int .i64 k ∧ n = .int .i64 m ∧ Hid (cntK l k = m) ∧ 0 ≤ m ∧ m ≤ k ∧ Below w.heap.size w wr) (fun _ i _ => l.length - (intOf i).toNat)
  case atStart => exact ⟨0, 0, Nat.zero_le _, rfl, rfl, Lib.hid rfl, Int.le_refl _, Int.le_refl _, Below.refl _ _⟩
  case round =>
    obtain ⟨k, m, hk, rfl, rfl, HM, hm0, hmk, hbel⟩ := hrel
    by_cases hlt : k < l.length
    · obtain ⟨qb, qo, rfl, qc0, qc1, qc2, qc3, qc4, qc5, qc6, qc7, qc8, qc9, qc10, qr, Aq0, Aq1, Aq2, Aq3, Aq4, Aq5, Aq6, Aq7, Aq8, Aq9, Aq10⟩ := Rep.get11 (hl.below hbel) (i := k) (by omega) rfl
      have hy := fun q => cntK_yes hlt q
      have hn := fun q => cntK_no hlt q
      generalize l[k] = x at *
      have HY := Lib.hid hy; have HX := Lib.hid hn; clear hy hn
      obtain ⟨x0, x1, x2, x3⟩ := x
      obtain ⟨qv2, qv6, qv7, qv8, qhe, q_0, q_1, q_2, q_3, q_4, q_5, q_6, q_7, q_8, q_9, q_10, q_11, q_12, q_13, q_14⟩ := ROutgoing_raw qr
      simp only [List.cons.injEq, and_true] at qhe
      obtain ⟨rfl, rfl, rfl, rfl, rfl, rfl, rfl, rfl, rfl, rfl, rfl⟩ := qhe
      obtain ⟨qa2, qp2, qh2, ql2⟩ := Rep.len_raw q_3; obtain rfl : qc2 = _ := by simpa using qh2
      clear qh2
      obtain ⟨qa6, qp6, qh6, ql6⟩ := Rep.len_raw q_9; obtain rfl : qc6 = _ := by simpa using qh6
      clear qh6
      obtain ⟨qa7, qp7, qh7, ql7⟩ := Rep.len_raw q_10; obtain rfl : qc7 = _ := by simpa using qh7
      clear qh7
      obtain ⟨qa8, qp8, qh8, ql8⟩ := Rep.len_raw q_12; obtain rfl : qc8 = _ := by simpa using qh8
      clear qh8
      cases x1
      · have HT := Lib.hid ((HX.out rfl).trans HM.out)
        clear HX HY
        go_wp2
        go_roundw
        case rel => exact ⟨k + 1, m, by omega, by go_num, rfl, HT, by omega, by omega, hbel⟩
        case measure => simp [intOf]; omega
      · have HT := Lib.hid ((HY.out rfl).trans (congrArg (fun z => z + 1) HM.out))
        clear HX HY
        go_wp2
        go_roundw
        case rel => exact ⟨k + 1, m + 1, by omega, by go_num, rfl, HT, by omega, by omega, hbel⟩
        case measure => simp [intOf]; omega
    · obtain rfl : k = l.length := by omega
      have HT := Lib.hid (show cntI l = m from HM.out)
      go_wp2
      go_ret
      exact ⟨ret_int HT.out.symm, hbel⟩
theorem specCountInterests_c {w : World} {vl : Value} {l : (List LOutgoing)} (hl : (Rep.slice 149 ROutgoing).rd w [vl] l) :
    Calls Try.prog 54 #[vl] w fun e w' => e = .returned (.int .i64 (cntI l)) ∧ Below w.heap.size w w' := specCountInterests_w hl.1
set_option maxRecDepth 100000 in
set_option maxHeartbeats 2000000 in
theorem implCountInterests_w {w : World} {vl : Value} {l : List LOutgoing} (hl : (Rep.slice 149 ROutgoing).raw w [vl] l) :
    Calls Try.prog 56 #[vl] w fun e w' => e = .returned (.int .i64 (cntI l)) ∧ Below w.heap.size w w' := by
  obtain ⟨aa, capa, hva, la⟩ := Rep.len_raw hl; obtain rfl : vl = _ := by simpa using hva
  clear hva
  go_enter Try.func56, Try.ntmps56
  go_wp2
  go_loopw [3, 8] (fun n i wr => ∃ (k : Nat) (m : Int), k ≤ l.length ∧ i = .int .i64 k ∧ n = .int .i64 m ∧ Hid (cntK l k = m) ∧ 0 ≤ m ∧ m ≤ k ∧ Below w.heap.size w wr) (fun _ i _ => l.length - (intOf i).toNat)
  case atStart => exact ⟨0, 0, Nat.zero_le _, rfl, rfl, Lib.hid rfl, Int.le_refl _, Int.le_refl _, Below.refl _ _⟩
  case round =>
    obtain ⟨k, m, hk, rfl, rfl, HM, hm0, hmk, hbel⟩ := hrel
    by_cases hlt : k < l.length
    · obtain ⟨qb, qo, rfl, qc0, qc1, qc2, qc3, qc4, qc5, qc6, qc7, qc8, qc9, qc10, qr, Aq0, Aq1, Aq2, Aq3, Aq4, Aq5, Aq6, Aq7, Aq8, Aq9, Aq10⟩ := Rep.get11 (hl.below hbel) (i := k) (by omega) rfl
      have hy := fun q => cntK_yes hlt q
      have hn := fun q => cntK_no hlt q
      generalize l[k] = x at *
      have HY := Lib.hid hy; have HX := Lib.hid hn; clear hy hn
      obtain ⟨x0, x1, x2, x3⟩ := x
      obtain ⟨qv2, qv6, qv7, qv8, qhe, q_0, q_1, q_2, q_3, q_4, q_5, q_6, q_7, q_8, q_9, q_10, q_11, q_12, q_13, q_14⟩ := ROutgoing_raw qr
      simp only [List.cons.injEq, and_true] at qhe
      obtain ⟨rfl, rfl, rfl, rfl, rfl, rfl, rfl, rfl, rfl, rfl, rfl⟩ := qhe
      obtain ⟨qa2, qp2, qh2, ql2⟩ := Rep.len_raw q_3; obtain rfl : qc2 = _ := by simpa using qh2
      clear qh2
      obtain ⟨qa6, qp6, qh6, ql6⟩ := Rep.len_raw q_9; obtain rfl : qc6 = _ := by simpa using qh6
      clear qh6
      obtain ⟨qa7, qp7, qh7, ql7⟩ := Rep.len_raw q_10; obtain rfl : qc7 = _ := by simpa using qh7
      clear qh7
      obtain ⟨qa8, qp8, qh8, ql8⟩ := Rep.len_raw q_12; obtain rfl : qc8 = _ := by simpa using qh8
      clear qh8
      cases x1
      · have HT := Lib.hid ((HX.out rfl).trans HM.out)
        clear HX HY
        go_wp2
        go_roundw
        case rel => exact ⟨k + 1, m, by omega, by go_num, rfl, HT, by omega, by omega, (hbel.alloc hbel.size _)⟩
        case measure => simp [intOf]; omega
      · have HT := Lib.hid ((HY.out rfl).trans (congrArg (fun z => z + 1) HM.out))
        clear HX HY
        go_wp2
        go_roundw
        case rel => exact ⟨k + 1, m + 1, by omega, by go_num, rfl, HT, by omega, by omega, (hbel.alloc hbel.size _)⟩
        case measure => simp [intOf]; omega
    · obtain rfl : k = l.length := by omega
      have HT := Lib.hid (show cntI l = m from HM.out)
      go_wp2
      go_ret
      exact ⟨ret_int HT.out.symm, hbel⟩
theorem implCountInterests_c {w : World} {vl : Value} {l : (List LOutgoing)} (hl : (Rep.slice 149 ROutgoing).rd w [vl] l) :
    Calls Try.prog 56 #[vl] w fun e w' => e = .returned (.int .i64 (cntI l)) ∧ Below w.heap.size w w' := implCountInterests_w hl.1
end Go.Proofs.Ytigfchigjcnghaa
