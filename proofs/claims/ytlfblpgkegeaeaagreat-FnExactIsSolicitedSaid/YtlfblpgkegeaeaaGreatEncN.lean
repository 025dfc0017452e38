/-
  Names, written behind bytes.
-/
import Derived.Test.YtlfblpgkegeaeaaGreatEnc
import Derived.Test.YtlfblpgkegeaeaaGreatVName
import Derived.IntWalk
import Derived.Deep.Cut
import Derived.WalkSpells
import Derived.WalkLawsBesides
import Derived.Lib.ConvBytes
namespace Go.Proofs.YtlfblpgkegeaeaaGreat
open Go.RowKit
set_option linter.unusedVariables false
set_option linter.unusedSimpArgs false
set_option linter.unnecessarySimpa false
theorem vPart_size {s : ByteArray} (h : vPart s = true) : s.size ≤ 8 := by
  unfold vPart at h
  simp only [Bool.and_eq_true] at h
  have h2 : (1 : Int) ≤ s.size ∧ (s.size : Int) ≤ 8 := by simpa [inR] using h.2
  omega
theorem vName_len {n : LName} (h : vName n = true) : n.length ≤ 6 := by
  unfold vName at h
  simp only [Bool.and_eq_true, decide_eq_true_eq] at h
  exact h.2
theorem vName_part {n : LName} (h : vName n = true) {k : Nat} (hk : k < n.length) : n[k].size ≤ 8 := by
  by_cases q : vPart n[k] = true
  · exact vPart_size q
  · have := vName_bad hk (by simpa using q)
    rw [this] at h; cases h
theorem encS_len {s : ByteArray} (h : s.size ≤ 8) : (encS s).length ≤ 14 := by
  have h1 := vintI_len s.data.toList.length
  have h2 : s.data.toList.length = s.size := by simp
  unfold encS; rw [List.length_append]; omega
theorem encSs_len {n : LName} (h : vName n = true) : ∀ {k : Nat}, k ≤ n.length → (encSs (n.take k)).length ≤ 14 * k
  | 0, _ => by simp [encSs]
  | k + 1, hk => by
    have h1 := encSs_len h (k := k) (by omega)
    have h2 := encS_len (vName_part h (k := k) (by omega))
    rw [encSs_succ (by omega), List.length_append]; omega
theorem encNm_len {n : LName} (h : vName n = true) : (encNm n).length ≤ 90 := by
  have h1 := vintI_len n.length
  have h2 := encSs_len h (k := n.length) (Nat.le_refl _)
  have h3 := vName_len h
  rw [List.take_length] at h2
  unfold encNm; rw [List.length_append]; omega
set_option maxRecDepth 100000 in
set_option maxHeartbeats 2000000 in
theorem specAppendName_c {w : World} {va : Value} {b : List UInt8} {cn : List Value} {n : LName} (ha : (Rep.slice 5 Rep.byte).rd w [va] b) (hn : RName.raw w cn n) (hv : vName n = true) (hb : b.length ≤ 1000000) :
    Calls Tryz.prog 242 #[va, .agg cn.toArray] w (Made0 5 Rep.byte (b ++ encNm n) w) := by
  obtain ⟨av, rfl, a_0⟩ := RName_raw hn
  obtain ⟨an, capn, hvn, ln⟩ := Rep.len_raw a_0; obtain rfl : av = _ := by simpa using hvn
  obtain ⟨aa, capa, hva, la⟩ := Rep.len_raw ha.1; obtain rfl : va = _ := by simpa using hva
  have HA := Lib.hid ha
  have HN := Lib.hid a_0
  have HNR := Lib.hid hn
  have HV := Lib.hid hv
  have hnl := vName_len hv
  clear hva hvn ha hn a_0 hv
  go_enter Tryz.func242, Tryz.ntmps242
  have O0 : Rep.own0 5 Rep.byte ((w.alloc (.cells #[.slice an n.length capn] 64)).alloc (.cells #[] 5)) (.slice (some ⟨w.heap.size + 1, 0, none⟩) 0 0) [] (fun k => k = w.heap.size + 1) := by
    have h := Rep.own0_lit (e := 5) (r := Rep.byte) (w := w.alloc (.cells #[.slice an n.length capn] 64)) (cs := []) (xs := []) (T := fun _ => False) (S := fun k => k = w.heap.size + 1) (by simp) (by simp) rfl (fun _ h => h.elim) (by simp)
    simpa using h
  go_wp2_with (at_builtin; refine Rep.wpList_pushN rfl _ _ 40 rfl (r := Rep.byte) (e := 5) Tryz.underlying40 infByte rfl (by decide) (by decide) Rep.isFlat_byte (B := w.heap.size + 1) O0 (by rfl) (by rfl) (HA.out.below (by repeat (first | (with_reducible exact Below.refl _ _) | refine Below.alloc ?_ (by simp; try omega) _ | refine Below.drew ?_ | refine Below.setCell ?_ (by simp; try omega) _))) (fun k hk => ⟨by omega, by simp; omega⟩) (by simp) (by simp; omega) ?_)
  intro v2 w2 hown hbel hz
  have HO : Hid (Rep.own0 5 Rep.byte w2 v2 b (Btw w.heap.size w2.heap.size)) := Lib.hid ((hown.cast (by simp)).wide (fun j hj => ⟨by have := hj.1; omega, hj.2⟩))
  have K0 : w2.cell? ⟨w.heap.size, 0, none⟩ = some (.slice an n.length capn) := (hbel.cell (p := ⟨w.heap.size, 0, none⟩) (by simp)).trans (by simp [go_sem])
  have EG : Below w.heap.size w w2 := Below.trans (by repeat (first | (with_reducible exact Below.refl _ _) | refine Below.alloc ?_ (by simp; try omega) _ | refine Below.drew ?_ | refine Below.setCell ?_ (by simp; try omega) _)) (hbel.mono (by first | omega | (simp; try omega)))
  obtain ⟨a2, n2, c2, hv2, HN2⟩ := HO.out.parts
  obtain rfl := hv2
  have hgt : w.heap.size < w2.heap.size := by have := hbel.size; simp at this; omega
  clear hown O0 hbel hz
  go_wp2_with fail
  refine (specValidName_c (HNR.out.below EG)).mono ?_
  rintro e w3 ⟨rfl, hb3⟩
  rw [HV.out]
  replace K0 := cell_later hb3 K0
  replace HO := Lib.hid (((HO.out.below hb3).own (by unfold Big; omega)).rd)
  have EG3 := EG.trans (hb3.mono EG.size)
  have hgt3 : w.heap.size < w3.heap.size := by have := hb3.size; omega
  clear EG hb3 hgt
  go_wp2_with fail
  refine (specAppendVarint_c HO.out).mono ?_
  rintro e w4 ⟨v4, rfl, hown4, EG4⟩
  obtain ⟨a4, n4, c4, hv4, HN4⟩ := hown4.parts
  obtain rfl := hv4
  replace K0 := cell_later EG4 K0
  have EG := EG3.trans (EG4.mono EG3.size)
  have HO4 : Hid (Rep.own0 5 Rep.byte w4 (.slice a4 n4 c4) (b ++ vintI n.length) (Btw (w.heap.size + 1) w4.heap.size)) := Lib.hid (hown4.wide (fun j hj => ⟨by have := hj.1; omega, hj.2⟩))
  have hgt4 : w.heap.size < w4.heap.size := by have := EG4.size; omega
  have HK0 := Lib.hid K0
  clear hown4 EG3 EG4 hgt3 K0
  have HL4 := Lib.hid (vintI_len n.length)
  have K0 := HK0.out
  go_wp2
  go_loopw [5, 6] (fun v i wr => ∃ k : Nat, k ≤ n.length ∧ i = .int .i64 k ∧ Hid (Rep.own0 5 Rep.byte wr v (b ++ vintI n.length ++ encSs (n.take k)) (Btw (w.heap.size + 1) wr.heap.size)) ∧ Below (w.heap.size + 1) w4 wr) (fun _ i _ => n.length - (intOf i).toNat)
  case atStart => exact ⟨0, Nat.zero_le _, rfl, Lib.hid (by simpa [encSs] using HO4.out), Below.refl _ _⟩
  case round =>
    clear K0 HO4
    obtain ⟨k, hk, rfl, HO, hbel⟩ := hrel
    obtain ⟨oa, on, oc, ho, HON⟩ := HO.out.parts; obtain rfl := ho
    have EW : Below w.heap.size w wr := EG.trans (hbel.mono (by omega))
    have hgtr : w.heap.size < wr.heap.size := by have := hbel.size; omega
    have K0 : wr.cell? ⟨w.heap.size, 0, none⟩ = some (.slice an n.length capn) := (hbel.cell (p := ⟨w.heap.size, 0, none⟩) (by simp)).trans HK0.out
    by_cases hlt : k < n.length
    · obtain ⟨qb, qo, rfl, c0, hr, A0⟩ := Rep.get1 (HN.out.below EW) hlt rfl
      obtain ⟨he, hsz⟩ := Rep.str_raw hr
      obtain rfl : c0 = _ := by simpa using he
      clear he hr
      have HSN := Lib.hid (encSs_succ hlt)
      have hs8 := vName_part HV.out hlt
      have hel := encSs_len HV.out hk
      have HRD : Hid ((Rep.slice 5 Rep.byte).rd wr [.slice oa on oc] (b ++ vintI n.length ++ encSs (n.take k))) := Lib.hid ((HO.out.own (by have := HL4.out; unfold Big; simp only [List.length_append]; omega)).rd)
      generalize n[k] = s at *
      have hcv := Lib.run_convert_string_bytes (P := Tryz.prog) wr 9 40 5 s (u := .string) Tryz.underlying9 Tryz.underlying40 Tryz.underlying5
      have HS := Lib.hid (bytesWorld_rd (w := wr) (e := 5) (e2 := 5) (s := s) (by omega))
      have hbw := bytesWorld_below' wr 5 s
      obtain ⟨W1, hW1⟩ : ∃ W1, W1 = Lib.bytesWorld wr 5 s := ⟨_, rfl⟩
      rw [← hW1] at hcv HS hbw
      clear hW1 hel hsz
      generalize grownCap wr s.size 0 5 = gc at *
      go_wp2_with fail
      refine (specAppendBytes_c (HRD.out.below hbw) HS.out).mono ?_
      rintro e w5 ⟨v5, rfl, hown, EG5⟩
      obtain ⟨a5, n5, c5, hv5, HN5⟩ := hown.parts
      obtain rfl := hv5
      have EW5 := hbel.trans ((hbw.mono (by omega)).trans (EG5.mono (by have := hbw.size; omega)))
      have HO2 : Hid (Rep.own0 5 Rep.byte w5 (.slice a5 n5 c5) (b ++ vintI n.length ++ encSs (n.take (k + 1))) (Btw (w.heap.size + 1) w5.heap.size)) := Lib.hid ((hown.cast (by rw [HSN.out]; simp only [encS, List.append_assoc])).wide (fun j hj => ⟨by have := hj.1; have := hbw.size; omega, hj.2⟩))
      clear hown EG5 HO HRD A0 hbel hcv hbw K0 EW
      go_wp2
      go_roundw
      case rel => exact ⟨k + 1, by omega, by go_num, HO2, EW5⟩
      case measure => simp [intOf]; omega
    · obtain rfl : k = n.length := by omega
      go_wp2
      go_ret
      exact ⟨_, rfl, (HO.out.cast (by rw [List.take_length, encNm, List.append_assoc])).wide (fun j hj => ⟨by have := hj.1; omega, hj.2⟩), EW⟩
set_option maxRecDepth 100000 in
set_option maxHeartbeats 2000000 in
theorem implAppendName_c {w : World} {va : Value} {b : List UInt8} {cn : List Value} {n : LName} (ha : (Rep.slice 5 Rep.byte).rd w [va] b) (hn : RName.raw w cn n) (hv : vName n = true) (hb : b.length ≤ 1000000) :
    Calls Tryz.prog 248 #[va, .agg cn.toArray] w (Made0 5 Rep.byte (b ++ encNm n) w) := by
  obtain ⟨av, rfl, a_0⟩ := RName_raw hn
  obtain ⟨an, capn, hvn, ln⟩ := Rep.len_raw a_0; obtain rfl : av = _ := by simpa using hvn
  obtain ⟨aa, capa, hva, la⟩ := Rep.len_raw ha.1; obtain rfl : va = _ := by simpa using hva
  have HA := Lib.hid ha
  have HN := Lib.hid a_0
  have HNR := Lib.hid hn
  have HV := Lib.hid hv
  have hnl := vName_len hv
  clear hva hvn ha hn a_0 hv
  go_enter Tryz.func248, Tryz.ntmps248
  go_wp2_with fail
  generalize hwB : World.alloc w _ = wB
  have EB : Below w.heap.size w wB := by rw [← hwB]; exact (by repeat (first | (with_reducible exact Below.refl _ _) | refine Below.alloc ?_ (by simp; try omega) _ | refine Below.drew ?_ | refine Below.setCell ?_ (by simp; try omega) _))
  have K0 : wB.cell? ⟨w.heap.size, 0, none⟩ = some (.slice an n.length capn) := by rw [← hwB]; simp [go_sem]
  have hgt : w.heap.size < wB.heap.size := by rw [← hwB]; simp
  clear hwB
  refine (implValidName_c (HNR.out.below EB)).mono ?_
  rintro e w3 ⟨rfl, hb3⟩
  rw [HV.out]
  replace K0 := cell_later hb3 K0
  have EG3 := EB.trans (hb3.mono EB.size)
  have hgt3 : w.heap.size < w3.heap.size := by have := hb3.size; omega
  clear EB hb3 hgt
  go_wp2_with fail
  refine (implAppendVarint_c (HA.out.below EG3)).mono ?_
  rintro e w4 ⟨v4, rfl, hown4, EG4⟩
  obtain ⟨a4, n4, c4, hv4, HN4⟩ := hown4.parts
  obtain rfl := hv4
  replace K0 := cell_later EG4 K0
  have EG := EG3.trans (EG4.mono EG3.size)
  have HO4 : Hid (Rep.own0 5 Rep.byte w4 (.slice a4 n4 c4) (b ++ vintI n.length) (Btw (w.heap.size + 1) w4.heap.size)) := Lib.hid (hown4.wide (fun j hj => ⟨by have := hj.1; omega, hj.2⟩))
  have hgt4 : w.heap.size < w4.heap.size := by have := EG4.size; omega
  have HK0 := Lib.hid K0
  clear hown4 EG3 EG4 hgt3 K0
  have HL4 := Lib.hid (vintI_len n.length)
  have K0 := HK0.out
  go_wp2
  go_loopw [5, 21] (fun v i wr => ∃ k : Nat, k ≤ n.length ∧ i = .int .i64 k ∧ Hid (Rep.own0 5 Rep.byte wr v (b ++ vintI n.length ++ encSs (n.take k)) (Btw (w.heap.size + 1) wr.heap.size)) ∧ Below (w.heap.size + 1) w4 wr) (fun _ i _ => n.length - (intOf i).toNat)
  case atStart => exact ⟨0, Nat.zero_le _, rfl, Lib.hid (by simpa [encSs] using HO4.out), Below.refl _ _⟩
  case round =>
    clear K0 HO4
    obtain ⟨k, hk, rfl, HO, hbel⟩ := hrel
    obtain ⟨oa, on, oc, ho, HON⟩ := HO.out.parts; obtain rfl := ho
    have EW : Below w.heap.size w wr := EG.trans (hbel.mono (by omega))
    have hgtr : w.heap.size < wr.heap.size := by have := hbel.size; omega
    have K0 : wr.cell? ⟨w.heap.size, 0, none⟩ = some (.slice an n.length capn) := (hbel.cell (p := ⟨w.heap.size, 0, none⟩) (by simp)).trans HK0.out
    by_cases hlt : k < n.length
    · obtain ⟨qb, qo, rfl, c0, hr, A0⟩ := Rep.get1 (HN.out.below EW) hlt rfl
      obtain ⟨he, hsz⟩ := Rep.str_raw hr
      obtain rfl : c0 = _ := by simpa using he
      clear he hr
      have HSN := Lib.hid (encSs_succ hlt)
      have hs8 := vName_part HV.out hlt
      have hel := encSs_len HV.out hk
      have HRD : Hid ((Rep.slice 5 Rep.byte).rd wr [.slice oa on oc] (b ++ vintI n.length ++ encSs (n.take k))) := Lib.hid ((HO.out.own (by have := HL4.out; unfold Big; simp only [List.length_append]; omega)).rd)
      generalize n[k] = s at *
      have hcv := Lib.run_convert_string_bytes (P := Tryz.prog) wr 9 40 5 s (u := .string) Tryz.underlying9 Tryz.underlying40 Tryz.underlying5
      have HS := Lib.hid (bytesWorld_rd (w := wr) (e := 5) (e2 := 5) (s := s) (by omega))
      have hbw := bytesWorld_below' wr 5 s
      obtain ⟨W1, hW1⟩ : ∃ W1, W1 = Lib.bytesWorld wr 5 s := ⟨_, rfl⟩
      rw [← hW1] at hcv HS hbw
      clear hW1 hel hsz
      generalize grownCap wr s.size 0 5 = gc at *
      go_wp2_with fail
      refine (implAppendBytes_c (HRD.out.below hbw) HS.out).mono ?_
      rintro e w5 ⟨v5, rfl, hown, EG5⟩
      obtain ⟨a5, n5, c5, hv5, HN5⟩ := hown.parts
      obtain rfl := hv5
      have EW5 := hbel.trans ((hbw.mono (by omega)).trans (EG5.mono (by have := hbw.size; omega)))
      have HO2 : Hid (Rep.own0 5 Rep.byte w5 (.slice a5 n5 c5) (b ++ vintI n.length ++ encSs (n.take (k + 1))) (Btw (w.heap.size + 1) w5.heap.size)) := Lib.hid ((hown.cast (by rw [HSN.out]; simp only [encS, List.append_assoc])).wide (fun j hj => ⟨by have := hj.1; have := hbw.size; omega, hj.2⟩))
      clear hown EG5 HO HRD A0 hbel hcv hbw K0 EW
      go_wp2
      go_roundw
      case rel => exact ⟨k + 1, by omega, by go_num, HO2, EW5⟩
      case measure => simp [intOf]; omega
    · obtain rfl : k = n.length := by omega
      go_wp2
      go_ret
      exact ⟨_, rfl, (HO.out.cast (by rw [List.take_length, encNm, List.append_assoc])).wide (fun j hj => ⟨by have := hj.1; omega, hj.2⟩), EW⟩
end Go.Proofs.YtlfblpgkegeaeaaGreat
