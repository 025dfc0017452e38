/-
  Measurements: what is right stays right; a face that fails counts no less, one that answers no more. Plain.
-/
import Derived.Test.YtikjbdfkdkijkaaRecF
import Derived.Test.YtikjbdfkdkijkaaRecS
import Derived.Test.YtikjbdfkdkijkaaVMeas
import Derived.Test.YtikjbdfkdkijkaaRank
namespace Go.Proofs.Ytikjbdfkdkijkaa
open Go.RowKit
set_option linter.unusedVariables false
set_option linter.unusedSimpArgs false
set_option linter.unnecessarySimpa false
theorem allB_iff {f : Nat → Bool} : ∀ {n : Nat}, allB f n = true ↔ ∀ j, j < n → f j = true
  | 0 => by simp [allB]
  | n + 1 => by
    rw [allB, Bool.and_eq_true, allB_iff]
    constructor
    · rintro ⟨h, k⟩ j hj
      by_cases e : j = n
      · rw [e]; exact k
      · exact h j (by omega)
    · intro h; exact ⟨fun j hj => h j (by omega), h n (by omega)⟩
theorem idxOf_neg {α : Type} {p : α → Bool} {x : List α} : idxOf p x < 0 ↔ ∀ y ∈ x, p y = false := by
  unfold idxOf
  cases h : x.findIdx? p with
  | none => simp [List.findIdx?_eq_none_iff.1 h]; exact List.findIdx?_eq_none_iff.1 h
  | some i =>
    obtain ⟨hi, hp, _⟩ := List.findIdx?_eq_some_iff_getElem.1 h
    constructor
    · intro q; simp at q; omega
    · intro q; rw [q _ (List.getElem_mem hi)] at hp; cases hp
def keyM (m : LMeasurement) : LName × Int := (m.1, m.2.1)
theorem isMeas_iff {n : LName} {f : Int} {m : LMeasurement} : isMeas n f m = true ↔ keyM m = (n, f) := by
  unfold isMeas keyM eqN
  simp [Prod.ext_iff, and_comm]
def okM (m : LMeasurement) : Prop := vName m.1 = true ∧ 1 ≤ m.2.1 ∧ m.2.1 ≤ 6 ∧ 1 ≤ m.2.2 ∧ m.2.2 ≤ 50
theorem okMeas_iff {l : List LMeasurement} {k : Nat} {m : LMeasurement} : okMeas l k m = true ↔ okM m ∧ ∀ y ∈ l.take k, keyM y ≠ keyM m := by
  have h : (decide (idxOf (isMeas m.1 m.2.1) (l.take k) ≥ 0) = false) ↔ ∀ y ∈ l.take k, keyM y ≠ keyM m := by
    rw [decide_eq_false_iff_not, show (¬ idxOf (isMeas m.1 m.2.1) (l.take k) ≥ 0) ↔ idxOf (isMeas m.1 m.2.1) (l.take k) < 0 by omega, idxOf_neg]
    constructor
    · intro h y hy q
      have := h y hy
      rw [isMeas_iff.2 q] at this; cases this
    · intro h y hy
      cases e : isMeas m.1 m.2.1 y with
      | false => rfl
      | true => exact absurd (isMeas_iff.1 e) (h y hy)
  unfold okMeas okM inR
  simp only [Bool.not_eq_true', Bool.or_eq_false_iff, Bool.not_eq_false', h, Bool.and_eq_true, decide_eq_true_eq]
  constructor
  · rintro ⟨a, ⟨b, c⟩, ⟨d, e⟩, f⟩; exact ⟨⟨a, b, c, d, e⟩, f⟩
  · rintro ⟨⟨a, b, c, d, e⟩, f⟩; exact ⟨a, ⟨b, c⟩, ⟨d, e⟩, f⟩
theorem vMeass_iff {l : List LMeasurement} : vMeass l = true ↔ l.length ≤ 24 ∧ (∀ m ∈ l, okM m) ∧ (l.map keyM).Nodup := by
  unfold vMeass
  rw [Bool.and_eq_true, allB_iff, decide_eq_true_eq]
  have e : (∀ j, j < l.length → okMeas l j (l.getD j ([], 0, 0)) = true) ↔ (∀ m ∈ l, okM m) ∧ (l.map keyM).Nodup := by
    constructor
    · intro h
      have h' : ∀ j (hj : j < l.length), okM l[j] ∧ ∀ y ∈ l.take j, keyM y ≠ keyM l[j] := fun j hj => okMeas_iff.1 (by have := h j hj; rwa [getD_get hj] at this)
      refine ⟨fun m hm => ?_, ?_⟩
      · obtain ⟨j, hj, rfl⟩ := List.getElem_of_mem hm
        exact (h' j hj).1
      · rw [List.Nodup, List.pairwise_iff_getElem]
        intro i j hi hj hij
        simp only [List.length_map] at hi hj
        simp only [List.getElem_map]
        exact (h' j hj).2 _ (List.mem_take_iff_getElem.2 ⟨i, by omega, rfl⟩)
    · rintro ⟨h1, h2⟩ j hj
      rw [getD_get hj]
      refine okMeas_iff.2 ⟨h1 _ (List.getElem_mem hj), fun y hy => ?_⟩
      obtain ⟨i, hi, rfl⟩ := List.mem_take_iff_getElem.1 hy
      rw [List.Nodup, List.pairwise_iff_getElem] at h2
      have := h2 i j (by simp; omega) (by simpa using hj) (by omega)
      simpa using this
  rw [e]
  constructor
  · rintro ⟨a, b⟩; exact ⟨b, a⟩
  · rintro ⟨a, b⟩; exact ⟨b, a⟩
theorem map_set_key {l : List LMeasurement} {k : Nat} (hk : k < l.length) {y : LMeasurement} (h : keyM y = keyM l[k]) : (l.set k y).map keyM = l.map keyM := by
  rw [List.map_set, h]
  apply List.ext_getElem (by simp)
  intro i h1 h2
  by_cases e : k = i
  · subst e; simp
  · simp [List.getElem_set_ne e]
theorem mem_set_ok {l : List LMeasurement} {k : Nat} {y : LMeasurement} (h : ∀ m ∈ l, okM m) (hy : okM y) : ∀ m ∈ l.set k y, okM m := by
  intro m hm
  rcases List.mem_or_eq_of_mem_set hm with q | q
  · exact h m q
  · rw [q]; exact hy
theorem upF_ok {x : Int} (h : 1 ≤ x) (h2 : x ≤ 50) : 1 ≤ upF x ∧ upF x ≤ 50 ∧ x ≤ upF x := by
  unfold upF wrap64; omega
theorem recF_valid {n : LName} {f : Int} {l : List LMeasurement} (h : vMeass l = true) : vMeass (recF n f l) = true := by
  cases hq : vName n && inR f 1 6 with
  | false => rw [recF_no hq]; exact h
  | true =>
    obtain ⟨h1, h2, h3⟩ := vMeass_iff.1 h
    by_cases hi : idxOf (isMeas n f) l < 0
    · by_cases hl : l.length < 24
      · rw [recF_new hq hi hl]
        refine vMeass_iff.2 ⟨by simp; omega, ?_, ?_⟩
        · intro m hm
          rcases List.mem_append.1 hm with q | q
          · exact h2 m q
          · rw [List.mem_singleton.1 q]
            simp only [Bool.and_eq_true, inR, decide_eq_true_eq] at hq
            exact ⟨hq.1, hq.2.1, hq.2.2, Int.le_refl 1, (by omega : (1 : Int) ≤ 50)⟩
        · rw [List.map_append, List.nodup_append]
          refine ⟨h3, by simp, ?_⟩
          intro a ha b hb
          obtain ⟨y, hy, rfl⟩ := List.mem_map.1 ha
          simp only [List.map_cons, List.map_nil, List.mem_singleton] at hb
          subst hb
          intro q
          have := idxOf_neg.1 hi y hy
          rw [isMeas_iff.2 q] at this; cases this
      · rw [recF_full hq hi hl]; exact h
    · obtain ⟨k, hk, hki⟩ := idxOf_get hi
      rw [recF_up hq hki hk]
      have hm := h2 _ (List.getElem_mem hk)
      have hu := upF_ok hm.2.2.2.1 hm.2.2.2.2
      exact vMeass_iff.2 ⟨by simpa using h1, mem_set_ok h2 ⟨hm.1, hm.2.1, hm.2.2.1, hu.1, hu.2.1⟩, by rw [map_set_key (y := setMeasurement_2 l[k] (upF l[k].2.2)) hk rfl]; exact h3⟩
theorem recS_valid {n : LName} {f : Int} {l : List LMeasurement} (h : vMeass l = true) : vMeass (recS n f l) = true := by
  obtain ⟨h1, h2, h3⟩ := vMeass_iff.1 h
  by_cases hi : idxOf (isMeas n f) l < 0
  · rw [recS_none hi]; exact h
  · obtain ⟨k, hk, hki⟩ := idxOf_get hi
    have hm := h2 _ (List.getElem_mem hk)
    by_cases h5 : l[k].2.2 < 2
    · rw [recS_cut hki hk h5]
      have hs : (l.take k ++ l.drop (k + 1)).Sublist l := by
        conv => rhs; rw [← List.take_append_drop k l]
        exact (List.Sublist.refl _).append (by rw [List.drop_eq_getElem_cons hk]; exact List.sublist_cons_self _ _)
      exact vMeass_iff.2 ⟨Nat.le_trans hs.length_le h1, fun m q => h2 m (hs.subset q), (hs.map keyM).nodup h3⟩
    · rw [recS_half hki hk h5]
      exact vMeass_iff.2 ⟨by simpa using h1, mem_set_ok h2 ⟨hm.1, hm.2.1, hm.2.2.1, by show 1 ≤ l[k].2.2 / 2; have := hm.2.2.2.1; omega, by show l[k].2.2 / 2 ≤ 50; have := hm.2.2.2.2; omega⟩, by rw [map_set_key (y := setMeasurement_2 l[k] (l[k].2.2 / 2)) hk rfl]; exact h3⟩
/-- The first whose key is asked, where keys are met once. -/
theorem idxOf_key {n : LName} {f : Int} {l : List LMeasurement} (h : (l.map keyM).Nodup) {k : Nat} (hk : k < l.length) (hy : keyM l[k] = (n, f)) : idxOf (isMeas n f) l = k := by
  refine idxOf_hit hk (isMeas_iff.2 hy) ?_
  intro j hj hj2
  cases e : isMeas n f l[j] with
  | false => rfl
  | true =>
    rw [List.Nodup, List.pairwise_iff_getElem] at h
    have := h j k (by simpa using hj2) (by simpa using hk) hj
    simp only [List.getElem_map] at this
    exact absurd ((isMeas_iff.1 e).trans hy.symm) this
theorem idxOf_keyM {n : LName} {f : Int} {l : List LMeasurement} {k : Nat} (hk : k < l.length) (hi : idxOf (isMeas n f) l = k) : keyM l[k] = (n, f) := by
  rcases idxOf_cases (isMeas n f) l with ⟨q, _⟩ | ⟨j, hj, q, hp, _⟩
  · rw [q] at hi; omega
  · obtain rfl : j = k := by rw [q] at hi; omega
    exact isMeas_iff.1 hp
theorem failOf_recF {n : LName} {f : Int} {l : List LMeasurement} (h : vMeass l = true) : failOf l n f ≤ failOf (recF n f l) n f := by
  cases hq : vName n && inR f 1 6 with
  | false => rw [recF_no hq]; exact Int.le_refl _
  | true =>
    obtain ⟨h1, h2, h3⟩ := vMeass_iff.1 h
    obtain ⟨g1, g2, g3⟩ := vMeass_iff.1 (recF_valid (n := n) (f := f) h)
    by_cases hi : idxOf (isMeas n f) l < 0
    · by_cases hl : l.length < 24
      · rw [failOf_no hi]
        rw [recF_new hq hi hl] at g3 ⊢
        rw [failOf_yes (k := l.length) (by simp) (idxOf_key g3 (by simp) (by simp [keyM]))]
        simp
      · rw [recF_full hq hi hl]; exact Int.le_refl _
    · obtain ⟨k, hk, hki⟩ := idxOf_get hi
      have hm := h2 _ (List.getElem_mem hk)
      have hu := upF_ok hm.2.2.2.1 hm.2.2.2.2
      rw [failOf_yes hk hki]
      rw [recF_up hq hki hk] at g3 ⊢
      rw [failOf_yes (k := k) (by simpa using hk) (idxOf_key g3 (by simpa using hk) (by simp only [List.getElem_set_self]; exact idxOf_keyM hk hki))]
      simp only [List.getElem_set_self]
      exact hu.2.2
theorem failOf_recS {n : LName} {f : Int} {l : List LMeasurement} (h : vMeass l = true) : failOf (recS n f l) n f ≤ failOf l n f := by
  obtain ⟨h1, h2, h3⟩ := vMeass_iff.1 h
  obtain ⟨g1, g2, g3⟩ := vMeass_iff.1 (recS_valid (n := n) (f := f) h)
  by_cases hi : idxOf (isMeas n f) l < 0
  · rw [recS_none hi]; exact Int.le_refl _
  · obtain ⟨k, hk, hki⟩ := idxOf_get hi
    have hm := h2 _ (List.getElem_mem hk)
    rw [failOf_yes hk hki]
    by_cases h5 : l[k].2.2 < 2
    · rw [recS_cut hki hk h5]
      rw [failOf_no]
      · have := hm.2.2.2.1; omega
      · refine idxOf_neg.2 (fun y hy => ?_)
        cases e : isMeas n f y with
        | false => rfl
        | true =>
          exfalso
          have hke := (isMeas_iff.1 e).trans (idxOf_keyM hk hki).symm
          rw [List.Nodup, List.pairwise_iff_getElem] at h3
          rcases List.mem_append.1 hy with q | q
          · obtain ⟨i, hi2, rfl⟩ := List.mem_take_iff_getElem.1 q
            have := h3 i k (by simp; omega) (by simpa using hk) (by omega)
            simp only [List.getElem_map] at this
            exact this hke
          · obtain ⟨i, hi2, rfl⟩ := List.mem_drop_iff_getElem.1 q
            have := h3 k (i + (k + 1)) (by simpa using hk) (by simp; omega) (by omega)
            simp only [List.getElem_map] at this
            exact this (by rw [← hke]; simp only [Nat.add_comm])
    · rw [recS_half hki hk h5] at g3 ⊢
      rw [failOf_yes (k := k) (by simpa using hk) (idxOf_key g3 (by simpa using hk) (by simp only [List.getElem_set_self]; exact idxOf_keyM hk hki))]
      simp only [List.getElem_set_self]
      show l[k].2.2 / 2 ≤ l[k].2.2
      have := hm.2.2.2.1
      omega
theorem rank_asc {l : List LMeasurement} {n : LName} {fs : List Int} {i : Nat} (h0 : 0 < i) (h : i < (rankF l n fs).length) : failOf l n (rankF l n fs)[i - 1] ≤ failOf l n (rankF l n fs)[i] := by
  have ha := (Srt.sorted_spec (key := failOf l n) fs).1
  unfold Srt.Asc at ha
  rw [List.pairwise_iff_getElem] at ha
  exact ha (i - 1) i (by have : (Srt.sorted (failOf l n) fs).length = (rankF l n fs).length := rfl; omega) h (by omega)
end Go.Proofs.Ytikjbdfkdkijkaa
