/-
  Links and faces: the remote end of a face leads back; what is right stays right. Plain.
-/
import Derived.Test.YtpgnbablhdknnaaDoorPAll
import Derived.Test.YtpgnbablhdknnaaDoorRemote
import Derived.Test.YtpgnbablhdknnaaDoorRemoveF
import Derived.Test.YtpgnbablhdknnaaDoorValidTop
namespace Go.Proofs.YtpgnbablhdknnaaDoor
open Go.RowKit
set_option linter.unusedVariables false
set_option linter.unusedSimpArgs false
set_option linter.unnecessarySimpa false
theorem isLink_symm (a b : Int) : isLink a b = isLink b a := by
  funext k; unfold isLink; rw [Bool.or_comm]
theorem nbK_mem_iff {x : LTopology} {a y : Int} : ∀ {k : Nat}, y ∈ nbK x a k ↔ ∃ j : Nat, j < k ∧ y = j ∧ 0 ≤ idxOf (isLink a j) x.2
  | 0 => by simp [nbK]
  | k + 1 => by
    by_cases h : 0 ≤ idxOf (isLink a k) x.2
    · rw [nbK_yes h, List.mem_append, nbK_mem_iff, List.mem_singleton]
      constructor
      · rintro (⟨j, hj, e, q⟩ | rfl)
        · exact ⟨j, by omega, e, q⟩
        · exact ⟨k, by omega, rfl, h⟩
      · rintro ⟨j, hj, rfl, q⟩
        by_cases e : j = k
        · exact .inr (by rw [e])
        · exact .inl ⟨j, by omega, rfl, q⟩
    · rw [nbK_no h, nbK_mem_iff]
      constructor
      · rintro ⟨j, hj, e, q⟩; exact ⟨j, by omega, e, q⟩
      · rintro ⟨j, hj, rfl, q⟩
        by_cases e : j = k
        · exact absurd (e ▸ q) h
        · exact ⟨j, by omega, rfl, q⟩
theorem nbK_rise {x : LTopology} {a : Int} : ∀ {k : Nat}, (nbK x a k).Pairwise (· < ·)
  | 0 => by simp [nbK]
  | k + 1 => by
    by_cases h : 0 ≤ idxOf (isLink a k) x.2
    · rw [nbK_yes h]
      refine List.pairwise_append.2 ⟨nbK_rise, by simp, fun y hy z hz => ?_⟩
      rw [List.mem_singleton.1 hz]
      exact (nbK_mem x a k y hy).2
    · rw [nbK_no h]; exact nbK_rise
theorem nbrs_iff {x : LTopology} (h0 : 0 < x.1) (h6 : x.1 ≤ 6) {a : Int} {k : Nat} : (k : Int) ∈ nbrs x a ↔ (k : Int) < x.1 ∧ 0 ≤ idxOf (isLink a k) x.2 := by
  unfold nbrs
  rw [nbK_mem_iff]
  constructor
  · rintro ⟨j, hj, e, q⟩
    obtain rfl : k = j := by omega
    exact ⟨by unfold nbN at hj; omega, q⟩
  · rintro ⟨h, q⟩
    exact ⟨k, by unfold nbN; omega, rfl, q⟩
theorem face_at {x : LTopology} {a : Int} {i : Nat} (h : i < (nbrs x a).length) : faceTo x a (nbrs x a)[i] = (i : Int) + 1 := by
  unfold faceTo
  rw [idxOf_hit (k := i) h (by simp [eqI]) (fun j hj hj2 => ?_)]
  have := List.pairwise_iff_getElem.1 (nbK_rise (x := x) (a := a) (k := nbN x.1)) j i hj2 h hj
  unfold eqI
  exact beq_eq_false_iff_ne.2 (by show (nbrs x a)[j] ≠ (nbrs x a)[i]; unfold nbrs; omega)
theorem rem_at {x : LTopology} {a : Int} {j : Nat} (h : j < (nbrs x a).length) : remE x a ((j : Int) + 1) = (nbrs x a)[j] ∧ remF x a ((j : Int) + 1) = faceTo x (nbrs x a)[j] a :=
  rem_yes rfl (by unfold inR; simp; omega) h
/-- The remote end of a face leads back through the stated face. -/
theorem face_back {x : LTopology} (h0 : 0 < x.1) (h6 : x.1 ≤ 6) {k : Nat} (hk : (k : Int) < x.1) {i : Nat} (h : i < (nbrs x k).length) :
    remE x k ((i : Int) + 1) = (nbrs x k)[i] ∧ remF x k ((i : Int) + 1) = faceTo x (nbrs x k)[i] k ∧ remE x (nbrs x k)[i] (faceTo x (nbrs x k)[i] k) = k ∧ remF x (nbrs x k)[i] (faceTo x (nbrs x k)[i] k) = (i : Int) + 1 ∧ faceTo x k (nbrs x k)[i] = (i : Int) + 1 := by
  have hm : (nbrs x k)[i] ∈ nbrs x k := List.getElem_mem h
  obtain ⟨f, hf⟩ := Int.eq_ofNat_of_zero_le (nbrs_mem hm).1
  have hfa := face_at h
  obtain ⟨r1, r2⟩ := rem_at h
  rw [hf] at hm hfa r1 r2 ⊢
  have hm2 : (k : Int) ∈ nbrs x f := by
    rw [nbrs_iff h0 h6] at hm ⊢
    exact ⟨hk, by rw [isLink_symm]; exact hm.2⟩
  obtain ⟨j, hj, e⟩ := List.getElem_of_mem hm2
  have hb := face_at hj
  obtain ⟨r3, r4⟩ := rem_at hj
  rw [e] at hb r3 r4
  rw [hb]
  exact ⟨r1, by rw [r2, hb], r3, by rw [r4, hfa], hfa⟩
def okLk (n : Int) (l : LLink) : Prop := 0 ≤ l.1 ∧ l.1 < l.2 ∧ l.2 ≤ n - 1
theorem pairLt_trans {a b c : LLink} (h : pairLt a b = true) (k : pairLt b c = true) : pairLt a c = true := by
  unfold pairLt at *
  simp at *
  omega
theorem okS_iff {n : Int} (h : 1 ≤ n ∧ n ≤ 6) {i : Nat} {p l : LLink} : okS n i p l = true ↔ okLk n l ∧ (0 < i → pairLt p l = true) := by
  unfold okS okLk inR
  rw [topS_eq (by omega) (by omega)]
  simp
  constructor
  · rintro ⟨⟨⟨⟨a, b⟩, c, d⟩, e⟩, f⟩
    exact ⟨⟨a, e, d⟩, fun q => by rcases f with f | f; omega; exact f⟩
  · rintro ⟨⟨a, b, c⟩, d⟩
    refine ⟨⟨⟨⟨a, by omega⟩, by omega, c⟩, b⟩, ?_⟩
    by_cases q : i = 0
    · exact .inl q
    · exact .inr (d (by omega))
theorem vTop_iff {x : LTopology} : validTopo okS x = true ↔ (1 ≤ x.1 ∧ x.1 ≤ 6) ∧ (∀ l ∈ x.2, okLk x.1 l) ∧ x.2.Pairwise (fun a b => pairLt a b = true) := by
  unfold validTopo
  rw [Bool.and_eq_true, allB_iff, show (inR x.1 1 6 = true ↔ 1 ≤ x.1 ∧ x.1 ≤ 6) by unfold inR; simp]
  constructor
  · rintro ⟨h, hn⟩
    have hk : ∀ k (hk : k < x.2.length), okLk x.1 x.2[k] ∧ (0 < k → pairLt (x.2.getD (k - 1) (0, 0)) x.2[k] = true) := fun k hk => (okS_iff hn).1 ((topF_eq (f := okS) hk).symm.trans (h k hk))
    refine ⟨hn, fun l hl => ?_, pairwise_next (R := fun a b => pairLt a b = true) (fun a b c => pairLt_trans) (fun k hk1 => ?_)⟩
    · obtain ⟨k, hkl, rfl⟩ := List.getElem_of_mem hl
      exact (hk k hkl).1
    · have := (hk (k + 1) hk1).2 (by omega)
      rw [Nat.add_sub_cancel, getD_get (show k < x.2.length by omega)] at this
      exact this
  · rintro ⟨hn, h1, h2⟩
    refine ⟨fun k hk => ?_, hn⟩
    rw [topF_eq hk]
    refine (okS_iff hn).2 ⟨h1 _ (List.getElem_mem hk), fun k0 => ?_⟩
    rw [getD_get (show k - 1 < x.2.length by omega)]
    exact List.pairwise_iff_getElem.1 h2 (k - 1) k (by omega) hk (by omega)
theorem remT_sub {x : LTopology} {f : List Int} {d : Int} : ∀ {k : Nat}, k ≤ x.2.length → (accK (remL x f d) k).Sublist (x.2.take k)
  | 0, _ => by simp [accK]
  | k + 1, h => by
    have hk : k < x.2.length := by omega
    rw [List.take_succ_eq_append_getElem hk]
    refine (remT_sub (x := x) (f := f) (d := d) (k := k) (by omega)).append ?_
    cases q : keepL f d k x.2[k]
    · rw [remL_no hk q]; exact List.nil_sublist _
    · rw [remL_yes hk q]; exact List.Sublist.refl _
theorem remT_len {x : LTopology} {f : List Int} {d : Int} : (remT x f d).2.length ≤ x.2.length := by
  have := (remT_sub (x := x) (f := f) (d := d) (Nat.le_refl _)).length_le
  rw [List.take_length] at this
  exact this
theorem remT_valid {x : LTopology} {f : List Int} {d : Int} (h : validTopo okS x = true) : validTopo okS (remT x f d) = true := by
  obtain ⟨h0, h1, h2⟩ := vTop_iff.1 h
  have hs := remT_sub (x := x) (f := f) (d := d) (Nat.le_refl _)
  rw [List.take_length] at hs
  exact vTop_iff.2 ⟨h0, fun l hl => h1 l (hs.subset hl), h2.sublist hs⟩
end Go.Proofs.YtpgnbablhdknnaaDoor
