/-
  A pending interest that is met.
-/
import Derived.Test.YtjehdoedfikcdaaCopyP
import Derived.Test.YtjehdoedfikcdaaCut
import Derived.Test.YtjehdoedfikcdaaPend
import Derived.Test.YtjehdoedfikcdaaDelF
import Derived.Test.YtjehdoedfikcdaaClone
import Derived.IntWalk
import Derived.Deep.Cut
import Derived.WalkSpells
import Derived.WalkLawsBesides
namespace Go.Proofs.Ytjehdoedfikcdaa
open Go.RowKit
set_option linter.unusedVariables false
set_option linter.unusedSimpArgs false
set_option linter.unnecessarySimpa false
namespace Rep
section
variable {α : Type} {r : Rep α} {e : TypeId} {w w' : World} {v : Value} {b cap n : Nat} {kept rest xs : List α} {j : Nat} {x : α} {S T : Nat → Prop}
theorem gap.skip2 (h : gap e r w b cap n kept j (x :: rest) S) : ∃ cs C, r.own w cs x C ∧ (∀ k, C k → S k ∧ k ≠ b) ∧ (∀ q c, cs[q]? = some c → w.cell? ⟨b, (kept.length + j) * r.n + q, none⟩ = some c) ∧ gap e r w b cap n kept (j + 1) rest (fun k => S k ∧ ¬ C k) := by
  have h0 := h
  obtain ⟨a1, a2, a3, a4, a5, a6, c, jk, d, tl, A, B, h1, h2, h3, h4, ⟨c1, d1, A1, B1, rfl, q1, q2, hA1, hB1, hd1⟩, h6, h7, h8⟩ := h
  have hcl := row_len h4
  have hc1 := r.len q1
  refine ⟨c1, A1, ⟨q1, a2 x (by simp)⟩, fun k hk => h7 k (hA1 k hk), ?_, ?_⟩
  · intro q u hq
    have hql := (List.getElem?_eq_some_iff.1 hq).1
    rw [cell_of_row w b _ _ e (0, 0) h1]
    simp only [List.getElem?_toArray]
    rw [List.getElem?_append_right (by rw [hcl, Nat.add_mul]; omega), List.getElem?_append_right (by rw [hcl, h3, Nat.add_mul]; omega), List.append_assoc, List.getElem?_append_left (by rw [hcl, h3, Nat.add_mul]; omega)]
    rw [← hq]; congr 1; rw [hcl, h3, Nat.add_mul]; omega
  · exact ⟨a1, fun y hy => a2 y (by simp [hy]), by simp at a3; omega, a4, a5, ⟨a6, fun hk => (h7 b (hA1 b hk)).2 rfl⟩, c, jk ++ c1, d1, tl, A, B1, by rw [h1]; simp, by rw [← h2]; simp, by simp [h3, r.len q1, Nat.add_mul], h4, q2,
      fun k hk => ⟨⟨(h6 k hk).1, fun hc => h8 k hk (hA1 k hc)⟩, (h6 k hk).2⟩, fun k hk => ⟨⟨(h7 k (hB1 k hk)).1, fun hc => hd1 rfl k hc hk⟩, (h7 k (hB1 k hk)).2⟩, fun k h h' => h8 k h (hB1 k h')⟩
theorem pair_own2 {β : Type} {e2 : TypeId} {q : Rep β} {u : Value} {y : List β} (h : (pair (slice e r) (slice e2 q)).own w [v, u] (xs, y) S) : ∃ A B, (slice e r).own w [v] xs A ∧ (slice e2 q).own w [u] y B ∧ (∀ k, A k → S k) ∧ (∀ k, B k → S k) ∧ (∀ k, A k → B k → False) := by
  obtain ⟨c, d, A, B, he, h1, h2, hA, hB, hd⟩ := pair_own h
  have l1 := (slice e r).len h1.1
  have l2 := (slice e2 q).len h2.1
  match c, d, l1, l2 with
  | [c0], [d0], _, _ =>
    simp only [List.cons_append, List.nil_append, List.cons.injEq, and_true] at he
    obtain ⟨rfl, rfl⟩ := he
    exact ⟨A, B, h1, h2, hA, hB, hd⟩
end
end Rep
def satP (n : LName) (l : List LPendingInterest) : List LPendingInterest := if idxOf (isPend n) l < 0 then l else l.take (idxOf (isPend n) l).toNat ++ l.drop ((idxOf (isPend n) l).toNat + 1)
def satR (n : LName) (l : List LPendingInterest) : List LRequester := if idxOf (isPend n) l < 0 then [] else (l.getD (idxOf (isPend n) l).toNat ([], [], 0)).2.1
theorem sat_no {n : LName} {l : List LPendingInterest} (h : idxOf (isPend n) l < 0) : satP n l = l ∧ satR n l = [] := by unfold satP satR; rw [if_pos h, if_pos h]; exact ⟨rfl, rfl⟩
theorem sat_yes {n : LName} {l : List LPendingInterest} {k : Nat} (h : idxOf (isPend n) l = k) (hk : k < l.length) : satP n l = l.take k ++ l.drop (k + 1) ∧ satR n l = l[k].2.1 := by
  unfold satP satR
  simp only [h, Int.toNat_natCast, getD_get hk]
  rw [if_neg (by omega), if_neg (by omega)]
  exact ⟨rfl, rfl⟩
set_option maxRecDepth 100000 in
set_option maxHeartbeats 2000000 in
theorem Delete_PendingInterest_g {w : World} {b cap n i : Nat} {l : List LPendingInterest} {S : Nat → Prop} (hgap : Rep.gap 70 RPendingInterest w b cap l.length (l.take i) 1 (l.drop (i + 1)) S) (hn : n = l.length) (hlen : l.length ≤ 16777216) (hil : i < l.length) :
    Calls Try.prog 44 #[.slice (some ⟨b, 0, none⟩) n cap, .int .i64 i, .int .i64 ((i : Int) + 1)] w fun e w' => ∃ v', e = .returned v' ∧ Rep.own0 70 RPendingInterest w' v' (l.take i ++ l.drop (i + 1)) S ∧ Touch S w w' := by
  subst hn
  have G := Lib.hid hgap
  have HSb := Lib.hid hgap.mem
  have hcap := hgap.len
  simp only [List.length_take, List.length_drop] at hcap
  have hcap2 : l.length ≤ cap := hcap.2.1
  have hcap3 : cap ≤ 9223372036854775807 := by have := hcap.2.2; unfold maxLen at this; omega
  clear hgap hcap
  obtain ⟨n1, HN⟩ : ∃ n1, Hid (l.length = n1 + 1) := ⟨l.length - 1, Lib.hid (by omega)⟩
  rw [HN.out] at hil hlen hcap2
  rw [HN.out]
  have HK : Hid ((l.take i).length = i) := Lib.hid (by have := HN.out; simp; omega)
  have HR : Hid ((l.drop (i + 1)).length = n1 - i) := Lib.hid (by have := HN.out; simp; omega)
  have hne : ((i : Int) == (i : Int) + 1) = false := by simp; try omega
  have hic : i ≤ cap := by omega
  have hicI : (i : Int) ≤ cap := by omega
  have hjc : i + 1 ≤ cap := by omega
  have hjl : i + 1 ≤ n1 + 1 := by omega
  have hcn : ¬ cap = n1 := by omega
  have hi3 : (i : Int) ≤ (i : Int) + 1 := by omega
  have hi4 : (0 : Int) ≤ (i : Int) + 1 := by omega
  have hin : i ≤ n1 := by omega
  go_enter Try.func44, Try.ntmps44
  go_upto_region 5 with fail
  by_cases hce : cap = i + 1
  · have HR0 : Hid ((l.drop (i + 1)).length = 0) := Lib.hid (by rw [HR.out]; omega)
    obtain rfl : i = n1 := by omega
    subst hce
    refine wp_region_soft_tail (fun W => Below w.heap.size w W) [true, true, true, true, true, true] (by kernel_rfl) (by kernel_rfl) (fun c a d v w h => by cases d <;> exact h) ((Below.refl _ _).drew) ?_
    intro wS HS
    all_goals first | (refine soft_pass rfl HS ?_) | (refine soft_read (v := ?_) rfl (fun W hW => ?_) ?_; rotate_left; (· go_simp; try with_reducible rfl))
    all_goals try simp only [Act.put, List.setIfInBounds_toArray, List.set_cons_zero, List.set_cons_succ]
    all_goals first | (refine soft_pass rfl HS ?_) | (refine soft_read (v := ?_) rfl (fun W hW => ?_) ?_; rotate_left; (· go_simp; try with_reducible rfl))
    all_goals try simp only [Act.put, List.setIfInBounds_toArray, List.set_cons_zero, List.set_cons_succ]
    all_goals first | (refine soft_pass rfl HS ?_) | (refine soft_read (v := ?_) rfl (fun W hW => ?_) ?_; rotate_left; (· go_simp; try with_reducible rfl))
    all_goals try simp only [Act.put, List.setIfInBounds_toArray, List.set_cons_zero, List.set_cons_succ]
    all_goals first | (refine soft_pass rfl HS ?_) | (refine soft_read (v := ?_) rfl (fun W hW => ?_) ?_; rotate_left; (· go_simp; try with_reducible rfl))
    all_goals try simp only [Act.put, List.setIfInBounds_toArray, List.set_cons_zero, List.set_cons_succ]
    all_goals first | (refine soft_pass rfl HS ?_) | (refine soft_read (v := ?_) rfl (fun W hW => ?_) ?_; rotate_left; (· go_simp; try with_reducible rfl))
    all_goals try simp only [Act.put, List.setIfInBounds_toArray, List.set_cons_zero, List.set_cons_succ]
    all_goals first | (refine soft_pass rfl HS ?_) | (refine soft_read (v := ?_) rfl (fun W hW => ?_) ?_; rotate_left; (· go_simp; try with_reducible rfl))
    all_goals try simp only [Act.put, List.setIfInBounds_toArray, List.set_cons_zero, List.set_cons_succ]
    all_goals refine soft_rest ?_
    have G2 := Lib.hid (G.out.below HS)
    obtain ⟨w6, hr6, hg6, ht6⟩ := Rep.run_shift' (P := Try.prog) (t := 28) (ty := 28) Try.underlying28 infPendingInterest G2.out (by decide) (q := 0) (c := 0) (k := i) (m := 0) (fun hne => absurd (List.eq_nil_of_length_eq_zero HR0.out) hne) HK.out.symm HR0.out.symm
    rw [Nat.add_zero] at hr6
    have HL6 : Hid ((l.take i ++ l.drop (i + 1)).length = i) := Lib.hid (by rw [List.length_append, HK.out, HR0.out]; omega)
    obtain ⟨w7, hr7, ho7, ht7⟩ := hg6.run_clear (P := Try.prog) (t := 28) (ty := 0) (c := 1) (p := i * 3) (by decide) Try.underlying28 infPendingInterest rfl (by decide) (zero_one _ (by decide)) (by rw [HL6.out]; rfl)
    rw [HL6.out] at ho7
    have HO7 := Lib.hid ho7
    have HT7 := Lib.hid ((Touch.of_below (S := S) HS).trans ((ht6.trans ht7).wide (fun k hk => hk ▸ HSb.out)))
    clear hg6 ht6 ht7 ho7
    have h1 : (i : Int) ≤ (i : Int) + 1 := by omega
    have h2 : (i : Int) ≤ (i : Int) + 1 := by omega
    refine Rep.wpList_append_run rfl _ _ _ rfl (by rfl) (by rfl) hr6 ?_
    go_wp2
    go_ret
    exact ⟨_, rfl, HO7.out, HT7.out⟩
  · refine wp_region_soft_tail (fun W => Below w.heap.size w W) [true, true, true, true, true, true] (by kernel_rfl) (by kernel_rfl) (fun c a d v w h => by cases d <;> exact h) ((Below.refl _ _).drew) ?_
    intro wS HS
    all_goals first | (refine soft_pass rfl HS ?_) | (refine soft_read (v := ?_) rfl (fun W hW => ?_) ?_; rotate_left; (· go_simp; try with_reducible rfl))
    all_goals try simp only [Act.put, List.setIfInBounds_toArray, List.set_cons_zero, List.set_cons_succ]
    all_goals first | (refine soft_pass rfl HS ?_) | (refine soft_read (v := ?_) rfl (fun W hW => ?_) ?_; rotate_left; (· go_simp; try with_reducible rfl))
    all_goals try simp only [Act.put, List.setIfInBounds_toArray, List.set_cons_zero, List.set_cons_succ]
    all_goals first | (refine soft_pass rfl HS ?_) | (refine soft_read (v := ?_) rfl (fun W hW => ?_) ?_; rotate_left; (· go_simp; try with_reducible rfl))
    all_goals try simp only [Act.put, List.setIfInBounds_toArray, List.set_cons_zero, List.set_cons_succ]
    all_goals first | (refine soft_pass rfl HS ?_) | (refine soft_read (v := ?_) rfl (fun W hW => ?_) ?_; rotate_left; (· go_simp; try with_reducible rfl))
    all_goals try simp only [Act.put, List.setIfInBounds_toArray, List.set_cons_zero, List.set_cons_succ]
    all_goals first | (refine soft_pass rfl HS ?_) | (refine soft_read (v := ?_) rfl (fun W hW => ?_) ?_; rotate_left; (· go_simp; try with_reducible rfl))
    all_goals try simp only [Act.put, List.setIfInBounds_toArray, List.set_cons_zero, List.set_cons_succ]
    all_goals first | (refine soft_pass rfl HS ?_) | (refine soft_read (v := ?_) rfl (fun W hW => ?_) ?_; rotate_left; (· go_simp; try with_reducible rfl))
    all_goals try simp only [Act.put, List.setIfInBounds_toArray, List.set_cons_zero, List.set_cons_succ]
    all_goals refine soft_rest ?_
    have G2 := Lib.hid (G.out.below HS)
    obtain ⟨w6, hr6, hg6, ht6⟩ := Rep.run_shift' (P := Try.prog) (t := 28) (ty := 28) Try.underlying28 infPendingInterest G2.out (by decide) (q := (i + 1) * 3) (c := cap - (i + 1)) (k := i) (m := n1 - i) (fun _ => by rw [HK.out]; rfl) HK.out.symm HR.out.symm
    rw [show i + (n1 - i) = n1 by omega] at hr6
    have HL6 : Hid ((l.take i ++ l.drop (i + 1)).length = n1) := Lib.hid (by rw [List.length_append, HK.out, HR.out]; omega)
    obtain ⟨w7, hr7, ho7, ht7⟩ := hg6.run_clear (P := Try.prog) (t := 28) (ty := 0) (c := cap - n1) (p := n1 * 3) (by decide) Try.underlying28 infPendingInterest rfl (by decide) (zero_one _ (by decide)) (by rw [HL6.out]; rfl)
    rw [HL6.out] at ho7
    have HO7 := Lib.hid ho7
    have HT7 := Lib.hid ((Touch.of_below (S := S) HS).trans ((ht6.trans ht7).wide (fun k hk => hk ▸ HSb.out)))
    clear hg6 ht6 ht7 ho7
    have h1 : (n1 : Int) ≤ cap := by omega
    have h2 : (n1 : Int) ≤ (n1 : Int) + 1 := by omega
    refine Rep.wpList_append_run rfl _ _ _ rfl (by rfl) (by rfl) hr6 ?_
    go_wp2
    go_ret
    exact ⟨_, rfl, HO7.out, HT7.out⟩
set_option maxRecDepth 100000 in
set_option maxHeartbeats 4000000 in
theorem implSatisfy_c {w : World} {vl : Value} {l : List LPendingInterest} (hl : (Rep.slice 70 RPendingInterest).rd w [vl] l) {cn : List Value} {n : LName} (hn : RName.rd w cn n) :
    Calls Try.prog 11 #[vl, .agg cn.toArray] w (fun e w' => ∃ v u, e = .returned (.tuple #[v, u]) ∧ (Rep.pair (Rep.slice 70 RPendingInterest) (Rep.slice 77 RRequester)).own w' [v, u] (satP n l, satR n l) (Btw w.heap.size w'.heap.size) ∧ Below w.heap.size w w') := by
  have HL := Lib.hid hl
  have HN := Lib.hid hn
  have hlb : l.length ≤ 16777216 := hl.2.1
  obtain ⟨nv, rfl, n_0⟩ := RName_raw hn.1
  obtain ⟨na, np, hnv, _⟩ := Rep.len_raw n_0; obtain rfl : nv = _ := by simpa using hnv
  obtain ⟨va, vp, hvl, hvll⟩ := Rep.len_raw hl.1; obtain rfl : vl = _ := by simpa using hvl
  clear hnv n_0 hl hn hvl
  go_enter Try.func11, Try.ntmps11
  go_wp2_with fail
  generalize hwB : World.alloc w _ = wB
  have EB : Below w.heap.size w wB := by rw [← hwB]; exact (Below.refl _ _).alloc (Nat.le_refl _) _
  have K0 : wB.cell? ⟨w.heap.size, 0, none⟩ = some (.slice na n.length np) := by rw [← hwB]; simp [go_sem]
  have hzB : wB.heap.size = w.heap.size + 1 := by rw [← hwB]; simp
  clear hwB
  refine (implcopyPending_c (HL.out.below EB)).mono ?_
  rintro e w1 ⟨v1, rfl, O1, hb1⟩
  replace K0 := cell_later hb1 K0
  have E1 := EB.trans (hb1.mono EB.size)
  have hz1 := hb1.size
  have HO := Lib.hid (O1.wide (T := Btw w.heap.size w1.heap.size) (fun j hj => ⟨by have := hj.1; omega, hj.2⟩))
  obtain ⟨oa, on, oc, ho, HON⟩ := O1.parts; obtain rfl := ho
  clear O1 hb1 EB
  go_wp2_with fail
  refine (implpendingAt_c (HL.out.1.below E1) (HN.out.1.below E1)).mono ?_
  rintro e w4 ⟨rfl, hb4⟩
  replace K0 := cell_later hb4 K0
  have E4 := E1.trans (hb4.mono E1.size)
  have hz4 := hb4.size
  replace HO := Lib.hid ((HO.out.below hb4).wide (T := Btw w.heap.size w4.heap.size) (fun j hj => ⟨hj.1, by have := hj.2; omega⟩))
  clear hb4 E1
  by_cases hk : idxOf (isPend n) l < 0
  · have HT := Lib.hid (sat_no hk)
    have hk2 : ¬ (0 ≤ idxOf (isPend n) l) := by omega
    generalize hq : idxOf (isPend n) l = q at *
    clear hq
    go_wp2
    first | go_ret2 | (refine bodyPost_ret (by simp [results, Try.results11, go_sem]; rfl) rfl ?_)
    refine ⟨_, _, rfl, ?_, E4⟩
    rw [HT.out.1, HT.out.2]
    exact Rep.own_pair (r := (Rep.slice 70 RPendingInterest)) (q := (Rep.slice 77 RRequester)) (cs := [_]) (ds := [_]) (A := Btw w.heap.size w4.heap.size) (B := fun _ => False) (HO.out.own hlb) Rep.void_own (fun j hj => ⟨hj.1, hj.2⟩) (fun _ h => h.elim) (fun _ _ h => h)
  · obtain ⟨k, hkl, hki⟩ := idxOf_at hk
    have HKI := Lib.hid hki
    rw [hki]
    clear hk hki
    have HT := Lib.hid (sat_yes HKI.out hkl)
    obtain ⟨b, cap, hv, hgap⟩ := Rep.gap_start HO.out hkl
    simp only [Value.slice.injEq] at hv
    obtain ⟨rfl, hon, rfl⟩ := hv
    have HON2 := Lib.hid hon
    rw [List.drop_eq_getElem_cons hkl] at hgap
    have hcap := hgap.len
    simp only [List.length_take, List.length_cons, List.length_drop] at hcap
    have hkon : k < on := by omega
    have hcap2 : on ≤ oc := by have := hcap.2.1; omega
    have hcap3 : oc ≤ 9223372036854775807 := by have := hcap.2.2; unfold maxLen at this; omega
    have hkI : (0 : Int) ≤ k := by omega
    have hkI2 : (k : Int) < on := by omega
    have hob : on ≤ 16777216 := by omega
    clear hcap hon
    obtain ⟨cs, C, hown, hC, hcell, hgap2⟩ := hgap.skip2
    have G := Lib.hid hgap2
    obtain ⟨rv0, rv1, rhe, r_0, r_1, r_2, r_3⟩ := RPendingInterest_raw hown.raw
    subst rhe
    have hlk : (l.take k).length = k := by simp; omega
    have A1 : w4.cell? ⟨b, k * 3 + 1, none⟩ = some rv1 := by have h := hcell 1 rv1 rfl; rw [hlk, Nat.add_zero] at h; exact h
    obtain ⟨A, hA, hAC, _⟩ := RPendingInterest_sub_1 hown
    replace hA : (Rep.slice 77 RRequester).own w4 [rv1] l[k].2.1 A := hA
    obtain ⟨ra, rp, rh, _⟩ := Rep.len_raw hA.raw; obtain rfl : rv1 = _ := by simpa using rh
    have HW := Lib.hid hA
    have HAC := Lib.hid hAC
    have HCS := Lib.hid hC
    clear hown hC hcell hgap2 hgap r_0 r_1 r_2 r_3 rh hA hAC hlk
    generalize hrl : l[k].2.1 = R at *
    clear hrl
    have hw : IntKind.i64.wrap ((k : Int) + 1) = (k : Int) + 1 := IntWalk.i64_in _ (by omega)
    go_wp2_with fail
    refine (Delete_PendingInterest_g G.out HON2.out hlb hkl).mono ?_
    rintro e w5 ⟨v5, rfl, O5, T5⟩
    obtain ⟨va, vn, vc, hv5, HV5⟩ := O5.parts; obtain rfl := hv5
    have HO5 := Lib.hid O5
    have HW5 := Lib.hid (HW.out.touch T5 (fun j p q => q.2 (HAC.out j p)))
    have hz5 := T5.size
    have E5 := E4.trans (T5.below E4.size (fun j q => q.1.1))
    clear O5 T5
    go_wp2
    go_ret2
    refine ⟨_, _, rfl, ?_, E5⟩
    rw [HT.out.1, HT.out.2]
    exact Rep.own_pair (r := (Rep.slice 70 RPendingInterest)) (q := (Rep.slice 77 RRequester)) (cs := [_]) (ds := [_]) (HO5.out.own (by simp; unfold Big; omega)) HW5.out (fun j hj => ⟨hj.1.1, by have := hj.1.2; omega⟩) (fun j hj => by have q := (HCS.out j (HAC.out j hj)).1; exact ⟨q.1, by have := q.2; omega⟩) (fun j h1 h2 => h1.2 (HAC.out j h2))
set_option maxRecDepth 100000 in
set_option maxHeartbeats 4000000 in
theorem specSatisfy_c {w : World} {vl : Value} {l : List LPendingInterest} (hl : (Rep.slice 70 RPendingInterest).rd w [vl] l) {cn : List Value} {n : LName} (hn : RName.rd w cn n) :
    Calls Try.prog 8 #[vl, .agg cn.toArray] w (fun e w' => ∃ v u, e = .returned (.tuple #[v, u]) ∧ (Rep.pair (Rep.slice 70 RPendingInterest) (Rep.slice 77 RRequester)).own w' [v, u] (satP n l, satR n l) (Btw w.heap.size w'.heap.size) ∧ Below w.heap.size w w') := by
  have HL := Lib.hid hl
  have HN := Lib.hid hn
  have hlb : l.length ≤ 16777216 := hl.2.1
  obtain ⟨nv, rfl, n_0⟩ := RName_raw hn.1
  obtain ⟨na, np, hnv, _⟩ := Rep.len_raw n_0; obtain rfl : nv = _ := by simpa using hnv
  obtain ⟨va, vp, hvl, hvll⟩ := Rep.len_raw hl.1; obtain rfl : vl = _ := by simpa using hvl
  clear hnv n_0 hl hn hvl
  go_enter Try.func8, Try.ntmps8
  go_wp2_with fail
  generalize hwB : World.alloc w _ = wB
  have EB : Below w.heap.size w wB := by rw [← hwB]; exact (Below.refl _ _).alloc (Nat.le_refl _) _
  have K0 : wB.cell? ⟨w.heap.size, 0, none⟩ = some (.slice na n.length np) := by rw [← hwB]; simp [go_sem]
  have hzB : wB.heap.size = w.heap.size + 1 := by rw [← hwB]; simp
  clear hwB
  refine (specl13Copy_c (HL.out.below EB)).mono ?_
  rintro e w1 ⟨v1, rfl, O1, hb1⟩
  replace K0 := cell_later hb1 K0
  have E1 := EB.trans (hb1.mono EB.size)
  have hz1 := hb1.size
  have HO := Lib.hid (O1.wide (T := Btw w.heap.size w1.heap.size) (fun j hj => ⟨by have := hj.1; omega, hj.2⟩))
  obtain ⟨oa, on, oc, ho, HON⟩ := O1.parts; obtain rfl := ho
  clear O1 hb1 EB
  go_wp2_with fail
  refine (specl13Find_c (HL.out.1.below E1) (HN.out.1.below E1)).mono ?_
  rintro e w4 ⟨rfl, hb4⟩
  replace K0 := cell_later hb4 K0
  have E4 := E1.trans (hb4.mono E1.size)
  have hz4 := hb4.size
  replace HO := Lib.hid ((HO.out.below hb4).wide (T := Btw w.heap.size w4.heap.size) (fun j hj => ⟨hj.1, by have := hj.2; omega⟩))
  clear hb4 E1
  by_cases hk : idxOf (isPend n) l < 0
  · have HT := Lib.hid (sat_no hk)
    have hk2 : ¬ (0 ≤ idxOf (isPend n) l) := by omega
    generalize hq : idxOf (isPend n) l = q at *
    clear hq
    go_wp2
    first | go_ret2 | (refine bodyPost_ret (by simp [results, Try.results8, go_sem]; rfl) rfl ?_)
    refine ⟨_, _, rfl, ?_, E4.trans (Below.mono (by repeat (first | (with_reducible exact Below.refl _ _) | refine Below.alloc ?_ (by simp; try omega) _ | refine Below.drew ?_ | refine Below.setCell ?_ (by simp; try omega) _)) E4.size)⟩
    rw [HT.out.1, HT.out.2]
    exact Rep.own_pair (r := (Rep.slice 70 RPendingInterest)) (q := (Rep.slice 77 RRequester)) (cs := [_]) (ds := [_]) (A := Btw w.heap.size w4.heap.size) (B := fun _ => False) ((HO.out.below (by repeat (first | (with_reducible exact Below.refl _ _) | refine Below.alloc ?_ (by simp; try omega) _ | refine Below.drew ?_ | refine Below.setCell ?_ (by simp; try omega) _))).own hlb) Rep.void_own (fun j hj => ⟨hj.1, by have := hj.2; simp; omega⟩) (fun _ h => h.elim) (fun _ _ h => h)
  · obtain ⟨k, hkl, hki⟩ := idxOf_at hk
    have HKI := Lib.hid hki
    rw [hki]
    clear hk hki
    have HT := Lib.hid (sat_yes HKI.out hkl)
    obtain ⟨b, cap, hv, hgap⟩ := Rep.gap_start HO.out hkl
    simp only [Value.slice.injEq] at hv
    obtain ⟨rfl, hon, rfl⟩ := hv
    have HON2 := Lib.hid hon
    rw [List.drop_eq_getElem_cons hkl] at hgap
    have hcap := hgap.len
    simp only [List.length_take, List.length_cons, List.length_drop] at hcap
    have hkon : k < on := by omega
    have hcap2 : on ≤ oc := by have := hcap.2.1; omega
    have hcap3 : oc ≤ 9223372036854775807 := by have := hcap.2.2; unfold maxLen at this; omega
    have hkI : (0 : Int) ≤ k := by omega
    have hkI2 : (k : Int) < on := by omega
    have hob : on ≤ 16777216 := by omega
    clear hcap hon
    have G : Hid (Rep.gap 70 RPendingInterest w4 b oc l.length (l.take k) 1 (l.drop (k + 1)) (Btw w.heap.size w4.heap.size)) := Lib.hid hgap.skip
    clear hgap
    obtain ⟨qb, qo, rfl, qc0, qc1, qc2, qr, A0, A1, A2⟩ := Rep.get3 (HL.out.1.below E4) hkl rfl
    have hbd := Rep.raw_bdd HL.out hkl
    obtain ⟨qv0, qv1, qhe, q_0, q_1, q_2, q_3⟩ := RPendingInterest_raw qr
    simp only [List.cons.injEq, and_true] at qhe
    obtain ⟨rfl, rfl, rfl⟩ := qhe
    have hRQ : (Rep.slice 77 RRequester).rd w4 [qc1] l[k].2.1 := ⟨q_2, hbd.2.1⟩
    obtain ⟨ra, rp, rh, _⟩ := Rep.len_raw q_2; obtain rfl : qc1 = _ := by simpa using rh
    have HRQ := Lib.hid hRQ
    clear rh qr q_0 q_1 q_2 q_3 hbd hRQ A0 A2
    generalize hrl : l[k].2.1 = R at *
    clear hrl
    have hRB := HRQ.out.2.1
    have hkll : (k : Int) < l.length := by omega
    replace A1 := cell_later (Rep.below_alloc w4 (.cells #[] 77)) A1
    go_wp2_with (at_builtin; refine Rep.wpList_pushN rfl _ _ 29 rfl (r := RRequester) (e := 77) Try.underlying29 infRequester rfl (by decide) (by decide) flatRequester (B := w4.heap.size) (Rep.own0.void (S := fun _ => False)) (by rfl) (by rfl) (HRQ.out.alloc _) (fun _ h => h.elim) (by simp) (by simp; unfold Big at hRB; omega) ?_)
    intro av w5 hown hbel hz
    have HA5 := Lib.hid (Rep.own0.cast hown (List.nil_append _))
    obtain ⟨aa, an, ac, hav, HAN⟩ := hown.parts; obtain rfl := hav
    have hb5 : Below w4.heap.size w4 w5 := ((Below.refl _ _).alloc (Nat.le_refl _) _).trans hbel
    have hz5 := hb5.size
    have E5 := E4.trans (hb5.mono E4.size)
    replace G := Lib.hid (G.out.below hb5)
    clear hown hbel hz
    have HK : Hid ((l.take k).length = k) := Lib.hid (by simp; omega)
    have hk1 : k + 1 ≤ oc := by omega
    have hk2 : k + 1 ≤ on := by omega
    have hk3 : (k : Int) + 1 ≤ on := by omega
    have hk4 : (0 : Int) ≤ (k : Int) + 1 := by omega
    have hkN : k ≤ oc := by omega
    have hw : IntKind.i64.wrap ((k : Int) + 1) = (k : Int) + 1 := IntWalk.i64_in _ (by omega)
    by_cases hce : oc = k + 1
    · have HR : Hid ((l.drop (k + 1)).length = 0) := Lib.hid (by have := HON2.out; simp; omega)
      obtain rfl : on = k + 1 := by omega
      subst hce
      have hk5 : (k : Int) ≤ (k : Int) + 1 := by omega
      go_upto_region 6 with fail
      refine wp_region_softP (fun W => Below w5.heap.size w5 W) [(1, true), (2, true), (3, true), (5, true), (6, true), (7, true), (8, true), (10, true), (0, false), (4, false), (9, false), (11, true), (12, true)] (by kernel_rfl) (by kernel_rfl) (fun c a d v w h => by cases d <;> exact h) ((Below.refl _ _).drew) ?_
      intro wS HS
      simp only [pickOps, List.getElem?_cons_succ, List.getElem?_cons_zero, List.map_cons, List.map_nil]
      all_goals first | (refine soft_pass rfl HS ?_) | (refine soft_read (v := ?_) rfl (fun W hW => ?_) ?_; rotate_left; (· go_simp; try with_reducible rfl))
      all_goals try simp only [Act.put, List.setIfInBounds_toArray, List.set_cons_zero, List.set_cons_succ]
      all_goals first | (refine soft_pass rfl HS ?_) | (refine soft_read (v := ?_) rfl (fun W hW => ?_) ?_; rotate_left; (· go_simp; try with_reducible rfl))
      all_goals try simp only [Act.put, List.setIfInBounds_toArray, List.set_cons_zero, List.set_cons_succ]
      all_goals first | (refine soft_pass rfl HS ?_) | (refine soft_read (v := ?_) rfl (fun W hW => ?_) ?_; rotate_left; (· go_simp; try with_reducible rfl))
      all_goals try simp only [Act.put, List.setIfInBounds_toArray, List.set_cons_zero, List.set_cons_succ]
      all_goals first | (refine soft_pass rfl HS ?_) | (refine soft_read (v := ?_) rfl (fun W hW => ?_) ?_; rotate_left; (· go_simp; try with_reducible rfl))
      all_goals try simp only [Act.put, List.setIfInBounds_toArray, List.set_cons_zero, List.set_cons_succ]
      all_goals first | (refine soft_pass rfl HS ?_) | (refine soft_read (v := ?_) rfl (fun W hW => ?_) ?_; rotate_left; (· go_simp; try with_reducible rfl))
      all_goals try simp only [Act.put, List.setIfInBounds_toArray, List.set_cons_zero, List.set_cons_succ]
      all_goals first | (refine soft_pass rfl HS ?_) | (refine soft_read (v := ?_) rfl (fun W hW => ?_) ?_; rotate_left; (· go_simp; try with_reducible rfl))
      all_goals try simp only [Act.put, List.setIfInBounds_toArray, List.set_cons_zero, List.set_cons_succ]
      all_goals first | (refine soft_pass rfl HS ?_) | (refine soft_read (v := ?_) rfl (fun W hW => ?_) ?_; rotate_left; (· go_simp; try with_reducible rfl))
      all_goals try simp only [Act.put, List.setIfInBounds_toArray, List.set_cons_zero, List.set_cons_succ]
      all_goals first | (refine soft_pass rfl HS ?_) | (refine soft_read (v := ?_) rfl (fun W hW => ?_) ?_; rotate_left; (· go_simp; try with_reducible rfl))
      all_goals try simp only [Act.put, List.setIfInBounds_toArray, List.set_cons_zero, List.set_cons_succ]
      all_goals first | (refine soft_pass rfl HS ?_) | (refine soft_do rfl (fun K hK => ?_); go_simp; generalize hwU : World.alloc wS _ = wU; replace HS : Below w5.heap.size w5 wU := (by rw [← hwU]; exact HS.alloc HS.size _); clear hwU; refine hK _ _ HS ?_; clear hK K)
      all_goals try simp only [Act.put, List.setIfInBounds_toArray, List.set_cons_zero, List.set_cons_succ]
      all_goals first | (refine soft_pass rfl HS ?_) | (refine soft_do rfl (fun K hK => ?_); obtain ⟨v3, u3, hr3, hb3, v4, u4, hr4, ho4, hb4⟩ := Rep.run_without (P := Try.prog) (t := 28) Try.underlying28 infPendingInterest rfl (by decide) (by decide) G.out HS (a0 := some ⟨wS.heap.size, 0, none⟩) (by omega) (k + 1) 0 28 28 (q := 0) (kl := k) (rl := 0) (fun hne => absurd (List.eq_nil_of_length_eq_zero HR.out) hne) HK.out.symm HR.out.symm; have HS3 := HS.trans (hb3.mono HS.size); refine Rep.wp_append _ _ _ rfl (by rfl) (by rfl) hr3 ?_; refine hK _ _ HS3 ?_; clear hK K)
      all_goals try simp only [Act.put, List.setIfInBounds_toArray, List.set_cons_zero, List.set_cons_succ]
      all_goals first | (refine soft_pass rfl HS ?_) | (refine soft_do rfl (fun K hK => ?_); have HS4 := HS.trans (hb4.mono HS.size); refine Rep.wp_append _ _ _ rfl (by rfl) (by rfl) hr4 ?_; refine hK _ _ HS4 ?_; clear hK K)
      all_goals try simp only [Act.put, List.setIfInBounds_toArray, List.set_cons_zero, List.set_cons_succ]
      all_goals first | (refine soft_pass rfl HS ?_) | (refine soft_read (v := ?_) rfl (fun W hW => ?_) ?_; rotate_left; (· go_simp; try with_reducible rfl))
      all_goals try simp only [Act.put, List.setIfInBounds_toArray, List.set_cons_zero, List.set_cons_succ]
      all_goals first | (refine soft_pass rfl HS ?_) | (refine soft_read (v := ?_) rfl (fun W hW => ?_) ?_; rotate_left; (· go_simp; try with_reducible rfl))
      all_goals try simp only [Act.put, List.setIfInBounds_toArray, List.set_cons_zero, List.set_cons_succ]
      all_goals refine soft_nil ?_
      have hz4 := hb4.size
      have hzS := HS.size
      have HA6 := Lib.hid (HA5.out.below HS4)
      have hz6 := HS4.size
      obtain ⟨va, vn, vc, hv4, HV4⟩ := ho4.parts; obtain rfl := hv4
      have HO4 := Lib.hid ho4
      clear ho4
      go_wp2
      go_ret2
      refine ⟨_, _, rfl, ?_, E5.trans (HS4.mono E5.size)⟩
      rw [HT.out.1, HT.out.2]
      exact Rep.own_pair (r := (Rep.slice 70 RPendingInterest)) (q := (Rep.slice 77 RRequester)) (cs := [_]) (ds := [_]) (HO4.out.own (by simp; unfold Big; omega)) (HA6.out.own hRB) (fun j hj => by rcases hj with hj | hj; exact ⟨hj.1, by have := hj.2; omega⟩; exact ⟨by have := hj.1; omega, hj.2⟩) (fun j hj => ⟨by have := hj.1; omega, by have := hj.2; omega⟩) (fun j h1 h2 => by have q1 := h2.1; have q2 := h2.2; rcases h1 with h1 | h1; (have := h1.2; omega); (have := h1.1; omega))
    · have HR : Hid ((l.drop (k + 1)).length = on - (k + 1)) := Lib.hid (by have := HON2.out; simp; omega)
      go_upto_region 6 with fail
      refine wp_region_softP (fun W => Below w5.heap.size w5 W) [(1, true), (2, true), (3, true), (5, true), (6, true), (7, true), (8, true), (10, true), (0, false), (4, false), (9, false), (11, true), (12, true)] (by kernel_rfl) (by kernel_rfl) (fun c a d v w h => by cases d <;> exact h) ((Below.refl _ _).drew) ?_
      intro wS HS
      simp only [pickOps, List.getElem?_cons_succ, List.getElem?_cons_zero, List.map_cons, List.map_nil]
      all_goals first | (refine soft_pass rfl HS ?_) | (refine soft_read (v := ?_) rfl (fun W hW => ?_) ?_; rotate_left; (· go_simp; try with_reducible rfl))
      all_goals try simp only [Act.put, List.setIfInBounds_toArray, List.set_cons_zero, List.set_cons_succ]
      all_goals first | (refine soft_pass rfl HS ?_) | (refine soft_read (v := ?_) rfl (fun W hW => ?_) ?_; rotate_left; (· go_simp; try with_reducible rfl))
      all_goals try simp only [Act.put, List.setIfInBounds_toArray, List.set_cons_zero, List.set_cons_succ]
      all_goals first | (refine soft_pass rfl HS ?_) | (refine soft_read (v := ?_) rfl (fun W hW => ?_) ?_; rotate_left; (· go_simp; try with_reducible rfl))
      all_goals try simp only [Act.put, List.setIfInBounds_toArray, List.set_cons_zero, List.set_cons_succ]
      all_goals first | (refine soft_pass rfl HS ?_) | (refine soft_read (v := ?_) rfl (fun W hW => ?_) ?_; rotate_left; (· go_simp; try with_reducible rfl))
      all_goals try simp only [Act.put, List.setIfInBounds_toArray, List.set_cons_zero, List.set_cons_succ]
      all_goals first | (refine soft_pass rfl HS ?_) | (refine soft_read (v := ?_) rfl (fun W hW => ?_) ?_; rotate_left; (· go_simp; try with_reducible rfl))
      all_goals try simp only [Act.put, List.setIfInBounds_toArray, List.set_cons_zero, List.set_cons_succ]
      all_goals first | (refine soft_pass rfl HS ?_) | (refine soft_read (v := ?_) rfl (fun W hW => ?_) ?_; rotate_left; (· go_simp; try with_reducible rfl))
      all_goals try simp only [Act.put, List.setIfInBounds_toArray, List.set_cons_zero, List.set_cons_succ]
      all_goals first | (refine soft_pass rfl HS ?_) | (refine soft_read (v := ?_) rfl (fun W hW => ?_) ?_; rotate_left; (· go_simp; try with_reducible rfl))
      all_goals try simp only [Act.put, List.setIfInBounds_toArray, List.set_cons_zero, List.set_cons_succ]
      all_goals first | (refine soft_pass rfl HS ?_) | (refine soft_read (v := ?_) rfl (fun W hW => ?_) ?_; rotate_left; (· go_simp; try with_reducible rfl))
      all_goals try simp only [Act.put, List.setIfInBounds_toArray, List.set_cons_zero, List.set_cons_succ]
      all_goals first | (refine soft_pass rfl HS ?_) | (refine soft_do rfl (fun K hK => ?_); go_simp; generalize hwU : World.alloc wS _ = wU; replace HS : Below w5.heap.size w5 wU := (by rw [← hwU]; exact HS.alloc HS.size _); clear hwU; refine hK _ _ HS ?_; clear hK K)
      all_goals try simp only [Act.put, List.setIfInBounds_toArray, List.set_cons_zero, List.set_cons_succ]
      all_goals first | (refine soft_pass rfl HS ?_) | (refine soft_do rfl (fun K hK => ?_); obtain ⟨v3, u3, hr3, hb3, v4, u4, hr4, ho4, hb4⟩ := Rep.run_without (P := Try.prog) (t := 28) Try.underlying28 infPendingInterest rfl (by decide) (by decide) G.out HS (a0 := some ⟨wS.heap.size, 0, none⟩) (by omega) oc (oc - (k + 1)) 28 28 (q := ((k + 1) * 3)) (kl := k) (rl := (on - (k + 1))) (fun _ => by rw [HK.out]; rfl) HK.out.symm HR.out.symm; have HS3 := HS.trans (hb3.mono HS.size); refine Rep.wp_append _ _ _ rfl (by rfl) (by rfl) hr3 ?_; refine hK _ _ HS3 ?_; clear hK K)
      all_goals try simp only [Act.put, List.setIfInBounds_toArray, List.set_cons_zero, List.set_cons_succ]
      all_goals first | (refine soft_pass rfl HS ?_) | (refine soft_do rfl (fun K hK => ?_); have HS4 := HS.trans (hb4.mono HS.size); refine Rep.wp_append _ _ _ rfl (by rfl) (by rfl) hr4 ?_; refine hK _ _ HS4 ?_; clear hK K)
      all_goals try simp only [Act.put, List.setIfInBounds_toArray, List.set_cons_zero, List.set_cons_succ]
      all_goals first | (refine soft_pass rfl HS ?_) | (refine soft_read (v := ?_) rfl (fun W hW => ?_) ?_; rotate_left; (· go_simp; try with_reducible rfl))
      all_goals try simp only [Act.put, List.setIfInBounds_toArray, List.set_cons_zero, List.set_cons_succ]
      all_goals first | (refine soft_pass rfl HS ?_) | (refine soft_read (v := ?_) rfl (fun W hW => ?_) ?_; rotate_left; (· go_simp; try with_reducible rfl))
      all_goals try simp only [Act.put, List.setIfInBounds_toArray, List.set_cons_zero, List.set_cons_succ]
      all_goals refine soft_nil ?_
      have hz4 := hb4.size
      have hzS := HS.size
      have HA6 := Lib.hid (HA5.out.below HS4)
      have hz6 := HS4.size
      obtain ⟨va, vn, vc, hv4, HV4⟩ := ho4.parts; obtain rfl := hv4
      have HO4 := Lib.hid ho4
      clear ho4
      go_wp2
      go_ret2
      refine ⟨_, _, rfl, ?_, E5.trans (HS4.mono E5.size)⟩
      rw [HT.out.1, HT.out.2]
      exact Rep.own_pair (r := (Rep.slice 70 RPendingInterest)) (q := (Rep.slice 77 RRequester)) (cs := [_]) (ds := [_]) (HO4.out.own (by simp; unfold Big; omega)) (HA6.out.own hRB) (fun j hj => by rcases hj with hj | hj; exact ⟨hj.1, by have := hj.2; omega⟩; exact ⟨by have := hj.1; omega, hj.2⟩) (fun j hj => ⟨by have := hj.1; omega, by have := hj.2; omega⟩) (fun j h1 h2 => by have q1 := h2.1; have q2 := h2.2; rcases h1 with h1 | h1; (have := h1.2; omega); (have := h1.1; omega))
end Go.Proofs.Ytjehdoedfikcdaa
