/-
  slices.DeleteFunc and slices.Delete over owned slices.
-/
import Derived.Test.YtikjbdfkdkijkaaCut
import Derived.Test.YtikjbdfkdkijkaaInfo
import Derived.Test.YtikjbdfkdkijkaaLib
import Derived.Test.YtikjbdfkdkijkaaSoft2
import Derived.IntWalk
import Derived.Deep.Cut
import Derived.WalkSpells
import Derived.WalkLawsBesides
namespace Go.Proofs.Ytikjbdfkdkijkaa
open Go.RowKit
set_option linter.unusedVariables false
set_option linter.unusedSimpArgs false
set_option linter.unnecessarySimpa false
theorem idxOf_cases {α : Type} (p : α → Bool) (x : List α) : (idxOf p x = -1 ∧ ∀ j (h : j < x.length), p x[j] = false) ∨ ∃ k, ∃ h : k < x.length, idxOf p x = (k : Int) ∧ p x[k] = true ∧ ∀ j (h : j < k) (h2 : j < x.length), p x[j] = false := by
  unfold idxOf
  cases hf : x.findIdx? p with
  | none =>
    refine .inl ⟨rfl, fun j h => ?_⟩
    rw [List.findIdx?_eq_none_iff] at hf
    exact hf _ (List.getElem_mem h)
  | some k =>
    obtain ⟨h1, h2, h3⟩ := List.findIdx?_eq_some_iff_getElem.1 hf
    exact .inr ⟨k, h1, rfl, h2, fun j h h4 => by simpa using h3 j h⟩
theorem filter_none {α : Type} {p : α → Bool} {x : List α} (h : ∀ j (h : j < x.length), p x[j] = false) : x.filter (fun y => !p y) = x := by
  rw [List.filter_eq_self]
  intro y hy
  obtain ⟨j, hj, rfl⟩ := List.getElem_of_mem hy
  simp [h j hj]
theorem filter_before {α : Type} {p : α → Bool} {x : List α} {k : Nat} (hk : k < x.length) (h : ∀ j (h : j < k) (h2 : j < x.length), p x[j] = false) : (x.take k).filter (fun y => !p y) = x.take k := by
  rw [List.filter_eq_self]
  intro y hy
  obtain ⟨j, hj, rfl⟩ := List.getElem_of_mem hy
  simp only [List.length_take] at hj
  simp only [List.getElem_take]
  simp [h j (by omega) (by omega)]
theorem zero_one (z : Value) (h : (z.cells.toList.all fun u => u.oneCell') = true) : ∀ u ∈ z.cells, u.oneCell' = true := by
  intro u hu
  exact List.all_eq_true.1 h u (by simpa using hu)
set_option maxRecDepth 100000 in
set_option maxHeartbeats 2000000 in
theorem DeleteFunc_Requester_c {w : World} {v : Value} {l : List LRequester} {g : FuncId} {cp : Array Value} {S : Nat → Prop} (p : LRequester → Bool) (hg : Callable Try.prog g) (hl : Rep.own0 71 RRequester w v l S) (hlen : l.length ≤ 16777216)
    (hcl : ∀ wr, Touch S w wr → ∀ x cs, RRequester.raw wr cs x → Calls Try.prog g (#[.agg cs.toArray] ++ cp) wr (fun e w' => e = .returned (.bool (p x)) ∧ Below wr.heap.size wr w')) :
    Calls Try.prog 82 #[v, .func (.func g) #[] cp] w fun e w' => ∃ v', e = .returned v' ∧ Rep.own0 71 RRequester w' v' (l.filter (fun x => !p x)) S ∧ Touch S w w' := by
  have HCL := Lib.hid hcl; clear hcl
  have HO := Lib.hid hl
  unfold Callable at hg
  have HI : Hid (∀ va, v = va → Calls Try.prog 84 #[va, .func (.func g) #[] cp] w fun e w' => e = .returned (.int .i64 (idxOf p l)) ∧ Below w.heap.size w w') := Lib.hid (fun va hv => by
    subst hv
    exact IndexFunc_Requester_c p hg (HO.out.own hlen).raw (fun wr hb i h cs hr => HCL.out wr (Touch.of_below hb) _ cs hr))
  rcases idxOf_cases p l with ⟨hi, hno⟩ | ⟨i, hil, hi, hyes, hno⟩
  · obtain ⟨oa, on, oc, ho, HON⟩ := hl.parts; obtain rfl := ho
    rw [hi] at HI
    have HF := Lib.hid (filter_none hno).symm
    clear hno hi hl
    go_enter Try.func82, Try.ntmps82
    go_wp2_with fail
    refine (HI.out _ rfl).mono ?_
    rintro e w1 ⟨rfl, hb1⟩
    have HO1 := Lib.hid (HO.out.below hb1)
    go_wp2
    go_ret
    exact ⟨_, rfl, HO1.out.cast HF.out, Touch.of_below hb1⟩
  · obtain ⟨b, cap, rfl, hgap⟩ := Rep.gap_start hl hil
    rw [hi] at HI
    rw [List.drop_eq_getElem_cons hil] at hgap
    have hgap1 := hgap.skip
    have HK0 := Lib.hid (filter_before hil hno)
    have HNY := Lib.hid (filter_no (p := fun y => !p y) hil (by simp [hyes]))
    have HSb := Lib.hid hgap.mem
    have hcap := hgap.len
    simp only [List.length_take, List.length_cons, List.length_drop] at hcap
    have hcap2 : l.length ≤ cap := hcap.2.1
    have hcap3 : cap ≤ 9223372036854775807 := by have := hcap.2.2; unfold maxLen at this; omega
    clear hno hi hl hgap hyes HO hcap
    have hi1 : ((i : Int) == -1) = false := by first | (simp; done) | (simp; omega)
    go_enter Try.func82, Try.ntmps82
    go_wp2_with fail
    refine (HI.out _ rfl).mono ?_
    rintro e w1 ⟨rfl, hb1⟩
    have G1 := Lib.hid (hgap1.below hb1)
    have E1 := Lib.hid (Touch.of_below (S := S) hb1)
    clear hgap1 HI
    go_wp2
    go_loopw [5, 6] (fun q c wr => ∃ m kn : Nat, m ≤ l.length ∧ kn + 1 ≤ m ∧ q = .int .i64 kn ∧ c = .int .i64 m ∧ Hid (kn = ((l.take m).filter (fun y => !p y)).length) ∧ Hid (Rep.gap 71 RRequester wr b cap l.length ((l.take m).filter (fun y => !p y)) (m - kn) (l.drop m) S) ∧ Hid (Touch S w wr)) (fun _ c _ => l.length - (intOf c).toNat)
    case atStart =>
      refine ⟨i + 1, i, by omega, by omega, rfl, by go_num, Lib.hid (by rw [HNY.out, HK0.out]; simp; omega), Lib.hid ?_, E1⟩
      rw [HNY.out, HK0.out, show i + 1 - i = 0 + 1 by omega]
      exact G1.out
    case round =>
      clear E1 G1 HNY HK0 hb1
      obtain ⟨m, kn, hm, hkn, rfl, rfl, HKN, G, E⟩ := hrel
      by_cases hlt : m < l.length
      · have hG := G.out
        rw [List.drop_eq_getElem_cons hlt] at hG
        have hfy := fun q => filter_yes (p := fun y => !p y) hlt q
        have hfn := fun q => filter_no (p := fun y => !p y) hlt q
        obtain ⟨cs, hr, hcl, hbd, hcell, hnext⟩ := hG.next
        have hskip := hG.skip
        have hfz := hG.frozen
        generalize l[m] = x at *
        have HFY := Lib.hid hfy; have HFN := Lib.hid hfn; clear hfy hfn hG
        rw [← HKN.out] at hcell hnext
        rw [show kn + (m - kn) = m by omega] at hcell
        obtain ⟨c0, c1, c2, rfl⟩ : ∃ c0 c1 c2, cs = [c0, c1, c2] := by
          have hl2 := RRequester.len hr
          match cs, hl2 with
          | [c0, c1, c2], _ => exact ⟨_, _, _, rfl⟩
        have A0 : wr.cell? ⟨b, m * 3, none⟩ = some c0 := hcell 0 c0 rfl
        have A1 : wr.cell? ⟨b, m * 3 + 1, none⟩ = some c1 := hcell 1 c1 rfl
        have A2 : wr.cell? ⟨b, m * 3 + 2, none⟩ = some c2 := hcell 2 c2 rfl
        have hroom : ∀ q, q < 3 → kn * 3 + q < cap * 3 := by intro q hq; omega
        obtain ⟨o0, O0⟩ := Option.isSome_iff_exists.1 (G.out.cells (i := kn * 3) (by have := hroom 0 (by omega); simp only [show RRequester.n = 3 from rfl]; omega))
        have Z0 := hfz (kn * 3)
        obtain ⟨o1, O1⟩ := Option.isSome_iff_exists.1 (G.out.cells (i := kn * 3 + 1) (by have := hroom 1 (by omega); simp only [show RRequester.n = 3 from rfl]; omega))
        have Z1 := hfz (kn * 3 + 1)
        obtain ⟨o2, O2⟩ := Option.isSome_iff_exists.1 (G.out.cells (i := kn * 3 + 2) (by have := hroom 2 (by omega); simp only [show RRequester.n = 3 from rfl]; omega))
        have Z2 := hfz (kn * 3 + 2)
        have HR := Lib.hid hr
        obtain ⟨rhe, r_0, r_1, r_2⟩ := RRequester_raw hr
        simp only [List.cons.injEq, and_true] at rhe
        obtain ⟨rfl, rfl, rfl⟩ := rhe
        clear r_0 r_1 r_2 hr hcl hcell hroom hfz
        have HNX := Lib.hid hnext; have HSK := Lib.hid hskip; clear hnext hskip
        have HB := Lib.hid (G.out.lt)
        go_wp2_with fail
        generalize hwC : World.alloc wr _ = wC
        have EC : Below wr.heap.size wr wC := by rw [← hwC]; exact (Below.refl _ _).alloc (Nat.le_refl _) _
        have M0 : wC.cell? ⟨wr.heap.size, 0, none⟩ = some (.int .i64 x.1) := by rw [← hwC]; simp [go_sem]
        have M1 : wC.cell? ⟨wr.heap.size, 1, none⟩ = some (.int .i64 x.2.1) := by rw [← hwC]; simp [go_sem]
        have M2 : wC.cell? ⟨wr.heap.size, 2, none⟩ = some (.int .i64 x.2.2) := by rw [← hwC]; simp [go_sem]
        clear hwC
        refine (HCL.out wC (E.out.trans (Touch.of_below EC)) _ _ (HR.out.below EC)).mono ?_
        rintro e w5 ⟨rfl, hb5⟩
        have E5 := Lib.hid (EC.trans (hb5.mono EC.size))
        replace M0 := cell_later hb5 M0
        replace M1 := cell_later hb5 M1
        replace M2 := cell_later hb5 M2
        clear EC hb5
        cases hp : p x
        · have HT := Lib.hid (HFY.out (by simp [hp]))
          replace O0 := cell_later E5.out O0
          replace Z0 := (E5.out.frozen (p := ⟨b, kn * 3, none⟩) HB.out).trans Z0
          replace O1 := cell_later E5.out O1
          replace Z1 := (E5.out.frozen (p := ⟨b, kn * 3 + 1, none⟩) HB.out).trans Z1
          replace O2 := cell_later E5.out O2
          replace Z2 := (E5.out.frozen (p := ⟨b, kn * 3 + 2, none⟩) HB.out).trans Z2
          obtain ⟨hg1, hg2⟩ := HNX.out w5 E5.out (by omega) _ rfl
          simp only [show RRequester.n = 3 from rfl] at hg1 hg2
          have HG1 := Lib.hid hg1; have HG2 := Lib.hid hg2; clear hg1 hg2 HNX HSK HFN HFY
          go_wp2
          go_roundw
          case rel =>
            refine ⟨m + 1, kn + 1, by omega, by omega, by go_num, by go_num, Lib.hid (by rw [HT.out, List.length_append, ← HKN.out]; rfl), Lib.hid ?_, Lib.hid ((E.out.trans (Touch.of_below E5.out)).trans (HG2.out.wide (fun j hj => hj ▸ HSb.out)))⟩
            rw [HT.out, show m + 1 - (kn + 1) = m - kn by omega]
            exact HG1.out
          case measure => simp [intOf]; omega
        · have HT := Lib.hid (HFN.out (by simp [hp]))
          go_wp2
          go_roundw
          case rel =>
            refine ⟨m + 1, kn, by omega, by omega, rfl, by go_num, Lib.hid (by rw [HT.out]; exact HKN.out), Lib.hid ?_, Lib.hid (E.out.trans (Touch.of_below E5.out))⟩
            rw [HT.out, show m + 1 - kn = (m - kn) + 1 by omega]
            exact HSK.out.below E5.out
          case measure => simp [intOf]; omega
      · obtain rfl : m = l.length := by omega
        have hG := G.out
        rw [List.drop_length, List.take_length] at hG
        rw [List.take_length] at HKN
        have HG := Lib.hid hG; clear hG G
        have hknI : (kn : Int) ≤ l.length := by omega
        have hknC : (kn : Int) ≤ cap := by omega
        have hknN : kn ≤ l.length := by omega
        have hlcI : (l.length : Int) ≤ cap := by omega
        have hj0 : 0 < l.length - kn := by omega
        obtain ⟨w6, hrun, h6, t6⟩ := HG.out.run_clear (P := Try.prog) (t := 51) (ty := 0) (c := cap - kn) (p := kn * 3) hj0 Try.underlying51 infRequester rfl (by decide) (zero_one _ (by decide)) (by simp only [show RRequester.n = 3 from rfl]; rw [← HKN.out])
        have H6 := Lib.hid h6; have T6 := Lib.hid t6; clear h6 t6 HG
        go_wp2
        go_ret
        exact ⟨_, rfl, by rw [HKN.out]; exact H6.out, E.out.trans (T6.out.wide (fun j hj => hj ▸ HSb.out))⟩
set_option maxRecDepth 100000 in
set_option maxHeartbeats 2000000 in
theorem Delete_Measurement_c {w : World} {v : Value} {l : List LMeasurement} {S : Nat → Prop} (hl : Rep.own0 76 RMeasurement w v l S) (hlen : l.length ≤ 16777216) {i : Nat} (hil : i < l.length) :
    Calls Try.prog 56 #[v, .int .i64 i, .int .i64 ((i : Int) + 1)] w fun e w' => ∃ v', e = .returned v' ∧ Rep.own0 76 RMeasurement w' v' (l.take i ++ l.drop (i + 1)) S ∧ Touch S w w' := by
  obtain ⟨b, cap, rfl, hgap⟩ := Rep.gap_start hl hil
  rw [List.drop_eq_getElem_cons hil] at hgap
  have G : Hid (Rep.gap 76 RMeasurement w b cap l.length (l.take i) 1 (l.drop (i + 1)) S) := Lib.hid hgap.skip
  have HSb := Lib.hid hgap.mem
  have hcap := hgap.len
  simp only [List.length_take, List.length_cons, List.length_drop] at hcap
  have hcap2 : l.length ≤ cap := hcap.2.1
  have hcap3 : cap ≤ 9223372036854775807 := by have := hcap.2.2; unfold maxLen at this; omega
  clear hgap hl hcap
  obtain ⟨n1, HN⟩ : ∃ n1, Hid (l.length = n1 + 1) := ⟨l.length - 1, Lib.hid (by omega)⟩
  rw [HN.out] at hil hlen hcap2
  rw [HN.out]
  have HK : Hid ((l.take i).length = i) := Lib.hid (by have := HN.out; simp; omega)
  have HR : Hid ((l.drop (i + 1)).length = n1 - i) := Lib.hid (by have := HN.out; simp; omega)
  have hne : ((i : Int) == (i : Int) + 1) = false := by simp; try omega
  have hic : i ≤ cap := by omega
  have hicI : (i : Int) ≤ cap := by omega
  have hjc : i + 1 ≤ cap := by omega
  have hjl : i + 1 ≤ n1 + 1 := by omega
  have hcn : ¬ cap = n1 := by omega
  have hi3 : (i : Int) ≤ (i : Int) + 1 := by omega
  have hi4 : (0 : Int) ≤ (i : Int) + 1 := by omega
  have hin : i ≤ n1 := by omega
  go_enter Try.func56, Try.ntmps56
  go_upto_region 5 with fail
  by_cases hce : cap = i + 1
  · have HR0 : Hid ((l.drop (i + 1)).length = 0) := Lib.hid (by rw [HR.out]; omega)
    obtain rfl : i = n1 := by omega
    subst hce
    refine wp_region_soft_tail (fun W => Below w.heap.size w W) [true, true, true, true, true, true] (by kernel_rfl) (by kernel_rfl) (fun c a d v w h => by cases d <;> exact h) ((Below.refl _ _).drew) ?_
    intro wS HS
    all_goals first | (refine soft_pass rfl HS ?_) | (refine soft_read (v := ?_) rfl (fun W hW => ?_) ?_; rotate_left; (· go_simp; try with_reducible rfl))
    all_goals try simp only [Act.put, List.setIfInBounds_toArray, List.set_cons_zero, List.set_cons_succ]
    all_goals first | (refine soft_pass rfl HS ?_) | (refine soft_read (v := ?_) rfl (fun W hW => ?_) ?_; rotate_left; (· go_simp; try with_reducible rfl))
    all_goals try simp only [Act.put, List.setIfInBounds_toArray, List.set_cons_zero, List.set_cons_succ]
    all_goals first | (refine soft_pass rfl HS ?_) | (refine soft_read (v := ?_) rfl (fun W hW => ?_) ?_; rotate_left; (· go_simp; try with_reducible rfl))
    all_goals try simp only [Act.put, List.setIfInBounds_toArray, List.set_cons_zero, List.set_cons_succ]
    all_goals first | (refine soft_pass rfl HS ?_) | (refine soft_read (v := ?_) rfl (fun W hW => ?_) ?_; rotate_left; (· go_simp; try with_reducible rfl))
    all_goals try simp only [Act.put, List.setIfInBounds_toArray, List.set_cons_zero, List.set_cons_succ]
    all_goals first | (refine soft_pass rfl HS ?_) | (refine soft_read (v := ?_) rfl (fun W hW => ?_) ?_; rotate_left; (· go_simp; try with_reducible rfl))
    all_goals try simp only [Act.put, List.setIfInBounds_toArray, List.set_cons_zero, List.set_cons_succ]
    all_goals first | (refine soft_pass rfl HS ?_) | (refine soft_read (v := ?_) rfl (fun W hW => ?_) ?_; rotate_left; (· go_simp; try with_reducible rfl))
    all_goals try simp only [Act.put, List.setIfInBounds_toArray, List.set_cons_zero, List.set_cons_succ]
    all_goals refine soft_rest ?_
    have G2 := Lib.hid (G.out.below HS)
    obtain ⟨w6, hr6, hg6, ht6⟩ := Rep.run_shift' (P := Try.prog) (t := 24) (ty := 24) Try.underlying24 infMeasurement G2.out (by decide) (q := 0) (c := 0) (k := i) (m := 0) (fun hne => absurd (List.eq_nil_of_length_eq_zero HR0.out) hne) HK.out.symm HR0.out.symm
    rw [Nat.add_zero] at hr6
    have HL6 : Hid ((l.take i ++ l.drop (i + 1)).length = i) := Lib.hid (by rw [List.length_append, HK.out, HR0.out]; omega)
    obtain ⟨w7, hr7, ho7, ht7⟩ := hg6.run_clear (P := Try.prog) (t := 24) (ty := 0) (c := 1) (p := i * 3) (by decide) Try.underlying24 infMeasurement rfl (by decide) (zero_one _ (by decide)) (by rw [HL6.out]; rfl)
    rw [HL6.out] at ho7
    have HO7 := Lib.hid ho7
    have HT7 := Lib.hid ((Touch.of_below (S := S) HS).trans ((ht6.trans ht7).wide (fun k hk => hk ▸ HSb.out)))
    clear hg6 ht6 ht7 ho7
    have h1 : (i : Int) ≤ (i : Int) + 1 := by omega
    have h2 : (i : Int) ≤ (i : Int) + 1 := by omega
    refine Rep.wpList_append_run rfl _ _ _ rfl (by rfl) (by rfl) hr6 ?_
    go_wp2
    go_ret
    exact ⟨_, rfl, HO7.out, HT7.out⟩
  · refine wp_region_soft_tail (fun W => Below w.heap.size w W) [true, true, true, true, true, true] (by kernel_rfl) (by kernel_rfl) (fun c a d v w h => by cases d <;> exact h) ((Below.refl _ _).drew) ?_
    intro wS HS
    all_goals first | (refine soft_pass rfl HS ?_) | (refine soft_read (v := ?_) rfl (fun W hW => ?_) ?_; rotate_left; (· go_simp; try with_reducible rfl))
    all_goals try simp only [Act.put, List.setIfInBounds_toArray, List.set_cons_zero, List.set_cons_succ]
    all_goals first | (refine soft_pass rfl HS ?_) | (refine soft_read (v := ?_) rfl (fun W hW => ?_) ?_; rotate_left; (· go_simp; try with_reducible rfl))
    all_goals try simp only [Act.put, List.setIfInBounds_toArray, List.set_cons_zero, List.set_cons_succ]
    all_goals first | (refine soft_pass rfl HS ?_) | (refine soft_read (v := ?_) rfl (fun W hW => ?_) ?_; rotate_left; (· go_simp; try with_reducible rfl))
    all_goals try simp only [Act.put, List.setIfInBounds_toArray, List.set_cons_zero, List.set_cons_succ]
    all_goals first | (refine soft_pass rfl HS ?_) | (refine soft_read (v := ?_) rfl (fun W hW => ?_) ?_; rotate_left; (· go_simp; try with_reducible rfl))
    all_goals try simp only [Act.put, List.setIfInBounds_toArray, List.set_cons_zero, List.set_cons_succ]
    all_goals first | (refine soft_pass rfl HS ?_) | (refine soft_read (v := ?_) rfl (fun W hW => ?_) ?_; rotate_left; (· go_simp; try with_reducible rfl))
    all_goals try simp only [Act.put, List.setIfInBounds_toArray, List.set_cons_zero, List.set_cons_succ]
    all_goals first | (refine soft_pass rfl HS ?_) | (refine soft_read (v := ?_) rfl (fun W hW => ?_) ?_; rotate_left; (· go_simp; try with_reducible rfl))
    all_goals try simp only [Act.put, List.setIfInBounds_toArray, List.set_cons_zero, List.set_cons_succ]
    all_goals refine soft_rest ?_
    have G2 := Lib.hid (G.out.below HS)
    obtain ⟨w6, hr6, hg6, ht6⟩ := Rep.run_shift' (P := Try.prog) (t := 24) (ty := 24) Try.underlying24 infMeasurement G2.out (by decide) (q := (i + 1) * 3) (c := cap - (i + 1)) (k := i) (m := n1 - i) (fun _ => by rw [HK.out]; rfl) HK.out.symm HR.out.symm
    rw [show i + (n1 - i) = n1 by omega] at hr6
    have HL6 : Hid ((l.take i ++ l.drop (i + 1)).length = n1) := Lib.hid (by rw [List.length_append, HK.out, HR.out]; omega)
    obtain ⟨w7, hr7, ho7, ht7⟩ := hg6.run_clear (P := Try.prog) (t := 24) (ty := 0) (c := cap - n1) (p := n1 * 3) (by decide) Try.underlying24 infMeasurement rfl (by decide) (zero_one _ (by decide)) (by rw [HL6.out]; rfl)
    rw [HL6.out] at ho7
    have HO7 := Lib.hid ho7
    have HT7 := Lib.hid ((Touch.of_below (S := S) HS).trans ((ht6.trans ht7).wide (fun k hk => hk ▸ HSb.out)))
    clear hg6 ht6 ht7 ho7
    have h1 : (n1 : Int) ≤ cap := by omega
    have h2 : (n1 : Int) ≤ (n1 : Int) + 1 := by omega
    refine Rep.wpList_append_run rfl _ _ _ rfl (by rfl) (by rfl) hr6 ?_
    go_wp2
    go_ret
    exact ⟨_, rfl, HO7.out, HT7.out⟩
set_option maxRecDepth 100000 in
set_option maxHeartbeats 2000000 in
theorem Delete_PendingInterest_c {w : World} {v : Value} {l : List LPendingInterest} {S : Nat → Prop} (hl : Rep.own0 97 RPendingInterest w v l S) (hlen : l.length ≤ 16777216) {i : Nat} (hil : i < l.length) :
    Calls Try.prog 92 #[v, .int .i64 i, .int .i64 ((i : Int) + 1)] w fun e w' => ∃ v', e = .returned v' ∧ Rep.own0 97 RPendingInterest w' v' (l.take i ++ l.drop (i + 1)) S ∧ Touch S w w' := by
  obtain ⟨b, cap, rfl, hgap⟩ := Rep.gap_start hl hil
  rw [List.drop_eq_getElem_cons hil] at hgap
  have G : Hid (Rep.gap 97 RPendingInterest w b cap l.length (l.take i) 1 (l.drop (i + 1)) S) := Lib.hid hgap.skip
  have HSb := Lib.hid hgap.mem
  have hcap := hgap.len
  simp only [List.length_take, List.length_cons, List.length_drop] at hcap
  have hcap2 : l.length ≤ cap := hcap.2.1
  have hcap3 : cap ≤ 9223372036854775807 := by have := hcap.2.2; unfold maxLen at this; omega
  clear hgap hl hcap
  obtain ⟨n1, HN⟩ : ∃ n1, Hid (l.length = n1 + 1) := ⟨l.length - 1, Lib.hid (by omega)⟩
  rw [HN.out] at hil hlen hcap2
  rw [HN.out]
  have HK : Hid ((l.take i).length = i) := Lib.hid (by have := HN.out; simp; omega)
  have HR : Hid ((l.drop (i + 1)).length = n1 - i) := Lib.hid (by have := HN.out; simp; omega)
  have hne : ((i : Int) == (i : Int) + 1) = false := by simp; try omega
  have hic : i ≤ cap := by omega
  have hicI : (i : Int) ≤ cap := by omega
  have hjc : i + 1 ≤ cap := by omega
  have hjl : i + 1 ≤ n1 + 1 := by omega
  have hcn : ¬ cap = n1 := by omega
  have hi3 : (i : Int) ≤ (i : Int) + 1 := by omega
  have hi4 : (0 : Int) ≤ (i : Int) + 1 := by omega
  have hin : i ≤ n1 := by omega
  go_enter Try.func92, Try.ntmps92
  go_upto_region 5 with fail
  by_cases hce : cap = i + 1
  · have HR0 : Hid ((l.drop (i + 1)).length = 0) := Lib.hid (by rw [HR.out]; omega)
    obtain rfl : i = n1 := by omega
    subst hce
    refine wp_region_soft_tail (fun W => Below w.heap.size w W) [true, true, true, true, true, true] (by kernel_rfl) (by kernel_rfl) (fun c a d v w h => by cases d <;> exact h) ((Below.refl _ _).drew) ?_
    intro wS HS
    all_goals first | (refine soft_pass rfl HS ?_) | (refine soft_read (v := ?_) rfl (fun W hW => ?_) ?_; rotate_left; (· go_simp; try with_reducible rfl))
    all_goals try simp only [Act.put, List.setIfInBounds_toArray, List.set_cons_zero, List.set_cons_succ]
    all_goals first | (refine soft_pass rfl HS ?_) | (refine soft_read (v := ?_) rfl (fun W hW => ?_) ?_; rotate_left; (· go_simp; try with_reducible rfl))
    all_goals try simp only [Act.put, List.setIfInBounds_toArray, List.set_cons_zero, List.set_cons_succ]
    all_goals first | (refine soft_pass rfl HS ?_) | (refine soft_read (v := ?_) rfl (fun W hW => ?_) ?_; rotate_left; (· go_simp; try with_reducible rfl))
    all_goals try simp only [Act.put, List.setIfInBounds_toArray, List.set_cons_zero, List.set_cons_succ]
    all_goals first | (refine soft_pass rfl HS ?_) | (refine soft_read (v := ?_) rfl (fun W hW => ?_) ?_; rotate_left; (· go_simp; try with_reducible rfl))
    all_goals try simp only [Act.put, List.setIfInBounds_toArray, List.set_cons_zero, List.set_cons_succ]
    all_goals first | (refine soft_pass rfl HS ?_) | (refine soft_read (v := ?_) rfl (fun W hW => ?_) ?_; rotate_left; (· go_simp; try with_reducible rfl))
    all_goals try simp only [Act.put, List.setIfInBounds_toArray, List.set_cons_zero, List.set_cons_succ]
    all_goals first | (refine soft_pass rfl HS ?_) | (refine soft_read (v := ?_) rfl (fun W hW => ?_) ?_; rotate_left; (· go_simp; try with_reducible rfl))
    all_goals try simp only [Act.put, List.setIfInBounds_toArray, List.set_cons_zero, List.set_cons_succ]
    all_goals refine soft_rest ?_
    have G2 := Lib.hid (G.out.below HS)
    obtain ⟨w6, hr6, hg6, ht6⟩ := Rep.run_shift' (P := Try.prog) (t := 42) (ty := 42) Try.underlying42 infPendingInterest G2.out (by decide) (q := 0) (c := 0) (k := i) (m := 0) (fun hne => absurd (List.eq_nil_of_length_eq_zero HR0.out) hne) HK.out.symm HR0.out.symm
    rw [Nat.add_zero] at hr6
    have HL6 : Hid ((l.take i ++ l.drop (i + 1)).length = i) := Lib.hid (by rw [List.length_append, HK.out, HR0.out]; omega)
    obtain ⟨w7, hr7, ho7, ht7⟩ := hg6.run_clear (P := Try.prog) (t := 42) (ty := 0) (c := 1) (p := i * 3) (by decide) Try.underlying42 infPendingInterest rfl (by decide) (zero_one _ (by decide)) (by rw [HL6.out]; rfl)
    rw [HL6.out] at ho7
    have HO7 := Lib.hid ho7
    have HT7 := Lib.hid ((Touch.of_below (S := S) HS).trans ((ht6.trans ht7).wide (fun k hk => hk ▸ HSb.out)))
    clear hg6 ht6 ht7 ho7
    have h1 : (i : Int) ≤ (i : Int) + 1 := by omega
    have h2 : (i : Int) ≤ (i : Int) + 1 := by omega
    refine Rep.wpList_append_run rfl _ _ _ rfl (by rfl) (by rfl) hr6 ?_
    go_wp2
    go_ret
    exact ⟨_, rfl, HO7.out, HT7.out⟩
  · refine wp_region_soft_tail (fun W => Below w.heap.size w W) [true, true, true, true, true, true] (by kernel_rfl) (by kernel_rfl) (fun c a d v w h => by cases d <;> exact h) ((Below.refl _ _).drew) ?_
    intro wS HS
    all_goals first | (refine soft_pass rfl HS ?_) | (refine soft_read (v := ?_) rfl (fun W hW => ?_) ?_; rotate_left; (· go_simp; try with_reducible rfl))
    all_goals try simp only [Act.put, List.setIfInBounds_toArray, List.set_cons_zero, List.set_cons_succ]
    all_goals first | (refine soft_pass rfl HS ?_) | (refine soft_read (v := ?_) rfl (fun W hW => ?_) ?_; rotate_left; (· go_simp; try with_reducible rfl))
    all_goals try simp only [Act.put, List.setIfInBounds_toArray, List.set_cons_zero, List.set_cons_succ]
    all_goals first | (refine soft_pass rfl HS ?_) | (refine soft_read (v := ?_) rfl (fun W hW => ?_) ?_; rotate_left; (· go_simp; try with_reducible rfl))
    all_goals try simp only [Act.put, List.setIfInBounds_toArray, List.set_cons_zero, List.set_cons_succ]
    all_goals first | (refine soft_pass rfl HS ?_) | (refine soft_read (v := ?_) rfl (fun W hW => ?_) ?_; rotate_left; (· go_simp; try with_reducible rfl))
    all_goals try simp only [Act.put, List.setIfInBounds_toArray, List.set_cons_zero, List.set_cons_succ]
    all_goals first | (refine soft_pass rfl HS ?_) | (refine soft_read (v := ?_) rfl (fun W hW => ?_) ?_; rotate_left; (· go_simp; try with_reducible rfl))
    all_goals try simp only [Act.put, List.setIfInBounds_toArray, List.set_cons_zero, List.set_cons_succ]
    all_goals first | (refine soft_pass rfl HS ?_) | (refine soft_read (v := ?_) rfl (fun W hW => ?_) ?_; rotate_left; (· go_simp; try with_reducible rfl))
    all_goals try simp only [Act.put, List.setIfInBounds_toArray, List.set_cons_zero, List.set_cons_succ]
    all_goals refine soft_rest ?_
    have G2 := Lib.hid (G.out.below HS)
    obtain ⟨w6, hr6, hg6, ht6⟩ := Rep.run_shift' (P := Try.prog) (t := 42) (ty := 42) Try.underlying42 infPendingInterest G2.out (by decide) (q := (i + 1) * 3) (c := cap - (i + 1)) (k := i) (m := n1 - i) (fun _ => by rw [HK.out]; rfl) HK.out.symm HR.out.symm
    rw [show i + (n1 - i) = n1 by omega] at hr6
    have HL6 : Hid ((l.take i ++ l.drop (i + 1)).length = n1) := Lib.hid (by rw [List.length_append, HK.out, HR.out]; omega)
    obtain ⟨w7, hr7, ho7, ht7⟩ := hg6.run_clear (P := Try.prog) (t := 42) (ty := 0) (c := cap - n1) (p := n1 * 3) (by decide) Try.underlying42 infPendingInterest rfl (by decide) (zero_one _ (by decide)) (by rw [HL6.out]; rfl)
    rw [HL6.out] at ho7
    have HO7 := Lib.hid ho7
    have HT7 := Lib.hid ((Touch.of_below (S := S) HS).trans ((ht6.trans ht7).wide (fun k hk => hk ▸ HSb.out)))
    clear hg6 ht6 ht7 ho7
    have h1 : (n1 : Int) ≤ cap := by omega
    have h2 : (n1 : Int) ≤ (n1 : Int) + 1 := by omega
    refine Rep.wpList_append_run rfl _ _ _ rfl (by rfl) (by rfl) hr6 ?_
    go_wp2
    go_ret
    exact ⟨_, rfl, HO7.out, HT7.out⟩
end Go.Proofs.Ytikjbdfkdkijkaa
