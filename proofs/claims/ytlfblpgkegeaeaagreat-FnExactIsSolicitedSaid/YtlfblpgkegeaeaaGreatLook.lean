/-
  Data found by their names: in a list, in a content store.
-/
import Derived.Test.YtlfblpgkegeaeaaGreatName
import Derived.Test.YtlfblpgkegeaeaaGreatCopyD
import Derived.IntWalk
import Derived.Deep.Cut
import Derived.WalkSpells
import Derived.WalkLawsBesides
namespace Go.Proofs.YtlfblpgkegeaeaaGreat
open Go.RowKit
set_option linter.unusedVariables false
set_option linter.unusedSimpArgs false
set_option linter.unnecessarySimpa false
def isD (n : LName) (x : LData) : Bool := eqN x.1 n
def fresh (t : Int) (x : LData) : Bool := decide (t ≤ x.2.2.2.1)
def hitC (n : LName) (t : Int) (x : LCacheEntry) : Bool := eqN x.1.1 n && fresh t x.1
def voidD : LData := ([], [], [], 0, 0)
def lkD (n : LName) (t : Int) (l : List LCacheEntry) : LData := if idxOf (hitC n t) l < 0 then voidD else (l.getD (idxOf (hitC n t) l).toNat (voidD, 0)).1
def lkOk (n : LName) (t : Int) (l : List LCacheEntry) : Bool := !decide (idxOf (hitC n t) l < 0)
theorem lk_no {n : LName} {t : Int} {l : List LCacheEntry} (h : idxOf (hitC n t) l = -1) : lkOk n t l = false ∧ lkD n t l = voidD := by simp [lkOk, lkD, h]
theorem lk_yes {n : LName} {t : Int} {l : List LCacheEntry} {j : Nat} (hj : j < l.length) (h : idxOf (hitC n t) l = j) : lkOk n t l = true ∧ lkD n t l = l[j].1 := by
  unfold lkOk lkD
  rw [h, Int.toNat_natCast, getD_get hj, if_neg (by omega), decide_eq_false (by omega)]
  exact ⟨rfl, rfl⟩
theorem own_voidL {α β : Type} {e : TypeId} {r : Rep α} {q : Rep β} {w : World} {ds : List Value} {y : β} {S : Nat → Prop} (h : q.own w ds y S) : (Rep.pair (Rep.slice e r) q).own w ([.slice none 0 0] ++ ds) ([], y) S :=
  Rep.own_pair (A := fun _ => False) (B := S) Rep.void_own h (fun _ h => h.elim) (fun _ h => h) (fun _ h _ => h)
theorem voidD_own {w : World} {S : Nat → Prop} : RData.own w [.slice none 0 0, .slice none 0 0, .slice none 0 0, .int .i64 0, .int .i64 0] voidD S :=
  own_voidL (own_voidL (own_voidL (Rep.own_pair (A := fun _ => False) (B := fun _ => False) (cs := [.int .i64 0]) (ds := [.int .i64 0]) (Rep.flat.own (Rep.flat_int (n := 0) (by omega))) (Rep.flat.own (Rep.flat_int (n := 0) (by omega))) (fun _ h => h.elim) (fun _ h => h.elim) (fun _ h _ => h))))
set_option maxRecDepth 100000 in
set_option maxHeartbeats 2000000 in
theorem specl16Find_c {w : World} {vl : Value} {l : (List LData)} (hl : (Rep.slice 66 RData).raw w [vl] l) {cn : List Value} {n : LName} (hn : RName.raw w cn n) :
    Calls Tryz.prog 66 #[vl, .agg cn.toArray] w fun e w' => e = .returned (.int .i64 (idxOf (isD n) l)) ∧ Below w.heap.size w w' := by
  obtain ⟨al, pl, el, ll⟩ := Rep.len_raw hl; obtain rfl : vl = _ := by simpa using el
  clear el
  have Hn := Lib.hid hn
  obtain ⟨fnv0, rfl, fn_0⟩ := RName_raw hn
  obtain ⟨fna0, fnp0, fnh0, fnl0⟩ := Rep.len_raw fn_0; obtain rfl : fnv0 = _ := by simpa using fnh0
  clear fnh0
  go_enter Tryz.func66, Tryz.ntmps66
  go_wp2
  generalize hwB : World.alloc w _ = wB
  have EB : Below w.heap.size w wB := by rw [← hwB]; exact (by repeat (first | (with_reducible exact Below.refl _ _) | refine Below.alloc ?_ (by simp; try omega) _ | refine Below.drew ?_ | refine Below.setCell ?_ (by simp; try omega) _))
  have K3_0 : wB.cell? ⟨w.heap.size, 0, none⟩ = some (.slice fna0 (n).length fnp0) := by rw [← hwB]; simp [go_sem]
  clear hwB
  replace hl := hl.below EB
  go_loopw [5] (fun i wr => ∃ k : Nat, k ≤ l.length ∧ i = .int .i64 k ∧ Hid (∀ j, (h : j < k) → (h2 : j < l.length) → (isD n) l[j] = false) ∧ Below wB.heap.size wB wr) (fun i _ => l.length - (intOf i).toNat)
  case atStart => exact ⟨0, Nat.zero_le _, rfl, Lib.hid (fun _ h => by omega), Below.refl _ _⟩
  case round =>
    obtain ⟨k, hk, rfl, HN, hbel⟩ := hrel
    replace K3_0 := cell_later hbel K3_0
    by_cases hlt : k < l.length
    · obtain ⟨qb, qo, rfl, qc0, qc1, qc2, qc3, qc4, qr, Aq0, Aq1, Aq2, Aq3, Aq4⟩ := Rep.get5 (hl.below hbel) (i := k) (by omega) rfl
      have hhit := fun q => idxOf_hit hlt q HN.out
      have hmis := fun q => no_succ hlt q HN.out
      generalize l[k] = x at *
      have HD := Lib.hid hhit; have HX := Lib.hid hmis; clear hhit hmis
      obtain ⟨x0, x1, x2, x3, x4⟩ := x
      obtain ⟨qv0, qv1, qv2, qhe, q_0, q_1, q_2, q_3, q_4, q_5, q_6⟩ := RData_raw qr
      simp only [List.cons.injEq, and_true] at qhe
      obtain ⟨rfl, rfl, rfl, rfl, rfl⟩ := qhe
      obtain ⟨qa0, qp0, qh0, ql0⟩ := Rep.len_raw q_1; obtain rfl : qc0 = _ := by simpa using qh0
      clear qh0
      obtain ⟨qa1, qp1, qh1, ql1⟩ := Rep.len_raw q_2; obtain rfl : qc1 = _ := by simpa using qh1
      clear qh1
      obtain ⟨qa2, qp2, qh2, ql2⟩ := Rep.len_raw q_4; obtain rfl : qc2 = _ := by simpa using qh2
      clear qh2
      go_upto_region 4 with fail
      refine wp_region_soft (fun W => Below wr.heap.size wr W) [true, true, true, true, true, true, false] (by kernel_rfl) (by kernel_rfl) (fun c a d v w h => by cases d <;> exact h) ((Below.refl _ _).drew) ?_
      intro wS HS
      all_goals first | (refine soft_pass rfl HS ?_) | (refine soft_read (v := ?_) rfl (fun W hW => ?_) ?_; rotate_left; (· go_simp; try with_reducible rfl))
      all_goals try simp only [Act.put, List.setIfInBounds_toArray, List.set_cons_zero, List.set_cons_succ]
      all_goals first | (refine soft_pass rfl HS ?_) | (refine soft_read (v := ?_) rfl (fun W hW => ?_) ?_; rotate_left; (· go_simp; try with_reducible rfl))
      all_goals try simp only [Act.put, List.setIfInBounds_toArray, List.set_cons_zero, List.set_cons_succ]
      all_goals first | (refine soft_pass rfl HS ?_) | (refine soft_read (v := ?_) rfl (fun W hW => ?_) ?_; rotate_left; (· go_simp; try with_reducible rfl))
      all_goals try simp only [Act.put, List.setIfInBounds_toArray, List.set_cons_zero, List.set_cons_succ]
      all_goals first | (refine soft_pass rfl HS ?_) | (refine soft_read (v := ?_) rfl (fun W hW => ?_) ?_; rotate_left; (· go_simp; try with_reducible rfl))
      all_goals try simp only [Act.put, List.setIfInBounds_toArray, List.set_cons_zero, List.set_cons_succ]
      all_goals first | (refine soft_pass rfl HS ?_) | (refine soft_read (v := ?_) rfl (fun W hW => ?_) ?_; rotate_left; (· have A_K3_0 := cell_later hW K3_0; have A_Aq0 := cell_later hW Aq0; have A_Aq1 := cell_later hW Aq1; have A_Aq2 := cell_later hW Aq2; have A_Aq3 := cell_later hW Aq3; have A_Aq4 := cell_later hW Aq4; clear hW; go_simp; try with_reducible rfl))
      all_goals try simp only [Act.put, List.setIfInBounds_toArray, List.set_cons_zero, List.set_cons_succ]
      all_goals first | (refine soft_pass rfl HS ?_) | (refine soft_read (v := ?_) rfl (fun W hW => ?_) ?_; rotate_left; (· have A_K3_0 := cell_later hW K3_0; have A_Aq0 := cell_later hW Aq0; have A_Aq1 := cell_later hW Aq1; have A_Aq2 := cell_later hW Aq2; have A_Aq3 := cell_later hW Aq3; have A_Aq4 := cell_later hW Aq4; clear hW; go_simp; try with_reducible rfl))
      all_goals try simp only [Act.put, List.setIfInBounds_toArray, List.set_cons_zero, List.set_cons_succ]
      all_goals first | (refine soft_pass rfl HS ?_) | (refine soft_do rfl (fun K hK => ?_); go_simp; refine (specEqualNames_c (Rep.raw.below q_0 HS) (Rep.raw.below Hn.out (EB.trans ((hbel.trans (HS.mono hbel.size)).mono EB.size)))).mono ?_; rintro e wS1 ⟨rfl, hbS⟩; replace HS := HS.trans (hbS.mono HS.size); refine hK _ _ HS ?_; clear hK K hbS)
      all_goals try simp only [Act.put, List.setIfInBounds_toArray, List.set_cons_zero, List.set_cons_succ]
      all_goals refine soft_nil ?_
      all_goals cases hg6 : eqN x0 n
      all_goals have EG := hbel.trans (HS.mono hbel.size)
      all_goals first
        | (have HT := Lib.hid (HD.out (show _ = true by simp only [isD, Bool.not_true, Bool.not_false, Bool.and_true, Bool.true_and, Bool.and_false, Bool.false_and, Bool.or_true, Bool.true_or, Bool.or_false, Bool.false_or, Bool.not_not, hg6])); clear HD HX; go_wp2; go_ret; exact ⟨ret_int HT.out.symm, EB.trans (EG.mono EB.size)⟩)
        | (have HT := Lib.hid (HX.out (show _ = false by simp only [isD, Bool.not_true, Bool.not_false, Bool.and_true, Bool.true_and, Bool.and_false, Bool.false_and, Bool.or_true, Bool.true_or, Bool.or_false, Bool.false_or, Bool.not_not, hg6])); clear HD HX; go_wp2; go_roundw; (case rel => exact ⟨k + 1, by omega, by go_num, HT, EG⟩); (case measure => simp [intOf]; omega))
    · have HT := Lib.hid (idxOf_miss hlt HN.out)
      go_wp2
      go_ret
      exact ⟨ret_int HT.out.symm, EB.trans (hbel.mono EB.size)⟩
set_option maxRecDepth 100000 in
set_option maxHeartbeats 2000000 in
theorem impllocalAt1_c {w : World} {cx : List Value} {x : LData} (hx : RData.raw w cx x) {n : LName} {nc0 : Value} {Bn : Nat} (nr : RName.raw w [nc0] n) (An0 : w.cell? ⟨Bn, 0, none⟩ = some nc0) :
    Calls Tryz.prog 145 (#[.agg cx.toArray] ++ #[.pointer (some ⟨Bn, 0, none⟩)]) w fun e w' => e = .returned (.bool (isD n x)) ∧ Below w.heap.size w w' := by
  have Hx := Lib.hid hx
  obtain ⟨fxv0, fxv1, fxv2, rfl, fx_0, fx_1, fx_2, fx_3, fx_4, fx_5, fx_6⟩ := RData_raw hx
  obtain ⟨fxa0, fxp0, fxh0, fxl0⟩ := Rep.len_raw fx_1; obtain rfl : fxv0 = _ := by simpa using fxh0
  clear fxh0
  obtain ⟨fxa1, fxp1, fxh1, fxl1⟩ := Rep.len_raw fx_2; obtain rfl : fxv1 = _ := by simpa using fxh1
  clear fxh1
  obtain ⟨fxa2, fxp2, fxh2, fxl2⟩ := Rep.len_raw fx_4; obtain rfl : fxv2 = _ := by simpa using fxh2
  clear fxh2
  obtain ⟨nv0, nhe, n_0⟩ := RName_raw nr
  simp only [List.cons.injEq, and_true] at nhe
  obtain rfl := nhe
  obtain ⟨na0, np0, nh0, nl0⟩ := Rep.len_raw n_0; obtain rfl : nc0 = _ := by simpa using nh0
  clear nh0
  show Calls Tryz.prog 145 #[_, _] w _
  go_enter Tryz.func145, Tryz.ntmps145
  go_upto_region 1 with fail
  generalize hwB : World.alloc w _ = wB
  have EB : Below w.heap.size w wB := by rw [← hwB]; exact (by repeat (first | (with_reducible exact Below.refl _ _) | refine Below.alloc ?_ (by simp; try omega) _ | refine Below.drew ?_ | refine Below.setCell ?_ (by simp; try omega) _))
  have K2_0 : wB.cell? ⟨w.heap.size, 0, none⟩ = some (.slice fxa0 (x.1).length fxp0) := by rw [← hwB]; simp [go_sem]
  have K2_1 : wB.cell? ⟨w.heap.size, 1, none⟩ = some (.slice fxa1 (x.2.1).length fxp1) := by rw [← hwB]; simp [go_sem]
  have K2_2 : wB.cell? ⟨w.heap.size, 2, none⟩ = some (.slice fxa2 (x.2.2.1).length fxp2) := by rw [← hwB]; simp [go_sem]
  have K2_3 : wB.cell? ⟨w.heap.size, 3, none⟩ = some (.int .i64 x.2.2.2.1) := by rw [← hwB]; simp [go_sem]
  have K2_4 : wB.cell? ⟨w.heap.size, 4, none⟩ = some (.int .i64 x.2.2.2.2) := by rw [← hwB]; simp [go_sem]
  clear hwB
  replace An0 := cell_later EB An0
  refine wp_region_soft_plain (fun W => Below wB.heap.size wB W) [true, true, true, false, true] (Below.refl _ _) ?_
  intro wS HS
  all_goals first | (refine soft_pass rfl HS ?_) | (refine soft_read (v := ?_) rfl (fun W hW => ?_) ?_; rotate_left; (· go_simp; try with_reducible rfl))
  all_goals try simp only [Act.put, List.setIfInBounds_toArray, List.set_cons_zero, List.set_cons_succ]
  all_goals first | (refine soft_pass rfl HS ?_) | (refine soft_read (v := ?_) rfl (fun W hW => ?_) ?_; rotate_left; (· have A_K2_0 := cell_later hW K2_0; have A_K2_1 := cell_later hW K2_1; have A_K2_2 := cell_later hW K2_2; have A_K2_3 := cell_later hW K2_3; have A_K2_4 := cell_later hW K2_4; have A_An0 := cell_later hW An0; clear hW; go_simp; try with_reducible rfl))
  all_goals try simp only [Act.put, List.setIfInBounds_toArray, List.set_cons_zero, List.set_cons_succ]
  all_goals first | (refine soft_pass rfl HS ?_) | (refine soft_read (v := ?_) rfl (fun W hW => ?_) ?_; rotate_left; (· have A_K2_0 := cell_later hW K2_0; have A_K2_1 := cell_later hW K2_1; have A_K2_2 := cell_later hW K2_2; have A_K2_3 := cell_later hW K2_3; have A_K2_4 := cell_later hW K2_4; have A_An0 := cell_later hW An0; clear hW; go_simp; try with_reducible rfl))
  all_goals try simp only [Act.put, List.setIfInBounds_toArray, List.set_cons_zero, List.set_cons_succ]
  all_goals first | (refine soft_pass rfl HS ?_) | (refine soft_do rfl (fun K hK => ?_); go_simp; refine (implEqualNames_c (Rep.raw.below fx_0 (EB.trans (HS.mono EB.size))) (Rep.raw.below nr (EB.trans (HS.mono EB.size)))).mono ?_; rintro e wS1 ⟨rfl, hbS⟩; replace HS := HS.trans (hbS.mono HS.size); refine hK _ _ HS ?_; clear hK K hbS)
  all_goals try simp only [Act.put, List.setIfInBounds_toArray, List.set_cons_zero, List.set_cons_succ]
  all_goals first | (refine soft_pass rfl HS ?_; have hg4 := True.intro) | (refine soft_part (v := ?_) (b := ?_) rfl (fun W hW => ?_) ?_ (fun b hg4 => ?_); rotate_left; rotate_left; (· go_simp; try with_reducible rfl); (· with_reducible rfl); cases b; all_goals first | (exact Bool.noConfusion hg4) | (simp only [Bool.not_eq_true', Bool.not_eq_false'] at hg4) | skip)
  all_goals try simp only [Act.put, List.setIfInBounds_toArray, List.set_cons_zero, List.set_cons_succ]
  all_goals refine soft_nil ?_
  all_goals have EG := EB.trans (HS.mono EB.size)
  all_goals first
    | (have HT := Lib.hid (show (isD n x) = false by simp only [isD, Bool.not_true, Bool.not_false, Bool.and_true, Bool.true_and, Bool.and_false, Bool.false_and, Bool.or_true, Bool.true_or, Bool.or_false, Bool.false_or, Bool.not_not, hg4]); go_wp2; go_ret; exact ⟨ret_bool HT.out.symm, EG⟩)
    | (have HT := Lib.hid (show (isD n x) = true by simp only [isD, Bool.not_true, Bool.not_false, Bool.and_true, Bool.true_and, Bool.and_false, Bool.false_and, Bool.or_true, Bool.true_or, Bool.or_false, Bool.false_or, Bool.not_not, hg4]); go_wp2; go_ret; exact ⟨ret_bool HT.out.symm, EG⟩)
theorem callable_impllocalAt1_c : Callable Tryz.prog 145 := callable_of Tryz.func145 (by kernel_rfl) (by kernel_rfl)
set_option maxRecDepth 100000 in
set_option maxHeartbeats 1000000 in
theorem impllocalAt_c {w : World} {vl : Value} {l : (List LData)} (hl : (Rep.slice 66 RData).raw w [vl] l) {cn : List Value} {n : LName} (hn : RName.raw w cn n) :
    Calls Tryz.prog 74 #[vl, .agg cn.toArray] w fun e w' => e = .returned (.int .i64 (idxOf (isD n) l)) ∧ Below w.heap.size w w' := by
  obtain ⟨al, pl, el, ll⟩ := Rep.len_raw hl; obtain rfl : vl = _ := by simpa using el
  clear el
  have Hn := Lib.hid hn
  obtain ⟨fnv0, rfl, fn_0⟩ := RName_raw hn
  obtain ⟨fna0, fnp0, fnh0, fnl0⟩ := Rep.len_raw fn_0; obtain rfl : fnv0 = _ := by simpa using fnh0
  clear fnh0
  go_enter Tryz.func74, Tryz.ntmps74
  go_upto_region 1 with fail
  generalize hwB : World.alloc w _ = wB
  have EB : Below w.heap.size w wB := by rw [← hwB]; exact (by repeat (first | (with_reducible exact Below.refl _ _) | refine Below.alloc ?_ (by simp; try omega) _ | refine Below.drew ?_ | refine Below.setCell ?_ (by simp; try omega) _))
  have K3_0 : wB.cell? ⟨w.heap.size, 0, none⟩ = some (.slice fna0 (n).length fnp0) := by rw [← hwB]; simp [go_sem]
  clear hwB
  go_wp2_with fail
  refine (IndexFunc_Data_c (isD n) callable_impllocalAt1_c (Rep.raw.below hl EB) ?_).mono ?_
  · intro wr hb i h cs hr
    exact impllocalAt1_c hr (Rep.raw.below Hn.out (EB.trans (hb.mono EB.size))) (cell_later hb K3_0)
  rintro e w1 ⟨rfl, hb1⟩
  have EG : Below w.heap.size w w1 := EB.trans (hb1.mono EB.size)
  clear hb1
  go_wp2
  go_ret
  exact ⟨rfl, EG⟩
theorem specFreshAt_c {w : World} {cx : List Value} {x : LData} (hx : RData.raw w cx x) {t : Int} :
    Calls Tryz.prog 203 #[.agg cx.toArray, .int .i64 t] w fun e w' => e = .returned (.bool (fresh t x)) ∧ Below w.heap.size w w' := by
  obtain ⟨v0, v1, v2, rfl, a_0, a_1, a_2, a_3, a_4, a_5, a_6⟩ := RData_raw hx
  have HT := Lib.hid (show fresh t x = decide (t ≤ x.2.2.2.1) from rfl)
  clear hx a_0 a_1 a_2 a_3 a_4 a_5 a_6
  go_enter Tryz.func203, Tryz.ntmps203
  go_wp2
  go_ret
  exact ⟨ret_bool HT.out.symm, (by repeat (first | (with_reducible exact Below.refl _ _) | refine Below.alloc ?_ (by simp; try omega) _ | refine Below.drew ?_ | refine Below.setCell ?_ (by simp; try omega) _))⟩
theorem implFreshAt_c {w : World} {cx : List Value} {x : LData} (hx : RData.raw w cx x) {t : Int} :
    Calls Tryz.prog 214 #[.agg cx.toArray, .int .i64 t] w fun e w' => e = .returned (.bool (fresh t x)) ∧ Below w.heap.size w w' := by
  obtain ⟨v0, v1, v2, rfl, a_0, a_1, a_2, a_3, a_4, a_5, a_6⟩ := RData_raw hx
  have HT := Lib.hid (show fresh t x = decide (t ≤ x.2.2.2.1) from rfl)
  clear hx a_0 a_1 a_2 a_3 a_4 a_5 a_6
  go_enter Tryz.func214, Tryz.ntmps214
  go_wp2
  go_ret
  exact ⟨ret_bool HT.out.symm, (by repeat (first | (with_reducible exact Below.refl _ _) | refine Below.alloc ?_ (by simp; try omega) _ | refine Below.drew ?_ | refine Below.setCell ?_ (by simp; try omega) _))⟩
end Go.Proofs.YtlfblpgkegeaeaaGreat
