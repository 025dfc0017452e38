/-
  Data found by their names: in a list, in a content store.
-/
import Derived.Test.YtaphafmkidjakaaName
import Derived.Test.YtaphafmkidjakaaCopyD
import Derived.IntWalk
import Derived.Deep.Cut
import Derived.WalkSpells
import Derived.WalkLawsBesides
namespace Go.Proofs.Ytaphafmkidjakaa
open Go.RowKit
set_option linter.unusedVariables false
set_option linter.unusedSimpArgs false
set_option linter.unnecessarySimpa false
def isD (n : LName) (x : LData) : Bool := eqN x.1 n
def fresh (t : Int) (x : LData) : Bool := decide (t ≤ x.2.2.2.1)
def hitC (n : LName) (t : Int) (x : LCacheEntry) : Bool := eqN x.1.1 n && fresh t x.1
def voidD : LData := ([], [], [], 0, 0)
def lkD (n : LName) (t : Int) (l : List LCacheEntry) : LData := if idxOf (hitC n t) l < 0 then voidD else (l.getD (idxOf (hitC n t) l).toNat (voidD, 0)).1
def lkOk (n : LName) (t : Int) (l : List LCacheEntry) : Bool := !decide (idxOf (hitC n t) l < 0)
theorem lk_no {n : LName} {t : Int} {l : List LCacheEntry} (h : idxOf (hitC n t) l = -1) : lkOk n t l = false ∧ lkD n t l = voidD := by simp [lkOk, lkD, h]
theorem lk_yes {n : LName} {t : Int} {l : List LCacheEntry} {j : Nat} (hj : j < l.length) (h : idxOf (hitC n t) l = j) : lkOk n t l = true ∧ lkD n t l = l[j].1 := by
  unfold lkOk lkD
  rw [h, Int.toNat_natCast, getD_get hj, if_neg (by omega), decide_eq_false (by omega)]
  exact ⟨rfl, rfl⟩
theorem own_voidL {α β : Type} {e : TypeId} {r : Rep α} {q : Rep β} {w : World} {ds : List Value} {y : β} {S : Nat → Prop} (h : q.own w ds y S) : (Rep.pair (Rep.slice e r) q).own w ([.slice none 0 0] ++ ds) ([], y) S :=
  Rep.own_pair (A := fun _ => False) (B := S) Rep.void_own h (fun _ h => h.elim) (fun _ h => h) (fun _ h _ => h)
theorem voidD_own {w : World} {S : Nat → Prop} : RData.own w [.slice none 0 0, .slice none 0 0, .slice none 0 0, .int .i64 0, .int .i64 0] voidD S :=
  own_voidL (own_voidL (own_voidL (Rep.own_pair (A := fun _ => False) (B := fun _ => False) (cs := [.int .i64 0]) (ds := [.int .i64 0]) (Rep.flat.own (Rep.flat_int (n := 0) (by omega))) (Rep.flat.own (Rep.flat_int (n := 0) (by omega))) (fun _ h => h.elim) (fun _ h => h.elim) (fun _ h _ => h))))
set_option maxRecDepth 100000 in
set_option maxHeartbeats 2000000 in
theorem specl16Find_c {w : World} {vl : Value} {l : (List LData)} (hl : (Rep.slice 40 RData).raw w [vl] l) {cn : List Value} {n : LName} (hn : RName.raw w cn n) :
    Calls Try.prog 35 #[vl, .agg cn.toArray] w fun e w' => e = .returned (.int .i64 (idxOf (isD n) l)) ∧ Below w.heap.size w w' := by
  obtain ⟨al, pl, el, ll⟩ := Rep.len_raw hl; obtain rfl : vl = _ := by simpa using el
  clear el
  have Hn := Lib.hid hn
  obtain ⟨fnv0, rfl, fn_0⟩ := RName_raw hn
  obtain ⟨fna0, fnp0, fnh0, fnl0⟩ := Rep.len_raw fn_0; obtain rfl : fnv0 = _ := by simpa using fnh0
  clear fnh0
  go_enter Try.func35, Try.ntmps35
  go_wp2
  generalize hwB : World.alloc w _ = wB
  have EB : Below w.heap.size w wB := by rw [← hwB]; exact (by repeat (first | (with_reducible exact Below.refl _ _) | refine Below.alloc ?_ (by simp; try omega) _ | refine Below.drew ?_ | refine Below.setCell ?_ (by simp; try omega) _))
  have K3_0 : wB.cell? ⟨w.heap.size, 0, none⟩ = some (.slice fna0 (n).length fnp0) := by rw [← hwB]; simp [go_sem]
  clear hwB
  replace hl := hl.below EB
  go_loopw [5] (fun i wr => ∃ k : Nat, k ≤ l.length ∧ i = .int .i64 k ∧ Hid (∀ j, (h : j < k) → (h2 : j < l.length) → (isD n) l[j] = false) ∧ Below wB.heap.size wB wr) (fun i _ => l.length - (intOf i).toNat)
  case atStart => exact ⟨0, Nat.zero_le _, rfl, Lib.hid (fun _ h => by omega), Below.refl _ _⟩
  case round =>
    obtain ⟨k, hk, rfl, HN, hbel⟩ := hrel
    replace K3_0 := cell_later hbel K3_0
    by_cases hlt : k < l.length
    · obtain ⟨qb, qo, rfl, qc0, qc1, qc2, qc3, qc4, qr, Aq0, Aq1, Aq2, Aq3, Aq4⟩ := Rep.get5 (hl.below hbel) (i := k) (by omega) rfl
      have hhit := fun q => idxOf_hit hlt q HN.out
      have hmis := fun q => no_succ hlt q HN.out
      generalize l[k] = x at *
      have HD := Lib.hid hhit; have HX := Lib.hid hmis; clear hhit hmis
      obtain ⟨x0, x1, x2, x3, x4⟩ := x
      obtain ⟨qv0, qv1, qv2, qhe, q_0, q_1, q_2, q_3, q_4, q_5, q_6⟩ := RData_raw qr
      simp only [List.cons.injEq, and_true] at qhe
      obtain ⟨rfl, rfl, rfl, rfl, rfl⟩ := qhe
      obtain ⟨qa0, qp0, qh0, ql0⟩ := Rep.len_raw q_1; obtain rfl : qc0 = _ := by simpa using qh0
      clear qh0
      obtain ⟨qa1, qp1, qh1, ql1⟩ := Rep.len_raw q_2; obtain rfl : qc1 = _ := by simpa using qh1
      clear qh1
      obtain ⟨qa2, qp2, qh2, ql2⟩ := Rep.len_raw q_4; obtain rfl : qc2 = _ := by simpa using qh2
      clear qh2
      go_upto_region 4 with fail
      refine wp_region_soft (fun W => Below wr.heap.size wr W) [true, true, true, true, true, true, false] (by kernel_rfl) (by kernel_rfl) (fun c a d v w h => by cases d <;> exact h) ((Below.refl _ _).drew) ?_
      intro wS HS
      all_goals first | (refine soft_pass rfl HS ?_) | (refine soft_read (v := ?_) rfl (fun W hW => ?_) ?_; rotate_left; (· go_simp; try with_reducible rfl))
      all_goals try simp only [Act.put, List.setIfInBounds_toArray, List.set_cons_zero, List.set_cons_succ]
      all_goals first | (refine soft_pass rfl HS ?_) | (refine soft_read (v := ?_) rfl (fun W hW => ?_) ?_; rotate_left; (· go_simp; try with_reducible rfl))
      all_goals try simp only [Act.put, List.setIfInBounds_toArray, List.set_cons_zero, List.set_cons_succ]
      all_goals first | (refine soft_pass rfl HS ?_) | (refine soft_read (v := ?_) rfl (fun W hW => ?_) ?_; rotate_left; (· go_simp; try with_reducible rfl))
      all_goals try simp only [Act.put, List.setIfInBounds_toArray, List.set_cons_zero, List.set_cons_succ]
      all_goals first | (refine soft_pass rfl HS ?_) | (refine soft_read (v := ?_) rfl (fun W hW => ?_) ?_; rotate_left; (· go_simp; try with_reducible rfl))
      all_goals try simp only [Act.put, List.setIfInBounds_toArray, List.set_cons_zero, List.set_cons_succ]
      all_goals first | (refine soft_pass rfl HS ?_) | (refine soft_read (v := ?_) rfl (fun W hW => ?_) ?_; rotate_left; (· have A_K3_0 := cell_later hW K3_0; have A_Aq0 := cell_later hW Aq0; have A_Aq1 := cell_later hW Aq1; have A_Aq2 := cell_later hW Aq2; have A_Aq3 := cell_later hW Aq3; have A_Aq4 := cell_later hW Aq4; clear hW; go_simp; try with_reducible rfl))
      all_goals try simp only [Act.put, List.setIfInBounds_toArray, List.set_cons_zero, List.set_cons_succ]
      all_goals first | (refine soft_pass rfl HS ?_) | (refine soft_read (v := ?_) rfl (fun W hW => ?_) ?_; rotate_left; (· have A_K3_0 := cell_later hW K3_0; have A_Aq0 := cell_later hW Aq0; have A_Aq1 := cell_later hW Aq1; have A_Aq2 := cell_later hW Aq2; have A_Aq3 := cell_later hW Aq3; have A_Aq4 := cell_later hW Aq4; clear hW; go_simp; try with_reducible rfl))
      all_goals try simp only [Act.put, List.setIfInBounds_toArray, List.set_cons_zero, List.set_cons_succ]
      all_goals first | (refine soft_pass rfl HS ?_) | (refine soft_do rfl (fun K hK => ?_); go_simp; refine (specEqualNames_c (Rep.raw.below q_0 HS) (Rep.raw.below Hn.out (EB.trans ((hbel.trans (HS.mono hbel.size)).mono EB.size)))).mono ?_; rintro e wS1 ⟨rfl, hbS⟩; replace HS := HS.trans (hbS.mono HS.size); refine hK _ _ HS ?_; clear hK K hbS)
      all_goals try simp only [Act.put, List.setIfInBounds_toArray, List.set_cons_zero, List.set_cons_succ]
      all_goals refine soft_nil ?_
      all_goals cases hg6 : eqN x0 n
      all_goals have EG := hbel.trans (HS.mono hbel.size)
      all_goals first
        | (have HT := Lib.hid (HD.out (show _ = true by simp only [isD, Bool.not_true, Bool.not_false, Bool.and_true, Bool.true_and, Bool.and_false, Bool.false_and, Bool.or_true, Bool.true_or, Bool.or_false, Bool.false_or, Bool.not_not, hg6])); clear HD HX; go_wp2; go_ret; exact ⟨ret_int HT.out.symm, EB.trans (EG.mono EB.size)⟩)
        | (have HT := Lib.hid (HX.out (show _ = false by simp only [isD, Bool.not_true, Bool.not_false, Bool.and_true, Bool.true_and, Bool.and_false, Bool.false_and, Bool.or_true, Bool.true_or, Bool.or_false, Bool.false_or, Bool.not_not, hg6])); clear HD HX; go_wp2; go_roundw; (case rel => exact ⟨k + 1, by omega, by go_num, HT, EG⟩); (case measure => simp [intOf]; omega))
    · have HT := Lib.hid (idxOf_miss hlt HN.out)
      go_wp2
      go_ret
      exact ⟨ret_int HT.out.symm, EB.trans (hbel.mono EB.size)⟩
set_option maxRecDepth 100000 in
set_option maxHeartbeats 2000000 in
theorem impllocalAt1_c {w : World} {cx : List Value} {x : LData} (hx : RData.raw w cx x) {n : LName} {nc0 : Value} {Bn : Nat} (nr : RName.raw w [nc0] n) (An0 : w.cell? ⟨Bn, 0, none⟩ = some nc0) :
    Calls Try.prog 98 (#[.agg cx.toArray] ++ #[.pointer (some ⟨Bn, 0, none⟩)]) w fun e w' => e = .returned (.bool (isD n x)) ∧ Below w.heap.size w w' := by
  have Hx := Lib.hid hx
  obtain ⟨fxv0, fxv1, fxv2, rfl, fx_0, fx_1, fx_2, fx_3, fx_4, fx_5, fx_6⟩ := RData_raw hx
  obtain ⟨fxa0, fxp0, fxh0, fxl0⟩ := Rep.len_raw fx_1; obtain rfl : fxv0 = _ := by simpa using fxh0
  clear fxh0
  obtain ⟨fxa1, fxp1, fxh1, fxl1⟩ := Rep.len_raw fx_2; obtain rfl : fxv1 = _ := by simpa using fxh1
  clear fxh1
  obtain ⟨fxa2, fxp2, fxh2, fxl2⟩ := Rep.len_raw fx_4; obtain rfl : fxv2 = _ := by simpa using fxh2
  clear fxh2
  obtain ⟨nv0, nhe, n_0⟩ := RName_raw nr
  simp only [List.cons.injEq, and_true] at nhe
  obtain rfl := nhe
  obtain ⟨na0, np0, nh0, nl0⟩ := Rep.len_raw n_0; obtain rfl : nc0 = _ := by simpa using nh0
  clear nh0
  show Calls Try.prog 98 #[_, _] w _
  go_enter Try.func98, Try.ntmps98
  go_upto_region 1 with fail
  generalize hwB : World.alloc w _ = wB
  have EB : Below w.heap.size w wB := by rw [← hwB]; exact (by repeat (first | (with_reducible exact Below.refl _ _) | refine Below.alloc ?_ (by simp; try omega) _ | refine Below.drew ?_ | refine Below.setCell ?_ (by simp; try omega) _))
  have K2_0 : wB.cell? ⟨w.heap.size, 0, none⟩ = some (.slice fxa0 (x.1).length fxp0) := by rw [← hwB]; simp [go_sem]
  have K2_1 : wB.cell? ⟨w.heap.size, 1, none⟩ = some (.slice fxa1 (x.2.1).length fxp1) := by rw [← hwB]; simp [go_sem]
  have K2_2 : wB.cell? ⟨w.heap.size, 2, none⟩ = some (.slice fxa2 (x.2.2.1).length fxp2) := by rw [← hwB]; simp [go_sem]
  have K2_3 : wB.cell? ⟨w.heap.size, 3, none⟩ = some (.int .i64 x.2.2.2.1) := by rw [← hwB]; simp [go_sem]
  have K2_4 : wB.cell? ⟨w.heap.size, 4, none⟩ = some (.int .i64 x.2.2.2.2) := by rw [← hwB]; simp [go_sem]
  clear hwB
  replace An0 := cell_later EB An0
  refine wp_region_soft_plain (fun W => Below wB.heap.size wB W) [true, true, true, false, true] (Below.refl _ _) ?_
  intro wS HS
  all_goals first | (refine soft_pass rfl HS ?_) | (refine soft_read (v := ?_) rfl (fun W hW => ?_) ?_; rotate_left; (· go_simp; try with_reducible rfl))
  all_goals try simp only [Act.put, List.setIfInBounds_toArray, List.set_cons_zero, List.set_cons_succ]
  all_goals first | (refine soft_pass rfl HS ?_) | (refine soft_read (v := ?_) rfl (fun W hW => ?_) ?_; rotate_left; (· have A_K2_0 := cell_later hW K2_0; have A_K2_1 := cell_later hW K2_1; have A_K2_2 := cell_later hW K2_2; have A_K2_3 := cell_later hW K2_3; have A_K2_4 := cell_later hW K2_4; have A_An0 := cell_later hW An0; clear hW; go_simp; try with_reducible rfl))
  all_goals try simp only [Act.put, List.setIfInBounds_toArray, List.set_cons_zero, List.set_cons_succ]
  all_goals first | (refine soft_pass rfl HS ?_) | (refine soft_read (v := ?_) rfl (fun W hW => ?_) ?_; rotate_left; (· have A_K2_0 := cell_later hW K2_0; have A_K2_1 := cell_later hW K2_1; have A_K2_2 := cell_later hW K2_2; have A_K2_3 := cell_later hW K2_3; have A_K2_4 := cell_later hW K2_4; have A_An0 := cell_later hW An0; clear hW; go_simp; try with_reducible rfl))
  all_goals try simp only [Act.put, List.setIfInBounds_toArray, List.set_cons_zero, List.set_cons_succ]
  all_goals first | (refine soft_pass rfl HS ?_) | (refine soft_do rfl (fun K hK => ?_); go_simp; refine (implEqualNames_c (Rep.raw.below fx_0 (EB.trans (HS.mono EB.size))) (Rep.raw.below nr (EB.trans (HS.mono EB.size)))).mono ?_; rintro e wS1 ⟨rfl, hbS⟩; replace HS := HS.trans (hbS.mono HS.size); refine hK _ _ HS ?_; clear hK K hbS)
  all_goals try simp only [Act.put, List.setIfInBounds_toArray, List.set_cons_zero, List.set_cons_succ]
  all_goals first | (refine soft_pass rfl HS ?_; have hg4 := True.intro) | (refine soft_part (v := ?_) (b := ?_) rfl (fun W hW => ?_) ?_ (fun b hg4 => ?_); rotate_left; rotate_left; (· go_simp; try with_reducible rfl); (· with_reducible rfl); cases b; all_goals first | (exact Bool.noConfusion hg4) | (simp only [Bool.not_eq_true', Bool.not_eq_false'] at hg4) | skip)
  all_goals try simp only [Act.put, List.setIfInBounds_toArray, List.set_cons_zero, List.set_cons_succ]
  all_goals refine soft_nil ?_
  all_goals have EG := EB.trans (HS.mono EB.size)
  all_goals first
    | (have HT := Lib.hid (show (isD n x) = false by simp only [isD, Bool.not_true, Bool.not_false, Bool.and_true, Bool.true_and, Bool.and_false, Bool.false_and, Bool.or_true, Bool.true_or, Bool.or_false, Bool.false_or, Bool.not_not, hg4]); go_wp2; go_ret; exact ⟨ret_bool HT.out.symm, EG⟩)
    | (have HT := Lib.hid (show (isD n x) = true by simp only [isD, Bool.not_true, Bool.not_false, Bool.and_true, Bool.true_and, Bool.and_false, Bool.false_and, Bool.or_true, Bool.true_or, Bool.or_false, Bool.false_or, Bool.not_not, hg4]); go_wp2; go_ret; exact ⟨ret_bool HT.out.symm, EG⟩)
theorem callable_impllocalAt1_c : Callable Try.prog 98 := callable_of Try.func98 (by kernel_rfl) (by kernel_rfl)
set_option maxRecDepth 100000 in
set_option maxHeartbeats 1000000 in
theorem impllocalAt_c {w : World} {vl : Value} {l : (List LData)} (hl : (Rep.slice 40 RData).raw w [vl] l) {cn : List Value} {n : LName} (hn : RName.raw w cn n) :
    Calls Try.prog 44 #[vl, .agg cn.toArray] w fun e w' => e = .returned (.int .i64 (idxOf (isD n) l)) ∧ Below w.heap.size w w' := by
  obtain ⟨al, pl, el, ll⟩ := Rep.len_raw hl; obtain rfl : vl = _ := by simpa using el
  clear el
  have Hn := Lib.hid hn
  obtain ⟨fnv0, rfl, fn_0⟩ := RName_raw hn
  obtain ⟨fna0, fnp0, fnh0, fnl0⟩ := Rep.len_raw fn_0; obtain rfl : fnv0 = _ := by simpa using fnh0
  clear fnh0
  go_enter Try.func44, Try.ntmps44
  go_upto_region 1 with fail
  generalize hwB : World.alloc w _ = wB
  have EB : Below w.heap.size w wB := by rw [← hwB]; exact (by repeat (first | (with_reducible exact Below.refl _ _) | refine Below.alloc ?_ (by simp; try omega) _ | refine Below.drew ?_ | refine Below.setCell ?_ (by simp; try omega) _))
  have K3_0 : wB.cell? ⟨w.heap.size, 0, none⟩ = some (.slice fna0 (n).length fnp0) := by rw [← hwB]; simp [go_sem]
  clear hwB
  go_wp2_with fail
  refine (IndexFunc_Data_c (isD n) callable_impllocalAt1_c (Rep.raw.below hl EB) ?_).mono ?_
  · intro wr hb i h cs hr
    exact impllocalAt1_c hr (Rep.raw.below Hn.out (EB.trans (hb.mono EB.size))) (cell_later hb K3_0)
  rintro e w1 ⟨rfl, hb1⟩
  have EG : Below w.heap.size w w1 := EB.trans (hb1.mono EB.size)
  clear hb1
  go_wp2
  go_ret
  exact ⟨rfl, EG⟩
theorem specFreshAt_c {w : World} {cx : List Value} {x : LData} (hx : RData.raw w cx x) {t : Int} :
    Calls Try.prog 91 #[.agg cx.toArray, .int .i64 t] w fun e w' => e = .returned (.bool (fresh t x)) ∧ Below w.heap.size w w' := by
  obtain ⟨v0, v1, v2, rfl, a_0, a_1, a_2, a_3, a_4, a_5, a_6⟩ := RData_raw hx
  have HT := Lib.hid (show fresh t x = decide (t ≤ x.2.2.2.1) from rfl)
  clear hx a_0 a_1 a_2 a_3 a_4 a_5 a_6
  go_enter Try.func91, Try.ntmps91
  go_wp2
  go_ret
  exact ⟨ret_bool HT.out.symm, (by repeat (first | (with_reducible exact Below.refl _ _) | refine Below.alloc ?_ (by simp; try omega) _ | refine Below.drew ?_ | refine Below.setCell ?_ (by simp; try omega) _))⟩
theorem implFreshAt_c {w : World} {cx : List Value} {x : LData} (hx : RData.raw w cx x) {t : Int} :
    Calls Try.prog 101 #[.agg cx.toArray, .int .i64 t] w fun e w' => e = .returned (.bool (fresh t x)) ∧ Below w.heap.size w w' := by
  obtain ⟨v0, v1, v2, rfl, a_0, a_1, a_2, a_3, a_4, a_5, a_6⟩ := RData_raw hx
  have HT := Lib.hid (show fresh t x = decide (t ≤ x.2.2.2.1) from rfl)
  clear hx a_0 a_1 a_2 a_3 a_4 a_5 a_6
  go_enter Try.func101, Try.ntmps101
  go_wp2
  go_ret
  exact ⟨ret_bool HT.out.symm, (by repeat (first | (with_reducible exact Below.refl _ _) | refine Below.alloc ?_ (by simp; try omega) _ | refine Below.drew ?_ | refine Below.setCell ?_ (by simp; try omega) _))⟩
set_option maxRecDepth 100000 in
set_option maxHeartbeats 4000000 in
theorem specCacheLookup_c {w : World} {cs : List Value} {x : LContentStore} (hx : RContentStore.rd w cs x) {cn : List Value} {n : LName} (hn : RName.rd w cn n) {t : Int} :
    Calls Try.prog 37 #[.agg cs.toArray, .agg cn.toArray, .int .i64 t] w fun e w' => ∃ ds, e = .returned (.tuple #[.agg ds.toArray, .bool (lkOk n t x.2)]) ∧ RData.own w' ds (lkD n t x.2) (Btw w.heap.size w'.heap.size) ∧ Below w.heap.size w w' := by
  have HN := Lib.hid hn
  obtain ⟨sv, rfl, s_r, s_0⟩ := RContentStore_raw hx.1
  have HL0 := Lib.hid (show (Rep.slice 141 RCacheEntry).rd w [sv] x.2 from ⟨s_0, hx.2.2⟩)
  obtain ⟨c, l⟩ := x
  have HL : Hid ((Rep.slice 141 RCacheEntry).rd w [sv] l) := HL0
  clear HL0
  obtain ⟨nv, rfl, n_0⟩ := RName_raw hn.1
  obtain ⟨an, capn, hvn, ln⟩ := Rep.len_raw n_0; obtain rfl : nv = _ := by simpa using hvn
  obtain ⟨aa, capa, hva, la⟩ := Rep.len_raw s_0; obtain rfl : sv = _ := by simpa using hva
  clear hva hvn hn hx n_0 s_r s_0
  show Calls Try.prog 37 _ w fun e w' => ∃ ds, e = .returned (.tuple #[.agg ds.toArray, .bool (lkOk n t l)]) ∧ RData.own w' ds (lkD n t l) (Btw w.heap.size w'.heap.size) ∧ Below w.heap.size w w'
  go_enter Try.func37, Try.ntmps37
  go_wp2
  generalize hwB : World.alloc (World.alloc (World.alloc w _) _) _ = wB
  have EB : Below w.heap.size w wB := by rw [← hwB]; exact (by repeat (first | (with_reducible exact Below.refl _ _) | refine Below.alloc ?_ (by simp; try omega) _ | refine Below.drew ?_ | refine Below.setCell ?_ (by simp; try omega) _))
  have hsz : wB.heap.size = w.heap.size + 3 := by rw [← hwB]; simp
  have K1 : wB.cell? ⟨w.heap.size, 1, none⟩ = some (.slice aa l.length capa) := by rw [← hwB]; simp [go_sem]
  have K2 : wB.cell? ⟨w.heap.size + 1, 0, none⟩ = some (.slice an n.length capn) := by rw [← hwB]; simp [go_sem]
  have XR : Hid (wB.heap[w.heap.size + 2]? = some (.cells #[.slice none 0 0, .slice none 0 0, .slice none 0 0, .int .i64 0, .int .i64 0] 40 (0, 0))) := Lib.hid (by rw [← hwB]; exact heap_new_at (by simp))
  clear hwB
  replace HL := Lib.hid (Rep.rd.below HL.out EB)
  go_loopw [8] (fun i wr => ∃ k : Nat, k ≤ l.length ∧ i = .int .i64 k ∧ Hid (∀ j, (h : j < k) → (h2 : j < l.length) → hitC n t l[j] = false) ∧ Below wB.heap.size wB wr) (fun i _ => l.length - (intOf i).toNat)
  case atStart => exact ⟨0, Nat.zero_le _, rfl, Lib.hid (fun _ h => by omega), Below.refl _ _⟩
  case round =>
    obtain ⟨k, hk, rfl, HW, hbel⟩ := hrel
    replace K1 := cell_later hbel K1
    replace K2 := cell_later hbel K2
    replace XR := Lib.hid (keepBox XR.out hbel)
    by_cases hlt : k < l.length
    · have hbd := (Rep.raw_bdd HL.out hlt).1
      have hk0 := Int.natCast_nonneg k
      have hk2 := Int.ofNat_lt.2 hlt
      obtain ⟨qb, qo, rfl, qc0, qc1, qc2, qc3, qc4, qc5, qr, Aq0, Aq1, Aq2, Aq3, Aq4, Aq5⟩ := Rep.get6 (HL.out.1.below hbel) (i := k) (by omega) rfl
      have hhit := fun q => lk_yes hlt (idxOf_hit (p := hitC n t) hlt q HW.out)
      have hmis := fun q => no_succ (p := hitC n t) hlt q HW.out
      generalize l[k] = x at *
      have HD := Lib.hid hhit; have HX := Lib.hid hmis; clear hhit hmis
      obtain ⟨qv0, qv1, qv2, qhe, q_0, q_1, q_2, q_3, q_4, q_5, q_6, q_7, q_8⟩ := RCacheEntry_raw qr
      simp only [List.cons.injEq, and_true] at qhe
      obtain ⟨rfl, rfl, rfl, rfl, rfl, rfl⟩ := qhe
      obtain ⟨qa0, qp0, qh0, ql0⟩ := Rep.len_raw q_2; obtain rfl : qc0 = _ := by simpa using qh0
      clear qh0
      obtain ⟨qa1, qp1, qh1, ql1⟩ := Rep.len_raw q_3; obtain rfl : qc1 = _ := by simpa using qh1
      clear qh1
      obtain ⟨qa2, qp2, qh2, ql2⟩ := Rep.len_raw q_5; obtain rfl : qc2 = _ := by simpa using qh2
      clear qh2
      have HR := Lib.hid (show RData.rd wr _ x.1 from ⟨q_0, hbd⟩)
      clear hbd
      go_upto_region 4 with fail
      refine wp_region_soft (fun W => Below wr.heap.size wr W) [true, true, true, true, true, true, true, true, false, true, true, true, true, true, true, true, true, false, true] (by kernel_rfl) (by kernel_rfl) (fun c a d v w h => by cases d <;> exact h) ((Below.refl _ _).drew) ?_
      intro wS HS
      all_goals first | (refine soft_pass rfl HS ?_) | (refine soft_read (v := ?_) rfl (fun W hW => ?_) ?_; rotate_left; (· go_simp; try with_reducible rfl))
      all_goals try simp only [Act.put, List.setIfInBounds_toArray, List.set_cons_zero, List.set_cons_succ]
      all_goals first | (refine soft_pass rfl HS ?_) | (refine soft_read (v := ?_) rfl (fun W hW => ?_) ?_; rotate_left; (· have A_K1 := cell_later hW K1; have A_K2 := cell_later hW K2; have A_Aq0 := cell_later hW Aq0; have A_Aq1 := cell_later hW Aq1; have A_Aq2 := cell_later hW Aq2; have A_Aq3 := cell_later hW Aq3; have A_Aq4 := cell_later hW Aq4; have A_Aq5 := cell_later hW Aq5; clear hW; go_simp; try with_reducible rfl))
      all_goals try simp only [Act.put, List.setIfInBounds_toArray, List.set_cons_zero, List.set_cons_succ]
      all_goals first | (refine soft_pass rfl HS ?_) | (refine soft_read (v := ?_) rfl (fun W hW => ?_) ?_; rotate_left; (· go_simp; try with_reducible rfl))
      all_goals try simp only [Act.put, List.setIfInBounds_toArray, List.set_cons_zero, List.set_cons_succ]
      all_goals first | (refine soft_pass rfl HS ?_) | (refine soft_read (v := ?_) rfl (fun W hW => ?_) ?_; rotate_left; (· go_simp; try with_reducible rfl))
      all_goals try simp only [Act.put, List.setIfInBounds_toArray, List.set_cons_zero, List.set_cons_succ]
      all_goals first | (refine soft_pass rfl HS ?_) | (refine soft_read (v := ?_) rfl (fun W hW => ?_) ?_; rotate_left; (· go_simp; try with_reducible rfl))
      all_goals try simp only [Act.put, List.setIfInBounds_toArray, List.set_cons_zero, List.set_cons_succ]
      all_goals first | (refine soft_pass rfl HS ?_) | (refine soft_read (v := ?_) rfl (fun W hW => ?_) ?_; rotate_left; (· go_simp; try with_reducible rfl))
      all_goals try simp only [Act.put, List.setIfInBounds_toArray, List.set_cons_zero, List.set_cons_succ]
      all_goals first | (refine soft_pass rfl HS ?_) | (refine soft_read (v := ?_) rfl (fun W hW => ?_) ?_; rotate_left; (· have A_K1 := cell_later hW K1; have A_K2 := cell_later hW K2; have A_Aq0 := cell_later hW Aq0; have A_Aq1 := cell_later hW Aq1; have A_Aq2 := cell_later hW Aq2; have A_Aq3 := cell_later hW Aq3; have A_Aq4 := cell_later hW Aq4; have A_Aq5 := cell_later hW Aq5; clear hW; go_simp; try with_reducible rfl))
      all_goals try simp only [Act.put, List.setIfInBounds_toArray, List.set_cons_zero, List.set_cons_succ]
      all_goals first | (refine soft_pass rfl HS ?_) | (refine soft_read (v := ?_) rfl (fun W hW => ?_) ?_; rotate_left; (· have A_K1 := cell_later hW K1; have A_K2 := cell_later hW K2; have A_Aq0 := cell_later hW Aq0; have A_Aq1 := cell_later hW Aq1; have A_Aq2 := cell_later hW Aq2; have A_Aq3 := cell_later hW Aq3; have A_Aq4 := cell_later hW Aq4; have A_Aq5 := cell_later hW Aq5; clear hW; go_simp; try with_reducible rfl))
      all_goals try simp only [Act.put, List.setIfInBounds_toArray, List.set_cons_zero, List.set_cons_succ]
      all_goals first | (refine soft_pass rfl HS ?_) | (refine soft_do rfl (fun K hK => ?_); go_simp; refine (specEqualNames_c (Rep.raw.below q_1 HS) (HN.out.1.below (EB.trans ((hbel.trans (HS.mono hbel.size)).mono EB.size)))).mono ?_; rintro e wS1 ⟨rfl, hbS⟩; replace HS := HS.trans (hbS.mono HS.size); refine hK _ _ HS ?_; clear hK K hbS)
      all_goals try simp only [Act.put, List.setIfInBounds_toArray, List.set_cons_zero, List.set_cons_succ]
      all_goals first | (refine soft_pass rfl HS ?_; have hg9 := True.intro) | (refine soft_part (v := ?_) (b := ?_) rfl (fun W hW => ?_) ?_ (fun b hg9 => ?_); rotate_left; rotate_left; (· go_simp; try with_reducible rfl); (· with_reducible rfl); cases b; all_goals first | (exact Bool.noConfusion hg9) | (simp only [Bool.not_eq_true', Bool.not_eq_false'] at hg9) | skip)
      all_goals try simp only [Act.put, List.setIfInBounds_toArray, List.set_cons_zero, List.set_cons_succ]
      all_goals first | (refine soft_pass rfl HS ?_) | (refine soft_read (v := ?_) rfl (fun W hW => ?_) ?_; rotate_left; (· go_simp; try with_reducible rfl))
      all_goals try simp only [Act.put, List.setIfInBounds_toArray, List.set_cons_zero, List.set_cons_succ]
      all_goals first | (refine soft_pass rfl HS ?_) | (refine soft_read (v := ?_) rfl (fun W hW => ?_) ?_; rotate_left; (· have A_K1 := cell_later hW K1; have A_K2 := cell_later hW K2; have A_Aq0 := cell_later hW Aq0; have A_Aq1 := cell_later hW Aq1; have A_Aq2 := cell_later hW Aq2; have A_Aq3 := cell_later hW Aq3; have A_Aq4 := cell_later hW Aq4; have A_Aq5 := cell_later hW Aq5; clear hW; go_simp; try with_reducible rfl))
      all_goals try simp only [Act.put, List.setIfInBounds_toArray, List.set_cons_zero, List.set_cons_succ]
      all_goals first | (refine soft_pass rfl HS ?_) | (refine soft_read (v := ?_) rfl (fun W hW => ?_) ?_; rotate_left; (· go_simp; try with_reducible rfl))
      all_goals try simp only [Act.put, List.setIfInBounds_toArray, List.set_cons_zero, List.set_cons_succ]
      all_goals first | (refine soft_pass rfl HS ?_) | (refine soft_read (v := ?_) rfl (fun W hW => ?_) ?_; rotate_left; (· go_simp; try with_reducible rfl))
      all_goals try simp only [Act.put, List.setIfInBounds_toArray, List.set_cons_zero, List.set_cons_succ]
      all_goals first | (refine soft_pass rfl HS ?_) | (refine soft_read (v := ?_) rfl (fun W hW => ?_) ?_; rotate_left; (· go_simp; try with_reducible rfl))
      all_goals try simp only [Act.put, List.setIfInBounds_toArray, List.set_cons_zero, List.set_cons_succ]
      all_goals first | (refine soft_pass rfl HS ?_) | (refine soft_read (v := ?_) rfl (fun W hW => ?_) ?_; rotate_left; (· have A_K1 := cell_later hW K1; have A_K2 := cell_later hW K2; have A_Aq0 := cell_later hW Aq0; have A_Aq1 := cell_later hW Aq1; have A_Aq2 := cell_later hW Aq2; have A_Aq3 := cell_later hW Aq3; have A_Aq4 := cell_later hW Aq4; have A_Aq5 := cell_later hW Aq5; clear hW; go_simp; try with_reducible rfl))
      all_goals try simp only [Act.put, List.setIfInBounds_toArray, List.set_cons_zero, List.set_cons_succ]
      all_goals first | (refine soft_pass rfl HS ?_) | (refine soft_read (v := ?_) rfl (fun W hW => ?_) ?_; rotate_left; (· go_simp; try with_reducible rfl))
      all_goals try simp only [Act.put, List.setIfInBounds_toArray, List.set_cons_zero, List.set_cons_succ]
      all_goals first | (refine soft_pass rfl HS ?_) | (refine soft_do rfl (fun K hK => ?_); go_simp; refine (specFreshAt_c (Rep.raw.below q_0 HS)).mono ?_; rintro e wS1 ⟨rfl, hbS⟩; replace HS := HS.trans (hbS.mono HS.size); refine hK _ _ HS ?_; clear hK K hbS)
      all_goals try simp only [Act.put, List.setIfInBounds_toArray, List.set_cons_zero, List.set_cons_succ]
      all_goals first | (refine soft_pass rfl HS ?_; have hg18 := True.intro) | (refine soft_part (v := ?_) (b := ?_) rfl (fun W hW => ?_) ?_ (fun b hg18 => ?_); rotate_left; rotate_left; (· go_simp; try with_reducible rfl); (· with_reducible rfl); cases b; all_goals first | (exact Bool.noConfusion hg18) | (simp only [Bool.not_eq_true', Bool.not_eq_false'] at hg18) | skip)
      all_goals try simp only [Act.put, List.setIfInBounds_toArray, List.set_cons_zero, List.set_cons_succ]
      all_goals refine soft_nil ?_
      all_goals have EG := EB.trans ((hbel.trans (HS.mono hbel.size)).mono EB.size)
      all_goals have hlw : w.heap.size + 3 ≤ wr.heap.size := by have := hbel.size; omega
      all_goals cases hv : hitC n t x
      all_goals first
        | (exfalso; simp only [hitC, Bool.not_true, Bool.not_false, Bool.and_true, Bool.true_and, Bool.and_false, Bool.false_and, Bool.or_true, Bool.true_or, Bool.or_false, Bool.false_or, Bool.not_not, hg9, hg18] at hv; exact Bool.noConfusion hv)
        | have HT := Lib.hid (HD.out hv)
        | have HT := Lib.hid (HX.out hv)
      all_goals clear HD HX hv
      all_goals first
        | (go_wp2; go_roundw; (case rel => exact ⟨k + 1, by omega, by go_num, HT, (hbel.trans (HS.mono hbel.size))⟩); (case measure => simp [intOf]; omega); done)
        | skip
      replace Aq0 := cell_later HS Aq0
      replace Aq1 := cell_later HS Aq1
      replace Aq2 := cell_later HS Aq2
      replace Aq3 := cell_later HS Aq3
      replace Aq4 := cell_later HS Aq4
      replace Aq5 := cell_later HS Aq5
      replace K1 := cell_later HS K1
      have RX := HR.out.below HS
      have hS2 := Below.size HS
      have XR2 := Lib.hid (keepBox (keepBox XR.out HS) (Below.refl _ _))
      clear HS XR HR
      go_wp2_with fail
      refine (specl8Copy_c (RX.below (by repeat (first | (with_reducible exact Below.refl _ _) | refine Below.alloc ?_ (by simp; try omega) _ | refine Below.drew ?_ | refine Below.setCell ?_ (by simp; try omega) _)))).mono ?_
      rintro e w2 ⟨cd, rfl, O2, hb2⟩
      obtain ⟨v0, v1, v2, rfl, d_0, d_1, d_2, d_3, d_4, d_5, d_6⟩ := RData_raw O2.raw
      obtain ⟨a0, p0, h0, _⟩ := Rep.len_raw d_1; obtain rfl : v0 = _ := by simpa using h0
      obtain ⟨a1, p1, h1, _⟩ := Rep.len_raw d_2; obtain rfl : v1 = _ := by simpa using h1
      obtain ⟨a2, p2, h2, _⟩ := Rep.len_raw d_4; obtain rfl : v2 = _ := by simpa using h2
      clear h0 h1 h2 d_0 d_1 d_2 d_3 d_4 d_5 d_6
      have EF : Below w.heap.size w w2 := EG.trans (Below.mono (Below.trans (by repeat (first | (with_reducible exact Below.refl _ _) | refine Below.alloc ?_ (by simp; try omega) _ | refine Below.drew ?_ | refine Below.setCell ?_ (by simp; try omega) _)) hb2) EG.size)
      have HO := Lib.hid O2
      have hgz := EG.size
      have X1 := keepBox XR2.out (Below.trans (by repeat (first | (with_reducible exact Below.refl _ _) | refine Below.alloc ?_ (by simp; try omega) _ | refine Below.drew ?_ | refine Below.setCell ?_ (by simp; try omega) _)) hb2)
      clear O2 hb2 RX XR2 EG
      have R0 := boxCell (b := w.heap.size + 2) X1 (j := 0) rfl
      have F0 := frozen_of_row w2 (w.heap.size + 2) 0 _ _ X1
      have R1 := boxCell (b := w.heap.size + 2) X1 (j := 1) rfl
      have F1 := frozen_of_row w2 (w.heap.size + 2) 1 _ _ X1
      have R2 := boxCell (b := w.heap.size + 2) X1 (j := 2) rfl
      have F2 := frozen_of_row w2 (w.heap.size + 2) 2 _ _ X1
      have R3 := boxCell (b := w.heap.size + 2) X1 (j := 3) rfl
      have F3 := frozen_of_row w2 (w.heap.size + 2) 3 _ _ X1
      have R4 := boxCell (b := w.heap.size + 2) X1 (j := 4) rfl
      have F4 := frozen_of_row w2 (w.heap.size + 2) 4 _ _ X1
      go_wp2
      refine bodyPost_ret (v := .tuple #[.agg #[.slice a0 x.1.1.length p0, .slice a1 x.1.2.1.length p1, .slice a2 x.1.2.2.1.length p2, .int .i64 x.1.2.2.2.1, .int .i64 x.1.2.2.2.2], .bool true]) (by simp [results, Try.results37, go_sem, R0, F0, R1, F1, R2, F2, R3, F3, R4, F4]) rfl ⟨[_, _, _, _, _], by rw [HT.out.1], ?_, ?_⟩
      · rw [HT.out.2]
        exact (Rep.own.out HO.out (fun j h1 h2 => by simp (discharger := (simp; omega)) only [heap_setCell_other])).wide (fun j hj => ⟨by have := hj.1; omega, by simpa [World.setCell] using hj.2⟩)
      · repeat (first | (with_reducible exact EF) | refine Below.setCell ?_ (by first | omega | (simp; try omega)) _)
    · have HT := Lib.hid (lk_no (idxOf_miss (p := hitC n t) hlt HW.out))
      have EG := EB.trans (hbel.mono EB.size)
      have X1 := XR.out
      have hkn : ¬ (k : Int) < l.length := by omega
      have R0 := boxCell (b := w.heap.size + 2) X1 (j := 0) rfl
      have F0 := frozen_of_row wr (w.heap.size + 2) 0 _ _ X1
      have R1 := boxCell (b := w.heap.size + 2) X1 (j := 1) rfl
      have F1 := frozen_of_row wr (w.heap.size + 2) 1 _ _ X1
      have R2 := boxCell (b := w.heap.size + 2) X1 (j := 2) rfl
      have F2 := frozen_of_row wr (w.heap.size + 2) 2 _ _ X1
      have R3 := boxCell (b := w.heap.size + 2) X1 (j := 3) rfl
      have F3 := frozen_of_row wr (w.heap.size + 2) 3 _ _ X1
      have R4 := boxCell (b := w.heap.size + 2) X1 (j := 4) rfl
      have F4 := frozen_of_row wr (w.heap.size + 2) 4 _ _ X1
      go_wp2
      refine bodyPost_ret (v := .tuple #[.agg #[.slice none 0 0, .slice none 0 0, .slice none 0 0, .int .i64 0, .int .i64 0], .bool false]) (by simp [results, Try.results37, go_sem, R0, F0, R1, F1, R2, F2, R3, F3, R4, F4]) rfl ⟨[_, _, _, _, _], by rw [HT.out.1], ?_, ?_⟩
      · rw [HT.out.2]; exact voidD_own
      · repeat (first | (with_reducible exact EG) | refine Below.setCell ?_ (by first | omega | (simp; try omega)) _)
set_option maxRecDepth 100000 in
set_option maxHeartbeats 4000000 in
theorem implCacheLookup_c {w : World} {cs : List Value} {x : LContentStore} (hx : RContentStore.rd w cs x) {cn : List Value} {n : LName} (hn : RName.rd w cn n) {t : Int} :
    Calls Try.prog 46 #[.agg cs.toArray, .agg cn.toArray, .int .i64 t] w fun e w' => ∃ ds, e = .returned (.tuple #[.agg ds.toArray, .bool (lkOk n t x.2)]) ∧ RData.own w' ds (lkD n t x.2) (Btw w.heap.size w'.heap.size) ∧ Below w.heap.size w w' := by
  have HN := Lib.hid hn
  obtain ⟨sv, rfl, s_r, s_0⟩ := RContentStore_raw hx.1
  have HL0 := Lib.hid (show (Rep.slice 141 RCacheEntry).rd w [sv] x.2 from ⟨s_0, hx.2.2⟩)
  obtain ⟨c, l⟩ := x
  have HL : Hid ((Rep.slice 141 RCacheEntry).rd w [sv] l) := HL0
  clear HL0
  obtain ⟨nv, rfl, n_0⟩ := RName_raw hn.1
  obtain ⟨an, capn, hvn, ln⟩ := Rep.len_raw n_0; obtain rfl : nv = _ := by simpa using hvn
  obtain ⟨aa, capa, hva, la⟩ := Rep.len_raw s_0; obtain rfl : sv = _ := by simpa using hva
  clear hva hvn hn hx n_0 s_r s_0
  show Calls Try.prog 46 _ w fun e w' => ∃ ds, e = .returned (.tuple #[.agg ds.toArray, .bool (lkOk n t l)]) ∧ RData.own w' ds (lkD n t l) (Btw w.heap.size w'.heap.size) ∧ Below w.heap.size w w'
  go_enter Try.func46, Try.ntmps46
  go_wp2
  generalize hwB : World.alloc (World.alloc (World.alloc w _) _) _ = wB
  have EB : Below w.heap.size w wB := by rw [← hwB]; exact (by repeat (first | (with_reducible exact Below.refl _ _) | refine Below.alloc ?_ (by simp; try omega) _ | refine Below.drew ?_ | refine Below.setCell ?_ (by simp; try omega) _))
  have hsz : wB.heap.size = w.heap.size + 3 := by rw [← hwB]; simp
  have K1 : wB.cell? ⟨w.heap.size, 1, none⟩ = some (.slice aa l.length capa) := by rw [← hwB]; simp [go_sem]
  have K2 : wB.cell? ⟨w.heap.size + 1, 0, none⟩ = some (.slice an n.length capn) := by rw [← hwB]; simp [go_sem]
  have XR : Hid (wB.heap[w.heap.size + 2]? = some (.cells #[.slice none 0 0, .slice none 0 0, .slice none 0 0, .int .i64 0, .int .i64 0] 40 (0, 0))) := Lib.hid (by rw [← hwB]; exact heap_new_at (by simp))
  clear hwB
  replace HL := Lib.hid (Rep.rd.below HL.out EB)
  go_loopw [13] (fun i wr => ∃ k : Nat, k ≤ l.length ∧ i = .int .i64 k ∧ Hid (∀ j, (h : j < k) → (h2 : j < l.length) → hitC n t l[j] = false) ∧ Below wB.heap.size wB wr) (fun i _ => l.length - (intOf i).toNat)
  case atStart => exact ⟨0, Nat.zero_le _, rfl, Lib.hid (fun _ h => by omega), Below.refl _ _⟩
  case round =>
    obtain ⟨k, hk, rfl, HW, hbel⟩ := hrel
    replace K1 := cell_later hbel K1
    replace K2 := cell_later hbel K2
    replace XR := Lib.hid (keepBox XR.out hbel)
    by_cases hlt : k < l.length
    · have hbd := (Rep.raw_bdd HL.out hlt).1
      have hk0 := Int.natCast_nonneg k
      have hk2 := Int.ofNat_lt.2 hlt
      obtain ⟨qb, qo, rfl, qc0, qc1, qc2, qc3, qc4, qc5, qr, Aq0, Aq1, Aq2, Aq3, Aq4, Aq5⟩ := Rep.get6 (HL.out.1.below hbel) (i := k) (by omega) rfl
      have hhit := fun q => lk_yes hlt (idxOf_hit (p := hitC n t) hlt q HW.out)
      have hmis := fun q => no_succ (p := hitC n t) hlt q HW.out
      generalize l[k] = x at *
      have HD := Lib.hid hhit; have HX := Lib.hid hmis; clear hhit hmis
      obtain ⟨qv0, qv1, qv2, qhe, q_0, q_1, q_2, q_3, q_4, q_5, q_6, q_7, q_8⟩ := RCacheEntry_raw qr
      simp only [List.cons.injEq, and_true] at qhe
      obtain ⟨rfl, rfl, rfl, rfl, rfl, rfl⟩ := qhe
      obtain ⟨qa0, qp0, qh0, ql0⟩ := Rep.len_raw q_2; obtain rfl : qc0 = _ := by simpa using qh0
      clear qh0
      obtain ⟨qa1, qp1, qh1, ql1⟩ := Rep.len_raw q_3; obtain rfl : qc1 = _ := by simpa using qh1
      clear qh1
      obtain ⟨qa2, qp2, qh2, ql2⟩ := Rep.len_raw q_5; obtain rfl : qc2 = _ := by simpa using qh2
      clear qh2
      have HR := Lib.hid (show RData.rd wr _ x.1 from ⟨q_0, hbd⟩)
      clear hbd
      go_upto_region 4 with fail
      generalize hwC : World.alloc wr _ = wC
      have EC : Below wr.heap.size wr wC := by rw [← hwC]; exact (Below.refl _ _).alloc (Nat.le_refl _) _
      have M0 : wC.cell? ⟨wr.heap.size, 0, none⟩ = some (.slice qa0 x.1.1.length qp0) := by rw [← hwC]; simp [go_sem]
      have M1 : wC.cell? ⟨wr.heap.size, 1, none⟩ = some (.slice qa1 x.1.2.1.length qp1) := by rw [← hwC]; simp [go_sem]
      have M2 : wC.cell? ⟨wr.heap.size, 2, none⟩ = some (.slice qa2 x.1.2.2.1.length qp2) := by rw [← hwC]; simp [go_sem]
      have M3 : wC.cell? ⟨wr.heap.size, 3, none⟩ = some (.int .i64 x.1.2.2.2.1) := by rw [← hwC]; simp [go_sem]
      have M4 : wC.cell? ⟨wr.heap.size, 4, none⟩ = some (.int .i64 x.1.2.2.2.2) := by rw [← hwC]; simp [go_sem]
      have M5 : wC.cell? ⟨wr.heap.size, 5, none⟩ = some (.int .i64 x.2) := by rw [← hwC]; simp [go_sem]
      replace K2 := cell_later EC K2
      clear hwC
      refine wp_region_soft_plain (fun W => Below wC.heap.size wC W) [true, true, true, true, false, true, true, true, true, false, true] (Below.refl _ _) ?_
      intro wS HS
      all_goals first | (refine soft_pass rfl HS ?_) | (refine soft_read (v := ?_) rfl (fun W hW => ?_) ?_; rotate_left; (· go_simp; try with_reducible rfl))
      all_goals try simp only [Act.put, List.setIfInBounds_toArray, List.set_cons_zero, List.set_cons_succ]
      all_goals first | (refine soft_pass rfl HS ?_) | (refine soft_read (v := ?_) rfl (fun W hW => ?_) ?_; rotate_left; (· go_simp; try with_reducible rfl))
      all_goals try simp only [Act.put, List.setIfInBounds_toArray, List.set_cons_zero, List.set_cons_succ]
      all_goals first | (refine soft_pass rfl HS ?_) | (refine soft_read (v := ?_) rfl (fun W hW => ?_) ?_; rotate_left; (· have A_K2 := cell_later hW K2; have A_M0 := cell_later hW M0; have A_M1 := cell_later hW M1; have A_M2 := cell_later hW M2; have A_M3 := cell_later hW M3; have A_M4 := cell_later hW M4; have A_M5 := cell_later hW M5; clear hW; go_simp; try with_reducible rfl))
      all_goals try simp only [Act.put, List.setIfInBounds_toArray, List.set_cons_zero, List.set_cons_succ]
      all_goals first | (refine soft_pass rfl HS ?_) | (refine soft_read (v := ?_) rfl (fun W hW => ?_) ?_; rotate_left; (· have A_K2 := cell_later hW K2; have A_M0 := cell_later hW M0; have A_M1 := cell_later hW M1; have A_M2 := cell_later hW M2; have A_M3 := cell_later hW M3; have A_M4 := cell_later hW M4; have A_M5 := cell_later hW M5; clear hW; go_simp; try with_reducible rfl))
      all_goals try simp only [Act.put, List.setIfInBounds_toArray, List.set_cons_zero, List.set_cons_succ]
      all_goals first | (refine soft_pass rfl HS ?_) | (refine soft_do rfl (fun K hK => ?_); go_simp; refine (implEqualNames_c (Rep.raw.below q_1 (EC.trans (HS.mono EC.size))) (HN.out.1.below (EB.trans ((hbel.trans ((EC.trans (HS.mono EC.size)).mono hbel.size)).mono EB.size)))).mono ?_; rintro e wS1 ⟨rfl, hbS⟩; replace HS := HS.trans (hbS.mono HS.size); refine hK _ _ HS ?_; clear hK K hbS)
      all_goals try simp only [Act.put, List.setIfInBounds_toArray, List.set_cons_zero, List.set_cons_succ]
      all_goals first | (refine soft_pass rfl HS ?_; have hg5 := True.intro) | (refine soft_part (v := ?_) (b := ?_) rfl (fun W hW => ?_) ?_ (fun b hg5 => ?_); rotate_left; rotate_left; (· go_simp; try with_reducible rfl); (· with_reducible rfl); cases b; all_goals first | (exact Bool.noConfusion hg5) | (simp only [Bool.not_eq_true', Bool.not_eq_false'] at hg5) | skip)
      all_goals try simp only [Act.put, List.setIfInBounds_toArray, List.set_cons_zero, List.set_cons_succ]
      all_goals first | (refine soft_pass rfl HS ?_) | (refine soft_read (v := ?_) rfl (fun W hW => ?_) ?_; rotate_left; (· go_simp; try with_reducible rfl))
      all_goals try simp only [Act.put, List.setIfInBounds_toArray, List.set_cons_zero, List.set_cons_succ]
      all_goals first | (refine soft_pass rfl HS ?_) | (refine soft_read (v := ?_) rfl (fun W hW => ?_) ?_; rotate_left; (· have A_K2 := cell_later hW K2; have A_M0 := cell_later hW M0; have A_M1 := cell_later hW M1; have A_M2 := cell_later hW M2; have A_M3 := cell_later hW M3; have A_M4 := cell_later hW M4; have A_M5 := cell_later hW M5; clear hW; go_simp; try with_reducible rfl))
      all_goals try simp only [Act.put, List.setIfInBounds_toArray, List.set_cons_zero, List.set_cons_succ]
      all_goals first | (refine soft_pass rfl HS ?_) | (refine soft_read (v := ?_) rfl (fun W hW => ?_) ?_; rotate_left; (· go_simp; try with_reducible rfl))
      all_goals try simp only [Act.put, List.setIfInBounds_toArray, List.set_cons_zero, List.set_cons_succ]
      all_goals first | (refine soft_pass rfl HS ?_) | (refine soft_do rfl (fun K hK => ?_); go_simp; refine (implFreshAt_c (Rep.raw.below q_0 (EC.trans (HS.mono EC.size)))).mono ?_; rintro e wS1 ⟨rfl, hbS⟩; replace HS := HS.trans (hbS.mono HS.size); refine hK _ _ HS ?_; clear hK K hbS)
      all_goals try simp only [Act.put, List.setIfInBounds_toArray, List.set_cons_zero, List.set_cons_succ]
      all_goals first | (refine soft_pass rfl HS ?_; have hg10 := True.intro) | (refine soft_part (v := ?_) (b := ?_) rfl (fun W hW => ?_) ?_ (fun b hg10 => ?_); rotate_left; rotate_left; (· go_simp; try with_reducible rfl); (· with_reducible rfl); cases b; all_goals first | (exact Bool.noConfusion hg10) | (simp only [Bool.not_eq_true', Bool.not_eq_false'] at hg10) | skip)
      all_goals try simp only [Act.put, List.setIfInBounds_toArray, List.set_cons_zero, List.set_cons_succ]
      all_goals refine soft_nil ?_
      all_goals have EG := EB.trans ((hbel.trans ((EC.trans (HS.mono EC.size)).mono hbel.size)).mono EB.size)
      all_goals have hlw : w.heap.size + 3 ≤ wr.heap.size := by have := hbel.size; omega
      all_goals cases hv : hitC n t x
      all_goals first
        | (exfalso; simp only [hitC, Bool.not_true, Bool.not_false, Bool.and_true, Bool.true_and, Bool.and_false, Bool.false_and, Bool.or_true, Bool.true_or, Bool.or_false, Bool.false_or, Bool.not_not, hg5, hg10] at hv; exact Bool.noConfusion hv)
        | have HT := Lib.hid (HD.out hv)
        | have HT := Lib.hid (HX.out hv)
      all_goals clear HD HX hv
      all_goals first
        | (go_wp2; go_roundw; (case rel => exact ⟨k + 1, by omega, by go_num, HT, (hbel.trans ((EC.trans (HS.mono EC.size)).mono hbel.size))⟩); (case measure => simp [intOf]; omega); done)
        | skip
      replace M0 := cell_later HS M0
      replace M1 := cell_later HS M1
      replace M2 := cell_later HS M2
      replace M3 := cell_later HS M3
      replace M4 := cell_later HS M4
      replace M5 := cell_later HS M5
      have RX := HR.out.below (EC.trans (HS.mono EC.size))
      have hS2 := Below.size (EC.trans (HS.mono EC.size))
      have XR2 := Lib.hid (keepBox (keepBox XR.out (EC.trans (HS.mono EC.size))) (Below.refl _ _))
      clear HS XR HR
      go_wp2_with fail
      refine (implcopyData_c (RX.below (by repeat (first | (with_reducible exact Below.refl _ _) | refine Below.alloc ?_ (by simp; try omega) _ | refine Below.drew ?_ | refine Below.setCell ?_ (by simp; try omega) _)))).mono ?_
      rintro e w2 ⟨cd, rfl, O2, hb2⟩
      obtain ⟨v0, v1, v2, rfl, d_0, d_1, d_2, d_3, d_4, d_5, d_6⟩ := RData_raw O2.raw
      obtain ⟨a0, p0, h0, _⟩ := Rep.len_raw d_1; obtain rfl : v0 = _ := by simpa using h0
      obtain ⟨a1, p1, h1, _⟩ := Rep.len_raw d_2; obtain rfl : v1 = _ := by simpa using h1
      obtain ⟨a2, p2, h2, _⟩ := Rep.len_raw d_4; obtain rfl : v2 = _ := by simpa using h2
      clear h0 h1 h2 d_0 d_1 d_2 d_3 d_4 d_5 d_6
      have EF : Below w.heap.size w w2 := EG.trans (Below.mono (Below.trans (by repeat (first | (with_reducible exact Below.refl _ _) | refine Below.alloc ?_ (by simp; try omega) _ | refine Below.drew ?_ | refine Below.setCell ?_ (by simp; try omega) _)) hb2) EG.size)
      have HO := Lib.hid O2
      have hgz := EG.size
      have X1 := keepBox XR2.out (Below.trans (by repeat (first | (with_reducible exact Below.refl _ _) | refine Below.alloc ?_ (by simp; try omega) _ | refine Below.drew ?_ | refine Below.setCell ?_ (by simp; try omega) _)) hb2)
      clear O2 hb2 RX XR2 EG
      have R0 := boxCell (b := w.heap.size + 2) X1 (j := 0) rfl
      have F0 := frozen_of_row w2 (w.heap.size + 2) 0 _ _ X1
      have R1 := boxCell (b := w.heap.size + 2) X1 (j := 1) rfl
      have F1 := frozen_of_row w2 (w.heap.size + 2) 1 _ _ X1
      have R2 := boxCell (b := w.heap.size + 2) X1 (j := 2) rfl
      have F2 := frozen_of_row w2 (w.heap.size + 2) 2 _ _ X1
      have R3 := boxCell (b := w.heap.size + 2) X1 (j := 3) rfl
      have F3 := frozen_of_row w2 (w.heap.size + 2) 3 _ _ X1
      have R4 := boxCell (b := w.heap.size + 2) X1 (j := 4) rfl
      have F4 := frozen_of_row w2 (w.heap.size + 2) 4 _ _ X1
      go_wp2
      refine bodyPost_ret (v := .tuple #[.agg #[.slice a0 x.1.1.length p0, .slice a1 x.1.2.1.length p1, .slice a2 x.1.2.2.1.length p2, .int .i64 x.1.2.2.2.1, .int .i64 x.1.2.2.2.2], .bool true]) (by simp [results, Try.results46, go_sem, R0, F0, R1, F1, R2, F2, R3, F3, R4, F4]) rfl ⟨[_, _, _, _, _], by rw [HT.out.1], ?_, ?_⟩
      · rw [HT.out.2]
        exact (Rep.own.out HO.out (fun j h1 h2 => by simp (discharger := (simp; omega)) only [heap_setCell_other])).wide (fun j hj => ⟨by have := hj.1; omega, by simpa [World.setCell] using hj.2⟩)
      · repeat (first | (with_reducible exact EF) | refine Below.setCell ?_ (by first | omega | (simp; try omega)) _)
    · have HT := Lib.hid (lk_no (idxOf_miss (p := hitC n t) hlt HW.out))
      have EG := EB.trans (hbel.mono EB.size)
      have X1 := XR.out
      have hkn : ¬ (k : Int) < l.length := by omega
      have R0 := boxCell (b := w.heap.size + 2) X1 (j := 0) rfl
      have F0 := frozen_of_row wr (w.heap.size + 2) 0 _ _ X1
      have R1 := boxCell (b := w.heap.size + 2) X1 (j := 1) rfl
      have F1 := frozen_of_row wr (w.heap.size + 2) 1 _ _ X1
      have R2 := boxCell (b := w.heap.size + 2) X1 (j := 2) rfl
      have F2 := frozen_of_row wr (w.heap.size + 2) 2 _ _ X1
      have R3 := boxCell (b := w.heap.size + 2) X1 (j := 3) rfl
      have F3 := frozen_of_row wr (w.heap.size + 2) 3 _ _ X1
      have R4 := boxCell (b := w.heap.size + 2) X1 (j := 4) rfl
      have F4 := frozen_of_row wr (w.heap.size + 2) 4 _ _ X1
      go_wp2
      refine bodyPost_ret (v := .tuple #[.agg #[.slice none 0 0, .slice none 0 0, .slice none 0 0, .int .i64 0, .int .i64 0], .bool false]) (by simp [results, Try.results46, go_sem, R0, F0, R1, F1, R2, F2, R3, F3, R4, F4]) rfl ⟨[_, _, _, _, _], by rw [HT.out.1], ?_, ?_⟩
      · rw [HT.out.2]; exact voidD_own
      · repeat (first | (with_reducible exact EG) | refine Below.setCell ?_ (by first | omega | (simp; try omega)) _)
end Go.Proofs.Ytaphafmkidjakaa
