/-
  A requester added to the pending interests.
-/
import Derived.Test.YtdgncogfmchhmaaPut
import Derived.Test.YtdgncogfmchhmaaCopyP0
import Derived.Test.YtdgncogfmchhmaaVWant
import Derived.Test.YtdgncogfmchhmaaPart
import Derived.Test.YtdgncogfmchhmaaSoftT
import Derived.IntWalk
namespace Go.Proofs.Ytdgncogfmchhmaa
open Go.RowKit
set_option linter.unusedVariables false
set_option linter.unusedSimpArgs false
set_option linter.unnecessarySimpa false
def reqOf (x : LInterest) (f t : Int) : LRequester := (f, x.2.1, wrap64 (t + x.2.2.2))
def addQok (x : LInterest) (f : Int) (l : List LPendingInterest) : Bool := !((!okWant x || !inR f 0 6) || (decide (idxOf (isPend x.1) l < 0) && decide ((12 : Int) ≤ (l.length : Int))))
def addQ1 (x : LInterest) (f t : Int) (l : List LPendingInterest) : List LPendingInterest :=
  if idxOf (isPend x.1) l < 0 then l ++ [(x.1, [reqOf x f t], 0)]
  else l.set (idxOf (isPend x.1) l).toNat ((l.getD (idxOf (isPend x.1) l).toNat ([], [], 0)).1, putR (reqOf x f t) (l.getD (idxOf (isPend x.1) l).toNat ([], [], 0)).2.1, (l.getD (idxOf (isPend x.1) l).toNat ([], [], 0)).2.2)
def addQ (x : LInterest) (f t : Int) (l : List LPendingInterest) : List LPendingInterest := if addQok x f l then addQ1 x f t l else l
theorem addQ_no {x : LInterest} {f t : Int} {l : List LPendingInterest} (h : addQok x f l = false) : addQ x f t l = l ∧ addQok x f l = false := by unfold addQ; rw [h]; exact ⟨rfl, rfl⟩
theorem addQ_new {x : LInterest} {f t : Int} {l : List LPendingInterest} (h : addQok x f l = true) (hk : idxOf (isPend x.1) l < 0) : addQ x f t l = l ++ [(x.1, [reqOf x f t], 0)] ∧ addQok x f l = true := by unfold addQ addQ1; rw [h, if_pos hk]; exact ⟨rfl, rfl⟩
theorem addQ_set {x : LInterest} {f t : Int} {l : List LPendingInterest} {k : Nat} (h : addQok x f l = true) (hk : idxOf (isPend x.1) l = k) (hkl : k < l.length) : addQ x f t l = l.set k (l[k].1, putR (reqOf x f t) l[k].2.1, l[k].2.2) ∧ addQok x f l = true := by
  unfold addQ addQ1
  rw [h, if_pos rfl, hk, if_neg (show ¬ ((k : Int) < 0) by omega)]
  refine ⟨?_, rfl⟩
  simp only [Int.toNat_natCast, getD_get hkl]
theorem addQok_len {x : LInterest} {f : Int} {l : List LPendingInterest} (h : addQok x f l = true) (hk : idxOf (isPend x.1) l < 0) : l.length < 12 := by
  unfold addQok at h
  simp [hk] at h
  omega

theorem wp_region_tree1 {P : Program} {l : List Oper} {Q : Exit → Act → World → Prop} {a : Act} {w : World} {id : Nat} (S : World → Prop) (hm : P.follows .mixedOrders = true) (hS : S { w with drawn := w.drawn + 1 })
    (h : tree P l S Q l.length (List.replicate l.length false) a { w with drawn := w.drawn + 1 }) : (Code.region id l.toArray true).wp P Q a w := by
  unfold tree at h
  refine wp_region_held (S := S) hm ?_
  have e : (Array.replicate l.toArray.size false) = (List.replicate l.length false).toArray := by simp
  rw [e, show l.toArray.size = l.length by simp]
  exact h
theorem run_push1 {α : Type} {r : Rep α} {e : TypeId} {w : World} {v : Value} {xs : List α} {S T : Nat → Prop} {P : Program} {t ty : TypeId}
    {z : Value} {bytes : Nat} (ht : P.underlying t = some (.slice e)) (hinf : (P.info? e).map (fun i => (i.zero, i.size, i.bytes)) = some (some z, r.n, bytes)) (hzs : z.cells.size = r.n) (hn : 0 < r.n) (hby : bytes ≤ 1000)
    (hown : Rep.own0 e r w v xs S) {b : Nat} (hb : b = w.heap.size) {cs : List Value} {y : α} (hy : r.own w cs y T)
    {u : World} (hu : u = w.alloc (.cells cs.toArray e)) (hST : ∀ k, S k → T k → False) (hlen : xs.length + 1 ≤ 1000000000) :
    ∃ v' w', (Builtin.append_ #[t, t] ty #[v, .slice (some ⟨b, 0, none⟩) 1 1]).run P u = .ok v' w' ∧ Rep.own0 e r w' v' (xs ++ [y]) (fun k => S k ∨ T k ∨ (w.heap.size + 1 ≤ k ∧ k < w'.heap.size)) ∧ Touch (fun k => some k = v.ownBlock ∧ S k) u w' := by
  subst hu hb
  obtain ⟨i, hi, hz, hsize, hbytes⟩ := info_parts hinf
  have hl := r.len hy.1
  have hown' : Rep.own0 e r (w.alloc (.cells cs.toArray e)) v xs (fun k => S k ∧ k < w.heap.size) := (Rep.own0.alloc hown.live _)
  have hy' := hy.live.alloc (.cells cs.toArray e)
  have hsrc : Rep.Src (w.alloc (.cells cs.toArray e)) (.slice (some ⟨w.heap.size, 0, none⟩) 1 1) 1 cs := .inr ⟨_, 1, rfl, fun j c hj => by
    have hadd : (⟨w.heap.size, 0, none⟩ : Addr).add j = ⟨w.heap.size, j, none⟩ := by unfold Addr.add; split <;> simp_all
    rw [hadd]
    exact boxCell (heap_alloc_new w _) (by simpa using hj)⟩
  obtain ⟨v', w', h0, h1, h2⟩ := Rep.run_push (P := P) (ty := ty) ht hi hz hsize hzs hn (by omega) hown' hsrc (by rw [hl, Nat.one_mul]) (r.one hy.1) hlen
  refine ⟨v', w', h0, (h2 (ys := [y]) (T := fun k => T k ∧ k < w.heap.size) ⟨cs, [], _, fun _ => False, by simp, hy'.1, rfl, fun _ h => h, fun _ h => h.elim, fun _ _ _ h => h.elim⟩ (fun k h1 h2 => hST k h1.1 h2.1) (by simpa using hy.2)).wide ?_, ⟨h1.os, h1.tape, h1.output, h1.size, fun k hk q => h1.block k hk (fun a => q ⟨a.1, a.2.1⟩)⟩⟩
  intro k hk
  rcases hk with hk | hk | hk
  · exact .inl hk.1
  · exact .inr (.inl hk.1)
  · exact .inr (.inr ⟨by simpa using hk.1, hk.2⟩)
theorem pend_setReq {w : World} {b cap len k : Nat} {l : List LPendingInterest} {S T : Nat → Prop} {v' : Value} {xs' : List LRequester} (h : Rep.own0 57 RPendingInterest w (.slice (some ⟨b, 0, none⟩) len cap) l S) (hk : k < l.length)
    (hv : Rep.own0 53 RRequester w v' xs' T) (hlx : xs'.length ≤ Big) (hST : ∀ j, S j → T j → False) :
    Rep.own0 57 RPendingInterest (w.setCell ⟨b, k * 3 + 1, none⟩ v') (.slice (some ⟨b, 0, none⟩) len cap) (l.set k (l[k].1, xs', l[k].2.2)) (fun j => S j ∨ T j) := by
  have hbx := h.1 l[k] (List.getElem_mem hk)
  refine (Rep.own0_setPart (i := k) (j := 1) (p := k * 3 + 1) (T := T) (y := (l[k].1, xs', l[k].2.2)) h hk (by decide) ?_ ⟨hbx.1, (hv.own0h hlx).2, trivial⟩ hST rfl).1
  rintro cs D ⟨c, d, A, B, rfl, h1, ⟨c2, d2, A2, B2, rfl, h2, h3, k1, k2, k3⟩, k4, k5, k6⟩ hD
  have hc1 : c.length = 1 := RName.len h1
  obtain ⟨cn, rfl⟩ := List.length_eq_one_iff.1 hc1
  have hc2 : c2.length = 1 := (Rep.slice 53 RRequester).len h2
  obtain ⟨cq, rfl⟩ := List.length_eq_one_iff.1 hc2
  refine ⟨[cn], v' :: d2, A, T, rfl, h1, ?_, fun j hj => .inl (k4 j hj), fun j => .inr, fun _ j a t => hST j (hD j (k4 j a)) t⟩
  exact ⟨[v'], d2, T, fun _ => False, rfl, (hv.own hlx).1, h3, fun j hj => hj, fun j hj => hj.elim, fun _ j _ hj => hj⟩
theorem wrap_range (z : Int) : -9223372036854775808 ≤ wrap64 z ∧ wrap64 z ≤ 9223372036854775807 := by unfold wrap64; omega
def isFaceQ (f : Int) (r : LRequester) : Bool := r.1 == f
set_option maxRecDepth 100000 in
set_option maxHeartbeats 2000000 in
theorem implAddRequester1_c {w : World} {cr : List Value} {r : LRequester} (hr : RRequester.raw w cr r) {f : Int} {Bf : Nat} (Af0 : w.cell? ⟨Bf, 0, none⟩ = some (.int .i64 f)) :
    Calls Try.prog 31 (#[.agg cr.toArray] ++ #[.pointer (some ⟨Bf, 0, none⟩)]) w fun e w' => e = .returned (.bool (isFaceQ f r)) ∧ Below w.heap.size w w' := by
  have Hr := Lib.hid hr
  obtain ⟨rfl, fr_0, fr_1, fr_2⟩ := RRequester_raw hr
  show Calls Try.prog 31 #[_, _] w _
  go_enter Try.func31, Try.ntmps31
  go_upto_region 1 with fail
  generalize hwB : World.alloc w _ = wB
  have EB : Below w.heap.size w wB := by rw [← hwB]; exact (by repeat (first | (with_reducible exact Below.refl _ _) | refine Below.alloc ?_ (by simp; try omega) _ | refine Below.drew ?_ | refine Below.setCell ?_ (by simp; try omega) _))
  have K2_0 : wB.cell? ⟨w.heap.size, 0, none⟩ = some (.int .i64 r.1) := by rw [← hwB]; simp [go_sem]
  have K2_1 : wB.cell? ⟨w.heap.size, 1, none⟩ = some (.int .i64 r.2.1) := by rw [← hwB]; simp [go_sem]
  have K2_2 : wB.cell? ⟨w.heap.size, 2, none⟩ = some (.int .i64 r.2.2) := by rw [← hwB]; simp [go_sem]
  clear hwB
  replace Af0 := cell_later EB Af0
  refine wp_region_soft_plain (fun W => Below wB.heap.size wB W) [true, true, true, true, true] (Below.refl _ _) ?_
  intro wS HS
  all_goals first | (refine soft_pass rfl HS ?_) | (refine soft_read (v := ?_) rfl (fun W hW => ?_) ?_; rotate_left; (· go_simp; try with_reducible rfl))
  all_goals try simp only [Act.put, List.setIfInBounds_toArray, List.set_cons_zero, List.set_cons_succ]
  all_goals first | (refine soft_pass rfl HS ?_) | (refine soft_read (v := ?_) rfl (fun W hW => ?_) ?_; rotate_left; (· have A_K2_0 := cell_later hW K2_0; have A_K2_1 := cell_later hW K2_1; have A_K2_2 := cell_later hW K2_2; have A_Af0 := cell_later hW Af0; clear hW; go_simp; try with_reducible rfl))
  all_goals try simp only [Act.put, List.setIfInBounds_toArray, List.set_cons_zero, List.set_cons_succ]
  all_goals first | (refine soft_pass rfl HS ?_) | (refine soft_read (v := ?_) rfl (fun W hW => ?_) ?_; rotate_left; (· have A_K2_0 := cell_later hW K2_0; have A_K2_1 := cell_later hW K2_1; have A_K2_2 := cell_later hW K2_2; have A_Af0 := cell_later hW Af0; clear hW; go_simp; try with_reducible rfl))
  all_goals try simp only [Act.put, List.setIfInBounds_toArray, List.set_cons_zero, List.set_cons_succ]
  all_goals first | (refine soft_pass rfl HS ?_) | (refine soft_read (v := ?_) rfl (fun W hW => ?_) ?_; rotate_left; (· go_simp; try with_reducible rfl))
  all_goals try simp only [Act.put, List.setIfInBounds_toArray, List.set_cons_zero, List.set_cons_succ]
  all_goals first | (refine soft_pass rfl HS ?_; have hg4 := True.intro) | (refine soft_part (v := ?_) (b := ?_) rfl (fun W hW => ?_) ?_ (fun b hg4 => ?_); rotate_left; rotate_left; (· go_simp; try with_reducible rfl); (· with_reducible rfl); cases b; all_goals first | (exact Bool.noConfusion hg4) | (simp only [Bool.not_eq_true', Bool.not_eq_false'] at hg4) | skip)
  all_goals try simp only [Act.put, List.setIfInBounds_toArray, List.set_cons_zero, List.set_cons_succ]
  all_goals refine soft_nil ?_
  all_goals have EG := EB.trans (HS.mono EB.size)
  all_goals first
    | (have HT := Lib.hid (show (isFaceQ f r) = false by simp only [isFaceQ, Bool.not_true, Bool.not_false, Bool.and_true, Bool.true_and, Bool.and_false, Bool.false_and, Bool.or_true, Bool.true_or, Bool.or_false, Bool.false_or, Bool.not_not, hg4]); go_wp2; go_ret; exact ⟨ret_bool HT.out.symm, EG⟩)
    | (have HT := Lib.hid (show (isFaceQ f r) = true by simp only [isFaceQ, Bool.not_true, Bool.not_false, Bool.and_true, Bool.true_and, Bool.and_false, Bool.false_and, Bool.or_true, Bool.true_or, Bool.or_false, Bool.false_or, Bool.not_not, hg4]); go_wp2; go_ret; exact ⟨ret_bool HT.out.symm, EG⟩)
theorem callable_implAddRequester1 : Callable Try.prog 31 := callable_of Try.func31 (by kernel_rfl) (by kernel_rfl)
set_option maxRecDepth 100000 in
set_option maxHeartbeats 2000000 in
theorem implAddRequester2_c {w : World} {cr : List Value} {r : LRequester} (hr : RRequester.raw w cr r) {f : Int} {Bf : Nat} (Af0 : w.cell? ⟨Bf, 0, none⟩ = some (.int .i64 f)) :
    Calls Try.prog 33 (#[.agg cr.toArray] ++ #[.pointer (some ⟨Bf, 0, none⟩)]) w fun e w' => e = .returned (.bool (decide (f ≤ r.1))) ∧ Below w.heap.size w w' := by
  have Hr := Lib.hid hr
  obtain ⟨rfl, fr_0, fr_1, fr_2⟩ := RRequester_raw hr
  show Calls Try.prog 33 #[_, _] w _
  go_enter Try.func33, Try.ntmps33
  go_upto_region 1 with fail
  generalize hwB : World.alloc w _ = wB
  have EB : Below w.heap.size w wB := by rw [← hwB]; exact (by repeat (first | (with_reducible exact Below.refl _ _) | refine Below.alloc ?_ (by simp; try omega) _ | refine Below.drew ?_ | refine Below.setCell ?_ (by simp; try omega) _))
  have K2_0 : wB.cell? ⟨w.heap.size, 0, none⟩ = some (.int .i64 r.1) := by rw [← hwB]; simp [go_sem]
  have K2_1 : wB.cell? ⟨w.heap.size, 1, none⟩ = some (.int .i64 r.2.1) := by rw [← hwB]; simp [go_sem]
  have K2_2 : wB.cell? ⟨w.heap.size, 2, none⟩ = some (.int .i64 r.2.2) := by rw [← hwB]; simp [go_sem]
  clear hwB
  replace Af0 := cell_later EB Af0
  refine wp_region_soft_plain (fun W => Below wB.heap.size wB W) [true, true, true, true, true] (Below.refl _ _) ?_
  intro wS HS
  all_goals first | (refine soft_pass rfl HS ?_) | (refine soft_read (v := ?_) rfl (fun W hW => ?_) ?_; rotate_left; (· go_simp; try with_reducible rfl))
  all_goals try simp only [Act.put, List.setIfInBounds_toArray, List.set_cons_zero, List.set_cons_succ]
  all_goals first | (refine soft_pass rfl HS ?_) | (refine soft_read (v := ?_) rfl (fun W hW => ?_) ?_; rotate_left; (· have A_K2_0 := cell_later hW K2_0; have A_K2_1 := cell_later hW K2_1; have A_K2_2 := cell_later hW K2_2; have A_Af0 := cell_later hW Af0; clear hW; go_simp; try with_reducible rfl))
  all_goals try simp only [Act.put, List.setIfInBounds_toArray, List.set_cons_zero, List.set_cons_succ]
  all_goals first | (refine soft_pass rfl HS ?_) | (refine soft_read (v := ?_) rfl (fun W hW => ?_) ?_; rotate_left; (· have A_K2_0 := cell_later hW K2_0; have A_K2_1 := cell_later hW K2_1; have A_K2_2 := cell_later hW K2_2; have A_Af0 := cell_later hW Af0; clear hW; go_simp; try with_reducible rfl))
  all_goals try simp only [Act.put, List.setIfInBounds_toArray, List.set_cons_zero, List.set_cons_succ]
  all_goals first | (refine soft_pass rfl HS ?_) | (refine soft_read (v := ?_) rfl (fun W hW => ?_) ?_; rotate_left; (· go_simp; try with_reducible rfl))
  all_goals try simp only [Act.put, List.setIfInBounds_toArray, List.set_cons_zero, List.set_cons_succ]
  all_goals first | (refine soft_pass rfl HS ?_; have hg4 := True.intro) | (refine soft_part (v := ?_) (b := ?_) rfl (fun W hW => ?_) ?_ (fun b hg4 => ?_); rotate_left; rotate_left; (· go_simp; try with_reducible rfl); (· with_reducible rfl); cases b; all_goals first | (exact Bool.noConfusion hg4) | (simp only [Bool.not_eq_true', Bool.not_eq_false'] at hg4) | skip)
  all_goals try simp only [Act.put, List.setIfInBounds_toArray, List.set_cons_zero, List.set_cons_succ]
  all_goals refine soft_nil ?_
  all_goals have EG := EB.trans (HS.mono EB.size)
  all_goals first
    | (have HT := Lib.hid (show (decide (f ≤ r.1)) = false by simp only [Bool.not_true, Bool.not_false, Bool.and_true, Bool.true_and, Bool.and_false, Bool.false_and, Bool.or_true, Bool.true_or, Bool.or_false, Bool.false_or, Bool.not_not, hg4]); go_wp2; go_ret; exact ⟨ret_bool HT.out.symm, EG⟩)
    | (have HT := Lib.hid (show (decide (f ≤ r.1)) = true by simp only [Bool.not_true, Bool.not_false, Bool.and_true, Bool.true_and, Bool.and_false, Bool.false_and, Bool.or_true, Bool.true_or, Bool.or_false, Bool.false_or, Bool.not_not, hg4]); go_wp2; go_ret; exact ⟨ret_bool HT.out.symm, EG⟩)
theorem callable_implAddRequester2 : Callable Try.prog 33 := callable_of Try.func33 (by kernel_rfl) (by kernel_rfl)
set_option maxRecDepth 100000 in
set_option maxHeartbeats 4000000 in
theorem specAddRequester_s {w : World} {vl : Value} {l : List LPendingInterest} (hl : (Rep.slice 57 RPendingInterest).rd w [vl] l) (hsm : (Rep.slice 57 RPendingInterest).bdd 1048576 l) {cx : List Value} {x : LInterest} (hx : RInterest.rd w cx x) {f : Int} (hf : -9223372036854775808 ≤ f ∧ f ≤ 9223372036854775807) {t : Int} (ht : -9223372036854775808 ≤ t ∧ t ≤ 9223372036854775807) :
    Calls Try.prog 6 #[vl, .agg cx.toArray, .int .i64 f, .int .i64 t] w fun e w' => ∃ v, e = .returned (.tuple #[v, .bool (addQok x f l)]) ∧ (Rep.slice 57 RPendingInterest).own w' [v] (addQ x f t l) (Btw w.heap.size w'.heap.size) ∧ Below w.heap.size w w' := by
  have HL := Lib.hid hl
  have HSM := Lib.hid hsm
  have hlb : l.length ≤ 16777216 := hl.2.1
  have HW := Lib.hid hx
  obtain ⟨nv, rfl, r_0, r_1, r_2, r_3, r_4⟩ := RInterest_raw hx.1
  obtain ⟨n, x1, x2, x3⟩ := x
  have HN : Hid (RName.rd w [nv] n) := Lib.hid ⟨r_0, hx.2.1⟩
  obtain ⟨na, np, hnv, _⟩ := Rep.len_raw r_1; obtain rfl : nv = _ := by simpa using hnv
  obtain ⟨va, vp, hvl, hvll⟩ := Rep.len_raw hl.1; obtain rfl : vl = _ := by simpa using hvl
  have HF := Lib.hid hf
  have HX1 := Lib.hid r_2
  clear hnv r_0 r_1 r_2 r_3 r_4 hl hx hvl hf ht hsm
  go_enter Try.func6, Try.ntmps6
  go_upto_region 1 with fail
  generalize hwB : World.alloc w _ = wB
  have EB : Below w.heap.size w wB := by rw [← hwB]; exact (by repeat (first | (with_reducible exact Below.refl _ _) | refine Below.alloc ?_ (by simp; try omega) _ | refine Below.drew ?_ | refine Below.setCell ?_ (by simp; try omega) _))
  have K0 : wB.cell? ⟨w.heap.size, 0, none⟩ = some (.slice na n.length np) := by rw [← hwB]; simp [go_sem]
  have K1 : wB.cell? ⟨w.heap.size, 1, none⟩ = some (.int .i64 x1) := by rw [← hwB]; simp [go_sem]
  have K2 : wB.cell? ⟨w.heap.size, 2, none⟩ = some (.int .i64 x2) := by rw [← hwB]; simp [go_sem]
  have K3 : wB.cell? ⟨w.heap.size, 3, none⟩ = some (.int .i64 x3) := by rw [← hwB]; simp [go_sem]
  have hzB : wB.heap.size = w.heap.size + 1 := by rw [← hwB]; simp
  clear hwB
  go_wp2_with fail
  refine (specl13Copy_c (HL.out.below EB)).mono ?_
  rintro e w1 ⟨v1, rfl, O1, hb1⟩
  replace K0 := cell_later hb1 K0
  replace K1 := cell_later hb1 K1
  replace K2 := cell_later hb1 K2
  replace K3 := cell_later hb1 K3
  have E1 := EB.trans (hb1.mono EB.size)
  have hz1 := hb1.size
  have HO := Lib.hid O1
  obtain ⟨oa, on, oc, ho, HON⟩ := O1.parts; obtain rfl := ho
  clear O1 hb1 EB
  go_wp2_with fail
  refine (specl13Find_c (HL.out.1.below E1) (HN.out.1.below E1)).mono ?_
  rintro e w4 ⟨rfl, hb4⟩
  replace K0 := cell_later hb4 K0
  replace K1 := cell_later hb4 K1
  replace K2 := cell_later hb4 K2
  replace K3 := cell_later hb4 K3
  have E4 := E1.trans (hb4.mono E1.size)
  have hz4 := hb4.size
  replace HO := Lib.hid ((HO.out.below hb4).wide (T := Btw wB.heap.size w4.heap.size) (fun j hj => ⟨hj.1, by have := hj.2; omega⟩))
  clear hb4 E1
  by_cases hk : idxOf (isPend n) l < 0
  · have HK : Hid (decide (idxOf (isPend n) l < 0) = true) := Lib.hid (by simpa using hk)
    go_upto_region 3 with fail
    refine wp_region_soft_plain (fun W => Below w4.heap.size w4 W) [true, false, true, true, true, false, true, true, true, true, true, true, true, true, true, true, true] ((Below.refl _ _)) ?_
    intro wS HS
    all_goals first | (refine soft_pass rfl HS ?_) | (refine soft_read (v := ?_) rfl (fun W hW => ?_) ?_; rotate_left; (· have A_K0 := cell_later hW K0; have A_K1 := cell_later hW K1; have A_K2 := cell_later hW K2; have A_K3 := cell_later hW K3; clear hW; go_simp; try with_reducible rfl))
    all_goals try simp only [Act.put, List.setIfInBounds_toArray, List.set_cons_zero, List.set_cons_succ]
    all_goals first | (refine soft_pass rfl HS ?_) | (refine soft_do rfl (fun K hK => ?_); go_simp; refine (specValidInterest_w (HW.out.1.below (E4.trans (HS.mono E4.size)))).mono ?_; rintro e wV ⟨rfl, hbV⟩; replace HS := HS.trans (hbV.mono HS.size); refine hK _ _ HS ?_; clear hK K hbV)
    all_goals try simp only [Act.put, List.setIfInBounds_toArray, List.set_cons_zero, List.set_cons_succ]
    all_goals first | (refine soft_pass rfl HS ?_) | (refine soft_read (v := ?_) rfl (fun W hW => ?_) ?_; rotate_left; (· go_simp; try with_reducible rfl))
    all_goals try simp only [Act.put, List.setIfInBounds_toArray, List.set_cons_zero, List.set_cons_succ]
    all_goals first | (refine soft_pass rfl HS ?_; have hg3 := True.intro) | (refine soft_part (v := ?_) (b := ?_) rfl (fun W hW => ?_) ?_ (fun b hg3 => ?_); rotate_left; rotate_left; (· go_simp; try with_reducible rfl); (· with_reducible rfl); cases b; all_goals first | (exact Bool.noConfusion hg3) | (simp only [Bool.not_eq_true', Bool.not_eq_false'] at hg3) | skip)
    all_goals try simp only [Act.put, List.setIfInBounds_toArray, List.set_cons_zero, List.set_cons_succ]
    all_goals first | (refine soft_pass rfl HS ?_) | (refine soft_read (v := ?_) rfl (fun W hW => ?_) ?_; rotate_left; (· go_simp; try with_reducible rfl))
    all_goals try simp only [Act.put, List.setIfInBounds_toArray, List.set_cons_zero, List.set_cons_succ]
    all_goals first | (refine soft_pass rfl HS ?_) | (refine soft_do rfl (fun K hK => ?_); go_simp; refine (specl1In_c).mono ?_; rintro e wS1 ⟨rfl, hwS⟩; obtain rfl := hwS.symm; refine hK _ _ HS ?_; clear hK K)
    all_goals try simp only [Act.put, List.setIfInBounds_toArray, List.set_cons_zero, List.set_cons_succ]
    all_goals first | (refine soft_pass rfl HS ?_) | (refine soft_read (v := ?_) rfl (fun W hW => ?_) ?_; rotate_left; (· go_simp; try with_reducible rfl))
    all_goals try simp only [Act.put, List.setIfInBounds_toArray, List.set_cons_zero, List.set_cons_succ]
    all_goals first | (refine soft_pass rfl HS ?_) | (refine soft_read (v := ?_) rfl (fun W hW => ?_) ?_; rotate_left; (· go_simp; try with_reducible rfl))
    all_goals try simp only [Act.put, List.setIfInBounds_toArray, List.set_cons_zero, List.set_cons_succ]
    all_goals first | (refine soft_pass rfl HS ?_; have hg8 := True.intro) | (refine soft_part (v := ?_) (b := ?_) rfl (fun W hW => ?_) ?_ (fun b hg8 => ?_); rotate_left; rotate_left; (· go_simp; try with_reducible rfl); (· with_reducible rfl); cases b; all_goals first | (exact Bool.noConfusion hg8) | (simp only [Bool.not_eq_true', Bool.not_eq_false'] at hg8) | skip)
    all_goals try simp only [Act.put, List.setIfInBounds_toArray, List.set_cons_zero, List.set_cons_succ]
    all_goals first | (refine soft_pass rfl HS ?_) | (refine soft_read (v := ?_) rfl (fun W hW => ?_) ?_; rotate_left; (· go_simp; try with_reducible rfl))
    all_goals try simp only [Act.put, List.setIfInBounds_toArray, List.set_cons_zero, List.set_cons_succ]
    all_goals first | (refine soft_pass rfl HS ?_) | (refine soft_read (v := ?_) rfl (fun W hW => ?_) ?_; rotate_left; (· go_simp; try with_reducible rfl))
    all_goals try simp only [Act.put, List.setIfInBounds_toArray, List.set_cons_zero, List.set_cons_succ]
    all_goals first | (refine soft_pass rfl HS ?_; have hg11 := True.intro) | (refine soft_part (v := ?_) (b := ?_) rfl (fun W hW => ?_) ?_ (fun b hg11 => ?_); rotate_left; rotate_left; (· go_simp; try with_reducible rfl); (· with_reducible rfl); cases b; all_goals first | (exact Bool.noConfusion hg11) | (simp only [Bool.not_eq_true', Bool.not_eq_false'] at hg11) | skip)
    all_goals try simp only [Act.put, List.setIfInBounds_toArray, List.set_cons_zero, List.set_cons_succ]
    all_goals first | (refine soft_pass rfl HS ?_) | (refine soft_read (v := ?_) rfl (fun W hW => ?_) ?_; rotate_left; (· go_simp; try with_reducible rfl))
    all_goals try simp only [Act.put, List.setIfInBounds_toArray, List.set_cons_zero, List.set_cons_succ]
    all_goals first | (refine soft_pass rfl HS ?_) | (refine soft_read (v := ?_) rfl (fun W hW => ?_) ?_; rotate_left; (· go_simp; try with_reducible rfl))
    all_goals try simp only [Act.put, List.setIfInBounds_toArray, List.set_cons_zero, List.set_cons_succ]
    all_goals first | (refine soft_pass rfl HS ?_) | (refine soft_read (v := ?_) rfl (fun W hW => ?_) ?_; rotate_left; (· go_simp; try with_reducible rfl))
    all_goals try simp only [Act.put, List.setIfInBounds_toArray, List.set_cons_zero, List.set_cons_succ]
    all_goals first | (refine soft_pass rfl HS ?_) | (refine soft_read (v := ?_) rfl (fun W hW => ?_) ?_; rotate_left; (· go_simp; try with_reducible rfl))
    all_goals try simp only [Act.put, List.setIfInBounds_toArray, List.set_cons_zero, List.set_cons_succ]
    all_goals first | (refine soft_pass rfl HS ?_; have hg16 := True.intro) | (refine soft_part (v := ?_) (b := ?_) rfl (fun W hW => ?_) ?_ (fun b hg16 => ?_); rotate_left; rotate_left; (· go_simp; try with_reducible rfl); (· with_reducible rfl); cases b; all_goals first | (exact Bool.noConfusion hg16) | (simp only [Bool.not_eq_true', Bool.not_eq_false'] at hg16) | skip)
    all_goals try simp only [Act.put, List.setIfInBounds_toArray, List.set_cons_zero, List.set_cons_succ]
    all_goals refine soft_nil ?_
    all_goals have E5 := E4.trans (HS.mono E4.size)
    all_goals have HO5 := Lib.hid (HO.out.below HS)
    all_goals have hz5 := HS.size
    all_goals have LK0 := cell_later HS K0
    all_goals have LK1 := cell_later HS K1
    all_goals have LK2 := cell_later HS K2
    all_goals have LK3 := cell_later HS K3
    all_goals clear K0 K1 K2 K3 HO
    all_goals first | (have HT := Lib.hid (addQ_no (t := t) (show addQok (n, x1, x2, x3) f l = false by simp only [addQok, HK.out, Bool.not_true, Bool.not_false, Bool.and_true, Bool.true_and, Bool.and_false, Bool.false_and, Bool.or_true, Bool.true_or, Bool.or_false, Bool.false_or, Bool.not_not, ge_iff_le, hg3, hg8, hg11, hg16, hg16])); go_wp2; go_ret2; exact ⟨_, by rw [HT.out.2]; rfl, ((HO5.out.cast HT.out.1.symm).own (by rw [HT.out.1]; exact hlb)).wide (fun j hj => ⟨by have := hj.1; omega, by have := hj.2; omega⟩), E5⟩) | skip
    have HT := Lib.hid (addQ_new (t := t) (show addQok (n, x1, x2, x3) f l = true by simp only [addQok, HK.out, Bool.not_true, Bool.not_false, Bool.and_true, Bool.true_and, Bool.and_false, Bool.false_and, Bool.or_true, Bool.true_or, Bool.or_false, Bool.false_or, Bool.not_not, ge_iff_le, hg3, hg8, hg11, hg16, hg16]) hk)
    have h12 := addQok_len HT.out.2 hk
    have hk2 : ¬ (0 ≤ idxOf (isPend n) l) := by omega
    generalize hq : idxOf (isPend n) l = q at *
    clear hq HK
    go_upto_region 6 with fail
    generalize hy3 : wrap64 (t + x3) = y3
    have HR : Hid (reqOf (n, x1, x2, x3) f t = (f, x1, y3)) := Lib.hid (by rw [← hy3]; rfl)
    have HY : Hid (-9223372036854775808 ≤ y3 ∧ y3 ≤ 9223372036854775807) := Lib.hid (by rw [← hy3]; exact wrap_range _)
    clear hy3
    generalize hwC : World.alloc _ _ = wC
    have EC : Below wV.heap.size wV wC := by rw [← hwC]; exact (Below.refl _ _).alloc (Nat.le_refl _) _
    have hzC : wV.heap.size ≤ wC.heap.size := EC.size
    have KC0 : wC.cell? ⟨wV.heap.size, 0, none⟩ = some (.int .i64 f) := by rw [← hwC]; simp [go_sem]
    have KC1 : wC.cell? ⟨wV.heap.size, 1, none⟩ = some (.int .i64 x1) := by rw [← hwC]; simp [go_sem]
    have KC2 : wC.cell? ⟨wV.heap.size, 2, none⟩ = some (.int .i64 y3) := by rw [← hwC]; simp [go_sem]
    have E6 := E5.trans (EC.mono E5.size)
    have HO6 := Lib.hid (HO5.out.below EC)
    replace LK0 := cell_later EC LK0
    clear hwC LK1 LK2 LK3 HO5 HS EC
    go_wp2_with fail
    refine (specl4Copy_c (HN.out.below E6)).mono ?_
    rintro e wT ⟨tc, rfl, OT, hbT⟩
    obtain ⟨tv0, rfl, t_0⟩ := RName_raw OT.raw
    obtain ⟨ta0, tp0, th0, _⟩ := Rep.len_raw t_0; obtain rfl : tv0 = _ := (by simpa using th0)
    clear th0 t_0
    go_upto_region 8 with fail
    generalize hwD : World.alloc wT _ = wD
    have ED : Below wT.heap.size wT wD := by rw [← hwD]; exact (Below.refl _ _).alloc (Nat.le_refl _) _
    have KD : wD.cell? ⟨wT.heap.size, 0, none⟩ = some (.slice ta0 n.length tp0) := by rw [← hwD]; simp [go_sem]
    have hzD : wT.heap.size ≤ wD.heap.size := ED.size
    clear hwD
    have ER := hbT.trans (ED.mono hbT.size)
    have hsT := hbT.size
    have OTD := Lib.hid (OT.below ED)
    replace KC0 := cell_later ER KC0
    replace KC1 := cell_later ER KC1
    replace KC2 := cell_later ER KC2
    have HO7 := Lib.hid (HO6.out.below ER)
    have HQ : Hid ((Rep.slice 53 RRequester).own (wD.alloc (.cells #[.int .i64 f, .int .i64 x1, .int .i64 y3] 53)) [.slice (some ⟨wD.heap.size, 0, none⟩) 1 1] [(f, x1, y3)] (Btw wD.heap.size (wD.heap.size + 1))) := Lib.hid (Rep.own0.own (Rep.own0_lit (e := 53) (r := RRequester) (w := wD) (cs := [.int .i64 f, .int .i64 x1, .int .i64 y3]) (xs := [(f, x1, y3)]) (T := fun _ => False) (S := Btw wD.heap.size (wD.heap.size + 1)) (by intro y hy; simp only [List.mem_singleton] at hy; rw [hy]; exact ⟨trivial, trivial, trivial⟩) (by simp [maxLen]) ⟨_, [], _, _, by simp, (Rep.flat.own (S := fun _ => False) (Rep.flat_pair (Rep.flat_int HF.out) (Rep.flat_pair (Rep.flat_int HX1.out) (Rep.flat_int HY.out)))).1, rfl, fun _ h => h, fun _ h => h, fun _ _ h _ => h⟩ (fun _ h => h.elim) ⟨Nat.le_refl _, by omega⟩) (by simp [Big]))
    have E8 := E6.trans (ER.mono E6.size)
    clear OT
    go_wp2_with (at_builtin; refine Rep.wpList_pushB rfl _ _ 30 rfl (r := RPendingInterest) (e := 57) Try.underlying30 infPendingInterest rfl (by decide) (by decide) (B := w.heap.size) (b := wD.heap.size + 1) (HO7.out.alloc _) (by rfl) (by rfl) (by simp) (Rep.own.wide (T := Btw w4.heap.size (wD.heap.size + 1)) (Rep.own_pair (r := RName) (q := Rep.pair (Rep.slice 53 RRequester) Rep.int) (cs := [.slice ta0 n.length tp0]) (ds := [.slice (some ⟨wD.heap.size, 0, none⟩) 1 1, .int .i64 0]) (x := n) (y := ([(f, x1, y3)], 0)) (S := Btw w4.heap.size (wD.heap.size + 1)) (OTD.out.alloc _) (Rep.own_flat (r := (Rep.slice 53 RRequester)) (q := Rep.int) (cs := [.slice (some ⟨wD.heap.size, 0, none⟩) 1 1]) (ds := [.int .i64 0]) (x := [(f, x1, y3)]) (y := 0) HQ.out (Rep.flat_int ⟨by decide, by decide⟩)) (fun j hj => ⟨by have := hj.1; omega, by have := hj.2; omega⟩) (fun j hj => ⟨by have := hj.1; omega, by have := hj.2; omega⟩) (fun j h1 h2 => by have p := h1.2; have q := h2.1; omega)) (fun j hj => hj)) rfl (fun j h1 h2 => by have p := h1.2; have q := h2.1; omega) (fun j hj => ⟨by have := hj.1; omega, by have := hj.2; simp; omega⟩) (fun j hj => ⟨by have := hj.1; omega, by have := hj.2; simp; omega⟩) (by simp; omega) (by omega) ?_)
    intro v5 w5 hown5 hbel5 hz5b
    have HO9 := Lib.hid (hown5.cast (by rw [HT.out.1, HR.out] : _ = addQ (n, x1, x2, x3) f t l))
    obtain ⟨pa, pn, pc, hp, HPN⟩ := hown5.parts; obtain rfl := hp
    have E9 := (E8.alloc E8.size _).trans hbel5
    clear hown5 hbel5
    go_wp2
    go_ret2
    exact ⟨_, by rw [HT.out.2]; rfl, HO9.out.own (by rw [HT.out.1]; simp; unfold Big; omega), E9⟩
  · have HK : Hid (decide (idxOf (isPend n) l < 0) = false) := Lib.hid (by simpa using hk)
    obtain ⟨k, hkl, hki⟩ := idxOf_at hk
    have HKI := Lib.hid hki
    rw [hki]
    have hkN : ¬ ((k : Int) < 0) := by omega
    clear hk hki
    go_upto_region 3 with fail
    refine wp_region_soft_plain (fun W => Below w4.heap.size w4 W) [true, false, true, true, true, false, true, true, true, true, true, true, true, true, true, true, true] ((Below.refl _ _)) ?_
    intro wS HS
    all_goals first | (refine soft_pass rfl HS ?_) | (refine soft_read (v := ?_) rfl (fun W hW => ?_) ?_; rotate_left; (· have A_K0 := cell_later hW K0; have A_K1 := cell_later hW K1; have A_K2 := cell_later hW K2; have A_K3 := cell_later hW K3; clear hW; go_simp; try with_reducible rfl))
    all_goals try simp only [Act.put, List.setIfInBounds_toArray, List.set_cons_zero, List.set_cons_succ]
    all_goals first | (refine soft_pass rfl HS ?_) | (refine soft_do rfl (fun K hK => ?_); go_simp; refine (specValidInterest_w (HW.out.1.below (E4.trans (HS.mono E4.size)))).mono ?_; rintro e wV ⟨rfl, hbV⟩; replace HS := HS.trans (hbV.mono HS.size); refine hK _ _ HS ?_; clear hK K hbV)
    all_goals try simp only [Act.put, List.setIfInBounds_toArray, List.set_cons_zero, List.set_cons_succ]
    all_goals first | (refine soft_pass rfl HS ?_) | (refine soft_read (v := ?_) rfl (fun W hW => ?_) ?_; rotate_left; (· go_simp; try with_reducible rfl))
    all_goals try simp only [Act.put, List.setIfInBounds_toArray, List.set_cons_zero, List.set_cons_succ]
    all_goals first | (refine soft_pass rfl HS ?_; have hg3 := True.intro) | (refine soft_part (v := ?_) (b := ?_) rfl (fun W hW => ?_) ?_ (fun b hg3 => ?_); rotate_left; rotate_left; (· go_simp; try with_reducible rfl); (· with_reducible rfl); cases b; all_goals first | (exact Bool.noConfusion hg3) | (simp only [Bool.not_eq_true', Bool.not_eq_false'] at hg3) | skip)
    all_goals try simp only [Act.put, List.setIfInBounds_toArray, List.set_cons_zero, List.set_cons_succ]
    all_goals first | (refine soft_pass rfl HS ?_) | (refine soft_read (v := ?_) rfl (fun W hW => ?_) ?_; rotate_left; (· go_simp; try with_reducible rfl))
    all_goals try simp only [Act.put, List.setIfInBounds_toArray, List.set_cons_zero, List.set_cons_succ]
    all_goals first | (refine soft_pass rfl HS ?_) | (refine soft_do rfl (fun K hK => ?_); go_simp; refine (specl1In_c).mono ?_; rintro e wS1 ⟨rfl, hwS⟩; obtain rfl := hwS.symm; refine hK _ _ HS ?_; clear hK K)
    all_goals try simp only [Act.put, List.setIfInBounds_toArray, List.set_cons_zero, List.set_cons_succ]
    all_goals first | (refine soft_pass rfl HS ?_) | (refine soft_read (v := ?_) rfl (fun W hW => ?_) ?_; rotate_left; (· go_simp; try with_reducible rfl))
    all_goals try simp only [Act.put, List.setIfInBounds_toArray, List.set_cons_zero, List.set_cons_succ]
    all_goals first | (refine soft_pass rfl HS ?_) | (refine soft_read (v := ?_) rfl (fun W hW => ?_) ?_; rotate_left; (· go_simp; try with_reducible rfl))
    all_goals try simp only [Act.put, List.setIfInBounds_toArray, List.set_cons_zero, List.set_cons_succ]
    all_goals first | (refine soft_pass rfl HS ?_; have hg8 := True.intro) | (refine soft_part (v := ?_) (b := ?_) rfl (fun W hW => ?_) ?_ (fun b hg8 => ?_); rotate_left; rotate_left; (· go_simp; try with_reducible rfl); (· with_reducible rfl); cases b; all_goals first | (exact Bool.noConfusion hg8) | (simp only [Bool.not_eq_true', Bool.not_eq_false'] at hg8) | skip)
    all_goals try simp only [Act.put, List.setIfInBounds_toArray, List.set_cons_zero, List.set_cons_succ]
    all_goals first | (refine soft_pass rfl HS ?_) | (refine soft_read (v := ?_) rfl (fun W hW => ?_) ?_; rotate_left; (· go_simp; try with_reducible rfl))
    all_goals try simp only [Act.put, List.setIfInBounds_toArray, List.set_cons_zero, List.set_cons_succ]
    all_goals first | (refine soft_pass rfl HS ?_) | (refine soft_read (v := ?_) rfl (fun W hW => ?_) ?_; rotate_left; (· go_simp; try with_reducible rfl))
    all_goals try simp only [Act.put, List.setIfInBounds_toArray, List.set_cons_zero, List.set_cons_succ]
    all_goals first | (refine soft_pass rfl HS ?_; have hg11 := True.intro) | (refine soft_part (v := ?_) (b := ?_) rfl (fun W hW => ?_) ?_ (fun b hg11 => ?_); rotate_left; rotate_left; (· go_simp; try with_reducible rfl); (· with_reducible rfl); cases b; all_goals first | (exact Bool.noConfusion hg11) | (simp only [Bool.not_eq_true', Bool.not_eq_false'] at hg11) | skip)
    all_goals try simp only [Act.put, List.setIfInBounds_toArray, List.set_cons_zero, List.set_cons_succ]
    all_goals first | (refine soft_pass rfl HS ?_) | (refine soft_read (v := ?_) rfl (fun W hW => ?_) ?_; rotate_left; (· go_simp; try with_reducible rfl))
    all_goals try simp only [Act.put, List.setIfInBounds_toArray, List.set_cons_zero, List.set_cons_succ]
    all_goals first | (refine soft_pass rfl HS ?_) | (refine soft_read (v := ?_) rfl (fun W hW => ?_) ?_; rotate_left; (· go_simp; try with_reducible rfl))
    all_goals try simp only [Act.put, List.setIfInBounds_toArray, List.set_cons_zero, List.set_cons_succ]
    all_goals first | (refine soft_pass rfl HS ?_) | (refine soft_read (v := ?_) rfl (fun W hW => ?_) ?_; rotate_left; (· go_simp; try with_reducible rfl))
    all_goals try simp only [Act.put, List.setIfInBounds_toArray, List.set_cons_zero, List.set_cons_succ]
    all_goals first | (refine soft_pass rfl HS ?_) | (refine soft_read (v := ?_) rfl (fun W hW => ?_) ?_; rotate_left; (· go_simp; try with_reducible rfl))
    all_goals try simp only [Act.put, List.setIfInBounds_toArray, List.set_cons_zero, List.set_cons_succ]
    all_goals first | (refine soft_pass rfl HS ?_; have hg16 := True.intro) | (refine soft_part (v := ?_) (b := ?_) rfl (fun W hW => ?_) ?_ (fun b hg16 => ?_); rotate_left; rotate_left; (· go_simp; try with_reducible rfl); (· with_reducible rfl); cases b; all_goals first | (exact Bool.noConfusion hg16) | (simp only [Bool.not_eq_true', Bool.not_eq_false'] at hg16) | skip)
    all_goals try simp only [Act.put, List.setIfInBounds_toArray, List.set_cons_zero, List.set_cons_succ]
    all_goals refine soft_nil ?_
    all_goals have E5 := E4.trans (HS.mono E4.size)
    all_goals have HO5 := Lib.hid (HO.out.below HS)
    all_goals have hz5 := HS.size
    all_goals have LK0 := cell_later HS K0
    all_goals have LK1 := cell_later HS K1
    all_goals have LK2 := cell_later HS K2
    all_goals have LK3 := cell_later HS K3
    all_goals clear K0 K1 K2 K3 HO
    all_goals first | (have HT := Lib.hid (addQ_no (t := t) (show addQok (n, x1, x2, x3) f l = false by simp only [addQok, HK.out, Bool.not_true, Bool.not_false, Bool.and_true, Bool.true_and, Bool.and_false, Bool.false_and, Bool.or_true, Bool.true_or, Bool.or_false, Bool.false_or, Bool.not_not, ge_iff_le, hg3, hg8, hg11, hg16, hg16])); go_wp2; go_ret2; exact ⟨_, by rw [HT.out.2]; rfl, ((HO5.out.cast HT.out.1.symm).own (by rw [HT.out.1]; exact hlb)).wide (fun j hj => ⟨by have := hj.1; omega, by have := hj.2; omega⟩), E5⟩) | skip
    have HT := Lib.hid (addQ_set (t := t) (show addQok (n, x1, x2, x3) f l = true by simp only [addQok, HK.out, Bool.not_true, Bool.not_false, Bool.and_true, Bool.true_and, Bool.and_false, Bool.false_and, Bool.or_true, Bool.true_or, Bool.or_false, Bool.false_or, Bool.not_not, ge_iff_le, hg3, hg8, hg11, hg16, hg16]) HKI.out hkl)
    go_upto_region 6 with fail
    generalize hy3 : wrap64 (t + x3) = y3
    have HR : Hid (reqOf (n, x1, x2, x3) f t = (f, x1, y3)) := Lib.hid (by rw [← hy3]; rfl)
    have HY : Hid (-9223372036854775808 ≤ y3 ∧ y3 ≤ 9223372036854775807) := Lib.hid (by rw [← hy3]; exact wrap_range _)
    clear hy3
    generalize hwC : World.alloc _ _ = wC
    have EC : Below wV.heap.size wV wC := by rw [← hwC]; exact (Below.refl _ _).alloc (Nat.le_refl _) _
    have hzC : wV.heap.size ≤ wC.heap.size := EC.size
    have KC0 : wC.cell? ⟨wV.heap.size, 0, none⟩ = some (.int .i64 f) := by rw [← hwC]; simp [go_sem]
    have KC1 : wC.cell? ⟨wV.heap.size, 1, none⟩ = some (.int .i64 x1) := by rw [← hwC]; simp [go_sem]
    have KC2 : wC.cell? ⟨wV.heap.size, 2, none⟩ = some (.int .i64 y3) := by rw [← hwC]; simp [go_sem]
    have E6 := E5.trans (EC.mono E5.size)
    have HO6 := Lib.hid (HO5.out.below EC)
    replace LK0 := cell_later EC LK0
    clear hwC LK1 LK2 LK3 HO5 HS EC
    obtain ⟨b, cap, hv, hbS, hbl, hcap2, hcap3⟩ := Rep.own0_addr HO6.out hkl
    simp only [Value.slice.injEq] at hv
    obtain ⟨rfl, hon, rfl⟩ := hv
    have hkon : k < on := by omega
    have hkI : (0 : Int) ≤ k := by omega
    have hkI2 : (k : Int) < on := by omega
    clear hon
    have HRD := Lib.hid (HO6.out.own hlb)
    obtain ⟨c0, c1, c2, hr, A0, A1, A2⟩ := Rep.at3 HRD.out.raw hkl rfl
    obtain ⟨qv0, qv1, qhe, q_0, q_1, q_2, q_3⟩ := RPendingInterest_raw hr
    simp only [List.cons.injEq, and_true] at qhe
    obtain ⟨rfl, rfl, rfl⟩ := qhe
    have HRQ : Hid ((Rep.slice 53 RRequester).rd wC [c1] l[k].2.1) := Lib.hid ⟨q_2, (Rep.raw_bdd HRD.out.rd hkl).2.1⟩
    obtain ⟨ra, rp, rh, _⟩ := Rep.len_raw q_2; obtain rfl : c1 = _ := by simpa using rh
    have hq20 : l[k].2.1.length ≤ 1048576 := (HSM.out.2 _ (List.getElem_mem hkl)).2.1.1
    clear rh hr q_0 q_1 q_2 q_3 A0 A2 HRD
    go_upto_region 9 with fail
    refine wp_region_soft (fun W => Below wC.heap.size wC W) [true, true, true, true, true, true, false, true] (by kernel_rfl) (by kernel_rfl) (fun c a d v w h => by cases d <;> exact h) ((Below.refl _ _).drew) ?_
    intro wS HS
    all_goals first | (refine soft_pass rfl HS ?_) | (refine soft_read (v := ?_) rfl (fun W hW => ?_) ?_; rotate_left; (· go_simp; try with_reducible rfl))
    all_goals try simp only [Act.put, List.setIfInBounds_toArray, List.set_cons_zero, List.set_cons_succ]
    all_goals first | (refine soft_pass rfl HS ?_) | (refine soft_read (v := ?_) rfl (fun W hW => ?_) ?_; rotate_left; (· go_simp; try with_reducible rfl))
    all_goals try simp only [Act.put, List.setIfInBounds_toArray, List.set_cons_zero, List.set_cons_succ]
    all_goals first | (refine soft_pass rfl HS ?_) | (refine soft_read (v := ?_) rfl (fun W hW => ?_) ?_; rotate_left; (· go_simp; try with_reducible rfl))
    all_goals try simp only [Act.put, List.setIfInBounds_toArray, List.set_cons_zero, List.set_cons_succ]
    all_goals first | (refine soft_pass rfl HS ?_) | (refine soft_read (v := ?_) rfl (fun W hW => ?_) ?_; rotate_left; (· go_simp; try with_reducible rfl))
    all_goals try simp only [Act.put, List.setIfInBounds_toArray, List.set_cons_zero, List.set_cons_succ]
    all_goals first | (refine soft_pass rfl HS ?_) | (refine soft_read (v := ?_) rfl (fun W hW => ?_) ?_; rotate_left; (· have A_A1 := cell_later hW A1; have A_KC0 := cell_later hW KC0; have A_KC1 := cell_later hW KC1; have A_KC2 := cell_later hW KC2; clear hW; go_simp; try with_reducible rfl))
    all_goals try simp only [Act.put, List.setIfInBounds_toArray, List.set_cons_zero, List.set_cons_succ]
    all_goals first | (refine soft_pass rfl HS ?_) | (refine soft_read (v := ?_) rfl (fun W hW => ?_) ?_; rotate_left; (· have A_A1 := cell_later hW A1; have A_KC0 := cell_later hW KC0; have A_KC1 := cell_later hW KC1; have A_KC2 := cell_later hW KC2; clear hW; go_simp; try with_reducible rfl))
    all_goals try simp only [Act.put, List.setIfInBounds_toArray, List.set_cons_zero, List.set_cons_succ]
    all_goals first | (refine soft_pass rfl HS ?_) | (refine soft_do rfl (fun K hK => ?_); go_simp; refine (specl13Put_c (HRQ.out.below HS) HF.out HX1.out HY.out).mono ?_; rintro e w6 ⟨v6, rfl, O6, hb6⟩; obtain ⟨pa, pn, pc, hp, HPN⟩ := O6.parts; obtain rfl := hp; replace O6 := Lib.hid O6; have hzS := HS.size; have hz6 := hb6.size; replace HS := HS.trans (hb6.mono HS.size); refine hK _ _ HS ?_; clear hK K hb6)
    all_goals try simp only [Act.put, List.setIfInBounds_toArray, List.set_cons_zero, List.set_cons_succ]
    all_goals first | (refine soft_pass rfl HS ?_) | (refine soft_read (v := ?_) rfl (fun W hW => ?_) ?_; rotate_left; (· go_simp; try with_reducible rfl))
    all_goals try simp only [Act.put, List.setIfInBounds_toArray, List.set_cons_zero, List.set_cons_succ]
    all_goals refine soft_nil ?_
    have A1b := cell_later HS A1
    have HO8 := Lib.hid (HO6.out.below HS)
    have hfz := Rep.own0_frozen HO8.out (by omega) (k * 3 + 1)
    have hlx : (putR (f, x1, y3) l[k].2.1).length ≤ Big := Nat.le_trans (putR_len _ _) (by unfold Big; omega)
    have HS9 := Lib.hid (pend_setReq HO8.out hkl O6.out hlx (fun j h1 h2 => by have p := h1.2; have q := h2.1; omega))
    have HC9 := Lib.hid (HS9.out.cast (by rw [HT.out.1, HR.out] : _ = addQ (n, x1, x2, x3) f t l))
    have E9 := E6.trans (HS.mono E6.size)
    clear HS9
    go_wp2
    go_ret2
    exact ⟨_, by rw [HT.out.2]; rfl, (HC9.out.own (by rw [HT.out.1]; simp; unfold Big; omega)).wide (fun j hj => by rcases hj with hj | hj; exact ⟨by have := hj.1; omega, by have := hj.2; simp [World.setCell]; omega⟩; exact ⟨by have := hj.1; omega, by have := hj.2; simp [World.setCell]; omega⟩), E9.setCell (show w.heap.size ≤ b by have := hbS.1; omega) _⟩
set_option maxRecDepth 100000 in
set_option maxHeartbeats 4000000 in
theorem implAddRequester_s {w : World} {vl : Value} {l : List LPendingInterest} (hl : (Rep.slice 57 RPendingInterest).rd w [vl] l) (hsm : (Rep.slice 57 RPendingInterest).bdd 1048576 l) {cx : List Value} {x : LInterest} (hx : RInterest.rd w cx x) {f : Int} (hf : -9223372036854775808 ≤ f ∧ f ≤ 9223372036854775807) {t : Int} (ht : -9223372036854775808 ≤ t ∧ t ≤ 9223372036854775807) :
    Calls Try.prog 9 #[vl, .agg cx.toArray, .int .i64 f, .int .i64 t] w fun e w' => ∃ v, e = .returned (.tuple #[v, .bool (addQok x f l)]) ∧ (Rep.slice 57 RPendingInterest).own w' [v] (addQ x f t l) (Btw w.heap.size w'.heap.size) ∧ Below w.heap.size w w' := by
  have HL := Lib.hid hl
  have HSM := Lib.hid hsm
  have hlb : l.length ≤ 16777216 := hl.2.1
  have HW := Lib.hid hx
  obtain ⟨nv, rfl, r_0, r_1, r_2, r_3, r_4⟩ := RInterest_raw hx.1
  obtain ⟨n, x1, x2, x3⟩ := x
  have HN : Hid (RName.rd w [nv] n) := Lib.hid ⟨r_0, hx.2.1⟩
  obtain ⟨na, np, hnv, _⟩ := Rep.len_raw r_1; obtain rfl : nv = _ := by simpa using hnv
  obtain ⟨va, vp, hvl, hvll⟩ := Rep.len_raw hl.1; obtain rfl : vl = _ := by simpa using hvl
  have HF := Lib.hid hf
  have HX1 := Lib.hid r_2
  clear hnv r_0 r_1 r_2 r_3 r_4 hl hx hvl hf ht hsm
  go_enter Try.func9, Try.ntmps9
  go_upto_region 1 with fail
  generalize hwB : World.alloc (World.alloc w _) _ = wB
  have EB : Below w.heap.size w wB := by rw [← hwB]; exact (by repeat (first | (with_reducible exact Below.refl _ _) | refine Below.alloc ?_ (by simp; try omega) _ | refine Below.drew ?_ | refine Below.setCell ?_ (by simp; try omega) _))
  have K0 : wB.cell? ⟨w.heap.size, 0, none⟩ = some (.slice na n.length np) := by rw [← hwB]; simp [go_sem]
  have K1 : wB.cell? ⟨w.heap.size, 1, none⟩ = some (.int .i64 x1) := by rw [← hwB]; simp [go_sem]
  have K2 : wB.cell? ⟨w.heap.size, 2, none⟩ = some (.int .i64 x2) := by rw [← hwB]; simp [go_sem]
  have K3 : wB.cell? ⟨w.heap.size, 3, none⟩ = some (.int .i64 x3) := by rw [← hwB]; simp [go_sem]
  have KF : wB.cell? ⟨w.heap.size + 1, 0, none⟩ = some (.int .i64 f) := by rw [← hwB]; simp [go_sem]
  have hzB : wB.heap.size = w.heap.size + 2 := by rw [← hwB]; simp
  clear hwB
  go_wp2_with fail
  refine (implcopyPending_0 (HL.out.below EB)).mono ?_
  rintro e w1 ⟨v1, rfl, O1, hb1⟩
  replace K0 := cell_later hb1 K0
  replace K1 := cell_later hb1 K1
  replace K2 := cell_later hb1 K2
  replace K3 := cell_later hb1 K3
  replace KF := cell_later hb1 KF
  have E1 := EB.trans (hb1.mono EB.size)
  have hz1 := hb1.size
  have HO := Lib.hid O1
  obtain ⟨oa, on, oc, ho, HON⟩ := O1.parts; obtain rfl := ho
  clear O1 hb1 EB
  go_wp2_with fail
  refine (implpendingAt_c (HL.out.1.below E1) (HN.out.1.below E1)).mono ?_
  rintro e w4 ⟨rfl, hb4⟩
  replace K0 := cell_later hb4 K0
  replace K1 := cell_later hb4 K1
  replace K2 := cell_later hb4 K2
  replace K3 := cell_later hb4 K3
  replace KF := cell_later hb4 KF
  have E4 := E1.trans (hb4.mono E1.size)
  have hz4 := hb4.size
  replace HO := Lib.hid ((HO.out.below hb4).wide (T := Btw wB.heap.size w4.heap.size) (fun j hj => ⟨hj.1, by have := hj.2; omega⟩))
  clear hb4 E1
  by_cases hk : idxOf (isPend n) l < 0
  · have HK : Hid (decide (idxOf (isPend n) l < 0) = true) := Lib.hid (by simpa using hk)
    go_upto_region 3 with fail
    refine wp_region_soft_plain (fun W => Below w4.heap.size w4 W) [true, false, true, true, true, false, true, true, true, true, true, true, true, true, true, true, true] ((Below.refl _ _)) ?_
    intro wS HS
    all_goals first | (refine soft_pass rfl HS ?_) | (refine soft_read (v := ?_) rfl (fun W hW => ?_) ?_; rotate_left; (· have A_K0 := cell_later hW K0; have A_K1 := cell_later hW K1; have A_K2 := cell_later hW K2; have A_K3 := cell_later hW K3; have A_KF := cell_later hW KF; clear hW; go_simp; try with_reducible rfl))
    all_goals try simp only [Act.put, List.setIfInBounds_toArray, List.set_cons_zero, List.set_cons_succ]
    all_goals first | (refine soft_pass rfl HS ?_) | (refine soft_do rfl (fun K hK => ?_); go_simp; refine (implValidInterest_w (HW.out.1.below (E4.trans (HS.mono E4.size)))).mono ?_; rintro e wV ⟨rfl, hbV⟩; replace HS := HS.trans (hbV.mono HS.size); refine hK _ _ HS ?_; clear hK K hbV)
    all_goals try simp only [Act.put, List.setIfInBounds_toArray, List.set_cons_zero, List.set_cons_succ]
    all_goals first | (refine soft_pass rfl HS ?_) | (refine soft_read (v := ?_) rfl (fun W hW => ?_) ?_; rotate_left; (· go_simp; try with_reducible rfl))
    all_goals try simp only [Act.put, List.setIfInBounds_toArray, List.set_cons_zero, List.set_cons_succ]
    all_goals first | (refine soft_pass rfl HS ?_; have hg3 := True.intro) | (refine soft_part (v := ?_) (b := ?_) rfl (fun W hW => ?_) ?_ (fun b hg3 => ?_); rotate_left; rotate_left; (· go_simp; try with_reducible rfl); (· with_reducible rfl); cases b; all_goals first | (exact Bool.noConfusion hg3) | (simp only [Bool.not_eq_true', Bool.not_eq_false'] at hg3) | skip)
    all_goals try simp only [Act.put, List.setIfInBounds_toArray, List.set_cons_zero, List.set_cons_succ]
    all_goals first | (refine soft_pass rfl HS ?_) | (refine soft_read (v := ?_) rfl (fun W hW => ?_) ?_; rotate_left; (· have A_K0 := cell_later hW K0; have A_K1 := cell_later hW K1; have A_K2 := cell_later hW K2; have A_K3 := cell_later hW K3; have A_KF := cell_later hW KF; clear hW; go_simp; try with_reducible rfl))
    all_goals try simp only [Act.put, List.setIfInBounds_toArray, List.set_cons_zero, List.set_cons_succ]
    all_goals first | (refine soft_pass rfl HS ?_) | (refine soft_do rfl (fun K hK => ?_); go_simp; refine (implInRange_c).mono ?_; rintro e wS1 ⟨rfl, hwS⟩; obtain rfl := hwS.symm; refine hK _ _ HS ?_; clear hK K)
    all_goals try simp only [Act.put, List.setIfInBounds_toArray, List.set_cons_zero, List.set_cons_succ]
    all_goals first | (refine soft_pass rfl HS ?_) | (refine soft_read (v := ?_) rfl (fun W hW => ?_) ?_; rotate_left; (· go_simp; try with_reducible rfl))
    all_goals try simp only [Act.put, List.setIfInBounds_toArray, List.set_cons_zero, List.set_cons_succ]
    all_goals first | (refine soft_pass rfl HS ?_) | (refine soft_read (v := ?_) rfl (fun W hW => ?_) ?_; rotate_left; (· go_simp; try with_reducible rfl))
    all_goals try simp only [Act.put, List.setIfInBounds_toArray, List.set_cons_zero, List.set_cons_succ]
    all_goals first | (refine soft_pass rfl HS ?_; have hg8 := True.intro) | (refine soft_part (v := ?_) (b := ?_) rfl (fun W hW => ?_) ?_ (fun b hg8 => ?_); rotate_left; rotate_left; (· go_simp; try with_reducible rfl); (· with_reducible rfl); cases b; all_goals first | (exact Bool.noConfusion hg8) | (simp only [Bool.not_eq_true', Bool.not_eq_false'] at hg8) | skip)
    all_goals try simp only [Act.put, List.setIfInBounds_toArray, List.set_cons_zero, List.set_cons_succ]
    all_goals first | (refine soft_pass rfl HS ?_) | (refine soft_read (v := ?_) rfl (fun W hW => ?_) ?_; rotate_left; (· go_simp; try with_reducible rfl))
    all_goals try simp only [Act.put, List.setIfInBounds_toArray, List.set_cons_zero, List.set_cons_succ]
    all_goals first | (refine soft_pass rfl HS ?_) | (refine soft_read (v := ?_) rfl (fun W hW => ?_) ?_; rotate_left; (· go_simp; try with_reducible rfl))
    all_goals try simp only [Act.put, List.setIfInBounds_toArray, List.set_cons_zero, List.set_cons_succ]
    all_goals first | (refine soft_pass rfl HS ?_; have hg11 := True.intro) | (refine soft_part (v := ?_) (b := ?_) rfl (fun W hW => ?_) ?_ (fun b hg11 => ?_); rotate_left; rotate_left; (· go_simp; try with_reducible rfl); (· with_reducible rfl); cases b; all_goals first | (exact Bool.noConfusion hg11) | (simp only [Bool.not_eq_true', Bool.not_eq_false'] at hg11) | skip)
    all_goals try simp only [Act.put, List.setIfInBounds_toArray, List.set_cons_zero, List.set_cons_succ]
    all_goals first | (refine soft_pass rfl HS ?_) | (refine soft_read (v := ?_) rfl (fun W hW => ?_) ?_; rotate_left; (· go_simp; try with_reducible rfl))
    all_goals try simp only [Act.put, List.setIfInBounds_toArray, List.set_cons_zero, List.set_cons_succ]
    all_goals first | (refine soft_pass rfl HS ?_) | (refine soft_read (v := ?_) rfl (fun W hW => ?_) ?_; rotate_left; (· go_simp; try with_reducible rfl))
    all_goals try simp only [Act.put, List.setIfInBounds_toArray, List.set_cons_zero, List.set_cons_succ]
    all_goals first | (refine soft_pass rfl HS ?_) | (refine soft_read (v := ?_) rfl (fun W hW => ?_) ?_; rotate_left; (· go_simp; try with_reducible rfl))
    all_goals try simp only [Act.put, List.setIfInBounds_toArray, List.set_cons_zero, List.set_cons_succ]
    all_goals first | (refine soft_pass rfl HS ?_) | (refine soft_read (v := ?_) rfl (fun W hW => ?_) ?_; rotate_left; (· go_simp; try with_reducible rfl))
    all_goals try simp only [Act.put, List.setIfInBounds_toArray, List.set_cons_zero, List.set_cons_succ]
    all_goals first | (refine soft_pass rfl HS ?_; have hg16 := True.intro) | (refine soft_part (v := ?_) (b := ?_) rfl (fun W hW => ?_) ?_ (fun b hg16 => ?_); rotate_left; rotate_left; (· go_simp; try with_reducible rfl); (· with_reducible rfl); cases b; all_goals first | (exact Bool.noConfusion hg16) | (simp only [Bool.not_eq_true', Bool.not_eq_false'] at hg16) | skip)
    all_goals try simp only [Act.put, List.setIfInBounds_toArray, List.set_cons_zero, List.set_cons_succ]
    all_goals refine soft_nil ?_
    all_goals have E5 := E4.trans (HS.mono E4.size)
    all_goals have HO5 := Lib.hid (HO.out.below HS)
    all_goals have hz5 := HS.size
    all_goals have LK0 := cell_later HS K0
    all_goals have LK1 := cell_later HS K1
    all_goals have LK2 := cell_later HS K2
    all_goals have LK3 := cell_later HS K3
    all_goals have LKF := cell_later HS KF
    all_goals clear K0 K1 K2 K3 KF HO
    all_goals first | (have HT := Lib.hid (addQ_no (t := t) (show addQok (n, x1, x2, x3) f l = false by simp only [addQok, HK.out, Bool.not_true, Bool.not_false, Bool.and_true, Bool.true_and, Bool.and_false, Bool.false_and, Bool.or_true, Bool.true_or, Bool.or_false, Bool.false_or, Bool.not_not, ge_iff_le, hg3, hg8, hg11, hg16, hg16])); go_wp2; go_ret2; exact ⟨_, by rw [HT.out.2]; rfl, (((pend_own0 HO5.out).cast HT.out.1.symm).own (by rw [HT.out.1]; exact hlb)).wide (fun j hj => ⟨by have := hj.1; omega, by have := hj.2; omega⟩), E5⟩) | skip
    have HT := Lib.hid (addQ_new (t := t) (show addQok (n, x1, x2, x3) f l = true by simp only [addQok, HK.out, Bool.not_true, Bool.not_false, Bool.and_true, Bool.true_and, Bool.and_false, Bool.false_and, Bool.or_true, Bool.true_or, Bool.or_false, Bool.false_or, Bool.not_not, ge_iff_le, hg3, hg8, hg11, hg16, hg16]) hk)
    have h12 := addQok_len HT.out.2 hk
    have hk2 : ¬ (0 ≤ idxOf (isPend n) l) := by omega
    generalize hq : idxOf (isPend n) l = q at *
    clear hq HK
    go_upto_region 6 with fail
    generalize hy3 : wrap64 (t + x3) = y3
    have HR : Hid (reqOf (n, x1, x2, x3) f t = (f, x1, y3)) := Lib.hid (by rw [← hy3]; rfl)
    have HY : Hid (-9223372036854775808 ≤ y3 ∧ y3 ≤ 9223372036854775807) := Lib.hid (by rw [← hy3]; exact wrap_range _)
    clear hy3
    generalize hwC : World.alloc _ _ = wC
    have EC : Below wV.heap.size wV wC := by rw [← hwC]; exact (Below.refl _ _).alloc (Nat.le_refl _) _
    have hzC : wV.heap.size ≤ wC.heap.size := EC.size
    have KC0 : wC.cell? ⟨wV.heap.size, 0, none⟩ = some (.int .i64 f) := by rw [← hwC]; simp [go_sem]
    have KC1 : wC.cell? ⟨wV.heap.size, 1, none⟩ = some (.int .i64 x1) := by rw [← hwC]; simp [go_sem]
    have KC2 : wC.cell? ⟨wV.heap.size, 2, none⟩ = some (.int .i64 y3) := by rw [← hwC]; simp [go_sem]
    have E6 := E5.trans (EC.mono E5.size)
    have HO6 := Lib.hid (HO5.out.below EC)
    replace LK0 := cell_later EC LK0
    replace LKF := cell_later EC LKF
    clear hwC LK1 LK2 LK3 HO5 HS EC
    go_upto_region 7 with fail
    have HO : Hid (Rep.own0 57 RPend0 wC.drew (.slice oa on oc) l (Btw wB.heap.size w4.heap.size)) := Lib.hid (Rep.own0.drew HO6.out)
    have HS : Below w.heap.size w wC.drew ∧ (wC.drew.cell? ⟨w.heap.size, 0, none⟩ = some (.slice na n.length np) ∧ wC.drew.cell? ⟨wV.heap.size, 0, none⟩ = some (.int .i64 f) ∧ wC.drew.cell? ⟨wV.heap.size, 1, none⟩ = some (.int .i64 x1) ∧ wC.drew.cell? ⟨wV.heap.size, 2, none⟩ = some (.int .i64 y3)) := ⟨E6.trans (Below.refl _ _).drew, LK0, KC0, KC1, KC2⟩
    have hzw : w.heap.size ≤ wC.drew.heap.size := HS.1.size
    refine wp_region_tree1 (fun W => Below w.heap.size w W ∧ (W.cell? ⟨w.heap.size, 0, none⟩ = some (.slice na n.length np) ∧ W.cell? ⟨wV.heap.size, 0, none⟩ = some (.int .i64 f) ∧ W.cell? ⟨wV.heap.size, 1, none⟩ = some (.int .i64 x1) ∧ W.cell? ⟨wV.heap.size, 2, none⟩ = some (.int .i64 y3))) (by kernel_rfl) HS ?_
    change tree _ _ _ _ _ _ _ wC.drew
    have hzD : wC.heap.size ≤ wC.drew.heap.size := Nat.le_refl _
    generalize hwD : wC.drew = wD at *
    clear hwD HO6 LK0 KC0 KC1 KC2
    refine tree_read (k := 0) (v := ?_) rfl (by kernel_rfl) (fun c a d v w h => by cases d <;> exact h) rfl HS (fun W hW => ?_) ?_
    rotate_left
    · go_simp; try with_reducible rfl
    try simp only [Act.put, List.setIfInBounds_toArray, List.set_cons_zero, List.set_cons_succ]
    refine tree_read (k := 1) (v := ?_) rfl (by kernel_rfl) (fun c a d v w h => by cases d <;> exact h) rfl HS (fun W hW => ?_) ?_
    rotate_left
    · go_simp; try with_reducible rfl
    try simp only [Act.put, List.setIfInBounds_toArray, List.set_cons_zero, List.set_cons_succ]
    refine tree_read (k := 2) (v := ?_) rfl (by kernel_rfl) (fun c a d v w h => by cases d <;> exact h) rfl HS (fun W hW => ?_) ?_
    rotate_left
    · obtain ⟨_, A0, A1, A2, A3⟩ := hW; go_simp; try with_reducible rfl
    try simp only [Act.put, List.setIfInBounds_toArray, List.set_cons_zero, List.set_cons_succ]
    refine tree_read (k := 4) (v := ?_) rfl (by kernel_rfl) (fun c a d v w h => by cases d <;> exact h) rfl HS (fun W hW => ?_) ?_
    rotate_left
    · obtain ⟨_, A0, A1, A2, A3⟩ := hW; go_simp; try with_reducible rfl
    try simp only [Act.put, List.setIfInBounds_toArray, List.set_cons_zero, List.set_cons_succ]
    refine tree_two (i := 3) (j := 5) rfl rfl (by kernel_rfl) rfl rfl (fun K hK => ?_) (fun K hK => ?_)
    · have bn0 := HS.1.size
      go_simp
      refine (implcopyName_c (HN.out.below HS.1)).mono ?_
      rintro e wT ⟨tc, rfl, OT, hbT⟩
      obtain ⟨tv0, rfl, t_0⟩ := RName_raw OT.raw
      obtain ⟨ta0, tp0, th0, _⟩ := Rep.len_raw t_0; obtain rfl : tv0 = _ := (by simpa using th0)
      clear th0 t_0
      replace OT := Lib.hid OT
      have hsT := hbT.size
      replace HO := Lib.hid (HO.out.below hbT)
      replace HS := And.intro (HS.1.trans (hbT.mono HS.1.size)) (And.intro (cell_later hbT HS.2.1) (And.intro (cell_later hbT HS.2.2.1) (And.intro (cell_later hbT HS.2.2.2.1) (cell_later hbT HS.2.2.2.2))))
      refine hK _ _ HS ?_
      clear hK K hbT
      refine tree_one (k := 5) rfl (by kernel_rfl) rfl (fun K hK => ?_)
      have bn1 := HS.1.size
      go_simp
      have HQ : Hid (Rep.own0 53 RRequester (wT.alloc (.cells #[.int .i64 f, .int .i64 x1, .int .i64 y3] 53)) (.slice (some ⟨wT.heap.size, 0, none⟩) 1 1) [(f, x1, y3)] (Btw wT.heap.size (wT.heap.size + 1))) := Lib.hid (Rep.own0_lit (e := 53) (r := RRequester) (w := wT) (cs := [.int .i64 f, .int .i64 x1, .int .i64 y3]) (xs := [(f, x1, y3)]) (T := fun _ => False) (S := Btw wT.heap.size (wT.heap.size + 1)) (by intro y hy; simp only [List.mem_singleton] at hy; rw [hy]; exact ⟨trivial, trivial, trivial⟩) (by simp [maxLen]) ⟨_, [], _, _, by simp, (Rep.flat.own (S := fun _ => False) (Rep.flat_pair (Rep.flat_int HF.out) (Rep.flat_pair (Rep.flat_int HX1.out) (Rep.flat_int HY.out)))).1, rfl, fun _ h => h, fun _ h => h, fun _ _ h _ => h⟩ (fun _ h => h.elim) ⟨Nat.le_refl _, by omega⟩)
      obtain ⟨qb, hqb⟩ : ∃ q, q = wT.heap.size := ⟨_, rfl⟩
      rw [← hqb] at HQ
      have EU : Below wT.heap.size wT (World.alloc wT (.cells #[.int .i64 f, .int .i64 x1, .int .i64 y3] 53)) := ((Below.refl _ _).alloc (Nat.le_refl _) _)
      have hzU : wT.heap.size + 1 = (World.alloc wT (.cells #[.int .i64 f, .int .i64 x1, .int .i64 y3] 53)).heap.size := (by simp)
      generalize hwU : World.alloc wT (.cells #[.int .i64 f, .int .i64 x1, .int .i64 y3] 53) = wU at HQ EU hzU ⊢
      clear hwU
      replace HO := Lib.hid (HO.out.below EU)
      replace OT := Lib.hid (OT.out.below EU)
      replace HS := And.intro (HS.1.trans (EU.mono HS.1.size)) (And.intro (cell_later EU HS.2.1) (And.intro (cell_later EU HS.2.2.1) (And.intro (cell_later EU HS.2.2.2.1) (cell_later EU HS.2.2.2.2))))
      replace hzU : wT.heap.size + 1 ≤ wU.heap.size := Nat.le_of_eq hzU
      rw [← hqb]
      replace hqb := Nat.le_antisymm_iff.1 hqb
      refine hK _ _ HS ?_
      clear hK K EU
      refine tree_read (k := 6) (v := ?_) rfl (by kernel_rfl) (fun c a d v w h => by cases d <;> exact h) rfl HS (fun W hW => ?_) ?_
      rotate_left
      · go_simp; try with_reducible rfl
      try simp only [Act.put, List.setIfInBounds_toArray, List.set_cons_zero, List.set_cons_succ]
      refine tree_one (k := 7) rfl (by kernel_rfl) rfl (fun K hK => ?_)
      have bn2 := HS.1.size
      go_simp
      have EL : Below wU.heap.size wU (World.alloc wU (.cells #[.slice ta0 n.length tp0, .slice (some ⟨qb, 0, none⟩) 1 1, .int .i64 0] 57)) := ((Below.refl _ _).alloc (Nat.le_refl _) _)
      obtain ⟨v5, w5, hr5, ho5, ht5⟩ := run_push1 (P := Try.prog) (t := 30) (ty := 30) (r := RPend0) (e := 57) (w := wU) (u := World.alloc wU (.cells #[.slice ta0 n.length tp0, .slice (some ⟨qb, 0, none⟩) 1 1, .int .i64 0] 57)) Try.underlying30 infPendingInterest rfl (by decide) (by decide) HO.out (b := wU.heap.size) rfl (Rep.own.wide (T := Btw w4.heap.size wU.heap.size) (Rep.own_pair (r := RName) (q := Rep.pair (Rep.slice0 53 RRequester) Rep.int) (cs := [.slice ta0 n.length tp0]) (ds := [.slice (some ⟨qb, 0, none⟩) 1 1, .int .i64 0]) (x := n) (y := ([(f, x1, y3)], 0)) (S := Btw w4.heap.size wU.heap.size) OT.out (Rep.own_flat (r := (Rep.slice0 53 RRequester)) (q := Rep.int) (cs := [.slice (some ⟨qb, 0, none⟩) 1 1]) (ds := [.int .i64 0]) (x := [(f, x1, y3)]) (y := 0) (HQ.out.own0h (by simp [Big])) (Rep.flat_int ⟨by decide, by decide⟩)) (fun j hj => ⟨by have := hj.1; omega, by have := hj.2; omega⟩) (fun j hj => ⟨by have := hj.1; omega, by have := hj.2; omega⟩) (fun j h1 h2 => by have p := h1.2; have q := h2.1; have p2 := h1.1; have q2 := h2.2; omega)) (fun j hj => hj)) rfl (fun j h1 h2 => by have p := h1.2; have q := h2.1; omega) (by omega)
      have hzL : wU.heap.size < (World.alloc wU (.cells #[.slice ta0 n.length tp0, .slice (some ⟨qb, 0, none⟩) 1 1, .int .i64 0] 57)).heap.size := (by simp)
      obtain ⟨lb, hlb2⟩ : ∃ q, q = wU.heap.size := ⟨_, rfl⟩
      rw [← hlb2] at hr5
      generalize hwL : World.alloc wU (.cells #[.slice ta0 n.length tp0, .slice (some ⟨qb, 0, none⟩) 1 1, .int .i64 0] 57) = wL at EL hr5 ht5 hzL ⊢
      clear hwL
      replace HS := And.intro (HS.1.trans (EL.mono HS.1.size)) (And.intro (cell_later EL HS.2.1) (And.intro (cell_later EL HS.2.2.1) (And.intro (cell_later EL HS.2.2.2.1) (cell_later EL HS.2.2.2.2))))
      rw [← hlb2]
      replace hlb2 := Nat.le_antisymm_iff.1 hlb2
      refine hK _ _ HS ?_
      clear hK K EL
      refine tree_one (k := 8) rfl (by kernel_rfl) rfl (fun K hK => ?_)
      have bn3 := HS.1.size
      obtain ⟨pa, pn, pc, hp, HPN⟩ := ho5.parts; obtain rfl := hp
      have hblk : ∀ k, (some k = (Value.slice oa on oc).ownBlock ∧ Btw wB.heap.size w4.heap.size k) → wB.heap.size ≤ k ∧ k < w4.heap.size := fun k hk => hk.2
      have hkeep : ∀ (bb i : Nat) (u : Value), wL.cell? ⟨bb, i, none⟩ = some u → (bb < wB.heap.size ∨ w4.heap.size ≤ bb) → w5.cell? ⟨bb, i, none⟩ = some u := fun bb i u hu hq => by have e1 : w5.heap[bb]? = wL.heap[bb]? := ht5.block _ (World.block_lt_of_cell? _ _ hu) (fun q => by have := q.2.1; have := q.2.2; omega); unfold World.cell? at hu ⊢; simp only [e1]; exact hu
      have hbt : Below w.heap.size wL w5 := ht5.below (by have := HS.1.size; omega) (fun k hk => by have := hk.2.1; omega)
      have hz5b := ht5.size
      replace HS := And.intro (HS.1.trans hbt) (And.intro (hkeep _ _ _ HS.2.1 (.inl (by omega))) (And.intro (hkeep _ _ _ HS.2.2.1 (.inr (by omega))) (And.intro (hkeep _ _ _ HS.2.2.2.1 (.inr (by omega))) (hkeep _ _ _ HS.2.2.2.2 (.inr (by omega))))))
      refine Rep.wp_append _ _ _ rfl (by rfl) (by rfl) hr5 ?_
      refine hK _ _ HS ?_
      clear hK K hr5 ht5 hkeep hblk hbt
      refine tree_read (k := 9) (v := ?_) rfl (by kernel_rfl) (fun c a d v w h => by cases d <;> exact h) rfl HS (fun W hW => ?_) ?_
      rotate_left
      · go_simp; try with_reducible rfl
      try simp only [Act.put, List.setIfInBounds_toArray, List.set_cons_zero, List.set_cons_succ]
      refine tree_read (k := 10) (v := ?_) rfl (by kernel_rfl) (fun c a d v w h => by cases d <;> exact h) rfl HS (fun W hW => ?_) ?_
      rotate_left
      · go_simp; try with_reducible rfl
      try simp only [Act.put, List.setIfInBounds_toArray, List.set_cons_zero, List.set_cons_succ]
      refine tree_end (by kernel_rfl) ?_
      have HO9 := Lib.hid ((pend_own0 ho5).cast (by rw [HT.out.1, HR.out] : _ = addQ (n, x1, x2, x3) f t l))
      have E9 := HS.1
      clear ho5
      go_wp2
      go_ret2
      exact ⟨_, by rw [HT.out.2]; rfl, (HO9.out.own (by rw [HT.out.1]; simp; unfold Big; omega)).wide (fun j hj => by rcases hj with hj | hj | hj; exact ⟨by have := hj.1; omega, by have := hj.2; omega⟩; exact ⟨by have := hj.1; omega, by have := hj.2; omega⟩; exact ⟨by have := hj.1; omega, by have := hj.2; omega⟩), E9⟩
    · have bn0 := HS.1.size
      go_simp
      have HQ : Hid (Rep.own0 53 RRequester (wD.alloc (.cells #[.int .i64 f, .int .i64 x1, .int .i64 y3] 53)) (.slice (some ⟨wD.heap.size, 0, none⟩) 1 1) [(f, x1, y3)] (Btw wD.heap.size (wD.heap.size + 1))) := Lib.hid (Rep.own0_lit (e := 53) (r := RRequester) (w := wD) (cs := [.int .i64 f, .int .i64 x1, .int .i64 y3]) (xs := [(f, x1, y3)]) (T := fun _ => False) (S := Btw wD.heap.size (wD.heap.size + 1)) (by intro y hy; simp only [List.mem_singleton] at hy; rw [hy]; exact ⟨trivial, trivial, trivial⟩) (by simp [maxLen]) ⟨_, [], _, _, by simp, (Rep.flat.own (S := fun _ => False) (Rep.flat_pair (Rep.flat_int HF.out) (Rep.flat_pair (Rep.flat_int HX1.out) (Rep.flat_int HY.out)))).1, rfl, fun _ h => h, fun _ h => h, fun _ _ h _ => h⟩ (fun _ h => h.elim) ⟨Nat.le_refl _, by omega⟩)
      obtain ⟨qb, hqb⟩ : ∃ q, q = wD.heap.size := ⟨_, rfl⟩
      rw [← hqb] at HQ
      have EU : Below wD.heap.size wD (World.alloc wD (.cells #[.int .i64 f, .int .i64 x1, .int .i64 y3] 53)) := ((Below.refl _ _).alloc (Nat.le_refl _) _)
      have hzU : wD.heap.size + 1 = (World.alloc wD (.cells #[.int .i64 f, .int .i64 x1, .int .i64 y3] 53)).heap.size := (by simp)
      generalize hwU : World.alloc wD (.cells #[.int .i64 f, .int .i64 x1, .int .i64 y3] 53) = wU at HQ EU hzU ⊢
      clear hwU
      replace HO := Lib.hid (HO.out.below EU)
      replace HS := And.intro (HS.1.trans (EU.mono HS.1.size)) (And.intro (cell_later EU HS.2.1) (And.intro (cell_later EU HS.2.2.1) (And.intro (cell_later EU HS.2.2.2.1) (cell_later EU HS.2.2.2.2))))
      replace hzU : wD.heap.size + 1 ≤ wU.heap.size := Nat.le_of_eq hzU
      rw [← hqb]
      replace hqb := Nat.le_antisymm_iff.1 hqb
      refine hK _ _ HS ?_
      clear hK K EU
      refine tree_one (k := 3) rfl (by kernel_rfl) rfl (fun K hK => ?_)
      have bn1 := HS.1.size
      go_simp
      refine (implcopyName_c (HN.out.below HS.1)).mono ?_
      rintro e wT ⟨tc, rfl, OT, hbT⟩
      obtain ⟨tv0, rfl, t_0⟩ := RName_raw OT.raw
      obtain ⟨ta0, tp0, th0, _⟩ := Rep.len_raw t_0; obtain rfl : tv0 = _ := (by simpa using th0)
      clear th0 t_0
      replace OT := Lib.hid OT
      have hsT := hbT.size
      replace HO := Lib.hid (HO.out.below hbT)
      replace HQ := Lib.hid (HQ.out.below hbT)
      replace HS := And.intro (HS.1.trans (hbT.mono HS.1.size)) (And.intro (cell_later hbT HS.2.1) (And.intro (cell_later hbT HS.2.2.1) (And.intro (cell_later hbT HS.2.2.2.1) (cell_later hbT HS.2.2.2.2))))
      refine hK _ _ HS ?_
      clear hK K hbT
      refine tree_read (k := 6) (v := ?_) rfl (by kernel_rfl) (fun c a d v w h => by cases d <;> exact h) rfl HS (fun W hW => ?_) ?_
      rotate_left
      · go_simp; try with_reducible rfl
      try simp only [Act.put, List.setIfInBounds_toArray, List.set_cons_zero, List.set_cons_succ]
      refine tree_one (k := 7) rfl (by kernel_rfl) rfl (fun K hK => ?_)
      have bn2 := HS.1.size
      go_simp
      have EL : Below wT.heap.size wT (World.alloc wT (.cells #[.slice ta0 n.length tp0, .slice (some ⟨qb, 0, none⟩) 1 1, .int .i64 0] 57)) := ((Below.refl _ _).alloc (Nat.le_refl _) _)
      obtain ⟨v5, w5, hr5, ho5, ht5⟩ := run_push1 (P := Try.prog) (t := 30) (ty := 30) (r := RPend0) (e := 57) (w := wT) (u := World.alloc wT (.cells #[.slice ta0 n.length tp0, .slice (some ⟨qb, 0, none⟩) 1 1, .int .i64 0] 57)) Try.underlying30 infPendingInterest rfl (by decide) (by decide) HO.out (b := wT.heap.size) rfl (Rep.own.wide (T := Btw w4.heap.size wT.heap.size) (Rep.own_pair (r := RName) (q := Rep.pair (Rep.slice0 53 RRequester) Rep.int) (cs := [.slice ta0 n.length tp0]) (ds := [.slice (some ⟨qb, 0, none⟩) 1 1, .int .i64 0]) (x := n) (y := ([(f, x1, y3)], 0)) (S := Btw w4.heap.size wT.heap.size) OT.out (Rep.own_flat (r := (Rep.slice0 53 RRequester)) (q := Rep.int) (cs := [.slice (some ⟨qb, 0, none⟩) 1 1]) (ds := [.int .i64 0]) (x := [(f, x1, y3)]) (y := 0) (HQ.out.own0h (by simp [Big])) (Rep.flat_int ⟨by decide, by decide⟩)) (fun j hj => ⟨by have := hj.1; omega, by have := hj.2; omega⟩) (fun j hj => ⟨by have := hj.1; omega, by have := hj.2; omega⟩) (fun j h1 h2 => by have p := h1.2; have q := h2.1; have p2 := h1.1; have q2 := h2.2; omega)) (fun j hj => hj)) rfl (fun j h1 h2 => by have p := h1.2; have q := h2.1; omega) (by omega)
      have hzL : wT.heap.size < (World.alloc wT (.cells #[.slice ta0 n.length tp0, .slice (some ⟨qb, 0, none⟩) 1 1, .int .i64 0] 57)).heap.size := (by simp)
      obtain ⟨lb, hlb2⟩ : ∃ q, q = wT.heap.size := ⟨_, rfl⟩
      rw [← hlb2] at hr5
      generalize hwL : World.alloc wT (.cells #[.slice ta0 n.length tp0, .slice (some ⟨qb, 0, none⟩) 1 1, .int .i64 0] 57) = wL at EL hr5 ht5 hzL ⊢
      clear hwL
      replace HS := And.intro (HS.1.trans (EL.mono HS.1.size)) (And.intro (cell_later EL HS.2.1) (And.intro (cell_later EL HS.2.2.1) (And.intro (cell_later EL HS.2.2.2.1) (cell_later EL HS.2.2.2.2))))
      rw [← hlb2]
      replace hlb2 := Nat.le_antisymm_iff.1 hlb2
      refine hK _ _ HS ?_
      clear hK K EL
      refine tree_one (k := 8) rfl (by kernel_rfl) rfl (fun K hK => ?_)
      have bn3 := HS.1.size
      obtain ⟨pa, pn, pc, hp, HPN⟩ := ho5.parts; obtain rfl := hp
      have hblk : ∀ k, (some k = (Value.slice oa on oc).ownBlock ∧ Btw wB.heap.size w4.heap.size k) → wB.heap.size ≤ k ∧ k < w4.heap.size := fun k hk => hk.2
      have hkeep : ∀ (bb i : Nat) (u : Value), wL.cell? ⟨bb, i, none⟩ = some u → (bb < wB.heap.size ∨ w4.heap.size ≤ bb) → w5.cell? ⟨bb, i, none⟩ = some u := fun bb i u hu hq => by have e1 : w5.heap[bb]? = wL.heap[bb]? := ht5.block _ (World.block_lt_of_cell? _ _ hu) (fun q => by have := q.2.1; have := q.2.2; omega); unfold World.cell? at hu ⊢; simp only [e1]; exact hu
      have hbt : Below w.heap.size wL w5 := ht5.below (by have := HS.1.size; omega) (fun k hk => by have := hk.2.1; omega)
      have hz5b := ht5.size
      replace HS := And.intro (HS.1.trans hbt) (And.intro (hkeep _ _ _ HS.2.1 (.inl (by omega))) (And.intro (hkeep _ _ _ HS.2.2.1 (.inr (by omega))) (And.intro (hkeep _ _ _ HS.2.2.2.1 (.inr (by omega))) (hkeep _ _ _ HS.2.2.2.2 (.inr (by omega))))))
      refine Rep.wp_append _ _ _ rfl (by rfl) (by rfl) hr5 ?_
      refine hK _ _ HS ?_
      clear hK K hr5 ht5 hkeep hblk hbt
      refine tree_read (k := 9) (v := ?_) rfl (by kernel_rfl) (fun c a d v w h => by cases d <;> exact h) rfl HS (fun W hW => ?_) ?_
      rotate_left
      · go_simp; try with_reducible rfl
      try simp only [Act.put, List.setIfInBounds_toArray, List.set_cons_zero, List.set_cons_succ]
      refine tree_read (k := 10) (v := ?_) rfl (by kernel_rfl) (fun c a d v w h => by cases d <;> exact h) rfl HS (fun W hW => ?_) ?_
      rotate_left
      · go_simp; try with_reducible rfl
      try simp only [Act.put, List.setIfInBounds_toArray, List.set_cons_zero, List.set_cons_succ]
      refine tree_end (by kernel_rfl) ?_
      have HO9 := Lib.hid ((pend_own0 ho5).cast (by rw [HT.out.1, HR.out] : _ = addQ (n, x1, x2, x3) f t l))
      have E9 := HS.1
      clear ho5
      go_wp2
      go_ret2
      exact ⟨_, by rw [HT.out.2]; rfl, (HO9.out.own (by rw [HT.out.1]; simp; unfold Big; omega)).wide (fun j hj => by rcases hj with hj | hj | hj; exact ⟨by have := hj.1; omega, by have := hj.2; omega⟩; exact ⟨by have := hj.1; omega, by have := hj.2; omega⟩; exact ⟨by have := hj.1; omega, by have := hj.2; omega⟩), E9⟩
  · have HK : Hid (decide (idxOf (isPend n) l < 0) = false) := Lib.hid (by simpa using hk)
    obtain ⟨k, hkl, hki⟩ := idxOf_at hk
    have HKI := Lib.hid hki
    rw [hki]
    have hkN : ¬ ((k : Int) < 0) := by omega
    clear hk hki
    go_upto_region 3 with fail
    refine wp_region_soft_plain (fun W => Below w4.heap.size w4 W) [true, false, true, true, true, false, true, true, true, true, true, true, true, true, true, true, true] ((Below.refl _ _)) ?_
    intro wS HS
    all_goals first | (refine soft_pass rfl HS ?_) | (refine soft_read (v := ?_) rfl (fun W hW => ?_) ?_; rotate_left; (· have A_K0 := cell_later hW K0; have A_K1 := cell_later hW K1; have A_K2 := cell_later hW K2; have A_K3 := cell_later hW K3; have A_KF := cell_later hW KF; clear hW; go_simp; try with_reducible rfl))
    all_goals try simp only [Act.put, List.setIfInBounds_toArray, List.set_cons_zero, List.set_cons_succ]
    all_goals first | (refine soft_pass rfl HS ?_) | (refine soft_do rfl (fun K hK => ?_); go_simp; refine (implValidInterest_w (HW.out.1.below (E4.trans (HS.mono E4.size)))).mono ?_; rintro e wV ⟨rfl, hbV⟩; replace HS := HS.trans (hbV.mono HS.size); refine hK _ _ HS ?_; clear hK K hbV)
    all_goals try simp only [Act.put, List.setIfInBounds_toArray, List.set_cons_zero, List.set_cons_succ]
    all_goals first | (refine soft_pass rfl HS ?_) | (refine soft_read (v := ?_) rfl (fun W hW => ?_) ?_; rotate_left; (· go_simp; try with_reducible rfl))
    all_goals try simp only [Act.put, List.setIfInBounds_toArray, List.set_cons_zero, List.set_cons_succ]
    all_goals first | (refine soft_pass rfl HS ?_; have hg3 := True.intro) | (refine soft_part (v := ?_) (b := ?_) rfl (fun W hW => ?_) ?_ (fun b hg3 => ?_); rotate_left; rotate_left; (· go_simp; try with_reducible rfl); (· with_reducible rfl); cases b; all_goals first | (exact Bool.noConfusion hg3) | (simp only [Bool.not_eq_true', Bool.not_eq_false'] at hg3) | skip)
    all_goals try simp only [Act.put, List.setIfInBounds_toArray, List.set_cons_zero, List.set_cons_succ]
    all_goals first | (refine soft_pass rfl HS ?_) | (refine soft_read (v := ?_) rfl (fun W hW => ?_) ?_; rotate_left; (· have A_K0 := cell_later hW K0; have A_K1 := cell_later hW K1; have A_K2 := cell_later hW K2; have A_K3 := cell_later hW K3; have A_KF := cell_later hW KF; clear hW; go_simp; try with_reducible rfl))
    all_goals try simp only [Act.put, List.setIfInBounds_toArray, List.set_cons_zero, List.set_cons_succ]
    all_goals first | (refine soft_pass rfl HS ?_) | (refine soft_do rfl (fun K hK => ?_); go_simp; refine (implInRange_c).mono ?_; rintro e wS1 ⟨rfl, hwS⟩; obtain rfl := hwS.symm; refine hK _ _ HS ?_; clear hK K)
    all_goals try simp only [Act.put, List.setIfInBounds_toArray, List.set_cons_zero, List.set_cons_succ]
    all_goals first | (refine soft_pass rfl HS ?_) | (refine soft_read (v := ?_) rfl (fun W hW => ?_) ?_; rotate_left; (· go_simp; try with_reducible rfl))
    all_goals try simp only [Act.put, List.setIfInBounds_toArray, List.set_cons_zero, List.set_cons_succ]
    all_goals first | (refine soft_pass rfl HS ?_) | (refine soft_read (v := ?_) rfl (fun W hW => ?_) ?_; rotate_left; (· go_simp; try with_reducible rfl))
    all_goals try simp only [Act.put, List.setIfInBounds_toArray, List.set_cons_zero, List.set_cons_succ]
    all_goals first | (refine soft_pass rfl HS ?_; have hg8 := True.intro) | (refine soft_part (v := ?_) (b := ?_) rfl (fun W hW => ?_) ?_ (fun b hg8 => ?_); rotate_left; rotate_left; (· go_simp; try with_reducible rfl); (· with_reducible rfl); cases b; all_goals first | (exact Bool.noConfusion hg8) | (simp only [Bool.not_eq_true', Bool.not_eq_false'] at hg8) | skip)
    all_goals try simp only [Act.put, List.setIfInBounds_toArray, List.set_cons_zero, List.set_cons_succ]
    all_goals first | (refine soft_pass rfl HS ?_) | (refine soft_read (v := ?_) rfl (fun W hW => ?_) ?_; rotate_left; (· go_simp; try with_reducible rfl))
    all_goals try simp only [Act.put, List.setIfInBounds_toArray, List.set_cons_zero, List.set_cons_succ]
    all_goals first | (refine soft_pass rfl HS ?_) | (refine soft_read (v := ?_) rfl (fun W hW => ?_) ?_; rotate_left; (· go_simp; try with_reducible rfl))
    all_goals try simp only [Act.put, List.setIfInBounds_toArray, List.set_cons_zero, List.set_cons_succ]
    all_goals first | (refine soft_pass rfl HS ?_; have hg11 := True.intro) | (refine soft_part (v := ?_) (b := ?_) rfl (fun W hW => ?_) ?_ (fun b hg11 => ?_); rotate_left; rotate_left; (· go_simp; try with_reducible rfl); (· with_reducible rfl); cases b; all_goals first | (exact Bool.noConfusion hg11) | (simp only [Bool.not_eq_true', Bool.not_eq_false'] at hg11) | skip)
    all_goals try simp only [Act.put, List.setIfInBounds_toArray, List.set_cons_zero, List.set_cons_succ]
    all_goals first | (refine soft_pass rfl HS ?_) | (refine soft_read (v := ?_) rfl (fun W hW => ?_) ?_; rotate_left; (· go_simp; try with_reducible rfl))
    all_goals try simp only [Act.put, List.setIfInBounds_toArray, List.set_cons_zero, List.set_cons_succ]
    all_goals first | (refine soft_pass rfl HS ?_) | (refine soft_read (v := ?_) rfl (fun W hW => ?_) ?_; rotate_left; (· go_simp; try with_reducible rfl))
    all_goals try simp only [Act.put, List.setIfInBounds_toArray, List.set_cons_zero, List.set_cons_succ]
    all_goals first | (refine soft_pass rfl HS ?_) | (refine soft_read (v := ?_) rfl (fun W hW => ?_) ?_; rotate_left; (· go_simp; try with_reducible rfl))
    all_goals try simp only [Act.put, List.setIfInBounds_toArray, List.set_cons_zero, List.set_cons_succ]
    all_goals first | (refine soft_pass rfl HS ?_) | (refine soft_read (v := ?_) rfl (fun W hW => ?_) ?_; rotate_left; (· go_simp; try with_reducible rfl))
    all_goals try simp only [Act.put, List.setIfInBounds_toArray, List.set_cons_zero, List.set_cons_succ]
    all_goals first | (refine soft_pass rfl HS ?_; have hg16 := True.intro) | (refine soft_part (v := ?_) (b := ?_) rfl (fun W hW => ?_) ?_ (fun b hg16 => ?_); rotate_left; rotate_left; (· go_simp; try with_reducible rfl); (· with_reducible rfl); cases b; all_goals first | (exact Bool.noConfusion hg16) | (simp only [Bool.not_eq_true', Bool.not_eq_false'] at hg16) | skip)
    all_goals try simp only [Act.put, List.setIfInBounds_toArray, List.set_cons_zero, List.set_cons_succ]
    all_goals refine soft_nil ?_
    all_goals have E5 := E4.trans (HS.mono E4.size)
    all_goals have HO5 := Lib.hid (HO.out.below HS)
    all_goals have hz5 := HS.size
    all_goals have LK0 := cell_later HS K0
    all_goals have LK1 := cell_later HS K1
    all_goals have LK2 := cell_later HS K2
    all_goals have LK3 := cell_later HS K3
    all_goals have LKF := cell_later HS KF
    all_goals clear K0 K1 K2 K3 KF HO
    all_goals first | (have HT := Lib.hid (addQ_no (t := t) (show addQok (n, x1, x2, x3) f l = false by simp only [addQok, HK.out, Bool.not_true, Bool.not_false, Bool.and_true, Bool.true_and, Bool.and_false, Bool.false_and, Bool.or_true, Bool.true_or, Bool.or_false, Bool.false_or, Bool.not_not, ge_iff_le, hg3, hg8, hg11, hg16, hg16])); go_wp2; go_ret2; exact ⟨_, by rw [HT.out.2]; rfl, (((pend_own0 HO5.out).cast HT.out.1.symm).own (by rw [HT.out.1]; exact hlb)).wide (fun j hj => ⟨by have := hj.1; omega, by have := hj.2; omega⟩), E5⟩) | skip
    have HT := Lib.hid (addQ_set (t := t) (show addQok (n, x1, x2, x3) f l = true by simp only [addQok, HK.out, Bool.not_true, Bool.not_false, Bool.and_true, Bool.true_and, Bool.and_false, Bool.false_and, Bool.or_true, Bool.true_or, Bool.or_false, Bool.false_or, Bool.not_not, ge_iff_le, hg3, hg8, hg11, hg16, hg16]) HKI.out hkl)
    go_upto_region 6 with fail
    generalize hy3 : wrap64 (t + x3) = y3
    have HR : Hid (reqOf (n, x1, x2, x3) f t = (f, x1, y3)) := Lib.hid (by rw [← hy3]; rfl)
    have HY : Hid (-9223372036854775808 ≤ y3 ∧ y3 ≤ 9223372036854775807) := Lib.hid (by rw [← hy3]; exact wrap_range _)
    clear hy3
    generalize hwC : World.alloc _ _ = wC
    have EC : Below wV.heap.size wV wC := by rw [← hwC]; exact (Below.refl _ _).alloc (Nat.le_refl _) _
    have hzC : wV.heap.size ≤ wC.heap.size := EC.size
    have KC0 : wC.cell? ⟨wV.heap.size, 0, none⟩ = some (.int .i64 f) := by rw [← hwC]; simp [go_sem]
    have KC1 : wC.cell? ⟨wV.heap.size, 1, none⟩ = some (.int .i64 x1) := by rw [← hwC]; simp [go_sem]
    have KC2 : wC.cell? ⟨wV.heap.size, 2, none⟩ = some (.int .i64 y3) := by rw [← hwC]; simp [go_sem]
    have E6 := E5.trans (EC.mono E5.size)
    have HO6 := Lib.hid (HO5.out.below EC)
    replace LK0 := cell_later EC LK0
    replace LKF := cell_later EC LKF
    clear hwC LK1 LK2 LK3 HO5 HS EC
    obtain ⟨b, cap, hv, hbS, hbl, hcap2, hcap3⟩ := Rep.own0_addr HO6.out hkl
    simp only [Value.slice.injEq] at hv
    obtain ⟨rfl, hon, rfl⟩ := hv
    have hkon : k < on := by omega
    have hkI : (0 : Int) ≤ k := by omega
    have hkI2 : (k : Int) < on := by omega
    clear hon
    have hq20 : l[k].2.1.length ≤ 1048576 := (HSM.out.2 _ (List.getElem_mem hkl)).2.1.1
    obtain ⟨ra, rp, B, A1, hQ, hB, hfr, hSb, hbz, hset⟩ := pend_part HO6.out hkl
    have HQ := Lib.hid hQ; have HSET := Lib.hid hset; have HB := Lib.hid hB; clear hset hQ hB
    have HBR : Hid (∀ j, B j → wB.heap.size ≤ j ∧ j < w4.heap.size) := Lib.hid (fun j hj => (HB.out j hj).1)
    clear HO6
    go_wp2_with fail
    refine (DeleteFunc_Requester_c (isFaceQ f) callable_implAddRequester1 HQ.out (by omega) (fun wr hb x cs hr => implAddRequester1_c hr ?_)).mono ?_
    · have e1 : wr.heap[w.heap.size + 1]? = wC.heap[w.heap.size + 1]? := hb.block _ (by omega) (fun q => by have := (HBR.out _ q).1; omega)
      rw [← LKF]; unfold World.cell?; simp only [e1]
    rintro e w6 ⟨v6, rfl, O6, T6⟩
    have HT6 := Lib.hid T6
    have hkeep6 : ∀ (bb i : Nat) (u : Value), wC.cell? ⟨bb, i, none⟩ = some u → (bb < wB.heap.size ∨ w4.heap.size ≤ bb) → w6.cell? ⟨bb, i, none⟩ = some u := fun bb i u hu hq => by
      have e1 : w6.heap[bb]? = wC.heap[bb]? := T6.block _ (World.block_lt_of_cell? _ _ hu) (fun q => by have := HBR.out _ q; omega)
      unfold World.cell? at hu ⊢; simp only [e1]; exact hu
    replace LKF := hkeep6 _ _ _ LKF (.inl (by omega))
    replace KC0 := hkeep6 _ _ _ KC0 (.inr (by omega))
    replace KC1 := hkeep6 _ _ _ KC1 (.inr (by omega))
    replace KC2 := hkeep6 _ _ _ KC2 (.inr (by omega))
    have hz6 := T6.size
    obtain ⟨i, hi, hput, hcase⟩ := putR_idx (f, x1, y3) l[k].2.1
    obtain ⟨M, hM⟩ : ∃ M, M = reqNot (f, x1, y3).1 l[k].2.1 := ⟨_, rfl⟩
    rw [← hM] at hi hput hcase
    have HM : Hid (Rep.own0 53 RRequester w6 v6 M B) := Lib.hid (O6.cast (by rw [hM]; rfl))
    have hMl : M.length ≤ 1048576 := by rw [hM]; exact Nat.le_trans (List.length_filter_le _ _) hq20
    have HPUT := Lib.hid hput
    obtain ⟨pa, pn, pc, hp, HPN⟩ := HM.out.parts; obtain rfl := hp
    have HA1 := Lib.hid A1
    clear O6 T6 hkeep6 A1 HQ hM hput
    go_wp2_with fail
    refine (IndexFunc_Requester_c (fun r => decide (f ≤ r.1)) callable_implAddRequester2 HM.out.raw0 (fun wr hb i h cs hr => implAddRequester2_c hr (cell_later hb LKF))).mono ?_
    rintro e w7 ⟨rfl, hb7⟩
    have hz7 := hb7.size
    have HM7 := Lib.hid (HM.out.below hb7)
    have HB7 := Lib.hid hb7
    replace KC0 := cell_later hb7 KC0
    replace KC1 := cell_later hb7 KC1
    replace KC2 := cell_later hb7 KC2
    clear HM hb7
    rcases hcase with ⟨hx, hi2⟩ | hx
    · have hx : idxOf (fun r : LRequester => decide (f ≤ r.1)) M = -1 := hx
      obtain rfl : i = pn := hi2.trans HPN.out.symm
      rw [hx]
      clear hx hi2
      go_wp2_with fail
      refine (Insert_Requester_c (cx := [.int .i64 f, .int .i64 x1, .int .i64 y3]) (x := (f, x1, y3)) (HM7.out.alloc _) (by omega) (heap_alloc_new w7 _) (fun q => by have := (HBR.out _ q).2; omega) (Rep.flat.own (S := fun _ => False) (Rep.flat_pair (Rep.flat_int HF.out) (Rep.flat_pair (Rep.flat_int HX1.out) (Rep.flat_int HY.out)))).1 ⟨trivial, trivial, trivial⟩ hi).mono ?_
      rintro e w8 ⟨v8, rfl, O8, T8⟩
      have hz8 := T8.size
      simp only [World.size_alloc] at hz8
      have HEQ : Hid (∀ j, j < wC.heap.size → ¬ B j → w8.heap[j]? = wC.heap[j]?) := Lib.hid (fun j hj hn => by
        rw [T8.block j (by simp; omega) hn, heap_alloc_old w7 _ (by omega), HB7.out.block j (by omega)]; exact HT6.out.block j hj hn)
      have HS8 := Lib.hid (HSET.out w8 v8 (putR (f, x1, y3) l[k].2.1) _ (fun j hj hn => HEQ.out j (by have := hj.2; omega) hn) (O8.cast HPUT.out.symm) (fun j hj => hj.elim .inl (fun q => .inr (fun p => by have := p.2; have := q.1; simp at this; omega))) (Nat.le_trans (putR_len _ _) (by unfold Big; omega)))
      have HC9 := Lib.hid ((pend_own0 HS8.out).cast (by rw [HT.out.1, HR.out] : _ = addQ (n, x1, x2, x3) f t l))
      have hbB : ¬ B b := fun q => (HB.out b q).2 rfl
      have e1 := HEQ.out b hbz hbB
      have hu1 : w8.cell? ⟨b, k * 3 + 1, none⟩ = some (.slice ra l[k].2.1.length rp) := by
        have A1 := HA1.out
        unfold World.cell? at A1 ⊢; simp only [e1]; exact A1
      have hfz : w8.frozen? ⟨b, k * 3 + 1, none⟩ = false := by rw [← hfr]; unfold World.frozen?; simp only [e1]
      have E8 : Below w.heap.size w w8 := (((E6.trans (HT6.out.below (by omega) (fun j hj => by have := (HBR.out j hj).1; omega))).trans (HB7.out.mono (by omega))).alloc (by omega) _).trans (T8.below (by simp; omega) (fun j hj => by have := (HBR.out j hj).1; omega))
      obtain ⟨qa, qn, qc, hq8, HQN⟩ := O8.parts; obtain rfl := hq8
      clear O8 T8 HS8 HEQ e1 HM7
      go_wp2
      go_ret2
      exact ⟨_, by rw [HT.out.2]; rfl, (HC9.out.own (by rw [HT.out.1]; simp; unfold Big; omega)).wide (fun j hj => by rcases hj with hj | hj | hj; exact ⟨by have := hj.1; omega, by have := hj.2; simp [World.setCell]; omega⟩; exact ⟨by have := (HBR.out j hj).1; omega, by have := (HBR.out j hj).2; simp [World.setCell]; omega⟩; exact ⟨by have := hj.1; simp at this; omega, by have := hj.2; simp [World.setCell]; omega⟩), E8.setCell (show w.heap.size ≤ b by have := hbS.1; omega) _⟩
    · have hx : idxOf (fun r : LRequester => decide (f ≤ r.1)) M = (i : Int) := hx
      rw [hx]
      have hiN : ¬ ((i : Int) < 0) := by omega
      clear hx
      go_wp2_with fail
      refine (Insert_Requester_c (cx := [.int .i64 f, .int .i64 x1, .int .i64 y3]) (x := (f, x1, y3)) (HM7.out.alloc _) (by omega) (heap_alloc_new w7 _) (fun q => by have := (HBR.out _ q).2; omega) (Rep.flat.own (S := fun _ => False) (Rep.flat_pair (Rep.flat_int HF.out) (Rep.flat_pair (Rep.flat_int HX1.out) (Rep.flat_int HY.out)))).1 ⟨trivial, trivial, trivial⟩ hi).mono ?_
      rintro e w8 ⟨v8, rfl, O8, T8⟩
      have hz8 := T8.size
      simp only [World.size_alloc] at hz8
      have HEQ : Hid (∀ j, j < wC.heap.size → ¬ B j → w8.heap[j]? = wC.heap[j]?) := Lib.hid (fun j hj hn => by
        rw [T8.block j (by simp; omega) hn, heap_alloc_old w7 _ (by omega), HB7.out.block j (by omega)]; exact HT6.out.block j hj hn)
      have HS8 := Lib.hid (HSET.out w8 v8 (putR (f, x1, y3) l[k].2.1) _ (fun j hj hn => HEQ.out j (by have := hj.2; omega) hn) (O8.cast HPUT.out.symm) (fun j hj => hj.elim .inl (fun q => .inr (fun p => by have := p.2; have := q.1; simp at this; omega))) (Nat.le_trans (putR_len _ _) (by unfold Big; omega)))
      have HC9 := Lib.hid ((pend_own0 HS8.out).cast (by rw [HT.out.1, HR.out] : _ = addQ (n, x1, x2, x3) f t l))
      have hbB : ¬ B b := fun q => (HB.out b q).2 rfl
      have e1 := HEQ.out b hbz hbB
      have hu1 : w8.cell? ⟨b, k * 3 + 1, none⟩ = some (.slice ra l[k].2.1.length rp) := by
        have A1 := HA1.out
        unfold World.cell? at A1 ⊢; simp only [e1]; exact A1
      have hfz : w8.frozen? ⟨b, k * 3 + 1, none⟩ = false := by rw [← hfr]; unfold World.frozen?; simp only [e1]
      have E8 : Below w.heap.size w w8 := (((E6.trans (HT6.out.below (by omega) (fun j hj => by have := (HBR.out j hj).1; omega))).trans (HB7.out.mono (by omega))).alloc (by omega) _).trans (T8.below (by simp; omega) (fun j hj => by have := (HBR.out j hj).1; omega))
      obtain ⟨qa, qn, qc, hq8, HQN⟩ := O8.parts; obtain rfl := hq8
      clear O8 T8 HS8 HEQ e1 HM7
      go_wp2
      go_ret2
      exact ⟨_, by rw [HT.out.2]; rfl, (HC9.out.own (by rw [HT.out.1]; simp; unfold Big; omega)).wide (fun j hj => by rcases hj with hj | hj | hj; exact ⟨by have := hj.1; omega, by have := hj.2; simp [World.setCell]; omega⟩; exact ⟨by have := (HBR.out j hj).1; omega, by have := (HBR.out j hj).2; simp [World.setCell]; omega⟩; exact ⟨by have := hj.1; simp at this; omega, by have := hj.2; simp [World.setCell]; omega⟩), E8.setCell (show w.heap.size ≤ b by have := hbS.1; omega) _⟩
theorem specAddRequester_c {w : World} {vl : Value} {l : List LPendingInterest} (hl : (Rep.slice 57 RPendingInterest).rd w [vl] l) {cx : List Value} {x : LInterest} (hx : RInterest.rd w cx x) {f : Int} (hf : -9223372036854775808 ≤ f ∧ f ≤ 9223372036854775807) {t : Int} (ht : -9223372036854775808 ≤ t ∧ t ≤ 9223372036854775807) (hsm : (Rep.slice 57 RPendingInterest).bdd 1048576 l) :
    Calls Try.prog 6 #[vl, .agg cx.toArray, .int .i64 f, .int .i64 t] w fun e w' => ∃ v, e = .returned (.tuple #[v, .bool (addQok x f l)]) ∧ (Rep.slice 57 RPendingInterest).own w' [v] (addQ x f t l) (Btw w.heap.size w'.heap.size) ∧ Below w.heap.size w w' := specAddRequester_s hl hsm hx hf ht
theorem implAddRequester_c {w : World} {vl : Value} {l : List LPendingInterest} (hl : (Rep.slice 57 RPendingInterest).rd w [vl] l) {cx : List Value} {x : LInterest} (hx : RInterest.rd w cx x) {f : Int} (hf : -9223372036854775808 ≤ f ∧ f ≤ 9223372036854775807) {t : Int} (ht : -9223372036854775808 ≤ t ∧ t ≤ 9223372036854775807) (hsm : (Rep.slice 57 RPendingInterest).bdd 1048576 l) :
    Calls Try.prog 9 #[vl, .agg cx.toArray, .int .i64 f, .int .i64 t] w fun e w' => ∃ v, e = .returned (.tuple #[v, .bool (addQok x f l)]) ∧ (Rep.slice 57 RPendingInterest).own w' [v] (addQ x f t l) (Btw w.heap.size w'.heap.size) ∧ Below w.heap.size w w' := implAddRequester_s hl hsm hx hf ht
end Go.Proofs.Ytdgncogfmchhmaa
