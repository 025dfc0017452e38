/-
  The bytes of an advertisement.
-/
import Derived.Test.YtadneiijklnccaaEncN
import Derived.Test.YtadneiijklnccaaVAdv
import Derived.Test.YtadneiijklnccaaSoftT
import Derived.Test.YtadneiijklnccaaSoft
import Derived.IntWalk
import Derived.Deep.Cut
import Derived.WalkSpells
import Derived.WalkLawsBesides
namespace Go.Proofs.Ytadneiijklnccaa
open Go.RowKit
set_option linter.unusedVariables false
set_option linter.unusedSimpArgs false
set_option linter.unnecessarySimpa false
def encA (a : LAdvertisement) : List UInt8 := if vAdvert a = true then encIs [a.1, a.2.1, a.2.2.1.length] ++ encIs a.2.2.1 ++ vintI a.2.2.2.length ++ encNms a.2.2.2 else []
theorem encA_no {a : LAdvertisement} (h : vAdvert a = false) : encA a = [] := by unfold encA; rw [h]; rfl
theorem encA_yes {a : LAdvertisement} (h : vAdvert a = true) : encA a = encIs [a.1, a.2.1, a.2.2.1.length] ++ encIs a.2.2.1 ++ vintI a.2.2.2.length ++ encNms a.2.2.2 := by unfold encA; rw [if_pos h]
theorem allB_at {p : Nat → Bool} {n j : Nat} (h : allB p n = true) (hj : j < n) : p j = true := by
  cases q : p j
  · rw [allB_bad hj q] at h; cases h
  · rfl
theorem nb_rise {f : Int} {n : List Int} (h : allB (advNb f n) n.length = true) : ∀ {k : Nat} (hk : k < n.length), (k : Int) ≤ n[k] ∧ n[k] ≤ 5
  | 0, hk => by
    have h1 := allB_at h hk
    rw [advNb_0 rfl hk] at h1
    simp only [inR, Bool.not_eq_true', Bool.or_eq_false_iff, Bool.not_eq_false', Bool.and_eq_true, decide_eq_true_eq] at h1
    exact ⟨by have := h1.1.1; omega, h1.1.2⟩
  | k + 1, hk => by
    have h1 := allB_at h hk
    rw [advNb_s (j := k) rfl hk (by omega)] at h1
    simp only [inR, Bool.not_eq_true', Bool.or_eq_false_iff, Bool.not_eq_false', Bool.and_eq_true, decide_eq_true_eq, decide_eq_false_iff_not] at h1
    have h2 := nb_rise h (k := k) (by omega)
    have h3 := h1.2
    exact ⟨by omega, h1.1.1.2⟩
theorem vAdv_nb {a : LAdvertisement} (h : vAdvert a = true) : a.2.2.1.length ≤ 6 := by
  unfold vAdvert at h
  simp only [Bool.and_eq_true] at h
  by_cases q : a.2.2.1.length ≤ 6
  · exact q
  · have := nb_rise h.2.1 (k := 6) (by omega)
    omega
theorem vAdv_pre {a : LAdvertisement} (h : vAdvert a = true) : a.2.2.2.length ≤ 4 := by
  unfold vAdvert advHead at h
  simp only [Bool.and_eq_true, Bool.not_eq_true', Bool.or_eq_false_iff, decide_eq_false_iff_not] at h
  have := h.1.2
  omega
theorem vAdv_name {a : LAdvertisement} (h : vAdvert a = true) {k : Nat} (hk : k < a.2.2.2.length) : vName a.2.2.2[k] = true := by
  unfold vAdvert at h
  simp only [Bool.and_eq_true] at h
  have := allB_at h.2.2 hk
  try simp only at this
  rw [getD_get hk] at this
  exact this
theorem encNms_len {a : LAdvertisement} (h : vAdvert a = true) : ∀ {k : Nat}, k ≤ a.2.2.2.length → (encNms (a.2.2.2.take k)).length ≤ 90 * k
  | 0, _ => by simp [encNms]
  | k + 1, hk => by
    have h1 := encNms_len h (k := k) (by omega)
    have h2 := encNm_len (vAdv_name h (k := k) (by omega))
    rw [encNms_succ (by omega), List.length_append]; omega
theorem encA_len {a : LAdvertisement} : (encA a).length ≤ 1000 := by
  cases h : vAdvert a
  · rw [encA_no h]; simp
  · have h1 := encIs_len [a.1, a.2.1, a.2.2.1.length]
    have h2 := encIs_len a.2.2.1
    have h3 := vintI_len a.2.2.2.length
    have h4 := encNms_len h (k := a.2.2.2.length) (Nat.le_refl _)
    have h5 := vAdv_nb h
    have h6 := vAdv_pre h
    rw [List.take_length] at h4
    rw [encA_yes h]
    simp only [List.length_append, List.length_cons, List.length_nil] at *
    omega
theorem Rep.run_pushT {α : Type} {r : Rep α} {e : TypeId} {w : World} {v : Value} {xs ys : List α} {S : Nat → Prop} {P : Program} {t ty : TypeId} {z : Value} {bytes : Nat} (ht : P.underlying t = some (.slice e)) (hinf : (P.info? e).map (fun i => (i.zero, i.size, i.bytes)) = some (some z, r.n, bytes)) (hzs : z.cells.size = r.n) (hn : 0 < r.n) (hby : bytes ≤ 1000) (hf : r.IsFlat)
    {B : Nat} (hown : own0 e r w v xs S) {av : Option Addr} {len cap : Nat} (hy : (slice e r).rd w [.slice av len cap] ys) (hSB : ∀ k, S k → B ≤ k ∧ k < w.heap.size) (hB : B ≤ w.heap.size) (hlen : xs.length + ys.length ≤ 1000000000) :
    ∃ v' w', (Builtin.append_ #[t, t] ty #[v, .slice av len cap]).run P w = .ok v' w' ∧ own0 e r w' v' (xs ++ ys) (Btw B w'.heap.size) ∧ Below B w w' ∧ w.heap.size ≤ w'.heap.size ∧ ∀ k, k < w.heap.size → ¬ S k → w'.heap[k]? = w.heap[k]? := by
  obtain ⟨i, hi, hz, hsize, hbytes⟩ := info_parts hinf
  obtain ⟨cells, hsrc, hrow⟩ := raw_src hy.1
  have hrow' : row r true w cells ys (fun _ => False) := row_flat hf hrow
  obtain ⟨v', w', hr, h2, h3⟩ := run_push (P := P) (ty := ty) ht hi hz hsize hzs hn (by omega) hown hsrc (row_len hrow) (row_one hrow) hlen
  refine ⟨v', w', hr, (h3 hrow' (fun _ _ h => h) hy.2.2).wide ?_, h2.below hB ?_, h2.size, fun k hk hs => h2.block k hk (fun q => hs q.2)⟩
  · intro k hk
    have hs := h2.size
    rcases hk with hk | hk | hk
    · have := hSB k hk; exact ⟨this.1, by omega⟩
    · exact hk.elim
    · exact ⟨by omega, hk.2⟩
  · intro k hk; exact (hSB k hk.2).1
def I64r (x : Int) : Prop := -9223372036854775808 ≤ x ∧ x ≤ 9223372036854775807
theorem row_ints {w : World} {o : Bool} : ∀ (l : List Int) (S : Nat → Prop), (∀ x ∈ l, I64r x) → Rep.row Rep.int o w (l.map (Value.int .i64)) l S
  | [], _, _ => rfl
  | x :: l, S, h => ⟨[.int .i64 x], l.map (Value.int .i64), fun _ => False, fun _ => False, rfl, ⟨rfl, h x (by simp)⟩, row_ints l _ (fun y hy => h y (by simp [hy])), fun _ h => h.elim, fun _ h => h.elim, fun _ _ h => h.elim⟩
theorem lit3 {w : World} {x y z : Int} {e : TypeId} (hx : I64r x) (hy : I64r y) (hz : I64r z) : Rep.own0 e Rep.int (w.alloc (.cells #[.int .i64 x, .int .i64 y, .int .i64 z] e)) (.slice (some ⟨w.heap.size, 0, none⟩) 3 3) [x, y, z] (fun k => k = w.heap.size) :=
  Rep.own0_lit (cs := [.int .i64 x, .int .i64 y, .int .i64 z]) (xs := [x, y, z]) (T := fun _ => False) (fun _ _ => trivial) (by show 3 ≤ _; unfold maxLen; omega) (row_ints [x, y, z] _ (by intro q hq; simp only [List.mem_cons, List.not_mem_nil, or_false] at hq; rcases hq with rfl | rfl | rfl <;> assumption)) (fun _ h => h.elim) rfl
theorem lit1 {w : World} {x : Int} {e : TypeId} (hx : I64r x) : Rep.own0 e Rep.int (w.alloc (.cells #[.int .i64 x] e)) (.slice (some ⟨w.heap.size, 0, none⟩) 1 1) [x] (fun k => k = w.heap.size) :=
  Rep.own0_lit (cs := [.int .i64 x]) (xs := [x]) (T := fun _ => False) (fun _ _ => trivial) (by show 1 ≤ _; unfold maxLen; omega) (row_ints [x] _ (by intro q hq; simp only [List.mem_cons, List.not_mem_nil, or_false] at hq; subst hq; assumption)) (fun _ h => h.elim) rfl
set_option maxRecDepth 100000 in
set_option maxHeartbeats 4000000 in
theorem specEncodeAdvertisement_0 {w : World} {ca : List Value} {a : LAdvertisement} (ha : RAdvertisement.rd w ca a) :
    Calls Try.prog 5 #[.agg ca.toArray] w (Made0 5 Rep.byte (encA a) w) := by
  have HA := Lib.hid ha
  have hbb := ha.2
  obtain ⟨v2, v3, rfl, a_0, a_1, a_2, a_3⟩ := RAdvertisement_raw ha.1
  obtain ⟨b2, p2, h2, l2⟩ := Rep.len_raw a_2; obtain rfl : v2 = _ := by simpa using h2
  obtain ⟨b3, p3, h3, l3⟩ := Rep.len_raw a_3; obtain rfl : v3 = _ := by simpa using h3
  have R2 : Hid ((Rep.slice 3 Rep.int).rd w [.slice b2 a.2.2.1.length p2] a.2.2.1) := Lib.hid ⟨a_2, hbb.2.2.1⟩
  have R3 := Lib.hid a_3
  clear h2 h3 ha hbb a_2 a_3
  go_enter Try.func5, Try.ntmps5
  go_wp2_with fail
  generalize hwB : World.alloc w _ = wB
  have EB : Below w.heap.size w wB := by rw [← hwB]; exact (by repeat (first | (with_reducible exact Below.refl _ _) | refine Below.alloc ?_ (by simp; try omega) _ | refine Below.drew ?_ | refine Below.setCell ?_ (by simp; try omega) _))
  have HZ : w.heap.size < wB.heap.size := by rw [← hwB]; simp
  have K0 : wB.cell? ⟨w.heap.size, 0, none⟩ = some (.int .i64 a.1) := by rw [← hwB]; simp [go_sem]
  have K1 : wB.cell? ⟨w.heap.size, 1, none⟩ = some (.int .i64 a.2.1) := by rw [← hwB]; simp [go_sem]
  have K2 : wB.cell? ⟨w.heap.size, 2, none⟩ = some (.slice b2 a.2.2.1.length p2) := by rw [← hwB]; simp [go_sem]
  have K3 : wB.cell? ⟨w.heap.size, 3, none⟩ = some (.slice b3 a.2.2.2.length p3) := by rw [← hwB]; simp [go_sem]
  clear hwB
  refine (specValidAdvertisement_c (HA.out.below EB)).mono ?_
  rintro e w3 ⟨rfl, hb3⟩
  replace K0 := cell_later hb3 K0
  replace K1 := cell_later hb3 K1
  replace K2 := cell_later hb3 K2
  replace K3 := cell_later hb3 K3
  have EG := EB.trans (hb3.mono EB.size)
  replace HZ : w.heap.size < w3.heap.size := by have := hb3.size; omega
  clear EB hb3
  cases hva : vAdvert a
  · have HT := Lib.hid (encA_no hva)
    go_wp2
    go_ret
    exact ⟨_, rfl, (Rep.own0.void : Rep.own0 5 Rep.byte _ _ [] _).cast HT.out.symm, (by repeat (first | (with_reducible exact EG) | refine Below.alloc ?_ (by have := Below.size EG; simp; try omega) _ | refine Below.drew ?_ | refine Below.setCell ?_ (by have := Below.size EG; simp; try omega) _))⟩
  · have HV := Lib.hid hva
    have hn6 := vAdv_nb hva
    have hp4 := vAdv_pre hva
    clear hva
    go_upto_region 3 with fail
    have HK0 := Lib.hid K0; have HK1 := Lib.hid K1; have HK2 := Lib.hid K2; have HK3 := Lib.hid K3
    refine wp_region_softP (fun W => Below w3.heap.size w3 W) [(0, true), (1, true), (2, true), (3, true), (4, true), (5, true), (6, true), (9, true), (10, true), (7, false), (8, false), (11, false), (12, false), (13, true)] (by kernel_rfl) (by kernel_rfl) (fun c a d v w h => by cases d <;> exact h) ((Below.refl _ _).drew) ?_
    intro wS HS
    simp only [pickOps, List.getElem?_cons_succ, List.getElem?_cons_zero, List.map_cons, List.map_nil]
    iterate 3
     all_goals first | (refine soft_pass rfl HS ?_) | (refine soft_read (v := ?_) rfl (fun W hW => ?_) ?_; rotate_left; (· go_simp; try with_reducible rfl))
     all_goals try simp only [Act.put, List.setIfInBounds_toArray, List.set_cons_zero, List.set_cons_succ]
     all_goals first | (refine soft_pass rfl HS ?_) | (refine soft_read (v := ?_) rfl (fun W hW => ?_) ?_; rotate_left; (· have A_K0 := cell_later hW K0; have A_K1 := cell_later hW K1; have A_K2 := cell_later hW K2; have A_K3 := cell_later hW K3; clear hW; go_simp; try with_reducible rfl))
     all_goals try simp only [Act.put, List.setIfInBounds_toArray, List.set_cons_zero, List.set_cons_succ]
    iterate 2
     all_goals first | (refine soft_pass rfl HS ?_) | (refine soft_read (v := ?_) rfl (fun W hW => ?_) ?_; rotate_left; (· go_simp; try with_reducible rfl))
     all_goals try simp only [Act.put, List.setIfInBounds_toArray, List.set_cons_zero, List.set_cons_succ]
    all_goals first | (refine soft_pass rfl HS ?_) | (refine soft_read (v := ?_) rfl (fun W hW => ?_) ?_; rotate_left; (· have A_K0 := cell_later hW K0; have A_K1 := cell_later hW K1; have A_K2 := cell_later hW K2; have A_K3 := cell_later hW K3; clear hW; go_simp; try with_reducible rfl))
    all_goals try simp only [Act.put, List.setIfInBounds_toArray, List.set_cons_zero, List.set_cons_succ]
    all_goals first | (refine soft_pass rfl HS ?_) | (refine soft_do rfl (fun K hK => ?_); go_simp; have RL := ((lit3 (w := wS) (e := 3) (x := a.1) (y := a.2.1) (z := (a.2.2.1.length : Int)) a_0 a_1 (by unfold I64r; omega)).own (by show 3 ≤ _; unfold Big; omega)).rd; generalize hwN : World.alloc wS (.cells #[.int .i64 a.1, .int .i64 a.2.1, .int .i64 a.2.2.1.length] 3) = wN at RL ⊢; have bN : Below wS.heap.size wS wN := (by rw [← hwN]; exact (Below.refl _ _).alloc (Nat.le_refl _) _); have zN := HS.size; have zN1 : wS.heap.size < wN.heap.size := (by rw [← hwN]; simp); clear hwN; replace HS := HS.trans (bN.mono HS.size); refine hK _ _ HS ?_; clear hK K bN)
    all_goals try simp only [Act.put, List.setIfInBounds_toArray, List.set_cons_zero, List.set_cons_succ]
    all_goals first | (refine soft_pass rfl HS ?_) | (refine soft_do rfl (fun K hK => ?_); go_simp; refine (specEncodeInts_c RL.1 (by simp)).mono ?_; rintro e w8 ⟨v8, rfl, O8, hb8⟩; obtain ⟨a8, n8, c8, hv8, HN8⟩ := O8.parts; obtain rfl := hv8; have z8 := hb8.size; replace HS := HS.trans (hb8.mono HS.size); refine hK _ _ HS ?_; clear hK K hb8 RL)
    all_goals try simp only [Act.put, List.setIfInBounds_toArray, List.set_cons_zero, List.set_cons_succ]
    all_goals first | (refine soft_pass rfl HS ?_) | (refine soft_do rfl (fun K hK => ?_); go_simp; refine (specEncodeInts_c ((R2.out.below EG).below HS).1 (by omega)).mono ?_; rintro e w9 ⟨v9, rfl, O9, hb9⟩; obtain ⟨a9, n9, c9, hv9, HN9⟩ := O9.parts; obtain rfl := hv9; have z9 := hb9.size; replace O8 := O8.below hb9; replace HS := HS.trans (hb9.mono HS.size); refine hK _ _ HS ?_; clear hK K hb9)
    all_goals try simp only [Act.put, List.setIfInBounds_toArray, List.set_cons_zero, List.set_cons_succ]
    all_goals first | (refine soft_pass rfl HS ?_) | (refine soft_do rfl (fun K hK => ?_); have ql1 := encIs_len [a.1, a.2.1, (a.2.2.1.length : Int)]; have ql2 := encIs_len a.2.2.1; simp only [List.length_cons, List.length_nil] at ql1; obtain ⟨v7, t7, hr, O7, hb7, z7⟩ := Rep.run_pushN (P := Try.prog) (t := 27) (ty := 27) (r := Rep.byte) (e := 5) (w := w9) (B := w3.heap.size) Try.underlying27 infByte rfl (by decide) (by decide) Rep.isFlat_byte O8 (O9.own (by unfold Big; omega)).rd (fun j hj => ⟨by have := hj.1; omega, by have := hj.2; omega⟩) (by omega) (by omega); refine Rep.wp_append _ _ _ rfl (by rfl) (by rfl) hr ?_; obtain ⟨a7, n7, c7, hv7, HN7⟩ := O7.parts; obtain rfl := hv7; replace HS := HS.trans hb7; refine hK _ _ HS ?_; clear hK K hr hb7 O8 O9)
    all_goals try simp only [Act.put, List.setIfInBounds_toArray, List.set_cons_zero, List.set_cons_succ]
    all_goals first | (refine soft_pass rfl HS ?_) | (refine soft_read (v := ?_) rfl (fun W hW => ?_) ?_; rotate_left; (· go_simp; try with_reducible rfl))
    all_goals try simp only [Act.put, List.setIfInBounds_toArray, List.set_cons_zero, List.set_cons_succ]
    all_goals refine soft_nil ?_
    have EW := EG.trans (HS.mono EG.size)
    replace K3 := cell_later HS K3
    have zz := HS.size
    have HO7 : Hid (Rep.own0 5 Rep.byte t7 (.slice a7 n7 c7) (encIs [a.1, a.2.1, (a.2.2.1.length : Int)] ++ encIs a.2.2.1) (Btw (w.heap.size + 1) t7.heap.size)) := Lib.hid (O7.wide (fun j hj => ⟨by have := hj.1; omega, hj.2⟩))
    have hl7 : (encIs [a.1, a.2.1, (a.2.2.1.length : Int)] ++ encIs a.2.2.1).length ≤ 60 := by
      have ql1 := encIs_len [a.1, a.2.1, (a.2.2.1.length : Int)]
      have ql2 := encIs_len a.2.2.1
      simp only [List.length_append, List.length_cons, List.length_nil] at *
      omega
    generalize hgx : encIs [a.1, a.2.1, (a.2.2.1.length : Int)] ++ encIs a.2.2.1 = hdr at HO7 hl7
    have HX := Lib.hid hgx
    clear hgx O7 HS EG K0 K1 K2
    go_wp2_with fail
    refine (specAppendVarint_c (HO7.out.own (by unfold Big; omega)).rd).mono ?_
    rintro e w4 ⟨v4, rfl, O4, EG4⟩
    obtain ⟨a4, n4, c4, hv4, HN4⟩ := O4.parts
    obtain rfl := hv4
    have EF := EW.trans (EG4.mono EW.size)
    have z4 := EG4.size
    have HO4 : Hid (Rep.own0 5 Rep.byte w4 (.slice a4 n4 c4) (hdr ++ vintI a.2.2.2.length) (Btw (w.heap.size + 1) w4.heap.size)) := Lib.hid (O4.wide (fun j hj => ⟨by have := hj.1; omega, hj.2⟩))
    have hl4 : (hdr ++ vintI a.2.2.2.length).length ≤ 70 := by have := vintI_len a.2.2.2.length; rw [List.length_append]; omega
    generalize hgx : hdr ++ vintI a.2.2.2.length = hd4 at HO4 hl4
    have HX4 := Lib.hid hgx
    replace K3 := cell_later EG4 K3
    have HK3' := Lib.hid K3
    have hgt4 : w.heap.size < w4.heap.size := by omega
    clear hgx O4 EG4 EW HO7
    go_wp2
    go_loopw [3, 4] (fun v i wr => ∃ k : Nat, k ≤ a.2.2.2.length ∧ i = .int .i64 k ∧ Hid (Rep.own0 5 Rep.byte wr v (hd4 ++ encNms (a.2.2.2.take k)) (Btw (w.heap.size + 1) wr.heap.size)) ∧ Below (w.heap.size + 1) w4 wr) (fun _ i _ => a.2.2.2.length - (intOf i).toNat)
    case atStart => exact ⟨0, Nat.zero_le _, rfl, Lib.hid (by simpa [encNms] using HO4.out), Below.refl _ _⟩
    case round =>
      clear K3 HO4
      obtain ⟨k, hk, rfl, HO, hbel⟩ := hrel
      obtain ⟨oa, on, oc, ho, HON⟩ := HO.out.parts; obtain rfl := ho
      have EW : Below w.heap.size w wr := EF.trans (hbel.mono (by omega))
      have hgtr : w.heap.size < wr.heap.size := by have := hbel.size; omega
      have K3 : wr.cell? ⟨w.heap.size, 3, none⟩ = some (.slice b3 a.2.2.2.length p3) := (hbel.cell (p := ⟨w.heap.size, 3, none⟩) (by simp)).trans HK3'.out
      by_cases hlt : k < a.2.2.2.length
      · obtain ⟨qb, qo, rfl, c0, hr, A0⟩ := Rep.get1 (R3.out.below EW) hlt rfl
        have HSN := Lib.hid (encNms_succ hlt)
        have HVN := Lib.hid (vAdv_name HV.out hlt)
        have hel := encNms_len HV.out hk
        have hlk : (hd4 ++ encNms (a.2.2.2.take k)).length ≤ 1000 := by rw [List.length_append]; omega
        have HRD : Hid ((Rep.slice 5 Rep.byte).rd wr [.slice oa on oc] (hd4 ++ encNms (a.2.2.2.take k))) := Lib.hid ((HO.out.own (by unfold Big; omega)).rd)
        obtain ⟨nv, nhe, n_0⟩ := RName_raw hr
        obtain rfl : c0 = _ := by simpa using nhe
        obtain ⟨na, np, nh, nl⟩ := Rep.len_raw n_0; obtain rfl : c0 = _ := by simpa using nh
        have HR := Lib.hid hr
        clear hr hel nhe nh n_0
        generalize a.2.2.2[k] = n at *
        go_wp2_with fail
        refine (specAppendName_c HRD.out HR.out HVN.out (by omega)).mono ?_
        rintro e w5 ⟨v5, rfl, hown, EG5⟩
        obtain ⟨a5, n5, c5, hv5, HN5⟩ := hown.parts
        obtain rfl := hv5
        have EW5 := hbel.trans (EG5.mono (by omega))
        have HO2 : Hid (Rep.own0 5 Rep.byte w5 (.slice a5 n5 c5) (hd4 ++ encNms (a.2.2.2.take (k + 1))) (Btw (w.heap.size + 1) w5.heap.size)) := Lib.hid ((hown.cast (by rw [HSN.out]; simp only [List.append_assoc])).wide (fun j hj => ⟨by have := hj.1; omega, hj.2⟩))
        clear hown EG5 HO HRD A0 hbel EW K3
        go_wp2
        go_roundw
        case rel => exact ⟨k + 1, by omega, by go_num, HO2, EW5⟩
        case measure => simp [intOf]; omega
      · obtain rfl : k = a.2.2.2.length := by omega
        go_wp2
        go_ret
        exact ⟨_, rfl, (HO.out.cast (by rw [List.take_length, encA_yes HV.out, ← HX4.out, ← HX.out])).wide (fun j hj => ⟨by have := hj.1; omega, hj.2⟩), EW⟩
set_option maxRecDepth 100000 in
set_option maxHeartbeats 4000000 in
theorem implEncodeAdvertisement_0 {w : World} {ca : List Value} {a : LAdvertisement} (ha : RAdvertisement.rd w ca a) :
    Calls Try.prog 7 #[.agg ca.toArray] w (Made0 5 Rep.byte (encA a) w) := by
  have HA := Lib.hid ha
  have hbb := ha.2
  obtain ⟨v2, v3, rfl, a_0, a_1, a_2, a_3⟩ := RAdvertisement_raw ha.1
  obtain ⟨b2, p2, h2, l2⟩ := Rep.len_raw a_2; obtain rfl : v2 = _ := by simpa using h2
  obtain ⟨b3, p3, h3, l3⟩ := Rep.len_raw a_3; obtain rfl : v3 = _ := by simpa using h3
  have R2 : Hid ((Rep.slice 3 Rep.int).rd w [.slice b2 a.2.2.1.length p2] a.2.2.1) := Lib.hid ⟨a_2, hbb.2.2.1⟩
  have R3 := Lib.hid a_3
  clear h2 h3 ha hbb a_2 a_3
  go_enter Try.func7, Try.ntmps7
  go_wp2_with fail
  generalize hwB : World.alloc w _ = wB
  have EB : Below w.heap.size w wB := by rw [← hwB]; exact (by repeat (first | (with_reducible exact Below.refl _ _) | refine Below.alloc ?_ (by simp; try omega) _ | refine Below.drew ?_ | refine Below.setCell ?_ (by simp; try omega) _))
  have HZ : w.heap.size < wB.heap.size := by rw [← hwB]; simp
  have K0 : wB.cell? ⟨w.heap.size, 0, none⟩ = some (.int .i64 a.1) := by rw [← hwB]; simp [go_sem]
  have K1 : wB.cell? ⟨w.heap.size, 1, none⟩ = some (.int .i64 a.2.1) := by rw [← hwB]; simp [go_sem]
  have K2 : wB.cell? ⟨w.heap.size, 2, none⟩ = some (.slice b2 a.2.2.1.length p2) := by rw [← hwB]; simp [go_sem]
  have K3 : wB.cell? ⟨w.heap.size, 3, none⟩ = some (.slice b3 a.2.2.2.length p3) := by rw [← hwB]; simp [go_sem]
  clear hwB
  refine (implValidAdvertisement_c (HA.out.below EB)).mono ?_
  rintro e w3 ⟨rfl, hb3⟩
  replace K0 := cell_later hb3 K0
  replace K1 := cell_later hb3 K1
  replace K2 := cell_later hb3 K2
  replace K3 := cell_later hb3 K3
  have EG := EB.trans (hb3.mono EB.size)
  replace HZ : w.heap.size < w3.heap.size := by have := hb3.size; omega
  clear EB hb3
  cases hva : vAdvert a
  · have HT := Lib.hid (encA_no hva)
    go_wp2
    go_ret
    exact ⟨_, rfl, (Rep.own0.nil : Rep.own0 5 Rep.byte _ _ [] _).cast HT.out.symm, EG⟩
  · have HV := Lib.hid hva
    have hn6 := vAdv_nb hva
    have hp4 := vAdv_pre hva
    clear hva
    go_upto_region 3 with fail
    refine wp_region_tree (fun W => Below w3.heap.size w3 W) (by kernel_rfl) ((Below.refl _ _).drew) ?_
    intro wS HS
    refine tree_read (k := 0) (v := ?_) rfl (by kernel_rfl) (fun c a d v w h => by cases d <;> exact h) rfl HS (fun W hW => ?_) ?_
    rotate_left
    · go_simp; try with_reducible rfl
    try simp only [Act.put, List.setIfInBounds_toArray, List.set_cons_zero, List.set_cons_succ]
    refine tree_read (k := 1) (v := ?_) rfl (by kernel_rfl) (fun c a d v w h => by cases d <;> exact h) rfl HS (fun W hW => ?_) ?_
    rotate_left
    · have A_K0 := cell_later hW K0; have A_K1 := cell_later hW K1; have A_K2 := cell_later hW K2; have A_K3 := cell_later hW K3; clear hW; go_simp; try with_reducible rfl
    try simp only [Act.put, List.setIfInBounds_toArray, List.set_cons_zero, List.set_cons_succ]
    refine tree_read (k := 2) (v := ?_) rfl (by kernel_rfl) (fun c a d v w h => by cases d <;> exact h) rfl HS (fun W hW => ?_) ?_
    rotate_left
    · go_simp; try with_reducible rfl
    try simp only [Act.put, List.setIfInBounds_toArray, List.set_cons_zero, List.set_cons_succ]
    refine tree_read (k := 3) (v := ?_) rfl (by kernel_rfl) (fun c a d v w h => by cases d <;> exact h) rfl HS (fun W hW => ?_) ?_
    rotate_left
    · have A_K0 := cell_later hW K0; have A_K1 := cell_later hW K1; have A_K2 := cell_later hW K2; have A_K3 := cell_later hW K3; clear hW; go_simp; try with_reducible rfl
    try simp only [Act.put, List.setIfInBounds_toArray, List.set_cons_zero, List.set_cons_succ]
    refine tree_read (k := 4) (v := ?_) rfl (by kernel_rfl) (fun c a d v w h => by cases d <;> exact h) rfl HS (fun W hW => ?_) ?_
    rotate_left
    · go_simp; try with_reducible rfl
    try simp only [Act.put, List.setIfInBounds_toArray, List.set_cons_zero, List.set_cons_succ]
    refine tree_read (k := 5) (v := ?_) rfl (by kernel_rfl) (fun c a d v w h => by cases d <;> exact h) rfl HS (fun W hW => ?_) ?_
    rotate_left
    · have A_K0 := cell_later hW K0; have A_K1 := cell_later hW K1; have A_K2 := cell_later hW K2; have A_K3 := cell_later hW K3; clear hW; go_simp; try with_reducible rfl
    try simp only [Act.put, List.setIfInBounds_toArray, List.set_cons_zero, List.set_cons_succ]
    refine tree_read (k := 6) (v := ?_) rfl (by kernel_rfl) (fun c a d v w h => by cases d <;> exact h) rfl HS (fun W hW => ?_) ?_
    rotate_left
    · go_simp; try with_reducible rfl
    try simp only [Act.put, List.setIfInBounds_toArray, List.set_cons_zero, List.set_cons_succ]
    refine tree_read (k := 8) (v := ?_) rfl (by kernel_rfl) (fun c a d v w h => by cases d <;> exact h) rfl HS (fun W hW => ?_) ?_
    rotate_left
    · go_simp; try with_reducible rfl
    try simp only [Act.put, List.setIfInBounds_toArray, List.set_cons_zero, List.set_cons_succ]
    refine tree_read (k := 9) (v := ?_) rfl (by kernel_rfl) (fun c a d v w h => by cases d <;> exact h) rfl HS (fun W hW => ?_) ?_
    rotate_left
    · have A_K0 := cell_later hW K0; have A_K1 := cell_later hW K1; have A_K2 := cell_later hW K2; have A_K3 := cell_later hW K3; clear hW; go_simp; try with_reducible rfl
    try simp only [Act.put, List.setIfInBounds_toArray, List.set_cons_zero, List.set_cons_succ]
    refine tree_read (k := 11) (v := ?_) rfl (by kernel_rfl) (fun c a d v w h => by cases d <;> exact h) rfl HS (fun W hW => ?_) ?_
    rotate_left
    · go_simp; try with_reducible rfl
    try simp only [Act.put, List.setIfInBounds_toArray, List.set_cons_zero, List.set_cons_succ]
    refine tree_read (k := 12) (v := ?_) rfl (by kernel_rfl) (fun c a d v w h => by cases d <;> exact h) rfl HS (fun W hW => ?_) ?_
    rotate_left
    · have A_K0 := cell_later hW K0; have A_K1 := cell_later hW K1; have A_K2 := cell_later hW K2; have A_K3 := cell_later hW K3; clear hW; go_simp; try with_reducible rfl
    try simp only [Act.put, List.setIfInBounds_toArray, List.set_cons_zero, List.set_cons_succ]
    refine tree_read (k := 13) (v := ?_) rfl (by kernel_rfl) (fun c a d v w h => by cases d <;> exact h) rfl HS (fun W hW => ?_) ?_
    rotate_left
    · go_simp; try with_reducible rfl
    try simp only [Act.put, List.setIfInBounds_toArray, List.set_cons_zero, List.set_cons_succ]
    refine tree_two (i := 7) (j := 14) rfl rfl (by kernel_rfl) rfl rfl (fun K hK => ?_) (fun K hK => ?_)
    · have bn0 := HS.size
      go_simp
      have HV := lit3 (w := wS) (e := 3) (x := a.1) (y := a.2.1) (z := (a.2.2.1.length : Int)) a_0 a_1 (by unfold I64r; omega)
      have bN0 : Below wS.heap.size wS (World.alloc wS (.cells #[.int .i64 a.1, .int .i64 a.2.1, .int .i64 a.2.2.1.length] 3)) := (Below.refl _ _).alloc (Nat.le_refl _) _
      have zN0 : wS.heap.size < (World.alloc wS (.cells #[.int .i64 a.1, .int .i64 a.2.1, .int .i64 a.2.2.1.length] 3)).heap.size := (by simp)
      generalize hwN : World.alloc wS (.cells #[.int .i64 a.1, .int .i64 a.2.1, .int .i64 a.2.2.1.length] 3) = t0 at HV bN0 zN0 ⊢
      have bN := bN0
      clear hwN bN0
      replace HS := HS.trans (bN.mono HS.size)
      refine hK _ _ HS ?_
      clear hK K bN
      refine tree_two (i := 10) (j := 14) rfl rfl (by kernel_rfl) rfl rfl (fun K hK => ?_) (fun K hK => ?_)
      · have bn1 := HS.size
        obtain ⟨v1, t1, hr, HV2, hbN, zN1, hfr⟩ := Rep.run_pushT (P := Try.prog) (t := 22) (ty := 22) (r := Rep.int) (e := 3) (w := t0) (B := w3.heap.size) Try.underlying22 infInt rfl (by decide) (by decide) Rep.isFlat_int HV ((R2.out.below EG).below HS) (fun j hj => ⟨by omega, by omega⟩) HS.size (by simp only [List.length_append, List.length_cons, List.length_nil]; omega)
        refine Rep.wp_append _ _ _ rfl (by rfl) (by rfl) hr ?_
        obtain ⟨a1, n1, c1, hv1, HN1⟩ := HV2.parts
        obtain rfl := hv1
        replace HS := HS.trans hbN
        clear hr hbN hfr
        have HV3 := HV2; clear HV; have HV := HV3; clear HV2 HV3
        refine hK _ _ HS ?_
        clear hK K
        refine tree_one (k := 14) rfl (by kernel_rfl) rfl (fun K hK => ?_)
        have bn2 := HS.size
        go_simp
        have RL := lit1 (w := t1) (e := 3) (x := (a.2.2.2.length : Int)) (by unfold I64r; omega)
        have bN0 : Below t1.heap.size t1 (World.alloc t1 (.cells #[.int .i64 a.2.2.2.length] 3)) := (Below.refl _ _).alloc (Nat.le_refl _) _
        have zN2 : t1.heap.size < (World.alloc t1 (.cells #[.int .i64 a.2.2.2.length] 3)).heap.size := (by simp)
        generalize hwN : World.alloc t1 (.cells #[.int .i64 a.2.2.2.length] 3) = t2 at RL bN0 zN2 ⊢
        have bN := bN0
        clear hwN bN0
        replace HV := HV.below bN
        replace HS := HS.trans (bN.mono HS.size)
        refine hK _ _ HS ?_
        clear hK K bN
        refine tree_one (k := 15) rfl (by kernel_rfl) rfl (fun K hK => ?_)
        have bn3 := HS.size
        obtain ⟨v3, t3, hr, HV2, hbN, zN3, hfr⟩ := Rep.run_pushT (P := Try.prog) (t := 22) (ty := 22) (r := Rep.int) (e := 3) (w := t2) (B := w3.heap.size) Try.underlying22 infInt rfl (by decide) (by decide) Rep.isFlat_int HV (RL.own (by show 1 ≤ _; unfold Big; omega)).rd (fun j hj => ⟨hj.1, by have := hj.2; omega⟩) HS.size (by simp only [List.length_append, List.length_cons, List.length_nil]; omega)
        refine Rep.wp_append _ _ _ rfl (by rfl) (by rfl) hr ?_
        obtain ⟨a3, n3, c3, hv3, HN3⟩ := HV2.parts
        obtain rfl := hv3
        replace HS := HS.trans hbN
        clear hr hbN hfr
        have HV3 := HV2; clear HV; have HV := HV3; clear HV2 HV3
        refine hK _ _ HS ?_
        clear hK K
        clear RL
        refine tree_one (k := 16) rfl (by kernel_rfl) rfl (fun K hK => ?_)
        have bn4 := HS.size
        go_simp
        refine (implEncodeInts_c (HV.own (by unfold Big; simp only [List.length_append, List.length_cons, List.length_nil]; omega)).rd.1 (by simp only [List.length_append, List.length_cons, List.length_nil]; omega)).mono ?_
        rintro e t4 ⟨v9, rfl, O9, hb9⟩
        obtain ⟨a9, n9, c9, hv9, HN9⟩ := O9.parts
        obtain rfl := hv9
        have zN4 := hb9.size
        replace HS := HS.trans (hb9.mono HS.size)
        refine hK _ _ HS ?_
        clear hK K hb9 HV
        refine tree_read (k := 17) (v := ?_) rfl (by kernel_rfl) (fun c a d v w h => by cases d <;> exact h) rfl HS (fun W hW => ?_) ?_
        rotate_left
        · go_simp; try with_reducible rfl
        try simp only [Act.put, List.setIfInBounds_toArray, List.set_cons_zero, List.set_cons_succ]
        refine tree_end (by kernel_rfl) ?_
        have HS2 := Lib.hid HS
        have EW := EG.trans (HS.mono EG.size)
        replace K3 := cell_later HS K3
        have hp4' := Lib.hid hp4
        have HO4 : Hid (Rep.own0 5 Rep.byte t4 (.slice a9 n9 c9) (encIs [a.1, a.2.1, (a.2.2.1.length : Int)] ++ encIs a.2.2.1 ++ vintI a.2.2.2.length) (Btw (w.heap.size + 1) t4.heap.size)) := Lib.hid ((O9.cast (by simp only [encIs, List.map_append, List.flatten_append, List.map_cons, List.map_nil, List.flatten_cons, List.flatten_nil, List.append_nil])).wide (fun j hj => ⟨by have := hj.1; omega, hj.2⟩))
        have hl4 : (encIs [a.1, a.2.1, (a.2.2.1.length : Int)] ++ encIs a.2.2.1 ++ vintI a.2.2.2.length).length ≤ 70 := by
          have ql1 := encIs_len [a.1, a.2.1, (a.2.2.1.length : Int)]
          have ql2 := encIs_len a.2.2.1
          have ql3 := vintI_len a.2.2.2.length
          simp only [List.length_append, List.length_cons, List.length_nil] at *
          omega
        generalize hgx : encIs [a.1, a.2.1, (a.2.2.1.length : Int)] ++ encIs a.2.2.1 ++ vintI a.2.2.2.length = hd4 at HO4 hl4
        have HX4 := Lib.hid hgx
        have HK3' := Lib.hid K3
        have EF := EW
        have hgt4 : w.heap.size < t4.heap.size := by omega
        clear hgx O9 EG EW HS K0 K1 K2
        go_wp2
        go_loopw [3, 29] (fun v i wr => ∃ k : Nat, k ≤ a.2.2.2.length ∧ i = .int .i64 k ∧ Hid (Rep.own0 5 Rep.byte wr v (hd4 ++ encNms (a.2.2.2.take k)) (Btw (w.heap.size + 1) wr.heap.size)) ∧ Below (w.heap.size + 1) t4 wr) (fun _ i _ => a.2.2.2.length - (intOf i).toNat)
        case atStart => exact ⟨0, Nat.zero_le _, rfl, Lib.hid (by simpa [encNms] using HO4.out), Below.refl _ _⟩
        case round =>
          clear K3 HO4
          obtain ⟨k, hk, rfl, HO, hbel⟩ := hrel
          obtain ⟨oa, on, oc, ho, HON⟩ := HO.out.parts; obtain rfl := ho
          have EW : Below w.heap.size w wr := EF.trans (hbel.mono (by omega))
          have hgtr : w.heap.size < wr.heap.size := by have := hbel.size; omega
          have K3 : wr.cell? ⟨w.heap.size, 3, none⟩ = some (.slice b3 a.2.2.2.length p3) := (hbel.cell (p := ⟨w.heap.size, 3, none⟩) (by simp)).trans HK3'.out
          by_cases hlt : k < a.2.2.2.length
          · obtain ⟨qb, qo, rfl, c0, hr, A0⟩ := Rep.get1 (R3.out.below EW) hlt rfl
            have HSN := Lib.hid (encNms_succ hlt)
            have HVN := Lib.hid (vAdv_name HV.out hlt)
            have hel := encNms_len HV.out hk
            have hlk : (hd4 ++ encNms (a.2.2.2.take k)).length ≤ 1000 := by rw [List.length_append]; omega
            have HRD : Hid ((Rep.slice 5 Rep.byte).rd wr [.slice oa on oc] (hd4 ++ encNms (a.2.2.2.take k))) := Lib.hid ((HO.out.own (by unfold Big; omega)).rd)
            obtain ⟨nv, nhe, n_0⟩ := RName_raw hr
            obtain rfl : c0 = _ := by simpa using nhe
            obtain ⟨na, np, nh, nl⟩ := Rep.len_raw n_0; obtain rfl : c0 = _ := by simpa using nh
            have HR := Lib.hid hr
            clear hr hel nhe nh n_0
            generalize a.2.2.2[k] = n at *
            go_wp2_with fail
            generalize hwD : World.alloc wr _ = wD
            have bD : Below wr.heap.size wr wD := by rw [← hwD]; exact (Below.refl _ _).alloc (Nat.le_refl _) _
            have zD : wr.heap.size < wD.heap.size := by rw [← hwD]; simp
            clear hwD
            refine (implAppendName_c (HRD.out.below bD) (HR.out.below bD) HVN.out (by omega)).mono ?_
            rintro e w5 ⟨v5, rfl, hown, EG5⟩
            obtain ⟨a5, n5, c5, hv5, HN5⟩ := hown.parts
            obtain rfl := hv5
            have EW5 := hbel.trans ((bD.mono (by omega)).trans (EG5.mono (by omega)))
            have HO2 : Hid (Rep.own0 5 Rep.byte w5 (.slice a5 n5 c5) (hd4 ++ encNms (a.2.2.2.take (k + 1))) (Btw (w.heap.size + 1) w5.heap.size)) := Lib.hid ((hown.cast (by rw [HSN.out]; simp only [List.append_assoc])).wide (fun j hj => ⟨by have := hj.1; omega, hj.2⟩))
            clear hown EG5 HO HRD A0 hbel EW K3
            go_wp2
            go_roundw
            case rel => exact ⟨k + 1, by omega, by go_num, HO2, EW5⟩
            case measure => simp [intOf]; omega
          · obtain rfl : k = a.2.2.2.length := by omega
            go_wp2
            go_ret
            exact ⟨_, rfl, (HO.out.cast (by rw [List.take_length, encA_yes HV.out, ← HX4.out])).wide (fun j hj => ⟨by have := hj.1; omega, hj.2⟩), EW⟩
      · have bn1 := HS.size
        go_simp
        have RL := lit1 (w := t0) (e := 3) (x := (a.2.2.2.length : Int)) (by unfold I64r; omega)
        have bN0 : Below t0.heap.size t0 (World.alloc t0 (.cells #[.int .i64 a.2.2.2.length] 3)) := (Below.refl _ _).alloc (Nat.le_refl _) _
        have zN1 : t0.heap.size < (World.alloc t0 (.cells #[.int .i64 a.2.2.2.length] 3)).heap.size := (by simp)
        generalize hwN : World.alloc t0 (.cells #[.int .i64 a.2.2.2.length] 3) = t1 at RL bN0 zN1 ⊢
        have bN := bN0
        clear hwN bN0
        replace HV := HV.below bN
        replace HS := HS.trans (bN.mono HS.size)
        refine hK _ _ HS ?_
        clear hK K bN
        refine tree_one (k := 10) rfl (by kernel_rfl) rfl (fun K hK => ?_)
        have bn2 := HS.size
        obtain ⟨v2, t2, hr, HV2, hbN, zN2, hfr⟩ := Rep.run_pushT (P := Try.prog) (t := 22) (ty := 22) (r := Rep.int) (e := 3) (w := t1) (B := w3.heap.size) Try.underlying22 infInt rfl (by decide) (by decide) Rep.isFlat_int HV ((R2.out.below EG).below HS) (fun j hj => ⟨by omega, by omega⟩) HS.size (by simp only [List.length_append, List.length_cons, List.length_nil]; omega)
        refine Rep.wp_append _ _ _ rfl (by rfl) (by rfl) hr ?_
        obtain ⟨a2, n2, c2, hv2, HN2⟩ := HV2.parts
        obtain rfl := hv2
        replace RL := RL.keep (fun j hj hl => hfr j hl (by omega))
        replace HS := HS.trans hbN
        clear hr hbN hfr
        have HV3 := HV2; clear HV; have HV := HV3; clear HV2 HV3
        refine hK _ _ HS ?_
        clear hK K
        refine tree_one (k := 15) rfl (by kernel_rfl) rfl (fun K hK => ?_)
        have bn3 := HS.size
        obtain ⟨v3, t3, hr, HV2, hbN, zN3, hfr⟩ := Rep.run_pushT (P := Try.prog) (t := 22) (ty := 22) (r := Rep.int) (e := 3) (w := t2) (B := w3.heap.size) Try.underlying22 infInt rfl (by decide) (by decide) Rep.isFlat_int HV (RL.own (by show 1 ≤ _; unfold Big; omega)).rd (fun j hj => ⟨hj.1, by have := hj.2; omega⟩) HS.size (by simp only [List.length_append, List.length_cons, List.length_nil]; omega)
        refine Rep.wp_append _ _ _ rfl (by rfl) (by rfl) hr ?_
        obtain ⟨a3, n3, c3, hv3, HN3⟩ := HV2.parts
        obtain rfl := hv3
        replace HS := HS.trans hbN
        clear hr hbN hfr
        have HV3 := HV2; clear HV; have HV := HV3; clear HV2 HV3
        refine hK _ _ HS ?_
        clear hK K
        clear RL
        refine tree_one (k := 16) rfl (by kernel_rfl) rfl (fun K hK => ?_)
        have bn4 := HS.size
        go_simp
        refine (implEncodeInts_c (HV.own (by unfold Big; simp only [List.length_append, List.length_cons, List.length_nil]; omega)).rd.1 (by simp only [List.length_append, List.length_cons, List.length_nil]; omega)).mono ?_
        rintro e t4 ⟨v9, rfl, O9, hb9⟩
        obtain ⟨a9, n9, c9, hv9, HN9⟩ := O9.parts
        obtain rfl := hv9
        have zN4 := hb9.size
        replace HS := HS.trans (hb9.mono HS.size)
        refine hK _ _ HS ?_
        clear hK K hb9 HV
        refine tree_read (k := 17) (v := ?_) rfl (by kernel_rfl) (fun c a d v w h => by cases d <;> exact h) rfl HS (fun W hW => ?_) ?_
        rotate_left
        · go_simp; try with_reducible rfl
        try simp only [Act.put, List.setIfInBounds_toArray, List.set_cons_zero, List.set_cons_succ]
        refine tree_end (by kernel_rfl) ?_
        have HS2 := Lib.hid HS
        have EW := EG.trans (HS.mono EG.size)
        replace K3 := cell_later HS K3
        have hp4' := Lib.hid hp4
        have HO4 : Hid (Rep.own0 5 Rep.byte t4 (.slice a9 n9 c9) (encIs [a.1, a.2.1, (a.2.2.1.length : Int)] ++ encIs a.2.2.1 ++ vintI a.2.2.2.length) (Btw (w.heap.size + 1) t4.heap.size)) := Lib.hid ((O9.cast (by simp only [encIs, List.map_append, List.flatten_append, List.map_cons, List.map_nil, List.flatten_cons, List.flatten_nil, List.append_nil])).wide (fun j hj => ⟨by have := hj.1; omega, hj.2⟩))
        have hl4 : (encIs [a.1, a.2.1, (a.2.2.1.length : Int)] ++ encIs a.2.2.1 ++ vintI a.2.2.2.length).length ≤ 70 := by
          have ql1 := encIs_len [a.1, a.2.1, (a.2.2.1.length : Int)]
          have ql2 := encIs_len a.2.2.1
          have ql3 := vintI_len a.2.2.2.length
          simp only [List.length_append, List.length_cons, List.length_nil] at *
          omega
        generalize hgx : encIs [a.1, a.2.1, (a.2.2.1.length : Int)] ++ encIs a.2.2.1 ++ vintI a.2.2.2.length = hd4 at HO4 hl4
        have HX4 := Lib.hid hgx
        have HK3' := Lib.hid K3
        have EF := EW
        have hgt4 : w.heap.size < t4.heap.size := by omega
        clear hgx O9 EG EW HS K0 K1 K2
        go_wp2
        go_loopw [3, 29] (fun v i wr => ∃ k : Nat, k ≤ a.2.2.2.length ∧ i = .int .i64 k ∧ Hid (Rep.own0 5 Rep.byte wr v (hd4 ++ encNms (a.2.2.2.take k)) (Btw (w.heap.size + 1) wr.heap.size)) ∧ Below (w.heap.size + 1) t4 wr) (fun _ i _ => a.2.2.2.length - (intOf i).toNat)
        case atStart => exact ⟨0, Nat.zero_le _, rfl, Lib.hid (by simpa [encNms] using HO4.out), Below.refl _ _⟩
        case round =>
          clear K3 HO4
          obtain ⟨k, hk, rfl, HO, hbel⟩ := hrel
          obtain ⟨oa, on, oc, ho, HON⟩ := HO.out.parts; obtain rfl := ho
          have EW : Below w.heap.size w wr := EF.trans (hbel.mono (by omega))
          have hgtr : w.heap.size < wr.heap.size := by have := hbel.size; omega
          have K3 : wr.cell? ⟨w.heap.size, 3, none⟩ = some (.slice b3 a.2.2.2.length p3) := (hbel.cell (p := ⟨w.heap.size, 3, none⟩) (by simp)).trans HK3'.out
          by_cases hlt : k < a.2.2.2.length
          · obtain ⟨qb, qo, rfl, c0, hr, A0⟩ := Rep.get1 (R3.out.below EW) hlt rfl
            have HSN := Lib.hid (encNms_succ hlt)
            have HVN := Lib.hid (vAdv_name HV.out hlt)
            have hel := encNms_len HV.out hk
            have hlk : (hd4 ++ encNms (a.2.2.2.take k)).length ≤ 1000 := by rw [List.length_append]; omega
            have HRD : Hid ((Rep.slice 5 Rep.byte).rd wr [.slice oa on oc] (hd4 ++ encNms (a.2.2.2.take k))) := Lib.hid ((HO.out.own (by unfold Big; omega)).rd)
            obtain ⟨nv, nhe, n_0⟩ := RName_raw hr
            obtain rfl : c0 = _ := by simpa using nhe
            obtain ⟨na, np, nh, nl⟩ := Rep.len_raw n_0; obtain rfl : c0 = _ := by simpa using nh
            have HR := Lib.hid hr
            clear hr hel nhe nh n_0
            generalize a.2.2.2[k] = n at *
            go_wp2_with fail
            generalize hwD : World.alloc wr _ = wD
            have bD : Below wr.heap.size wr wD := by rw [← hwD]; exact (Below.refl _ _).alloc (Nat.le_refl _) _
            have zD : wr.heap.size < wD.heap.size := by rw [← hwD]; simp
            clear hwD
            refine (implAppendName_c (HRD.out.below bD) (HR.out.below bD) HVN.out (by omega)).mono ?_
            rintro e w5 ⟨v5, rfl, hown, EG5⟩
            obtain ⟨a5, n5, c5, hv5, HN5⟩ := hown.parts
            obtain rfl := hv5
            have EW5 := hbel.trans ((bD.mono (by omega)).trans (EG5.mono (by omega)))
            have HO2 : Hid (Rep.own0 5 Rep.byte w5 (.slice a5 n5 c5) (hd4 ++ encNms (a.2.2.2.take (k + 1))) (Btw (w.heap.size + 1) w5.heap.size)) := Lib.hid ((hown.cast (by rw [HSN.out]; simp only [List.append_assoc])).wide (fun j hj => ⟨by have := hj.1; omega, hj.2⟩))
            clear hown EG5 HO HRD A0 hbel EW K3
            go_wp2
            go_roundw
            case rel => exact ⟨k + 1, by omega, by go_num, HO2, EW5⟩
            case measure => simp [intOf]; omega
          · obtain rfl : k = a.2.2.2.length := by omega
            go_wp2
            go_ret
            exact ⟨_, rfl, (HO.out.cast (by rw [List.take_length, encA_yes HV.out, ← HX4.out])).wide (fun j hj => ⟨by have := hj.1; omega, hj.2⟩), EW⟩
    · have bn0 := HS.size
      go_simp
      have RL := lit1 (w := wS) (e := 3) (x := (a.2.2.2.length : Int)) (by unfold I64r; omega)
      have bN0 : Below wS.heap.size wS (World.alloc wS (.cells #[.int .i64 a.2.2.2.length] 3)) := (Below.refl _ _).alloc (Nat.le_refl _) _
      have zN0 : wS.heap.size < (World.alloc wS (.cells #[.int .i64 a.2.2.2.length] 3)).heap.size := (by simp)
      generalize hwN : World.alloc wS (.cells #[.int .i64 a.2.2.2.length] 3) = t0 at RL bN0 zN0 ⊢
      have bN := bN0
      clear hwN bN0
      replace HS := HS.trans (bN.mono HS.size)
      refine hK _ _ HS ?_
      clear hK K bN
      refine tree_one (k := 7) rfl (by kernel_rfl) rfl (fun K hK => ?_)
      have bn1 := HS.size
      go_simp
      have HV := lit3 (w := t0) (e := 3) (x := a.1) (y := a.2.1) (z := (a.2.2.1.length : Int)) a_0 a_1 (by unfold I64r; omega)
      have bN0 : Below t0.heap.size t0 (World.alloc t0 (.cells #[.int .i64 a.1, .int .i64 a.2.1, .int .i64 a.2.2.1.length] 3)) := (Below.refl _ _).alloc (Nat.le_refl _) _
      have zN1 : t0.heap.size < (World.alloc t0 (.cells #[.int .i64 a.1, .int .i64 a.2.1, .int .i64 a.2.2.1.length] 3)).heap.size := (by simp)
      generalize hwN : World.alloc t0 (.cells #[.int .i64 a.1, .int .i64 a.2.1, .int .i64 a.2.2.1.length] 3) = t1 at HV bN0 zN1 ⊢
      have bN := bN0
      clear hwN bN0
      replace RL := RL.below bN
      replace HS := HS.trans (bN.mono HS.size)
      refine hK _ _ HS ?_
      clear hK K bN
      refine tree_one (k := 10) rfl (by kernel_rfl) rfl (fun K hK => ?_)
      have bn2 := HS.size
      obtain ⟨v2, t2, hr, HV2, hbN, zN2, hfr⟩ := Rep.run_pushT (P := Try.prog) (t := 22) (ty := 22) (r := Rep.int) (e := 3) (w := t1) (B := w3.heap.size) Try.underlying22 infInt rfl (by decide) (by decide) Rep.isFlat_int HV ((R2.out.below EG).below HS) (fun j hj => ⟨by omega, by omega⟩) HS.size (by simp only [List.length_append, List.length_cons, List.length_nil]; omega)
      refine Rep.wp_append _ _ _ rfl (by rfl) (by rfl) hr ?_
      obtain ⟨a2, n2, c2, hv2, HN2⟩ := HV2.parts
      obtain rfl := hv2
      replace RL := RL.keep (fun j hj hl => hfr j hl (by omega))
      replace HS := HS.trans hbN
      clear hr hbN hfr
      have HV3 := HV2; clear HV; have HV := HV3; clear HV2 HV3
      refine hK _ _ HS ?_
      clear hK K
      refine tree_one (k := 15) rfl (by kernel_rfl) rfl (fun K hK => ?_)
      have bn3 := HS.size
      obtain ⟨v3, t3, hr, HV2, hbN, zN3, hfr⟩ := Rep.run_pushT (P := Try.prog) (t := 22) (ty := 22) (r := Rep.int) (e := 3) (w := t2) (B := w3.heap.size) Try.underlying22 infInt rfl (by decide) (by decide) Rep.isFlat_int HV (RL.own (by show 1 ≤ _; unfold Big; omega)).rd (fun j hj => ⟨hj.1, by have := hj.2; omega⟩) HS.size (by simp only [List.length_append, List.length_cons, List.length_nil]; omega)
      refine Rep.wp_append _ _ _ rfl (by rfl) (by rfl) hr ?_
      obtain ⟨a3, n3, c3, hv3, HN3⟩ := HV2.parts
      obtain rfl := hv3
      replace HS := HS.trans hbN
      clear hr hbN hfr
      have HV3 := HV2; clear HV; have HV := HV3; clear HV2 HV3
      refine hK _ _ HS ?_
      clear hK K
      clear RL
      refine tree_one (k := 16) rfl (by kernel_rfl) rfl (fun K hK => ?_)
      have bn4 := HS.size
      go_simp
      refine (implEncodeInts_c (HV.own (by unfold Big; simp only [List.length_append, List.length_cons, List.length_nil]; omega)).rd.1 (by simp only [List.length_append, List.length_cons, List.length_nil]; omega)).mono ?_
      rintro e t4 ⟨v9, rfl, O9, hb9⟩
      obtain ⟨a9, n9, c9, hv9, HN9⟩ := O9.parts
      obtain rfl := hv9
      have zN4 := hb9.size
      replace HS := HS.trans (hb9.mono HS.size)
      refine hK _ _ HS ?_
      clear hK K hb9 HV
      refine tree_read (k := 17) (v := ?_) rfl (by kernel_rfl) (fun c a d v w h => by cases d <;> exact h) rfl HS (fun W hW => ?_) ?_
      rotate_left
      · go_simp; try with_reducible rfl
      try simp only [Act.put, List.setIfInBounds_toArray, List.set_cons_zero, List.set_cons_succ]
      refine tree_end (by kernel_rfl) ?_
      have HS2 := Lib.hid HS
      have EW := EG.trans (HS.mono EG.size)
      replace K3 := cell_later HS K3
      have hp4' := Lib.hid hp4
      have HO4 : Hid (Rep.own0 5 Rep.byte t4 (.slice a9 n9 c9) (encIs [a.1, a.2.1, (a.2.2.1.length : Int)] ++ encIs a.2.2.1 ++ vintI a.2.2.2.length) (Btw (w.heap.size + 1) t4.heap.size)) := Lib.hid ((O9.cast (by simp only [encIs, List.map_append, List.flatten_append, List.map_cons, List.map_nil, List.flatten_cons, List.flatten_nil, List.append_nil])).wide (fun j hj => ⟨by have := hj.1; omega, hj.2⟩))
      have hl4 : (encIs [a.1, a.2.1, (a.2.2.1.length : Int)] ++ encIs a.2.2.1 ++ vintI a.2.2.2.length).length ≤ 70 := by
        have ql1 := encIs_len [a.1, a.2.1, (a.2.2.1.length : Int)]
        have ql2 := encIs_len a.2.2.1
        have ql3 := vintI_len a.2.2.2.length
        simp only [List.length_append, List.length_cons, List.length_nil] at *
        omega
      generalize hgx : encIs [a.1, a.2.1, (a.2.2.1.length : Int)] ++ encIs a.2.2.1 ++ vintI a.2.2.2.length = hd4 at HO4 hl4
      have HX4 := Lib.hid hgx
      have HK3' := Lib.hid K3
      have EF := EW
      have hgt4 : w.heap.size < t4.heap.size := by omega
      clear hgx O9 EG EW HS K0 K1 K2
      go_wp2
      go_loopw [3, 29] (fun v i wr => ∃ k : Nat, k ≤ a.2.2.2.length ∧ i = .int .i64 k ∧ Hid (Rep.own0 5 Rep.byte wr v (hd4 ++ encNms (a.2.2.2.take k)) (Btw (w.heap.size + 1) wr.heap.size)) ∧ Below (w.heap.size + 1) t4 wr) (fun _ i _ => a.2.2.2.length - (intOf i).toNat)
      case atStart => exact ⟨0, Nat.zero_le _, rfl, Lib.hid (by simpa [encNms] using HO4.out), Below.refl _ _⟩
      case round =>
        clear K3 HO4
        obtain ⟨k, hk, rfl, HO, hbel⟩ := hrel
        obtain ⟨oa, on, oc, ho, HON⟩ := HO.out.parts; obtain rfl := ho
        have EW : Below w.heap.size w wr := EF.trans (hbel.mono (by omega))
        have hgtr : w.heap.size < wr.heap.size := by have := hbel.size; omega
        have K3 : wr.cell? ⟨w.heap.size, 3, none⟩ = some (.slice b3 a.2.2.2.length p3) := (hbel.cell (p := ⟨w.heap.size, 3, none⟩) (by simp)).trans HK3'.out
        by_cases hlt : k < a.2.2.2.length
        · obtain ⟨qb, qo, rfl, c0, hr, A0⟩ := Rep.get1 (R3.out.below EW) hlt rfl
          have HSN := Lib.hid (encNms_succ hlt)
          have HVN := Lib.hid (vAdv_name HV.out hlt)
          have hel := encNms_len HV.out hk
          have hlk : (hd4 ++ encNms (a.2.2.2.take k)).length ≤ 1000 := by rw [List.length_append]; omega
          have HRD : Hid ((Rep.slice 5 Rep.byte).rd wr [.slice oa on oc] (hd4 ++ encNms (a.2.2.2.take k))) := Lib.hid ((HO.out.own (by unfold Big; omega)).rd)
          obtain ⟨nv, nhe, n_0⟩ := RName_raw hr
          obtain rfl : c0 = _ := by simpa using nhe
          obtain ⟨na, np, nh, nl⟩ := Rep.len_raw n_0; obtain rfl : c0 = _ := by simpa using nh
          have HR := Lib.hid hr
          clear hr hel nhe nh n_0
          generalize a.2.2.2[k] = n at *
          go_wp2_with fail
          generalize hwD : World.alloc wr _ = wD
          have bD : Below wr.heap.size wr wD := by rw [← hwD]; exact (Below.refl _ _).alloc (Nat.le_refl _) _
          have zD : wr.heap.size < wD.heap.size := by rw [← hwD]; simp
          clear hwD
          refine (implAppendName_c (HRD.out.below bD) (HR.out.below bD) HVN.out (by omega)).mono ?_
          rintro e w5 ⟨v5, rfl, hown, EG5⟩
          obtain ⟨a5, n5, c5, hv5, HN5⟩ := hown.parts
          obtain rfl := hv5
          have EW5 := hbel.trans ((bD.mono (by omega)).trans (EG5.mono (by omega)))
          have HO2 : Hid (Rep.own0 5 Rep.byte w5 (.slice a5 n5 c5) (hd4 ++ encNms (a.2.2.2.take (k + 1))) (Btw (w.heap.size + 1) w5.heap.size)) := Lib.hid ((hown.cast (by rw [HSN.out]; simp only [List.append_assoc])).wide (fun j hj => ⟨by have := hj.1; omega, hj.2⟩))
          clear hown EG5 HO HRD A0 hbel EW K3
          go_wp2
          go_roundw
          case rel => exact ⟨k + 1, by omega, by go_num, HO2, EW5⟩
          case measure => simp [intOf]; omega
        · obtain rfl : k = a.2.2.2.length := by omega
          go_wp2
          go_ret
          exact ⟨_, rfl, (HO.out.cast (by rw [List.take_length, encA_yes HV.out, ← HX4.out])).wide (fun j hj => ⟨by have := hj.1; omega, hj.2⟩), EW⟩
theorem specEncodeAdvertisement_c {w : World} {ca : List Value} {a : LAdvertisement} (ha : RAdvertisement.rd w ca a) : Calls Try.prog 5 #[.agg ca.toArray] w (MadePost (Rep.slice 5 Rep.byte) (encA a) w) :=
  (specEncodeAdvertisement_0 ha).mono fun e w' h => h.post (by have := encA_len (a := a); unfold Big; omega)
theorem implEncodeAdvertisement_c {w : World} {ca : List Value} {a : LAdvertisement} (ha : RAdvertisement.rd w ca a) : Calls Try.prog 7 #[.agg ca.toArray] w (MadePost (Rep.slice 5 Rep.byte) (encA a) w) :=
  (implEncodeAdvertisement_0 ha).mono fun e w' h => h.post (by have := encA_len (a := a); unfold Big; omega)
end Go.Proofs.Ytadneiijklnccaa
