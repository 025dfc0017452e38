/-
  A pattern and a name: what the letters stand for.
-/
import Derived.Test.YtlfblpgkegeaeaaGreatPat
import Derived.Test.YtlfblpgkegeaeaaGreatClone
import Derived.Test.YtlfblpgkegeaeaaGreatEncN
import Derived.IntWalk
import Derived.Deep.Cut
import Derived.WalkSpells
import Derived.WalkLawsBesides
namespace Go.Proofs.YtlfblpgkegeaeaaGreat
open Go.RowKit
set_option linter.unusedVariables false
set_option linter.unusedSimpArgs false
set_option linter.unnecessarySimpa false
def isB (s : ByteArray) (b : LBinding) : Bool := b.1.toList == s.toList
def mStep (s : ByteArray) (n : LName) (i : Nat) (out : List LBinding) : Nat × List LBinding :=
  if star2 s = true then (1, out) else
  if n.length ≤ i then (2, out) else
  if star1 s = true then (0, out) else
  if isLet s = true then
    (if idxOf (isB s) out < 0 then (0, out ++ [(s, n.getD i ByteArray.empty)]) else
     if ((out.getD (idxOf (isB s) out).toNat (ByteArray.empty, ByteArray.empty)).2.toList == (n.getD i ByteArray.empty).toList) = true then (0, out) else (2, out)) else
  if (s.toList == (n.getD i ByteArray.empty).toList) = true then (0, out) else (2, out)
def mAt (p : LPattern) (n : LName) (l : List LBinding) : Nat → Nat × List LBinding
  | 0 => (0, l)
  | k + 1 => if (mAt p n l k).1 = 0 then mStep (p.getD k ByteArray.empty) n k (mAt p n l k).2 else mAt p n l k
def mOk (p : LPattern) (n : LName) (l : List LBinding) : Bool := (vPat p && vName n) && (((mAt p n l p.length).1 == 1) || (((mAt p n l p.length).1 == 0) && (n.length == p.length)))
def mB (p : LPattern) (n : LName) (l : List LBinding) : List LBinding := if mOk p n l = true then (mAt p n l p.length).2 else l
section
variable {p : LPattern} {n : LName} {l out out2 : List LBinding} {k : Nat} {s : ByteArray}
theorem mAt_stay (h : (mAt p n l k).1 ≠ 0) : ∀ d, mAt p n l (k + d) = mAt p n l k
  | 0 => rfl
  | d + 1 => by
    have ih := mAt_stay h d
    show (if (mAt p n l (k + d)).1 = 0 then _ else mAt p n l (k + d)) = _
    rw [ih, if_neg h]
theorem mAt_go {t3 : Nat} {out3 : List LBinding} (hk : k < p.length) (h : mAt p n l k = (0, out)) (hs : mStep p[k] n k out = (t3, out3)) : mAt p n l (k + 1) = (t3, out3) := by
  show (if (mAt p n l k).1 = 0 then mStep (p.getD k ByteArray.empty) n k (mAt p n l k).2 else _) = _
  rw [h, getD_get hk]
  exact hs
theorem mAt_end (hk : k < p.length) (h : mAt p n l k = (0, out)) {t : Nat} (ht : t ≠ 0) (hs : mStep p[k] n k out = (t, out2)) : mAt p n l p.length = (t, out2) := by
  have h1 := mAt_go hk h hs
  have h2 := mAt_stay (p := p) (n := n) (l := l) (k := k + 1) (by rw [h1]; exact ht) (p.length - (k + 1))
  rw [show k + 1 + (p.length - (k + 1)) = p.length by omega] at h2
  rw [h2, h1]
theorem m_invalid (h : (vPat p && vName n) = false) : mOk p n l = false ∧ mB p n l = l := by
  have : mOk p n l = false := by unfold mOk; rw [h]; rfl
  exact ⟨this, by unfold mB; rw [if_neg (by rw [this]; exact Bool.false_ne_true)]⟩
theorem m_fail (hk : k < p.length) (h : mAt p n l k = (0, out)) (hs : mStep p[k] n k out = (2, out2)) : mOk p n l = false ∧ mB p n l = l := by
  have e := mAt_end hk h (by decide) hs
  have : mOk p n l = false := by unfold mOk; rw [e]; simp
  exact ⟨this, by unfold mB; rw [if_neg (by rw [this]; exact Bool.false_ne_true)]⟩
theorem m_done (hv : (vPat p && vName n) = true) (hk : k < p.length) (h : mAt p n l k = (0, out)) (hs : mStep p[k] n k out = (1, out2)) : mOk p n l = true ∧ mB p n l = out2 := by
  have e := mAt_end hk h (by decide) hs
  have : mOk p n l = true := by unfold mOk; rw [e, hv]; rfl
  exact ⟨this, by unfold mB; rw [if_pos this, e]⟩
theorem m_over (hv : (vPat p && vName n) = true) (hk : ¬ k < p.length) (hk2 : k ≤ p.length) (h : mAt p n l k = (0, out)) (hn : n.length = p.length) : mOk p n l = true ∧ mB p n l = out := by
  obtain rfl : k = p.length := by omega
  have : mOk p n l = true := by unfold mOk; rw [h, hv, hn]; simp
  exact ⟨this, by unfold mB; rw [if_pos this, h]⟩
theorem m_long (hk : ¬ k < p.length) (hk2 : k ≤ p.length) (h : mAt p n l k = (0, out)) (hn : n.length ≠ p.length) : mOk p n l = false ∧ mB p n l = l := by
  obtain rfl : k = p.length := by omega
  have : mOk p n l = false := by unfold mOk; rw [h]; simp [hn]
  exact ⟨this, by unfold mB; rw [if_neg (by rw [this]; exact Bool.false_ne_true)]⟩
theorem ms_star2 (h : star2 s = true) : mStep s n k out = (1, out) := by unfold mStep; rw [if_pos h]
theorem ms_short (h : star2 s = false) (h2 : n.length ≤ k) : mStep s n k out = (2, out) := by unfold mStep; rw [if_neg (by rw [h]; exact Bool.false_ne_true), if_pos h2]
theorem ms_star1 (h : star2 s = false) (h2 : k < n.length) (h3 : star1 s = true) : mStep s n k out = (0, out) := by unfold mStep; rw [if_neg (by rw [h]; exact Bool.false_ne_true), if_neg (by omega), if_pos h3]
theorem ms_new (h : star2 s = false) (h2 : k < n.length) (h3 : star1 s = false) (h4 : isLet s = true) (h5 : idxOf (isB s) out < 0) : mStep s n k out = (0, out ++ [(s, n[k])]) := by
  unfold mStep; rw [if_neg (by rw [h]; exact Bool.false_ne_true), if_neg (by omega), if_neg (by rw [h3]; exact Bool.false_ne_true), if_pos h4, if_pos h5, getD_get h2]
theorem ms_old (h : star2 s = false) (h2 : k < n.length) (h3 : star1 s = false) (h4 : isLet s = true) {j : Nat} (hj : j < out.length) (h5 : idxOf (isB s) out = j) (h6 : (out[j].2.toList == n[k].toList) = true) : mStep s n k out = (0, out) := by
  unfold mStep; rw [if_neg (by rw [h]; exact Bool.false_ne_true), if_neg (by omega), if_neg (by rw [h3]; exact Bool.false_ne_true), if_pos h4, if_neg (by rw [h5]; omega), h5, Int.toNat_natCast, getD_get hj, getD_get h2, if_pos h6]
theorem ms_other (h : star2 s = false) (h2 : k < n.length) (h3 : star1 s = false) (h4 : isLet s = true) {j : Nat} (hj : j < out.length) (h5 : idxOf (isB s) out = j) (h6 : (out[j].2.toList == n[k].toList) = false) : mStep s n k out = (2, out) := by
  unfold mStep; rw [if_neg (by rw [h]; exact Bool.false_ne_true), if_neg (by omega), if_neg (by rw [h3]; exact Bool.false_ne_true), if_pos h4, if_neg (by rw [h5]; omega), h5, Int.toNat_natCast, getD_get hj, getD_get h2, if_neg (by rw [h6]; exact Bool.false_ne_true)]
theorem ms_same (h : star2 s = false) (h2 : k < n.length) (h3 : star1 s = false) (h4 : isLet s = false) (h6 : (s.toList == n[k].toList) = true) : mStep s n k out = (0, out) := by
  unfold mStep; rw [if_neg (by rw [h]; exact Bool.false_ne_true), if_neg (by omega), if_neg (by rw [h3]; exact Bool.false_ne_true), if_neg (by rw [h4]; exact Bool.false_ne_true), getD_get h2, if_pos h6]
theorem ms_diff (h : star2 s = false) (h2 : k < n.length) (h3 : star1 s = false) (h4 : isLet s = false) (h6 : (s.toList == n[k].toList) = false) : mStep s n k out = (2, out) := by
  unfold mStep; rw [if_neg (by rw [h]; exact Bool.false_ne_true), if_neg (by omega), if_neg (by rw [h3]; exact Bool.false_ne_true), if_neg (by rw [h4]; exact Bool.false_ne_true), getD_get h2, if_neg (by rw [h6]; exact Bool.false_ne_true)]
theorem mStep_len : (mStep s n k out).2.length ≤ out.length + 1 := by
  unfold mStep
  split
  · simp
  split
  · simp
  split
  · simp
  split
  · split
    · simp
    · split <;> simp
  · split <;> simp
theorem mAt_len : ∀ k, (mAt p n l k).2.length ≤ l.length + k
  | 0 => Nat.le_refl _
  | k + 1 => by
    have ih := mAt_len k
    show (if (mAt p n l k).1 = 0 then mStep (p.getD k ByteArray.empty) n k (mAt p n l k).2 else mAt p n l k).2.length ≤ _
    split
    · have := mStep_len (s := p.getD k ByteArray.empty) (n := n) (k := k) (out := (mAt p n l k).2); omega
    · omega
theorem mB_len (hp : p.length ≤ 6 ∨ vPat p = false) : (mB p n l).length ≤ l.length + 6 := by
  unfold mB
  split
  · rename_i h
    have := mAt_len (p := p) (n := n) (l := l) p.length
    rcases hp with hp | hp
    · omega
    · unfold mOk at h; rw [hp] at h; cases h
  · omega
theorem vPat_len (h : vPat p = true) : p.length ≤ 6 := by unfold vPat at h; simp only [Bool.and_eq_true, decide_eq_true_eq] at h; exact h.2
theorem mB_len6 : (mB p n l).length ≤ l.length + 6 := by
  cases h : vPat p
  · exact mB_len (.inr h)
  · exact mB_len (.inl (vPat_len h))
end
set_option maxHeartbeats 400000 in
theorem IndexFunc_Binding_c {w : World} {va : Value} {x : List LBinding} {g : FuncId} {cp : Array Value} (p : LBinding → Bool) (hg : Callable Tryz.prog g) (ha : (Rep.slice 284 RBinding).raw w [va] x)
    (hcl : ∀ wr, Below w.heap.size w wr → ∀ (i : Nat) (h : i < x.length) cs, RBinding.raw wr cs x[i] → Calls Tryz.prog g (#[.agg cs.toArray] ++ cp) wr (fun e w' => e = .returned (.bool (p x[i])) ∧ Below wr.heap.size wr w')) :
    Calls Tryz.prog 261 #[va, .func (.func g) #[] cp] w fun e w' => e = .returned (.int .i64 (idxOf p x)) ∧ Below w.heap.size w w' := by
  obtain ⟨aa, capa, hva, la⟩ := Rep.len_raw ha; obtain rfl : va = _ := by simpa using hva
  clear hva
  have HCL := Lib.hid hcl; clear hcl
  unfold Callable at hg
  go_enter Tryz.func261, Tryz.ntmps261
  go_wp2
  go_loopw [8] (fun i wr => ∃ k : Nat, k ≤ x.length ∧ i = .int .i64 k ∧ (∀ j, (h : j < k) → (h2 : j < x.length) → p x[j] = false) ∧ Below w.heap.size w wr) (fun i _ => x.length - (intOf i).toNat)
  case atStart => exact ⟨0, Nat.zero_le _, rfl, fun _ h => by omega, Below.refl _ _⟩
  case round =>
    obtain ⟨k, hk, rfl, hno, hbel⟩ := hrel
    have HN := Lib.hid hno; clear hno
    by_cases hlt : k < x.length
    · obtain ⟨ba, offa, rfl, c0, c1, hr, A0, A1⟩ := Rep.get2 (ha.below hbel) hlt rfl
      have C := HCL.out wr hbel k hlt _ hr
      by_cases hp : p x[k] = true
      · rw [hp] at C
        have HC := Lib.hid C; clear C
        have HT := Lib.hid (idxOf_hit hlt hp HN.out); clear hp
        go_wp2_with fail
        refine HC.out.mono ?_
        rintro e w1 ⟨rfl, hb1⟩
        go_wp2
        go_ret
        exact ⟨ret_int HT.out.symm, hbel.trans (hb1.mono hbel.size)⟩
      · have hp : p x[k] = false := by simpa using hp
        rw [hp] at C
        have HC := Lib.hid C; clear C
        have HT := Lib.hid (no_succ hlt hp HN.out); clear hp
        go_wp2_with fail
        refine HC.out.mono ?_
        rintro e w1 ⟨rfl, hb1⟩
        go_wp2
        go_roundw
        case rel => exact ⟨k + 1, by omega, by go_num, HT.out, hbel.trans (hb1.mono hbel.size)⟩
        case measure => simp [intOf]; omega
    · have HT := Lib.hid (idxOf_miss hlt HN.out)
      go_wp2
      go_ret
      exact ⟨ret_int HT.out.symm, hbel⟩
theorem flatBinding : RBinding.IsFlat := Rep.isFlat_pair Rep.isFlat_str Rep.isFlat_str
set_option maxRecDepth 100000 in
set_option maxHeartbeats 1000000 in
theorem Clone_Binding_0 {w : World} {va : Value} {x : List LBinding} (ha : (Rep.slice 284 RBinding).rd w [va] x) : Calls Tryz.prog 259 #[va] w (Made0 284 RBinding x w) := by
  obtain ⟨aa, capa, hva, la⟩ := Rep.len_raw ha.1; obtain rfl : va = _ := by simpa using hva
  clear hva
  have HA := Lib.hid ha
  have hnil := fun (W : World) (a : Option Addr) (n c : Nat) => Lib.run_eql_slice_nil (P := Tryz.prog) W 276 284 a n c 0 0 Tryz.underlying276
  cases aa with
  | none =>
    have hx : x = [] := by
      cases x with
      | nil => rfl
      | cons y ys =>
        obtain ⟨b, off, h, _⟩ := Rep.get_raw ha.1 (i := 0) (by simp)
        cases h
    subst hx
    clear ha
    go_enter Tryz.func259, Tryz.ntmps259
    go_wp2
    go_ret
    exact ⟨_, rfl, Rep.own0.nil, Below.refl _ _⟩
  | some a =>
    have hb : x.length ≤ 16777216 := ha.2.1
    clear ha
    go_enter Tryz.func259, Tryz.ntmps259
    have O0 : Rep.own0 284 RBinding (w.alloc (.cells #[] 284)) (.slice (some ⟨w.heap.size, 0, none⟩) 0 0) [] (fun k => k = w.heap.size) := Rep.own0_lit (cs := []) (xs := []) (T := fun _ => False) (by simp) (by simp) rfl (fun _ h => h.elim) rfl
    go_wp2_with (at_builtin; refine Rep.wpList_pushN rfl _ _ 276 rfl (r := RBinding) (e := 284) Tryz.underlying276 infBinding rfl (by decide) (by decide) flatBinding (B := w.heap.size) O0 (by rfl) (by rfl) (HA.out.alloc _) (fun k hk => ⟨by omega, by simp; omega⟩) (by simp) (by simp; omega) ?_)
    intro v2 w2 hown hbel hz
    have HO := Lib.hid hown
    obtain ⟨a2, c2, hv⟩ := hown.none_iff
    obtain rfl := hv
    have EG : Below w.heap.size w w2 := Below.trans (by repeat (first | (with_reducible exact Below.refl _ _) | refine Below.alloc ?_ (by simp; try omega) _ | refine Below.drew ?_ | refine Below.setCell ?_ (by simp; try omega) _)) hbel
    clear hown O0 hbel
    go_wp2
    go_ret
    exact ⟨_, rfl, by simpa using HO.out, EG⟩
set_option maxRecDepth 100000 in
set_option maxHeartbeats 1000000 in
theorem implMatch1_c {w : World} {cb : List Value} {b : LBinding} (hb : RBinding.raw w cb b) {s : ByteArray} {Bs : Nat} (A : w.cell? ⟨Bs, 0, none⟩ = some (.string s)) :
    Calls Tryz.prog 262 (#[.agg cb.toArray] ++ #[.pointer (some ⟨Bs, 0, none⟩)]) w fun e w' => e = .returned (.bool (isB s b)) ∧ Below w.heap.size w w' := by
  obtain ⟨b0, b1⟩ := b
  obtain ⟨rfl, b_0, b_1⟩ := RBinding_raw hb
  clear hb
  have HT := Lib.hid (show isB s (b0, b1) = (b0.toList == s.toList) from rfl)
  show Calls Tryz.prog 262 #[_, _] w _
  go_enter Tryz.func262, Tryz.ntmps262
  go_upto_region 1 with fail
  generalize hwB : World.alloc w _ = wB
  have EB : Below w.heap.size w wB := by rw [← hwB]; exact (by repeat (first | (with_reducible exact Below.refl _ _) | refine Below.alloc ?_ (by simp; try omega) _ | refine Below.drew ?_ | refine Below.setCell ?_ (by simp; try omega) _))
  have K0 : wB.cell? ⟨w.heap.size, 0, none⟩ = some (.string b0) := by rw [← hwB]; simp [go_sem]
  clear hwB
  replace A := cell_later EB A
  go_wp2
  go_ret
  exact ⟨ret_bool HT.out.symm, EB⟩
theorem callable_implMatch1_c : Callable Tryz.prog 262 := callable_of Tryz.func262 (by kernel_rfl) (by kernel_rfl)
set_option maxRecDepth 100000 in
set_option maxHeartbeats 1000000 in
theorem specl5Find_c {w : World} {vl : Value} {l : List LBinding} (hl : (Rep.slice 284 RBinding).raw w [vl] l) {s : ByteArray} :
    Calls Tryz.prog 255 #[vl, .string s] w fun e w' => e = .returned (.int .i64 (idxOf (isB s) l)) ∧ w' = w := by
  obtain ⟨al, pl, el, ll⟩ := Rep.len_raw hl; obtain rfl : vl = _ := by simpa using el
  clear el
  go_enter Tryz.func255, Tryz.ntmps255
  go_wp2
  go_loop [5] (fun i => ∃ k : Nat, k ≤ l.length ∧ i = .int .i64 k ∧ Hid (∀ j, (h : j < k) → (h2 : j < l.length) → isB s l[j] = false)) (fun i => l.length - (intOf i).toNat)
  case atStart => exact ⟨0, Nat.zero_le _, rfl, Lib.hid (fun _ h => by omega)⟩
  case round =>
    obtain ⟨k, hk, rfl, HN⟩ := hrel
    by_cases hlt : k < l.length
    · obtain ⟨qb, qo, rfl, qc0, qc1, qr, Aq0, Aq1⟩ := Rep.get2 hl hlt rfl
      have hhit := fun q => idxOf_hit (p := isB s) hlt q HN.out
      have hmis := fun q => no_succ (p := isB s) hlt q HN.out
      generalize l[k] = x at *
      have HD := Lib.hid hhit; have HX := Lib.hid hmis; clear hhit hmis
      obtain ⟨x0, x1⟩ := x
      obtain ⟨qhe, q_0, q_1⟩ := RBinding_raw qr
      simp only [List.cons.injEq, and_true] at qhe
      obtain ⟨rfl, rfl⟩ := qhe
      cases hv : isB s (x0, x1)
      · have HT := Lib.hid (HX.out hv)
        have hv2 : (x0.toList == s.toList) = false := hv
        clear hv HD HX
        go_wp2
        go_round
        case rel => exact ⟨k + 1, by omega, by go_num, HT⟩
        case measure => simp [intOf]; omega
      · have HT := Lib.hid (HD.out hv)
        have hv2 : (x0.toList == s.toList) = true := hv
        clear hv HD HX
        go_wp2
        go_ret
        exact ⟨ret_int HT.out.symm, rfl⟩
    · have HT := Lib.hid (idxOf_miss hlt HN.out)
      go_wp2
      go_ret
      exact ⟨ret_int HT.out.symm, rfl⟩
theorem idxOf_ge {α : Type} {p : α → Bool} {x : List α} (h : ¬ idxOf p x < 0) : ∃ j : Nat, j < x.length ∧ idxOf p x = (j : Int) := by
  unfold idxOf at h ⊢
  cases hf : x.findIdx? p with
  | none => rw [hf] at h; exact absurd (by decide) h
  | some i => exact ⟨i, (List.findIdx?_eq_some_iff_getElem.1 hf).1, rfl⟩
theorem isLet_size {s : ByteArray} (h : isLet s = true) : s.size = 2 := by unfold isLet at h; simp only [Bool.and_eq_true, decide_eq_true_eq] at h; exact h.1
theorem bind_flat {s t : ByteArray} (hs : s.size ≤ Big) (ht : t.size ≤ Big) : RBinding.flat [.string s, .string t] (s, t) := Rep.flat_pair (cs := [.string s]) (ds := [.string t]) (Rep.flat_str hs) (Rep.flat_str ht)
theorem litB {w : World} {e : TypeId} : Rep.own0 e RBinding (w.alloc (.cells #[] e)) (.slice (some ⟨w.heap.size, 0, none⟩) 0 0) [] (fun k => k = w.heap.size) :=
  Rep.own0_lit (e := e) (r := RBinding) (w := w) (cs := []) (xs := []) (T := fun _ => False) (S := fun k => k = w.heap.size) (by simp) (by simp) rfl (fun _ h => h.elim) rfl
set_option maxRecDepth 100000 in
set_option maxHeartbeats 4000000 in
theorem specMatch_c {w : World} {cp : List Value} {p : LPattern} (hp : RPattern.raw w cp p) {cn : List Value} {n : LName} (hn : RName.raw w cn n) {vl : Value} {l : List LBinding} (hl : (Rep.slice 284 RBinding).rd w [vl] l) (hll : l.length ≤ 1000) :
    Calls Tryz.prog 243 #[.agg cp.toArray, .agg cn.toArray, vl] w fun e w' => ∃ v, e = .returned (.tuple #[v, .bool (mOk p n l)]) ∧ Rep.own0 284 RBinding w' v (mB p n l) (Btw w.heap.size w'.heap.size) ∧ Below w.heap.size w w' := by
  obtain ⟨pv, rfl, p_0⟩ := RPattern_raw hp
  obtain ⟨ap, capp, hvp, lp⟩ := Rep.len_raw p_0; obtain rfl : pv = _ := by simpa using hvp
  obtain ⟨nv, rfl, n_0⟩ := RName_raw hn
  obtain ⟨an, capn, hvn, ln⟩ := Rep.len_raw n_0; obtain rfl : nv = _ := by simpa using hvn
  obtain ⟨al, cal, hvl, ll⟩ := Rep.len_raw hl.1; obtain rfl : vl = _ := by simpa using hvl
  have HP := Lib.hid p_0
  have HN := Lib.hid n_0
  have HPR := Lib.hid hp
  have HNR := Lib.hid hn
  have HL := Lib.hid hl
  clear hvp hvn hvl hp hn p_0 n_0 hl
  go_enter Tryz.func243, Tryz.ntmps243
  go_upto_region 1 with fail
  generalize hwB : World.alloc (World.alloc w _) _ = wB
  have EB : Below w.heap.size w wB := by rw [← hwB]; exact (by repeat (first | (with_reducible exact Below.refl _ _) | refine Below.alloc ?_ (by simp; try omega) _ | refine Below.drew ?_ | refine Below.setCell ?_ (by simp; try omega) _))
  have zB : w.heap.size + 2 ≤ wB.heap.size := by rw [← hwB]; simp
  have K0 : wB.cell? ⟨w.heap.size, 0, none⟩ = some (.slice ap p.length capp) := by rw [← hwB]; simp [go_sem]
  have K1 : wB.cell? ⟨w.heap.size + 1, 0, none⟩ = some (.slice an n.length capn) := by rw [← hwB]; simp [go_sem]
  clear hwB
  have O0 := litB (w := wB) (e := 284)
  go_wp2_with (at_builtin; refine Rep.wpList_pushN rfl _ _ 276 rfl (r := RBinding) (e := 284) Tryz.underlying276 infBinding rfl (by decide) (by decide) flatBinding (B := wB.heap.size) O0 (by rfl) (by rfl) (HL.out.below (by repeat (first | (with_reducible exact EB) | refine Below.alloc ?_ (by have := Below.size EB; simp; try omega) _ | refine Below.drew ?_ | refine Below.setCell ?_ (by have := Below.size EB; simp; try omega) _))) (fun k hk => ⟨by omega, by simp; omega⟩) (by simp) (by simp; omega) ?_)
  intro v2 w2 hown hbel hz
  have HO8 : Hid (Rep.own0 284 RBinding w2 v2 l (Btw wB.heap.size w2.heap.size)) := Lib.hid (by simpa using hown)
  have E2 : Below wB.heap.size wB w2 := Below.trans ((Below.refl _ _).alloc (Nat.le_refl _) _) hbel
  obtain ⟨a8, n8, c8, hv8, HN8⟩ := hown.parts
  obtain rfl := hv8
  replace K0 := cell_later E2 K0
  replace K1 := cell_later E2 K1
  have E := EB.trans (E2.mono EB.size)
  have z2 := E2.size
  clear hown hbel O0 E2 hz EB
  go_wp2_with fail
  refine (specValidPattern_c (HPR.out.below E)).mono ?_
  rintro e w3 ⟨rfl, hb3⟩
  replace K0 := cell_later hb3 K0
  replace K1 := cell_later hb3 K1
  have HO8_ := HO8.out.below hb3
  clear HO8
  have HO8 := Lib.hid HO8_
  clear HO8_
  replace E := E.trans (hb3.mono E.size)
  have z3 := hb3.size
  clear hb3
  cases hvp : vPat p
  · have M := Lib.hid (m_invalid (p := p) (n := n) (l := l) (by rw [hvp]; rfl))
    go_wp2
    refine bodyPost_ret (v := .tuple #[.slice a8 n8 c8, .bool false]) (by simp [results, Tryz.results243, go_sem]) rfl ?_
    exact ⟨_, by rw [M.out.1], (HO8.out.cast M.out.2.symm).wide (fun j hj => ⟨by have := hj.1; omega, by have := hj.2; omega⟩), E⟩

  go_wp2_with fail
  refine (specValidName_c (HNR.out.below E)).mono ?_
  rintro e w4 ⟨rfl, hb4⟩
  replace K0 := cell_later hb4 K0
  replace K1 := cell_later hb4 K1
  have HO8_ := HO8.out.below hb4
  clear HO8
  have HO8 := Lib.hid HO8_
  clear HO8_
  replace E := E.trans (hb4.mono E.size)
  have z4 := hb4.size
  clear hb4
  cases hvn : vName n
  · have M := Lib.hid (m_invalid (p := p) (n := n) (l := l) (by rw [hvn]; simp))
    go_wp2
    refine bodyPost_ret (v := .tuple #[.slice a8 n8 c8, .bool false]) (by simp [results, Tryz.results243, go_sem]) rfl ?_
    exact ⟨_, by rw [M.out.1], (HO8.out.cast M.out.2.symm).wide (fun j hj => ⟨by have := hj.1; omega, by have := hj.2; omega⟩), E⟩

  have HV : Hid ((vPat p && vName n) = true) := Lib.hid (by rw [hvp, hvn]; rfl)
  have hp6 := vPat_len hvp
  have HVN := Lib.hid hvn
  clear hvp hvn
  have O0 := litB (w := w4) (e := 284)
  go_wp2_with (at_builtin; refine Rep.wpList_pushN rfl _ _ 276 rfl (r := RBinding) (e := 284) Tryz.underlying276 infBinding rfl (by decide) (by decide) flatBinding (B := w4.heap.size) O0 (by rfl) (by rfl) (HL.out.below (by repeat (first | (with_reducible exact E) | refine Below.alloc ?_ (by have := Below.size E; simp; try omega) _ | refine Below.drew ?_ | refine Below.setCell ?_ (by have := Below.size E; simp; try omega) _))) (fun k hk => ⟨by omega, by simp; omega⟩) (by simp) (by simp; omega) ?_)
  intro v5 w5 hown hbel hz
  have HO9 : Hid (Rep.own0 284 RBinding w5 v5 l (Btw w4.heap.size w5.heap.size)) := Lib.hid (by simpa using hown)
  have E5 : Below w4.heap.size w4 w5 := Below.trans ((Below.refl _ _).alloc (Nat.le_refl _) _) hbel
  have HK0 := Lib.hid (cell_later E5 K0)
  have HK1 := Lib.hid (cell_later E5 K1)
  have HO8_ := HO8.out.below E5
  clear HO8
  have HO8 := Lib.hid HO8_
  have EE := E.trans (E5.mono E.size)
  have z5 := E5.size
  clear hown hbel O0 E5 hz K0 K1 HO8_ E
  go_wp2
  go_loopw [9, 10] (fun v i wr => ∃ (k : Nat) (out : List LBinding), k ≤ p.length ∧ k ≤ n.length ∧ i = .int .i64 k ∧ Hid (mAt p n l k = (0, out)) ∧ out.length ≤ l.length + k ∧ Hid (Rep.own0 284 RBinding wr v out (Btw w4.heap.size wr.heap.size)) ∧ Below w4.heap.size w5 wr) (fun _ i _ => p.length - (intOf i).toNat)
  case atStart => exact ⟨0, l, Nat.zero_le _, Nat.zero_le _, rfl, Lib.hid rfl, by omega, HO9, Below.refl _ _⟩
  case round =>
    clear HO9
    obtain ⟨k, out, hk, hkn, rfl, HA, hol, HO, hbel⟩ := hrel
    obtain ⟨oa, on, oc, ho, HON⟩ := HO.out.parts; obtain rfl := ho
    have ER := EE.trans (hbel.mono (by omega))
    have zr := hbel.size
    have K0 := (hbel.cell (p := ⟨w.heap.size, 0, none⟩) (by simp only; omega)).trans HK0.out
    have K1 := (hbel.cell (p := ⟨w.heap.size + 1, 0, none⟩) (by simp only; omega)).trans HK1.out
    have HO8r := Lib.hid (HO8.out.keep (w' := wr) (fun j hj _ => hbel.block j (by have := hj.2; omega)))
    by_cases hlt : k < p.length
    · obtain ⟨sb, so, rfl, c0, sr, As⟩ := Rep.get1 (HP.out.below ER) hlt rfl
      obtain ⟨he, hsz⟩ := Rep.str_raw sr
      obtain rfl : c0 = _ := by simpa using he
      have mf := fun o2 q => m_fail (out2 := o2) hlt HA.out q
      have md := fun o2 q => m_done (out2 := o2) HV.out hlt HA.out q
      have mg := fun o2 q => mAt_go (t3 := 0) (out3 := o2) hlt HA.out q
      generalize p[k] = s at *
      have MF := Lib.hid mf; have MD := Lib.hid md; have MGO := Lib.hid mg
      clear mf md mg he sr
      cases h2 : star2 s
      case true =>
        have hs2 : (s.toList == [42, 42]) = true := h2
        have M := Lib.hid (MD.out _ (ms_star2 h2))
        go_wp2
        refine bodyPost_ret (v := .tuple #[.slice oa on oc, .bool true]) (by simp [results, Tryz.results243, go_sem]) rfl ?_
        exact ⟨_, by rw [M.out.1], (HO.out.cast M.out.2.symm).wide (fun j hj => ⟨by have := hj.1; omega, hj.2⟩), ER⟩
      have hs2 : (s.toList == [42, 42]) = false := h2
      have H2 := Lib.hid h2; clear h2
      by_cases hkl : k < n.length
      case neg =>
        have hge : (k : Int) ≥ n.length := by omega
        have M := Lib.hid (MF.out _ (ms_short (s := s) H2.out (show n.length ≤ k by omega)))
        go_wp2
        refine bodyPost_ret (v := .tuple #[.slice a8 n8 c8, .bool false]) (by simp [results, Tryz.results243, go_sem]) rfl ?_
        exact ⟨_, by rw [M.out.1], (HO8r.out.cast M.out.2.symm).wide (fun j hj => ⟨by have := hj.1; omega, by have := hj.2; omega⟩), ER⟩
      have hge : ¬ ((k : Int) ≥ n.length) := by omega
      obtain ⟨tb_, to_, rfl, c1, tr, Bn⟩ := Rep.get1 (HN.out.below ER) hkl rfl
      obtain ⟨he, htz⟩ := Rep.str_raw tr
      obtain rfl : c1 = _ := by simpa using he
      have ht8 := vName_part HVN.out hkl
      have HX1 := Lib.hid (fun q1 => ms_star1 (s := s) (out := out) H2.out hkl q1)
      have HX2 := Lib.hid (fun q1 q2 q3 => ms_new (s := s) (out := out) H2.out hkl q1 q2 q3)
      have HX3 := Lib.hid (fun q1 q2 j q3 q4 q5 => ms_old (s := s) (out := out) (j := j) H2.out hkl q1 q2 q3 q4 q5)
      have HX4 := Lib.hid (fun q1 q2 j q3 q4 q5 => ms_other (s := s) (out := out) (j := j) H2.out hkl q1 q2 q3 q4 q5)
      have HX5 := Lib.hid (fun q1 q2 q3 => ms_same (s := s) (out := out) H2.out hkl q1 q2 q3)
      have HX6 := Lib.hid (fun q1 q2 q3 => ms_diff (s := s) (out := out) H2.out hkl q1 q2 q3)
      generalize n[k] = t at *
      clear he tr
      cases h1 : star1 s
      case true =>
        have hs1 : (s.toList == [42]) = true := h1
        have MG := Lib.hid (MGO.out _ (HX1.out h1))
        clear h1
        go_wp2
        go_roundw
        case rel => exact ⟨k + 1, _, by omega, by omega, by go_num, MG, by omega, HO, hbel⟩
        case measure => simp [intOf]; omega
      have hs1 : (s.toList == [42]) = false := h1
      have H1 := Lib.hid h1; clear h1
      go_wp2_with fail
      refine (specl5Letter_c hsz).mono ?_
      rintro e w6 ⟨rfl, hw⟩
      obtain rfl := hw.symm
      cases hL : isLet s
      case false =>
        cases hq : (s.toList == t.toList)
        · have M := Lib.hid (MF.out _ (HX6.out H1.out hL hq))
          clear hL
          go_wp2
          refine bodyPost_ret (v := .tuple #[.slice a8 n8 c8, .bool false]) (by simp [results, Tryz.results243, go_sem]) rfl ?_
          exact ⟨_, by rw [M.out.1], (HO8r.out.cast M.out.2.symm).wide (fun j hj => ⟨by have := hj.1; omega, by have := hj.2; omega⟩), ER⟩
        · have MG := Lib.hid (MGO.out _ (HX5.out H1.out hL hq))
          clear hL
          go_wp2
          go_roundw
          case rel => exact ⟨k + 1, _, by omega, by omega, by go_num, MG, by omega, HO, hbel⟩
          case measure => simp [intOf]; omega
      have HLt := Lib.hid hL; clear hL
      have hs22 := isLet_size HLt.out
      go_wp2_with fail
      refine (specl5Find_c ((HO.out.own (by unfold Big; omega)).raw)).mono ?_
      rintro e w7 ⟨rfl, hw⟩
      obtain rfl := hw.symm
      by_cases hi : idxOf (isB s) out < 0
      · have MG := Lib.hid (MGO.out _ (HX2.out H1.out HLt.out hi))
        go_wp2_with (at_builtin; refine Rep.wpList_pushB rfl _ _ 276 rfl (r := RBinding) (e := 284) Tryz.underlying276 infBinding rfl (by decide) (by decide) (B := w4.heap.size) HO.out (by rfl) (by rfl) rfl ((bind_flat (s := s) (t := t) (by unfold Big; omega) (by unfold Big; omega)) _) rfl (fun _ _ h => h) (fun j hj => ⟨hj.1, by have := hj.2; omega⟩) (fun _ h => h.elim) (by omega) (by omega) ?_)
        intro v8 w8 ho8 hb8 hz8
        obtain ⟨oa8, on8, oc8, hv8, HON8⟩ := ho8.parts; obtain rfl := hv8
        have HO2 := Lib.hid ho8
        have hbel8 := hbel.trans hb8
        clear ho8 hb8 HO hbel hi
        go_wp2
        go_roundw
        case rel => exact ⟨k + 1, _, by omega, by omega, by go_num, MG, by simp; omega, HO2, hbel8⟩
        case measure => simp [intOf]; omega
      · obtain ⟨j, hj, hji⟩ := idxOf_ge hi
        have HX3' := Lib.hid (fun q => HX3.out H1.out HLt.out j hj hji q)
        have HX4' := Lib.hid (fun q => HX4.out H1.out HLt.out j hj hji q)
        obtain ⟨qb, qo, hqe, qc0, qc1, qr, Aq0, Aq1⟩ := Rep.get2 (HO.out.own (by unfold Big; omega)).raw hj rfl
        obtain rfl := hqe
        rw [hji]
        clear HX3 HX4 hji hi
        generalize out[j] = q at *
        obtain ⟨q0, q1⟩ := q
        obtain ⟨qhe, q_0, q_1⟩ := RBinding_raw qr
        simp only [List.cons.injEq, and_true] at qhe
        obtain ⟨rfl, rfl⟩ := qhe
        have hjl := HON.out
        have hj2 : (j : Int) < on := by omega
        have hj0 := Int.natCast_nonneg j
        have hjo : ¬ ((j : Int) < 0) := by omega
        clear hjl
        go_upto_region 18 with fail
        refine wp_region_soft (fun W => Below wr.heap.size wr W) [true, true, true, true, true, true, true, true, true, true, true] (by kernel_rfl) (by kernel_rfl) (fun c a d v w h => by cases d <;> exact h) ((Below.refl _ _).drew) ?_
        intro wS HS
        all_goals first | (refine soft_pass rfl HS ?_) | (refine soft_read (v := ?_) rfl (fun W hW => ?_) ?_; rotate_left; (· go_simp; try with_reducible rfl))
        all_goals try simp only [Act.put, List.setIfInBounds_toArray, List.set_cons_zero, List.set_cons_succ]
        all_goals first | (refine soft_pass rfl HS ?_) | (refine soft_read (v := ?_) rfl (fun W hW => ?_) ?_; rotate_left; (· go_simp; try with_reducible rfl))
        all_goals try simp only [Act.put, List.setIfInBounds_toArray, List.set_cons_zero, List.set_cons_succ]
        all_goals first | (refine soft_pass rfl HS ?_) | (refine soft_read (v := ?_) rfl (fun W hW => ?_) ?_; rotate_left; (· go_simp; try with_reducible rfl))
        all_goals try simp only [Act.put, List.setIfInBounds_toArray, List.set_cons_zero, List.set_cons_succ]
        all_goals first | (refine soft_pass rfl HS ?_) | (refine soft_read (v := ?_) rfl (fun W hW => ?_) ?_; rotate_left; (· go_simp; try with_reducible rfl))
        all_goals try simp only [Act.put, List.setIfInBounds_toArray, List.set_cons_zero, List.set_cons_succ]
        all_goals first | (refine soft_pass rfl HS ?_) | (refine soft_read (v := ?_) rfl (fun W hW => ?_) ?_; rotate_left; (· have A_K1 := cell_later hW K1; have A_Bn := cell_later hW Bn; have A_Aq1 := cell_later hW Aq1; clear hW; go_simp; try with_reducible rfl))
        all_goals try simp only [Act.put, List.setIfInBounds_toArray, List.set_cons_zero, List.set_cons_succ]
        all_goals first | (refine soft_pass rfl HS ?_) | (refine soft_read (v := ?_) rfl (fun W hW => ?_) ?_; rotate_left; (· go_simp; try with_reducible rfl))
        all_goals try simp only [Act.put, List.setIfInBounds_toArray, List.set_cons_zero, List.set_cons_succ]
        all_goals first | (refine soft_pass rfl HS ?_) | (refine soft_read (v := ?_) rfl (fun W hW => ?_) ?_; rotate_left; (· have A_K1 := cell_later hW K1; have A_Bn := cell_later hW Bn; have A_Aq1 := cell_later hW Aq1; clear hW; go_simp; try with_reducible rfl))
        all_goals try simp only [Act.put, List.setIfInBounds_toArray, List.set_cons_zero, List.set_cons_succ]
        all_goals first | (refine soft_pass rfl HS ?_) | (refine soft_read (v := ?_) rfl (fun W hW => ?_) ?_; rotate_left; (· go_simp; try with_reducible rfl))
        all_goals try simp only [Act.put, List.setIfInBounds_toArray, List.set_cons_zero, List.set_cons_succ]
        all_goals first | (refine soft_pass rfl HS ?_) | (refine soft_read (v := ?_) rfl (fun W hW => ?_) ?_; rotate_left; (· go_simp; try with_reducible rfl))
        all_goals try simp only [Act.put, List.setIfInBounds_toArray, List.set_cons_zero, List.set_cons_succ]
        all_goals first | (refine soft_pass rfl HS ?_) | (refine soft_read (v := ?_) rfl (fun W hW => ?_) ?_; rotate_left; (· have A_K1 := cell_later hW K1; have A_Bn := cell_later hW Bn; have A_Aq1 := cell_later hW Aq1; clear hW; go_simp; try with_reducible rfl))
        all_goals try simp only [Act.put, List.setIfInBounds_toArray, List.set_cons_zero, List.set_cons_succ]
        all_goals first | (refine soft_pass rfl HS ?_; have hg10 := True.intro) | (refine soft_part (v := ?_) (b := ?_) rfl (fun W hW => ?_) ?_ (fun b hg10 => ?_); rotate_left; rotate_left; (· go_simp; try with_reducible rfl); (· with_reducible rfl); cases b; all_goals first | (exact Bool.noConfusion hg10) | (simp only [Bool.not_eq_true', Bool.not_eq_false'] at hg10) | skip)
        all_goals try simp only [Act.put, List.setIfInBounds_toArray, List.set_cons_zero, List.set_cons_succ]
        all_goals refine soft_nil ?_
        all_goals have HO_ := HO.out.below HS
        all_goals have HO8_ := HO8r.out.below HS
        all_goals have ER2 := ER.trans (HS.mono ER.size)
        all_goals have hbel2 := hbel.trans (HS.mono (by omega))
        all_goals have zS := HS.size
        all_goals clear HO HO8r hbel ER HS
        all_goals first
          | (have M := Lib.hid (MF.out _ (HX4'.out (show (q1.toList == t.toList) = false by simp only [hg10, Bool.not_true, Bool.not_false]))); (try clear hg10); go_wp2; (refine bodyPost_ret (v := .tuple #[.slice a8 n8 c8, .bool false]) (by simp [results, Tryz.results243, go_sem]) rfl ?_); exact ⟨_, by rw [M.out.1], (HO8_.cast M.out.2.symm).wide (fun j hj => ⟨by have := hj.1; omega, by have := hj.2; omega⟩), ER2⟩)
          | (have MG := Lib.hid (MGO.out _ (HX3'.out (show (q1.toList == t.toList) = true by simp only [hg10, Bool.not_true, Bool.not_false]))); (try clear hg10); go_wp2; go_roundw; (case rel => exact ⟨k + 1, _, by omega, by omega, by go_num, MG, by omega, Lib.hid (HO_.wide (fun j hj => ⟨hj.1, by have := hj.2; omega⟩)), hbel2⟩); (case measure => simp [intOf]; omega))
    · by_cases hnl : n.length = p.length
      · have M := Lib.hid (m_over HV.out hlt hk HA.out hnl)
        have hnI : ((n.length : Int) != p.length) = false := by simp; omega
        have hnN : (n.length != p.length) = false := by simp; omega
        clear hnl
        go_wp2
        refine bodyPost_ret (v := .tuple #[.slice oa on oc, .bool true]) (by simp [results, Tryz.results243, go_sem]) rfl ?_
        exact ⟨_, by rw [M.out.1], (HO.out.cast M.out.2.symm).wide (fun j hj => ⟨by have := hj.1; omega, hj.2⟩), ER⟩
      · have M := Lib.hid (m_long hlt hk HA.out hnl)
        have hnI : ((n.length : Int) != p.length) = true := by simp; omega
        have hnN : (n.length != p.length) = true := by simp; omega
        go_wp2
        refine bodyPost_ret (v := .tuple #[.slice a8 n8 c8, .bool false]) (by simp [results, Tryz.results243, go_sem]) rfl ?_
        exact ⟨_, by rw [M.out.1], (HO8r.out.cast M.out.2.symm).wide (fun j hj => ⟨by have := hj.1; omega, by have := hj.2; omega⟩), ER⟩
set_option maxRecDepth 100000 in
set_option maxHeartbeats 4000000 in
theorem implMatch_c {w : World} {cp : List Value} {p : LPattern} (hp : RPattern.raw w cp p) {cn : List Value} {n : LName} (hn : RName.raw w cn n) {vl : Value} {l : List LBinding} (hl : (Rep.slice 284 RBinding).rd w [vl] l) (hll : l.length ≤ 1000) :
    Calls Tryz.prog 249 #[.agg cp.toArray, .agg cn.toArray, vl] w fun e w' => ∃ v, e = .returned (.tuple #[v, .bool (mOk p n l)]) ∧ Rep.own0 284 RBinding w' v (mB p n l) (Btw w.heap.size w'.heap.size) ∧ Below w.heap.size w w' := by
  obtain ⟨pv, rfl, p_0⟩ := RPattern_raw hp
  obtain ⟨ap, capp, hvp, lp⟩ := Rep.len_raw p_0; obtain rfl : pv = _ := by simpa using hvp
  obtain ⟨nv, rfl, n_0⟩ := RName_raw hn
  obtain ⟨an, capn, hvn, ln⟩ := Rep.len_raw n_0; obtain rfl : nv = _ := by simpa using hvn
  obtain ⟨al, cal, hvl, ll⟩ := Rep.len_raw hl.1; obtain rfl : vl = _ := by simpa using hvl
  have HP := Lib.hid p_0
  have HN := Lib.hid n_0
  have HPR := Lib.hid hp
  have HNR := Lib.hid hn
  have HL := Lib.hid hl
  clear hvp hvn hvl hp hn p_0 n_0 hl
  go_enter Tryz.func249, Tryz.ntmps249
  go_upto_region 1 with fail
  generalize hwB : World.alloc (World.alloc w _) _ = wB
  have EB : Below w.heap.size w wB := by rw [← hwB]; exact (by repeat (first | (with_reducible exact Below.refl _ _) | refine Below.alloc ?_ (by simp; try omega) _ | refine Below.drew ?_ | refine Below.setCell ?_ (by simp; try omega) _))
  have zB : w.heap.size + 2 ≤ wB.heap.size := by rw [← hwB]; simp
  have K0 : wB.cell? ⟨w.heap.size, 0, none⟩ = some (.slice ap p.length capp) := by rw [← hwB]; simp [go_sem]
  have K1 : wB.cell? ⟨w.heap.size + 1, 0, none⟩ = some (.slice an n.length capn) := by rw [← hwB]; simp [go_sem]
  clear hwB
  go_wp2_with fail
  refine (Clone_Binding_0 (HL.out.below EB)).mono ?_
  rintro e w2 ⟨v2, rfl, hown, E2⟩
  obtain ⟨a8, n8, c8, hv8, HN8⟩ := hown.parts
  obtain rfl := hv8
  have HO8 := Lib.hid hown
  replace K0 := cell_later E2 K0
  replace K1 := cell_later E2 K1
  have E := EB.trans (E2.mono EB.size)
  have z2 := E2.size
  clear hown E2 EB
  go_wp2_with fail
  refine (implValidPattern_c (HPR.out.below E)).mono ?_
  rintro e w3 ⟨rfl, hb3⟩
  replace K0 := cell_later hb3 K0
  replace K1 := cell_later hb3 K1
  have HO8_ := HO8.out.below hb3
  clear HO8
  have HO8 := Lib.hid HO8_
  clear HO8_
  replace E := E.trans (hb3.mono E.size)
  have z3 := hb3.size
  clear hb3
  cases hvp : vPat p
  · have M := Lib.hid (m_invalid (p := p) (n := n) (l := l) (by rw [hvp]; rfl))
    go_wp2
    refine bodyPost_ret (v := .tuple #[.slice a8 n8 c8, .bool false]) (by simp [results, Tryz.results249, go_sem]) rfl ?_
    exact ⟨_, by rw [M.out.1], (HO8.out.cast M.out.2.symm).wide (fun j hj => ⟨by have := hj.1; omega, by have := hj.2; omega⟩), E⟩

  go_wp2_with fail
  refine (implValidName_c (HNR.out.below E)).mono ?_
  rintro e w4 ⟨rfl, hb4⟩
  replace K0 := cell_later hb4 K0
  replace K1 := cell_later hb4 K1
  have HO8_ := HO8.out.below hb4
  clear HO8
  have HO8 := Lib.hid HO8_
  clear HO8_
  replace E := E.trans (hb4.mono E.size)
  have z4 := hb4.size
  clear hb4
  cases hvn : vName n
  · have M := Lib.hid (m_invalid (p := p) (n := n) (l := l) (by rw [hvn]; simp))
    go_wp2
    refine bodyPost_ret (v := .tuple #[.slice a8 n8 c8, .bool false]) (by simp [results, Tryz.results249, go_sem]) rfl ?_
    exact ⟨_, by rw [M.out.1], (HO8.out.cast M.out.2.symm).wide (fun j hj => ⟨by have := hj.1; omega, by have := hj.2; omega⟩), E⟩

  have HV : Hid ((vPat p && vName n) = true) := Lib.hid (by rw [hvp, hvn]; rfl)
  have hp6 := vPat_len hvp
  have HVN := Lib.hid hvn
  clear hvp hvn
  have HK0 := Lib.hid K0
  have HK1 := Lib.hid K1
  have HO8w := Lib.hid (HO8.out.wide (T := Btw wB.heap.size w4.heap.size) (fun j hj => ⟨hj.1, by have := hj.2; omega⟩))
  clear HO8
  go_wp2
  clear K0 K1
  go_loopw [8, 27] (fun v i wr => ∃ (k : Nat) (out : List LBinding), k ≤ p.length ∧ k ≤ n.length ∧ i = .int .i64 k ∧ Hid (mAt p n l k = (0, out)) ∧ out.length ≤ l.length + k ∧ Hid (Rep.own0 284 RBinding wr v out (Btw wB.heap.size wr.heap.size)) ∧ Below wB.heap.size w4 wr) (fun _ i _ => p.length - (intOf i).toNat)
  case atStart => exact ⟨0, l, Nat.zero_le _, Nat.zero_le _, rfl, Lib.hid rfl, by omega, HO8w, Below.refl _ _⟩
  case round =>
    clear HO8w
    obtain ⟨k, out, hk, hkn, rfl, HA, hol, HO, hbel⟩ := hrel
    obtain ⟨oa, on, oc, ho, HON⟩ := HO.out.parts; obtain rfl := ho
    have ER := E.trans (hbel.mono (by omega))
    have zr := hbel.size
    have K0 := (hbel.cell (p := ⟨w.heap.size, 0, none⟩) (by simp only; omega)).trans HK0.out
    have K1 := (hbel.cell (p := ⟨w.heap.size + 1, 0, none⟩) (by simp only; omega)).trans HK1.out
    by_cases hlt : k < p.length
    · obtain ⟨sb, so, rfl, c0, sr, As⟩ := Rep.get1 (HP.out.below ER) hlt rfl
      obtain ⟨he, hsz⟩ := Rep.str_raw sr
      obtain rfl : c0 = _ := by simpa using he
      have mf := fun o2 q => m_fail (out2 := o2) hlt HA.out q
      have md := fun o2 q => m_done (out2 := o2) HV.out hlt HA.out q
      have mg := fun o2 q => mAt_go (t3 := 0) (out3 := o2) hlt HA.out q
      generalize p[k] = s at *
      have MF := Lib.hid mf; have MD := Lib.hid md; have MGO := Lib.hid mg
      clear mf md mg he sr
      go_upto_region 7 with fail
      generalize hwC : World.alloc wr _ = wC
      have EC : Below wr.heap.size wr wC := by rw [← hwC]; exact (by repeat (first | (with_reducible exact Below.refl _ _) | refine Below.alloc ?_ (by simp; try omega) _ | refine Below.drew ?_ | refine Below.setCell ?_ (by simp; try omega) _))
      have KC : wC.cell? ⟨wr.heap.size, 0, none⟩ = some (.string s) := by rw [← hwC]; simp [go_sem]
      have zC : wr.heap.size + 1 ≤ wC.heap.size := by rw [← hwC]; simp
      clear hwC As
      replace K0 := cell_later EC K0
      replace K1 := cell_later EC K1
      replace HO := Lib.hid ((HO.out.below EC).wide (T := Btw wB.heap.size wC.heap.size) (fun j hj => ⟨hj.1, by have := hj.2; omega⟩))
      replace ER := ER.trans (EC.mono ER.size)
      replace hbel := hbel.trans (EC.mono (by omega))
      clear EC
      cases h2 : star2 s
      case true =>
        have hs2 : (s.toList == [42, 42]) = true := h2
        have M := Lib.hid (MD.out _ (ms_star2 h2))
        go_wp2
        refine bodyPost_ret (v := .tuple #[.slice oa on oc, .bool true]) (by simp [results, Tryz.results249, go_sem]) rfl ?_
        exact ⟨_, by rw [M.out.1], (HO.out.cast M.out.2.symm).wide (fun j hj => ⟨by have := hj.1; omega, hj.2⟩), ER⟩
      have hs2 : (s.toList == [42, 42]) = false := h2
      have H2 := Lib.hid h2; clear h2
      by_cases hkl : k < n.length
      case neg =>
        have hge : (k : Int) ≥ n.length := by omega
        have M := Lib.hid (MF.out _ (ms_short (s := s) H2.out (show n.length ≤ k by omega)))
        go_wp2_with fail
        refine (Clone_Binding_0 (HL.out.below ER)).mono ?_
        rintro e w9 ⟨v9, rfl, O9, hb9⟩
        obtain ⟨a9, n9, c9, hv9, HN9⟩ := O9.parts
        obtain rfl := hv9
        have E9 := ER.trans (hb9.mono (ER).size)
        have z9 := (ER).size
        have z99 := hb9.size
        go_wp2
        refine bodyPost_ret (v := .tuple #[.slice a9 n9 c9, .bool false]) (by simp [results, Tryz.results249, go_sem]) rfl ?_
        exact ⟨_, by rw [M.out.1], (O9.cast M.out.2.symm).wide (fun j hj => ⟨by have := hj.1; omega, hj.2⟩), E9⟩
      have hge : ¬ ((k : Int) ≥ n.length) := by omega
      have hklI : (k : Int) < n.length := by omega
      obtain ⟨tb_, to_, rfl, c1, tr, Bn⟩ := Rep.get1 (HN.out.below ER) hkl rfl
      obtain ⟨he, htz⟩ := Rep.str_raw tr
      obtain rfl : c1 = _ := by simpa using he
      have ht8 := vName_part HVN.out hkl
      have HX1 := Lib.hid (fun q1 => ms_star1 (s := s) (out := out) H2.out hkl q1)
      have HX2 := Lib.hid (fun q1 q2 q3 => ms_new (s := s) (out := out) H2.out hkl q1 q2 q3)
      have HX3 := Lib.hid (fun q1 q2 j q3 q4 q5 => ms_old (s := s) (out := out) (j := j) H2.out hkl q1 q2 q3 q4 q5)
      have HX4 := Lib.hid (fun q1 q2 j q3 q4 q5 => ms_other (s := s) (out := out) (j := j) H2.out hkl q1 q2 q3 q4 q5)
      have HX5 := Lib.hid (fun q1 q2 q3 => ms_same (s := s) (out := out) H2.out hkl q1 q2 q3)
      have HX6 := Lib.hid (fun q1 q2 q3 => ms_diff (s := s) (out := out) H2.out hkl q1 q2 q3)
      generalize n[k] = t at *
      clear he tr
      go_wp2_with fail
      refine (IndexFunc_Binding_c (isB s) callable_implMatch1_c ((HO.out.own (by unfold Big; omega)).raw) ?_).mono ?_
      · intro wx hb i h cs hr
        exact implMatch1_c hr (cell_later hb KC)
      rintro e w6 ⟨rfl, hb6⟩
      have z6 := hb6.size
      replace KC := cell_later hb6 KC
      replace K0 := cell_later hb6 K0
      replace K1 := cell_later hb6 K1
      replace HO := Lib.hid ((HO.out.below hb6).wide (T := Btw wB.heap.size w6.heap.size) (fun j hj => ⟨hj.1, by have := hj.2; omega⟩))
      replace ER := ER.trans (hb6.mono ER.size)
      replace hbel := hbel.trans (hb6.mono (by omega))
      clear hb6 Bn
      cases h1 : star1 s
      case true =>
        have hs1 : (s.toList == [42]) = true := h1
        have MG := Lib.hid (MGO.out _ (HX1.out h1))
        clear h1
        go_wp2
        go_roundw
        case rel => exact ⟨k + 1, _, by omega, by omega, by go_num, MG, by omega, HO, hbel⟩
        case measure => simp [intOf]; omega
      have hs1 : (s.toList == [42]) = false := h1
      have H1 := Lib.hid h1; clear h1
      go_wp2_with fail
      refine (implisVariable_c hsz).mono ?_
      rintro e w7 ⟨rfl, hw⟩
      obtain rfl := hw.symm
      cases hL : isLet s
      case false =>
        cases hq : (s.toList == t.toList)
        · have M := Lib.hid (MF.out _ (HX6.out H1.out hL hq))
          clear hL
          go_wp2_with fail
          refine (Clone_Binding_0 (HL.out.below ER)).mono ?_
          rintro e w9 ⟨v9, rfl, O9, hb9⟩
          obtain ⟨a9, n9, c9, hv9, HN9⟩ := O9.parts
          obtain rfl := hv9
          have E9 := ER.trans (hb9.mono (ER).size)
          have z9 := (ER).size
          have z99 := hb9.size
          go_wp2
          refine bodyPost_ret (v := .tuple #[.slice a9 n9 c9, .bool false]) (by simp [results, Tryz.results249, go_sem]) rfl ?_
          exact ⟨_, by rw [M.out.1], (O9.cast M.out.2.symm).wide (fun j hj => ⟨by have := hj.1; omega, hj.2⟩), E9⟩
        · have MG := Lib.hid (MGO.out _ (HX5.out H1.out hL hq))
          clear hL
          go_wp2
          go_roundw
          case rel => exact ⟨k + 1, _, by omega, by omega, by go_num, MG, by omega, HO, hbel⟩
          case measure => simp [intOf]; omega
      have HLt := Lib.hid hL; clear hL
      have hs22 := isLet_size HLt.out
      by_cases hi : idxOf (isB s) out < 0
      · have MG := Lib.hid (MGO.out _ (HX2.out H1.out HLt.out hi))
        go_wp2_with (at_builtin; refine Rep.wpList_pushB rfl _ _ 276 rfl (r := RBinding) (e := 284) Tryz.underlying276 infBinding rfl (by decide) (by decide) (B := wB.heap.size) HO.out (by rfl) (by rfl) rfl ((bind_flat (s := s) (t := t) (by unfold Big; omega) (by unfold Big; omega)) _) rfl (fun _ _ h => h) (fun j hj => ⟨hj.1, by have := hj.2; omega⟩) (fun _ h => h.elim) (by omega) (by omega) ?_)
        intro v8 w8 ho8 hb8 hz8
        obtain ⟨oa8, on8, oc8, hv8, HON8⟩ := ho8.parts; obtain rfl := hv8
        have HO2 := Lib.hid ho8
        have hbel8 := hbel.trans hb8
        clear ho8 hb8 HO hbel hi
        go_wp2
        go_roundw
        case rel => exact ⟨k + 1, _, by omega, by omega, by go_num, MG, by simp; omega, HO2, hbel8⟩
        case measure => simp [intOf]; omega
      · obtain ⟨j, hj, hji⟩ := idxOf_ge hi
        have HX3' := Lib.hid (fun q => HX3.out H1.out HLt.out j hj hji q)
        have HX4' := Lib.hid (fun q => HX4.out H1.out HLt.out j hj hji q)
        obtain ⟨qb, qo, hqe, qc0, qc1, qr, Aq0, Aq1⟩ := Rep.get2 (HO.out.own (by unfold Big; omega)).raw hj rfl
        obtain rfl := hqe
        rw [hji]
        clear HX3 HX4 hji hi
        generalize out[j] = q at *
        obtain ⟨q0, q1⟩ := q
        obtain ⟨qhe, q_0, q_1⟩ := RBinding_raw qr
        simp only [List.cons.injEq, and_true] at qhe
        obtain ⟨rfl, rfl⟩ := qhe
        have hjl := HON.out
        have hj2 : (j : Int) < on := by omega
        have hj3 : j < on := by omega
        have hj0 := Int.natCast_nonneg j
        have hjo : ¬ ((j : Int) < 0) := by omega
        clear hjl
        cases hq : (q1.toList == t.toList)
        · have M := Lib.hid (MF.out _ (HX4'.out hq))
          go_wp2_with fail
          refine (Clone_Binding_0 (HL.out.below ER)).mono ?_
          rintro e w9 ⟨v9, rfl, O9, hb9⟩
          obtain ⟨a9, n9, c9, hv9, HN9⟩ := O9.parts
          obtain rfl := hv9
          have E9 := ER.trans (hb9.mono (ER).size)
          have z9 := (ER).size
          have z99 := hb9.size
          go_wp2
          refine bodyPost_ret (v := .tuple #[.slice a9 n9 c9, .bool false]) (by simp [results, Tryz.results249, go_sem]) rfl ?_
          exact ⟨_, by rw [M.out.1], (O9.cast M.out.2.symm).wide (fun j hj => ⟨by have := hj.1; omega, hj.2⟩), E9⟩
        · have MG := Lib.hid (MGO.out _ (HX3'.out hq))
          clear HX3' HX4'
          go_wp2
          go_roundw
          case rel => exact ⟨k + 1, _, by omega, by omega, by go_num, MG, by omega, HO, hbel⟩
          case measure => simp [intOf]; omega
    · by_cases hnl : n.length = p.length
      · have M := Lib.hid (m_over HV.out hlt hk HA.out hnl)
        have hnI : ¬ ((n.length : Int) > p.length) := by omega
        clear hnl
        go_wp2
        refine bodyPost_ret (v := .tuple #[.slice oa on oc, .bool true]) (by simp [results, Tryz.results249, go_sem]) rfl ?_
        exact ⟨_, by rw [M.out.1], (HO.out.cast M.out.2.symm).wide (fun j hj => ⟨by have := hj.1; omega, hj.2⟩), ER⟩
      · have M := Lib.hid (m_long hlt hk HA.out hnl)
        have hnI : ((n.length : Int) > p.length) := by omega
        go_wp2_with fail
        refine (Clone_Binding_0 (HL.out.below ER)).mono ?_
        rintro e w9 ⟨v9, rfl, O9, hb9⟩
        obtain ⟨a9, n9, c9, hv9, HN9⟩ := O9.parts
        obtain rfl := hv9
        have E9 := ER.trans (hb9.mono (ER).size)
        have z9 := (ER).size
        have z99 := hb9.size
        go_wp2
        refine bodyPost_ret (v := .tuple #[.slice a9 n9 c9, .bool false]) (by simp [results, Tryz.results249, go_sem]) rfl ?_
        exact ⟨_, by rw [M.out.1], (O9.cast M.out.2.symm).wide (fun j hj => ⟨by have := hj.1; omega, hj.2⟩), E9⟩
end Go.Proofs.YtlfblpgkegeaeaaGreat
