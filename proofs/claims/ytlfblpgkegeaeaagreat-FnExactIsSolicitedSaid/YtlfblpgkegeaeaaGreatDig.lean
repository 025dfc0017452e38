/-
  Digests of numbers.
-/
import Derived.Test.YtlfblpgkegeaeaaGreatClone
import Derived.Test.YtlfblpgkegeaeaaGreatMade
import Derived.Test.YtlfblpgkegeaeaaGreatValid
import Derived.IntWalk
import Derived.Deep.Cut
import Derived.WalkSpells
import Derived.WalkLawsBesides
namespace Go.Proofs.YtlfblpgkegeaeaaGreat
open Go.RowKit
set_option linter.unusedVariables false
set_option linter.unusedSimpArgs false
set_option linter.unnecessarySimpa false
def modP (x : Int) : Int := (x.tmod 2147483647 + 2147483647).tmod 2147483647
def dStep (d x : Int) : Int := (d * 1000003 + modP x + 13).tmod 2147483647
def digest (l : List Int) : Int := l.foldl dStep 11
def okSec (s : Int) : Bool := inR s 1 2147483646
theorem tmod_rng {a : Int} (h : 0 ≤ a) : 0 ≤ a.tmod 2147483647 ∧ a.tmod 2147483647 < 2147483647 := by
  rw [Int.tmod_eq_emod_of_nonneg h]; omega
theorem tmod_pos {a : Int} (h : 0 ≤ a) : a % 2147483647 = a.tmod 2147483647 := (Int.tmod_eq_emod_of_nonneg h).symm
theorem tmod_abs (a : Int) : -2147483647 < a.tmod 2147483647 ∧ a.tmod 2147483647 < 2147483647 := by
  by_cases h : 0 ≤ a
  · have := tmod_rng h; omega
  · have := tmod_rng (a := -a) (by omega)
    rw [Int.neg_tmod] at this
    omega
theorem modP_rng (x : Int) : 0 ≤ modP x ∧ modP x < 2147483647 := by
  have := tmod_abs x
  exact tmod_rng (by omega)
theorem dStep_rng {d : Int} (x : Int) (h : 0 ≤ d) : 0 ≤ dStep d x ∧ dStep d x < 2147483647 := by
  have := modP_rng x
  exact tmod_rng (by omega)
theorem foldl_rng (l : List Int) : ∀ d : Int, 0 ≤ d → d < 2147483647 → 0 ≤ l.foldl dStep d ∧ l.foldl dStep d < 2147483647 := by
  induction l with
  | nil => intro d h1 h2; exact ⟨h1, h2⟩
  | cons x l ih => intro d h1 h2; have := dStep_rng x h1; exact ih _ this.1 this.2
theorem digest_rng (l : List Int) : 0 ≤ digest l ∧ digest l < 2147483647 := foldl_rng l 11 (by omega) (by omega)
theorem digest_succ {l : List Int} {k : Nat} (h : k < l.length) : digest (l.take (k + 1)) = dStep (digest (l.take k)) l[k] := by
  unfold digest
  rw [List.take_succ_eq_append_getElem h, List.foldl_append]
  rfl
theorem digest_end {l : List Int} {k : Nat} (h : ¬ k < l.length) : digest (l.take k) = digest l := by rw [List.take_of_length_le (by omega)]
theorem specValidSecret_c {w : World} {s : Int} : Calls Tryz.prog 224 #[.int .i64 s] w fun e w' => e = .returned (.bool (okSec s)) ∧ w' = w := by
  go_enter Tryz.func224, Tryz.ntmps224
  go_wp2_with fail
  refine specl1In_c.mono ?_
  rintro e w1 ⟨rfl, hw⟩
  obtain rfl := hw.symm
  go_wp2
  go_ret
  exact ⟨rfl, rfl⟩
set_option maxHeartbeats 1000000 in
theorem specMod_c {w : World} {x : Int} (hx : -9223372036854775808 ≤ x ∧ x ≤ 9223372036854775807) : Calls Tryz.prog 245 #[.int .i64 x, .int .i64 2147483647] w fun e w' => e = .returned (.int .i64 (modP x)) ∧ w' = w := by
  have h1 := tmod_abs x
  have h2 := modP_rng x
  have HE := Lib.hid (show modP x = (x.tmod 2147483647 + 2147483647).tmod 2147483647 from rfl)
  go_enter Tryz.func245, Tryz.ntmps245
  go_wp2_with fail
  refine specl1In_c.mono ?_
  rintro e w1 ⟨rfl, hw⟩
  obtain rfl := hw.symm
  have hin : inR (2147483647 : Int) 1 1000000000000 = true := by decide
  rw [hin]
  go_wp2
  go_ret
  exact ⟨ret_int (by rw [HE.out]; exact tmod_pos (by omega)), rfl⟩
set_option maxRecDepth 100000 in
set_option maxHeartbeats 1000000 in
theorem specDigest_c {w : World} {vl : Value} {l : List Int} (hl : (Rep.slice 3 Rep.int).raw w [vl] l) :
    Calls Tryz.prog 230 #[vl] w fun e w' => e = .returned (.int .i64 (digest l)) ∧ w' = w := by
  obtain ⟨al, pl, el, ll⟩ := Rep.len_raw hl; obtain rfl : vl = _ := by simpa using el
  clear el
  go_enter Tryz.func230, Tryz.ntmps230
  go_wp2
  go_loop [4, 3] (fun i d => ∃ k : Nat, k ≤ l.length ∧ i = .int .i64 k ∧ d = .int .i64 (digest (l.take k))) (fun i _ => l.length - (intOf i).toNat)
  case atStart => exact ⟨0, Nat.zero_le _, rfl, rfl⟩
  case round =>
    obtain ⟨k, hk, rfl, rfl⟩ := hrel
    by_cases hlt : k < l.length
    · obtain ⟨ba, offa, rfl, c0, hr, A0⟩ := Rep.get1 hl hlt rfl
      obtain ⟨he, hx⟩ := Rep.int_raw hr
      obtain rfl : c0 = _ := by simpa using he
      clear he hr
      have hd := digest_rng (l.take k)
      have HS := Lib.hid (digest_succ hlt)
      generalize digest (l.take k) = d at *
      generalize l[k] = x at *
      have hm := modP_rng x
      go_wp2_with fail
      refine (specMod_c hx).mono ?_
      rintro e w1 ⟨rfl, hw⟩
      obtain rfl := hw.symm
      have HD := Lib.hid (show dStep d x = (d * 1000003 + modP x + 13).tmod 2147483647 from rfl)
      generalize modP x = m at *
      go_wp2
      go_round
      case rel => exact ⟨k + 1, by omega, by go_num, by rw [HS.out, HD.out, ← tmod_pos (by omega)]⟩
      case measure => simp [intOf]; omega
    · have HT := Lib.hid (digest_end hlt)
      go_wp2
      go_ret
      exact ⟨ret_int HT.out, rfl⟩
theorem implValidSecret_c {w : World} {s : Int} : Calls Tryz.prog 231 #[.int .i64 s] w fun e w' => e = .returned (.bool (okSec s)) ∧ w' = w := by
  go_enter Tryz.func231, Tryz.ntmps231
  go_wp2_with fail
  refine implInRange_c.mono ?_
  rintro e w1 ⟨rfl, hw⟩
  obtain rfl := hw.symm
  go_wp2
  go_ret
  exact ⟨rfl, rfl⟩
set_option maxHeartbeats 1000000 in
theorem implMod_c {w : World} {x : Int} (hx : -9223372036854775808 ≤ x ∧ x ≤ 9223372036854775807) : Calls Tryz.prog 251 #[.int .i64 x, .int .i64 2147483647] w fun e w' => e = .returned (.int .i64 (modP x)) ∧ w' = w := by
  have h1 := tmod_abs x
  have h2 := modP_rng x
  have HE := Lib.hid (show modP x = (x.tmod 2147483647 + 2147483647).tmod 2147483647 from rfl)
  go_enter Tryz.func251, Tryz.ntmps251
  go_wp2_with fail
  refine implInRange_c.mono ?_
  rintro e w1 ⟨rfl, hw⟩
  obtain rfl := hw.symm
  have hin : inR (2147483647 : Int) 1 1000000000000 = true := by decide
  rw [hin]
  go_wp2
  go_ret
  exact ⟨ret_int (by rw [HE.out]; exact tmod_pos (by omega)), rfl⟩
set_option maxRecDepth 100000 in
set_option maxHeartbeats 1000000 in
theorem implDigest_c {w : World} {vl : Value} {l : List Int} (hl : (Rep.slice 3 Rep.int).raw w [vl] l) :
    Calls Tryz.prog 239 #[vl] w fun e w' => e = .returned (.int .i64 (digest l)) ∧ w' = w := by
  obtain ⟨al, pl, el, ll⟩ := Rep.len_raw hl; obtain rfl : vl = _ := by simpa using el
  clear el
  go_enter Tryz.func239, Tryz.ntmps239
  go_wp2
  go_loop [8, 3] (fun i d => ∃ k : Nat, k ≤ l.length ∧ i = .int .i64 k ∧ d = .int .i64 (digest (l.take k))) (fun i _ => l.length - (intOf i).toNat)
  case atStart => exact ⟨0, Nat.zero_le _, rfl, rfl⟩
  case round =>
    obtain ⟨k, hk, rfl, rfl⟩ := hrel
    by_cases hlt : k < l.length
    · obtain ⟨ba, offa, rfl, c0, hr, A0⟩ := Rep.get1 hl hlt rfl
      obtain ⟨he, hx⟩ := Rep.int_raw hr
      obtain rfl : c0 = _ := by simpa using he
      clear he hr
      have hd := digest_rng (l.take k)
      have HS := Lib.hid (digest_succ hlt)
      generalize digest (l.take k) = d at *
      generalize l[k] = x at *
      have hm := modP_rng x
      go_wp2_with fail
      refine (implMod_c hx).mono ?_
      rintro e w1 ⟨rfl, hw⟩
      obtain rfl := hw.symm
      have HD := Lib.hid (show dStep d x = (d * 1000003 + modP x + 13).tmod 2147483647 from rfl)
      generalize modP x = m at *
      go_wp2
      go_round
      case rel => exact ⟨k + 1, by omega, by go_num, by rw [HS.out, HD.out, ← tmod_pos (by omega)]⟩
      case measure => simp [intOf]; omega
    · have HT := Lib.hid (digest_end hlt)
      go_wp2
      go_ret
      exact ⟨ret_int HT.out, rfl⟩
end Go.Proofs.YtlfblpgkegeaeaaGreat
