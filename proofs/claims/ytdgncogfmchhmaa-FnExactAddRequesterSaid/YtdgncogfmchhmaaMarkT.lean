/-
  The text of a mark.
-/
import Derived.Test.YtdgncogfmchhmaaProg
import Derived.Test.YtdgncogfmchhmaaTypes
import Derived.WalkKit
import Derived.WalkSpells
import Derived.WalkLawsBesides
import Derived.IntWalk
import Derived.Lib.Hide
import Derived.Laws.BytesArg
namespace Go.Proofs.Ytdgncogfmchhmaa
open Go.RowKit
set_option linter.unusedVariables false
theorem digitsOnto_zero (f : Nat) (s : ByteArray) : digitsOnto f 0 s = s := by cases f <;> simp [digitsOnto]
theorem digitsOnto_step {f n : Nat} {s : ByteArray} (h : 0 < n) : digitsOnto (f + 1) n s = digitsOnto f (n / 10) (ByteArray.mk #[UInt8.ofNat (48 + n % 10)] ++ s) := by
  rw [digitsOnto, if_neg (by omega)]
set_option maxRecDepth 100000 in
set_option maxHeartbeats 1000000 in
theorem markText_c {w : World} {k : Int} (h0 : 0 ≤ k) (h1 : k ≤ 4611686018427387905) : Calls Try.prog 58 #[.int .i64 k] w fun e w' => e = .returned (.string (mt k)) ∧ Below w.heap.size w w' := by
  obtain ⟨n0, rfl⟩ := Int.eq_ofNat_of_zero_le h0
  go_enter Try.func58, Try.ntmps58
  by_cases hz : n0 = 0
  · subst hz
    go_wp2
    go_ret
    exact ⟨by rfl, Below.refl _ _⟩
  · have hd : ¬ ((n0 : Int) ≤ 0) := by omega
    go_wp2
    go_loopw [0, 3] (fun i v wr => ∃ (f n : Nat) (s : ByteArray), i = .int .i64 n ∧ v = .string s ∧ Hid (n < 10 ^ f) ∧ n ≤ n0 ∧ Hid (f + s.size ≤ 20) ∧ Hid (digitsOnto f n s = digitsOnto 20 n0 ByteArray.empty) ∧ Below w.heap.size w wr) (fun i _ _ => (intOf i).toNat)
    case atStart => exact ⟨20, n0, _, rfl, rfl, Lib.hid (Nat.lt_of_le_of_lt (show n0 ≤ 4611686018427387905 by omega) (by decide)), Nat.le_refl _, Lib.hid (by decide), Lib.hid rfl, Below.refl _ _⟩
    case round =>
      obtain ⟨f, n, s, rfl, rfl, HF, hn, HS, HD, hbel⟩ := hrel
      have hss : s.size ≤ 20 := by have := HS.out; omega
      by_cases hp : 0 < n
      · obtain ⟨g, rfl⟩ : ∃ g, f = g + 1 := ⟨f - 1, by
          cases f with
          | zero => have := HF.out; simp at this; omega
          | succ g => omega⟩
        obtain ⟨c, hc⟩ : ∃ c, c = UInt8.ofNat (48 + n % 10) := ⟨_, rfl⟩
        have HD2 : Hid (digitsOnto g (n / 10) (ByteArray.mk #[c] ++ s) = digitsOnto 20 n0 ByteArray.empty) := Lib.hid (by rw [hc]; exact (digitsOnto_step (f := g) (s := s) hp).symm.trans HD.out)
        have HF2 : Hid (n / 10 < 10 ^ g) := Lib.hid (by have := HF.out; rw [Nat.pow_succ] at this; omega)
        have HS2 : Hid (g + (ByteArray.mk #[c] ++ s).size ≤ 20) := Lib.hid (by
          have := HS.out
          have e : (ByteArray.mk #[c]).size = 1 := rfl
          rw [ByteArray.size_append, e]; omega)
        have hcv : ∀ W : World, (convert 87 9 (.slice (some ⟨W.heap.size, 0, none⟩) 1 1)).run Try.prog (W.alloc (.cells #[.int .u8 (48 + (n : Int) % 10)] 5)) = .ok (.string ⟨#[c]⟩) (W.alloc (.cells #[.int .u8 (48 + (n : Int) % 10)] 5)) := by
          intro W
          have := run_convert_bytes_arg (P := Try.prog) (W.alloc (.cells #[.int .u8 (48 + (n : Int) % 10)] 5)) 87 5 Try.underlying87 Try.underlying5 W.heap.size 0 1 1 [48 + (n : Int) % 10] rfl (fun i hi => by
            obtain rfl : i = 0 := by omega
            simp [go_sem]) 9 Try.underlying9
          rw [this]
          have e : strOfNums [48 + (n : Int) % 10] = ⟨#[c]⟩ := by
            unfold strOfNums
            have e2 : (48 + (n : Int) % 10).toNat = 48 + n % 10 := by omega
            rw [hc]
            simp only [List.map_cons, List.map_nil, e2]
          rw [e]
        have e1 : (ByteArray.mk #[c]).size = 1 := rfl
        clear hc
        go_wp2
        go_roundw
        case rel => exact ⟨g, n / 10, _, by go_num, rfl, HF2, by omega, HS2, HD2, hbel.alloc hbel.size _⟩
        case measure => simp [intOf]; omega
      · obtain rfl : n = 0 := by omega
        have HT := Lib.hid (show mt (n0 : Int) = "m".toUTF8 ++ s by
          unfold mt
          rw [if_neg (by omega)]
          have := HD.out
          rw [digitsOnto_zero] at this
          rw [Int.toNat_natCast, ← this])
        go_wp2
        go_ret
        exact ⟨by rw [HT.out]; rfl, hbel⟩
end Go.Proofs.Ytdgncogfmchhmaa
