/-
  The bytes that an advertisement is written in: the plain law (no program).
-/
namespace Go.Proofs.Ytadneiijklnccaa
def vlo (n : Nat) : UInt8 := UInt8.ofNat (n % 128 + 128)
def vint (n : Nat) : List UInt8 := if h : n < 128 then [UInt8.ofNat n] else vlo n :: vint (n / 128)
termination_by n
decreasing_by omega
theorem vint_lo {n : Nat} (h : n < 128) : vint n = [UInt8.ofNat n] := by rw [vint, dif_pos h]
theorem vint_hi {n : Nat} (h : ¬ n < 128) : vint n = vlo n :: vint (n / 128) := by rw [vint, dif_neg h]
theorem vint_len : ∀ (k : Nat) {n : Nat}, n < 128 ^ (k + 1) → (vint n).length ≤ k + 1
  | 0, n, h => by rw [vint_lo (by simpa using h)]; simp
  | k + 1, n, h => by
    by_cases c : n < 128
    · rw [vint_lo c]; simp
    · rw [vint_hi c, List.length_cons]
      have := vint_len k (n := n / 128) (Nat.div_lt_of_lt_mul (by rw [Nat.mul_comm]; rwa [Nat.pow_succ] at h))
      omega
theorem vint_six {n : Nat} (h : n ≤ 1000000000000) : (vint n).length ≤ 6 := vint_len 5 (by omega)
end Go.Proofs.Ytadneiijklnccaa
