/-
  The bytes that an advertisement is written in: the plain law (no program).
-/
namespace Go.Proofs.YtlfblpgkegeaeaaGreat
def vlo (n : Nat) : UInt8 := UInt8.ofNat (n % 128 + 128)
def vint (n : Nat) : List UInt8 := if h : n < 128 then [UInt8.ofNat n] else vlo n :: vint (n / 128)
termination_by n
decreasing_by omega
theorem vint_lo {n : Nat} (h : n < 128) : vint n = [UInt8.ofNat n] := by rw [vint, dif_pos h]
theorem vint_hi {n : Nat} (h : ¬ n < 128) : vint n = vlo n :: vint (n / 128) := by rw [vint, dif_neg h]
theorem vint_len : ∀ (k : Nat) {n : Nat}, n < 128 ^ (k + 1) → (vint n).length ≤ k + 1
  | 0, n, h => by rw [vint_lo (by simpa using h)]; simp
  | k + 1, n, h => by
    by_cases c : n < 128
    · rw [vint_lo c]; simp
    · rw [vint_hi c, List.length_cons]
      have := vint_len k (n := n / 128) (Nat.div_lt_of_lt_mul (by rw [Nat.mul_comm]; rwa [Nat.pow_succ] at h))
      omega
theorem vint_six {n : Nat} (h : n ≤ 1000000000000) : (vint n).length ≤ 6 := vint_len 5 (by omega)
def encI (l : List Nat) : List UInt8 := (l.map vint).flatten
theorem encI_snoc (l : List Nat) (n : Nat) : encI (l ++ [n]) = encI l ++ vint n := by simp [encI]
theorem encI_app (l m : List Nat) : encI (l ++ m) = encI l ++ encI m := by simp [encI]
def encB (s : List UInt8) : List UInt8 := vint s.length ++ s
def encP (l : List (List UInt8)) : List UInt8 := (l.map encB).flatten
theorem encP_snoc (l : List (List UInt8)) (s : List UInt8) : encP (l ++ [s]) = encP l ++ encB s := by simp [encP]
end Go.Proofs.YtlfblpgkegeaeaaGreat
