/-
  Numbers, written in decimal.
-/
import Derived.Test.YtpgnbablhdknnaaDoorOwn2
import Derived.Test.YtpgnbablhdknnaaDoorNum
import Derived.IntWalk
import Derived.Deep.Cut
import Derived.WalkSpells
import Derived.WalkLawsBesides
import Derived.Lib.ItoaNum
import Derived.Laws.IdiomStrings
import Derived.Laws.Concat
namespace Go.Proofs.YtpgnbablhdknnaaDoor
open Go.RowKit
set_option linter.unusedVariables false
set_option linter.unusedSimpArgs false
set_option linter.unnecessarySimpa false
def digs (u : Nat) : List UInt8 := if h : u = 0 then [] else digs (u / 10) ++ [UInt8.ofNat (48 + u % 10)]
termination_by u
decreasing_by omega
theorem digs_0 : digs 0 = [] := by rw [digs, dif_pos rfl]
theorem digs_s {u : Nat} (h : 0 < u) : digs u = digs (u / 10) ++ [UInt8.ofNat (48 + u % 10)] := by rw [digs, dif_neg (by omega)]
theorem digs_dec (u : Nat) (h : 0 < u) : digs u = Lib.decDigits u := by
  induction u using Nat.strongRecOn with
  | _ u ih =>
    rw [digs_s h, Lib.decDigits]
    by_cases q : u < 10
    · rw [dif_pos q, show u / 10 = 0 by omega, digs_0, show u % 10 = u by omega]; rfl
    · rw [dif_neg q, ih (u / 10) (by omega) (by omega)]
theorem digs_len : ∀ (k : Nat) {u : Nat}, u < 10 ^ k → (digs u).length ≤ k
  | 0, u, h => by
    obtain rfl : u = 0 := by simpa using h
    rw [digs_0]; simp
  | k + 1, u, h => by
    by_cases q : u = 0
    · subst q; rw [digs_0]; simp
    · rw [digs_s (by omega), List.length_append]
      have := digs_len k (u := u / 10) (Nat.div_lt_of_lt_mul (by rw [Nat.mul_comm]; rwa [Nat.pow_succ] at h))
      simp; omega
def itoaB (n : Int) : ByteArray := ⟨(Lib.itoa n).toArray⟩
theorem itoaB_pos {n : Nat} (h : 0 < n) : itoaB (n : Int) = ⟨(digs n).toArray⟩ := by
  unfold itoaB Lib.itoa
  rw [if_neg (by omega), digs_dec n h, show (n : Int).toNat = n by omega]
theorem itoaB_neg {n : Nat} (h : 0 < n) : itoaB (-(n : Int)) = ⟨#[45]⟩ ++ ⟨(digs n).toArray⟩ := by
  unfold itoaB Lib.itoa
  rw [if_pos (by omega), digs_dec n h, show (-(n : Int)).natAbs = n by omega]
  apply ByteArray.ext
  simp
theorem itoaB_0 : itoaB 0 = ⟨#[48]⟩ := by
  unfold itoaB Lib.itoa
  rw [if_neg (by omega), show (0 : Int).toNat = 0 from rfl, Lib.decDigits, dif_pos (by omega)]
  rfl
theorem ba_size (l : List UInt8) : (⟨l.toArray⟩ : ByteArray).size = l.length := by simp [ByteArray.size]
theorem itoaB_size {n : Int} (h : -9223372036854775808 ≤ n ∧ n ≤ 9223372036854775807) : (itoaB n).size ≤ 20 := by
  rcases Int.lt_trichotomy n 0 with q | q | q
  · obtain ⟨m, rfl⟩ : ∃ m : Nat, n = -(m : Int) := ⟨n.natAbs, by omega⟩
    have h1 := digs_len 19 (u := m) (by omega)
    have h2 := ba_size (digs m)
    have h3 : (⟨#[45]⟩ : ByteArray).size = 1 := rfl
    rw [itoaB_neg (by omega), ByteArray.size_append]
    omega
  · subst q; rw [itoaB_0]; decide
  · obtain ⟨m, rfl⟩ : ∃ m : Nat, n = m := ⟨n.toNat, by omega⟩
    have h1 := digs_len 19 (u := m) (by omega)
    rw [itoaB_pos (by omega), ba_size]; omega
theorem dig_int {u : Nat} : (48 : Int) + (u : Int) % 10 = ((UInt8.ofNat (48 + u % 10)).toNat : Int) := by
  rw [UInt8.toNat_ofNat']
  omega
theorem one_back {P : Program} {w : World} {src dst e : TypeId} {x : UInt8} {z : Int} (hz : z = (x.toNat : Int)) (hs : P.underlying src = some (.slice e)) (he : P.underlying e = some (.int .u8)) (hd : P.underlying dst = some .string) :
    (convert src dst (.slice (some ⟨w.heap.size, 0, none⟩) 1 1)).run P (w.alloc (.cells #[.int .u8 z] e)) = .ok (.string ⟨#[x]⟩) (w.alloc (.cells #[.int .u8 z] e)) := by
  have h := run_convert_bytes_back (P := P) (w.alloc (.cells #[.int .u8 z] e)) src dst e ⟨w.heap.size, 0, none⟩ 1 [x] hs he hd (by
    intro j hj
    obtain rfl : j = 0 := by simpa using hj
    subst hz
    simp [go_sem])
  simpa using h
set_option maxRecDepth 100000 in
set_option maxHeartbeats 2000000 in
theorem specFormatInt_c {w : World} {n : Int} (hn : -9223372036854775808 ≤ n ∧ n ≤ 9223372036854775807) :
    Calls Tryd.prog 44 #[.int .i64 n] w fun e w' => e = .returned (.string (itoaB n)) ∧ Below w.heap.size w w' := by
  go_enter Tryd.func44, Tryd.ntmps44
  rcases Int.lt_trichotomy n 0 with q | q | q
  · obtain ⟨N, rfl⟩ : ∃ m : Nat, n = -(m : Int) := ⟨n.natAbs, by omega⟩
    have hN : 0 < N := by omega
    go_wp2
    go_loopw [3, 4] (fun sv xv wr => ∃ (u : Nat) (s : ByteArray), u ≤ N ∧ xv = .int .i64 (-(u : Int)) ∧ sv = .string s ∧ s.size ≤ 20 ∧ Hid (digs u ++ s.data.toList = digs N) ∧ Below w.heap.size w wr) (fun _ xv _ => (intOf xv).natAbs)
    case atStart => exact ⟨N, ByteArray.empty, Nat.le_refl _, rfl, rfl, by decide, Lib.hid (by simp), Below.refl _ _⟩
    case round =>
      obtain ⟨u, s, hu, rfl, rfl, hs, HP, hbel⟩ := hrel
      by_cases hz : u = 0
      · subst hz
        have HS := Lib.hid (show s = ⟨(digs N).toArray⟩ by
          have h := HP.out
          rw [digs_0, List.nil_append] at h
          apply ByteArray.ext
          rw [← h])
        go_wp2
        go_ret
        exact ⟨(by (first | rw [itoaB_pos hN] | rw [itoaB_neg hN]); first | rfl | (rw [HS.out]; rfl)), hbel⟩
      · have hpos : 0 < u := by omega
        have HDG := Lib.hid (digs_s hpos)
        have hne : (((-(u : Int)) : Int) != 0) = true := by simp; omega
        have hsz : s.size + 1 ≤ 20 := by
          have h1 := congrArg List.length HP.out
          have h2 := digs_len 19 (u := N) (by omega)
          rw [HDG.out] at h1
          simp only [List.length_append, List.length_cons, List.length_nil] at h1
          have h3 : s.data.toList.length = s.size := by simp
          omega
        have hb := dig_int (u := u)
        have hcv := one_back (P := Tryd.prog) (w := wr) (src := 22) (dst := 9) hb Tryd.underlying22 Tryd.underlying5 Tryd.underlying9
        clear hb
        have hcv0 := fun (q : u % 10 = 0) => one_back (P := Tryd.prog) (w := wr) (src := 22) (dst := 9) (z := 48) (x := UInt8.ofNat (48 + u % 10)) (by rw [q]; rfl) Tryd.underlying22 Tryd.underlying5 Tryd.underlying9
        have hc1 : (⟨#[UInt8.ofNat (48 + u % 10)]⟩ : ByteArray).size = 1 := rfl
        have HX := Lib.hid (show digs (u / 10) ++ ((⟨#[UInt8.ofNat (48 + u % 10)]⟩ : ByteArray) ++ s).data.toList = digs N by
          rw [← HP.out, HDG.out]; simp)
        generalize (⟨#[UInt8.ofNat (48 + u % 10)]⟩ : ByteArray) = ch at hcv hcv0 hc1 HX
        by_cases hm : u % 10 = 0
        · have hmi : (u : Int) % 10 = 0 := by omega
          have hcz := hcv0 hm
          clear hcv0 hcv
          go_wp2_with fail
          go_roundw
          case rel => exact ⟨u / 10, _, by omega, by go_num, rfl, (by rw [ByteArray.size_append, hc1]; omega), HX, (hbel.alloc hbel.size _)⟩
          case measure => simp [intOf]; omega
        · have hmi : (0 : Int) < (u : Int) % 10 := by omega
          clear hcv0
          go_wp2_with fail
          go_roundw
          case rel => exact ⟨u / 10, _, by omega, by go_num, rfl, (by rw [ByteArray.size_append, hc1]; omega), HX, (hbel.alloc hbel.size _)⟩
          case measure => simp [intOf]; omega
  · subst q
    go_wp2
    go_ret
    exact ⟨by rw [itoaB_0]; rfl, Below.refl _ _⟩
  · obtain ⟨N, rfl⟩ : ∃ m : Nat, n = m := ⟨n.toNat, by omega⟩
    have hN : 0 < N := by omega
    go_wp2
    go_loopw [3, 4] (fun sv xv wr => ∃ (u : Nat) (s : ByteArray), u ≤ N ∧ xv = .int .i64 (u : Int) ∧ sv = .string s ∧ s.size ≤ 20 ∧ Hid (digs u ++ s.data.toList = digs N) ∧ Below w.heap.size w wr) (fun _ xv _ => (intOf xv).natAbs)
    case atStart => exact ⟨N, ByteArray.empty, Nat.le_refl _, rfl, rfl, by decide, Lib.hid (by simp), Below.refl _ _⟩
    case round =>
      obtain ⟨u, s, hu, rfl, rfl, hs, HP, hbel⟩ := hrel
      by_cases hz : u = 0
      · subst hz
        have HS := Lib.hid (show s = ⟨(digs N).toArray⟩ by
          have h := HP.out
          rw [digs_0, List.nil_append] at h
          apply ByteArray.ext
          rw [← h])
        go_wp2
        go_ret
        exact ⟨(by (first | rw [itoaB_pos hN] | rw [itoaB_neg hN]); first | rfl | (rw [HS.out]; rfl)), hbel⟩
      · have hpos : 0 < u := by omega
        have HDG := Lib.hid (digs_s hpos)
        have hne : (((u : Int) : Int) != 0) = true := by simp; omega
        have hsz : s.size + 1 ≤ 20 := by
          have h1 := congrArg List.length HP.out
          have h2 := digs_len 19 (u := N) (by omega)
          rw [HDG.out] at h1
          simp only [List.length_append, List.length_cons, List.length_nil] at h1
          have h3 : s.data.toList.length = s.size := by simp
          omega
        have hb := dig_int (u := u)
        have hcv := one_back (P := Tryd.prog) (w := wr) (src := 22) (dst := 9) hb Tryd.underlying22 Tryd.underlying5 Tryd.underlying9
        clear hb
        have hcv0 := fun (q : u % 10 = 0) => one_back (P := Tryd.prog) (w := wr) (src := 22) (dst := 9) (z := 48) (x := UInt8.ofNat (48 + u % 10)) (by rw [q]; rfl) Tryd.underlying22 Tryd.underlying5 Tryd.underlying9
        have hc1 : (⟨#[UInt8.ofNat (48 + u % 10)]⟩ : ByteArray).size = 1 := rfl
        have HX := Lib.hid (show digs (u / 10) ++ ((⟨#[UInt8.ofNat (48 + u % 10)]⟩ : ByteArray) ++ s).data.toList = digs N by
          rw [← HP.out, HDG.out]; simp)
        generalize (⟨#[UInt8.ofNat (48 + u % 10)]⟩ : ByteArray) = ch at hcv hcv0 hc1 HX
        go_wp2_with fail
        go_roundw
        case rel => exact ⟨u / 10, _, by omega, by go_num, rfl, (by rw [ByteArray.size_append, hc1]; omega), HX, (hbel.alloc hbel.size _)⟩
        case measure => simp [intOf]; omega
end Go.Proofs.YtpgnbablhdknnaaDoor
