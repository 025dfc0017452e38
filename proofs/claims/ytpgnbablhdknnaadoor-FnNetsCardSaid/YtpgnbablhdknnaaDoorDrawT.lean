/-
  Topologies as the reference draws them.
-/
import Derived.Test.YtpgnbablhdknnaaDoorCur
import Derived.Test.YtpgnbablhdknnaaDoorDrawB
import Derived.Test.YtpgnbablhdknnaaDoorDrawF
import Derived.Test.YtpgnbablhdknnaaDoorSR
import Derived.Test.YtpgnbablhdknnaaDoorPNets
import Derived.Test.YtpgnbablhdknnaaDoorSoft4
import Derived.IntWalk
import Derived.WalkSpells
import Derived.WalkLawsBesides
import Derived.Deep.Cut
namespace Go.Proofs.YtpgnbablhdknnaaDoor
open Go.RowKit
set_option linter.unusedVariables false
set_option linter.unusedSimpArgs false
set_option linter.unnecessarySimpa false
theorem topo_own {w : World} {v : Value} {n : Int} {l : List LLink} {S : Nat → Prop} (h : (Rep.slice 49 RLink).own w [v] l S) (hn : -9223372036854775808 ≤ n ∧ n ≤ 9223372036854775807) : RTopology.own w [.int .i64 n, v] (n, l) S :=
  Rep.own_pair (r := Rep.int) (q := (Rep.slice 49 RLink)) (cs := [.int .i64 n]) (ds := [v]) (A := fun _ => False) (B := S) (Rep.flat.own (Rep.flat_int hn)) h (fun k q => q.elim) (fun k q => q) (fun k q _ => q)
theorem link_own {w : World} {a b : Int} (ha : -9223372036854775808 ≤ a ∧ a ≤ 9223372036854775807) (hb : -9223372036854775808 ≤ b ∧ b ≤ 9223372036854775807) : RLink.own w [.int .i64 a, .int .i64 b] (a, b) (fun _ => False) :=
  Rep.flat.own (Rep.flat_pair (cs := [.int .i64 a]) (Rep.flat_int ha) (Rep.flat_int hb))
/-- The links drawn so far. -/
def netOk (n a b : Int) (l : List LLink) : Prop := (∀ x ∈ l, okLk n x ∧ (x.1 < a ∨ x.1 = a ∧ x.2 < b)) ∧ l.Pairwise (fun p q => pairLt p q = true)
theorem netOk_nil {n a b : Int} : netOk n a b [] := ⟨by simp, by simp⟩
theorem netOk_skip {n a b : Int} {l : List LLink} (h : netOk n a b l) : netOk n a (b + 1) l := ⟨fun x hx => ⟨(h.1 x hx).1, by have := (h.1 x hx).2; omega⟩, h.2⟩
theorem netOk_next {n a b c : Int} {l : List LLink} (h : netOk n a b l) : netOk n (a + 1) c l := ⟨fun x hx => ⟨(h.1 x hx).1, by have := (h.1 x hx).2; omega⟩, h.2⟩
theorem netOk_put {n a b : Int} {l : List LLink} (h : netOk n a b l) (h0 : 0 ≤ a) (h1 : a < b) (h2 : b < n) : netOk n a (b + 1) (l ++ [(a, b)]) := by
  refine ⟨fun x hx => ?_, List.pairwise_append.2 ⟨h.2, by simp, fun x hx y hy => ?_⟩⟩
  · rcases List.mem_append.1 hx with hx | hx
    · exact ⟨(h.1 x hx).1, by have := (h.1 x hx).2; omega⟩
    · obtain rfl := List.mem_singleton.1 hx
      exact ⟨⟨h0, h1, by show b ≤ n - 1; omega⟩, .inr ⟨rfl, by show b < b + 1; omega⟩⟩
  · obtain rfl := List.mem_singleton.1 hy
    have := (h.1 x hx).2
    unfold pairLt
    simp
    omega
theorem netOk_valid {n a b : Int} {l : List LLink} (h : netOk n a b l) (hn : 1 ≤ n ∧ n ≤ 6) : validTopo okS (n, l) = true := vTop_iff.2 ⟨hn, fun x hx => (h.1 x hx).1, h.2⟩
set_option maxRecDepth 100000 in
set_option maxHeartbeats 4000000 in
theorem specl19Net_c {w0 w : World} {p : Nat} (hc : Cur w0 w p) :
    Calls Tryd.prog 27 #[.pointer (some ⟨p, 0, none⟩)] w fun e w' => ∃ a c n l, e = .returned (.agg #[.int .i64 n, .slice a l.length c]) ∧ (2 ≤ n ∧ n ≤ 6) ∧ l.length ≤ 36 ∧ validTopo okS (n, l) = true ∧ (Rep.slice 49 RLink).own w' [.slice a l.length c] l (Btw w.heap.size w'.heap.size) ∧ Cur w0 w' p ∧ Touch (fun k => k = p) w w' := by
  go_enter Tryd.func27, Tryd.ntmps27
  obtain ⟨hp0, hp1⟩ := hc.lt
  go_upto_region 1 with fail
  generalize hw_ : World.alloc w _ = w1
  have E_w1 : Below w.heap.size w w1 := by rw [← hw_]; exact (Below.refl _ _).alloc (Nat.le_refl _) _
  have R : w1.heap[w.heap.size]? = some (.cells #[.int .i64 0, .slice none 0 0] 26 (0, 0)) := by rw [← hw_]; exact heap_new_at rfl
  have z_w1 : w.heap.size + 1 ≤ w1.heap.size := by rw [← hw_]; simp
  clear hw_
  replace hc := hc.below E_w1
  have TE : Touch (fun k => k = p) w w1 := Touch.of_below E_w1
  clear E_w1
  go_wp2_with fail
  refine (specl1Below_c (n := 5) hc (by decide)).mono ?_
  rintro e w2 ⟨m, hm0, hm1, hm2, rfl, hcN, htN⟩
  have z_w2 := htN.size
  replace R := htN.keepBox R (by omega)
  replace TE := TE.trans htN
  clear hc htN
  have hc := hcN
  clear hcN
  replace hm1 := hm1 (by decide)
  clear hm2
  have hwm : IntKind.i64.wrap (2 + m) = 2 + m := IntWalk.i64_in _ (by omega)
  have hn0 : 2 ≤ 2 + m ∧ 2 + m ≤ 6 := by omega
  go_upto_region 2 with fail
  clear hwm hm0 hm1
  generalize 2 + m = n at *
  generalize hw_ : World.alloc w2 _ = w3
  have E_w3 : Below w2.heap.size w2 w3 := by rw [← hw_]; exact (Below.refl _ _).alloc (Nat.le_refl _) _
  have B : w3.heap[w2.heap.size]? = some (.cells #[.int .i64 n, .slice none 0 0] 26 (0, 0)) := by rw [← hw_]; exact heap_new_at rfl
  have z_w3 : w2.heap.size + 1 ≤ w3.heap.size := by rw [← hw_]; simp
  clear hw_
  replace R := keepBox R E_w3
  replace hc := hc.below E_w3
  replace TE := TE.trans (Touch.of_below E_w3)
  clear E_w3
  go_wp2
  go_loopw [4] (fun i wr => ∃ (a : Nat) (la : Option Addr) (lc : Nat) (l : List LLink), i = .int .i64 a ∧ a ≤ 6 ∧ l.length + 0 ≤ 6 * a ∧ Hid (netOk n a 0 l) ∧ Hid ((Rep.slice 49 RLink).own wr [.slice la l.length lc] l (fun k => w3.heap.size ≤ k ∧ k < wr.heap.size)) ∧ wr.heap[w.heap.size]? = some (.cells #[.int .i64 0, .slice none 0 0] 26 (0, 0)) ∧ wr.heap[w2.heap.size]? = some (.cells #[.int .i64 n, .slice la l.length lc] 26 (0, 0)) ∧ w3.heap.size ≤ wr.heap.size ∧ Cur w0 wr p ∧ Touch (fun k => k = p) w wr) (fun i _ => 6 - (intOf i).toNat)
  case atStart => exact ⟨0, none, 0, [], rfl, by omega, by simp, Lib.hid netOk_nil, Lib.hid Rep.void_own, R, B, Nat.le_refl _, hc, TE⟩
  case round =>
    clear hc TE R B
    obtain ⟨a, la, lc, l, rfl, ha6, hll, HV, HO, R, B, hzr, hc, TE⟩ := hrel
    have hzw := TE.size
    have ha0 := Int.natCast_nonneg a
    by_cases hlt : (a : Int) < n
    · have KB_0 : wr.cell? ⟨w2.heap.size, 0, none⟩ = some (.int .i64 n) := boxCell B rfl
      have KB_1 : wr.cell? ⟨w2.heap.size, 1, none⟩ = some (.slice la l.length lc) := boxCell B rfl
      have FB_0 : wr.frozen? ⟨w2.heap.size, 0, none⟩ = false := frozen_of_row wr (w2.heap.size) 0 _ _ B
      have FB_1 : wr.frozen? ⟨w2.heap.size, 1, none⟩ = false := frozen_of_row wr (w2.heap.size) 1 _ _ B
      have hwa : IntKind.i64.wrap ((a : Int) + 1) = a + 1 := IntWalk.i64_in _ (by omega)
      go_wp2
      clear KB_0 KB_1 FB_0 FB_1
      skip
      go_loopw [5] (fun i ws => ∃ (b : Nat) (la : Option Addr) (lc : Nat) (l : List LLink), i = .int .i64 b ∧ a < b ∧ (b : Int) ≤ n ∧ l.length + a ≤ 6 * a + b ∧ Hid (netOk n a b l) ∧ Hid ((Rep.slice 49 RLink).own ws [.slice la l.length lc] l (fun k => w3.heap.size ≤ k ∧ k < ws.heap.size)) ∧ ws.heap[w.heap.size]? = some (.cells #[.int .i64 0, .slice none 0 0] 26 (0, 0)) ∧ ws.heap[w2.heap.size]? = some (.cells #[.int .i64 n, .slice la l.length lc] 26 (0, 0)) ∧ w3.heap.size ≤ ws.heap.size ∧ Cur w0 ws p ∧ Touch (fun k => k = p) w ws) (fun i _ => 7 - (intOf i).toNat)
      case atStart => exact ⟨a + 1, la, lc, l, by simp, by omega, by omega, by omega, Lib.hid ⟨fun x hx => ⟨(HV.out.1 x hx).1, by have := (HV.out.1 x hx).2; omega⟩, HV.out.2⟩, HO, R, B, hzr, hc, TE⟩
      case round =>
        clear hc TE R B HO HV hzr hzw hll
        skip
        obtain ⟨b, la2, lc2, l2, rfl, hab, hb7, hll, HV, HO, R, B, hzr, hc, TE⟩ := hrel
        have hzw := TE.size
        have hb0 := Int.natCast_nonneg b
        by_cases hlb : (b : Int) < n
        · have KB_0 : wr.cell? ⟨w2.heap.size, 0, none⟩ = some (.int .i64 n) := boxCell B rfl
          have KB_1 : wr.cell? ⟨w2.heap.size, 1, none⟩ = some (.slice la2 l2.length lc2) := boxCell B rfl
          have FB_0 : wr.frozen? ⟨w2.heap.size, 0, none⟩ = false := frozen_of_row wr (w2.heap.size) 0 _ _ B
          have FB_1 : wr.frozen? ⟨w2.heap.size, 1, none⟩ = false := frozen_of_row wr (w2.heap.size) 1 _ _ B
          have hwb : IntKind.i64.wrap ((a : Int) + 1) = a + 1 := IntWalk.i64_in _ (by omega)
          go_upto_region 8 with fail
          clear KB_0 KB_1 FB_0 FB_1
          by_cases he : (b : Int) ≤ a + 1
          · obtain rfl : b = a + 1 := by omega
            replace HV := Lib.hid (show netOk n a ((a : Int) + 1) l2 from by have := HV.out; push_cast at this; exact this)
            clear he
            go_wp2_with fail
            refine (specl1Once_c (n := 5) hc (by decide)).mono ?_
            rintro e w10 ⟨b5, rfl, hcN, htN⟩
            have z_w10 := htN.size
            replace R := htN.keepBox R (by omega)
            replace B := htN.keepBox B (by omega)
            replace HO := Lib.hid (HO.out.touch htN (fun k hk => by have := hk.1; have := hk.2; omega))
            replace TE := TE.trans htN
            clear hc htN
            have hc := hcN
            clear hcN
            cases b5
            · go_upto_region 9 with fail
              have KB_0 : w10.cell? ⟨w2.heap.size, 0, none⟩ = some (.int .i64 n) := boxCell B rfl
              have KB_1 : w10.cell? ⟨w2.heap.size, 1, none⟩ = some (.slice la2 l2.length lc2) := boxCell B rfl
              have FB_0 : w10.frozen? ⟨w2.heap.size, 0, none⟩ = false := frozen_of_row w10 (w2.heap.size) 0 _ _ B
              have FB_1 : w10.frozen? ⟨w2.heap.size, 1, none⟩ = false := frozen_of_row w10 (w2.heap.size) 1 _ _ B
              go_wp2_with (at_builtin; refine Rep.wpList_pushG1 rfl _ _ 24 rfl (r := RLink) (e := 49) Tryd.underlying24 infLink rfl (by decide) (by decide) HO.out (Below.refl _ _) (link_own (a := a) (b := ((a : Int) + 1)) (by omega) (by omega)) (c := 1) (by rfl) (by rfl) (fun k h1 h2 => h2) (by omega) ?_)
              intro v9 w9 hQ hTQ
              have hT : Touch (fun k => w3.heap.size ≤ k ∧ k < w10.heap.size) w10 w9 := hTQ.wide (fun k q => ⟨q.1.1, q.2⟩)
              have z9 := hT.size
              clear hTQ KB_0 KB_1 FB_0 FB_1
              have HL2 := Lib.hid (show (l2 ++ [((a : Int), ((a : Int) + 1))]).length = l2.length + 1 by simp)
              have HV2 := Lib.hid (netOk_put (b := ((a : Int) + 1)) HV.out ha0 (by omega) (by omega))
              generalize l2 ++ [((a : Int), ((a : Int) + 1))] = l3 at *
              obtain ⟨la3, lc3, hv9, _⟩ := Rep.len_raw hQ.raw; obtain rfl : v9 = _ := by simpa using hv9
              clear hv9
              replace hc := hc.touch hT (fun q => by have := q.1; omega) (fun k q => by have := q.1; omega)
              replace TE := TE.trans_S hT (fun k q => by have := q.1; omega)
              replace R := hT.keepBox R (fun q => by have := q.1; omega)
              replace B := hT.keepBox B (fun q => by have := q.1; omega)
              have HQ := Lib.hid (hQ.wide (T := fun k => w3.heap.size ≤ k ∧ k < w9.heap.size) (fun k q => by rcases q with q | q; exact ⟨q.1, by have := q.2; omega⟩; exact ⟨by have := q.1; omega, q.2⟩))
              clear hQ hT HO HV
              have KB_0 : w9.cell? ⟨w2.heap.size, 0, none⟩ = some (.int .i64 n) := boxCell B rfl
              have KB_1 : w9.cell? ⟨w2.heap.size, 1, none⟩ = some (.slice la2 l2.length lc2) := boxCell B rfl
              have FB_0 : w9.frozen? ⟨w2.heap.size, 0, none⟩ = false := frozen_of_row w9 (w2.heap.size) 0 _ _ B
              have FB_1 : w9.frozen? ⟨w2.heap.size, 1, none⟩ = false := frozen_of_row w9 (w2.heap.size) 1 _ _ B
              skip
              go_wp2
              go_roundw
              case rel =>
                have hTs := setCell_touch w9 (w2.heap.size) 1 (.slice la3 l3.length lc3)
                have hzs := hTs.size
                have HLo := HL2.out
                refine ⟨(a + 1) + 1, la3, lc3, l3, by go_num, by omega, by omega, by omega, Lib.hid (by have := HV2.out; push_cast; exact this), Lib.hid ((HQ.out.touch hTs (fun k q r => by have := q.1; omega)).wide (fun k q => ⟨q.1, by have := q.2; omega⟩)), hTs.keepBox R (by omega), setCell_row B 1, by omega, hc.touch hTs (by omega) (fun k q => by omega), TE.trans_new hTs (by omega)⟩
              case measure => simp [intOf]; omega

            · go_wp2_with fail
              refine (specl1Once_c (n := 4) hc (by decide)).mono ?_
              rintro e w11 ⟨b4, rfl, hcN, htN⟩
              have z_w11 := htN.size
              replace R := htN.keepBox R (by omega)
              replace B := htN.keepBox B (by omega)
              replace HO := Lib.hid (HO.out.touch htN (fun k hk => by have := hk.1; have := hk.2; omega))
              replace TE := TE.trans htN
              clear hc htN
              have hc := hcN
              clear hcN
              cases b4
              · go_wp2
                go_roundw
                case rel => exact ⟨(a + 1) + 1, la2, lc2, l2, by go_num, by omega, by omega, by omega, Lib.hid (by have := netOk_skip HV.out; push_cast; exact this), Lib.hid (HO.out.wide (fun k q => ⟨q.1, by have := q.2; omega⟩)), R, B, by omega, hc, TE⟩
                case measure => simp [intOf]; omega

              · go_upto_region 9 with fail
                have KB_0 : w11.cell? ⟨w2.heap.size, 0, none⟩ = some (.int .i64 n) := boxCell B rfl
                have KB_1 : w11.cell? ⟨w2.heap.size, 1, none⟩ = some (.slice la2 l2.length lc2) := boxCell B rfl
                have FB_0 : w11.frozen? ⟨w2.heap.size, 0, none⟩ = false := frozen_of_row w11 (w2.heap.size) 0 _ _ B
                have FB_1 : w11.frozen? ⟨w2.heap.size, 1, none⟩ = false := frozen_of_row w11 (w2.heap.size) 1 _ _ B
                go_wp2_with (at_builtin; refine Rep.wpList_pushG1 rfl _ _ 24 rfl (r := RLink) (e := 49) Tryd.underlying24 infLink rfl (by decide) (by decide) HO.out (Below.refl _ _) (link_own (a := a) (b := ((a : Int) + 1)) (by omega) (by omega)) (c := 1) (by rfl) (by rfl) (fun k h1 h2 => h2) (by omega) ?_)
                intro v9 w9 hQ hTQ
                have hT : Touch (fun k => w3.heap.size ≤ k ∧ k < w11.heap.size) w11 w9 := hTQ.wide (fun k q => ⟨q.1.1, q.2⟩)
                have z9 := hT.size
                clear hTQ KB_0 KB_1 FB_0 FB_1
                have HL2 := Lib.hid (show (l2 ++ [((a : Int), ((a : Int) + 1))]).length = l2.length + 1 by simp)
                have HV2 := Lib.hid (netOk_put (b := ((a : Int) + 1)) HV.out ha0 (by omega) (by omega))
                generalize l2 ++ [((a : Int), ((a : Int) + 1))] = l3 at *
                obtain ⟨la3, lc3, hv9, _⟩ := Rep.len_raw hQ.raw; obtain rfl : v9 = _ := by simpa using hv9
                clear hv9
                replace hc := hc.touch hT (fun q => by have := q.1; omega) (fun k q => by have := q.1; omega)
                replace TE := TE.trans_S hT (fun k q => by have := q.1; omega)
                replace R := hT.keepBox R (fun q => by have := q.1; omega)
                replace B := hT.keepBox B (fun q => by have := q.1; omega)
                have HQ := Lib.hid (hQ.wide (T := fun k => w3.heap.size ≤ k ∧ k < w9.heap.size) (fun k q => by rcases q with q | q; exact ⟨q.1, by have := q.2; omega⟩; exact ⟨by have := q.1; omega, q.2⟩))
                clear hQ hT HO HV
                have KB_0 : w9.cell? ⟨w2.heap.size, 0, none⟩ = some (.int .i64 n) := boxCell B rfl
                have KB_1 : w9.cell? ⟨w2.heap.size, 1, none⟩ = some (.slice la2 l2.length lc2) := boxCell B rfl
                have FB_0 : w9.frozen? ⟨w2.heap.size, 0, none⟩ = false := frozen_of_row w9 (w2.heap.size) 0 _ _ B
                have FB_1 : w9.frozen? ⟨w2.heap.size, 1, none⟩ = false := frozen_of_row w9 (w2.heap.size) 1 _ _ B
                skip
                go_wp2
                go_roundw
                case rel =>
                  have hTs := setCell_touch w9 (w2.heap.size) 1 (.slice la3 l3.length lc3)
                  have hzs := hTs.size
                  have HLo := HL2.out
                  refine ⟨(a + 1) + 1, la3, lc3, l3, by go_num, by omega, by omega, by omega, Lib.hid (by have := HV2.out; push_cast; exact this), Lib.hid ((HQ.out.touch hTs (fun k q r => by have := q.1; omega)).wide (fun k q => ⟨q.1, by have := q.2; omega⟩)), hTs.keepBox R (by omega), setCell_row B 1, by omega, hc.touch hTs (by omega) (fun k q => by omega), TE.trans_new hTs (by omega)⟩
                case measure => simp [intOf]; omega

          · go_wp2_with fail
            refine (specl1Once_c (n := 4) hc (by decide)).mono ?_
            rintro e w10 ⟨b4, rfl, hcN, htN⟩
            have z_w10 := htN.size
            replace R := htN.keepBox R (by omega)
            replace B := htN.keepBox B (by omega)
            replace HO := Lib.hid (HO.out.touch htN (fun k hk => by have := hk.1; have := hk.2; omega))
            replace TE := TE.trans htN
            clear hc htN
            have hc := hcN
            clear hcN
            cases b4
            · go_wp2
              go_roundw
              case rel => exact ⟨b + 1, la2, lc2, l2, by go_num, by omega, by omega, by omega, Lib.hid (by have := netOk_skip HV.out; push_cast; exact this), Lib.hid (HO.out.wide (fun k q => ⟨q.1, by have := q.2; omega⟩)), R, B, by omega, hc, TE⟩
              case measure => simp [intOf]; omega

            · go_upto_region 9 with fail
              have KB_0 : w10.cell? ⟨w2.heap.size, 0, none⟩ = some (.int .i64 n) := boxCell B rfl
              have KB_1 : w10.cell? ⟨w2.heap.size, 1, none⟩ = some (.slice la2 l2.length lc2) := boxCell B rfl
              have FB_0 : w10.frozen? ⟨w2.heap.size, 0, none⟩ = false := frozen_of_row w10 (w2.heap.size) 0 _ _ B
              have FB_1 : w10.frozen? ⟨w2.heap.size, 1, none⟩ = false := frozen_of_row w10 (w2.heap.size) 1 _ _ B
              go_wp2_with (at_builtin; refine Rep.wpList_pushG1 rfl _ _ 24 rfl (r := RLink) (e := 49) Tryd.underlying24 infLink rfl (by decide) (by decide) HO.out (Below.refl _ _) (link_own (a := a) (b := (b : Int)) (by omega) (by omega)) (c := 1) (by rfl) (by rfl) (fun k h1 h2 => h2) (by omega) ?_)
              intro v9 w9 hQ hTQ
              have hT : Touch (fun k => w3.heap.size ≤ k ∧ k < w10.heap.size) w10 w9 := hTQ.wide (fun k q => ⟨q.1.1, q.2⟩)
              have z9 := hT.size
              clear hTQ KB_0 KB_1 FB_0 FB_1
              have HL2 := Lib.hid (show (l2 ++ [((a : Int), (b : Int))]).length = l2.length + 1 by simp)
              have HV2 := Lib.hid (netOk_put (b := (b : Int)) HV.out ha0 (by omega) (by omega))
              generalize l2 ++ [((a : Int), (b : Int))] = l3 at *
              obtain ⟨la3, lc3, hv9, _⟩ := Rep.len_raw hQ.raw; obtain rfl : v9 = _ := by simpa using hv9
              clear hv9
              replace hc := hc.touch hT (fun q => by have := q.1; omega) (fun k q => by have := q.1; omega)
              replace TE := TE.trans_S hT (fun k q => by have := q.1; omega)
              replace R := hT.keepBox R (fun q => by have := q.1; omega)
              replace B := hT.keepBox B (fun q => by have := q.1; omega)
              have HQ := Lib.hid (hQ.wide (T := fun k => w3.heap.size ≤ k ∧ k < w9.heap.size) (fun k q => by rcases q with q | q; exact ⟨q.1, by have := q.2; omega⟩; exact ⟨by have := q.1; omega, q.2⟩))
              clear hQ hT HO HV
              have KB_0 : w9.cell? ⟨w2.heap.size, 0, none⟩ = some (.int .i64 n) := boxCell B rfl
              have KB_1 : w9.cell? ⟨w2.heap.size, 1, none⟩ = some (.slice la2 l2.length lc2) := boxCell B rfl
              have FB_0 : w9.frozen? ⟨w2.heap.size, 0, none⟩ = false := frozen_of_row w9 (w2.heap.size) 0 _ _ B
              have FB_1 : w9.frozen? ⟨w2.heap.size, 1, none⟩ = false := frozen_of_row w9 (w2.heap.size) 1 _ _ B
              skip
              go_wp2
              go_roundw
              case rel =>
                have hTs := setCell_touch w9 (w2.heap.size) 1 (.slice la3 l3.length lc3)
                have hzs := hTs.size
                have HLo := HL2.out
                refine ⟨b + 1, la3, lc3, l3, by go_num, by omega, by omega, by omega, Lib.hid (by have := HV2.out; push_cast; exact this), Lib.hid ((HQ.out.touch hTs (fun k q r => by have := q.1; omega)).wide (fun k q => ⟨q.1, by have := q.2; omega⟩)), hTs.keepBox R (by omega), setCell_row B 1, by omega, hc.touch hTs (by omega) (fun k q => by omega), TE.trans_new hTs (by omega)⟩
              case measure => simp [intOf]; omega

        · have KB_0 : wr.cell? ⟨w2.heap.size, 0, none⟩ = some (.int .i64 n) := boxCell B rfl
          have KB_1 : wr.cell? ⟨w2.heap.size, 1, none⟩ = some (.slice la2 l2.length lc2) := boxCell B rfl
          go_wp2
          go_roundw
          case rel => exact ⟨a + 1, la2, lc2, l2, by go_num, by omega, by omega, Lib.hid (by have := netOk_next (c := 0) HV.out; push_cast; exact this), HO, R, B, hzr, hc, TE⟩
          case measure => simp [intOf]; omega

    · have KR_0 : wr.cell? ⟨w.heap.size, 0, none⟩ = some (.int .i64 0) := boxCell R rfl
      have KR_1 : wr.cell? ⟨w.heap.size, 1, none⟩ = some (.slice none 0 0) := boxCell R rfl
      have KB_0 : wr.cell? ⟨w2.heap.size, 0, none⟩ = some (.int .i64 n) := boxCell B rfl
      have KB_1 : wr.cell? ⟨w2.heap.size, 1, none⟩ = some (.slice la l.length lc) := boxCell B rfl
      have FR_0 : wr.frozen? ⟨w.heap.size, 0, none⟩ = false := frozen_of_row wr (w.heap.size) 0 _ _ R
      have FR_1 : wr.frozen? ⟨w.heap.size, 1, none⟩ = false := frozen_of_row wr (w.heap.size) 1 _ _ R
      have FB_0 : wr.frozen? ⟨w2.heap.size, 0, none⟩ = false := frozen_of_row wr (w2.heap.size) 0 _ _ B
      have FB_1 : wr.frozen? ⟨w2.heap.size, 1, none⟩ = false := frozen_of_row wr (w2.heap.size) 1 _ _ B
      go_wp2
      refine bodyPost_ret (v := .agg #[.int .i64 n, .slice la l.length lc]) (by simp [results, Tryd.results27, go_sem, KR_0, KR_1, FR_0, FR_1]) rfl ⟨la, lc, n, l, rfl, hn0, by omega, netOk_valid HV.out (by omega), ?_, hc.touch ((setCell_touch _ _ _ _).trans (setCell_touch _ _ _ _)) (by omega) (fun k hk => by omega), TE.trans_new ((setCell_touch _ _ _ _).trans (setCell_touch _ _ _ _)) (by omega)⟩
      exact (HO.out.touch ((setCell_touch _ _ _ _).trans (setCell_touch _ _ _ _)) (fun k hk => by have := hk.1; omega)).wide (fun j hj => ⟨by have := hj.1; omega, by have := hj.2; simp [World.setCell]; omega⟩)
set_option maxRecDepth 100000 in
set_option maxHeartbeats 4000000 in
theorem specl19Any_c {w0 w : World} {p : Nat} (hc : Cur w0 w p) :
    Calls Tryd.prog 31 #[.pointer (some ⟨p, 0, none⟩)] w fun e w' => ∃ a c n l, e = .returned (.agg #[.int .i64 n, .slice a l.length c]) ∧ (0 ≤ n ∧ n ≤ 7) ∧ l.length ≤ 72 ∧ (Rep.slice 49 RLink).own w' [.slice a l.length c] l (Btw w.heap.size w'.heap.size) ∧ Cur w0 w' p ∧ Touch (fun k => k = p) w w' := by
  go_enter Tryd.func31, Tryd.ntmps31
  obtain ⟨hp0, hp1⟩ := hc.lt
  go_upto_region 1 with fail
  generalize hw_ : World.alloc w _ = w1
  have E_w1 : Below w.heap.size w w1 := by rw [← hw_]; exact (Below.refl _ _).alloc (Nat.le_refl _) _
  have R : w1.heap[w.heap.size]? = some (.cells #[.int .i64 0, .slice none 0 0] 26 (0, 0)) := by rw [← hw_]; exact heap_new_at rfl
  have z_w1 : w.heap.size + 1 ≤ w1.heap.size := by rw [← hw_]; simp
  clear hw_
  replace hc := hc.below E_w1
  have TE : Touch (fun k => k = p) w w1 := Touch.of_below E_w1
  clear E_w1
  go_wp2_with fail
  refine (specl19Net_c hc).mono ?_
  rintro e w2 ⟨a, c, n, l, rfl, hn0, hl0, hv0, hO, hcN, htN⟩
  have z_w2 := htN.size
  replace R := htN.keepBox R (by omega)
  replace TE := TE.trans htN
  clear hc htN
  have hc := hcN
  clear hcN
  have HO := Lib.hid (hO)
  clear hO hv0
  go_upto_region 2 with fail
  generalize hw_ : World.alloc w2 _ = w3
  have E_w3 : Below w2.heap.size w2 w3 := by rw [← hw_]; exact (Below.refl _ _).alloc (Nat.le_refl _) _
  have B : w3.heap[w2.heap.size]? = some (.cells #[.int .i64 n, .slice a l.length c] 26 (0, 0)) := by rw [← hw_]; exact heap_new_at rfl
  have z_w3 : w2.heap.size + 1 ≤ w3.heap.size := by rw [← hw_]; simp
  clear hw_
  replace R := keepBox R E_w3
  replace HO := Lib.hid (HO.out.below E_w3)
  replace hc := hc.below E_w3
  replace TE := TE.trans (Touch.of_below E_w3)
  clear E_w3
  go_wp2_with fail
  refine (specl1Below_c (n := 10) hc (by decide)).mono ?_
  rintro e w4 ⟨m, hm0, hm1, hm2, rfl, hcN, htN⟩
  have z_w4 := htN.size
  replace R := htN.keepBox R (by omega)
  replace B := htN.keepBox B (by omega)
  replace HO := Lib.hid (HO.out.touch htN (fun k hk => by have := hk.1; have := hk.2; omega))
  replace TE := TE.trans htN
  clear hc htN
  have hc := hcN
  clear hcN
  replace hm1 := hm1 (by decide)
  clear hm2
  obtain ⟨m, rfl⟩ := Int.eq_ofNat_of_zero_le hm0
  by_cases h0 : m = 0
  · subst h0
    go_wp2_with fail
    refine (specl1Int_c (hc.below ((Below.refl _ _).alloc (Nat.le_refl _) _)) (Rep.lit_int _ [0, 1, 7, 2] (by decide) (by decide)) (by omega) (by decide) (by decide)).mono ?_
    rintro e w5 ⟨y, hyM, hyR, rfl, hcN, htN⟩
    replace htN := (Touch.of_below (S := fun k => k = p) ((Below.refl _ _).alloc (Nat.le_refl _) _)).trans htN
    have z_w5 := htN.size
    replace R := htN.keepBox R (by omega)
    replace B := htN.keepBox B (by omega)
    replace HO := Lib.hid (HO.out.touch htN (fun k hk => by have := hk.1; have := hk.2; omega))
    replace TE := TE.trans htN
    clear hc htN
    have hc := hcN
    clear hcN
    have hy := Rep.mem_int (lo := 0) (hi := 7) (by decide) hyM
    clear hyM
    have KB_0 : w5.cell? ⟨w2.heap.size, 0, none⟩ = some (.int .i64 n) := boxCell B rfl
    have KB_1 : w5.cell? ⟨w2.heap.size, 1, none⟩ = some (.slice a l.length c) := boxCell B rfl
    have FB_0 : w5.frozen? ⟨w2.heap.size, 0, none⟩ = false := frozen_of_row w5 (w2.heap.size) 0 _ _ B
    have FB_1 : w5.frozen? ⟨w2.heap.size, 1, none⟩ = false := frozen_of_row w5 (w2.heap.size) 1 _ _ B
    go_upto_region 9 with fail
    clear KB_0 KB_1 FB_0 FB_1
    generalize hw_ : World.setCell w5 _ _ = w6
    have T_w6 : Touch (fun k => k = w2.heap.size) w5 w6 := by rw [← hw_]; exact setCell_touch w5 (w2.heap.size) 0 _
    replace B : w6.heap[w2.heap.size]? = some (.cells #[.int .i64 y, .slice a l.length c] 26 (0, 0)) := by rw [← hw_]; exact setCell_row B 0
    have z_w6 := T_w6.size
    clear hw_
    replace R := T_w6.keepBox R (by omega)
    replace HO := Lib.hid (HO.out.touch T_w6 (fun k hk => by have := hk.1; have := hk.2; omega))
    replace hc := hc.touch T_w6 (by omega) (fun k hk => by omega)
    replace TE := TE.trans_new T_w6 (by omega)
    clear T_w6
    have KR_0 : w6.cell? ⟨w.heap.size, 0, none⟩ = some (.int .i64 0) := boxCell R rfl
    have KR_1 : w6.cell? ⟨w.heap.size, 1, none⟩ = some (.slice none 0 0) := boxCell R rfl
    have KB_0 : w6.cell? ⟨w2.heap.size, 0, none⟩ = some (.int .i64 y) := boxCell B rfl
    have KB_1 : w6.cell? ⟨w2.heap.size, 1, none⟩ = some (.slice a l.length c) := boxCell B rfl
    have FR_0 : w6.frozen? ⟨w.heap.size, 0, none⟩ = false := frozen_of_row w6 (w.heap.size) 0 _ _ R
    have FR_1 : w6.frozen? ⟨w.heap.size, 1, none⟩ = false := frozen_of_row w6 (w.heap.size) 1 _ _ R
    go_wp2
    refine bodyPost_ret (v := .agg #[.int .i64 y, .slice a l.length c]) (by simp [results, Tryd.results31, go_sem, KR_0, KR_1, FR_0, FR_1]) rfl ⟨a, c, y, l, rfl, by omega, by omega, ?_, hc.touch ((setCell_touch _ _ _ _).trans (setCell_touch _ _ _ _)) (by omega) (fun k hk => by omega), TE.trans_new ((setCell_touch _ _ _ _).trans (setCell_touch _ _ _ _)) (by omega)⟩
    exact (HO.out.touch ((setCell_touch _ _ _ _).trans (setCell_touch _ _ _ _)) (fun k hk => by have := hk.1; have := hk.2; omega)).wide (fun j hj => ⟨by have := hj.1; omega, by have := hj.2; simp [World.setCell]; omega⟩)

  by_cases h1 : m = 1
  · subst h1
    go_upto_region 6 with fail
    refine wp_region_soft2 (fun W => Touch (fun k => k = p) w4 W ∧ Cur w0 W p) (fun _ => True) [] [(0, true), (1, true), (2, true), (4, true), (3, false), (5, false), (6, true), (7, true), (8, false)] [(9, false), (10, true), (11, false)] (by kernel_rfl) (by kernel_rfl) (fun c a d v w h => by cases d <;> exact h) (⟨Touch.of_below (Below.refl _ _).drew, hc.below (Below.refl _ _).drew⟩) ?_
    intro wS HS
    simp only [pickOps, pickNat, List.getElem?_cons_succ, List.getElem?_cons_zero, List.map_cons, List.map_nil]
    refine pre_nil ?_
    refine soft2_read (v := ?_) rfl (fun W hW => ?_) ?_; rotate_left; (· go_simp; try with_reducible rfl)
    try simp only [Act.put, List.setIfInBounds_toArray, List.set_cons_zero, List.set_cons_succ]
    refine soft2_read (v := ?_) rfl (fun W hW => ?_) ?_; rotate_left; (· have A_0 := boxCell (hW.1.keepBox B (by omega)) (j := 0) (v := .int .i64 n) rfl; have A_1 := boxCell (hW.1.keepBox B (by omega)) (j := 1) (v := .slice a l.length c) rfl; clear hW; go_simp; try with_reducible rfl)
    try simp only [Act.put, List.setIfInBounds_toArray, List.set_cons_zero, List.set_cons_succ]
    refine soft2_read (v := ?_) rfl (fun W hW => ?_) ?_; rotate_left; (· go_simp; try with_reducible rfl)
    try simp only [Act.put, List.setIfInBounds_toArray, List.set_cons_zero, List.set_cons_succ]
    refine soft2_read (v := ?_) rfl (fun W hW => ?_) ?_; rotate_left; (· go_simp; try with_reducible rfl)
    try simp only [Act.put, List.setIfInBounds_toArray, List.set_cons_zero, List.set_cons_succ]
    refine soft2_do rfl (fun K hK => ?_); go_simp; refine (specl1Below_c (n := 4) HS.2 (by decide)).mono ?_; rintro e wS1 ⟨x, hx0, hx1, hx2, rfl, hcS, htS⟩; replace hx1 := hx1 (by decide); clear hx2; replace HS := And.intro (HS.1.trans htS) hcS; clear hcS htS; refine hK _ _ HS ?_; clear hK K
    try simp only [Act.put, List.setIfInBounds_toArray, List.set_cons_zero, List.set_cons_succ]
    refine soft2_do rfl (fun K hK => ?_); go_simp; refine (specl1Below_c (n := 8) HS.2 (by decide)).mono ?_; rintro e wS1 ⟨y, hy0, hy1, hy2, rfl, hcS, htS⟩; replace hy1 := hy1 (by decide); clear hy2; replace HS := And.intro (HS.1.trans htS) hcS; clear hcS htS; have hw : IntKind.i64.wrap (y - 1) = y - 1 := IntWalk.i64_in _ (by omega); refine hK _ _ HS ?_; clear hK K
    try simp only [Act.put, List.setIfInBounds_toArray, List.set_cons_zero, List.set_cons_succ]
    refine soft2_read (v := ?_) rfl (fun W hW => ?_) ?_; rotate_left; (· go_simp; try with_reducible rfl)
    try simp only [Act.put, List.setIfInBounds_toArray, List.set_cons_zero, List.set_cons_succ]
    refine soft2_read (v := ?_) rfl (fun W hW => ?_) ?_; rotate_left; (· go_simp; try with_reducible rfl)
    try simp only [Act.put, List.setIfInBounds_toArray, List.set_cons_zero, List.set_cons_succ]
    refine soft2_do rfl (fun K hK => ?_); go_simp; refine hK _ _ ⟨HS.1.trans (Touch.of_below ((Below.refl _ _).alloc (Nat.le_refl _) _)), HS.2.below ((Below.refl _ _).alloc (Nat.le_refl _) _)⟩ ?_; clear hK K
    try simp only [Act.put, List.setIfInBounds_toArray, List.set_cons_zero, List.set_cons_succ]
    have zS := HS.1.size
    have HOS := Lib.hid (HO.out.touch HS.1 (fun k hk => by have := hk.1; have := hk.2; omega))
    have RS := HS.1.keepBox R (by omega)
    have BS := HS.1.keepBox B (by omega)
    have hcS := HS.2
    have TES := TE.trans HS.1
    clear HO R B hc TE
    obtain ⟨v9, w9, hr9, hQ, hTQ⟩ := Rep.run_pushG1 (P := Tryd.prog) (t := 24) (ty := 24) (r := RLink) (e := 49) Tryd.underlying24 infLink rfl (by decide) (by decide) HOS.out (Below.refl _ _) (link_own (a := x) (b := y - 1) (by omega) (by omega)) (c := 1) (fun _ _ h => h.elim) (by omega)
    have z9 := hTQ.size
    have HL2 := Lib.hid (show (l ++ [(x, y - 1)]).length ≤ 72 by simp; omega)
    generalize l ++ [(x, y - 1)] = l3 at *
    obtain ⟨la3, lc3, hv9, _⟩ := Rep.len_raw hQ.raw; obtain rfl : v9 = _ := by simpa using hv9
    clear hv9
    have hc := hcS.touch hTQ (fun q => by have := q.1.1; have := q.1.2; omega) (fun k q => by have := q.1.1; have := q.1.2; omega)
    have TE := TES.trans_S hTQ (fun k q => by have := q.1.1; have := q.1.2; omega)
    have R := hTQ.keepBox RS (fun q => by have := q.1.1; have := q.1.2; omega)
    have B := hTQ.keepBox BS (fun q => by have := q.1.1; have := q.1.2; omega)
    have HQ := Lib.hid (hQ.wide (T := fun k => w1.heap.size ≤ k ∧ k < w9.heap.size ∧ ¬ k = w2.heap.size) (fun k q => by rcases q with q | q | q; exact ⟨q.1, by have := q.2; omega, by have := q.2; omega⟩; exact q.elim; exact ⟨by have := q.1; omega, q.2, by have := q.1; omega⟩))
    have KB9 : w9.cell? ⟨w2.heap.size, 1, none⟩ = some (.slice a l.length c) := boxCell B rfl
    have FB9 : w9.frozen? ⟨w2.heap.size, 1, none⟩ = false := frozen_of_row w9 (w2.heap.size) 1 _ _ B
    clear hQ hTQ hcS TES RS BS HOS
    refine soft2_switch trivial ?_
    refine soft_do rfl (fun K hK => ?_); refine Rep.wp_append _ _ _ rfl (by rfl) (by rfl) hr9 ?_; refine hK _ _ trivial ?_; clear hK K
    try simp only [Act.put, List.setIfInBounds_toArray, List.set_cons_zero, List.set_cons_succ]
    refine soft_read (v := ?_) rfl (fun W hW => ?_) ?_; rotate_left; (· go_simp; try with_reducible rfl)
    try simp only [Act.put, List.setIfInBounds_toArray, List.set_cons_zero, List.set_cons_succ]
    refine soft_do rfl (fun K hK => ?_); go_simp; refine hK _ _ trivial ?_; clear hK K
    try simp only [Act.put, List.setIfInBounds_toArray, List.set_cons_zero, List.set_cons_succ]
    refine soft_nil ?_
    clear KB9 FB9 hr9 HS
    generalize hw_ : World.setCell w9 _ _ = w10
    have T_w10 : Touch (fun k => k = w2.heap.size) w9 w10 := by rw [← hw_]; exact setCell_touch w9 (w2.heap.size) 1 _
    replace B : w10.heap[w2.heap.size]? = some (.cells #[.int .i64 n, .slice la3 l3.length lc3] 26 (0, 0)) := by rw [← hw_]; exact setCell_row B 1
    have z_w10 := T_w10.size
    clear hw_
    replace R := T_w10.keepBox R (by omega)
    replace HQ := Lib.hid (HQ.out.touch T_w10 (fun k hk => by have := hk.1; have := hk.2; omega))
    replace hc := hc.touch T_w10 (by omega) (fun k hk => by omega)
    replace TE := TE.trans_new T_w10 (by omega)
    clear T_w10
    have KR_0 : w10.cell? ⟨w.heap.size, 0, none⟩ = some (.int .i64 0) := boxCell R rfl
    have KR_1 : w10.cell? ⟨w.heap.size, 1, none⟩ = some (.slice none 0 0) := boxCell R rfl
    have KB_0 : w10.cell? ⟨w2.heap.size, 0, none⟩ = some (.int .i64 n) := boxCell B rfl
    have KB_1 : w10.cell? ⟨w2.heap.size, 1, none⟩ = some (.slice la3 l3.length lc3) := boxCell B rfl
    have FR_0 : w10.frozen? ⟨w.heap.size, 0, none⟩ = false := frozen_of_row w10 (w.heap.size) 0 _ _ R
    have FR_1 : w10.frozen? ⟨w.heap.size, 1, none⟩ = false := frozen_of_row w10 (w.heap.size) 1 _ _ R
    go_wp2
    refine bodyPost_ret (v := .agg #[.int .i64 n, .slice la3 l3.length lc3]) (by simp [results, Tryd.results31, go_sem, KR_0, KR_1, FR_0, FR_1]) rfl ⟨la3, lc3, n, l3, rfl, by omega, by have := HL2.out; omega, ?_, hc.touch ((setCell_touch _ _ _ _).trans (setCell_touch _ _ _ _)) (by omega) (fun k hk => by omega), TE.trans_new ((setCell_touch _ _ _ _).trans (setCell_touch _ _ _ _)) (by omega)⟩
    exact (HQ.out.touch ((setCell_touch _ _ _ _).trans (setCell_touch _ _ _ _)) (fun k hk => by have := hk.1; have := hk.2; omega)).wide (fun j hj => ⟨by have := hj.1; omega, by have := hj.2; simp [World.setCell]; omega⟩)

  by_cases h2 : m = 2
  · subst h2
    have KB_0 : w4.cell? ⟨w2.heap.size, 0, none⟩ = some (.int .i64 n) := boxCell B rfl
    have KB_1 : w4.cell? ⟨w2.heap.size, 1, none⟩ = some (.slice a l.length c) := boxCell B rfl
    have FB_0 : w4.frozen? ⟨w2.heap.size, 0, none⟩ = false := frozen_of_row w4 (w2.heap.size) 0 _ _ B
    have FB_1 : w4.frozen? ⟨w2.heap.size, 1, none⟩ = false := frozen_of_row w4 (w2.heap.size) 1 _ _ B
    go_wp2_with (at_builtin; refine Rep.wpList_pushGF rfl _ _ 24 rfl (r := RLink) (e := 49) Tryd.underlying24 infLink rfl (by decide) (by decide) (Rep.isFlat_pair Rep.isFlat_int Rep.isFlat_int) HO.out HO.out.rd (by rfl) (by rfl) (by omega) ?_)
    intro v9 w9 hQ hTQ
    clear KB_0 KB_1 FB_0 FB_1
    have z9 := hTQ.size
    have HL2 := Lib.hid (show (l ++ l).length ≤ 72 by simp; omega)
    generalize l ++ l = l3 at *
    obtain ⟨la3, lc3, hv9, _⟩ := Rep.len_raw hQ.raw; obtain rfl : v9 = _ := by simpa using hv9
    clear hv9
    replace hc := hc.touch hTQ (fun q => by have := q.1; omega) (fun k q => by have := q.1; omega)
    replace TE := TE.trans_S hTQ (fun k q => by have := q.1; omega)
    replace R := hTQ.keepBox R (fun q => by have := q.1; omega)
    replace B := hTQ.keepBox B (fun q => by have := q.1; have := q.2; omega)
    have HQ := Lib.hid (hQ.wide (T := fun k => w1.heap.size ≤ k ∧ k < w9.heap.size ∧ ¬ k = w2.heap.size) (fun k q => by rcases q with q | q; exact ⟨q.1, by have := q.2; omega, by have := q.2; omega⟩; exact ⟨by have := q.1; omega, q.2, by have := q.1; omega⟩))
    clear hQ hTQ HO
    have KB_0 : w9.cell? ⟨w2.heap.size, 0, none⟩ = some (.int .i64 n) := boxCell B rfl
    have KB_1 : w9.cell? ⟨w2.heap.size, 1, none⟩ = some (.slice a l.length c) := boxCell B rfl
    have FB_0 : w9.frozen? ⟨w2.heap.size, 0, none⟩ = false := frozen_of_row w9 (w2.heap.size) 0 _ _ B
    have FB_1 : w9.frozen? ⟨w2.heap.size, 1, none⟩ = false := frozen_of_row w9 (w2.heap.size) 1 _ _ B
    go_upto_region 9 with fail
    clear KB_0 KB_1 FB_0 FB_1
    generalize hw_ : World.setCell w9 _ _ = w10
    have T_w10 : Touch (fun k => k = w2.heap.size) w9 w10 := by rw [← hw_]; exact setCell_touch w9 (w2.heap.size) 1 _
    replace B : w10.heap[w2.heap.size]? = some (.cells #[.int .i64 n, .slice la3 l3.length lc3] 26 (0, 0)) := by rw [← hw_]; exact setCell_row B 1
    have z_w10 := T_w10.size
    clear hw_
    replace R := T_w10.keepBox R (by omega)
    replace HQ := Lib.hid (HQ.out.touch T_w10 (fun k hk => by have := hk.1; have := hk.2; omega))
    replace hc := hc.touch T_w10 (by omega) (fun k hk => by omega)
    replace TE := TE.trans_new T_w10 (by omega)
    clear T_w10
    have KR_0 : w10.cell? ⟨w.heap.size, 0, none⟩ = some (.int .i64 0) := boxCell R rfl
    have KR_1 : w10.cell? ⟨w.heap.size, 1, none⟩ = some (.slice none 0 0) := boxCell R rfl
    have KB_0 : w10.cell? ⟨w2.heap.size, 0, none⟩ = some (.int .i64 n) := boxCell B rfl
    have KB_1 : w10.cell? ⟨w2.heap.size, 1, none⟩ = some (.slice la3 l3.length lc3) := boxCell B rfl
    have FR_0 : w10.frozen? ⟨w.heap.size, 0, none⟩ = false := frozen_of_row w10 (w.heap.size) 0 _ _ R
    have FR_1 : w10.frozen? ⟨w.heap.size, 1, none⟩ = false := frozen_of_row w10 (w.heap.size) 1 _ _ R
    go_wp2
    refine bodyPost_ret (v := .agg #[.int .i64 n, .slice la3 l3.length lc3]) (by simp [results, Tryd.results31, go_sem, KR_0, KR_1, FR_0, FR_1]) rfl ⟨la3, lc3, n, l3, rfl, by omega, by have := HL2.out; omega, ?_, hc.touch ((setCell_touch _ _ _ _).trans (setCell_touch _ _ _ _)) (by omega) (fun k hk => by omega), TE.trans_new ((setCell_touch _ _ _ _).trans (setCell_touch _ _ _ _)) (by omega)⟩
    exact (HQ.out.touch ((setCell_touch _ _ _ _).trans (setCell_touch _ _ _ _)) (fun k hk => by have := hk.1; have := hk.2; omega)).wide (fun j hj => ⟨by have := hj.1; omega, by have := hj.2; simp [World.setCell]; omega⟩)

  have h0I : ¬ (m : Int) = 0 := by omega
  have h1I : ¬ (m : Int) = 1 := by omega
  have h2I : ¬ (m : Int) = 2 := by omega
  have KR_0 : w4.cell? ⟨w.heap.size, 0, none⟩ = some (.int .i64 0) := boxCell R rfl
  have KR_1 : w4.cell? ⟨w.heap.size, 1, none⟩ = some (.slice none 0 0) := boxCell R rfl
  have KB_0 : w4.cell? ⟨w2.heap.size, 0, none⟩ = some (.int .i64 n) := boxCell B rfl
  have KB_1 : w4.cell? ⟨w2.heap.size, 1, none⟩ = some (.slice a l.length c) := boxCell B rfl
  have FR_0 : w4.frozen? ⟨w.heap.size, 0, none⟩ = false := frozen_of_row w4 (w.heap.size) 0 _ _ R
  have FR_1 : w4.frozen? ⟨w.heap.size, 1, none⟩ = false := frozen_of_row w4 (w.heap.size) 1 _ _ R
  go_wp2
  refine bodyPost_ret (v := .agg #[.int .i64 n, .slice a l.length c]) (by simp [results, Tryd.results31, go_sem, KR_0, KR_1, FR_0, FR_1]) rfl ⟨a, c, n, l, rfl, by omega, by omega, ?_, hc.touch ((setCell_touch _ _ _ _).trans (setCell_touch _ _ _ _)) (by omega) (fun k hk => by omega), TE.trans_new ((setCell_touch _ _ _ _).trans (setCell_touch _ _ _ _)) (by omega)⟩
  exact (HO.out.touch ((setCell_touch _ _ _ _).trans (setCell_touch _ _ _ _)) (fun k hk => by have := hk.1; have := hk.2; omega)).wide (fun j hj => ⟨by have := hj.1; omega, by have := hj.2; simp [World.setCell]; omega⟩)
set_option maxRecDepth 100000 in
set_option maxHeartbeats 2000000 in
theorem specl19Dead_c {w0 w : World} {p : Nat} (hc : Cur w0 w p) {a : Option Addr} {c : Nat} {n : Int} {l : List LLink} (hll : l.length ≤ 1000) :
    Calls Tryd.prog 32 #[.pointer (some ⟨p, 0, none⟩), .agg #[.int .i64 n, .slice a l.length c]] w fun e w' => ∃ a c fs, e = .returned (.slice a fs.length c) ∧ fs.length ≤ 1000 ∧ (Rep.slice 3 Rep.int).own w' [.slice a fs.length c] fs (Btw w.heap.size w'.heap.size) ∧ Cur w0 w' p ∧ Touch (fun k => k = p) w w' := by
  go_enter Tryd.func32, Tryd.ntmps32
  obtain ⟨hp0, hp1⟩ := hc.lt
  go_upto_region 1 with fail
  generalize hw_ : World.alloc w _ = w1
  have E_w1 : Below w.heap.size w w1 := by rw [← hw_]; exact (Below.refl _ _).alloc (Nat.le_refl _) _
  have B : w1.heap[w.heap.size]? = some (.cells #[.int .i64 n, .slice a l.length c] 26 (0, 0)) := by rw [← hw_]; exact heap_new_at rfl
  have z_w1 : w.heap.size + 1 ≤ w1.heap.size := by rw [← hw_]; simp
  clear hw_
  skip -- below E_w1)
  replace hc := hc.below E_w1
  have TE : Touch (fun k => k = p) w w1 := Touch.of_below E_w1
  clear E_w1
  go_upto_region 2 with fail
  generalize hw_ : World.alloc w1 _ = w2
  have E_w2 : Below w1.heap.size w1 w2 := by rw [← hw_]; exact (Below.refl _ _).alloc (Nat.le_refl _) _
  have z_w2 : w1.heap.size + 1 ≤ w2.heap.size := by rw [← hw_]; simp
  clear hw_
  replace B := keepBox B E_w2
  skip -- below E_w2)
  replace hc := hc.below E_w2
  replace TE := TE.trans (Touch.of_below E_w2)
  clear E_w2
  go_wp2
  go_loopw [5, 6] (fun v i wr => ∃ (j : Nat) (sa : Option Addr) (sn sc : Nat) (fs : List Int), v = .slice sa sn sc ∧ i = .int .i64 j ∧ j ≤ l.length ∧ fs.length ≤ j ∧ Hid (sn = fs.length) ∧ Hid ((Rep.slice 3 Rep.int).own wr [.slice sa sn sc] fs (Btw w2.heap.size wr.heap.size)) ∧ wr.heap[w.heap.size]? = some (.cells #[.int .i64 n, .slice a l.length c] 26 (0, 0)) ∧ w2.heap.size ≤ wr.heap.size ∧ Cur w0 wr p ∧ Touch (fun k => k = p) w wr) (fun _ i _ => l.length - (intOf i).toNat)
  case atStart => exact ⟨0, _, 0, 0, [], rfl, rfl, Nat.zero_le _, by simp, Lib.hid rfl, Lib.hid Rep.void_own, B, Nat.le_refl _, hc, TE⟩
  case round =>
    clear hc TE B
    obtain ⟨j, sa, sn, sc, fs, rfl, rfl, hj, hfl, HN, HO, B, hzr, hc, TE⟩ := hrel
    have hj0 := Int.natCast_nonneg j
    have hzw := TE.size
    by_cases hlt : j < l.length
    · have hltI : (j : Int) < l.length := by omega
      have KB_0 : wr.cell? ⟨w.heap.size, 0, none⟩ = some (.int .i64 n) := boxCell B rfl
      have KB_1 : wr.cell? ⟨w.heap.size, 1, none⟩ = some (.slice a l.length c) := boxCell B rfl
      go_upto_region 5 with fail
      clear KB_0 KB_1
      go_wp2_with fail
      refine (specl1Once_c (n := 6) hc (by decide)).mono ?_
      rintro e w5 ⟨b6, rfl, hcN, htN⟩
      have z_w5 := htN.size
      replace B := htN.keepBox B (by omega)
      replace HO := Lib.hid (HO.out.touch htN (fun k hk => by have := hk.1; have := hk.2; omega))
      replace TE := TE.trans htN
      clear hc htN
      have hc := hcN
      clear hcN
      cases b6
      · go_wp2
        go_roundw
        case rel => exact ⟨j + 1, sa, sn, sc, fs, rfl, by go_num, by omega, by omega, HN, Lib.hid (HO.out.wide (fun k q => ⟨q.1, by have := q.2; omega⟩)), B, by omega, hc, TE⟩
        case measure => simp [intOf]; omega

      · go_wp2_with (at_builtin; refine Rep.wpList_pushG1 rfl _ _ 32 rfl (r := Rep.int) (e := 3) Tryd.underlying32 infInt rfl (by decide) (by decide) HO.out (Below.refl _ _) (Rep.flat.own (S := fun _ => False) (Rep.flat_int (n := (j : Int)) (by omega))) (by rfl) (by rfl) (fun _ _ h => h.elim) (by omega) ?_)
        intro v9 w9 ho9 ht9
        have hz9 := ht9.size
        have HLQ := Lib.hid (show (fs ++ [(j : Int)]).length = fs.length + 1 by simp)
        generalize fs ++ [(j : Int)] = q at *
        obtain ⟨a9, c9, hv9, _⟩ := Rep.len_raw ho9.raw
        obtain rfl : v9 = _ := by simpa using hv9
        have HO9 := Lib.hid (ho9.wide (T := Btw w2.heap.size w9.heap.size) (fun k q => by rcases q with q | q; exact ⟨q.1, by have := q.2; omega⟩; exact ⟨by have := q.1; omega, q.2⟩))
        have hc9 := hc.touch ht9 (fun q => by have := q.1.1; omega) (fun k q => by have := q.1.1; omega)
        have TE9 := TE.trans_S ht9 (fun k q => by have := q.1.1; omega)
        have B9 := ht9.keepBox B (fun q => by have := q.1.1; omega)
        clear ho9 ht9 hv9 HO B hc TE
        go_wp2
        go_roundw
        case rel => exact ⟨j + 1, a9, q.length, c9, q, rfl, by go_num, by omega, by have := HLQ.out; omega, Lib.hid rfl, HO9, B9, by omega, hc9, TE9⟩
        case measure => simp [intOf]; omega

    · have hltI : ¬ (j : Int) < l.length := by omega
      have KB_0 : wr.cell? ⟨w.heap.size, 0, none⟩ = some (.int .i64 n) := boxCell B rfl
      have KB_1 : wr.cell? ⟨w.heap.size, 1, none⟩ = some (.slice a l.length c) := boxCell B rfl
      have hn_ := HN.out
      subst hn_
      go_wp2
      go_ret
      exact ⟨_, _, fs, rfl, by omega, HO.out.wide (fun k q => ⟨by have := q.1; omega, q.2⟩), hc, TE⟩
def DrawnNet (w : World) (e : Ending) (w' : World) : Prop := ∃ (a : Option Addr) (c : Nat) (n : Int) (l : List LLink), e = .returned (.agg #[.int .i64 n, .slice a l.length c]) ∧ (2 ≤ n ∧ n ≤ 6) ∧ validTopo okS (n, l) = true ∧ ((Rep.slice 49 RLink).own w' [.slice a l.length c] l (Btw w.heap.size w'.heap.size) ∧ l.length ≤ 72) ∧ Below w.heap.size w w'
def DrawnTop (w : World) (e : Ending) (w' : World) : Prop := ∃ (a : Option Addr) (c : Nat) (n : Int) (l : List LLink), e = .returned (.agg #[.int .i64 n, .slice a l.length c]) ∧ (0 ≤ n ∧ n ≤ 7) ∧ ((Rep.slice 49 RLink).own w' [.slice a l.length c] l (Btw w.heap.size w'.heap.size) ∧ l.length ≤ 72) ∧ Below w.heap.size w w'
def DrawnTrio (w : World) (e : Ending) (w' : World) : Prop := ∃ (a : Option Addr) (c : Nat) (n : Int) (l : List LLink) (x y : Int), e = .returned (.tuple #[.agg #[.int .i64 n, .slice a l.length c], .int .i64 x, .int .i64 y]) ∧ (0 ≤ n ∧ n ≤ 7) ∧ ((Rep.slice 49 RLink).own w' [.slice a l.length c] l (Btw w.heap.size w'.heap.size) ∧ l.length ≤ 72) ∧ (-1 ≤ x ∧ x ≤ 6) ∧ (-1 ≤ y ∧ y ≤ 6) ∧ Below w.heap.size w w'
def DrawnFail (w : World) (e : Ending) (w' : World) : Prop := ∃ (a : Option Addr) (c : Nat) (n : Int) (l : List LLink) (sa : Option Addr) (sc : Nat) (fs : List Int) (y : Int), e = .returned (.tuple #[.agg #[.int .i64 n, .slice a l.length c], .slice sa fs.length sc, .int .i64 y]) ∧ (0 ≤ n ∧ n ≤ 7) ∧ ((Rep.slice 49 RLink).own w' [.slice a l.length c] l (Btw w.heap.size w'.heap.size) ∧ l.length ≤ 72) ∧ (Rep.slice 3 Rep.int).own w' [.slice sa fs.length sc] fs (Btw w.heap.size w'.heap.size) ∧ fs.length ≤ 1000 ∧ (-1 ≤ y ∧ y ≤ 64) ∧ Below w.heap.size w w'
set_option maxRecDepth 100000 in
set_option maxHeartbeats 2000000 in
theorem specDrawTopology_c {w : World} {v : Value} {code : List UInt8} (hcode : (Rep.slice 5 Rep.byte).raw w [v] code) :
    Calls Tryd.prog 5 #[v] w (DrawnNet w) := by
  obtain ⟨ca, cc, hcv, _⟩ := Rep.len_raw hcode; obtain rfl : v = _ := by simpa using hcv
  clear hcv
  go_enter Tryd.func5, Tryd.ntmps5
  go_upto_region 1 with fail
  generalize hw_ : World.alloc w _ = w1
  have E_w1 : Below w.heap.size w w1 := by rw [← hw_]; exact (Below.refl _ _).alloc (Nat.le_refl _) _
  have R : w1.heap[w.heap.size]? = some (.cells #[.int .i64 0, .slice none 0 0] 26 (0, 0)) := by rw [← hw_]; exact heap_new_at rfl
  have z_w1 : w.heap.size + 1 ≤ w1.heap.size := by rw [← hw_]; simp
  clear hw_
  have EE := E_w1
  clear E_w1
  go_wp2_with fail
  refine (specl1New_o hcode EE).mono ?_
  rintro e w2 ⟨p, rfl, hc, hp0, hbN⟩
  have z_w2 := hbN.size
  have hp1 := hc.lt.2
  replace R := keepBox R hbN
  have TE : Touch (fun k => k = p) w w2 := Touch.of_below (EE.trans (hbN.mono EE.size))
  clear hbN EE
  go_wp2_with fail
  refine (specl19Net_c hc).mono ?_
  rintro e w3 ⟨a, c, n, l, rfl, hn0, hl0, hv0, hO, hcN, htN⟩
  have z_w3 := htN.size
  replace R := htN.keepBox R (by omega)
  replace TE := TE.trans htN
  clear hc htN
  have hc := hcN
  clear hcN
  have HO := Lib.hid (hO)
  clear hO
  have KR_0 : w3.cell? ⟨w.heap.size, 0, none⟩ = some (.int .i64 0) := boxCell R rfl
  have KR_1 : w3.cell? ⟨w.heap.size, 1, none⟩ = some (.slice none 0 0) := boxCell R rfl
  have FR_0 : w3.frozen? ⟨w.heap.size, 0, none⟩ = false := frozen_of_row w3 (w.heap.size) 0 _ _ R
  have FR_1 : w3.frozen? ⟨w.heap.size, 1, none⟩ = false := frozen_of_row w3 (w.heap.size) 1 _ _ R
  go_wp2
  refine bodyPost_ret (v := .agg #[.int .i64 n, .slice a l.length c]) (by simp [results, Tryd.results5, go_sem, KR_0, KR_1, FR_0, FR_1]) rfl ⟨a, c, n, l, rfl, hn0, hv0, ⟨?_, by omega⟩, ?_⟩
  · exact (HO.out.touch ((setCell_touch _ _ _ _).trans (setCell_touch _ _ _ _)) (fun k hk => by have := hk.1; omega)).wide (fun j hj => ⟨by have := hj.1; omega, by have := hj.2; simp [World.setCell]; omega⟩)
  · exact (TE.trans_new ((setCell_touch _ _ _ _).trans (setCell_touch _ _ _ _)) (by omega)).below (Nat.le_refl _) (fun k hk => by omega)
set_option maxRecDepth 100000 in
set_option maxHeartbeats 2000000 in
theorem specDrawValidTopology_c {w : World} {v : Value} {code : List UInt8} (hcode : (Rep.slice 5 Rep.byte).raw w [v] code) :
    Calls Tryd.prog 11 #[v] w (DrawnTop w) := by
  obtain ⟨ca, cc, hcv, _⟩ := Rep.len_raw hcode; obtain rfl : v = _ := by simpa using hcv
  clear hcv
  go_enter Tryd.func11, Tryd.ntmps11
  go_upto_region 1 with fail
  generalize hw_ : World.alloc w _ = w1
  have E_w1 : Below w.heap.size w w1 := by rw [← hw_]; exact (Below.refl _ _).alloc (Nat.le_refl _) _
  have R : w1.heap[w.heap.size]? = some (.cells #[.int .i64 0, .slice none 0 0] 26 (0, 0)) := by rw [← hw_]; exact heap_new_at rfl
  have z_w1 : w.heap.size + 1 ≤ w1.heap.size := by rw [← hw_]; simp
  clear hw_
  have EE := E_w1
  clear E_w1
  go_wp2_with fail
  refine (specl1New_o hcode EE).mono ?_
  rintro e w2 ⟨p, rfl, hc, hp0, hbN⟩
  have z_w2 := hbN.size
  have hp1 := hc.lt.2
  replace R := keepBox R hbN
  have TE : Touch (fun k => k = p) w w2 := Touch.of_below (EE.trans (hbN.mono EE.size))
  clear hbN EE
  go_wp2_with fail
  refine (specl19Any_c hc).mono ?_
  rintro e w3 ⟨a, c, n, l, rfl, hn0, hl0, hO, hcN, htN⟩
  have z_w3 := htN.size
  replace R := htN.keepBox R (by omega)
  replace TE := TE.trans htN
  clear hc htN
  have hc := hcN
  clear hcN
  have HO := Lib.hid (hO)
  clear hO
  have KR_0 : w3.cell? ⟨w.heap.size, 0, none⟩ = some (.int .i64 0) := boxCell R rfl
  have KR_1 : w3.cell? ⟨w.heap.size, 1, none⟩ = some (.slice none 0 0) := boxCell R rfl
  have FR_0 : w3.frozen? ⟨w.heap.size, 0, none⟩ = false := frozen_of_row w3 (w.heap.size) 0 _ _ R
  have FR_1 : w3.frozen? ⟨w.heap.size, 1, none⟩ = false := frozen_of_row w3 (w.heap.size) 1 _ _ R
  go_wp2
  refine bodyPost_ret (v := .agg #[.int .i64 n, .slice a l.length c]) (by simp [results, Tryd.results11, go_sem, KR_0, KR_1, FR_0, FR_1]) rfl ⟨a, c, n, l, rfl, hn0, ⟨?_, by omega⟩, ?_⟩
  · exact (HO.out.touch ((setCell_touch _ _ _ _).trans (setCell_touch _ _ _ _)) (fun k hk => by have := hk.1; omega)).wide (fun j hj => ⟨by have := hj.1; omega, by have := hj.2; simp [World.setCell]; omega⟩)
  · exact (TE.trans_new ((setCell_touch _ _ _ _).trans (setCell_touch _ _ _ _)) (by omega)).below (Nat.le_refl _) (fun k hk => by omega)
set_option maxRecDepth 100000 in
set_option maxHeartbeats 2000000 in
theorem specl19Trio_c {w : World} {v : Value} {code : List UInt8} (hcode : (Rep.slice 5 Rep.byte).raw w [v] code) :
    Calls Tryd.prog 28 #[v] w (DrawnTrio w) := by
  obtain ⟨ca, cc, hcv, _⟩ := Rep.len_raw hcode; obtain rfl : v = _ := by simpa using hcv
  clear hcv
  go_enter Tryd.func28, Tryd.ntmps28
  go_upto_region 1 with fail
  generalize hw_ : World.alloc w _ = w1
  have E_w1 : Below w.heap.size w w1 := by rw [← hw_]; exact (Below.refl _ _).alloc (Nat.le_refl _) _
  have R : w1.heap[w.heap.size]? = some (.cells #[.int .i64 0, .slice none 0 0] 26 (0, 0)) := by rw [← hw_]; exact heap_new_at rfl
  have z_w1 : w.heap.size + 1 ≤ w1.heap.size := by rw [← hw_]; simp
  clear hw_
  have EE := E_w1
  clear E_w1
  go_wp2_with fail
  refine (specl1New_o hcode EE).mono ?_
  rintro e w2 ⟨p, rfl, hc, hp0, hbN⟩
  have z_w2 := hbN.size
  have hp1 := hc.lt.2
  replace R := keepBox R hbN
  have TE : Touch (fun k => k = p) w w2 := Touch.of_below (EE.trans (hbN.mono EE.size))
  clear hbN EE
  go_wp2_with fail
  refine (specl19Any_c hc).mono ?_
  rintro e w3 ⟨a, c, n, l, rfl, hn0, hl0, hO, hcN, htN⟩
  have z_w3 := htN.size
  replace R := htN.keepBox R (by omega)
  replace TE := TE.trans htN
  clear hc htN
  have hc := hcN
  clear hcN
  have HO := Lib.hid (hO)
  clear hO
  go_upto_region 3 with fail
  generalize hw_ : World.alloc w3 _ = w4
  have E_w4 : Below w3.heap.size w3 w4 := by rw [← hw_]; exact (Below.refl _ _).alloc (Nat.le_refl _) _
  have B : w4.heap[w3.heap.size]? = some (.cells #[.int .i64 n, .slice a l.length c] 26 (0, 0)) := by rw [← hw_]; exact heap_new_at rfl
  have z_w4 : w3.heap.size + 1 ≤ w4.heap.size := by rw [← hw_]; simp
  clear hw_
  replace R := keepBox R E_w4
  replace HO := Lib.hid (HO.out.below E_w4)
  replace hc := hc.below E_w4
  replace TE := TE.trans (Touch.of_below E_w4)
  clear E_w4
  go_wp2_with fail
  refine (specl1Below_c (n := 8) hc (by decide)).mono ?_
  rintro e w5 ⟨x, hx0, hx1, hx2, rfl, hcN, htN⟩
  have z_w5 := htN.size
  replace R := htN.keepBox R (by omega)
  replace B := htN.keepBox B (by omega)
  replace HO := Lib.hid (HO.out.touch htN (fun k hk => by have := hk.1; have := hk.2; omega))
  replace TE := TE.trans htN
  clear hc htN
  have hc := hcN
  clear hcN
  replace hx1 := hx1 (by decide)
  clear hx2
  have hwx : IntKind.i64.wrap (x - 1) = x - 1 := IntWalk.i64_in _ (by omega)
  go_upto_region 4 with fail
  refine wp_region_softP (SR w w5 p (w.heap.size) 26 2) [(0, true), (1, true), (2, true), (3, false), (4, true), (5, false), (6, true), (7, true)] (by kernel_rfl) (by kernel_rfl) (fun c a d v w h => by cases d <;> exact h) (SR.start hc R rfl) ?_
  intro wS1 HS
  simp only [pickOps, List.getElem?_cons_succ, List.getElem?_cons_zero, List.map_cons, List.map_nil]
  refine soft_read (v := ?_) rfl (fun W hW => ?_) ?_; rotate_left; (· have A_0 := boxCell (hW.touch.keepBox B (by omega)) (j := 0) (v := .int .i64 n) rfl; have A_1 := boxCell (hW.touch.keepBox B (by omega)) (j := 1) (v := .slice a l.length c) rfl; clear hW; go_simp; try with_reducible rfl)
  try simp only [Act.put, List.setIfInBounds_toArray, List.set_cons_zero, List.set_cons_succ]
  refine soft_read (v := ?_) rfl (fun W hW => ?_) ?_; rotate_left; (· go_simp; try with_reducible rfl)
  try simp only [Act.put, List.setIfInBounds_toArray, List.set_cons_zero, List.set_cons_succ]
  refine soft_read (v := ?_) rfl (fun W hW => ?_) ?_; rotate_left; (· go_simp; try with_reducible rfl)
  try simp only [Act.put, List.setIfInBounds_toArray, List.set_cons_zero, List.set_cons_succ]
  refine soft_do rfl (fun K hK => ?_); go_simp; refine (specl1Below_c (n := 8) HS.2 (by decide)).mono ?_; rintro e wS1 ⟨y, hy0, hy1, hy2, rfl, hcS, htS⟩; replace hy1 := hy1 (by decide); clear hy2; replace HS := HS.go htS hcS (by omega); clear hcS htS; have hw : IntKind.i64.wrap (y - 1) = y - 1 := IntWalk.i64_in _ (by omega); refine hK _ _ HS ?_; clear hK K
  try simp only [Act.put, List.setIfInBounds_toArray, List.set_cons_zero, List.set_cons_succ]
  refine soft_read (v := ?_) rfl (fun W hW => ?_) ?_; rotate_left; (· go_simp; try with_reducible rfl)
  try simp only [Act.put, List.setIfInBounds_toArray, List.set_cons_zero, List.set_cons_succ]
  have hzS := HS.touch.size
  obtain ⟨l_, hl_, RS⟩ := HS.row
  obtain ⟨x0_, x1_, rfl⟩ := list2 hl_
  have KR_0 : wS1.cell? ⟨w.heap.size, 0, none⟩ = some x0_ := boxCell RS rfl
  have FR_0 : wS1.frozen? ⟨w.heap.size, 0, none⟩ = false := frozen_of_row wS1 (w.heap.size) 0 _ _ RS
  have KR_1 : wS1.cell? ⟨w.heap.size, 1, none⟩ = some x1_ := boxCell RS rfl
  have FR_1 : wS1.frozen? ⟨w.heap.size, 1, none⟩ = false := frozen_of_row wS1 (w.heap.size) 1 _ _ RS
  have HOS := Lib.hid (HO.out.touch HS.touch (fun k hk => by have := hk.1; have := hk.2; omega))
  have BS := (TE.below (Nat.le_refl _) (fun k hk => by omega)).trans (HS.touch.below (B := w.heap.size) (by omega) (fun k hk => by omega))
  refine soft_do rfl (fun K hK => ?_); go_simp; refine hK _ _ ((HS.set (by omega) (by omega) _ _).set (by omega) (by omega) _ _) ?_; clear hK K
  try simp only [Act.put, List.setIfInBounds_toArray, List.set_cons_zero, List.set_cons_succ]
  refine soft_read (v := ?_) rfl (fun W hW => ?_) ?_; rotate_left; (· go_simp; try with_reducible rfl)
  try simp only [Act.put, List.setIfInBounds_toArray, List.set_cons_zero, List.set_cons_succ]
  refine soft_read (v := ?_) rfl (fun W hW => ?_) ?_; rotate_left; (· go_simp; try with_reducible rfl)
  try simp only [Act.put, List.setIfInBounds_toArray, List.set_cons_zero, List.set_cons_succ]
  refine soft_nil ?_
  go_wp2
  refine bodyPost_ret (v := .tuple #[.agg #[.int .i64 n, .slice a l.length c], .int .i64 (x - 1), .int .i64 (y - 1)]) (by simp [results, Tryd.results28, go_sem, KR_0, FR_0, KR_1, FR_1]) rfl ⟨a, c, n, l, x - 1, y - 1, rfl, hn0, ⟨?_, by omega⟩, by omega, by omega, ?_⟩
  · exact (HOS.out.touch ((setCell_touch _ _ _ _).trans (setCell_touch _ _ _ _)) (fun k hk => by have := hk.1; omega)).wide (fun j hj => ⟨by have := hj.1; omega, by have := hj.2; simp [World.setCell]; omega⟩)
  · exact BS.trans (((setCell_touch _ _ _ _).trans (setCell_touch _ _ _ _) : Touch (fun k => k = w.heap.size) wS1 _).below (B := w.heap.size) (by omega) (fun k hk => by omega))
set_option maxRecDepth 100000 in
set_option maxHeartbeats 2000000 in
theorem specDrawRemoteEnd_c {w : World} {v : Value} {code : List UInt8} (hcode : (Rep.slice 5 Rep.byte).raw w [v] code) :
    Calls Tryd.prog 6 #[v] w (DrawnTrio w) := by
  obtain ⟨ca, cc, hcv, _⟩ := Rep.len_raw hcode; obtain rfl : v = _ := by simpa using hcv
  clear hcv
  go_enter Tryd.func6, Tryd.ntmps6
  go_upto_region 1 with fail
  generalize hw_ : World.alloc w _ = w1
  have E_w1 : Below w.heap.size w w1 := by rw [← hw_]; exact (Below.refl _ _).alloc (Nat.le_refl _) _
  have R : w1.heap[w.heap.size]? = some (.cells #[.int .i64 0, .slice none 0 0] 26 (0, 0)) := by rw [← hw_]; exact heap_new_at rfl
  have z_w1 : w.heap.size + 1 ≤ w1.heap.size := by rw [← hw_]; simp
  clear hw_
  have EE := E_w1
  clear E_w1
  go_wp2_with fail
  refine (specl19Trio_c (hcode.below EE)).mono ?_
  rintro e w2 ⟨a, c, n, l, x, y, rfl, hn0, ⟨hO, hl0⟩, hx, hy, hb⟩
  have z_w2 := hb.size
  replace R := keepBox R hb
  replace EE := EE.trans (hb.mono EE.size)
  clear hb
  have HO := Lib.hid (hO)
  clear hO
  have KR_0 : w2.cell? ⟨w.heap.size, 0, none⟩ = some (.int .i64 0) := boxCell R rfl
  have KR_1 : w2.cell? ⟨w.heap.size, 1, none⟩ = some (.slice none 0 0) := boxCell R rfl
  have FR_0 : w2.frozen? ⟨w.heap.size, 0, none⟩ = false := frozen_of_row w2 (w.heap.size) 0 _ _ R
  have FR_1 : w2.frozen? ⟨w.heap.size, 1, none⟩ = false := frozen_of_row w2 (w.heap.size) 1 _ _ R
  go_wp2
  refine bodyPost_ret (v := .tuple #[.agg #[.int .i64 n, .slice a l.length c], .int .i64 x, .int .i64 y]) (by simp [results, Tryd.results6, go_sem, KR_0, KR_1, FR_0, FR_1]) rfl ⟨a, c, n, l, x, y, rfl, hn0, ⟨?_, hl0⟩, hx, hy, (EE.setCell (by simp) _).setCell (by simp) _⟩
  · exact (HO.out.touch ((setCell_touch _ _ _ _).trans (setCell_touch _ _ _ _)) (fun k hk => by have := hk.1; omega)).wide (fun j hj => ⟨by have := hj.1; omega, by have := hj.2; simp [World.setCell]; omega⟩)
set_option maxRecDepth 100000 in
set_option maxHeartbeats 2000000 in
theorem specDrawLinkIndex_c {w : World} {v : Value} {code : List UInt8} (hcode : (Rep.slice 5 Rep.byte).raw w [v] code) :
    Calls Tryd.prog 10 #[v] w (DrawnTrio w) := by
  obtain ⟨ca, cc, hcv, _⟩ := Rep.len_raw hcode; obtain rfl : v = _ := by simpa using hcv
  clear hcv
  go_enter Tryd.func10, Tryd.ntmps10
  go_upto_region 1 with fail
  generalize hw_ : World.alloc w _ = w1
  have E_w1 : Below w.heap.size w w1 := by rw [← hw_]; exact (Below.refl _ _).alloc (Nat.le_refl _) _
  have R : w1.heap[w.heap.size]? = some (.cells #[.int .i64 0, .slice none 0 0] 26 (0, 0)) := by rw [← hw_]; exact heap_new_at rfl
  have z_w1 : w.heap.size + 1 ≤ w1.heap.size := by rw [← hw_]; simp
  clear hw_
  have EE := E_w1
  clear E_w1
  go_wp2_with fail
  refine (specl19Trio_c (hcode.below EE)).mono ?_
  rintro e w2 ⟨a, c, n, l, x, y, rfl, hn0, ⟨hO, hl0⟩, hx, hy, hb⟩
  have z_w2 := hb.size
  replace R := keepBox R hb
  replace EE := EE.trans (hb.mono EE.size)
  clear hb
  have HO := Lib.hid (hO)
  clear hO
  have KR_0 : w2.cell? ⟨w.heap.size, 0, none⟩ = some (.int .i64 0) := boxCell R rfl
  have KR_1 : w2.cell? ⟨w.heap.size, 1, none⟩ = some (.slice none 0 0) := boxCell R rfl
  have FR_0 : w2.frozen? ⟨w.heap.size, 0, none⟩ = false := frozen_of_row w2 (w.heap.size) 0 _ _ R
  have FR_1 : w2.frozen? ⟨w.heap.size, 1, none⟩ = false := frozen_of_row w2 (w.heap.size) 1 _ _ R
  go_wp2
  refine bodyPost_ret (v := .tuple #[.agg #[.int .i64 n, .slice a l.length c], .int .i64 x, .int .i64 y]) (by simp [results, Tryd.results10, go_sem, KR_0, KR_1, FR_0, FR_1]) rfl ⟨a, c, n, l, x, y, rfl, hn0, ⟨?_, hl0⟩, hx, hy, (EE.setCell (by simp) _).setCell (by simp) _⟩
  · exact (HO.out.touch ((setCell_touch _ _ _ _).trans (setCell_touch _ _ _ _)) (fun k hk => by have := hk.1; omega)).wide (fun j hj => ⟨by have := hj.1; omega, by have := hj.2; simp [World.setCell]; omega⟩)
set_option maxRecDepth 100000 in
set_option maxHeartbeats 2000000 in
theorem specDrawRemoveFailed_c {w : World} {v : Value} {code : List UInt8} (hcode : (Rep.slice 5 Rep.byte).raw w [v] code) :
    Calls Tryd.prog 9 #[v] w (DrawnFail w) := by
  obtain ⟨ca, cc, hcv, _⟩ := Rep.len_raw hcode; obtain rfl : v = _ := by simpa using hcv
  clear hcv
  go_enter Tryd.func9, Tryd.ntmps9
  go_upto_region 1 with fail
  generalize hw_ : World.alloc w _ = w1
  have E_w1 : Below w.heap.size w w1 := by rw [← hw_]; exact (Below.refl _ _).alloc (Nat.le_refl _) _
  have R : w1.heap[w.heap.size]? = some (.cells #[.int .i64 0, .slice none 0 0] 26 (0, 0)) := by rw [← hw_]; exact heap_new_at rfl
  have z_w1 : w.heap.size + 1 ≤ w1.heap.size := by rw [← hw_]; simp
  clear hw_
  have EE := E_w1
  clear E_w1
  go_wp2_with fail
  refine (specl1New_o hcode EE).mono ?_
  rintro e w2 ⟨p, rfl, hc, hp0, hbN⟩
  have z_w2 := hbN.size
  have hp1 := hc.lt.2
  replace R := keepBox R hbN
  have TE : Touch (fun k => k = p) w w2 := Touch.of_below (EE.trans (hbN.mono EE.size))
  clear hbN EE
  go_wp2_with fail
  refine (specl19Any_c hc).mono ?_
  rintro e w3 ⟨a, c, n, l, rfl, hn0, hl0, hO, hcN, htN⟩
  have z_w3 := htN.size
  replace R := htN.keepBox R (by omega)
  replace TE := TE.trans htN
  clear hc htN
  have hc := hcN
  clear hcN
  have HO := Lib.hid (hO)
  clear hO
  go_upto_region 3 with fail
  generalize hw_ : World.alloc w3 _ = w4
  have E_w4 : Below w3.heap.size w3 w4 := by rw [← hw_]; exact (Below.refl _ _).alloc (Nat.le_refl _) _
  have B : w4.heap[w3.heap.size]? = some (.cells #[.int .i64 n, .slice a l.length c] 26 (0, 0)) := by rw [← hw_]; exact heap_new_at rfl
  have z_w4 : w3.heap.size + 1 ≤ w4.heap.size := by rw [← hw_]; simp
  clear hw_
  replace R := keepBox R E_w4
  replace HO := Lib.hid (HO.out.below E_w4)
  replace hc := hc.below E_w4
  replace TE := TE.trans (Touch.of_below E_w4)
  clear E_w4
  have KB_0 : w4.cell? ⟨w3.heap.size, 0, none⟩ = some (.int .i64 n) := boxCell B rfl
  have KB_1 : w4.cell? ⟨w3.heap.size, 1, none⟩ = some (.slice a l.length c) := boxCell B rfl
  go_wp2_with fail
  refine (specl19Dead_c hc (by omega)).mono ?_
  rintro e w5 ⟨sa, sc, fs, rfl, hfl, hD, hcN, htN⟩
  have z_w5 := htN.size
  replace R := htN.keepBox R (by omega)
  replace B := htN.keepBox B (by omega)
  replace HO := Lib.hid (HO.out.touch htN (fun k hk => by have := hk.1; have := hk.2; omega))
  replace TE := TE.trans htN
  clear KB_0 KB_1
  clear hc htN
  have hc := hcN
  clear hcN
  have HD := Lib.hid (hD)
  clear hD
  go_upto_region 4 with fail
  refine wp_region_softP (SR w w5 p (w.heap.size) 26 2) [(0, true), (1, true), (2, true), (3, false), (4, false), (5, false), (6, true), (7, true)] (by kernel_rfl) (by kernel_rfl) (fun c a d v w h => by cases d <;> exact h) (SR.start hc R rfl) ?_
  intro wS1 HS
  simp only [pickOps, List.getElem?_cons_succ, List.getElem?_cons_zero, List.map_cons, List.map_nil]
  refine soft_read (v := ?_) rfl (fun W hW => ?_) ?_; rotate_left; (· have A_0 := boxCell (hW.touch.keepBox B (by omega)) (j := 0) (v := .int .i64 n) rfl; have A_1 := boxCell (hW.touch.keepBox B (by omega)) (j := 1) (v := .slice a l.length c) rfl; clear hW; go_simp; try with_reducible rfl)
  try simp only [Act.put, List.setIfInBounds_toArray, List.set_cons_zero, List.set_cons_succ]
  refine soft_read (v := ?_) rfl (fun W hW => ?_) ?_; rotate_left; (· go_simp; try with_reducible rfl)
  try simp only [Act.put, List.setIfInBounds_toArray, List.set_cons_zero, List.set_cons_succ]
  refine soft_read (v := ?_) rfl (fun W hW => ?_) ?_; rotate_left; (· go_simp; try with_reducible rfl)
  try simp only [Act.put, List.setIfInBounds_toArray, List.set_cons_zero, List.set_cons_succ]
  refine soft_do rfl (fun K hK => ?_); go_simp; refine hK _ _ (HS.below ((Below.refl _ _).alloc (Nat.le_refl _) _)) ?_; clear hK K
  try simp only [Act.put, List.setIfInBounds_toArray, List.set_cons_zero, List.set_cons_succ]
  refine soft_do rfl (fun K hK => ?_); go_simp; refine (specl1Int_c (HS.2.below ((Below.refl _ _).alloc (Nat.le_refl _) _)) (Rep.lit_int _ [0, 0, 1, 2, 4, 6, 64, -1] (by decide) (by decide)) (by have := HS.1.size; omega) (by decide) (by decide)).mono ?_; rintro e wS1 ⟨y, hyM, hyR, rfl, hcS, htS⟩; replace HS := (HS.below ((Below.refl _ _).alloc (Nat.le_refl _) _)).go htS hcS (by omega); clear hcS htS; have hyi := Rep.mem_int (lo := -1) (hi := 64) (by decide) hyM; refine hK _ _ HS ?_; clear hK K
  try simp only [Act.put, List.setIfInBounds_toArray, List.set_cons_zero, List.set_cons_succ]
  have hzS := HS.touch.size
  obtain ⟨l_, hl_, RS⟩ := HS.row
  obtain ⟨x0_, x1_, rfl⟩ := list2 hl_
  have KR_0 : wS1.cell? ⟨w.heap.size, 0, none⟩ = some x0_ := boxCell RS rfl
  have FR_0 : wS1.frozen? ⟨w.heap.size, 0, none⟩ = false := frozen_of_row wS1 (w.heap.size) 0 _ _ RS
  have KR_1 : wS1.cell? ⟨w.heap.size, 1, none⟩ = some x1_ := boxCell RS rfl
  have FR_1 : wS1.frozen? ⟨w.heap.size, 1, none⟩ = false := frozen_of_row wS1 (w.heap.size) 1 _ _ RS
  have HOS := Lib.hid (HO.out.touch HS.touch (fun k hk => by have := hk.1; have := hk.2; omega))
  have HDS := Lib.hid (HD.out.touch HS.touch (fun k hk => by have := hk.1; have := hk.2; omega))
  have BS := (TE.below (Nat.le_refl _) (fun k hk => by omega)).trans (HS.touch.below (B := w.heap.size) (by omega) (fun k hk => by omega))
  refine soft_do rfl (fun K hK => ?_); go_simp; refine hK _ _ ((HS.set (by omega) (by omega) _ _).set (by omega) (by omega) _ _) ?_; clear hK K
  try simp only [Act.put, List.setIfInBounds_toArray, List.set_cons_zero, List.set_cons_succ]
  refine soft_read (v := ?_) rfl (fun W hW => ?_) ?_; rotate_left; (· go_simp; try with_reducible rfl)
  try simp only [Act.put, List.setIfInBounds_toArray, List.set_cons_zero, List.set_cons_succ]
  refine soft_read (v := ?_) rfl (fun W hW => ?_) ?_; rotate_left; (· go_simp; try with_reducible rfl)
  try simp only [Act.put, List.setIfInBounds_toArray, List.set_cons_zero, List.set_cons_succ]
  refine soft_nil ?_
  go_wp2
  refine bodyPost_ret (v := .tuple #[.agg #[.int .i64 n, .slice a l.length c], .slice sa fs.length sc, .int .i64 y]) (by simp [results, Tryd.results9, go_sem, KR_0, FR_0, KR_1, FR_1]) rfl ⟨a, c, n, l, sa, sc, fs, y, rfl, hn0, ⟨?_, by omega⟩, ?_, hfl, hyi, ?_⟩
  · exact (HOS.out.touch ((setCell_touch _ _ _ _).trans (setCell_touch _ _ _ _)) (fun k hk => by have := hk.1; omega)).wide (fun j hj => ⟨by have := hj.1; omega, by have := hj.2; simp [World.setCell]; omega⟩)
  · exact (HDS.out.touch ((setCell_touch _ _ _ _).trans (setCell_touch _ _ _ _)) (fun k hk => by have := hk.1; omega)).wide (fun j hj => ⟨by have := hj.1; omega, by have := hj.2; simp [World.setCell]; omega⟩)
  · exact BS.trans (((setCell_touch _ _ _ _).trans (setCell_touch _ _ _ _) : Touch (fun k => k = w.heap.size) wS1 _).below (B := w.heap.size) (by omega) (fun k hk => by omega))
end Go.Proofs.YtpgnbablhdknnaaDoor
