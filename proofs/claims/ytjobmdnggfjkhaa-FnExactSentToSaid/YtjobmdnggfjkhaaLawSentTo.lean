/-
  The law FnExactSentTo, walked: it returns true, whatever its arguments; then its statement. Printed by genlaw.py.
-/
import Derived.Test.YtjobmdnggfjkhaaEq
import Derived.Test.YtjobmdnggfjkhaaSz
import Derived.Test.YtjobmdnggfjkhaaTo
import Derived.Test.YtjobmdnggfjkhaaBridge
import Derived.Test.YtjobmdnggfjkhaaMark
import Derived.Test.YtjobmdnggfjkhaaMarkO
import Derived.Test.YtjobmdnggfjkhaaHeld
import Derived.Test.YtjobmdnggfjkhaaSentTo
import Derived.Test.YtjobmdnggfjkhaaSoft2
import Derived.Deep.RegionHeld3
namespace Go.Proofs.Ytjobmdnggfjkhaa
open Go.ChangeShapes Go.WideShapes Go.ChangeAt Go.RowKit
set_option linter.unusedVariables false
set_option linter.unusedSimpArgs false
set_option linter.unnecessarySimpa false
set_option maxRecDepth 100000 in
set_option maxHeartbeats 4000000 in
theorem lawSentTo_c {w : World} {v0 : Value} {x0 : (List LOutgoing)} (h0 : (Rep.slice 128 ROutgoing).raw w [v0] x0) {x1 : Int} (h1 : -9223372036854775808 ≤ x1 ∧ x1 ≤ 9223372036854775807) :
    Calls Try.prog 8 #[v0, .int .i64 x1] w (LawPost w) := by
  obtain ⟨a0a, a0p, a0h, a0l⟩ := Rep.len_raw h0; obtain rfl : v0 = _ := by simpa using a0h
  clear a0h
  have hi1 := Lib.hid h1; clear h1
  go_enter Try.func8, Try.ntmps8
  go_wp2_with fail
  refine (szOutgoingS_c (h0.below (by repeat (first | (with_reducible exact Below.refl _ _) | refine Below.alloc ?_ (by simp; try omega) _ | refine Below.drew ?_))) (by omega) (by omega)).mono ?_
  rintro e w1 ⟨s1, rfl, p1, q1, g1, hb1⟩
  have G1 := Lib.hid g1; clear g1
  have D1 : Below w.heap.size w w1 := Below.trans (by repeat (first | (with_reducible exact Below.refl _ _) | refine Below.alloc ?_ (by simp; try omega) _ | refine Below.drew ?_)) (hb1.mono (by first | (simp; done) | (simp; omega)))
  have H1 := Lib.hid D1
  have L1 := Lib.hid (show w.heap.size + 0 ≤ w1.heap.size from by have h := hb1.size; (try simp at h); omega)
  clear D1 hb1
  by_cases m1 : s1 < 0
  · go_wp2
    go_ret
    exact ⟨rfl, H1.out⟩
  have z1 : 0 ≤ s1 := by omega
  have r0 : (Rep.slice 128 ROutgoing).rd w _ x0 := ⟨h0, (Rep.slice 128 ROutgoing).bdd_mono (G1.out z1) (by decide)⟩
  go_wp2_with fail
  refine (toOutgoingS_c (r0.below (by repeat (first | (with_reducible exact H1.out) | refine Below.alloc ?_ (by have := H1.out.size; simp; try omega) _ | refine Below.drew ?_)))).mono ?_
  rintro e w2 ⟨tv2, rfl, O2, hb2⟩
  obtain ⟨t2a, t2p, t2h, _⟩ := Rep.len_raw O2.raw; obtain rfl : tv2 = _ := (by simpa using t2h)
  clear t2h
  have Z2 := Lib.hid (O2.wide (T := Btw (w1.heap.size) (w2.heap.size)) (fun i hi => ⟨by have h := hi.1; (try simp at h); omega, hi.2⟩)); clear O2
  have D2 : Below w1.heap.size w1 w2 := Below.trans (by repeat (first | (with_reducible exact Below.refl _ _) | refine Below.alloc ?_ (by simp; try omega) _ | refine Below.drew ?_)) (hb2.mono (by first | (simp; done) | (simp; omega)))
  have H2 := Lib.hid (H1.out.trans (D2.mono H1.out.size))
  have L2 := Lib.hid (show w1.heap.size + 0 ≤ w2.heap.size from by have h := hb2.size; (try simp at h); omega)
  clear D2 hb2
  go_wp2_with fail
  refine (specSentTo_c (Z2.out.rd.below (by repeat (first | (with_reducible exact Below.refl _ _) | refine Below.alloc ?_ (by simp; try omega) _ | refine Below.drew ?_))) hi1.out).mono ?_
  rintro e w3 ⟨tv3, rfl, O3, hb3⟩
  obtain ⟨t3a, t3p, t3h, _⟩ := Rep.len_raw O3.raw; obtain rfl : tv3 = _ := (by simpa using t3h)
  clear t3h
  have Z3 := Lib.hid (O3.wide (T := Btw (w2.heap.size) (w3.heap.size)) (fun i hi => ⟨by have h := hi.1; (try simp at h); omega, hi.2⟩)); clear O3
  have D3 : Below w2.heap.size w2 w3 := Below.trans (by repeat (first | (with_reducible exact Below.refl _ _) | refine Below.alloc ?_ (by simp; try omega) _ | refine Below.drew ?_)) (hb3.mono (by first | (simp; done) | (simp; omega)))
  have H3 := Lib.hid (H2.out.trans (D3.mono H2.out.size))
  have L3 := Lib.hid (show w2.heap.size + 0 ≤ w3.heap.size from by have h := hb3.size; (try simp at h); omega)
  have O_t2_3 := Lib.hid (Z2.out.below D3); clear Z2
  clear D3 hb3
  clear O_t2_3
  go_wp2_with fail
  refine (toOutgoingS_c (r0.below (by repeat (first | (with_reducible exact H3.out) | refine Below.alloc ?_ (by have := H3.out.size; simp; try omega) _ | refine Below.drew ?_)))).mono ?_
  rintro e w4 ⟨tv4, rfl, O4, hb4⟩
  obtain ⟨t4a, t4p, t4h, _⟩ := Rep.len_raw O4.raw; obtain rfl : tv4 = _ := (by simpa using t4h)
  clear t4h
  have Z4 := Lib.hid (O4.wide (T := Btw (w3.heap.size) (w4.heap.size)) (fun i hi => ⟨by have h := hi.1; (try simp at h); omega, hi.2⟩)); clear O4
  have D4 : Below w3.heap.size w3 w4 := Below.trans (by repeat (first | (with_reducible exact Below.refl _ _) | refine Below.alloc ?_ (by simp; try omega) _ | refine Below.drew ?_)) (hb4.mono (by first | (simp; done) | (simp; omega)))
  have H4 := Lib.hid (H3.out.trans (D4.mono H3.out.size))
  have L4 := Lib.hid (show w3.heap.size + 0 ≤ w4.heap.size from by have h := hb4.size; (try simp at h); omega)
  have O_w0_4 := Lib.hid (Z3.out.below D4); clear Z3
  clear D4 hb4
  go_wp2_with fail
  refine (implSentTo_c (Z4.out.rd.below (by repeat (first | (with_reducible exact Below.refl _ _) | refine Below.alloc ?_ (by simp; try omega) _ | refine Below.drew ?_))) hi1.out).mono ?_
  rintro e w5 ⟨tv5, rfl, O5, hb5⟩
  obtain ⟨t5a, t5p, t5h, _⟩ := Rep.len_raw O5.raw; obtain rfl : tv5 = _ := (by simpa using t5h)
  clear t5h
  have Z5 := Lib.hid (O5.wide (T := Btw (w4.heap.size) (w5.heap.size)) (fun i hi => ⟨by have h := hi.1; (try simp at h); omega, hi.2⟩)); clear O5
  have D5 : Below w4.heap.size w4 w5 := Below.trans (by repeat (first | (with_reducible exact Below.refl _ _) | refine Below.alloc ?_ (by simp; try omega) _ | refine Below.drew ?_)) (hb5.mono (by first | (simp; done) | (simp; omega)))
  have H5 := Lib.hid (H4.out.trans (D5.mono H4.out.size))
  have L5 := Lib.hid (show w4.heap.size + 0 ≤ w5.heap.size from by have h := hb5.size; (try simp at h); omega)
  have O_w0_5 := Lib.hid (O_w0_4.out.below D5); clear O_w0_4
  have O_x0_5 := Lib.hid (Z4.out.below D5); clear Z4
  clear D5 hb5
  go_wp2_with fail
  refine (eqOutgoingS_c (Z5.out.raw.below (by repeat (first | (with_reducible exact Below.refl _ _) | refine Below.alloc ?_ (by simp; try omega) _ | refine Below.drew ?_))) (O_w0_5.out.raw.below (by repeat (first | (with_reducible exact Below.refl _ _) | refine Below.alloc ?_ (by simp; try omega) _ | refine Below.drew ?_)))).mono ?_
  rintro e w6 ⟨rfl, hb6⟩
  have D6 : Below w5.heap.size w5 w6 := Below.trans (by repeat (first | (with_reducible exact Below.refl _ _) | refine Below.alloc ?_ (by simp; try omega) _ | refine Below.drew ?_)) (hb6.mono (by first | (simp; done) | (simp; omega)))
  have H6 := Lib.hid (H5.out.trans (D6.mono H5.out.size))
  have L6 := Lib.hid (show w5.heap.size + 0 ≤ w6.heap.size from by have h := hb6.size; (try simp at h); omega)
  have O_w0_6 := Lib.hid (O_w0_5.out.below D6); clear O_w0_5
  have O_x0_6 := Lib.hid (O_x0_5.out.below D6); clear O_x0_5
  have O_g0_6 := Lib.hid (Z5.out.below D6); clear Z5
  clear D6 hb6
  go_wp2_with fail
  refine (toOutgoingS_c (r0.below (by repeat (first | (with_reducible exact H6.out) | refine Below.alloc ?_ (by have := H6.out.size; simp; try omega) _ | refine Below.drew ?_)))).mono ?_
  rintro e w7 ⟨tv7, rfl, O7, hb7⟩
  obtain ⟨t7a, t7p, t7h, _⟩ := Rep.len_raw O7.raw; obtain rfl : tv7 = _ := (by simpa using t7h)
  clear t7h
  have Z7 := Lib.hid (O7.wide (T := Btw (w6.heap.size) (w7.heap.size)) (fun i hi => ⟨by have h := hi.1; (try simp at h); omega, hi.2⟩)); clear O7
  have D7 : Below w6.heap.size w6 w7 := Below.trans (by repeat (first | (with_reducible exact Below.refl _ _) | refine Below.alloc ?_ (by simp; try omega) _ | refine Below.drew ?_)) (hb7.mono (by first | (simp; done) | (simp; omega)))
  have H7 := Lib.hid (H6.out.trans (D7.mono H6.out.size))
  have L7 := Lib.hid (show w6.heap.size + 0 ≤ w7.heap.size from by have h := hb7.size; (try simp at h); omega)
  have O_w0_7 := Lib.hid (O_w0_6.out.below D7); clear O_w0_6
  have O_x0_7 := Lib.hid (O_x0_6.out.below D7); clear O_x0_6
  have O_g0_7 := Lib.hid (O_g0_6.out.below D7); clear O_g0_6
  clear D7 hb7
  go_wp2_with fail
  refine (eqOutgoingS_c (O_x0_7.out.raw.below (by repeat (first | (with_reducible exact Below.refl _ _) | refine Below.alloc ?_ (by simp; try omega) _ | refine Below.drew ?_))) (Z7.out.raw.below (by repeat (first | (with_reducible exact Below.refl _ _) | refine Below.alloc ?_ (by simp; try omega) _ | refine Below.drew ?_)))).mono ?_
  rintro e w8 ⟨rfl, hb8⟩
  clear Z7
  have D8 : Below w7.heap.size w7 w8 := Below.trans (by repeat (first | (with_reducible exact Below.refl _ _) | refine Below.alloc ?_ (by simp; try omega) _ | refine Below.drew ?_)) (hb8.mono (by first | (simp; done) | (simp; omega)))
  have H8 := Lib.hid (H7.out.trans (D8.mono H7.out.size))
  have L8 := Lib.hid (show w7.heap.size + 0 ≤ w8.heap.size from by have h := hb8.size; (try simp at h); omega)
  have O_w0_8 := Lib.hid (O_w0_7.out.below D8); clear O_w0_7
  have O_x0_8 := Lib.hid (O_x0_7.out.below D8); clear O_x0_7
  have O_g0_8 := Lib.hid (O_g0_7.out.below D8); clear O_g0_7
  clear D8 hb8
  go_wp2_with fail
  refine (markOutgoingS_c (k := 1) (O_x0_8.out.below (by repeat (first | (with_reducible exact Below.refl _ _) | refine Below.alloc ?_ (by simp; try omega) _ | refine Below.drew ?_))) (by  omega) (by have e : ((Rep.slice 128 ROutgoing).cnt : Int) = 1125900024283136 := (by decide); unfold Top; omega)).mono ?_
  rintro e w9 ⟨rfl, P9, Y9⟩
  have B9 : Hid (1 ≤ ((Rep.slice 128 ROutgoing).mark true (x0) (1)).2 ∧ ((Rep.slice 128 ROutgoing).mark true (x0) (1)).2 ≤ 1 + 1125900024283136) := Lib.hid ⟨by have := (Rep.slice 128 ROutgoing).mark_ge (e := true) (x := x0) (k := 1); omega, by have := (Rep.slice 128 ROutgoing).mark_le (e := true) (k := 1) O_x0_8.out.2; have e : ((Rep.slice 128 ROutgoing).cnt : Int) = 1125900024283136 := (by decide); omega⟩
  have D9 : Touch (Btw (w3.heap.size) (w4.heap.size)) w8 w9 := (Touch.of_below (by repeat (first | (with_reducible exact Below.refl _ _) | refine Below.alloc ?_ (by simp; try omega) _ | refine Below.drew ?_))).trans Y9
  have H9 := Lib.hid (H8.out.trans (D9.below (by have := H8.out.size; omega) (fun i hi => by have a := hi.1; have b : w.heap.size ≤ w3.heap.size := H3.out.size; omega)))
  have L9 := Lib.hid (show w8.heap.size ≤ w9.heap.size from D9.size)
  have O_w0_9 := Lib.hid (O_w0_8.out.touch D9 (fun i p q => by have p1 := p.1; have p2 := p.2; have q1 := q.1; have q2 := q.2; have l3 := L3.out; have l4 := L4.out; omega)); clear O_w0_8
  have O_g0_9 := Lib.hid (O_g0_8.out.touch D9 (fun i p q => by have p1 := p.1; have p2 := p.2; have q1 := q.1; have q2 := q.2; have l4 := L4.out; have l5 := L5.out; omega)); clear O_g0_8
  clear D9 Y9
  have Z9 := Lib.hid P9; clear P9 O_x0_8
  have U9 : 0 ≤ ((Rep.slice 128 ROutgoing).mark true (x0) (1)).2 := by have := B9.out.1; omega
  go_wp2_with fail
  refine (eqOutgoingS_c (O_g0_9.out.raw.below (by repeat (first | (with_reducible exact Below.refl _ _) | refine Below.alloc ?_ (by simp; try omega) _ | refine Below.drew ?_))) (O_w0_9.out.raw.below (by repeat (first | (with_reducible exact Below.refl _ _) | refine Below.alloc ?_ (by simp; try omega) _ | refine Below.drew ?_)))).mono ?_
  rintro e w10 ⟨rfl, hb10⟩
  have D10 : Below w9.heap.size w9 w10 := Below.trans (by repeat (first | (with_reducible exact Below.refl _ _) | refine Below.alloc ?_ (by simp; try omega) _ | refine Below.drew ?_)) (hb10.mono (by first | (simp; done) | (simp; omega)))
  have H10 := Lib.hid (H9.out.trans (D10.mono H9.out.size))
  have L10 := Lib.hid (show w9.heap.size + 0 ≤ w10.heap.size from by have h := hb10.size; (try simp at h); omega)
  have O_w0_10 := Lib.hid (O_w0_9.out.below D10); clear O_w0_9
  have O_x0_10 := Lib.hid (Z9.out.below D10); clear Z9
  have O_g0_10 := Lib.hid (O_g0_9.out.below D10); clear O_g0_9
  clear D10 hb10
  go_wp2_with fail
  refine (markOutgoingS_c (k := 1) (O_g0_10.out.below (by repeat (first | (with_reducible exact Below.refl _ _) | refine Below.alloc ?_ (by simp; try omega) _ | refine Below.drew ?_))) (by  omega) (by have e : ((Rep.slice 128 ROutgoing).cnt : Int) = 1125900024283136 := (by decide); unfold Top; omega)).mono ?_
  rintro e w11 ⟨rfl, P11, Y11⟩
  have B11 : Hid (1 ≤ ((Rep.slice 128 ROutgoing).mark true ((sentT x1 x0)) (1)).2 ∧ ((Rep.slice 128 ROutgoing).mark true ((sentT x1 x0)) (1)).2 ≤ 1 + 1125900024283136) := Lib.hid ⟨by have := (Rep.slice 128 ROutgoing).mark_ge (e := true) (x := (sentT x1 x0)) (k := 1); omega, by have := (Rep.slice 128 ROutgoing).mark_le (e := true) (k := 1) O_g0_10.out.2; have e : ((Rep.slice 128 ROutgoing).cnt : Int) = 1125900024283136 := (by decide); omega⟩
  have D11 : Touch (Btw (w4.heap.size) (w5.heap.size)) w10 w11 := (Touch.of_below (by repeat (first | (with_reducible exact Below.refl _ _) | refine Below.alloc ?_ (by simp; try omega) _ | refine Below.drew ?_))).trans Y11
  have H11 := Lib.hid (H10.out.trans (D11.below (by have := H10.out.size; omega) (fun i hi => by have a := hi.1; have b : w.heap.size ≤ w4.heap.size := H4.out.size; omega)))
  have L11 := Lib.hid (show w10.heap.size ≤ w11.heap.size from D11.size)
  have O_w0_11 := Lib.hid (O_w0_10.out.touch D11 (fun i p q => by have p1 := p.1; have p2 := p.2; have q1 := q.1; have q2 := q.2; have l3 := L3.out; have l4 := L4.out; have l5 := L5.out; omega)); clear O_w0_10
  have O_x0_11 := Lib.hid (O_x0_10.out.touch D11 (fun i p q => by have p1 := p.1; have p2 := p.2; have q1 := q.1; have q2 := q.2; have l4 := L4.out; have l5 := L5.out; omega)); clear O_x0_10
  clear D11 Y11
  have Z11 := Lib.hid P11; clear P11 O_g0_10
  have U11 : 0 ≤ ((Rep.slice 128 ROutgoing).mark true ((sentT x1 x0)) (1)).2 := by have := B11.out.1; omega
  go_wp2_with fail
  refine (heldOutgoingS_c (Z11.out.raw.below (by repeat (first | (with_reducible exact Below.refl _ _) | refine Below.alloc ?_ (by simp; try omega) _ | refine Below.drew ?_))) ((Rep.slice 128 ROutgoing).mark_held (e := true) (x := (sentT x1 x0)) (k := 1)) (by have := B11.out.1;  omega) (by have := B11.out.2;  omega)).mono ?_
  rintro e w12 ⟨rfl, hb12⟩
  have D12 : Below w11.heap.size w11 w12 := Below.trans (by repeat (first | (with_reducible exact Below.refl _ _) | refine Below.alloc ?_ (by simp; try omega) _ | refine Below.drew ?_)) (hb12.mono (by first | (simp; done) | (simp; omega)))
  have H12 := Lib.hid (H11.out.trans (D12.mono H11.out.size))
  have L12 := Lib.hid (show w11.heap.size + 0 ≤ w12.heap.size from by have h := hb12.size; (try simp at h); omega)
  have O_w0_12 := Lib.hid (O_w0_11.out.below D12); clear O_w0_11
  have O_x0_12 := Lib.hid (O_x0_11.out.below D12); clear O_x0_11
  have O_g0_12 := Lib.hid (Z11.out.below D12); clear Z11
  clear D12 hb12
  go_wp2_with fail
  refine (toOutgoingS_c (r0.below (by repeat (first | (with_reducible exact H12.out) | refine Below.alloc ?_ (by have := H12.out.size; simp; try omega) _ | refine Below.drew ?_)))).mono ?_
  rintro e w13 ⟨tv13, rfl, O13, hb13⟩
  obtain ⟨t13a, t13p, t13h, _⟩ := Rep.len_raw O13.raw; obtain rfl : tv13 = _ := (by simpa using t13h)
  clear t13h
  have Z13 := Lib.hid (O13.wide (T := Btw (w12.heap.size) (w13.heap.size)) (fun i hi => ⟨by have h := hi.1; (try simp at h); omega, hi.2⟩)); clear O13
  have D13 : Below w12.heap.size w12 w13 := Below.trans (by repeat (first | (with_reducible exact Below.refl _ _) | refine Below.alloc ?_ (by simp; try omega) _ | refine Below.drew ?_)) (hb13.mono (by first | (simp; done) | (simp; omega)))
  have H13 := Lib.hid (H12.out.trans (D13.mono H12.out.size))
  have L13 := Lib.hid (show w12.heap.size + 0 ≤ w13.heap.size from by have h := hb13.size; (try simp at h); omega)
  have O_w0_13 := Lib.hid (O_w0_12.out.below D13); clear O_w0_12
  have O_x0_13 := Lib.hid (O_x0_12.out.below D13); clear O_x0_12
  have O_g0_13 := Lib.hid (O_g0_12.out.below D13); clear O_g0_12
  clear D13 hb13
  go_wp2_with fail
  refine (implSentTo_c (Z13.out.rd.below (by repeat (first | (with_reducible exact Below.refl _ _) | refine Below.alloc ?_ (by simp; try omega) _ | refine Below.drew ?_))) hi1.out).mono ?_
  rintro e w14 ⟨tv14, rfl, O14, hb14⟩
  obtain ⟨t14a, t14p, t14h, _⟩ := Rep.len_raw O14.raw; obtain rfl : tv14 = _ := (by simpa using t14h)
  clear t14h
  have Z14 := Lib.hid (O14.wide (T := Btw (w13.heap.size) (w14.heap.size)) (fun i hi => ⟨by have h := hi.1; (try simp at h); omega, hi.2⟩)); clear O14
  have D14 : Below w13.heap.size w13 w14 := Below.trans (by repeat (first | (with_reducible exact Below.refl _ _) | refine Below.alloc ?_ (by simp; try omega) _ | refine Below.drew ?_)) (hb14.mono (by first | (simp; done) | (simp; omega)))
  have H14 := Lib.hid (H13.out.trans (D14.mono H13.out.size))
  have L14 := Lib.hid (show w13.heap.size + 0 ≤ w14.heap.size from by have h := hb14.size; (try simp at h); omega)
  have O_w0_14 := Lib.hid (O_w0_13.out.below D14); clear O_w0_13
  have O_x0_14 := Lib.hid (O_x0_13.out.below D14); clear O_x0_13
  have O_g0_14 := Lib.hid (O_g0_13.out.below D14); clear O_g0_13
  have O_t13_14 := Lib.hid (Z13.out.below D14); clear Z13
  clear D14 hb14
  clear O_t13_14
  go_wp2_with fail
  refine (eqOutgoingS_c (Z14.out.raw.below (by repeat (first | (with_reducible exact Below.refl _ _) | refine Below.alloc ?_ (by simp; try omega) _ | refine Below.drew ?_))) (O_w0_14.out.raw.below (by repeat (first | (with_reducible exact Below.refl _ _) | refine Below.alloc ?_ (by simp; try omega) _ | refine Below.drew ?_)))).mono ?_
  rintro e w15 ⟨rfl, hb15⟩
  have D15 : Below w14.heap.size w14 w15 := Below.trans (by repeat (first | (with_reducible exact Below.refl _ _) | refine Below.alloc ?_ (by simp; try omega) _ | refine Below.drew ?_)) (hb15.mono (by first | (simp; done) | (simp; omega)))
  have H15 := Lib.hid (H14.out.trans (D15.mono H14.out.size))
  have L15 := Lib.hid (show w14.heap.size + 0 ≤ w15.heap.size from by have h := hb15.size; (try simp at h); omega)
  have O_w0_15 := Lib.hid (O_w0_14.out.below D15); clear O_w0_14
  have O_x0_15 := Lib.hid (O_x0_14.out.below D15); clear O_x0_14
  have O_g0_15 := Lib.hid (O_g0_14.out.below D15); clear O_g0_14
  have O_h0_15 := Lib.hid (Z14.out.below D15); clear Z14
  clear D15 hb15
  go_wp2_with fail
  refine (heldOutgoingS_c (O_g0_15.out.raw.below (by repeat (first | (with_reducible exact Below.refl _ _) | refine Below.alloc ?_ (by simp; try omega) _ | refine Below.drew ?_))) ((Rep.slice 128 ROutgoing).mark_held (e := true) (x := (sentT x1 x0)) (k := 1)) (by have := B11.out.1;  omega) (by have := B11.out.2;  omega)).mono ?_
  rintro e w16 ⟨rfl, hb16⟩
  have D16 : Below w15.heap.size w15 w16 := Below.trans (by repeat (first | (with_reducible exact Below.refl _ _) | refine Below.alloc ?_ (by simp; try omega) _ | refine Below.drew ?_)) (hb16.mono (by first | (simp; done) | (simp; omega)))
  have H16 := Lib.hid (H15.out.trans (D16.mono H15.out.size))
  have L16 := Lib.hid (show w15.heap.size + 0 ≤ w16.heap.size from by have h := hb16.size; (try simp at h); omega)
  have O_w0_16 := Lib.hid (O_w0_15.out.below D16); clear O_w0_15
  have O_x0_16 := Lib.hid (O_x0_15.out.below D16); clear O_x0_15
  have O_g0_16 := Lib.hid (O_g0_15.out.below D16); clear O_g0_15
  have O_h0_16 := Lib.hid (O_h0_15.out.below D16); clear O_h0_15
  clear D16 hb16
  go_wp2
  go_ret
  exact ⟨rfl, H16.out⟩

set_option maxRecDepth 100000 in
theorem lawSentTo_lifted (os : Os) (started : os.Started) (H : Type) (enc : TypeId × Value → H) :
    ReturnsInHanded {} Try.checked os 8 .any (Rows.fnExactSentToSpec.pre6 enc Try.prog Try.f8 Rows.fnExactSentToRow.domain false) (Rows.fnExactSentToSpec.post enc Try.prog Try.f8 false true false false) := by
  refine returnsInHanded_of_change (C := Try.checked) law_own started (by kernel_rfl) Try.func8
    (ChangeSpec.witness6 (enc := enc) (C := Try.checked) false ⟨#[], #[.slice none 0 0, .int .i64 0], []⟩ 8 (by kernel_rfl) (by kernel_rfl) (by kernel_rfl) (by kernel_rfl)) ?_
  intro W base args ds gs before hval0 hW _ _
  have hval : ∀ (j : Nat) t v, Try.f8.params[j]? = some t → args[j]? = some v → Value.okWide Try.prog W .any base t v := hval0
  have hW0 : DataW.Whole enc Try.prog Try.f8.params.toList Rows.fnExactSentToSpec.vars false W args.toList ds gs before := hW
  obtain ⟨p, q, hA0, hV, rfl, hfz, hnd⟩ := hW
  have hA : DataW.TrodAll enc Try.prog W 0 (fun _ => true) true Try.f8.params.toList args.toList ds p := hA0
  rw [Try.params8] at hA hval
  obtain ⟨v0, vs0, d0, ds0, p0, q0, hargs, rfl, rfl, g0, s0⟩ := trodAll_cons hA
  obtain ⟨v1, vs1, d1, ds1, p1, q1, rfl, rfl, rfl, g1, s1⟩ := trodAll_cons s0
  obtain ⟨rfl, rfl, rfl⟩ := trodAll_nil s1
  obtain rfl : args = #[v0, v1] := by cases args; simp_all
  obtain ⟨rfl, rfl⟩ := trodVars_none hV
  obtain ⟨a0, len0, cap0, rfl⟩ := okWide_slice Try.underlying69 (hval 0 69 v0 rfl rfl)
  obtain ⟨fu0, hf0⟩ := g0
  obtain ⟨x0, h0⟩ := bridge_OutgoingS (w := W) hf0
  have h0 : (Rep.slice 128 ROutgoing).raw W [.slice a0 len0 cap0] x0 := by simpa [Value.cells] using h0
  obtain ⟨x1, rfl, rfl, rfl, e1⟩ := open_int Try.underlying3 (hval 1 3 v1 rfl rfl) g1
  have h1 : -9223372036854775808 ≤ x1 ∧ x1 ≤ 9223372036854775807 := by simpa [Lit.wf, IntKind.min, IntKind.max, IntKind.signed, IntKind.bits] using e1
  refine (lawSentTo_c h0 h1).mono fun e W' ⟨he, hb⟩ => ?_
  subst he
  refine ⟨_, rfl, law_post (tb := 4) hW0 rfl rfl Try.underlying4 ⟨rfl, rfl, rfl⟩ ?_ hb⟩
  rw [Try.params8]
  intro t ht
  have hall : ([69, 3].all fun t => Try.prog.readableRec t && decide (t < Try.prog.types.size)) = true := by kernel_rfl
  have h1 := List.all_eq_true.1 hall t ht
  simpa using h1

theorem lawSentTo_holds : Rows.FnExactSentToSaid :=
  OpenClaim.holds_of_wide 8 Try.f8 rfl rfl rfl rfl rfl rfl rfl ⟨rfl, rfl, rfl, rfl, rfl⟩ rfl rfl rfl rfl rfl (by kernel_rfl) Try.func8 (by kernel_rfl)
    (of_decide_eq_true (by kernel_rfl)) (by unfold Func.isWrapper; first | (rw [if_pos (by decide +kernel)]; kernel_rfl) | (rw [if_neg (by decide +kernel)]; exact ⟨rfl, rfl⟩))
    (fun os started H enc _ => lawSentTo_lifted os started H enc)
end Go.Proofs.Ytjobmdnggfjkhaa
