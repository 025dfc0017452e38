/-
  The law FnNets: the remote end of a face leads back through the stated face.
-/
import Derived.Test.YtpgnbablhdknnaaDoorBridge
import Derived.Test.YtpgnbablhdknnaaDoorBig
import Derived.Test.YtpgnbablhdknnaaDoorDrawT
import Derived.Test.YtpgnbablhdknnaaDoorPNets
import Derived.Test.YtpgnbablhdknnaaDoorSameI
import Derived.Test.YtpgnbablhdknnaaDoorRemote
import Derived.Test.YtpgnbablhdknnaaDoorRemoveF
import Derived.Test.YtpgnbablhdknnaaDoorValidTop
import Derived.Test.YtpgnbablhdknnaaDoorNet
import Derived.Test.YtpgnbablhdknnaaDoorNbr
import Derived.Test.YtpgnbablhdknnaaDoorFmtT
import Derived.Test.YtpgnbablhdknnaaDoorSoftF
import Derived.IntWalk
import Derived.WalkSpells
import Derived.Deep.Cut
import Derived.Test.YtpgnbablhdknnaaDoorCards
import Derived.Test.YtpgnbablhdknnaaDoorTie
import Derived.Deep.DeepHandedRow
import Derived.Lib.LaidTab
import Derived.Stop.LaidErr
import Derived.SevenTiedAt
namespace Go.Proofs.YtpgnbablhdknnaaDoor
open Go.ChangeShapes Go.WideShapes Go.ChangeAt Go.RowKit
set_option linter.unusedVariables false
set_option linter.unusedSimpArgs false
set_option linter.unnecessarySimpa false
def From (W w : World) : Prop := Below W.heap.size W w
theorem From.below {W w w' : World} (h : From W w) (b : Below w.heap.size w w') : From W w' := Below.trans h (b.mono (Below.size h))
theorem topo_ls {w : World} {n v : Value} {x : LTopology} (h : RTopology.raw w [n, v] x) : (Rep.slice 49 RLink).raw w [v] x.2 := by
  obtain ⟨c, d, e, h1, h2⟩ := Rep.pair_raw (r := Rep.int) (q := (Rep.slice 49 RLink)) h
  obtain ⟨rfl, _⟩ := Rep.int_raw h1
  simp only [List.cons_append, List.nil_append, List.cons.injEq] at e
  obtain ⟨_, rfl⟩ := e
  exact h2
theorem faceTo_range {x : LTopology} {a b : Int} : 0 ≤ faceTo x a b ∧ faceTo x a b ≤ 7 := by
  have := idxOf_bd (eqI b) (nbrs x a) 6 (nbrs_len x a)
  unfold faceTo; omega
theorem topo_form {w : World} {cs : List Value} {x : LTopology} (h : RTopology.raw w cs x) : ∃ a c, cs = [.int .i64 x.1, .slice a x.2.length c] := by
  obtain ⟨v1, rfl, h0, h1⟩ := RTopology_raw h
  obtain ⟨a, c, hv, _⟩ := Rep.len_raw h1
  obtain rfl : v1 = _ := by simpa using hv
  exact ⟨a, c, rfl⟩
set_option maxRecDepth 100000 in
set_option maxHeartbeats 1000000 in
theorem lawssamePairs_t {w : World} {va vb : Value} {a : List LLink} (a_0 : (Rep.slice 49 RLink).raw w [va] a) (b_0 : (Rep.slice 49 RLink).raw w [vb] a) :
    Calls Tryd.prog 20 #[va, vb] w fun e w' => e = .returned (.bool true) ∧ Below w.heap.size w w' := by
  obtain ⟨aa, capa, hva, la⟩ := Rep.len_raw a_0; obtain rfl : va = _ := by simpa using hva
  obtain ⟨ab, capb, hvb, lb⟩ := Rep.len_raw b_0; obtain rfl : vb = _ := by simpa using hvb
  clear hva hvb
  go_enter Tryd.func20, Tryd.ntmps20
  go_wp2
  go_loopw [5] (fun i wr => ∃ k : Nat, k ≤ a.length ∧ i = .int .i64 k ∧ Below w.heap.size w wr) (fun i _ => a.length - (intOf i).toNat)
  case atStart => exact ⟨0, Nat.zero_le _, rfl, Below.refl _ _⟩
  case round =>
    obtain ⟨k, hk, rfl, hbel⟩ := hrel
    by_cases hlt : k < a.length
    · have hltI : (k : Int) < a.length := by omega
      have hk0 := Int.natCast_nonneg k
      have a_1 := a_0.below hbel
      have b_1 := b_0.below hbel
      obtain ⟨ba, oa, rfl, c0, c1, hcr, A0, A1⟩ := Rep.get2 a_1 hlt rfl
      obtain ⟨bb, ob, rfl, d0, d1, hdr, B0, B1⟩ := Rep.get2 b_1 hlt rfl
      obtain ⟨he, r0, r1⟩ := RLink_raw hcr
      simp only [List.cons.injEq, and_true] at he
      obtain ⟨rfl, rfl⟩ := he
      obtain ⟨he, s0, s1⟩ := RLink_raw hdr
      simp only [List.cons.injEq, and_true] at he
      obtain ⟨rfl, rfl⟩ := he
      clear hcr hdr r0 r1 s0 s1 a_1 b_1
      generalize a[k] = x at *
      go_upto_region 6 with fail
      refine wp_region_soft (fun W => Below wr.heap.size wr W) [true, true, true, true, true, true, true, true, true] (by kernel_rfl) (by kernel_rfl) (fun c a d v w h => by cases d <;> exact h) ((Below.refl _ _).drew) ?_
      intro wS HS
      all_goals first | (refine soft_pass rfl HS ?_) | (refine soft_read (v := ?_) rfl (fun W hW => ?_) ?_; rotate_left; (· go_simp; try with_reducible rfl))
      all_goals try simp only [Act.put, List.setIfInBounds_toArray, List.set_cons_zero, List.set_cons_succ]
      all_goals first | (refine soft_pass rfl HS ?_) | (refine soft_read (v := ?_) rfl (fun W hW => ?_) ?_; rotate_left; (· go_simp; try with_reducible rfl))
      all_goals try simp only [Act.put, List.setIfInBounds_toArray, List.set_cons_zero, List.set_cons_succ]
      all_goals first | (refine soft_pass rfl HS ?_) | (refine soft_read (v := ?_) rfl (fun W hW => ?_) ?_; rotate_left; (· go_simp; try with_reducible rfl))
      all_goals try simp only [Act.put, List.setIfInBounds_toArray, List.set_cons_zero, List.set_cons_succ]
      all_goals first | (refine soft_pass rfl HS ?_) | (refine soft_read (v := ?_) rfl (fun W hW => ?_) ?_; rotate_left; (· have A_A0 := cell_later hW A0; have A_A1 := cell_later hW A1; have A_B0 := cell_later hW B0; have A_B1 := cell_later hW B1; clear hW; go_simp; try with_reducible rfl))
      all_goals try simp only [Act.put, List.setIfInBounds_toArray, List.set_cons_zero, List.set_cons_succ]
      all_goals first | (refine soft_pass rfl HS ?_) | (refine soft_read (v := ?_) rfl (fun W hW => ?_) ?_; rotate_left; (· go_simp; try with_reducible rfl))
      all_goals try simp only [Act.put, List.setIfInBounds_toArray, List.set_cons_zero, List.set_cons_succ]
      all_goals first | (refine soft_pass rfl HS ?_) | (refine soft_read (v := ?_) rfl (fun W hW => ?_) ?_; rotate_left; (· go_simp; try with_reducible rfl))
      all_goals try simp only [Act.put, List.setIfInBounds_toArray, List.set_cons_zero, List.set_cons_succ]
      all_goals first | (refine soft_pass rfl HS ?_) | (refine soft_read (v := ?_) rfl (fun W hW => ?_) ?_; rotate_left; (· go_simp; try with_reducible rfl))
      all_goals try simp only [Act.put, List.setIfInBounds_toArray, List.set_cons_zero, List.set_cons_succ]
      all_goals first | (refine soft_pass rfl HS ?_) | (refine soft_read (v := ?_) rfl (fun W hW => ?_) ?_; rotate_left; (· have A_A0 := cell_later hW A0; have A_A1 := cell_later hW A1; have A_B0 := cell_later hW B0; have A_B1 := cell_later hW B1; clear hW; go_simp; try with_reducible rfl))
      all_goals try simp only [Act.put, List.setIfInBounds_toArray, List.set_cons_zero, List.set_cons_succ]
      all_goals first | (refine soft_pass rfl HS ?_; have hg8 := True.intro) | (refine soft_part (v := ?_) (b := ?_) rfl (fun W hW => ?_) ?_ (fun b hg8 => ?_); rotate_left; rotate_left; (· go_simp; try with_reducible rfl); (· with_reducible rfl); cases b; all_goals first | (exact Bool.noConfusion hg8) | (simp only [Bool.not_eq_true', Bool.not_eq_false'] at hg8) | skip)
      all_goals try simp only [Act.put, List.setIfInBounds_toArray, List.set_cons_zero, List.set_cons_succ]
      all_goals refine soft_nil ?_
      have hbS := hbel.trans (HS.mono hbel.size)
      clear HS A0 A1 B0 B1
      go_wp2
      go_roundw
      case rel => exact ⟨k + 1, by omega, by go_num, hbS⟩
      case measure => simp [intOf]; omega
    · have hltI : ¬ (k : Int) < a.length := by omega
      go_wp2
      go_ret
      exact ⟨rfl, hbel⟩

set_option maxRecDepth 100000 in
set_option maxHeartbeats 40000000 in
theorem lawFnNets_c {w : World} {v : Value} {code : List UInt8} (hcode : (Rep.slice 5 Rep.byte).raw w [v] code) (ht : TabW Tryd.prog w) :
    Calls Tryd.prog 3 #[v] w (LawPost w) := by
  obtain ⟨ca, cc, hcv, _⟩ := Rep.len_raw hcode; obtain rfl : v = _ := by simpa using hcv
  clear hcv
  have HT := Lib.hid ht
  clear ht
  go_enter Tryd.func3, Tryd.ntmps3
  go_wp2_with fail
  refine (lawsbig_c hcode).mono ?_
  rintro e w1 ⟨rfl, hb⟩
  have z_w1 := hb.size
  replace HT := Lib.hid (HT.out.below hb)
  have EE := hb
  clear hb
  by_cases hbig : (code.length : Int) > 1048576
  · go_wp2
    go_ret
    exact ⟨rfl, EE⟩
  go_wp2_with fail
  refine (specDrawTopology_c (hcode.below EE)).mono ?_
  rintro e w2 ⟨ga, gc, gn, gl, rfl, hgn, hgv, ⟨hO, hgl⟩, hb⟩
  have z_w2 := hb.size
  replace HT := Lib.hid (HT.out.below hb)
  replace EE := EE.trans (hb.mono EE.size)
  clear hb
  have GO := Lib.hid (topo_own hO (n := gn) (by omega))
  clear hO
  go_upto_region 4 with fail
  generalize hw_ : World.alloc w2 _ = w3
  have E_w3 : Below w2.heap.size w2 w3 := by rw [← hw_]; exact (Below.refl _ _).alloc (Nat.le_refl _) _
  have BG : w3.heap[w2.heap.size]? = some (.cells #[.int .i64 gn, .slice ga gl.length gc] 26 (0, 0)) := by rw [← hw_]; exact heap_new_at rfl
  have z_w3 : w2.heap.size + 1 ≤ w3.heap.size := by rw [← hw_]; simp
  clear hw_
  replace HT := Lib.hid (HT.out.below E_w3)
  replace GO := Lib.hid (GO.out.below E_w3)
  replace EE := EE.trans (E_w3.mono EE.size)
  clear E_w3
  go_wp2_with fail
  refine (specDrawRemoteEnd_c (hcode.below EE)).mono ?_
  rintro e w4 ⟨ra, rc, rn, rl, rx, ry, rfl, hrn, ⟨hO, hrl⟩, hrx, hry, hb⟩
  have z_w4 := hb.size
  replace BG := keepBox BG hb
  replace HT := Lib.hid (HT.out.below hb)
  replace GO := Lib.hid (GO.out.below hb)
  replace EE := EE.trans (hb.mono EE.size)
  clear hb
  have RO := Lib.hid (topo_own hO (n := rn) (by omega))
  clear hO
  go_upto_region 5 with fail
  generalize hw_ : World.alloc w4 _ = w5
  have E_w5 : Below w4.heap.size w4 w5 := by rw [← hw_]; exact (Below.refl _ _).alloc (Nat.le_refl _) _
  have BR : w5.heap[w4.heap.size]? = some (.cells #[.int .i64 rn, .slice ra rl.length rc] 26 (0, 0)) := by rw [← hw_]; exact heap_new_at rfl
  have z_w5 : w4.heap.size + 1 ≤ w5.heap.size := by rw [← hw_]; simp
  clear hw_
  replace BG := keepBox BG E_w5
  replace HT := Lib.hid (HT.out.below E_w5)
  replace GO := Lib.hid (GO.out.below E_w5)
  replace RO := Lib.hid (RO.out.below E_w5)
  replace EE := EE.trans (E_w5.mono EE.size)
  clear E_w5
  have KBR_0 : w5.cell? ⟨w4.heap.size, 0, none⟩ = some (.int .i64 rn) := boxCell BR rfl
  have KBR_1 : w5.cell? ⟨w4.heap.size, 1, none⟩ = some (.slice ra rl.length rc) := boxCell BR rfl
  go_wp2_with fail
  refine (implRemoteEnd_c RO.out.rd (a := rx) (s := ry) (by omega) (by omega)).mono ?_
  rintro e w6 ⟨rfl, hb⟩
  have z_w6 := hb.size
  replace BG := keepBox BG hb
  replace BR := keepBox BR hb
  replace HT := Lib.hid (HT.out.below hb)
  replace GO := Lib.hid (GO.out.below hb)
  replace RO := Lib.hid (RO.out.below hb)
  replace EE := EE.trans (hb.mono EE.size)
  clear KBR_0 KBR_1
  clear hb
  have KBR_0 : w6.cell? ⟨w4.heap.size, 0, none⟩ = some (.int .i64 rn) := boxCell BR rfl
  have KBR_1 : w6.cell? ⟨w4.heap.size, 1, none⟩ = some (.slice ra rl.length rc) := boxCell BR rfl
  go_wp2_with fail
  refine (specRemoteEnd_c RO.out.rd (a := rx) (s := ry) (by omega) (by omega)).mono ?_
  rintro e w7 ⟨rfl, hb⟩
  have z_w7 := hb.size
  replace BG := keepBox BG hb
  replace BR := keepBox BR hb
  replace HT := Lib.hid (HT.out.below hb)
  replace GO := Lib.hid (GO.out.below hb)
  replace RO := Lib.hid (RO.out.below hb)
  replace EE := EE.trans (hb.mono EE.size)
  clear KBR_0 KBR_1
  clear hb
  generalize remE (rn, rl) rx ry = E1 at *
  generalize remF (rn, rl) rx ry = E2 at *
  go_wp2_with fail
  refine (specDrawRemoveFailed_c (hcode.below EE)).mono ?_
  rintro e w8 ⟨wa, wc_, wn, wl, sa, sc, fs, wy, rfl, hwn, ⟨hO, hwl⟩, hF, hfs, hwy, hb⟩
  have z_w8 := hb.size
  replace BG := keepBox BG hb
  replace BR := keepBox BR hb
  replace HT := Lib.hid (HT.out.below hb)
  replace GO := Lib.hid (GO.out.below hb)
  replace RO := Lib.hid (RO.out.below hb)
  replace EE := EE.trans (hb.mono EE.size)
  clear hb
  have WO := Lib.hid (topo_own hO (n := wn) (by omega))
  clear hO
  have FO := Lib.hid (hF)
  clear hF
  go_upto_region 8 with fail
  generalize hw_ : World.alloc w8 _ = w9
  have E_w9 : Below w8.heap.size w8 w9 := by rw [← hw_]; exact (Below.refl _ _).alloc (Nat.le_refl _) _
  have BW : w9.heap[w8.heap.size]? = some (.cells #[.int .i64 wn, .slice wa wl.length wc_] 26 (0, 0)) := by rw [← hw_]; exact heap_new_at rfl
  have z_w9 : w8.heap.size + 1 ≤ w9.heap.size := by rw [← hw_]; simp
  clear hw_
  replace BG := keepBox BG E_w9
  replace BR := keepBox BR E_w9
  replace HT := Lib.hid (HT.out.below E_w9)
  replace GO := Lib.hid (GO.out.below E_w9)
  replace RO := Lib.hid (RO.out.below E_w9)
  replace WO := Lib.hid (WO.out.below E_w9)
  replace FO := Lib.hid (FO.out.below E_w9)
  replace EE := EE.trans (E_w9.mono EE.size)
  clear E_w9
  go_wp2_with fail
  refine (specDrawLinkIndex_c (hcode.below EE)).mono ?_
  rintro e w10 ⟨pa, pc, pn, pl, px, py, rfl, hpn, ⟨hO, hpl⟩, hpx, hpy, hb⟩
  have z_w10 := hb.size
  replace BG := keepBox BG hb
  replace BR := keepBox BR hb
  replace BW := keepBox BW hb
  replace HT := Lib.hid (HT.out.below hb)
  replace GO := Lib.hid (GO.out.below hb)
  replace RO := Lib.hid (RO.out.below hb)
  replace WO := Lib.hid (WO.out.below hb)
  replace FO := Lib.hid (FO.out.below hb)
  replace EE := EE.trans (hb.mono EE.size)
  clear hb
  have PO := Lib.hid (topo_own hO (n := pn) (by omega))
  clear hO
  go_upto_region 9 with fail
  generalize hw_ : World.alloc w10 _ = w11
  have E_w11 : Below w10.heap.size w10 w11 := by rw [← hw_]; exact (Below.refl _ _).alloc (Nat.le_refl _) _
  have BP : w11.heap[w10.heap.size]? = some (.cells #[.int .i64 pn, .slice pa pl.length pc] 26 (0, 0)) := by rw [← hw_]; exact heap_new_at rfl
  have z_w11 : w10.heap.size + 1 ≤ w11.heap.size := by rw [← hw_]; simp
  clear hw_
  replace BG := keepBox BG E_w11
  replace BR := keepBox BR E_w11
  replace BW := keepBox BW E_w11
  replace HT := Lib.hid (HT.out.below E_w11)
  replace GO := Lib.hid (GO.out.below E_w11)
  replace RO := Lib.hid (RO.out.below E_w11)
  replace WO := Lib.hid (WO.out.below E_w11)
  replace FO := Lib.hid (FO.out.below E_w11)
  replace PO := Lib.hid (PO.out.below E_w11)
  replace EE := EE.trans (E_w11.mono EE.size)
  clear E_w11
  go_wp2_with fail
  refine (specDrawValidTopology_c (hcode.below EE)).mono ?_
  rintro e w12 ⟨oa, oc, on, ol, rfl, hon, ⟨hO, hol⟩, hb⟩
  have z_w12 := hb.size
  replace BG := keepBox BG hb
  replace BR := keepBox BR hb
  replace BW := keepBox BW hb
  replace BP := keepBox BP hb
  replace HT := Lib.hid (HT.out.below hb)
  replace GO := Lib.hid (GO.out.below hb)
  replace RO := Lib.hid (RO.out.below hb)
  replace WO := Lib.hid (WO.out.below hb)
  replace FO := Lib.hid (FO.out.below hb)
  replace PO := Lib.hid (PO.out.below hb)
  replace EE := EE.trans (hb.mono EE.size)
  clear hb
  have OO := Lib.hid (topo_own hO (n := on) (by omega))
  clear hO
  go_upto_region 10 with fail
  generalize hw_ : World.alloc w12 _ = w13
  have E_w13 : Below w12.heap.size w12 w13 := by rw [← hw_]; exact (Below.refl _ _).alloc (Nat.le_refl _) _
  have BO : w13.heap[w12.heap.size]? = some (.cells #[.int .i64 on, .slice oa ol.length oc] 26 (0, 0)) := by rw [← hw_]; exact heap_new_at rfl
  have z_w13 : w12.heap.size + 1 ≤ w13.heap.size := by rw [← hw_]; simp
  clear hw_
  replace BG := keepBox BG E_w13
  replace BR := keepBox BR E_w13
  replace BW := keepBox BW E_w13
  replace BP := keepBox BP E_w13
  replace HT := Lib.hid (HT.out.below E_w13)
  replace GO := Lib.hid (GO.out.below E_w13)
  replace RO := Lib.hid (RO.out.below E_w13)
  replace WO := Lib.hid (WO.out.below E_w13)
  replace FO := Lib.hid (FO.out.below E_w13)
  replace PO := Lib.hid (PO.out.below E_w13)
  replace OO := Lib.hid (OO.out.below E_w13)
  replace EE := EE.trans (E_w13.mono EE.size)
  clear E_w13
  have KBW_0 : w13.cell? ⟨w8.heap.size, 0, none⟩ = some (.int .i64 wn) := boxCell BW rfl
  have KBW_1 : w13.cell? ⟨w8.heap.size, 1, none⟩ = some (.slice wa wl.length wc_) := boxCell BW rfl
  go_wp2_with fail
  refine (implRemoveFailed_c WO.out.rd FO.out.rd (d := wy) (by omega)).mono ?_
  rintro e w14 ⟨zc, rfl, hO, hb⟩
  have z_w14 := hb.size
  replace BG := keepBox BG hb
  replace BR := keepBox BR hb
  replace BW := keepBox BW hb
  replace BP := keepBox BP hb
  replace BO := keepBox BO hb
  replace HT := Lib.hid (HT.out.below hb)
  replace GO := Lib.hid (GO.out.below hb)
  replace RO := Lib.hid (RO.out.below hb)
  replace WO := Lib.hid (WO.out.below hb)
  replace FO := Lib.hid (FO.out.below hb)
  replace PO := Lib.hid (PO.out.below hb)
  replace OO := Lib.hid (OO.out.below hb)
  replace EE := EE.trans (hb.mono EE.size)
  clear KBW_0 KBW_1
  clear hb
  have zle := remT_len (x := (wn, wl)) (f := fs) (d := wy)
  have zva := fun h => remT_valid (x := (wn, wl)) (f := fs) (d := wy) h
  obtain ⟨Z, hZ⟩ : ∃ Z, remT (wn, wl) fs wy = Z := ⟨_, rfl⟩
  rw [hZ] at hO zle zva
  have HZ := Lib.hid hZ
  have ZVA := Lib.hid zva
  clear hZ zva
  obtain ⟨za, zcp, rfl⟩ := topo_form hO.raw
  have ZO := Lib.hid (hO)
  clear hO
  go_upto_region 11 with fail
  generalize hw_ : World.alloc w14 _ = w15
  have E_w15 : Below w14.heap.size w14 w15 := by rw [← hw_]; exact (Below.refl _ _).alloc (Nat.le_refl _) _
  have BZ : w15.heap[w14.heap.size]? = some (.cells #[.int .i64 Z.1, .slice za Z.2.length zcp] 26 (0, 0)) := by rw [← hw_]; exact heap_new_at rfl
  have z_w15 : w14.heap.size + 1 ≤ w15.heap.size := by rw [← hw_]; simp
  clear hw_
  replace BG := keepBox BG E_w15
  replace BR := keepBox BR E_w15
  replace BW := keepBox BW E_w15
  replace BP := keepBox BP E_w15
  replace BO := keepBox BO E_w15
  replace HT := Lib.hid (HT.out.below E_w15)
  replace GO := Lib.hid (GO.out.below E_w15)
  replace RO := Lib.hid (RO.out.below E_w15)
  replace WO := Lib.hid (WO.out.below E_w15)
  replace FO := Lib.hid (FO.out.below E_w15)
  replace PO := Lib.hid (PO.out.below E_w15)
  replace OO := Lib.hid (OO.out.below E_w15)
  replace ZO := Lib.hid (ZO.out.below E_w15)
  replace EE := EE.trans (E_w15.mono EE.size)
  clear E_w15
  have KBR_0 : w15.cell? ⟨w4.heap.size, 0, none⟩ = some (.int .i64 rn) := boxCell BR rfl
  have KBR_1 : w15.cell? ⟨w4.heap.size, 1, none⟩ = some (.slice ra rl.length rc) := boxCell BR rfl
  have KBW_0 : w15.cell? ⟨w8.heap.size, 0, none⟩ = some (.int .i64 wn) := boxCell BW rfl
  have KBW_1 : w15.cell? ⟨w8.heap.size, 1, none⟩ = some (.slice wa wl.length wc_) := boxCell BW rfl
  have KBP_0 : w15.cell? ⟨w10.heap.size, 0, none⟩ = some (.int .i64 pn) := boxCell BP rfl
  have KBP_1 : w15.cell? ⟨w10.heap.size, 1, none⟩ = some (.slice pa pl.length pc) := boxCell BP rfl
  have KBO_0 : w15.cell? ⟨w12.heap.size, 0, none⟩ = some (.int .i64 on) := boxCell BO rfl
  have KBO_1 : w15.cell? ⟨w12.heap.size, 1, none⟩ = some (.slice oa ol.length oc) := boxCell BO rfl
  have KBZ_0 : w15.cell? ⟨w14.heap.size, 0, none⟩ = some (.int .i64 Z.1) := boxCell BZ rfl
  have KBZ_1 : w15.cell? ⟨w14.heap.size, 1, none⟩ = some (.slice za Z.2.length zcp) := boxCell BZ rfl
  refine wp_region_softP (fun W => Below w15.heap.size w15 W) [(0, true), (1, true), (2, true), (3, true), (4, true), (5, true), (6, true), (7, true), (8, true), (9, true), (10, true), (12, true), (13, true), (11, false), (14, false), (15, false), (16, true), (17, true), (18, true), (19, true), (20, true), (21, true), (23, true), (24, true), (25, true), (22, false), (26, false), (27, true), (28, true), (29, true), (30, true), (31, true), (32, true), (34, true), (35, true), (36, true), (33, false), (37, false), (38, true), (39, true), (40, true), (41, true), (42, true), (43, true), (44, true), (45, true), (46, false), (47, true), (48, false), (49, true), (50, true), (51, true), (52, true), (54, true), (53, false), (55, false), (56, true), (57, true), (58, true), (59, true), (61, true), (60, false), (62, false), (63, true), (64, true)] (by kernel_rfl) (softP_ok (by kernel_rfl)) (fun c a d v w h => by cases d <;> exact h) ((Below.refl _ _).drew) ?_
  intro wS HS
  simp only [pickOps, List.getElem?_cons_succ, List.getElem?_cons_zero, List.map_cons, List.map_nil]
  all_goals first | (refine soft_pass rfl HS ?_) | (refine soft_read (v := ?_) rfl (fun W hW => ?_) ?_; rotate_left; (· go_simp; try with_reducible rfl))
  all_goals try simp only [Act.put, List.setIfInBounds_toArray, List.set_cons_zero, List.set_cons_succ]
  all_goals first | (refine soft_pass rfl HS ?_) | (refine soft_read (v := ?_) rfl (fun W hW => ?_) ?_; rotate_left; (· go_simp; try with_reducible rfl))
  all_goals try simp only [Act.put, List.setIfInBounds_toArray, List.set_cons_zero, List.set_cons_succ]
  all_goals first | (refine soft_pass rfl HS ?_) | (refine soft_read (v := ?_) rfl (fun W hW => ?_) ?_; rotate_left; (· go_simp; try with_reducible rfl))
  all_goals try simp only [Act.put, List.setIfInBounds_toArray, List.set_cons_zero, List.set_cons_succ]
  all_goals first | (refine soft_pass rfl HS ?_; have hg3 := True.intro) | (refine soft_part (v := ?_) (b := ?_) rfl (fun W hW => ?_) ?_ (fun b hg3 => ?_); rotate_left; rotate_left; (· go_simp; try with_reducible rfl); (· with_reducible rfl); cases b; all_goals first | (exact Bool.noConfusion hg3) | (simp only [Bool.not_eq_true', Bool.not_eq_false'] at hg3) | skip)
  all_goals try simp only [Act.put, List.setIfInBounds_toArray, List.set_cons_zero, List.set_cons_succ]
  all_goals first | (refine soft_pass rfl HS ?_) | (refine soft_read (v := ?_) rfl (fun W hW => ?_) ?_; rotate_left; (· go_simp; try with_reducible rfl))
  all_goals try simp only [Act.put, List.setIfInBounds_toArray, List.set_cons_zero, List.set_cons_succ]
  all_goals first | (refine soft_pass rfl HS ?_) | (refine soft_read (v := ?_) rfl (fun W hW => ?_) ?_; rotate_left; (· go_simp; try with_reducible rfl))
  all_goals try simp only [Act.put, List.setIfInBounds_toArray, List.set_cons_zero, List.set_cons_succ]
  all_goals first | (refine soft_pass rfl HS ?_) | (refine soft_read (v := ?_) rfl (fun W hW => ?_) ?_; rotate_left; (· go_simp; try with_reducible rfl))
  all_goals try simp only [Act.put, List.setIfInBounds_toArray, List.set_cons_zero, List.set_cons_succ]
  all_goals first | (refine soft_pass rfl HS ?_) | (refine soft_read (v := ?_) rfl (fun W hW => ?_) ?_; rotate_left; (· go_simp; try with_reducible rfl))
  all_goals try simp only [Act.put, List.setIfInBounds_toArray, List.set_cons_zero, List.set_cons_succ]
  all_goals first | (refine soft_pass rfl HS ?_; have hg8 := True.intro) | (refine soft_part (v := ?_) (b := ?_) rfl (fun W hW => ?_) ?_ (fun b hg8 => ?_); rotate_left; rotate_left; (· go_simp; try with_reducible rfl); (· with_reducible rfl); cases b; all_goals first | (exact Bool.noConfusion hg8) | (simp only [Bool.not_eq_true', Bool.not_eq_false'] at hg8) | skip)
  all_goals try simp only [Act.put, List.setIfInBounds_toArray, List.set_cons_zero, List.set_cons_succ]
  all_goals first | (refine soft_pass rfl HS ?_) | (refine soft_read (v := ?_) rfl (fun W hW => ?_) ?_; rotate_left; (· have A_KBR_0 := cell_later hW KBR_0; have A_KBR_1 := cell_later hW KBR_1; have A_KBW_0 := cell_later hW KBW_0; have A_KBW_1 := cell_later hW KBW_1; have A_KBP_0 := cell_later hW KBP_0; have A_KBP_1 := cell_later hW KBP_1; have A_KBO_0 := cell_later hW KBO_0; have A_KBO_1 := cell_later hW KBO_1; have A_KBZ_0 := cell_later hW KBZ_0; have A_KBZ_1 := cell_later hW KBZ_1; clear hW; go_simp; try with_reducible rfl))
  all_goals try simp only [Act.put, List.setIfInBounds_toArray, List.set_cons_zero, List.set_cons_succ]
  all_goals first | (refine soft_pass rfl HS ?_) | (refine soft_read (v := ?_) rfl (fun W hW => ?_) ?_; rotate_left; (· go_simp; try with_reducible rfl))
  all_goals try simp only [Act.put, List.setIfInBounds_toArray, List.set_cons_zero, List.set_cons_succ]
  all_goals first | (refine soft_pass rfl HS ?_) | (refine soft_read (v := ?_) rfl (fun W hW => ?_) ?_; rotate_left; (· have A_KBR_0 := cell_later hW KBR_0; have A_KBR_1 := cell_later hW KBR_1; have A_KBW_0 := cell_later hW KBW_0; have A_KBW_1 := cell_later hW KBW_1; have A_KBP_0 := cell_later hW KBP_0; have A_KBP_1 := cell_later hW KBP_1; have A_KBO_0 := cell_later hW KBO_0; have A_KBO_1 := cell_later hW KBO_1; have A_KBZ_0 := cell_later hW KBZ_0; have A_KBZ_1 := cell_later hW KBZ_1; clear hW; go_simp; try with_reducible rfl))
  all_goals try simp only [Act.put, List.setIfInBounds_toArray, List.set_cons_zero, List.set_cons_succ]
  all_goals first | (refine soft_pass rfl HS ?_) | (refine soft_read (v := ?_) rfl (fun W hW => ?_) ?_; rotate_left; (· go_simp; try with_reducible rfl))
  all_goals try simp only [Act.put, List.setIfInBounds_toArray, List.set_cons_zero, List.set_cons_succ]
  all_goals first | (refine soft_pass rfl HS ?_) | (refine soft_do rfl (fun K hK => ?_); go_simp; refine (implNeighborsOf_c (RO.out.below HS).rd (a := rx) (by omega)).mono ?_; rintro e wS1 ⟨v_, rfl, OS_, hbS⟩; obtain ⟨S11a, S11c, hv_, _⟩ := Rep.len_raw OS_.raw; obtain rfl : v_ = _ := (by simpa using hv_); clear hv_; have S11 := Lib.hid OS_; clear OS_; replace HS := HS.trans (hbS.mono HS.size); refine hK _ _ HS ?_; clear hK K hbS)
  all_goals try simp only [Act.put, List.setIfInBounds_toArray, List.set_cons_zero, List.set_cons_succ]
  all_goals first | (refine soft_pass rfl HS ?_) | (refine soft_do rfl (fun K hK => ?_); go_simp; refine (specNeighborsOf_c (RO.out.below HS).rd (a := rx) (by omega)).mono ?_; rintro e wS1 ⟨v_, rfl, OS_, hbS⟩; obtain ⟨S14a, S14c, hv_, _⟩ := Rep.len_raw OS_.raw; obtain rfl : v_ = _ := (by simpa using hv_); clear hv_; have S14 := Lib.hid OS_; clear OS_; replace S11 := Lib.hid (S11.out.below hbS); replace HS := HS.trans (hbS.mono HS.size); refine hK _ _ HS ?_; clear hK K hbS)
  all_goals try simp only [Act.put, List.setIfInBounds_toArray, List.set_cons_zero, List.set_cons_succ]
  all_goals first | (refine soft_pass rfl HS ?_) | (refine soft_do rfl (fun K hK => ?_); go_simp; refine (lawssameInts_c S11.out.raw S14.out.raw).mono ?_; rintro e wS1 ⟨he_, hbS⟩; have he2_ : e = .returned (.bool true) := he_.trans (by simp); subst he2_; clear he_; replace HS := HS.trans (hbS.mono HS.size); refine hK _ _ HS ?_; clear hK K hbS)
  all_goals try simp only [Act.put, List.setIfInBounds_toArray, List.set_cons_zero, List.set_cons_succ]
  all_goals first | (refine soft_pass rfl HS ?_) | (refine soft_read (v := ?_) rfl (fun W hW => ?_) ?_; rotate_left; (· go_simp; try with_reducible rfl))
  all_goals try simp only [Act.put, List.setIfInBounds_toArray, List.set_cons_zero, List.set_cons_succ]
  all_goals first | (refine soft_pass rfl HS ?_) | (refine soft_read (v := ?_) rfl (fun W hW => ?_) ?_; rotate_left; (· go_simp; try with_reducible rfl))
  all_goals try simp only [Act.put, List.setIfInBounds_toArray, List.set_cons_zero, List.set_cons_succ]
  all_goals first | (refine soft_pass rfl HS ?_; have hg18 := True.intro) | (refine soft_part (v := ?_) (b := ?_) rfl (fun W hW => ?_) ?_ (fun b hg18 => ?_); rotate_left; rotate_left; (· go_simp; try with_reducible rfl); (· with_reducible rfl); cases b; all_goals first | (exact Bool.noConfusion hg18) | (simp only [Bool.not_eq_true', Bool.not_eq_false'] at hg18) | skip)
  all_goals try simp only [Act.put, List.setIfInBounds_toArray, List.set_cons_zero, List.set_cons_succ]
  all_goals first | (refine soft_pass rfl HS ?_) | (refine soft_read (v := ?_) rfl (fun W hW => ?_) ?_; rotate_left; (· have A_KBR_0 := cell_later hW KBR_0; have A_KBR_1 := cell_later hW KBR_1; have A_KBW_0 := cell_later hW KBW_0; have A_KBW_1 := cell_later hW KBW_1; have A_KBP_0 := cell_later hW KBP_0; have A_KBP_1 := cell_later hW KBP_1; have A_KBO_0 := cell_later hW KBO_0; have A_KBO_1 := cell_later hW KBO_1; have A_KBZ_0 := cell_later hW KBZ_0; have A_KBZ_1 := cell_later hW KBZ_1; clear hW; go_simp; try with_reducible rfl))
  all_goals try simp only [Act.put, List.setIfInBounds_toArray, List.set_cons_zero, List.set_cons_succ]
  all_goals first | (refine soft_pass rfl HS ?_) | (refine soft_read (v := ?_) rfl (fun W hW => ?_) ?_; rotate_left; (· go_simp; try with_reducible rfl))
  all_goals try simp only [Act.put, List.setIfInBounds_toArray, List.set_cons_zero, List.set_cons_succ]
  all_goals first | (refine soft_pass rfl HS ?_) | (refine soft_read (v := ?_) rfl (fun W hW => ?_) ?_; rotate_left; (· go_simp; try with_reducible rfl))
  all_goals try simp only [Act.put, List.setIfInBounds_toArray, List.set_cons_zero, List.set_cons_succ]
  all_goals first | (refine soft_pass rfl HS ?_) | (refine soft_read (v := ?_) rfl (fun W hW => ?_) ?_; rotate_left; (· have A_KBR_0 := cell_later hW KBR_0; have A_KBR_1 := cell_later hW KBR_1; have A_KBW_0 := cell_later hW KBW_0; have A_KBW_1 := cell_later hW KBW_1; have A_KBP_0 := cell_later hW KBP_0; have A_KBP_1 := cell_later hW KBP_1; have A_KBO_0 := cell_later hW KBO_0; have A_KBO_1 := cell_later hW KBO_1; have A_KBZ_0 := cell_later hW KBZ_0; have A_KBZ_1 := cell_later hW KBZ_1; clear hW; go_simp; try with_reducible rfl))
  all_goals try simp only [Act.put, List.setIfInBounds_toArray, List.set_cons_zero, List.set_cons_succ]
  all_goals first | (refine soft_pass rfl HS ?_) | (refine soft_read (v := ?_) rfl (fun W hW => ?_) ?_; rotate_left; (· go_simp; try with_reducible rfl))
  all_goals try simp only [Act.put, List.setIfInBounds_toArray, List.set_cons_zero, List.set_cons_succ]
  all_goals first | (refine soft_pass rfl HS ?_) | (refine soft_read (v := ?_) rfl (fun W hW => ?_) ?_; rotate_left; (· go_simp; try with_reducible rfl))
  all_goals try simp only [Act.put, List.setIfInBounds_toArray, List.set_cons_zero, List.set_cons_succ]
  all_goals first | (refine soft_pass rfl HS ?_) | (refine soft_do rfl (fun K hK => ?_); go_simp; refine (implFaceTo_c (PO.out.below HS).rd (a := px) (b := py) (by omega) (by omega)).mono ?_; rintro e wS1 ⟨rfl, hbS⟩; replace HS := HS.trans (hbS.mono HS.size); refine hK _ _ HS ?_; clear hK K hbS)
  all_goals try simp only [Act.put, List.setIfInBounds_toArray, List.set_cons_zero, List.set_cons_succ]
  all_goals first | (refine soft_pass rfl HS ?_) | (refine soft_do rfl (fun K hK => ?_); go_simp; refine (specFaceTo_c (PO.out.below HS).rd (a := px) (b := py) (by omega) (by omega)).mono ?_; rintro e wS1 ⟨rfl, hbS⟩; replace HS := HS.trans (hbS.mono HS.size); refine hK _ _ HS ?_; clear hK K hbS)
  all_goals try simp only [Act.put, List.setIfInBounds_toArray, List.set_cons_zero, List.set_cons_succ]
  all_goals first | (refine soft_pass rfl HS ?_) | (refine soft_read (v := ?_) rfl (fun W hW => ?_) ?_; rotate_left; (· go_simp; try with_reducible rfl))
  all_goals try simp only [Act.put, List.setIfInBounds_toArray, List.set_cons_zero, List.set_cons_succ]
  all_goals first | (refine soft_pass rfl HS ?_) | (refine soft_read (v := ?_) rfl (fun W hW => ?_) ?_; rotate_left; (· go_simp; try with_reducible rfl))
  all_goals try simp only [Act.put, List.setIfInBounds_toArray, List.set_cons_zero, List.set_cons_succ]
  all_goals first | (refine soft_pass rfl HS ?_; have hg29 := True.intro) | (refine soft_part (v := ?_) (b := ?_) rfl (fun W hW => ?_) ?_ (fun b hg29 => ?_); rotate_left; rotate_left; (· go_simp; try with_reducible rfl); (· with_reducible rfl); cases b; all_goals first | (exact Bool.noConfusion hg29) | (simp only [Bool.not_eq_true', Bool.not_eq_false'] at hg29) | skip)
  all_goals try simp only [Act.put, List.setIfInBounds_toArray, List.set_cons_zero, List.set_cons_succ]
  all_goals first | (refine soft_pass rfl HS ?_) | (refine soft_read (v := ?_) rfl (fun W hW => ?_) ?_; rotate_left; (· have A_KBR_0 := cell_later hW KBR_0; have A_KBR_1 := cell_later hW KBR_1; have A_KBW_0 := cell_later hW KBW_0; have A_KBW_1 := cell_later hW KBW_1; have A_KBP_0 := cell_later hW KBP_0; have A_KBP_1 := cell_later hW KBP_1; have A_KBO_0 := cell_later hW KBO_0; have A_KBO_1 := cell_later hW KBO_1; have A_KBZ_0 := cell_later hW KBZ_0; have A_KBZ_1 := cell_later hW KBZ_1; clear hW; go_simp; try with_reducible rfl))
  all_goals try simp only [Act.put, List.setIfInBounds_toArray, List.set_cons_zero, List.set_cons_succ]
  all_goals first | (refine soft_pass rfl HS ?_) | (refine soft_read (v := ?_) rfl (fun W hW => ?_) ?_; rotate_left; (· go_simp; try with_reducible rfl))
  all_goals try simp only [Act.put, List.setIfInBounds_toArray, List.set_cons_zero, List.set_cons_succ]
  all_goals first | (refine soft_pass rfl HS ?_) | (refine soft_read (v := ?_) rfl (fun W hW => ?_) ?_; rotate_left; (· go_simp; try with_reducible rfl))
  all_goals try simp only [Act.put, List.setIfInBounds_toArray, List.set_cons_zero, List.set_cons_succ]
  all_goals first | (refine soft_pass rfl HS ?_) | (refine soft_read (v := ?_) rfl (fun W hW => ?_) ?_; rotate_left; (· have A_KBR_0 := cell_later hW KBR_0; have A_KBR_1 := cell_later hW KBR_1; have A_KBW_0 := cell_later hW KBW_0; have A_KBW_1 := cell_later hW KBW_1; have A_KBP_0 := cell_later hW KBP_0; have A_KBP_1 := cell_later hW KBP_1; have A_KBO_0 := cell_later hW KBO_0; have A_KBO_1 := cell_later hW KBO_1; have A_KBZ_0 := cell_later hW KBZ_0; have A_KBZ_1 := cell_later hW KBZ_1; clear hW; go_simp; try with_reducible rfl))
  all_goals try simp only [Act.put, List.setIfInBounds_toArray, List.set_cons_zero, List.set_cons_succ]
  all_goals first | (refine soft_pass rfl HS ?_) | (refine soft_read (v := ?_) rfl (fun W hW => ?_) ?_; rotate_left; (· go_simp; try with_reducible rfl))
  all_goals try simp only [Act.put, List.setIfInBounds_toArray, List.set_cons_zero, List.set_cons_succ]
  all_goals first | (refine soft_pass rfl HS ?_) | (refine soft_read (v := ?_) rfl (fun W hW => ?_) ?_; rotate_left; (· go_simp; try with_reducible rfl))
  all_goals try simp only [Act.put, List.setIfInBounds_toArray, List.set_cons_zero, List.set_cons_succ]
  all_goals first | (refine soft_pass rfl HS ?_) | (refine soft_do rfl (fun K hK => ?_); go_simp; refine (implLinkIndex_c (PO.out.below HS).rd (a := px) (b := py) (by omega) (by omega)).mono ?_; rintro e wS1 ⟨rfl, hbS⟩; replace HS := HS.trans (hbS.mono HS.size); refine hK _ _ HS ?_; clear hK K hbS)
  all_goals try simp only [Act.put, List.setIfInBounds_toArray, List.set_cons_zero, List.set_cons_succ]
  all_goals first | (refine soft_pass rfl HS ?_) | (refine soft_do rfl (fun K hK => ?_); go_simp; refine (specLinkIndex_c (PO.out.below HS).rd (a := px) (b := py) (by omega) (by omega)).mono ?_; rintro e wS1 ⟨rfl, hbS⟩; replace HS := HS.trans (hbS.mono HS.size); refine hK _ _ HS ?_; clear hK K hbS)
  all_goals try simp only [Act.put, List.setIfInBounds_toArray, List.set_cons_zero, List.set_cons_succ]
  all_goals first | (refine soft_pass rfl HS ?_) | (refine soft_read (v := ?_) rfl (fun W hW => ?_) ?_; rotate_left; (· go_simp; try with_reducible rfl))
  all_goals try simp only [Act.put, List.setIfInBounds_toArray, List.set_cons_zero, List.set_cons_succ]
  all_goals first | (refine soft_pass rfl HS ?_) | (refine soft_read (v := ?_) rfl (fun W hW => ?_) ?_; rotate_left; (· go_simp; try with_reducible rfl))
  all_goals try simp only [Act.put, List.setIfInBounds_toArray, List.set_cons_zero, List.set_cons_succ]
  all_goals first | (refine soft_pass rfl HS ?_; have hg40 := True.intro) | (refine soft_part (v := ?_) (b := ?_) rfl (fun W hW => ?_) ?_ (fun b hg40 => ?_); rotate_left; rotate_left; (· go_simp; try with_reducible rfl); (· with_reducible rfl); cases b; all_goals first | (exact Bool.noConfusion hg40) | (simp only [Bool.not_eq_true', Bool.not_eq_false'] at hg40) | skip)
  all_goals try simp only [Act.put, List.setIfInBounds_toArray, List.set_cons_zero, List.set_cons_succ]
  all_goals first | (refine soft_pass rfl HS ?_) | (refine soft_read (v := ?_) rfl (fun W hW => ?_) ?_; rotate_left; (· go_simp; try with_reducible rfl))
  all_goals try simp only [Act.put, List.setIfInBounds_toArray, List.set_cons_zero, List.set_cons_succ]
  all_goals first | (refine soft_pass rfl HS ?_) | (refine soft_read (v := ?_) rfl (fun W hW => ?_) ?_; rotate_left; (· have A_KBR_0 := cell_later hW KBR_0; have A_KBR_1 := cell_later hW KBR_1; have A_KBW_0 := cell_later hW KBW_0; have A_KBW_1 := cell_later hW KBW_1; have A_KBP_0 := cell_later hW KBP_0; have A_KBP_1 := cell_later hW KBP_1; have A_KBO_0 := cell_later hW KBO_0; have A_KBO_1 := cell_later hW KBO_1; have A_KBZ_0 := cell_later hW KBZ_0; have A_KBZ_1 := cell_later hW KBZ_1; clear hW; go_simp; try with_reducible rfl))
  all_goals try simp only [Act.put, List.setIfInBounds_toArray, List.set_cons_zero, List.set_cons_succ]
  all_goals first | (refine soft_pass rfl HS ?_) | (refine soft_read (v := ?_) rfl (fun W hW => ?_) ?_; rotate_left; (· have A_KBR_0 := cell_later hW KBR_0; have A_KBR_1 := cell_later hW KBR_1; have A_KBW_0 := cell_later hW KBW_0; have A_KBW_1 := cell_later hW KBW_1; have A_KBP_0 := cell_later hW KBP_0; have A_KBP_1 := cell_later hW KBP_1; have A_KBO_0 := cell_later hW KBO_0; have A_KBO_1 := cell_later hW KBO_1; have A_KBZ_0 := cell_later hW KBZ_0; have A_KBZ_1 := cell_later hW KBZ_1; clear hW; go_simp; try with_reducible rfl))
  all_goals try simp only [Act.put, List.setIfInBounds_toArray, List.set_cons_zero, List.set_cons_succ]
  all_goals first | (refine soft_pass rfl HS ?_) | (refine soft_read (v := ?_) rfl (fun W hW => ?_) ?_; rotate_left; (· go_simp; try with_reducible rfl))
  all_goals try simp only [Act.put, List.setIfInBounds_toArray, List.set_cons_zero, List.set_cons_succ]
  all_goals first | (refine soft_pass rfl HS ?_) | (refine soft_read (v := ?_) rfl (fun W hW => ?_) ?_; rotate_left; (· go_simp; try with_reducible rfl))
  all_goals try simp only [Act.put, List.setIfInBounds_toArray, List.set_cons_zero, List.set_cons_succ]
  all_goals first | (refine soft_pass rfl HS ?_) | (refine soft_do rfl (fun K hK => ?_); go_simp; refine (specRemoveFailed_c (WO.out.below HS).rd (FO.out.below HS).rd (d := wy) (by omega)).mono ?_; rintro e wS1 ⟨yc, rfl, hO, hbS⟩; rw [HZ.out] at hO; obtain ⟨ya, ycp, rfl⟩ := topo_form hO.raw; have S46 := Lib.hid hO; clear hO; have hfd : ∀ W : World, Sem.run Tryd.prog (Instr.field 26 (.agg #[.int .i64 Z.1, .slice ya Z.2.length ycp]) 1) W = .ok (.slice ya Z.2.length ycp) W := fun W => (by kernel_rfl); replace HS := HS.trans (hbS.mono HS.size); refine hK _ _ HS ?_; clear hK K hbS)
  all_goals try simp only [Act.put, List.setIfInBounds_toArray, List.set_cons_zero, List.set_cons_succ]
  all_goals first | (refine soft_pass rfl HS ?_) | (refine soft_read (v := .slice ya Z.2.length ycp) rfl (fun W hW => ?_) ?_; (· go_simp; (try simp only [hfd]); try rfl))
  all_goals try simp only [Act.put, List.setIfInBounds_toArray, List.set_cons_zero, List.set_cons_succ]
  all_goals first | (refine soft_pass rfl HS ?_) | (refine soft_do rfl (fun K hK => ?_); go_simp; refine (lawssamePairs_t (topo_ls (ZO.out.below HS).raw) (topo_ls S46.out.raw)).mono ?_; rintro e wS1 ⟨he_, hbS⟩; have he2_ : e = .returned (.bool true) := he_.trans (by simp); subst he2_; clear he_; replace HS := HS.trans (hbS.mono HS.size); refine hK _ _ HS ?_; clear hK K hbS)
  all_goals try simp only [Act.put, List.setIfInBounds_toArray, List.set_cons_zero, List.set_cons_succ]
  all_goals first | (refine soft_pass rfl HS ?_) | (refine soft_read (v := ?_) rfl (fun W hW => ?_) ?_; rotate_left; (· go_simp; try with_reducible rfl))
  all_goals try simp only [Act.put, List.setIfInBounds_toArray, List.set_cons_zero, List.set_cons_succ]
  all_goals first | (refine soft_pass rfl HS ?_) | (refine soft_read (v := ?_) rfl (fun W hW => ?_) ?_; rotate_left; (· go_simp; try with_reducible rfl))
  all_goals try simp only [Act.put, List.setIfInBounds_toArray, List.set_cons_zero, List.set_cons_succ]
  all_goals first | (refine soft_pass rfl HS ?_; have hg51 := True.intro) | (refine soft_part (v := ?_) (b := ?_) rfl (fun W hW => ?_) ?_ (fun b hg51 => ?_); rotate_left; rotate_left; (· go_simp; try with_reducible rfl); (· with_reducible rfl); cases b; all_goals first | (exact Bool.noConfusion hg51) | (simp only [Bool.not_eq_true', Bool.not_eq_false'] at hg51) | skip)
  all_goals try simp only [Act.put, List.setIfInBounds_toArray, List.set_cons_zero, List.set_cons_succ]
  all_goals first | (refine soft_pass rfl HS ?_) | (refine soft_read (v := ?_) rfl (fun W hW => ?_) ?_; rotate_left; (· have A_KBR_0 := cell_later hW KBR_0; have A_KBR_1 := cell_later hW KBR_1; have A_KBW_0 := cell_later hW KBW_0; have A_KBW_1 := cell_later hW KBW_1; have A_KBP_0 := cell_later hW KBP_0; have A_KBP_1 := cell_later hW KBP_1; have A_KBO_0 := cell_later hW KBO_0; have A_KBO_1 := cell_later hW KBO_1; have A_KBZ_0 := cell_later hW KBZ_0; have A_KBZ_1 := cell_later hW KBZ_1; clear hW; go_simp; try with_reducible rfl))
  all_goals try simp only [Act.put, List.setIfInBounds_toArray, List.set_cons_zero, List.set_cons_succ]
  all_goals first | (refine soft_pass rfl HS ?_) | (refine soft_read (v := ?_) rfl (fun W hW => ?_) ?_; rotate_left; (· have A_KBR_0 := cell_later hW KBR_0; have A_KBR_1 := cell_later hW KBR_1; have A_KBW_0 := cell_later hW KBW_0; have A_KBW_1 := cell_later hW KBW_1; have A_KBP_0 := cell_later hW KBP_0; have A_KBP_1 := cell_later hW KBP_1; have A_KBO_0 := cell_later hW KBO_0; have A_KBO_1 := cell_later hW KBO_1; have A_KBZ_0 := cell_later hW KBZ_0; have A_KBZ_1 := cell_later hW KBZ_1; clear hW; go_simp; try with_reducible rfl))
  all_goals try simp only [Act.put, List.setIfInBounds_toArray, List.set_cons_zero, List.set_cons_succ]
  all_goals first | (refine soft_pass rfl HS ?_) | (refine soft_do rfl (fun K hK => ?_); go_simp; refine (implValidTopology_c (OO.out.below HS).rd).mono ?_; rintro e wS1 ⟨rfl, hbS⟩; replace HS := HS.trans (hbS.mono HS.size); refine hK _ _ HS ?_; clear hK K hbS)
  all_goals try simp only [Act.put, List.setIfInBounds_toArray, List.set_cons_zero, List.set_cons_succ]
  all_goals first | (refine soft_pass rfl HS ?_) | (refine soft_do rfl (fun K hK => ?_); go_simp; refine (specValidTopology_c (OO.out.below HS).rd).mono ?_; rintro e wS1 ⟨rfl, hbS⟩; replace HS := HS.trans (hbS.mono HS.size); refine hK _ _ HS ?_; clear hK K hbS)
  all_goals try simp only [Act.put, List.setIfInBounds_toArray, List.set_cons_zero, List.set_cons_succ]
  all_goals first | (refine soft_pass rfl HS ?_) | (refine soft_read (v := ?_) rfl (fun W hW => ?_) ?_; rotate_left; (· go_simp; try with_reducible rfl))
  all_goals try simp only [Act.put, List.setIfInBounds_toArray, List.set_cons_zero, List.set_cons_succ]
  all_goals first | (refine soft_pass rfl HS ?_) | (refine soft_read (v := ?_) rfl (fun W hW => ?_) ?_; rotate_left; (· go_simp; try with_reducible rfl))
  all_goals try simp only [Act.put, List.setIfInBounds_toArray, List.set_cons_zero, List.set_cons_succ]
  all_goals first | (refine soft_pass rfl HS ?_; have hg58 := True.intro) | (refine soft_part (v := ?_) (b := ?_) rfl (fun W hW => ?_) ?_ (fun b hg58 => ?_); rotate_left; rotate_left; (· go_simp; try with_reducible rfl); (· with_reducible rfl); cases b; all_goals first | (exact Bool.noConfusion hg58) | (simp only [Bool.not_eq_true', Bool.not_eq_false'] at hg58) | skip)
  all_goals try simp only [Act.put, List.setIfInBounds_toArray, List.set_cons_zero, List.set_cons_succ]
  all_goals first | (refine soft_pass rfl HS ?_) | (refine soft_read (v := ?_) rfl (fun W hW => ?_) ?_; rotate_left; (· have A_KBR_0 := cell_later hW KBR_0; have A_KBR_1 := cell_later hW KBR_1; have A_KBW_0 := cell_later hW KBW_0; have A_KBW_1 := cell_later hW KBW_1; have A_KBP_0 := cell_later hW KBP_0; have A_KBP_1 := cell_later hW KBP_1; have A_KBO_0 := cell_later hW KBO_0; have A_KBO_1 := cell_later hW KBO_1; have A_KBZ_0 := cell_later hW KBZ_0; have A_KBZ_1 := cell_later hW KBZ_1; clear hW; go_simp; try with_reducible rfl))
  all_goals try simp only [Act.put, List.setIfInBounds_toArray, List.set_cons_zero, List.set_cons_succ]
  all_goals first | (refine soft_pass rfl HS ?_) | (refine soft_read (v := ?_) rfl (fun W hW => ?_) ?_; rotate_left; (· have A_KBR_0 := cell_later hW KBR_0; have A_KBR_1 := cell_later hW KBR_1; have A_KBW_0 := cell_later hW KBW_0; have A_KBW_1 := cell_later hW KBW_1; have A_KBP_0 := cell_later hW KBP_0; have A_KBP_1 := cell_later hW KBP_1; have A_KBO_0 := cell_later hW KBO_0; have A_KBO_1 := cell_later hW KBO_1; have A_KBZ_0 := cell_later hW KBZ_0; have A_KBZ_1 := cell_later hW KBZ_1; clear hW; go_simp; try with_reducible rfl))
  all_goals try simp only [Act.put, List.setIfInBounds_toArray, List.set_cons_zero, List.set_cons_succ]
  all_goals first | (refine soft_pass rfl HS ?_) | (refine soft_do rfl (fun K hK => ?_); go_simp; refine (implFormatTopology_c (OO.out.below HS).rd (HT.out.below HS)).mono ?_; rintro e wS1 ⟨rfl, hbS⟩; replace HS := HS.trans (hbS.mono HS.size); refine hK _ _ HS ?_; clear hK K hbS)
  all_goals try simp only [Act.put, List.setIfInBounds_toArray, List.set_cons_zero, List.set_cons_succ]
  all_goals first | (refine soft_pass rfl HS ?_) | (refine soft_do rfl (fun K hK => ?_); go_simp; refine (specFormatTopology_c (OO.out.below HS).rd).mono ?_; rintro e wS1 ⟨rfl, hbS⟩; replace HS := HS.trans (hbS.mono HS.size); refine hK _ _ HS ?_; clear hK K hbS)
  all_goals try simp only [Act.put, List.setIfInBounds_toArray, List.set_cons_zero, List.set_cons_succ]
  all_goals first | (refine soft_pass rfl HS ?_) | (refine soft_read (v := ?_) rfl (fun W hW => ?_) ?_; rotate_left; (· go_simp; try with_reducible rfl))
  all_goals try simp only [Act.put, List.setIfInBounds_toArray, List.set_cons_zero, List.set_cons_succ]
  all_goals first | (refine soft_pass rfl HS ?_) | (refine soft_read (v := ?_) rfl (fun W hW => ?_) ?_; rotate_left; (· go_simp; try with_reducible rfl))
  all_goals try simp only [Act.put, List.setIfInBounds_toArray, List.set_cons_zero, List.set_cons_succ]
  all_goals refine soft_nil ?_
  replace BG := keepBox BG HS
  replace BR := keepBox BR HS
  replace BW := keepBox BW HS
  replace BP := keepBox BP HS
  replace BO := keepBox BO HS
  replace BZ := keepBox BZ HS
  replace HT := Lib.hid (HT.out.below HS)
  replace GO := Lib.hid (GO.out.below HS)
  replace RO := Lib.hid (RO.out.below HS)
  replace WO := Lib.hid (WO.out.below HS)
  replace FO := Lib.hid (FO.out.below HS)
  replace PO := Lib.hid (PO.out.below HS)
  replace OO := Lib.hid (OO.out.below HS)
  replace ZO := Lib.hid (ZO.out.below HS)
  replace EE := EE.trans (HS.mono EE.size)
  clear HS
  try clear S11
  try clear S14
  try clear S46
  try clear hfd
  clear RO BR PO BP OO BO FO HT
  go_wp2
  go_loopw [19] (fun i wr => ∃ k : Nat, i = .int .i64 k ∧ Below wS1.heap.size wS1 wr) (fun i _ => 6 - (intOf i).toNat)
  case atStart => exact ⟨0, rfl, Below.refl _ _⟩
  case round =>
    obtain ⟨k, rfl, hbel⟩ := hrel
    have hk0 := Int.natCast_nonneg k
    replace BG := keepBox BG hbel
    replace BW := keepBox BW hbel
    replace BZ := keepBox BZ hbel
    replace GO := Lib.hid (GO.out.below hbel)
    replace WO := Lib.hid (WO.out.below hbel)
    replace ZO := Lib.hid (ZO.out.below hbel)
    replace EE := EE.trans (hbel.mono EE.size)
    have LB := Lib.hid (show From wS1 wr from hbel)
    clear hbel
    by_cases hlt : (k : Int) < gn
    · have KBG_0 : wr.cell? ⟨w2.heap.size, 0, none⟩ = some (.int .i64 gn) := boxCell BG rfl
      have KBG_1 : wr.cell? ⟨w2.heap.size, 1, none⟩ = some (.slice ga gl.length gc) := boxCell BG rfl
      skip
      go_wp2_with fail
      refine (implNeighborsOf_c GO.out.rd (a := (k : Int)) (by omega)).mono ?_
      rintro e w16 ⟨v_, rfl, hO, hb⟩
      have z_w16 := hb.size
      replace BG := keepBox BG hb
      replace BW := keepBox BW hb
      replace BZ := keepBox BZ hb
      replace GO := Lib.hid (GO.out.below hb)
      replace WO := Lib.hid (WO.out.below hb)
      replace ZO := Lib.hid (ZO.out.below hb)
      replace LB := Lib.hid (LB.out.below hb)
      replace EE := EE.trans (hb.mono EE.size)
      clear KBG_0 KBG_1
      clear hb
      have NO := Lib.hid (hO)
      clear hO
      have HFB := Lib.hid (fun i (h : i < (nbrs (gn, gl) k).length) => face_back (x := (gn, gl)) (show 0 < gn by omega) (show gn ≤ 6 by omega) (k := k) hlt (i := i) h)
      have HNM := Lib.hid (fun y (h : y ∈ nbrs (gn, gl) k) => nbrs_mem h)
      have hnl6 := nbrs_len (gn, gl) (k : Int)
      obtain ⟨na, nc, hv_, _⟩ := Rep.len_raw NO.out.raw; obtain rfl : v_ = _ := by simpa using hv_
      clear hv_
      generalize nbrs (gn, gl) (k : Int) = N at *
      have HFB2 := HFB.out
      have HNM2 := HNM.out
      clear HFB HNM
      have HFB := Lib.hid HFB2
      have HNM := Lib.hid HNM2
      clear HFB2 HNM2
      go_wp2
      go_loopw [21] (fun i wq => ∃ j : Nat, i = .int .i64 j ∧ Below w16.heap.size w16 wq) (fun i _ => N.length - (intOf i).toNat)
      case atStart => exact ⟨0, rfl, Below.refl _ _⟩
      case round =>
        obtain ⟨j, rfl, hbq⟩ := hrel
        have hj0 := Int.natCast_nonneg j
        replace BG := keepBox BG hbq
        replace BW := keepBox BW hbq
        replace BZ := keepBox BZ hbq
        replace GO := Lib.hid (GO.out.below hbq)
        replace WO := Lib.hid (WO.out.below hbq)
        replace ZO := Lib.hid (ZO.out.below hbq)
        replace LB := Lib.hid (LB.out.below hbq)
        replace NO := Lib.hid (NO.out.below hbq)
        replace EE := EE.trans (hbq.mono EE.size)
        have LC := Lib.hid (show From w16 wr from hbq)
        clear hbq
        by_cases hlj : j < N.length
        · obtain ⟨f1, f2, f3, f4, f5⟩ := HFB.out j hlj
          have hmem := HNM.out _ (List.getElem_mem hlj)
          obtain ⟨nb, no, rfl, c0, hcr, AC0⟩ := Rep.get1 NO.out.raw (i := j) hlj rfl
          obtain ⟨e0, hr0⟩ := Rep.int_raw hcr
          obtain rfl : c0 = _ := by simpa using e0
          clear e0 hcr
          generalize N[j] = far at *
          generalize hbk : faceTo (gn, gl) far (k : Int) = back at *
          have hbr := faceTo_range (x := (gn, gl)) (a := far) (b := (k : Int))
          rw [hbk] at hbr
          clear hbk
          have hljI : (j : Int) < N.length := by omega
          have HF := Lib.hid (And.intro f1 (And.intro f2 (And.intro f3 (And.intro f4 f5))))
          clear f1 f2 f3 f4 f5
          have KBG_0 : wr.cell? ⟨w2.heap.size, 0, none⟩ = some (.int .i64 gn) := boxCell BG rfl
          have KBG_1 : wr.cell? ⟨w2.heap.size, 1, none⟩ = some (.slice ga gl.length gc) := boxCell BG rfl
          have hwj : IntKind.i64.wrap ((j : Int) + 1) = j + 1 := IntWalk.i64_in _ (by omega)
          go_wp2_with fail
          refine (implRemoteEnd_c GO.out.rd (a := (k : Int)) (s := (j : Int) + 1) (by omega) (by omega)).mono ?_
          rintro e w17 ⟨he_, hb⟩
          have z_w17 := hb.size
          replace BG := keepBox BG hb
          replace BW := keepBox BW hb
          replace BZ := keepBox BZ hb
          replace AC0 := cell_later hb AC0
          replace GO := Lib.hid (GO.out.below hb)
          replace WO := Lib.hid (WO.out.below hb)
          replace ZO := Lib.hid (ZO.out.below hb)
          replace LB := Lib.hid (LB.out.below hb)
          replace NO := Lib.hid (NO.out.below hb)
          replace LC := Lib.hid (LC.out.below hb)
          replace EE := EE.trans (hb.mono EE.size)
          clear KBG_0 KBG_1
          clear hb
          rw [HF.out.1, HF.out.2.1] at he_
          subst he_
          have KBG_0 : w17.cell? ⟨w2.heap.size, 0, none⟩ = some (.int .i64 gn) := boxCell BG rfl
          have KBG_1 : w17.cell? ⟨w2.heap.size, 1, none⟩ = some (.slice ga gl.length gc) := boxCell BG rfl
          go_wp2_with fail
          refine (implRemoteEnd_c GO.out.rd (a := far) (s := back) (by omega) (by omega)).mono ?_
          rintro e w18 ⟨he_, hb⟩
          have z_w18 := hb.size
          replace BG := keepBox BG hb
          replace BW := keepBox BW hb
          replace BZ := keepBox BZ hb
          replace AC0 := cell_later hb AC0
          replace GO := Lib.hid (GO.out.below hb)
          replace WO := Lib.hid (WO.out.below hb)
          replace ZO := Lib.hid (ZO.out.below hb)
          replace LB := Lib.hid (LB.out.below hb)
          replace NO := Lib.hid (NO.out.below hb)
          replace LC := Lib.hid (LC.out.below hb)
          replace EE := EE.trans (hb.mono EE.size)
          clear KBG_0 KBG_1
          clear hb
          rw [HF.out.2.2.1, HF.out.2.2.2.1] at he_
          subst he_
          go_upto_region 22 with fail
          have KBG_0 : w18.cell? ⟨w2.heap.size, 0, none⟩ = some (.int .i64 gn) := boxCell BG rfl
          have KBG_1 : w18.cell? ⟨w2.heap.size, 1, none⟩ = some (.slice ga gl.length gc) := boxCell BG rfl
          refine wp_region_softP (fun W => Below w18.heap.size w18 W) [(0, true), (1, true), (2, true), (3, true), (4, true), (5, true), (6, true), (7, true), (8, true), (9, true), (10, true), (11, true), (12, true), (13, true), (14, true), (15, true), (16, true), (17, true), (18, true), (19, true), (20, true), (22, true), (23, true), (21, false), (24, true), (25, true), (26, true), (27, true), (28, true), (29, true), (31, true), (32, true), (33, true), (30, false), (34, false), (35, true), (36, true)] (by kernel_rfl) (softP_ok (by kernel_rfl)) (fun c a d v w h => by cases d <;> exact h) ((Below.refl _ _).drew) ?_
          intro wS HS
          simp only [pickOps, List.getElem?_cons_succ, List.getElem?_cons_zero, List.map_cons, List.map_nil]
          all_goals first | (refine soft_pass rfl HS ?_) | (refine soft_read (v := ?_) rfl (fun W hW => ?_) ?_; rotate_left; (· go_simp; try with_reducible rfl))
          all_goals try simp only [Act.put, List.setIfInBounds_toArray, List.set_cons_zero, List.set_cons_succ]
          all_goals first | (refine soft_pass rfl HS ?_) | (refine soft_read (v := ?_) rfl (fun W hW => ?_) ?_; rotate_left; (· go_simp; try with_reducible rfl))
          all_goals try simp only [Act.put, List.setIfInBounds_toArray, List.set_cons_zero, List.set_cons_succ]
          all_goals first | (refine soft_pass rfl HS ?_) | (refine soft_read (v := ?_) rfl (fun W hW => ?_) ?_; rotate_left; (· go_simp; try with_reducible rfl))
          all_goals try simp only [Act.put, List.setIfInBounds_toArray, List.set_cons_zero, List.set_cons_succ]
          all_goals first | (refine soft_pass rfl HS ?_) | (refine soft_read (v := ?_) rfl (fun W hW => ?_) ?_; rotate_left; (· go_simp; try with_reducible rfl))
          all_goals try simp only [Act.put, List.setIfInBounds_toArray, List.set_cons_zero, List.set_cons_succ]
          all_goals first | (refine soft_pass rfl HS ?_) | (refine soft_read (v := ?_) rfl (fun W hW => ?_) ?_; rotate_left; (· have A_KBG_0 := cell_later hW KBG_0; have A_KBG_1 := cell_later hW KBG_1; have A_AC0 := cell_later hW AC0; clear hW; go_simp; try with_reducible rfl))
          all_goals try simp only [Act.put, List.setIfInBounds_toArray, List.set_cons_zero, List.set_cons_succ]
          all_goals first | (refine soft_pass rfl HS ?_) | (refine soft_read (v := ?_) rfl (fun W hW => ?_) ?_; rotate_left; (· go_simp; try with_reducible rfl))
          all_goals try simp only [Act.put, List.setIfInBounds_toArray, List.set_cons_zero, List.set_cons_succ]
          all_goals first | (refine soft_pass rfl HS ?_; have hg6 := True.intro) | (refine soft_part (v := ?_) (b := ?_) rfl (fun W hW => ?_) ?_ (fun b hg6 => ?_); rotate_left; rotate_left; (· go_simp; try with_reducible rfl); (· with_reducible rfl); cases b; all_goals first | (exact Bool.noConfusion hg6) | (simp only [Bool.not_eq_true', Bool.not_eq_false'] at hg6) | skip)
          all_goals try simp only [Act.put, List.setIfInBounds_toArray, List.set_cons_zero, List.set_cons_succ]
          all_goals first | (refine soft_pass rfl HS ?_) | (refine soft_read (v := ?_) rfl (fun W hW => ?_) ?_; rotate_left; (· go_simp; try with_reducible rfl))
          all_goals try simp only [Act.put, List.setIfInBounds_toArray, List.set_cons_zero, List.set_cons_succ]
          all_goals first | (refine soft_pass rfl HS ?_) | (refine soft_read (v := ?_) rfl (fun W hW => ?_) ?_; rotate_left; (· go_simp; try with_reducible rfl))
          all_goals try simp only [Act.put, List.setIfInBounds_toArray, List.set_cons_zero, List.set_cons_succ]
          all_goals first | (refine soft_pass rfl HS ?_) | (refine soft_read (v := ?_) rfl (fun W hW => ?_) ?_; rotate_left; (· go_simp; try with_reducible rfl))
          all_goals try simp only [Act.put, List.setIfInBounds_toArray, List.set_cons_zero, List.set_cons_succ]
          all_goals first | (refine soft_pass rfl HS ?_) | (refine soft_read (v := ?_) rfl (fun W hW => ?_) ?_; rotate_left; (· go_simp; try with_reducible rfl))
          all_goals try simp only [Act.put, List.setIfInBounds_toArray, List.set_cons_zero, List.set_cons_succ]
          all_goals first | (refine soft_pass rfl HS ?_; have hg11 := True.intro) | (refine soft_part (v := ?_) (b := ?_) rfl (fun W hW => ?_) ?_ (fun b hg11 => ?_); rotate_left; rotate_left; (· go_simp; try with_reducible rfl); (· with_reducible rfl); cases b; all_goals first | (exact Bool.noConfusion hg11) | (simp only [Bool.not_eq_true', Bool.not_eq_false'] at hg11) | skip)
          all_goals try simp only [Act.put, List.setIfInBounds_toArray, List.set_cons_zero, List.set_cons_succ]
          all_goals first | (refine soft_pass rfl HS ?_) | (refine soft_read (v := ?_) rfl (fun W hW => ?_) ?_; rotate_left; (· go_simp; try with_reducible rfl))
          all_goals try simp only [Act.put, List.setIfInBounds_toArray, List.set_cons_zero, List.set_cons_succ]
          all_goals first | (refine soft_pass rfl HS ?_) | (refine soft_read (v := ?_) rfl (fun W hW => ?_) ?_; rotate_left; (· go_simp; try with_reducible rfl))
          all_goals try simp only [Act.put, List.setIfInBounds_toArray, List.set_cons_zero, List.set_cons_succ]
          all_goals first | (refine soft_pass rfl HS ?_) | (refine soft_read (v := ?_) rfl (fun W hW => ?_) ?_; rotate_left; (· go_simp; try with_reducible rfl))
          all_goals try simp only [Act.put, List.setIfInBounds_toArray, List.set_cons_zero, List.set_cons_succ]
          all_goals first | (refine soft_pass rfl HS ?_) | (refine soft_read (v := ?_) rfl (fun W hW => ?_) ?_; rotate_left; (· go_simp; try with_reducible rfl))
          all_goals try simp only [Act.put, List.setIfInBounds_toArray, List.set_cons_zero, List.set_cons_succ]
          all_goals first | (refine soft_pass rfl HS ?_) | (refine soft_read (v := ?_) rfl (fun W hW => ?_) ?_; rotate_left; (· go_simp; try with_reducible rfl))
          all_goals try simp only [Act.put, List.setIfInBounds_toArray, List.set_cons_zero, List.set_cons_succ]
          all_goals first | (refine soft_pass rfl HS ?_; have hg17 := True.intro) | (refine soft_part (v := ?_) (b := ?_) rfl (fun W hW => ?_) ?_ (fun b hg17 => ?_); rotate_left; rotate_left; (· go_simp; try with_reducible rfl); (· with_reducible rfl); cases b; all_goals first | (exact Bool.noConfusion hg17) | (simp only [Bool.not_eq_true', Bool.not_eq_false'] at hg17) | skip)
          all_goals try simp only [Act.put, List.setIfInBounds_toArray, List.set_cons_zero, List.set_cons_succ]
          all_goals first | (refine soft_pass rfl HS ?_) | (refine soft_read (v := ?_) rfl (fun W hW => ?_) ?_; rotate_left; (· have A_KBG_0 := cell_later hW KBG_0; have A_KBG_1 := cell_later hW KBG_1; have A_AC0 := cell_later hW AC0; clear hW; go_simp; try with_reducible rfl))
          all_goals try simp only [Act.put, List.setIfInBounds_toArray, List.set_cons_zero, List.set_cons_succ]
          all_goals first | (refine soft_pass rfl HS ?_) | (refine soft_read (v := ?_) rfl (fun W hW => ?_) ?_; rotate_left; (· go_simp; try with_reducible rfl))
          all_goals try simp only [Act.put, List.setIfInBounds_toArray, List.set_cons_zero, List.set_cons_succ]
          all_goals first | (refine soft_pass rfl HS ?_) | (refine soft_read (v := ?_) rfl (fun W hW => ?_) ?_; rotate_left; (· go_simp; try with_reducible rfl))
          all_goals try simp only [Act.put, List.setIfInBounds_toArray, List.set_cons_zero, List.set_cons_succ]
          all_goals first | (refine soft_pass rfl HS ?_) | (refine soft_read (v := ?_) rfl (fun W hW => ?_) ?_; rotate_left; (· go_simp; try with_reducible rfl))
          all_goals try simp only [Act.put, List.setIfInBounds_toArray, List.set_cons_zero, List.set_cons_succ]
          all_goals first | (refine soft_pass rfl HS ?_) | (refine soft_read (v := ?_) rfl (fun W hW => ?_) ?_; rotate_left; (· go_simp; try with_reducible rfl))
          all_goals try simp only [Act.put, List.setIfInBounds_toArray, List.set_cons_zero, List.set_cons_succ]
          all_goals first | (refine soft_pass rfl HS ?_) | (refine soft_do rfl (fun K hK => ?_); go_simp; refine (implFaceTo_c (GO.out.below HS).rd (a := (k : Int)) (b := far) (by omega) (by omega)).mono ?_; rintro e wS1 ⟨he_, hbS⟩; have he2_ : e = .returned (.int .i64 ((j : Int) + 1)) := he_.trans (by rw [HF.out.2.2.2.2]); subst he2_; clear he_; replace HS := HS.trans (hbS.mono HS.size); refine hK _ _ HS ?_; clear hK K hbS)
          all_goals try simp only [Act.put, List.setIfInBounds_toArray, List.set_cons_zero, List.set_cons_succ]
          all_goals first | (refine soft_pass rfl HS ?_) | (refine soft_read (v := ?_) rfl (fun W hW => ?_) ?_; rotate_left; (· go_simp; try with_reducible rfl))
          all_goals try simp only [Act.put, List.setIfInBounds_toArray, List.set_cons_zero, List.set_cons_succ]
          all_goals first | (refine soft_pass rfl HS ?_) | (refine soft_read (v := ?_) rfl (fun W hW => ?_) ?_; rotate_left; (· go_simp; try with_reducible rfl))
          all_goals try simp only [Act.put, List.setIfInBounds_toArray, List.set_cons_zero, List.set_cons_succ]
          all_goals first | (refine soft_pass rfl HS ?_; have hg26 := True.intro) | (refine soft_part (v := ?_) (b := ?_) rfl (fun W hW => ?_) ?_ (fun b hg26 => ?_); rotate_left; rotate_left; (· go_simp; try with_reducible rfl); (· with_reducible rfl); cases b; all_goals first | (exact Bool.noConfusion hg26) | (simp only [Bool.not_eq_true', Bool.not_eq_false'] at hg26) | skip)
          all_goals try simp only [Act.put, List.setIfInBounds_toArray, List.set_cons_zero, List.set_cons_succ]
          all_goals first | (refine soft_pass rfl HS ?_) | (refine soft_read (v := ?_) rfl (fun W hW => ?_) ?_; rotate_left; (· have A_KBG_0 := cell_later hW KBG_0; have A_KBG_1 := cell_later hW KBG_1; have A_AC0 := cell_later hW AC0; clear hW; go_simp; try with_reducible rfl))
          all_goals try simp only [Act.put, List.setIfInBounds_toArray, List.set_cons_zero, List.set_cons_succ]
          all_goals first | (refine soft_pass rfl HS ?_) | (refine soft_read (v := ?_) rfl (fun W hW => ?_) ?_; rotate_left; (· go_simp; try with_reducible rfl))
          all_goals try simp only [Act.put, List.setIfInBounds_toArray, List.set_cons_zero, List.set_cons_succ]
          all_goals first | (refine soft_pass rfl HS ?_) | (refine soft_read (v := ?_) rfl (fun W hW => ?_) ?_; rotate_left; (· go_simp; try with_reducible rfl))
          all_goals try simp only [Act.put, List.setIfInBounds_toArray, List.set_cons_zero, List.set_cons_succ]
          all_goals first | (refine soft_pass rfl HS ?_) | (refine soft_read (v := ?_) rfl (fun W hW => ?_) ?_; rotate_left; (· have A_KBG_0 := cell_later hW KBG_0; have A_KBG_1 := cell_later hW KBG_1; have A_AC0 := cell_later hW AC0; clear hW; go_simp; try with_reducible rfl))
          all_goals try simp only [Act.put, List.setIfInBounds_toArray, List.set_cons_zero, List.set_cons_succ]
          all_goals first | (refine soft_pass rfl HS ?_) | (refine soft_read (v := ?_) rfl (fun W hW => ?_) ?_; rotate_left; (· go_simp; try with_reducible rfl))
          all_goals try simp only [Act.put, List.setIfInBounds_toArray, List.set_cons_zero, List.set_cons_succ]
          all_goals first | (refine soft_pass rfl HS ?_) | (refine soft_read (v := ?_) rfl (fun W hW => ?_) ?_; rotate_left; (· go_simp; try with_reducible rfl))
          all_goals try simp only [Act.put, List.setIfInBounds_toArray, List.set_cons_zero, List.set_cons_succ]
          all_goals first | (refine soft_pass rfl HS ?_) | (refine soft_do rfl (fun K hK => ?_); go_simp; refine (implLinkIndex_c (GO.out.below HS).rd (a := (k : Int)) (b := far) (by omega) (by omega)).mono ?_; rintro e wS1 ⟨rfl, hbS⟩; replace HS := HS.trans (hbS.mono HS.size); refine hK _ _ HS ?_; clear hK K hbS)
          all_goals try simp only [Act.put, List.setIfInBounds_toArray, List.set_cons_zero, List.set_cons_succ]
          all_goals first | (refine soft_pass rfl HS ?_) | (refine soft_do rfl (fun K hK => ?_); go_simp; refine (implLinkIndex_c (GO.out.below HS).rd (a := far) (b := (k : Int)) (by omega) (by omega)).mono ?_; rintro e wS1 ⟨he_, hbS⟩; have he2_ : e = .returned (.int .i64 (idxOf (isLink (k : Int) far) gl)) := he_.trans (by rw [isLink_symm]); subst he2_; clear he_; replace HS := HS.trans (hbS.mono HS.size); refine hK _ _ HS ?_; clear hK K hbS)
          all_goals try simp only [Act.put, List.setIfInBounds_toArray, List.set_cons_zero, List.set_cons_succ]
          all_goals first | (refine soft_pass rfl HS ?_) | (refine soft_read (v := ?_) rfl (fun W hW => ?_) ?_; rotate_left; (· go_simp; try with_reducible rfl))
          all_goals try simp only [Act.put, List.setIfInBounds_toArray, List.set_cons_zero, List.set_cons_succ]
          all_goals first | (refine soft_pass rfl HS ?_) | (refine soft_read (v := ?_) rfl (fun W hW => ?_) ?_; rotate_left; (· go_simp; try with_reducible rfl))
          all_goals try simp only [Act.put, List.setIfInBounds_toArray, List.set_cons_zero, List.set_cons_succ]
          all_goals refine soft_nil ?_
          replace BG := keepBox BG HS
          replace BW := keepBox BW HS
          replace BZ := keepBox BZ HS
          replace AC0 := cell_later HS AC0
          replace GO := Lib.hid (GO.out.below HS)
          replace WO := Lib.hid (WO.out.below HS)
          replace ZO := Lib.hid (ZO.out.below HS)
          replace LB := Lib.hid (LB.out.below HS)
          replace NO := Lib.hid (NO.out.below HS)
          replace LC := Lib.hid (LC.out.below HS)
          replace EE := EE.trans (HS.mono EE.size)
          clear HS AC0
          go_wp2
          go_roundw
          case rel => exact ⟨j + 1, by go_num, LC.out⟩
          case measure => simp [intOf]; omega

        · have hljI : ¬ (j : Int) < N.length := by omega
          go_wp2
          go_roundw
          case rel => exact ⟨k + 1, by go_num, LB.out⟩
          case measure => simp [intOf]; omega

    · have hzw : (Z.2.length : Int) ≤ wl.length := by omega
      have HV1 := Lib.hid hgv
      have KBG_0 : wr.cell? ⟨w2.heap.size, 0, none⟩ = some (.int .i64 gn) := boxCell BG rfl
      have KBG_1 : wr.cell? ⟨w2.heap.size, 1, none⟩ = some (.slice ga gl.length gc) := boxCell BG rfl
      go_wp2_with fail
      refine (implValidTopology_c GO.out.rd).mono ?_
      rintro e w16 ⟨he_, hb⟩
      have he2_ : e = .returned (.bool true) := he_.trans (by rw [HV1.out])
      subst he2_
      clear he_
      have z_w16 := hb.size
      replace BG := keepBox BG hb
      replace BW := keepBox BW hb
      replace BZ := keepBox BZ hb
      replace GO := Lib.hid (GO.out.below hb)
      replace WO := Lib.hid (WO.out.below hb)
      replace ZO := Lib.hid (ZO.out.below hb)
      replace LB := Lib.hid (LB.out.below hb)
      replace EE := EE.trans (hb.mono EE.size)
      clear KBG_0 KBG_1
      clear hb
      have KBZ_0 : w16.cell? ⟨w14.heap.size, 0, none⟩ = some (.int .i64 Z.1) := boxCell BZ rfl
      have KBZ_1 : w16.cell? ⟨w14.heap.size, 1, none⟩ = some (.slice za Z.2.length zcp) := boxCell BZ rfl
      have KBW_0 : w16.cell? ⟨w8.heap.size, 0, none⟩ = some (.int .i64 wn) := boxCell BW rfl
      have KBW_1 : w16.cell? ⟨w8.heap.size, 1, none⟩ = some (.slice wa wl.length wc_) := boxCell BW rfl
      cases hv2 : validTopo okS (wn, wl)
      · have HV2 := Lib.hid hv2
        clear hv2
        go_wp2_with fail
        refine (implValidTopology_c WO.out.rd).mono ?_
        rintro e w17 ⟨he_, hb⟩
        have he2_ : e = .returned (.bool false) := he_.trans (by rw [HV2.out])
        subst he2_
        clear he_
        have z_w17 := hb.size
        replace BG := keepBox BG hb
        replace BW := keepBox BW hb
        replace BZ := keepBox BZ hb
        replace GO := Lib.hid (GO.out.below hb)
        replace WO := Lib.hid (WO.out.below hb)
        replace ZO := Lib.hid (ZO.out.below hb)
        replace LB := Lib.hid (LB.out.below hb)
        replace EE := EE.trans (hb.mono EE.size)
        clear KBZ_0 KBZ_1 KBW_0 KBW_1
        clear hb
        go_wp2
        go_ret
        exact ⟨rfl, EE⟩

      · have HV2 := Lib.hid hv2
        clear hv2
        go_wp2_with fail
        refine (implValidTopology_c WO.out.rd).mono ?_
        rintro e w17 ⟨he_, hb⟩
        have he2_ : e = .returned (.bool true) := he_.trans (by rw [HV2.out])
        subst he2_
        clear he_
        have z_w17 := hb.size
        replace BG := keepBox BG hb
        replace BW := keepBox BW hb
        replace BZ := keepBox BZ hb
        replace GO := Lib.hid (GO.out.below hb)
        replace WO := Lib.hid (WO.out.below hb)
        replace ZO := Lib.hid (ZO.out.below hb)
        replace LB := Lib.hid (LB.out.below hb)
        replace EE := EE.trans (hb.mono EE.size)
        clear KBZ_0 KBZ_1 KBW_0 KBW_1
        clear hb
        have KBZ_0 : w17.cell? ⟨w14.heap.size, 0, none⟩ = some (.int .i64 Z.1) := boxCell BZ rfl
        have KBZ_1 : w17.cell? ⟨w14.heap.size, 1, none⟩ = some (.slice za Z.2.length zcp) := boxCell BZ rfl
        go_wp2_with fail
        refine (implValidTopology_c ZO.out.rd).mono ?_
        rintro e w18 ⟨he_, hb⟩
        have he2_ : e = .returned (.bool true) := he_.trans (by rw [ZVA.out HV2.out])
        subst he2_
        clear he_
        have z_w18 := hb.size
        replace BG := keepBox BG hb
        replace BW := keepBox BW hb
        replace BZ := keepBox BZ hb
        replace GO := Lib.hid (GO.out.below hb)
        replace WO := Lib.hid (WO.out.below hb)
        replace ZO := Lib.hid (ZO.out.below hb)
        replace LB := Lib.hid (LB.out.below hb)
        replace EE := EE.trans (hb.mono EE.size)
        clear KBZ_0 KBZ_1
        clear hb
        go_wp2
        go_ret
        exact ⟨rfl, EE⟩

theorem gTab : Tryd.prog.globalNamed "internal/strconv.uint64pow10" = some 0 := by kernel_rfl
theorem gTabType : (Tryd.prog.globals[0]?).map (·.type) = some 76 := by kernel_rfl
theorem cellsArr : Tryd.prog.cellsOf 76 = 20 := by kernel_rfl
theorem cellsOne : Tryd.prog.cellsOf 69 = 1 := by kernel_rfl
theorem tab_datum : (Rows.laid_internal_strconv_uint64pow10 : DataW Unit) = Lib.tabData .u64 Lib.pow10Tab := by kernel_rfl
theorem tabW_of {W : World} (h : laidMetH Tryd.prog Rows.fnNetsRow.laid W) : TabW Tryd.prog W := by
  have h2 : laidMet Tryd.prog [("internal/strconv.uint64pow10", Rows.laid_internal_strconv_uint64pow10)] W := (laidMet.tail (laidMet.tail h))
  rw [tab_datum] at h2
  exact Lib.tabIs_of_head (rest := []) gTab gTabType Tryd.underlying76 Tryd.underlying69 cellsOne cellsArr h2
/-- A world for the witness: the settled one, the tables holding what their initialisers lay. -/
noncomputable def laidWorld (os : Os) : World :=
  { World.holding Tryd.prog os ⟨#[], #[], []⟩ with heap := ((((World.holding Tryd.prog os ⟨#[], #[], []⟩).heap.modify 1 fun
      | .cells _ t frozen => .cells #[.int .u8 0, .int .u8 1, .int .u8 28, .int .u8 2, .int .u8 29, .int .u8 14, .int .u8 24, .int .u8 3, .int .u8 30, .int .u8 22, .int .u8 20, .int .u8 15, .int .u8 25, .int .u8 17, .int .u8 4, .int .u8 8, .int .u8 31, .int .u8 27, .int .u8 13, .int .u8 23, .int .u8 21, .int .u8 19, .int .u8 16, .int .u8 7, .int .u8 26, .int .u8 12, .int .u8 18, .int .u8 6, .int .u8 11, .int .u8 5, .int .u8 10, .int .u8 9] t frozen
      | o => o).modify 2 fun
      | .cells _ t frozen => .cells #[.int .u8 0, .int .u8 1, .int .u8 56, .int .u8 2, .int .u8 57, .int .u8 49, .int .u8 28, .int .u8 3, .int .u8 61, .int .u8 58, .int .u8 42, .int .u8 50, .int .u8 38, .int .u8 29, .int .u8 17, .int .u8 4, .int .u8 62, .int .u8 47, .int .u8 59, .int .u8 36, .int .u8 45, .int .u8 43, .int .u8 51, .int .u8 22, .int .u8 53, .int .u8 39, .int .u8 33, .int .u8 30, .int .u8 24, .int .u8 18, .int .u8 12, .int .u8 5, .int .u8 63, .int .u8 55, .int .u8 48, .int .u8 27, .int .u8 60, .int .u8 41, .int .u8 37, .int .u8 16, .int .u8 46, .int .u8 35, .int .u8 44, .int .u8 21, .int .u8 52, .int .u8 32, .int .u8 23, .int .u8 11, .int .u8 54, .int .u8 26, .int .u8 40, .int .u8 15, .int .u8 34, .int .u8 20, .int .u8 31, .int .u8 10, .int .u8 25, .int .u8 14, .int .u8 19, .int .u8 9, .int .u8 13, .int .u8 8, .int .u8 7, .int .u8 6] t frozen
      | o => o).modify 0 fun
      | .cells _ t frozen => .cells #[.int .u64 1, .int .u64 10, .int .u64 100, .int .u64 1000, .int .u64 10000, .int .u64 100000, .int .u64 1000000, .int .u64 10000000, .int .u64 100000000, .int .u64 1000000000, .int .u64 10000000000, .int .u64 100000000000, .int .u64 1000000000000, .int .u64 10000000000000, .int .u64 100000000000000, .int .u64 1000000000000000, .int .u64 10000000000000000, .int .u64 100000000000000000, .int .u64 1000000000000000000, .int .u64 10000000000000000000] t frozen
      | o => o) }
theorem laid_met (os : Os) : laidMet Tryd.prog Rows.fnNetsRow.laid ((laidWorld os).forCall (fun _ _ => 0) ⟨#[], #[.slice none 0 0], []⟩).memory :=
  laidMet_of_run' 8 (by kernel_rfl) (by kernel_rfl)
theorem reads (os : Os) {H : Type} (enc : TypeId × Value → H) : ∃ ds gs places, DataW.whole enc Tryd.prog ((laidWorld os).forCall (fun _ _ => 0) ⟨#[], #[.slice none 0 0], []⟩).memory Tryd.f3.params.toList Rows.fnNetsSpec.vars false (#[.slice none 0 0] : Array Value).toList 8 = some (ds, gs, places) := by
  have h : (DataW.whole enc Tryd.prog ((laidWorld os).forCall (fun _ _ => 0) ⟨#[], #[.slice none 0 0], []⟩).memory Tryd.f3.params.toList Rows.fnNetsSpec.vars false (#[.slice none 0 0] : Array Value).toList 8).isSome = true := by kernel_rfl
  obtain ⟨r, hr⟩ := Option.isSome_iff_exists.1 h
  exact ⟨r.1, r.2.1, r.2.2, hr⟩
set_option maxRecDepth 100000 in
theorem lawFnNets_lifted (os : Os) (started : os.Started) (H : Type) (enc : TypeId × Value → H) (F : Stop.Interp) :
    ReturnsInHanded {} Tryd.checked os 3 .any ((OpenSpec.ofChange Rows.fnNetsSpec).preRow enc Tryd.prog Tryd.f3 Rows.fnNetsRow.domain false Rows.fnNetsRow.laid) (((OpenSpec.ofChange Rows.fnNetsSpec).at F).post enc Tryd.prog Tryd.f3 false true false false) := by
  obtain ⟨ds0, gs0, places, hx⟩ := reads os enc
  refine returnsInHanded_of_row (C := Tryd.checked) (s := OpenSpec.ofChange Rows.fnNetsSpec) law_own started (by kernel_rfl) Tryd.func3
    (witness_row_at (enc := enc) (C := Tryd.checked) false (laidWorld os) #[.slice none 0 0] rfl (by kernel_rfl) (by kernel_rfl) (by kernel_rfl)
      (OpenSpec.preRow_of_cond 8 hx (by kernel_rfl) (fun k hk => by cases hk) (by kernel_rfl) (laid_met os))) ?_
  intro W base args ds gs before hval0 hW _ _ _ hL _ _
  have hval : ∀ (j : Nat) t v, Tryd.f3.params[j]? = some t → args[j]? = some v → Value.okWide Tryd.prog W .any base t v := hval0
  have hW0 : DataW.Whole enc Tryd.prog Tryd.f3.params.toList Rows.fnNetsSpec.vars false W args.toList ds gs before := hW
  obtain ⟨p, q, hA0, hV, rfl, hfz, hnd⟩ := hW
  have hA : DataW.TrodAll enc Tryd.prog W 0 (fun _ => true) true Tryd.f3.params.toList args.toList ds p := hA0
  rw [Tryd.params3] at hA hval
  obtain ⟨v0, vs0, d0, ds0, p0, q0, hargs, rfl, rfl, g0, s0⟩ := trodAll_cons hA
  obtain ⟨rfl, rfl, rfl⟩ := trodAll_nil s0
  obtain rfl : args = #[v0] := by cases args; simp_all
  obtain ⟨rfl, rfl⟩ := trodVars_none hV
  obtain ⟨a0, len0, cap0, rfl⟩ := okWide_slice Tryd.underlying22 (hval 0 22 v0 rfl rfl)
  obtain ⟨fu0, hf0⟩ := g0
  obtain ⟨x0, h0⟩ := bridge_ByteS (w := W) hf0
  have h0 : (Rep.slice 5 Rep.byte).raw W [.slice a0 len0 cap0] x0 := by simpa [Value.cells] using h0
  refine (lawFnNets_c h0 (tabW_of hL)).mono fun e W' ⟨he, hb⟩ => ?_
  subst he
  refine ⟨_, rfl, law_post (tb := 4) hW0 rfl rfl Tryd.underlying4 ⟨rfl, rfl, rfl⟩ ?_ hb⟩
  rw [Tryd.params3]
  intro t ht
  have hall : ([22].all fun t => Tryd.prog.readableRec t && decide (t < Tryd.prog.types.size)) = true := by kernel_rfl
  have h1 := List.all_eq_true.1 hall t ht
  simpa using h1
theorem lawFnNets_said : Rows.FnNetsSaid :=
  OpenClaim.holds_of_cond 3 Tryd.f3 rfl rfl rfl rfl rfl rfl rfl ⟨rfl, rfl, rfl, rfl, rfl⟩ rfl rfl rfl rfl rfl (by kernel_rfl) Tryd.func3 (by kernel_rfl)
    (of_decide_eq_true (by kernel_rfl)) (by unfold Func.isWrapper; first | (rw [if_pos (by decide +kernel)]; kernel_rfl) | (rw [if_neg (by decide +kernel)]; exact ⟨rfl, rfl⟩))
    (fun os started H enc _ F => by rw [OpenClaim.pre_eq_preRow]; exact lawFnNets_lifted os started H enc F)
theorem plain_looks (f : FuncId) (fn : Func) (hf : Tryd.pinned.checked.prog.funcNamed "loop.example/g00507/laws.FnNets" = some f) (hfn : Tryd.pinned.checked.prog.funcs[f]? = some fn) :
    false = Tryd.pinned.checked.prog.looks [] ∧ ∀ (j : Nat) t, fn.params[j]? = some t → Tryd.pinned.checked.prog.wantsStandIn t = false := by
  obtain rfl : f = 3 := Option.some.inj ((show Tryd.prog.funcNamed "loop.example/g00507/laws.FnNets" = some 3 by kernel_rfl).symm.trans hf) |>.symm
  obtain rfl : fn = Tryd.f3 := (Option.some.inj (Tryd.func3.symm.trans hfn)).symm
  refine ⟨by kernel_rfl, fun j t ht => ?_⟩
  rw [Tryd.params3] at ht
  have hm := Array.mem_of_getElem? ht
  have hall : ((#[22] : Array TypeId).all fun t => !Tryd.prog.wantsStandIn t) = true := by kernel_rfl
  have h1 := Array.all_eq_true_iff_forall_mem.1 hall t hm
  show Tryd.prog.wantsStandIn t = false
  simpa using h1
theorem lawFnNets_holds : Rows.FnNetsCardSaid :=
  Claim7.holds_tied_plain_at .later [] _ _ _ _ lawFnNets_said (fun _ h => by cases h) (by kernel_rfl) (fun _ h => by cases h) fnNets_row_tie rfl ⟨rfl, rfl⟩ (by kernel_rfl) rfl plain_looks (by kernel_rfl)
end Go.Proofs.YtpgnbablhdknnaaDoor
