/-
  The faces of the routes of the longest prefix.
-/
import Derived.Test.YthpgoddjglnoiaaGreatDoorMatch
import Derived.Test.YthpgoddjglnoiaaGreatDoorDelF
set_option linter.unusedVariables false
set_option linter.unusedSimpArgs false
set_option linter.unnecessarySimpa false
set_option maxRecDepth 100000
set_option maxHeartbeats 4000000
namespace Go.Proofs.YthpgoddjglnoiaaGreatDoor
open Go.RowKit
namespace Rep
def yU {α:Type} (r:Rep α) (w0:World):Rep α where
  n:=r.n
  is _ _ cs x _:=r.is false w0 cs x (fun _=>True)
  bdd:=r.bdd
  zero:=r.zero
  zc:=r.zc
  mark:=r.mark
  held:=r.held
  cnt:=r.cnt
  len h:=r.len h
  one h:=r.one h
  mono h _:=h
  wide h _:=h
  weak h:=h
  live h:=h
  bdd_mono:=r.bdd_mono
  bdd_zero:=r.bdd_zero
  is_zero:=r.is_zero
  mark_held:=r.mark_held
  held_ge:=r.held_ge
  mark_ge:=r.mark_ge
  mark_le:=r.mark_le
  mark_bdd:=r.mark_bdd
theorem isFlat_asIn {α:Type} {r:Rep α} {w0:World}:(Rep.yU r w0).kDe:=fun h=>h
end Rep
def jQ (r:kD):Int:=r.2.2 * 18446744073709551616 + r.2.1
def gtR (y r:kD):Bool:=decide (r.2.2 < y.2.2) || ((y.2.2==r.2.2) && decide (r.2.1 < y.2.1))
def I64 (x:Int):Prop:=-9223372036854775808≤x∧x≤9223372036854775807
theorem gtR_key {y r:kD} (hy:I64 y.2.1) (hr:I64 r.2.1):decide (jQ r < jQ y)=gtR y r:=by
 unfold I64 at hy hr
 unfold gtR jQ
 rw [Bool.eq_iff_iff]
 simp only [decide_eq_true_eq,Bool.or_eq_true,Bool.and_eq_true,beq_iff_eq]
 omega
theorem orI_key {x y:kD} (hx:I64 x.2.1) (hy:I64 y.2.1):decide (orI [yT x.2.2 y.2.2,yT x.2.1 y.2.1] < 0)=decide (jQ x < jQ y):=by
 unfold I64 at hx hy
 have e:orI [yT x.2.2 y.2.2,yT x.2.1 y.2.1]=if yT x.2.2 y.2.2≠0 then yT x.2.2 y.2.2 else yT x.2.1 y.2.1:=by
  by_cases h:yT x.2.2 y.2.2=0
  · by_cases h2:yT x.2.1 y.2.1=0
    · rw [orI_miss (by intro j hj;match j,hj with | 0,_=>exact h | 1,_=>exact h2 | j + 2,hj=>simp only [List.length_cons,List.length_nil] at hj;omega),if_neg fM,h2]
    rw [kIx (k:=1) fZ (by simpa using h2) (by intro j hj hj2;match j,hj with | 0,_=>exact h),if_neg fM];rfl
  rw [kIx (k:=0) fZ fM (by intro j hj;omega),if_pos h];rfl
 rw [e,decide_eq_decide]
 unfold yT jQ
 split <;> split <;> (try split) <;> (try split) <;> omega
def zh (n:kR) (l:List kD) (r:kD):Bool:=eqN r.1 (yM n l)
def yG (n:kR) (l:List kD):List kD:=Srt.sorted jQ (l.filter (zh n l))
def jf (l:List kD) (n:kR):List Int:=if mOk n l then (yG n l).map (fun r=>r.2.1) else []
theorem kDy {l:List kD} {n:kR} (h:mOk n l=false):jf l n=[]:=by unfold jf;rw [h];rfl
theorem kCg {l:List kD} {n:kR} (h:mOk n l=true):jf l n=(yG n l).map (fun r=>r.2.1):=by unfold jf;rw [h];rfl
theorem kIg {l:List kD} {n:kR}:(yG n l).length≤l.length:=by unfold yG;rw [kBa];exact List.length_filter_le _ _
theorem kIh {l:List kD} {n:kR}:(jf l n).length≤l.length:=by
 unfold jf;split
 · rw [List.length_map];exact kIg
 exact Nat.zero_le _
theorem sorted_app {α:Type} {key:α→Int} {l:List α} {x:α}:Srt.sorted key (l++[x])=Srt.put key (Srt.sorted key l) x:=by
 unfold Srt.sorted;rw [List.foldl_append];rfl
theorem kFx {w:World} {cr:List Value} {r:kD} (hr:kE.raw w cr r) {p:kR} {pc0:Value} {Bp:Nat} (pr:kV.raw w [pc0] p) (Ap0:w.cell? ⟨Bp,0,none⟩=some pc0) :
    Calls Tryz.prog 41 (#[.agg cr.toArray]++#[.pointer (some ⟨Bp,0,none⟩)]) w fun e w'=>e=.returned (.bool (!eqN r.1 p))∧Below w.heap.size w w':=by
 have Hr:=yD hr
 obtain ⟨frv0,rfl,fr_0,fr_1,fr_2,fr_3⟩:=kG hr
 obtain ⟨fra0,frp0,rfl,frl0⟩:=Rep.sl fr_1
 obtain ⟨pv0,phe,p_0⟩:=kN pr
 simp only [List.cons.injEq,and_true] at phe
 obtain rfl:=phe
 obtain ⟨pa0,pp0,rfl,pl0⟩:=Rep.sl p_0
 show Calls Tryz.prog 41 #[_,_] w _
 go_enter Tryz.func41,Tryz.ntmps41
 go_upto_region 1 with fail
 generalize hwB:World.alloc w _=wB
 have EB:Below w.heap.size w wB:=by rw [← hwB];exact bB
 have K2_0:wB.cell? ⟨w.heap.size,0,none⟩=some (.slice fra0 (r.1).length frp0):=dL
 have K2_1:wB.cell? ⟨w.heap.size,1,none⟩=some (.int .i64 r.2.1):=dL
 have K2_2:wB.cell? ⟨w.heap.size,2,none⟩=some (.int .i64 r.2.2):=dL
 clear hwB
 replace Ap0:=cL EB Ap0
 have FX:=yD (fun (W:World) (hW:Below wB.heap.size wB W)=>cLs4 hW K2_0 K2_1 K2_2 Ap0)
 refine kg (fun W=>Below wB.heap.size wB W) [true,true,true,false,true,true] bR ?_
 intro wS HS
 iterate 3
  all_goals refine wkR ?_
 all_goals first | refine wkB (yA (Rep.raw.below fr_0 (tQ EB HS)) (Rep.raw.below pr (tQ EB HS))) (fun wS1 HS=>?_) | refine wkR ?_
 all_goals refine wkR ?_
 all_goals (have hg5:=True.intro;first|(refine wkG (fun b hg5=>?_);cases b;all_goals first | exact Bool.noConfusion hg5 | simp only [zU,zV] at hg5 | skip) | refine wkR ?_)
 all_goals refine wkP ?_
 all_goals refine kQ ?_
 all_goals have EG:=(tQ EB HS)
 all_goals first
   | (have HT:=yD (show (!eqN r.1 p)=false by simp only [Bool.not_true,Bool.not_false,Bool.and_true,Bool.true_and,Bool.and_false,Bool.false_and,Bool.or_true,Bool.true_or,Bool.or_false,Bool.false_or,Bool.not_not,hg5]);go_wp2;go_ret;exact ⟨kP HT.out.symm,EG⟩)
   | (have HT:=yD (show (!eqN r.1 p)=true by simp only [Bool.not_true,Bool.not_false,Bool.and_true,Bool.true_and,Bool.and_false,Bool.false_and,Bool.or_true,Bool.true_or,Bool.or_false,Bool.false_or,Bool.not_not,hg5]);go_wp2;go_ret;exact ⟨kP HT.out.symm,EG⟩)
theorem kAg:kY Tryz.prog 41:=yN Tryz.func41 fP fP
theorem cmpI_rng (a b:Int):-9223372036854775808≤yT a b∧yT a b≤9223372036854775807:=by unfold yT;split <;> (try split) <;> omega
theorem Rep.row_int2 {w:World} {a b:Int} (ha:-9223372036854775808≤a∧a≤9223372036854775807) (hb:-9223372036854775808≤b∧b≤9223372036854775807):Rep.row Rep.int true w [.int .i64 a,.int .i64 b] [a,b] (fun _=>True) :=
  ⟨[.int .i64 a],[.int .i64 b],fun _=>False,fun _=>False,rfl,⟨rfl,ha⟩,⟨[.int .i64 b],[],fun _=>False,fun _=>False,rfl,⟨rfl,hb⟩,rfl,fun _ h=>h,fun _ h=>h,fun _ _ h=>h.elim⟩,fun _ h=>h.elim,fun _ h=>h.elim,fun _ _ h=>h.elim⟩
theorem kFw {w:World} {cx:List Value} {x:kD} (hx:kE.raw w cx x) {cy:List Value} {y:kD} (hy:kE.raw w cy y) :
    Calls Tryz.prog 43 #[.agg cx.toArray,.agg cy.toArray] w fun e w'=>∃ k:Int,e=.returned (.int .i64 k)∧decide (k < 0)=decide (jQ x < jQ y)∧Below w.heap.size w w':=by
 have Hx:=yD hx
 obtain ⟨fxv0,rfl,fx_0,fx_1,fx_2,fx_3⟩:=kG hx
 obtain ⟨fxa0,fxp0,rfl,fxl0⟩:=Rep.sl fx_1
 have Hy:=yD hy
 obtain ⟨fyv0,rfl,fy_0,fy_1,fy_2,fy_3⟩:=kG hy
 obtain ⟨fya0,fyp0,rfl,fyl0⟩:=Rep.sl fy_1
 have HK:=yD (orI_key (x:=x) (y:=y) fx_2 fy_2)
 go_enter Tryz.func43,Tryz.ntmps43
 go_upto_region 1 with fail
 generalize hwB:World.alloc (World.alloc w _) _=wB
 have EB:Below w.heap.size w wB:=by rw [← hwB];exact bB
 have K2_0:wB.cell? ⟨w.heap.size,0,none⟩=some (.slice fxa0 (x.1).length fxp0):=dL
 have K2_1:wB.cell? ⟨w.heap.size,1,none⟩=some (.int .i64 x.2.1):=dL
 have K2_2:wB.cell? ⟨w.heap.size,2,none⟩=some (.int .i64 x.2.2):=dL
 have K3_0:wB.cell? ⟨w.heap.size + 1,0,none⟩=some (.slice fya0 (y.1).length fyp0):=dL
 have K3_1:wB.cell? ⟨w.heap.size + 1,1,none⟩=some (.int .i64 y.2.1):=dL
 have K3_2:wB.cell? ⟨w.heap.size + 1,2,none⟩=some (.int .i64 y.2.2):=dL
 clear hwB
 have FX:=yD (fun (W:World) (hW:Below wB.heap.size wB W)=>cLs6 hW K2_0 K2_1 K2_2 K3_0 K3_1 K3_2)
 refine jc (fun W=>Below wB.heap.size wB W) [(0,true),(1,true),(2,true),(3,true),(5,true),(6,true),(7,true),(8,true),(4,false),(9,false),(10,false),(11,false),(12,true)] fP fP bW (bR.drew) ?_
 intro wS HS
 simp only [kK,List.getElem?_cons_succ,List.getElem?_cons_zero,List.map_cons,List.map_nil]
 iterate 8
  all_goals refine wkR ?_
 iterate 2
  all_goals first | refine wkC (kJg) ?_ | refine wkR ?_
 all_goals first|(refine kJ rfl HS ?_)|(refine jF rfl (fun K hK=>?_);go_simp;have RL:(Rep.slice 3 Rep.int).rd (World.alloc wS (.cells #[.int .i64 (yT x.2.2 y.2.2),.int .i64 (yT x.2.1 y.2.1)] 3)) [.slice (some ⟨wS.heap.size,0,none⟩) 2 2] [yT x.2.2 y.2.2,yT x.2.1 y.2.1]:=((Rep.je (e:=3) (r:=Rep.int) (w:=wS) (cs:=[.int .i64 (yT x.2.2 y.2.2),.int .i64 (yT x.2.1 y.2.1)]) (xs:=[yT x.2.2 y.2.2,yT x.2.1 y.2.1]) (T:=fun _=>True) (S:=fun _=>True) (fun _ _=>trivial) (by show 2≤_;unfold maxLen;omega) (Rep.row_int2 (cmpI_rng _ _) (cmpI_rng _ _)) (fun _ h=>h) trivial).own (by show 2≤_;unfold Big;omega)).rd;have bN:Below wS.heap.size wS (World.alloc wS (.cells #[.int .i64 (yT x.2.2 y.2.2),.int .i64 (yT x.2.1 y.2.1)] 3)):=bR.alloc nL _;generalize hwN:World.alloc wS (.cells #[.int .i64 (yT x.2.2 y.2.2),.int .i64 (yT x.2.1 y.2.1)] 3)=wN at RL bN ⊢;clear hwN;replace HS:=(tQ HS bN);refine hK _ _ HS ?_;clear hK K bN)
 all_goals refine wkP ?_
 all_goals first | refine wkC (cmpOr_c RL.1) ?_ | refine wkR ?_
 all_goals refine wkR ?_
 all_goals refine kQ ?_
 have EG:=(tQ EB HS)
 go_wp2
 go_ret
 exact ⟨_,rfl,by simpa using HK.out,EG⟩
theorem kDa:kY Tryz.prog 43:=yN Tryz.func43 fP fP
theorem kGx {w:World} {vl:Value} {l:List kD} (hl:(Rep.slice 29 kE).rd w [vl] l) {cn:List Value} {n:kR} (hn:kV.rd w cn n) :
    Calls Tryz.prog 9 #[vl,.agg cn.toArray] w (kFq 3 Rep.int (jf l n) w):=by
 have HL:=yD hl
 have HN:=yD hn
 have hlb:l.length≤16777216:=hl.2.1
 obtain ⟨nv,rfl,n_0⟩:=kN hn.1
 obtain ⟨na,np,rfl,_⟩:=Rep.sl n_0
 obtain ⟨la,lp,rfl,_⟩:=Rep.sl hl.1
 clear n_0 hl hn
 go_enter Tryz.func9,Tryz.ntmps9
 go_wp2_with fail
 generalize hwB:World.alloc w _=wB
 have EB:Below w.heap.size w wB:=by rw [← hwB];exact bB
 have K0:wB.cell? ⟨w.heap.size,0,none⟩=some (.slice na n.length np):=dL
 have hzB:=EB.size
 clear hwB
 refine (zH (HL.out.below EB) (HN.out.below EB)).mono ?_
 rintro e w1 ⟨pc,rfl,OP,hb1⟩
 obtain ⟨pv0,rfl,p_0⟩:=kN OP.raw
 obtain ⟨pa0,pp0,rfl,_⟩:=Rep.sl p_0
 clear p_0
 have HP:=yD OP.rd
 have E1:=(tQ EB hb1)
 have hz1:=E1.size
 clear OP hb1 EB K0
 have HNO:=yD (kDy (l:=l) (n:=n));have HYES:=yD (kCg (l:=l) (n:=n))
 cases hok:mOk n l
 · have HE:=yD (HNO.out hok)
   go_wp2
   go_ret
   exact ⟨_,rfl,by rw [HE.out];exact Rep.kH.void,E1.trans (Below.mono bB E1.size)⟩
 have HE:=yD (HYES.out hok)
 clear HNO HYES
 go_wp2_with fail
 generalize hwC:World.alloc w1 _=wC
 have EC0:Below w1.heap.size w1 wC:=dD
 have KP:wC.cell? ⟨w1.heap.size,0,none⟩=some (.slice pa0 (yM n l).length pp0):=dM
 clear hwC
 have EC:=(tQ E1 EC0)
 have hzC:=EC0.size
 refine (jY (HL.out.below EC)).mono ?_
 rintro e w2 ⟨v2,rfl,O2,hb2⟩
 obtain ⟨oa,on,oc,ho,HON⟩:=O2.parts;obtain rfl:=ho
 have HO:=yD O2;have HB2:=yD hb2
 have hz2:=hb2.size
 have E2:=(tQ EC hb2)
 clear O2 hb2
 go_wp2_with fail
 have HCL:Hid (∀ wr,Touch (Btw wC.heap.size w2.heap.size) w2 wr→∀ x cs,kE.raw wr cs x→Calls Tryz.prog 41 (#[.agg cs.toArray]++#[.pointer (some ⟨w1.heap.size,0,none⟩)]) wr (fun e w'=>e=.returned (.bool (!eqN x.1 (yM n l)))∧Below wr.heap.size wr w')):=yD (fun wr tw x cs hx=>by
   have e:=HB2.out.trans (tw.below HB2.out.size (fun i hi=>hi.1))
   exact kFx hx (Rep.raw.below HP.out.1 (tQ EC0 e)) (cL e KP))
 refine (zl (fun r=>!eqN r.1 (yM n l)) kAg HO.out hlb HCL.out).mono ?_
 rintro e w3 ⟨v3,rfl,O3,T3⟩
 obtain ⟨da,dn,dc,hd,HDN⟩:=O3.parts;obtain rfl:=hd
 have HO3:=yD (O3.cast (show _=l.filter (zh n l) by congr 1;funext r;simp [zh]))
 have hz3:=T3.size
 have E3:=E2.trans (T3.below fV (fun i hi=>by have:=hi.1;omega))
 clear O3 T3 HO HCL KP
 go_wp2_with fail
 have HC:Hid (jZ jQ 43 #[] (Btw wC.heap.size w2.heap.size) w3):=yD (fun wr tw x y cs ds hx hy=>by simpa using kFw hx hy)
 refine (kDc jQ kDa HC.out HO3.out (by have:=List.length_filter_le (zh n l) l;omega)).mono ?_
 rintro e w4 ⟨rfl,O4,T4⟩
 have HO4:=yD (O4.cast (show _=yG n l from Srt.kHu _))
 have hz4:=T4.size
 have E4:=E3.trans (T4.below fV (fun i hi=>by have:=hi.1;omega))
 have HHL:=kIg (l:=l) (n:=n)
 clear O4 T4 HO3 HC E3 E2
 have HLN:Hid (dn=(yG n l).length):=yD (by have:=HO4.out.zG;obtain ⟨a,c,h⟩:=this;simp only [Value.slice.injEq] at h;exact h.2.1)
 generalize yG n l=H at *
 obtain ⟨FS,hFS⟩:∃ FS:List Int,FS=H.map (fun r=>r.2.1):=⟨_,rfl⟩
 have HFS:=yD hFS;clear hFS
 have hdl:dn≤16777216:=by have:=HLN.out;omega
 go_wp2
 go_loopw [8,28] (fun v i wr=>∃ (k:Nat),k≤dn∧i=.int .i64 k∧Hid (Rep.kH 3 Rep.int wr v (FS.take k) (Btw w4.heap.size wr.heap.size))∧Below w4.heap.size w4 wr) (fun _ i _=>dn - (intOf i).toNat)
 case atStart=>exact ⟨0,Nat.zero_le _,rfl,yD Rep.kH.void,bB⟩
 obtain ⟨k,hk,rfl,HI,hbel⟩:=hrel
 obtain ⟨ia,inn,ic,hi,HIN⟩:=HI.out.parts;obtain rfl:=hi
 have hrz:=hbel.size
 by_cases hlt:k < dn
 · have hkl:k < H.length:=by have:=HLN.out;omega
   have hil:inn≤16777216:=dA
   obtain ⟨qb,qo,rfl,qc0,qc1,qc2,qr,A0,A1,A2⟩:=Rep.yg (HO4.out.zQ.below hbel) hkl rfl
   have HSN:=yD (show FS.take (k + 1)=FS.take k++[H[k].2.1] by (have hl:k < FS.length:=by rw [HFS.out];simpa using hkl);rw [List.take_succ_eq_append_getElem hl];simp [HFS.out])
   generalize H[k]=x at *
   obtain ⟨qv0,qhe,q_0,q_1,q_2,q_3⟩:=kG qr
   simp only [List.cons.injEq,and_true] at qhe
   obtain ⟨rfl,rfl,rfl⟩:=qhe
   obtain ⟨qa0,qp0,rfl,ql0⟩:=Rep.sl q_1
   have HRG:=q_2
   go_upto_region 10 with fail
   generalize hwD:World.alloc wr _=wD
   have ED:Below wr.heap.size wr wD:=by rw [← hwD];exact bR.alloc nL _
   have D1:wD.cell? ⟨wr.heap.size,1,none⟩=some (.int .i64 x.2.1):=by rw [← hwD];simp [go_sem]
   clear hwD
   have hzD:=ED.size
   have hbD:=(tQ hbel ED)
   replace HI:=yD (HI.out.below ED)
   have hin2:(FS.take k).length≤16777216:=by have:=HIN.out;omega
   go_wp2_with (at_builtin;refine Rep.ky rfl _ _ 36 rfl (r:=Rep.int) (e:=3) Tryz.underlying36 infInt rfl fU fU (B:=w4.heap.size) HI.out gB gB rfl (Rep.jN HRG _) rfl (fun _ _ h=>h) cK (fun _ h=>h.elim) fV fV ?_)
   intro v5 w5 hown hb5 hz5
   have HO5:=yD (Rep.kH.cast hown HSN.out.symm)
   have hbF:=hbD.trans hb5
   clear hown hb5
   go_wp2
   go_roundw
   case rel=>exact ⟨k + 1,by omega,by go_num,HO5,hbF⟩
   simp [intOf];omega
 obtain rfl:k=dn:=fV
 have HF:=yD (HI.out.cast (show _=jf l n by rw [HE.out,← HFS.out,List.take_of_length_le (by rw [HFS.out];simp;have:=HLN.out;omega)]))
 have hkn:¬ (k:Int) < k:=fV
 go_wp2
 go_ret
 exact ⟨_,rfl,HF.out.wide cO,(tQ E4 hbel)⟩
theorem kGw {w:World} {vl:Value} {l:List kD} (hl:(Rep.slice 29 kE).rd w [vl] l) {cn:List Value} {n:kR} (hn:kV.rd w cn n) :
    Calls Tryz.prog 9 #[vl,.agg cn.toArray] w (kAx (Rep.slice 3 Rep.int) (jf l n) w) :=
  (kGx hl hn).mono fun e w' h=>h.post (Nat.le_trans kIh hl.2.1)
theorem kL {w0 w:World} {v:Value} {xs ys:List kD} {S:Nat→Prop} {B:Nat} {av:Option Addr} {len cap:Nat} (hown:Rep.kH 29 (Rep.yU kE w0) w v xs S) (hy:(Rep.slice 29 (Rep.yU kE w0)).rd w [.slice av len cap] ys) (hSB:∀ k,S k→B≤k∧k < w.heap.size) (hB:B≤w.heap.size) (hlen:xs.length + ys.length≤1000000000) :
    ∃ v' w',(Builtin.append_ #[24,24] 24 #[v,.slice av len cap]).run Tryz.prog w=.ok v' w'∧Rep.kH 29 (Rep.yU kE w0) w' v' (xs++ys) (Btw B w'.heap.size)∧Below B w w'∧w.heap.size≤w'.heap.size :=
  Rep.kHw (r:=(Rep.yU kE w0)) Tryz.underlying24 jX rfl (show 0 < 3 by omega) fU Rep.isFlat_asIn hown hy hSB hB hlen
theorem jD {w0 w:World} {cs:List Value} {x:kD} (hx:Rep.is (Rep.yU kE w0) true w cs x (fun _=>True)) (hb:Rep.bdd (Rep.yU kE w0) Big x) :
    (Rep.slice 29 (Rep.yU kE w0)).rd (World.alloc w (.cells cs.toArray 29)) [.slice (some ⟨w.heap.size,0,none⟩) 1 1] [x] :=
  ((Rep.je (e:=29) (r:=(Rep.yU kE w0)) (w:=w) (cs:=cs) (xs:=[x]) (T:=fun _=>True) (S:=fun _=>True) (by intro y hy;rw [List.mem_singleton.1 hy];exact hb) (by show 1≤_;unfold maxLen;omega) (Rep.ze hx) (fun _ h=>h) trivial).own (by show 1≤_;unfold Big;omega)).rd
theorem kIv {w w0:World} {vl:Value} {l:List kD} {S:Nat→Prop} (hl:Rep.kH 29 (Rep.yU kE w0) w vl l S) {cr:List Value} {r:kD} (hr:kE.rd w0 cr r) (hlen:l.length < 16777216) :
    Calls Tryz.prog 49 #[vl,.agg cr.toArray] w (kFq 29 (Rep.yU kE w0) (Srt.put jQ l r) w):=by
 have HR:=yD hr
 obtain ⟨la,lp,hlv⟩:=hl.zG;obtain rfl:=hlv
 have HL:=yD ((hl.own dY).rd)
 have HFM:=yD (Rep.own0_form hl)
 have hcap:=Rep.kBi HL.out.1
 obtain ⟨rv0,rfl,r_0,r_1,r_2,r_3⟩:=kG hr.1
 obtain ⟨ra,rp,rfl,_⟩:=Rep.sl r_1
 have HRF:=yD r_2
 clear hl hr r_0 r_1 r_3 r_2
 go_enter Tryz.func49,Tryz.ntmps49
 go_wp2
 generalize hwB:World.alloc w _=wB
 have EB:Below w.heap.size w wB:=by rw [← hwB];exact bB
 have K0:wB.cell? ⟨w.heap.size,0,none⟩=some (.slice ra r.1.length rp):=dL
 have K1:wB.cell? ⟨w.heap.size,1,none⟩=some (.int .i64 r.2.1):=dL
 have K2:wB.cell? ⟨w.heap.size,2,none⟩=some (.int .i64 r.2.2):=dL
 clear hwB
 have HLB:=yD (HL.out.below EB)
 have hzB:=EB.size
 go_loopw [5] (fun q wr=>∃ (k:Nat),k≤l.length∧q=.int .i64 k∧Hid (Srt.place jQ k l r=Srt.place jQ l.length l r)∧Below wB.heap.size wB wr) (fun q _=>(intOf q).toNat)
 case atStart=>exact ⟨l.length,Nat.le_refl _,rfl,yD rfl,bR⟩
 obtain ⟨k,hkm,rfl,HP,hbel⟩:=hrel
 replace K0:=cL hbel K0
 replace K1:=cL hbel K1
 replace K2:=cL hbel K2
 have hk0:=Int.natCast_nonneg k
 have hkcapI:(k:Int)≤lp:=fV
 have hkcap:k≤lp:=fV
 by_cases hk:0 < k
 · obtain ⟨j,hj⟩:∃ j,j + 1=k:=⟨k - 1,by omega⟩
   have hjI:(k:Int) - 1=(j:Int):=fV
   have hwj:IntKind.i64.wrap (j:Int)=j:=IntWalk.i64_in _ fV
   have hj0:=Int.natCast_nonneg j
   have hjl:j < l.length:=fV
   have hjm:(j:Int) < l.length:=fV
   have hp:decide ((k:Int) > 0)=true:=fQ
   have hp2:decide (0 < k)=true:=by simpa using hk
   have hp3:(0:Int) < k:=fV
   obtain ⟨qb,qo,rfl,qc0,qc1,qc2,qr,A0,A1,A2⟩:=Rep.yg (HLB.out.1.below hbel) hjl rfl
   have HY:=yD (fun q=>(place_next (key:=jQ) (x:=r) hj hjl q).symm.trans HP.out)
   have HNO:=yD (fun q=>(place_stop (key:=jQ) (x:=r) hj hjl q).symm.trans HP.out)
   generalize l[j]=y at *
   obtain ⟨qv0,qhe,q_0,q_1,q_2,q_3⟩:=kG (show kE.raw w0 _ y from qr)
   simp only [List.cons.injEq,and_true] at qhe
   obtain ⟨rfl,rfl,rfl⟩:=qhe
   have HG:=yD (gtR_key (y:=y) (r:=r) q_2 HRF.out)
   clear q_0 q_1 q_2 q_3 qr
   go_upto_region 2 with fail
   go_cut [42] from 8 to 42 (fun s42 wc=>s42=.bool (gtR y r)∧Below wr.heap.size wr wc)
   case first =>
    have FX:=yD (fun (W:World) (hW:Below wr.heap.size wr W)=>cLs4 hW A1 A2 K1 K2)
    refine kI (fun W=>Below wr.heap.size wr W) [true,true,true,true,true,true,true,true,true,true,true,true,true,true,true,true,true,true,true,true,true,true,true,true,true,true,true,true,true,true,true,true,true,true,true] fP fP bW (bR.drew) ?_
    intro wS HS
    all_goals refine wkR ?_
    all_goals refine wkR ?_
    all_goals (have hg2:=True.intro;first|(refine wkG (fun b hg2=>?_);cases b;all_goals first | exact Bool.noConfusion hg2 | simp only [zU,zV] at hg2 | skip) | refine wkR ?_)
    all_goals refine wkP ?_
    iterate 9
     all_goals refine wkR ?_
    all_goals (have hg12:=True.intro;first|(refine wkG (fun b hg12=>?_);cases b;all_goals first | exact Bool.noConfusion hg12 | simp only [zU,zV] at hg12 | skip) | refine wkR ?_)
    all_goals refine wkP ?_
    iterate 9
     all_goals refine wkR ?_
    all_goals (have hg22:=True.intro;first|(refine wkG (fun b hg22=>?_);cases b;all_goals first | exact Bool.noConfusion hg22 | simp only [zU,zV] at hg22 | skip) | refine wkR ?_)
    all_goals refine wkP ?_
    iterate 11
     all_goals refine wkR ?_
    all_goals (have hg34:=True.intro;first|(refine wkG (fun b hg34=>?_);cases b;all_goals first | exact Bool.noConfusion hg34 | simp only [zU,zV] at hg34 | skip) | refine wkR ?_)
    all_goals refine wkP ?_
    all_goals refine kQ ?_
    all_goals (cases hv:gtR y r)
    all_goals first
      | (exfalso;simp only [gtR,Bool.not_true,Bool.not_false,Bool.and_true,Bool.true_and,Bool.and_false,Bool.false_and,Bool.or_true,Bool.true_or,Bool.or_false,Bool.false_or,Bool.not_not,hg2,hg12,hg22,hg34] at hv;exact Bool.noConfusion hv)
      | (have HV:=yD hv;clear hv;go_wp2;go_meet;(case rel=>exact ⟨by rw [HV.out],HS⟩))
   obtain ⟨rfl,HS⟩:=hcut
   have hbw:=(tQ hbel HS)
   cases hgt:gtR y r
   · have HPL:=yD (HNO.out (HG.out.trans hgt))
     clear HY HNO HG
     have HPUT:=yD (put_at (show k=_ from HPL.out))
     replace K0:=cL HS K0
     replace K1:=cL HS K1
     replace K2:=cL HS K2
     generalize wc=wq at *
     clear HS
     have HRD:=yD (HLB.out.below hbw)
     have HTK:=yD (Rep.kIo HRD.out (k:=k) hkm)
     have hLB:l.length < 16777216:=hlen
     have hzw:=hbw.size
     go_upto_region 4 with fail
     by_cases hkc2:k < lp
     · have hck:¬ lp=k:=fV
       rcases HFM.out with ⟨h1,h2⟩|⟨b,hb⟩
       · exact absurd hkc2 fV
       first | subst hb|(simp only [Option.some.injEq,Addr.mk.injEq,and_true] at hb;obtain ⟨rfl,rfl⟩:=hb)
       have HDR:=yD (Rep.drop_rd HRD.out (k:=k) hkm)
       rw [Nat.zero_add,show k * (Rep.yU kE w0).n=k * 3 from rfl] at HDR
       have FX:=yD (fun (W:World) (hW:Below wq.heap.size wq W)=>cLs3 hW K0 K1 K2)
       refine yO (fun W=>Below wq.heap.size wq W) fP (bR.drew) ?_
       intro wS HS
       refine kU 1 ?_
       refine wkP ?_
       refine kU 2 ?_
       refine wkP ?_
       refine kU 3 ?_
       refine wkP ?_
       refine kU 5 ?_
       refine wkP ?_
       refine kU 8 ?_
       refine wkP ?_
       refine kU 9 ?_
       refine wkP ?_
       refine kU 10 ?_
       refine wkP ?_
       refine yw (i:=0) (j:=6) rfl rfl fP rfl rfl (fun K hK=>?_) (fun K hK=>?_)
       · have bn0:=HS.size
         go_simp
         generalize hwN:World.alloc wS _=t0
         have bN:Below wS.heap.size wS t0:=dE
         have zN0:=bN.size
         clear hwN
         replace HS:=(tQ HS bN)
         refine hK _ _ HS ?_
         clear hK K bN
         refine wkP ?_
         refine yw (i:=4) (j:=6) rfl rfl fP rfl rfl (fun K hK=>?_) (fun K hK=>?_)
         · have bn1:=HS.size
           obtain ⟨v1,t1,hr,HV,hbN,zN1⟩:=kL (w:=t0) (v:=.slice (some ⟨wS.heap.size,0,none⟩) 0 0) (xs:=[]) (S:=fun _=>False) (B:=t0.heap.size) Rep.kH.void (HTK.out.below HS) (fun _ h=>h.elim) nL fQ
           refine Rep.kM _ _ _ rfl gB gB hr ?_
           obtain ⟨a1,n1,c1,hv1,HN1⟩:=HV.parts
           obtain rfl:=hv1
           replace HS:=(tQ HS hbN)
           refine hK _ _ HS ?_
           clear hK K hr hbN
           refine wkP ?_
           refine kS (k:=6) rfl fP rfl (fun K hK=>?_)
           have bn2:=HS.size
           go_simp
           have RL:=jD (w:=t1) (cs:=[.slice ra r.1.length rp,.int .i64 r.2.1,.int .i64 r.2.2]) (x:=r) (show (Rep.yU kE w0).is true _ [_,_,_] r _ from HR.out.1) HR.out.2
           have bN0:Below t1.heap.size t1 (World.alloc t1 (.cells #[.slice ra r.1.length rp,.int .i64 r.2.1,.int .i64 r.2.2] 29)):=bR.alloc nL _
           generalize hwN:World.alloc t1 (.cells #[.slice ra r.1.length rp,.int .i64 r.2.1,.int .i64 r.2.2] 29)=t2 at RL bN0 ⊢
           have zN2:=bN0.size
           have bN:=bN0
           clear hwN bN0
           replace HV:=HV.below bN
           replace HS:=(tQ HS bN)
           refine hK _ _ HS ?_
           clear hK K bN
           refine wkP ?_
           refine kS (k:=7) rfl fP rfl (fun K hK=>?_)
           have bn3:=HS.size
           obtain ⟨v2,t3,hr,HV2,hbN,zN3⟩:=kL (B:=wq.heap.size) HV RL bI HS.size fQ
           refine Rep.kM _ _ _ rfl gB gB hr ?_
           obtain ⟨a2,n2,c2,hv2,HN2⟩:=HV2.parts
           obtain rfl:=hv2
           replace HS:=HS.trans hbN
           have HV3:=HV2;clear HV;have HV:=HV3;clear HV2 HV3 RL
           refine hK _ _ HS ?_
           clear hK K hr hbN
           refine wkP ?_
           refine kS (k:=11) rfl fP rfl (fun K hK=>?_)
           have bn4:=HS.size
           obtain ⟨v3,t4,hr,HV2,hbN,zN4⟩:=kL (B:=wq.heap.size) HV (HDR.out.below HS) cK HS.size fQ
           refine Rep.kM _ _ _ rfl gB gB hr ?_
           obtain ⟨a3,n3,c3,hv3,HN3⟩:=HV2.parts
           obtain rfl:=hv3
           replace HS:=HS.trans hbN
           have HV3:=HV2;clear HV;have HV:=HV3;clear HV2 HV3
           refine hK _ _ HS ?_
           clear hK K hr hbN
           refine wkP ?_
           refine kU 12 ?_
           refine wkP ?_
           refine jd fP ?_
           have HPQ:=yD (Rep.kH.cast HV (show _=Srt.put jQ l r from by rw [HPUT.out,List.nil_append]))
           have hzz:=HS.size
           have HFB:=yD ((tQ EB (tQ hbw HS)))
           clear HV HPUT
           go_wp2
           go_ret
           exact ⟨_,rfl,HPQ.out.wide cO,HFB.out⟩
         have bn1:=HS.size
         go_simp
         have RL:=jD (w:=t0) (cs:=[.slice ra r.1.length rp,.int .i64 r.2.1,.int .i64 r.2.2]) (x:=r) (show (Rep.yU kE w0).is true _ [_,_,_] r _ from HR.out.1) HR.out.2
         have bN0:Below t0.heap.size t0 (World.alloc t0 (.cells #[.slice ra r.1.length rp,.int .i64 r.2.1,.int .i64 r.2.2] 29)):=bR.alloc nL _
         generalize hwN:World.alloc t0 (.cells #[.slice ra r.1.length rp,.int .i64 r.2.1,.int .i64 r.2.2] 29)=t1 at RL bN0 ⊢
         have zN1:=bN0.size
         have bN:=bN0
         clear hwN bN0
         replace HS:=(tQ HS bN)
         refine hK _ _ HS ?_
         clear hK K bN
         refine wkP ?_
         refine kS (k:=4) rfl fP rfl (fun K hK=>?_)
         have bn2:=HS.size
         obtain ⟨v1,t2,hr,HV,hbN,zN2⟩:=kL (w:=t1) (v:=.slice (some ⟨wS.heap.size,0,none⟩) 0 0) (xs:=[]) (S:=fun _=>False) (B:=t1.heap.size) Rep.kH.void (HTK.out.below HS) (fun _ h=>h.elim) nL fQ
         refine Rep.kM _ _ _ rfl gB gB hr ?_
         obtain ⟨a1,n1,c1,hv1,HN1⟩:=HV.parts
         obtain rfl:=hv1
         replace RL:=RL.below hbN
         replace HS:=(tQ HS hbN)
         refine hK _ _ HS ?_
         clear hK K hr hbN
         refine wkP ?_
         refine kS (k:=7) rfl fP rfl (fun K hK=>?_)
         have bn3:=HS.size
         obtain ⟨v2,t3,hr,HV2,hbN,zN3⟩:=kL (B:=wq.heap.size) HV RL bI HS.size fQ
         refine Rep.kM _ _ _ rfl gB gB hr ?_
         obtain ⟨a2,n2,c2,hv2,HN2⟩:=HV2.parts
         obtain rfl:=hv2
         replace HS:=HS.trans hbN
         have HV3:=HV2;clear HV;have HV:=HV3;clear HV2 HV3 RL
         refine hK _ _ HS ?_
         clear hK K hr hbN
         refine wkP ?_
         refine kS (k:=11) rfl fP rfl (fun K hK=>?_)
         have bn4:=HS.size
         obtain ⟨v3,t4,hr,HV2,hbN,zN4⟩:=kL (B:=wq.heap.size) HV (HDR.out.below HS) cK HS.size fQ
         refine Rep.kM _ _ _ rfl gB gB hr ?_
         obtain ⟨a3,n3,c3,hv3,HN3⟩:=HV2.parts
         obtain rfl:=hv3
         replace HS:=HS.trans hbN
         have HV3:=HV2;clear HV;have HV:=HV3;clear HV2 HV3
         refine hK _ _ HS ?_
         clear hK K hr hbN
         refine wkP ?_
         refine kU 12 ?_
         refine wkP ?_
         refine jd fP ?_
         have HPQ:=yD (Rep.kH.cast HV (show _=Srt.put jQ l r from by rw [HPUT.out,List.nil_append]))
         have hzz:=HS.size
         have HFB:=yD ((tQ EB (tQ hbw HS)))
         clear HV HPUT
         go_wp2
         go_ret
         exact ⟨_,rfl,HPQ.out.wide cO,HFB.out⟩
       have bn0:=HS.size
       go_simp
       have RL:=jD (w:=wS) (cs:=[.slice ra r.1.length rp,.int .i64 r.2.1,.int .i64 r.2.2]) (x:=r) (show (Rep.yU kE w0).is true _ [_,_,_] r _ from HR.out.1) HR.out.2
       have bN0:Below wS.heap.size wS (World.alloc wS (.cells #[.slice ra r.1.length rp,.int .i64 r.2.1,.int .i64 r.2.2] 29)):=bR.alloc nL _
       generalize hwN:World.alloc wS (.cells #[.slice ra r.1.length rp,.int .i64 r.2.1,.int .i64 r.2.2] 29)=t0 at RL bN0 ⊢
       have zN0:=bN0.size
       have bN:=bN0
       clear hwN bN0
       replace HS:=(tQ HS bN)
       refine hK _ _ HS ?_
       clear hK K bN
       refine wkP ?_
       refine kS (k:=0) rfl fP rfl (fun K hK=>?_)
       have bn1:=HS.size
       go_simp
       generalize hwN:World.alloc t0 _=t1
       have bN:Below t0.heap.size t0 t1:=dE
       have zN1:=bN.size
       clear hwN
       replace RL:=RL.below bN
       replace HS:=(tQ HS bN)
       refine hK _ _ HS ?_
       clear hK K bN
       refine wkP ?_
       refine kS (k:=4) rfl fP rfl (fun K hK=>?_)
       have bn2:=HS.size
       obtain ⟨v1,t2,hr,HV,hbN,zN2⟩:=kL (w:=t1) (v:=.slice (some ⟨t0.heap.size,0,none⟩) 0 0) (xs:=[]) (S:=fun _=>False) (B:=t1.heap.size) Rep.kH.void (HTK.out.below HS) (fun _ h=>h.elim) nL fQ
       refine Rep.kM _ _ _ rfl gB gB hr ?_
       obtain ⟨a1,n1,c1,hv1,HN1⟩:=HV.parts
       obtain rfl:=hv1
       replace RL:=RL.below hbN
       replace HS:=(tQ HS hbN)
       refine hK _ _ HS ?_
       clear hK K hr hbN
       refine wkP ?_
       refine kS (k:=7) rfl fP rfl (fun K hK=>?_)
       have bn3:=HS.size
       obtain ⟨v2,t3,hr,HV2,hbN,zN3⟩:=kL (B:=wq.heap.size) HV RL bI HS.size fQ
       refine Rep.kM _ _ _ rfl gB gB hr ?_
       obtain ⟨a2,n2,c2,hv2,HN2⟩:=HV2.parts
       obtain rfl:=hv2
       replace HS:=HS.trans hbN
       have HV3:=HV2;clear HV;have HV:=HV3;clear HV2 HV3 RL
       refine hK _ _ HS ?_
       clear hK K hr hbN
       refine wkP ?_
       refine kS (k:=11) rfl fP rfl (fun K hK=>?_)
       have bn4:=HS.size
       obtain ⟨v3,t4,hr,HV2,hbN,zN4⟩:=kL (B:=wq.heap.size) HV (HDR.out.below HS) cK HS.size fQ
       refine Rep.kM _ _ _ rfl gB gB hr ?_
       obtain ⟨a3,n3,c3,hv3,HN3⟩:=HV2.parts
       obtain rfl:=hv3
       replace HS:=HS.trans hbN
       have HV3:=HV2;clear HV;have HV:=HV3;clear HV2 HV3
       refine hK _ _ HS ?_
       clear hK K hr hbN
       refine wkP ?_
       refine kU 12 ?_
       refine wkP ?_
       refine jd fP ?_
       have HPQ:=yD (Rep.kH.cast HV (show _=Srt.put jQ l r from by rw [HPUT.out,List.nil_append]))
       have hzz:=HS.size
       have HFB:=yD ((tQ EB (tQ hbw HS)))
       clear HV HPUT
       go_wp2
       go_ret
       exact ⟨_,rfl,HPQ.out.wide cO,HFB.out⟩
     have hck:lp=k:=fV
     subst hck
     have HDR:=fun (ad:Option Addr)=>yD (show (Rep.slice 29 (Rep.yU kE w0)).rd wq [.slice ad 0 0] (l.drop lp) from by rw [List.drop_eq_nil_of_le fV];exact Rep.void_rd dU)
     have FX:=yD (fun (W:World) (hW:Below wq.heap.size wq W)=>cLs3 hW K0 K1 K2)
     refine yO (fun W=>Below wq.heap.size wq W) fP (bR.drew) ?_
     intro wS HS
     refine kU 1 ?_
     refine wkP ?_
     refine kU 2 ?_
     refine wkP ?_
     refine kU 3 ?_
     refine wkP ?_
     refine kU 5 ?_
     refine wkP ?_
     refine kU 8 ?_
     refine wkP ?_
     refine kU 9 ?_
     refine wkP ?_
     refine kU 10 ?_
     refine wkP ?_
     refine yw (i:=0) (j:=6) rfl rfl fP rfl rfl (fun K hK=>?_) (fun K hK=>?_)
     · have bn0:=HS.size
       go_simp
       generalize hwN:World.alloc wS _=t0
       have bN:Below wS.heap.size wS t0:=dE
       have zN0:=bN.size
       clear hwN
       replace HS:=(tQ HS bN)
       refine hK _ _ HS ?_
       clear hK K bN
       refine wkP ?_
       refine yw (i:=4) (j:=6) rfl rfl fP rfl rfl (fun K hK=>?_) (fun K hK=>?_)
       · have bn1:=HS.size
         obtain ⟨v1,t1,hr,HV,hbN,zN1⟩:=kL (w:=t0) (v:=.slice (some ⟨wS.heap.size,0,none⟩) 0 0) (xs:=[]) (S:=fun _=>False) (B:=t0.heap.size) Rep.kH.void (HTK.out.below HS) (fun _ h=>h.elim) nL fQ
         refine Rep.kM _ _ _ rfl gB gB hr ?_
         obtain ⟨a1,n1,c1,hv1,HN1⟩:=HV.parts
         obtain rfl:=hv1
         replace HS:=(tQ HS hbN)
         refine hK _ _ HS ?_
         clear hK K hr hbN
         refine wkP ?_
         refine kS (k:=6) rfl fP rfl (fun K hK=>?_)
         have bn2:=HS.size
         go_simp
         have RL:=jD (w:=t1) (cs:=[.slice ra r.1.length rp,.int .i64 r.2.1,.int .i64 r.2.2]) (x:=r) (show (Rep.yU kE w0).is true _ [_,_,_] r _ from HR.out.1) HR.out.2
         have bN0:Below t1.heap.size t1 (World.alloc t1 (.cells #[.slice ra r.1.length rp,.int .i64 r.2.1,.int .i64 r.2.2] 29)):=bR.alloc nL _
         generalize hwN:World.alloc t1 (.cells #[.slice ra r.1.length rp,.int .i64 r.2.1,.int .i64 r.2.2] 29)=t2 at RL bN0 ⊢
         have zN2:=bN0.size
         have bN:=bN0
         clear hwN bN0
         replace HV:=HV.below bN
         replace HS:=(tQ HS bN)
         refine hK _ _ HS ?_
         clear hK K bN
         refine wkP ?_
         refine kS (k:=7) rfl fP rfl (fun K hK=>?_)
         have bn3:=HS.size
         obtain ⟨v2,t3,hr,HV2,hbN,zN3⟩:=kL (B:=wq.heap.size) HV RL bI HS.size fQ
         refine Rep.kM _ _ _ rfl gB gB hr ?_
         obtain ⟨a2,n2,c2,hv2,HN2⟩:=HV2.parts
         obtain rfl:=hv2
         replace HS:=HS.trans hbN
         have HV3:=HV2;clear HV;have HV:=HV3;clear HV2 HV3 RL
         refine hK _ _ HS ?_
         clear hK K hr hbN
         refine wkP ?_
         refine kS (k:=11) rfl fP rfl (fun K hK=>?_)
         have bn4:=HS.size
         obtain ⟨v3,t4,hr,HV2,hbN,zN4⟩:=kL (B:=wq.heap.size) HV ((HDR _).out.below HS) cK HS.size fQ
         refine Rep.kM _ _ _ rfl gB gB hr ?_
         obtain ⟨a3,n3,c3,hv3,HN3⟩:=HV2.parts
         obtain rfl:=hv3
         replace HS:=HS.trans hbN
         have HV3:=HV2;clear HV;have HV:=HV3;clear HV2 HV3
         refine hK _ _ HS ?_
         clear hK K hr hbN
         refine wkP ?_
         refine kU 12 ?_
         refine wkP ?_
         refine jd fP ?_
         have HPQ:=yD (Rep.kH.cast HV (show _=Srt.put jQ l r from by rw [HPUT.out,List.nil_append]))
         have hzz:=HS.size
         have HFB:=yD ((tQ EB (tQ hbw HS)))
         clear HV HPUT
         go_wp2
         go_ret
         exact ⟨_,rfl,HPQ.out.wide cO,HFB.out⟩
       have bn1:=HS.size
       go_simp
       have RL:=jD (w:=t0) (cs:=[.slice ra r.1.length rp,.int .i64 r.2.1,.int .i64 r.2.2]) (x:=r) (show (Rep.yU kE w0).is true _ [_,_,_] r _ from HR.out.1) HR.out.2
       have bN0:Below t0.heap.size t0 (World.alloc t0 (.cells #[.slice ra r.1.length rp,.int .i64 r.2.1,.int .i64 r.2.2] 29)):=bR.alloc nL _
       generalize hwN:World.alloc t0 (.cells #[.slice ra r.1.length rp,.int .i64 r.2.1,.int .i64 r.2.2] 29)=t1 at RL bN0 ⊢
       have zN1:=bN0.size
       have bN:=bN0
       clear hwN bN0
       replace HS:=(tQ HS bN)
       refine hK _ _ HS ?_
       clear hK K bN
       refine wkP ?_
       refine kS (k:=4) rfl fP rfl (fun K hK=>?_)
       have bn2:=HS.size
       obtain ⟨v1,t2,hr,HV,hbN,zN2⟩:=kL (w:=t1) (v:=.slice (some ⟨wS.heap.size,0,none⟩) 0 0) (xs:=[]) (S:=fun _=>False) (B:=t1.heap.size) Rep.kH.void (HTK.out.below HS) (fun _ h=>h.elim) nL fQ
       refine Rep.kM _ _ _ rfl gB gB hr ?_
       obtain ⟨a1,n1,c1,hv1,HN1⟩:=HV.parts
       obtain rfl:=hv1
       replace RL:=RL.below hbN
       replace HS:=(tQ HS hbN)
       refine hK _ _ HS ?_
       clear hK K hr hbN
       refine wkP ?_
       refine kS (k:=7) rfl fP rfl (fun K hK=>?_)
       have bn3:=HS.size
       obtain ⟨v2,t3,hr,HV2,hbN,zN3⟩:=kL (B:=wq.heap.size) HV RL bI HS.size fQ
       refine Rep.kM _ _ _ rfl gB gB hr ?_
       obtain ⟨a2,n2,c2,hv2,HN2⟩:=HV2.parts
       obtain rfl:=hv2
       replace HS:=HS.trans hbN
       have HV3:=HV2;clear HV;have HV:=HV3;clear HV2 HV3 RL
       refine hK _ _ HS ?_
       clear hK K hr hbN
       refine wkP ?_
       refine kS (k:=11) rfl fP rfl (fun K hK=>?_)
       have bn4:=HS.size
       obtain ⟨v3,t4,hr,HV2,hbN,zN4⟩:=kL (B:=wq.heap.size) HV ((HDR _).out.below HS) cK HS.size fQ
       refine Rep.kM _ _ _ rfl gB gB hr ?_
       obtain ⟨a3,n3,c3,hv3,HN3⟩:=HV2.parts
       obtain rfl:=hv3
       replace HS:=HS.trans hbN
       have HV3:=HV2;clear HV;have HV:=HV3;clear HV2 HV3
       refine hK _ _ HS ?_
       clear hK K hr hbN
       refine wkP ?_
       refine kU 12 ?_
       refine wkP ?_
       refine jd fP ?_
       have HPQ:=yD (Rep.kH.cast HV (show _=Srt.put jQ l r from by rw [HPUT.out,List.nil_append]))
       have hzz:=HS.size
       have HFB:=yD ((tQ EB (tQ hbw HS)))
       clear HV HPUT
       go_wp2
       go_ret
       exact ⟨_,rfl,HPQ.out.wide cO,HFB.out⟩
     have bn0:=HS.size
     go_simp
     have RL:=jD (w:=wS) (cs:=[.slice ra r.1.length rp,.int .i64 r.2.1,.int .i64 r.2.2]) (x:=r) (show (Rep.yU kE w0).is true _ [_,_,_] r _ from HR.out.1) HR.out.2
     have bN0:Below wS.heap.size wS (World.alloc wS (.cells #[.slice ra r.1.length rp,.int .i64 r.2.1,.int .i64 r.2.2] 29)):=bR.alloc nL _
     generalize hwN:World.alloc wS (.cells #[.slice ra r.1.length rp,.int .i64 r.2.1,.int .i64 r.2.2] 29)=t0 at RL bN0 ⊢
     have zN0:=bN0.size
     have bN:=bN0
     clear hwN bN0
     replace HS:=(tQ HS bN)
     refine hK _ _ HS ?_
     clear hK K bN
     refine wkP ?_
     refine kS (k:=0) rfl fP rfl (fun K hK=>?_)
     have bn1:=HS.size
     go_simp
     generalize hwN:World.alloc t0 _=t1
     have bN:Below t0.heap.size t0 t1:=dE
     have zN1:=bN.size
     clear hwN
     replace RL:=RL.below bN
     replace HS:=(tQ HS bN)
     refine hK _ _ HS ?_
     clear hK K bN
     refine wkP ?_
     refine kS (k:=4) rfl fP rfl (fun K hK=>?_)
     have bn2:=HS.size
     obtain ⟨v1,t2,hr,HV,hbN,zN2⟩:=kL (w:=t1) (v:=.slice (some ⟨t0.heap.size,0,none⟩) 0 0) (xs:=[]) (S:=fun _=>False) (B:=t1.heap.size) Rep.kH.void (HTK.out.below HS) (fun _ h=>h.elim) nL fQ
     refine Rep.kM _ _ _ rfl gB gB hr ?_
     obtain ⟨a1,n1,c1,hv1,HN1⟩:=HV.parts
     obtain rfl:=hv1
     replace RL:=RL.below hbN
     replace HS:=(tQ HS hbN)
     refine hK _ _ HS ?_
     clear hK K hr hbN
     refine wkP ?_
     refine kS (k:=7) rfl fP rfl (fun K hK=>?_)
     have bn3:=HS.size
     obtain ⟨v2,t3,hr,HV2,hbN,zN3⟩:=kL (B:=wq.heap.size) HV RL bI HS.size fQ
     refine Rep.kM _ _ _ rfl gB gB hr ?_
     obtain ⟨a2,n2,c2,hv2,HN2⟩:=HV2.parts
     obtain rfl:=hv2
     replace HS:=HS.trans hbN
     have HV3:=HV2;clear HV;have HV:=HV3;clear HV2 HV3 RL
     refine hK _ _ HS ?_
     clear hK K hr hbN
     refine wkP ?_
     refine kS (k:=11) rfl fP rfl (fun K hK=>?_)
     have bn4:=HS.size
     obtain ⟨v3,t4,hr,HV2,hbN,zN4⟩:=kL (B:=wq.heap.size) HV ((HDR _).out.below HS) cK HS.size fQ
     refine Rep.kM _ _ _ rfl gB gB hr ?_
     obtain ⟨a3,n3,c3,hv3,HN3⟩:=HV2.parts
     obtain rfl:=hv3
     replace HS:=HS.trans hbN
     have HV3:=HV2;clear HV;have HV:=HV3;clear HV2 HV3
     refine hK _ _ HS ?_
     clear hK K hr hbN
     refine wkP ?_
     refine kU 12 ?_
     refine wkP ?_
     refine jd fP ?_
     have HPQ:=yD (Rep.kH.cast HV (show _=Srt.put jQ l r from by rw [HPUT.out,List.nil_append]))
     have hzz:=HS.size
     have HFB:=yD ((tQ EB (tQ hbw HS)))
     clear HV HPUT
     go_wp2
     go_ret
     exact ⟨_,rfl,HPQ.out.wide cO,HFB.out⟩
   have HP2:=yD (HY.out (HG.out.trans hgt))
   clear HY HNO HG hgt
   go_wp2
   go_roundw
   case rel=>exact ⟨j,by omega,rfl,HP2,hbw⟩
   simp [intOf];omega
 have hk00:k=0:=fV
 have hp:decide ((k:Int) > 0)=false:=fQ
 have hp3:¬ (0:Int) < k:=fV
 have HPL:Hid (k=Srt.place jQ l.length l r):=yD (by rw [← HP.out,hk00];rfl)
 clear hk00
 go_upto_region 2 with fail
 refine kI (fun W=>Below wr.heap.size wr W) [true,true,true,true,true,true,true,true,true,true,true,true,true,true,true,true,true,true,true,true,true,true,true,true,true,true,true,true,true,true,true,true,true,true,true] fP fP bW (bR.drew) ?_
 intro wS HS
 all_goals refine wkR ?_
 all_goals refine wkR ?_
 all_goals (have hg2:=True.intro;first|(refine wkG (fun b hg2=>?_);cases b;all_goals first | exact Bool.noConfusion hg2 | simp only [zU,zV] at hg2 | skip) | refine wkR ?_)
 all_goals refine wkP ?_
 iterate 9
  all_goals refine wkR ?_
 all_goals (have hg12:=True.intro;first|(refine wkG (fun b hg12=>?_);cases b;all_goals first | exact Bool.noConfusion hg12 | simp only [zU,zV] at hg12 | skip) | refine wkR ?_)
 all_goals refine wkP ?_
 iterate 9
  all_goals refine wkR ?_
 all_goals (have hg22:=True.intro;first|(refine wkG (fun b hg22=>?_);cases b;all_goals first | exact Bool.noConfusion hg22 | simp only [zU,zV] at hg22 | skip) | refine wkR ?_)
 all_goals refine wkP ?_
 iterate 11
  all_goals refine wkR ?_
 all_goals (have hg34:=True.intro;first|(refine wkG (fun b hg34=>?_);cases b;all_goals first | exact Bool.noConfusion hg34 | simp only [zU,zV] at hg34 | skip) | refine wkR ?_)
 all_goals refine wkP ?_
 all_goals refine kQ ?_
 all_goals have hbw:=(tQ hbel HS)
 have HPUT:=yD (put_at (show k=_ from HPL.out))
 replace K0:=cL HS K0
 replace K1:=cL HS K1
 replace K2:=cL HS K2
 generalize wS=wq at *
 clear HS
 have HRD:=yD (HLB.out.below hbw)
 have HTK:=yD (Rep.kIo HRD.out (k:=k) hkm)
 have hLB:l.length < 16777216:=hlen
 have hzw:=hbw.size
 go_upto_region 4 with fail
 by_cases hkc2:k < lp
 · have hck:¬ lp=k:=fV
   rcases HFM.out with ⟨h1,h2⟩|⟨b,hb⟩
   · exact absurd hkc2 fV
   first | subst hb|(simp only [Option.some.injEq,Addr.mk.injEq,and_true] at hb;obtain ⟨rfl,rfl⟩:=hb)
   have HDR:=yD (Rep.drop_rd HRD.out (k:=k) hkm)
   rw [Nat.zero_add,show k * (Rep.yU kE w0).n=k * 3 from rfl] at HDR
   have FX:=yD (fun (W:World) (hW:Below wq.heap.size wq W)=>cLs3 hW K0 K1 K2)
   refine yO (fun W=>Below wq.heap.size wq W) fP (bR.drew) ?_
   intro wS HS
   refine kU 1 ?_
   refine wkP ?_
   refine kU 2 ?_
   refine wkP ?_
   refine kU 3 ?_
   refine wkP ?_
   refine kU 5 ?_
   refine wkP ?_
   refine kU 8 ?_
   refine wkP ?_
   refine kU 9 ?_
   refine wkP ?_
   refine kU 10 ?_
   refine wkP ?_
   refine yw (i:=0) (j:=6) rfl rfl fP rfl rfl (fun K hK=>?_) (fun K hK=>?_)
   · have bn0:=HS.size
     go_simp
     generalize hwN:World.alloc wS _=t0
     have bN:Below wS.heap.size wS t0:=dE
     have zN0:=bN.size
     clear hwN
     replace HS:=(tQ HS bN)
     refine hK _ _ HS ?_
     clear hK K bN
     refine wkP ?_
     refine yw (i:=4) (j:=6) rfl rfl fP rfl rfl (fun K hK=>?_) (fun K hK=>?_)
     · have bn1:=HS.size
       obtain ⟨v1,t1,hr,HV,hbN,zN1⟩:=kL (w:=t0) (v:=.slice (some ⟨wS.heap.size,0,none⟩) 0 0) (xs:=[]) (S:=fun _=>False) (B:=t0.heap.size) Rep.kH.void (HTK.out.below HS) (fun _ h=>h.elim) nL fQ
       refine Rep.kM _ _ _ rfl gB gB hr ?_
       obtain ⟨a1,n1,c1,hv1,HN1⟩:=HV.parts
       obtain rfl:=hv1
       replace HS:=(tQ HS hbN)
       refine hK _ _ HS ?_
       clear hK K hr hbN
       refine wkP ?_
       refine kS (k:=6) rfl fP rfl (fun K hK=>?_)
       have bn2:=HS.size
       go_simp
       have RL:=jD (w:=t1) (cs:=[.slice ra r.1.length rp,.int .i64 r.2.1,.int .i64 r.2.2]) (x:=r) (show (Rep.yU kE w0).is true _ [_,_,_] r _ from HR.out.1) HR.out.2
       have bN0:Below t1.heap.size t1 (World.alloc t1 (.cells #[.slice ra r.1.length rp,.int .i64 r.2.1,.int .i64 r.2.2] 29)):=bR.alloc nL _
       generalize hwN:World.alloc t1 (.cells #[.slice ra r.1.length rp,.int .i64 r.2.1,.int .i64 r.2.2] 29)=t2 at RL bN0 ⊢
       have zN2:=bN0.size
       have bN:=bN0
       clear hwN bN0
       replace HV:=HV.below bN
       replace HS:=(tQ HS bN)
       refine hK _ _ HS ?_
       clear hK K bN
       refine wkP ?_
       refine kS (k:=7) rfl fP rfl (fun K hK=>?_)
       have bn3:=HS.size
       obtain ⟨v2,t3,hr,HV2,hbN,zN3⟩:=kL (B:=wq.heap.size) HV RL bI HS.size fQ
       refine Rep.kM _ _ _ rfl gB gB hr ?_
       obtain ⟨a2,n2,c2,hv2,HN2⟩:=HV2.parts
       obtain rfl:=hv2
       replace HS:=HS.trans hbN
       have HV3:=HV2;clear HV;have HV:=HV3;clear HV2 HV3 RL
       refine hK _ _ HS ?_
       clear hK K hr hbN
       refine wkP ?_
       refine kS (k:=11) rfl fP rfl (fun K hK=>?_)
       have bn4:=HS.size
       obtain ⟨v3,t4,hr,HV2,hbN,zN4⟩:=kL (B:=wq.heap.size) HV (HDR.out.below HS) cK HS.size fQ
       refine Rep.kM _ _ _ rfl gB gB hr ?_
       obtain ⟨a3,n3,c3,hv3,HN3⟩:=HV2.parts
       obtain rfl:=hv3
       replace HS:=HS.trans hbN
       have HV3:=HV2;clear HV;have HV:=HV3;clear HV2 HV3
       refine hK _ _ HS ?_
       clear hK K hr hbN
       refine wkP ?_
       refine kU 12 ?_
       refine wkP ?_
       refine jd fP ?_
       have HPQ:=yD (Rep.kH.cast HV (show _=Srt.put jQ l r from by rw [HPUT.out,List.nil_append]))
       have hzz:=HS.size
       have HFB:=yD ((tQ EB (tQ hbw HS)))
       clear HV HPUT
       go_wp2
       go_ret
       exact ⟨_,rfl,HPQ.out.wide cO,HFB.out⟩
     have bn1:=HS.size
     go_simp
     have RL:=jD (w:=t0) (cs:=[.slice ra r.1.length rp,.int .i64 r.2.1,.int .i64 r.2.2]) (x:=r) (show (Rep.yU kE w0).is true _ [_,_,_] r _ from HR.out.1) HR.out.2
     have bN0:Below t0.heap.size t0 (World.alloc t0 (.cells #[.slice ra r.1.length rp,.int .i64 r.2.1,.int .i64 r.2.2] 29)):=bR.alloc nL _
     generalize hwN:World.alloc t0 (.cells #[.slice ra r.1.length rp,.int .i64 r.2.1,.int .i64 r.2.2] 29)=t1 at RL bN0 ⊢
     have zN1:=bN0.size
     have bN:=bN0
     clear hwN bN0
     replace HS:=(tQ HS bN)
     refine hK _ _ HS ?_
     clear hK K bN
     refine wkP ?_
     refine kS (k:=4) rfl fP rfl (fun K hK=>?_)
     have bn2:=HS.size
     obtain ⟨v1,t2,hr,HV,hbN,zN2⟩:=kL (w:=t1) (v:=.slice (some ⟨wS.heap.size,0,none⟩) 0 0) (xs:=[]) (S:=fun _=>False) (B:=t1.heap.size) Rep.kH.void (HTK.out.below HS) (fun _ h=>h.elim) nL fQ
     refine Rep.kM _ _ _ rfl gB gB hr ?_
     obtain ⟨a1,n1,c1,hv1,HN1⟩:=HV.parts
     obtain rfl:=hv1
     replace RL:=RL.below hbN
     replace HS:=(tQ HS hbN)
     refine hK _ _ HS ?_
     clear hK K hr hbN
     refine wkP ?_
     refine kS (k:=7) rfl fP rfl (fun K hK=>?_)
     have bn3:=HS.size
     obtain ⟨v2,t3,hr,HV2,hbN,zN3⟩:=kL (B:=wq.heap.size) HV RL bI HS.size fQ
     refine Rep.kM _ _ _ rfl gB gB hr ?_
     obtain ⟨a2,n2,c2,hv2,HN2⟩:=HV2.parts
     obtain rfl:=hv2
     replace HS:=HS.trans hbN
     have HV3:=HV2;clear HV;have HV:=HV3;clear HV2 HV3 RL
     refine hK _ _ HS ?_
     clear hK K hr hbN
     refine wkP ?_
     refine kS (k:=11) rfl fP rfl (fun K hK=>?_)
     have bn4:=HS.size
     obtain ⟨v3,t4,hr,HV2,hbN,zN4⟩:=kL (B:=wq.heap.size) HV (HDR.out.below HS) cK HS.size fQ
     refine Rep.kM _ _ _ rfl gB gB hr ?_
     obtain ⟨a3,n3,c3,hv3,HN3⟩:=HV2.parts
     obtain rfl:=hv3
     replace HS:=HS.trans hbN
     have HV3:=HV2;clear HV;have HV:=HV3;clear HV2 HV3
     refine hK _ _ HS ?_
     clear hK K hr hbN
     refine wkP ?_
     refine kU 12 ?_
     refine wkP ?_
     refine jd fP ?_
     have HPQ:=yD (Rep.kH.cast HV (show _=Srt.put jQ l r from by rw [HPUT.out,List.nil_append]))
     have hzz:=HS.size
     have HFB:=yD ((tQ EB (tQ hbw HS)))
     clear HV HPUT
     go_wp2
     go_ret
     exact ⟨_,rfl,HPQ.out.wide cO,HFB.out⟩
   have bn0:=HS.size
   go_simp
   have RL:=jD (w:=wS) (cs:=[.slice ra r.1.length rp,.int .i64 r.2.1,.int .i64 r.2.2]) (x:=r) (show (Rep.yU kE w0).is true _ [_,_,_] r _ from HR.out.1) HR.out.2
   have bN0:Below wS.heap.size wS (World.alloc wS (.cells #[.slice ra r.1.length rp,.int .i64 r.2.1,.int .i64 r.2.2] 29)):=bR.alloc nL _
   generalize hwN:World.alloc wS (.cells #[.slice ra r.1.length rp,.int .i64 r.2.1,.int .i64 r.2.2] 29)=t0 at RL bN0 ⊢
   have zN0:=bN0.size
   have bN:=bN0
   clear hwN bN0
   replace HS:=(tQ HS bN)
   refine hK _ _ HS ?_
   clear hK K bN
   refine wkP ?_
   refine kS (k:=0) rfl fP rfl (fun K hK=>?_)
   have bn1:=HS.size
   go_simp
   generalize hwN:World.alloc t0 _=t1
   have bN:Below t0.heap.size t0 t1:=dE
   have zN1:=bN.size
   clear hwN
   replace RL:=RL.below bN
   replace HS:=(tQ HS bN)
   refine hK _ _ HS ?_
   clear hK K bN
   refine wkP ?_
   refine kS (k:=4) rfl fP rfl (fun K hK=>?_)
   have bn2:=HS.size
   obtain ⟨v1,t2,hr,HV,hbN,zN2⟩:=kL (w:=t1) (v:=.slice (some ⟨t0.heap.size,0,none⟩) 0 0) (xs:=[]) (S:=fun _=>False) (B:=t1.heap.size) Rep.kH.void (HTK.out.below HS) (fun _ h=>h.elim) nL fQ
   refine Rep.kM _ _ _ rfl gB gB hr ?_
   obtain ⟨a1,n1,c1,hv1,HN1⟩:=HV.parts
   obtain rfl:=hv1
   replace RL:=RL.below hbN
   replace HS:=(tQ HS hbN)
   refine hK _ _ HS ?_
   clear hK K hr hbN
   refine wkP ?_
   refine kS (k:=7) rfl fP rfl (fun K hK=>?_)
   have bn3:=HS.size
   obtain ⟨v2,t3,hr,HV2,hbN,zN3⟩:=kL (B:=wq.heap.size) HV RL bI HS.size fQ
   refine Rep.kM _ _ _ rfl gB gB hr ?_
   obtain ⟨a2,n2,c2,hv2,HN2⟩:=HV2.parts
   obtain rfl:=hv2
   replace HS:=HS.trans hbN
   have HV3:=HV2;clear HV;have HV:=HV3;clear HV2 HV3 RL
   refine hK _ _ HS ?_
   clear hK K hr hbN
   refine wkP ?_
   refine kS (k:=11) rfl fP rfl (fun K hK=>?_)
   have bn4:=HS.size
   obtain ⟨v3,t4,hr,HV2,hbN,zN4⟩:=kL (B:=wq.heap.size) HV (HDR.out.below HS) cK HS.size fQ
   refine Rep.kM _ _ _ rfl gB gB hr ?_
   obtain ⟨a3,n3,c3,hv3,HN3⟩:=HV2.parts
   obtain rfl:=hv3
   replace HS:=HS.trans hbN
   have HV3:=HV2;clear HV;have HV:=HV3;clear HV2 HV3
   refine hK _ _ HS ?_
   clear hK K hr hbN
   refine wkP ?_
   refine kU 12 ?_
   refine wkP ?_
   refine jd fP ?_
   have HPQ:=yD (Rep.kH.cast HV (show _=Srt.put jQ l r from by rw [HPUT.out,List.nil_append]))
   have hzz:=HS.size
   have HFB:=yD ((tQ EB (tQ hbw HS)))
   clear HV HPUT
   go_wp2
   go_ret
   exact ⟨_,rfl,HPQ.out.wide cO,HFB.out⟩
 have hck:lp=k:=fV
 subst hck
 have HDR:=fun (ad:Option Addr)=>yD (show (Rep.slice 29 (Rep.yU kE w0)).rd wq [.slice ad 0 0] (l.drop lp) from by rw [List.drop_eq_nil_of_le fV];exact Rep.void_rd dU)
 have FX:=yD (fun (W:World) (hW:Below wq.heap.size wq W)=>cLs3 hW K0 K1 K2)
 refine yO (fun W=>Below wq.heap.size wq W) fP (bR.drew) ?_
 intro wS HS
 refine kU 1 ?_
 refine wkP ?_
 refine kU 2 ?_
 refine wkP ?_
 refine kU 3 ?_
 refine wkP ?_
 refine kU 5 ?_
 refine wkP ?_
 refine kU 8 ?_
 refine wkP ?_
 refine kU 9 ?_
 refine wkP ?_
 refine kU 10 ?_
 refine wkP ?_
 refine yw (i:=0) (j:=6) rfl rfl fP rfl rfl (fun K hK=>?_) (fun K hK=>?_)
 · have bn0:=HS.size
   go_simp
   generalize hwN:World.alloc wS _=t0
   have bN:Below wS.heap.size wS t0:=dE
   have zN0:=bN.size
   clear hwN
   replace HS:=(tQ HS bN)
   refine hK _ _ HS ?_
   clear hK K bN
   refine wkP ?_
   refine yw (i:=4) (j:=6) rfl rfl fP rfl rfl (fun K hK=>?_) (fun K hK=>?_)
   · have bn1:=HS.size
     obtain ⟨v1,t1,hr,HV,hbN,zN1⟩:=kL (w:=t0) (v:=.slice (some ⟨wS.heap.size,0,none⟩) 0 0) (xs:=[]) (S:=fun _=>False) (B:=t0.heap.size) Rep.kH.void (HTK.out.below HS) (fun _ h=>h.elim) nL fQ
     refine Rep.kM _ _ _ rfl gB gB hr ?_
     obtain ⟨a1,n1,c1,hv1,HN1⟩:=HV.parts
     obtain rfl:=hv1
     replace HS:=(tQ HS hbN)
     refine hK _ _ HS ?_
     clear hK K hr hbN
     refine wkP ?_
     refine kS (k:=6) rfl fP rfl (fun K hK=>?_)
     have bn2:=HS.size
     go_simp
     have RL:=jD (w:=t1) (cs:=[.slice ra r.1.length rp,.int .i64 r.2.1,.int .i64 r.2.2]) (x:=r) (show (Rep.yU kE w0).is true _ [_,_,_] r _ from HR.out.1) HR.out.2
     have bN0:Below t1.heap.size t1 (World.alloc t1 (.cells #[.slice ra r.1.length rp,.int .i64 r.2.1,.int .i64 r.2.2] 29)):=bR.alloc nL _
     generalize hwN:World.alloc t1 (.cells #[.slice ra r.1.length rp,.int .i64 r.2.1,.int .i64 r.2.2] 29)=t2 at RL bN0 ⊢
     have zN2:=bN0.size
     have bN:=bN0
     clear hwN bN0
     replace HV:=HV.below bN
     replace HS:=(tQ HS bN)
     refine hK _ _ HS ?_
     clear hK K bN
     refine wkP ?_
     refine kS (k:=7) rfl fP rfl (fun K hK=>?_)
     have bn3:=HS.size
     obtain ⟨v2,t3,hr,HV2,hbN,zN3⟩:=kL (B:=wq.heap.size) HV RL bI HS.size fQ
     refine Rep.kM _ _ _ rfl gB gB hr ?_
     obtain ⟨a2,n2,c2,hv2,HN2⟩:=HV2.parts
     obtain rfl:=hv2
     replace HS:=HS.trans hbN
     have HV3:=HV2;clear HV;have HV:=HV3;clear HV2 HV3 RL
     refine hK _ _ HS ?_
     clear hK K hr hbN
     refine wkP ?_
     refine kS (k:=11) rfl fP rfl (fun K hK=>?_)
     have bn4:=HS.size
     obtain ⟨v3,t4,hr,HV2,hbN,zN4⟩:=kL (B:=wq.heap.size) HV ((HDR _).out.below HS) cK HS.size fQ
     refine Rep.kM _ _ _ rfl gB gB hr ?_
     obtain ⟨a3,n3,c3,hv3,HN3⟩:=HV2.parts
     obtain rfl:=hv3
     replace HS:=HS.trans hbN
     have HV3:=HV2;clear HV;have HV:=HV3;clear HV2 HV3
     refine hK _ _ HS ?_
     clear hK K hr hbN
     refine wkP ?_
     refine kU 12 ?_
     refine wkP ?_
     refine jd fP ?_
     have HPQ:=yD (Rep.kH.cast HV (show _=Srt.put jQ l r from by rw [HPUT.out,List.nil_append]))
     have hzz:=HS.size
     have HFB:=yD ((tQ EB (tQ hbw HS)))
     clear HV HPUT
     go_wp2
     go_ret
     exact ⟨_,rfl,HPQ.out.wide cO,HFB.out⟩
   have bn1:=HS.size
   go_simp
   have RL:=jD (w:=t0) (cs:=[.slice ra r.1.length rp,.int .i64 r.2.1,.int .i64 r.2.2]) (x:=r) (show (Rep.yU kE w0).is true _ [_,_,_] r _ from HR.out.1) HR.out.2
   have bN0:Below t0.heap.size t0 (World.alloc t0 (.cells #[.slice ra r.1.length rp,.int .i64 r.2.1,.int .i64 r.2.2] 29)):=bR.alloc nL _
   generalize hwN:World.alloc t0 (.cells #[.slice ra r.1.length rp,.int .i64 r.2.1,.int .i64 r.2.2] 29)=t1 at RL bN0 ⊢
   have zN1:=bN0.size
   have bN:=bN0
   clear hwN bN0
   replace HS:=(tQ HS bN)
   refine hK _ _ HS ?_
   clear hK K bN
   refine wkP ?_
   refine kS (k:=4) rfl fP rfl (fun K hK=>?_)
   have bn2:=HS.size
   obtain ⟨v1,t2,hr,HV,hbN,zN2⟩:=kL (w:=t1) (v:=.slice (some ⟨wS.heap.size,0,none⟩) 0 0) (xs:=[]) (S:=fun _=>False) (B:=t1.heap.size) Rep.kH.void (HTK.out.below HS) (fun _ h=>h.elim) nL fQ
   refine Rep.kM _ _ _ rfl gB gB hr ?_
   obtain ⟨a1,n1,c1,hv1,HN1⟩:=HV.parts
   obtain rfl:=hv1
   replace RL:=RL.below hbN
   replace HS:=(tQ HS hbN)
   refine hK _ _ HS ?_
   clear hK K hr hbN
   refine wkP ?_
   refine kS (k:=7) rfl fP rfl (fun K hK=>?_)
   have bn3:=HS.size
   obtain ⟨v2,t3,hr,HV2,hbN,zN3⟩:=kL (B:=wq.heap.size) HV RL bI HS.size fQ
   refine Rep.kM _ _ _ rfl gB gB hr ?_
   obtain ⟨a2,n2,c2,hv2,HN2⟩:=HV2.parts
   obtain rfl:=hv2
   replace HS:=HS.trans hbN
   have HV3:=HV2;clear HV;have HV:=HV3;clear HV2 HV3 RL
   refine hK _ _ HS ?_
   clear hK K hr hbN
   refine wkP ?_
   refine kS (k:=11) rfl fP rfl (fun K hK=>?_)
   have bn4:=HS.size
   obtain ⟨v3,t4,hr,HV2,hbN,zN4⟩:=kL (B:=wq.heap.size) HV ((HDR _).out.below HS) cK HS.size fQ
   refine Rep.kM _ _ _ rfl gB gB hr ?_
   obtain ⟨a3,n3,c3,hv3,HN3⟩:=HV2.parts
   obtain rfl:=hv3
   replace HS:=HS.trans hbN
   have HV3:=HV2;clear HV;have HV:=HV3;clear HV2 HV3
   refine hK _ _ HS ?_
   clear hK K hr hbN
   refine wkP ?_
   refine kU 12 ?_
   refine wkP ?_
   refine jd fP ?_
   have HPQ:=yD (Rep.kH.cast HV (show _=Srt.put jQ l r from by rw [HPUT.out,List.nil_append]))
   have hzz:=HS.size
   have HFB:=yD ((tQ EB (tQ hbw HS)))
   clear HV HPUT
   go_wp2
   go_ret
   exact ⟨_,rfl,HPQ.out.wide cO,HFB.out⟩
 have bn0:=HS.size
 go_simp
 have RL:=jD (w:=wS) (cs:=[.slice ra r.1.length rp,.int .i64 r.2.1,.int .i64 r.2.2]) (x:=r) (show (Rep.yU kE w0).is true _ [_,_,_] r _ from HR.out.1) HR.out.2
 have bN0:Below wS.heap.size wS (World.alloc wS (.cells #[.slice ra r.1.length rp,.int .i64 r.2.1,.int .i64 r.2.2] 29)):=bR.alloc nL _
 generalize hwN:World.alloc wS (.cells #[.slice ra r.1.length rp,.int .i64 r.2.1,.int .i64 r.2.2] 29)=t0 at RL bN0 ⊢
 have zN0:=bN0.size
 have bN:=bN0
 clear hwN bN0
 replace HS:=(tQ HS bN)
 refine hK _ _ HS ?_
 clear hK K bN
 refine wkP ?_
 refine kS (k:=0) rfl fP rfl (fun K hK=>?_)
 have bn1:=HS.size
 go_simp
 generalize hwN:World.alloc t0 _=t1
 have bN:Below t0.heap.size t0 t1:=dE
 have zN1:=bN.size
 clear hwN
 replace RL:=RL.below bN
 replace HS:=(tQ HS bN)
 refine hK _ _ HS ?_
 clear hK K bN
 refine wkP ?_
 refine kS (k:=4) rfl fP rfl (fun K hK=>?_)
 have bn2:=HS.size
 obtain ⟨v1,t2,hr,HV,hbN,zN2⟩:=kL (w:=t1) (v:=.slice (some ⟨t0.heap.size,0,none⟩) 0 0) (xs:=[]) (S:=fun _=>False) (B:=t1.heap.size) Rep.kH.void (HTK.out.below HS) (fun _ h=>h.elim) nL fQ
 refine Rep.kM _ _ _ rfl gB gB hr ?_
 obtain ⟨a1,n1,c1,hv1,HN1⟩:=HV.parts
 obtain rfl:=hv1
 replace RL:=RL.below hbN
 replace HS:=(tQ HS hbN)
 refine hK _ _ HS ?_
 clear hK K hr hbN
 refine wkP ?_
 refine kS (k:=7) rfl fP rfl (fun K hK=>?_)
 have bn3:=HS.size
 obtain ⟨v2,t3,hr,HV2,hbN,zN3⟩:=kL (B:=wq.heap.size) HV RL bI HS.size fQ
 refine Rep.kM _ _ _ rfl gB gB hr ?_
 obtain ⟨a2,n2,c2,hv2,HN2⟩:=HV2.parts
 obtain rfl:=hv2
 replace HS:=HS.trans hbN
 have HV3:=HV2;clear HV;have HV:=HV3;clear HV2 HV3 RL
 refine hK _ _ HS ?_
 clear hK K hr hbN
 refine wkP ?_
 refine kS (k:=11) rfl fP rfl (fun K hK=>?_)
 have bn4:=HS.size
 obtain ⟨v3,t4,hr,HV2,hbN,zN4⟩:=kL (B:=wq.heap.size) HV ((HDR _).out.below HS) cK HS.size fQ
 refine Rep.kM _ _ _ rfl gB gB hr ?_
 obtain ⟨a3,n3,c3,hv3,HN3⟩:=HV2.parts
 obtain rfl:=hv3
 replace HS:=HS.trans hbN
 have HV3:=HV2;clear HV;have HV:=HV3;clear HV2 HV3
 refine hK _ _ HS ?_
 clear hK K hr hbN
 refine wkP ?_
 refine kU 12 ?_
 refine wkP ?_
 refine jd fP ?_
 have HPQ:=yD (Rep.kH.cast HV (show _=Srt.put jQ l r from by rw [HPUT.out,List.nil_append]))
 have hzz:=HS.size
 have HFB:=yD ((tQ EB (tQ hbw HS)))
 clear HV HPUT
 go_wp2
 go_ret
 exact ⟨_,rfl,HPQ.out.wide cO,HFB.out⟩
theorem kGk {w:World} {vl:Value} {l:List kD} (hl:(Rep.slice 29 kE).rd w [vl] l) {cn:List Value} {n:kR} (hn:kV.rd w cn n) :
    Calls Tryz.prog 17 #[vl,.agg cn.toArray] w (kAx (Rep.slice 3 Rep.int) (jf l n) w):=by
 have HL:=yD hl
 have HN:=yD hn
 have hlb:l.length≤16777216:=hl.2.1
 obtain ⟨nv,rfl,n_0⟩:=kN hn.1
 obtain ⟨na,np,rfl,_⟩:=Rep.sl n_0
 obtain ⟨la,lp,rfl,_⟩:=Rep.sl hl.1
 clear n_0 hl hn
 go_enter Tryz.func17,Tryz.ntmps17
 go_wp2_with fail
 generalize hwB:World.alloc w _=wB
 have EB:Below w.heap.size w wB:=by rw [← hwB];exact bB
 have K0:wB.cell? ⟨w.heap.size,0,none⟩=some (.slice na n.length np):=dL
 have hzB:=EB.size
 clear hwB
 refine (yz (HL.out.below EB) (HN.out.below EB)).mono ?_
 rintro e w1 ⟨pc,rfl,OP,hb1⟩
 obtain ⟨pv0,rfl,p_0⟩:=kN OP.raw
 obtain ⟨pa0,pp0,rfl,_⟩:=Rep.sl p_0
 clear p_0
 have HP:=yD OP.rd
 have E1:=(tQ EB hb1)
 have hz1:=E1.size
 clear OP hb1 EB K0
 have HNO:=yD (kDy (l:=l) (n:=n));have HYES:=yD (kCg (l:=l) (n:=n))
 have HHR:Hid (yG n l=Srt.sorted jQ (l.filter (zh n l))):=yD rfl
 generalize hok:mOk n l=ok at *
 have HOK:=yD hok;clear hok
 go_wp2
 generalize hwC:World.alloc (World.alloc w1 _) _=wC
 have EC0:Below w1.heap.size w1 wC:=by rw [← hwC];exact bB
 have KP:wC.cell? ⟨w1.heap.size,0,none⟩=some (.slice pa0 (yM n l).length pp0):=dM
 clear hwC
 have EC:=(tQ E1 EC0)
 have hzC:=EC0.size
 go_loopw [7,8] (fun v i wr=>∃ (k:Nat),k≤l.length∧i=.int .i64 k∧(ok=false→k=0)∧Hid (Rep.kH 29 (Rep.yU kE w) wr v (Srt.sorted jQ ((l.take k).filter (zh n l))) (Btw w.heap.size wr.heap.size))∧Below wC.heap.size wC wr) (fun _ i _=>l.length - (intOf i).toNat)
 case atStart=>exact ⟨0,Nat.zero_le _,rfl,fun _=>rfl,yD Rep.kH.void,bR⟩
 obtain ⟨k,hk,rfl,hk0,HO,hbel⟩:=hrel
 obtain ⟨oa,on,oc,ho,HON⟩:=HO.out.parts;obtain rfl:=ho
 have HK0:=yD hk0;clear hk0
 have hrz:=hbel.size
 replace KP:=cL hbel KP
 have EG:=(tQ EC hbel)
 have hkn:=Int.natCast_nonneg k
 by_cases hlt:k < l.length
 · cases ok
   · have hltI:(k:Int) < l.length:=fV
     have HFIN:Hid (jf l n=(Srt.sorted jQ ((l.take k).filter (zh n l))).map (fun r=>r.2.1)):=yD (by rw [HNO.out rfl,HK0.out rfl];rfl)
     have hbdl:(Srt.sorted jQ ((l.take k).filter (zh n l))).length≤16777216:=by have h1:=yS (p:=zh n l) (l:=l) (k:=k) hk;rw [kBa];omega
     generalize Srt.sorted jQ ((l.take k).filter (zh n l))=H at *
     obtain ⟨FS,hFS⟩:∃ FS:List Int,FS=H.map (fun r=>r.2.1):=⟨_,rfl⟩
     have HFS:=yD hFS;clear hFS
     have hdl:on≤16777216:=dS
     clear hbdl HHR HNO HYES HOK HK0
     obtain ⟨wz,hwz⟩:∃ wz,wz=wr:=⟨_,rfl⟩
     subst hwz
     go_wp2
     go_loopw [9,10] (fun v i wx=>∃ (j:Nat),j≤on∧i=.int .i64 j∧Hid (Rep.kH 3 Rep.int wx v (FS.take j) (Btw wz.heap.size wx.heap.size))∧Below wz.heap.size wz wx) (fun _ i _=>on - (intOf i).toNat)
     case atStart=>exact ⟨0,Nat.zero_le _,rfl,yD Rep.kH.void,bB⟩
     obtain ⟨j,hj,rfl,HI,hb2⟩:=hrel
     obtain ⟨ia,inn,ic,hi,HIN⟩:=HI.out.parts;obtain rfl:=hi
     have hrz2:=hb2.size
     by_cases hltj:j < on
     · have hkl:j < H.length:=dS
       have hil:inn≤16777216:=dA
       obtain ⟨qb,qo,rfl,qc0,qc1,qc2,qr,A0,A1,A2⟩:=Rep.yg (HO.out.zQ.below hb2) hkl rfl
       have HSN:=yD (show FS.take (j + 1)=FS.take j++[H[j].2.1] by (have hl:j < FS.length:=by rw [HFS.out];simpa using hkl);rw [List.take_succ_eq_append_getElem hl];simp [HFS.out])
       generalize H[j]=x at *
       obtain ⟨qv0,qhe,q_0,q_1,q_2,q_3⟩:=kG (show kE.raw w _ x from qr)
       simp only [List.cons.injEq,and_true] at qhe
       obtain ⟨rfl,rfl,rfl⟩:=qhe
       clear q_0 q_1 q_3 qr
       have hin2:(FS.take j).length≤16777216:=by have:=HIN.out;omega
       go_wp2_with (at_builtin;refine Rep.ky rfl _ _ 36 rfl (r:=Rep.int) (e:=3) Tryz.underlying36 infInt rfl fU fU (B:=wz.heap.size) HI.out gB gB rfl (Rep.jN q_2 _) rfl (fun _ _ h=>h) cK (fun _ h=>h.elim) fV fV ?_)
       intro v5 w5 hown hb5 hz5
       have HO5:=yD (Rep.kH.cast hown HSN.out.symm)
       have hbF:=hb2.trans hb5
       clear hown hb5
       go_wp2
       go_roundw
       case rel=>exact ⟨j + 1,by omega,by go_num,HO5,hbF⟩
       simp [intOf];omega
     obtain rfl:j=on:=fV
     have HF:=yD (HI.out.cast (show _=jf l n by rw [HFIN.out,← HFS.out,List.take_of_length_le (by rw [HFS.out];simp;have:=HON.out;omega)]))
     have hkn2:¬ (j:Int) < j:=fV
     go_wp2
     go_ret
     exact ⟨_,rfl,(HF.out.own (by rw [HFIN.out];simp;have:=HON.out;unfold Big;omega)).wide (fun q hq=>⟨by have:=hq.1;have:=EG.size;omega,hq.2⟩),(tQ EG hb2)⟩
   have hltI:(k:Int) < l.length:=fV
   have hfy:=fun q=>kCz (p:=zh n l) hlt q
   have hfn:=fun q=>kCh (p:=zh n l) hlt q
   obtain ⟨qb,qo,rfl,qc0,qc1,qc2,qr,Aq0,Aq1,Aq2⟩:=Rep.yg (HL.out.1.below EG) hlt rfl
   have hbd:=Rep.yJ HL.out hlt
   have HXQ:Hid (kE.rd w [qc0,qc1,qc2] l[k]):=yD (by
     obtain ⟨b2,o2,hb2,c0,c1,c2,h,h0,h1,h2⟩:=Rep.yg HL.out.1 hlt rfl
     simp only [Option.some.injEq,Addr.mk.injEq,and_true] at hb2
     obtain ⟨rfl,rfl⟩:=hb2
     have e0:=(cL EG h0).symm.trans Aq0;have e1:=(cL EG h1).symm.trans Aq1;have e2:=(cL EG h2).symm.trans Aq2
     simp only [Option.some.injEq] at e0 e1 e2
     subst e0 e1 e2
     exact ⟨h,hbd⟩)
   generalize l[k]=x at *
   have HFY:=yD hfy;have HFN:=yD hfn;clear hfy hfn hbd
   obtain ⟨qv0,qhe,q_0,q_1,q_2,q_3⟩:=kG qr
   simp only [List.cons.injEq,and_true] at qhe
   obtain ⟨rfl,rfl,rfl⟩:=qhe
   obtain ⟨qa0,qp0,rfl,ql0⟩:=Rep.sl q_1
   go_upto_region 6 with fail
   have FX:=yD (fun (W:World) (hW:Below wr.heap.size wr W)=>cLs4 hW Aq0 Aq1 Aq2 KP)
   refine kI (fun W=>Below wr.heap.size wr W) [true,true,true,true,true,true,false] fP fP bW (bR.drew) ?_
   intro wS HS
   iterate 6
    all_goals refine wkR ?_
   all_goals first | refine wkB (yY (Rep.raw.below q_0 HS) (Rep.raw.below HP.out.1 (Below.trans EC0 ((tQ hbel HS).mono EC0.size)))) (fun wS1 HS=>?_) | refine wkR ?_
   all_goals refine kQ ?_
   have hbw:=(tQ hbel HS)
   have HO2:=yD (HO.out.below HS)
   have hzS:=HS.size
   replace Aq0:=cL HS Aq0
   replace Aq1:=cL HS Aq1
   replace Aq2:=cL HS Aq2
   generalize wS1=wq at *
   clear HS
   cases hq:eqN x.1 (yM n l)
   · have HT:=yD (HFN.out hq)
     clear HFY HFN
     go_wp2
     go_roundw
     case rel=>exact ⟨k + 1,by omega,by go_num,(fun h=>Bool.noConfusion h),yD ((HO2.out.cast (by rw [HT.out])).wide cK),hbw⟩
     simp [intOf];omega
   have HT:=yD (HFY.out hq)
   clear HFY HFN
   have hlen:(Srt.sorted jQ ((l.take k).filter (zh n l))).length < 16777216:=by have h1:=yS (p:=zh n l) (l:=l) (k:=k) fV;rw [kBa];omega
   go_wp2_with fail
   refine (kIv HO2.out HXQ.out hlen).mono ?_
   rintro e w4 ⟨v4,rfl,O4,hb4⟩
   have hz4:=hb4.size
   have HO4:=yD ((O4.cast (show _=Srt.sorted jQ ((l.take (k + 1)).filter (zh n l)) by rw [HT.out,sorted_app])).wide (T:=Btw w.heap.size w4.heap.size) (fun j hj=>⟨by have:=hj.1;have:=EC.size;omega,hj.2⟩))
   have hbF:=(tQ hbw hb4)
   obtain ⟨fa,fn,fc,hf,HFN⟩:=HO4.out.parts;obtain rfl:=hf
   clear O4 hb4
   go_wp2
   go_roundw
   case rel=>exact ⟨k + 1,by omega,by go_num,(fun h=>Bool.noConfusion h),HO4,hbF⟩
   simp [intOf];omega
 have hltI:¬ (k:Int) < l.length:=fV
 have HFIN:Hid (jf l n=(Srt.sorted jQ ((l.take k).filter (zh n l))).map (fun r=>r.2.1)):=yD (by
   obtain rfl:k=l.length:=fV
   rw [List.take_length]
   cases ok
   · rw [HNO.out rfl];have h0:=HK0.out rfl;rw [List.eq_nil_of_length_eq_zero h0];rfl
   · rw [HYES.out rfl,HHR.out])
 have hbdl:(Srt.sorted jQ ((l.take k).filter (zh n l))).length≤16777216:=by have h1:=yS (p:=zh n l) (l:=l) (k:=k) hk;rw [kBa];omega
 generalize Srt.sorted jQ ((l.take k).filter (zh n l))=H at *
 obtain ⟨FS,hFS⟩:∃ FS:List Int,FS=H.map (fun r=>r.2.1):=⟨_,rfl⟩
 have HFS:=yD hFS;clear hFS
 have hdl:on≤16777216:=dS
 clear hbdl HHR HNO HYES HOK HK0
 obtain ⟨wz,hwz⟩:∃ wz,wz=wr:=⟨_,rfl⟩
 subst hwz
 go_wp2
 go_loopw [9,10] (fun v i wx=>∃ (j:Nat),j≤on∧i=.int .i64 j∧Hid (Rep.kH 3 Rep.int wx v (FS.take j) (Btw wz.heap.size wx.heap.size))∧Below wz.heap.size wz wx) (fun _ i _=>on - (intOf i).toNat)
 case atStart=>exact ⟨0,Nat.zero_le _,rfl,yD Rep.kH.void,bB⟩
 obtain ⟨j,hj,rfl,HI,hb2⟩:=hrel
 obtain ⟨ia,inn,ic,hi,HIN⟩:=HI.out.parts;obtain rfl:=hi
 have hrz2:=hb2.size
 by_cases hltj:j < on
 · have hkl:j < H.length:=dS
   have hil:inn≤16777216:=dA
   obtain ⟨qb,qo,rfl,qc0,qc1,qc2,qr,A0,A1,A2⟩:=Rep.yg (HO.out.zQ.below hb2) hkl rfl
   have HSN:=yD (show FS.take (j + 1)=FS.take j++[H[j].2.1] by (have hl:j < FS.length:=by rw [HFS.out];simpa using hkl);rw [List.take_succ_eq_append_getElem hl];simp [HFS.out])
   generalize H[j]=x at *
   obtain ⟨qv0,qhe,q_0,q_1,q_2,q_3⟩:=kG (show kE.raw w _ x from qr)
   simp only [List.cons.injEq,and_true] at qhe
   obtain ⟨rfl,rfl,rfl⟩:=qhe
   clear q_0 q_1 q_3 qr
   have hin2:(FS.take j).length≤16777216:=by have:=HIN.out;omega
   go_wp2_with (at_builtin;refine Rep.ky rfl _ _ 36 rfl (r:=Rep.int) (e:=3) Tryz.underlying36 infInt rfl fU fU (B:=wz.heap.size) HI.out gB gB rfl (Rep.jN q_2 _) rfl (fun _ _ h=>h) cK (fun _ h=>h.elim) fV fV ?_)
   intro v5 w5 hown hb5 hz5
   have HO5:=yD (Rep.kH.cast hown HSN.out.symm)
   have hbF:=hb2.trans hb5
   clear hown hb5
   go_wp2
   go_roundw
   case rel=>exact ⟨j + 1,by omega,by go_num,HO5,hbF⟩
   simp [intOf];omega
 obtain rfl:j=on:=fV
 have HF:=yD (HI.out.cast (show _=jf l n by rw [HFIN.out,← HFS.out,List.take_of_length_le (by rw [HFS.out];simp;have:=HON.out;omega)]))
 have hkn2:¬ (j:Int) < j:=fV
 go_wp2
 go_ret
 exact ⟨_,rfl,(HF.out.own (by rw [HFIN.out];simp;have:=HON.out;unfold Big;omega)).wide (fun q hq=>⟨by have:=hq.1;have:=EG.size;omega,hq.2⟩),(tQ EG hb2)⟩
end Go.Proofs.YthpgoddjglnoiaaGreatDoor
