/-
  Interests that come round; when a name was sent last.
-/
import Derived.Test.YtpgnbablhdknnaaPend
set_option linter.unusedVariables false
set_option linter.unusedSimpArgs false
set_option linter.unnecessarySimpa false
set_option maxRecDepth 100000
set_option maxHeartbeats 4000000
namespace Go.Proofs.Ytpgnbablhdknnaa
open Go.RowKit
def kFh (l:List kD) (n:kw):Int:=if idxOf (kR n) l < 0 then 0 else (l.getD (idxOf (kR n) l).toNat ([],[],0)).2.2
theorem kIs {l:List kD} {n:kw} (h:idxOf (kR n) l < 0):kFh l n=0:=by unfold kFh;rw [if_pos h]
theorem kHj {l:List kD} {n:kw} {k:Nat} (hk:k < l.length) (h:idxOf (kR n) l=k):kFh l n=l[k].2.2:=by
 unfold kFh;rw [h,if_neg gV,Int.toNat_natCast,jQ hk]
def kAh (c:Int) (r:kH):Bool:=r.2.1==c
def zP (x:kr) (p:kD):Bool:=eqN p.1 x.1 && p.2.1.any (kAh x.2.1)
def kBa (x:kr) (s:kz):Bool:=eqN s.1 x.1 && (s.2==x.2.1)
def kDl (x:kr) (l:List kD) (s:List kz):Bool:=l.any (zP x) || s.any (kBa x)
theorem kCz {α:Type} {p:α→Bool} {l:List α} {k:Nat} (h:k < l.length) (q:p l[k]=true):l.any p=true:=List.any_eq_true.2 ⟨_,List.getElem_mem h,q⟩
theorem kEs {α:Type} {p:α→Bool} {l:List α} {k:Nat} (h:k < l.length) (a:(l.take k).any p=false) (q:p l[k]=false):(l.take (k + 1)).any p=false:=by
 rw [List.take_succ_eq_append_getElem h,List.any_append,a];simp [q]
theorem kJl {α:Type} (p:α→Bool) (l:List α):decide (0≤idxOf p l)=l.any p:=by
 unfold idxOf
 cases h:l.findIdx? p with
 | none =>
   have:l.any p=false:=by rw [List.any_eq_false];intro y hy q;have:=List.findIdx?_eq_none_iff.1 h y hy;rw [q] at this;cases this
   rw [this];simp
 | some i =>
   obtain ⟨hi,hp,_⟩:=List.findIdx?_eq_some_iff_getElem.1 h
   rw [kCz hi hp];simp
theorem kFa {w:World} {vl:Value} {l:List kD} (hl:(Rep.slice 67 kE).raw w [vl] l) {cn:List Value} {n:kw} (hn:kZ.raw w cn n) :
    Calls Try.prog 25 #[vl,.agg cn.toArray] w fun e w'=>e=.returned (.int .i64 (kFh l n))∧Below w.heap.size w w':=by
 have HL:=yD hl
 have HN:=yD hn
 obtain ⟨la,lp,rfl,ll⟩:=Rep.sl hl
 obtain ⟨av,rfl,a_0⟩:=kY hn
 obtain ⟨na,np,rfl,_⟩:=Rep.sl a_0
 clear hl hn a_0
 go_enter Try.func25,Try.ntmps25
 go_wp2_with fail
 refine (yA (HL.out.below bB) (HN.out.below bB)).mono ?_
 rintro e w1 ⟨rfl,hb1⟩
 have EF:Below w.heap.size w w1:=Below.trans bB (hb1.mono gW)
 clear hb1
 by_cases h:idxOf (kR n) l < 0
 · have HT:=yD (kIs h)
   generalize idxOf (kR n) l=q at *
   go_wp2
   go_ret
   exact ⟨jS HT.out.symm,EF⟩
 obtain ⟨k,hk,hi⟩:=jy h
 have HT:=yD (kHj hk hi)
 rw [hi] at h ⊢
 clear hi
 obtain ⟨ba,offa,rfl,c0,c1,c2,hr,A0,A1,A2⟩:=Rep.yP (HL.out.below EF) hk rfl
 obtain ⟨v0,v1,he,p0,p1,p2,p3⟩:=kM hr
 simp only [List.cons.injEq,and_true] at he
 obtain ⟨rfl,rfl,rfl⟩:=he
 clear hr p0 p1 p2 p3
 generalize l[k]=y at *
 have hk2:=Int.ofNat_lt.2 hk
 have hk0:=Int.natCast_nonneg k
 go_wp2
 go_ret
 exact ⟨jS HT.out.symm,EF⟩
theorem kFn {w:World} {vl:Value} {l:List kD} (hl:(Rep.slice 67 kE).raw w [vl] l) {cn:List Value} {n:kw} (hn:kZ.raw w cn n) :
    Calls Try.prog 24 #[vl,.agg cn.toArray] w fun e w'=>e=.returned (.int .i64 (kFh l n))∧Below w.heap.size w w':=by
 have HL:=yD hl
 have HN:=yD hn
 obtain ⟨la,lp,rfl,ll⟩:=Rep.sl hl
 obtain ⟨av,rfl,a_0⟩:=kY hn
 obtain ⟨na,np,rfl,_⟩:=Rep.sl a_0
 clear hl hn a_0
 go_enter Try.func24,Try.ntmps24
 go_wp2_with fail
 refine (ji (HL.out.below bB) (HN.out.below bB)).mono ?_
 rintro e w1 ⟨rfl,hb1⟩
 have EF:Below w.heap.size w w1:=Below.trans bB (hb1.mono gW)
 clear hb1
 by_cases h:idxOf (kR n) l < 0
 · have HT:=yD (kIs h)
   generalize idxOf (kR n) l=q at *
   go_wp2
   go_ret
   exact ⟨jS HT.out.symm,EF⟩
 obtain ⟨k,hk,hi⟩:=jy h
 have HT:=yD (kHj hk hi)
 rw [hi] at h ⊢
 clear hi
 obtain ⟨ba,offa,rfl,c0,c1,c2,hr,A0,A1,A2⟩:=Rep.yP (HL.out.below EF) hk rfl
 obtain ⟨v0,v1,he,p0,p1,p2,p3⟩:=kM hr
 simp only [List.cons.injEq,and_true] at he
 obtain ⟨rfl,rfl,rfl⟩:=he
 clear hr p0 p1 p2 p3
 generalize l[k]=y at *
 have hk2:=Int.ofNat_lt.2 hk
 have hk0:=Int.natCast_nonneg k
 go_wp2
 go_ret
 exact ⟨jS HT.out.symm,EF⟩
theorem kIc {w:World} {cr:List Value} {r:kH} (hr:kF.raw w cr r) {x:kr} {xc0 xc1 xc2 xc3:Value} {Bx:Nat} (xr:jl.raw w [xc0,xc1,xc2,xc3] x) (Ax0:w.cell? ⟨Bx,0,none⟩=some xc0) (Ax1:w.cell? ⟨Bx,1,none⟩=some xc1) (Ax2:w.cell? ⟨Bx,2,none⟩=some xc2) (Ax3:w.cell? ⟨Bx,3,none⟩=some xc3) :
    Calls Try.prog 61 (#[.agg cr.toArray]++#[.pointer (some ⟨Bx,0,none⟩)]) w fun e w'=>e=.returned (.bool (kAh x.2.1 r))∧Below w.heap.size w w':=by
 have Hr:=yD hr
 obtain ⟨rfl,fr_0,fr_1,fr_2⟩:=ko hr
 obtain ⟨xv0,xhe,x_0,x_1,x_2,x_3,x_4⟩:=jZ xr
 simp only [List.cons.injEq,and_true] at xhe
 obtain ⟨rfl,rfl,rfl,rfl⟩:=xhe
 obtain ⟨xa0,xp0,rfl,xl0⟩:=Rep.sl x_1
 show Calls Try.prog 61 #[_,_] w _
 go_enter Try.func61,Try.ntmps61
 go_upto_region 1 with fail
 generalize hwB:World.alloc w _=wB
 have EB:Below w.heap.size w wB:=by rw [← hwB];exact bB
 have K2_0:wB.cell? ⟨w.heap.size,0,none⟩=some (.int .i64 r.1):=dX
 have K2_1:wB.cell? ⟨w.heap.size,1,none⟩=some (.int .i64 r.2.1):=dX
 have K2_2:wB.cell? ⟨w.heap.size,2,none⟩=some (.int .i64 r.2.2):=dX
 clear hwB
 replace Ax0:=cL EB Ax0
 replace Ax1:=cL EB Ax1
 replace Ax2:=cL EB Ax2
 replace Ax3:=cL EB Ax3
 have FX:=yD (fun (W:World) (hW:Below wB.heap.size wB W)=>cLs7 hW K2_0 K2_1 K2_2 Ax0 Ax1 Ax2 Ax3)
 refine kS (fun W=>Below wB.heap.size wB W) [true,true,true,true,true,true] bR ?_
 intro wS HS
 iterate 5
  all_goals refine wkR ?_
 all_goals (have hg5:=True.intro;first|(refine wkG (fun b hg5=>?_);cases b;all_goals first | exact Bool.noConfusion hg5 | simp only [zU,zV] at hg5 | skip) | refine wkR ?_)
 all_goals refine wkP ?_
 all_goals refine kN ?_
 all_goals have EG:=(tQ EB HS)
 all_goals first
   | (have HT:=yD (show (kAh x.2.1 r)=false by simp only [kAh,Bool.not_true,Bool.not_false,Bool.and_true,Bool.true_and,Bool.and_false,Bool.false_and,Bool.or_true,Bool.true_or,Bool.or_false,Bool.false_or,Bool.not_not,hg5]);go_wp2;go_ret;exact ⟨kP HT.out.symm,EG⟩)
   | (have HT:=yD (show (kAh x.2.1 r)=true by simp only [kAh,Bool.not_true,Bool.not_false,Bool.and_true,Bool.true_and,Bool.and_false,Bool.false_and,Bool.or_true,Bool.true_or,Bool.or_false,Bool.false_or,Bool.not_not,hg5]);go_wp2;go_ret;exact ⟨kP HT.out.symm,EG⟩)
theorem kBt:jG Try.prog 61:=jr Try.func61 gP gP
theorem kIb {w:World} {cs:List Value} {s:kz} (hs:ky.raw w cs s) {x:kr} {xc0 xc1 xc2 xc3:Value} {Bx:Nat} (xr:jl.raw w [xc0,xc1,xc2,xc3] x) (Ax0:w.cell? ⟨Bx,0,none⟩=some xc0) (Ax1:w.cell? ⟨Bx,1,none⟩=some xc1) (Ax2:w.cell? ⟨Bx,2,none⟩=some xc2) (Ax3:w.cell? ⟨Bx,3,none⟩=some xc3) :
    Calls Try.prog 63 (#[.agg cs.toArray]++#[.pointer (some ⟨Bx,0,none⟩)]) w fun e w'=>e=.returned (.bool (kBa x s))∧Below w.heap.size w w':=by
 have Hs:=yD hs
 obtain ⟨fsv0,rfl,fs_0,fs_1,fs_2⟩:=yj hs
 obtain ⟨fsa0,fsp0,rfl,fsl0⟩:=Rep.sl fs_1
 obtain ⟨xv0,xhe,x_0,x_1,x_2,x_3,x_4⟩:=jZ xr
 simp only [List.cons.injEq,and_true] at xhe
 obtain ⟨rfl,rfl,rfl,rfl⟩:=xhe
 obtain ⟨xa0,xp0,rfl,xl0⟩:=Rep.sl x_1
 show Calls Try.prog 63 #[_,_] w _
 go_enter Try.func63,Try.ntmps63
 go_upto_region 1 with fail
 generalize hwB:World.alloc w _=wB
 have EB:Below w.heap.size w wB:=by rw [← hwB];exact bB
 have K2_0:wB.cell? ⟨w.heap.size,0,none⟩=some (.slice fsa0 (s.1).length fsp0):=dX
 have K2_1:wB.cell? ⟨w.heap.size,1,none⟩=some (.int .i64 s.2):=dX
 clear hwB
 replace Ax0:=cL EB Ax0
 replace Ax1:=cL EB Ax1
 replace Ax2:=cL EB Ax2
 replace Ax3:=cL EB Ax3
 have FX:=yD (fun (W:World) (hW:Below wB.heap.size wB W)=>cLs6 hW K2_0 K2_1 Ax0 Ax1 Ax2 Ax3)
 refine kS (fun W=>Below wB.heap.size wB W) [true,true,true,true,false,true,true,true,true,true,true,true,true] bR ?_
 intro wS HS
 iterate 4
  all_goals refine wkR ?_
 all_goals first | refine wkB (yN (Rep.raw.below fs_0 (tQ EB HS)) (Rep.raw.below x_0 (tQ EB HS))) (fun wS1 HS=>?_) | refine wkR ?_
 all_goals (have hg5:=True.intro;first|(refine wkG (fun b hg5=>?_);cases b;all_goals first | exact Bool.noConfusion hg5 | simp only [zU,zV] at hg5 | skip) | refine wkR ?_)
 all_goals refine wkP ?_
 iterate 6
  all_goals refine wkR ?_
 all_goals (have hg12:=True.intro;first|(refine wkG (fun b hg12=>?_);cases b;all_goals first | exact Bool.noConfusion hg12 | simp only [zU,zV] at hg12 | skip) | refine wkR ?_)
 all_goals refine wkP ?_
 all_goals refine kN ?_
 all_goals have EG:=(tQ EB HS)
 all_goals first
   | (have HT:=yD (show (kBa x s)=false by simp only [kBa,Bool.not_true,Bool.not_false,Bool.and_true,Bool.true_and,Bool.and_false,Bool.false_and,Bool.or_true,Bool.true_or,Bool.or_false,Bool.false_or,Bool.not_not,hg5,hg12]);go_wp2;go_ret;exact ⟨kP HT.out.symm,EG⟩)
   | (have HT:=yD (show (kBa x s)=true by simp only [kBa,Bool.not_true,Bool.not_false,Bool.and_true,Bool.true_and,Bool.and_false,Bool.false_and,Bool.or_true,Bool.true_or,Bool.or_false,Bool.false_or,Bool.not_not,hg5,hg12]);go_wp2;go_ret;exact ⟨kP HT.out.symm,EG⟩)
theorem kBs:jG Try.prog 63:=jr Try.func63 gP gP
theorem kJe {w:World} {vl:Value} {l:List kD} (hl:(Rep.slice 67 kE).rd w [vl] l) {vs:Value} {s:List kz} (hs:(Rep.slice 77 ky).rd w [vs] s) {cx:List Value} {x:kr} (hx:jl.rd w cx x) :
    Calls Try.prog 21 #[vl,vs,.agg cx.toArray] w fun e w'=>e=.returned (.bool (kDl x l s))∧Below w.heap.size w w':=by
 obtain ⟨x0,x1,x2,x3⟩:=x
 have HL:=yD hl
 have HS_:=yD hs
 have HX:=yD hx
 obtain ⟨la,lp,rfl,ll⟩:=Rep.sl hl.1
 obtain ⟨sa,sp,rfl,sl⟩:=Rep.sl hs.1
 obtain ⟨xv0,rfl,x_0,x_1,x_2,x_3,x_4⟩:=jZ hx.1
 obtain ⟨na,np,rfl,_⟩:=Rep.sl x_1
 have HNX:Hid (kZ.raw w [.slice na x0.length np] x0):=yD x_0
 clear hl hs hx x_0 x_1
 go_enter Try.func21,Try.ntmps21
 go_upto_region 1 with fail
 generalize hwB:World.alloc w _=wB
 have EB:Below w.heap.size w wB:=by rw [← hwB];exact bB
 have K0:wB.cell? ⟨w.heap.size,0,none⟩=some (.slice na x0.length np):=dX
 have K1:wB.cell? ⟨w.heap.size,1,none⟩=some (.int .i64 x1):=dX
 have K2:wB.cell? ⟨w.heap.size,2,none⟩=some (.int .i64 x2):=dX
 have K3:wB.cell? ⟨w.heap.size,3,none⟩=some (.int .i64 x3):=dX
 clear hwB
 have K1b:=K1
 go_wp2
 go_loopw [7] (fun i wr=>∃ k:Nat,i=.int .i64 k∧k≤l.length∧Hid ((l.take k).any (zP (x0,x1,x2,x3))=false)∧Below wB.heap.size wB wr) (fun i _=>l.length - (intOf i).toNat)
 case atStart=>exact ⟨0,rfl,Nat.zero_le _,yD gW,bR⟩
 rename World=>wq
 obtain ⟨k,rfl,hk,HA,hbq⟩:=hrel
 have EQ:=(tQ EB hbq)
 have hk0:=Int.natCast_nonneg k
 by_cases hlt:k < l.length
 · have hk2:=Int.ofNat_lt.2 hlt
   obtain ⟨qb,qo,hqa,c0,c1,c2,qr,A0w,A1w,A2w⟩:=Rep.yP HL.out.1 hlt rfl
   have hit:=fun q=>kCz (p:=zP (x0,x1,x2,x3)) hlt q
   have nxt:=fun q=>kEs (p:=zP (x0,x1,x2,x3)) hlt HA.out q
   generalize l[k]=y at *
   have HIT:=yD hit;have NXT:=yD nxt;clear hit nxt
   obtain ⟨y0,y1,y2⟩:=y
   obtain ⟨qv0,qv1,qhe,q_0,q_1,q_2,q_3⟩:=kM qr
   simp only [List.cons.injEq,and_true] at qhe
   obtain ⟨rfl,rfl,rfl⟩:=qhe
   obtain ⟨ma,mp,rfl,_⟩:=Rep.sl q_1
   obtain ⟨ra,rp,rfl,_⟩:=Rep.sl q_2
   have HNM:Hid (kZ.raw w [.slice ma y0.length mp] y0):=yD q_0
   have HQ:=yD q_2
   try simp only at A0w A1w A2w
   clear qr q_0 q_1 q_2 q_3
   subst hqa
   cases he:eqN y0 x0
   · have HE:=yD he
     clear he
     have HP0:=yD (show zP (x0,x1,x2,x3) (y0,y1,y2)=false by unfold zP;simp only [HE.out];rfl)
     go_wp2
     go_loopw [8] (fun i wr=>∃ m:Nat,i=.int .i64 m∧m≤y1.length∧Hid ((y1.take m).any (kAh x1)=false)∧Below wB.heap.size wB wr) (fun i _=>y1.length - (intOf i).toNat)
     case atStart=>exact ⟨0,rfl,Nat.zero_le _,yD gW,hbq⟩
     rename World=>wp
     obtain ⟨m,rfl,hm,HM,hbp⟩:=hrel
     have hm0:=Int.natCast_nonneg m
     have EP:=(tQ EB hbp)
     have A0:=cL EP A0w
     have A1:=cL EP A1w
     replace K0:=cL hbp K0
     replace K1:=cL hbp K1
     by_cases hmt:m < y1.length
     · have hm2:=Int.ofNat_lt.2 hmt
       go_upto_region 5 with fail
       have FX:=yD (fun (W:World) (hW:Below wp.heap.size wp W)=>zi hW A0 A1 K0 K1)
       refine kK (fun W=>Below wp.heap.size wp W) [true,true,true,true,true,true,true,true,true,true,true,true,true,true,true,true,false,true] gP gP bX (bR.drew) ?_
       intro wS HS
       iterate 8
        all_goals refine wkR ?_
       all_goals (have hg8:=True.intro;first|(refine wkG (fun b hg8=>?_);cases b;all_goals first | exact Bool.noConfusion hg8 | simp only [zU,zV] at hg8 | skip) | refine wkR ?_)
       all_goals refine wkP ?_
       iterate 7
        all_goals refine wkR ?_
       all_goals first|(refine kG rfl HS ?_)|(refine kQ rfl (fun K hK=>?_);go_simp;refine (jN (HNM.out.below (tQ EP HS)) (HNX.out.below (tQ EP HS))).mono ?_;rintro e wS1 ⟨he_,hbS⟩;have he2_:e=.returned (.bool false):=he_.trans gN;subst he2_;clear he_;replace HS:=(tQ HS hbS);refine hK _ _ HS ?_;clear hK K hbS)
       all_goals refine wkP ?_
       all_goals refine wkR ?_
       all_goals refine kN ?_
       have hbw:=(tQ hbp HS)
       go_wp2
       go_roundw
       case rel=>exact ⟨k + 1,by go_num,by omega,yD (NXT.out HP0.out),hbw⟩
       simp [intOf];omega
     have hm3:¬ ((m:Int) < y1.length):=gV
     obtain rfl:m=y1.length:=gV
     go_upto_region 5 with fail
     have FX:=yD (fun (W:World) (hW:Below wp.heap.size wp W)=>zi hW A0 A1 K0 K1)
     refine kK (fun W=>Below wp.heap.size wp W) [true,true,true,true,true,true,true,true,true,true,true,true,true,true,true,true,false,true] gP gP bX (bR.drew) ?_
     intro wS HS
     iterate 8
      all_goals refine wkR ?_
     all_goals (have hg8:=True.intro;first|(refine wkG (fun b hg8=>?_);cases b;all_goals first | exact Bool.noConfusion hg8 | simp only [zU,zV] at hg8 | skip) | refine wkR ?_)
     all_goals refine wkP ?_
     iterate 7
      all_goals refine wkR ?_
     all_goals first|(refine kG rfl HS ?_)|(refine kQ rfl (fun K hK=>?_);go_simp;refine (jN (HNM.out.below (tQ EP HS)) (HNX.out.below (tQ EP HS))).mono ?_;rintro e wS1 ⟨he_,hbS⟩;have he2_:e=.returned (.bool false):=he_.trans gN;subst he2_;clear he_;replace HS:=(tQ HS hbS);refine hK _ _ HS ?_;clear hK K hbS)
     all_goals refine wkP ?_
     all_goals refine wkR ?_
     all_goals refine kN ?_
     have hbw:=(tQ hbp HS)
     go_wp2
     go_roundw
     case rel=>exact ⟨k + 1,by go_num,by omega,yD (NXT.out HP0.out),hbw⟩
     simp [intOf];omega
   have HE:=yD he
   clear he
   go_wp2
   go_loopw [8] (fun i wr=>∃ m:Nat,i=.int .i64 m∧m≤y1.length∧Hid ((y1.take m).any (kAh x1)=false)∧Below wB.heap.size wB wr) (fun i _=>y1.length - (intOf i).toNat)
   case atStart=>exact ⟨0,rfl,Nat.zero_le _,yD gW,hbq⟩
   rename World=>wp
   obtain ⟨m,rfl,hm,HM,hbp⟩:=hrel
   have hm0:=Int.natCast_nonneg m
   have EP:=(tQ EB hbp)
   have A0:=cL EP A0w
   have A1:=cL EP A1w
   replace K0:=cL hbp K0
   replace K1:=cL hbp K1
   by_cases hmt:m < y1.length
   · have hm2:=Int.ofNat_lt.2 hmt
     obtain ⟨rb,ro,hra,r0,r1,r2,rr,R0w,R1w,R2w⟩:=Rep.yP HQ.out hmt rfl
     have qhit:=fun q=>kCz (p:=kAh x1) hmt q
     have qnxt:=fun q=>kEs (p:=kAh x1) hmt HM.out q
     generalize y1[m]=z at *
     have QHIT:=yD qhit;have QNXT:=yD qnxt;clear qhit qnxt
     obtain ⟨z0,z1,z2⟩:=z
     obtain ⟨rhe,s_0,s_1,s_2⟩:=ko rr
     simp only [List.cons.injEq,and_true] at rhe
     obtain ⟨rfl,rfl,rfl⟩:=rhe
     try simp only at R0w R1w R2w
     subst hra
     clear rr s_0 s_1 s_2
     go_upto_region 5 with fail
     have FX:=yD (fun (W:World) (hW:Below wp.heap.size wp W)=>zi hW A0 A1 K0 K1)
     refine kK (fun W=>Below wp.heap.size wp W) [true,true,true,true,true,true,true,true,true,true,true,true,true,true,true,true,false,true] gP gP bX (bR.drew) ?_
     intro wS HS
     iterate 8
      all_goals refine wkR ?_
     all_goals (have hg8:=True.intro;first|(refine wkG (fun b hg8=>?_);cases b;all_goals first | exact Bool.noConfusion hg8 | simp only [zU,zV] at hg8 | skip) | refine wkR ?_)
     all_goals refine wkP ?_
     iterate 7
      all_goals refine wkR ?_
     all_goals first|(refine kG rfl HS ?_)|(refine kQ rfl (fun K hK=>?_);go_simp;refine (jN (HNM.out.below (tQ EP HS)) (HNX.out.below (tQ EP HS))).mono ?_;rintro e wS1 ⟨he_,hbS⟩;have he2_:e=.returned (.bool true):=he_.trans gN;subst he2_;clear he_;replace HS:=(tQ HS hbS);refine hK _ _ HS ?_;clear hK K hbS)
     all_goals refine wkP ?_
     all_goals refine wkR ?_
     all_goals refine kN ?_
     have EW:=(tQ EP HS)
     have hbw:=(tQ hbp HS)
     clear HS
     have B1:=cL EW A1w
     have R1:=cL EW R1w
     have N1:wS1.cell? ⟨w.heap.size,1,none⟩=some (.int .i64 x1):=cL (hbw) K1b
     by_cases hz:z1=x1
     skip
     · have HH:=yD (QHIT.out (by unfold kAh;simp [hz]))
       have HP1:=yD (HIT.out (by unfold zP;simp only [HE.out,HH.out];rfl))
       go_upto_region 7 with fail
       refine kK (fun W=>Below wS1.heap.size wS1 W) [true,true,true,true,true,true,true,true,true,true,true,true] gP gP bX (bR.drew) ?_
       intro wT HT_
       iterate 4
        all_goals first|(refine kG rfl HT_ ?_)|(refine kJ (v:=?_) rfl (fun W hW=>?_) ?_;rotate_left;(· go_simp;try with_reducible rfl))
        all_goals refine wkP ?_
       all_goals first|(refine kG rfl HT_ ?_)|(refine kJ (v:=?_) rfl (fun W hW=>?_) ?_;rotate_left;(· have A_B1:=cL hW B1;have A_R1:=cL hW R1;have A_N1:=cL hW N1;clear hW;go_simp;try with_reducible rfl))
       iterate 3
        all_goals refine wkP ?_
        all_goals first|(refine kG rfl HT_ ?_)|(refine kJ (v:=?_) rfl (fun W hW=>?_) ?_;rotate_left;(· go_simp;try with_reducible rfl))
       iterate 2
        all_goals refine wkP ?_
        all_goals first|(refine kG rfl HT_ ?_)|(refine kJ (v:=?_) rfl (fun W hW=>?_) ?_;rotate_left;(· have A_B1:=cL hW B1;have A_R1:=cL hW R1;have A_N1:=cL hW N1;clear hW;go_simp;try with_reducible rfl))
        all_goals refine wkP ?_
        all_goals first|(refine kG rfl HT_ ?_)|(refine kJ (v:=?_) rfl (fun W hW=>?_) ?_;rotate_left;(· go_simp;try with_reducible rfl))
       all_goals refine wkP ?_
       all_goals refine kN ?_
       have EV:=(tQ EW HT_)
       go_wp2
       go_ret
       exact ⟨kP (by unfold kDl;rw [HP1.out];rfl),EV⟩
     have HH:=yD (QNXT.out (by unfold kAh;simp [hz]))
     go_upto_region 7 with fail
     refine kK (fun W=>Below wS1.heap.size wS1 W) [true,true,true,true,true,true,true,true,true,true,true,true] gP gP bX (bR.drew) ?_
     intro wT HT_
     iterate 4
      all_goals first|(refine kG rfl HT_ ?_)|(refine kJ (v:=?_) rfl (fun W hW=>?_) ?_;rotate_left;(· go_simp;try with_reducible rfl))
      all_goals refine wkP ?_
     all_goals first|(refine kG rfl HT_ ?_)|(refine kJ (v:=?_) rfl (fun W hW=>?_) ?_;rotate_left;(· have A_B1:=cL hW B1;have A_R1:=cL hW R1;have A_N1:=cL hW N1;clear hW;go_simp;try with_reducible rfl))
     iterate 3
      all_goals refine wkP ?_
      all_goals first|(refine kG rfl HT_ ?_)|(refine kJ (v:=?_) rfl (fun W hW=>?_) ?_;rotate_left;(· go_simp;try with_reducible rfl))
     iterate 2
      all_goals refine wkP ?_
      all_goals first|(refine kG rfl HT_ ?_)|(refine kJ (v:=?_) rfl (fun W hW=>?_) ?_;rotate_left;(· have A_B1:=cL hW B1;have A_R1:=cL hW R1;have A_N1:=cL hW N1;clear hW;go_simp;try with_reducible rfl))
      all_goals refine wkP ?_
      all_goals first|(refine kG rfl HT_ ?_)|(refine kJ (v:=?_) rfl (fun W hW=>?_) ?_;rotate_left;(· go_simp;try with_reducible rfl))
     all_goals refine wkP ?_
     all_goals refine kN ?_
     have hbv:=(tQ hbw HT_)
     go_wp2
     go_roundw
     case rel=>exact ⟨m + 1,by go_num,by omega,HH,hbv⟩
     simp [intOf];omega
   have hm3:¬ ((m:Int) < y1.length):=gV
   obtain rfl:m=y1.length:=gV
   have HP0:=yD (show zP (x0,x1,x2,x3) (y0,y1,y2)=false by have h_:=HM.out;rw [List.take_length] at h_;unfold zP;simp only [h_];exact Bool.and_false _)
   go_upto_region 5 with fail
   have FX:=yD (fun (W:World) (hW:Below wp.heap.size wp W)=>zi hW A0 A1 K0 K1)
   refine kK (fun W=>Below wp.heap.size wp W) [true,true,true,true,true,true,true,true,true,true,true,true,true,true,true,true,false,true] gP gP bX (bR.drew) ?_
   intro wS HS
   iterate 8
    all_goals refine wkR ?_
   all_goals (have hg8:=True.intro;first|(refine wkG (fun b hg8=>?_);cases b;all_goals first | exact Bool.noConfusion hg8 | simp only [zU,zV] at hg8 | skip) | refine wkR ?_)
   all_goals refine wkP ?_
   iterate 7
    all_goals refine wkR ?_
   all_goals first|(refine kG rfl HS ?_)|(refine kQ rfl (fun K hK=>?_);go_simp;refine (jN (HNM.out.below (tQ EP HS)) (HNX.out.below (tQ EP HS))).mono ?_;rintro e wS1 ⟨he_,hbS⟩;have he2_:e=.returned (.bool true):=he_.trans gN;subst he2_;clear he_;replace HS:=(tQ HS hbS);refine hK _ _ HS ?_;clear hK K hbS)
   all_goals refine wkP ?_
   all_goals refine wkR ?_
   all_goals refine kN ?_
   have hbw:=(tQ hbp HS)
   go_wp2
   go_roundw
   case rel=>exact ⟨k + 1,by go_num,by omega,yD (NXT.out HP0.out),hbw⟩
   simp [intOf];omega
 have hk3:¬ ((k:Int) < l.length):=gV
 obtain rfl:k=l.length:=gV
 have HAL:=yD (show l.any (zP (x0,x1,x2,x3))=false by have h_:=HA.out;rwa [List.take_length] at h_)
 clear HA
 go_wp2
 go_loopw [9] (fun i wr=>∃ m:Nat,i=.int .i64 m∧m≤s.length∧Hid ((s.take m).any (kBa (x0,x1,x2,x3))=false)∧Below wB.heap.size wB wr) (fun i _=>s.length - (intOf i).toNat)
 case atStart=>exact ⟨0,rfl,Nat.zero_le _,yD gW,hbq⟩
 rename World=>wp
 obtain ⟨m,rfl,hm,HM,hbp⟩:=hrel
 have hm0:=Int.natCast_nonneg m
 have EP:=(tQ EB hbp)
 replace K0:=cL hbp K0
 replace K1:=cL hbp K1
 by_cases hmt:m < s.length
 · have hm2:=Int.ofNat_lt.2 hmt
   obtain ⟨rb,ro,hra,r0,r1,rr,R0w,R1w⟩:=Rep.get2 HS_.out.1 hmt rfl
   have qhit:=fun q=>kCz (p:=kBa (x0,x1,x2,x3)) hmt q
   have qnxt:=fun q=>kEs (p:=kBa (x0,x1,x2,x3)) hmt HM.out q
   generalize s[m]=z at *
   have QHIT:=yD qhit;have QNXT:=yD qnxt;clear qhit qnxt
   obtain ⟨z0,z1⟩:=z
   obtain ⟨zv,rhe,s_0,s_1,s_2⟩:=yj rr
   simp only [List.cons.injEq,and_true] at rhe
   obtain ⟨rfl,rfl⟩:=rhe
   obtain ⟨za,zp,rfl,_⟩:=Rep.sl s_1
   have HZN:Hid (kZ.raw w [.slice za z0.length zp] z0):=yD s_0
   try simp only at R0w R1w
   subst hra
   clear rr s_0 s_1 s_2
   have R0:=cL EP R0w
   have R1:=cL EP R1w
   by_cases hz:z1=x1
   · subst hz
     cases he:eqN z0 x0
     · have HE:=yD he
       clear he
       have HH:=yD (QNXT.out (by unfold kBa;simp only [HE.out];rfl))
       go_upto_region 12 with fail
       have FX:=yD (fun (W:World) (hW:Below wp.heap.size wp W)=>zi hW R0 R1 K0 K1)
       refine kK (fun W=>Below wp.heap.size wp W) [true,true,true,true,true,true,true,true,true,true,true,true,true,true,true,true,false,true] gP gP bX (bR.drew) ?_
       intro wS HS
       iterate 8
        all_goals refine wkR ?_
       all_goals (have hg8:=True.intro;first|(refine wkG (fun b hg8=>?_);cases b;all_goals first | exact Bool.noConfusion hg8 | simp only [zU,zV] at hg8 | skip) | refine wkR ?_)
       all_goals refine wkP ?_
       iterate 7
        all_goals refine wkR ?_
       all_goals first|(refine kG rfl HS ?_)|(refine kQ rfl (fun K hK=>?_);go_simp;refine (jN (HZN.out.below (tQ EP HS)) (HNX.out.below (tQ EP HS))).mono ?_;rintro e wS1 ⟨he_,hbS⟩;have he2_:e=.returned (.bool false):=he_.trans gN;subst he2_;clear he_;replace HS:=(tQ HS hbS);refine hK _ _ HS ?_;clear hK K hbS)
       all_goals refine wkP ?_
       all_goals refine wkR ?_
       all_goals refine kN ?_
       have hbw:=(tQ hbp HS)
       go_wp2
       go_roundw
       case rel=>exact ⟨m + 1,by go_num,by omega,HH,hbw⟩
       simp [intOf];omega
     have HE:=yD he
     clear he
     have HH:=yD (QHIT.out (by unfold kBa;simp only [HE.out];simp))
     go_upto_region 12 with fail
     have FX:=yD (fun (W:World) (hW:Below wp.heap.size wp W)=>zi hW R0 R1 K0 K1)
     refine kK (fun W=>Below wp.heap.size wp W) [true,true,true,true,true,true,true,true,true,true,true,true,true,true,true,true,false,true] gP gP bX (bR.drew) ?_
     intro wS HS
     iterate 8
      all_goals refine wkR ?_
     all_goals (have hg8:=True.intro;first|(refine wkG (fun b hg8=>?_);cases b;all_goals first | exact Bool.noConfusion hg8 | simp only [zU,zV] at hg8 | skip) | refine wkR ?_)
     all_goals refine wkP ?_
     iterate 7
      all_goals refine wkR ?_
     all_goals first|(refine kG rfl HS ?_)|(refine kQ rfl (fun K hK=>?_);go_simp;refine (jN (HZN.out.below (tQ EP HS)) (HNX.out.below (tQ EP HS))).mono ?_;rintro e wS1 ⟨he_,hbS⟩;have he2_:e=.returned (.bool true):=he_.trans gN;subst he2_;clear he_;replace HS:=(tQ HS hbS);refine hK _ _ HS ?_;clear hK K hbS)
     all_goals refine wkP ?_
     all_goals refine wkR ?_
     all_goals refine kN ?_
     have EV:=(tQ EP HS)
     go_wp2
     go_ret
     exact ⟨kP (by unfold kDl;rw [HH.out];exact (Bool.or_true _).symm),EV⟩
   have hzB:((z1==x1)=false):=gH
   have HH:=yD (QNXT.out (by unfold kBa;simp [hz]))
   have HE:Hid (eqN z0 x0=eqN z0 x0):=yD rfl
   go_upto_region 12 with fail
   have FX:=yD (fun (W:World) (hW:Below wp.heap.size wp W)=>zi hW R0 R1 K0 K1)
   refine kK (fun W=>Below wp.heap.size wp W) [true,true,true,true,true,true,true,true,true,true,true,true,true,true,true,true,false,true] gP gP bX (bR.drew) ?_
   intro wS HS
   iterate 8
    all_goals refine wkR ?_
   all_goals (have hg8:=True.intro;first|(refine wkG (fun b hg8=>?_);cases b;all_goals first | exact Bool.noConfusion hg8 | simp only [zU,zV] at hg8 | skip) | refine wkR ?_)
   all_goals refine wkP ?_
   iterate 7
    all_goals refine wkR ?_
   all_goals first|(refine kG rfl HS ?_)|(refine kQ rfl (fun K hK=>?_);go_simp;refine (jN (HZN.out.below (tQ EP HS)) (HNX.out.below (tQ EP HS))).mono ?_;rintro e wS1 ⟨he_,hbS⟩;have he2_:e=.returned (.bool (eqN z0 x0)):=he_.trans gN;subst he2_;clear he_;replace HS:=(tQ HS hbS);refine hK _ _ HS ?_;clear hK K hbS)
   all_goals refine wkP ?_
   all_goals refine wkR ?_
   all_goals refine kN ?_
   have hbw:=(tQ hbp HS)
   go_wp2
   go_roundw
   case rel=>exact ⟨m + 1,by go_num,by omega,HH,hbw⟩
   simp [intOf];omega
 have hm3:¬ ((m:Int) < s.length):=gV
 obtain rfl:m=s.length:=gV
 go_wp2
 go_ret
 exact ⟨kP (by have h_:=HM.out;rw [List.take_length] at h_;unfold kDl;rw [HAL.out,h_];rfl),EP⟩
theorem kEr {w:World} {vl:Value} {l:List kD} (hl:(Rep.slice 67 kE).rd w [vl] l) {vs:Value} {s:List kz} (hs:(Rep.slice 77 ky).rd w [vs] s) {cx:List Value} {x:kr} (hx:jl.rd w cx x) :
    Calls Try.prog 20 #[vl,vs,.agg cx.toArray] w fun e w'=>e=.returned (.bool (kDl x l s))∧Below w.heap.size w w':=by
 obtain ⟨x0,x1,x2,x3⟩:=x
 have HL:=yD hl
 have HS_:=yD hs
 have HX:=yD hx
 obtain ⟨la,lp,rfl,ll⟩:=Rep.sl hl.1
 obtain ⟨sa,sp,rfl,sl⟩:=Rep.sl hs.1
 obtain ⟨xv0,rfl,x_0,x_1,x_2,x_3,x_4⟩:=jZ hx.1
 obtain ⟨na,np,rfl,_⟩:=Rep.sl x_1
 have HNX:Hid (kZ.raw w [.slice na x0.length np] x0):=yD x_0
 clear hl hs hx x_0 x_1
 go_enter Try.func20,Try.ntmps20
 go_upto_region 1 with fail
 generalize hwB:World.alloc w _=wB
 have EB:Below w.heap.size w wB:=by rw [← hwB];exact bB
 have K0:wB.cell? ⟨w.heap.size,0,none⟩=some (.slice na x0.length np):=dX
 have K1:wB.cell? ⟨w.heap.size,1,none⟩=some (.int .i64 x1):=dX
 have K2:wB.cell? ⟨w.heap.size,2,none⟩=some (.int .i64 x2):=dX
 have K3:wB.cell? ⟨w.heap.size,3,none⟩=some (.int .i64 x3):=dX
 clear hwB
 go_wp2
 go_loopw [11] (fun i wr=>∃ k:Nat,i=.int .i64 k∧k≤l.length∧Hid ((l.take k).any (zP (x0,x1,x2,x3))=false)∧Below wB.heap.size wB wr) (fun i _=>l.length - (intOf i).toNat)
 case atStart=>exact ⟨0,rfl,Nat.zero_le _,yD gW,bR⟩
 rename World=>wq
 obtain ⟨k,rfl,hk,HA,hbq⟩:=hrel
 have EQ:=(tQ EB hbq)
 replace K0:=cL hbq K0
 replace K1:=cL hbq K1
 replace K2:=cL hbq K2
 replace K3:=cL hbq K3
 have hk0:=Int.natCast_nonneg k
 by_cases hlt:k < l.length
 · have hk2:=Int.ofNat_lt.2 hlt
   obtain ⟨qb,qo,rfl,c0,c1,c2,qr,A0,A1,A2⟩:=Rep.yP (HL.out.1.below EQ) hlt rfl
   have hit:=fun q=>kCz (p:=zP (x0,x1,x2,x3)) hlt q
   have nxt:=fun q=>kEs (p:=zP (x0,x1,x2,x3)) hlt HA.out q
   generalize l[k]=y at *
   obtain ⟨y0,y1,y2⟩:=y
   have HIT:=yD hit;have NXT:=yD nxt;clear hit nxt
   obtain ⟨qv0,qv1,qhe,q_0,q_1,q_2,q_3⟩:=kM qr
   simp only [List.cons.injEq,and_true] at qhe
   obtain ⟨rfl,rfl,rfl⟩:=qhe
   obtain ⟨ma,mp,rfl,_⟩:=Rep.sl q_1
   obtain ⟨ra,rp,rfl,_⟩:=Rep.sl q_2
   have HNM:Hid (kZ.raw wq [.slice ma y0.length mp] y0):=yD q_0
   have HQ:=yD q_2
   try simp only at A0 A1 A2
   clear qr q_0 q_1 q_2 q_3
   go_upto_region 4 with fail
   generalize hwC:World.alloc wq _=wC
   have EC:Below wq.heap.size wq wC:=dI
   have M0:wC.cell? ⟨wq.heap.size,0,none⟩=some (.slice ma y0.length mp):=dY
   have M1:wC.cell? ⟨wq.heap.size,1,none⟩=some (.slice ra y1.length rp):=dY
   have M2:wC.cell? ⟨wq.heap.size,2,none⟩=some (.int .i64 y2):=dY
   replace K0:=cL EC K0
   replace K1:=cL EC K1
   replace K2:=cL EC K2
   replace K3:=cL EC K3
   clear hwC
   have FX:=yD (fun (W:World) (hW:Below wC.heap.size wC W)=>cLs7 hW K0 K1 K2 K3 M0 M1 M2)
   refine kS (fun W=>Below wC.heap.size wC W) [true,true,true,true,false,true,true,true,false,false,true] bR ?_
   intro wS HS
   iterate 4
    all_goals refine wkR ?_
   all_goals first | refine wkB (yN (HNM.out.below (tQ EC HS)) (HNX.out.below (EQ.trans (Below.mono (tQ EC HS) EQ.size)))) (fun wS1 HS=>?_) | refine wkR ?_
   all_goals (have hg5:=True.intro;first|(refine wkG (fun b hg5=>?_);cases b;all_goals first | exact Bool.noConfusion hg5 | simp only [zU,zV] at hg5 | skip) | refine wkR ?_)
   all_goals refine wkP ?_
   all_goals refine wkR ?_
   all_goals refine wkR ?_
   all_goals first|(refine kG rfl HS ?_)|(refine kQ rfl (fun K hK=>?_);go_simp;refine hK _ _ HS ?_;clear hK K)
   all_goals refine wkP ?_
   all_goals first|(refine kG rfl HS ?_)|(refine kQ rfl (fun K hK=>?_);go_simp;refine (kAu (kAh x1) kBt (HQ.out.below (tQ EC HS)) ?_).mono ?_;(· intro wr2 hb2 i hi cs2 hcs;exact kIc hcs (Rep.raw.below HX.out.1 ((EQ.trans (Below.mono (tQ EC HS) EQ.size)).trans (hb2.mono (Below.size (EQ.trans (Below.mono (tQ EC HS) EQ.size)))))) (cL hb2 (cL HS K0)) (cL hb2 (cL HS K1)) (cL hb2 (cL HS K2)) (cL hb2 (cL HS K3)));rintro e wS1 ⟨rfl,hbS⟩;replace HS:=(tQ HS hbS);refine hK _ _ HS ?_;clear hK K hbS)
   all_goals refine wkP ?_
   all_goals (have hg10:=True.intro;first|(refine wkG (fun b hg10=>?_);cases b;all_goals first | exact Bool.noConfusion hg10 | simp only [zU,zV] at hg10 | skip) | refine wkR ?_)
   all_goals refine wkP ?_
   all_goals refine kN ?_
   all_goals have EG:=hbq.trans (Below.mono (tQ EC HS) hbq.size)
   all_goals first|(have HT:=yD (HIT.out (show _=true by simp only [zP,← kJl,Bool.not_true,Bool.not_false,Bool.and_true,Bool.true_and,Bool.and_false,Bool.false_and,Bool.or_true,Bool.true_or,Bool.or_false,Bool.false_or,Bool.not_not,ge_iff_le,hg5,hg10]));clear HIT NXT HA;go_wp2;go_ret;exact ⟨kP (by unfold kDl;rw [HT.out];exact (Bool.true_or _).symm),(tQ EB EG)⟩)|(have HT:=yD (NXT.out (show _=false by simp only [zP,← kJl,Bool.not_true,Bool.not_false,Bool.and_true,Bool.true_and,Bool.and_false,Bool.false_and,Bool.or_true,Bool.true_or,Bool.or_false,Bool.false_or,Bool.not_not,ge_iff_le,hg5,hg10]));clear HIT NXT HA;go_wp2;go_roundw;(case rel=>exact ⟨k + 1,by go_num,by omega,HT,EG⟩);(case measure=>simp [intOf];omega))
 have hk3:¬ ((k:Int) < l.length):=gV
 obtain rfl:k=l.length:=gV
 have HAL:=yD (show l.any (zP (x0,x1,x2,x3))=false by have h_:=HA.out;rwa [List.take_length] at h_)
 clear HA
 go_upto_region 7 with fail
 refine kS (fun W=>Below wq.heap.size wq W) [true,false,false,true] bR ?_
 intro wS HS
 all_goals refine wkR ?_
 all_goals first|(refine kG rfl HS ?_)|(refine kQ rfl (fun K hK=>?_);go_simp;refine hK _ _ HS ?_;clear hK K)
 all_goals refine wkP ?_
 all_goals first|(refine kG rfl HS ?_)|(refine kQ rfl (fun K hK=>?_);go_simp;refine (kAt (kBa (x0,x1,x2,x3)) kBs (HS_.out.1.below (tQ EQ HS)) ?_).mono ?_;(· intro wr2 hb2 i hi cs2 hcs;exact kIb hcs (Rep.raw.below HX.out.1 ((tQ EQ HS).trans (hb2.mono (Below.size (tQ EQ HS))))) (cL hb2 (cL HS K0)) (cL hb2 (cL HS K1)) (cL hb2 (cL HS K2)) (cL hb2 (cL HS K3)));rintro e wS1 ⟨rfl,hbS⟩;replace HS:=(tQ HS hbS);refine hK _ _ HS ?_;clear hK K hbS)
 all_goals refine wkP ?_
 all_goals refine wkR ?_
 all_goals refine kN ?_
 go_wp2
 go_ret
 exact ⟨kP (by unfold kDl;rw [HAL.out,kJl];rfl),(tQ EQ HS)⟩
end Go.Proofs.Ytpgnbablhdknnaa
