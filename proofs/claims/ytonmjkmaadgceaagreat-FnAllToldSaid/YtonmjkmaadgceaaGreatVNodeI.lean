/-
  Nodes that are valid: the program; both as the laws want them.
-/
import Derived.Test.YtonmjkmaadgceaaGreatVStoreI
set_option linter.unusedVariables false
set_option linter.unusedSimpArgs false
set_option linter.unnecessarySimpa false
set_option maxRecDepth 100000
set_option maxHeartbeats 4000000
namespace Go.Proofs.YtonmjkmaadgceaaGreat
open Go.RowKit _root_.Go.Proofs.Tryz
def kEx (l:List kI) (k:Nat) (x:kI):Bool:=!((((!yZ x.1 || ((x.1.length:Int)==0)) || ((x.2.1.length:Int)==0)) || !inR x.2.2 0 100000) || decide (idxOf (jV x.1) (l.take k) ≥ 0))
theorem okPendI_no {l:List kI} {k:Nat} {x:kI} (h:kEx l k x=false):kBv l k x=false:=by
 unfold kEx at h;unfold kBv
 cases hz:((x.2.1.length:Int)==0)
 · rw [hz] at h
   generalize yZ x.1=b1 at *;generalize ((x.1.length:Int)==0)=b2 at *;generalize inR x.2.2 0 100000=O at *;generalize decide (idxOf (jV x.1) (l.take k) ≥ 0)=L at *;generalize kKx x.2.1=V at *
   revert h;cases b1 <;> cases b2 <;> cases O <;> cases L <;> cases V <;> decide
 have e:kKx x.2.1=false:=by
  have h0:x.2.1.length=0:=by have:=eq_of_beq hz;omega
  unfold kKx;rw [h0];rfl
 rw [e]
 generalize yZ x.1=b1 at *;generalize ((x.1.length:Int)==0)=b2 at *;generalize inR x.2.2 0 100000=O at *;generalize decide (idxOf (jV x.1) (l.take k) ≥ 0)=L at *
 cases b1 <;> cases b2 <;> cases O <;> cases L <;> decide
theorem kKd {l:List kI} {k:Nat} {x:kI} (h:kEx l k x=true):kBv l k x=kKx x.2.1∧0 < x.2.1.length:=by
 unfold kEx at h;unfold kBv
 have hz:0 < x.2.1.length:=by
  cases hz:((x.2.1.length:Int)==0)
  · simp at hz;exact List.length_pos_iff.2 hz
  rw [hz] at h;simp at h
 refine ⟨?_,hz⟩
 generalize yZ x.1=b1 at *;generalize ((x.1.length:Int)==0)=b2 at *;generalize inR x.2.2 0 100000=O at *;generalize decide (idxOf (jV x.1) (l.take k) ≥ 0)=L at *;generalize kKx x.2.1=V at *;generalize ((x.2.1.length:Int)==0)=X at *
 revert h;cases b1 <;> cases b2 <;> cases O <;> cases L <;> cases V <;> cases X <;> decide
theorem vPends_yes {l:List kI} {k:Nat} (q:yX (fun j=>kBv l j (l.getD j ([],[],0))) k=true) (h:¬ k < l.length) (hk:k≤l.length):kDh l=decide ((l.length:Int)≤12):=by
 rw [kPy q h hk,Bool.eq_iff_iff];simp;omega
theorem kMn {w:World} {vl:Value} {l:List kI} (hl:(kE.slice 71 kJ).raw w [vl] l) :
    Calls prog 18 #[vl] w (bQ w (.bool (kDh l))):=by
 obtain ⟨al,pl,rfl,ll⟩:=kE.sl hl
 have ak:=kE.kCq hl
 go_enter func18,ntmps18
 go_wp2
 go_loopw [9] (fun i wr=>∃ k:Nat,k≤l.length∧i=.int .i64 k∧Hid (yX (fun j=>kBv l j (l.getD j ([],[],0))) k=true)∧Below w.heap.size w wr) (fun i _=>l.length - (intOf i).toNat)
 case atStart=>exact ⟨0,Nat.zero_le _,rfl,yD rfl,bR⟩
 obtain ⟨k,hk,rfl,HN,D⟩:=hrel
 by_cases hlt:k < l.length
 · have au:=yD (kE.kCc (hl.below D) hk)
   have hb:=fun q=>kRx hlt q
   have an:=fun q=>kPx hlt q HN.out
   obtain ⟨qb,qo,rfl,ah,ai,aj,qr,a1,a4,bb⟩:=kE.kDv (hl.below D) (i:=k) bB9 rfl
   generalize l[k]=x at *
   have HB:Hid (kEx l k x=false→kDh l=false):=yD (fun q=>hb (okPendI_no q))
   have HX:Hid (kEx l k x=true→0 < x.2.1.length∧(kKx x.2.1=false→kDh l=false)∧(kKx x.2.1=true→yX (fun j=>kBv l j (l.getD j ([],[],0))) (k + 1)=true)):=yD (fun q=>⟨(kKd q).2,fun p=>hb ((kKd q).1.trans p),fun p=>an ((kKd q).1.trans p)⟩)
   clear hb an
   obtain ⟨bq,cc,aq,ar,ax,ap,bc⟩:=jo qr
   simp only [List.cons.injEq,and_true] at aq
   obtain ⟨rfl,rfl,rfl⟩:=aq
   obtain ⟨ae,be,rfl,az⟩:=kE.sl ax
   obtain ⟨ao,br,rfl,bn⟩:=kE.sl ap
   obtain ⟨a8,di,a7,a2⟩:=qJ
   go_upto_region 4 with fail
   generalize F:World.alloc wr _=R
   have EC:Below wr.heap.size wr R:=rX
   have M0:R.cell? ⟨wr.heap.size,0,none⟩=some (.slice ae x.1.length be):=tO
   have M1:R.cell? ⟨wr.heap.size,1,none⟩=some (.slice ao x.2.1.length br):=tO
   have M2:R.cell? ⟨wr.heap.size,2,none⟩=some (.int .i64 x.2.2):=tO
   clear F
   have FX:=yD (fun (W:World) (hW:Below R.heap.size R W)=>kMs hW M0 M1 M2)
   refine kW (fun W=>Below R.heap.size R W) [true,true,false,true,true,true,true,true,true,true,true,true,true,true,true,true,true,true,true,true,false,true,true,true,true,true,true,true,true,false,true,true] bB4 bB4 qD (bR.drew) ?_
   intro wS E
   all_goals refine kS ?_
   all_goals refine kS ?_
   all_goals first | refine wkB (zX (kE.raw.below ar (tQ EC E))) (fun wS1 E=>?_) | refine kS ?_
   all_goals refine kS ?_
   all_goals (have O:=True.intro;first|(refine yT (fun b O=>?_);cases b;all_goals first | exact Bool.noConfusion O | simp only [zU,zV] at O | skip) | refine kS ?_)
   all_goals refine kX ?_
   iterate 6
    all_goals refine kS ?_
   all_goals (have Y:=True.intro;first|(refine yT (fun b Y=>?_);cases b;all_goals first | exact Bool.noConfusion Y | simp only [zU,zV] at Y | skip) | refine kS ?_)
   all_goals refine kX ?_
   iterate 5
    all_goals refine kS ?_
   all_goals (have N:=True.intro;first|(refine yT (fun b N=>?_);cases b;all_goals first | exact Bool.noConfusion N | simp only [zU,zV] at N | skip) | refine kS ?_)
   all_goals refine kX ?_
   all_goals refine kS ?_
   all_goals refine kS ?_
   all_goals first | refine wkC (jh) ?_ | refine kS ?_
   all_goals refine kS ?_
   all_goals refine kS ?_
   all_goals (have V:=True.intro;first|(refine yT (fun b V=>?_);cases b;all_goals first | exact Bool.noConfusion V | simp only [zU,zV] at V | skip) | refine kS ?_)
   all_goals refine kX ?_
   iterate 5
    all_goals refine kS ?_
   all_goals first | refine wkB (kDd (kE.raw.below au.out (tQ EC E)) (kE.raw.below ar (tQ EC E))) (fun wS1 E=>?_) | refine kS ?_
   all_goals refine kS ?_
   all_goals (have aa:=True.intro;first|(refine yT (fun b aa=>?_);cases b;all_goals first | exact Bool.noConfusion aa | simp only [zU,zV] at aa | skip) | refine kS ?_)
   all_goals refine kX ?_
   all_goals refine kZ ?_
   all_goals have G:=(tQ D (tQ EC E))
   all_goals first
     | (have U:=yD (HB.out (show kEx l k x=false by simp only [kEx,Bool.not_true,Bool.not_false,Bool.and_true,Bool.true_and,Bool.and_false,Bool.false_and,Bool.or_true,Bool.true_or,Bool.or_false,Bool.false_or,Bool.not_not,ge_iff_le,O,Y,N,V,aa]));clear HB HX HN au;go_wp2;go_ret;exact ⟨kR U.out.symm,G⟩)
     | have U:=yD (HX.out (show kEx l k x=true by simp only [kEx,Bool.not_true,Bool.not_false,Bool.and_true,Bool.true_and,Bool.and_false,Bool.false_and,Bool.or_true,Bool.true_or,Bool.or_false,Bool.false_or,Bool.not_not,ge_iff_le,O,Y,N,V,aa]))
   all_goals try clear HB HX
   have C1:=M1
   have pn:=yD ap
   have bo:=yD U.out.1
   have bf:=yD U.out.2.1
   have bi:=yD U.out.2.2
   clear U O Y N V aa HN au
   generalize x.2.1=P at *
   have M1:=cL E C1
   go_wp2
   clear M1
   go_loopw [49] (fun i wq=>∃ j:Nat,j≤P.length∧i=.int .i64 j∧Hid (yX (fun j=>kJh P j (P.getD j (0,0,0))) j=true)∧Below R.heap.size R wq) (fun i _=>P.length - (intOf i).toNat)
   case atStart=>exact ⟨0,Nat.zero_le _,rfl,yD rfl,E⟩
   obtain ⟨j,I,rfl,HM,hq⟩:=hrel
   replace C1:=cL hq C1
   by_cases av:j < P.length
   · have dn:=Int.ofNat_lt.2 av
     have da:=Int.natCast_nonneg j
     obtain ⟨pb,po,rfl,ep,e0,ei,pr,bp,bt,bv⟩:=kE.kDv (pn.out.below (tQ EC hq)) (i:=j) bB9 rfl
     have hb:=fun q=>bf.out (vAsk_bad av q)
     have an:=fun q=>kUt av q HM.out
     by_cases h0:0 < j
     · obtain ⟨i,hi⟩:∃ i,j - 1=i:=⟨_,rfl⟩
       have H:i < P.length:=bB9
       have L:=yD (kKt (l:=P) (x:=P[j]) h0 hi H)
       have bg:(j:Int) - 1=(i:Int):=bB9
       obtain ⟨yb,yo,yE,ay,bd,a9,yr,ac,aw,ag⟩:=kE.kDv (pn.out.below (tQ EC hq)) H rfl
       simp only [Option.some.injEq,Addr.mk.injEq,and_true] at yE
       obtain ⟨rfl,rfl⟩:=yE
       generalize P[i]=u at *
       obtain ⟨b2,bj,bu,b1⟩:=zP yr
       simp only [List.cons.injEq,and_true] at b2
       obtain ⟨rfl,rfl,rfl⟩:=b2
       clear yr
       have hw:IntKind.i64.wrap (i:Int)=i:=IntWalk.i64_in _ bB9
       have bh:=Int.natCast_nonneg i
       have af:=Int.ofNat_lt.2 H
       clear hi
       have hp:decide ((j:Int) > 0)=true:=bB5
       have bm:decide (0 < j)=true:=wH
       have ba:(0:Int) < j:=bB9
       generalize P[j]=y at *
       have HB:=yD hb;have HX:=yD an;clear hb an
       obtain ⟨am,a5,bl,bk⟩:=zP pr
       simp only [List.cons.injEq,and_true] at am
       obtain ⟨rfl,rfl,rfl⟩:=am
       go_upto_region 9 with fail
       generalize a3:World.alloc wr _=wD
       obtain ⟨ED,N0,N1,N2,D1⟩:=AZ
       replace ac:=cL ED ac
       clear a3
       have FX:=yD (fun (W:World) (hW:Below wD.heap.size wD W)=>cLs5 hW D1 N0 N1 N2 ac)
       refine kW (fun W=>Below wD.heap.size wD W) [true,true,false,true,true,true,true,false,true,true,true,true,true,true,true,true,true,true,true,true,true,true,true,true,true,true] bB4 bB4 qD (bR.drew) ?_
       intro wS E
       all_goals refine kS ?_
       all_goals refine kS ?_
       all_goals first | refine wkC (jh) ?_ | refine kS ?_
       all_goals refine kS ?_
       all_goals (have O:=True.intro;first|(refine yT (fun b O=>?_);cases b;all_goals first | exact Bool.noConfusion O | simp only [zU,zV] at O | skip) | refine kS ?_)
       all_goals refine kX ?_
       all_goals refine kS ?_
       all_goals refine kS ?_
       all_goals first | refine wkC (jh) ?_ | refine kS ?_
       all_goals refine kS ?_
       all_goals refine kS ?_
       all_goals (have J:=True.intro;first|(refine yT (fun b J=>?_);cases b;all_goals first | exact Bool.noConfusion J | simp only [zU,zV] at J | skip) | refine kS ?_)
       all_goals refine kX ?_
       all_goals refine kS ?_
       all_goals refine kS ?_
       all_goals (have Z:=True.intro;first|(refine yT (fun b Z=>?_);cases b;all_goals first | exact Bool.noConfusion Z | simp only [zU,zV] at Z | skip) | refine kS ?_)
       all_goals refine kX ?_
       iterate 11
        all_goals refine kS ?_
       all_goals (have X:=True.intro;first|(refine yT (fun b X=>?_);cases b;all_goals first | exact Bool.noConfusion X | simp only [zU,zV] at X | skip) | refine kS ?_)
       all_goals refine kX ?_
       all_goals refine kZ ?_
       all_goals have EQ:=(tQ hq (tQ ED E))
       all_goals first
         | (have U:=yD (HB.out (show _=false by rw [L.out];simp only [okA,Bool.not_true,Bool.not_false,Bool.and_true,Bool.true_and,Bool.and_false,Bool.false_and,Bool.or_true,Bool.true_or,Bool.or_false,Bool.false_or,Bool.not_not,ge_iff_le,O,J,Z,X]));clear HB HX HM L;have G:=(tQ D (tQ EC EQ));go_wp2;go_ret;exact ⟨kR U.out.symm,G⟩)
         | (have U:=yD (HX.out (show _=true by rw [L.out];simp only [okA,Bool.not_true,Bool.not_false,Bool.and_true,Bool.true_and,Bool.and_false,Bool.false_and,Bool.or_true,Bool.true_or,Bool.or_false,Bool.false_or,Bool.not_not,ge_iff_le,O,J,Z,X]));clear HB HX HM L;go_wp2;go_roundw;(case rel=>exact ⟨j + 1,by omega,by go_num,U,EQ⟩);(case measure=>simp [intOf];omega))
     have L:=yD (kIt (l:=P) (x:=P[j]) h0)
     have hp:decide ((j:Int) > 0)=false:=bB5
     have bm:decide (0 < j)=false:=wH
     have ba:¬ (0:Int) < j:=bB9
     generalize P[j]=y at *
     have HB:=yD hb;have HX:=yD an;clear hb an
     obtain ⟨am,a5,bl,bk⟩:=zP pr
     simp only [List.cons.injEq,and_true] at am
     obtain ⟨rfl,rfl,rfl⟩:=am
     go_upto_region 9 with fail
     generalize a3:World.alloc wr _=wD
     obtain ⟨ED,N0,N1,N2,D1⟩:=AZ
     clear a3
     have FX:=yD (fun (W:World) (hW:Below wD.heap.size wD W)=>kLd hW D1 N0 N1 N2)
     refine kW (fun W=>Below wD.heap.size wD W) [true,true,false,true,true,true,true,false,true,true,true,true,true,true,true,true,true,true,true,true,true,true,true,true,true,true] bB4 bB4 qD (bR.drew) ?_
     intro wS E
     all_goals refine kS ?_
     all_goals refine kS ?_
     all_goals first | refine wkC (jh) ?_ | refine kS ?_
     all_goals refine kS ?_
     all_goals (have O:=True.intro;first|(refine yT (fun b O=>?_);cases b;all_goals first | exact Bool.noConfusion O | simp only [zU,zV] at O | skip) | refine kS ?_)
     all_goals refine kX ?_
     all_goals refine kS ?_
     all_goals refine kS ?_
     all_goals first | refine wkC (jh) ?_ | refine kS ?_
     all_goals refine kS ?_
     all_goals refine kS ?_
     all_goals (have J:=True.intro;first|(refine yT (fun b J=>?_);cases b;all_goals first | exact Bool.noConfusion J | simp only [zU,zV] at J | skip) | refine kS ?_)
     all_goals refine kX ?_
     all_goals refine kS ?_
     all_goals refine kS ?_
     all_goals (have Z:=True.intro;first|(refine yT (fun b Z=>?_);cases b;all_goals first | exact Bool.noConfusion Z | simp only [zU,zV] at Z | skip) | refine kS ?_)
     all_goals refine kX ?_
     iterate 11
      all_goals refine kS ?_
     all_goals (have X:=True.intro;first|(refine yT (fun b X=>?_);cases b;all_goals first | exact Bool.noConfusion X | simp only [zU,zV] at X | skip) | refine kS ?_)
     all_goals refine kX ?_
     all_goals refine kZ ?_
     all_goals have EQ:=(tQ hq (tQ ED E))
     all_goals first
       | (have U:=yD (HB.out (show _=false by rw [L.out];simp only [okA0,Bool.not_true,Bool.not_false,Bool.and_true,Bool.true_and,Bool.and_false,Bool.false_and,Bool.or_true,Bool.true_or,Bool.or_false,Bool.false_or,Bool.not_not,ge_iff_le,O,J,Z,X]));clear HB HX HM L;have G:=(tQ D (tQ EC EQ));go_wp2;go_ret;exact ⟨kR U.out.symm,G⟩)
       | (have U:=yD (HX.out (show _=true by rw [L.out];simp only [okA0,Bool.not_true,Bool.not_false,Bool.and_true,Bool.true_and,Bool.and_false,Bool.false_and,Bool.or_true,Bool.true_or,Bool.or_false,Bool.false_or,Bool.not_not,ge_iff_le,O,J,Z,X]));clear HB HX HM L;go_wp2;go_roundw;(case rel=>exact ⟨j + 1,by omega,by go_num,U,EQ⟩);(case measure=>simp [intOf];omega))
   have U:=yD (bi.out ((kUu HM.out av I).trans (by have:=bo.out;simpa using this)))
   have G:=(tQ D (tQ EC hq))
   have ab:¬ (j:Int) < P.length:=bB9
   go_wp2
   go_roundw
   case rel=>exact ⟨k + 1,by omega,by go_num,U,G⟩
   simp [intOf];omega
 have U:=yD (vPends_yes HN.out hlt hk)
 have a6:¬ (k:Int) < l.length:=bB9
 go_wp2
 go_ret
 exact ⟨kR U.out.symm,D⟩
theorem kDe {w:World} {cx:List Value} {x:yI} (hx:yA.raw w cx x) :
    Calls prog 6 #[.agg cx.toArray] w (bQ w (.bool (kBd x))):=by
 obtain ⟨ez,e9,f9,f8,f2,f1,rfl,ac,ay,a3,a5,ba,bg,b2,da,dd⟩:=zf hx
 obtain ⟨cl,b6,rfl,e1⟩:=kE.sl ac
 obtain ⟨c6,c5,rfl,fa⟩:=kE.sl a5
 obtain ⟨dq,dp,rfl,f3⟩:=kE.sl ba
 obtain ⟨ee,eb,rfl,f7⟩:=kE.sl bg
 obtain ⟨d3,dw,rfl,gd⟩:=kE.sl b2
 obtain ⟨d4,dr,rfl,f5⟩:=kE.sl da
 have hl:=ac
 have ak:=kE.kCq hl
 have H1:=yD ay
 have H4:=yD ba
 have H6:=yD b2
 have H7:=yD da
 clear hx ac ay a3 a5 ba bg b2 da dd
 go_enter func6,ntmps6
 go_wp2
 generalize H:World.alloc w _=N
 obtain ⟨Z,K0,K1,K2,K3,K4,K5,K6,K7⟩:=oO
 clear H
 replace hl:=hl.below Z
 go_loopw [8] (fun i wr=>∃ k:Nat,k≤x.1.length∧i=.int .i64 k∧Hid (yX (fun j=>kGp x.1 j (x.1.getD j kRr)) k=true)∧Below N.heap.size N wr) (fun i _=>x.1.length - (intOf i).toNat)
 case atStart=>exact ⟨0,Nat.zero_le _,rfl,yD rfl,bR⟩
 obtain ⟨k,hk,rfl,HN,D⟩:=hrel
 replace K0:=cL D K0
 replace K1:=cL D K1
 replace K2:=cL D K2
 replace K3:=cL D K3
 replace K4:=cL D K4
 replace K5:=cL D K5
 replace K6:=cL D K6
 replace K7:=cL D K7
 by_cases hlt:k < x.1.length
 · have au:=yD (kE.kCc (hl.below D) hk)
   have hb:=fun q=>kSy (x:=x) hlt q
   have an:=fun q=>kQk hlt q HN.out
   obtain ⟨qb,qo,rfl,ah,ai,aj,ck,co,qr,a1,a4,bb,b0,b4⟩:=kE.get5 (hl.below D) (i:=k) bB9 rfl
   generalize x.1[k]=z at *
   have HB:=yD hb;have HX:=yD an;clear hb an
   obtain ⟨bq,cc,cj,aq,ar,ax,ap,bc,bv,bz,ci⟩:=jN qr
   simp only [List.cons.injEq,and_true] at aq
   obtain ⟨rfl,rfl,rfl,rfl,rfl⟩:=aq
   obtain ⟨ae,be,rfl,az⟩:=kE.sl ax
   obtain ⟨ao,br,rfl,bn⟩:=kE.sl ap
   obtain ⟨am,bt,rfl,bo⟩:=kE.sl bv
   have a8:=Int.ofNat_lt.2 hlt
   have di:=Int.natCast_nonneg k
   have a7:(k:Int)≤(b6:Int):=bB9
   have a2:k≤b6:=bB9
   go_upto_region 4 with fail
   generalize F:World.alloc wr _=R
   have EC:Below wr.heap.size wr R:=rX
   have M0:R.cell? ⟨wr.heap.size,0,none⟩=some (.slice ae z.1.length be):=tO
   have M1:R.cell? ⟨wr.heap.size,1,none⟩=some (.slice ao z.2.1.length br):=tO
   have M2:R.cell? ⟨wr.heap.size,2,none⟩=some (.slice am z.2.2.1.length bt):=tO
   have M3:R.cell? ⟨wr.heap.size,3,none⟩=some (.int .i64 z.2.2.2.1):=tO
   have M4:R.cell? ⟨wr.heap.size,4,none⟩=some (.int .i64 z.2.2.2.2):=tO
   replace K0:=cL EC K0
   clear F
   have FX:=yD (fun (W:World) (hW:Below R.heap.size R W)=>cLs6 hW K0 M0 M1 M2 M3 M4)
   refine kW (fun W=>Below R.heap.size R W) [true,false,true,true,true,true,true,true,true,true,false,true,true] bB4 bB4 qD (bR.drew) ?_
   intro wS E
   all_goals refine kS ?_
   all_goals first | refine wkB (kDf (kE.raw.below qr (tQ EC E))) (fun wS1 E=>?_) | refine kS ?_
   all_goals refine kS ?_
   all_goals (have ag:=True.intro;first|(refine yT (fun b ag=>?_);cases b;all_goals first | exact Bool.noConfusion ag | simp only [zU,zV] at ag | skip) | refine kS ?_)
   all_goals refine kX ?_
   iterate 6
    all_goals refine kS ?_
   all_goals first | refine wkB (kLx (kE.raw.below au.out (tQ EC E)) (kE.raw.below ar (tQ EC E))) (fun wS1 E=>?_) | refine kS ?_
   all_goals refine kS ?_
   all_goals (have al:=True.intro;first|(refine yT (fun b al=>?_);cases b;all_goals first | exact Bool.noConfusion al | simp only [zU,zV] at al | skip) | refine kS ?_)
   all_goals refine kX ?_
   all_goals refine kZ ?_
   all_goals have G:=(tQ D (tQ EC E))
   all_goals first
     | (have U:=yD (HB.out (show _=false by simp only [kGp,Bool.not_true,Bool.not_false,Bool.and_true,Bool.true_and,Bool.and_false,Bool.false_and,Bool.or_true,Bool.true_or,Bool.or_false,Bool.false_or,Bool.not_not,ge_iff_le,ag,al]));clear HB HX HN au;go_wp2;go_ret;exact ⟨kR U.out.symm,(tQ Z G)⟩)
     | (have U:=yD (HX.out (show _=true by simp only [kGp,Bool.not_true,Bool.not_false,Bool.and_true,Bool.true_and,Bool.and_false,Bool.false_and,Bool.or_true,Bool.true_or,Bool.or_false,Bool.false_or,Bool.not_not,ge_iff_le,ag,al]));clear HB HX HN au;go_wp2;go_roundw;(case rel=>exact ⟨k + 1,by omega,by go_num,U,G⟩);(case measure=>simp [intOf];omega))
 have U:=yD (kQl (x:=x) HN.out hlt hk)
 have a6:¬ (k:Int) < x.1.length:=bB9
 go_upto_region 7 with fail
 have FX:=yD (fun (W:World) (hW:Below wr.heap.size wr W)=>cLs8 hW K0 K1 K2 K3 K4 K5 K6 K7)
 refine kz (fun W=>Below wr.heap.size wr W) [true,true,true,true,true,true,true,false,true,true,true,true,false,true,true,true,true,false,true,true,true,true,false,true,true,true,true,true,true,true,true,true,true,true,true,true] bR ?_
 intro wS E
 iterate 4
  all_goals refine kS ?_
 all_goals (have O:=True.intro;first|(refine yT (fun b O=>?_);cases b;all_goals first | exact Bool.noConfusion O | simp only [zU,zV] at O | skip) | refine kS ?_)
 all_goals refine kX ?_
 all_goals refine kS ?_
 all_goals refine kS ?_
 all_goals first | refine wkB (kHy (kE.raw.below H1.out ((tQ Z D).trans (E.mono (Below.size (tQ Z D)))))) (fun wS1 E=>?_) | refine kS ?_
 all_goals refine kS ?_
 all_goals (have L:=True.intro;first|(refine yT (fun b L=>?_);cases b;all_goals first | exact Bool.noConfusion L | simp only [zU,zV] at L | skip) | refine kS ?_)
 all_goals refine kX ?_
 all_goals refine kS ?_
 all_goals refine kS ?_
 all_goals first | refine wkB (kMn (kE.raw.below H4.out ((tQ Z D).trans (E.mono (Below.size (tQ Z D)))))) (fun wS1 E=>?_) | refine kS ?_
 all_goals refine kS ?_
 all_goals (have I:=True.intro;first|(refine yT (fun b I=>?_);cases b;all_goals first | exact Bool.noConfusion I | simp only [zU,zV] at I | skip) | refine kS ?_)
 all_goals refine kX ?_
 all_goals refine kS ?_
 all_goals refine kS ?_
 all_goals first | refine wkB (kNv (kE.raw.below H6.out ((tQ Z D).trans (E.mono (Below.size (tQ Z D)))))) (fun wS1 E=>?_) | refine kS ?_
 all_goals refine kS ?_
 all_goals (have J:=True.intro;first|(refine yT (fun b J=>?_);cases b;all_goals first | exact Bool.noConfusion J | simp only [zU,zV] at J | skip) | refine kS ?_)
 all_goals refine kX ?_
 all_goals refine kS ?_
 all_goals refine kS ?_
 all_goals first | refine wkB (kHx (kE.raw.below H7.out ((tQ Z D).trans (E.mono (Below.size (tQ Z D)))))) (fun wS1 E=>?_) | refine kS ?_
 all_goals refine kS ?_
 all_goals (have Y:=True.intro;first|(refine yT (fun b Y=>?_);cases b;all_goals first | exact Bool.noConfusion Y | simp only [zU,zV] at Y | skip) | refine kS ?_)
 all_goals refine kX ?_
 iterate 5
  all_goals refine kS ?_
 all_goals (have X:=True.intro;first|(refine yT (fun b X=>?_);cases b;all_goals first | exact Bool.noConfusion X | simp only [zU,zV] at X | skip) | refine kS ?_)
 all_goals refine kX ?_
 iterate 4
  all_goals refine kS ?_
 all_goals (have V:=True.intro;first|(refine yT (fun b V=>?_);cases b;all_goals first | exact Bool.noConfusion V | simp only [zU,zV] at V | skip) | refine kS ?_)
 all_goals refine kX ?_
 all_goals refine kZ ?_
 all_goals have G:=(tQ Z (tQ D E))
 all_goals first
   | (have HV:=yD (show kBd x=false by rw [U.out];simp only [kQg,Bool.not_true,Bool.not_false,Bool.and_true,Bool.true_and,Bool.and_false,Bool.false_and,Bool.or_true,Bool.true_or,Bool.or_false,Bool.false_or,Bool.not_not,ge_iff_le,O,L,I,J,Y,X,V]);go_wp2;go_ret;exact ⟨kR HV.out.symm,G⟩)
   | (have HV:=yD (show kBd x=true by rw [U.out];simp only [kQg,Bool.not_true,Bool.not_false,Bool.and_true,Bool.true_and,Bool.and_false,Bool.false_and,Bool.or_true,Bool.true_or,Bool.or_false,Bool.false_or,Bool.not_not,ge_iff_le,O,L,I,J,Y,X,V]);go_wp2;go_ret;exact ⟨kR HV.out.symm,G⟩)
end Go.Proofs.YtonmjkmaadgceaaGreat
