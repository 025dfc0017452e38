/-
  The law FnTicksNode: a requester whose time has expired waits no longer; a node remains valid.
-/
import Derived.Test.YtonmjkmaadgceabGreatTickI
set_option linter.unusedVariables false
set_option linter.unusedSimpArgs false
set_option linter.unnecessarySimpa false
set_option maxRecDepth 100000
set_option maxHeartbeats 40000000
open Bool renaming true->Tt,false->Ff
open List.cons renaming injEq->Aa
open Int renaming natCast_nonneg->Ab
open List renaming getElem_mem->Ac
open Go renaming World->Ad
open Go.IntWalk renaming i64_in->Ae
namespace Go.Proofs.YtonmjkmaadgceabGreat
open Go.RowKit _root_.Go.Proofs.Tryz
theorem kUd {w:Ad} {cx:List Value} {x:yB} (hx:jr.rd w cx x) {now:Int} (_:Qi now) (hB:lenN 1048576 x) :
    Calls prog 8 #[.agg cx.toArray,.int .i64 now] w (kAe jr (kOa now x) w):=by
 obtain ⟨x0,⟨xc,xe⟩,x2,x3,x4,x5,x6⟩:=x
 have HX:=yD hx
 have HB:=yD hB
 obtain ⟨d4,d7,en,el,eg,ef,rfl,ad,a3,bi,a9,az,ba,bm,bz,dg⟩:=yS hx.1
 obtain ⟨cw,b6,rfl,d6⟩:=kD.sl ad
 obtain ⟨cz,co,rfl,d8⟩:=kD.sl a9
 obtain ⟨dk,c8,rfl,eh⟩:=kD.sl az
 obtain ⟨dj,di,rfl,ek⟩:=kD.sl ba
 obtain ⟨c5,c4,rfl,eq⟩:=kD.sl bm
 obtain ⟨c3,cm,rfl,ej⟩:=kD.sl bz
 obtain ⟨eo,gb,a8,em,d5,ga⟩:=BH
 clear hx hB ad a3 bi a9 az ba bm bz dg
 go_enter func8,ntmps8
 go_upto_region 1 with fail
 generalize F:World.alloc (World.alloc w _) _=Y
 obtain ⟨U,BX,BR,bd⟩:=BC
 clear F
 obtain ⟨X,aa,af,ac,ae,ai,al,an⟩:=jR BX
 go_wp2_with fail
 refine (kKi (HX.out.below U)).mono ?_
 rintro e V ⟨cs,rfl,O,hb⟩
 have bk:=hb.size
 replace BX:=kC BX hb
 replace BR:=kC BR hb
 replace U:=(tQ U hb)
 clear X aa af ac ae ai al an
 clear hb
 obtain ⟨gd,gf,gs,gq,gm,gj,rfl,e1,fe,fd,ey,es,e4,e5,fk,f9⟩:=yS O.raw
 obtain ⟨cc,ck,rfl,gc⟩:=kD.sl e1
 obtain ⟨c9,dh,rfl,gg⟩:=kD.sl ey
 obtain ⟨f3,f5,rfl,gp⟩:=kD.sl es
 obtain ⟨e3,e0,rfl,gt⟩:=kD.sl e4
 obtain ⟨dd,df,rfl,gl⟩:=kD.sl e5
 obtain ⟨ez,e6,rfl,gi⟩:=kD.sl fk
 clear e1 fe fd ey es e4 e5 fk f9
 have J:=yD (O.wide (T:=(λj=>w.heap.size + 2<=j/\j < V.heap.size/\j≠V.heap.size)) gQ)
 clear O
 go_upto_region 2 with fail
 generalize F:World.alloc V _=w3
 obtain ⟨ak,BO,bl⟩:=FO
 clear F
 replace BX:=kC BX ak
 obtain ⟨BR,J,U⟩:=DJ
 clear ak
 obtain ⟨X,aa,af,ac,ae,ai,al,an⟩:=jR BX
 obtain ⟨G,o,H,D,N,ag,ab,ah⟩:=jR BO
 obtain ⟨ar,ax,aw,a1,a2,be,bc,a7⟩:=kAw BO
 go_wp2_with fail
 refine (kLx (eo.out.below U) a8 em.out).mono ?_
 rintro e w4 ⟨v4,rfl,O4,hb⟩
 have bw:=hb.size
 replace BX:=kC BX hb
 obtain ⟨BR,BO,J,U⟩:=xN
 clear X aa af ac ae ai al an G o H D N ag ab ah ar ax aw a1 a2 be bc a7
 clear hb
 obtain ⟨X,aa,af,ac,ae,ai,al,an⟩:=jR BX
 obtain ⟨G,o,H,D,N,ag,ab,ah⟩:=jR BO
 obtain ⟨ar,ax,aw,a1,a2,be,bc,a7⟩:=kAw BO
 have f7:=kIh now x2
 obtain ⟨P,hP⟩:∃ P,kDc now x2=P:=⟨_,rfl⟩
 rw [hP] at O4 f7
 have HP:=yD hP
 clear hP
 obtain ⟨pa,pc,rfl,_⟩:=kD.sl O4.raw
 have R:=yD ((kIy J.out O4 nI).wide (T:=(λj=>w.heap.size + 2<=j/\j < w4.heap.size/\j≠V.heap.size)) cB)
 clear J O4
 go_upto_region 3 with fail
 generalize F:World.setCell w4 _ _=w5
 obtain ⟨bt,BO,bv⟩:=EN
 clear F
 replace BX:=bt.kC BX bC9
 replace BR:=bt.kC BR bC9
 replace R:=yD (R.out.touch bt pJ)
 replace U:=U.trans (bt.below U.size wM)
 clear X aa af ac ae ai al an G o H D N ag ab ah ar ax aw a1 a2 be bc a7
 clear bt
 have J:=yD (R.out.wide (T:=(λj=>w.heap.size + 2<=j/\j < w5.heap.size/\j≠V.heap.size)) sF)
 clear R
 go_wp2
 go_loopw [6] (λi wr=>∃ (k:Nat) (sa ma:Option Addr) (sc mc:Nat) (s:List jH) (m:List kJ),i=.int .i64 k/\k<=x2.length/\Hid ((s,m)=zf now (x0,(xc,xe),x2,x3,x4,x5,x6) k)/\Hid (jr.own wr [Qs cc x0 ck,Qn xc,Qs c9 xe dh,Qs pa P pc,Qs sa s sc,Qs dd x4 df,Qs ma m mc,Qn x6] (x0,(xc,xe),P,s,x4,m,x6) (λj=>w.heap.size + 2<=j/\j < wr.heap.size/\j≠V.heap.size))/\Qr wr w.heap.size #[Qs cw x0 b6,Qn xc,Qs cz xe co,Qs dk x2 c8,Qs dj x3 di,Qs c5 x4 c4,Qs c3 x5 cm,Qn x6] 33/\Qr wr (w.heap.size + 1) #[.slice none 0 0,Qn 0,.slice none 0 0,.slice none 0 0,.slice none 0 0,.slice none 0 0,.slice none 0 0,Qn 0] 33/\Qr wr V.heap.size #[Qs cc x0 ck,Qn xc,Qs c9 xe dh,Qs pa P pc,Qs sa s sc,Qs dd x4 df,Qs ma m mc,Qn x6] 33/\w5.heap.size<=wr.heap.size/\Qb w wr) (λi _=>x2.length - (intOf i).toNat)
 case atStart=>exact ⟨0,e3,ez,e0,e6,x3,x5,rfl,Nat.zero_le _,yD rfl,J,BX,BR,BO,Nat.le_refl _,U⟩
 rename Ad=>wq
 clear U BX BR BO J
 obtain ⟨k,sa,ma,sc,mc,s,m,rfl,hk,L,J,BX,BR,BO,dt,U⟩:=hrel
 have bp:=Ab k
 have d9:s.length<=2000000:=bX
 by_cases hlt:k < x2.length
 · have dr:=Int.ofNat_lt.2 hlt;have bx:zf now (x0,(xc,xe),x2,x3,x4,x5,x6) (k + 1)=zT (x0,(xc,xe),x2,x3,x4,x5,x6) P (s,m) x2[k]:=bP;have ed:=em.out _ (Ac hlt);obtain ⟨qb,qo,fn,c0,c1,c2,qr,fx,er,f2⟩:=kD.zg eo.out.1 hlt rfl;have av:=kD.yX eo.out hlt;generalize x2[k]=y at *;have db:=yD bx;clear bx;obtain ⟨y0,y1,y2⟩:=y;try simp only at ed
   obtain ⟨bg,dc,Z,aj,ap,ao,au⟩:=jQ qr;simp only [Aa,and_true] at Z;obtain ⟨rfl,rfl,rfl⟩:=Z;obtain ⟨na,np,rfl,_⟩:=kD.sl ap;obtain ⟨ra,rp,rfl,_⟩:=kD.sl ao;have cl:Hid (kU.rd w [Qs na y0 np] y0):=yD ⟨aj,av.1⟩;have HQ:=yD ao;try simp only at fx er f2
   clear qr aj ap ao au av;subst fn;obtain ⟨X,aa,af,ac,ae,ai,al,an⟩:=jR BX;have A0:=cL U fx;go_upto_region 7 with fail;generalize F:World.alloc wq _=w6;have aq:Qb wq w6:=rM;have BT:Qr w6 wq.heap.size #[Qs na y0 np] 40:=vB;have cf:wq.heap.size + 1<=w6.heap.size:=bB1;clear F;replace BX:=kC BX aq;replace BR:=kC BR aq;replace BO:=kC BO aq;replace J:=yD (J.out.below aq);replace U:=(tQ U aq);clear X aa af ac ae ai al an A0;clear aq;by_cases du:y1.length=0
   · have am:=yD (show zf now (x0,(xc,xe),x2,x3,x4,x5,x6) (k + 1)=(s,m) by rw [db.out];unfold zT;rw [if_pos du]);have fg:(y1.length:Int)=0:=bC9;have fw:((y1.length:Int)==0)=true:=by rw [beq_iff_eq];omega
     obtain ⟨X,aa,af,ac,ae,ai,al,an⟩:=jR BX;obtain ⟨G,o,H,D,N,ag,ab,ah⟩:=jR BO;have ay:Qd w6 wq 0 (.slice na y0.length np):=kE BT rfl;have A1:=cL U er;exact uE
   have fg:¬ (y1.length:Int)=0:=bC9;have fw:((y1.length:Int)==0)=false:=by rw [beq_eq_false_iff_ne];omega
   obtain ⟨X,aa,af,ac,ae,ai,al,an⟩:=jR BX;obtain ⟨G,o,H,D,N,ag,ab,ah⟩:=jR BO;have ay:Qd w6 wq 0 (.slice na y0.length np):=kE BT rfl;have A1:=cL U er;go_wp2_with fail;refine (kPo (vl:=.slice pa P.length pc) (l:=P) (kLo J.out.raw) (cn:=[.slice na y0.length np]) (cl.out.1.below U)).mono ?_;rintro e w7 ⟨rfl,hb⟩;have dp:=hb.size;obtain ⟨BX,BR,BO,BT,J,U⟩:=AB;clear X aa af ac ae ai al an G o H D N ag ab ah ay A1;clear hb;by_cases ei:0<=idxOf (ja y0) P
   · exact uF
   obtain ⟨dq,fq⟩:=BI;generalize idxOf (ja y0) P=ip at *;clear db;go_wp2;go_loopw [8] (λi wr=>∃ (j:Nat) (ta:Option Addr) (tc:Nat) (u:List jH),i=.int .i64 j/\j<=y1.length/\u.length<=2000000/\Hid (u=(y1.take j).foldl (λs r=>yK s y0 r.2.1) s)/\Hid (jr.own wr [Qs cc x0 ck,Qn xc,Qs c9 xe dh,Qs pa P pc,Qs ta u tc,Qs dd x4 df,Qs ma m mc,Qn x6] (x0,(xc,xe),P,u,x4,m,x6) (λj=>w.heap.size + 2<=j/\j < wr.heap.size/\j≠V.heap.size))/\Qr wr w.heap.size #[Qs cw x0 b6,Qn xc,Qs cz xe co,.slice (some ⟨qb,qo,none⟩) x2.length c8,Qs dj x3 di,Qs c5 x4 c4,Qs c3 x5 cm,Qn x6] 33/\Qr wr (w.heap.size + 1) #[.slice none 0 0,Qn 0,.slice none 0 0,.slice none 0 0,.slice none 0 0,.slice none 0 0,.slice none 0 0,Qn 0] 33/\Qr wr V.heap.size #[Qs cc x0 ck,Qn xc,Qs c9 xe dh,Qs pa P pc,Qs ta u tc,Qs dd x4 df,Qs ma m mc,Qn x6] 33/\Qr wr wq.heap.size #[Qs na y0 np] 40/\w7.heap.size<=wr.heap.size/\Qb w wr) (λi _=>y1.length - (intOf i).toNat);case atStart=>exact ⟨0,sa,sc,s,rfl,Nat.zero_le _,d9,yD rfl,yD (J.out.wide sF),BX,BR,BO,BT,Nat.le_refl _,U⟩
   rename Ad=>wp;clear U BX BR BO BT J;obtain ⟨j,ta,tc,u,rfl,I,f6,HU,J,BX,BR,BO,BT,gu,U⟩:=hrel;have ch:=Ab j;by_cases d3:j < y1.length
   · have br:=Int.ofNat_lt.2 d3;have a6:=kMs (n:=y0) (s:=s) d3;rw [<- HU.out] at a6;obtain ⟨rb,ro,fp,r0,r1,r2,rr,f1,fi,fz⟩:=kD.zg HQ.out d3 rfl;generalize y1[j]=z at *;have f4:=yD a6;clear a6;obtain ⟨z0,z1,z2⟩:=z;obtain ⟨cd,ew,ee,e7⟩:=yG rr;simp only [Aa,and_true] at cd;obtain ⟨rfl,rfl,rfl⟩:=cd;try simp only at f1 fi fz
     subst fp;have HZ:=yD ee;clear ew ee e7 rr;obtain ⟨X,aa,af,ac,ae,ai,al,an⟩:=jR BX;obtain ⟨G,o,H,D,N,ag,ab,ah⟩:=jR BO;have ay:Qd wp wq 0 (.slice na y0.length np):=kE BT rfl;have A1:=cL U er;have R1:=cL U fi;go_upto_region 11 with fail;have FX:=yD (λ(W:Ad) (hW:Qb wp W)=>And.intro (cL hW X) (And.intro (cL hW aa) (And.intro (cL hW af) (And.intro (cL hW ac) (And.intro (cL hW ae) (And.intro (cL hW ai) (And.intro (cL hW al) (And.intro (cL hW an) (And.intro (cL hW G) (And.intro (cL hW o) (And.intro (cL hW H) (And.intro (cL hW D) (And.intro (cL hW N) (And.intro (cL hW ag) (And.intro (cL hW ab) (And.intro (cL hW ah) (And.intro (cL hW ay) (And.intro (cL hW A1) (cL hW R1)))))))))))))))))));refine yH (λW=>Qb wp W) [Tt,Tt,Tt,Tt,Tt,Tt,Tt,Tt,Tt,Tt,Tt,Tt,Tt] bC3 bC3 pK (bR.drew) ?_;intro wS E;iterate 13
      all_goals refine ku ?_
     all_goals refine jc ?_
     have bn:=E.size;replace BX:=kC BX E;replace BR:=kC BR E;replace BO:=kC BO E;replace BT:=kC BT E;replace J:=yD (J.out.below E);replace U:=(tQ U E);clear X aa af ac ae ai al an G o H D N ag ab ah ay A1 R1;clear E;obtain ⟨G,o,H,D,N,ag,ab,ah⟩:=jR BO;have ay:Qd wS wq 0 (.slice na y0.length np):=kE BT rfl;obtain ⟨ar,ax,aw,a1,a2,be,bc,a7⟩:=kAw BO;go_wp2_with fail;refine (kGd (kYd J.out.rd) f6 (cn:=[.slice na y0.length np]) (cl.out.below U) HZ.out).mono ?_;rintro e w9 ⟨v9,rfl,O9,hb⟩;have de:=hb.size;obtain ⟨BX,BR,BO,BT,J,U⟩:=AB;clear G o H D N ag ab ah ay ar ax aw a1 a2 be bc a7;clear hb;have fm:=kJf (l:=u) (n:=y0) (x:=z1);obtain ⟨u2,hu2⟩:∃ u2,yK u y0 z1=u2:=⟨_,rfl⟩;rw [hu2] at O9 fm;have f8:=yD (show u2=(y1.take (j + 1)).foldl (λs r=>yK s y0 r.2.1) s by rw [f4.out];exact hu2.symm);clear hu2;obtain ⟨va,vc,rfl,_⟩:=kD.sl O9.raw;have R:=yD ((kIx J.out O9 nI).wide (T:=(λj=>w.heap.size + 2<=j/\j < w9.heap.size/\j≠V.heap.size)) cB);clear J O9;obtain ⟨G,o,H,D,N,ag,ab,ah⟩:=jR BO;obtain ⟨ar,ax,aw,a1,a2,be,bc,a7⟩:=kAw BO;go_wp2;generalize F:World.setCell w9 _ _=bj;have bq:Touch (λk=>k=V.heap.size) w9 bj:=vO;replace BO:Qr bj V.heap.size #[Qs cc x0 ck,Qn xc,Qs c9 xe dh,Qs pa P pc,Qs va u2 vc,Qs dd x4 df,Qs ma m mc,Qn x6] 33:=tZ;have c6:=bq.size;clear F;replace BX:=bq.kC BX bC9;replace BR:=bq.kC BR bC9;replace BT:=bq.kC BT bC9;replace R:=yD (R.out.touch bq pJ);replace U:=U.trans (bq.below U.size wM);clear G o H D N ag ab ah ar ax aw a1 a2 be bc a7;clear bq;have J:=yD (R.out.wide (T:=(λj=>w.heap.size + 2<=j/\j < bj.heap.size/\j≠V.heap.size)) sF);exact uG
   have gn:¬ ((j:Int) < y1.length):=bC9;obtain rfl:j=y1.length:=bC9;obtain ⟨fh,dq⟩:=CG;clear HU fh;obtain ⟨X,aa,af,ac,ae,ai,al,an⟩:=jR BX;obtain ⟨G,o,H,D,N,ag,ab,ah⟩:=jR BO;have ay:Qd wp wq 0 (.slice na y0.length np):=kE BT rfl;have A1:=cL U er;go_wp2_with fail;refine (kCp (kAl (HX.out.below U)) (cn:=[.slice na y0.length np]) (cl.out.below U)).mono ?_;rintro e w9 ⟨cq,rfl,Oq,hb⟩;have de:=hb.size;obtain ⟨BX,BR,BO,BT,J,U⟩:=AB;clear X aa af ac ae ai al an G o H D N ag ab ah ay A1;clear hb;obtain ⟨qv,rfl,fu⟩:=kZ Oq.raw;obtain ⟨ka,kp,rfl,_⟩:=kD.sl fu;clear fu;have HK:=yD (Oq);clear Oq;go_upto_region 13 with fail;generalize F:World.alloc w9 _=bj;have b0:Qb w9 bj:=rM;have BK:Qr bj w9.heap.size #[.slice ka (zX y0 x4).length kp] 40:=vB;have c6:w9.heap.size + 1<=bj.heap.size:=bB1;clear F;replace BX:=kC BX b0;replace BR:=kC BR b0;replace BO:=kC BO b0;replace BT:=kC BT b0;replace J:=yD (J.out.below b0);replace HK:=yD (HK.out.below b0);replace U:=(tQ U b0);clear b0;obtain ⟨G,o,H,D,N,ag,ab,ah⟩:=jR BO;have ay:Qd bj wq 0 (.slice na y0.length np):=kE BT rfl;go_wp2_with fail;refine (kLw J.out.rd (cn:=[.slice na y0.length np]) (cl.out.below U) (ex:=0) bC9).mono ?_;rintro e bu ⟨vf,rfl,Of,hb⟩;have dl:=hb.size;replace BX:=kC BX hb;replace BR:=kC BR hb;replace BO:=kC BO hb;replace BT:=kC BT hb;replace BK:=kC BK hb;replace J:=yD (J.out.below hb);replace HK:=yD (HK.out.below hb);replace U:=(tQ U hb);clear G o H D N ag ab ah ay;clear hb;obtain ⟨fs,eu⟩:∃ fs,kJy (x0,(xc,xe),P,u,x4,m,x6) y0 0=fs:=⟨_,rfl⟩;rw [eu] at Of;replace dq:=yD (show zf now (x0,(xc,xe),x2,x3,x4,x5,x6) (k + 1)=(u,if mOk y0 x4 then kOb fs (zX y0 x4) m else m) by rw [dq.out,eu]);clear eu;obtain ⟨fa,fc,rfl,_⟩:=kD.sl Of.raw;have HF:=yD (Of);clear Of;cases dm:mOk y0 x4
   · exact uH
   cases fs with
   | nil =>
     exact uI
   | cons f0 fr =>
     obtain ⟨fb,fo,rfl,g0,gr,G0⟩:=kD.kCv HF.out.raw (i:=0) bD0 rfl;obtain ⟨ge,fy⟩:=kD.jY gr;obtain rfl:g0=_:=by simpa using ge
     have fv:Qi f0:=fy;have G1:Qc bu fb fo (.int .i64 f0):=by simpa using G0
     clear ge gr G0 fy;obtain ⟨am,e9,da⟩:=FI;generalize (f0 :: fr).length=fl at *;clear da;obtain ⟨G,o,H,D,N,ag,ab,ah⟩:=jR BO;have bo:Qd bu w9 0 (.slice ka (zX y0 x4).length kp):=kE BK rfl;go_upto_region 15 with fail;have FX:=yD (λ(W:Ad) (hW:Qb bu W)=>cLs10 hW G o H D N ag ab ah bo G1);refine yH (λW=>Qb bu W) [Tt,Tt,Tt,Tt,Tt,Tt] bC3 bC3 pK (bR.drew) ?_;intro wS E;iterate 6
      all_goals refine ku ?_
     all_goals refine jc ?_
     clear G1;have gh:=E.size;replace BX:=kC BX E;replace BR:=kC BR E;replace BO:=kC BO E;replace BT:=kC BT E;replace BK:=kC BK E;replace J:=yD (J.out.below E);replace HK:=yD (HK.out.below E);replace HF:=yD (HF.out.below E);replace U:=(tQ U E);clear G o H D N ag ab ah bo;clear E;obtain ⟨G,o,H,D,N,ag,ab,ah⟩:=jR BO;have bo:Qd wS w9 0 (.slice ka (zX y0 x4).length kp):=kE BK rfl;obtain ⟨ar,ax,aw,a1,a2,be,bc,a7⟩:=kAw BO;go_wp2_with fail;refine (kFq (kYe J.out.rd) (cn:=[.slice ka (zX y0 x4).length kp]) HK.out.rd fv).mono ?_;rintro e cv ⟨v9,rfl,O9,hb⟩;have d0:=hb.size;exact uJ
 have ff:¬ ((k:Int) < x2.length):=bC9
 obtain rfl:k=x2.length:=bC9
 obtain ⟨X,aa,af,ac,ae,ai,al,an⟩:=jR BX
 obtain ⟨G,o,H,D,N,ag,ab,ah⟩:=jR BO
 go_wp2_with fail
 refine (kPq (now:=now) (gb.out.below U)).mono ?_
 rintro e w6 ⟨ec,rfl,Oe,hb⟩
 have cf:=hb.size
 replace BX:=kC BX hb
 obtain ⟨BR,BO,J,U⟩:=xN
 clear X aa af ac ae ai al an G o H D N ag ab ah
 clear hb
 obtain ⟨ev,he⟩:∃ ev,kRs now (xc,xe)=(xc,ev):=⟨_,rfl⟩
 rw [he] at Oe
 have HE:=yD he
 clear he
 obtain ⟨sv,rfl,c7,ft⟩:=jK Oe.raw
 obtain ⟨ea,ep,rfl,_⟩:=kD.sl ft
 clear c7 ft
 have R:=yD ((kHk J.out Oe nI).wide (T:=(λj=>w.heap.size + 2<=j/\j < w6.heap.size/\j≠V.heap.size)) cB)
 clear J Oe
 obtain ⟨G,o,H,D,N,ag,ab,ah⟩:=jR BO
 obtain ⟨a4,a5,b8,b5,ca,dx,dw,dy⟩:=jR BR
 obtain ⟨ar,ax,aw,a1,a2,be,bc,a7⟩:=kAw BO
 obtain ⟨bh,bf,b4,b7,b9,dz,d2,d1⟩:=kAw BR
 have fj:=yD (show kOa now (x0,(xc,xe),x2,x3,x4,x5,x6)=(x0,(xc,ev),P,s,x4,m,x6) by unfold kOa;simp only [HE.out,HP.out,<- L.out])
 go_upto_region 17 with fail
 generalize F:World.setCell (World.setCell w6 _ _) _ _=w7
 obtain ⟨b2,BO,dp⟩:=EI
 clear F
 replace BX:=b2.kC BX bC9
 replace BR:=b2.kC BR bC9
 replace R:=yD (R.out.touch b2 pJ)
 replace U:=U.trans (b2.below U.size wM)
 clear G o H D N ag ab ah a4 a5 b8 b5 ca dx dw dy ar ax aw a1 a2 be bc a7 bh bf b4 b7 b9 dz d2 d1
 clear b2
 obtain ⟨G,o,H,D,N,ag,ab,ah⟩:=jR BO
 obtain ⟨a4,a5,b8,b5,ca,dx,dw,dy⟩:=jR BR
 obtain ⟨bh,bf,b4,b7,b9,dz,d2,d1⟩:=kAw BR
 go_wp2
 refine bodyPost_ret (v:=.agg #[Qs cc x0 ck,Qn xc,Qs ea ev ep,Qs pa P pc,Qs sa s sc,Qs dd x4 df,Qs ma m mc,Qn x6]) (by simp [results,results8,go_sem,a4,bh,a5,bf,b8,b4,b5,b7,ca,b9,dx,dz,dw,d2,dy,d1]) rfl ⟨[Qs cc x0 ck,Qn xc,Qs ea ev ep,Qs pa P pc,Qs sa s sc,Qs dd x4 df,Qs ma m mc,Qn x6],rfl,?_,?_⟩
 · rw [fj.out];exact (R.out.touch sT8 rF).wide dW
 exact U.trans (Touch.below sT8 U.size wM)
end Go.Proofs.YtonmjkmaadgceabGreat
namespace Go.Proofs.YtonmjkmaadgceabGreat
open Go.ChangeShapes Go.WideShapes Go.ChangeAt Go.RowKit _root_.Go.Proofs.Tryz
def From (W w:Ad):Prop:=Qb W w
theorem From.below {W w w':Ad} (h:From W w) (b:Qb w w'):From W w':=Below.trans h (b.mono (Below.size h))
theorem kFh {w:Ad} {c0 c1 c2 c3 c4 c5 O o:Value} {x0:List jN} {x1:kg} {x2:List kF} {x3:List jH} {x4:List ky} {x5:List kJ} {x6:Int} (h:jr.raw w [c0,c1,c2,c3,c4,c5,O,o] (x0,x1,x2,x3,x4,x5,x6)):(kD.slice 68 jJ).raw w [c0] x0:=by
 obtain ⟨v0,v2,v3,v4,v5,v6,he,a0,a1,a2,a3,a4,a5,a6,a7,D⟩:=yS h;simp only [Aa,and_true] at he;obtain ⟨rfl,rfl,rfl,rfl,rfl,rfl,rfl,rfl⟩:=he;exact a0
theorem kPz {w:Ad} {v:Value} {O:List UInt8} (aw:(kD.slice 5 kD.byte).raw w [v] O) :
    Calls prog 3 #[v] w (LawPost w):=by
 obtain ⟨ca,cc,rfl,_⟩:=kD.sl aw
 go_enter func3,ntmps3
 go_wp2_with fail
 refine (lawsbig_c aw).mono ?_
 rintro e Y ⟨rfl,hb⟩
 have bd:=hb.size
 have U:=hb
 clear hb
 by_cases dw:(O.length:Int) > 1048576
 · go_wp2;go_ret;exact ⟨rfl,U⟩
 go_wp2_with fail
 refine (kNb (aw.below U)).mono ?_
 rintro e V ⟨cs,x,now,rfl,hO,hx,⟨ck,dh⟩,hb⟩
 have bk:=hb.size
 replace U:=(tQ U hb)
 clear hb
 obtain ⟨a0,c0,a1,c1,a2,c2,a3,c3,a4,c4,a5,c5,rfl⟩:=kDt hO.rd.1
 obtain ⟨x0,⟨kc,xe⟩,x2,x3,x4,x5,x6⟩:=x
 have b7:=hx.lenN
 clear hx
 have XO:=yD (show jr.ji _ [Qs a0 x0 c0,Qn kc,Qs a1 xe c1,Qs a2 x2 c2,Qs a3 x3 c3,Qs a4 x4 c4,Qs a5 x5 c5,Qn x6] (x0,(kc,xe),x2,x3,x4,x5,x6) _ from hO)
 clear hO
 obtain ⟨ye,y2,y3,y5,hY,f1,f2,f3,dg⟩:=kXk now x0 kc xe x2 x3 x4 x5 x6 b7
 have d2:y2.length<=1048576:=dg.2.2.1.1
 have F1:=yD f1;have F2:=yD f2;have F3:=yD f3;have HY:=yD hY;have dn:=yD b7;have br:=yD dg;clear f1 f2 f3 hY b7 dg
 go_upto_region 4 with fail
 generalize F:World.alloc V _=w3
 have ak:Qb V w3:=rM
 have BX:Qr w3 V.heap.size #[Qs a0 x0 c0,Qn kc,Qs a1 xe c1,Qs a2 x2 c2,Qs a3 x3 c3,Qs a4 x4 c4,Qs a5 x5 c5,Qn x6] 33:=vB
 have bl:V.heap.size + 1<=w3.heap.size:=bB1
 clear F
 replace XO:=yD (XO.out.below ak)
 replace U:=(tQ U ak)
 clear ak
 obtain ⟨X,aa,af,ac,ae,ai,al,an⟩:=jR BX
 go_wp2_with fail
 refine (kKw (cx:=[.slice a0 x0.length c0,.int .i64 kc,.slice a1 xe.length c1,.slice a2 x2.length c2,.slice a3 x3.length c3,.slice a4 x4.length c4,.slice a5 x5.length c5,.int .i64 x6]) XO.out.rd (now:=now) bC9 dn.out).mono ?_
 rintro e w4 ⟨cs,rfl,hO,hb⟩
 have bw:=hb.size
 replace BX:=kC BX hb
 replace XO:=yD (XO.out.below hb)
 replace U:=(tQ U hb)
 clear X aa af ac ae ai al an
 clear hb
 rw [HY.out] at hO
 obtain ⟨bc,be,ce,bh,b6,bf,b2,bn,b1,bo,b3,bp,rfl⟩:=kDt hO.raw
 have YO:=yD (show jr.own _ [Qs bc x0 be,Qn kc,Qs ce ye bh,Qs b6 y2 bf,Qs b2 y3 bn,Qs b1 x4 bo,Qs b3 y5 bp,Qn x6] (x0,(kc,ye),y2,y3,x4,y5,x6) _ from hO)
 clear hO
 go_upto_region 5 with fail
 generalize F:World.alloc w4 _=w5
 have bm:Qb w4 w5:=rM
 have BY:Qr w5 w4.heap.size #[Qs bc x0 be,Qn kc,Qs ce ye bh,Qs b6 y2 bf,Qs b2 y3 bn,Qs b1 x4 bo,Qs b3 y5 bp,Qn x6] 33:=vB
 have bv:w4.heap.size + 1<=w5.heap.size:=bB1
 clear F
 replace BX:=kC BX bm
 replace XO:=yD (XO.out.below bm)
 replace YO:=yD (YO.out.below bm)
 replace U:=(tQ U bm)
 clear bm
 obtain ⟨X,aa,af,ac,ae,ai,al,an⟩:=jR BX
 obtain ⟨aq,ah,ad,am,N,J,G,D⟩:=jR BY
 have FX:=yD (λ(W:Ad) (hW:Qb w5 W)=>cLs16 hW X aa af ac ae ai al an aq ah ad am N J G D)
 refine kM (λW=>Qb w5 W) [Tt,Tt,Tt,Ff,Ff,Tt] bC3 bC3 pK (bR.drew) ?_
 intro wS E
 iterate 3
  all_goals refine ku ?_
 all_goals first|(refine kI rfl E ?_)|(refine kw rfl (λK H=>?_);go_simp;refine (kUd (cx:=[.slice a0 x0.length c0,.int .i64 kc,.slice a1 xe.length c1,.slice a2 x2.length c2,.slice a3 x3.length c3,.slice a4 x4.length c4,.slice a5 x5.length c5,.int .i64 x6]) (XO.out.below E).rd (now:=now) bC9 dn.out).mono ?_;rintro e wS1 ⟨dv,rfl,b5,ab⟩;rw [HY.out] at b5;have S2:=yD b5;clear b5;replace E:=(tQ E ab);refine H _ _ E ?_;clear H K ab)
 all_goals refine jF ?_
 all_goals first|(refine kI rfl E ?_)|(refine kw rfl (λK H=>?_);go_simp;refine (kVh (cx:=[.slice bc x0.length be,.int .i64 kc,.slice ce ye.length bh,.slice b6 y2.length bf,.slice b2 y3.length bn,.slice b1 x4.length bo,.slice b3 y5.length bp,.int .i64 x6]) (YO.out.below E).raw S2.out.raw).mono ?_;rintro e a9 ⟨R,ab⟩;have L:e=.returned (.bool true):=R.trans bD0;subst L;clear R;replace E:=(tQ E ab);refine H _ _ E ?_;clear H K ab S2)
 all_goals refine jF ?_
 all_goals refine ku ?_
 all_goals refine kS ?_
 replace BX:=kC BX E
 replace BY:=kC BY E
 replace XO:=yD (XO.out.below E)
 replace YO:=yD (YO.out.below E)
 replace U:=(tQ U E)
 clear E
 go_wp2
 go_loopw [6] (λi wr=>∃ (j:Nat),i=.int .i64 j/\j<=y2.length/\Qb a9 wr) (λi _=>y2.length - (intOf i).toNat)
 case atStart=>exact ⟨0,rfl,Nat.zero_le _,bR⟩
 obtain ⟨j,rfl,I,o⟩:=hrel
 have ch:=Ab j
 have zr:=o.size
 replace BX:=kC BX o
 replace BY:=kC BY o
 replace XO:=yD (XO.out.below o)
 replace YO:=yD (YO.out.below o)
 replace U:=(tQ U o)
 have LB:=yD (show From a9 wr from o)
 clear o
 by_cases hlt:j < y2.length
 · have a6:(j:Int) < y2.length:=bC9;have HJ:=yD (show j + 1<=y2.length from hlt);obtain ⟨qb,qo,fn,c0,c1,c2,qr,A0,A1,A2⟩:=kD.zg (kLo YO.out.raw) hlt rfl;have dk:=F1.out _ (Ac hlt);generalize y2[j]=y at *;obtain ⟨pn,pr,pl⟩:=y;obtain ⟨bg,dc,Z,aj,ap,ao,au⟩:=jQ qr;simp only [Aa,and_true] at Z;obtain ⟨rfl,rfl,rfl⟩:=Z;obtain ⟨sa,sp,rfl,_⟩:=kD.sl ao;have HQ:=yD ao;have du:=yD dk;clear qr aj ap ao au A0 A2 dk;subst fn;obtain ⟨aq,ah,ad,am,N,J,G,D⟩:=jR BY;go_wp2;go_loopw [7] (λi wq=>∃ (m:Nat),i=.int .i64 m/\m<=pr.length/\Qb wr wq) (λi _=>pr.length - (intOf i).toNat);case atStart=>exact ⟨0,rfl,Nat.zero_le _,bR⟩
   clear aq ah ad am N J G D;obtain ⟨m,rfl,hm,bb⟩:=hrel;have bt:=Ab m;have zq:=bb.size;replace BX:=kC BX bb;replace BY:=kC BY bb;replace A1:=cL bb A1;replace XO:=yD (XO.out.below bb);replace YO:=yD (YO.out.below bb);replace LB:=yD (LB.out.below bb);replace HQ:=yD (HQ.out.below bb);replace U:=(tQ U bb);obtain ⟨aq,ah,ad,am,N,J,G,D⟩:=jR BY;by_cases b4:m < pr.length
   · have dm:(m:Int) < pr.length:=bC9;have HM:=yD (show m + 1<=pr.length from b4);obtain ⟨rb,ro,fp,r0,r1,r2,rr,R0,R1,R2⟩:=kD.zg HQ.out b4 rfl;have bz:=du.out _ (Ac b4);generalize pr[m]=z at *;obtain ⟨t0,t1,t2⟩:=z;obtain ⟨cd,ew,ee,e7⟩:=yG rr;simp only [Aa,and_true] at cd;obtain ⟨rfl,rfl,rfl⟩:=cd;clear rr R0 R1;subst fp;have b0:¬ t2 < now:=(by simp only at bz;omega);have LF:=LB.out;go_wp2;go_roundw;case rel=>exact ⟨m + 1,by go_num,HM.out,bb⟩
     have:=HM.out;simp [intOf];omega
   have dm:¬ (m:Int) < pr.length:=bC9;go_wp2;go_roundw;case rel=>exact ⟨j + 1,by go_num,HJ.out,LB.out⟩
   have:=HJ.out;simp [intOf];omega
 have a6:¬ (j:Int) < y2.length:=bC9
 clear I LB
 obtain ⟨ze,z2,z3,z5,hZ,f1,f2,f3,dr⟩:=kXk (now + 120) x0 kc ye y2 y3 x4 y5 x6 br.out
 have G3:=yD f3;have HZ:=yD hZ;clear f1 f2 f3 hZ dr
 have co:IntKind.i64.wrap (now + 20)=now + 20:=Ae _ bC9
 have bq:IntKind.i64.wrap (now + 20 + 100)=now + 120:=(by rw [Ae _ bC9];omega)
 obtain ⟨aq,ah,ad,am,N,J,G,D⟩:=jR BY
 go_wp2_with fail
 refine (kKw (cx:=[.slice bc x0.length be,.int .i64 kc,.slice ce ye.length bh,.slice b6 y2.length bf,.slice b2 y3.length bn,.slice b1 x4.length bo,.slice b3 y5.length bp,.int .i64 x6]) YO.out.rd (now:=now + 120) bC9 br.out).mono ?_
 rintro e w6 ⟨cs,rfl,hO,hb⟩
 have cf:=hb.size
 replace BX:=kC BX hb
 replace BY:=kC BY hb
 replace XO:=yD (XO.out.below hb)
 replace YO:=yD (YO.out.below hb)
 replace U:=(tQ U hb)
 clear aq ah ad am N J G D
 clear hb
 rw [HZ.out] at hO
 obtain ⟨cw,df,da,db,c8,cl,b9,cz,cm,c9,cq,dd,rfl⟩:=kDt hO.raw
 have ZO:=yD (show jr.own _ [Qs cw x0 df,Qn kc,Qs da ze db,Qs c8 z2 cl,Qs b9 z3 cz,Qs cm x4 c9,Qs cq z5 dd,Qn x6] (x0,(kc,ze),z2,z3,x4,z5,x6) _ from hO)
 clear hO
 go_upto_region 16 with fail
 generalize F:World.alloc w6 _=w7
 have ag:Qb w6 w7:=rM
 have BZ:Qr w7 w6.heap.size #[Qs cw x0 df,Qn kc,Qs da ze db,Qs c8 z2 cl,Qs b9 z3 cz,Qs cm x4 c9,Qs cq z5 dd,Qn x6] 33:=vB
 have dp:w6.heap.size + 1<=w7.heap.size:=bB1
 clear F
 replace BX:=kC BX ag
 replace BY:=kC BY ag
 replace XO:=yD (XO.out.below ag)
 replace YO:=yD (YO.out.below ag)
 replace ZO:=yD (ZO.out.below ag)
 replace U:=(tQ U ag)
 clear ag
 obtain ⟨X,aa,af,ac,ae,ai,al,an⟩:=jR BX
 obtain ⟨bx,b8⟩:∃ b,kAq (x0,(kc,xe),x2,x3,x4,x5,x6)=b:=⟨_,rfl⟩
 have cg:=yD b8
 clear b8
 obtain ⟨bi,dj⟩:∃ b,idleN (x0,(kc,ze),z2,z3,x4,z5,x6)=b:=⟨_,rfl⟩
 have di:=yD dj
 clear dj
 go_wp2_with fail
 refine (kJt (cx:=[.slice a0 x0.length c0,.int .i64 kc,.slice a1 xe.length c1,.slice a2 x2.length c2,.slice a3 x3.length c3,.slice a4 x4.length c4,.slice a5 x5.length c5,.int .i64 x6]) XO.out.rd.1).mono ?_
 rintro e w8 ⟨R,hb⟩
 have L:e=.returned (.bool bx):=R.trans (by rw [cg.out])
 subst L
 clear R
 have c7:=hb.size
 obtain ⟨BX,BY,BZ,XO,YO,ZO,U⟩:=AA
 clear X aa af ac ae ai al an
 clear hb
 cases bx
 · have aq:Qd w8 w4 0 (.slice bc x0.length be):=kE BY rfl;obtain ⟨ah,ad,am,N,J,G,D⟩:=C8;obtain ⟨X,aa,af,ac,ae,ai,al,an⟩:=jR BX;obtain ⟨a7,ay,a8,ax,ba,ar,az,av⟩:=jR BZ;have dq:(y2.length:Int)<=x2.length:=by have:=F3.out;omega
   have dt:(z2.length:Int)<=y2.length:=by have:=G3.out;omega
   go_wp2_with fail;refine (kPc (cx:=[.slice cw x0.length df,.int .i64 kc,.slice da ze.length db,.slice c8 z2.length cl,.slice b9 z3.length cz,.slice cm x4.length c9,.slice cq z5.length dd,.int .i64 x6]) ZO.out.rd).mono ?_;rintro e w9 ⟨R,hb⟩;have L:e=.returned (.bool bi):=R.trans (by rw [di.out]);subst L;clear R;have de:=hb.size;obtain ⟨BX,BY,BZ,XO,YO,ZO,U⟩:=AA;clear aq ah ad am N J G D X aa af ac ae ai al an a7 ay a8 ax ba ar az av;clear hb;cases bi
   · exact uT
   exact uT
 have aq:Qd w8 w4 0 (.slice bc x0.length be):=kE BY rfl
 obtain ⟨ah,ad,am,N,J,G,D⟩:=C8
 go_wp2_with fail
 refine (kJt (cx:=[.slice bc x0.length be,.int .i64 kc,.slice ce ye.length bh,.slice b6 y2.length bf,.slice b2 y3.length bn,.slice b1 x4.length bo,.slice b3 y5.length bp,.int .i64 x6]) YO.out.raw).mono ?_
 rintro e w9 ⟨R,hb⟩
 have L:e=.returned (.bool true):=R.trans (by rw [F2.out cg.out])
 subst L
 clear R
 have de:=hb.size
 obtain ⟨BX,BY,BZ,XO,YO,ZO,U⟩:=AA
 clear aq ah ad am N J G D
 clear hb
 obtain ⟨aq,ah,ad,am,N,J,G,D⟩:=jR BY
 obtain ⟨X,aa,af,ac,ae,ai,al,an⟩:=jR BX
 obtain ⟨a7,ay,a8,ax,ba,ar,az,av⟩:=jR BZ
 have dq:(y2.length:Int)<=x2.length:=by have:=F3.out;omega
 have dt:(z2.length:Int)<=y2.length:=by have:=G3.out;omega
 go_wp2_with fail
 refine (kPc (cx:=[.slice cw x0.length df,.int .i64 kc,.slice da ze.length db,.slice c8 z2.length cl,.slice b9 z3.length cz,.slice cm x4.length c9,.slice cq z5.length dd,.int .i64 x6]) ZO.out.rd).mono ?_
 rintro e bj ⟨R,hb⟩
 have L:e=.returned (.bool bi):=R.trans (by rw [di.out])
 subst L
 clear R
 have c6:=hb.size
 obtain ⟨BX,BY,BZ,XO,YO,ZO,U⟩:=AA
 clear aq ah ad am N J G D X aa af ac ae ai al an a7 ay a8 ax ba ar az av
 clear hb
 cases bi
 · exact uU
 exact uU
end Go.Proofs.YtonmjkmaadgceabGreat
