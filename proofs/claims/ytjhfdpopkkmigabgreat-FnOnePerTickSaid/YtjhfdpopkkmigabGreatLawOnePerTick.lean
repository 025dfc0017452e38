/-
  The law FnOnePerTick: an interest for a name that was forwarded in the same tick is aggregated and not forwarded again.
-/
import Derived.Test.YtjhfdpopkkmigabGreatDrawF
import Derived.Test.YtjhfdpopkkmigabGreatProcM
set_option linter.unusedVariables false
set_option linter.unusedSimpArgs false
set_option linter.unnecessarySimpa false
set_option maxRecDepth 100000
set_option maxHeartbeats 40000000
open Bool renaming true->Tt,false->Ff
open Bool renaming not_false->Aa,and_false->Ab,false_and->Ac,not_true->Ad,and_true->Ae,true_and->Ag,or_false->Ah,false_or->Ai,or_true->Aj,true_or->Ak,not_not->Al
open Go renaming bodyPost_ret->Am,World->Ar
open Go.IntWalk renaming i64_in->Ap
open Go.IntKind renaming i64->Aq
namespace Go.Proofs.YtjhfdpopkkmigabGreat
open Go.RowKit _root_.Go.Proofs.Tryz
theorem kLk {w:Ar} {cx:List Value} {x:jd} (hx:yB.rd w cx x) {f:Int} (hf:Qi f) {cq:List Value} {q:jF} (hq:jO.rd w cq q) {t:Int} (ht:Qi t) (hB:lenN 1048576 x) :
    Calls prog 8 #[.agg cx.toArray,.int .i64 f,.agg cq.toArray,.int .i64 t] w (zo kFx (kDo x f q t) w):=by
 obtain ⟨U,⟨xc,xe⟩,x2,x3,x4,x5,x6⟩:=x
 have HX:=yD hx
 obtain ⟨q0,q1,q2,q3⟩:=q
 have HI:=yD hq
 have HF:=yD hf
 have ew:=yD ht
 obtain ⟨gb,gd,gv,gu,gs,gq,rfl,Z,ba,bq,bm,bj,bu,b2,dg,eg⟩:=yY hx.1
 obtain ⟨dx,dv,rfl,gl⟩:=kD.sl Z
 obtain ⟨dy,dw,rfl,gt⟩:=kD.sl bm
 obtain ⟨e7,e1,rfl,g8⟩:=kD.sl bj
 obtain ⟨e4,e0,rfl,hm⟩:=kD.sl bu
 obtain ⟨eu,er,rfl,hs⟩:=kD.sl b2
 obtain ⟨en,eh,rfl,hh⟩:=kD.sl dg
 obtain ⟨jt,rfl,a4,ef,fk,gp,g5⟩:=jY hq.1
 obtain ⟨d5,ed,rfl,j8⟩:=kD.sl ef
 obtain ⟨gj,ie,i3,fw,i2,b8,f7,i7⟩:=AU
 clear hx hq hf ht hB a4 ef fk gp g5
 clear Z ba bq bm bj bu b2 dg eg
 go_enter func8,ntmps8
 go_upto_region 1 with fail
 generalize G:World.alloc (World.alloc (World.alloc w _) _) _=w1
 obtain ⟨o,BX,BQ,X,bo⟩:=AC
 clear G
 obtain ⟨aa,ab,ae,ac,ah,ai,aj,am⟩:=yz BX
 obtain ⟨ag,ap,ar,aq⟩:=jZ BQ
 go_upto_region 1 with fail
 have FX:=yD (λ(W:Ar) (hW:Qb w1 W)=>kIy hW ac ah ag ap ar aq)
 refine kr (λW=>Qb w1 W) [Tt,Ff,Tt,Tt,Tt,Ff,Tt,Tt,Tt,Tt,Tt,Tt,Tt,Tt,Ff,Tt] bR ?_
 intro wS E
 all_goals refine ky ?_
 all_goals first | refine wkB (kDj (HI.out.1.below (tQ o E))) (λwS1 E=>?_) | refine ky ?_
 all_goals refine ky ?_
 all_goals (refine jy λb bh=>?_;cases b <;> try simp only [jw] at bh)
 all_goals refine ky ?_
 all_goals first | refine wkC (yA) ?_ | refine ky ?_
 all_goals refine ky ?_
 all_goals refine ky ?_
 all_goals (refine jy λb ck=>?_;cases b <;> try simp only [jw] at ck)
 iterate 5
  all_goals refine ky ?_
 all_goals first | refine wkB (jBj (gj.out.below (tQ o E)) (ie.out.below (tQ o E)) (HI.out.below (tQ o E))) (λwS1 E=>?_) | refine ky ?_
 all_goals (refine jy λb cz=>?_;cases b <;> try simp only [jw] at cz)
 all_goals refine kS ?_
 all_goals rename Ar=>V
 all_goals have bv:=E.size
 all_goals replace BX:=kC BX E
 all_goals replace BQ:=kC BQ E
 all_goals replace X:=kC X E
 all_goals replace o:=(tQ o E)
 all_goals clear aa ab ae ac ah ai aj am ag ap ar aq
 all_goals clear E
 all_goals first
   | (have L := yD (kWf (t := t) (show kAr (U, (xc, xe), x2, x3, x4, x5, x6) f (q0, q1, q2, q3) = true by simp only [kAr, Ad, Aa, Ae, Ag, Ab, Ac, Aj, Ak, Ah, Ai, Al, bh, ck, cz]))
      obtain ⟨aa,ab,ae,ac,ah,ai,aj,am⟩:=yz BX
      go_wp2_with fail
      refine (kOi (HX.out.below o)).mono ?_
      rintro e w3 ⟨ds,rfl,Od,hb⟩
      have bt:=hb.size
      replace BX:=kC BX hb
      replace BQ:=kC BQ hb
      obtain ⟨X,o⟩:=FH
      clear aa ab ae ac ah ai aj am
      clear hb
      obtain ⟨y6,fr⟩:∃ y,wrap64 (x6 + 1)=y:=⟨_,rfl⟩
      have b7:=yD (show kMu (U,(xc,xe),x2,x3,x4,x5,x6)=(U,(xc,xe),x2,x3,x4,x5,y6) by rw [kMt,fr])
      clear fr
      rw [b7.out] at Od
      obtain ⟨h3,ih,iz,iw,iu,ir,j5,rfl,fi,fd,fy,fh,e6,fz,f0,f6,gm,i8,g7⟩:=kIj Od.raw
      obtain ⟨bf,bg,rfl,h0⟩:=kD.sl fd
      obtain ⟨cl,cw,rfl,im⟩:=kD.sl e6
      obtain ⟨dq,dt,rfl,iv⟩:=kD.sl fz
      obtain ⟨de,dd,rfl,i0⟩:=kD.sl f0
      obtain ⟨cd,cf,rfl,it⟩:=kD.sl f6
      obtain ⟨cg,ch,rfl,iq⟩:=kD.sl gm
      obtain ⟨id,ik,rfl,j4⟩:=kD.sl g7
      clear fi fd fy fh e6 fz f0 f6 gm i8 g7
      obtain ⟨au,aw,be,bd,bz,da,c9,df,db⟩:=zL X
      obtain ⟨ao,an,a9,bb,br,c4,c7,c5,c8⟩:=kBu X
      go_wp2
      refine Am (v:=.agg #[Qs bf U bg,Qn xc,Qs cl xe cw,Qs dq x2 dt,Qs de x3 dd,Qs cd x4 cf,Qs cg x5 ch,Qn y6,.slice id ([]:List yR).length ik]) dE rfl ⟨[Qs bf U bg,Qn xc,Qs cl xe cw,Qs dq x2 dt,Qs de x3 dd,Qs cd x4 cf,Qs cg x5 ch,Qn y6,.slice id ([]:List yR).length ik],rfl,?_,?_⟩
      · rw [L.out,b7.out];exact (Od.touch sT9 tC).wide fP
      · exact o.trans (Touch.below sT9 o.size bD5))
   | skip
 have fg:=yD (show kAr (U,(xc,xe),x2,x3,x4,x5,x6) f (q0,q1,q2,q3)=false by simp only [kAr,Ad,Aa,Ae,Ag,Ab,Ac,Aj,Ak,Ah,Ai,Al,bh,ck,cz])
 clear bh ck cz
 obtain ⟨aa,ab,ae,ac,ah,ai,aj,am⟩:=yz BX
 go_wp2_with fail
 refine (kHi (HX.out.below o)).mono ?_
 rintro e w3 ⟨cs,rfl,O,hb⟩
 have bt:=hb.size
 replace BX:=kC BX hb
 replace BQ:=kC BQ hb
 obtain ⟨X,o⟩:=FH
 clear aa ab ae ac ah ai aj am
 clear hb
 obtain ⟨h3,ih,iz,iw,iu,ir,rfl,fi,fd,fy,fh,e6,fz,f0,f6,gm⟩:=yY O.raw
 obtain ⟨bf,bg,rfl,h0⟩:=kD.sl fi
 obtain ⟨cl,cw,rfl,im⟩:=kD.sl fh
 obtain ⟨dq,dt,rfl,iv⟩:=kD.sl e6
 obtain ⟨de,dd,rfl,i0⟩:=kD.sl fz
 obtain ⟨cd,cf,rfl,it⟩:=kD.sl f0
 obtain ⟨cg,ch,rfl,iq⟩:=kD.sl f6
 clear fi fd fy fh e6 fz f0 f6 gm
 go_upto_region 4 with fail
 have I:=yD O
 clear O
 replace I:=yD (I.out.wide (T:=(λj=>w.heap.size + 3<=j/\j < w3.heap.size/\j≠w3.heap.size + 1)) gG)
 generalize G:World.alloc (World.alloc w3 _) _=w4
 have cc:Qb w3 w4:=by rw [<- G];exact (bR.alloc nL _).alloc bH4 _
 have BO:Qr w4 (w3.heap.size + 1) #[Qs bf U bg,Qn xc,Qs cl xe cw,Qs dq x2 dt,Qs de x3 dd,Qs cd x4 cf,Qs cg x5 ch,Qn x6,.slice (some ⟨w3.heap.size,0,none⟩) 0 0] 43:=by rw [<- G];exact kG bH4
 have b5:w3.heap.size + 2<=w4.heap.size:=bF4
 clear G
 replace BX:=kC BX cc
 replace BQ:=kC BQ cc
 replace X:=kC X cc
 replace I:=yD (I.out.below cc)
 replace o:=(tQ o cc)
 clear cc
 obtain ⟨aa,ab,ae,ac,ah,ai,aj,am⟩:=yz BX
 obtain ⟨ag,ap,ar,aq⟩:=jZ BQ
 go_wp2_with fail
 refine (kVz (HX.out.below o) (cn:=[.slice d5 q0.length ed]) (fw.out.below o) ew.out).mono ?_
 rintro e w5 ⟨ds,rfl,Od,hb⟩
 have b3:=hb.size
 obtain ⟨BX,BQ,X,BO⟩:=xM
 obtain ⟨I,o⟩:=xV
 clear aa ab ae ac ah ai aj am ag ap ar aq
 clear hb
 obtain ⟨D,hD⟩:∃ D,fdD q0 t (U,(xc,xe),x2,x3,x4,x5,x6)=D:=⟨_,rfl⟩
 rw [hD] at Od
 have HD:=yD hD
 clear hD
 obtain ⟨d0,d1,d2,d3,d4⟩:=D
 obtain ⟨jx,jp,js,rfl,fl,d8,d7,fv,d9,fu,fn⟩:=jX Od.raw
 obtain ⟨g1,g6,rfl,jn⟩:=kD.sl d8
 obtain ⟨hr,g9,rfl,j0⟩:=kD.sl d7
 obtain ⟨hp,hn,rfl,jz⟩:=kD.sl d9
 clear fl d8 d7 fv d9 fu fn
 have ey:=yD (Od)
 clear Od
 go_upto_region 5 with fail
 generalize G:World.alloc w5 _=w6
 obtain ⟨av,BF,dh⟩:=J3
 clear G
 replace BX:=kC BX av
 replace BQ:=kC BQ av
 replace X:=kC X av
 replace BO:=kC BO av
 replace I:=yD (I.out.below av)
 replace ey:=yD (ey.out.below av)
 replace o:=(tQ o av)
 clear av
 cases gz:kJr q0 t (U,(xc,xe),x2,x3,x4,x5,x6)
 · clear ey BF;obtain ⟨aa,ab,ae,ac,ah,ai,aj,am⟩:=yz BX;obtain ⟨ag,ap,ar,aq⟩:=jZ BQ;go_wp2_with fail;refine (kEc (gj.out.below o) b8.out (HI.out.below o) HF.out ew.out).mono ?_;rintro e w7 ⟨v4,rfl,O4,hb⟩;have et:=hb.size;obtain ⟨BX,BQ,X,BO⟩:=xM;obtain ⟨I,o⟩:=xV;clear aa ab ae ac ah ai aj am ag ap ar aq;clear hb;obtain ⟨P,hP⟩:∃ P,kBk (q0,q1,q2,q3) f t x2=P:=⟨_,rfl⟩;rw [hP] at O4;have HP:=yD hP;clear hP;obtain ⟨pa,pc,rfl,_⟩:=kD.sl O4.raw;cases h5:yH (q0,q1,q2,q3) f x2
   · have L:=yD (kSb (t:=t) fg.out gz h5);obtain ⟨aa,ab,ae,ac,ah,ai,aj,am⟩:=yz BX;go_wp2_with fail;refine (kOi (HX.out.below o)).mono ?_;rintro e w8 ⟨ds,rfl,Od,hb⟩;have eo:=hb.size;obtain ⟨BX,BQ,X,BO⟩:=xM;obtain ⟨I,o⟩:=xV;clear aa ab ae ac ah ai aj am;clear hb;obtain ⟨y6,fr⟩:∃ y,wrap64 (x6 + 1)=y:=⟨_,rfl⟩;have b7:=yD (show kMu (U,(xc,xe),x2,x3,x4,x5,x6)=(U,(xc,xe),x2,x3,x4,x5,y6) by rw [kMt,fr]);clear fr;rw [b7.out] at Od;obtain ⟨h3,ih,iz,iw,iu,ir,j5,rfl,fi,fd,fy,fh,e6,fz,f0,f6,gm,i8,g7⟩:=kIj Od.raw;obtain ⟨bf,bg,rfl,h0⟩:=kD.sl fd;obtain ⟨cl,cw,rfl,im⟩:=kD.sl e6;obtain ⟨dq,dt,rfl,iv⟩:=kD.sl fz;obtain ⟨de,dd,rfl,i0⟩:=kD.sl f0;obtain ⟨cd,cf,rfl,it⟩:=kD.sl f6;obtain ⟨cg,ch,rfl,iq⟩:=kD.sl gm;obtain ⟨id,ik,rfl,j4⟩:=kD.sl g7;clear fi fd fy fh e6 fz f0 f6 gm i8 g7;obtain ⟨au,aw,be,bd,bz,da,c9,df,db⟩:=zL X;obtain ⟨ao,an,a9,bb,br,c4,c7,c5,c8⟩:=kBu X;go_wp2;refine Am (v:=.agg #[Qs bf U bg,Qn xc,Qs cl xe cw,Qs dq x2 dt,Qs de x3 dd,Qs cd x4 cf,Qs cg x5 ch,Qn y6,.slice id ([]:List yR).length ik]) dE rfl ⟨[Qs bf U bg,Qn xc,Qs cl xe cw,Qs dq x2 dt,Qs de x3 dd,Qs cd x4 cf,Qs cg x5 ch,Qn y6,.slice id ([]:List yR).length ik],rfl,?_,?_⟩
     · rw [L.out,b7.out];exact (Od.touch sT9 tC).wide fP
     exact o.trans (Touch.below sT9 o.size bD5)
   have R:=yD ((kEy I.out O4 pW).wide (T:=(λj=>w.heap.size + 3<=j/\j < w7.heap.size/\j≠w3.heap.size + 1)) dA);clear I O4;obtain ⟨N,J,ak,af,ax,a2,a1,a3,a5⟩:=zL BO;obtain ⟨ay,az,a6,a7,bc,bn,bl,bk,bp⟩:=kBu BO;go_upto_region 14 with fail;generalize G:World.setCell w7 _ _=w8;have a8:Touch (λk=>k=w3.heap.size + 1) w7 w8:=bB2;replace BO:Qr w8 (w3.heap.size + 1) #[Qs bf U bg,Qn xc,Qs cl xe cw,Qs pa P pc,Qs de x3 dd,Qs cd x4 cf,Qs cg x5 ch,Qn x6,.slice (some ⟨w3.heap.size,0,none⟩) 0 0] 43:=wK;have eo:=a8.size;clear G;obtain ⟨BX,BQ,X⟩:=EX;obtain ⟨R,o⟩:=JC;clear N J ak af ax a2 a1 a3 a5 ay az a6 a7 bc bn bl bk bp;clear a8;have I:=yD (R.out.wide (T:=(λj=>w.heap.size + 3<=j/\j < w8.heap.size/\j≠w3.heap.size + 1)) vH);clear R;obtain ⟨aa,ab,ae,ac,ah,ai,aj,am⟩:=yz BX;obtain ⟨ag,ap,ar,aq⟩:=jZ BQ;go_wp2_with fail;refine (kKf (gj.out.below o) (cn:=[.slice d5 q0.length ed]) (fw.out.below o) HF.out).mono ?_;rintro e w9 ⟨rfl,hb⟩;have e9:=hb.size;obtain ⟨BX,BQ,X,BO⟩:=xM;obtain ⟨I,o⟩:=xV;clear aa ab ae ac ah ai aj am ag ap ar aq;clear hb;obtain ⟨kn,du⟩:∃ b,kGd x2 q0 f=b:=⟨_,rfl⟩;rw [du];have ei:=yD du;clear du;obtain ⟨ag,ap,ar,aq⟩:=jZ BQ;go_wp2_with fail;refine (kNv (HI.out.below o)).mono ?_;rintro e b9 ⟨yc,rfl,Oy,hb⟩;have e5:=hb.size;obtain ⟨BX,BQ,X,BO⟩:=xM;obtain ⟨I,o⟩:=xV;clear ag ap ar aq;clear hb;obtain ⟨Y,hY⟩:∃ Y,kQy (q0,q1,q2,q3)=Y:=⟨_,rfl⟩;rw [hY] at Oy;have i9:=yD hY;clear hY;obtain ⟨y0,y1,y2,y3⟩:=Y;obtain ⟨h9,rfl,ff,e3,f3,f8,ia⟩:=jY Oy.raw;obtain ⟨f4,f5,rfl,ju⟩:=kD.sl e3;clear ff e3 f3 f8 ia;have HY:=yD (Oy);clear Oy;go_upto_region 16 with fail;generalize G:World.alloc b9 _=c6;have b1:Qb b9 c6:=tK;have BY:Qr c6 b9.heap.size #[Qs f4 y0 f5,Qn y1,Qn y2,Qn y3] 38:=wW;have fq:b9.heap.size + 1<=c6.heap.size:=bF4;clear G;replace BX:=kC BX b1;replace BQ:=kC BQ b1;replace X:=kC X b1;replace BO:=kC BO b1;replace I:=yD (I.out.below b1);replace HY:=yD (HY.out.below b1);replace o:=(tQ o b1);clear b1;obtain ⟨aa,ab,ae,ac,ah,ai,aj,am⟩:=yz BX;obtain ⟨ag,ap,ar,aq⟩:=jZ BQ;go_wp2_with fail;refine (kNu (HX.out.below o) (cn:=[.slice d5 q0.length ed]) (fw.out.below o) HF.out).mono ?_;rintro e dm ⟨vf,rfl,Of,hb⟩;have fx:=hb.size;obtain ⟨BX,BQ,X,BO⟩:=xM;obtain ⟨BY,I,HY⟩:=FK;replace o:=(tQ o hb);clear aa ab ae ac ah ai aj am ag ap ar aq;clear hb;have gf:=kQk (x:=(U,(xc,xe),x2,x3,x4,x5,x6)) (n:=q0) (ex:=f);obtain ⟨fs,hu⟩:∃ fs,kEw (U,(xc,xe),x2,x3,x4,x5,x6) q0 f=fs:=⟨_,rfl⟩;rw [hu] at Of gf;have el:=yD hu;clear hu;replace gf:fs.length<=x4.length:=gf;obtain ⟨fa,fc,rfl,_⟩:=kD.sl Of.raw;have eq:=yD (Of);clear Of;obtain ⟨aa,ab,ae,ac,ah,ai,aj,am⟩:=yz BX;obtain ⟨ag,ap,ar,aq⟩:=jZ BQ;generalize f1:kIg (q0,q1,q2,q3)=ok;have hc:=yD f1;clear f1;go_upto_region 17 with fail;have FX:=yD (λ(W:Ar) (hW:Qb dm W)=>kIz hW ac ag);refine kr (λW=>Qb dm W) [Tt,Tt,Tt,Tt,Ff,Tt,Tt,Tt,Tt,Tt,Tt,Ff,Tt,Tt,Tt,Tt,Tt,Tt,Tt,Tt,Tt,Tt,Tt] bR ?_;intro wS E;iterate 4
    all_goals refine ky ?_
   all_goals first | refine wkB (kRu (gj.out.1.below (tQ o E)) (cn:=[.slice d5 q0.length ed]) (fw.out.1.below (tQ o E))) (λwS1 E=>?_) | refine ky ?_
   all_goals (refine jy λb c3=>?_;cases b <;> try simp only [jw] at c3)
   iterate 5
    all_goals refine ky ?_
   all_goals first | refine wkB (kRt (gj.out.1.below (tQ o E)) (cn:=[.slice d5 q0.length ed]) (fw.out.1.below (tQ o E))) (λwS1 E=>?_) | refine ky ?_
   all_goals refine ky ?_
   all_goals refine ky ?_
   all_goals (refine jy λb d6=>?_;cases b <;> try simp only [jw] at d6)
   iterate 3
    all_goals refine ky ?_
   all_goals (refine jy λb dr=>?_;cases b <;> try simp only [jw] at dr)
   iterate 3
    all_goals refine ky ?_
   all_goals (refine jy λb dz=>?_;cases b <;> try simp only [jw] at dz)
   all_goals refine kS ?_
   all_goals rename Ar=>es
   all_goals have gy:=E.size
   all_goals replace BX:=kC BX E
   all_goals replace BQ:=kC BQ E
   all_goals replace X:=kC X E
   all_goals replace BO:=kC BO E
   all_goals replace BY:=kC BY E
   all_goals replace I:=yD (I.out.below E)
   all_goals replace HY:=yD (HY.out.below E)
   all_goals replace eq:=yD (eq.out.below E)
   all_goals replace o:=(tQ o E)
   all_goals clear aa ab ae ac ah ai aj am ag ap ar aq
   all_goals clear E
   all_goals first
     | (have L := yD (kKh fg.out gz h5 (show yj (U, (xc, xe), x2, x3, x4, x5, x6) f (q0, q1, q2, q3) t = true by simp only [yj, hc.out, el.out, Ad, Aa, Ae, Ag, Ab, Ac, Aj, Ak, Ah, Ai, Al, c3, d6, dr, dz]))
        obtain ⟨N,J,ak,af,ax,a2,a1,a3,a5⟩:=zL BO
        obtain ⟨au,aw,be,bd,bz,da,c9,df,db⟩:=zL X
        obtain ⟨ao,an,a9,bb,br,c4,c7,c5,c8⟩:=kBu X
        go_wp2
        refine Am (v:=.agg #[Qs bf U bg,Qn xc,Qs cl xe cw,Qs pa P pc,Qs de x3 dd,Qs cd x4 cf,Qs cg x5 ch,Qn x6,.slice (some ⟨w3.heap.size,0,none⟩) 0 0]) dE rfl ⟨[Qs bf U bg,Qn xc,Qs cl xe cw,Qs pa P pc,Qs de x3 dd,Qs cd x4 cf,Qs cg x5 ch,Qn x6,.slice (some ⟨w3.heap.size,0,none⟩) 0 0],rfl,?_,?_⟩
        · rw [L.out];simp only [HP.out];exact kKx (B:=λ_=>False) (I.out.touch sT9 tC) kD.jm fF (λ_ h=>h.elim) (λ_ _ h=>h)
        · exact o.trans (Touch.below sT9 o.size bD5))
     | skip
   all_goals
     (have ho:=yD (show yj (U,(xc,xe),x2,x3,x4,x5,x6) f (q0,q1,q2,q3) t=false by simp only [yj,hc.out,el.out,Ad,Aa,Ae,Ag,Ab,Ac,Aj,Ak,Ah,Ai,Al,c3,d6,dr,dz])
      have L:=yD (kNh fg.out gz h5 ho.out)
      clear c3 d6 dr dz
      obtain ⟨ag,ap,ar,aq⟩:=jZ BQ
      go_wp2_with fail
      refine (kLz (kWq I.out.rd) (cn:=[.slice d5 q0.length ed]) (fw.out.below o) ew.out).mono ?_
      rintro e ek ⟨v6,rfl,O6,hb⟩
      have h8:=hb.size
      obtain ⟨BX,BQ,X,BO⟩:=xM
      obtain ⟨BY,I,HY⟩:=FK
      replace eq:=yD (eq.out.below hb)
      replace o:=(tQ o hb)
      clear ag ap ar aq
      clear hb
      obtain ⟨P2,h7⟩:∃ P2,kCe q0 t P=P2:=⟨_,rfl⟩
      rw [h7] at O6
      have hw:=yD h7
      clear h7
      obtain ⟨ra,rc,rfl,_⟩:=kD.sl O6.raw
      have R:=yD ((kEy I.out O6 pW).wide (T:=(λj=>w.heap.size + 3<=j/\j < ek.heap.size/\j≠w3.heap.size + 1)) dA)
      clear I O6
      obtain ⟨N,J,ak,af,ax,a2,a1,a3,a5⟩:=zL BO
      obtain ⟨ay,az,a6,a7,bc,bn,bl,bk,bp⟩:=kBu BO
      go_upto_region 20 with fail
      generalize G:World.setCell ek _ _=ee
      have ez:Touch (λk=>k=w3.heap.size + 1) ek ee:=bB2
      replace BO:Qr ee (w3.heap.size + 1) #[Qs bf U bg,Qn xc,Qs cl xe cw,Qs ra P2 rc,Qs de x3 dd,Qs cd x4 cf,Qs cg x5 ch,Qn x6,.slice (some ⟨w3.heap.size,0,none⟩) 0 0] 43:=wK
      have ib:=ez.size
      clear G
      replace BX:=ez.kC BX bH3
      replace BQ:=ez.kC BQ bH3
      replace X:=ez.kC X bH3
      replace BY:=ez.kC BY bH3
      replace HY:=yD (HY.out.touch ez qW)
      replace eq:=yD (eq.out.touch ez qW)
      replace R:=yD (R.out.touch ez qW)
      replace o:=o.trans (ez.below o.size bD5)
      clear N J ak af ax a2 a1 a3 a5 ay az a6 a7 bc bn bl bk bp
      clear ez
      have I:=yD (R.out.wide (T:=(λj=>w.heap.size + 3<=j/\j < ee.heap.size/\j≠w3.heap.size + 1)) vH)
      clear R
      have hj:0 < fs.length:=cB
      obtain ⟨F,hF⟩:∃ F,kEi (U,(xc,xe),x2,x3,x4,x5,x6) f (q0,q1,q2,q3)=F:=⟨_,rfl⟩
      have i4:=yD hF
      have gx:Hid (F=if kn then fs else fs.take 1):=yD bG
      clear hF
      have b0:=(kD.kCt eq.out.raw).1
      have dp:1<=fc:=bH3
      have fj:(1:Int)<=fc:=bH3
      have g3:¬ fc < 1:=bH3
      have i6:¬ fc=0:=bH3
      clear b0
      obtain ⟨fm,il⟩:=jAe gx.out hj eq.out.raw
      have jj:=yD il
      clear il
      have j9:=jAg gx.out
      obtain ⟨_,fb,fo,rfl,gg,j3⟩:=kD.kGf eq.out hj
      have j1:=gg.1
      have j2:=gg.2
      clear gg
      replace I:=yD (I.out.wide (T:=(λj=>w.heap.size + 3<=j/\j < ee.heap.size/\j≠w3.heap.size + 1)) qQ)
      replace HY:=yD (HY.out.wide (T:=(λj=>w.heap.size + 3<=j/\j < ee.heap.size/\j≠w3.heap.size + 1)) gI)
      clear eq BX BQ
      go_wp2
      go_loopw [18] (λi wr=>∃ (k:Nat) (ga:Option Addr) (gn gc:Nat),i=.int .i64 k/\k<=F.length/\Hid (kD.kQ 76 zg wr (.slice ga gn gc) ((F.take k).map (kMc (y0,y1,y2,y3))) (λj=>ee.heap.size<=j/\j < wr.heap.size))/\Hid (yB.own wr [Qs bf U bg,Qn xc,Qs cl xe cw,Qs ra P2 rc,Qs de x3 dd,Qs cd x4 cf,Qs cg x5 ch,Qn x6] (U,(xc,xe),P2,x3,x4,x5,x6) (λj=>w.heap.size + 3<=j/\j < ee.heap.size/\j≠w3.heap.size + 1))/\Hid (jO.own wr [Qs f4 y0 f5,Qn y1,Qn y2,Qn y3] (y0,y1,y2,y3) (λj=>w.heap.size + 3<=j/\j < ee.heap.size/\j≠w3.heap.size + 1))/\Qr wr (w.heap.size + 2) #[.slice none 0 0,Qn 0,.slice none 0 0,.slice none 0 0,.slice none 0 0,.slice none 0 0,.slice none 0 0,Qn 0,.slice none 0 0] 43/\Qr wr (w3.heap.size + 1) #[Qs bf U bg,Qn xc,Qs cl xe cw,Qs ra P2 rc,Qs de x3 dd,Qs cd x4 cf,Qs cg x5 ch,Qn x6,.slice ga gn gc] 43/\Qr wr b9.heap.size #[Qs f4 y0 f5,Qn y1,Qn y2,Qn y3] 38/\Touch (λj=>j=w3.heap.size + 1\/ee.heap.size<=j) ee wr/\Qb w wr) (λi _=>F.length - (intOf i).toNat)
      case atStart=>exact ⟨0,(some ⟨w3.heap.size,0,none⟩),0,0,rfl,Nat.zero_le _,yD kD.kQ.void,I,HY,X,BO,BY,Touch.of_below bR,o⟩
      case round =>
        rename Ar=>wq;clear I HY X BO BY o;obtain ⟨k,ga,gn,gc,rfl,hk,HQ,I,HY,X,BO,BY,TL,o⟩:=hrel;have ce:=Int.natCast_nonneg k;have iy:=TL.size;have f9:((F.take k).map (kMc (y0,y1,y2,y3))).length<=k:=bG7;go_upto_region 21 with fail;refine kr (λW=>Qb wq W) [Tt,Tt,Tt,Tt,Tt,Tt,Tt,Tt,Tt,Tt,Tt] bR ?_;intro wS E;iterate 4
         all_goals refine ky ?_
        all_goals (refine jy λb co=>?_;cases b <;> try simp only [jw] at co)
        all_goals refine ky ?_
        all_goals (refine jy λb cm=>?_;cases b <;> try simp only [jw] at cm)
        iterate 3
         all_goals refine ky ?_
        all_goals (refine jy λb ad=>?_;cases b <;> try simp only [jw] at ad)
        all_goals refine kS ?_
        all_goals replace TL:=TL.trans (Touch.of_below E)
        all_goals rename Ar=>gh
        all_goals have ig:=E.size
        all_goals replace X:=kC X E
        all_goals replace BO:=kC BO E
        all_goals replace BY:=kC BY E
        all_goals replace HQ:=yD (HQ.out.below E)
        all_goals replace I:=yD (I.out.below E)
        all_goals replace HY:=yD (HY.out.below E)
        all_goals replace o:=(tQ o E)
        all_goals clear E
        all_goals first
          | (have hlt : ¬ k < F.length := by have hd := faces_lt (k := k) gx.out; simp only [Ad, Aa, Ae, Ag, Ab, Ac, Aj, Ak, Ah, Ai, Al, co, cm, ad] at hd; simpa using hd
             obtain rfl:k=F.length:=bH3
             replace HQ:=yD (kD.kQ.cast HQ.out (show _=F.map (kMc (y0,y1,y2,y3)) by rw [List.take_length]))
             have dl:¬ ((F.length:Int) < F.length):=bH3
             obtain ⟨N,J,ak,af,ax,a2,a1,a3,a5⟩:=zL BO
             obtain ⟨au,aw,be,bd,bz,da,c9,df,db⟩:=zL X
             obtain ⟨ao,an,a9,bb,br,c4,c7,c5,c8⟩:=kBu X
             go_wp2
             refine Am (v:=.agg #[Qs bf U bg,Qn xc,Qs cl xe cw,Qs ra P2 rc,Qs de x3 dd,Qs cd x4 cf,Qs cg x5 ch,Qn x6,.slice ga gn gc]) dE rfl ⟨[Qs bf U bg,Qn xc,Qs cl xe cw,Qs ra P2 rc,Qs de x3 dd,Qs cd x4 cf,Qs cg x5 ch,Qn x6,.slice ga gn gc],rfl,?_,?_⟩
             · rw [L.out];simp only [HP.out,hw.out,i4.out,i9.out];exact kKx (I.out.touch sT9 tC) ((HQ.out.touch sT9 tC).own bA1) fF fP qV
             · exact o.trans (Touch.below sT9 o.size bD5))
          | skip
        all_goals
          (have hlt:k < F.length:=by have hd:=faces_lt (k:=k) gx.out;simp only [Ad,Aa,Ae,Ag,Ab,Ac,Aj,Ak,Ah,Ai,Al,co,cm,ad] at hd;simpa using hd
           try clear co
           try clear cm
           try clear ad
           obtain ⟨ka,j6,g4,g0,gr,G0⟩:=kD.kCu jj.out hlt rfl
           simp only [Option.some.injEq,Addr.mk.injEq,and_true] at g4
           obtain ⟨rfl,rfl⟩:=g4
           obtain ⟨ge,io⟩:=kD.je gr
           obtain rfl:g0=_:=by simpa using ge
           have bx:=List.take_succ_eq_append_getElem hlt
           generalize F[k]=g at *
           have b4:=yD bx
           have i1:Hid (Qi g):=yD io
           clear bx io ge gr
           have G1:=TL.kIh G0 bH3
           clear G0
           have dl:(k:Int) < fs.length:=bH3
           obtain ⟨N,J,ak,af,ax,a2,a1,a3,a5⟩:=zL BO
           obtain ⟨c1,dk,dj,dn⟩:=jZ BY
           go_upto_region 23 with fail
           have FX:=yD (λ(W:Ar) (hW:Qb gh W)=>kIy hW a5 c1 dk dj dn G1)
           refine zM (λW=>Qb gh W) [Tt,Tt,Tt,Tt,Tt,Tt,Tt,Ff,Tt,Ff] bG6 bG6 qY (bR.drew) ?_
           intro wS E
           iterate 7
            all_goals refine ky ?_
           all_goals first|(refine kJ rfl E ?_)|(refine kw rfl (λK H=>?_);go_simp;refine (kQa (HY.out.rd.below E)).mono ?_;rintro e wT ⟨tc,rfl,O,al⟩;obtain ⟨fp,rfl,b6,eb,ej,ft,em⟩:=jY O.raw;obtain ⟨bi,cv,rfl,ha⟩:=kD.sl eb;clear b6 eb ej ft em;have HC:=yD O;have jk:=al.size;have f2:=E.size;replace E:=(tQ E al);refine H _ _ E ?_;clear H K al O)
           all_goals refine jG ?_
           all_goals refine ky ?_
           all_goals first|(refine kJ rfl E ?_)|(refine kw rfl (λK H=>?_);go_simp;refine H _ _ (E.alloc E.size _) ?_;clear H K)
           all_goals refine jG ?_
           all_goals refine yG ?_
           go_wp2_with (at_builtin;refine kD.kBy rfl _ _ 41 rfl (r:=zg) (e:=76) underlying41 kMp rfl bH2 bH2 (w:=wT) (HQ.out.below E) bH5 bH5 rfl (out2_own i1.out HC.out) rfl qJ bH3 ?_)
           intro v2 gw hQ di
           have hT:Touch (λj=>ee.heap.size<=j) gh gw:=(Touch.of_below (E.alloc E.size _)).trans (di.wide (λj q=>by have:=q.2;omega))
           have ii:=hT.size
           have gi:=di.size
           have ic:wT.heap.size + 1<=gw.heap.size:=bF3
           clear di gi G1 E
           obtain ⟨g2,n2,c2,rfl⟩:∃ a n c,v2=.slice a n c:=pQ
           clear HQ
           have HQ:=yD ((kD.kQ.cast hQ (show _=(F.take (k + 1)).map (kMc (y0,y1,y2,y3)) by rw [b4.out,List.map_append,List.map_take];rfl)).wide (T:=λj=>ee.heap.size<=j/\j < gw.heap.size) gJ)
           clear hQ
           obtain ⟨TL,X,BO,BY,I,HY,o⟩:=H5
           clear N J ak af ax a2 a1 a3 a5 c1 dk dj dn
           clear hT HC
           obtain ⟨N,J,ak,af,ax,a2,a1,a3,a5⟩:=zL BO
           obtain ⟨ay,az,a6,a7,bc,bn,bl,bk,bp⟩:=kBu BO
           go_wp2
           generalize G:World.setCell gw _ _=ip
           have fe:Touch (λk=>k=w3.heap.size + 1) gw ip:=bB2
           replace BO:Qr ip (w3.heap.size + 1) #[Qs bf U bg,Qn xc,Qs cl xe cw,Qs ra P2 rc,Qs de x3 dd,Qs cd x4 cf,Qs cg x5 ch,Qn x6,.slice g2 n2 c2] 43:=wM
           have i5:=fe.size
           clear G
           replace TL:=TL.trans (fe.wide (λj q=>.inl q))
           replace X:=fe.kC X bH3
           replace BY:=fe.kC BY bH3
           replace I:=yD (I.out.touch fe qW)
           replace HY:=yD (HY.out.touch fe qW)
           replace HQ:=yD (HQ.out.touch fe qW)
           replace o:=o.trans (fe.below o.size bD5)
           clear N J ak af ax a2 a1 a3 a5 ay az a6 a7 bc bn bl bk bp
           clear fe
           replace HQ:=yD (HQ.out.wide (T:=λj=>ee.heap.size<=j/\j < ip.heap.size) (λj q=>⟨q.1,by omega⟩))
           go_wp2
           go_roundw
           case rel=>exact ⟨k + 1,g2,n2,c2,by go_num,by omega,HQ,I,HY,X,BO,BY,TL,o⟩
           case measure=>simp [intOf];omega))
 have L:=yD (kPd (t:=t) fg.out gz)
 have j7:Hid (w4.heap.size<=w6.heap.size):=yD bH3
 obtain ⟨N,J,ak,af,ax,a2,a1,a3,a5⟩:=zL BO
 obtain ⟨hv,hz,h6,hl,h4⟩:=zD BF
 obtain ⟨ay,az,a6,a7,bc,bn,bl,bk,bp⟩:=kBu BO
 go_wp2_with (at_builtin;refine kD.kBy rfl _ _ 41 rfl (r:=zg) (e:=76) underlying41 kMp rfl bH2 bH2 (S:=λ_=>False) (w:=w6) kD.kQ.void bH5 bH5 rfl (out1_own HF.out ey.out) rfl (λ_ h=>h.elim) bH4 ?_)
 intro v5 w7 hQ di
 have hb:Qb w6 w7:=(bR.alloc nL _).trans (di.below bH4 (λk hk=>by simp at hk))
 clear di
 have et:w6.heap.size<=w7.heap.size:=hb.size
 obtain ⟨ga,gc,rfl⟩:∃ a c,v5=.slice a 1 c:=by obtain ⟨a,c,h⟩:=kD.kQ.yw hQ;exact ⟨a,c,h⟩
 clear ey
 obtain ⟨BX,BQ,X,BO⟩:=xM
 replace BF:=kC BF hb
 obtain ⟨I,o⟩:=xV
 clear N J ak af ax a2 a1 a3 a5 hv hz h6 hl h4 ay az a6 a7 bc bn bl bk bp
 clear hb
 have HQ:=yD (kD.kQ.wide (T:=λj=>w4.heap.size<=j/\j < w7.heap.size) hQ (λj q=>by rcases q with q | q <;> (have:=q.1;have:=q.2;omega)))
 clear hQ
 obtain ⟨N,J,ak,af,ax,a2,a1,a3,a5⟩:=zL BO
 obtain ⟨ay,az,a6,a7,bc,bn,bl,bk,bp⟩:=kBu BO
 go_upto_region 7 with fail
 generalize G:World.setCell w7 _ _=w8
 have a8:Touch (λk=>k=w3.heap.size + 1) w7 w8:=bB2
 replace BO:Qr w8 (w3.heap.size + 1) #[Qs bf U bg,Qn xc,Qs cl xe cw,Qs dq x2 dt,Qs de x3 dd,Qs cd x4 cf,Qs cg x5 ch,Qn x6,.slice ga 1 gc] 43:=wM
 have eo:=a8.size
 clear G
 obtain ⟨BX,BQ,X⟩:=EX
 replace BF:=a8.kC BF bH3
 replace I:=yD (I.out.touch a8 qW)
 replace HQ:=yD (HQ.out.touch a8 qW)
 replace o:=o.trans (a8.below o.size bD5)
 clear N J ak af ax a2 a1 a3 a5 ay az a6 a7 bc bn bl bk bp
 clear a8
 obtain ⟨aa,ab,ae,ac,ah,ai,aj,am⟩:=yz BX
 obtain ⟨ag,ap,ar,aq⟩:=jZ BQ
 go_wp2_with fail
 refine (kTh (i3.out.below o) (cn:=[.slice d5 q0.length ed]) (fw.out.below o) ew.out).mono ?_
 rintro e w9 ⟨ec,rfl,Oe,hb⟩
 have e9:=hb.size
 obtain ⟨BX,BQ,X,BO⟩:=xM
 replace BF:=kC BF hb
 replace I:=yD (I.out.below hb)
 replace HQ:=yD (HQ.out.below hb)
 replace o:=(tQ o hb)
 clear aa ab ae ac ah ai aj am ag ap ar aq
 clear hb
 obtain ⟨ev,he⟩:∃ ev,kGl q0 t (xc,xe)=(xc,ev):=⟨_,rfl⟩
 rw [he] at Oe
 have HE:=yD he
 clear he
 obtain ⟨sv,rfl,e8,ij⟩:=jN Oe.raw
 obtain ⟨ea,ep,rfl,_⟩:=kD.sl ij
 clear e8 ij
 have R:=yD ((kIu I.out Oe pW).wide (T:=(λj=>w.heap.size + 3<=j/\j < w9.heap.size/\j≠w3.heap.size + 1/\¬ (w4.heap.size<=j/\j < w7.heap.size))) bK)
 clear I Oe
 obtain ⟨N,J,ak,af,ax,a2,a1,a3,a5⟩:=zL BO
 obtain ⟨ay,az,a6,a7,bc,bn,bl,bk,bp⟩:=kBu BO
 go_upto_region 8 with fail
 generalize G:World.setCell (World.setCell w9 _ _) _ _=b9
 have bw:Touch (λk=>k=w3.heap.size + 1) w9 b9:=bB8
 replace BO:Qr b9 (w3.heap.size + 1) #[Qs bf U bg,Qn xc,Qs ea ev ep,Qs dq x2 dt,Qs de x3 dd,Qs cd x4 cf,Qs cg x5 ch,Qn x6,.slice ga 1 gc] 43:=by rw [<- G];exact kI (kI (BO) 1) 2
 have e5:=bw.size
 clear G
 replace BX:=bw.kC BX bH3
 replace BQ:=bw.kC BQ bH3
 replace X:=bw.kC X bH3
 replace BF:=bw.kC BF bH3
 replace HQ:=yD (HQ.out.touch bw qW)
 replace R:=yD (R.out.touch bw qW)
 replace o:=o.trans (bw.below o.size bD5)
 clear N J ak af ax a2 a1 a3 a5 ay az a6 a7 bc bn bl bk bp
 clear bw
 have I:=yD (R.out.wide (T:=(λj=>w.heap.size + 3<=j/\j < b9.heap.size/\j≠w3.heap.size + 1/\¬ (w4.heap.size<=j/\j < w7.heap.size))) vH)
 clear R
 obtain ⟨aa,ab,ae,ac,ah,ai,aj,am⟩:=yz BX
 obtain ⟨ag,ap,ar,aq⟩:=jZ BQ
 go_wp2_with fail
 refine (kHj (ie.out.below o) f7 (cn:=[.slice d5 q0.length ed]) (fw.out.below o) i2.out).mono ?_
 rintro e c6 ⟨v9,rfl,O9,hb⟩
 have fq:=hb.size
 obtain ⟨BX,BQ,X,BO⟩:=xM
 replace BF:=kC BF hb
 replace HQ:=yD (HQ.out.below hb)
 obtain ⟨I,o⟩:=xV
 clear aa ab ae ac ah ai aj am ag ap ar aq
 clear hb
 obtain ⟨sn,bx⟩:∃ s,kAu x3 q0 q1=s:=⟨_,rfl⟩
 rw [bx] at O9
 have b4:=yD bx
 clear bx
 obtain ⟨sa,sc,rfl,_⟩:=kD.sl O9.raw
 have R:=yD ((kKl I.out O9 pW).wide (T:=(λj=>w.heap.size + 3<=j/\j < c6.heap.size/\j≠w3.heap.size + 1/\¬ (w4.heap.size<=j/\j < w7.heap.size))) bO)
 clear I O9
 obtain ⟨N,J,ak,af,ax,a2,a1,a3,a5⟩:=zL BO
 obtain ⟨ay,az,a6,a7,bc,bn,bl,bk,bp⟩:=kBu BO
 go_upto_region 9 with fail
 generalize G:World.setCell c6 _ _=dm
 have dc:Touch (λk=>k=w3.heap.size + 1) c6 dm:=bB2
 replace BO:Qr dm (w3.heap.size + 1) #[Qs bf U bg,Qn xc,Qs ea ev ep,Qs dq x2 dt,Qs sa sn sc,Qs cd x4 cf,Qs cg x5 ch,Qn x6,.slice ga 1 gc] 43:=wR
 have fx:=dc.size
 clear G
 replace BX:=dc.kC BX bH3
 replace BQ:=dc.kC BQ bH3
 replace X:=dc.kC X bH3
 replace BF:=dc.kC BF bH3
 replace HQ:=yD (HQ.out.touch dc qW)
 replace R:=yD (R.out.touch dc qW)
 replace o:=o.trans (dc.below o.size bD5)
 clear N J ak af ax a2 a1 a3 a5 ay az a6 a7 bc bn bl bk bp
 clear dc
 have I:=yD (R.out.wide (T:=(λj=>w.heap.size + 3<=j/\j < dm.heap.size/\j≠w3.heap.size + 1/\¬ (w4.heap.size<=j/\j < w7.heap.size))) vH)
 clear R
 obtain ⟨N,J,ak,af,ax,a2,a1,a3,a5⟩:=zL BO
 obtain ⟨au,aw,be,bd,bz,da,c9,df,db⟩:=zL X
 obtain ⟨ao,an,a9,bb,br,c4,c7,c5,c8⟩:=kBu X
 go_wp2
 refine Am (v:=.agg #[Qs bf U bg,Qn xc,Qs ea ev ep,Qs dq x2 dt,Qs sa sn sc,Qs cd x4 cf,Qs cg x5 ch,Qn x6,.slice ga 1 gc]) dE rfl ⟨[Qs bf U bg,Qn xc,Qs ea ev ep,Qs dq x2 dt,Qs sa sn sc,Qs cd x4 cf,Qs cg x5 ch,Qn x6,.slice ga 1 gc],rfl,?_,?_⟩
 · rw [L.out];simp only [HE.out,b4.out,HD.out];exact kKx (I.out.touch sT9 tC) ((HQ.out.touch sT9 (λj h1 h2=>by omega)).own (show 1<=Big by unfold Big;omega)) fF nQ gV
 exact o.trans (Touch.below sT9 o.size bD5)
end Go.Proofs.YtjhfdpopkkmigabGreat
namespace Go.Proofs.YtjhfdpopkkmigabGreat
open Go.ChangeShapes Go.WideShapes Go.ChangeAt Go.RowKit _root_.Go.Proofs.Tryz
theorem int_rdB2 {w:Ar} {v:Value} {ps:kg} {n o h t:Int} {S:Nat->Prop} (k:kN.jo w [v] ps S) (hn:Qi n) (r:jO.raw w [v,Qn o,Qn h,Qn t] (ps,o,h,t)):jO.jo w [v,Qn n,Qn h,Qn t] (ps,n,h,t) S:=by
 obtain ⟨_,_,_,_,_,h2,h3⟩:=jY r;replace h2:Qi h:=h2;replace h3:Qi t:=h3;exact kD.kAg (r:=kN) (q:=.pair .int (.pair .int .int)) (z:=(ps,n,h,t)) (cs:=[v]) k (kD.flat.jo (kD.jW (cs:=[.int .i64 n]) (kD.ku hn) (kD.jW (cs:=[.int .i64 h]) (kD.ku h2) (kD.ku h3))))
theorem kQn {w:Ar} {v:Value} {N:List UInt8} (an:(kD.slice 5 kD.byte).raw w [v] N) :
    Calls prog 3 #[v] w (LawPost w):=by
 obtain ⟨ca,cc,rfl,_⟩:=kD.sl an
 go_enter func3,ntmps3
 go_wp2_with fail
 refine (lawsbig_c an).mono ?_
 rintro e w1 ⟨rfl,hb⟩
 have bo:=hb.size
 have o:=hb
 clear hb
 by_cases e7:(N.length:Int) > 1048576
 · go_wp2;go_ret;exact ⟨rfl,o⟩
 go_wp2_with fail
 refine (kHw (an.below o)).mono ?_
 rintro e V ⟨cs,x,f,cq,q,rfl,hO,hx,⟨d4,df⟩,hq,b6,⟨fa,fb⟩,hb⟩
 have bv:=hb.size
 replace o:=(tQ o hb)
 clear hb
 have ef:=yD hx.lenN
 have HX:=yD hx
 clear hx
 obtain ⟨a0,c0,a1,c1,a2,c2,a3,c3,a4,c4,a5,c5,rfl⟩:=kFo hO.rd.1
 obtain ⟨U,⟨kc,xe⟩,x2,x3,x4,x5,x6⟩:=x
 have XO:=yD (show yB.jo _ [Qs a0 U c0,Qn kc,Qs a1 xe c1,Qs a2 x2 c2,Qs a3 x3 c3,Qs a4 x4 c4,Qs a5 x5 c5,Qn x6] (U,(kc,xe),x2,x3,x4,x5,x6) _ from hO)
 clear hO
 obtain ⟨qa,qc,rfl⟩:=int_form hq.rd.1
 obtain ⟨qn,qi,qh,qt⟩:=q
 have J:=yD (show jO.jo _ [Qs qa qn qc,Qn qi,Qn qh,Qn qt] (qn,qi,qh,qt) _ from hq)
 clear hq
 have cg:=yD (show qi < 100\/1000000<=qi from b6)
 clear b6
 go_upto_region 4 with fail
 generalize G:World.alloc (World.alloc V _) _=w3
 have hb:Qb V w3:=by rw [<- G];exact (bR.alloc nL _).alloc bH4 _
 have BX:Qr w3 V.heap.size #[Qs a0 U c0,Qn kc,Qs a1 xe c1,Qs a2 x2 c2,Qs a3 x3 c3,Qs a4 x4 c4,Qs a5 x5 c5,Qn x6] 33:=vF
 have BW:Qr w3 (V.heap.size + 1) #[Qs qa qn qc,Qn qi,Qn qh,Qn qt] 38:=by rw [<- G];exact kG bH4
 have bt:V.heap.size + 2<=w3.heap.size:=bF4
 clear G
 replace XO:=yD (XO.out.below hb)
 replace J:=yD (J.out.below hb)
 replace o:=(tQ o hb)
 clear hb
 obtain ⟨aa,ab,ae,ac,ah,ai,aj,am⟩:=yz BX
 obtain ⟨ak,Y,X,al⟩:=jZ BW
 obtain ⟨F,os,cv⟩:∃ F os,kDo (U,(kc,xe),x2,x3,x4,x5,x6) f (qn,qi,qh,qt) 50=(F,os):=⟨_,_,rfl⟩
 have b7:=yD cv
 clear cv
 go_wp2_with fail
 refine (kCl (cx:=[.slice a0 U.length c0,.int .i64 kc,.slice a1 xe.length c1,.slice a2 x2.length c2,.slice a3 x3.length c3,.slice a4 x4.length c4,.slice a5 x5.length c5,.int .i64 x6]) XO.out.rd (f:=f) bH3 (cq:=[.slice qa qn.length qc,.int .i64 qi,.int .i64 qh,.int .i64 qt]) J.out.rd (t:=50) bH3 ef.out).mono ?_
 rintro e w4 ⟨cs,rfl,hO,hb⟩
 have b5:=hb.size
 obtain ⟨BX,BW⟩:=EK
 replace XO:=yD (XO.out.below hb)
 replace J:=yD (J.out.below hb)
 replace o:=(tQ o hb)
 clear aa ab ae ac ah ai aj am ak Y X al
 clear hb
 rw [b7.out] at hO
 obtain ⟨du,c7,d8,d2,eb,d3,ea,ec,ed,d6,d9,d7,oa,oc,rfl,hN,hQ⟩:=kXv hO
 have AO:=yD (hO)
 have NO:=yD (hN)
 have OO:=yD (hQ)
 clear hO hN hQ
 go_upto_region 5 with fail
 generalize G:World.alloc w4 _=w5
 have ar:Qb w4 w5:=tK
 have BA:Qr w5 w4.heap.size #[Qs du F.1 c7,Qn F.2.1.1,Qs d8 F.2.1.2 d2,Qs eb F.2.2.1 d3,Qs ea F.2.2.2.1 ec,Qs ed F.2.2.2.2.1 d6,Qs d9 F.2.2.2.2.2.1 d7,Qn F.2.2.2.2.2.2,Qs oa os oc] 43:=wW
 have b3:w4.heap.size + 1<=w5.heap.size:=bF4
 clear G
 replace BX:=kC BX ar
 replace BW:=kC BW ar
 replace XO:=yD (XO.out.below ar)
 replace J:=yD (J.out.below ar)
 replace AO:=yD (AO.out.below ar)
 replace NO:=yD (NO.out.below ar)
 replace OO:=yD (OO.out.below ar)
 replace o:=(tQ o ar)
 clear ar
 obtain ⟨aa,ab,ae,ac,ah,ai,aj,am⟩:=yz BX
 obtain ⟨ak,Y,X,al⟩:=jZ BW
 obtain ⟨ay,aq,bc,bb,az,a9,aw,a8,a7⟩:=zL BA
 have FX:=yD (λ(W:Ar) (hW:Qb w5 W)=>And.intro (cL hW aa) (And.intro (cL hW ab) (And.intro (cL hW ae) (And.intro (cL hW ac) (And.intro (cL hW ah) (And.intro (cL hW ai) (And.intro (cL hW aj) (And.intro (cL hW am) (And.intro (cL hW ak) (And.intro (cL hW Y) (And.intro (cL hW X) (And.intro (cL hW al) (And.intro (cL hW ay) (And.intro (cL hW aq) (And.intro (cL hW bc) (And.intro (cL hW bb) (And.intro (cL hW az) (And.intro (cL hW a9) (And.intro (cL hW aw) (And.intro (cL hW a8) (cL hW a7)))))))))))))))))))))
 refine kK (λW=>Qb w5 W) [Tt,Tt,Tt,Tt,Tt,Ff,Ff,Tt] bG6 bG6 qY (bR.drew) ?_
 intro wS E
 iterate 5
  all_goals refine ky ?_
 all_goals first|(refine kJ rfl E ?_)|(refine kw rfl (λK H=>?_);go_simp;refine (kLk (cx:=[.slice a0 U.length c0,.int .i64 kc,.slice a1 xe.length c1,.slice a2 x2.length c2,.slice a3 x3.length c3,.slice a4 x4.length c4,.slice a5 x5.length c5,.int .i64 x6]) (XO.out.below E).rd (f:=f) bH3 (cq:=[.slice qa qn.length qc,.int .i64 qi,.int .i64 qh,.int .i64 qt]) (J.out.below E).rd (t:=50) bH3 ef.out).mono ?_;rintro e wS1 ⟨d1,rfl,b0,Z⟩;rw [b7.out] at b0;have S2:=yD b0;clear b0;replace E:=(tQ E Z);refine H _ _ E ?_;clear H K Z)
 all_goals refine jG ?_
 all_goals first|(refine kJ rfl E ?_)|(refine kw rfl (λK H=>?_);go_simp;refine (kYp (cx:=[.slice du F.1.length c7,.int .i64 F.2.1.1,.slice d8 F.2.1.2.length d2,.slice eb F.2.2.1.length d3,.slice ea F.2.2.2.1.length ec,.slice ed F.2.2.2.2.1.length d6,.slice d9 F.2.2.2.2.2.1.length d7,.int .i64 F.2.2.2.2.2.2,.slice oa os.length oc]) (AO.out.below E).raw S2.out.raw).mono ?_;rintro e bm ⟨av,Z⟩;have I:e=.returned (.bool true):=av.trans bH4;subst I;clear av;replace E:=(tQ E Z);clear S2;refine H _ _ E ?_;clear H K Z)
 all_goals refine jG ?_
 all_goals refine ky ?_
 all_goals refine kS ?_
 have dy:=E.size
 replace BX:=kC BX E
 replace BW:=kC BW E
 replace BA:=kC BA E
 replace XO:=yD (XO.out.below E)
 replace J:=yD (J.out.below E)
 replace AO:=yD (AO.out.below E)
 replace NO:=yD (NO.out.below E)
 replace OO:=yD (OO.out.below E)
 replace o:=(tQ o E)
 clear E
 obtain ⟨ay,aq,bc,bb,az,a9,aw,a8,a7⟩:=zL BA
 go_wp2_with fail
 refine (kDb OO.out.raw).mono ?_
 rintro e w6 ⟨rfl,hb⟩
 have dh:=hb.size
 obtain ⟨BX,BW⟩:=EK
 replace BA:=kC BA hb
 obtain ⟨XO,J,AO,NO,OO⟩:=xY
 replace o:=(tQ o hb)
 clear ay aq bc bb az a9 aw a8 a7
 clear hb
 by_cases hz:cntI os=0
 · have bk:(cntI os==0)=true:=bE5;go_wp2;go_ret;exact ⟨rfl,o⟩
 have bk:(cntI os==0)=false:=bE5
 have db:=one_plan HX.out cg.out b7.out hz
 obtain ⟨fc,e8⟩:=db.face
 have bg:=yD db.len
 have bj:=yD db
 clear db hz cg b7
 obtain ⟨ak,Y,X,al⟩:=jZ BW
 go_upto_region 10 with fail
 generalize G:World.alloc w6 _=w7
 have L:Qb w6 w7:=tK
 have BV:Qr w7 w6.heap.size #[Qs qa qn qc,Qn qi,Qn qh,Qn qt] 38:=wW
 have et:w6.heap.size + 1<=w7.heap.size:=bF4
 clear G
 replace BX:=kC BX L
 replace BW:=kC BW L
 replace BA:=kC BA L
 replace XO:=yD (XO.out.below L)
 replace J:=yD (J.out.below L)
 replace AO:=yD (AO.out.below L)
 replace NO:=yD (NO.out.below L)
 replace OO:=yD (OO.out.below L)
 replace o:=(tQ o L)
 clear ak Y X al
 clear L
 go_wp2_with fail
 refine (lawsat_c (n:=3) (an.below o) bH3 bH2).mono ?_
 rintro e w8 ⟨k3,rfl,⟨ce,cw⟩,hb⟩
 have eo:=hb.size
 obtain ⟨BX,BW⟩:=EK
 replace BA:=kC BA hb
 replace BV:=kC BV hb
 obtain ⟨XO,J,AO,NO,OO⟩:=xY
 replace o:=(tQ o hb)
 clear hb
 have cd:Aq.wrap (700000 + k3)=700000 + k3:=Ap _ bH3
 obtain ⟨bf,bh,bl,bn⟩:=jZ BV
 obtain ⟨dw,de,dg,dx⟩:=kAq BV
 go_upto_region 11 with fail
 generalize G:World.setCell w8 _ _=w9
 have a6:Touch (λk=>k=w6.heap.size) w8 w9:=bB2
 replace BV:Qr w9 w6.heap.size #[Qs qa qn qc,.int .i64 (700000 + k3),Qn qh,Qn qt] 38:=by rw [<- G];exact kI BV 1
 have e9:=a6.size
 clear G
 replace BX:=a6.kC BX bH3
 replace BW:=a6.kC BW bH3
 replace BA:=a6.kC BA bH3
 replace XO:=yD (XO.out.touch a6 qW)
 replace J:=yD (J.out.touch a6 qW)
 replace AO:=yD (AO.out.touch a6 qW)
 replace NO:=yD (NO.out.touch a6 qW)
 replace OO:=yD (OO.out.touch a6 qW)
 replace o:=o.trans (a6.below o.size bD5)
 clear bf bh bl bn dw de dg dx
 clear a6
 have c8:Aq.wrap (f + 1)=f + 1:=Ap _ bH3
 go_wp2_with fail
 refine (lawsat_c (n:=4) (an.below o) bH3 bH2).mono ?_
 rintro e b9 ⟨k4,rfl,⟨dl,fe⟩,hb⟩
 have e5:=hb.size
 obtain ⟨BX,BW⟩:=EK
 replace BA:=kC BA hb
 replace BV:=kC BV hb
 obtain ⟨XO,J,AO,NO,OO⟩:=xY
 replace o:=(tQ o hb)
 clear hb
 have co:Aq.wrap (f + 1 + k4 % 6)=f + 1 + k4 % 6:=Ap _ bH3
 have VO:=yD (show jO.jo b9 [Qs qa qn qc,.int .i64 (700000 + k3),Qn qh,Qn qt] (qn,700000 + k3,qh,qt) _ from int_rdB2 (jBt J.out) bH3 J.out.rd.1)
 obtain ⟨aa,ab,ae,ac,ah,ai,aj,am⟩:=yz BX
 obtain ⟨ay,aq,bc,bb,az,a9,aw,a8,a7⟩:=zL BA
 obtain ⟨bf,bh,bl,bn⟩:=jZ BV
 obtain ⟨ak,Y,X,al⟩:=jZ BW
 go_upto_region 12 with fail
 obtain ⟨sd,eg⟩:∃ s_,(f + 1 + k4 % 6) % 7=s_:=⟨_,rfl⟩
 rw [eg]
 have b8:0<=sd:=bH3
 have ch:sd<=6:=bH3
 clear eg
 obtain ⟨R,O,af,ap,ad⟩:=bj.out.then_ sd (700000 + k3) b8 ch bH3 bH3
 obtain ⟨nc,oq,c9⟩:∃ nc oq,kDo F sd (qn,700000 + k3,qh,qt) 51=(nc,oq):=⟨_,_,rfl⟩
 have cm:Hid (kDo F sd (qn,700000 + k3,qh,qt) 50=(R,[])):=yD O
 have ax:Hid (kGd R.2.2.1 qn sd=true):=yD af
 have cl:Hid (kGd R.2.2.1 qn f=true):=yD ap
 have cf:Hid (0 < cntI oq\/(kEw (U,(kc,xe),x2,x3,x4,x5,x6) qn sd).length=0):=yD (by have h:=ad;rw [c9] at h;exact h)
 have eh:=yD c9
 clear O af ap ad c9 bj
 clear aa ab ae ac ah ai aj am ay aq bc bb az a9 aw a8 a7 bf bh bl bn ak Y X al
 obtain ⟨aa,ab,ae,ac,ah,ai,aj,am⟩:=yz BX
 obtain ⟨ay,aq,bc,bb,az,a9,aw,a8,a7⟩:=zL BA
 obtain ⟨bf,bh,bl,bn⟩:=jZ BV
 obtain ⟨ak,Y,X,al⟩:=jZ BW
 go_wp2_with fail
 refine (kCl (cx:=[.slice du F.1.length c7,.int .i64 F.2.1.1,.slice d8 F.2.1.2.length d2,.slice eb F.2.2.1.length d3,.slice ea F.2.2.2.1.length ec,.slice ed F.2.2.2.2.1.length d6,.slice d9 F.2.2.2.2.2.1.length d7,.int .i64 F.2.2.2.2.2.2]) NO.out.rd (f:=sd) bH3 (cq:=[.slice qa qn.length qc,.int .i64 (700000 + k3),.int .i64 qh,.int .i64 qt]) VO.out.rd (t:=50) bH3 bg.out).mono ?_
 rintro e c6 ⟨cs,rfl,hO,hb⟩
 have fq:=hb.size
 obtain ⟨BX,BW⟩:=EK
 replace BA:=kC BA hb
 replace BV:=kC BV hb
 obtain ⟨XO,J,AO,NO,OO⟩:=xY
 replace VO:=yD (VO.out.below hb)
 replace o:=(tQ o hb)
 clear aa ab ae ac ah ai aj am ay aq bc bb az a9 aw a8 a7 bf bh bl bn ak Y X al
 clear hb
 rw [cm.out] at hO
 obtain ⟨d5,e1,b4,ev,be,er,bd,e3,au,en,ao,ey,ej,eu,rfl,hN,hQ⟩:=kXv hO
 have BO:=yD (hN)
 have PO:=yD (hQ)
 clear hO hN hQ
 go_upto_region 13 with fail
 generalize G:World.alloc c6 _=dm
 have D:Qb c6 dm:=tK
 have BB:Qr dm c6.heap.size #[Qs d5 R.1 e1,Qn R.2.1.1,Qs b4 R.2.1.2 ev,Qs be R.2.2.1 er,Qs bd R.2.2.2.1 e3,Qs au R.2.2.2.2.1 en,Qs ao R.2.2.2.2.2.1 ey,Qn R.2.2.2.2.2.2,.slice ej 0 eu] 43:=wW
 have fx:c6.heap.size + 1<=dm.heap.size:=bF4
 clear G
 replace BX:=kC BX D
 replace BW:=kC BW D
 replace BA:=kC BA D
 replace BV:=kC BV D
 replace XO:=yD (XO.out.below D)
 replace J:=yD (J.out.below D)
 replace AO:=yD (AO.out.below D)
 replace NO:=yD (NO.out.below D)
 replace OO:=yD (OO.out.below D)
 replace VO:=yD (VO.out.below D)
 replace BO:=yD (BO.out.below D)
 replace PO:=yD (PO.out.below D)
 replace o:=(tQ o D)
 clear D
 obtain ⟨aa,ab,ae,ac,ah,ai,aj,am⟩:=yz BX
 obtain ⟨ay,aq,bc,bb,az,a9,aw,a8,a7⟩:=zL BA
 obtain ⟨bf,bh,bl,bn⟩:=jZ BV
 obtain ⟨ak,Y,X,al⟩:=jZ BW
 have ba:Aq.wrap (50 + 1)=51:=Ap _ bH3
 go_wp2_with fail
 refine (kCl (cx:=[.slice du F.1.length c7,.int .i64 F.2.1.1,.slice d8 F.2.1.2.length d2,.slice eb F.2.2.1.length d3,.slice ea F.2.2.2.1.length ec,.slice ed F.2.2.2.2.1.length d6,.slice d9 F.2.2.2.2.2.1.length d7,.int .i64 F.2.2.2.2.2.2]) NO.out.rd (f:=sd) bH3 (cq:=[.slice qa qn.length qc,.int .i64 (700000 + k3),.int .i64 qh,.int .i64 qt]) VO.out.rd (t:=51) bH3 bg.out).mono ?_
 rintro e es ⟨cs,rfl,hO,hb⟩
 have gy:=hb.size
 obtain ⟨BX,BW⟩:=EK
 replace BA:=kC BA hb
 replace BV:=kC BV hb
 replace BB:=kC BB hb
 obtain ⟨XO,J,AO,NO,OO⟩:=xY
 replace VO:=yD (VO.out.below hb)
 replace BO:=yD (BO.out.below hb)
 replace PO:=yD (PO.out.below hb)
 replace o:=(tQ o hb)
 clear aa ab ae ac ah ai aj am ay aq bc bb az a9 aw a8 a7 bf bh bl bn ak Y X al
 clear hb
 rw [eh.out] at hO
 obtain ⟨dz,e6,em,ep,d0,ei,dq,e4,dj,eq,dt,ew,e0,el,rfl,_,hQ⟩:=kXv hO
 have CO:=yD (hQ)
 clear hO hQ eh
 go_upto_region 14 with fail
 generalize G:World.alloc es _=ek
 have ag:Qb es ek:=tK
 have BC:Qr ek es.heap.size #[Qs dz nc.1 e6,Qn nc.2.1.1,Qs em nc.2.1.2 ep,Qs d0 nc.2.2.1 ei,Qs dq nc.2.2.2.1 e4,Qs dj nc.2.2.2.2.1 eq,Qs dt nc.2.2.2.2.2.1 ew,Qn nc.2.2.2.2.2.2,Qs e0 oq el] 43:=wW
 have h8:es.heap.size + 1<=ek.heap.size:=bF4
 clear G
 replace BX:=kC BX ag
 replace BW:=kC BW ag
 replace BA:=kC BA ag
 replace BV:=kC BV ag
 replace BB:=kC BB ag
 replace XO:=yD (XO.out.below ag)
 replace J:=yD (J.out.below ag)
 replace AO:=yD (AO.out.below ag)
 replace NO:=yD (NO.out.below ag)
 replace OO:=yD (OO.out.below ag)
 replace VO:=yD (VO.out.below ag)
 replace BO:=yD (BO.out.below ag)
 replace PO:=yD (PO.out.below ag)
 replace CO:=yD (CO.out.below ag)
 replace o:=(tQ o ag)
 clear ag
 obtain ⟨bu,bp,bx,bq,bw,b1,br,b2,bz⟩:=zL BB
 go_wp2_with fail
 refine (kDb (l:=[]) PO.out.raw).mono ?_
 rintro e ee ⟨rfl,hb⟩
 have ib:=hb.size
 obtain ⟨BX,BW⟩:=EK
 obtain ⟨BA,BV,BB,BC,XO,J,AO,NO,OO,VO,BO,PO,CO,o⟩:=xH
 clear bu bp bx bq bw b1 br b2 bz
 clear hb
 have bi:(cntI []==0)=true:=rfl
 obtain ⟨bu,bp,bx,bq,bw,b1,br,b2,bz⟩:=zL BB
 obtain ⟨ak,Y,X,al⟩:=jZ BW
 go_wp2_with fail
 refine (kCc (kNk BO.out.raw) (cn:=[.slice qa qn.length qc]) (jBt J.out).rd.1 (f:=sd)).mono ?_
 rintro e fd ⟨av,hb⟩
 have I:e=.returned (.bool true):=av.trans (by rw [ax.out])
 subst I
 clear av
 have ez:=hb.size
 obtain ⟨BX,BW⟩:=EK
 obtain ⟨BA,BV,BB,BC,XO,J,AO,NO,OO,VO,BO,PO,CO,o⟩:=xH
 clear bu bp bx bq bw b1 br b2 bz ak Y X al
 clear hb
 obtain ⟨bu,bp,bx,bq,bw,b1,br,b2,bz⟩:=zL BB
 obtain ⟨ak,Y,X,al⟩:=jZ BW
 go_wp2_with fail
 refine (kCc (kNk BO.out.raw) (cn:=[.slice qa qn.length qc]) (jBt J.out).rd.1 (f:=f)).mono ?_
 rintro e gh ⟨av,hb⟩
 have I:e=.returned (.bool true):=av.trans (by rw [cl.out])
 subst I
 clear av
 have ig:=hb.size
 obtain ⟨BX,BW⟩:=EK
 obtain ⟨BA,BV,BB,BC,XO,J,AO,NO,OO,VO,BO,PO,CO,o⟩:=xH
 clear bu bp bx bq bw b1 br b2 bz ak Y X al
 clear hb
 obtain ⟨di,da,dr,dp,dc,dn,dv,cz,dk⟩:=zL BC
 go_wp2_with fail
 refine (kDb CO.out.raw).mono ?_
 rintro e gw ⟨rfl,hb⟩
 have ii:=hb.size
 obtain ⟨BX,BW⟩:=EK
 obtain ⟨BA,BV,BB,BC,XO,J,AO,NO,OO,VO,BO,PO,CO,o⟩:=xH
 clear di da dr dp dc dn dv cz dk
 clear hb
 by_cases hc0:0 < cntI oq
 · go_wp2;go_ret;exact ⟨rfl,o⟩
 have ho:=cf.out.resolve_left hc0
 obtain ⟨ol,ck⟩:∃ l,kEw (U,(kc,xe),x2,x3,x4,x5,x6) qn sd=l:=⟨_,rfl⟩
 rw [ck] at ho
 obtain rfl:ol=[]:=List.eq_nil_of_length_eq_zero ho
 have dd:=yD ck
 clear ho ck
 obtain ⟨aa,ab,ae,ac,ah,ai,aj,am⟩:=yz BX
 obtain ⟨ak,Y,X,al⟩:=jZ BW
 go_wp2_with fail
 refine (kGq (cx:=[.slice a0 U.length c0,.int .i64 kc,.slice a1 xe.length c1,.slice a2 x2.length c2,.slice a3 x3.length c3,.slice a4 x4.length c4,.slice a5 x5.length c5,.int .i64 x6]) XO.out.rd (cn:=[.slice qa qn.length qc]) (jBt J.out).rd (ex:=sd) bH3).mono ?_
 rintro e ip ⟨v,rfl,hO,hb⟩
 have i5:=hb.size
 obtain ⟨BX,BW⟩:=EK
 obtain ⟨BA,BV,BB,BC,XO,J,AO,NO,OO,VO,BO,PO,CO,o⟩:=xH
 clear aa ab ae ac ah ai aj am ak Y X al
 clear hb
 rw [dd.out] at hO
 obtain ⟨ga,gc,rfl,_⟩:=kD.sl hO.raw
 clear hO
 go_wp2
 go_ret
 exact ⟨rfl,o⟩
end Go.Proofs.YtjhfdpopkkmigabGreat
