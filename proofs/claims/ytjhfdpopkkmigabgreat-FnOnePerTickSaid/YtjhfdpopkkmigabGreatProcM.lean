/-
  What an interest brings about: impl.
-/
import Derived.Test.YtjhfdpopkkmigabGreatSameO
set_option linter.unusedVariables false
set_option linter.unusedSimpArgs false
set_option linter.unnecessarySimpa false
set_option maxRecDepth 100000
set_option maxHeartbeats 8000000
open Bool renaming true->Tt,false->Ff
namespace Go.Proofs.YtjhfdpopkkmigabGreat
open Go.RowKit _root_.Go.Proofs.Tryz
theorem kCl {w:World} {cx:List Value} {x:jd} (hx:yB.rd w cx x) {f:Int} (hf:Qi f) {cq:List Value} {q:jF} (hq:jO.rd w cq q) {t:Int} (ht:Qi t) (hB:lenN 1048576 x) :
    Calls prog 6 #[.agg cx.toArray,.int .i64 f,.agg cq.toArray,.int .i64 t] w (zo kFx (kDo x f q t) w):=by
 obtain ⟨U,⟨xc,xe⟩,x2,x3,x4,x5,x6⟩:=x
 have HX:=yD hx
 obtain ⟨q0,q1,q2,q3⟩:=q
 have HI:=yD hq
 have HF:=yD hf
 have ew:=yD ht
 obtain ⟨gb,gd,gv,gu,gs,gq,rfl,Z,ba,bq,bm,bj,bu,b2,dg,eg⟩:=yY hx.1
 obtain ⟨dx,dv,rfl,gl⟩:=kD.sl Z
 obtain ⟨dy,dw,rfl,gt⟩:=kD.sl bm
 obtain ⟨e7,e1,rfl,g8⟩:=kD.sl bj
 obtain ⟨e4,e0,rfl,hm⟩:=kD.sl bu
 obtain ⟨eu,er,rfl,hs⟩:=kD.sl b2
 obtain ⟨en,eh,rfl,hh⟩:=kD.sl dg
 obtain ⟨jt,rfl,a4,ef,fk,gp,g5⟩:=jY hq.1
 obtain ⟨d5,ed,rfl,j8⟩:=kD.sl ef
 obtain ⟨gj,ie,i3,fw,i2,b8,f7,i7⟩:=AU
 clear hx hq hf ht hB a4 ef fk gp g5
 clear Z ba bq bm bj bu b2 dg eg
 go_enter func6,ntmps6
 go_upto_region 1 with fail
 generalize G:World.alloc (World.alloc (World.alloc w _) _) _=w1
 obtain ⟨o,BX,BQ,X,bo⟩:=AC
 clear G
 obtain ⟨aa,ab,ae,ac,ah,ai,aj,am⟩:=yz BX
 go_wp2_with fail
 refine (kXh (HX.out.below o)).mono ?_
 rintro e V ⟨cs,rfl,O,hb⟩
 obtain ⟨bv,BX⟩:=J8
 replace BQ:=kC BQ hb
 obtain ⟨X,o⟩:=FH
 clear aa ab ae ac ah ai aj am
 clear hb
 obtain ⟨h3,ih,iz,iw,iu,ir,rfl,fi,fd,fy,fh,e6,fz,f0,f6,gm⟩:=yY O.raw
 obtain ⟨bf,bg,rfl,h0⟩:=kD.sl fi
 obtain ⟨cl,cw,rfl,im⟩:=kD.sl fh
 obtain ⟨dq,dt,rfl,iv⟩:=kD.sl e6
 obtain ⟨de,dd,rfl,i0⟩:=kD.sl fz
 obtain ⟨cd,cf,rfl,it⟩:=kD.sl f0
 obtain ⟨cg,ch,rfl,iq⟩:=kD.sl f6
 clear fi fd fy fh e6 fz f0 f6 gm
 go_upto_region 2 with fail
 have I:=yD O
 clear O
 replace I:=yD (I.out.wide (T:=(λj=>w.heap.size + 3<=j/\j < V.heap.size/\j≠V.heap.size)) gG)
 generalize G:World.alloc V _=w3
 have ad:Qb V w3:=tK
 have BO:Qr w3 V.heap.size #[Qs bf U bg,Qn xc,Qs cl xe cw,Qs dq x2 dt,Qs de x3 dd,Qs cd x4 cf,Qs cg x5 ch,Qn x6,.slice none 0 0] 43:=wW
 have bt:V.heap.size + 1<=w3.heap.size:=bF4
 clear G
 replace BX:=kC BX ad
 replace BQ:=kC BQ ad
 obtain ⟨X,I,o⟩:=BI
 clear ad
 obtain ⟨aa,ab,ae,ac,ah,ai,aj,am⟩:=yz BX
 obtain ⟨ag,ap,ar,aq⟩:=jZ BQ
 go_upto_region 2 with fail
 have FX:=yD (λ(W:World) (hW:Qb w3 W)=>kIy hW ac ah ag ap ar aq)
 refine kr (λW=>Qb w3 W) [Tt,Ff,Tt,Tt,Tt,Ff,Tt,Tt,Tt,Tt,Tt,Tt,Tt,Tt,Ff,Tt] bR ?_
 intro wS E
 all_goals refine ky ?_
 all_goals first | refine wkB (kDl (HI.out.1.below (tQ o E))) (λwS1 E=>?_) | refine ky ?_
 all_goals refine ky ?_
 all_goals (refine jy λb bh=>?_;cases b <;> try simp only [jw] at bh)
 all_goals refine ky ?_
 all_goals first | refine wkC (kBj) ?_ | refine ky ?_
 all_goals refine ky ?_
 all_goals refine ky ?_
 all_goals (refine jy λb ck=>?_;cases b <;> try simp only [jw] at ck)
 iterate 5
  all_goals refine ky ?_
 all_goals first | refine wkB (jBu (gj.out.below (tQ o E)) (ie.out.below (tQ o E)) (HI.out.below (tQ o E))) (λwS1 E=>?_) | refine ky ?_
 all_goals (refine jy λb cz=>?_;cases b <;> try simp only [jw] at cz)
 all_goals refine kS ?_
 all_goals rename World=>w4
 all_goals have b5:=E.size
 all_goals replace BX:=kC BX E
 all_goals replace BQ:=kC BQ E
 all_goals replace X:=kC X E
 all_goals replace BO:=kC BO E
 all_goals replace I:=yD (I.out.below E)
 all_goals replace o:=(tQ o E)
 all_goals clear aa ab ae ac ah ai aj am ag ap ar aq
 all_goals clear E
 all_goals first
   | (have L := yD (kWf (t := t) (show kAr (U, (xc, xe), x2, x3, x4, x5, x6) f (q0, q1, q2, q3) = true by simp only [kAr, Bool.not_true, Bool.not_false, Bool.and_true, Bool.true_and, Bool.and_false, Bool.false_and, Bool.or_true, Bool.true_or, Bool.or_false, Bool.false_or, Bool.not_not, bh, ck, cz]))
      obtain ⟨N,J,ak,af,ax,a2,a1,a3,a5⟩:=zL BO
      obtain ⟨ay,az,a6,a7,bc,bn,bl,bk,bp⟩:=kBu BO
      go_upto_region 4 with fail
      generalize fr:wrap64 (x6 + 1)=y6
      obtain ⟨g7,b7⟩:=IM
      clear fr
      generalize G:World.setCell w4 _ _=w5
      have cm:Touch (λk=>k=V.heap.size) w4 w5:=bB2
      replace BO:Qr w5 V.heap.size #[Qs bf U bg,Qn xc,Qs cl xe cw,Qs dq x2 dt,Qs de x3 dd,Qs cd x4 cf,Qs cg x5 ch,Qn y6,.slice none 0 0] 43:=wP
      have b3:=cm.size
      clear G
      replace BX:=cm.kC BX bH3
      replace BQ:=cm.kC BQ bH3
      replace X:=cm.kC X bH3
      replace I:=yD (I.out.touch cm qW)
      replace o:=o.trans (cm.below o.size bD5)
      clear N J ak af ax a2 a1 a3 a5 ay az a6 a7 bc bn bl bk bp
      clear cm
      replace I:=yD (kKm I.out g7.out)
      obtain ⟨N,J,ak,af,ax,a2,a1,a3,a5⟩:=zL BO
      obtain ⟨au,aw,be,bd,bz,da,c9,df,db⟩:=zL X
      obtain ⟨ao,an,a9,bb,br,c4,c7,c5,c8⟩:=kBu X
      go_wp2
      refine bodyPost_ret (v:=.agg #[Qs bf U bg,Qn xc,Qs cl xe cw,Qs dq x2 dt,Qs de x3 dd,Qs cd x4 cf,Qs cg x5 ch,Qn y6,.slice none 0 0]) dD rfl ⟨[Qs bf U bg,Qn xc,Qs cl xe cw,Qs dq x2 dt,Qs de x3 dd,Qs cd x4 cf,Qs cg x5 ch,Qn y6,.slice none 0 0],rfl,?_,?_⟩
      · rw [L.out,b7.out];exact kKx (B:=λ_=>False) (I.out.touch sT9 tC) kD.jm fF (λ_ h=>h.elim) (λ_ _ h=>h)
      · exact o.trans (Touch.below sT9 o.size bD5))
   | skip
 have fg:=yD (show kAr (U,(xc,xe),x2,x3,x4,x5,x6) f (q0,q1,q2,q3)=false by simp only [kAr,Bool.not_true,Bool.not_false,Bool.and_true,Bool.true_and,Bool.and_false,Bool.false_and,Bool.or_true,Bool.true_or,Bool.or_false,Bool.false_or,Bool.not_not,bh,ck,cz])
 clear bh ck cz
 obtain ⟨aa,ab,ae,ac,ah,ai,aj,am⟩:=yz BX
 obtain ⟨ag,ap,ar,aq⟩:=jZ BQ
 go_wp2_with fail
 refine (kXg (HX.out.below o) (cn:=[.slice d5 q0.length ed]) (fw.out.below o) ew.out).mono ?_
 rintro e w5 ⟨ds,rfl,Od,hb⟩
 have b3:=hb.size
 obtain ⟨BX,BQ,X,BO⟩:=xM
 obtain ⟨I,o⟩:=xV
 clear aa ab ae ac ah ai aj am ag ap ar aq
 clear hb
 obtain ⟨D,hD⟩:∃ D,fdD q0 t (U,(xc,xe),x2,x3,x4,x5,x6)=D:=⟨_,rfl⟩
 rw [hD] at Od
 have HD:=yD hD
 clear hD
 obtain ⟨d0,d1,d2,d3,d4⟩:=D
 obtain ⟨jx,jp,js,rfl,fl,d8,d7,fv,d9,fu,fn⟩:=jX Od.raw
 obtain ⟨g1,g6,rfl,jn⟩:=kD.sl d8
 obtain ⟨hr,g9,rfl,j0⟩:=kD.sl d7
 obtain ⟨hp,hn,rfl,jz⟩:=kD.sl d9
 clear fl d8 d7 fv d9 fu fn
 have ey:=yD (Od)
 clear Od
 go_upto_region 6 with fail
 generalize G:World.alloc w5 _=w6
 obtain ⟨av,BF,dh⟩:=J3
 clear G
 replace BX:=kC BX av
 replace BQ:=kC BQ av
 replace X:=kC X av
 replace BO:=kC BO av
 replace I:=yD (I.out.below av)
 replace ey:=yD (ey.out.below av)
 replace o:=(tQ o av)
 clear av
 cases gz:kJr q0 t (U,(xc,xe),x2,x3,x4,x5,x6)
 · clear ey BF;obtain ⟨aa,ab,ae,ac,ah,ai,aj,am⟩:=yz BX;obtain ⟨ag,ap,ar,aq⟩:=jZ BQ;go_wp2_with fail;refine (kPh (gj.out.below o) b8.out (HI.out.below o) HF.out ew.out).mono ?_;rintro e w7 ⟨v4,rfl,O4,hb⟩;have et:=hb.size;obtain ⟨BX,BQ,X,BO⟩:=xM;obtain ⟨I,o⟩:=xV;clear aa ab ae ac ah ai aj am ag ap ar aq;clear hb;obtain ⟨P,hP⟩:∃ P,kBk (q0,q1,q2,q3) f t x2=P:=⟨_,rfl⟩;rw [hP] at O4;have HP:=yD hP;clear hP;obtain ⟨pa,pc,rfl,_⟩:=kD.sl O4.raw;cases h5:yH (q0,q1,q2,q3) f x2
   · have L:=yD (kSb (t:=t) fg.out gz h5);obtain ⟨N,J,ak,af,ax,a2,a1,a3,a5⟩:=zL BO;obtain ⟨ay,az,a6,a7,bc,bn,bl,bk,bp⟩:=kBu BO;go_upto_region 14 with fail;generalize fr:wrap64 (x6 + 1)=y6;obtain ⟨g7,b7⟩:=IM;clear fr;generalize G:World.setCell w7 _ _=w8;have a8:Touch (λk=>k=V.heap.size) w7 w8:=bB2;replace BO:Qr w8 V.heap.size #[Qs bf U bg,Qn xc,Qs cl xe cw,Qs dq x2 dt,Qs de x3 dd,Qs cd x4 cf,Qs cg x5 ch,Qn y6,.slice none 0 0] 43:=wP;have eo:=a8.size;clear G;obtain ⟨BX,BQ,X⟩:=EX;replace I:=yD (I.out.touch a8 qW);replace o:=o.trans (a8.below o.size bD5);clear N J ak af ax a2 a1 a3 a5 ay az a6 a7 bc bn bl bk bp;clear a8;replace I:=yD (kKm I.out g7.out);obtain ⟨N,J,ak,af,ax,a2,a1,a3,a5⟩:=zL BO;obtain ⟨au,aw,be,bd,bz,da,c9,df,db⟩:=zL X;obtain ⟨ao,an,a9,bb,br,c4,c7,c5,c8⟩:=kBu X;go_wp2;refine bodyPost_ret (v:=.agg #[Qs bf U bg,Qn xc,Qs cl xe cw,Qs dq x2 dt,Qs de x3 dd,Qs cd x4 cf,Qs cg x5 ch,Qn y6,.slice none 0 0]) dD rfl ⟨[Qs bf U bg,Qn xc,Qs cl xe cw,Qs dq x2 dt,Qs de x3 dd,Qs cd x4 cf,Qs cg x5 ch,Qn y6,.slice none 0 0],rfl,?_,?_⟩
     · rw [L.out,b7.out];exact kKx (B:=λ_=>False) (I.out.touch sT9 tC) kD.jm fF (λ_ h=>h.elim) (λ_ _ h=>h)
     exact o.trans (Touch.below sT9 o.size bD5)
   have R:=yD ((kEy I.out O4 pW).wide (T:=(λj=>w.heap.size + 3<=j/\j < w7.heap.size/\j≠V.heap.size)) dA);clear I O4;obtain ⟨N,J,ak,af,ax,a2,a1,a3,a5⟩:=zL BO;obtain ⟨ay,az,a6,a7,bc,bn,bl,bk,bp⟩:=kBu BO;go_upto_region 16 with fail;generalize G:World.setCell w7 _ _=w8;have a8:Touch (λk=>k=V.heap.size) w7 w8:=bB2;replace BO:Qr w8 V.heap.size #[Qs bf U bg,Qn xc,Qs cl xe cw,Qs pa P pc,Qs de x3 dd,Qs cd x4 cf,Qs cg x5 ch,Qn x6,.slice none 0 0] 43:=wK;have eo:=a8.size;clear G;obtain ⟨BX,BQ,X⟩:=EX;obtain ⟨R,o⟩:=JC;clear N J ak af ax a2 a1 a3 a5 ay az a6 a7 bc bn bl bk bp;clear a8;have I:=yD (R.out.wide (T:=(λj=>w.heap.size + 3<=j/\j < w8.heap.size/\j≠V.heap.size)) vH);clear R;obtain ⟨ag,ap,ar,aq⟩:=jZ BQ;go_wp2_with fail;refine (kNw (HI.out.below o)).mono ?_;rintro e w9 ⟨yc,rfl,Oy,hb⟩;have e9:=hb.size;obtain ⟨BX,BQ,X,BO⟩:=xM;obtain ⟨I,o⟩:=xV;clear ag ap ar aq;clear hb;obtain ⟨Y,hY⟩:∃ Y,kQy (q0,q1,q2,q3)=Y:=⟨_,rfl⟩;rw [hY] at Oy;have i9:=yD hY;clear hY;obtain ⟨y0,y1,y2,y3⟩:=Y;obtain ⟨h9,rfl,ff,e3,f3,f8,ia⟩:=jY Oy.raw;obtain ⟨f4,f5,rfl,ju⟩:=kD.sl e3;clear ff e3 f3 f8 ia;have HY:=yD (Oy);clear Oy;go_upto_region 17 with fail;generalize G:World.alloc w9 _=b9;have ez:Qb w9 b9:=tK;have BY:Qr b9 w9.heap.size #[Qs f4 y0 f5,Qn y1,Qn y2,Qn y3] 38:=wW;have e5:w9.heap.size + 1<=b9.heap.size:=bF4;clear G;replace BX:=kC BX ez;replace BQ:=kC BQ ez;replace X:=kC X ez;replace BO:=kC BO ez;replace I:=yD (I.out.below ez);replace HY:=yD (HY.out.below ez);replace o:=(tQ o ez);clear ez;obtain ⟨aa,ab,ae,ac,ah,ai,aj,am⟩:=yz BX;obtain ⟨ag,ap,ar,aq⟩:=jZ BQ;go_wp2_with fail;refine (kGq (HX.out.below o) (cn:=[.slice d5 q0.length ed]) (fw.out.below o) HF.out).mono ?_;rintro e c6 ⟨vf,rfl,Of,hb⟩;have fq:=hb.size;obtain ⟨BX,BQ,X,BO⟩:=xM;obtain ⟨BY,I,HY⟩:=FK;replace o:=(tQ o hb);clear aa ab ae ac ah ai aj am ag ap ar aq;clear hb;have gf:=kQk (x:=(U,(xc,xe),x2,x3,x4,x5,x6)) (n:=q0) (ex:=f);obtain ⟨fs,hu⟩:∃ fs,kEw (U,(xc,xe),x2,x3,x4,x5,x6) q0 f=fs:=⟨_,rfl⟩;rw [hu] at Of gf;have el:=yD hu;clear hu;replace gf:fs.length<=x4.length:=gf;obtain ⟨fa,fc,rfl,_⟩:=kD.sl Of.raw;have eq:=yD (Of);clear Of;obtain ⟨aa,ab,ae,ac,ah,ai,aj,am⟩:=yz BX;obtain ⟨ag,ap,ar,aq⟩:=jZ BQ;generalize f1:kIg (q0,q1,q2,q3)=ok;have hc:=yD f1;clear f1;go_upto_region 18 with fail;have FX:=yD (λ(W:World) (hW:Qb c6 W)=>kIz hW ac ag);refine kr (λW=>Qb c6 W) [Tt,Tt,Tt,Tt,Ff,Tt,Tt,Tt,Tt,Tt,Tt,Ff,Tt,Tt,Tt,Tt,Tt,Tt,Tt,Tt,Tt,Tt,Tt] bR ?_;intro wS E;iterate 4
    all_goals refine ky ?_
   all_goals first | refine wkB (kSn (gj.out.1.below (tQ o E)) (cn:=[.slice d5 q0.length ed]) (fw.out.1.below (tQ o E))) (λwS1 E=>?_) | refine ky ?_
   all_goals (refine jy λb c3=>?_;cases b <;> try simp only [jw] at c3)
   iterate 5
    all_goals refine ky ?_
   all_goals first | refine wkB (kSm (gj.out.1.below (tQ o E)) (cn:=[.slice d5 q0.length ed]) (fw.out.1.below (tQ o E))) (λwS1 E=>?_) | refine ky ?_
   all_goals refine ky ?_
   all_goals refine ky ?_
   all_goals (refine jy λb d6=>?_;cases b <;> try simp only [jw] at d6)
   iterate 3
    all_goals refine ky ?_
   all_goals (refine jy λb dr=>?_;cases b <;> try simp only [jw] at dr)
   iterate 3
    all_goals refine ky ?_
   all_goals (refine jy λb dz=>?_;cases b <;> try simp only [jw] at dz)
   all_goals refine kS ?_
   all_goals rename World=>dm
   all_goals have fx:=E.size
   all_goals replace BX:=kC BX E
   all_goals replace BQ:=kC BQ E
   all_goals replace X:=kC X E
   all_goals replace BO:=kC BO E
   all_goals replace BY:=kC BY E
   all_goals replace I:=yD (I.out.below E)
   all_goals replace HY:=yD (HY.out.below E)
   all_goals replace eq:=yD (eq.out.below E)
   all_goals replace o:=(tQ o E)
   all_goals clear aa ab ae ac ah ai aj am ag ap ar aq
   all_goals clear E
   all_goals first
     | (have L := yD (kKh fg.out gz h5 (show yj (U, (xc, xe), x2, x3, x4, x5, x6) f (q0, q1, q2, q3) t = true by simp only [yj, hc.out, el.out, Bool.not_true, Bool.not_false, Bool.and_true, Bool.true_and, Bool.and_false, Bool.false_and, Bool.or_true, Bool.true_or, Bool.or_false, Bool.false_or, Bool.not_not, c3, d6, dr, dz]))
        obtain ⟨N,J,ak,af,ax,a2,a1,a3,a5⟩:=zL BO
        obtain ⟨au,aw,be,bd,bz,da,c9,df,db⟩:=zL X
        obtain ⟨ao,an,a9,bb,br,c4,c7,c5,c8⟩:=kBu X
        go_wp2
        refine bodyPost_ret (v:=.agg #[Qs bf U bg,Qn xc,Qs cl xe cw,Qs pa P pc,Qs de x3 dd,Qs cd x4 cf,Qs cg x5 ch,Qn x6,.slice none 0 0]) dD rfl ⟨[Qs bf U bg,Qn xc,Qs cl xe cw,Qs pa P pc,Qs de x3 dd,Qs cd x4 cf,Qs cg x5 ch,Qn x6,.slice none 0 0],rfl,?_,?_⟩
        · rw [L.out];simp only [HP.out];exact kKx (B:=λ_=>False) (I.out.touch sT9 tC) kD.jm fF (λ_ h=>h.elim) (λ_ _ h=>h)
        · exact o.trans (Touch.below sT9 o.size bD5))
     | skip
   all_goals
     (have ho:=yD (show yj (U,(xc,xe),x2,x3,x4,x5,x6) f (q0,q1,q2,q3) t=false by simp only [yj,hc.out,el.out,Bool.not_true,Bool.not_false,Bool.and_true,Bool.true_and,Bool.and_false,Bool.false_and,Bool.or_true,Bool.true_or,Bool.or_false,Bool.false_or,Bool.not_not,c3,d6,dr,dz])
      have L:=yD (kNh fg.out gz h5 ho.out)
      clear c3 d6 dr dz
      obtain ⟨ag,ap,ar,aq⟩:=jZ BQ
      go_wp2_with fail
      refine (kXf (kWq I.out.rd) (cn:=[.slice d5 q0.length ed]) (fw.out.below o) ew.out).mono ?_
      rintro e es ⟨v6,rfl,O6,hb⟩
      have gy:=hb.size
      obtain ⟨BX,BQ,X,BO⟩:=xM
      obtain ⟨BY,I,HY⟩:=FK
      replace eq:=yD (eq.out.below hb)
      replace o:=(tQ o hb)
      clear ag ap ar aq
      clear hb
      obtain ⟨P2,h7⟩:∃ P2,kCe q0 t P=P2:=⟨_,rfl⟩
      rw [h7] at O6
      have hw:=yD h7
      clear h7
      obtain ⟨ra,rc,rfl,_⟩:=kD.sl O6.raw
      have R:=yD ((kEy I.out O6 pW).wide (T:=(λj=>w.heap.size + 3<=j/\j < es.heap.size/\j≠V.heap.size)) dA)
      clear I O6
      obtain ⟨N,J,ak,af,ax,a2,a1,a3,a5⟩:=zL BO
      obtain ⟨ay,az,a6,a7,bc,bn,bl,bk,bp⟩:=kBu BO
      go_upto_region 21 with fail
      generalize G:World.setCell es _ _=ek
      have cc:Touch (λk=>k=V.heap.size) es ek:=bB2
      replace BO:Qr ek V.heap.size #[Qs bf U bg,Qn xc,Qs cl xe cw,Qs ra P2 rc,Qs de x3 dd,Qs cd x4 cf,Qs cg x5 ch,Qn x6,.slice none 0 0] 43:=wK
      have h8:=cc.size
      clear G
      replace BX:=cc.kC BX bH3
      replace BQ:=cc.kC BQ bH3
      replace X:=cc.kC X bH3
      replace BY:=cc.kC BY bH3
      replace HY:=yD (HY.out.touch cc qW)
      replace eq:=yD (eq.out.touch cc qW)
      replace R:=yD (R.out.touch cc qW)
      replace o:=o.trans (cc.below o.size bD5)
      clear N J ak af ax a2 a1 a3 a5 ay az a6 a7 bc bn bl bk bp
      clear cc
      have I:=yD (R.out.wide (T:=(λj=>w.heap.size + 3<=j/\j < ek.heap.size/\j≠V.heap.size)) vH)
      clear R
      obtain ⟨aa,ab,ae,ac,ah,ai,aj,am⟩:=yz BX
      obtain ⟨ag,ap,ar,aq⟩:=jZ BQ
      go_wp2_with fail
      refine (kKq (gj.out.below o) (cn:=[.slice d5 q0.length ed]) (fw.out.below o) HF.out).mono ?_
      rintro e ee ⟨rfl,hb⟩
      have ib:=hb.size
      obtain ⟨BX,BQ,X,BO⟩:=xM
      replace BY:=kC BY hb
      replace HY:=yD (HY.out.below hb)
      replace eq:=yD (eq.out.below hb)
      obtain ⟨I,o⟩:=xV
      clear aa ab ae ac ah ai aj am ag ap ar aq
      clear hb
      obtain ⟨kn,du⟩:∃ b,kGd x2 q0 f=b:=⟨_,rfl⟩
      rw [du]
      have ei:=yD du
      clear du
      have hj:0 < fs.length:=cB
      obtain ⟨F,hF⟩:∃ F,kEi (U,(xc,xe),x2,x3,x4,x5,x6) f (q0,q1,q2,q3)=F:=⟨_,rfl⟩
      have i4:=yD hF
      have gx:Hid (F=if kn then fs else fs.take 1):=yD bG
      clear hF
      have b0:=(kD.kCt eq.out.raw).1
      have dp:1<=fc:=bH3
      have fj:(1:Int)<=fc:=bH3
      have g3:¬ fc < 1:=bH3
      have i6:¬ fc=0:=bH3
      clear b0
      obtain ⟨fm,il⟩:=jAe gx.out hj eq.out.raw
      have jj:=yD il
      clear il
      have j9:=jAg gx.out
      obtain ⟨_,fb,fo,rfl,gg,j3⟩:=kD.kGf eq.out hj
      have j1:=gg.1
      have j2:=gg.2
      clear gg
      replace I:=yD (I.out.wide (T:=(λj=>w.heap.size + 3<=j/\j < ee.heap.size/\j≠V.heap.size)) qQ)
      replace HY:=yD (HY.out.wide (T:=(λj=>w.heap.size + 3<=j/\j < ee.heap.size/\j≠V.heap.size)) gI)
      clear eq BX BQ
      cases kn
      all_goals
        (go_wp2
         go_loopw [149] (λi wr=>∃ (k:Nat) (ga:Option Addr) (gn gc:Nat),i=.int .i64 k/\k<=F.length/\Hid (kD.kQ 76 zg wr (.slice ga gn gc) ((F.take k).map (kMc (y0,y1,y2,y3))) (λj=>ee.heap.size<=j/\j < wr.heap.size))/\Hid (yB.own wr [Qs bf U bg,Qn xc,Qs cl xe cw,Qs ra P2 rc,Qs de x3 dd,Qs cd x4 cf,Qs cg x5 ch,Qn x6] (U,(xc,xe),P2,x3,x4,x5,x6) (λj=>w.heap.size + 3<=j/\j < ee.heap.size/\j≠V.heap.size))/\Hid (jO.own wr [Qs f4 y0 f5,Qn y1,Qn y2,Qn y3] (y0,y1,y2,y3) (λj=>w.heap.size + 3<=j/\j < ee.heap.size/\j≠V.heap.size))/\Qr wr (w.heap.size + 2) #[.slice none 0 0,Qn 0,.slice none 0 0,.slice none 0 0,.slice none 0 0,.slice none 0 0,.slice none 0 0,Qn 0,.slice none 0 0] 43/\Qr wr V.heap.size #[Qs bf U bg,Qn xc,Qs cl xe cw,Qs ra P2 rc,Qs de x3 dd,Qs cd x4 cf,Qs cg x5 ch,Qn x6,.slice ga gn gc] 43/\Qr wr w9.heap.size #[Qs f4 y0 f5,Qn y1,Qn y2,Qn y3] 38/\Touch (λj=>j=V.heap.size\/ee.heap.size<=j) ee wr/\Qb w wr) (λi _=>F.length - (intOf i).toNat)
         case atStart=>exact ⟨0,none,0,0,rfl,Nat.zero_le _,yD kD.kQ.void,I,HY,X,BO,BY,Touch.of_below bR,o⟩
         case round =>
           rename World=>wq;clear I HY X BO BY o;obtain ⟨k,ga,gn,gc,rfl,hk,HQ,I,HY,X,BO,BY,TL,o⟩:=hrel;have ce:=Int.natCast_nonneg k;have iy:=TL.size;have f9:((F.take k).map (kMc (y0,y1,y2,y3))).length<=k:=bG7;by_cases hlt:k < F.length
           · obtain ⟨ka,j6,g4,g0,gr,G0⟩:=kD.kCu jj.out hlt rfl;simp only [Option.some.injEq,Addr.mk.injEq,and_true] at g4;obtain ⟨rfl,rfl⟩:=g4;obtain ⟨ge,io⟩:=kD.je gr;obtain rfl:g0=_:=by simpa using ge
             have bx:=List.take_succ_eq_append_getElem hlt;generalize F[k]=g at *;have b4:=yD bx;have i1:Hid (Qi g):=yD io;clear bx io ge gr;have G1:=TL.kIh G0 bH3;clear G0;have dl:(k:Int) < fs.length:=bH3;try have fe:(k:Int) < 1:=by have:=jAf gx.out hj;omega
             obtain ⟨N,J,ak,af,ax,a2,a1,a3,a5⟩:=zL BO;obtain ⟨c1,dk,dj,dn⟩:=jZ BY;go_upto_region 26 with fail;have FX:=yD (λ(W:World) (hW:Qb wq W)=>cLs5 hW a5 c1 dk dj dn);refine zM (λW=>Qb wq W) [Tt,Tt,Tt,Tt,Ff,Tt,Ff] bG6 bG6 qY (bR.drew) ?_;intro wS E;iterate 4
              all_goals refine ky ?_
             all_goals first|(refine kJ rfl E ?_)|(refine kw rfl (λK H=>?_);go_simp;refine (kHo (HY.out.rd.below E)).mono ?_;rintro e wT ⟨tc,rfl,O,al⟩;obtain ⟨fp,rfl,b6,eb,ej,ft,em⟩:=jY O.raw;obtain ⟨bi,cv,rfl,ha⟩:=kD.sl eb;clear b6 eb ej ft em;have HC:=yD O;have jk:=al.size;have f2:=E.size;replace E:=(tQ E al);refine H _ _ E ?_;clear H K al O)
             all_goals refine jG ?_
             all_goals refine ky ?_
             all_goals first|(refine kJ rfl E ?_)|(refine kw rfl (λK H=>?_);go_simp;refine H _ _ (E.alloc E.size _) ?_;clear H K)
             all_goals refine jG ?_
             all_goals refine yG ?_
             go_wp2_with (at_builtin;refine kD.kBy rfl _ _ 41 rfl (r:=zg) (e:=76) underlying41 kMp rfl bH2 bH2 (w:=wT) (HQ.out.below E) bH5 bH5 rfl (out2_own i1.out HC.out) rfl qJ bH3 ?_);intro v2 gh hQ di;have hT:Touch (λj=>ee.heap.size<=j) wq gh:=(Touch.of_below (E.alloc E.size _)).trans (di.wide (λj q=>by have:=q.2;omega));have ig:=hT.size;have gi:=di.size;have ic:wT.heap.size + 1<=gh.heap.size:=bF3;clear di gi G1 E;obtain ⟨g2,n2,c2,rfl⟩:∃ a n c,v2=.slice a n c:=pQ;clear HQ;have HQ:=yD ((kD.kQ.cast hQ (show _=(F.take (k + 1)).map (kMc (y0,y1,y2,y3)) by rw [b4.out,List.map_append,List.map_take];rfl)).wide (T:=λj=>ee.heap.size<=j/\j < gh.heap.size) gJ);clear hQ;obtain ⟨TL,X,BO,BY,I,HY,o⟩:=H5;clear N J ak af ax a2 a1 a3 a5 c1 dk dj dn;clear hT HC;obtain ⟨N,J,ak,af,ax,a2,a1,a3,a5⟩:=zL BO;obtain ⟨ay,az,a6,a7,bc,bn,bl,bk,bp⟩:=kBu BO;go_wp2;generalize G:World.setCell gh _ _=gw;have co:Touch (λk=>k=V.heap.size) gh gw:=bB2;replace BO:Qr gw V.heap.size #[Qs bf U bg,Qn xc,Qs cl xe cw,Qs ra P2 rc,Qs de x3 dd,Qs cd x4 cf,Qs cg x5 ch,Qn x6,.slice g2 n2 c2] 43:=wM;have ii:=co.size;clear G;replace TL:=TL.trans (co.wide (λj q=>.inl q));replace X:=co.kC X bH3;replace BY:=co.kC BY bH3;replace I:=yD (I.out.touch co qW);replace HY:=yD (HY.out.touch co qW);replace HQ:=yD (HQ.out.touch co qW);replace o:=o.trans (co.below o.size bD5);clear N J ak af ax a2 a1 a3 a5 ay az a6 a7 bc bn bl bk bp;clear co;replace HQ:=yD (HQ.out.wide (T:=λj=>ee.heap.size<=j/\j < gw.heap.size) (λj q=>⟨q.1,by omega⟩));go_wp2;go_roundw;case rel=>exact ⟨k + 1,g2,n2,c2,by go_num,by omega,HQ,I,HY,X,BO,BY,TL,o⟩
             case measure=>simp [intOf];omega
           · obtain rfl:k=F.length:=bH3;replace HQ:=yD (kD.kQ.cast HQ.out (show _=F.map (kMc (y0,y1,y2,y3)) by rw [List.take_length]));first|(have fe:¬ ((F.length:Int) < 1):=by have:=jAf gx.out hj;omega)|(have fe:¬ ((F.length:Int) < fs.length):=by rw [show F=fs from gx.out];omega)
             obtain ⟨N,J,ak,af,ax,a2,a1,a3,a5⟩:=zL BO;obtain ⟨au,aw,be,bd,bz,da,c9,df,db⟩:=zL X;obtain ⟨ao,an,a9,bb,br,c4,c7,c5,c8⟩:=kBu X;go_wp2;refine bodyPost_ret (v:=.agg #[Qs bf U bg,Qn xc,Qs cl xe cw,Qs ra P2 rc,Qs de x3 dd,Qs cd x4 cf,Qs cg x5 ch,Qn x6,.slice ga gn gc]) dD rfl ⟨[Qs bf U bg,Qn xc,Qs cl xe cw,Qs ra P2 rc,Qs de x3 dd,Qs cd x4 cf,Qs cg x5 ch,Qn x6,.slice ga gn gc],rfl,?_,?_⟩
             · rw [L.out];simp only [HP.out,hw.out,i4.out,i9.out];exact kKx (I.out.touch sT9 tC) ((HQ.out.touch sT9 tC).own bA1) fF fP qV
             · exact o.trans (Touch.below sT9 o.size bD5)))
 have L:=yD (kPd (t:=t) fg.out gz)
 have j7:Hid (w4.heap.size<=w6.heap.size):=yD bH3
 obtain ⟨aa,ab,ae,ac,ah,ai,aj,am⟩:=yz BX
 obtain ⟨ag,ap,ar,aq⟩:=jZ BQ
 go_wp2_with fail
 refine (implTouch_c (i3.out.below o) (cn:=[.slice d5 q0.length ed]) (fw.out.below o) ew.out).mono ?_
 rintro e w7 ⟨ec,rfl,Oe,hb⟩
 have et:=hb.size
 obtain ⟨BX,BQ,X,BO⟩:=xM
 replace BF:=kC BF hb
 replace I:=yD (I.out.below hb)
 replace ey:=yD (ey.out.below hb)
 replace o:=(tQ o hb)
 clear aa ab ae ac ah ai aj am ag ap ar aq
 clear hb
 obtain ⟨ev,he⟩:∃ ev,kGl q0 t (xc,xe)=(xc,ev):=⟨_,rfl⟩
 rw [he] at Oe
 have HE:=yD he
 clear he
 obtain ⟨sv,rfl,e8,ij⟩:=jN Oe.raw
 obtain ⟨ea,ep,rfl,_⟩:=kD.sl ij
 clear e8 ij
 have R:=yD ((kIu I.out Oe pW).wide (T:=(λj=>w.heap.size + 3<=j/\j < w7.heap.size/\j≠V.heap.size/\¬ (w4.heap.size<=j/\j < w5.heap.size))) bK)
 clear I Oe
 obtain ⟨N,J,ak,af,ax,a2,a1,a3,a5⟩:=zL BO
 obtain ⟨ay,az,a6,a7,bc,bn,bl,bk,bp⟩:=kBu BO
 go_upto_region 8 with fail
 generalize G:World.setCell (World.setCell w7 _ _) _ _=w8
 have a8:Touch (λk=>k=V.heap.size) w7 w8:=bB8
 replace BO:Qr w8 V.heap.size #[Qs bf U bg,Qn xc,Qs ea ev ep,Qs dq x2 dt,Qs de x3 dd,Qs cd x4 cf,Qs cg x5 ch,Qn x6,.slice none 0 0] 43:=by rw [<- G];exact kI (kI (BO) 1) 2
 have eo:=a8.size
 clear G
 obtain ⟨BX,BQ,X⟩:=EX
 replace BF:=a8.kC BF bH3
 replace ey:=yD (ey.out.touch a8 qW)
 obtain ⟨R,o⟩:=JC
 clear N J ak af ax a2 a1 a3 a5 ay az a6 a7 bc bn bl bk bp
 clear a8
 have I:=yD (R.out.wide (T:=(λj=>w.heap.size + 3<=j/\j < w8.heap.size/\j≠V.heap.size/\¬ (w4.heap.size<=j/\j < w5.heap.size))) vH)
 clear R
 obtain ⟨aa,ab,ae,ac,ah,ai,aj,am⟩:=yz BX
 obtain ⟨ag,ap,ar,aq⟩:=jZ BQ
 go_wp2_with fail
 refine (kPg (ie.out.below o) f7 (cn:=[.slice d5 q0.length ed]) (fw.out.below o) i2.out).mono ?_
 rintro e w9 ⟨v9,rfl,O9,hb⟩
 have e9:=hb.size
 obtain ⟨BX,BQ,X,BO⟩:=xM
 replace BF:=kC BF hb
 replace ey:=yD (ey.out.below hb)
 obtain ⟨I,o⟩:=xV
 clear aa ab ae ac ah ai aj am ag ap ar aq
 clear hb
 obtain ⟨sn,bx⟩:∃ s,kAu x3 q0 q1=s:=⟨_,rfl⟩
 rw [bx] at O9
 have b4:=yD bx
 clear bx
 obtain ⟨sa,sc,rfl,_⟩:=kD.sl O9.raw
 have R:=yD ((kKl I.out O9 pW).wide (T:=(λj=>w.heap.size + 3<=j/\j < w9.heap.size/\j≠V.heap.size/\¬ (w4.heap.size<=j/\j < w5.heap.size))) bO)
 clear I O9
 obtain ⟨N,J,ak,af,ax,a2,a1,a3,a5⟩:=zL BO
 obtain ⟨ay,az,a6,a7,bc,bn,bl,bk,bp⟩:=kBu BO
 go_upto_region 9 with fail
 generalize G:World.setCell w9 _ _=b9
 have bw:Touch (λk=>k=V.heap.size) w9 b9:=bB2
 replace BO:Qr b9 V.heap.size #[Qs bf U bg,Qn xc,Qs ea ev ep,Qs dq x2 dt,Qs sa sn sc,Qs cd x4 cf,Qs cg x5 ch,Qn x6,.slice none 0 0] 43:=wR
 have e5:=bw.size
 clear G
 replace BX:=bw.kC BX bH3
 replace BQ:=bw.kC BQ bH3
 replace X:=bw.kC X bH3
 replace BF:=bw.kC BF bH3
 replace ey:=yD (ey.out.touch bw qW)
 replace R:=yD (R.out.touch bw qW)
 replace o:=o.trans (bw.below o.size bD5)
 clear N J ak af ax a2 a1 a3 a5 ay az a6 a7 bc bn bl bk bp
 clear bw
 have I:=yD (R.out.wide (T:=(λj=>w.heap.size + 3<=j/\j < b9.heap.size/\j≠V.heap.size/\¬ (w4.heap.size<=j/\j < w5.heap.size))) vH)
 clear R
 obtain ⟨N,J,ak,af,ax,a2,a1,a3,a5⟩:=zL BO
 obtain ⟨hv,hz,h6,hl,h4⟩:=zD BF
 obtain ⟨ay,az,a6,a7,bc,bn,bl,bk,bp⟩:=kBu BO
 have ik:(World.alloc b9 (.cells #[.int .i64 f,.bool false,.slice none 0 0,.int .i64 0,.int .i64 0,.int .i64 0,.slice g1 d0.length g6,.slice hr d1.length g9,.slice hp d2.length hn,.int .i64 d3,.int .i64 d4] 76)).frozen? ⟨V.heap.size,8,none⟩=false:=(frozen?_alloc_cells _ _ _ _).trans bp
 have hd:(World.alloc b9 (.cells #[.int .i64 f,.bool false,.slice none 0 0,.int .i64 0,.int .i64 0,.int .i64 0,.slice g1 d0.length g6,.slice hr d1.length g9,.slice hp d2.length hn,.int .i64 d3,.int .i64 d4] 76)).cell? ⟨V.heap.size,8,none⟩=some (.slice none 0 0):=kE (kC BO (bR.alloc nL _)) rfl
 go_upto_region 10 with fail
 generalize G:World.alloc b9 _=c6
 have b1:Qb b9 c6:=tK
 have BS:Qr c6 b9.heap.size #[Qn f,.bool false,.slice none 0 0,Qn 0,Qn 0,Qn 0,Qs g1 d0 g6,Qs hr d1 g9,Qs hp d2 hn,Qn d3,Qn d4] 76:=wW
 have fq:b9.heap.size + 1<=c6.heap.size:=bF4
 clear G
 replace BX:=kC BX b1
 replace BQ:=kC BQ b1
 replace X:=kC X b1
 replace BO:=kC BO b1
 replace BF:=kC BF b1
 replace ey:=yD (ey.out.below b1)
 replace I:=yD (I.out.below b1)
 replace o:=(tQ o b1)
 clear N J ak af ax a2 a1 a3 a5 hv hz h6 hl h4 ay az a6 a7 bc bn bl bk bp ik hd
 clear b1
 generalize G:World.setCell c6 _ _=dm
 have dc:Touch (λk=>k=V.heap.size) c6 dm:=bB2
 replace BO:Qr dm V.heap.size #[Qs bf U bg,Qn xc,Qs ea ev ep,Qs dq x2 dt,Qs sa sn sc,Qs cd x4 cf,Qs cg x5 ch,Qn x6,.slice (some ⟨b9.heap.size,0,none⟩) 1 1] 43:=wM
 have fx:=dc.size
 clear G
 replace BX:=dc.kC BX bH3
 replace BQ:=dc.kC BQ bH3
 replace X:=dc.kC X bH3
 replace BF:=dc.kC BF bH3
 replace BS:=dc.kC BS bH3
 replace ey:=yD (ey.out.touch dc qW)
 replace I:=yD (I.out.touch dc qW)
 replace o:=o.trans (dc.below o.size bD5)
 clear dc
 have HQ:=yD ((own0_box BS (out1_own HF.out ey.out) (λq=>by have:=q.1;have:=q.2;omega)).wide (T:=λj=>(w4.heap.size<=j/\j < w5.heap.size)\/j=b9.heap.size) (λj q=>q.imp (λq=>⟨q.1,q.2⟩) id))
 obtain ⟨N,J,ak,af,ax,a2,a1,a3,a5⟩:=zL BO
 obtain ⟨au,aw,be,bd,bz,da,c9,df,db⟩:=zL X
 obtain ⟨ao,an,a9,bb,br,c4,c7,c5,c8⟩:=kBu X
 go_wp2
 refine bodyPost_ret (v:=.agg #[Qs bf U bg,Qn xc,Qs ea ev ep,Qs dq x2 dt,Qs sa sn sc,Qs cd x4 cf,Qs cg x5 ch,Qn x6,.slice (some ⟨b9.heap.size,0,none⟩) 1 1]) dD rfl ⟨[Qs bf U bg,Qn xc,Qs ea ev ep,Qs dq x2 dt,Qs sa sn sc,Qs cd x4 cf,Qs cg x5 ch,Qn x6,.slice (some ⟨b9.heap.size,0,none⟩) 1 1],rfl,?_,?_⟩
 · rw [L.out];simp only [HE.out,b4.out,HD.out];exact kKx (I.out.touch sT9 tC) ((HQ.out.touch sT9 (λj h1 h2=>by omega)).own (show 1<=Big by unfold Big;omega)) fF nQ gV
 exact o.trans (Touch.below sT9 o.size bD5)
end Go.Proofs.YtjhfdpopkkmigabGreat
