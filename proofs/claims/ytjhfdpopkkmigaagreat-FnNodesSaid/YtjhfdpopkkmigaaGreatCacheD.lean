/-
  Data kept: the entries of the name go, the one least lately used goes if there is no room.
-/
import Derived.Test.YtjhfdpopkkmigaaGreatWoC
set_option linter.unusedVariables false
set_option linter.defProp false
set_option linter.unusedSimpArgs false
set_option linter.unnecessarySimpa false
set_option maxRecDepth 100000
set_option maxHeartbeats 4000000
open _root_ renaming List->Aa
open List renaming filter_append->Ab
open Int renaming natCast_nonneg->Ac
open Go renaming World->Ad
open List.cons renaming injEq->Ae
namespace Go.Proofs.YtjhfdpopkkmigaaGreat
open Go.RowKit _root_.Go.Proofs.Tryz
def lastU (l:Aa kZ) (k:Nat):Int:=(l.map Prod.snd).getD k 0
def kLq {l:Aa kZ} {k:Nat} (h:k < l.length):lastU l k=l[k].2:=by
 unfold lastU;rw [List.getD_eq_getElem?_getD,List.getElem?_eq_getElem bB5];simp
def kEg (l:Aa kZ):Nat->Nat
  | 0=>0
  | k + 1=>if lastU l k < lastU l (kEg l k) then k else kEg l k
def leastA_one (l:List kZ):kEg l 1=0:=by simp [kEg]
def leastA_yes {l:Aa kZ} {k b:Nat} (hb:kEg l k=b) (hk:k < l.length) (aw:b < l.length) (h:l[k].2 < l[b].2):kEg l (k + 1)=k:=by
 unfold kEg;rw [hb,kLq hk,kLq aw,if_pos h]
def leastA_no {l:Aa kZ} {k b:Nat} (hb:kEg l k=b) (hk:k < l.length) (aw:b < l.length) (h:¬ l[k].2 < l[b].2):kEg l (k + 1)=b:=by
 unfold kEg;rw [hb,kLq hk,kLq aw,if_neg h]
def kGq (y:jL) (x:kg):Bool:=decide (x.1 < 1) || !kBi y
def kEe (n:kr) (l:Aa kZ):Aa kZ:=l.filter (λe=>!isC n e)
def kJr (c:Int) (l:Aa kZ):Aa kZ:=if c<=l.length then l.take (kEg l l.length)++l.drop (kEg l l.length + 1) else l
def kEi (y:jL) (t:Int) (x:kg):kg:=if kGq y x then x else (x.1,kJr x.1 (kEe y.1 x.2)++[(y,t)])
def jAr {y:jL} {t:Int} {x:kg} (h:kGq y x=true):kEi y t x=x:=by unfold kEi;rw [h];rfl
def kSe {y:jL} {t:Int} {x:kg} (h:kGq y x=false):kEi y t x=(x.1,kJr x.1 (kEe y.1 x.2)++[(y,t)]):=by unfold kEi;rw [h];rfl
def roomC_full {c:Int} {l:List kZ} {b:Nat} (hb:kEg l l.length=b) (h:c<=l.length):kJr c l=l.take b++l.drop (b + 1):=by unfold kJr;rw [if_pos h,hb]
def roomC_free {c:Int} {l:List kZ} (h:¬ c<=l.length):kJr c l=l:=by unfold kJr;rw [if_neg h]
def kYk (c:Int) (l:Aa kZ):(kJr c l).length<=l.length:=by
 unfold kJr;split
 · simp;omega
 exact Nat.le_refl _
def lenAt (w:Ad) (b j:Nat):Nat:=match w.cell? ⟨b,j,none⟩ with
  | some (.slice _ n _)=>n
  | _=>0
def lenAt_eq {w:Ad} {b:Nat} {c:Value} {a:Option Addr} {n cap:Nat} {t:TypeId} (h:Qr w b #[c,.slice a n cap] t):lenAt w b 1=n:=by
 unfold lenAt;rw [kE h (j:=1) (v:=.slice a n cap) rfl]
def otherC_len (n:kr) (l:Aa kZ):(kEe n l).length<=l.length:=List.length_filter_le _ _
def otherC_no {n:kr} {l:Aa kZ} (h:idxOf (isC n) l < 0):kEe n l=l:=by
 unfold kEe;rw [List.filter_eq_self];intro a ha;unfold idxOf at h;cases hf:l.findIdx? (isC n) with
 | none=>rw [List.findIdx?_eq_none_iff.1 hf a ha];rfl
 | some j=>rw [hf] at h;simp only at h;omega
def otherC_step {n:kr} {l:Aa kZ} {k:Nat} (hk:k < l.length) (h:idxOf (isC n) l=k):kEe n (l.take k++l.drop (k + 1))=kEe n l:=by
 unfold idxOf at h;cases hf:l.findIdx? (isC n) with
 | none=>rw [hf] at h;simp only at h;omega
 | some j =>
   rw [hf] at h;simp only at h;obtain rfl:j=k:=bD1;have hp:=(List.findIdx?_eq_some_iff_getElem.1 hf).2.1;unfold kEe
   conv=>rhs;rw [<- List.take_append_drop j l,List.drop_eq_getElem_cons hk]
   rw [Ab,Ab,List.filter_cons,hp];simp
def kJp {w:Ad} {cx:Aa Value} {x:kg} (hx:kP.rd w cx x) {cy:Aa Value} {y:jL} (hy:jF.rd w cy y) {t:Int} (ht:Qi t) (hB:x.2.length<=16777215) :
    Calls prog 168 #[.agg cx.toArray,.agg cy.toArray,.int .i64 t] w (kAe kP (kEi y t x) w):=by
 obtain ⟨I,xe⟩:=x
 obtain ⟨y0,y1,y2,y3,y4⟩:=y
 have HX:=yD hx
 have HY:=yD hy
 have HF:=yD ht
 have b5:xe.length<=16777215:=hB
 obtain ⟨ei,rfl,cq,b6⟩:=jI hx.1
 obtain ⟨b3,bz,rfl,xl⟩:=kD.sl b6
 have az:Qi I:=cq
 have e9:=az.1
 have fb:=az.2
 obtain ⟨c9,e8,e7,rfl,bl,a3,bx,a6,d5,d0,eg⟩:=jM hy.1
 obtain ⟨a7,bv,rfl,e4⟩:=kD.sl a3
 obtain ⟨b0,cm,rfl,eu⟩:=kD.sl bx
 obtain ⟨bh,cg,rfl,e5⟩:=kD.sl d5
 have e1:Hid (jF.raw w [Qs a7 y0 bv,Qs b0 y1 cm,Qs bh y2 cg,Qn y3,Qn y4] (y0,y1,y2,y3,y4)):=yD hy.1
 have bd:Hid (kW.raw w [Qs a7 y0 bv] y0):=yD bl
 clear hx hy ht hB cq b6 xl bl a3 bx a6 d5 d0 eg
 go_enter func168,ntmps168
 go_upto_region 1 with fail
 generalize F:World.alloc (World.alloc (World.alloc w _) _) _=w1
 have EE:Qb w w1:=by rw [<- F];exact bG
 have BX:Qr w1 w.heap.size #[Qn I,Qs b3 xe bz] 27:=qX
 have BY:Qr w1 (w.heap.size + 1) #[Qs a7 y0 bv,Qs b0 y1 cm,Qs bh y2 cg,Qn y3,Qn y4] 38:=by rw [<- F];exact jR (kH bD2)
 obtain ⟨BR,bf⟩:=JG
 clear F
 obtain ⟨ae,af⟩:=yQ BX
 go_wp2_with fail
 refine (kMr (HX.out.below EE)).mono ?_
 rintro e V ⟨kv,rfl,O,hb⟩
 have bg:=hb.size
 replace BX:=kC BX hb
 replace BY:=kC BY hb
 replace BR:=kC BR hb
 replace EE:=(tQ EE hb)
 clear ae af
 clear hb
 replace O:=kD.kU.cast O (show _=xe from rfl)
 obtain ⟨oa,oc,rfl⟩:=O.zW
 have L:=yD (O.wide (T:=(λj=>w.heap.size + 3<=j/\j < V.heap.size)) rH)
 clear O
 go_upto_region 2 with fail
 generalize F:World.alloc V _=w3
 have aa:Qb V w3:=rT
 have Y:Qr w3 V.heap.size #[Qn I,Qs oa xe oc] 27:=vD
 have bi:V.heap.size + 1<=w3.heap.size:=bB3
 clear F
 replace BX:=kC BX aa
 replace BY:=kC BY aa
 replace BR:=kC BR aa
 replace L:=yD (L.out.below aa)
 replace EE:=(tQ EE aa)
 clear aa
 obtain ⟨ae,af⟩:=yQ BX
 obtain ⟨aq,ah,ag,ai,ac⟩:=yI BY
 go_upto_region 2 with fail
 have FX:=yD (λ(W:Ad) (hW:Qb w3 W)=>kGx hW ae aq ah ag ai ac)
 refine ky (λW=>Qb w3 W) [true,true,true,true,true,false,true,true] bR ?_
 intro wS E
 iterate 3
  all_goals refine kX ?_
 all_goals (refine jd λb a1=>?_;cases b <;> try simp only [jc] at a1)
 all_goals refine kX ?_
 all_goals first | refine wkB (kDc (e1.out.below (tQ EE E))) (λwS1 E=>?_) | refine kX ?_
 all_goals refine kX ?_
 all_goals (refine jd λb X=>?_;cases b <;> try simp only [jc] at X)
 all_goals refine kR ?_
 all_goals rename Ad=>w4
 all_goals have bu:=E.size
 all_goals replace BX:=kC BX E
 all_goals replace BY:=kC BY E
 all_goals replace BR:=kC BR E
 all_goals replace Y:=kC Y E
 all_goals replace L:=yD (L.out.below E)
 all_goals replace EE:=(tQ EE E)
 all_goals clear ae af aq ah ag ai ac
 all_goals clear E
 all_goals first
   | (have U := yD (jAr (t := t) (show kGq (y0, y1, y2, y3, y4) (I, xe) = true by simp only [kGq, Bool.not_true, Bool.not_false, Bool.and_true, Bool.true_and, Bool.and_false, Bool.false_and, Bool.or_true, Bool.true_or, Bool.or_false, Bool.false_or, Bool.not_not, a1, X]))
      obtain ⟨H,o⟩:=yQ Y
      obtain ⟨ar,au⟩:=yQ BR
      obtain ⟨al,ak⟩:=kCj BR
      go_wp2
      refine bodyPost_ret (v:=.agg #[Qn I,Qs oa xe oc]) gZ rfl ⟨[Qn I,Qs oa xe oc],rfl,?_,?_⟩
      · rw [U.out];exact ((show kP.own _ _ (I,xe) _ from kD.kKy (r:=kD.int) (q:=(kD.slice 122 jC)) (cs:=[.int .i64 I]) (kD.jG az) (L.out.own wM)).touch sT2 rQ).wide fG
      · exact EE.trans (Touch.below sT2 EE.size wW))
   | skip
 all_goals
   (have dx:=yD (show kGq (y0,y1,y2,y3,y4) (I,xe)=false by simp only [kGq,Bool.not_true,Bool.not_false,Bool.and_true,Bool.true_and,Bool.and_false,Bool.false_and,Bool.or_true,Bool.true_or,Bool.or_false,Bool.false_or,Bool.not_not,a1,X])
    have b2:¬ I < 1:=by simpa using a1
    clear a1 X
    obtain ⟨H,o⟩:=yQ Y
    obtain ⟨aq,ah,ag,ai,ac⟩:=yI BY
    go_wp2_with fail
    refine (kEv (L.out.own wM).raw (cn:=[.slice a7 y0.length bv]) (bd.out.below EE)).mono ?_
    rintro e w5 ⟨rfl,hb⟩
    have br:=hb.size
    replace BX:=kC BX hb
    replace BY:=kC BY hb
    obtain ⟨BR,Y,L,EE⟩:=AZ
    clear H o aq ah ag ai ac
    clear hb
    go_wp2
    go_loopw [8] (λi wr=>∃ (C:Aa kZ) (ca:Option Addr) (cc:Nat),i=.int .i64 (idxOf (isC y0) C)/\Hid (kEe y0 C=kEe y0 xe)/\C.length<=xe.length/\Hid (kD.kU 122 jC wr (.slice ca C.length cc) C (λj=>w.heap.size + 3<=j/\j < wr.heap.size/\j≠V.heap.size))/\Qr wr w.heap.size #[Qn I,Qs b3 xe bz] 27/\Qr wr (w.heap.size + 1) #[Qs a7 y0 bv,Qs b0 y1 cm,Qs bh y2 cg,Qn y3,Qn y4] 38/\Qr wr (w.heap.size + 2) #[Qn 0,.slice none 0 0] 27/\Qr wr V.heap.size #[Qn I,Qs ca C cc] 27/\w5.heap.size<=wr.heap.size/\Qb w wr) (λ_ wr=>lenAt wr (V.heap.size) 1)
    case atStart=>exact ⟨xe,oa,oc,rfl,yD rfl,Nat.le_refl _,yD (L.out.wide (λj q=>⟨q.1,by have:=q.2;omega,by have:=q.2;omega⟩)),BX,BY,BR,Y,Nat.le_refl _,EE⟩
    case round =>
      rename Ad=>wq;clear EE BX BY BR Y L;obtain ⟨C,ca,cc,rfl,HA,hC,L,BX,BY,BR,Y,e6,EE⟩:=hrel;have ez:=yD (lenAt_eq Y);by_cases hf:idxOf (isC y0) C < 0
      · have ee:¬ (0<=idxOf (isC y0) C):=bD1;have HK:=yD (HA.out.symm.trans (otherC_no hf));generalize idxOf (isC y0) C=ix at *;have fq:=hC;obtain ⟨K,e3⟩:∃ K,K=C:=⟨_,rfl⟩;subst e3;obtain ⟨ka,ey⟩:∃ k,k=ca:=⟨_,rfl⟩;subst ey;obtain ⟨kc,c5⟩:∃ k,k=cc:=⟨_,rfl⟩;subst c5;obtain ⟨ae,af⟩:=yQ BX;obtain ⟨H,o⟩:=yQ Y;by_cases c2:I<=(K.length:Int)
        · have d7:0 < K.length:=bD1;obtain ⟨kb,fp,hv,dd,fc,bw,bo⟩:=kD.kAr L.out d7;simp only [Value.slice.injEq,true_and] at hv;obtain ⟨rfl,rfl⟩:=hv;clear dd;clear ae af H o;obtain ⟨ae,af⟩:=yQ BX;obtain ⟨H,o⟩:=yQ Y;go_wp2;go_loopw [9,10] (λb i wr=>∃ (k m:Nat),i=.int .i64 k/\b=.int .i64 m/\1<=k/\k<=K.length/\m < K.length/\Hid (kEg K k=m)/\Hid (kD.kU 122 jC wr (.slice (some ⟨kb,0,none⟩) K.length kc) K (λj=>w.heap.size + 3<=j/\j < wq.heap.size/\j≠V.heap.size))/\Qr wr (w.heap.size + 1) #[Qs a7 y0 bv,Qs b0 y1 cm,Qs bh y2 cg,Qn y3,Qn y4] 38/\Qr wr (w.heap.size + 2) #[Qn 0,.slice none 0 0] 27/\Qr wr V.heap.size #[Qn I,.slice (some ⟨kb,0,none⟩) K.length kc] 27/\wq.heap.size<=wr.heap.size/\Qb w wr) (λ_ i _=>K.length - (intOf i).toNat);case atStart=>exact ⟨1,0,rfl,rfl,by omega,by omega,d7,yD (leastA_one K),L,BY,BR,Y,Nat.le_refl _,EE⟩
          case round =>
            rename Ad=>dg;clear EE BX BY BR Y L;obtain ⟨k,m,rfl,rfl,dy,hk,hm,HA,L,BY,BR,Y,e6,EE⟩:=hrel;have bk:=Ac k;have bc:=Ac m;have c8:=Int.ofNat_lt.2 hm;by_cases hlt:k < K.length
            · have co:=Int.ofNat_lt.2 hlt;have HR:=yD (L.out.own wM);obtain ⟨ba,b9,ch,dh,df,ep,pr,G,bt,bp,fh,fu,d1⟩:=kD.at6 HR.out.raw hlt rfl;obtain ⟨py,ph⟩:∃ z,K[k]=z:=⟨_,rfl⟩;rw [ph] at pr;have pH:=yD ph;clear ph;obtain ⟨fw,fm,fv,pe,ec,eb,dq,dv,ed,du,em,ej,eo⟩:=jV pr;simp only [Ae,and_true] at pe;obtain ⟨rfl,rfl,rfl,rfl,rfl,rfl⟩:=pe;obtain ⟨a2,be,rfl,_⟩:=kD.sl dq;obtain ⟨b8,ck,rfl,_⟩:=kD.sl dv;obtain ⟨db,di,rfl,_⟩:=kD.sl du;clear pr ec eb dq dv ed du em ej eo;obtain ⟨hl,gu,he,hh,ha,hc,sr,ft,fk,fr,fi,fe,dz⟩:=kD.at6 HR.out.raw hm rfl;obtain ⟨sy,sh⟩:∃ z,K[m]=z:=⟨_,rfl⟩;rw [sh] at sr;have sH:=yD sh;clear sh;obtain ⟨fl,fj,fg,se,es,eq,dk,dw,ek,dt,el,en,eh⟩:=jV sr;simp only [Ae,and_true] at se;obtain ⟨rfl,rfl,rfl,rfl,rfl,rfl⟩:=se;obtain ⟨hd,fo,rfl,_⟩:=kD.sl dk;obtain ⟨g1,ff,rfl,_⟩:=kD.sl dw;obtain ⟨hj,fn,rfl,_⟩:=kD.sl dt;clear sr es eq dk dw ek dt el en eh;clear HR;obtain ⟨H,o⟩:=yQ Y;go_upto_region 13 with fail;have FX:=yD (λ(W:Ad) (hW:Qb dg W)=>kKb hW o d1 dz);refine kM (λW=>Qb dg W) [true,true,true,true,true,true,true,true,true,true,true,true,true] bC5 bC5 pY (bR.drew) ?_;intro wS E;iterate 12
               all_goals refine kX ?_
              all_goals (refine jd λb ab=>?_;cases b <;> try simp only [jc] at ab)
              all_goals refine kR ?_
              all_goals rename Ad=>w8
              all_goals have d9:=E.size
              all_goals replace BY:=kC BY E
              all_goals replace BR:=kC BR E
              all_goals replace Y:=kC Y E
              all_goals replace d1:=cL E d1
              all_goals replace dz:=cL E dz
              all_goals replace L:=yD (L.out.below E)
              all_goals replace EE:=(tQ EE E)
              all_goals clear H o
              all_goals clear E
              all_goals first
                | (have bq : K[k].2 < K[m].2 := by rw [pH.out, sH.out]; simpa using ab
                   clear ab
                   have HB:=yD (leastA_yes HA.out hlt hm bq)
                   go_wp2
                   go_roundw
                   case rel=>exact ⟨k + 1,k,by go_num,rfl,by omega,by omega,hlt,HB,L,BY,BR,Y,by omega,EE⟩
                   case measure=>simp [intOf];omega)
                | skip
              all_goals
                (have bq:¬ K[k].2 < K[m].2:=by rw [pH.out,sH.out];simpa using ab
                 clear ab
                 have HB:=yD (leastA_no HA.out hlt hm bq)
                 go_wp2
                 go_roundw
                 case rel=>exact ⟨k + 1,m,by go_num,rfl,by omega,by omega,hm,HB,L,BY,BR,Y,by omega,EE⟩
                 case measure=>simp [intOf];omega)
            · obtain rfl:k=K.length:=bD1;have er:¬ ((K.length:Int) < K.length):=bD1;have dj:=yD (roomC_full HA.out c2);have hw:IntKind.i64.wrap ((m:Int) + 1)=(m:Int) + 1:=IntWalk.i64_in _ bD1;obtain ⟨H,o⟩:=yQ Y;go_wp2_with fail;refine (kIb L.out hm bD1).mono ?_;rintro e w8 ⟨v5,rfl,O5,hb⟩;have d9:=hb.size;replace BY:=kC BY hb;replace BR:=kC BR hb;replace Y:=kC Y hb;replace EE:=(tQ EE hb);clear H o;clear hb;clear L;obtain ⟨R,hR⟩:∃ R,kJr I K=R:=⟨_,rfl⟩;replace O5:=kD.kU.cast O5 (dj.out.symm.trans hR);have fd:R.length<=K.length:=by rw [<- hR];exact kYk _ _
              have d3:=yD hR;clear hR dj;obtain ⟨ra,rc,rfl⟩:=O5.zW;have L:=yD (O5.wide (T:=(λj=>w.heap.size + 3<=j/\j < w8.heap.size/\j≠V.heap.size)) bV);clear O5;obtain ⟨H,o⟩:=yQ Y;obtain ⟨aj,am⟩:=kCj Y;go_upto_region 16 with fail;generalize F:World.setCell w8 _ _=w9;have bj:Touch (λk=>k=V.heap.size) w8 w9:=vR;replace Y:Qr w9 V.heap.size #[Qn I,Qs ra R rc] 27:=vI;have d4:=bj.size;clear F;replace BY:=bj.kC BY bD1;replace BR:=bj.kC BR bD1;replace L:=yD (L.out.touch bj pX);replace EE:=EE.trans (bj.below EE.size wW);clear H o aj am;clear bj;obtain ⟨aq,ah,ag,ai,ac⟩:=yI BY;obtain ⟨H,o⟩:=yQ Y;go_wp2_with fail;refine (kAu (HY.out.below EE)).mono ?_;rintro e cz ⟨tc,rfl,O,hb⟩;have ef:=hb.size;replace BY:=kC BY hb;obtain ⟨BR,Y,L,EE⟩:=AZ;clear aq ah ag ai ac H o;clear hb;obtain ⟨c7,dl,dr,rfl,a5,ce,b7,c1,cf,c6,c0⟩:=jM O.raw;obtain ⟨a8,bm,rfl,dp⟩:=kD.sl ce;obtain ⟨bn,c4,rfl,dn⟩:=kD.sl b7;obtain ⟨bb,a9,rfl,dm⟩:=kD.sl cf;clear a5 ce b7 c1 cf c6 c0;have de:=yD O;clear O;go_upto_region 17 with fail;generalize F:World.alloc cz _=cw;have ap:Qb cz cw:=rT;have BD:Qr cw cz.heap.size #[Qs a8 y0 bm,Qs bn y1 c4,Qs bb y2 a9,Qn y3,Qn y4] 38:=vD;have et:cz.heap.size + 1<=cw.heap.size:=bB3;clear F;replace BY:=kC BY ap;replace BR:=kC BR ap;replace Y:=kC Y ap;replace L:=yD (L.out.below ap);replace de:=yD (de.out.below ap);replace EE:=(tQ EE ap);clear ap;obtain ⟨H,o⟩:=yQ Y;obtain ⟨a4,ay,b1,cv,cd⟩:=yI BD;have d6:R.length + 1<=1000000000:=bD1;go_wp2_with (at_builtin;refine kD.kDt rfl _ _ 25 rfl (r:=jC) (e:=122) underlying25 kAl rfl bD0 bD0 (w:=cw) (L.out) bD3 bD3 rfl (kD.yN (r:=jF) (q:=kD.int) (cs:=[.slice a8 y0.length bm,.slice bn y1.length c4,.slice bb y2.length a9,.int .i64 y3,.int .i64 y4]) (ds:=[.int .i64 t]) (x:=(y0,y1,y2,y3,y4)) (y:=t) de.out (kD.jG HF.out)) rfl nV d6 ?_);intro v2 c3 hQ an;have N:Touch (λj=>w.heap.size + 3<=j/\j < w8.heap.size/\j≠V.heap.size) cw c3:=(Touch.of_below (bR.alloc nL _)).trans (an.wide (λj q=>q.2));have ew:=N.size;have cl:=an.size;have d8:cw.heap.size + 1<=c3.heap.size:=by simpa using cl
              clear an cl;obtain ⟨Z,hZ⟩:∃ Z,R++[((y0,y1,y2,y3,y4),t)]=Z:=⟨_,rfl⟩;have b4:=yD (show Z.length=R.length + 1 by rw [<- hZ];simp);replace hQ:=kD.kU.cast hQ hZ;have HZ:=yD hZ;clear hZ;obtain ⟨ga,gc,rfl⟩:=hQ.zW;have HQ:=yD (kD.kU.wide (T:=λj=>w.heap.size + 3<=j/\j < c3.heap.size/\j≠V.heap.size) hQ cZ);clear hQ L;replace BY:=N.kC BY bD1;replace BR:=N.kC BR bD1;replace Y:=N.kC Y bD1;replace BD:=N.kC BD bD1;replace EE:=EE.trans (N.below EE.size wW);clear H o a4 ay b1 cv cd;clear N;obtain ⟨H,o⟩:=yQ Y;obtain ⟨aj,am⟩:=kCj Y;go_upto_region 18 with fail;generalize F:World.setCell c3 _ _=d2;have av:Touch (λk=>k=V.heap.size) c3 d2:=vR;replace Y:Qr d2 V.heap.size #[Qn I,Qs ga Z gc] 27:=vI;have gv:=av.size;clear F;replace BY:=av.kC BY bD1;replace BR:=av.kC BR bD1;replace BD:=av.kC BD bD1;replace HQ:=yD (HQ.out.touch av pX);replace EE:=EE.trans (av.below EE.size wW);clear H o aj am;clear av;exact aC
        · have d3:=yD (roomC_free c2);clear ae af H o;obtain ⟨ae,af⟩:=yQ BX;obtain ⟨aq,ah,ag,ai,ac⟩:=yI BY;obtain ⟨H,o⟩:=yQ Y;go_wp2_with fail;refine (kAu (HY.out.below EE)).mono ?_;rintro e w7 ⟨tc,rfl,O,hb⟩;have ea:=hb.size;replace BX:=kC BX hb;replace BY:=kC BY hb;obtain ⟨BR,Y,L,EE⟩:=AZ;clear ae af aq ah ag ai ac H o;clear hb;obtain ⟨c7,dl,dr,rfl,a5,ce,b7,c1,cf,c6,c0⟩:=jM O.raw;obtain ⟨a8,bm,rfl,dp⟩:=kD.sl ce;obtain ⟨bn,c4,rfl,dn⟩:=kD.sl b7;obtain ⟨bb,a9,rfl,dm⟩:=kD.sl cf;clear a5 ce b7 c1 cf c6 c0;have de:=yD O;clear O;go_upto_region 17 with fail;generalize F:World.alloc w7 _=w8;have aw:Qb w7 w8:=rT;have BD:Qr w8 w7.heap.size #[Qs a8 y0 bm,Qs bn y1 c4,Qs bb y2 a9,Qn y3,Qn y4] 38:=vD;have d9:w7.heap.size + 1<=w8.heap.size:=bB3;clear F;replace BX:=kC BX aw;replace BY:=kC BY aw;replace BR:=kC BR aw;replace Y:=kC Y aw;replace L:=yD (L.out.below aw);replace de:=yD (de.out.below aw);replace EE:=(tQ EE aw);clear aw;obtain ⟨H,o⟩:=yQ Y;obtain ⟨a4,ay,b1,cv,cd⟩:=yI BD;have d6:K.length + 1<=1000000000:=bD1;go_wp2_with (at_builtin;refine kD.kDt rfl _ _ 25 rfl (r:=jC) (e:=122) underlying25 kAl rfl bD0 bD0 (w:=w8) (L.out) bD3 bD3 rfl (kD.yN (r:=jF) (q:=kD.int) (cs:=[.slice a8 y0.length bm,.slice bn y1.length c4,.slice bb y2.length a9,.int .i64 y3,.int .i64 y4]) (ds:=[.int .i64 t]) (x:=(y0,y1,y2,y3,y4)) (y:=t) de.out (kD.jG HF.out)) rfl nV d6 ?_);intro v2 w9 hQ an;have N:Touch (λj=>w.heap.size + 3<=j/\j < wq.heap.size/\j≠V.heap.size) w8 w9:=(Touch.of_below (bR.alloc nL _)).trans (an.wide (λj q=>q.2));have d4:=N.size;have cl:=an.size;have d8:w8.heap.size + 1<=w9.heap.size:=by simpa using cl
          clear an cl;obtain ⟨Z,hZ⟩:∃ Z,K++[((y0,y1,y2,y3,y4),t)]=Z:=⟨_,rfl⟩;have b4:=yD (show Z.length=K.length + 1 by rw [<- hZ];simp);replace hQ:=kD.kU.cast hQ hZ;have HZ:=yD hZ;clear hZ;obtain ⟨ga,gc,rfl⟩:=hQ.zW;have HQ:=yD (kD.kU.wide (T:=λj=>w.heap.size + 3<=j/\j < w9.heap.size/\j≠V.heap.size) hQ cZ);clear hQ L;replace BX:=N.kC BX bD1;replace BY:=N.kC BY bD1;replace BR:=N.kC BR bD1;replace Y:=N.kC Y bD1;replace BD:=N.kC BD bD1;replace EE:=EE.trans (N.below EE.size wW);clear H o a4 ay b1 cv cd;clear N;obtain ⟨H,o⟩:=yQ Y;obtain ⟨aj,am⟩:=kCj Y;go_upto_region 18 with fail;generalize F:World.setCell w9 _ _=cz;have ao:Touch (λk=>k=V.heap.size) w9 cz:=vR;replace Y:Qr cz V.heap.size #[Qn I,Qs ga Z gc] 27:=vI;have ef:=ao.size;clear F;replace BX:=ao.kC BX bD1;replace BY:=ao.kC BY bD1;replace BR:=ao.kC BR bD1;replace BD:=ao.kC BD bD1;replace HQ:=yD (HQ.out.touch ao pX);replace EE:=EE.trans (ao.below EE.size wW);clear H o aj am;clear ao;exact aC
      · obtain ⟨k,hlt,ad⟩:=kIm hf;rw [ad];have ev:=yD ((otherC_step hlt ad).trans HA.out);clear hf;have bk:(0:Int)<=k:=bD1;obtain ⟨H,o⟩:=yQ Y;go_wp2_with fail;refine (kIb L.out hlt bD1).mono ?_;rintro e w7 ⟨v5,rfl,O5,hb⟩;have ea:=hb.size;replace BX:=kC BX hb;replace BY:=kC BY hb;replace BR:=kC BR hb;replace Y:=kC Y hb;replace EE:=(tQ EE hb);clear H o;clear hb;have J:(C.take k++C.drop (k + 1)).length < C.length:=bC6;clear L;generalize C.take k++C.drop (k + 1)=D at *;obtain ⟨da,dc,rfl⟩:=O5.zW;have L:=yD (O5.wide (T:=(λj=>w.heap.size + 3<=j/\j < w7.heap.size/\j≠V.heap.size)) bV);clear O5;obtain ⟨H,o⟩:=yQ Y;obtain ⟨aj,am⟩:=kCj Y;go_upto_region 6 with fail;generalize F:World.setCell w7 _ _=w8;have ax:Touch (λk=>k=V.heap.size) w7 w8:=vR;replace Y:Qr w8 V.heap.size #[Qn I,Qs da D dc] 27:=vI;have d9:=ax.size;clear F;replace BX:=ax.kC BX bD1;replace BY:=ax.kC BY bD1;replace BR:=ax.kC BR bD1;replace L:=yD (L.out.touch ax pX);replace EE:=EE.trans (ax.below EE.size wW);clear H o aj am;clear ax;obtain ⟨H,o⟩:=yQ Y;obtain ⟨aq,ah,ag,ai,ac⟩:=yI BY;go_wp2_with fail;refine (kEv (L.out.own wM).raw (cn:=[.slice a7 y0.length bv]) (bd.out.below EE)).mono ?_;rintro e w9 ⟨rfl,hb⟩;have d4:=hb.size;replace BX:=kC BX hb;replace BY:=kC BY hb;obtain ⟨BR,Y,L,EE⟩:=AZ;clear H o aq ah ag ai ac;clear hb;have e0:=yD (lenAt_eq Y);go_wp2;go_roundw;case rel=>exact ⟨D,da,dc,rfl,ev,by omega,yD (L.out.wide (λj q=>⟨q.1,by have:=q.2.1;omega,q.2.2⟩)),BX,BY,BR,Y,by omega,EE⟩
        case measure=>rw [ez.out,e0.out];exact J)
end Go.Proofs.YtjhfdpopkkmigaaGreat
