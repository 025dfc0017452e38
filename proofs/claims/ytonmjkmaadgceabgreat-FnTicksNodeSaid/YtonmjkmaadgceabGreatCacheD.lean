/-
  Data kept: the entries of the name go, the one least lately used goes if there is no room.
-/
import Derived.Test.YtonmjkmaadgceabGreatWoC
set_option linter.unusedVariables false
set_option linter.defProp false
set_option linter.unusedSimpArgs false
set_option linter.unnecessarySimpa false
set_option maxRecDepth 100000
set_option maxHeartbeats 4000000
open _root_ renaming List->Aa
open List renaming filter_append->Ab
open Int renaming natCast_nonneg->Ac
open Go renaming World->Ad
open List.cons renaming injEq->Ae
namespace Go.Proofs.YtonmjkmaadgceabGreat
open Go.RowKit _root_.Go.Proofs.Tryz
def lastU (l:Aa kT) (k:Nat):Int:=(l.map Prod.snd).getD k 0
def kLq {l:Aa kT} {k:Nat} (h:k < l.length):lastU l k=l[k].2:=by
 unfold lastU;rw [List.getD_eq_getElem?_getD,List.getElem?_eq_getElem bB3];simp
def kEh (l:Aa kT):Nat->Nat
  | 0=>0
  | k + 1=>if lastU l k < lastU l (kEh l k) then k else kEh l k
def leastA_one (l:List kT):kEh l 1=0:=by simp [kEh]
def leastA_yes {l:Aa kT} {k b:Nat} (hb:kEh l k=b) (hk:k < l.length) (aw:b < l.length) (h:l[k].2 < l[b].2):kEh l (k + 1)=k:=by
 unfold kEh;rw [hb,kLq hk,kLq aw,if_pos h]
def leastA_no {l:Aa kT} {k b:Nat} (hb:kEh l k=b) (hk:k < l.length) (aw:b < l.length) (h:¬ l[k].2 < l[b].2):kEh l (k + 1)=b:=by
 unfold kEh;rw [hb,kLq hk,kLq aw,if_neg h]
def kGn (y:jN) (x:kg):Bool:=decide (x.1 < 1) || !kBh y
def kEg (n:ko) (l:Aa kT):Aa kT:=l.filter (λe=>!isC n e)
def kJm (c:Int) (l:Aa kT):Aa kT:=if c<=l.length then l.take (kEh l l.length)++l.drop (kEh l l.length + 1) else l
def kEl (y:jN) (t:Int) (x:kg):kg:=if kGn y x then x else (x.1,kJm x.1 (kEg y.1 x.2)++[(y,t)])
def jAc {y:jN} {t:Int} {x:kg} (h:kGn y x=true):kEl y t x=x:=by unfold kEl;rw [h];rfl
def kRv {y:jN} {t:Int} {x:kg} (h:kGn y x=false):kEl y t x=(x.1,kJm x.1 (kEg y.1 x.2)++[(y,t)]):=by unfold kEl;rw [h];rfl
def roomC_full {c:Int} {l:List kT} {b:Nat} (hb:kEh l l.length=b) (h:c<=l.length):kJm c l=l.take b++l.drop (b + 1):=by unfold kJm;rw [if_pos h,hb]
def roomC_free {c:Int} {l:List kT} (h:¬ c<=l.length):kJm c l=l:=by unfold kJm;rw [if_neg h]
def kXv (c:Int) (l:Aa kT):(kJm c l).length<=l.length:=by
 unfold kJm;split
 · simp;omega
 exact Nat.le_refl _
def lenAt (w:Ad) (b j:Nat):Nat:=match w.cell? ⟨b,j,none⟩ with
  | some (.slice _ n _)=>n
  | _=>0
def lenAt_eq {w:Ad} {b:Nat} {c:Value} {a:Option Addr} {n cap:Nat} {t:TypeId} (h:Qr w b #[c,.slice a n cap] t):lenAt w b 1=n:=by
 unfold lenAt;rw [kE h (j:=1) (v:=.slice a n cap) rfl]
def otherC_len (n:ko) (l:Aa kT):(kEg n l).length<=l.length:=List.length_filter_le _ _
def otherC_no {n:ko} {l:Aa kT} (h:idxOf (isC n) l < 0):kEg n l=l:=by
 unfold kEg;rw [List.filter_eq_self];intro a ha;unfold idxOf at h;cases hf:l.findIdx? (isC n) with
 | none=>rw [List.findIdx?_eq_none_iff.1 hf a ha];rfl
 | some j=>rw [hf] at h;simp only at h;omega
def otherC_step {n:ko} {l:Aa kT} {k:Nat} (hk:k < l.length) (h:idxOf (isC n) l=k):kEg n (l.take k++l.drop (k + 1))=kEg n l:=by
 unfold idxOf at h;cases hf:l.findIdx? (isC n) with
 | none=>rw [hf] at h;simp only at h;omega
 | some j =>
   rw [hf] at h;simp only at h;obtain rfl:j=k:=bC9;have hp:=(List.findIdx?_eq_some_iff_getElem.1 hf).2.1;unfold kEg
   conv=>rhs;rw [<- List.take_append_drop j l,List.drop_eq_getElem_cons hk]
   rw [Ab,Ab,List.filter_cons,hp];simp
def kJk {w:Ad} {cx:Aa Value} {x:kg} (hx:kN.rd w cx x) {cy:Aa Value} {y:jN} (hy:jJ.rd w cy y) {t:Int} (ht:Qi t) (hB:x.2.length<=16777215) :
    Calls prog 134 #[.agg cx.toArray,.agg cy.toArray,.int .i64 t] w (kAe kN (kEl y t x) w):=by
 obtain ⟨xc,xe⟩:=x
 obtain ⟨y0,y1,y2,y3,y4⟩:=y
 have HX:=yD hx
 have HY:=yD hy
 have HF:=yD ht
 have b0:xe.length<=16777215:=hB
 obtain ⟨eh,rfl,dg,cz⟩:=jK hx.1
 obtain ⟨b3,co,rfl,xl⟩:=kD.sl cz
 have ae:Qi xc:=dg
 have e8:=ae.1
 have e9:=ae.2
 obtain ⟨dh,e7,e6,rfl,ba,a9,ck,ao,d7,dz,ef⟩:=jb hy.1
 obtain ⟨bc,au,rfl,e1⟩:=kD.sl a9
 obtain ⟨ce,c8,rfl,es⟩:=kD.sl ck
 obtain ⟨b6,c3,rfl,e3⟩:=kD.sl d7
 have ez:Hid (jJ.raw w [Qs bc y0 au,Qs ce y1 c8,Qs b6 y2 c3,Qn y3,Qn y4] (y0,y1,y2,y3,y4)):=yD hy.1
 have af:Hid (kU.raw w [Qs bc y0 au] y0):=yD ba
 clear hx hy ht hB dg cz xl ba a9 ck ao d7 dz ef
 go_enter func134,ntmps134
 go_upto_region 1 with fail
 generalize F:World.alloc (World.alloc (World.alloc w _) _) _=Y
 have U:Qb w Y:=by rw [<- F];exact bF
 have BX:Qr Y w.heap.size #[Qn xc,Qs b3 xe co] 27:=qO
 have BY:Qr Y (w.heap.size + 1) #[Qs bc y0 au,Qs ce y1 c8,Qs b6 y2 c3,Qn y3,Qn y4] 68:=by rw [<- F];exact jV (kG bD0)
 have BR:Qr Y (w.heap.size + 2) #[Qn 0,.slice none 0 0] 27:=by rw [<- F];exact kG bD0
 have bd:w.heap.size + 3<=Y.heap.size:=bB1
 clear F
 obtain ⟨X,aa⟩:=yT BX
 go_wp2_with fail
 refine (kMp (HX.out.below U)).mono ?_
 rintro e V ⟨kv,rfl,O,hb⟩
 have bk:=hb.size
 replace BX:=kC BX hb
 replace BY:=kC BY hb
 replace BR:=kC BR hb
 replace U:=(tQ U hb)
 clear X aa
 clear hb
 replace O:=kD.kR.cast O (show _=xe from rfl)
 obtain ⟨oa,oc,rfl⟩:=O.zP
 have J:=yD (O.wide (T:=(λj=>w.heap.size + 3<=j/\j < V.heap.size)) qY)
 clear O
 go_upto_region 2 with fail
 generalize F:World.alloc V _=w3
 have ak:Qb V w3:=rM
 have BO:Qr w3 V.heap.size #[Qn xc,Qs oa xe oc] 27:=vB
 have bl:V.heap.size + 1<=w3.heap.size:=bB1
 clear F
 replace BX:=kC BX ak
 replace BY:=kC BY ak
 obtain ⟨BR,J,U⟩:=DJ
 clear ak
 obtain ⟨X,aa⟩:=yT BX
 obtain ⟨aq,ah,ad,am,N⟩:=yt BY
 go_upto_region 2 with fail
 have FX:=yD (λ(W:Ad) (hW:Qb w3 W)=>kKa hW X aq ah ad am N)
 refine jE (λW=>Qb w3 W) [true,true,true,true,true,false,true,true] bR ?_
 intro wS E
 iterate 3
  all_goals refine ku ?_
 all_goals (refine jy λb a1=>?_;cases b <;> try simp only [jw] at a1)
 all_goals refine ku ?_
 all_goals first | refine wkB (kDf (ez.out.below (tQ U E))) (λwS1 E=>?_) | refine ku ?_
 all_goals refine ku ?_
 all_goals (refine jy λb aw=>?_;cases b <;> try simp only [jw] at aw)
 all_goals refine kS ?_
 all_goals rename Ad=>w4
 all_goals have bw:=E.size
 all_goals replace BX:=kC BX E
 all_goals replace BY:=kC BY E
 all_goals replace BR:=kC BR E
 all_goals replace BO:=kC BO E
 all_goals replace J:=yD (J.out.below E)
 all_goals replace U:=(tQ U E)
 all_goals clear X aa aq ah ad am N
 all_goals clear E
 all_goals first
   | (have L := yD (jAc (t := t) (show kGn (y0, y1, y2, y3, y4) (xc, xe) = true by simp only [kGn, Bool.not_true, Bool.not_false, Bool.and_true, Bool.true_and, Bool.and_false, Bool.false_and, Bool.or_true, Bool.true_or, Bool.or_false, Bool.false_or, Bool.not_not, a1, aw]))
      obtain ⟨G,o⟩:=yT BO
      obtain ⟨a4,a5⟩:=yT BR
      obtain ⟨bh,bf⟩:=kCm BR
      go_wp2
      refine bodyPost_ret (v:=.agg #[Qn xc,Qs oa xe oc]) gM rfl ⟨[Qn xc,Qs oa xe oc],rfl,?_,?_⟩
      · rw [L.out];exact ((show kN.own _ _ (xc,xe) _ from kD.kIg (r:=kD.int) (q:=(kD.slice 111 jD)) (cs:=[.int .i64 xc]) (kD.jB ae) (J.out.own wH)).touch sT2 rF).wide fC
      · exact U.trans (Touch.below sT2 U.size wM))
   | skip
 all_goals
   (have dx:=yD (show kGn (y0,y1,y2,y3,y4) (xc,xe)=false by simp only [kGn,Bool.not_true,Bool.not_false,Bool.and_true,Bool.true_and,Bool.and_false,Bool.false_and,Bool.or_true,Bool.true_or,Bool.or_false,Bool.false_or,Bool.not_not,a1,aw])
    have cq:¬ xc < 1:=by simpa using a1
    clear a1 aw
    obtain ⟨G,o⟩:=yT BO
    obtain ⟨aq,ah,ad,am,N⟩:=yt BY
    go_wp2_with fail
    refine (kEx (J.out.own wH).raw (cn:=[.slice bc y0.length au]) (af.out.below U)).mono ?_
    rintro e w5 ⟨rfl,hb⟩
    have bv:=hb.size
    replace BX:=kC BX hb
    replace BY:=kC BY hb
    obtain ⟨BR,BO,J,U⟩:=xN
    clear G o aq ah ad am N
    clear hb
    go_wp2
    go_loopw [8] (λi wr=>∃ (C:Aa kT) (ca:Option Addr) (cc:Nat),i=.int .i64 (idxOf (isC y0) C)/\Hid (kEg y0 C=kEg y0 xe)/\C.length<=xe.length/\Hid (kD.kR 111 jD wr (.slice ca C.length cc) C (λj=>w.heap.size + 3<=j/\j < wr.heap.size/\j≠V.heap.size))/\Qr wr w.heap.size #[Qn xc,Qs b3 xe co] 27/\Qr wr (w.heap.size + 1) #[Qs bc y0 au,Qs ce y1 c8,Qs b6 y2 c3,Qn y3,Qn y4] 68/\Qr wr (w.heap.size + 2) #[Qn 0,.slice none 0 0] 27/\Qr wr V.heap.size #[Qn xc,Qs ca C cc] 27/\w5.heap.size<=wr.heap.size/\Qb w wr) (λ_ wr=>lenAt wr (V.heap.size) 1)
    case atStart=>exact ⟨xe,oa,oc,rfl,yD rfl,Nat.le_refl _,yD (J.out.wide (λj q=>⟨q.1,by have:=q.2;omega,by have:=q.2;omega⟩)),BX,BY,BR,BO,Nat.le_refl _,U⟩
    case round =>
      rename Ad=>wq;clear U BX BY BR BO J;obtain ⟨C,ca,cc,rfl,HA,hC,J,BX,BY,BR,BO,e4,U⟩:=hrel;have ew:=yD (lenAt_eq BO);by_cases hf:idxOf (isC y0) C < 0
      · have d1:¬ (0<=idxOf (isC y0) C):=bC9;have HK:=yD (HA.out.symm.trans (otherC_no hf));generalize idxOf (isC y0) C=ix at *;have fy:=hC;obtain ⟨K,e0⟩:∃ K,K=C:=⟨_,rfl⟩;subst e0;obtain ⟨ka,ev⟩:∃ k,k=ca:=⟨_,rfl⟩;subst ev;obtain ⟨kc,c1⟩:∃ k,k=cc:=⟨_,rfl⟩;subst c1;obtain ⟨X,aa⟩:=yT BX;obtain ⟨G,o⟩:=yT BO;by_cases di:xc<=(K.length:Int)
        · have ea:0 < K.length:=bC9;obtain ⟨kb,fx,hv,cw,fa,a3,az⟩:=kD.kAn J.out ea;simp only [Value.slice.injEq,true_and] at hv;obtain ⟨rfl,rfl⟩:=hv;clear cw;clear X aa G o;obtain ⟨X,aa⟩:=yT BX;obtain ⟨G,o⟩:=yT BO;go_wp2;go_loopw [9,10] (λb i wr=>∃ (k m:Nat),i=.int .i64 k/\b=.int .i64 m/\1<=k/\k<=K.length/\m < K.length/\Hid (kEh K k=m)/\Hid (kD.kR 111 jD wr (.slice (some ⟨kb,0,none⟩) K.length kc) K (λj=>w.heap.size + 3<=j/\j < wq.heap.size/\j≠V.heap.size))/\Qr wr (w.heap.size + 1) #[Qs bc y0 au,Qs ce y1 c8,Qs b6 y2 c3,Qn y3,Qn y4] 68/\Qr wr (w.heap.size + 2) #[Qn 0,.slice none 0 0] 27/\Qr wr V.heap.size #[Qn xc,.slice (some ⟨kb,0,none⟩) K.length kc] 27/\wq.heap.size<=wr.heap.size/\Qb w wr) (λ_ i _=>K.length - (intOf i).toNat);case atStart=>exact ⟨1,0,rfl,rfl,by omega,by omega,ea,yD (leastA_one K),J,BY,BR,BO,Nat.le_refl _,U⟩
          case round =>
            rename Ad=>dj;clear U BX BY BR BO J;obtain ⟨k,m,rfl,rfl,c4,hk,hm,HA,J,BY,BR,BO,e4,U⟩:=hrel;have bp:=Ac k;have bt:=Ac m;have b1:=Int.ofNat_lt.2 hm;by_cases hlt:k < K.length
            · have dr:=Int.ofNat_lt.2 hlt;have HR:=yD (J.out.own wH);obtain ⟨bm,cm,cl,eo,d6,e5,pr,av,b2,bz,fj,f1,d2⟩:=kD.at6 HR.out.raw hlt rfl;obtain ⟨py,ph⟩:∃ z,K[k]=z:=⟨_,rfl⟩;rw [ph] at pr;have pH:=yD ph;clear ph;obtain ⟨f4,ft,f2,pe,ed,ec,dq,dv,ee,du,el,ei,en⟩:=jq pr;simp only [Ae,and_true] at pe;obtain ⟨rfl,rfl,rfl,rfl,rfl,rfl⟩:=pe;obtain ⟨bn,bo,rfl,_⟩:=kD.sl dq;obtain ⟨d5,d8,rfl,_⟩:=kD.sl dv;obtain ⟨d4,ep,rfl,_⟩:=kD.sl du;clear pr ed ec dq dv ee du el ei en;obtain ⟨f3,fc,fn,fq,fe,fi,sr,f0,fo,fz,fl,fd,dy⟩:=kD.at6 HR.out.raw hm rfl;obtain ⟨sy,sh⟩:∃ z,K[m]=z:=⟨_,rfl⟩;rw [sh] at sr;have sH:=yD sh;clear sh;obtain ⟨fp,fm,fh,se,er,eq,dm,dw,ej,dt,ek,em,eg⟩:=jq sr;simp only [Ae,and_true] at se;obtain ⟨rfl,rfl,rfl,rfl,rfl,rfl⟩:=se;obtain ⟨fk,fw,rfl,_⟩:=kD.sl dm;obtain ⟨fr,fg,rfl,_⟩:=kD.sl dw;obtain ⟨fu,fv,rfl,_⟩:=kD.sl dt;clear sr er eq dm dw ej dt ek em eg;clear HR;obtain ⟨G,o⟩:=yT BO;go_upto_region 13 with fail;have FX:=yD (λ(W:Ad) (hW:Qb dj W)=>kJd hW o d2 dy);refine kM (λW=>Qb dj W) [true,true,true,true,true,true,true,true,true,true,true,true,true] bC3 bC3 pK (bR.drew) ?_;intro wS E;iterate 12
               all_goals refine ku ?_
              all_goals (refine jy λb a6=>?_;cases b <;> try simp only [jw] at a6)
              all_goals refine kS ?_
              all_goals rename Ad=>w8
              all_goals have c7:=E.size
              all_goals replace BY:=kC BY E
              all_goals replace BR:=kC BR E
              all_goals replace BO:=kC BO E
              all_goals replace d2:=cL E d2
              all_goals replace dy:=cL E dy
              all_goals replace J:=yD (J.out.below E)
              all_goals replace U:=(tQ U E)
              all_goals clear G o
              all_goals clear E
              all_goals first
                | (have ap : K[k].2 < K[m].2 := by rw [pH.out, sH.out]; simpa using a6
                   clear a6
                   have HB:=yD (leastA_yes HA.out hlt hm ap)
                   go_wp2
                   go_roundw
                   case rel=>exact ⟨k + 1,k,by go_num,rfl,by omega,by omega,hlt,HB,J,BY,BR,BO,by omega,U⟩
                   case measure=>simp [intOf];omega)
                | skip
              all_goals
                (have ap:¬ K[k].2 < K[m].2:=by rw [pH.out,sH.out];simpa using a6
                 clear a6
                 have HB:=yD (leastA_no HA.out hlt hm ap)
                 go_wp2
                 go_roundw
                 case rel=>exact ⟨k + 1,m,by go_num,rfl,by omega,by omega,hm,HB,J,BY,BR,BO,by omega,U⟩
                 case measure=>simp [intOf];omega)
            · obtain rfl:k=K.length:=bC9;have ff:¬ ((K.length:Int) < K.length):=bC9;have dk:=yD (roomC_full HA.out di);have hw:IntKind.i64.wrap ((m:Int) + 1)=(m:Int) + 1:=IntWalk.i64_in _ bC9;obtain ⟨G,o⟩:=yT BO;go_wp2_with fail;refine (kHu J.out hm bC9).mono ?_;rintro e w8 ⟨v5,rfl,O5,hb⟩;have c7:=hb.size;replace BY:=kC BY hb;replace BR:=kC BR hb;replace BO:=kC BO hb;replace U:=(tQ U hb);clear G o;clear hb;clear J;obtain ⟨R,hR⟩:∃ R,kJm xc K=R:=⟨_,rfl⟩;replace O5:=kD.kR.cast O5 (dk.out.symm.trans hR);have fb:R.length<=K.length:=by rw [<- hR];exact kXv _ _
              have d3:=yD hR;clear hR dk;obtain ⟨ra,rc,rfl⟩:=O5.zP;have J:=yD (O5.wide (T:=(λj=>w.heap.size + 3<=j/\j < w8.heap.size/\j≠V.heap.size)) bU);clear O5;obtain ⟨G,o⟩:=yT BO;obtain ⟨ar,ax⟩:=kCm BO;go_upto_region 16 with fail;generalize F:World.setCell w8 _ _=w9;have aj:Touch (λk=>k=V.heap.size) w8 w9:=vO;replace BO:Qr w9 V.heap.size #[Qn xc,Qs ra R rc] 27:=tT;have de:=aj.size;clear F;replace BY:=aj.kC BY bC9;replace BR:=aj.kC BR bC9;replace J:=yD (J.out.touch aj pJ);replace U:=U.trans (aj.below U.size wM);clear G o ar ax;clear aj;obtain ⟨aq,ah,ad,am,N⟩:=yt BY;obtain ⟨G,o⟩:=yT BO;go_wp2_with fail;refine (kBw (HY.out.below U)).mono ?_;rintro e bj ⟨tc,rfl,O,hb⟩;have c6:=hb.size;replace BY:=kC BY hb;obtain ⟨BR,BO,J,U⟩:=xN;clear aq ah ad am N G o;clear hb;obtain ⟨cf,c2,df,rfl,al,b7,b4,cg,b8,ch,cd⟩:=jb O.raw;obtain ⟨a7,br,rfl,dd⟩:=kD.sl b7;obtain ⟨bx,b9,rfl,db⟩:=kD.sl b4;obtain ⟨be,a8,rfl,c9⟩:=kD.sl b8;clear al b7 b4 cg b8 ch cd;have c0:=yD O;clear O;go_upto_region 17 with fail;generalize F:World.alloc bj _=bu;have H:Qb bj bu:=rM;have BD:Qr bu bj.heap.size #[Qs a7 y0 br,Qs bx y1 b9,Qs be y2 a8,Qn y3,Qn y4] 68:=vB;have dl:bj.heap.size + 1<=bu.heap.size:=bB1;clear F;replace BY:=kC BY H;replace BR:=kC BR H;replace BO:=kC BO H;replace J:=yD (J.out.below H);replace c0:=yD (c0.out.below H);replace U:=(tQ U H);clear H;obtain ⟨G,o⟩:=yT BO;obtain ⟨ay,an,a2,bi,bg⟩:=yt BD;have d9:R.length + 1<=1000000000:=bC9;go_wp2_with (at_builtin;refine kD.kFs rfl _ _ 25 rfl (r:=jD) (e:=111) underlying25 zt rfl bC8 bC8 (w:=bu) (J.out) bD1 bD1 rfl (kD.jv (r:=jJ) (q:=kD.int) (cs:=[.slice a7 y0.length br,.slice bx y1.length b9,.slice be y2.length a8,.int .i64 y3,.int .i64 y4]) (ds:=[.int .i64 t]) (x:=(y0,y1,y2,y3,y4)) (y:=t) c0.out (kD.jB HF.out)) rfl nI d9 ?_);intro v2 cv hQ ab;have hT:Touch (λj=>w.heap.size + 3<=j/\j < w8.heap.size/\j≠V.heap.size) bu cv:=(Touch.of_below (bR.alloc nL _)).trans (ab.wide (λj q=>q.2));have d0:=hT.size;have c5:=ab.size;have eb:bu.heap.size + 1<=cv.heap.size:=by simpa using c5
              clear ab c5;obtain ⟨Z,hZ⟩:∃ Z,R++[((y0,y1,y2,y3,y4),t)]=Z:=⟨_,rfl⟩;have b5:=yD (show Z.length=R.length + 1 by rw [<- hZ];simp);replace hQ:=kD.kR.cast hQ hZ;have HZ:=yD hZ;clear hZ;obtain ⟨ga,gc,rfl⟩:=hQ.zP;have HQ:=yD (kD.kR.wide (T:=λj=>w.heap.size + 3<=j/\j < cv.heap.size/\j≠V.heap.size) hQ cZ);clear hQ J;replace BY:=hT.kC BY bC9;replace BR:=hT.kC BR bC9;replace BO:=hT.kC BO bC9;replace BD:=hT.kC BD bC9;replace U:=U.trans (hT.below U.size wM);clear G o ay an a2 bi bg;clear hT;obtain ⟨G,o⟩:=yT BO;obtain ⟨ar,ax⟩:=kCm BO;go_upto_region 18 with fail;generalize F:World.setCell cv _ _=dn;have bb:Touch (λk=>k=V.heap.size) cv dn:=vO;replace BO:Qr dn V.heap.size #[Qn xc,Qs ga Z gc] 27:=tT;have et:=bb.size;clear F;replace BY:=bb.kC BY bC9;replace BR:=bb.kC BR bC9;replace BD:=bb.kC BD bC9;replace HQ:=yD (HQ.out.touch bb pJ);replace U:=U.trans (bb.below U.size wM);clear G o ar ax;clear bb;exact aC
        · have d3:=yD (roomC_free di);clear X aa G o;obtain ⟨X,aa⟩:=yT BX;obtain ⟨aq,ah,ad,am,N⟩:=yt BY;obtain ⟨G,o⟩:=yT BO;go_wp2_with fail;refine (kBw (HY.out.below U)).mono ?_;rintro e w7 ⟨tc,rfl,O,hb⟩;have dp:=hb.size;replace BX:=kC BX hb;replace BY:=kC BY hb;obtain ⟨BR,BO,J,U⟩:=xN;clear X aa aq ah ad am N G o;clear hb;obtain ⟨cf,c2,df,rfl,al,b7,b4,cg,b8,ch,cd⟩:=jb O.raw;obtain ⟨a7,br,rfl,dd⟩:=kD.sl b7;obtain ⟨bx,b9,rfl,db⟩:=kD.sl b4;obtain ⟨be,a8,rfl,c9⟩:=kD.sl b8;clear al b7 b4 cg b8 ch cd;have c0:=yD O;clear O;go_upto_region 17 with fail;generalize F:World.alloc w7 _=w8;have I:Qb w7 w8:=rM;have BD:Qr w8 w7.heap.size #[Qs a7 y0 br,Qs bx y1 b9,Qs be y2 a8,Qn y3,Qn y4] 68:=vB;have c7:w7.heap.size + 1<=w8.heap.size:=bB1;clear F;replace BX:=kC BX I;replace BY:=kC BY I;replace BR:=kC BR I;replace BO:=kC BO I;replace J:=yD (J.out.below I);replace c0:=yD (c0.out.below I);replace U:=(tQ U I);clear I;obtain ⟨G,o⟩:=yT BO;obtain ⟨ay,an,a2,bi,bg⟩:=yt BD;have d9:K.length + 1<=1000000000:=bC9;go_wp2_with (at_builtin;refine kD.kFs rfl _ _ 25 rfl (r:=jD) (e:=111) underlying25 zt rfl bC8 bC8 (w:=w8) (J.out) bD1 bD1 rfl (kD.jv (r:=jJ) (q:=kD.int) (cs:=[.slice a7 y0.length br,.slice bx y1.length b9,.slice be y2.length a8,.int .i64 y3,.int .i64 y4]) (ds:=[.int .i64 t]) (x:=(y0,y1,y2,y3,y4)) (y:=t) c0.out (kD.jB HF.out)) rfl nI d9 ?_);intro v2 w9 hQ ab;have hT:Touch (λj=>w.heap.size + 3<=j/\j < wq.heap.size/\j≠V.heap.size) w8 w9:=(Touch.of_below (bR.alloc nL _)).trans (ab.wide (λj q=>q.2));have de:=hT.size;have c5:=ab.size;have eb:w8.heap.size + 1<=w9.heap.size:=by simpa using c5
          clear ab c5;obtain ⟨Z,hZ⟩:∃ Z,K++[((y0,y1,y2,y3,y4),t)]=Z:=⟨_,rfl⟩;have b5:=yD (show Z.length=K.length + 1 by rw [<- hZ];simp);replace hQ:=kD.kR.cast hQ hZ;have HZ:=yD hZ;clear hZ;obtain ⟨ga,gc,rfl⟩:=hQ.zP;have HQ:=yD (kD.kR.wide (T:=λj=>w.heap.size + 3<=j/\j < w9.heap.size/\j≠V.heap.size) hQ cZ);clear hQ J;replace BX:=hT.kC BX bC9;replace BY:=hT.kC BY bC9;replace BR:=hT.kC BR bC9;replace BO:=hT.kC BO bC9;replace BD:=hT.kC BD bC9;replace U:=U.trans (hT.below U.size wM);clear G o ay an a2 bi bg;clear hT;obtain ⟨G,o⟩:=yT BO;obtain ⟨ar,ax⟩:=kCm BO;go_upto_region 18 with fail;generalize F:World.setCell w9 _ _=bj;have bq:Touch (λk=>k=V.heap.size) w9 bj:=vO;replace BO:Qr bj V.heap.size #[Qn xc,Qs ga Z gc] 27:=tT;have c6:=bq.size;clear F;replace BX:=bq.kC BX bC9;replace BY:=bq.kC BY bC9;replace BR:=bq.kC BR bC9;replace BD:=bq.kC BD bC9;replace HQ:=yD (HQ.out.touch bq pJ);replace U:=U.trans (bq.below U.size wM);clear G o ar ax;clear bq;exact aC
      · obtain ⟨k,hlt,ac⟩:=kIf hf;rw [ac];have eu:=yD ((otherC_step hlt ac).trans HA.out);clear hf;have bp:(0:Int)<=k:=bC9;obtain ⟨G,o⟩:=yT BO;go_wp2_with fail;refine (kHu J.out hlt bC9).mono ?_;rintro e w7 ⟨v5,rfl,O5,hb⟩;have dp:=hb.size;replace BX:=kC BX hb;replace BY:=kC BY hb;replace BR:=kC BR hb;replace BO:=kC BO hb;replace U:=(tQ U hb);clear G o;clear hb;have ag:(C.take k++C.drop (k + 1)).length < C.length:=bC4;clear J;generalize C.take k++C.drop (k + 1)=D at *;obtain ⟨da,dc,rfl⟩:=O5.zP;have J:=yD (O5.wide (T:=(λj=>w.heap.size + 3<=j/\j < w7.heap.size/\j≠V.heap.size)) bU);clear O5;obtain ⟨G,o⟩:=yT BO;obtain ⟨ar,ax⟩:=kCm BO;go_upto_region 6 with fail;generalize F:World.setCell w7 _ _=w8;have ai:Touch (λk=>k=V.heap.size) w7 w8:=vO;replace BO:Qr w8 V.heap.size #[Qn xc,Qs da D dc] 27:=tT;have c7:=ai.size;clear F;replace BX:=ai.kC BX bC9;replace BY:=ai.kC BY bC9;replace BR:=ai.kC BR bC9;replace J:=yD (J.out.touch ai pJ);replace U:=U.trans (ai.below U.size wM);clear G o ar ax;clear ai;obtain ⟨G,o⟩:=yT BO;obtain ⟨aq,ah,ad,am,N⟩:=yt BY;go_wp2_with fail;refine (kEx (J.out.own wH).raw (cn:=[.slice bc y0.length au]) (af.out.below U)).mono ?_;rintro e w9 ⟨rfl,hb⟩;have de:=hb.size;replace BX:=kC BX hb;replace BY:=kC BY hb;obtain ⟨BR,BO,J,U⟩:=xN;clear G o aq ah ad am N;clear hb;have ey:=yD (lenAt_eq BO);go_wp2;go_roundw;case rel=>exact ⟨D,da,dc,rfl,eu,by omega,yD (J.out.wide (λj q=>⟨q.1,by have:=q.2.1;omega,q.2.2⟩)),BX,BY,BR,BO,by omega,U⟩
        case measure=>rw [ew.out,ey.out];exact ag)
end Go.Proofs.YtonmjkmaadgceabGreat
