/-
  Data kept: the entries of the name go, the one least lately used goes if there is no room.
-/
import Derived.Test.YthocbplmdjkifabGreatWoC
set_option linter.unusedVariables false
set_option linter.defProp false
set_option linter.unusedSimpArgs false
set_option linter.unnecessarySimpa false
set_option maxRecDepth 100000
set_option maxHeartbeats 4000000
open Bool renaming true->Tt,false->Ff
open Int renaming natCast_nonneg->Aa,ofNat_lt->Ah
open Go renaming World->Ab,bodyPost_ret->Ag
open List renaming getElem?_cons_succ->Ac,getElem?_cons_zero->Ad,drop_succ_cons->Aj,filter_append->Ak,length_cons->Am,cons_append->Ap
open _root_ renaming List->Ae
open Go.Proofs.Tryz renaming underlying25->Ai
open Go.Value.slice renaming injEq->Al
namespace Go.Proofs.YthocbplmdjkifabGreat
open Go.RowKit _root_.Go.Proofs.Tryz
variable {l:Ae kW} {y:jK} {t c:Int} {x:kr} {w:Ab} {cx cy:Ae Value} {k b:Nat} {n:kU}
def lastU (l:Ae kW) (k:Nat):Int:=(l.map Prod.snd).getD k 0
def kQr (h:k < l.length):lastU l k=l[k].2:=by
 unfold lastU;rw [List.getD_eq_getElem?_getD,List.getElem?_eq_getElem bH8];simp
def kEg (l:Ae kW):Nat->Nat
  | 0=>0
  | k + 1=>if lastU l k < lastU l (kEg l k) then k else kEg l k
def jGm {l:Ae kW} (h:0 < l.length):∀ k:Nat,k<=l.length->kEg l k < l.length
  | 0,_=>h
  | k + 1,hk=>by
    unfold kEg;split;omega
    · exact jGm h k bJ5
def leastA_one (l:List kW):kEg l 1=0:=by simp [kEg]
def jCs (hb:kEg l k=b) (hk:k < l.length) (bk:b < l.length) (h:l[k].2 < l[b].2):kEg l (k + 1)=k:=by
 unfold kEg;rw [hb,kQr hk,kQr bk,if_pos h]
def jGl (hb:kEg l k=b) (hk:k < l.length) (bk:b < l.length) (h:¬ l[k].2 < l[b].2):kEg l (k + 1)=b:=by
 unfold kEg;rw [hb,kQr hk,kQr bk,if_neg h]
def kCr (y:jK) (x:kr):Bool:=decide (x.1 < 1) || !kBr y
def kBk (n:kU) (l:Ae kW):Ae kW:=l.filter (λe=>!isC n e)
def kFh (c:Int) (l:Ae kW):Ae kW:=if c<=l.length then l.take (kEg l l.length)++l.drop (kEg l l.length + 1) else l
def kAv (y:jK) (t:Int) (x:kr):kr:=if kCr y x then x else (x.1,kFh x.1 (kBk y.1 x.2)++[(y,t)])
def kJe (h:kCr y x=true):kAv y t x=x:=by unfold kAv;rw [h];rfl
def kGm (h:kCr y x=false):kAv y t x=(x.1,kFh x.1 (kBk y.1 x.2)++[(y,t)]):=by unfold kAv;rw [h];rfl
def kSr {l:List kW} (hb:kEg l l.length=b) (h:c<=l.length):kFh c l=l.take b++l.drop (b + 1):=by unfold kFh;rw [if_pos h,hb]
def kSs {l:List kW} (h:¬ c<=l.length):kFh c l=l:=by unfold kFh;rw [if_neg h]
def kWg (c:Int) (l:Ae kW):(kFh c l).length<=l.length:=by
 unfold kFh;split;simp;omega;exact Nat.le_refl _
def lenAt (w:Ab) (b j:Nat):Nat:=match w.cell? ⟨b,j,none⟩ with
  | some (.slice _ n _)=>n
  | _=>0
def lenAt_eq {c:Value} {a:Option Addr} {n cap:Nat} {t:TypeId} (h:Qr w b #[c,.slice a n cap] t):lenAt w b 1=n:=by
 unfold lenAt;rw [kE h (j:=1) (v:=.slice a n cap) rfl]
def jCj (n:kU) (l:Ae kW):(kBk n l).length<=l.length:=List.length_filter_le _ _
def otherC_no (h:idxOf (isC n) l < 0):kBk n l=l:=by
 unfold kBk;rw [List.filter_eq_self];intro a ha;unfold idxOf at h;cases hf:l.findIdx? (isC n) with
 | none=>rw [List.findIdx?_eq_none_iff.1 hf a ha];rfl
 | some j=>rw [hf] at h;simp only at h;omega
def otherC_step (hk:k < l.length) (h:idxOf (isC n) l=k):kBk n (l.take k++l.drop (k + 1))=kBk n l:=by
 unfold idxOf at h;cases hf:l.findIdx? (isC n) with
 | none=>rw [hf] at h;simp only at h;omega
 | some j =>
   rw [hf] at h;simp only at h;obtain rfl:j=k:=bJ5;have hp:=(List.findIdx?_eq_some_iff_getElem.1 hf).2.1;unfold kBk
   conv=>rhs;rw [<- List.take_append_drop j l,List.drop_eq_getElem_cons hk]
   rw [Ak,Ak,List.filter_cons,hp];simp
def kXc {cc:Ae Value} {c:kW} (hc:kz.raw w cc c) {bm br bo R V:Value} {H:Nat} (yr:jC.raw w [bm,br,bo,R,V] y) (E:Qc w H 0 bm) (bc:Qc w H 1 br) (a1:Qc w H 2 bo) (D:Qc w H 3 R) (F:Qc w H 4 V) :
    Calls prog 97 (#[.agg cc.toArray]++#[.pointer (Qa H)]) w (bQ w (.bool (!isC y.1 c))):=by
 have Hc:=yD hc;obtain ⟨aj,ao,ap,rfl,ar,Z,ab,O,aq,Y,ax,ay,an⟩:=kAs hc;obtain ⟨az,aw,rfl,am,ag,au,rfl,al,av,ai,rfl,ae⟩:=kD.sx ab (kD.sx O (kD.sl Y));obtain ⟨rfl,rfl,bp,bj,bv,b0,cg,c3,c4⟩:=kBa yr;obtain ⟨ak,a3,rfl,es,b5,b3,rfl,d7,b2,bq,rfl,ev⟩:=kD.sx bj (kD.sx bv (kD.sl cg));show Calls prog 97 #[_,_] w _;go_enter func97,ntmps97;go_upto_region 1 with fail;refine oM λX EB N=>?_;obtain ⟨ah,J,U,aa,ac,a4⟩:=kYd N;clear N;refine aJ EB E bc a1 λE bc a1=>?_;refine aL EB D F λD F=>?_;have FX:=yD (λ(W:Ab) (hW:Qb X W)=>cLs11 hW ah J U aa ac a4 E bc a1 D F);refine kX (λW=>Qb X W) [Tt,Tt,Tt,Tt,Tt,Ff,Tt,Tt] bR ?_;refine PM λwS I=>?_;all_goals ((first | refine wkB (yI (kD.raw.below Z (tQ EB I)) (kD.raw.below bp (tQ EB I))) (λwS1 I=>?_) | refine kZ ?_);refine kZ ?_;refine jo λb af=>?_;cases b <;> try simp only [jm] at af)
 all_goals (refine kR ?_;have G:=(tQ EB I))
 all_goals (obtain ⟨vq,qv⟩:∃ qc,(!isC y.1 c)=qc:=⟨_,rfl⟩;have L:=yD qv;simp only [isC,Q0,af] at qv;subst qv;go_wp2;go_ret;exact ⟨kJ L.symm,G⟩)
def kKm:jL prog 97:=yK func97 bI9 bI9
def kIo (hx:kS.rd w cx x) (hy:jC.rd w cy y) (ht:Qi t) (hB:x.2.length<=16777215) :
    Calls prog 52 #[.agg cx.toArray,.agg cy.toArray,.int .i64 t] w (kAm kS (kAv y t x) w):=by
 obtain ⟨xc,xe⟩:=x;obtain ⟨y0,y1,y2,y3,y4⟩:=y;refine aN hx hy λHX HY=>?_;have HF:=yD ht;have b4:xe.length<=16777215:=hB;obtain ⟨dl,rfl,db,cw⟩:=jM hx.1;obtain ⟨bf,bt,rfl,xl⟩:=kD.sl cw;have ae:Qi xc:=db;obtain ⟨ek,e5,e4,rfl,bp,bj,bv,b0,cg,c3,c4⟩:=jT hy.1;obtain ⟨ak,a3,rfl,es,b5,b3,rfl,d7,b2,bq,rfl,ev⟩:=kD.sx bj (kD.sx bv (kD.sl cg));refine JR λc5 eh=>?_;clear hx hy ht hB db cw xl bp bj bv b0 cg c3 c4;go_enter func52,ntmps52;go_upto_region 1 with fail;refine l9 λw1 G H=>?_;refine JI λBX BY=>?_;refine CY λBR br V Y=>?_;clear G;go_wp2_with fail;refine (kRv (HX.below H)).mono ?_;refine eD λw2 kv O hb=>?_;have b8:=hb.size;refine aA BX hb BY λBX BY=>?_;replace BR:=kC BR hb;replace H:=(tQ H hb);clear V Y hb;replace O:=kD.ko.cast O (show _=xe from rfl);obtain ⟨oa,oc,rfl⟩:=O.zK;have F:=yD (O.wide (T:=(λj=>w.heap.size + 3<=j/\j < w2.heap.size)) vH);clear O;go_upto_region 2 with fail;refine iC λw3 an BO cv=>?_;refine aA BX an BY λBX BY=>?_;replace BR:=kC BR an;refine MH an λF H=>?_;clear an;obtain ⟨V,Y⟩:=yA BX;obtain ⟨a6,ax,ai,bc,ah⟩:=jP BY;go_upto_region 2 with fail;have FX:=yD (λ(W:Ab) (hW:Qb w3 W)=>kPa hW V a6 ax ai bc ah);refine kX (λW=>Qb w3 W) [Tt,Tt,Tt,Tt,Tt,Ff,Tt,Tt] bR ?_;refine uB λwS I=>?_;all_goals (refine jo λb a1=>?_;cases b <;> try simp only [jm] at a1)
 all_goals (refine kZ ?_;(first | refine wkB (kDx (c5.below (tQ H I))) (λwS1 I=>?_) | refine kZ ?_);refine kZ ?_;refine jo λb af=>?_;cases b <;> try simp only [jm] at af)
 all_goals refine kR ?_
 all_goals rename Ab=>w4
 all_goals (have de:=I.size;replace BX:=kC BX I;replace BY:=kC BY I;replace BR:=kC BR I;replace BO:=kC BO I;replace F:=yD (F.below I);replace H:=(tQ H I);clear V Y a6 ax ai bc ah;clear I)
 all_goals first
   | (have L := yD (kJe (t := t) (show kCr (y0, y1, y2, y3, y4) (xc, xe) = true by simp only [kCr, Q0, a1, af]))
      obtain ⟨U,N⟩:=yA BO
      obtain ⟨a9,bb⟩:=yA BR
      obtain ⟨be,bd⟩:=kCg BR
      go_wp2
      refine Ag (v:=.agg #[Qn xc,Qs oa xe oc]) nQ rfl ⟨[Qn xc,Qs oa xe oc],rfl,?_,?_⟩
      rw [L.out];exact ((show kS.own _ _ (xc,xe) _ from kD.kCp (r:=kD.int) (q:=Cn) (cs:=[.int .i64 xc]) (kD.jB ae) (F.own bE7)).touch sT2 vN).wide gW
      · exact H.trans (Touch.below sT2 H.size bF2))
   | skip
 all_goals
   (have dk:=yD (show kCr (y0,y1,y2,y3,y4) (xc,xe)=false by simp only [kCr,Q0,a1,af])
    have cq:¬ xc < 1:=by simpa using a1
    clear a1 af
    obtain ⟨U,N⟩:=yA BO
    obtain ⟨a6,ax,ai,bc,ah⟩:=jP BY
    go_wp2_with fail
    refine (kHz (F.own bE7).raw (cn:=[.slice ak y0.length a3]) (eh.below H)).mono ?_
    rintro e w5 ⟨rfl,hb⟩
    have df:=hb.size
    replace BX:=kC BX hb
    replace BY:=kC BY hb
    obtain ⟨BR,BO,F,H⟩:=WG
    clear U N a6 ax ai bc ah hb
    go_wp2
    go_loopw [8] (λi wr=>∃ (C:Ae kW) (ca:Option Addr) (cc:Nat),i=.int .i64 (idxOf (isC y0) C)/\Hid (kBk y0 C=kBk y0 xe)/\C.length<=xe.length/\Hid (kD.ko 135 kz wr (Qs ca C cc) C (λj=>w.heap.size + 3<=j/\j < wr.heap.size/\j≠w2.heap.size))/\Qr wr w #[Qn xc,Qs bf xe bt] 27/\Qr wr (w.heap.size + 1) (Qj ak y0 a3 b5 y1 b3 b2 y2 bq y3 y4) 43/\Qr wr (w.heap.size + 2) #[Qn 0,.slice none 0 0] 27/\Qr wr w2 #[Qn xc,Qs ca C cc] 27/\w5.heap.size<=wr.heap.size/\Qb w wr) (λ_ wr=>lenAt wr (w2.heap.size) 1)
    case atStart=>exact ⟨xe,oa,oc,rfl,yD rfl,Nat.le_refl _,yD (F.wide (λj q=>⟨q.1,by have:=q.2;omega,by have:=q.2;omega⟩)),BX,BY,BR,BO,Nat.le_refl _,H⟩
    case round =>
      rename Ab=>wq;clear H BX BY BR BO F;obtain ⟨C,ca,cc,rfl,HA,hC,F,BX,BY,BR,BO,iw,H⟩:=hrel;have aq:=yD (lenAt_eq BO);by_cases hf:idxOf (isC y0) C < 0
      · have el:¬ (0<=idxOf (isC y0) C):=bJ5;have HK:=yD (HA.symm.trans (otherC_no hf));generalize idxOf (isC y0) C=ix at *;have fo:=hC;obtain ⟨K,ba⟩:∃ K,K=C:=⟨_,rfl⟩;subst ba;obtain ⟨ka,ap⟩:∃ k,k=ca:=⟨_,rfl⟩;subst ap;obtain ⟨kc,cz⟩:∃ k,k=cc:=⟨_,rfl⟩;subst cz;obtain ⟨U,N⟩:=yA BO;by_cases ac:xc<=(K.length:Int)
        · have d2:0 < K.length:=bJ5;obtain ⟨kb,fm,hv,bn,e9,a2,a5⟩:=kD.kAp F.out d2;simp only [Al,true_and] at hv;obtain ⟨rfl,rfl⟩:=hv;clear bn U N;obtain ⟨V,Y⟩:=yA BX;obtain ⟨U,N⟩:=yA BO;go_wp2;go_loopw [9,10] (λb i wr=>∃ (k m:Nat),i=.int .i64 k/\b=.int .i64 m/\1<=k/\k<=K.length/\m < K.length/\Hid (kEg K k=m)/\Hid (kD.ko 135 kz wr (.slice (Qa kb) K.length kc) K (λj=>w.heap.size + 3<=j/\j < wq.heap.size/\j≠w2.heap.size))/\Qr wr (w.heap.size + 1) (Qj ak y0 a3 b5 y1 b3 b2 y2 bq y3 y4) 43/\Qr wr (w.heap.size + 2) #[Qn 0,.slice none 0 0] 27/\Qr wr w2 #[Qn xc,.slice (Qa kb) K.length kc] 27/\wq.heap.size<=wr.heap.size/\Qb w wr) (λ_ i _=>K.length - (intOf i).toNat);case atStart=>exact ⟨1,0,rfl,rfl,by omega,by omega,d2,yD (leastA_one K),F,BY,BR,BO,Nat.le_refl _,H⟩
          case round =>
            rename Ab=>ep;clear H BX BY BR BO F;obtain ⟨k,m,rfl,rfl,d4,hk,hm,HA,F,BY,BR,BO,iw,H⟩:=hrel;have dt:=Aa k;have b1:=Aa m;have ck:=Ah.2 hm;by_cases hlt:k < K.length
            · have em:=Ah.2 hlt;have HR:=yD (F.own bE7);obtain ⟨bl,ce,ch,d0,dx,e8,pr,J,c6,a4,ff,fu,dg⟩:=kD.at6 HR.raw hlt rfl;obtain ⟨py,ph⟩:∃ z,K[k]=z:=⟨_,rfl⟩;rw [ph] at pr;have pH:=yD ph;clear ph;obtain ⟨rfl,rfl,rfl,d9,d8,c9,di,ea,dh,er,eg,e3⟩:=yM pr;obtain ⟨bx,bz,rfl,_,dr,dy,rfl,_,dp,d1,rfl,_⟩:=kD.sx c9 (kD.sx di (kD.sl dh));clear pr d9 d8 c9 di ea dh er eg e3;obtain ⟨fv,d3,fq,fj,fc,fe,sr,fr,fi,fp,fh,fb,aj⟩:=kD.at6 HR.raw hm rfl;obtain ⟨sy,sh⟩:∃ z,K[m]=z:=⟨_,rfl⟩;rw [sh] at sr;have sH:=yD sh;clear sh;obtain ⟨rfl,rfl,rfl,e7,e6,c8,dj,en,dd,eo,e1,ec⟩:=yM sr;obtain ⟨fg,fl,rfl,_,eb,fd,rfl,_,f4,fk,rfl,_⟩:=kD.sx c8 (kD.sx dj (kD.sl dd));clear sr e7 e6 c8 dj en dd eo e1 ec HR;obtain ⟨U,N⟩:=yA BO;go_upto_region 13 with fail;have FX:=yD (λ(W:Ab) (hW:Qb ep W)=>kJf hW N dg aj);refine kN (λW=>Qb ep W) [Tt,Tt,Tt,Tt,Tt,Tt,Tt,Tt,Tt,Tt,Tt,Tt,Tt] bI9 bI9 sD (bR.drew) ?_;intro wS I;all_goals ((iterate 12 refine kZ ?_);refine jo λb ab=>?_;cases b <;> try simp only [jm] at ab)
              all_goals refine kR ?_
              all_goals rename Ab=>w8
              all_goals (have eq:=I.size;replace BY:=kC BY I;replace BR:=kC BR I;replace BO:=kC BO I;replace dg:=cL I dg;replace aj:=cL I aj;replace F:=yD (F.below I);replace H:=(tQ H I);clear U N;clear I)
              all_goals first
                | (have aa : K[k].2 < K[m].2 := by rw [pH.out, sH.out]; simpa using ab
                   clear ab
                   have HB:=yD (jCs HA.out hlt hm aa)
                   go_wp2
                   go_roundw
                   case rel=>exact ⟨k + 1,k,by go_num,rfl,by omega,by omega,hlt,HB,F,BY,BR,BO,by omega,H⟩
                   case measure=>simp [intOf];omega)
                | skip
              all_goals
                (have aa:¬ K[k].2 < K[m].2:=by rw [pH.out,sH.out];simpa using ab
                 clear ab
                 have HB:=yD (jGl HA.out hlt hm aa)
                 go_wp2
                 go_roundw
                 case rel=>exact ⟨k + 1,m,by go_num,rfl,by omega,by omega,hm,HB,F,BY,BR,BO,by omega,H⟩
                 case measure=>simp [intOf];omega)
            · obtain rfl:k=K.length:=bJ5;have g4:¬ ((K.length:Int) < K.length):=bJ5;have c7:=yD (kSr HA.out ac);obtain ⟨U,N⟩:=yA BO;go_wp2_with fail;refine (kMe F.out hm bJ5).mono ?_;rintro e w8 ⟨v5,rfl,O5,hb⟩;have eq:=hb.size;replace BY:=kC BY hb;replace BR:=kC BR hb;replace BO:=kC BO hb;replace H:=(tQ H hb);clear U N hb F;obtain ⟨R,hR⟩:∃ R,kFh xc K=R:=⟨_,rfl⟩;replace O5:=kD.ko.cast O5 (c7.symm.trans hR);have h7:R.length<=K.length:=by rw [<- hR];exact kWg _ _
              have dn:=yD hR;clear hR c7;obtain ⟨ra,rc,rfl⟩:=O5.zK;have F:=yD (O5.wide (T:=(λj=>w.heap.size + 3<=j/\j < w8.heap.size/\j≠w2.heap.size)) dA);clear O5;obtain ⟨U,N⟩:=yA BO;obtain ⟨ao,ar⟩:=kCg BO;go_upto_region 16 with fail;generalize G:World.setCell w8 _ _=w9;have X:Touch (λk=>k=w2.heap.size) w8 w9:=bD0;replace BO:Qr w9 w2 #[Qn xc,Qs ra R rc] 27:=bB2;have d6:=X.size;clear G;replace BY:=X.kC BY bJ5;replace BR:=X.kC BR bJ5;replace F:=yD (F.touch X rU);replace H:=H.trans (X.below H.size bF2);clear U N ao ar X;obtain ⟨a6,ax,ai,bc,ah⟩:=jP BY;go_wp2_with fail;refine (kBv (HY.below H)).mono ?_;rintro e bo ⟨tc,rfl,O,hb⟩;have dv:=hb.size;obtain ⟨BR,BO,F,H⟩:=WG;clear a6 ax ai bc ah hb;obtain ⟨ed,et,e0,rfl,bh,bu,bw,co,dw,ej,ei⟩:=jT O.raw;obtain ⟨a7,b7,rfl,ez,bg,c2,rfl,ew,a8,cl,rfl,eu⟩:=kD.sx bu (kD.sx bw (kD.sl dw));clear bh bu bw co dw ej ei;have ey:=yD O;clear O;go_upto_region 17 with fail;refine jZ ?_;intro cf E BD ef;replace BR:=kC BR E;replace BO:=kC BO E;replace F:=yD (F.below E);replace ey:=yD (ey.below E);replace H:=(tQ H E);clear E;obtain ⟨U,N⟩:=yA BO;obtain ⟨au,aw,bi,bm,bk⟩:=jP BD;have dz:R.length + 1<=1000000000:=bJ5;go_wp2_with (at_builtin;refine kD.kBd rfl _ _ 25 rfl (r:=kz) (e:=135) Ai zH rfl bJ4 bJ4 (w:=cf) (F.out) bJ7 bJ7 rfl (kD.yR (r:=jC) (q:=kD.int) (cs:=[.slice a7 y0.length b7,.slice bg y1.length c2,.slice a8 y2.length cl,.int .i64 y3,.int .i64 y4]) (ds:=[.int .i64 t]) (x:=(y0,y1,y2,y3,y4)) (y:=t) ey.out (kD.jB HF.out)) rfl qO dz ?_);intro v2 b6 hQ c1;have hT:Touch (λj=>w.heap.size + 3<=j/\j < w8.heap.size/\j≠w2.heap.size) cf b6:=(Touch.of_below (bR.alloc nL _)).trans (c1.wide (λj q=>q.2));have fn:=c1.size;have ha:cf.heap.size + 1<=b6.heap.size:=bG5;clear c1 fn;obtain ⟨Z,hZ⟩:∃ Z,R++[((y0,y1,y2,y3,y4),t)]=Z:=⟨_,rfl⟩;have du:=yD (show Z.length=R.length + 1 by rw [<- hZ];simp);replace hQ:=kD.ko.cast hQ hZ;have HZ:=yD hZ;clear hZ;obtain ⟨ga,gc,rfl⟩:=hQ.zK;have HQ:=yD (kD.ko.wide (T:=λj=>w.heap.size + 3<=j/\j < b6.heap.size/\j≠w2.heap.size) hQ dO);clear hQ F;obtain ⟨BR,BO,H⟩:=WE;clear U N au aw bi bm bk hT;obtain ⟨U,N⟩:=yA BO;obtain ⟨ao,ar⟩:=kCg BO;go_upto_region 18 with fail;generalize G:World.setCell b6 _ _=d5;have ay:Touch (λk=>k=w2.heap.size) b6 d5:=bD0;replace BO:Qr d5 w2 #[Qn xc,Qs ga Z gc] 27:=bB2;have ft:=ay.size;clear G;replace BR:=ay.kC BR bJ5;replace HQ:=yD (HQ.touch ay rU);replace H:=H.trans (ay.below H.size bF2);clear U N ao ar ay;exact UI
        · have dn:=yD (kSs ac);clear U N;obtain ⟨V,Y⟩:=yA BX;obtain ⟨a6,ax,ai,bc,ah⟩:=jP BY;obtain ⟨U,N⟩:=yA BO;go_wp2_with fail;refine (kBv (HY.below H)).mono ?_;rintro e w7 ⟨tc,rfl,O,hb⟩;have dm:=hb.size;obtain ⟨BR,BO,F,H⟩:=WG;clear V Y a6 ax ai bc ah U N hb;obtain ⟨ed,et,e0,rfl,bh,bu,bw,co,dw,ej,ei⟩:=jT O.raw;obtain ⟨a7,b7,rfl,ez,bg,c2,rfl,ew,a8,cl,rfl,eu⟩:=kD.sx bu (kD.sx bw (kD.sl dw));clear bh bu bw co dw ej ei;have ey:=yD O;clear O;go_upto_region 17 with fail;refine jZ ?_;intro w8 cd BD eq;replace BR:=kC BR cd;replace BO:=kC BO cd;replace F:=yD (F.below cd);replace ey:=yD (ey.below cd);replace H:=(tQ H cd);clear cd;obtain ⟨U,N⟩:=yA BO;obtain ⟨au,aw,bi,bm,bk⟩:=jP BD;have dz:K.length + 1<=1000000000:=bJ5;go_wp2_with (at_builtin;refine kD.kBd rfl _ _ 25 rfl (r:=kz) (e:=135) Ai zH rfl bJ4 bJ4 (w:=w8) (F.out) bJ7 bJ7 rfl (kD.yR (r:=jC) (q:=kD.int) (cs:=[.slice a7 y0.length b7,.slice bg y1.length c2,.slice a8 y2.length cl,.int .i64 y3,.int .i64 y4]) (ds:=[.int .i64 t]) (x:=(y0,y1,y2,y3,y4)) (y:=t) ey.out (kD.jB HF.out)) rfl qO dz ?_);intro v2 w9 hQ c1;have hT:Touch (λj=>w.heap.size + 3<=j/\j < wq.heap.size/\j≠w2.heap.size) w8 w9:=(Touch.of_below (bR.alloc nL _)).trans (c1.wide (λj q=>q.2));have fn:=c1.size;have ha:w8.heap.size + 1<=w9.heap.size:=bG5;clear c1 fn;obtain ⟨Z,hZ⟩:∃ Z,K++[((y0,y1,y2,y3,y4),t)]=Z:=⟨_,rfl⟩;have du:=yD (show Z.length=K.length + 1 by rw [<- hZ];simp);replace hQ:=kD.ko.cast hQ hZ;have HZ:=yD hZ;clear hZ;obtain ⟨ga,gc,rfl⟩:=hQ.zK;have HQ:=yD (kD.ko.wide (T:=λj=>w.heap.size + 3<=j/\j < w9.heap.size/\j≠w2.heap.size) hQ dO);clear hQ F;obtain ⟨BR,BO,H⟩:=WE;clear U N au aw bi bm bk hT;obtain ⟨U,N⟩:=yA BO;obtain ⟨ao,ar⟩:=kCg BO;go_upto_region 18 with fail;generalize G:World.setCell w9 _ _=bo;have av:Touch (λk=>k=w2.heap.size) w9 bo:=bD0;replace BO:Qr bo w2 #[Qn xc,Qs ga Z gc] 27:=bB2;have dv:=av.size;clear G;replace BR:=av.kC BR bJ5;replace HQ:=yD (HQ.touch av rU);replace H:=H.trans (av.below H.size bF2);clear U N ao ar av;exact UI
      · obtain ⟨k,hlt,al⟩:=kCo hf;rw [al];have am:=yD ((otherC_step hlt al).trans HA.out);clear hf;have dt:(0:Int)<=k:=bJ5;obtain ⟨U,N⟩:=yA BO;go_wp2_with fail;refine (kMe F.out hlt bJ5).mono ?_;rintro e w7 ⟨v5,rfl,O5,hb⟩;have dm:=hb.size;replace BX:=kC BX hb;replace BY:=kC BY hb;replace BR:=kC BR hb;replace BO:=kC BO hb;replace H:=(tQ H hb);clear U N hb;have ag:(C.take k++C.drop (k + 1)).length < C.length:=bJ0;clear F;generalize C.take k++C.drop (k + 1)=D at *;obtain ⟨da,dc,rfl⟩:=O5.zK;have F:=yD (O5.wide (T:=(λj=>w.heap.size + 3<=j/\j < w7.heap.size/\j≠w2.heap.size)) dA);clear O5;obtain ⟨U,N⟩:=yA BO;obtain ⟨ao,ar⟩:=kCg BO;go_upto_region 6 with fail;generalize G:World.setCell w7 _ _=w8;have b9:Touch (λk=>k=w2.heap.size) w7 w8:=bD0;replace BO:Qr w8 w2 #[Qn xc,Qs da D dc] 27:=bB2;have eq:=b9.size;clear G;replace BX:=b9.kC BX bJ5;replace BY:=b9.kC BY bJ5;replace BR:=b9.kC BR bJ5;replace F:=yD (F.touch b9 rU);replace H:=H.trans (b9.below H.size bF2);clear U N ao ar b9;obtain ⟨U,N⟩:=yA BO;obtain ⟨a6,ax,ai,bc,ah⟩:=jP BY;go_wp2_with fail;refine (kHz (F.own bE7).raw (cn:=[.slice ak y0.length a3]) (eh.below H)).mono ?_;rintro e w9 ⟨rfl,hb⟩;have d6:=hb.size;replace BX:=kC BX hb;replace BY:=kC BY hb;obtain ⟨BR,BO,F,H⟩:=WG;clear U N a6 ax ai bc ah hb;have az:=yD (lenAt_eq BO);go_wp2;go_roundw;case rel=>exact ⟨D,da,dc,rfl,am,by omega,yD (F.wide rO),BX,BY,BR,BO,by omega,H⟩
        case measure=>rw [aq.out,az.out];exact ag)
def kZr (hx:kS.rd w cx x) (hy:jC.rd w cy y) (ht:Qi t) (hB:x.2.length<=16777215) :
    Calls prog 38 #[.agg cx.toArray,.agg cy.toArray,.int .i64 t] w (kAm kS (kAv y t x) w):=by
 obtain ⟨xc,xe⟩:=x;obtain ⟨y0,y1,y2,y3,y4⟩:=y;refine aN hx hy λHX HY=>?_;have HF:=yD ht;have b4:xe.length<=16777215:=hB;obtain ⟨dl,rfl,db,cw⟩:=jM hx.1;obtain ⟨bf,bt,rfl,xl⟩:=kD.sl cw;have ae:Qi xc:=db;have av:=ae.1;have aw:=ae.2;obtain ⟨ek,e5,e4,rfl,bp,bj,bv,b0,cg,c3,c4⟩:=jT hy.1;obtain ⟨ak,a3,rfl,es,b5,b3,rfl,d7,b2,bq,rfl,ev⟩:=kD.sx bj (kD.sx bv (kD.sl cg));refine JR λc5 eh=>?_;clear hx hy ht hB db cw xl bp bj bv b0 cg c3 c4;go_enter func38,ntmps38;go_upto_region 1 with fail;refine l9 λw1 G H=>?_;refine JI λBX BY=>?_;refine CY λBR br V Y=>?_;clear G;obtain ⟨a6,ax,ai,bc,ah⟩:=jP BY;go_upto_region 1 with fail;have FX:=yD (λ(W:Ab) (hW:Qb w1 W)=>kPa hW V a6 ax ai bc ah);refine kX (λW=>Qb w1 W) [Tt,Tt,Tt,Tt,Tt,Ff,Tt,Tt] bR ?_;refine uB λwS I=>?_;all_goals (refine jo λb a1=>?_;cases b <;> try simp only [jm] at a1)
 all_goals (refine kZ ?_;(first | refine wkB (kFz (c5.below (tQ H I))) (λwS1 I=>?_) | refine kZ ?_);refine kZ ?_;refine jo λb af=>?_;cases b <;> try simp only [jm] at af)
 all_goals refine kR ?_
 all_goals rename Ab=>w2
 all_goals (have b8:=I.size;replace BX:=kC BX I;replace BY:=kC BY I;replace BR:=kC BR I;replace H:=(tQ H I);clear V Y a6 ax ai bc ah;clear I)
 all_goals first
   | (have L := yD (kJe (t := t) (show kCr (y0, y1, y2, y3, y4) (xc, xe) = true by simp only [kCr, Q0, a1, af]))
      obtain ⟨V,Y⟩:=yA BX
      go_wp2_with fail
      refine (kOk (HX.below H)).mono ?_
      rintro e w3 ⟨cs,rfl,O,hb⟩
      have cv:=hb.size
      replace BX:=kC BX hb
      replace BY:=kC BY hb
      replace BR:=kC BR hb
      replace H:=(tQ H hb)
      clear V Y hb
      obtain ⟨au,rfl,ab,D⟩:=jM O.raw
      obtain ⟨oa,op,rfl,_⟩:=kD.sl D
      clear ab D
      obtain ⟨a9,bb⟩:=yA BR
      obtain ⟨be,bd⟩:=kCg BR
      go_wp2
      refine Ag (v:=.agg #[Qn xc,Qs oa xe op]) nR rfl ⟨[Qn xc,Qs oa xe op],rfl,?_,?_⟩
      rw [L.out];exact (O.touch sT2 vN).wide gW
      · exact H.trans (Touch.below sT2 H.size bF2))
   | skip
 all_goals
   (have dk:=yD (show kCr (y0,y1,y2,y3,y4) (xc,xe)=false by simp only [kCr,Q0,a1,af])
    have cq:¬ xc < 1:=by simpa using a1
    clear a1 af
    obtain ⟨V,Y⟩:=yA BX
    obtain ⟨a6,ax,ai,bc,ah⟩:=jP BY
    go_wp2_with fail
    refine (kOi (λc=>!isC y0 c) kKm (HX.below H) (λwr bo c ds hc=>kXc (y:=(y0,y1,y2,y3,y4)) hc (c5.below (tQ H bo)) (cL bo a6) (cL bo ax) (cL bo ai) (cL bo bc) (cL bo ah))).mono ?_
    rintro e w3 ⟨kv,rfl,O,hb⟩
    have cv:=hb.size
    replace BX:=kC BX hb
    replace BY:=kC BY hb
    replace BR:=kC BR hb
    replace H:=(tQ H hb)
    clear V Y a6 ax ai bc ah hb
    obtain ⟨K,E⟩:∃ K,kBk y0 xe=K:=⟨_,rfl⟩
    replace O:=kD.ko.cast O (show _=K from E)
    have fo:K.length<=xe.length:=by rw [<- E];exact jCj _ _
    have HK:=yD E
    clear E
    obtain ⟨ka,kc,rfl⟩:=O.zK
    have F:=yD (O.wide (T:=(λj=>w.heap.size + 3<=j/\j < w3.heap.size)) vH)
    clear O
    go_upto_region 4 with fail
    refine jZ ?_
    intro w4 cd BO de
    replace BX:=kC BX cd
    replace BY:=kC BY cd
    replace BR:=kC BR cd
    replace F:=yD (F.below cd)
    replace H:=(tQ H cd)
    clear cd
    obtain ⟨V,Y⟩:=yA BX
    obtain ⟨U,N⟩:=yA BO
    by_cases ac:xc<=(K.length:Int)
    · have d2:0 < K.length:=bJ5;obtain ⟨kb,fm,hv,bn,e9,a2,a5⟩:=kD.kAp F.out d2;simp only [Al,true_and] at hv;obtain ⟨rfl,rfl⟩:=hv;clear bn V Y U N;obtain ⟨V,Y⟩:=yA BX;obtain ⟨U,N⟩:=yA BO;go_wp2;go_loopw [8,33] (λb i wr=>∃ (k m:Nat),i=.int .i64 k/\b=.int .i64 m/\0<=k/\k<=K.length/\m < K.length/\Hid (kEg K k=m)/\Hid (kD.ko 135 kz wr (.slice (Qa kb) K.length kc) K (λj=>w.heap.size + 3<=j/\j < w3.heap.size))/\Qr wr (w.heap.size + 1) (Qj ak y0 a3 b5 y1 b3 b2 y2 bq y3 y4) 43/\Qr wr (w.heap.size + 2) #[Qn 0,.slice none 0 0] 27/\Qr wr w3 #[Qn xc,.slice (Qa kb) K.length kc] 27/\w4.heap.size<=wr.heap.size/\Qb w wr) (λ_ i _=>K.length - (intOf i).toNat);case atStart=>exact ⟨0,0,rfl,rfl,by omega,by omega,d2,yD (rfl),F,BY,BR,BO,Nat.le_refl _,H⟩
      case round =>
        rename Ab=>ep;clear H BX BY BR BO F;obtain ⟨k,m,rfl,rfl,d4,hk,hm,HA,F,BY,BR,BO,iw,H⟩:=hrel;have dt:=Aa k;have b1:=Aa m;have ck:=Ah.2 hm;by_cases hlt:k < K.length
        · have em:=Ah.2 hlt;have HR:=yD (F.own bE7);obtain ⟨bl,ce,ch,d0,dx,e8,pr,J,c6,a4,ff,fu,dg⟩:=kD.at6 HR.raw hlt rfl;obtain ⟨py,ph⟩:∃ z,K[k]=z:=⟨_,rfl⟩;rw [ph] at pr;have pH:=yD ph;clear ph;obtain ⟨rfl,rfl,rfl,d9,d8,c9,di,ea,dh,er,eg,e3⟩:=yM pr;obtain ⟨bx,bz,rfl,_,dr,dy,rfl,_,dp,d1,rfl,_⟩:=kD.sx c9 (kD.sx di (kD.sl dh));clear pr d9 d8 c9 di ea dh er eg e3;obtain ⟨fv,d3,fq,fj,fc,fe,sr,fr,fi,fp,fh,fb,aj⟩:=kD.at6 HR.raw hm rfl;obtain ⟨sy,sh⟩:∃ z,K[m]=z:=⟨_,rfl⟩;rw [sh] at sr;have sH:=yD sh;clear sh;obtain ⟨rfl,rfl,rfl,e7,e6,c8,dj,en,dd,eo,e1,ec⟩:=yM sr;obtain ⟨fg,fl,rfl,_,eb,fd,rfl,_,f4,fk,rfl,_⟩:=kD.sx c8 (kD.sx dj (kD.sl dd));clear sr e7 e6 c8 dj en dd eo e1 ec HR;go_upto_region 9 with fail;refine jZ ?_;intro w6 bk BT dq;replace BY:=kC BY bk;replace BR:=kC BR bk;replace BO:=kC BO bk;replace dg:=cL bk dg;replace aj:=cL bk aj;replace F:=yD (F.below bk);replace H:=(tQ H bk);clear bk;obtain ⟨am,ap,aq,ay,al,ag⟩:=kYd BT;obtain ⟨U,N⟩:=yA BO;go_upto_region 9 with fail;have FX:=yD (λ(W:Ab) (hW:Qb w6 W)=>kJf hW N ag aj);refine kN (λW=>Qb w6 W) [Tt,Tt,Tt,Tt,Tt,Tt,Tt,Tt,Tt] bI9 bI9 sD (bR.drew) ?_;intro wS I;all_goals ((iterate 8 refine kZ ?_);refine jo λb an=>?_;cases b <;> try simp only [jm] at an)
          all_goals refine kR ?_
          all_goals rename Ab=>w7
          all_goals (have dm:=I.size;replace BY:=kC BY I;replace BR:=kC BR I;replace BO:=kC BO I;replace BT:=kC BT I;replace dg:=cL I dg;replace aj:=cL I aj;replace F:=yD (F.below I);replace H:=(tQ H I);clear am ap aq ay al ag U N;clear I)
          all_goals first
            | (have aa : K[k].2 < K[m].2 := by rw [pH.out, sH.out]; simpa using an
               clear an
               have HB:=yD (jCs HA.out hlt hm aa)
               go_wp2
               go_roundw
               case rel=>exact ⟨k + 1,k,by go_num,rfl,by omega,by omega,hlt,HB,F,BY,BR,BO,by omega,H⟩
               case measure=>simp [intOf];omega)
            | skip
          all_goals
            (have aa:¬ K[k].2 < K[m].2:=by rw [pH.out,sH.out];simpa using an
             clear an
             have HB:=yD (jGl HA.out hlt hm aa)
             go_wp2
             go_roundw
             case rel=>exact ⟨k + 1,m,by go_num,rfl,by omega,by omega,hm,HB,F,BY,BR,BO,by omega,H⟩
             case measure=>simp [intOf];omega)
        · obtain rfl:k=K.length:=bJ5;have g4:¬ ((K.length:Int) < K.length):=bJ5;have c7:=yD (kSr HA.out ac);have hw:IntKind.i64.wrap ((m:Int) + 1)=(m:Int) + 1:=IntWalk.i64_in _ bJ5;obtain ⟨U,N⟩:=yA BO;go_wp2_with fail;refine (kRh F.out bJ5 hm).mono ?_;rintro e w6 ⟨v5,rfl,O5,T5⟩;have dq:=T5.size;replace BY:=T5.kC BY bJ5;replace BR:=T5.kC BR bJ5;replace BO:=T5.kC BO bJ5;replace H:=H.trans (T5.below H.size bF2);clear U N T5 F;obtain ⟨R,hR⟩:∃ R,kFh xc K=R:=⟨_,rfl⟩;replace O5:=kD.ko.cast O5 (c7.symm.trans hR);have h7:R.length<=K.length:=by rw [<- hR];exact kWg _ _
          have dn:=yD hR;clear hR c7;obtain ⟨ra,rc,rfl⟩:=O5.zK;have F:=yD O5;clear O5;obtain ⟨U,N⟩:=yA BO;obtain ⟨ao,ar⟩:=kCg BO;go_upto_region 13 with fail;generalize G:World.setCell w6 _ _=w7;have bm:Touch (λk=>k=w3.heap.size) w6 w7:=bD0;replace BO:Qr w7 w3 #[Qn xc,Qs ra R rc] 27:=bB2;have dm:=bm.size;clear G;replace BY:=bm.kC BY bJ5;replace BR:=bm.kC BR bJ5;replace F:=yD (F.touch bm rU);replace H:=H.trans (bm.below H.size bF2);clear U N ao ar bm;obtain ⟨U,N⟩:=yA BO;obtain ⟨a6,ax,ai,bc,ah⟩:=jP BY;go_upto_region 13 with fail;have FX:=yD (λ(W:Ab) (hW:Qb w7 W)=>kPa hW N a6 ax ai bc ah);refine je (λW=>Qb w7 W) [(0,true),(1,true),(2,true),(4,true),(3,false),(5,true),(6,false)] bI9 bI9 sD (bR.drew) ?_;intro wS I;simp only [jE,Am,List.length_nil,Ac,Ad,List.map_cons,List.map_nil,Ap,List.nil_append,Aj,List.drop_zero];all_goals ((iterate 4 refine kZ ?_);(first|(refine kI rfl I ?_)|(refine ku rfl (λK E=>?_);go_simp;refine (kCy (HY.below (tQ H I))).mono ?_;rintro e wT ⟨tc,rfl,O,ba⟩;obtain ⟨ed,et,e0,rfl,bh,bu,bw,co,dw,ej,ei⟩:=jT O.raw;obtain ⟨a7,b7,rfl,ez⟩:=kD.sl bu;obtain ⟨bg,c2,rfl,ew⟩:=kD.sl bw;obtain ⟨a8,cl,rfl,eu⟩:=kD.sl dw;clear bh bu bw co dw ej ei;have ey:=yD O;have ip:=ba.size;have ee:=I.size;replace I:=(tQ I ba);refine E _ _ I ?_;clear E K ba O));refine jD ?_;refine kZ ?_;(first|(refine kI rfl I ?_)|(refine ku rfl (λK E=>?_);go_simp;refine E _ _ (I.alloc I.size _) ?_;clear E K));refine jD ?_;refine jq ?_)
          have dz:R.length + 1<=1000000000:=bJ5;go_wp2_with (at_builtin;refine kD.kBd rfl _ _ 25 rfl (r:=kz) (e:=135) Ai zH rfl bJ4 bJ4 (w:=wT) (F.below I) bJ7 bJ7 rfl (kD.yR (r:=jC) (q:=kD.int) (cs:=[.slice a7 y0.length b7,.slice bg y1.length c2,.slice a8 y2.length cl,.int .i64 y3,.int .i64 y4]) (ds:=[.int .i64 t]) (x:=(y0,y1,y2,y3,y4)) (y:=t) ey.out (kD.jB HF.out)) rfl rD dz ?_);intro v2 w8 hQ c1;have hT:Touch (λj=>w.heap.size + 3<=j/\j < w3.heap.size) w7 w8:=(Touch.of_below (I.alloc I.size _)).trans (c1.wide (λj q=>q.2));have eq:=hT.size;have fn:=c1.size;have ha:wT.heap.size + 1<=w8.heap.size:=bG5;clear c1 fn;obtain ⟨Z,hZ⟩:∃ Z,R++[((y0,y1,y2,y3,y4),t)]=Z:=⟨_,rfl⟩;have du:=yD (show Z.length=R.length + 1 by rw [<- hZ];simp);replace hQ:=kD.ko.cast hQ hZ;have HZ:=yD hZ;clear hZ;obtain ⟨ga,gc,rfl⟩:=hQ.zK;have HQ:=yD (kD.ko.wide (T:=λj=>w.heap.size + 3<=j/\j < w8.heap.size/\j≠w3.heap.size) hQ dO);clear hQ F;replace BY:=hT.kC BY bJ5;obtain ⟨BR,BO,H⟩:=WE;clear U N a6 ax ai bc ah hT;obtain ⟨U,N⟩:=yA BO;obtain ⟨ao,ar⟩:=kCg BO;go_upto_region 14 with fail;generalize G:World.setCell w8 _ _=w9;have X:Touch (λk=>k=w3.heap.size) w8 w9:=bD0;replace BO:Qr w9 w3 #[Qn xc,Qs ga Z gc] 27:=bB2;have d6:=X.size;clear G;replace BY:=X.kC BY bJ5;replace BR:=X.kC BR bJ5;replace HQ:=yD (HQ.touch X rU);replace H:=H.trans (X.below H.size bF2);clear U N ao ar X;have L:=yD (show kAv (y0,y1,y2,y3,y4) t (xc,xe)=(xc,Z) from (kGm dk.out).trans fD);obtain ⟨U,N⟩:=yA BO;obtain ⟨a9,bb⟩:=yA BR;obtain ⟨be,bd⟩:=kCg BR;go_wp2;refine Ag (v:=.agg #[Qn xc,Qs ga Z gc]) nR rfl ⟨[Qn xc,Qs ga Z gc],rfl,?_,?_⟩;rw [L.out];exact ((show kS.own _ _ (xc,Z) _ from kD.kCp (r:=kD.int) (q:=Cn) (cs:=[.int .i64 xc]) (kD.jB ae) (HQ.own vP)).touch sT2 vN).wide gW
          · exact H.trans (Touch.below sT2 H.size bF2)
    · have dn:=yD (kSs ac);clear V Y U N;obtain ⟨V,Y⟩:=yA BX;obtain ⟨U,N⟩:=yA BO;obtain ⟨a6,ax,ai,bc,ah⟩:=jP BY;go_upto_region 13 with fail;have FX:=yD (λ(W:Ab) (hW:Qb w4 W)=>kPa hW N a6 ax ai bc ah);refine je (λW=>Qb w4 W) [(0,true),(1,true),(2,true),(4,true),(3,false),(5,true),(6,false)] bI9 bI9 sD (bR.drew) ?_;intro wS I;simp only [jE,Am,List.length_nil,Ac,Ad,List.map_cons,List.map_nil,Ap,List.nil_append,Aj,List.drop_zero];all_goals ((iterate 4 refine kZ ?_);(first|(refine kI rfl I ?_)|(refine ku rfl (λK E=>?_);go_simp;refine (kCy (HY.below (tQ H I))).mono ?_;rintro e wT ⟨tc,rfl,O,ba⟩;obtain ⟨ed,et,e0,rfl,bh,bu,bw,co,dw,ej,ei⟩:=jT O.raw;obtain ⟨a7,b7,rfl,ez⟩:=kD.sl bu;obtain ⟨bg,c2,rfl,ew⟩:=kD.sl bw;obtain ⟨a8,cl,rfl,eu⟩:=kD.sl dw;clear bh bu bw co dw ej ei;have ey:=yD O;have ip:=ba.size;have ee:=I.size;replace I:=(tQ I ba);refine E _ _ I ?_;clear E K ba O));refine jD ?_;refine kZ ?_;(first|(refine kI rfl I ?_)|(refine ku rfl (λK E=>?_);go_simp;refine E _ _ (I.alloc I.size _) ?_;clear E K));refine jD ?_;refine jq ?_)
      have dz:K.length + 1<=1000000000:=bJ5;go_wp2_with (at_builtin;refine kD.kBd rfl _ _ 25 rfl (r:=kz) (e:=135) Ai zH rfl bJ4 bJ4 (w:=wT) (F.below I) bJ7 bJ7 rfl (kD.yR (r:=jC) (q:=kD.int) (cs:=[.slice a7 y0.length b7,.slice bg y1.length c2,.slice a8 y2.length cl,.int .i64 y3,.int .i64 y4]) (ds:=[.int .i64 t]) (x:=(y0,y1,y2,y3,y4)) (y:=t) ey.out (kD.jB HF.out)) rfl rD dz ?_);intro v2 w5 hQ c1;have hT:Touch (λj=>w.heap.size + 3<=j/\j < w3.heap.size) w4 w5:=(Touch.of_below (I.alloc I.size _)).trans (c1.wide (λj q=>q.2));have df:=hT.size;have fn:=c1.size;have ha:wT.heap.size + 1<=w5.heap.size:=bG5;clear c1 fn;obtain ⟨Z,hZ⟩:∃ Z,K++[((y0,y1,y2,y3,y4),t)]=Z:=⟨_,rfl⟩;have du:=yD (show Z.length=K.length + 1 by rw [<- hZ];simp);replace hQ:=kD.ko.cast hQ hZ;have HZ:=yD hZ;clear hZ;obtain ⟨ga,gc,rfl⟩:=hQ.zK;have HQ:=yD (kD.ko.wide (T:=λj=>w.heap.size + 3<=j/\j < w5.heap.size/\j≠w3.heap.size) hQ dO);clear hQ F;replace BX:=hT.kC BX bJ5;replace BY:=hT.kC BY bJ5;obtain ⟨BR,BO,H⟩:=WE;clear V Y U N a6 ax ai bc ah hT;obtain ⟨U,N⟩:=yA BO;obtain ⟨ao,ar⟩:=kCg BO;go_upto_region 14 with fail;generalize G:World.setCell w5 _ _=w6;have az:Touch (λk=>k=w3.heap.size) w5 w6:=bD0;replace BO:Qr w6 w3 #[Qn xc,Qs ga Z gc] 27:=bB2;have dq:=az.size;clear G;replace BX:=az.kC BX bJ5;replace BY:=az.kC BY bJ5;replace BR:=az.kC BR bJ5;replace HQ:=yD (HQ.touch az rU);replace H:=H.trans (az.below H.size bF2);clear U N ao ar az;have L:=yD (show kAv (y0,y1,y2,y3,y4) t (xc,xe)=(xc,Z) from (kGm dk.out).trans fD);obtain ⟨U,N⟩:=yA BO;obtain ⟨a9,bb⟩:=yA BR;obtain ⟨be,bd⟩:=kCg BR;go_wp2;refine Ag (v:=.agg #[Qn xc,Qs ga Z gc]) nR rfl ⟨[Qn xc,Qs ga Z gc],rfl,?_,?_⟩;rw [L.out];exact ((show kS.own _ _ (xc,Z) _ from kD.kCp (r:=kD.int) (q:=Cn) (cs:=[.int .i64 xc]) (kD.jB ae) (HQ.own vP)).touch sT2 vN).wide gW
      · exact H.trans (Touch.below sT2 H.size bF2))
end Go.Proofs.YthocbplmdjkifabGreat
