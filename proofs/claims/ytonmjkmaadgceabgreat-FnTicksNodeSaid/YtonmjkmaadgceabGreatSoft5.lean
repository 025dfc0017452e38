/-
  Regions in two phases whose later operations may wait for the head alone. No program in sight.
-/
import Derived.Test.YtonmjkmaadgceabGreatDrawO
set_option linter.unusedVariables false
set_option linter.defProp false
set_option linter.unusedSimpArgs false
set_option linter.unnecessarySimpa false
set_option maxRecDepth 100000
set_option maxHeartbeats 4000000
open Bool renaming and_eq_true->Aa,not_eq_true'->Aw
open _root_ renaming decide_eq_true_eq->Ab,List->Ad,Array->Bd
open Go.Proofs.Tryz renaming underlying31->Ac
open Array renaming replicate->Ae,getElem?_eq_getElem->Ai
open Go renaming World->Ag,HeadInv->Ba,Calls->Bb
open Go.Region renaming ready->Ah,Mode->Al,waitsFor_spec->Av,waitsFor->Ay,noSelect->Az
open Int renaming toNat_natCast->Aj,eq_ofNat_of_zero_le->Aq
open Go.Value.slice renaming injEq->Ak
open List renaming getElem?_cons_succ->Am,getElem?_cons_zero->Ap,all_eq_true->Ar
open List.cons renaming injEq->Au
open Go.IntWalk renaming i64_in->Bc
namespace Go.Proofs.YtonmjkmaadgceabGreat
open Go.RowKit _root_.Go.Proofs.Tryz
def kXn {w:Ag} {a b:Int}:Bb prog 81 #[.int .i64 a,.int .i64 b] w λe w'=>e=.returned (.int .i64 (min a b))/\w'=w:=by
 go_enter func81,ntmps81;by_cases h:b < a
 · have hd:decide (b < a)=true:=bB3;have L:=yD (show min a b=b by omega);exact l9
 have hd:decide (b < a)=false:=bB3;have L:=yD (show min a b=a by omega);exact l9
def specMax_c {w:Ag} {a b:Int}:Bb prog 155 #[.int .i64 a,.int .i64 b] w λe w'=>e=.returned (.int .i64 (max a b))/\w'=w:=by
 go_enter func155,ntmps155;by_cases h:b > a
 · have hd:decide (b > a)=true:=bB3;have L:=yD (show max a b=b by omega);exact l9
 have hd:decide (b > a)=false:=bB3;have L:=yD (show max a b=a by omega);exact l9
def upF (x:Int):Int:=min 50 (wrap64 (x + 1))
def upF_rng {x:Int}:-9223372036854775808<=upF x/\upF x<=9223372036854775807:=by
 unfold upF;unfold wrap64;omega
def kHj (n:ko) (f:Int) (l:Ad kJ):Ad kJ :=
  if zM n && inR f 1 6 then
    (if idxOf (yA n f) l < 0 then (if l.length < 24 then l++[(n,f,1)] else l)
     else l.set (idxOf (yA n f) l).toNat (yu (l.getD (idxOf (yA n f) l).toNat ([],0,0)) (upF (l.getD (idxOf (yA n f) l).toNat ([],0,0)).2.2)))
  else l
def kOo {n:ko} {f:Int} {l:List kJ} (h:(zM n && inR f 1 6)=false):kHj n f l=l:=by unfold kHj;rw [h];rfl
def kUn {n:ko} {f:Int} {l:List kJ} (h:(zM n && inR f 1 6)=true) (h2:idxOf (yA n f) l < 0) (h3:l.length < 24):kHj n f l=l++[(n,f,1)]:=by unfold kHj;rw [if_pos h,if_pos h2,if_pos h3]
def kPw {n:ko} {f:Int} {l:List kJ} (h:(zM n && inR f 1 6)=true) (h2:idxOf (yA n f) l < 0) (h3:¬ l.length < 24):kHj n f l=l:=by unfold kHj;rw [if_pos h,if_pos h2,if_neg h3]
def kZs {n:ko} {f:Int} {l:Ad kJ} {k:Nat} (h:(zM n && inR f 1 6)=true) (h2:idxOf (yA n f) l=k) (hk:k < l.length):kHj n f l=l.set k (yu l[k] (upF l[k].2.2)):=by
 unfold kHj;simp only [h,h2,Aj,jS hk];rw [if_pos trivial,if_neg bC9]
def kFq {w:Ag} {vl:Value} {l:Ad kJ} (hl:(kD.slice 108 kL).rd w [vl] l) {cn:Ad Value} {n:ko} (hn:kU.rd w cn n) {f:Int} (hf:Qi f) :
    Bb prog 33 #[vl,.agg cn.toArray,.int .i64 f] w (kAa (kD.slice 108 kL) (kHj n f l) w):=by
 obtain ⟨HL,HN,a5⟩:=DF
 obtain ⟨nv,rfl,a8⟩:=kZ hn.1
 obtain ⟨na,np,rfl,_⟩:=kD.sl a8
 obtain ⟨va,vp,rfl,av⟩:=kD.sl hl.1
 clear a8 hl hn
 go_enter func33,ntmps33
 go_wp2_with fail
 generalize D:World.alloc w _=N
 obtain ⟨EB,K0,bu⟩:=CS
 clear D
 refine (kEv (HL.out.below EB)).mono ?_
 rintro e Y ⟨v1,rfl,O1,O⟩
 replace K0:=cL O K0
 obtain ⟨E1,bq,J⟩:=DT
 obtain ⟨oa,on,oc,ho,bb⟩:=O1.parts;obtain rfl:=ho
 clear O1 O EB
 have HF:=yD hf
 clear hf
 go_wp2_with fail
 refine (yY (HN.out.1.below E1)).mono ?_
 rintro e V ⟨rfl,ak⟩
 replace K0:=cL ak K0
 have E2:=(tQ E1 ak)
 have a6:=ak.size
 replace J:=yD ((J.out.below ak).wide (T:=jX w.heap.size V.heap.size) qU)
 clear ak E1
 cases hv:zM n
 · exact lQ
 go_wp2_with fail
 refine jo.mono ?_
 rintro e w3 ⟨rfl,G⟩
 obtain rfl:=G.symm
 clear G
 cases hi:inR f 1 6
 · exact lS
 have HB:Hid ((zM n && inR f 1 6)=true):=yD bA9
 clear hv hi
 go_wp2_with fail
 refine (kEu (HL.out.1.below E2) (HN.out.1.below E2)).mono ?_
 rintro e w4 ⟨rfl,an⟩
 replace K0:=cL an K0
 have E4:=(tQ E2 an)
 obtain ⟨bw,J⟩:=D9
 clear an E2
 by_cases hk:idxOf (yA n f) l < 0
 · have dr:¬ (0<=idxOf (yA n f) l):=bC9;generalize hq:idxOf (yA n f) l=q at *;have HQ:=yD hq;clear hq;by_cases af:l.length < 24
   · have Z:(l.length:Int) < 24:=bC9;have L:=yD (kUn HB.out vI af);go_wp2_with fail;refine (zJ (HN.out.below E4)).mono ?_;rintro e wT ⟨tc,rfl,OT,aq⟩;obtain ⟨cf,rfl,al⟩:=kZ OT.raw;obtain ⟨a7,br,rfl,_⟩:=kD.sl al;clear al;go_upto_region 9 with fail;generalize X:World.alloc wT _=wC;have EC:Qb wT wC:=rO;have W:Qd wC wT 0 (.slice a7 n.length br):=tL;clear X;have ER:=(tQ aq EC);have bo:=aq.size;have bi:=EC.size;have H:=OT.below EC;replace J:=yD (J.out.below ER);have a1:on<=24:=vQ;go_wp2_with (at_builtin;refine kD.jL rfl _ _ 31 rfl (r:=kL) (e:=108) Ac zz rfl bC8 bC8 (B:=w.heap.size) J.out bD1 bD1 rfl (kD.own.wide (T:=jX w4.heap.size wT.heap.size) (kD.jv (r:=kU) (q:=kD.pair kD.int kD.int) (cs:=[.slice a7 n.length br]) (ds:=[.int .i64 f,.int .i64 1]) (x:=n) (y:=(f,1)) (H) (kD.yC (kD.jB HF.out) (kD.jB (n:=1) bC9))) (λj I=>I)) rfl mM qU mH bC9 vQ ?_);exact lT
   exact lU
 obtain ⟨k,aa,ac⟩:=kDu hk
 have U:=yD ac
 rw [ac]
 clear hk ac
 obtain ⟨b,cap,hv,ab,aw,a3,az⟩:=kD.kAn J.out aa
 simp only [Ak] at hv
 obtain ⟨rfl,o,rfl⟩:=hv
 obtain ⟨ag,bt,bx,bf⟩:=DK
 obtain ⟨c0,c1,c2,hr,A0,A1,A2⟩:=kD.at3 bf.out.raw aa rfl
 obtain ⟨rv,cd,bj,ai,bd,bm⟩:=yF hr
 simp only [Au,and_true] at cd
 obtain ⟨rfl,rfl,rfl⟩:=cd
 have ah:=kD.kFf J.out bC9 (k * 3 + 2)
 have L:=yD (kZs HB.out U.out aa)
 obtain ⟨s1,s2⟩:=kD.kEf (i:=k) (j:=2) (p:=k * 3 + 2) (u:=.int .i64 (upF l[k].2.2)) J.out a5 aa bC8 (λh=>kEn _ upF_rng h) (show kL.bdd Big (yu l[k] (upF l[k].2.2)) from kD.yX bf.out.rd aa) rfl
 have ae:=yD (λv (hv:v=upF l[k].2.2)=>(show kD.kR 108 kL (w4.setCell ⟨b,k * 3 + 2,none⟩ (.int .i64 v)) _ _ _ from hv ▸ s1.cast L.out.symm));clear s1 s2 o hr bj ai bd
 go_wp2_with fail
 refine kXn.mono ?_
 rintro e w6 ⟨rfl,b4⟩
 obtain rfl:=b4.symm
 clear b4
 go_wp2
 all_goals go_ret
 all_goals exact ⟨_,rfl,((ae.out _ (by unfold upF;omega)).own qE).wide mD,E4.setCell ab.1 _⟩
def kMa {w:Ag} {vl:Value} {l:Ad kJ} (hl:(kD.slice 108 kL).rd w [vl] l) {cn:Ad Value} {n:ko} (hn:kU.rd w cn n) {f:Int} (hf:Qi f) :
    Bb prog 21 #[vl,.agg cn.toArray,.int .i64 f] w (kAa (kD.slice 108 kL) (kHj n f l) w):=by
 obtain ⟨HL,HN,a5⟩:=DF
 obtain ⟨nv,rfl,a8⟩:=kZ hn.1
 obtain ⟨na,np,rfl,_⟩:=kD.sl a8
 obtain ⟨va,vp,rfl,av⟩:=kD.sl hl.1
 clear a8 hl hn
 go_enter func21,ntmps21
 go_wp2_with fail
 generalize D:World.alloc w _=N
 obtain ⟨EB,K0,bu⟩:=CS
 clear D
 refine (kEk (HL.out.below EB)).mono ?_
 rintro e Y ⟨v1,rfl,O1,O⟩
 replace K0:=cL O K0
 obtain ⟨E1,bq,J⟩:=DT
 obtain ⟨oa,on,oc,ho,bb⟩:=O1.parts;obtain rfl:=ho
 clear O1 O EB
 have HF:=yD hf
 clear hf
 go_wp2_with fail
 refine (kAs (HN.out.1.below E1)).mono ?_
 rintro e V ⟨rfl,ak⟩
 replace K0:=cL ak K0
 have E2:=(tQ E1 ak)
 have a6:=ak.size
 replace J:=yD ((J.out.below ak).wide (T:=jX w.heap.size V.heap.size) qU)
 clear ak E1
 cases hv:zM n
 · exact lQ
 go_wp2_with fail
 refine yJ.mono ?_
 rintro e w3 ⟨rfl,G⟩
 obtain rfl:=G.symm
 clear G
 cases hi:inR f 1 6
 · exact lS
 have HB:Hid ((zM n && inR f 1 6)=true):=yD bA9
 clear hv hi
 go_wp2_with fail
 refine (kEs (HL.out.1.below E2) (HN.out.1.below E2)).mono ?_
 rintro e w4 ⟨rfl,an⟩
 replace K0:=cL an K0
 have E4:=(tQ E2 an)
 obtain ⟨bw,J⟩:=D9
 clear an E2
 by_cases hk:idxOf (yA n f) l < 0
 · have dr:¬ (0<=idxOf (yA n f) l):=bC9;generalize hq:idxOf (yA n f) l=q at *;have HQ:=yD hq;clear hq;by_cases af:l.length < 24
   · have Z:(l.length:Int) < 24:=bC9;have L:=yD (kUn HB.out vI af);go_wp2_with fail;refine (zI (HN.out.below E4)).mono ?_;rintro e wT ⟨tc,rfl,OT,aq⟩;obtain ⟨cf,rfl,al⟩:=kZ OT.raw;obtain ⟨a7,br,rfl,_⟩:=kD.sl al;clear al;have ER:=aq;have bo:=aq.size;replace J:=yD (J.out.below ER);have a1:on<=24:=vQ;go_wp2_with (at_builtin;refine kD.jL rfl _ _ 31 rfl (r:=kL) (e:=108) Ac zz rfl bC8 bC8 (B:=w.heap.size) J.out bD1 bD1 rfl (kD.own.wide (T:=jX w4.heap.size wT.heap.size) (kD.jv (r:=kU) (q:=kD.pair kD.int kD.int) (cs:=[.slice a7 n.length br]) (ds:=[.int .i64 f,.int .i64 1]) (x:=n) (y:=(f,1)) (OT) (kD.yC (kD.jB HF.out) (kD.jB (n:=1) bC9))) (λj I=>I)) rfl mM qU mH bC9 vQ ?_);exact lT
   exact lU
 obtain ⟨k,aa,ac⟩:=kDu hk
 have U:=yD ac
 rw [ac]
 clear hk ac
 obtain ⟨b,cap,hv,ab,aw,a3,az⟩:=kD.kAn J.out aa
 simp only [Ak] at hv
 obtain ⟨rfl,o,rfl⟩:=hv
 obtain ⟨ag,bt,bx,bf⟩:=DK
 obtain ⟨c0,c1,c2,hr,A0,A1,A2⟩:=kD.at3 bf.out.raw aa rfl
 obtain ⟨rv,cd,bj,ai,bd,bm⟩:=yF hr
 simp only [Au,and_true] at cd
 obtain ⟨rfl,rfl,rfl⟩:=cd
 have ah:=kD.kFf J.out bC9 (k * 3 + 2)
 have L:=yD (kZs HB.out U.out aa)
 obtain ⟨s1,s2⟩:=kD.kEf (i:=k) (j:=2) (p:=k * 3 + 2) (u:=.int .i64 (upF l[k].2.2)) J.out a5 aa bC8 (λh=>kEn _ upF_rng h) (show kL.bdd Big (yu l[k] (upF l[k].2.2)) from kD.yX bf.out.rd aa) rfl
 have ae:=yD (λv (hv:v=upF l[k].2.2)=>(show kD.kR 108 kL (w4.setCell ⟨b,k * 3 + 2,none⟩ (.int .i64 v)) _ _ _ from hv ▸ s1.cast L.out.symm));clear s1 s2 o hr bj ai bd
 go_wp2
 all_goals go_ret
 all_goals exact ⟨_,rfl,((ae.out _ (by unfold upF;omega)).own qE).wide mD,E4.setCell ab.1 _⟩
def recS (n:ko) (f:Int) (l:Ad kJ):Ad kJ :=
  if idxOf (yA n f) l < 0 then l
  else if (l.getD (idxOf (yA n f) l).toNat ([],0,0)).2.2 < 2 then l.take (idxOf (yA n f) l).toNat++l.drop ((idxOf (yA n f) l).toNat + 1)
  else l.set (idxOf (yA n f) l).toNat (yu (l.getD (idxOf (yA n f) l).toNat ([],0,0)) ((l.getD (idxOf (yA n f) l).toNat ([],0,0)).2.2 / 2))
def recS_none {n:ko} {f:Int} {l:List kJ} (h:idxOf (yA n f) l < 0):recS n f l=l:=by unfold recS;rw [if_pos h]
def recS_cut {n:ko} {f:Int} {l:Ad kJ} {k:Nat} (h:idxOf (yA n f) l=k) (hk:k < l.length) (h2:l[k].2.2 < 2):recS n f l=l.take k++l.drop (k + 1):=by
 unfold recS;simp only [h,Aj,jS hk];rw [if_neg bC9,if_pos h2]
def recS_half {n:ko} {f:Int} {l:Ad kJ} {k:Nat} (h:idxOf (yA n f) l=k) (hk:k < l.length) (h2:¬ l[k].2.2 < 2):recS n f l=l.set k (yu l[k] (l[k].2.2 / 2)):=by
 unfold recS;simp only [h,Aj,jS hk];rw [if_neg bC9,if_neg h2]
def kLv {w:Ag} {vl:Value} {l:Ad kJ} (hl:(kD.slice 108 kL).rd w [vl] l) {cn:Ad Value} {n:ko} (hn:kU.rd w cn n) {f:Int} (hf:Qi f) :
    Bb prog 170 #[vl,.agg cn.toArray,.int .i64 f] w (kAa (kD.slice 108 kL) (recS n f l) w):=by
 obtain ⟨HL,HN,a5⟩:=DF
 obtain ⟨nv,rfl,a8⟩:=kZ hn.1
 obtain ⟨na,np,rfl,_⟩:=kD.sl a8
 clear a8 hl hn hf
 go_enter func170,ntmps170
 go_wp2_with fail
 generalize D:World.alloc w _=N
 obtain ⟨EB,K0,bu⟩:=CS
 clear D
 refine (kEv (HL.out.below EB)).mono ?_
 rintro e Y ⟨v1,rfl,O1,O⟩
 replace K0:=cL O K0
 have E1:=(tQ EB O)
 have J:=yD O1
 obtain ⟨oa,on,oc,ho,bb⟩:=O1.parts;obtain rfl:=ho
 clear O1 O
 go_wp2_with fail
 refine (kEu (HL.out.1.below E1) (HN.out.1.below E1)).mono ?_
 rintro e V ⟨rfl,ak⟩
 have E2:=(tQ E1 ak)
 have bq:=E1.size
 have a6:=ak.size
 replace J:=yD ((J.out.below ak).wide (T:=jX w.heap.size V.heap.size) mH)
 clear ak E1 EB
 by_cases hk:idxOf (yA n f) l < 0
 · have L:=yD (recS_none hk);go_wp2;go_ret;exact ⟨_,rfl,(J.out.cast L.out.symm).own (by rw [L.out];unfold Big;omega),E2⟩
 obtain ⟨k,aa,ac⟩:=kDu hk
 have U:=yD ac
 rw [ac]
 clear hk ac
 obtain ⟨b,cap,hv,Z⟩:=kD.kFy J.out aa
 simp only [Ak] at hv
 obtain ⟨rfl,o,rfl⟩:=hv
 have ag:k < on:=bC9
 rw [List.drop_eq_getElem_cons aa] at Z
 have R:=Z.len
 simp only [List.length_take,List.length_cons,List.length_drop] at R
 have a3:on<=oc:=by have:=R.2.1;omega
 have az:oc<=9223372036854775807:=nX
 have ab:=Z.mem
 have ah:=Z.frozen (k * 3 + 2)
 have G:Hid (kD.gap 108 kL V b oc l.length (l.take k) 1 (l.drop (k + 1)) (jX w.heap.size V.heap.size)):=yD Z.skip
 clear Z R
 have bf:=yD (J.out.own a5)
 obtain ⟨c0,c1,c2,hr,A0,A1,A2⟩:=kD.at3 bf.out.raw aa rfl
 obtain ⟨rv,cd,bj,ai,bd,bm⟩:=yF hr
 simp only [Au,and_true] at cd
 obtain ⟨rfl,rfl,rfl⟩:=cd
 have al:=yD (recS_cut U.out aa)
 have X:=yD (recS_half U.out aa)
 have ao:=yD (λ(v:Int) (hv:Qi v)=>kD.kEf (i:=k) (j:=2) (p:=k * 3 + 2) (u:=.int .i64 v) J.out a5 aa bC8 (λh=>kEn v hv h) (show kL.bdd Big (yu l[k] v) from kD.yX bf.out.rd aa) rfl)
 have bb:=yD o
 clear o hr bj ai bd
 have bt:(0:Int)<=k:=bC9
 have bx:(k:Int) < on:=bC9
 have cw:k<=oc:=bC9
 have aw:=Go.IntWalk.i64_in ((k:Int) + 1) bC9
 by_cases h2:l[k].2.2 < 2
 · have L:=yD (al.out h2);clear al X ao;have HK:Hid ((l.take k).length=k):=yD bC4;have c4:k + 1<=oc:=bC9;have dr:k + 1<=on:=bC9;have ff:(k:Int) + 1<=on:=bC9;have av:(0:Int)<=(k:Int) + 1:=bC9;by_cases ap:oc=k + 1
   · have HR:Hid ((l.drop (k + 1)).length=0):=yD (by have:=bb.out;simp;omega);obtain rfl:on=k + 1:=bC9;subst ap;have ax:(k:Int)<=(k:Int) + 1:=bC9;go_upto_region 6 with fail;refine jm (λW=>Qb V W) [(1,true),(2,true),(3,true),(5,true),(6,true),(7,true),(8,true),(0,false),(4,false),(9,false),(10,true)] bC3 bC3 pK (bR.drew) ?_;intro wS E;simp only [kz,Am,Ap,List.map_cons,List.map_nil];iterate 7
      all_goals refine ku ?_
     all_goals first|(refine kI rfl E ?_)|(refine kw rfl (λK H=>?_);go_simp;generalize am:World.alloc wS _=wU;replace E:Qb V wU:=(by rw [<- am];exact E.alloc E.size _);clear am;refine H _ _ E ?_;clear H K)
     all_goals refine jF ?_
     all_goals first|(refine kI rfl E ?_)|(refine kw rfl (λK H=>?_);obtain ⟨v3,u3,aq,ar,v4,u4,aj,au,an⟩:=kD.kGv (P:=prog) (t:=31) Ac zz rfl bC8 bC8 G.out E (a0:=some ⟨wS.heap.size,0,none⟩) bC9 (k + 1) 0 31 31 (q:=0) (kl:=k) (rl:=0) (λhne=>absurd (List.eq_nil_of_length_eq_zero HR.out) hne) HK.out.symm HR.out.symm;have ad:=(tQ E ar);refine kD.kV _ _ _ rfl bD1 bD1 aq ?_;refine H _ _ ad ?_;clear H K)
     all_goals refine jF ?_
     all_goals first|(refine kI rfl E ?_)|(refine kw rfl (λK H=>?_);have F:=(tQ E an);refine kD.kV _ _ _ rfl bD1 bD1 aj ?_;refine H _ _ F ?_;clear H K)
     all_goals refine jF ?_
     all_goals refine ku ?_
     all_goals refine kS ?_
     exact lV
   have HR:Hid ((l.drop (k + 1)).length=on - (k + 1)):=yD (by have:=bb.out;simp;omega);go_upto_region 6 with fail;refine jm (λW=>Qb V W) [(1,true),(2,true),(3,true),(5,true),(6,true),(7,true),(8,true),(0,false),(4,false),(9,false),(10,true)] bC3 bC3 pK (bR.drew) ?_;intro wS E;simp only [kz,Am,Ap,List.map_cons,List.map_nil];iterate 7
    all_goals refine ku ?_
   all_goals first|(refine kI rfl E ?_)|(refine kw rfl (λK H=>?_);go_simp;generalize am:World.alloc wS _=wU;replace E:Qb V wU:=(by rw [<- am];exact E.alloc E.size _);clear am;refine H _ _ E ?_;clear H K)
   all_goals refine jF ?_
   all_goals first|(refine kI rfl E ?_)|(refine kw rfl (λK H=>?_);obtain ⟨v3,u3,aq,ar,v4,u4,aj,au,an⟩:=kD.kGv (P:=prog) (t:=31) Ac zz rfl bC8 bC8 G.out E (a0:=some ⟨wS.heap.size,0,none⟩) bC9 oc (oc - (k + 1)) 31 31 (q:=((k + 1) * 3)) (kl:=k) (rl:=(on - (k + 1))) (λ_=>by rw [HK.out];rfl) HK.out.symm HR.out.symm;have ad:=(tQ E ar);refine kD.kV _ _ _ rfl bD1 bD1 aq ?_;refine H _ _ ad ?_;clear H K)
   all_goals refine jF ?_
   all_goals first|(refine kI rfl E ?_)|(refine kw rfl (λK H=>?_);have F:=(tQ E an);refine kD.kV _ _ _ rfl bD1 bD1 aj ?_;refine H _ _ F ?_;clear H K)
   all_goals refine jF ?_
   all_goals refine ku ?_
   all_goals refine kS ?_
   exact lV
 have L:=yD (X.out bC9)
 obtain ⟨s1,s2⟩:=ao.out (l[k].2.2 / 2) bC9
 have ae:=yD s1;have af:=yD s2
 clear al X ao s1 s2 G
 go_wp2
 go_ret
 exact ⟨_,rfl,((ae.out.cast L.out.symm).own qE).wide mD,E2.setCell ab.1 _⟩
def recF_len {n:ko} {f:Int} {l:Ad kJ} (h:l.length<=24):(kHj n f l).length<=24:=by
 unfold kHj;split
 · split
   · split
     · simp;omega
     exact h
   simp;exact h
 exact h
def recS_len {n:ko} {f:Int} {l:Ad kJ} (h:l.length<=24):(recS n f l).length<=24:=by
 unfold recS;split
 · exact h
 split
 · simp;omega
 simp;exact h
def kWq {w0 w:Ag} {p:Nat} (hc:yU w0 w p) :
    Bb prog 169 #[.pointer (some ⟨p,0,none⟩)] w λe w'=>∃ a c ps,e=.returned (.agg #[Qs a ps c])/\kU.own w' [Qs a ps c] ps (jX w.heap.size w'.heap.size)/\ps.length<=64/\yU w0 w' p/\Touch (λk=>k=p) w w':=by
 go_enter func169,ntmps169
 obtain ⟨bf,b4⟩:=hc.lt
 go_upto_region 1 with fail
 generalize F:World.alloc w _=Y
 obtain ⟨X,R,bd⟩:=C9
 clear F
 obtain ⟨hc,N⟩:=xQ
 clear X
 go_wp2_with fail
 refine (zx (hc.below (bR.alloc nL _)) (kD.kAx _ [{ data:=#[47] },{ data:=#[47,97] },{ data:=#[47,98] },{ data:=#[47,97,47,110,101,119,115] }] bC8 bC8) bC9 bC8 bC8).mono ?_
 rintro e V ⟨y,au,a5,rfl,G,D⟩
 replace D:=(Touch.of_below (S:=λk=>k=p) (bR.alloc nL _)).trans D
 obtain ⟨bk,R,N⟩:=BG
 clear hc D
 have hc:=G
 clear G
 go_wp2_with fail
 refine (kUa (kD.kCn bC8 au)).mono ?_
 rintro e w3 ⟨a,c,ps,rfl,hr,hl,hb⟩
 have bl:=hb.size
 replace R:=kC R hb
 obtain ⟨hc,N⟩:=xG
 clear hb
 have HR:=yD (hr)
 clear hr
 have ad:Qd w3 w 0 (.slice none 0 0):=kE R rfl
 have aj:w3.frozen? ⟨w.heap.size,0,none⟩=false:=frozen_of_row w3 (w.heap.size) 0 _ _ R
 go_wp2
 refine bodyPost_ret (v:=.agg #[Qs a ps c]) (by simp [results,results169,go_sem,ad,aj]) rfl ⟨_,_,ps,rfl,?_,hl,hc.touch (jZ w3 w.heap.size 0 _) bC9 wM,N.jO (jZ w3 w.heap.size 0 _) bC9⟩
 exact (HR.out.touch (jZ w3 w.heap.size 0 _) sD).wide fB
def kMl {w0 w:Ag} {p:Nat} (hc:yU w0 w p) :
    Bb prog 136 #[.pointer (some ⟨p,0,none⟩)] w λe w'=>∃ a c l,e=.returned (.slice a l.length c)/\(kD.slice 108 kL).own w' [Qs a l c] l (jX w.heap.size w'.heap.size)/\l.length<=24/\yU w0 w' p/\Touch (λk=>k=p) w w':=by
 go_enter func136,ntmps136
 obtain ⟨bf,b4⟩:=hc.lt
 go_upto_region 2 with fail
 generalize F:World.alloc w _=Y
 have X:Qb w Y:=rM
 have bd:w.heap.size + 1<=Y.heap.size:=bB1
 clear F
 obtain ⟨hc,N⟩:=xQ
 clear X
 go_wp2_with fail
 refine (kr (n:=14) hc bC8).mono ?_
 rintro e V ⟨m,bt,ah,b1,rfl,G,D⟩
 have bk:=D.size
 replace N:=N.trans D
 clear hc D
 have hc:=G
 clear G
 replace ah:=ah bC8
 clear b1
 obtain ⟨m,rfl⟩:=Aq bt
 go_wp2
 go_loopw [3,4] (λv i wr=>∃ (j:Nat) (a:Option Addr) (n c:Nat) (l:Ad kJ),v=.slice a n c/\i=.int .i64 j/\l.length<=24/\Hid (n=l.length)/\j < 14/\Hid ((kD.slice 108 kL).own wr [.slice a n c] l (jX w.heap.size wr.heap.size))/\V.heap.size<=wr.heap.size/\yU w0 wr p/\Touch (λk=>k=p) w wr) (λ_ i _=>(intOf i).toNat)
 case atStart=>exact ⟨m,_,0,0,[],rfl,rfl,by simp,yD rfl,by omega,yD kD.jd,Nat.le_refl _,hc,N⟩
 clear hc N
 obtain ⟨j,a,n,c,l,rfl,rfl,hl,HN,I,J,dt,hc,N⟩:=hrel
 have bq:=N.size
 cases j with
 | zero =>
   go_wp2;go_ret;have hn:=HN.out;subst hn;exact ⟨_,_,l,rfl,J.out,hl,hc,N⟩
 | succ j =>
   have ce:(0:Int) < (j:Int) + 1:=bC9;go_upto_region 5 with fail;go_wp2_with fail;refine (kWq hc).mono ?_;rintro e w4 ⟨na,nc,O,rfl,hr,b0,G,D⟩;have bw:=D.size;obtain ⟨J,N⟩:=xM;clear hc D;have hc:=G;clear G;have HR:=yD (hr);clear hr;go_upto_region 6 with fail;generalize F:World.alloc w4 _=w5;have bm:Qb w4 w5:=rM;have B:Qr w5 w4.heap.size #[Qs na O nc] 40:=vB;have bv:w4.heap.size + 1<=w5.heap.size:=bB1;clear F;replace J:=yD (J.out.below bm);replace HR:=yD (HR.out.below bm);replace hc:=hc.below bm;replace N:=N.trans (Touch.of_below bm);clear bm;have FX:=yD (λ(W:Ag) (hW:Touch (λk=>k=p) w5 W/\yU w0 W p)=>kE (hW.1.kC B bC9) (j:=0) (v:=.slice na O.length nc) rfl);refine kM (λW=>Touch (λk=>k=p) w5 W/\yU w0 W p) [true,true,true,false,true,false,true] bC3 bC3 pK (⟨Touch.of_below bR.drew,hc.below bR.drew⟩) ?_;intro wS E;refine ku ?_;refine ku ?_;refine ku ?_;refine kw rfl (λK H=>?_);go_simp;refine (kr (n:=3) E.2 bC8).mono ?_;rintro e wS1 ⟨x,ao,L,a1,rfl,ar,ap⟩;replace L:=L bC8;clear a1;replace E:=And.intro (E.1.trans ap) ar;clear ar ap;have hw:IntKind.i64.wrap (1 + x)=1 + x:=Bc _ bC9;refine H _ _ E ?_;clear H K;refine jF ?_;refine ku ?_;refine kw rfl (λK H=>?_);go_simp;have di:=E.1.size;refine (kFq ((J.out.touch E.1 pJ).rd) (cn:=[.slice na O.length nc]) (HR.out.touch E.1 pJ).rd bC9).mono ?_;rintro e a9 ⟨v2,rfl,b5,ab⟩;have cg:=ab.size;obtain ⟨a2,c2,rfl,_⟩:=kD.sl b5.raw;replace E:=And.intro (E.1.trans (Touch.of_below ab)) (E.2.below ab);refine H _ _ E ?_;clear H K;refine jF ?_;refine ku ?_;refine kS ?_;have al:=E.1.size;have a8:=recF_len (n:=O) (f:=1 + x) hl;generalize kHj O (1 + x) l=l2 at *;have R:=yD (b5.wide (T:=jX w.heap.size a9.heap.size) qC);have b3:=N.trans E.1;have bc:=E.2;have U:=E.1.kC B bC9;have ae:=yD (HR.out.touch E.1 pJ);clear b5 J N hc B HR ab E hw;go_wp2_with fail;refine (kAk (n:=4) bc bC8).mono ?_;rintro e w8 ⟨b,rfl,aj,o⟩;have cc:=o.size;have bp:=yD (R.out.touch o pJ);have af:=yD (ae.out.touch o pJ);have B8:=o.kC U bC9;have ad:=b3.trans o;clear R ae U b3 bc o;cases b
   · go_wp2;go_roundw;case rel=>exact ⟨j,a2,l2.length,c2,l2,rfl,by go_num,a8,yD rfl,by omega,yD (bp.out.wide (λk hk=>⟨hk.1,by have:=hk.2;omega⟩)),by omega,aj,ad⟩
     case measure=>simp [intOf]
   · rename yU w0 w8 p=>hc;have J:=bp;have HR:=af;have B:=B8;have N:=ad;clear bp af B8 ad;have Z:=cc;go_upto_region 8 with fail;have FX:=yD (λ(W:Ag) (hW:Touch (λk=>k=p) w8 W/\yU w0 W p)=>kE (hW.1.kC B bC9) (j:=0) (v:=.slice na O.length nc) rfl);refine kM (λW=>Touch (λk=>k=p) w8 W/\yU w0 W p) [true,true,true,false,true,false,true] bC3 bC3 pK (⟨Touch.of_below bR.drew,hc.below bR.drew⟩) ?_;intro wS E;refine ku ?_;refine ku ?_;refine ku ?_;refine kw rfl (λK H=>?_);go_simp;refine (kr (n:=3) E.2 bC8).mono ?_;rintro e wS1 ⟨y,b7,bn,bz,rfl,ar,ap⟩;replace bn:=bn bC8;clear bz;replace E:=And.intro (E.1.trans ap) ar;clear ar ap;have hw:IntKind.i64.wrap (1 + y)=1 + y:=Bc _ bC9;refine H _ _ E ?_;clear H K;refine jF ?_;refine ku ?_;refine kw rfl (λK H=>?_);go_simp;have bu:=E.1.size;refine (kLv ((J.out.touch E.1 pJ).rd) (cn:=[.slice na O.length nc]) (HR.out.touch E.1 pJ).rd bC9).mono ?_;rintro e az ⟨v3,rfl,ac,ab⟩;have am:=ab.size;obtain ⟨a3,c3,rfl,_⟩:=kD.sl ac.raw;replace E:=And.intro (E.1.trans (Touch.of_below ab)) (E.2.below ab);refine H _ _ E ?_;clear H K;refine jF ?_;refine ku ?_;refine kS ?_;have ak:=E.1.size;have d5:=recS_len (n:=O) (f:=1 + y) a8;generalize recS O (1 + y) l2=l3 at *;have ai:=yD (ac.wide (T:=jX w.heap.size az.heap.size) qC);have ag:=N.trans E.1;have aa:=E.2;clear ac J N hc B HR ab E hw;go_wp2;go_roundw;case rel=>exact ⟨j,a3,l3.length,c3,l3,rfl,by go_num,d5,yD rfl,by omega,ai,by omega,aa,ag⟩
     case measure=>simp [intOf]
def kZi {w0 w:Ag} {p:Nat} (hc:yU w0 w p) :
    Bb prog 95 #[.pointer (some ⟨p,0,none⟩)] w λe w'=>∃ a c l,e=.returned (.slice a l.length c)/\(kD.slice 108 kL).own w' [Qs a l c] l (jX w.heap.size w'.heap.size)/\l.length<=48/\yU w0 w' p/\Touch (λk=>k=p) w w':=by
 go_enter func95,ntmps95
 obtain ⟨bf,b4⟩:=hc.lt
 go_wp2_with fail
 refine (kMl hc).mono ?_
 rintro e Y ⟨a,c,l,rfl,hO,hl,G,D⟩
 have bd:=D.size
 have N:=D
 clear hc D
 have hc:=G
 clear G
 have J:=yD (hO)
 clear hO
 go_wp2_with fail
 refine (kr (n:=10) hc bC8).mono ?_
 rintro e V ⟨m,bt,ah,b1,rfl,G,D⟩
 have bk:=D.size
 obtain ⟨J,N⟩:=xM
 clear hc D
 have hc:=G
 clear G
 replace ah:=ah bC8
 clear b1
 obtain ⟨m,rfl⟩:=Aq bt
 by_cases b8:m=0
 · subst b8;go_wp2_with fail;refine (specl4Any_c hc).mono ?_;rintro e w3 ⟨na,nc,O,rfl,hr,b0,G,D⟩;have bl:=D.size;obtain ⟨J,N⟩:=xM;clear hc D;have hc:=G;clear G;have HR:=yD (hr);clear hr;go_wp2_with fail;refine (kr (n:=8) hc bC8).mono ?_;rintro e w4 ⟨f,e8,dw,d1,rfl,G,D⟩;have bw:=D.size;obtain ⟨J,HR,N⟩:=AV;clear hc D;have hc:=G;clear G;replace dw:=dw bC8;clear d1;go_wp2_with fail;refine (kBp (hc.below (bR.alloc nL _)) (kD.kGy _ [0,1,50,51,-1] bC8 bC8) bC9 bC8 bC8).mono ?_;rintro e w5 ⟨y,au,a5,rfl,G,D⟩;obtain ⟨D,bv⟩:=CJ;obtain ⟨J,HR,N⟩:=AV;clear hc D;have hc:=G;clear G;have hy:=kD.kGx (lo:=-1) (hi:=51) bC8 au;go_wp2_with (at_builtin;refine kD.yZ rfl _ _ 31 rfl (r:=kL) (e:=108) Ac zz rfl bC8 bC8 J.out bR (kD.jv HR.out (kD.yC (kD.jB bC9) (kD.jB bC9))) bD1 bD1 nS bC9 ?_);intro v9 w9 bp ap;have Z:=ap.size;have L:(l++[(O,f,y)]).length<=25:=bC4;generalize l++[(O,f,y)]=q at *;obtain ⟨a9,c9,b7,_⟩:=kD.kAy bp.raw;obtain rfl:v9=_:=by simpa using b7
   have b5:=yD (bp.wide (T:=jX w.heap.size w9.heap.size) bH);have E:=hc.touch ap sZ sK;have o:=N.kBv ap (λk q=>q.1.1);clear bp ap b7;go_wp2;go_ret;exact ⟨_,_,q,rfl,b5.out,by omega,E,o⟩
 have H:¬ (m:Int)=0:=bC9
 by_cases b9:m=1
 · subst b9;go_wp2_with fail;refine (kEv J.out.rd).mono ?_;rintro e w3 ⟨vc,rfl,hr,hb⟩;have bl:=hb.size;replace J:=yD (J.out.below hb);obtain ⟨hc,N⟩:=xG;clear hb;have HR:=yD (hr);clear hr;obtain ⟨ya,yn,X,hv,R⟩:=HR.out.parts;obtain rfl:=hv;go_wp2_with (at_builtin;refine kD.kMf rfl _ _ 31 rfl (r:=kL) (e:=108) Ac zz rfl bC8 bC8 J.out HR.out bD1 bD1 nS bC9 ?_);intro v9 w9 bp ap;have Z:=ap.size;have L:(l++l).length<=48:=bC4;generalize l++l=q at *;obtain ⟨a9,c9,b7,_⟩:=kD.kAy bp.raw;obtain rfl:v9=_:=by simpa using b7
   have b5:=yD (bp.wide (T:=jX w.heap.size w9.heap.size) bH);have E:=hc.touch ap tN sU;have o:=N.kBv ap (λk q=>q.1);clear bp ap b7;go_wp2;go_ret;exact ⟨_,_,q,rfl,b5.out,by omega,E,o⟩
 have F:¬ (m:Int)=1:=bC9
 go_wp2
 go_ret
 exact ⟨_,_,l,rfl,J.out.wide rA,by omega,hc,N⟩
end Go.Proofs.YtonmjkmaadgceabGreat
namespace Go.Proofs.YtonmjkmaadgceabGreat
open Go _root_.Go.Proofs.Tryz
section
variable {P:Program} {ops:Bd Oper} {S S2:Ag->Prop} {Q:Exit->Act->Ag->Prop}
def treeC (md:Al) (ops:Bd Oper) (n:Nat):Bool :=
  (List.range ops.size).all λt=>decide (t<=n) || (((List.range t).any λj=>decide (n<=j) && Ay md ops t j) || (decide (0 < n) && (Ay md ops t (n - 1) && kGu md ops (n - 1) [])))
def sink_open {md:Al} {n m:Nat} {listed:Bd Bool} (hs:kGu md ops m []=true) (hm:m < ops.size) (inv:Ba md ops n listed):∀ (d i:Nat),m - i=d->i<=m->listed.getD i true=false->listed.getD m true=false:=by
 intro d;induction d using Nat.strongRecOn with
 | _ d ih =>
   intro i hd hi a6;by_cases ce:i=m
   · subst ce;exact a6
   · have h1:=Ar.1 hs i (List.mem_range.2 bC9);simp only [List.contains_nil,Bool.false_or,Bool.not_false,Bool.true_and] at h1;obtain ⟨j,I,br⟩:=List.any_eq_true.1 h1;simp only [Aa,Ab] at br;have bz:j<=m:=rE;obtain ⟨J,N,e,he,hb,o⟩:=Av br.2;cases hl:listed.getD j false with
     | true =>
       have h2:=inv.closed j J N hl e he hb;rw [o,getD_both a6] at h2;cases h2
     | false =>
       have H:j < listed.size:=vM;exact ih (m - j) bC9 j rfl bz (getD_in H hl)
def kRd {md:Al} {n:Nat} {D:Ad Nat} {listed:Bd Bool} (hs:kGu md ops n D=true) (hc:treeC md ops n=true) (hn:n < ops.size) (inv:Ba md ops n listed) :
    ∀ (d i:Nat),n - i=d->i < n->D.contains i=false->listed.getD i true=false->∀ t,n<=t->t ∉ Ah md ops listed:=by
 intro d
 induction d using Nat.strongRecOn with
 | _ d ih =>
   intro i hd hi Y a6 t ht hr;obtain ⟨_,R,E,G⟩:=mem_ready.1 hr;have F:t < ops.size:=(Array.getElem?_eq_some_iff.1 E).1;by_cases O:t=n
   · exact oD
   · have h1:=Ar.1 hc t (List.mem_range.2 F);simp only [Bool.or_eq_true,Aa,Ab] at h1;rcases h1 with h1 | h1 | h1
     · omega
     · exact oF
     · obtain ⟨ck,hw,W⟩:=h1;have X:=sink_open W bC9 inv _ i rfl bC9 a6;obtain ⟨V,L,e,he,hb,o⟩:=Av hw;have:V=R:=Option.some.inj (L.symm.trans E);subst this;have h2:=G e he hb;rw [o,getD_both X] at h2;cases h2
def kTk {md:Al} {n i:Nat} {D:Ad Nat} {V:Oper} {v:Value} {L:Bd Bool->Act->Ag->Prop} (hi:ops[i]?=some V) (E:∀ (j:Nat) (o:Oper) cs b,ops[j]?=some o->o.op≠.select cs b)
    (hQ:∀ c a w,Q (.panic c) (a.put V.dst v) w->Q (.panic c) a w) (hs:kGu md ops n D=true) (hc:treeC md ops n=true) (hn:n < ops.size) (R:i < n) (Y:D.contains i=false)
    (X:∀ listed a w,L listed a w->∀ j∈Ah md ops listed,n<=j) :
    ∀ (f:Nat) (listed:Bd Bool) (a:Act) (w:Ag),Ba md ops n listed ->
      (∀ j J,ops[j]?=some J->j≠i->listed.getD j true=false->(∀ e∈J.after,Region.binds md e=true->e.on≠i)->V.apart ops J=true) ->
      i∈Ah md ops listed->YieldsIf P ops S V v a->S w ->
      kBd P md ops Q S n L f (listed.setIfInBounds i true) (a.put V.dst v) w->kBd P md ops Q S n L (f + 1) listed a w:=by
 intro f
 induction f with
 | zero =>
   intro listed a w inv _ hr hy hS H;have a6:=(mem_ready.1 hr).1;refine ⟨λh=>vC,λj I=>?_⟩;have ak:j < n:=by
     rcases Nat.lt_or_ge j n with h | h
     · exact h
     · exact absurd I (kRd hs hc hn inv _ i rfl R Y a6 j h)
   exact o6
 | succ f ih =>
   intro listed a w inv O hr hy hS H;have a6:=(mem_ready.1 hr).1;refine ⟨λh=>vC,λj I=>?_⟩;have ak:j < n:=by
     rcases Nat.lt_or_ge j n with h | h
     · exact h
     · exact absurd I (kRd hs hc hn inv _ i rfl R Y a6 j h)
   exact o7
def soft2OkC (md:Al) (ops:Bd Oper) (D:Ad Nat) (q q2:Ad (Nat × Bool)):Bool :=
  Az ops && (decide (D.length + q.length < ops.size) && (D.all (λx=>decide (x < D.length + q.length)) && (q.all (λx=>decide (x.1 < D.length + q.length) && !D.contains x.1) && (kGu md ops (D.length + q.length) D && (treeC md ops (D.length + q.length) &&
    (preB md ops D (Ae ops.size false) && (q2.all (λx=>decide (x.1 < ops.size)) && (decide (D.length + q.length + q2.length=ops.size) && kDh md ops (D.length + q.length) q2 q (kIa D (Ae ops.size false))))))))))
def kGa {l:Ad Oper} {n:Nat} {D:Ad Nat} {q2:Ad (Nat × Bool)} (E:Az l.toArray=true) (hQ:∀ c a d v w,Q (.panic c) (Act.put a d v) w->Q (.panic c) a w)
    (hs:kGu .any l.toArray n D=true) (hc:treeC .any l.toArray n=true) (hn:n < l.toArray.size):∀ (q:Ad (Nat × Bool)) (k:Nat) (listed:Bd Bool) (a:Act) (w:Ag),
    q.all (λx=>decide (x.1 < n) && !D.contains x.1)=true->Ba .any l.toArray n listed->kDh .any l.toArray n q2 q listed=true->S w->kKk P l.toArray S S2 Q (kz l q2) (q2.map (·.2)) k (kz l q) (q.map (·.2)) a w ->
    kBd P .any l.toArray Q S n (λlisted a w=>(Ah .any l.toArray listed).all (λj=>decide (n<=j))=true/\kHh .any l.toArray q2 listed=true/\S2 w/\∃ k,kCl P l.toArray S2 Q k (kz l q2) (q2.map (·.2)) a w) q.length listed a w
  | [],k,listed,a,w,_,inv,hB,hS,h=>by
    exact oG
  | (i,true) :: q,k,listed,a,w,hi,inv,hB,hS,h=>by
    simp only [List.all_cons,Aa,Ab,Aw] at hi;have hil:i < l.toArray.size:=Nat.lt_trans hi.1.1 hn;have h0:l.toArray[i]?=some l.toArray[i]:=Ai hil;have hp:kz l ((i,true) :: q)=l.toArray[i] :: kz l q:=by
      exact o8
    rw [hp] at h;obtain ⟨v,hy,h⟩:=h;simp only [kDh,Aa] at hB;obtain ⟨hr,bu⟩:=DW;exact kTk h0 (Region.noSelect_spec E) (λc a w=>hQ c a _ _ w) hs hc hn hi.1.1 hi.1.2 (λG a' w' N j I=>by simpa using Ar.1 N.1 j I) q.length listed a w inv (Region.free_spec h0 hB.1.2) hr hy hS
      (kGa E hQ hs hc hn q (k + 1) _ _ _ bu (inv.set hr hi.1.1) hB.2 hS h)
  | (i,false) :: q,k,listed,a,w,hi,inv,hB,hS,h=>by
    simp only [List.all_cons,Aa,Ab,Aw] at hi;obtain ⟨bu,hil⟩:=DY;have h0:l.toArray[i]?=some l.toArray[i]:=Ai hil;have hp:kz l ((i,false) :: q)=l.toArray[i] :: kz l q:=by
      exact o8
    rw [hp] at h;simp only [kDh,Aa,beq_iff_eq] at hB;have hr:i∈Ah .any l.toArray listed:=bA7;refine ⟨by rw [hB.1];simp,λj I=>?_⟩;rw [hB.1] at I;obtain rfl:j=i:=bB4;refine ⟨hi.1.1,?_⟩;refine wpOp_mono (λa' w' F=>⟨F.1,kGa E hQ hs hc hn q (k + 1) _ _ _ bu (inv.set hr hi.1.1) hB.2 F.1 F.2⟩) (K:=λa' w'=>S w'/\kKk P l.toArray S S2 Q (kz l q2) (q2.map (·.2)) (k + 1) (kz l q) (q.map (·.2)) a' w') ?_;exact oC
def kHq {id:Nat} {a:Act} {w:Ag} {l:Ad Oper} (S S2:Ag->Prop) (D:Ad Nat) (q q2:Ad (Nat × Bool)) (hm:P.follows .mixedOrders=true) (hB:soft2OkC .any l.toArray D q q2=true)
    (hQ:∀ c a d v w,Q (.panic c) (Act.put a d v) w->Q (.panic c) a w) (hS:S { w with drawn:=w.drawn + 1 })
    (h:∀ w',S w'->pre P l.toArray (λa'=>kHx P l.toArray S S2 Q (kz l q2) (q2.map (·.2)) 0 (kz l q) (q.map (·.2)) a' w') (zF l D) a):(Code.region id l.toArray true).wp P Q a w:=by
 simp only [soft2OkC,Aa,Ab] at hB
 have h:=h _ hS
 unfold pre at h
 unfold kHx at h
 have E:Ba .any l.toArray (D.length + q.length) (Ae l.toArray.size false) :=
   ⟨by simp,λj J _ hl=>nU,λt _ ht=>getD_in bA5 (getD_replicate_false _ _)⟩
 refine wp_region_any hm ?_
 obtain ⟨b1,b2,R,O,V,b6,L,I,U,G⟩:=hB
 have az:q.all (λx=>decide (x.1 < D.length + q.length) && !D.contains x.1)=true:=dP
 have key:=kLf (f:=q.length + q2.length) b1 hQ b2 D (Ae l.toArray.size false) a (by simpa using R) E L (kLm (λa' hk=>by
   intro F;have H:=kGa (S2:=S2) b1 hQ V b6 b2 q 0 _ a' _ az F G hS hk;exact kBf (Q:=Q) (g:=q2.length) (λlisted a' w' N=>by
     obtain ⟨_,hb,bt,k,hw⟩:=N;exact wpAny_of_held (S:=S2) _ _ _ _ (kDx b1 hQ q2 k _ listed a' w' I nL hb bt hw)) _ _ _ _ H) _ _ h)
 rw [show D.length + (q.length + q2.length)=l.toArray.size by omega] at key
 exact key
end
end Go.Proofs.YtonmjkmaadgceabGreat
