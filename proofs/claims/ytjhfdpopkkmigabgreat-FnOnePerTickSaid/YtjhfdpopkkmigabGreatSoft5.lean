/-
  Regions in two phases whose later operations may wait for the head alone. No program in sight.
-/
import Derived.Test.YtjhfdpopkkmigabGreatDrawO
set_option linter.unusedVariables false
set_option linter.defProp false
set_option linter.unusedSimpArgs false
set_option linter.unnecessarySimpa false
set_option maxRecDepth 100000
set_option maxHeartbeats 4000000
open Bool renaming and_eq_true->Aa,not_eq_true'->Av
open _root_ renaming decide_eq_true_eq->Ab,List->Ad,Array->Bc
open Array renaming replicate->Ac,getElem?_eq_getElem->Ai
open Go.Proofs.Tryz renaming underlying31->Ae
open Go.Region renaming ready->Ag,Mode->Ak,waitsFor_spec->Ar,waitsFor->Ay,noSelect->Az
open Go renaming World->Ah,HeadInv->Ba
open Int renaming toNat_natCast->Aj,eq_ofNat_of_zero_le->Ap
open List renaming getElem?_cons_succ->Al,getElem?_cons_zero->Am,all_eq_true->Aq
open Go.Value.slice renaming injEq->Au
open List.cons renaming injEq->Aw
open Go.IntWalk renaming i64_in->Bb
namespace Go.Proofs.YtjhfdpopkkmigabGreat
open Go.RowKit _root_.Go.Proofs.Tryz
def kZf {w:Ah} {a b:Int}:Calls prog 212 #[.int .i64 a,.int .i64 b] w λe w'=>e=.returned (.int .i64 (min a b))/\w'=w:=by
 go_enter func212,ntmps212;by_cases h:b < a
 · have hd:decide (b < a)=true:=bF6;have L:=yD (show min a b=b by omega);exact lW
 have hd:decide (b < a)=false:=bF6;have L:=yD (show min a b=a by omega);exact lW
def specMax_c {w:Ah} {a b:Int}:Calls prog 216 #[.int .i64 a,.int .i64 b] w λe w'=>e=.returned (.int .i64 (max a b))/\w'=w:=by
 go_enter func216,ntmps216;by_cases h:b > a
 · have hd:decide (b > a)=true:=bF6;have L:=yD (show max a b=b by omega);exact lW
 have hd:decide (b > a)=false:=bF6;have L:=yD (show max a b=a by omega);exact lW
def upF (x:Int):Int:=min 50 (wrap64 (x + 1))
def upF_rng {x:Int}:-9223372036854775808<=upF x/\upF x<=9223372036854775807:=by
 unfold upF;unfold wrap64;omega
def recF (n:kg) (f:Int) (l:Ad kZ):Ad kZ :=
  if kAp n && inR f 1 6 then
    (if idxOf (yf n f) l < 0 then (if l.length < 24 then l++[(n,f,1)] else l)
     else l.set (idxOf (yf n f) l).toNat (zu (l.getD (idxOf (yf n f) l).toNat ([],0,0)) (upF (l.getD (idxOf (yf n f) l).toNat ([],0,0)).2.2)))
  else l
def recF_no {n:kg} {f:Int} {l:List kZ} (h:(kAp n && inR f 1 6)=false):recF n f l=l:=by unfold recF;rw [h];rfl
def recF_new {n:kg} {f:Int} {l:List kZ} (h:(kAp n && inR f 1 6)=true) (h2:idxOf (yf n f) l < 0) (h3:l.length < 24):recF n f l=l++[(n,f,1)]:=by unfold recF;rw [if_pos h,if_pos h2,if_pos h3]
def recF_full {n:kg} {f:Int} {l:List kZ} (h:(kAp n && inR f 1 6)=true) (h2:idxOf (yf n f) l < 0) (h3:¬ l.length < 24):recF n f l=l:=by unfold recF;rw [if_pos h,if_pos h2,if_neg h3]
def recF_up {n:kg} {f:Int} {l:Ad kZ} {k:Nat} (h:(kAp n && inR f 1 6)=true) (h2:idxOf (yf n f) l=k) (hk:k < l.length):recF n f l=l.set k (zu l[k] (upF l[k].2.2)):=by
 unfold recF;simp only [h,h2,Aj,ja hk];rw [if_pos trivial,if_neg bH3]
def kNt {w:Ah} {vl:Value} {l:Ad kZ} (hl:(kD.slice 166 kR).rd w [vl] l) {cn:Ad Value} {n:kg} (hn:kN.rd w cn n) {f:Int} (hf:Qi f) :
    Calls prog 185 #[vl,.agg cn.toArray,.int .i64 f] w (kBb (kD.slice 166 kR) (recF n f l) w):=by
 obtain ⟨HL,HN,bc⟩:=EJ
 obtain ⟨nv,rfl,a5⟩:=kX hn.1
 obtain ⟨na,np,rfl,_⟩:=kD.sl a5
 obtain ⟨va,vp,rfl,bv⟩:=kD.sl hl.1
 clear a5 hl hn
 go_enter func185,ntmps185
 go_wp2_with fail
 generalize J:World.alloc w _=N
 obtain ⟨EB,K0,bk⟩:=DI
 clear J
 refine (kFu (HL.out.below EB)).mono ?_
 rintro e w1 ⟨v1,rfl,O1,O⟩
 replace K0:=cL O K0
 obtain ⟨E1,bf,I⟩:=EN
 obtain ⟨oa,on,oc,ho,a1⟩:=O1.parts;obtain rfl:=ho
 clear O1 O EB
 have HF:=yD hf
 clear hf
 go_wp2_with fail
 refine (yg (HN.out.1.below E1)).mono ?_
 rintro e V ⟨rfl,af⟩
 replace K0:=cL af K0
 have E2:=(tQ E1 af)
 have a9:=af.size
 replace I:=yD ((I.out.below af).wide (T:=jb w.heap.size V.heap.size) rQ)
 clear af E1
 cases hv:kAp n
 · have L:=yD (recF_no (f:=f) (l:=l) (by rw [hv];rfl));go_wp2;go_ret;exact ⟨_,rfl,(I.out.cast L.out.symm).own bB0,E2⟩
 go_wp2_with fail
 refine yA.mono ?_
 rintro e w3 ⟨rfl,cd⟩
 obtain rfl:=cd.symm
 clear cd
 cases hi:inR f 1 6
 · have L:=yD (recF_no (f:=f) (l:=l) (by rw [hv,hi];rfl));go_wp2;go_ret;exact ⟨_,rfl,(I.out.cast L.out.symm).own bB0,E2⟩
 have HB:Hid ((kAp n && inR f 1 6)=true):=yD (by rw [hv,hi];rfl)
 clear hv hi
 go_wp2_with fail
 refine (kFt (HL.out.1.below E2) (HN.out.1.below E2)).mono ?_
 rintro e w4 ⟨rfl,ad⟩
 replace K0:=cL ad K0
 have E4:=(tQ E2 ad)
 have b1:=ad.size
 replace I:=yD ((I.out.below ad).wide (T:=jb w.heap.size w4.heap.size) rQ)
 clear ad E2
 by_cases hk:idxOf (yf n f) l < 0
 · have dl:¬ (0<=idxOf (yf n f) l):=bH3;generalize hq:idxOf (yf n f) l=q at *;have HQ:=yD hq;clear hq;by_cases G:l.length < 24
   · have F:(l.length:Int) < 24:=bH3;have L:=yD (recF_new HB.out (by rw [HQ.out];exact hk) G);go_wp2_with fail;refine (zX (HN.out.below E4)).mono ?_;rintro e wT ⟨tc,rfl,OT,al⟩;obtain ⟨fp,rfl,b6⟩:=kX OT.raw;obtain ⟨bi,cv,rfl,_⟩:=kD.sl b6;clear b6;go_upto_region 9 with fail;generalize D:World.alloc wT _=wC;have EC:Qb wT wC:=tL;have W:Qd wC wT 0 (.slice bi n.length cv):=wG;clear D;have ER:=(tQ al EC);have f2:=al.size;have an:=EC.size;have H:=OT.below EC;replace I:=yD (I.out.below ER);have f9:on<=24:=bB7;go_wp2_with (at_builtin;refine kD.jP rfl _ _ 31 rfl (r:=kR) (e:=166) Ae kAy rfl bH2 bH2 (B:=w.heap.size) I.out bH5 bH5 rfl (kD.own.wide (T:=jb w4.heap.size wT.heap.size) (kD.yF (r:=kN) (q:=kD.pair kD.int kD.int) (cs:=[.slice bi n.length cv]) (ds:=[.int .i64 f,.int .i64 1]) (x:=n) (y:=(f,1)) (H) (kD.jW (kD.ku HF.out) (kD.ku (n:=1) bH3))) (λj hj=>hj)) rfl nX rQ mV bH3 bB7 ?_);intro v5 w5 R ap bz;have aj:=yD (R.cast L.out.symm);have E5:=(tQ E4 ER).trans ap;clear R ap;go_wp2;go_ret;exact ⟨_,rfl,aj.out.own (by rw [L.out,List.length_append];unfold Big;simp;omega),E5⟩
   have F:¬ (l.length:Int) < 24:=bH3;have L:=yD (recF_full HB.out (by rw [HQ.out];exact hk) G);go_wp2;go_ret;exact ⟨_,rfl,(I.out.cast L.out.symm).own bB0,E4⟩
 obtain ⟨k,hkl,ac⟩:=kHb hk
 have au:=yD ac
 rw [ac]
 clear hk ac
 obtain ⟨b,cap,hv,Z,a8,a4,U⟩:=kD.zy I.out hkl
 simp only [Au] at hv
 obtain ⟨rfl,o,rfl⟩:=hv
 have bt:k < on:=bH3
 obtain ⟨b4,a2⟩:=GU
 have ax:=yD (I.out.own bc)
 obtain ⟨c0,c1,c2,hr,A0,A1,A2⟩:=kD.at3 ax.out.raw hkl rfl
 obtain ⟨rv,aa,az,ai,ay,bl⟩:=yV hr
 simp only [Aw,and_true] at aa
 obtain ⟨rfl,rfl,rfl⟩:=aa
 have ah:=kD.kGg I.out bH3 (k * 3 + 2)
 have L:=yD (recF_up HB.out au.out hkl)
 obtain ⟨s1,s2⟩:=kD.kEv (i:=k) (j:=2) (p:=k * 3 + 2) (u:=.int .i64 (upF l[k].2.2)) I.out bc hkl bH2 (λh=>kIi _ upF_rng h) (show kR.bdd Big (zu l[k] (upF l[k].2.2)) from kD.yX ax.out.rd hkl) rfl
 have ae:=yD (λv (hv:v=upF l[k].2.2)=>(show kD.kQ 166 kR (w4.setCell ⟨b,k * 3 + 2,none⟩ (.int .i64 v)) _ _ _ from hv ▸ s1.cast L.out.symm));clear s1 s2 o hr az ai ay
 go_wp2_with fail
 refine kZf.mono ?_
 rintro e w6 ⟨rfl,b5⟩
 obtain rfl:=b5.symm
 clear b5
 go_wp2
 all_goals go_ret
 all_goals exact ⟨_,rfl,((ae.out _ (by unfold upF;omega)).own sD).wide mO,E4.setCell Z.1 _⟩
def recS (n:kg) (f:Int) (l:Ad kZ):Ad kZ :=
  if idxOf (yf n f) l < 0 then l
  else if (l.getD (idxOf (yf n f) l).toNat ([],0,0)).2.2 < 2 then l.take (idxOf (yf n f) l).toNat++l.drop ((idxOf (yf n f) l).toNat + 1)
  else l.set (idxOf (yf n f) l).toNat (zu (l.getD (idxOf (yf n f) l).toNat ([],0,0)) ((l.getD (idxOf (yf n f) l).toNat ([],0,0)).2.2 / 2))
def recS_none {n:kg} {f:Int} {l:List kZ} (h:idxOf (yf n f) l < 0):recS n f l=l:=by unfold recS;rw [if_pos h]
def recS_cut {n:kg} {f:Int} {l:Ad kZ} {k:Nat} (h:idxOf (yf n f) l=k) (hk:k < l.length) (h2:l[k].2.2 < 2):recS n f l=l.take k++l.drop (k + 1):=by
 unfold recS;simp only [h,Aj,ja hk];rw [if_neg bH3,if_pos h2]
def recS_half {n:kg} {f:Int} {l:Ad kZ} {k:Nat} (h:idxOf (yf n f) l=k) (hk:k < l.length) (h2:¬ l[k].2.2 < 2):recS n f l=l.set k (zu l[k] (l[k].2.2 / 2)):=by
 unfold recS;simp only [h,Aj,ja hk];rw [if_neg bH3,if_neg h2]
def kNs {w:Ah} {vl:Value} {l:Ad kZ} (hl:(kD.slice 166 kR).rd w [vl] l) {cn:Ad Value} {n:kg} (hn:kN.rd w cn n) {f:Int} (hf:Qi f) :
    Calls prog 186 #[vl,.agg cn.toArray,.int .i64 f] w (kBb (kD.slice 166 kR) (recS n f l) w):=by
 obtain ⟨HL,HN,bc⟩:=EJ
 obtain ⟨nv,rfl,a5⟩:=kX hn.1
 obtain ⟨na,np,rfl,_⟩:=kD.sl a5
 clear a5 hl hn hf
 go_enter func186,ntmps186
 go_wp2_with fail
 generalize J:World.alloc w _=N
 obtain ⟨EB,K0,bk⟩:=DI
 clear J
 refine (kFu (HL.out.below EB)).mono ?_
 rintro e w1 ⟨v1,rfl,O1,O⟩
 replace K0:=cL O K0
 have E1:=(tQ EB O)
 have I:=yD O1
 obtain ⟨oa,on,oc,ho,a1⟩:=O1.parts;obtain rfl:=ho
 clear O1 O
 go_wp2_with fail
 refine (kFt (HL.out.1.below E1) (HN.out.1.below E1)).mono ?_
 rintro e V ⟨rfl,af⟩
 have E2:=(tQ E1 af)
 have bf:=E1.size
 have a9:=af.size
 replace I:=yD ((I.out.below af).wide (T:=jb w.heap.size V.heap.size) mV)
 clear af E1 EB
 by_cases hk:idxOf (yf n f) l < 0
 · have L:=yD (recS_none hk);go_wp2;go_ret;exact ⟨_,rfl,(I.out.cast L.out.symm).own (by rw [L.out];unfold Big;omega),E2⟩
 obtain ⟨k,hkl,ac⟩:=kHb hk
 have au:=yD ac
 rw [ac]
 clear hk ac
 obtain ⟨b,cap,hv,R⟩:=kD.kJq I.out hkl
 simp only [Au] at hv
 obtain ⟨rfl,o,rfl⟩:=hv
 have bt:k < on:=bH3
 rw [List.drop_eq_getElem_cons hkl] at R
 have b0:=R.len
 simp only [List.length_take,List.length_cons,List.length_drop] at b0
 have a4:on<=oc:=by have:=b0.2.1;omega
 have U:oc<=9223372036854775807:=qH
 have Z:=R.mem
 have ah:=R.frozen (k * 3 + 2)
 have G:Hid (kD.gap 166 kR V b oc l.length (l.take k) 1 (l.drop (k + 1)) (jb w.heap.size V.heap.size)):=yD R.skip
 clear R b0
 have ax:=yD (I.out.own bc)
 obtain ⟨c0,c1,c2,hr,A0,A1,A2⟩:=kD.at3 ax.out.raw hkl rfl
 obtain ⟨rv,aa,az,ai,ay,bl⟩:=yV hr
 simp only [Aw,and_true] at aa
 obtain ⟨rfl,rfl,rfl⟩:=aa
 have Y:=yD (recS_cut au.out hkl)
 have F:=yD (recS_half au.out hkl)
 have ar:=yD (λ(v:Int) (hv:Qi v)=>kD.kEv (i:=k) (j:=2) (p:=k * 3 + 2) (u:=.int .i64 v) I.out bc hkl bH2 (λh=>kIi v hv h) (show kR.bdd Big (zu l[k] v) from kD.yX ax.out.rd hkl) rfl)
 have a1:=yD o
 clear o hr az ai ay
 obtain ⟨b4,a2⟩:=GU
 have co:k<=oc:=bH3
 have al:=Go.IntWalk.i64_in ((k:Int) + 1) bH3
 by_cases h2:l[k].2.2 < 2
 · have L:=yD (Y.out h2);clear Y F ar;have HK:Hid ((l.take k).length=k):=yD bG7;have cw:k + 1<=oc:=bH3;have dl:k + 1<=on:=bH3;have fe:(k:Int) + 1<=on:=bH3;have aj:(0:Int)<=(k:Int) + 1:=bH3;by_cases bm:oc=k + 1
   · have HR:Hid ((l.drop (k + 1)).length=0):=yD (by have:=a1.out;simp;omega);obtain rfl:on=k + 1:=bH3;subst bm;have ak:(k:Int)<=(k:Int) + 1:=bH3;go_upto_region 6 with fail;refine yN (λW=>Qb V W) [(1,true),(2,true),(3,true),(5,true),(6,true),(7,true),(8,true),(0,false),(4,false),(9,false),(10,true)] bG6 bG6 qY (bR.drew) ?_;intro wS E;simp only [jB,Al,Am,List.map_cons,List.map_nil];iterate 7
      all_goals refine ky ?_
     all_goals first|(refine kJ rfl E ?_)|(refine kw rfl (λK H=>?_);go_simp;generalize av:World.alloc wS _=wU;replace E:Qb V wU:=(by rw [<- av];exact E.alloc E.size _);clear av;refine H _ _ E ?_;clear H K)
     all_goals refine jG ?_
     all_goals first|(refine kJ rfl E ?_)|(refine kw rfl (λK H=>?_);obtain ⟨v3,u3,a7,ap,v4,u4,X,aq,ad⟩:=kD.kIb (P:=prog) (t:=31) Ae kAy rfl bH2 bH2 G.out E (a0:=some ⟨wS.heap.size,0,none⟩) bH3 (k + 1) 0 31 31 (q:=0) (kl:=k) (rl:=0) (λhne=>absurd (List.eq_nil_of_length_eq_zero HR.out) hne) HK.out.symm HR.out.symm;have ag:=(tQ E ap);refine kD.kV _ _ _ rfl bH5 bH5 a7 ?_;refine H _ _ ag ?_;clear H K)
     all_goals refine jG ?_
     all_goals first|(refine kJ rfl E ?_)|(refine kw rfl (λK H=>?_);have D:=(tQ E ad);refine kD.kV _ _ _ rfl bH5 bH5 X ?_;refine H _ _ D ?_;clear H K)
     all_goals refine jG ?_
     all_goals refine ky ?_
     all_goals refine kS ?_
     exact o5
   have HR:Hid ((l.drop (k + 1)).length=on - (k + 1)):=yD (by have:=a1.out;simp;omega);go_upto_region 6 with fail;refine yN (λW=>Qb V W) [(1,true),(2,true),(3,true),(5,true),(6,true),(7,true),(8,true),(0,false),(4,false),(9,false),(10,true)] bG6 bG6 qY (bR.drew) ?_;intro wS E;simp only [jB,Al,Am,List.map_cons,List.map_nil];iterate 7
    all_goals refine ky ?_
   all_goals first|(refine kJ rfl E ?_)|(refine kw rfl (λK H=>?_);go_simp;generalize av:World.alloc wS _=wU;replace E:Qb V wU:=(by rw [<- av];exact E.alloc E.size _);clear av;refine H _ _ E ?_;clear H K)
   all_goals refine jG ?_
   all_goals first|(refine kJ rfl E ?_)|(refine kw rfl (λK H=>?_);obtain ⟨v3,u3,a7,ap,v4,u4,X,aq,ad⟩:=kD.kIb (P:=prog) (t:=31) Ae kAy rfl bH2 bH2 G.out E (a0:=some ⟨wS.heap.size,0,none⟩) bH3 oc (oc - (k + 1)) 31 31 (q:=((k + 1) * 3)) (kl:=k) (rl:=(on - (k + 1))) (λ_=>by rw [HK.out];rfl) HK.out.symm HR.out.symm;have ag:=(tQ E ap);refine kD.kV _ _ _ rfl bH5 bH5 a7 ?_;refine H _ _ ag ?_;clear H K)
   all_goals refine jG ?_
   all_goals first|(refine kJ rfl E ?_)|(refine kw rfl (λK H=>?_);have D:=(tQ E ad);refine kD.kV _ _ _ rfl bH5 bH5 X ?_;refine H _ _ D ?_;clear H K)
   all_goals refine jG ?_
   all_goals refine ky ?_
   all_goals refine kS ?_
   exact o5
 have L:=yD (F.out bH3)
 obtain ⟨s1,s2⟩:=ar.out (l[k].2.2 / 2) bH3
 have ae:=yD s1;have ab:=yD s2
 clear Y F ar s1 s2 G
 go_wp2
 go_ret
 exact ⟨_,rfl,((ae.out.cast L.out.symm).own sD).wide mO,E2.setCell Z.1 _⟩
def recF_len {n:kg} {f:Int} {l:Ad kZ} (h:l.length<=24):(recF n f l).length<=24:=by
 unfold recF;split
 · split
   · split
     · simp;omega
     exact h
   simp;exact h
 exact h
def recS_len {n:kg} {f:Int} {l:Ad kZ} (h:l.length<=24):(recS n f l).length<=24:=by
 unfold recS;split
 · exact h
 split
 · simp;omega
 simp;exact h
def kYg {w0 w:Ah} {p:Nat} (hc:yS w0 w p) :
    Calls prog 184 #[.pointer (some ⟨p,0,none⟩)] w λe w'=>∃ a c ps,e=.returned (.agg #[Qs a ps c])/\kN.own w' [Qs a ps c] ps (jb w.heap.size w'.heap.size)/\ps.length<=64/\yS w0 w' p/\Touch (λk=>k=p) w w':=by
 go_enter func184,ntmps184
 obtain ⟨bd,bw⟩:=hc.lt
 go_upto_region 1 with fail
 generalize G:World.alloc w _=w1
 obtain ⟨U,R,bo⟩:=CU
 clear G
 obtain ⟨hc,J⟩:=xQ
 clear U
 go_wp2_with fail
 refine (kAd (hc.below (bR.alloc nL _)) (kD.kBg _ [{ data:=#[47] },{ data:=#[47,97] },{ data:=#[47,98] },{ data:=#[47,97,47,110,101,119,115] }] bH2 bH2) bH3 bH2 bH2).mono ?_
 rintro e V ⟨y,aw,b6,rfl,F,D⟩
 replace D:=(Touch.of_below (S:=λk=>k=p) (bR.alloc nL _)).trans D
 obtain ⟨bv,R,J⟩:=BP
 clear hc D
 have hc:=F
 clear F
 go_wp2_with fail
 refine (kVv (kD.kCr bH2 aw)).mono ?_
 rintro e w3 ⟨a,c,ps,rfl,hr,hl,hb⟩
 have bt:=hb.size
 replace R:=kC R hb
 obtain ⟨hc,J⟩:=xI
 clear hb
 have HR:=yD (hr)
 clear hr
 have ak:Qd w3 w 0 (.slice none 0 0):=kE R rfl
 have al:w3.frozen? ⟨w.heap.size,0,none⟩=false:=frozen_of_row w3 (w.heap.size) 0 _ _ R
 go_wp2
 refine bodyPost_ret (v:=.agg #[Qs a ps c]) (by simp [results,results184,go_sem,ak,al]) rfl ⟨_,_,ps,rfl,?_,hl,hc.touch (jl w3 w.heap.size 0 _) bH3 bD5,J.jJ (jl w3 w.heap.size 0 _) bH3⟩
 exact (HR.out.touch (jl w3 w.heap.size 0 _) vE).wide fE
def kOl {w0 w:Ah} {p:Nat} (hc:yS w0 w p) :
    Calls prog 135 #[.pointer (some ⟨p,0,none⟩)] w λe w'=>∃ a c l,e=.returned (.slice a l.length c)/\(kD.slice 166 kR).own w' [Qs a l c] l (jb w.heap.size w'.heap.size)/\l.length<=24/\yS w0 w' p/\Touch (λk=>k=p) w w':=by
 go_enter func135,ntmps135
 obtain ⟨bd,bw⟩:=hc.lt
 go_upto_region 2 with fail
 generalize G:World.alloc w _=w1
 have U:Qb w w1:=tK
 have bo:w.heap.size + 1<=w1.heap.size:=bF4
 clear G
 obtain ⟨hc,J⟩:=xQ
 clear U
 go_wp2_with fail
 refine (ko (n:=14) hc bH2).mono ?_
 rintro e V ⟨m,bc,ax,b7,rfl,F,D⟩
 have bv:=D.size
 replace J:=J.trans D
 clear hc D
 have hc:=F
 clear F
 replace ax:=ax bH2
 clear b7
 obtain ⟨m,rfl⟩:=Ap bc
 go_wp2
 go_loopw [3,4] (λv i wr=>∃ (j:Nat) (a:Option Addr) (n c:Nat) (l:Ad kZ),v=.slice a n c/\i=.int .i64 j/\l.length<=24/\Hid (n=l.length)/\j < 14/\Hid ((kD.slice 166 kR).own wr [.slice a n c] l (jb w.heap.size wr.heap.size))/\V.heap.size<=wr.heap.size/\yS w0 wr p/\Touch (λk=>k=p) w wr) (λ_ i _=>(intOf i).toNat)
 case atStart=>exact ⟨m,_,0,0,[],rfl,rfl,by simp,yD rfl,by omega,yD kD.jm,Nat.le_refl _,hc,J⟩
 clear hc J
 obtain ⟨j,a,n,c,l,rfl,rfl,hl,HN,hj,I,da,hc,J⟩:=hrel
 have bn:=J.size
 cases j with
 | zero =>
   go_wp2;go_ret;have hn:=HN.out;subst hn;exact ⟨_,_,l,rfl,I.out,hl,hc,J⟩
 | succ j =>
   have c8:(0:Int) < (j:Int) + 1:=bH3;go_upto_region 5 with fail;go_wp2_with fail;refine (kYg hc).mono ?_;rintro e w4 ⟨na,nc,nm,rfl,hr,bq,F,D⟩;have b5:=D.size;obtain ⟨I,J⟩:=xK;clear hc D;have hc:=F;clear F;have HR:=yD (hr);clear hr;go_upto_region 6 with fail;generalize G:World.alloc w4 _=w5;have ar:Qb w4 w5:=tK;have B:Qr w5 w4.heap.size #[Qs na nm nc] 36:=wW;have b3:w4.heap.size + 1<=w5.heap.size:=bF4;clear G;replace I:=yD (I.out.below ar);replace HR:=yD (HR.out.below ar);replace hc:=hc.below ar;replace J:=J.trans (Touch.of_below ar);clear ar;have FX:=yD (λ(W:Ah) (hW:Touch (λk=>k=p) w5 W/\yS w0 W p)=>kE (hW.1.kC B bH3) (j:=0) (v:=.slice na nm.length nc) rfl);refine kK (λW=>Touch (λk=>k=p) w5 W/\yS w0 W p) [true,true,true,false,true,false,true] bG6 bG6 qY (⟨Touch.of_below bR.drew,hc.below bR.drew⟩) ?_;intro wS E;refine ky ?_;refine ky ?_;refine ky ?_;refine kw rfl (λK H=>?_);go_simp;refine (ko (n:=3) E.2 bH2).mono ?_;rintro e wS1 ⟨x,au,o,be,rfl,ap,am⟩;replace o:=o bH2;clear be;replace E:=And.intro (E.1.trans am) ap;clear ap am;have hw:IntKind.i64.wrap (1 + x)=1 + x:=Bb _ bH3;refine H _ _ E ?_;clear H K;refine jG ?_;refine ky ?_;refine kw rfl (λK H=>?_);go_simp;have dv:=E.1.size;refine (kNt ((I.out.touch E.1 qW).rd) (cn:=[.slice na nm.length nc]) (HR.out.touch E.1 qW).rd bH3).mono ?_;rintro e bm ⟨v2,rfl,b0,Z⟩;have bu:=Z.size;obtain ⟨a2,c2,rfl,_⟩:=kD.sl b0.raw;replace E:=And.intro (E.1.trans (Touch.of_below Z)) (E.2.below Z);refine H _ _ E ?_;clear H K;refine jG ?_;refine ky ?_;refine kS ?_;have ah:=E.1.size;have ba:=recF_len (n:=nm) (f:=1 + x) hl;generalize recF nm (1 + x) l=O at *;have R:=yD (b0.wide (T:=jb w.heap.size bm.heap.size) rU);have bg:=J.trans E.1;have fj:=E.2;have X:=E.1.kC B bH3;have ac:=yD (HR.out.touch E.1 qW);clear b0 I J hc B HR Z E hw;go_wp2_with fail;refine (zY (n:=4) fj bH2).mono ?_;rintro e w8 ⟨b,rfl,af,L⟩;have b9:=L.size;have bx:=yD (R.out.touch L qW);have ad:=yD (ac.out.touch L qW);have B8:=L.kC X bH3;have ab:=bg.trans L;clear R ac X bg fj L;cases b
   · go_wp2;go_roundw;case rel=>exact ⟨j,a2,O.length,c2,O,rfl,by go_num,ba,yD rfl,by omega,yD (bx.out.wide (λk hk=>⟨hk.1,by have:=hk.2;omega⟩)),by omega,af,ab⟩
     case measure=>simp [intOf]
   · rename yS w0 w8 p=>hc;have I:=bx;have HR:=ad;have B:=B8;have J:=ab;clear bx ad B8 ab;have N:=b9;go_upto_region 8 with fail;have FX:=yD (λ(W:Ah) (hW:Touch (λk=>k=p) w8 W/\yS w0 W p)=>kE (hW.1.kC B bH3) (j:=0) (v:=.slice na nm.length nc) rfl);refine kK (λW=>Touch (λk=>k=p) w8 W/\yS w0 W p) [true,true,true,false,true,false,true] bG6 bG6 qY (⟨Touch.of_below bR.drew,hc.below bR.drew⟩) ?_;intro wS E;refine ky ?_;refine ky ?_;refine ky ?_;refine kw rfl (λK H=>?_);go_simp;refine (ko (n:=3) E.2 bH2).mono ?_;rintro e wS1 ⟨y,ch,aa,a4,rfl,ap,am⟩;replace aa:=aa bH2;clear a4;replace E:=And.intro (E.1.trans am) ap;clear ap am;have hw:IntKind.i64.wrap (1 + y)=1 + y:=Bb _ bH3;refine H _ _ E ?_;clear H K;refine jG ?_;refine ky ?_;refine kw rfl (λK H=>?_);go_simp;have bk:=E.1.size;refine (kNs ((I.out.touch E.1 qW).rd) (cn:=[.slice na nm.length nc]) (HR.out.touch E.1 qW).rd bH3).mono ?_;rintro e aw ⟨v3,rfl,Y,Z⟩;have jk:=Z.size;obtain ⟨a3,c3,rfl,_⟩:=kD.sl Y.raw;replace E:=And.intro (E.1.trans (Touch.of_below Z)) (E.2.below Z);refine H _ _ E ?_;clear H K;refine jG ?_;refine ky ?_;refine kS ?_;have ag:=E.1.size;have f7:=recS_len (n:=nm) (f:=1 + y) ba;generalize recS nm (1 + y) O=l3 at *;have ai:=yD (Y.wide (T:=jb w.heap.size aw.heap.size) rU);have ae:=J.trans E.1;have g3:=E.2;clear Y I J hc B HR Z E hw;go_wp2;go_roundw;case rel=>exact ⟨j,a3,l3.length,c3,l3,rfl,by go_num,f7,yD rfl,by omega,ai,by omega,g3,ae⟩
     case measure=>simp [intOf]
def jBb {w0 w:Ah} {p:Nat} (hc:yS w0 w p) :
    Calls prog 62 #[.pointer (some ⟨p,0,none⟩)] w λe w'=>∃ a c l,e=.returned (.slice a l.length c)/\(kD.slice 166 kR).own w' [Qs a l c] l (jb w.heap.size w'.heap.size)/\l.length<=48/\yS w0 w' p/\Touch (λk=>k=p) w w':=by
 go_enter func62,ntmps62
 obtain ⟨bd,bw⟩:=hc.lt
 go_wp2_with fail
 refine (kOl hc).mono ?_
 rintro e w1 ⟨a,c,l,rfl,hO,hl,F,D⟩
 have bo:=D.size
 have J:=D
 clear hc D
 have hc:=F
 clear F
 have I:=yD (hO)
 clear hO
 go_wp2_with fail
 refine (ko (n:=10) hc bH2).mono ?_
 rintro e V ⟨m,bc,ax,b7,rfl,F,D⟩
 have bv:=D.size
 obtain ⟨I,J⟩:=xK
 clear hc D
 have hc:=F
 clear F
 replace ax:=ax bH2
 clear b7
 obtain ⟨m,rfl⟩:=Ap bc
 by_cases b1:m=0
 · subst b1;go_wp2_with fail;refine (kTg hc).mono ?_;rintro e w3 ⟨na,nc,nm,rfl,hr,bq,F,D⟩;have bt:=D.size;obtain ⟨I,J⟩:=xK;clear hc D;have hc:=F;clear F;have HR:=yD (hr);clear hr;go_wp2_with fail;refine (ko (n:=8) hc bH2).mono ?_;rintro e w4 ⟨f,d4,df,dx,rfl,F,D⟩;have b5:=D.size;obtain ⟨I,HR,J⟩:=BZ;clear hc D;have hc:=F;clear F;replace df:=df bH2;clear dx;go_wp2_with fail;refine (zn (hc.below (bR.alloc nL _)) (kD.kDz _ [0,1,50,51,-1] bH2 bH2) bH3 bH2 bH2).mono ?_;rintro e w5 ⟨y,aw,b6,rfl,F,D⟩;obtain ⟨D,b3⟩:=AA;obtain ⟨I,HR,J⟩:=BZ;clear hc D;have hc:=F;clear F;have hy:=kD.kId (lo:=-1) (hi:=51) bH2 aw;go_wp2_with (at_builtin;refine kD.zh rfl _ _ 31 rfl (r:=kR) (e:=166) Ae kAy rfl bH2 bH2 I.out bR (kD.yF HR.out (kD.jW (kD.ku bH3) (kD.ku bH3))) bH5 bH5 qE bH3 ?_);intro v9 w9 a5 Z;have N:=Z.size;have O:(l++[(nm,f,y)]).length<=25:=bG7;generalize l++[(nm,f,y)]=q at *;obtain ⟨a9,c9,ce,_⟩:=kD.kBd a5.raw;obtain rfl:v9=_:=by simpa using ce
   have bp:=yD (a5.wide (T:=jb w.heap.size w9.heap.size) bL);have H:=hc.touch Z vU vK;have E:=J.kBz Z (λk q=>q.1.1);clear a5 Z ce;go_wp2;go_ret;exact ⟨_,_,q,rfl,bp.out,by omega,H,E⟩
 have G:¬ (m:Int)=0:=bH3
 by_cases L:m=1
 · subst L;go_wp2_with fail;refine (kFu I.out.rd).mono ?_;rintro e w3 ⟨vc,rfl,hr,hb⟩;have bt:=hb.size;replace I:=yD (I.out.below hb);obtain ⟨hc,J⟩:=xI;clear hb;have HR:=yD (hr);clear hr;obtain ⟨ya,Y,yc,hv,U⟩:=HR.out.parts;obtain rfl:=hv;go_wp2_with (at_builtin;refine kD.kOc rfl _ _ 31 rfl (r:=kR) (e:=166) Ae kAy rfl bH2 bH2 I.out HR.out bH5 bH5 qE bH3 ?_);intro v9 w9 a5 Z;have N:=Z.size;have O:(l++l).length<=48:=bG7;generalize l++l=q at *;obtain ⟨a9,c9,ce,_⟩:=kD.kBd a5.raw;obtain rfl:v9=_:=by simpa using ce
   have bp:=yD (a5.wide (T:=jb w.heap.size w9.heap.size) bL);have H:=hc.touch Z wH vR;have E:=J.kBz Z (λk q=>q.1);clear a5 Z ce;go_wp2;go_ret;exact ⟨_,_,q,rfl,bp.out,by omega,H,E⟩
 have o:¬ (m:Int)=1:=bH3
 go_wp2
 go_ret
 exact ⟨_,_,l,rfl,I.out.wide sU,by omega,hc,J⟩
end Go.Proofs.YtjhfdpopkkmigabGreat
namespace Go.Proofs.YtjhfdpopkkmigabGreat
open Go _root_.Go.Proofs.Tryz
section
variable {P:Program} {ops:Bc Oper} {S S2:Ah->Prop} {Q:Exit->Act->Ah->Prop}
def treeC (md:Ak) (ops:Bc Oper) (n:Nat):Bool :=
  (List.range ops.size).all λt=>decide (t<=n) || (((List.range t).any λj=>decide (n<=j) && Ay md ops t j) || (decide (0 < n) && (Ay md ops t (n - 1) && kHz md ops (n - 1) [])))
def sink_open {md:Ak} {n m:Nat} {listed:Bc Bool} (hs:kHz md ops m []=true) (hm:m < ops.size) (inv:Ba md ops n listed):∀ (d i:Nat),m - i=d->i<=m->listed.getD i true=false->listed.getD m true=false:=by
 intro d;induction d using Nat.strongRecOn with
 | _ d ih =>
   intro i hd hi F;by_cases c8:i=m
   · subst c8;exact F
   · have h1:=Aq.1 hs i (List.mem_range.2 bH3);simp only [List.contains_nil,Bool.false_or,Bool.not_false,Bool.true_and] at h1;obtain ⟨j,hj,bf⟩:=List.any_eq_true.1 h1;simp only [Aa,Ab] at bf;have bv:j<=m:=sM;obtain ⟨J,N,e,he,hb,o⟩:=Ar bf.2;cases hl:listed.getD j false with
     | true =>
       have h2:=inv.closed j J N hl e he hb;rw [o,getD_both F] at h2;cases h2
     | false =>
       have I:j < listed.size:=bB1;exact ih (m - j) bH3 j rfl bv (getD_in I hl)
def kTd {md:Ak} {n:Nat} {D:Ad Nat} {listed:Bc Bool} (hs:kHz md ops n D=true) (hc:treeC md ops n=true) (hn:n < ops.size) (inv:Ba md ops n listed) :
    ∀ (d i:Nat),n - i=d->i < n->D.contains i=false->listed.getD i true=false->∀ t,n<=t->t ∉ Ag md ops listed:=by
 intro d
 induction d using Nat.strongRecOn with
 | _ d ih =>
   intro i hd hi Y F t ht hr;obtain ⟨_,R,E,G⟩:=mem_ready.1 hr;have H:t < ops.size:=(Array.getElem?_eq_some_iff.1 E).1;by_cases am:t=n
   · exact oJ
   · have h1:=Aq.1 hc t (List.mem_range.2 H);simp only [Bool.or_eq_true,Aa,Ab] at h1;rcases h1 with h1 | h1 | h1
     · omega
     · exact oK
     · obtain ⟨ae,hw,W⟩:=h1;have X:=sink_open W bH3 inv _ i rfl bH3 F;obtain ⟨V,L,e,he,hb,o⟩:=Ar hw;have:V=R:=Option.some.inj (L.symm.trans E);subst this;have h2:=G e he hb;rw [o,getD_both X] at h2;cases h2
def kVk {md:Ak} {n i:Nat} {D:Ad Nat} {V:Oper} {v:Value} {L:Bc Bool->Act->Ah->Prop} (hi:ops[i]?=some V) (E:∀ (j:Nat) (o:Oper) cs b,ops[j]?=some o->o.op≠.select cs b)
    (hQ:∀ c a w,Q (.panic c) (a.put V.dst v) w->Q (.panic c) a w) (hs:kHz md ops n D=true) (hc:treeC md ops n=true) (hn:n < ops.size) (O:i < n) (Y:D.contains i=false)
    (X:∀ listed a w,L listed a w->∀ j∈Ag md ops listed,n<=j) :
    ∀ (f:Nat) (listed:Bc Bool) (a:Act) (w:Ah),Ba md ops n listed ->
      (∀ j J,ops[j]?=some J->j≠i->listed.getD j true=false->(∀ e∈J.after,Region.binds md e=true->e.on≠i)->V.apart ops J=true) ->
      i∈Ag md ops listed->YieldsIf P ops S V v a->S w ->
      kBm P md ops Q S n L f (listed.setIfInBounds i true) (a.put V.dst v) w->kBm P md ops Q S n L (f + 1) listed a w:=by
 intro f
 induction f with
 | zero =>
   intro listed a w inv _ hr hy hS H;have F:=(mem_ready.1 hr).1;refine ⟨λh=>wX,λj hj=>?_⟩;have ad:j < n:=by
     rcases Nat.lt_or_ge j n with h | h
     · exact h
     · exact absurd hj (kTd hs hc hn inv _ i rfl O Y F j h)
   exact oD
 | succ f ih =>
   intro listed a w inv R hr hy hS H;have F:=(mem_ready.1 hr).1;refine ⟨λh=>wX,λj hj=>?_⟩;have ad:j < n:=by
     rcases Nat.lt_or_ge j n with h | h
     · exact h
     · exact absurd hj (kTd hs hc hn inv _ i rfl O Y F j h)
   exact oF
def soft2OkC (md:Ak) (ops:Bc Oper) (D:Ad Nat) (q q2:Ad (Nat × Bool)):Bool :=
  Az ops && (decide (D.length + q.length < ops.size) && (D.all (λx=>decide (x < D.length + q.length)) && (q.all (λx=>decide (x.1 < D.length + q.length) && !D.contains x.1) && (kHz md ops (D.length + q.length) D && (treeC md ops (D.length + q.length) &&
    (preB md ops D (Ac ops.size false) && (q2.all (λx=>decide (x.1 < ops.size)) && (decide (D.length + q.length + q2.length=ops.size) && kDy md ops (D.length + q.length) q2 q (kJn D (Ac ops.size false))))))))))
def kHd {l:Ad Oper} {n:Nat} {D:Ad Nat} {q2:Ad (Nat × Bool)} (E:Az l.toArray=true) (hQ:∀ c a d v w,Q (.panic c) (Act.put a d v) w->Q (.panic c) a w)
    (hs:kHz .any l.toArray n D=true) (hc:treeC .any l.toArray n=true) (hn:n < l.toArray.size):∀ (q:Ad (Nat × Bool)) (k:Nat) (listed:Bc Bool) (a:Act) (w:Ah),
    q.all (λx=>decide (x.1 < n) && !D.contains x.1)=true->Ba .any l.toArray n listed->kDy .any l.toArray n q2 q listed=true->S w->kMb P l.toArray S S2 Q (jB l q2) (q2.map (·.2)) k (jB l q) (q.map (·.2)) a w ->
    kBm P .any l.toArray Q S n (λlisted a w=>(Ag .any l.toArray listed).all (λj=>decide (n<=j))=true/\kIr .any l.toArray q2 listed=true/\S2 w/\∃ k,kCq P l.toArray S2 Q k (jB l q2) (q2.map (·.2)) a w) q.length listed a w
  | [],k,listed,a,w,_,inv,hB,hS,h=>by
    exact oL
  | (i,true) :: q,k,listed,a,w,hi,inv,hB,hS,h=>by
    simp only [List.all_cons,Aa,Ab,Av] at hi;have hil:i < l.toArray.size:=Nat.lt_trans hi.1.1 hn;have h0:l.toArray[i]?=some l.toArray[i]:=Ai hil;have hp:jB l ((i,true) :: q)=l.toArray[i] :: jB l q:=by
      exact oG
    rw [hp] at h;obtain ⟨v,hy,h⟩:=h;simp only [kDy,Aa] at hB;obtain ⟨hr,hi2⟩:=ES;exact kVk h0 (Region.noSelect_spec E) (λc a w=>hQ c a _ _ w) hs hc hn hi.1.1 hi.1.2 (λF a' w' N j hj=>by simpa using Aq.1 N.1 j hj) q.length listed a w inv (Region.free_spec h0 hB.1.2) hr hy hS
      (kHd E hQ hs hc hn q (k + 1) _ _ _ hi2 (inv.set hr hi.1.1) hB.2 hS h)
  | (i,false) :: q,k,listed,a,w,hi,inv,hB,hS,h=>by
    simp only [List.all_cons,Aa,Ab,Av] at hi;obtain ⟨hi2,hil⟩:=EZ;have h0:l.toArray[i]?=some l.toArray[i]:=Ai hil;have hp:jB l ((i,false) :: q)=l.toArray[i] :: jB l q:=by
      exact oG
    rw [hp] at h;simp only [kDy,Aa,beq_iff_eq] at hB;have hr:i∈Ag .any l.toArray listed:=bF0;refine ⟨by rw [hB.1];simp,λj hj=>?_⟩;rw [hB.1] at hj;obtain rfl:j=i:=bD9;refine ⟨hi.1.1,?_⟩;refine wpOp_mono (λa' w' G=>⟨G.1,kHd E hQ hs hc hn q (k + 1) _ _ _ hi2 (inv.set hr hi.1.1) hB.2 G.1 G.2⟩) (K:=λa' w'=>S w'/\kMb P l.toArray S S2 Q (jB l q2) (q2.map (·.2)) (k + 1) (jB l q) (q.map (·.2)) a' w') ?_;exact oI
def kJc {id:Nat} {a:Act} {w:Ah} {l:Ad Oper} (S S2:Ah->Prop) (D:Ad Nat) (q q2:Ad (Nat × Bool)) (hm:P.follows .mixedOrders=true) (hB:soft2OkC .any l.toArray D q q2=true)
    (hQ:∀ c a d v w,Q (.panic c) (Act.put a d v) w->Q (.panic c) a w) (hS:S { w with drawn:=w.drawn + 1 })
    (h:∀ w',S w'->pre P l.toArray (λa'=>kJk P l.toArray S S2 Q (jB l q2) (q2.map (·.2)) 0 (jB l q) (q.map (·.2)) a' w') (zO l D) a):(Code.region id l.toArray true).wp P Q a w:=by
 simp only [soft2OkC,Aa,Ab] at hB
 have h:=h _ hS
 unfold pre at h
 unfold kJk at h
 have E:Ba .any l.toArray (D.length + q.length) (Ac l.toArray.size false) :=
   ⟨by simp,λj J _ hl=>qG,λt _ ht=>getD_in bE8 (getD_replicate_false _ _)⟩
 refine wp_region_any hm ?_
 obtain ⟨b1,b2,R,L,O,X,U,I,V,G⟩:=hB
 have a9:q.all (λx=>decide (x.1 < D.length + q.length) && !D.contains x.1)=true:=dY
 have key:=kNa (f:=q.length + q2.length) b1 hQ b2 D (Ac l.toArray.size false) a (by simpa using R) E U (kNi (λa' hk=>by
   intro F;have H:=kHd (S2:=S2) b1 hQ O X b2 q 0 _ a' _ a9 F G hS hk;exact kBn (Q:=Q) (g:=q2.length) (λlisted a' w' N=>by
     obtain ⟨_,hb,bn,k,hw⟩:=N;exact wpAny_of_held (S:=S2) _ _ _ _ (kEn b1 hQ q2 k _ listed a' w' I nL hb bn hw)) _ _ _ _ H) _ _ h)
 rw [show D.length + (q.length + q2.length)=l.toArray.size by omega] at key
 exact key
end
end Go.Proofs.YtjhfdpopkkmigabGreat
