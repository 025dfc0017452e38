/-
  Numbers compared by the laws.
-/
import Derived.Test.YtjhfdpopkkmigaaGreatSameN
set_option linter.unusedVariables false
set_option linter.defProp false
set_option linter.unusedSimpArgs false
set_option linter.unnecessarySimpa false
set_option maxRecDepth 100000
set_option maxHeartbeats 4000000
open Go.RowKit.Below renaming setCell->Aa,mono->Al
open Go renaming bodyPost_ret->Ab,World->Ad,Value->Ak
open List.cons renaming injEq->Ac
open List renaming getElem?_cons_succ->Ae,getElem?_cons_zero->Ag,length_nil->Ah,drop_succ_cons->Aj,length_cons->Ap,cons_append->Aq
open _root_ renaming List->Ai
open Int renaming natCast_nonneg->Am
namespace Go.Proofs.YtjhfdpopkkmigaaGreat
open Go.RowKit _root_.Go.Proofs.Tryz
def From (W w:Ad):Prop:=Qb W w
def From.below {W w w':Ad} (h:From W w) (b:Qb w w'):From W w':=Below.trans h (b.mono (Below.size h))
def node_loc {w:Ad} {c0 c1 c2 c3 c4 c5 N D:Ak} {x0:Ai jL} {x1:kg} {x2:Ai kI} {x3:Ai jK} {x4:Ai kz} {X:Ai kT} {o:Int} (h:je.raw w [c0,c1,c2,c3,c4,c5,N,D] (x0,x1,x2,x3,x4,X,o)):(kD.slice 38 jF).raw w [c0] x0:=by
 obtain ⟨v0,v2,v3,v4,v5,v6,he,a0,a1,a2,a3,a4,a5,Z,a7,E⟩:=yB h;simp only [Ac,and_true] at he;obtain ⟨rfl,rfl,rfl,rfl,rfl,rfl,rfl,rfl⟩:=he;exact a0
def data_nm {w:Ad} {c0 c1 c2 c3 c4:Ak} {x:jL} {S:Nat->Prop} (h:jF.ji w [c0,c1,c2,c3,c4] x S):kW.ji w [c0] x.1 S:=by
 obtain ⟨a,d,he,h1,_⟩:=kD.kFe (r:=kW) (q:=.pair (kD.slice 5 kD.byte) (.pair kW (.pair .int .int))) h;have l1:=kW.len h1.1
 match a,l1 with
 | [v],_=>simp only [List.singleton_append,Ac] at he;obtain ⟨rfl,_⟩:=he;exact h1
def fdD (n:kr) (t:Int) (x:jq):jL:=if idxOf (isD n) x.1 < 0 then lkD n t x.2.1.2 else x.1.getD (idxOf (isD n) x.1).toNat kKg
def fdOk (n:kr) (t:Int) (x:jq):Bool:=if idxOf (isD n) x.1 < 0 then lkOk n t x.2.1.2 else true
def fd_no {n:kr} {t:Int} {x:jq} (h:idxOf (isD n) x.1 < 0):fdOk n t x=lkOk n t x.2.1.2/\fdD n t x=lkD n t x.2.1.2:=by simp [fdOk,fdD,h]
def fd_yes {n:kr} {t:Int} {x:jq} {j:Nat} (I:j < x.1.length) (h:idxOf (isD n) x.1=j):fdOk n t x=true/\fdD n t x=x.1[j]:=by
 unfold fdOk fdD;rw [h,Int.toNat_natCast,jZ I,if_neg bD1,if_neg bD1];exact ⟨rfl,rfl⟩
def kYw {α:Type} {p:α->Bool} {x:Ai α} (h:¬ idxOf p x < 0):∃ k:Nat,k < x.length/\idxOf p x=k:=by
 unfold idxOf at *;cases e:x.findIdx? p with
 | none=>rw [e] at h;simp at h
 | some i=>exact ⟨i,(List.findIdx?_eq_some_iff_getElem.1 e).1,rfl⟩
def kUw {w:Ad} {cx:Ai Ak} {x:jq} (hx:je.rd w cx x) {cn:Ai Ak} {n:kr} (hn:kW.rd w cn n) {t:Int} (ht:Qi t) :
    Calls prog 10 #[.agg cx.toArray,.agg cn.toArray,.int .i64 t] w λe w'=>∃ ds,e=.returned (.tuple #[.agg ds.toArray,.bool (fdOk n t x)])/\jF.own w' ds (fdD n t x) (jU w.heap.size w'.heap.size)/\Qb w w':=by
 clear ht
 have HN:=yD hn
 obtain ⟨q1,q2,q3⟩:=hx.2
 obtain ⟨ch,cz,dg,df,db,c9,rfl,G,aq,ba,a3,au,a4,a6,bg,br⟩:=yB hx.1
 obtain ⟨bp,bi,rfl,_⟩:=kD.sl G
 obtain ⟨bw,bt,rfl,_⟩:=kD.sl a3
 obtain ⟨ck,cc,rfl,_⟩:=kD.sl au
 obtain ⟨b9,b8,rfl,_⟩:=kD.sl a4
 obtain ⟨bx,bu,rfl,_⟩:=kD.sl a6
 obtain ⟨b0,bz,rfl,_⟩:=kD.sl bg
 obtain ⟨o,H⟩:=IX
 clear hx q1 q2 q3 G aq ba a3 au a4 a6 bg br
 obtain ⟨nv,rfl,a9⟩:=ko hn.1
 obtain ⟨an,a7,rfl,_⟩:=kD.sl a9
 clear hn a9
 go_enter func10,ntmps10
 go_upto_region 1 with fail
 generalize J:World.alloc (World.alloc (World.alloc w _) _) _=N
 obtain ⟨R,az,K0,K1,K2,N0,XR⟩:=CU
 clear J
 go_wp2_with fail
 refine (kMm (o.out.1.below R) (HN.out.1.below R)).mono ?_
 rintro e w1 ⟨rfl,O⟩
 have E1:=(tQ R O)
 have bj:=O.size
 obtain ⟨K0,K1,K2⟩:=FL
 replace N0:=cL O N0
 replace XR:=yD (kC XR.out O)
 clear O R
 by_cases hk:idxOf (isD n) x.1 < 0
 · have U:=yD (fd_no (t:=t) hk);have co:¬ (0<=idxOf (isD n) x.1):=bD1;generalize hq:idxOf (isD n) x.1=q at *;clear hq;go_wp2_with fail;refine (kOp (H.out.below (E1.trans (Al bG E1.size))) (HN.out.below (E1.trans (Al bG E1.size))) (t:=t)).mono ?_;rintro e V ⟨cd,rfl,O2,ab⟩;generalize E:lkD n t x.2.1.2=D at *;have HD:=yD (U.out.2);clear E;obtain ⟨v0,v1,v2,rfl,b4,be,av,c5,bl,c3,ca⟩:=jM O2.raw;obtain ⟨a0,p0,rfl,_⟩:=kD.sl be;obtain ⟨a1,p1,rfl,_⟩:=kD.sl av;obtain ⟨a2,p2,rfl,_⟩:=kD.sl bl;clear b4 be av c5 bl c3 ca;obtain ⟨EF,L,a8,X⟩:=CP;clear O2 ab E1 K0 K1 K2 N0 XR;obtain ⟨R0,F0,R1,F1,R2,F2,R3,F3,R4,F4⟩:=xC;go_wp2;refine Ab (v:=.tuple #[.agg #[Qs a0 D.1 p0,Qs a1 D.2.1 p1,Qs a2 D.2.2.1 p2,Qn D.2.2.2.1,Qn D.2.2.2.2],.bool (lkOk n t x.2.1.2)]) fI rfl ⟨[_,_,_,_,_],by rw [U.out.1],?_,?_⟩
   · exact iP
   repeat (first|(with_reducible exact EF) | refine Aa ?_ rE _)
 obtain ⟨k,am,ad⟩:=kYw hk
 have U:=yD (fd_yes (t:=t) am ad)
 rw [ad]
 clear hk ad
 have bk:=Am k
 have co:=Int.ofNat_lt.2 am
 obtain ⟨qb,qo,rfl,ae,af,ah,cv,cw,qr,ap,ar,ay,bo,b2⟩:=kD.get5 (o.out.1.below E1) am rfl
 have F:=kD.yh o.out am
 clear o
 generalize x.1[k]=D at *
 have HD:=yD U.out.2
 obtain ⟨bd,b5,cq,ac,ag,ak,ao,ax,b3,bq,cm⟩:=jM qr
 simp only [Ac,and_true] at ac
 obtain ⟨rfl,rfl,rfl,rfl,rfl⟩:=ac
 have HR:=yD (show jF.rd w1 _ D from ⟨qr,F⟩)
 clear qr F ag ak ao ax b3 bq cm
 go_wp2_with fail
 refine (kAu (HR.out.below bG)).mono ?_
 rintro e V ⟨cd,rfl,O2,ab⟩
 clear HR ap ar ay bo b2
 obtain ⟨v0,v1,v2,rfl,b4,be,av,c5,bl,c3,ca⟩:=jM O2.raw
 obtain ⟨a0,p0,rfl,_⟩:=kD.sl be
 obtain ⟨a1,p1,rfl,_⟩:=kD.sl av
 obtain ⟨a2,p2,rfl,_⟩:=kD.sl bl
 clear b4 be av c5 bl c3 ca
 obtain ⟨EF,L,a8,X⟩:=CP
 clear O2 ab E1 K0 K1 K2 N0 XR
 obtain ⟨R0,F0,R1,F1,R2,F2,R3,F3,R4,F4⟩:=xC
 go_wp2
 refine Ab (v:=.tuple #[.agg #[Qs a0 D.1 p0,Qs a1 D.2.1 p1,Qs a2 D.2.2.1 p2,Qn D.2.2.2.1,Qn D.2.2.2.2],.bool true]) fI rfl ⟨[_,_,_,_,_],by rw [U.out.1],?_,?_⟩
 · exact iP
 repeat (first|(with_reducible exact EF) | refine Aa ?_ rE _)
def kGl {w:Ad} {cx:Ai Ak} {x:jq} (hx:je.rd w cx x) {cn:Ai Ak} {n:kr} (hn:kW.rd w cn n) {t:Int} (ht:Qi t) :
    Calls prog 9 #[.agg cx.toArray,.agg cn.toArray,.int .i64 t] w λe w'=>∃ ds,e=.returned (.tuple #[.agg ds.toArray,.bool (fdOk n t x)])/\jF.own w' ds (fdD n t x) (jU w.heap.size w'.heap.size)/\Qb w w':=by
 clear ht
 have HN:=yD hn
 obtain ⟨q1,q2,q3⟩:=hx.2
 obtain ⟨ch,cz,dg,df,db,c9,rfl,G,aq,ba,a3,au,a4,a6,bg,br⟩:=yB hx.1
 obtain ⟨bp,bi,rfl,_⟩:=kD.sl G
 obtain ⟨bw,bt,rfl,_⟩:=kD.sl a3
 obtain ⟨ck,cc,rfl,_⟩:=kD.sl au
 obtain ⟨b9,b8,rfl,_⟩:=kD.sl a4
 obtain ⟨bx,bu,rfl,_⟩:=kD.sl a6
 obtain ⟨b0,bz,rfl,_⟩:=kD.sl bg
 obtain ⟨o,H⟩:=IX
 clear hx q1 q2 q3 G aq ba a3 au a4 a6 bg br
 obtain ⟨nv,rfl,a9⟩:=ko hn.1
 obtain ⟨an,a7,rfl,_⟩:=kD.sl a9
 clear hn a9
 go_enter func9,ntmps9
 go_upto_region 1 with fail
 generalize J:World.alloc (World.alloc (World.alloc w _) _) _=N
 obtain ⟨R,az,K0,K1,K2,N0,XR⟩:=CU
 clear J
 go_wp2_with fail
 refine (kMw (o.out.1.below R) (HN.out.1.below R)).mono ?_
 rintro e w1 ⟨rfl,O⟩
 have E1:=(tQ R O)
 have bj:=O.size
 obtain ⟨K0,K1,K2⟩:=FL
 replace N0:=cL O N0
 replace XR:=yD (kC XR.out O)
 clear O R
 by_cases hk:idxOf (isD n) x.1 < 0
 · have U:=yD (fd_no (t:=t) hk);have co:¬ (0<=idxOf (isD n) x.1):=bD1;generalize hq:idxOf (isD n) x.1=q at *;clear hq;go_wp2_with fail;refine (kPj (H.out.below (E1.trans (Al bG E1.size))) (HN.out.below (E1.trans (Al bG E1.size))) (t:=t)).mono ?_;rintro e V ⟨cd,rfl,O2,ab⟩;generalize E:lkD n t x.2.1.2=D at *;have HD:=yD (U.out.2);clear E;obtain ⟨v0,v1,v2,rfl,b4,be,av,c5,bl,c3,ca⟩:=jM O2.raw;obtain ⟨a0,p0,rfl,_⟩:=kD.sl be;obtain ⟨a1,p1,rfl,_⟩:=kD.sl av;obtain ⟨a2,p2,rfl,_⟩:=kD.sl bl;clear b4 be av c5 bl c3 ca;obtain ⟨EF,L,a8,X⟩:=CP;clear O2 ab E1 K0 K1 K2 N0 XR;obtain ⟨R0,F0,R1,F1,R2,F2,R3,F3,R4,F4⟩:=xC;go_wp2;refine Ab (v:=.tuple #[.agg #[Qs a0 D.1 p0,Qs a1 D.2.1 p1,Qs a2 D.2.2.1 p2,Qn D.2.2.2.1,Qn D.2.2.2.2],.bool (lkOk n t x.2.1.2)]) fM rfl ⟨[_,_,_,_,_],by rw [U.out.1],?_,?_⟩
   · exact iP
   repeat (first|(with_reducible exact EF) | refine Aa ?_ rE _)
 obtain ⟨k,am,ad⟩:=kYw hk
 have U:=yD (fd_yes (t:=t) am ad)
 rw [ad]
 clear hk ad
 have bk:=Am k
 have co:=Int.ofNat_lt.2 am
 obtain ⟨qb,qo,rfl,ae,af,ah,cv,cw,qr,ap,ar,ay,bo,b2⟩:=kD.get5 (o.out.1.below E1) am rfl
 have F:=kD.yh o.out am
 clear o
 generalize x.1[k]=D at *
 have HD:=yD U.out.2
 obtain ⟨bd,b5,cq,ac,ag,ak,ao,ax,b3,bq,cm⟩:=jM qr
 simp only [Ac,and_true] at ac
 obtain ⟨rfl,rfl,rfl,rfl,rfl⟩:=ac
 have HR:=yD (show jF.rd w1 _ D from ⟨qr,F⟩)
 clear qr F ag ak ao ax b3 bq cm
 go_wp2_with fail
 refine (kCs (HR.out.below bG)).mono ?_
 rintro e V ⟨cd,rfl,O2,ab⟩
 clear HR ap ar ay bo b2
 obtain ⟨v0,v1,v2,rfl,b4,be,av,c5,bl,c3,ca⟩:=jM O2.raw
 obtain ⟨a0,p0,rfl,_⟩:=kD.sl be
 obtain ⟨a1,p1,rfl,_⟩:=kD.sl av
 obtain ⟨a2,p2,rfl,_⟩:=kD.sl bl
 clear b4 be av c5 bl c3 ca
 obtain ⟨EF,L,a8,X⟩:=CP
 clear O2 ab E1 K0 K1 K2 N0 XR
 obtain ⟨R0,F0,R1,F1,R2,F2,R3,F3,R4,F4⟩:=xC
 go_wp2
 refine Ab (v:=.tuple #[.agg #[Qs a0 D.1 p0,Qs a1 D.2.1 p1,Qs a2 D.2.2.1 p2,Qn D.2.2.2.1,Qn D.2.2.2.2],.bool true]) fM rfl ⟨[_,_,_,_,_],by rw [U.out.1],?_,?_⟩
 · exact iP
 repeat (first|(with_reducible exact EF) | refine Aa ?_ rE _)
def lawsin_c {w:Ad} {va:Ak} {y:Ai Int} {b:Int} (hy:(kD.slice 3 kD.int).raw w [va] y) :
    Calls prog 29 #[va,.int .i64 b] w λe w'=>e=.returned (.bool (decide (b∈y)))/\w'=w:=by
 obtain ⟨aa,am,rfl,la⟩:=kD.sl hy
 go_enter func29,ntmps29
 go_wp2
 go_loop [5] (λi=>∃ k:Nat,k<=y.length/\i=.int .i64 k/\b ∉ y.take k) (λi=>y.length - (intOf i).toNat)
 case atStart=>exact ⟨0,Nat.zero_le _,rfl,by simp⟩
 obtain ⟨k,hk,rfl,hno⟩:=hrel
 have HN:=yD hno;clear hno
 by_cases hlt:k < y.length
 · obtain ⟨ba,H,rfl,c0,hr,A0⟩:=kD.kCa hy hlt rfl;obtain ⟨he,cl⟩:=kD.jb hr;obtain rfl:c0=_:=by simpa using he
   clear he hr;by_cases hq:y[k]=b
   · have U:=yD (show decide (b∈y)=true from decide_eq_true (hq ▸ List.getElem_mem hlt));have q1:(y[k]==b)=true:=by simpa using hq
     clear hq;exact lX
   have U:=yD (show b ∉ y.take (k + 1) by
     rw [List.take_succ_eq_append_getElem hlt];intro h;rcases List.mem_append.1 h with h | h
     · exact HN.out h
     · exact hq (List.mem_singleton.1 h).symm)
   have q1:(y[k]==b)=false:=by simpa using hq
   clear hq;go_wp2;go_round;case rel=>exact ⟨k + 1,by omega,by go_num,U.out⟩
   simp [intOf];omega
 have U:=yD (show decide (b∈y)=false from decide_eq_false (by have:=HN.out;rwa [List.take_of_length_le bD1] at this))
 exact lX
def lawsin_b {w:Ad} {va:Ak} {y:Ai Int} {b:Int} (hy:(kD.slice 3 kD.int).raw w [va] y) :
    Calls prog 29 #[va,.int .i64 b] w (bQ w (.bool (decide (b∈y)))) :=
  (lawsin_c hy).mono λe w' h=>⟨h.1,h.2 ▸ bR⟩
def kNs (x:jq):jq:=(x.1,kGs x.2.1.1,[],[],x.2.2.2.2.1,[],0)
def kSp {w:Ad} {cx:Ai Ak} {x:jq} (hx:je.rd w cx x):Calls prog 21 #[.agg cx.toArray] w (kAe je (kNs x) w):=by
 obtain ⟨q1,q2,q3,q4,Y,q6,q7⟩:=hx.2;have HA:Hid (x.1.length<=16777216):=yD q1.1;have HB:Hid (x.2.2.2.2.1.length<=16777216):=yD Y.1;obtain ⟨ch,cz,dg,df,db,c9,rfl,G,aq,ba,a3,au,a4,a6,bg,br⟩:=yB hx.1;obtain ⟨bp,bi,rfl,co⟩:=kD.sl G;obtain ⟨bw,bt,rfl,dd⟩:=kD.sl a3;obtain ⟨ck,cc,rfl,dh⟩:=kD.sl au;obtain ⟨b9,b8,rfl,dj⟩:=kD.sl a4;obtain ⟨bx,bu,rfl,dk⟩:=kD.sl a6;obtain ⟨b0,bz,rfl,di⟩:=kD.sl bg;obtain ⟨o,RR⟩:=I5;have HC:=yD ba;clear hx q1 q2 q3 q4 Y q6 q7 G aq ba a3 au a4 a6 bg br;go_enter func21,ntmps21;go_upto_region 1 with fail;generalize J:World.alloc (World.alloc w _) _=N;obtain ⟨R,K0,K1,K2,K3,K4,K5,K6,K7⟩:=xA;obtain ⟨XR,bq⟩:=xY;clear J;have FX:=yD (λ(W:Ad) (hW:Qb N W)=>cLs8 hW K0 K1 K2 K3 K4 K5 K6 K7);refine jS (λW=>Qb N W) [(0,true),(1,true),(3,true),(4,true),(5,true),(7,true),(8,true),(2,false),(6,false),(9,false),(10,true)] bC5 bC5 pY (bR.drew) ?_;intro wS E;simp only [jB,Ap,Ah,Ae,Ag,List.map_cons,List.map_nil,Aq,List.nil_append,Aj,List.drop_zero];iterate 7
  all_goals refine kX ?_
 all_goals first|(refine kG rfl E ?_)|(refine kY rfl (λK H=>?_);go_simp;refine (kJm (o.out.below (tQ R E))).mono ?_;rintro e wT ⟨v1,rfl,O1,an⟩;obtain ⟨ta,D,tp,aj,bc⟩:=O1.parts;obtain rfl:=aj;have aa:=yD (O1.own HA.out);have ac:=an.size;have cw:=E.size;replace E:=(tQ E an);clear O1 an;refine H _ _ E ?_;clear H K)
 all_goals refine jD ?_
 all_goals first|(refine kG rfl E ?_)|(refine kY rfl (λK H=>?_);go_simp;refine (kCf (w:=wT) HC.out).mono ?_;rintro e wU ⟨cs,rfl,O2,L⟩;obtain ⟨cv,rfl,ah,ak⟩:=jI O2.raw;obtain ⟨ca,cp,rfl,_⟩:=kD.sl ak;have Z:=yD O2;replace aa:=yD (aa.out.below L);have bb:=L.size;replace E:=(tQ E L);clear O2 L ah ak;refine H _ _ E ?_;clear H K)
 all_goals refine jD ?_
 all_goals first|(refine kG rfl E ?_)|(refine kY rfl (λK H=>?_);go_simp;refine (kCc (RR.out.below (tQ R E))).mono ?_;rintro e wV ⟨v3,rfl,O3,ab⟩;obtain ⟨ra,O,rp,av,F⟩:=O3.parts;obtain rfl:=av;have ai:=yD (O3.own HB.out);replace aa:=yD (aa.out.below ab);replace Z:=yD (Z.out.below ab);have a9:=ab.size;replace E:=(tQ E ab);clear O3 ab;refine H _ _ E ?_;clear H K)
 all_goals refine jD ?_
 all_goals refine kX ?_
 all_goals refine jy ?_
 have X:=kC XR E;have E1:=(tQ R E);obtain ⟨M0,F0,M1,F1,M2,F2,M3,F3,M4,F4,M5,F5,M6,F6⟩:=AB;have M7:=kE (b:=w.heap.size + 1) X (j:=7) rfl;have F7:=frozen_of_row wV (w.heap.size + 1) 7 _ _ X;go_wp2;refine Ab (v:=.agg #[.slice ta D tp,.int .i64 (kGs x.2.1.1).1,.slice ca (kGs x.2.1.1).2.length cp,.slice none 0 0,.slice none 0 0,.slice ra O rp,.slice none 0 0,Qn 0]) (by simp [results,results21,go_sem,M0,F0,M1,F1,M2,F2,M3,F3,M4,F4,M5,F5,M6,F6,M7,F7]) rfl ⟨[_,_,_,_,_,_,_,_],rfl,?_,?_⟩
 · exact aN
 repeat (first|(with_reducible exact E1) | refine Aa ?_ rJ _)
def kTi {w:Ad} {cx:Ai Ak} {x:jq} (hx:je.rd w cx x):Calls prog 16 #[.agg cx.toArray] w (kAe je (kNs x) w):=by
 obtain ⟨q1,q2,q3,q4,Y,q6,q7⟩:=hx.2;have HA:Hid (x.1.length<=16777216):=yD q1.1;have HB:Hid (x.2.2.2.2.1.length<=16777216):=yD Y.1;obtain ⟨ch,cz,dg,df,db,c9,rfl,G,aq,ba,a3,au,a4,a6,bg,br⟩:=yB hx.1;obtain ⟨bp,bi,rfl,co⟩:=kD.sl G;obtain ⟨bw,bt,rfl,dd⟩:=kD.sl a3;obtain ⟨ck,cc,rfl,dh⟩:=kD.sl au;obtain ⟨b9,b8,rfl,dj⟩:=kD.sl a4;obtain ⟨bx,bu,rfl,dk⟩:=kD.sl a6;obtain ⟨b0,bz,rfl,di⟩:=kD.sl bg;obtain ⟨o,RR⟩:=I5;have HC:=yD ba;clear hx q1 q2 q3 q4 Y q6 q7 G aq ba a3 au a4 a6 bg br;go_enter func16,ntmps16;go_upto_region 1 with fail;generalize J:World.alloc (World.alloc w _) _=N;obtain ⟨R,K0,K1,K2,K3,K4,K5,K6,K7⟩:=xA;obtain ⟨XR,bq⟩:=xY;clear J;have FX:=yD (λ(W:Ad) (hW:Qb N W)=>cLs8 hW K0 K1 K2 K3 K4 K5 K6 K7);refine jS (λW=>Qb N W) [(0,true),(1,true),(3,true),(4,true),(5,true),(7,true),(8,true),(2,false),(6,false),(9,false),(10,true)] bC5 bC5 pY (bR.drew) ?_;intro wS E;simp only [jB,Ap,Ah,Ae,Ag,List.map_cons,List.map_nil,Aq,List.nil_append,Aj,List.drop_zero];iterate 7
  all_goals refine kX ?_
 all_goals first|(refine kG rfl E ?_)|(refine kY rfl (λK H=>?_);go_simp;refine (kJv (o.out.below (tQ R E))).mono ?_;rintro e wT ⟨v1,rfl,O1,an⟩;obtain ⟨ta,D,tp,aj,bc⟩:=O1.parts;obtain rfl:=aj;have aa:=yD (O1.own HA.out);have ac:=an.size;have cw:=E.size;replace E:=(tQ E an);clear O1 an;refine H _ _ E ?_;clear H K)
 all_goals refine jD ?_
 all_goals first|(refine kG rfl E ?_)|(refine kY rfl (λK H=>?_);go_simp;refine (kEl (w:=wT) HC.out).mono ?_;rintro e wU ⟨cs,rfl,O2,L⟩;obtain ⟨cv,rfl,ah,ak⟩:=jI O2.raw;obtain ⟨ca,cp,rfl,_⟩:=kD.sl ak;have Z:=yD O2;replace aa:=yD (aa.out.below L);have bb:=L.size;replace E:=(tQ E L);clear O2 L ah ak;refine H _ _ E ?_;clear H K)
 all_goals refine jD ?_
 all_goals first|(refine kG rfl E ?_)|(refine kY rfl (λK H=>?_);go_simp;refine (kEp (RR.out.below (tQ R E))).mono ?_;rintro e wV ⟨v3,rfl,O3,ab⟩;obtain ⟨ra,O,rp,av,F⟩:=O3.parts;obtain rfl:=av;have ai:=yD (O3.own HB.out);replace aa:=yD (aa.out.below ab);replace Z:=yD (Z.out.below ab);have a9:=ab.size;replace E:=(tQ E ab);clear O3 ab;refine H _ _ E ?_;clear H K)
 all_goals refine jD ?_
 all_goals refine kX ?_
 all_goals refine jy ?_
 have X:=kC XR E;have E1:=(tQ R E);obtain ⟨M0,F0,M1,F1,M2,F2,M3,F3,M4,F4,M5,F5,M6,F6⟩:=AB;have M7:=kE (b:=w.heap.size + 1) X (j:=7) rfl;have F7:=frozen_of_row wV (w.heap.size + 1) 7 _ _ X;go_wp2;refine Ab (v:=.agg #[.slice ta D tp,.int .i64 (kGs x.2.1.1).1,.slice ca (kGs x.2.1.1).2.length cp,.slice none 0 0,.slice none 0 0,.slice ra O rp,.slice none 0 0,Qn 0]) (by simp [results,results16,go_sem,M0,F0,M1,F1,M2,F2,M3,F3,M4,F4,M5,F5,M6,F6,M7,F7]) rfl ⟨[_,_,_,_,_,_,_,_],rfl,?_,?_⟩
 · exact aN
 repeat (first|(with_reducible exact E1) | refine Aa ?_ rJ _)
def kWw {t:jL} {x:jq} {now:Int} (h:kHw t x=true):fdOk t.1 now (addL t x)=true/\fdD t.1 now (addL t x)=t/\ze (addL t x)=true:=by
 have hn:ze (kFq t x)=true:=h;rw [(kWv hn).1];obtain ⟨⟨_,a⟩,_⟩:=kNn.1 hn;have a':(x.1++[t]).Pairwise (λa b=>a.1≠b.1):=a;have hl:x.1.length < (x.1++[t]).length:=bD2;have hi:idxOf (isD t.1) (x.1++[t])=(x.1.length:Nat):=by
  refine idxOf_hit hl (by simp [isD,eqN]) (λj I h2=>?_);have:=List.pairwise_iff_getElem.1 a' j x.1.length h2 hl I;simp only [List.getElem_concat_length] at this;simpa [isD,eqN] using this
 obtain ⟨p,q⟩:=fd_yes (n:=t.1) (t:=now) (x:=kFq t x) hl hi;exact ⟨p,by rw [q];simp [kFq],hn⟩
def outF_but {x:jq} {n:kr} {ex:Int}:ex ∉ outF x n ex:=by
 by_cases h:mOk n x.2.2.2.2.1=true
 · rw [kQc h];intro q;have:=(List.mem_filter.1 q).2;simp at this
 rw [jAg bB5];simp
def crash_valid {x:jq} (h:ze x=true):ze (kNs x)=true:=by
 obtain ⟨a,b,c,d,e,f,g,k⟩:=kNn.1 h;obtain ⟨_,c1,_⟩:=kUc.1 c;refine kNn.2 ⟨a,b,?_,rfl,e,rfl,Nat.zero_le _,Int.le_refl 0⟩;refine kUc.2 ⟨⟨λe he=>by simp [kNs,kGs] at he,List.Pairwise.nil⟩,?_,?_⟩
 · show inR (kGu x.2.1.1) 0 8=true;unfold kGu;rw [if_pos c1];exact c1
 show ((0:Nat):Int)<=kGu x.2.1.1;unfold kGu;rw [if_pos c1];unfold inR at c1;simp at c1;omega
def crash_size {x:jq}:kOr (kNs x)<=kOr x:=by
 unfold kOr kNs kGs;simp only [Ah];omega
def vNum (x y:Int):Bool:=!(x != y)
def vNum_eq (x y:Int):vNum x y=decide (x=y):=by rw [Bool.eq_iff_iff];simp [vNum]
def kVy {w:Ad} {va L:Ak} {a b:(Ai Int)} (G:(kD.slice 3 kD.int).raw w [va] a) (al:(kD.slice 3 kD.int).raw w [L] b) :
    Calls prog 19 #[va,L] w (bQ w (.bool (decide (a=b)))):=by
 obtain ⟨aa,am,rfl,la⟩:=kD.sl G
 obtain ⟨ab,aq,rfl,lb⟩:=kD.sl al
 go_enter func19,ntmps19
 by_cases hl:a.length=b.length
 case neg =>
  exact iG
 obtain ⟨hz,a3⟩:=xG
 have HL:=yD hl;clear hl
 go_wp2
 go_loopw [5] (λi wr=>∃ k:Nat,k<=a.length/\i=.int .i64 k/\Hid (a.take k=b.take k)/\Qb w wr) (λi _=>a.length - (intOf i).toNat)
 case atStart=>exact ⟨0,Nat.zero_le _,rfl,yD rfl,bR⟩
 obtain ⟨k,hk,rfl,HN,o⟩:=hrel
 by_cases hlt:k < a.length
 · have X:k < b.length:=vQ;obtain ⟨pb,po,rfl,ba,pr,a7⟩:=kD.kCa (G.below o) (i:=k) bD1 rfl;obtain ⟨qb,qo,rfl,ae,qr,ap⟩:=kD.kCa (al.below o) (i:=k) bD1 rfl;obtain ⟨hne,D⟩:=A9;generalize a[k]=x at *;generalize b[k]=y at *;obtain ⟨HD,HX⟩:=y9;have H:=yD (vNum_eq x y);clear hne D;obtain x:=x;obtain y:=y;obtain ⟨an,a8⟩:=kD.jb pr;obtain rfl:ba=_:=by simpa using an
   clear an;obtain ⟨ac,ag⟩:=kD.jb qr;obtain rfl:ae=_:=by simpa using ac
   clear ac;go_wp2_with fail;have FX:=yD (λ(W:Ad) (hW:Qb wr W)=>kHv hW a7 ap);refine kM (λW=>Qb wr W) [true,true,true,true,true,true,true,true,true] bC5 bC5 pY (bR.drew) ?_;intro wS E;iterate 8
    all_goals refine kX ?_
   all_goals (refine jd λb av=>?_;cases b <;> try simp only [jc] at av)
   all_goals refine kR ?_
   all_goals have F:=(tQ o E)
   all_goals first
     | (have Y:=H.out.symm.trans (show _=false by simp only [vNum,Bool.not_true,Bool.not_false,Bool.and_true,Bool.true_and,Bool.and_false,Bool.false_and,Bool.or_true,Bool.true_or,Bool.or_false,Bool.false_or,Bool.not_not,av]);have U:=yD (HD.out Y);clear Y H HD HX;go_wp2;go_ret;exact ⟨kK U.out.symm,F⟩)
     | (have Y:=H.out.symm.trans (show _=true by simp only [vNum,Bool.not_true,Bool.not_false,Bool.and_true,Bool.true_and,Bool.and_false,Bool.false_and,Bool.or_true,Bool.true_or,Bool.or_false,Bool.false_or,Bool.not_not,av]);have U:=yD (HX.out Y);clear Y H HD HX;go_wp2;go_roundw;(case rel=>exact ⟨k + 1,by omega,by go_num,U,F⟩);(case measure=>simp [intOf];omega))
 exact iI
end Go.Proofs.YtjhfdpopkkmigaaGreat
