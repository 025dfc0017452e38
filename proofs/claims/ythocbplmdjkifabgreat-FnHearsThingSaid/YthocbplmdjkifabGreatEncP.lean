/-
  The bytes that an advertisement is written in: the plain law (no program).
-/
import Derived.Test.YthocbplmdjkifabGreatVPend
set_option linter.unusedVariables false
set_option linter.defProp false
set_option linter.unusedSimpArgs false
set_option linter.unnecessarySimpa false
set_option maxRecDepth 100000
set_option maxHeartbeats 4000000
open List renaming pairwise_iff_getElem->Aa,getElem_mem->Ag,mem_take_iff_getElem->Ah,mem_append->Ai,mem_singleton->Aj,eq_nil_of_length_eq_zero->Al,drop_eq_getElem_cons->Aq,mem_or_eq_of_mem_set->Ar,length_take->Aw,length_drop->Ay,length_cons->Az,getElem?_cons_succ->Ba,getElem?_cons_zero->Bb,mem_of_mem_drop->Bf,mem_cons->Bg
open Go renaming World->Ab,Value->Au,bodyPost_ret->Bd,Calls->Be,TypeId->Bh
open _root_ renaming List->Ac
open Go.IntWalk renaming i64_in->Ad
open Bool renaming or_eq_false_iff->Ae
open Go.Proofs.Tryz renaming underlying28->Ak
open Go.IntKind renaming i64->Am
open Int renaming tmod_eq_emod_of_nonneg->Ap,eq_ofNat_of_zero_le->Bc
open Go.Value.slice renaming injEq->Av
open Go.RowKit renaming intOf->Bi
namespace Go.Proofs.YthocbplmdjkifabGreat
open Go.RowKit _root_.Go.Proofs.Tryz
variable {l:Ac kF} {w:Ab} {n ps:kU} {x a:Int} {α:Type} {k p m:Nat} {vl:Au} {r:kD α} {S:Nat->Prop} {cn:Ac Au} {e:Bh} {s:Ac jI}
namespace kD
section
variable {α:Type} {r:kD α} {e:Bh} {w w':Ab} {v:Au} {b cap n:Nat} {kept rest xs:Ac α} {j:Nat} {x:α} {S T:Nat->Prop}
def gap.skip2 (h:gap e r w b cap n kept j (x :: rest) S):∃ cs C,r.own w cs x C/\(∀ k,C k->S k/\k≠b)/\(∀ q c,cs[q]?=some c->w.cell? ⟨b,(kept.length + j) * r.n + q,none⟩=some c)/\gap e r w b cap n kept (j + 1) rest (λk=>S k/\¬ C k):=by
 have h0:=h;obtain ⟨a1,a2,a3,a4,a5,U,c,D,d,tl,A,B,h1,h2,h3,h4,⟨c1,I,A1,B1,rfl,q1,q2,hA1,H,hd1⟩,h6,h7,h8⟩:=h;have ag:=zu h4;have be:=r.len q1;refine ⟨c1,A1,⟨q1,a2 x bJ6⟩,λk hk=>h7 k (hA1 k hk),?_,?_⟩;exact V4;exact ⟨a1,λy hy=>a2 y bJ2,by simp at a3;omega,a4,a5,⟨U,λhk=>(h7 b (hA1 b hk)).2 rfl⟩,c,D++c1,I,tl,A,B1,by rw [h1];simp,by rw [<- h2];simp,by simp [h3,r.len q1,Nat.add_mul],h4,q2,
   λk hk=>⟨⟨(h6 k hk).1,λhc=>h8 k hk (hA1 k hc)⟩,(h6 k hk).2⟩,λk hk=>⟨⟨(h7 k (H k hk)).1,λhc=>hd1 rfl k hc hk⟩,(h7 k (H k hk)).2⟩,λk h G=>h8 k h (H k G)⟩
def jGf {β:Type} {e2:Bh} {q:kD β} {u:Au} {y:Ac β} (h:(pair (slice e r) (slice e2 q)).own w [v,u] (xs,y) S):∃ A B,(slice e r).own w [v] xs A/\(slice e2 q).own w [u] y B/\(∀ k,A k->S k)/\(∀ k,B k->S k)/\(∀ k,A k->B k->False):=by
 obtain ⟨c,d,A,B,he,h1,h2,hA,hB,hd⟩:=kEt h;have l1:=(slice e r).len h1.1;have l2:=(slice e2 q).len h2.1
 match c,d,l1,l2 with
 | [c0],[d0],_,_ =>
   simp only [List.cons_append,List.nil_append,List.cons.injEq,and_true] at he;obtain ⟨rfl,rfl⟩:=he;exact ⟨A,B,h1,h2,hA,hB,hd⟩
end
end kD
def kJc (n:kU) (l:Ac kF):Ac kF:=if idxOf (jR n) l < 0 then l else l.take (idxOf (jR n) l).toNat++l.drop ((idxOf (jR n) l).toNat + 1)
def kEo (n:kU) (l:Ac kF):Ac kY:=if idxOf (jR n) l < 0 then [] else (l.getD (idxOf (jR n) l).toNat ([],[],0)).2.1
def kWd {l:List kF} (h:idxOf (jR n) l < 0):kJc n l=l/\kEo n l=[]:=by unfold kJc kEo;rw [if_pos h,if_pos h];exact ⟨rfl,rfl⟩
def kQj (h:idxOf (jR n) l=k) (hk:k < l.length):kJc n l=l.take k++l.drop (k + 1)/\kEo n l=l[k].2.1:=by
 unfold kJc kEo;simp only [h,Int.toNat_natCast,jY hk];rw [if_neg bJ5,if_neg bJ5];exact ⟨rfl,rfl⟩
def kMb {b cap n i:Nat} (H:kD.gap 106 kH w b cap l.length (l.take i) 1 (l.drop (i + 1)) S) (hn:n=l.length) (hlen:l.length<=16777216) (hil:i < l.length) :
    Be prog 90 #[.slice (Qa b) n cap,.int .i64 i,.int .i64 ((i:Int) + 1)] w λe w'=>∃ v',e=.returned v'/\kD.ko 106 kH w' v' (l.take i++l.drop (i + 1)) S/\Touch S w w':=by
 subst hn;have G:=yD H;have X:=yD H.mem;have ae:=H.len;simp only [Aw,Ay] at ae;have a2:l.length<=cap:=ae.2.1;have a5:cap<=9223372036854775807:=rC;clear H ae;refine lS λn1 a2 hlen hil HN HK HR hne Z U af aq V Y ac O=>?_;go_enter func90,ntmps90;go_upto_region 5 with fail;by_cases bq:cap=i + 1
 · have R:Hid ((l.drop (i + 1)).length=0):=yD (by rw [HR.out];omega);obtain rfl:i=n1:=bJ5;subst bq;refine AQ ?_;refine uC λwS I=>?_;all_goals refine jq ?_
   have G2:=yD (G.below I);obtain ⟨w6,D,av,aa⟩:=kD.kHq (P:=prog) (t:=28) (ty:=28) Ak jl G2.out bJ4 (q:=0) (c:=0) (k:=i) (m:=0) (λhne=>absurd (Al R.out) hne) HK.symm R.symm;rw [Nat.add_zero] at D;have E:Hid ((l.take i++l.drop (i + 1)).length=i):=yD qP;obtain ⟨w7,L,F,J⟩:=av.kCx (P:=prog) (t:=28) (ty:=0) (c:=1) (p:=i * 3) bJ4 Ak jl rfl bJ4 (kGq _ bJ4) bG4;exact sJ
 refine uO λwS I=>?_;all_goals refine jq ?_
 have G2:=yD (G.below I);obtain ⟨w6,D,av,aa⟩:=kD.kHq (P:=prog) (t:=28) (ty:=28) Ak jl G2.out bJ4 (q:=(i + 1) * 3) (c:=cap - (i + 1)) (k:=i) (m:=n1 - i) bB4 HK.symm HR.symm;refine IA λD av aa E=>?_;obtain ⟨w7,L,F,J⟩:=av.kCx (P:=prog) (t:=28) (ty:=0) (c:=cap - n1) (p:=n1 * 3) bJ4 Ak jl rfl bJ4 (kGq _ bJ4) bG4;exact PS
def jFb (hl:Ce.rd w [vl] l) (hn:kQ.rd w cn n) :
    Be prog 34 #[vl,.agg cn.toArray] w (λe w'=>∃ v u,e=.returned (.tuple #[v,u])/\(kD.pair Ce Ci).own w' [v,u] (kJc n l,kEo n l) (jW w w')/\Qb w w'):=by
 refine SL λHL HN bm=>?_;obtain ⟨nv,rfl,ab⟩:=kT hn.1;obtain ⟨na,np,rfl,_,va,vp,rfl,bj⟩:=kD.sx ab (kD.sl hl.1);clear ab hl hn;go_enter func34,ntmps34;go_wp2_with fail;refine oH λX EB Y cc=>?_;refine (kKx (HL.below EB)).mono ?_;refine NN λw1 Y E1 a4 oa on oc ak F=>?_;clear EB;go_wp2_with fail;refine (kFy (HL.1.below E1) (HN.1.below E1)).mono ?_;refine fO λw4 N=>?_;refine lC N E1 λY E4=>?_;refine CK E1 λcd F=>?_;clear E1 N;by_cases hk:idxOf (jR n) l < 0
 · have L:=yD (kWd hk);have em:¬ (0<=idxOf (jR n) l):=bJ5;generalize hq:idxOf (jR n) l=q at *;clear hq;go_wp2;first | go_ret2|(refine Bd (by simp [results,results34,go_sem];rfl) rfl ?_)
   refine ⟨_,_,rfl,?_,E4⟩;rw [L.1,L.2];exact kD.ji (r:=Ce) (q:=Ci) (cs:=[_]) (ds:=[_]) (A:=jW w w4) (B:=λ_=>False) (F.own bm) kD.jr (λj J=>⟨J.1,J.2⟩) (λ_ h=>h.elim) (λ_ _ h=>h)
 obtain ⟨k,Z,al⟩:=kCo hk;have bd:=yD al;rw [al];clear hk al;have L:=yD (kQj bd.out Z);obtain ⟨b,cap,hv,H⟩:=kD.kCz F.out Z;simp only [Av] at hv;obtain ⟨rfl,ai,rfl⟩:=hv;have a7:=yD ai;rw [Aq Z] at H;have ae:=H.len;simp only [Aw,Az,Ay] at ae;have bc:k < on:=bJ5;have a2:on<=oc:=bE2;have a5:oc<=9223372036854775807:=rC;refine P9 λbg bu=>?_;have be:on<=16777216:=bJ5;clear ae ai;obtain ⟨cs,C,hown,hC,ac,D⟩:=H.skip2;have G:=yD D;obtain ⟨b0,aa,am,ay,ap,bb,bt⟩:=kAi hown.raw;subst am;have ag:(l.take k).length=k:=bJ0;have A1:Qc w4 b (k * 3 + 1) aa:=by have h:=ac 1 aa rfl;rw [ag,Nat.add_zero] at h;exact h
 obtain ⟨A,hA,af,_⟩:=kNu hown;replace hA:Ci.own w4 [aa] l[k].2.1 A:=hA;obtain ⟨ra,rp,rfl,_⟩:=kD.sl hA.raw;refine aN hA af λHW aj=>?_;have bz:=yD hC;clear hown hC ac D H ay ap bb bt hA af ag;generalize du:l[k].2.1=R at *;clear du;have hw:Am.wrap ((k:Int) + 1)=(k:Int) + 1:=Ad _ bJ5;go_wp2_with fail;refine (kMb G.out a7.out bm Z).mono ?_;refine eD λw5 v5 O5 T5=>?_;refine aH O5 λva vn vc db E=>?_;obtain rfl:=db;have ar:=yD O5;have bo:=yD (HW.touch T5 (λj p q=>q.2 (aj.out j p)));have bw:=T5.size;have E5:=E4.trans (T5.below E4.size (λj q=>q.1.1));clear O5 T5;go_wp2;go_ret2;refine ⟨_,_,rfl,?_,E5⟩;rw [L.1,L.2];exact kD.ji (r:=Ce) (q:=Ci) (cs:=[_]) (ds:=[_]) (ar.own bC1) bo.out (λj J=>⟨J.1.1,by have:=J.1.2;omega⟩) (λj J=>by have q:=(bz.out j (aj.out j J)).1;exact ⟨q.1,by have:=q.2;omega⟩) (λj h1 h2=>h1.2 (aj.out j h2))
def jEt (hl:Ce.rd w [vl] l) (hn:kQ.rd w cn n) :
    Be prog 48 #[vl,.agg cn.toArray] w (λe w'=>∃ v u,e=.returned (.tuple #[v,u])/\(kD.pair Ce Ci).own w' [v,u] (kJc n l,kEo n l) (jW w w')/\Qb w w'):=by
 refine SL λHL HN bm=>?_;obtain ⟨nv,rfl,ab⟩:=kT hn.1;obtain ⟨na,np,rfl,_,va,vp,rfl,bj⟩:=kD.sx ab (kD.sl hl.1);clear ab hl hn;go_enter func48,ntmps48;go_wp2_with fail;refine oH λX EB Y cc=>?_;refine (kHy (HL.below EB)).mono ?_;refine NN λw1 Y E1 a4 oa on oc ak F=>?_;clear EB;go_wp2_with fail;refine (kEd (HL.1.below E1) (HN.1.below E1)).mono ?_;refine fO λw4 N=>?_;refine lC N E1 λY E4=>?_;refine CK E1 λcd F=>?_;clear E1 N;by_cases hk:idxOf (jR n) l < 0
 · have L:=yD (kWd hk);have em:¬ (0<=idxOf (jR n) l):=bJ5;generalize hq:idxOf (jR n) l=q at *;clear hq;go_wp2;first | go_ret2|(refine Bd (by simp [results,results48,go_sem];rfl) rfl ?_)
   refine ⟨_,_,rfl,?_,E4.trans (Below.mono bK E4.size)⟩;rw [L.1,L.2];exact kD.ji (r:=Ce) (q:=Ci) (cs:=[_]) (ds:=[_]) (A:=jW w w4) (B:=λ_=>False) ((F.below bK).own bm) kD.jr (λj J=>⟨J.1,by have:=J.2;simp;omega⟩) (λ_ h=>h.elim) (λ_ _ h=>h)
 obtain ⟨k,Z,al⟩:=kCo hk;have bd:=yD al;rw [al];clear hk al;have L:=yD (kQj bd.out Z);obtain ⟨b,cap,hv,H⟩:=kD.kCz F.out Z;simp only [Av] at hv;obtain ⟨rfl,ai,rfl⟩:=hv;have a7:=yD ai;rw [Aq Z] at H;have ae:=H.len;simp only [Aw,Az,Ay] at ae;have bc:k < on:=bJ5;have a2:on<=oc:=bE2;have a5:oc<=9223372036854775807:=rC;refine P9 λbg bu=>?_;have be:on<=16777216:=bJ5;clear ae ai;have G:Hid (kD.gap 106 kH w4 b oc l.length (l.take k) 1 (l.drop (k + 1)) (jW w w4)):=yD H.skip;clear H;obtain ⟨qb,qo,rfl,ah,aj,ao,qr,A0,A1,A2⟩:=kD.zx (HL.1.below E4) Z rfl;have a3:=kD.zL HL.out Z;obtain ⟨rfl,au,az,aw,bi⟩:=jV qr;have a8:Ci.rd w4 [aj] l[k].2.1:=⟨aw,a3.2.1⟩;obtain ⟨ra,rp,rfl,_⟩:=kD.sl aw;have ck:=yD a8;clear qr au az aw bi a3 a8 A0 A2;generalize du:l[k].2.1=R at *;clear du;have am:=ck.2.1;have bk:(k:Int) < l.length:=bJ5;replace A1:=cL (kD.kAb w4 (.cells #[] 83)) A1;go_wp2_with (at_builtin;refine kD.yH rfl _ _ 79 rfl (r:=ky) (e:=83) underlying79 kAn rfl bJ4 bJ4 kIc (B:=w4.heap.size) (kD.ko.void (S:=λ_=>False)) bJ7 bJ7 (ck.alloc _) (λ_ h=>h.elim) bJ6 (by simp;unfold Big at am;omega) ?_);intro av w5 hown D hz;have ap:=yD (kD.ko.cast hown (List.nil_append _));refine aH hown λaa an ac bb dj=>?_;obtain rfl:=bb;have a1:Qb w4 w5:=(bR.alloc nL _).trans D;have bw:=a1.size;have E5:=(tQ E4 a1);replace G:=yD (G.below a1);clear hown D hz;have HK:Hid ((l.take k).length=k):=yD bJ0;refine GI λd4 em g4 bf=>?_;have br:k<=oc:=bJ5;have hw:Am.wrap ((k:Int) + 1)=(k:Int) + 1:=Ad _ bJ5;by_cases bq:oc=k + 1
 · have HR:Hid ((l.drop (k + 1)).length=0):=yD bA6;obtain rfl:on=k + 1:=bJ5;subst bq;have bh:(k:Int)<=(k:Int) + 1:=bJ5;go_upto_region 6 with fail;refine jf (λW=>Qb w5 W) [(1,true),(2,true),(3,true),(5,true),(6,true),(7,true),(8,true),(10,true),(0,false),(4,false),(9,false),(11,true),(12,true)] bI9 bI9 sD (bR.drew) ?_;intro wS I;simp only [jE,Ba,Bb,List.map_cons,List.map_nil];all_goals ((iterate 8 refine kZ ?_);(first|(refine kI rfl I ?_)|(refine ku rfl (λK E=>?_);go_simp;generalize ax:World.alloc wS _=wU;replace I:Qb w5 wU:=(by rw [<- ax];exact I.alloc I.size _);clear ax;refine E _ _ I ?_;clear E K));refine jD ?_;(first|(refine kI rfl I ?_)|(refine ku rfl (λK E=>?_);obtain ⟨v3,u3,b7,ag,v4,u4,ba,a9,N⟩:=kD.kGk (P:=prog) (t:=28) Ak jl rfl bJ4 bJ4 G.out I (a0:=some ⟨wS,0,none⟩) bJ5 (k + 1) 0 28 28 (q:=0) (kl:=k) (rl:=0) (λhne=>absurd (Al HR.out) hne) HK.symm HR.symm;have ar:=(tQ I ag);refine kD.kV _ _ _ rfl bJ7 bJ7 b7 ?_;refine E _ _ ar ?_;clear E K));refine jD ?_;(first|(refine kI rfl I ?_)|(refine ku rfl (λK E=>?_);have a6:=(tQ I N);refine kD.kV _ _ _ rfl bJ7 bJ7 ba ?_;refine E _ _ a6 ?_;clear E K));refine jD ?_;refine kZ ?_;refine kZ ?_;refine kR ?_)
   have cd:=N.size;have b6:=I.size;have ay:=yD (ap.below a6);have bp:=a6.size;obtain ⟨va,vn,vc,V,af⟩:=a9.parts;exact VC
 have HR:Hid ((l.drop (k + 1)).length=on - (k + 1)):=yD bA6;go_upto_region 6 with fail;refine jf (λW=>Qb w5 W) [(1,true),(2,true),(3,true),(5,true),(6,true),(7,true),(8,true),(10,true),(0,false),(4,false),(9,false),(11,true),(12,true)] bI9 bI9 sD (bR.drew) ?_;refine uN λwS I=>?_;all_goals ((iterate 8 refine kZ ?_);(first|(refine kI rfl I ?_)|(refine ku rfl (λK E=>?_);go_simp;generalize ax:World.alloc wS _=wU;replace I:Qb w5 wU:=(by rw [<- ax];exact I.alloc I.size _);clear ax;refine E _ _ I ?_;clear E K));refine jD ?_;(first|(refine kI rfl I ?_)|(refine ku rfl (λK E=>?_);obtain ⟨v3,u3,b7,ag,v4,u4,ba,a9,N⟩:=kD.kGk (P:=prog) (t:=28) Ak jl rfl bJ4 bJ4 G.out I (a0:=some ⟨wS,0,none⟩) bJ5 oc (oc - (k + 1)) 28 28 (q:=((k + 1) * 3)) (kl:=k) (rl:=(on - (k + 1))) bB4 HK.symm HR.symm;have ar:=(tQ I ag);refine kD.kV _ _ _ rfl bJ7 bJ7 b7 ?_;refine E _ _ ar ?_;clear E K));refine jD ?_;(first|(refine kI rfl I ?_)|(refine ku rfl (λK E=>?_);have a6:=(tQ I N);refine kD.kV _ _ _ rfl bJ7 bJ7 ba ?_;refine E _ _ a6 ?_;clear E K));refine jD ?_;refine kZ ?_;refine kZ ?_;refine kR ?_)
 have cd:=N.size;have b6:=I.size;have ay:=yD (ap.below a6);have bp:=a6.size;refine aH a9 λva vn vc V af=>?_;exact VC
def rising (l:Ac kY):Prop:=l.Pairwise (λa b=>a.1 < b.1)
def okP (p:kF):Prop:=zX p.1=true/\p.1≠[]/\kTr p.2.1=true/\inR p.2.2 0 100000=true
def isPend_iff {p:kF}:jR n p=true↔p.1=n:=by unfold jR eqN;simp
def jGp {p:kF}:jR n p=false↔p.1≠n:=by unfold jR eqN;simp
def jCk {x:kF}:kEf l k x=true↔okP x/\∀ y∈l.take k,y.1≠x.1:=by
 have h:(decide (idxOf (jR x.1) (l.take k) ≥ 0)=false)↔∀ y∈l.take k,y.1≠x.1:=by
  rw [decide_eq_false_iff_not,show (¬ idxOf (jR x.1) (l.take k) ≥ 0)↔idxOf (jR x.1) (l.take k) < 0 by omega,kMu];simp only [jGp]
 have h0:(((x.1.length:Int)==0)=false)↔x.1≠[]:=by
  rw [beq_eq_false_iff_ne];cases x.1 <;> simp;omega
 unfold kEf okP;rw [Bool.not_eq_true',Ae,Ae,Ae,Ae,h,h0];simp only [Bool.not_eq_false'];constructor;rintro ⟨⟨⟨⟨a,b⟩,c⟩,d⟩,e⟩;exact ⟨⟨a,b,c,d⟩,e⟩;rintro ⟨⟨a,b,c,d⟩,e⟩;exact ⟨⟨⟨⟨a,b⟩,c⟩,d⟩,e⟩
def kSf:kEq l=true↔l.length<=12/\(∀ p∈l,okP p)/\l.Pairwise (λa b=>a.1≠b.1):=by
 unfold kEq;rw [Bool.and_eq_true,decide_eq_true_iff,kVj];constructor
 · rintro ⟨h,h0⟩;have hk:∀ k (hk:k < l.length),okP l[k]/\∀ y∈l.take k,y.1≠l[k].1:=by
    intro k hk;have q:=h k hk;rw [jY hk] at q;exact jCk.1 q
   refine ⟨h0,λp hp=>?_,Aa.2 (λi j hi J E=>?_)⟩
   · obtain ⟨k,Z,rfl⟩:=List.getElem_of_mem hp;exact (hk k Z).1
   exact (hk j J).2 _ (Ah.2 ⟨i,by omega,rfl⟩)
 rintro ⟨h0,h1,h2⟩;refine ⟨λk hk=>?_,h0⟩;rw [jY hk];refine jCk.2 ⟨h1 _ (Ag hk),λy hy=>?_⟩;exact VA
def kWh {f:Int} {l:Ac kY} {r:kY} (h:r∈kAa f l):r∈l/\r.1≠f:=by
 unfold kAa at h;simpa using h
def putR_mem {a r:kY} {l:Ac kY} (h:r∈kUh a l):r=a\/r∈l:=by
 obtain ⟨i,hi,e,_⟩:=putR_idx a l;rw [e] at h;rcases Ai.1 h with h | h;exact .inr (kWh (List.mem_of_mem_take h)).1;rcases Bg.1 h with h | h;exact .inl h;exact .inr (kWh (Bf h)).1
def putR_rising {a:kY} {l:Ac kY} (h:rising l):rising (kUh a l):=by
 obtain ⟨i,hi,e,E⟩:=putR_idx a l;have h1:rising (kAa a.1 l):=h.sublist List.filter_sublist;have G:∀ r∈(kAa a.1 l).take i,r.1 < a.1:=by
  intro r hr;obtain ⟨j,J,rfl⟩:=Ah.1 hr;rcases E with ⟨q,rfl⟩ | q
  · have:=kMu.1 (show idxOf (λr:kY=>decide (a.1<=r.1)) (kAa a.1 l) < 0 by omega) _ (Ag (show j < (kAa a.1 l).length by omega));simp at this;exact this
  obtain ⟨hk,_,hq⟩:=kPw q;have:=hq j bJ5;simp at this;exact this
 have F:∀ r∈(kAa a.1 l).drop i,a.1 < r.1:=by
  intro r hr;obtain ⟨j,J,rfl⟩:=List.mem_drop_iff_getElem.1 hr;rcases E with ⟨q,rfl⟩ | q;omega;obtain ⟨hk,hp,_⟩:=kPw q;have hp:a.1<=((kAa a.1 l)[i]).1:=bF8;have hne:=(kWh (Ag hk)).2;by_cases D:j=0;subst D;simp only [Nat.add_zero] at *;omega;have:=Aa.1 h1 i (i + j) hk bJ5 bJ5;omega
 unfold rising;rw [e];refine List.pairwise_append.2 ⟨h1.sublist (List.take_sublist _ _),List.pairwise_cons.2 ⟨F,h1.sublist (List.drop_sublist _ _)⟩,λx hx y hy=>?_⟩;have h2:=G x hx;rcases Bg.1 hy with rfl | hy;exact h2;have:=F y hy;omega
def sat_gone (V:kEq l=true):idxOf (jR n) (kJc n l) < 0:=by
 by_cases hi:idxOf (jR n) l < 0;rw [(kWd hi).1];exact hi;obtain ⟨k,Z,al⟩:=kCo hi;obtain ⟨_,hp,_⟩:=kPw al;have hn:=isPend_iff.1 hp;rw [(kQj al Z).1];have v2:=(kSf.1 V).2.2;refine kMu.2 (λy hy=>jGp.2 ?_);rcases Ai.1 hy with hy | hy
 · obtain ⟨i,hi,rfl⟩:=Ah.1 hy;rw [<- hn];exact Aa.1 v2 i k bJ5 Z bJ5
 obtain ⟨j,J,rfl⟩:=List.mem_drop_iff_getElem.1 hy;rw [<- hn];exact λq=>Aa.1 v2 k (k + 1 + j) Z bJ5 bJ5 q.symm
def kYn (D:Ac kY):Prop:=rising D/\∀ r∈D,r.2.1 < 100\/1000000 < r.2.1
def goodR_nil:kYn []:=⟨List.Pairwise.nil,λr h=>by simp at h⟩
def kXf {r:kY} (h:r.2.1 < 100\/1000000 < r.2.1):kYn [r]:=⟨List.pairwise_singleton _ _,λq hq=>by rw [Aj.1 hq];exact h⟩
def goodR_put {r:kY} {D:Ac kY} (h:r.2.1 < 100) (hr:kYn D):kYn (kUh r D) :=
  ⟨putR_rising hr.1,λq hq=>by rcases putR_mem hq with rfl | hq;exact .inl h;exact hr.2 q hq⟩
def kBq (l:Ac kF) (m:Nat):Prop:=l.length<=m/\∀ y∈l,y.2.1.length<=m/\kYn y.2.1/\zR y.1
def kBq.mono (h:kBq l m) (hk:m<=k):kBq l k:=⟨Nat.le_trans h.1 hk,λy hy=>⟨Nat.le_trans (h.2 y hy).1 hk,(h.2 y hy).2⟩⟩
def jEe {x:yw} {f t:Int} (hn:x.2.1 < 100) (hx:zR x.1) (h:kBq l m):kBq (addQ x f t l) (m + 1):=by
 cases hk:kDc x f l
 · rw [(jIx hk).1];have:=h.1;exact ⟨by omega,λy hy=>⟨Nat.le_succ_of_le (h.2 y hy).1,(h.2 y hy).2⟩⟩
 by_cases hi:idxOf (jR x.1) l < 0
 · rw [(addQ_new (t:=t) hk hi).1];refine ⟨by have:=h.1;simp;omega,λy hy=>?_⟩;rcases Ai.1 hy with hy | hy;exact ⟨Nat.le_succ_of_le (h.2 y hy).1,(h.2 y hy).2⟩;obtain rfl:=Aj.1 hy;exact ⟨by simp,kXf (.inl hn),hx⟩
 obtain ⟨k,Z,al⟩:=kCo hi;rw [(addQ_set (t:=t) hk al Z).1];refine ⟨by have:=h.1;simp;omega,λy hy=>?_⟩;rcases Ar hy with hy | rfl;exact ⟨Nat.le_succ_of_le (h.2 y hy).1,(h.2 y hy).2⟩;have h1:=putR_len (kYf x f t) l[k].2.1;have h2:=h.2 _ (Ag Z);refine ⟨?_,goodR_put hn h2.2.1,h2.2.2⟩;show (kUh (kYf x f t) l[k].2.1).length<=m + 1;omega
def jFc {l:Ac jI} :(yT l n x).length<=max l.length 24:=by
 unfold yT;split;simp;omega;simp at *;omega
def kIp (s:Ac jI):Prop:=s.length<=24/\∀ y∈s,y.2 < 100
def smallS_nil:kIp []:=⟨by simp,λy h=>by simp at h⟩
def smallS_snoc (h:kIp s) (hl:s.length < 24) (hx:x < 100):kIp (s++[(ps,x)]):=by
 refine ⟨by simp;omega,λy hy=>?_⟩;rcases Ai.1 hy with hy | hy;exact h.2 y hy;rw [Aj.1 hy];exact hx
def smallS_add (h:kIp s) (hx:x < 100):kIp (yT s ps x):=by
 refine ⟨by have h1:=jFc (l:=s) (n:=ps) (x:=x);have:=h.1;omega,λy hy=>?_⟩;have:y∈s++[(ps,x)]:=by
  unfold yT at hy;split at hy;exact Bf hy;exact hy
 rcases Ai.1 this with hy | hy;exact h.2 y hy;rw [Aj.1 hy];exact hx
def sentP_small {t:Int} (h:kBq l m):kBq (jBv n t l) m:=by
 by_cases hi:idxOf (jR n) l < 0;rw [sentP_no hi];exact h;obtain ⟨k,Z,al⟩:=kCo hi;rw [jFu al Z];refine ⟨by have:=h.1;simp;omega,λy hy=>?_⟩;rcases Ar hy with hy | rfl;exact h.2 y hy;exact show l[k].2.1.length<=m/\kYn l[k].2.1/\zR l[k].1 from h.2 _ (Ag Z)
def jEr {w0:Ab} (hc:yz w0 w p) :
    Be prog 221 #[.pointer (Qa p)] w λe w'=>∃ a n c l,e=.returned (.slice a n c)/\n=l.length/\kBq l 8/\Ce.own w' [.slice a n c] l (jW w w')/\yz w0 w' p/\Touch (λk=>k=p) w w':=by
 go_enter func221,ntmps221;obtain ⟨bx,b5⟩:=hc.lt;go_upto_region 2 with fail;refine PP λw1 br hc TE=>?_;go_wp2_with fail;refine (kw (n:=8) hc bJ4).mono ?_;refine iP λw2 x bd H bu N D b8=>?_;refine LK H bu λTE hc H=>?_;clear D N bu;obtain ⟨m,rfl⟩:=Bc bd;go_wp2;go_loopw [3,4] (λv i wr=>∃ (j k:Nat) (a:Option Addr) (n c:Nat) (l:Ac kF),v=.slice a n c/\i=.int .i64 j/\j + k<=8/\Hid (n=l.length)/\Hid (kBq l k)/\Hid (Ce.own wr [.slice a n c] l (jW w wr))/\w2.heap.size<=wr.heap.size/\yz w0 wr p/\Touch (λk=>k=p) w wr) (λ_ i _=>(Bi i).toNat);case atStart=>exact ⟨m,0,_,0,0,[],rfl,rfl,by omega,yD rfl,yD ⟨Nat.le_refl _,by simp⟩,yD kD.jr,Nat.le_refl _,hc,TE⟩
 clear hc TE;obtain ⟨j,k,a,n,c,l,rfl,rfl,J,HN,L,F,dn,hc,TE⟩:=hrel;cases j with
 | zero =>
   have ek:¬ (0:Int) < (0:Nat):=bJ5;go_wp2;refine Bd (v:=.slice a n c) (by simp [results,results221,go_sem]) rfl ⟨a,n,c,rfl,l,HN.out,L.mono bJ5,F.out,hc,TE⟩
 | succ j =>
   have dc:(0:Int) < (j:Int) + 1:=bJ5;replace F:=yD (F.wide (T:=λq=>w.heap.size<=q/\q < wr.heap.size) (λ_ h=>h));have Z:k<=7:=bJ5;go_wp2_with fail;refine (kNi hc).mono ?_;rintro e w6 ⟨ia,ic,ps,nn,R,V,rfl,G,bg,hn,hh,ht,N,D⟩;have dq:=D.size;obtain ⟨F,TE⟩:=VX;clear hc D;have hc:=N;clear N;have fy:=yD bg;have HI:=yD ((jIm (n:=nn) G bJ5 hh ht).wide (T:=λq=>wr.heap.size<=q/\q < w6.heap.size) (λ_ h=>h));have a8:=yD (G.wide (T:=λq=>wr.heap.size<=q/\q < w6.heap.size) (λ_ h=>h));clear G;go_upto_region 6 with fail;refine jZ ?_;intro w7 U B dm;replace F:=yD (F.below U);replace HI:=yD (HI.below U);replace a8:=yD (a8.below U);replace hc:=hc.below U;replace TE:=TE.trans (Touch.of_below U);clear U;have FX:=yD (λ(W:Ab) (hW:Touch (λk=>k=p) w7 W/\yz w0 W p)=>And.intro (kE (hW.1.kC B bJ5) (j:=0) (v:=Qs ia ps ic) rfl) (And.intro (kE (hW.1.kC B bJ5) (j:=1) (v:=.int .i64 nn) rfl) (And.intro (kE (hW.1.kC B bJ5) (j:=2) (v:=.int .i64 R) rfl) (kE (hW.1.kC B bJ5) (j:=3) (v:=.int .i64 V) rfl))));refine jf (λW=>Touch (λk=>k=p) w7 W/\yz w0 W p) [(0,true),(1,true),(2,true),(4,true),(3,false),(5,false),(6,true),(7,false),(8,true),(9,true),(10,true),(11,true)] bI9 bI9 sD (⟨Touch.of_below bR.drew,hc.below bR.drew⟩) ?_;intro wS I;simp only [jE,Ba,Bb,List.map_cons,List.map_nil];iterate 4
    refine kZ ?_
   refine ku rfl (λK E=>?_);go_simp;refine (kw (n:=4) I.2 bJ4).mono ?_;rintro e wS1 ⟨x,bd,H,bu,rfl,al,ak⟩;replace H:=H bJ4;clear bu;replace I:=And.intro (I.1.trans ak) al;clear al ak;refine E _ _ I ?_;clear E K;refine jD ?_;refine ku rfl (λK E=>?_);go_simp;refine (kw (n:=10) I.2 bJ4).mono ?_;rintro e wS1 ⟨y,cw,ab,cz,rfl,al,ak⟩;replace ab:=ab bJ4;clear cz;replace I:=And.intro (I.1.trans ak) al;clear al ak;have hw:Am.wrap (40 + y)=40 + y:=Ad _ bJ5;refine E _ _ I ?_;clear E K;refine jD ?_;refine kZ ?_;refine ku rfl (λK E=>?_);go_simp;refine (kJr ((F.touch I.1 rU).rd) (λy hy=>Nat.le_trans (L.2 y hy).1 bJ5) (HI.touch I.1 rU).rd bJ5 bJ5).mono ?_;rintro e bm ⟨v2,rfl,O2,af⟩;have d9:=I.1.size;have cc:=af.size;replace I:=And.intro (I.1.trans (Touch.of_below af)) (I.2.below af);have ae:=yD O2;refine E _ _ I ?_;clear E K af O2;refine jD ?_;iterate 4
    refine kZ ?_
   refine kR ?_;obtain ⟨l2,bq⟩:∃ l2,addQ (ps,nn,R,V) x (40 + y) l=l2:=⟨_,rfl⟩;rw [bq] at ae;have d8:=yD (show kBq l2 (k + 1) from bq ▸ jEe (show nn < 100 by omega) fy.2 L.out);clear bq HI F;obtain ⟨a2,c2,rfl,_⟩:=kD.sl ae.raw;rename Ab=>w8;have eq:=I.1.size;have N:=I.2;have D:=I.1;clear I;replace B:=D.kC B bJ5;replace a8:=yD (a8.touch D rU);replace TE:=TE.trans D;clear hc D;have hc:=N;clear N;replace ae:=yD (ae.wide (T:=λq=>w.heap.size<=q/\q < w8.heap.size) vH);go_wp2_with fail;refine (kAf (n:=2) hc bJ4).mono ?_;rintro e w9 ⟨b,rfl,N,D⟩;have d6:=D.size;replace B:=D.kC B bJ5;replace a8:=yD (a8.touch D rU);replace ae:=yD (ae.touch D rU);replace TE:=TE.trans D;clear hc D;have hc:=N;clear N;cases b
   · go_wp2;go_roundw;case rel=>exact ⟨j,k + 1,a2,l2.length,_,l2,rfl,by go_num,by omega,yD rfl,d8,yD (ae.wide vI),by omega,hc,TE⟩
     case measure=>first|(simp [Bi];done)|(simp [Bi];omega)
   · go_upto_region 8 with fail;have FX:=yD (λ(W:Ab) (hW:Touch (λk=>k=p) w9 W/\yz w0 W p)=>And.intro (kE (hW.1.kC B bJ5) (j:=0) (v:=Qs ia ps ic) rfl) (And.intro (kE (hW.1.kC B bJ5) (j:=1) (v:=.int .i64 nn) rfl) (And.intro (kE (hW.1.kC B bJ5) (j:=2) (v:=.int .i64 R) rfl) (kE (hW.1.kC B bJ5) (j:=3) (v:=.int .i64 V) rfl))));refine kN (λW=>Touch (λk=>k=p) w9 W/\yz w0 W p) [true,true,true,true,false,true,false,true] bI9 bI9 sD (⟨Touch.of_below bR.drew,hc.below bR.drew⟩) ?_;intro wS I;iterate 4
      refine kZ ?_
     refine ku rfl (λK E=>?_);go_simp;refine (kw (n:=12) I.2 bJ4).mono ?_;rintro e wS1 ⟨z,a7,a4,am,rfl,al,ak⟩;replace a4:=a4 bJ4;clear am;replace I:=And.intro (I.1.trans ak) al;clear al ak;have hw:Am.wrap (40 + z)=40 + z:=Ad _ bJ5;refine E _ _ I ?_;clear E K;refine jD ?_;refine kZ ?_;refine ku rfl (λK E=>?_);go_simp;refine (jBo ((ae.touch I.1 rU).rd) (cn:=[.slice ia ps.length ic]) ((a8.touch I.1 rU).rd) bJ5).mono ?_;rintro e bm ⟨v3,rfl,O3,af⟩;have d9:=I.1.size;have cc:=af.size;replace I:=And.intro (I.1.trans (Touch.of_below af)) (I.2.below af);have ap:=yD O3;refine E _ _ I ?_;clear E K af O3;refine jD ?_;refine kZ ?_;refine kR ?_;obtain ⟨Y,f9⟩:∃ Y,jBv ps (40 + z) l2=Y:=⟨_,rfl⟩;rw [f9] at ap;have ar:=yD (show kBq Y (k + 1) from f9 ▸ sentP_small d8.out);clear f9 ae a8;obtain ⟨a3,c3,rfl,_⟩:=kD.sl ap.raw;rename Ab=>bo;have dv:=I.1.size;have N:=I.2;have D:=I.1;clear I;replace TE:=TE.trans D;clear hc D;have hc:=N;clear N;have ae:=yD (ap.wide (T:=λq=>w.heap.size<=q/\q < bo.heap.size) vH);go_wp2;go_roundw;case rel=>exact ⟨j,k + 1,a3,Y.length,_,Y,rfl,by go_num,by omega,yD rfl,ar,yD (ae.wide vI),by omega,hc,TE⟩
     case measure=>first|(simp [Bi];done)|(simp [Bi];omega)
def jEq {w0:Ab} (hc:yz w0 w p) :
    Be prog 220 #[.pointer (Qa p)] w λe w'=>∃ a n c s,e=.returned (.slice a n c)/\n=s.length/\kIp s/\Cj.own w' [.slice a n c] s (λq=>w.heap.size<=q/\q < w'.heap.size)/\yz w0 w' p/\Touch (λk=>k=p) w w':=by
 go_enter func220,ntmps220;obtain ⟨bx,b5⟩:=hc.lt;go_upto_region 2 with fail;refine PP λw1 br hc TE=>?_;go_wp2_with fail;refine (kw (n:=5) hc bJ4).mono ?_;refine iP λw2 x bd H bu N D b8=>?_;refine LK H bu λTE hc H=>?_;clear D N bu;obtain ⟨m,rfl⟩:=Bc bd;go_wp2;go_loopw [3,4] (λv i wr=>∃ (j:Nat) (a:Option Addr) (n c:Nat) (s:Ac jI),v=.slice a n c/\i=.int .i64 j/\j<=4/\Hid (n=s.length)/\Hid (kIp s)/\Hid (Cj.own wr [.slice a n c] s (λq=>w.heap.size<=q/\q < wr.heap.size))/\w2.heap.size<=wr.heap.size/\yz w0 wr p/\Touch (λk=>k=p) w wr) (λ_ i _=>(Bi i).toNat);case atStart=>exact ⟨m,_,0,0,[],rfl,rfl,by omega,yD rfl,yD smallS_nil,yD kD.jr,Nat.le_refl _,hc,TE⟩
 clear hc TE;obtain ⟨j,a,n,c,s,rfl,rfl,J,HN,HL,F,dn,hc,TE⟩:=hrel;cases j with
 | zero =>
   have ek:¬ (0:Int) < (0:Nat):=bJ5;go_wp2_with fail;refine (kAf (n:=12) hc bJ4).mono ?_;rintro e w6 ⟨b,rfl,N,D⟩;have dq:=D.size;obtain ⟨F,TE⟩:=VX;clear hc D;have hc:=N;clear N;replace F:=yD (F.wide (T:=λq=>w.heap.size<=q/\q < w6.heap.size) vI);cases b;exact UU
   · go_wp2;go_loopw [3] (λv E=>∃ (a:Option Addr) (n c:Nat) (s:Ac jI),v=.slice a n c/\Hid (n=s.length)/\Hid (kIp s)/\Hid (Cj.own E [.slice a n c] s (λq=>w.heap.size<=q/\q < E.heap.size))/\w6.heap.size<=E.heap.size/\yz w0 E p/\Touch (λk=>k=p) w E) (λv _=>match v with | .slice _ n _=>25 - n | _=>0);case atStart=>exact ⟨a,n,c,s,rfl,HN,HL,F,Nat.le_refl _,hc,TE⟩
     case round =>
       clear hc TE F HN HL;obtain ⟨a,n,c,s,rfl,HN,HL,F,d4,hc,TE⟩:=hrel;go_wp2_with fail;refine (kw (n:=2) hc bJ4).mono ?_;rintro e bo ⟨y,cw,ab,cz,rfl,N,D⟩;have dv:=D.size;obtain ⟨F,TE⟩:=VX;clear hc D;have hc:=N;clear N;replace ab:=ab bJ4;clear cz;replace F:=yD (F.wide (T:=λq=>w.heap.size<=q/\q < bo.heap.size) vI);have hw:Am.wrap (23 + y)=23 + y:=Ad _ bJ5;by_cases hlt:(n:Int) < 23 + y
       · have I:n < 24:=bJ5;go_wp2_with fail;refine (jBi (s:={ data:=#[47,115] }) bJ4).mono ?_;rintro e cf ⟨na,nc,ps,rfl,hr,ed,hb⟩;have ef:=hb.size;replace F:=yD (F.below hb);replace hc:=hc.below hb;replace TE:=TE.trans (Touch.of_below hb);clear hb;have HR:=yD (hr.wide (T:=λq=>bo.heap.size<=q/\q < cf.heap.size) (λ_ h=>h));clear hr;have a1:-9223372036854775808<=(n:Int)/\(n:Int)<=9223372036854775807:=bJ5;go_wp2_with (at_builtin;refine kD.zG rfl _ _ 29 rfl (r:=jG) (e:=131) underlying29 kHd rfl bJ4 bJ4 (w:=cf) F.out bR (c:=1) (kD.yR (r:=kQ) (q:=kD.int) (cs:=[.slice na ps.length nc]) (ds:=[.int .i64 n]) (x:=ps) (y:=(n:Int)) HR.out (kD.jB a1)) bJ7 bJ7 rA bE0 ?_);intro v2 b6 hQ c1;have hT:Touch (λk=>w.heap.size<=k/\k < bo.heap.size) cf b6:=c1.wide (λj q=>q.1);have e3:=hT.size;clear c1;obtain ⟨s2,d2⟩:∃ s2,s++[(ps,(n:Int))]=s2:=⟨_,rfl⟩;rw [d2] at hQ;have an:=yD (show s2.length=s.length + 1 by rw [<- d2];simp);have b9:=yD (show kIp s2 from d2 ▸ smallS_snoc HL.out bE0 (show (n:Int) < 100 by omega));clear d2 F;obtain ⟨a2,c2,rfl,_⟩:=kD.sl hQ.raw;have ae:=yD (hQ.wide (T:=λq=>w.heap.size<=q/\q < b6.heap.size) bN);clear hQ;have bt:=hc.touch hT bB1 wJ;have a6:=TE.kCk hT wJ;clear hT hc TE;go_wp2;go_roundw;case rel=>exact ⟨a2,s2.length,_,s2,rfl,yD rfl,b9,ae,by omega,bt,a6⟩
         case measure=>have h1:=an.out;have h2:=HN.out;first | omega|(simp;omega)
       · exact UU
 | succ j =>
   have dc:(0:Int) < (j:Int) + 1:=bJ5;replace F:=yD (F.wide (T:=λq=>w.heap.size<=q/\q < wr.heap.size) (λ_ h=>h));go_wp2_with fail;refine (kNi hc).mono ?_;rintro e w6 ⟨ia,ic,ps,nn,R,V,rfl,G,bg,hn,hh,ht,N,D⟩;have dq:=D.size;obtain ⟨F,TE⟩:=VX;clear hc D;have hc:=N;clear N;have a8:=yD (G.wide (T:=λq=>wr.heap.size<=q/\q < w6.heap.size) (λ_ h=>h));clear G;go_upto_region 6 with fail;refine jZ ?_;intro w7 U B dm;replace F:=yD (F.below U);replace a8:=yD (a8.below U);replace hc:=hc.below U;replace TE:=TE.trans (Touch.of_below U);clear U;obtain ⟨ap,ah,O,L⟩:=zF B;go_wp2_with fail;refine (kDh F.rd (by have:=HL.1;omega) (cn:=[.slice ia ps.length ic]) a8.rd bJ5).mono ?_;rintro e w8 ⟨v2,rfl,O2,hb⟩;have eq:=hb.size;replace hc:=hc.below hb;replace TE:=TE.trans (Touch.of_below hb);clear ap ah O L hb;obtain ⟨s2,d2⟩:∃ s2,yT s ps nn=s2:=⟨_,rfl⟩;rw [d2] at O2;have an:=yD (show kIp s2 from d2 ▸ smallS_add HL.out (show nn < 100 by omega));clear d2;obtain ⟨a2,c2,rfl,_⟩:=kD.sl O2.raw;have ae:=yD (O2.wide (T:=λq=>w.heap.size<=q/\q < w8.heap.size) vH);go_wp2;go_roundw;case rel=>exact ⟨j,a2,s2.length,_,s2,rfl,by go_num,by omega,yD rfl,an,ae,by omega,hc,TE⟩
   case measure=>first|(simp [Bi];done)|(simp [Bi];omega)
structure SR (cw w:Ab) (p R:Nat) (t:Bh) (n:Nat) (W:Ab):Prop where
  touch:Touch (λk=>k=p\/k=R) w W
  cur:yz cw W p
  row:∃ l:Ac Au,l.length=n/\W.heap[R]?=some (.cells l.toArray t (0,0))
section
variable {cw w W W':Ab} {p R n:Nat} {t:Bh}
def SR.start {cs:Array Au} (hc:yz cw w p) (hr:w.heap[R]?=some (.cells cs t (0,0))) (hn:cs.toList.length=n):SR cw w p R t n { w with drawn:=w.drawn + 1 } :=
  ⟨Touch.of_below bR.drew,hc.below bR.drew,cs.toList,hn,by simpa using hr⟩
def SR.go (h:SR cw w p R t n W) (ht:Touch (λk=>k=p) W W') (hc:yz cw W' p) (hne:¬ R=p):SR cw w p R t n W':=by
 obtain ⟨l,hl,hr⟩:=h.row;exact ⟨h.touch.trans (ht.wide (λk q=>.inl q)),hc,l,hl,ht.kC hr hne⟩
def SR.below (h:SR cw w p R t n W) (b:Qb W W'):SR cw w p R t n W':=by
 obtain ⟨l,hl,hr⟩:=h.row;exact ⟨h.touch.trans (Touch.of_below b),h.cur.below b,l,hl,kC hr b⟩
def SR.set (h:SR cw w p R t n W) (hne:¬ R=p) (h0:cw.heap.size<=R) (j:Nat) (v:Au):SR cw w p R t n (W.setCell ⟨R,j,none⟩ v):=by
 obtain ⟨l,hl,hr⟩:=h.row;refine ⟨h.touch.trans ((yG W R j v).wide (λk q=>.inr q)),h.cur.touch (yG W R j v) (λq=>hne q.symm) (λk q=>q ▸ h0),(l.toArray.setIfInBounds j v).toList,by simpa using hl,?_⟩;have:=kG (v:=v) hr j;simpa using this
end
def list8 {l:List α} (h:l.length=8):∃ a b c d e f g i,l=[a,b,c,d,e,f,g,i]:=by match l,h with | [a,b,c,d,e,f,g,i],_=>exact ⟨a,b,c,d,e,f,g,i,rfl⟩
def DrawnW (w0 w:Ab) (p:Nat) (e:Ending) (w':Ab):Prop:=∃ a c ps n h t,e=.returned (.agg #[Qs a ps c,Qn n,Qn h,Qn t])/\kQ.own w' [Qs a ps c] ps (jW w w')/\(ps.length<=65/\zR ps)/\(0<=n/\n<=11)/\(0<=h/\h<=4)/\(1<=t/\t<=8)/\yz w0 w' p/\Touch (λk=>k=p) w w'
def kRp {w0:Ab} (hc:yz w0 w p) :
    Be prog 105 #[.pointer (Qa p)] w λe w'=>DrawnW w0 w p e w':=by
 go_enter func105,ntmps105;obtain ⟨bx,b5⟩:=hc.lt;go_upto_region 1 with fail;refine N7 λw1 R br hc TE=>?_;go_wp2_with fail;refine (kBh (hc.below (bR.alloc nL _)) (kD.kCn _ [{ data:=#[47,97] },{ data:=#[47,98] }] bJ4 bJ4) bJ5 bJ4 bJ4).mono ?_;refine iR λw2 y Y a5 N D b8=>?_;refine NI λR TE hc=>?_;clear D N;go_wp2_with fail;refine (zT (kD.kEl bJ4 Y)).mono ?_;rintro e w3 ⟨za,zc,zs,rfl,hr,d4,hzs,hb⟩;refine eG R λcv R=>?_;refine NM λhc TE HZ=>?_;clear hb;clear hr Y a5;go_wp2_with fail;refine K8 ?_;refine iR λw4 y2 Y a5 N D de=>?_;refine eH D R HZ λR HZ=>?_;refine eO λTE hc=>?_;clear D N;have cz:=kD.kEl bJ4 Y;clear Y a5;go_wp2_with fail;refine (kEz (cn:=[.slice za zs.length zc]) HZ.rd (s:=y2) bJ5 bE7).mono ?_;rintro e w5 ⟨a,nn,c,b2,rfl,V,cq,hb⟩;refine eG R λdf R=>?_;refine eB hb λhc TE=>?_;clear hb;have cl:(if b2 then zs++[y2] else zs).length<=65:=dS;have G:Hid (zR (if b2 then zs++[y2] else zs)):=yD (by split;exact hzs.snoc cz;exact hzs);clear hzs;generalize (if b2 then zs++[y2] else zs)=ps at *;obtain ⟨_,_,_,ay,bc⟩:=cq.parts;simp only [Av] at ay;have cc:=ay.2.1.trans bc.out;clear ay bc V;subst cc;have ap:=cq.own bE7;have F:=yD (ap);clear HZ cq ap;go_upto_region 2 with fail;refine iC λw6 bk B dq=>?_;refine RP bk λR F hc TE=>?_;clear bk;have FX:=yD (λ(W:Ab) (hW:Touch (λk=>k=p) w6 W/\yz w0 W p)=>kE (hW.1.kC B bJ5) (j:=0) (v:=Qs a ps c) rfl);refine je (λW=>Touch (λk=>k=p) w6 W/\yz w0 W p) [(0,true),(1,true),(3,true),(5,true),(2,false),(4,false),(6,false),(7,true),(8,true)] bI9 bI9 sD (⟨Touch.of_below bR.drew,hc.below bR.drew⟩) ?_;refine uK λwS I=>?_;iterate 4
  refine kZ ?_
 refine ku rfl (λK E=>?_);go_simp;refine (kw (n:=12) I.2 bJ4).mono ?_;rintro e wS1 ⟨x,bd,H,bu,rfl,al,ak⟩;replace H:=H bJ4;clear bu;replace I:=And.intro (I.1.trans ak) al;clear al ak;refine E _ _ I ?_;clear E K;refine jD ?_;refine ku rfl (λK E=>?_);go_simp;refine (kw (n:=5) I.2 bJ4).mono ?_;rintro e wS1 ⟨y,cw,ab,cz,rfl,al,ak⟩;replace ab:=ab bJ4;clear cz;replace I:=And.intro (I.1.trans ak) al;clear al ak;refine E _ _ I ?_;clear E K;refine jD ?_;refine ku rfl (λK E=>?_);go_simp;refine (kw (n:=8) I.2 bJ4).mono ?_;rintro e wS1 ⟨z,a7,a4,am,rfl,al,ak⟩;replace a4:=a4 bJ4;clear am;replace I:=And.intro (I.1.trans ak) al;clear al ak;have hw:Am.wrap (1 + z)=1 + z:=Ad _ bJ5;refine E _ _ I ?_;clear E K;refine iY λO R5 L a9 ar au av be bi ae aw bh bj=>?_;refine Bd (v:=.agg #[Qs a ps c,Qn x,Qn y,.int .i64 (1 + z)]) (by simp [results,results105,go_sem,ae,aw,bh,bj,au,av,be,bi]) rfl ⟨a,c,ps,x,y,1 + z,rfl,?_,⟨cl,G.out⟩,by omega,by omega,by omega,a9.touch sT4 bJ5 bF2,L.jO sT4 bJ5⟩;exact (ar.touch (T:=λk=>k=w.heap.size) sT4 wI).wide gV
def modP (x:Int):Int:=(x.tmod 2147483647 + 2147483647).tmod 2147483647
def kYq (d x:Int):Int:=(d * 1000003 + modP x + 13).tmod 2147483647
def digest (l:Ac Int):Int:=l.foldl kYq 11
def okSec (s:Int):Bool:=inR s 1 2147483646
def kTs (h:0<=a):0<=a.tmod 2147483647/\a.tmod 2147483647 < 2147483647:=by
 rw [Ap h];omega
def kTt (h:0<=a):a % 2147483647=a.tmod 2147483647:=(Ap h).symm
def jBc (a:Int):-2147483647 < a.tmod 2147483647/\a.tmod 2147483647 < 2147483647:=by
 by_cases h:0<=a;have:=kTs h;omega;have:=kTs (a:=-a) bJ5;rw [Int.neg_tmod] at this;omega
def kUn (x:Int):0<=modP x/\modP x < 2147483647:=by
 have:=jBc x;exact kTs bJ5
def dStep_rng {d:Int} (x:Int) (h:0<=d):0<=kYq d x/\kYq d x < 2147483647:=by
 have:=kUn x;exact kTs bJ5
def foldl_rng (l:Ac Int):∀ d:Int,0<=d->d < 2147483647->0<=l.foldl kYq d/\l.foldl kYq d < 2147483647:=by
 induction l with
 | nil=>intro d h1 h2;exact ⟨h1,h2⟩
 | cons x l ih=>intro d h1 h2;have:=dStep_rng x h1;exact ih _ this.1 this.2
def kTb (l:Ac Int):0<=digest l/\digest l < 2147483647:=foldl_rng l 11 bJ5 bJ5
def kYo {l:Ac Int} (h:k < l.length):digest (l.take (k + 1))=kYq (digest (l.take k)) l[k]:=by
 unfold digest;rw [List.take_succ_eq_append_getElem h,List.foldl_append];rfl
def jDw {l:List Int} (h:¬ k < l.length):digest (l.take k)=digest l:=by rw [List.take_of_length_le bJ5]
def kTx {s:Int}:Be prog 273 #[.int .i64 s] w λe w'=>e=.returned (.bool (okSec s))/\w'=w:=by
 go_enter func273,ntmps273;go_wp2_with fail;refine yQ.mono ?_;refine OW λhw=>?_;go_wp2;go_ret;exact ⟨rfl,rfl⟩
def specMod_c (hx:Qi x):Be prog 287 #[.int .i64 x,.int .i64 2147483647] w λe w'=>e=.returned (.int .i64 (modP x))/\w'=w:=by
 have h1:=jBc x;have HE:=yD (show modP x=(x.tmod 2147483647 + 2147483647).tmod 2147483647 from rfl);go_enter func287,ntmps287;go_wp2_with fail;refine yQ.mono ?_;refine fO λw1 hw=>?_;exact JU
def kTz {l:Ac Int} (hl:Ck.raw w [vl] l) :
    Be prog 261 #[vl] w λe w'=>e=.returned (.int .i64 (digest l))/\w'=w:=by
 obtain ⟨al,pl,rfl,ll⟩:=kD.sl hl;go_enter func261,ntmps261;go_wp2;go_loop [4,3] (λi d=>∃ k:Nat,k<=l.length/\i=.int .i64 k/\d=.int .i64 (digest (l.take k))) (λi _=>l.length - (Bi i).toNat);case atStart=>exact ⟨0,Nat.zero_le _,rfl,rfl⟩
 obtain ⟨k,hk,rfl,rfl⟩:=hrel;by_cases hlt:k < l.length
 · obtain ⟨ba,ah,rfl,c0,hr,A0⟩:=kD.kAu hl hlt rfl;obtain ⟨he,hx⟩:=kD.yX hr;obtain rfl:c0=_:=by simpa using he
   clear he hr;have hd:=kTb (l.take k);have I:=yD (kYo hlt);generalize digest (l.take k)=d at *;generalize l[k]=x at *;have hm:=kUn x;go_wp2_with fail;refine (specMod_c hx).mono ?_;refine fO λw1 hw=>?_;exact FE
 have L:=yD (jDw hlt);go_wp2;go_ret;exact ⟨jS L.out,rfl⟩
def kUu {s:Int}:Be prog 264 #[.int .i64 s] w λe w'=>e=.returned (.bool (okSec s))/\w'=w:=by
 go_enter func264,ntmps264;go_wp2_with fail;refine yP.mono ?_;refine OW λhw=>?_;go_wp2;go_ret;exact ⟨rfl,rfl⟩
def implMod_c (hx:Qi x):Be prog 294 #[.int .i64 x,.int .i64 2147483647] w λe w'=>e=.returned (.int .i64 (modP x))/\w'=w:=by
 have h1:=jBc x;have h2:=kUn x;have HE:=yD (show modP x=(x.tmod 2147483647 + 2147483647).tmod 2147483647 from rfl);go_enter func294,ntmps294;go_wp2_with fail;refine yP.mono ?_;refine fO λw1 hw=>?_;exact JU
def kUz {l:Ac Int} (hl:Ck.raw w [vl] l) :
    Be prog 272 #[vl] w λe w'=>e=.returned (.int .i64 (digest l))/\w'=w:=by
 obtain ⟨al,pl,rfl,ll⟩:=kD.sl hl;go_enter func272,ntmps272;go_wp2;go_loop [8,3] (λi d=>∃ k:Nat,k<=l.length/\i=.int .i64 k/\d=.int .i64 (digest (l.take k))) (λi _=>l.length - (Bi i).toNat);case atStart=>exact ⟨0,Nat.zero_le _,rfl,rfl⟩
 obtain ⟨k,hk,rfl,rfl⟩:=hrel;by_cases hlt:k < l.length
 · obtain ⟨ba,ah,rfl,c0,hr,A0⟩:=kD.kAu hl hlt rfl;obtain ⟨he,hx⟩:=kD.yX hr;obtain rfl:c0=_:=by simpa using he
   clear he hr;have hd:=kTb (l.take k);have I:=yD (kYo hlt);generalize digest (l.take k)=d at *;generalize l[k]=x at *;have hm:=kUn x;go_wp2_with fail;refine (implMod_c hx).mono ?_;refine fO λw1 hw=>?_;exact FE
 have L:=yD (jDw hlt);go_wp2;go_ret;exact ⟨jS L.out,rfl⟩
def kD.zt {v:Au} {xs ys:Ac α} {P:Program} {t ty:Bh} {z:Au} {bytes:Nat} (ht:P.underlying t=some (.slice e)) (hinf:(P.info? e).map (λi=>(i.zero,i.size,i.bytes))=some (some z,r.n,bytes)) (hzs:z.cells.size=r.n) (hn:0 < r.n) (hby:bytes<=1000) (hf:r.kEy)
    {B:Nat} (hown:ko e r w v xs S) {av:Option Addr} {len cap:Nat} (hy:(slice e r).rd w [.slice av len cap] ys) (hSB:∀ k,S k->B<=k/\k < w.heap.size) (hB:B<=w.heap.size) (hlen:xs.length + ys.length<=1000000000) :
    ∃ v' w',(Builtin.append_ #[t,t] ty #[v,.slice av len cap]).run P w=.ok v' w'/\ko e r w' v' (xs++ys) (jW B w')/\Below B w w'/\w.heap.size<=w'.heap.size/\∀ k,k < w.heap.size->¬ S k->w'.heap[k]?=w.heap[k]?:=by
 refine vF λi hi hz hsize E cells hsrc hrow D v' w' hr h2 h3=>?_;refine ⟨v',w',hr,(h3 D (λ_ _ h=>h) hy.2.2).wide ?_,h2.below hB ?_,h2.size,λk hk hs=>h2.block k hk (λq=>hs q.2)⟩;exact JV;intro k hk;exact (hSB k hk.2).1
def I64q (x:Int):Prop:=Qi x
def row_intq {w:Ab} {o:Bool}:∀ (l:Ac Int) (S:Nat->Prop),(∀ x∈l,I64q x)->kD.row kD.int o w (l.map (Value.int .i64)) l S
  | [],_,_=>rfl
  | x :: l,S,h=>⟨[Qn x],l.map (Value.int .i64),λ_=>False,λ_=>False,rfl,⟨rfl,h x bJ6⟩,row_intq l _ wX,λ_ h=>h.elim,λ_ h=>h.elim,λ_ _ h=>h.elim⟩
def kLo (hx:I64q x):kD.ko e kD.int (w.alloc (.cells #[.int .i64 x] e)) (.slice (Qa w) 1 1) [x] (λk=>k=w.heap.size) :=
  kD.yf (cs:=[.int .i64 x]) (xs:=[x]) (T:=λ_=>False) (λ_ _=>trivial) vX (row_intq [x] _ (by intro q hq;simp only [Bg,List.not_mem_nil,or_false] at hq;subst hq;assumption)) (λ_ h=>h.elim) rfl
def row_three {v0 v1 v2:Au} {x0 x1 x2:α} (h0:r.raw w [v0] x0) (h1:r.raw w [v1] x1) (h2:r.raw w [v2] x2):kD.row r false w [v0,v1,v2] [x0,x1,x2] (λ_=>True) :=
  ⟨[v0],[v1,v2],_,_,rfl,h0,⟨[v1],[v2],_,_,rfl,h1,⟨[v2],[],_,_,rfl,h2,rfl,λ_ h=>h,λ_ h=>h,λh=>by cases h⟩,λ_ h=>h,λ_ h=>h,λh=>by cases h⟩,λ_ h=>h,λ_ h=>h,λh=>by cases h⟩
def kGl {v0 v1 v2:Au} {x0 x1 x2:α} {b:Nat} (hn:r.n=1) (hb:Qr w b #[v0,v1,v2] e) (h0:r.raw w [v0] x0) (h1:r.raw w [v1] x1) (h2:r.raw w [v2] x2) :
    (kD.slice e r).raw w [.slice (Qa b) 3 3] [x0,x1,x2] :=
  ⟨_,_,_,rfl,rfl,by decide,by unfold maxLen;decide,.inr ⟨b,0,rfl,#[v0,v1,v2],e,(0,0),[],[v0,v1,v2],[],hb,rfl,rfl,by rw [hn];show 0 + 3 * 1<=3;omega,(λh=>Bool.noConfusion h),trivial,kD.yx (row_three h0 h1 h2) (λ_ _=>⟨trivial,λh=>by cases h⟩)⟩⟩
end Go.Proofs.YthocbplmdjkifabGreat
namespace Go.Proofs.YthocbplmdjkifabGreat
open _root_.Go.Proofs.Tryz
variable {n:Nat}
def vlo (n:Nat):UInt8:=UInt8.ofNat (n % 128 + 128)
def kTo (n:Nat):Ac UInt8:=if h:n < 128 then [UInt8.ofNat n] else vlo n :: kTo (n / 128)
termination_by n
decreasing_by omega
def kZv (h:n < 128):kTo n=[UInt8.ofNat n]:=by rw [kTo,dif_pos h]
def jHl (h:¬ n < 128):kTo n=vlo n :: kTo (n / 128):=by rw [kTo,dif_neg h]
def vint_len:∀ (k:Nat) {n:Nat},n < 128 ^ (k + 1)->(kTo n).length<=k + 1
  | 0,n,h=>by rw [kZv bH8];simp
  | k + 1,n,h=>by
    by_cases c:n < 128;rw [kZv c];simp
    · rw [jHl c,Az];have:=vint_len k (n:=n / 128) (Nat.div_lt_of_lt_mul qZ);omega
def jAm (h:n<=1000000000000):(kTo n).length<=6:=vint_len 5 bJ5
end Go.Proofs.YthocbplmdjkifabGreat
