/-
  A pending interest that is met.
-/
import Derived.Test.YtpgnbablhdknnaaCopyP
import Derived.Test.YtpgnbablhdknnaaPend
set_option linter.unusedVariables false
set_option linter.unusedSimpArgs false
set_option linter.unnecessarySimpa false
set_option maxRecDepth 100000
set_option maxHeartbeats 4000000
namespace Go.Proofs.Ytpgnbablhdknnaa
open Go.RowKit
namespace Rep
section
variable {α:Type} {r:Rep α} {e:TypeId} {w w':World} {v:Value} {b cap n:Nat} {kept rest xs:List α} {j:Nat} {x:α} {S T:Nat→Prop}
theorem gap.skip2 (h:gap e r w b cap n kept j (x :: rest) S):∃ cs C,r.own w cs x C∧(∀ k,C k→S k∧k≠b)∧(∀ q c,cs[q]?=some c→w.cell? ⟨b,(kept.length + j) * r.n + q,none⟩=some c)∧gap e r w b cap n kept (j + 1) rest (fun k=>S k∧¬ C k):=by
 have h0:=h
 obtain ⟨a1,a2,a3,a4,a5,a6,c,jk,d,tl,A,B,h1,h2,h3,h4,⟨c1,d1,A1,B1,rfl,q1,q2,hA1,hB1,hd1⟩,h6,h7,h8⟩:=h
 have hcl:=jK h4
 have hc1:=r.len q1
 refine ⟨c1,A1,⟨q1,a2 x gW⟩,fun k hk=>h7 k (hA1 k hk),?_,?_⟩
 · intro q u hq
   have hql:=(List.getElem?_eq_some_iff.1 hq).1
   rw [cell_of_row w b _ _ e (0,0) h1]
   simp only [List.getElem?_toArray]
   rw [List.getElem?_append_right (by rw [hcl,Nat.add_mul];omega),List.getElem?_append_right dQ,List.append_assoc,List.getElem?_append_left dQ]
   rw [← hq];congr 1;rw [hcl,h3,Nat.add_mul];omega
 exact ⟨a1,fun y hy=>a2 y (by simp [hy]),by simp at a3;omega,a4,a5,⟨a6,fun hk=>(h7 b (hA1 b hk)).2 rfl⟩,c,jk++c1,d1,tl,A,B1,by rw [h1];simp,by rw [← h2];simp,by simp [h3,r.len q1,Nat.add_mul],h4,q2,
   fun k hk=>⟨⟨(h6 k hk).1,fun hc=>h8 k hk (hA1 k hc)⟩,(h6 k hk).2⟩,fun k hk=>⟨⟨(h7 k (hB1 k hk)).1,fun hc=>hd1 rfl k hc hk⟩,(h7 k (hB1 k hk)).2⟩,fun k h h'=>h8 k h (hB1 k h')⟩
theorem kFg {β:Type} {e2:TypeId} {q:Rep β} {u:Value} {y:List β} (h:(pair (slice e r) (slice e2 q)).own w [v,u] (xs,y) S):∃ A B,(slice e r).own w [v] xs A∧(slice e2 q).own w [u] y B∧(∀ k,A k→S k)∧(∀ k,B k→S k)∧(∀ k,A k→B k→False):=by
 obtain ⟨c,d,A,B,he,h1,h2,hA,hB,hd⟩:=kEk h
 have l1:=(slice e r).len h1.1
 have l2:=(slice e2 q).len h2.1
 match c,d,l1,l2 with
 | [c0],[d0],_,_ =>
   simp only [List.cons_append,List.nil_append,List.cons.injEq,and_true] at he
   obtain ⟨rfl,rfl⟩:=he
   exact ⟨A,B,h1,h2,hA,hB,hd⟩
end
end Rep
def satP (n:kw) (l:List kD):List kD:=if idxOf (kR n) l < 0 then l else l.take (idxOf (kR n) l).toNat++l.drop ((idxOf (kR n) l).toNat + 1)
def satR (n:kw) (l:List kD):List kH:=if idxOf (kR n) l < 0 then [] else (l.getD (idxOf (kR n) l).toNat ([],[],0)).2.1
theorem sat_no {n:kw} {l:List kD} (h:idxOf (kR n) l < 0):satP n l=l∧satR n l=[]:=by unfold satP satR;rw [if_pos h,if_pos h];exact ⟨rfl,rfl⟩
theorem kGi {n:kw} {l:List kD} {k:Nat} (h:idxOf (kR n) l=k) (hk:k < l.length):satP n l=l.take k++l.drop (k + 1)∧satR n l=l[k].2.1:=by
 unfold satP satR
 simp only [h,Int.toNat_natCast,jQ hk]
 rw [if_neg gV,if_neg gV]
 exact ⟨rfl,rfl⟩
theorem kAs {w:World} {b cap n i:Nat} {l:List kD} {S:Nat→Prop} (hgap:Rep.gap 67 kE w b cap l.length (l.take i) 1 (l.drop (i + 1)) S) (hn:n=l.length) (hlen:l.length≤16777216) (hil:i < l.length) :
    Calls Try.prog 51 #[.slice (some ⟨b,0,none⟩) n cap,.int .i64 i,.int .i64 ((i:Int) + 1)] w fun e w'=>∃ v',e=.returned v'∧Rep.kT 67 kE w' v' (l.take i++l.drop (i + 1)) S∧Touch S w w':=by
 subst hn
 have G:=yD hgap
 have HSb:=yD hgap.mem
 have hcap:=hgap.len
 simp only [List.length_take,List.length_drop] at hcap
 have hcap2:l.length≤cap:=hcap.2.1
 have hcap3:cap≤9223372036854775807:=bN
 clear hgap hcap
 obtain ⟨n1,HN⟩:∃ n1,Hid (l.length=n1 + 1):=⟨l.length - 1,yD gV⟩
 rw [HN.out] at hil hlen hcap2
 rw [HN.out]
 have HK:Hid ((l.take i).length=i):=yD (by have:=HN.out;simp;omega)
 have HR:Hid ((l.drop (i + 1)).length=n1 - i):=yD (by have:=HN.out;simp;omega)
 have hne:((i:Int)==(i:Int) + 1)=false:=fZ
 have hic:i≤cap:=gV
 have hicI:(i:Int)≤cap:=gV
 have hjc:i + 1≤cap:=gV
 have hjl:i + 1≤n1 + 1:=gV
 have hcn:¬ cap=n1:=gV
 have hi3:(i:Int)≤(i:Int) + 1:=gV
 have hi4:(0:Int)≤(i:Int) + 1:=gV
 have hin:i≤n1:=gV
 go_enter Try.func51,Try.ntmps51
 go_upto_region 5 with fail
 by_cases hce:cap=i + 1
 · have HR0:Hid ((l.drop (i + 1)).length=0):=yD (by rw [HR.out];omega)
   obtain rfl:i=n1:=gV
   subst hce
   refine jE (fun W=>Below w.heap.size w W) [true,true,true,true,true,true] gP gP bX (bR.drew) ?_
   intro wS HS
   iterate 6
    all_goals refine wkR ?_
   all_goals refine jb ?_
   have G2:=yD (G.out.below HS)
   obtain ⟨w6,hr6,hg6,ht6⟩:=Rep.kHa (P:=Try.prog) (t:=24) (ty:=24) Try.underlying24 kV G2.out gU (q:=0) (c:=0) (k:=i) (m:=0) (fun hne=>absurd (List.eq_nil_of_length_eq_zero HR0.out) hne) HK.out.symm HR0.out.symm
   rw [Nat.add_zero] at hr6
   have HL6:Hid ((l.take i++l.drop (i + 1)).length=i):=yD (by rw [List.length_append,HK.out,HR0.out];omega)
   obtain ⟨w7,hr7,ho7,ht7⟩:=hg6.kAz (P:=Try.prog) (t:=24) (ty:=0) (c:=1) (p:=i * 3) gU Try.underlying24 kV rfl gU (kGo _ gU) (by rw [HL6.out];rfl)
   rw [HL6.out] at ho7
   have HO7:=yD ho7
   have HT7:=yD ((Touch.of_below (S:=S) HS).trans ((ht6.trans ht7).wide (fun k hk=>hk ▸ HSb.out)))
   clear hg6 ht6 ht7 ho7
   have h1:(i:Int)≤(i:Int) + 1:=gV
   have h2:(i:Int)≤(i:Int) + 1:=gV
   refine Rep.wpList_append_run rfl _ _ _ rfl gX gX hr6 ?_
   go_wp2
   go_ret
   exact ⟨_,rfl,HO7.out,HT7.out⟩
 refine jE (fun W=>Below w.heap.size w W) [true,true,true,true,true,true] gP gP bX (bR.drew) ?_
 intro wS HS
 iterate 6
  all_goals first|(refine kG rfl HS ?_)|(refine kJ (v:=?_) rfl (fun W hW=>?_) ?_;rotate_left;(· go_simp;try with_reducible rfl))
  all_goals try simp only [Act.put,zA,zB,zC]
 all_goals refine jb ?_
 have G2:=yD (G.out.below HS)
 obtain ⟨w6,hr6,hg6,ht6⟩:=Rep.kHa (P:=Try.prog) (t:=24) (ty:=24) Try.underlying24 kV G2.out gU (q:=(i + 1) * 3) (c:=cap - (i + 1)) (k:=i) (m:=n1 - i) (fun _=>by rw [HK.out];rfl) HK.out.symm HR.out.symm
 rw [show i + (n1 - i)=n1 by omega] at hr6
 have HL6:Hid ((l.take i++l.drop (i + 1)).length=n1):=yD (by rw [List.length_append,HK.out,HR.out];omega)
 obtain ⟨w7,hr7,ho7,ht7⟩:=hg6.kAz (P:=Try.prog) (t:=24) (ty:=0) (c:=cap - n1) (p:=n1 * 3) gU Try.underlying24 kV rfl gU (kGo _ gU) (by rw [HL6.out];rfl)
 rw [HL6.out] at ho7
 have HO7:=yD ho7
 have HT7:=yD ((Touch.of_below (S:=S) HS).trans ((ht6.trans ht7).wide (fun k hk=>hk ▸ HSb.out)))
 clear hg6 ht6 ht7 ho7
 have h1:(n1:Int)≤cap:=gV
 have h2:(n1:Int)≤(n1:Int) + 1:=gV
 refine Rep.wpList_append_run rfl _ _ _ rfl gX gX hr6 ?_
 go_wp2
 go_ret
 exact ⟨_,rfl,HO7.out,HT7.out⟩
theorem kDm {w:World} {vl:Value} {l:List kD} (hl:(Rep.slice 67 kE).rd w [vl] l) {cn:List Value} {n:kw} (hn:kZ.rd w cn n) :
    Calls Try.prog 9 #[vl,.agg cn.toArray] w (fun e w'=>∃ v u,e=.returned (.tuple #[v,u])∧(Rep.pair (Rep.slice 67 kE) (Rep.slice 56 kF)).own w' [v,u] (satP n l,satR n l) (Btw w.heap.size w'.heap.size)∧Below w.heap.size w w'):=by
 have HL:=yD hl
 have HN:=yD hn
 have hlb:l.length≤16777216:=hl.2.1
 obtain ⟨nv,rfl,n_0⟩:=kY hn.1
 obtain ⟨na,np,rfl,_⟩:=Rep.sl n_0
 obtain ⟨va,vp,rfl,hvll⟩:=Rep.sl hl.1
 clear n_0 hl hn
 go_enter Try.func9,Try.ntmps9
 go_wp2_with fail
 generalize hwB:World.alloc w _=wB
 have EB:Below w.heap.size w wB:=dN
 have K0:wB.cell? ⟨w.heap.size,0,none⟩=some (.slice na n.length np):=dX
 have hzB:wB.heap.size=w.heap.size + 1:=fV
 clear hwB
 refine (kAj (HL.out.below EB)).mono ?_
 rintro e w1 ⟨v1,rfl,O1,hb1⟩
 replace K0:=cL hb1 K0
 have E1:=(tQ EB hb1)
 have hz1:=hb1.size
 have HO:=yD (O1.wide (T:=Btw w.heap.size w1.heap.size) dD)
 obtain ⟨oa,on,oc,ho,HON⟩:=O1.parts;obtain rfl:=ho
 clear O1 hb1 EB
 go_wp2_with fail
 refine (ji (HL.out.1.below E1) (HN.out.1.below E1)).mono ?_
 rintro e w4 ⟨rfl,hb4⟩
 replace K0:=cL hb4 K0
 have E4:=(tQ E1 hb4)
 have hz4:=hb4.size
 replace HO:=yD ((HO.out.below hb4).wide (T:=Btw w.heap.size w4.heap.size) dC)
 clear hb4 E1
 by_cases hk:idxOf (kR n) l < 0
 · have HT:=yD (sat_no hk)
   have hk2:¬ (0≤idxOf (kR n) l):=gV
   generalize hq:idxOf (kR n) l=q at *
   clear hq
   go_wp2
   first | go_ret2|(refine bodyPost_ret (by simp [results,Try.results9,go_sem];rfl) rfl ?_)
   refine ⟨_,_,rfl,?_,E4⟩
   rw [HT.out.1,HT.out.2]
   exact Rep.jV (r:=(Rep.slice 67 kE)) (q:=(Rep.slice 56 kF)) (cs:=[_]) (ds:=[_]) (A:=Btw w.heap.size w4.heap.size) (B:=fun _=>False) (HO.out.own hlb) Rep.jd (fun j hj=>⟨hj.1,hj.2⟩) (fun _ h=>h.elim) (fun _ _ h=>h)
 obtain ⟨k,hkl,hki⟩:=jy hk
 have HKI:=yD hki
 rw [hki]
 clear hk hki
 have HT:=yD (kGi HKI.out hkl)
 obtain ⟨b,cap,hv,hgap⟩:=Rep.kCy HO.out hkl
 simp only [Value.slice.injEq] at hv
 obtain ⟨rfl,hon,rfl⟩:=hv
 have HON2:=yD hon
 rw [List.drop_eq_getElem_cons hkl] at hgap
 have hcap:=hgap.len
 simp only [List.length_take,List.length_cons,List.length_drop] at hcap
 have hkon:k < on:=gV
 have hcap2:on≤oc:=by have:=hcap.2.1;omega
 have hcap3:oc≤9223372036854775807:=bN
 have hkI:(0:Int)≤k:=gV
 have hkI2:(k:Int) < on:=gV
 have hob:on≤16777216:=gV
 clear hcap hon
 obtain ⟨cs,C,hown,hC,hcell,hgap2⟩:=hgap.skip2
 have G:=yD hgap2
 obtain ⟨rv0,rv1,rhe,r_0,r_1,r_2,r_3⟩:=kM hown.raw
 subst rhe
 have hlk:(l.take k).length=k:=gQ
 have A1:w4.cell? ⟨b,k * 3 + 1,none⟩=some rv1:=by have h:=hcell 1 rv1 rfl;rw [hlk,Nat.add_zero] at h;exact h
 obtain ⟨A,hA,hAC,_⟩:=kBu hown
 replace hA:(Rep.slice 56 kF).own w4 [rv1] l[k].2.1 A:=hA
 obtain ⟨ra,rp,rfl,_⟩:=Rep.sl hA.raw
 have HW:=yD hA
 have HAC:=yD hAC
 have HCS:=yD hC
 clear hown hC hcell hgap2 hgap r_0 r_1 r_2 r_3 hA hAC hlk
 generalize hrl:l[k].2.1=R at *
 clear hrl
 have hw:IntKind.i64.wrap ((k:Int) + 1)=(k:Int) + 1:=IntWalk.i64_in _ gV
 go_wp2_with fail
 refine (kAs G.out HON2.out hlb hkl).mono ?_
 rintro e w5 ⟨v5,rfl,O5,T5⟩
 obtain ⟨va,vn,vc,hv5,HV5⟩:=O5.parts;obtain rfl:=hv5
 have HO5:=yD O5
 have HW5:=yD (HW.out.touch T5 (fun j p q=>q.2 (HAC.out j p)))
 have hz5:=T5.size
 have E5:=E4.trans (T5.below E4.size (fun j q=>q.1.1))
 clear O5 T5
 go_wp2
 go_ret2
 refine ⟨_,_,rfl,?_,E5⟩
 rw [HT.out.1,HT.out.2]
 exact Rep.jV (r:=(Rep.slice 67 kE)) (q:=(Rep.slice 56 kF)) (cs:=[_]) (ds:=[_]) (HO5.out.own (by simp;unfold Big;omega)) HW5.out (fun j hj=>⟨hj.1.1,by have:=hj.1.2;omega⟩) (fun j hj=>by have q:=(HCS.out j (HAC.out j hj)).1;exact ⟨q.1,by have:=q.2;omega⟩) (fun j h1 h2=>h1.2 (HAC.out j h2))
theorem kIa {w:World} {vl:Value} {l:List kD} (hl:(Rep.slice 67 kE).rd w [vl] l) {cn:List Value} {n:kw} (hn:kZ.rd w cn n) :
    Calls Try.prog 10 #[vl,.agg cn.toArray] w (fun e w'=>∃ v u,e=.returned (.tuple #[v,u])∧(Rep.pair (Rep.slice 67 kE) (Rep.slice 56 kF)).own w' [v,u] (satP n l,satR n l) (Btw w.heap.size w'.heap.size)∧Below w.heap.size w w'):=by
 have HL:=yD hl
 have HN:=yD hn
 have hlb:l.length≤16777216:=hl.2.1
 obtain ⟨nv,rfl,n_0⟩:=kY hn.1
 obtain ⟨na,np,rfl,_⟩:=Rep.sl n_0
 obtain ⟨va,vp,rfl,hvll⟩:=Rep.sl hl.1
 clear n_0 hl hn
 go_enter Try.func10,Try.ntmps10
 go_wp2_with fail
 generalize hwB:World.alloc w _=wB
 have EB:Below w.heap.size w wB:=dN
 have K0:wB.cell? ⟨w.heap.size,0,none⟩=some (.slice na n.length np):=dX
 have hzB:wB.heap.size=w.heap.size + 1:=fV
 clear hwB
 refine (zI (HL.out.below EB)).mono ?_
 rintro e w1 ⟨v1,rfl,O1,hb1⟩
 replace K0:=cL hb1 K0
 have E1:=(tQ EB hb1)
 have hz1:=hb1.size
 have HO:=yD (O1.wide (T:=Btw w.heap.size w1.heap.size) dD)
 obtain ⟨oa,on,oc,ho,HON⟩:=O1.parts;obtain rfl:=ho
 clear O1 hb1 EB
 go_wp2_with fail
 refine (yA (HL.out.1.below E1) (HN.out.1.below E1)).mono ?_
 rintro e w4 ⟨rfl,hb4⟩
 replace K0:=cL hb4 K0
 have E4:=(tQ E1 hb4)
 have hz4:=hb4.size
 replace HO:=yD ((HO.out.below hb4).wide (T:=Btw w.heap.size w4.heap.size) dC)
 clear hb4 E1
 by_cases hk:idxOf (kR n) l < 0
 · have HT:=yD (sat_no hk)
   have hk2:¬ (0≤idxOf (kR n) l):=gV
   generalize hq:idxOf (kR n) l=q at *
   clear hq
   go_wp2
   first | go_ret2|(refine bodyPost_ret (by simp [results,Try.results10,go_sem];rfl) rfl ?_)
   refine ⟨_,_,rfl,?_,E4.trans (Below.mono bB E4.size)⟩
   rw [HT.out.1,HT.out.2]
   exact Rep.jV (r:=(Rep.slice 67 kE)) (q:=(Rep.slice 56 kF)) (cs:=[_]) (ds:=[_]) (A:=Btw w.heap.size w4.heap.size) (B:=fun _=>False) ((HO.out.below bB).own hlb) Rep.jd (fun j hj=>⟨hj.1,by have:=hj.2;simp;omega⟩) (fun _ h=>h.elim) (fun _ _ h=>h)
 obtain ⟨k,hkl,hki⟩:=jy hk
 have HKI:=yD hki
 rw [hki]
 clear hk hki
 have HT:=yD (kGi HKI.out hkl)
 obtain ⟨b,cap,hv,hgap⟩:=Rep.kCy HO.out hkl
 simp only [Value.slice.injEq] at hv
 obtain ⟨rfl,hon,rfl⟩:=hv
 have HON2:=yD hon
 rw [List.drop_eq_getElem_cons hkl] at hgap
 have hcap:=hgap.len
 simp only [List.length_take,List.length_cons,List.length_drop] at hcap
 have hkon:k < on:=gV
 have hcap2:on≤oc:=by have:=hcap.2.1;omega
 have hcap3:oc≤9223372036854775807:=bN
 have hkI:(0:Int)≤k:=gV
 have hkI2:(k:Int) < on:=gV
 have hob:on≤16777216:=gV
 clear hcap hon
 have G:Hid (Rep.gap 67 kE w4 b oc l.length (l.take k) 1 (l.drop (k + 1)) (Btw w.heap.size w4.heap.size)):=yD hgap.skip
 clear hgap
 obtain ⟨qb,qo,rfl,qc0,qc1,qc2,qr,A0,A1,A2⟩:=Rep.yP (HL.out.1.below E4) hkl rfl
 have hbd:=Rep.zg HL.out hkl
 obtain ⟨qv0,qv1,qhe,q_0,q_1,q_2,q_3⟩:=kM qr
 simp only [List.cons.injEq,and_true] at qhe
 obtain ⟨rfl,rfl,rfl⟩:=qhe
 have hRQ:(Rep.slice 56 kF).rd w4 [qc1] l[k].2.1:=⟨q_2,hbd.2.1⟩
 obtain ⟨ra,rp,rfl,_⟩:=Rep.sl q_2
 have HRQ:=yD hRQ
 clear qr q_0 q_1 q_2 q_3 hbd hRQ A0 A2
 generalize hrl:l[k].2.1=R at *
 clear hrl
 have hRB:=HRQ.out.2.1
 have hkll:(k:Int) < l.length:=gV
 replace A1:=cL (Rep.jB w4 (.cells #[] 56)) A1
 go_wp2_with (at_builtin;refine Rep.jv rfl _ _ 36 rfl (r:=kF) (e:=56) Try.underlying36 jC rfl gU gU yB (B:=w4.heap.size) (Rep.kT.void (S:=fun _=>False)) gX gX (HRQ.out.alloc _) (fun _ h=>h.elim) gW (by simp;unfold Big at hRB;omega) ?_)
 intro av w5 hown hbel hz
 have HA5:=yD (Rep.kT.cast hown (List.nil_append _))
 obtain ⟨aa,an,ac,hav,HAN⟩:=hown.parts;obtain rfl:=hav
 have hb5:Below w4.heap.size w4 w5:=(bR.alloc nL _).trans hbel
 have hz5:=hb5.size
 have E5:=(tQ E4 hb5)
 replace G:=yD (G.out.below hb5)
 clear hown hbel hz
 have HK:Hid ((l.take k).length=k):=yD gQ
 have hk1:k + 1≤oc:=gV
 have hk2:k + 1≤on:=gV
 have hk3:(k:Int) + 1≤on:=gV
 have hk4:(0:Int)≤(k:Int) + 1:=gV
 have hkN:k≤oc:=gV
 have hw:IntKind.i64.wrap ((k:Int) + 1)=(k:Int) + 1:=IntWalk.i64_in _ gV
 by_cases hce:oc=k + 1
 · have HR:Hid ((l.drop (k + 1)).length=0):=yD (by have:=HON2.out;simp;omega)
   obtain rfl:on=k + 1:=gV
   subst hce
   have hk5:(k:Int)≤(k:Int) + 1:=gV
   go_upto_region 6 with fail
   refine jX (fun W=>Below w5.heap.size w5 W) [(1,true),(2,true),(3,true),(5,true),(6,true),(7,true),(8,true),(10,true),(0,false),(4,false),(9,false),(11,true),(12,true)] gP gP bX (bR.drew) ?_
   intro wS HS
   simp only [kg,List.getElem?_cons_succ,List.getElem?_cons_zero,List.map_cons,List.map_nil]
   iterate 8
    all_goals refine wkR ?_
   all_goals first|(refine kG rfl HS ?_)|(refine kQ rfl (fun K hK=>?_);go_simp;generalize hwU:World.alloc wS _=wU;replace HS:Below w5.heap.size w5 wU:=(by rw [← hwU];exact HS.alloc HS.size _);clear hwU;refine hK _ _ HS ?_;clear hK K)
   all_goals refine wkP ?_
   all_goals first|(refine kG rfl HS ?_)|(refine kQ rfl (fun K hK=>?_);obtain ⟨v3,u3,hr3,hb3,v4,u4,hr4,ho4,hb4⟩:=Rep.kFx (P:=Try.prog) (t:=24) Try.underlying24 kV rfl gU gU G.out HS (a0:=some ⟨wS.heap.size,0,none⟩) gV (k + 1) 0 24 24 (q:=0) (kl:=k) (rl:=0) (fun hne=>absurd (List.eq_nil_of_length_eq_zero HR.out) hne) HK.out.symm HR.out.symm;have HS3:=(tQ HS hb3);refine Rep.jW _ _ _ rfl gX gX hr3 ?_;refine hK _ _ HS3 ?_;clear hK K)
   all_goals refine wkP ?_
   all_goals first|(refine kG rfl HS ?_)|(refine kQ rfl (fun K hK=>?_);have HS4:=(tQ HS hb4);refine Rep.jW _ _ _ rfl gX gX hr4 ?_;refine hK _ _ HS4 ?_;clear hK K)
   all_goals refine wkP ?_
   all_goals refine wkR ?_
   all_goals refine wkR ?_
   all_goals refine kN ?_
   have hz4:=hb4.size
   have hzS:=HS.size
   have HA6:=yD (HA5.out.below HS4)
   have hz6:=HS4.size
   obtain ⟨va,vn,vc,hv4,HV4⟩:=ho4.parts;obtain rfl:=hv4
   have HO4:=yD ho4
   clear ho4
   go_wp2
   go_ret2
   refine ⟨_,_,rfl,?_,(tQ E5 HS4)⟩
   rw [HT.out.1,HT.out.2]
   exact Rep.jV (r:=(Rep.slice 67 kE)) (q:=(Rep.slice 56 kF)) (cs:=[_]) (ds:=[_]) (HO4.out.own (by simp;unfold Big;omega)) (HA6.out.own hRB) (fun j hj=>by rcases hj with hj | hj;exact ⟨hj.1,by have:=hj.2;omega⟩;exact ⟨by have:=hj.1;omega,hj.2⟩) bK (fun j h1 h2=>by have q1:=h2.1;have q2:=h2.2;rcases h1 with h1 | h1;(have:=h1.2;omega);(have:=h1.1;omega))
 have HR:Hid ((l.drop (k + 1)).length=on - (k + 1)):=yD (by have:=HON2.out;simp;omega)
 go_upto_region 6 with fail
 refine jX (fun W=>Below w5.heap.size w5 W) [(1,true),(2,true),(3,true),(5,true),(6,true),(7,true),(8,true),(10,true),(0,false),(4,false),(9,false),(11,true),(12,true)] gP gP bX (bR.drew) ?_
 intro wS HS
 simp only [kg,List.getElem?_cons_succ,List.getElem?_cons_zero,List.map_cons,List.map_nil]
 iterate 8
  all_goals refine wkR ?_
 all_goals first|(refine kG rfl HS ?_)|(refine kQ rfl (fun K hK=>?_);go_simp;generalize hwU:World.alloc wS _=wU;replace HS:Below w5.heap.size w5 wU:=(by rw [← hwU];exact HS.alloc HS.size _);clear hwU;refine hK _ _ HS ?_;clear hK K)
 all_goals refine wkP ?_
 all_goals first|(refine kG rfl HS ?_)|(refine kQ rfl (fun K hK=>?_);obtain ⟨v3,u3,hr3,hb3,v4,u4,hr4,ho4,hb4⟩:=Rep.kFx (P:=Try.prog) (t:=24) Try.underlying24 kV rfl gU gU G.out HS (a0:=some ⟨wS.heap.size,0,none⟩) gV oc (oc - (k + 1)) 24 24 (q:=((k + 1) * 3)) (kl:=k) (rl:=(on - (k + 1))) (fun _=>by rw [HK.out];rfl) HK.out.symm HR.out.symm;have HS3:=(tQ HS hb3);refine Rep.jW _ _ _ rfl gX gX hr3 ?_;refine hK _ _ HS3 ?_;clear hK K)
 all_goals refine wkP ?_
 all_goals first|(refine kG rfl HS ?_)|(refine kQ rfl (fun K hK=>?_);have HS4:=(tQ HS hb4);refine Rep.jW _ _ _ rfl gX gX hr4 ?_;refine hK _ _ HS4 ?_;clear hK K)
 all_goals refine wkP ?_
 all_goals refine wkR ?_
 all_goals refine wkR ?_
 all_goals refine kN ?_
 have hz4:=hb4.size
 have hzS:=HS.size
 have HA6:=yD (HA5.out.below HS4)
 have hz6:=HS4.size
 obtain ⟨va,vn,vc,hv4,HV4⟩:=ho4.parts;obtain rfl:=hv4
 have HO4:=yD ho4
 clear ho4
 go_wp2
 go_ret2
 refine ⟨_,_,rfl,?_,(tQ E5 HS4)⟩
 rw [HT.out.1,HT.out.2]
 exact Rep.jV (r:=(Rep.slice 67 kE)) (q:=(Rep.slice 56 kF)) (cs:=[_]) (ds:=[_]) (HO4.out.own (by simp;unfold Big;omega)) (HA6.out.own hRB) (fun j hj=>by rcases hj with hj | hj;exact ⟨hj.1,by have:=hj.2;omega⟩;exact ⟨by have:=hj.1;omega,hj.2⟩) bK (fun j h1 h2=>by have q1:=h2.1;have q2:=h2.2;rcases h1 with h1 | h1;(have:=h1.2;omega);(have:=h1.1;omega))
end Go.Proofs.Ytpgnbablhdknnaa
