/-
  A pending interest that is met.
  The lesser and the greater of two numbers.
  The longest prefix among routes.
-/
import Derived.Test.YtlfblpgkegeaeaaGreatVData
set_option linter.unusedVariables false
set_option linter.unusedSimpArgs false
set_option linter.unnecessarySimpa false
set_option maxRecDepth 100000
set_option maxHeartbeats 4000000
namespace Go.Proofs.YtlfblpgkegeaeaaGreat
open Go.RowKit
namespace Rep
section
variable {α:Type} {r:Rep α} {e:TypeId} {w w':World} {v:Value} {b cap n:Nat} {kept rest xs:List α} {j:Nat} {x:α} {S T:Nat→Prop}
theorem gap.skip2 (h:gap e r w b cap n kept j (x :: rest) S):∃ cs C,r.own w cs x C∧(∀ k,C k→S k∧k≠b)∧(∀ q c,cs[q]?=some c→w.cell? ⟨b,(kept.length + j) * r.n + q,none⟩=some c)∧gap e r w b cap n kept (j + 1) rest (fun k=>S k∧¬ C k):=by
 have h0:=h
 obtain ⟨a1,a2,a3,a4,a5,a6,c,jk,d,tl,A,B,h1,h2,h3,h4,⟨c1,d1,A1,B1,rfl,q1,q2,hA1,hB1,hd1⟩,h6,h7,h8⟩:=h
 have hcl:=kAc h4
 have hc1:=r.len q1
 refine ⟨c1,A1,⟨q1,a2 x rQ⟩,fun k hk=>h7 k (hA1 k hk),?_,?_⟩
 · intro q u hq
   have hql:=(List.getElem?_eq_some_iff.1 hq).1
   rw [cell_of_row w b _ _ e (0,0) h1]
   simp only [List.getElem?_toArray]
   rw [List.getElem?_append_right (by rw [hcl,Nat.add_mul];omega),List.getElem?_append_right nP,List.append_assoc,List.getElem?_append_left nP]
   rw [← hq];congr 1;rw [hcl,h3,Nat.add_mul];omega
 exact ⟨a1,fun y hy=>a2 y (by simp [hy]),by simp at a3;omega,a4,a5,⟨a6,fun hk=>(h7 b (hA1 b hk)).2 rfl⟩,c,jk++c1,d1,tl,A,B1,by rw [h1];simp,by rw [← h2];simp,by simp [h3,r.len q1,Nat.add_mul],h4,q2,
   fun k hk=>⟨⟨(h6 k hk).1,fun hc=>h8 k hk (hA1 k hc)⟩,(h6 k hk).2⟩,fun k hk=>⟨⟨(h7 k (hB1 k hk)).1,fun hc=>hd1 rfl k hc hk⟩,(h7 k (hB1 k hk)).2⟩,fun k h h'=>h8 k h (hB1 k h')⟩
theorem kUu {β:Type} {e2:TypeId} {q:Rep β} {u:Value} {y:List β} (h:(pair (slice e r) (slice e2 q)).own w [v,u] (xs,y) S):∃ A B,(slice e r).own w [v] xs A∧(slice e2 q).own w [u] y B∧(∀ k,A k→S k)∧(∀ k,B k→S k)∧(∀ k,A k→B k→False):=by
 obtain ⟨c,d,A,B,he,h1,h2,hA,hB,hd⟩:=kRq h
 have l1:=(slice e r).len h1.1
 have l2:=(slice e2 q).len h2.1
 match c,d,l1,l2 with
 | [c0],[d0],_,_ =>
   simp only [List.cons_append,List.nil_append,List.cons.injEq,and_true] at he
   obtain ⟨rfl,rfl⟩:=he
   exact ⟨A,B,h1,h2,hA,hB,hd⟩
end
end Rep
def kHt (n:kW) (l:List kS):List kS:=if idxOf (yw n) l < 0 then l else l.take (idxOf (yw n) l).toNat++l.drop ((idxOf (yw n) l).toNat + 1)
def kDs (n:kW) (l:List kS):List jP:=if idxOf (yw n) l < 0 then [] else (l.getD (idxOf (yw n) l).toNat ([],[],0)).2.1
theorem sat_no {n:kW} {l:List kS} (h:idxOf (yw n) l < 0):kHt n l=l∧kDs n l=[]:=by unfold kHt kDs;rw [if_pos h,if_pos h];exact ⟨rfl,rfl⟩
theorem sat_yes {n:kW} {l:List kS} {k:Nat} (h:idxOf (yw n) l=k) (hk:k < l.length):kHt n l=l.take k++l.drop (k + 1)∧kDs n l=l[k].2.1:=by
 unfold kHt kDs
 simp only [h,Int.toNat_natCast,jr hk]
 rw [if_neg rP,if_neg rP]
 exact ⟨rfl,rfl⟩
theorem kGe {w:World} {b cap n i:Nat} {l:List kS} {S:Nat→Prop} (hgap:Rep.gap 175 kE w b cap l.length (l.take i) 1 (l.drop (i + 1)) S) (hn:n=l.length) (hlen:l.length≤16777216) (hil:i < l.length) :
    Calls Tryz.prog 141 #[.slice (some ⟨b,0,none⟩) n cap,.int .i64 i,.int .i64 ((i:Int) + 1)] w fun e w'=>∃ v',e=.returned v'∧Rep.kg 175 kE w' v' (l.take i++l.drop (i + 1)) S∧Touch S w w':=by
 subst hn
 have G:=yD hgap
 have HSb:=yD hgap.mem
 have hcap:=hgap.len
 simp only [List.length_take,List.length_drop] at hcap
 have hcap2:l.length≤cap:=hcap.2.1
 have hcap3:cap≤9223372036854775807:=gD
 clear hgap hcap
 obtain ⟨n1,HN⟩:∃ n1,Hid (l.length=n1 + 1):=⟨l.length - 1,yD rP⟩
 rw [HN.out] at hil hlen hcap2
 rw [HN.out]
 have HK:Hid ((l.take i).length=i):=yD pI
 have HR:Hid ((l.drop (i + 1)).length=n1 - i):=yD pI
 have hne:((i:Int)==(i:Int) + 1)=false:=qO
 have hic:i≤cap:=rP
 have hicI:(i:Int)≤cap:=rP
 have hjc:i + 1≤cap:=rP
 have hjl:i + 1≤n1 + 1:=rP
 have hcn:¬ cap=n1:=rP
 have hi3:(i:Int)≤(i:Int) + 1:=rP
 have hi4:(0:Int)≤(i:Int) + 1:=rP
 have hin:i≤n1:=rP
 go_enter Tryz.func141,Tryz.ntmps141
 go_upto_region 5 with fail
 by_cases hce:cap=i + 1
 · have HR0:Hid ((l.drop (i + 1)).length=0):=yD (by rw [HR.out];omega)
   obtain rfl:i=n1:=rP
   subst hce
   refine jT (fun W=>Below w.heap.size w W) [true,true,true,true,true,true] rF rF gX (bR.drew) ?_
   intro wS HS
   iterate 6
    all_goals refine wkR ?_
   all_goals refine jv ?_
   have G2:=yD (G.out.below HS)
   obtain ⟨w6,hr6,hg6,ht6⟩:=Rep.kDx (P:=Tryz.prog) (t:=51) (ty:=51) Tryz.underlying51 yT G2.out rM (q:=0) (c:=0) (k:=i) (m:=0) (fun hne=>absurd (List.eq_nil_of_length_eq_zero HR0.out) hne) HK.out.symm HR0.out.symm
   rw [Nat.add_zero] at hr6
   have HL6:Hid ((l.take i++l.drop (i + 1)).length=i):=yD fQ
   obtain ⟨w7,hr7,ho7,ht7⟩:=hg6.kDd (P:=Tryz.prog) (t:=51) (ty:=0) (c:=1) (p:=i * 3) rM Tryz.underlying51 yT rfl rM (kGf _ rM) qH
   rw [HL6.out] at ho7
   have HO7:=yD ho7
   have HT7:=yD ((Touch.of_below (S:=S) HS).trans ((ht6.trans ht7).wide (fun k hk=>hk ▸ HSb.out)))
   clear hg6 ht6 ht7 ho7
   have h1:(i:Int)≤(i:Int) + 1:=rP
   have h2:(i:Int)≤(i:Int) + 1:=rP
   refine Rep.wpList_append_run rfl _ _ _ rfl rR rR hr6 ?_
   go_wp2
   go_ret
   exact ⟨_,rfl,HO7.out,HT7.out⟩
 refine jT (fun W=>Below w.heap.size w W) [true,true,true,true,true,true] rF rF gX (bR.drew) ?_
 intro wS HS
 iterate 6
  all_goals first|(refine kU rfl HS ?_)|(refine kGk (v:=?_) rfl (fun W hW=>?_) ?_;rotate_left;(· go_simp;try with_reducible rfl))
  all_goals try simp only [Act.put,zA,zB,zC]
 all_goals refine jv ?_
 have G2:=yD (G.out.below HS)
 obtain ⟨w6,hr6,hg6,ht6⟩:=Rep.kDx (P:=Tryz.prog) (t:=51) (ty:=51) Tryz.underlying51 yT G2.out rM (q:=(i + 1) * 3) (c:=cap - (i + 1)) (k:=i) (m:=n1 - i) pK HK.out.symm HR.out.symm
 rw [show i + (n1 - i)=n1 by omega] at hr6
 have HL6:Hid ((l.take i++l.drop (i + 1)).length=n1):=yD fT
 obtain ⟨w7,hr7,ho7,ht7⟩:=hg6.kDd (P:=Tryz.prog) (t:=51) (ty:=0) (c:=cap - n1) (p:=n1 * 3) rM Tryz.underlying51 yT rfl rM (kGf _ rM) qH
 rw [HL6.out] at ho7
 have HO7:=yD ho7
 have HT7:=yD ((Touch.of_below (S:=S) HS).trans ((ht6.trans ht7).wide (fun k hk=>hk ▸ HSb.out)))
 clear hg6 ht6 ht7 ho7
 have h1:(n1:Int)≤cap:=rP
 have h2:(n1:Int)≤(n1:Int) + 1:=rP
 refine Rep.wpList_append_run rfl _ _ _ rfl rR rR hr6 ?_
 go_wp2
 go_ret
 exact ⟨_,rfl,HO7.out,HT7.out⟩
theorem kTr {w:World} {vl:Value} {l:List kS} (hl:(Rep.slice 175 kE).rd w [vl] l) {cn:List Value} {n:kW} (hn:kL.rd w cn n) :
    Calls Tryz.prog 71 #[vl,.agg cn.toArray] w (fun e w'=>∃ v u,e=.returned (.tuple #[v,u])∧(Rep.pair (Rep.slice 175 kE) (Rep.slice 123 kQ)).own w' [v,u] (kHt n l,kDs n l) (Btw w.heap.size w'.heap.size)∧Below w.heap.size w w'):=by
 have HL:=yD hl
 have HN:=yD hn
 have hlb:l.length≤16777216:=hl.2.1
 obtain ⟨nv,rfl,n_0⟩:=kM hn.1
 obtain ⟨na,np,rfl,_⟩:=Rep.sl n_0
 obtain ⟨va,vp,rfl,hvll⟩:=Rep.sl hl.1
 clear n_0 hl hn
 go_enter Tryz.func71,Tryz.ntmps71
 go_wp2_with fail
 generalize hwB:World.alloc w _=wB
 have EB:Below w.heap.size w wB:=nI
 have K0:wB.cell? ⟨w.heap.size,0,none⟩=some (.slice na n.length np):=nV
 have hzB:wB.heap.size=w.heap.size + 1:=qK
 clear hwB
 refine (kFq (HL.out.below EB)).mono ?_
 rintro e w1 ⟨v1,rfl,O1,hb1⟩
 replace K0:=cL hb1 K0
 have E1:=(tQ EB hb1)
 have hz1:=hb1.size
 have HO:=yD (O1.wide (T:=Btw w.heap.size w1.heap.size) mI)
 obtain ⟨oa,on,oc,ho,HON⟩:=O1.parts;obtain rfl:=ho
 clear O1 hb1 EB
 go_wp2_with fail
 refine (kHm (HL.out.1.below E1) (HN.out.1.below E1)).mono ?_
 rintro e w4 ⟨rfl,hb4⟩
 replace K0:=cL hb4 K0
 have E4:=(tQ E1 hb4)
 have hz4:=hb4.size
 replace HO:=yD ((HO.out.below hb4).wide (T:=Btw w.heap.size w4.heap.size) mH)
 clear hb4 E1
 by_cases hk:idxOf (yw n) l < 0
 · have HT:=yD (sat_no hk)
   have hk2:¬ (0≤idxOf (yw n) l):=rP
   generalize hq:idxOf (yw n) l=q at *
   clear hq
   go_wp2
   first | go_ret2|(refine bodyPost_ret (by simp [results,Tryz.results71,go_sem];rfl) rfl ?_)
   refine ⟨_,_,rfl,?_,E4⟩
   rw [HT.out.1,HT.out.2]
   exact Rep.jW (r:=(Rep.slice 175 kE)) (q:=(Rep.slice 123 kQ)) (cs:=[_]) (ds:=[_]) (A:=Btw w.heap.size w4.heap.size) (B:=fun _=>False) (HO.out.own hlb) Rep.kCk (fun j hj=>⟨hj.1,hj.2⟩) (fun _ h=>h.elim) (fun _ _ h=>h)
 obtain ⟨k,hkl,hki⟩:=kSg hk
 have HKI:=yD hki
 rw [hki]
 clear hk hki
 have HT:=yD (sat_yes HKI.out hkl)
 obtain ⟨b,cap,hv,hgap⟩:=Rep.kDz HO.out hkl
 simp only [Value.slice.injEq] at hv
 obtain ⟨rfl,hon,rfl⟩:=hv
 have HON2:=yD hon
 rw [List.drop_eq_getElem_cons hkl] at hgap
 have hcap:=hgap.len
 simp only [List.length_take,List.length_cons,List.length_drop] at hcap
 have hkon:k < on:=rP
 have hcap2:on≤oc:=pV
 have hcap3:oc≤9223372036854775807:=gD
 have hkI:(0:Int)≤k:=rP
 have hkI2:(k:Int) < on:=rP
 have hob:on≤16777216:=rP
 clear hcap hon
 obtain ⟨cs,C,hown,hC,hcell,hgap2⟩:=hgap.skip2
 have G:=yD hgap2
 obtain ⟨rv0,rv1,rhe,r_0,r_1,r_2,r_3⟩:=jN hown.raw
 subst rhe
 have hlk:(l.take k).length=k:=rG
 have A1:w4.cell? ⟨b,k * 3 + 1,none⟩=some rv1:=by have h:=hcell 1 rv1 rfl;rw [hlk,Nat.add_zero] at h;exact h
 obtain ⟨A,hA,hAC,_⟩:=kDq hown
 replace hA:(Rep.slice 123 kQ).own w4 [rv1] l[k].2.1 A:=hA
 obtain ⟨ra,rp,rfl,_⟩:=Rep.sl hA.raw
 have HW:=yD hA
 have HAC:=yD hAC
 have HCS:=yD hC
 clear hown hC hcell hgap2 hgap r_0 r_1 r_2 r_3 hA hAC hlk
 generalize hrl:l[k].2.1=R at *
 clear hrl
 have hw:IntKind.i64.wrap ((k:Int) + 1)=(k:Int) + 1:=IntWalk.i64_in _ rP
 go_wp2_with fail
 refine (kGe G.out HON2.out hlb hkl).mono ?_
 rintro e w5 ⟨v5,rfl,O5,T5⟩
 obtain ⟨va,vn,vc,hv5,HV5⟩:=O5.parts;obtain rfl:=hv5
 have HO5:=yD O5
 have HW5:=yD (HW.out.touch T5 (fun j p q=>q.2 (HAC.out j p)))
 have hz5:=T5.size
 have E5:=E4.trans (T5.below E4.size (fun j q=>q.1.1))
 clear O5 T5
 go_wp2
 go_ret2
 refine ⟨_,_,rfl,?_,E5⟩
 rw [HT.out.1,HT.out.2]
 exact Rep.jW (r:=(Rep.slice 175 kE)) (q:=(Rep.slice 123 kQ)) (cs:=[_]) (ds:=[_]) (HO5.out.own pQ) HW5.out (fun j hj=>⟨hj.1.1,by have:=hj.1.2;omega⟩) (fun j hj=>by have q:=(HCS.out j (HAC.out j hj)).1;exact ⟨q.1,by have:=q.2;omega⟩) (fun j h1 h2=>h1.2 (HAC.out j h2))
theorem kTk {w:World} {vl:Value} {l:List kS} (hl:(Rep.slice 175 kE).rd w [vl] l) {cn:List Value} {n:kW} (hn:kL.rd w cn n) :
    Calls Tryz.prog 63 #[vl,.agg cn.toArray] w (fun e w'=>∃ v u,e=.returned (.tuple #[v,u])∧(Rep.pair (Rep.slice 175 kE) (Rep.slice 123 kQ)).own w' [v,u] (kHt n l,kDs n l) (Btw w.heap.size w'.heap.size)∧Below w.heap.size w w'):=by
 have HL:=yD hl
 have HN:=yD hn
 have hlb:l.length≤16777216:=hl.2.1
 obtain ⟨nv,rfl,n_0⟩:=kM hn.1
 obtain ⟨na,np,rfl,_⟩:=Rep.sl n_0
 obtain ⟨va,vp,rfl,hvll⟩:=Rep.sl hl.1
 clear n_0 hl hn
 go_enter Tryz.func63,Tryz.ntmps63
 go_wp2_with fail
 generalize hwB:World.alloc w _=wB
 have EB:Below w.heap.size w wB:=nI
 have K0:wB.cell? ⟨w.heap.size,0,none⟩=some (.slice na n.length np):=nV
 have hzB:wB.heap.size=w.heap.size + 1:=qK
 clear hwB
 refine (kKe (HL.out.below EB)).mono ?_
 rintro e w1 ⟨v1,rfl,O1,hb1⟩
 replace K0:=cL hb1 K0
 have E1:=(tQ EB hb1)
 have hz1:=hb1.size
 have HO:=yD (O1.wide (T:=Btw w.heap.size w1.heap.size) mI)
 obtain ⟨oa,on,oc,ho,HON⟩:=O1.parts;obtain rfl:=ho
 clear O1 hb1 EB
 go_wp2_with fail
 refine (kKd (HL.out.1.below E1) (HN.out.1.below E1)).mono ?_
 rintro e w4 ⟨rfl,hb4⟩
 replace K0:=cL hb4 K0
 have E4:=(tQ E1 hb4)
 have hz4:=hb4.size
 replace HO:=yD ((HO.out.below hb4).wide (T:=Btw w.heap.size w4.heap.size) mH)
 clear hb4 E1
 by_cases hk:idxOf (yw n) l < 0
 · have HT:=yD (sat_no hk)
   have hk2:¬ (0≤idxOf (yw n) l):=rP
   generalize hq:idxOf (yw n) l=q at *
   clear hq
   go_wp2
   first | go_ret2|(refine bodyPost_ret (by simp [results,Tryz.results63,go_sem];rfl) rfl ?_)
   refine ⟨_,_,rfl,?_,E4.trans (Below.mono bH E4.size)⟩
   rw [HT.out.1,HT.out.2]
   exact Rep.jW (r:=(Rep.slice 175 kE)) (q:=(Rep.slice 123 kQ)) (cs:=[_]) (ds:=[_]) (A:=Btw w.heap.size w4.heap.size) (B:=fun _=>False) ((HO.out.below bH).own hlb) Rep.kCk (fun j hj=>⟨hj.1,by have:=hj.2;simp;omega⟩) (fun _ h=>h.elim) (fun _ _ h=>h)
 obtain ⟨k,hkl,hki⟩:=kSg hk
 have HKI:=yD hki
 rw [hki]
 clear hk hki
 have HT:=yD (sat_yes HKI.out hkl)
 obtain ⟨b,cap,hv,hgap⟩:=Rep.kDz HO.out hkl
 simp only [Value.slice.injEq] at hv
 obtain ⟨rfl,hon,rfl⟩:=hv
 have HON2:=yD hon
 rw [List.drop_eq_getElem_cons hkl] at hgap
 have hcap:=hgap.len
 simp only [List.length_take,List.length_cons,List.length_drop] at hcap
 have hkon:k < on:=rP
 have hcap2:on≤oc:=pV
 have hcap3:oc≤9223372036854775807:=gD
 have hkI:(0:Int)≤k:=rP
 have hkI2:(k:Int) < on:=rP
 have hob:on≤16777216:=rP
 clear hcap hon
 have G:Hid (Rep.gap 175 kE w4 b oc l.length (l.take k) 1 (l.drop (k + 1)) (Btw w.heap.size w4.heap.size)):=yD hgap.skip
 clear hgap
 obtain ⟨qb,qo,rfl,qc0,qc1,qc2,qr,A0,A1,A2⟩:=Rep.kBg (HL.out.1.below E4) hkl rfl
 have hbd:=Rep.yF HL.out hkl
 obtain ⟨qv0,qv1,qhe,q_0,q_1,q_2,q_3⟩:=jN qr
 simp only [List.cons.injEq,and_true] at qhe
 obtain ⟨rfl,rfl,rfl⟩:=qhe
 have hRQ:(Rep.slice 123 kQ).rd w4 [qc1] l[k].2.1:=⟨q_2,hbd.2.1⟩
 obtain ⟨ra,rp,rfl,_⟩:=Rep.sl q_2
 have HRQ:=yD hRQ
 clear qr q_0 q_1 q_2 q_3 hbd hRQ A0 A2
 generalize hrl:l[k].2.1=R at *
 clear hrl
 have hRB:=HRQ.out.2.1
 have hkll:(k:Int) < l.length:=rP
 replace A1:=cL (Rep.zy w4 (.cells #[] 123)) A1
 go_wp2_with (at_builtin;refine Rep.je rfl _ _ 119 rfl (r:=kQ) (e:=123) Tryz.underlying119 kHa rfl rM rM kFy (B:=w4.heap.size) (Rep.kg.void (S:=fun _=>False)) rR rR (HRQ.out.alloc _) (fun _ h=>h.elim) rQ (by simp;unfold Big at hRB;omega) ?_)
 intro av w5 hown hbel hz
 have HA5:=yD (Rep.kg.cast hown (List.nil_append _))
 obtain ⟨aa,an,ac,hav,HAN⟩:=hown.parts;obtain rfl:=hav
 have hb5:Below w4.heap.size w4 w5:=(bR.alloc nL _).trans hbel
 have hz5:=hb5.size
 have E5:=(tQ E4 hb5)
 replace G:=yD (G.out.below hb5)
 clear hown hbel hz
 have HK:Hid ((l.take k).length=k):=yD rG
 have hk1:k + 1≤oc:=rP
 have hk2:k + 1≤on:=rP
 have hk3:(k:Int) + 1≤on:=rP
 have hk4:(0:Int)≤(k:Int) + 1:=rP
 have hkN:k≤oc:=rP
 have hw:IntKind.i64.wrap ((k:Int) + 1)=(k:Int) + 1:=IntWalk.i64_in _ rP
 by_cases hce:oc=k + 1
 · have HR:Hid ((l.drop (k + 1)).length=0):=yD nU
   obtain rfl:on=k + 1:=rP
   subst hce
   have hk5:(k:Int)≤(k:Int) + 1:=rP
   go_upto_region 6 with fail
   refine yG (fun W=>Below w5.heap.size w5 W) [(1,true),(2,true),(3,true),(5,true),(6,true),(7,true),(8,true),(10,true),(0,false),(4,false),(9,false),(11,true),(12,true)] rF rF gX (bR.drew) ?_
   intro wS HS
   simp only [jY,List.getElem?_cons_succ,List.getElem?_cons_zero,List.map_cons,List.map_nil]
   iterate 8
    all_goals refine wkR ?_
   all_goals first|(refine kU rfl HS ?_)|(refine ky rfl (fun K hK=>?_);go_simp;generalize hwU:World.alloc wS _=wU;replace HS:Below w5.heap.size w5 wU:=(by rw [← hwU];exact HS.alloc HS.size _);clear hwU;refine hK _ _ HS ?_;clear hK K)
   all_goals refine wkP ?_
   all_goals first|(refine kU rfl HS ?_)|(refine ky rfl (fun K hK=>?_);obtain ⟨v3,u3,hr3,hb3,v4,u4,hr4,ho4,hb4⟩:=Rep.kDc (P:=Tryz.prog) (t:=51) Tryz.underlying51 yT rfl rM rM G.out HS (a0:=some ⟨wS.heap.size,0,none⟩) rP (k + 1) 0 51 51 (q:=0) (kl:=k) (rl:=0) (fun hne=>absurd (List.eq_nil_of_length_eq_zero HR.out) hne) HK.out.symm HR.out.symm;have HS3:=(tQ HS hb3);refine Rep.jR _ _ _ rfl rR rR hr3 ?_;refine hK _ _ HS3 ?_;clear hK K)
   all_goals refine wkP ?_
   all_goals first|(refine kU rfl HS ?_)|(refine ky rfl (fun K hK=>?_);have HS4:=(tQ HS hb4);refine Rep.jR _ _ _ rfl rR rR hr4 ?_;refine hK _ _ HS4 ?_;clear hK K)
   all_goals refine wkP ?_
   all_goals refine wkR ?_
   all_goals refine wkR ?_
   all_goals refine jA ?_
   have hz4:=hb4.size
   have hzS:=HS.size
   have HA6:=yD (HA5.out.below HS4)
   have hz6:=HS4.size
   obtain ⟨va,vn,vc,hv4,HV4⟩:=ho4.parts;obtain rfl:=hv4
   have HO4:=yD ho4
   clear ho4
   go_wp2
   go_ret2
   refine ⟨_,_,rfl,?_,(tQ E5 HS4)⟩
   rw [HT.out.1,HT.out.2]
   exact Rep.jW (r:=(Rep.slice 175 kE)) (q:=(Rep.slice 123 kQ)) (cs:=[_]) (ds:=[_]) (HO4.out.own pQ) (HA6.out.own hRB) (fun j hj=>by rcases hj with hj | hj;exact ⟨hj.1,by have:=hj.2;omega⟩;exact ⟨by have:=hj.1;omega,hj.2⟩) fG (fun j h1 h2=>by have q1:=h2.1;have q2:=h2.2;rcases h1 with h1 | h1;(have:=h1.2;omega);(have:=h1.1;omega))
 have HR:Hid ((l.drop (k + 1)).length=on - (k + 1)):=yD nU
 go_upto_region 6 with fail
 refine yG (fun W=>Below w5.heap.size w5 W) [(1,true),(2,true),(3,true),(5,true),(6,true),(7,true),(8,true),(10,true),(0,false),(4,false),(9,false),(11,true),(12,true)] rF rF gX (bR.drew) ?_
 intro wS HS
 simp only [jY,List.getElem?_cons_succ,List.getElem?_cons_zero,List.map_cons,List.map_nil]
 iterate 8
  all_goals refine wkR ?_
 all_goals first|(refine kU rfl HS ?_)|(refine ky rfl (fun K hK=>?_);go_simp;generalize hwU:World.alloc wS _=wU;replace HS:Below w5.heap.size w5 wU:=(by rw [← hwU];exact HS.alloc HS.size _);clear hwU;refine hK _ _ HS ?_;clear hK K)
 all_goals refine wkP ?_
 all_goals first|(refine kU rfl HS ?_)|(refine ky rfl (fun K hK=>?_);obtain ⟨v3,u3,hr3,hb3,v4,u4,hr4,ho4,hb4⟩:=Rep.kDc (P:=Tryz.prog) (t:=51) Tryz.underlying51 yT rfl rM rM G.out HS (a0:=some ⟨wS.heap.size,0,none⟩) rP oc (oc - (k + 1)) 51 51 (q:=((k + 1) * 3)) (kl:=k) (rl:=(on - (k + 1))) pK HK.out.symm HR.out.symm;have HS3:=(tQ HS hb3);refine Rep.jR _ _ _ rfl rR rR hr3 ?_;refine hK _ _ HS3 ?_;clear hK K)
 all_goals refine wkP ?_
 all_goals first|(refine kU rfl HS ?_)|(refine ky rfl (fun K hK=>?_);have HS4:=(tQ HS hb4);refine Rep.jR _ _ _ rfl rR rR hr4 ?_;refine hK _ _ HS4 ?_;clear hK K)
 all_goals refine wkP ?_
 all_goals refine wkR ?_
 all_goals refine wkR ?_
 all_goals refine jA ?_
 have hz4:=hb4.size
 have hzS:=HS.size
 have HA6:=yD (HA5.out.below HS4)
 have hz6:=HS4.size
 obtain ⟨va,vn,vc,hv4,HV4⟩:=ho4.parts;obtain rfl:=hv4
 have HO4:=yD ho4
 clear ho4
 go_wp2
 go_ret2
 refine ⟨_,_,rfl,?_,(tQ E5 HS4)⟩
 rw [HT.out.1,HT.out.2]
 exact Rep.jW (r:=(Rep.slice 175 kE)) (q:=(Rep.slice 123 kQ)) (cs:=[_]) (ds:=[_]) (HO4.out.own pQ) (HA6.out.own hRB) (fun j hj=>by rcases hj with hj | hj;exact ⟨hj.1,by have:=hj.2;omega⟩;exact ⟨by have:=hj.1;omega,hj.2⟩) fG (fun j h1 h2=>by have q1:=h2.1;have q2:=h2.2;rcases h1 with h1 | h1;(have:=h1.2;omega);(have:=h1.1;omega))
theorem specMin_c {w:World} {a b:Int}:Calls Tryz.prog 223 #[.int .i64 a,.int .i64 b] w fun e w'=>e=.returned (.int .i64 (min a b))∧w'=w:=by
 go_enter Tryz.func223,Tryz.ntmps223
 by_cases h:b < a
 · have hd:decide (b < a)=true:=rD
   have HT:=yD (show min a b=b by omega)
   go_wp2
   go_ret
   exact ⟨ku HT.out.symm,rfl⟩
 have hd:decide (b < a)=false:=rD
 have HT:=yD (show min a b=a by omega)
 go_wp2
 go_ret
 exact ⟨ku HT.out.symm,rfl⟩
theorem specMax_c {w:World} {a b:Int}:Calls Tryz.prog 222 #[.int .i64 a,.int .i64 b] w fun e w'=>e=.returned (.int .i64 (max a b))∧w'=w:=by
 go_enter Tryz.func222,Tryz.ntmps222
 by_cases h:b > a
 · have hd:decide (b > a)=true:=rD
   have HT:=yD (show max a b=b by omega)
   go_wp2
   go_ret
   exact ⟨ku HT.out.symm,rfl⟩
 have hd:decide (b > a)=false:=rD
 have HT:=yD (show max a b=a by omega)
 go_wp2
 go_ret
 exact ⟨ku HT.out.symm,rfl⟩
def kHk (n p:kW):Bool:=decide ((p.length:Int)≤n.length) && eqN (n.take p.length) p
theorem prefN_no {n p:kW} (h:¬ p.length≤n.length):kHk n p=false:=by unfold kHk;rw [decide_eq_false rP];rfl
theorem kUt {n p:kW} (h:p.length≤n.length):kHk n p=eqN (n.take p.length) p:=by unfold kHk;rw [decide_eq_true rP];rfl
theorem clip {n:kW} (k:Int):∃ m:Nat,max 0 (min k n.length)=(m:Int)∧m≤n.length∧n.take k.toNat=n.take m:=by
 refine ⟨(max 0 (min k n.length)).toNat,by omega,by omega,?_⟩
 by_cases h:k.toNat≤n.length
 · congr 1;omega
 rw [List.take_of_length_le rP,List.take_of_length_le rP]
def mB (n:kW) (l:List yA):Nat→Int
  | 0=>-1
  | k + 1=>if kHk n (l.getD k ([],0,0)).1=true∧(mB n l k < 0∨(l.getD (mB n l k).toNat ([],0,0)).1.length < (l.getD k ([],0,0)).1.length) then k else mB n l k
theorem mB_no {n:kW} {l:List yA} {k:Nat} (hk:k < l.length) (h:kHk n l[k].1=false):mB n l (k + 1)=mB n l k:=by
 conv=>lhs;unfold mB
 rw [jr hk,if_neg (by simp [h])]
theorem mB_new {n:kW} {l:List yA} {k:Nat} (hk:k < l.length) (h:kHk n l[k].1=true) (h2:mB n l k=-1):mB n l (k + 1)=k:=by
 conv=>lhs;unfold mB
 rw [jr hk,if_pos ⟨h,.inl rP⟩]
theorem mB_up {n:kW} {l:List yA} {k j:Nat} (hk:k < l.length) (h:kHk n l[k].1=true) (hj:j < l.length) (h2:mB n l k=j) (h3:l[j].1.length < l[k].1.length):mB n l (k + 1)=k:=by
 conv=>lhs;unfold mB
 rw [jr hk,h2,Int.toNat_natCast,jr hj,if_pos ⟨h,.inr h3⟩]
theorem mB_keep {n:kW} {l:List yA} {k j:Nat} (hk:k < l.length) (hj:j < l.length) (h2:mB n l k=j) (h3:¬ l[j].1.length < l[k].1.length):mB n l (k + 1)=j:=by
 conv=>lhs;unfold mB
 rw [jr hk,h2,Int.toNat_natCast,jr hj,if_neg (fun q=>by rcases q.2 with h | h;omega;exact h3 h)]
def mOk (n:kW) (l:List yA):Bool:=!decide (mB n l l.length < 0)
def kHl (n:kW) (l:List yA):kW:=if mB n l l.length < 0 then [] else (l.getD (mB n l l.length).toNat ([],0,0)).1
theorem m_no {n:kW} {l:List yA} (h:mB n l l.length=-1):mOk n l=false∧kHl n l=[]:=by simp [mOk,kHl,h]
theorem m_yes {n:kW} {l:List yA} {j:Nat} (hj:j < l.length) (h:mB n l l.length=j):mOk n l=true∧kHl n l=l[j].1:=by
 unfold mOk kHl
 rw [h,Int.toNat_natCast,jr hj,if_neg rP,decide_eq_false rP]
 exact ⟨rfl,rfl⟩
theorem kRc {w:World} {ca:List Value} {x:kW} {k:Int} (ha:kL.rd w ca x):Calls Tryz.prog 189 #[.agg ca.toArray,.int .i64 k] w (yM kL (x.take k.toNat) w):=by
 have HA:=yD ha
 obtain ⟨av,rfl,a_0⟩:=kM ha.1
 obtain ⟨aa,capa,rfl,la⟩:=Rep.sl a_0
 have hcap:=Rep.kMl a_0
 have hb:x.length≤16777216:=ha.2.1
 obtain ⟨m,hm,hmx,htk⟩:=clip (n:=x) k
 have HTK:=yD htk
 clear ha a_0 htk
 go_enter Tryz.func189,Tryz.ntmps189
 go_wp2_with fail
 refine specMin_c.mono ?_
 rintro e w1 ⟨rfl,rfl⟩
 go_wp2_with fail
 refine specMax_c.mono ?_
 rintro e w1 ⟨rfl,rfl⟩
 rw [hm]
 have HS_:=yD (Rep.take_rd (e:=9) (r:=Rep.str) HA.out hmx)
 have hl:(x.take m).length=m:=rG
 generalize x.take m=y at *
 subst hl
 have hm1:(y.length:Int)≤capa:=rP
 have O0:Rep.kg 9 Rep.str (((w.alloc (.cells #[.slice aa x.length capa] 64)).alloc (.cells #[.slice none 0 0] 64)).alloc (.cells #[] 9)) (.slice (some ⟨w.heap.size + 1 + 1,0,none⟩) 0 0) [] (fun k=>k=w.heap.size + 1 + 1):=by
  have h:=Rep.yj (e:=9) (r:=Rep.str) (w:=(w.alloc (.cells #[.slice aa x.length capa] 64)).alloc (.cells #[.slice none 0 0] 64)) (cs:=[]) (xs:=[]) (T:=fun _=>False) (S:=fun k=>k=w.heap.size + 1 + 1) rQ rQ rfl (fun _ h=>h.elim) rQ
  simpa using h
 go_wp2_with (at_builtin;refine Rep.je rfl _ _ 37 rfl (r:=Rep.str) (e:=9) Tryz.underlying37 kNp rfl rM rM Rep.kFf (B:=w.heap.size + 1 + 1) O0 rR rR (HS_.out.below bH) mQ rQ rG ?_)
 intro v2 w2 hown hbel hz
 obtain ⟨a2,c2,hv⟩:=hown.ym
 obtain rfl:=hv
 have hw:=hown.own (by simp [Big];omega)
 have HO:Hid (kL.own w2 [.slice a2 y.length c2] y (Btw (w.heap.size + 1 + 1) w2.heap.size)):=yD hw
 have EG:Below w.heap.size w w2:=Below.trans bH (hbel.mono nE)
 clear hown O0 hw
 have R0:w2.cell? ⟨w.heap.size + 1,0,none⟩=some (.slice none 0 0):=(hbel.cell (p:=⟨w.heap.size + 1,0,none⟩) rQ).trans rE
 have F0:w2.frozen? ⟨w.heap.size + 1,0,none⟩=false:=(hbel.frozen (p:=⟨w.heap.size + 1,0,none⟩) rQ).trans rE
 clear hbel
 go_wp2
 refine bodyPost_ret (v:=.agg #[.slice a2 y.length c2]) (by simp [results,Tryz.results189,go_sem,R0,F0]) rfl ⟨[_],rfl,?_,?_⟩
 · rw [HTK.out]
   exact (HO.out.setCell dP).wide dR
 exact EG.setCell rQ _
theorem kEl {w:World} {ca cb:List Value} {a b:kW} (ha:kL.rd w ca a) (hb:kL.rd w cb b) :
    Calls Tryz.prog 133 #[.agg ca.toArray,.agg cb.toArray] w fun e w'=>e=.returned (.bool (kHk a b))∧Below w.heap.size w w':=by
 have HA:=yD ha
 have HB:=yD hb
 obtain ⟨av,rfl,a_0⟩:=kM ha.1
 obtain ⟨bv,rfl,b_0⟩:=kM hb.1
 clear ha hb
 obtain ⟨aa,capa,rfl,la⟩:=Rep.sl a_0
 obtain ⟨ab,capb,rfl,lb⟩:=Rep.sl b_0
 have hcap:=Rep.kMl a_0
 go_enter Tryz.func133,Tryz.ntmps133
 go_wp2_with fail
 generalize hwB:World.alloc (World.alloc w _) _=wB
 have EB:Below w.heap.size w wB:=by rw [← hwB];exact bH
 have K0:wB.cell? ⟨w.heap.size,0,none⟩=some (.slice aa a.length capa):=nV
 have K1:wB.cell? ⟨w.heap.size + 1,0,none⟩=some (.slice ab b.length capb):=nV
 clear hwB
 by_cases hc:b.length≤a.length
 · have hd:decide ((b.length:Int)≤a.length)=true:=qR
   have hdn:decide (b.length≤a.length)=true:=qR
   have hci:(b.length:Int)≤a.length:=rP
   have hc1:(b.length:Int)≤capa:=rP
   have HT:=yD (kUt hc)
   have FX:=yD (fun (W:World) (hW:Below wB.heap.size wB W)=>cLs2 hW K0 K1)
   refine yG (fun W=>Below wB.heap.size wB W) [(0,true),(1,true),(2,true),(3,true),(4,true),(5,true),(6,true),(7,true),(8,true),(9,true),(10,true),(11,true),(13,true),(12,false),(14,false),(15,true),(16,true)] rF rF gX (bR.drew) ?_
   intro wS HS
   simp only [jY,List.getElem?_cons_succ,List.getElem?_cons_zero,List.map_cons,List.map_nil]
   iterate 7
    all_goals refine wkR ?_
   all_goals (have hg7:=True.intro;first|(refine wkG (fun b hg7=>?_);cases b;all_goals first | exact Bool.noConfusion hg7 | simp only [zU,zV] at hg7 | skip) | refine wkR ?_)
   all_goals refine wkP ?_
   iterate 5
    all_goals refine wkR ?_
   all_goals first|(refine kU rfl HS ?_)|(refine ky rfl (fun K hK=>?_);go_simp;refine (kRc (HA.out.below (tQ EB HS))).mono ?_;rintro e wT ⟨tc,rfl,OT,hbT⟩;replace HS:=(tQ HS hbT);refine hK _ _ HS ?_;clear hK K hbT)
   all_goals refine wkP ?_
   all_goals first | refine wkB (zD OT.raw (HB.out.1.below (tQ EB HS))) (fun wS1 HS=>?_) | refine wkR ?_
   all_goals refine wkR ?_
   all_goals refine wkR ?_
   all_goals refine jA ?_
   have EG:=(tQ EB HS)
   go_wp2
   go_ret
   exact ⟨kG HT.out.symm,EG⟩
 have hd:decide ((b.length:Int)≤a.length)=false:=qR
 have hdn:decide (b.length≤a.length)=false:=qR
 have HT:=yD (prefN_no hc)
 have FX:=yD (fun (W:World) (hW:Below wB.heap.size wB W)=>cLs2 hW K0 K1)
 refine yG (fun W=>Below wB.heap.size wB W) [(0,true),(1,true),(2,true),(3,true),(4,true),(5,true),(6,true),(7,true),(8,true),(9,true),(10,true),(11,true),(13,true),(12,false),(14,false),(15,true),(16,true)] rF rF gX (bR.drew) ?_
 intro wS HS
 simp only [jY,List.getElem?_cons_succ,List.getElem?_cons_zero,List.map_cons,List.map_nil]
 iterate 7
  all_goals refine wkR ?_
 all_goals (have hg7:=True.intro;first|(refine wkG (fun b hg7=>?_);cases b;all_goals first | exact Bool.noConfusion hg7 | simp only [zU,zV] at hg7 | skip) | refine wkR ?_)
 all_goals refine wkP ?_
 iterate 5
  all_goals refine wkR ?_
 iterate 2
  all_goals first|(refine kU rfl HS ?_)|(fail)
  all_goals refine wkP ?_
 all_goals refine wkR ?_
 all_goals refine wkR ?_
 all_goals refine jA ?_
 have EG:=(tQ EB HS)
 go_wp2
 go_ret
 exact ⟨kG HT.out.symm,EG⟩
theorem kEm {w:World} {ca cb:List Value} {a b:kW} (ha:kL.rd w ca a) (hb:kL.rd w cb b) :
    Calls Tryz.prog 150 #[.agg ca.toArray,.agg cb.toArray] w fun e w'=>e=.returned (.bool (kHk a b))∧Below w.heap.size w w':=by
 have HA:=yD ha
 have HB:=yD hb
 obtain ⟨av,rfl,a_0⟩:=kM ha.1
 obtain ⟨bv,rfl,b_0⟩:=kM hb.1
 clear ha hb
 obtain ⟨aa,capa,rfl,la⟩:=Rep.sl a_0
 obtain ⟨ab,capb,rfl,lb⟩:=Rep.sl b_0
 have hcap:=Rep.kMl a_0
 go_enter Tryz.func150,Tryz.ntmps150
 go_wp2_with fail
 generalize hwB:World.alloc (World.alloc w _) _=wB
 have EB:Below w.heap.size w wB:=by rw [← hwB];exact bH
 have K0:wB.cell? ⟨w.heap.size,0,none⟩=some (.slice aa a.length capa):=nV
 have K1:wB.cell? ⟨w.heap.size + 1,0,none⟩=some (.slice ab b.length capb):=nV
 clear hwB
 by_cases hc:b.length≤a.length
 · have hd:decide ((b.length:Int)≤a.length)=true:=qR
   have hdn:decide (b.length≤a.length)=true:=qR
   have hci:(b.length:Int)≤a.length:=rP
   have hc1:(b.length:Int)≤capa:=rP
   have HT:=yD (kUt hc)
   have FX:=yD (fun (W:World) (hW:Below wB.heap.size wB W)=>cLs2 hW K0 K1)
   refine jB (fun W=>Below wB.heap.size wB W) [true,true,true,true,true,true,true,true,true,true,true,true,true,true,true,true,false,true,true] rF rF gX (bR.drew) ?_
   intro wS HS
   iterate 7
    all_goals refine wkR ?_
   all_goals (have hg7:=True.intro;first|(refine wkG (fun b hg7=>?_);cases b;all_goals first | exact Bool.noConfusion hg7 | simp only [zU,zV] at hg7 | skip) | refine wkR ?_)
   all_goals refine wkP ?_
   iterate 8
    all_goals refine wkR ?_
   all_goals first | refine wkB (kIy (Rep.take_raw (e:=9) (r:=Rep.str) (HA.out.1.below (tQ EB HS)) hc) (HB.out.1.below (tQ EB HS))) (fun wS1 HS=>?_) | refine wkR ?_
   all_goals refine wkR ?_
   all_goals refine wkR ?_
   all_goals refine jA ?_
   have EG:=(tQ EB HS)
   go_wp2
   go_ret
   exact ⟨kG HT.out.symm,EG⟩
 have hd:decide ((b.length:Int)≤a.length)=false:=qR
 have hdn:decide (b.length≤a.length)=false:=qR
 have HT:=yD (prefN_no hc)
 have FX:=yD (fun (W:World) (hW:Below wB.heap.size wB W)=>cLs2 hW K0 K1)
 refine jB (fun W=>Below wB.heap.size wB W) [true,true,true,true,true,true,true,true,true,true,true,true,true,true,true,true,false,true,true] rF rF gX (bR.drew) ?_
 intro wS HS
 iterate 7
  all_goals refine wkR ?_
 all_goals (have hg7:=True.intro;first|(refine wkG (fun b hg7=>?_);cases b;all_goals first | exact Bool.noConfusion hg7 | simp only [zU,zV] at hg7 | skip) | refine wkR ?_)
 all_goals refine wkP ?_
 iterate 8
  all_goals refine wkR ?_
 all_goals first|(refine kU rfl HS ?_)|(fail)
 all_goals refine wkP ?_
 all_goals refine wkR ?_
 all_goals refine wkR ?_
 all_goals refine jA ?_
 have EG:=(tQ EB HS)
 go_wp2
 go_ret
 exact ⟨kG HT.out.symm,EG⟩
theorem kEh {w:World} {vl:Value} {l:List yA} (hl:(Rep.slice 181 kX).rd w [vl] l) {cn:List Value} {n:kW} (hn:kL.rd w cn n) :
    Calls Tryz.prog 68 #[vl,.agg cn.toArray] w fun e w'=>∃ cs,e=.returned (.tuple #[.agg cs.toArray,.bool (mOk n l)])∧kL.own w' cs (kHl n l) (Btw w.heap.size w'.heap.size)∧Below w.heap.size w w':=by
 have HN:=yD hn
 have HL:=yD hl
 obtain ⟨av,rfl,n_0⟩:=kM hn.1
 obtain ⟨an,capn,rfl,ln⟩:=Rep.sl n_0
 obtain ⟨aa,capa,rfl,la⟩:=Rep.sl hl.1
 clear hn hl n_0
 go_enter Tryz.func68,Tryz.ntmps68
 go_wp2
 generalize hwB:World.alloc (World.alloc w _) _=wB
 have EB:Below w.heap.size w wB:=by rw [← hwB];exact bH
 have hsz:wB.heap.size=w.heap.size + 2:=qK
 have K0:wB.cell? ⟨w.heap.size,0,none⟩=some (.slice an n.length capn):=nV
 have K1:wB.cell? ⟨w.heap.size + 1,0,none⟩=some (.slice none 0 0):=nV
 have F1:wB.frozen? ⟨w.heap.size + 1,0,none⟩=false:=nV
 clear hwB
 go_loopw [6,7] (fun b i wr=>∃ (k:Nat) (m:Int),k≤l.length∧i=.int .i64 k∧b=.int .i64 m∧Hid (mB n l k=m)∧Hid (m=-1∨∃ j:Nat,j < k∧m=j)∧Below wB.heap.size wB wr) (fun _ i _=>l.length - (intOf i).toNat)
 case atStart=>exact ⟨0,-1,Nat.zero_le _,rfl,rfl,yD rfl,yD (.inl rfl),bR⟩
 obtain ⟨k,m,hk,rfl,rfl,HM,HR,hbel⟩:=hrel
 have rdl:=Rep.rd.below HL.out (tQ EB hbel)
 by_cases hlt:k < l.length
 · have hk0:=Int.natCast_nonneg k
   have hk2:=Int.ofNat_lt.2 hlt
   obtain ⟨xb,xo,rfl,xc0,xc1,xc2,xr,Ax0,Ax1,Ax2⟩:=Rep.kBg rdl.1 hlt rfl
   obtain ⟨xv0,xhe,x_0,x_1,x_2,x_3⟩:=yg xr
   simp only [List.cons.injEq,and_true] at xhe
   obtain ⟨rfl,rfl,rfl⟩:=xhe
   obtain ⟨xa,xp,rfl,xl⟩:=Rep.sl x_1
   have px:kL.rd wr _ l[k].1:=⟨x_0,(Rep.yF HL.out hlt).1⟩
   clear xr x_2 x_3 x_1 x_0
   rcases HR.out with rfl|⟨j,hjk,rfl⟩
   · have hno:=fun q=>(mB_no (n:=n) hlt q).trans HM.out
     have hnew:=fun q=>mB_new (n:=n) hlt q HM.out
     clear rdl
     generalize l[k]=x at *
     have HNO:=yD hno;have HNEW:=yD hnew;clear hno hnew
     replace K0:=cL hbel K0
     go_upto_region 5 with fail
     have FX:=yD (fun (W:World) (hW:Below wr.heap.size wr W)=>cLs4 hW K0 Ax0 Ax1 Ax2)
     refine jB (fun W=>Below wr.heap.size wr W) [true,true,true,true,true,true,false,true,true,true,true,true,true,true,true,true,true,true,true,true,true,true,true,true,true,true,true,true] rF rF gX (bR.drew) ?_
     intro wS HS
     iterate 6
      all_goals refine wkR ?_
     all_goals first | refine wkB (kEl (HN.out.below ((tQ EB (tQ hbel HS)))) (px.below HS)) (fun wS1 HS=>?_) | refine wkR ?_
     all_goals (have hg7:=True.intro;first|(refine wkG (fun b hg7=>?_);cases b;all_goals first | exact Bool.noConfusion hg7 | simp only [zU,zV] at hg7 | skip) | refine wkR ?_)
     all_goals refine wkP ?_
     all_goals refine wkR ?_
     all_goals refine wkR ?_
     all_goals (have hg10:=True.intro;first|(refine wkG (fun b hg10=>?_);cases b;all_goals first | exact Bool.noConfusion hg10 | simp only [zU,zV] at hg10 | skip) | refine wkR ?_)
     all_goals refine wkP ?_
     iterate 16
      all_goals refine wkR ?_
     all_goals (have hg27:=True.intro;first|(refine wkG (fun b hg27=>?_);cases b;all_goals first | exact Bool.noConfusion hg27 | simp only [zU,zV] at hg27 | skip) | refine wkR ?_)
     all_goals refine wkP ?_
     all_goals refine jA ?_
     all_goals have EG:=(tQ hbel HS)
     all_goals first
       | (have HT:=yD (HNO.out hg7);go_wp2;go_roundw;(case rel=>exact ⟨k + 1,-1,by omega,by go_num,rfl,HT,yD (.inl rfl),EG⟩);(case measure=>simp [intOf];omega))
       | (have HT:=yD (HNEW.out hg7);go_wp2;go_roundw;(case rel=>exact ⟨k + 1,(k:Int),by omega,by go_num,rfl,HT,yD (.inr ⟨k,by omega,rfl⟩),EG⟩);(case measure=>simp [intOf];omega))
   have hj:j < l.length:=rP
   have hj0:=Int.natCast_nonneg j
   have hj2:=Int.ofNat_lt.2 hj
   obtain ⟨yb,yo,yE,yc0,yc1,yc2,yr,Ay0,Ay1,Ay2⟩:=Rep.kBg rdl.1 hj rfl
   simp only [Option.some.injEq,Addr.mk.injEq,and_true] at yE
   obtain ⟨rfl,rfl⟩:=yE
   obtain ⟨yv0,yhe,y_0,y_1,y_2,y_3⟩:=yg yr
   simp only [List.cons.injEq,and_true] at yhe
   obtain ⟨rfl,rfl,rfl⟩:=yhe
   obtain ⟨ya,yp,rfl,yl⟩:=Rep.sl y_1
   have py:kL.rd wr _ l[j].1:=⟨y_0,(Rep.yF HL.out hj).1⟩
   clear yr y_2 y_3 y_1 y_0
   have hno:=fun q=>(mB_no (n:=n) hlt q).trans HM.out
   have hup:=fun q q2=>mB_up (n:=n) hlt q hj HM.out q2
   have hkeep:=fun q2=>mB_keep (n:=n) hlt hj HM.out q2
   clear rdl py
   generalize l[k]=x at *
   generalize l[j]=y at *
   have HNO:=yD hno;have HUP:=yD hup;have HKEEP:=yD hkeep;clear hno hup hkeep
   by_cases h3:y.1.length < x.1.length
   · have hd:decide ((y.1.length:Int) < x.1.length)=true:=qQ
     have hd2:decide ((x.1.length:Int) > y.1.length)=true:=qQ
     have hdn:decide (y.1.length < x.1.length)=true:=qQ
     replace K0:=cL hbel K0
     go_upto_region 5 with fail
     have FX:=yD (fun (W:World) (hW:Below wr.heap.size wr W)=>kMn hW K0 Ax0 Ax1 Ax2 Ay0)
     refine jB (fun W=>Below wr.heap.size wr W) [true,true,true,true,true,true,false,true,true,true,true,true,true,true,true,true,true,true,true,true,true,true,true,true,true,true,true,true] rF rF gX (bR.drew) ?_
     intro wS HS
     iterate 6
      all_goals refine wkR ?_
     all_goals first | refine wkB (kEl (HN.out.below ((tQ EB (tQ hbel HS)))) (px.below HS)) (fun wS1 HS=>?_) | refine wkR ?_
     all_goals (have hg7:=True.intro;first|(refine wkG (fun b hg7=>?_);cases b;all_goals first | exact Bool.noConfusion hg7 | simp only [zU,zV] at hg7 | skip) | refine wkR ?_)
     all_goals refine wkP ?_
     all_goals refine wkR ?_
     all_goals refine wkR ?_
     all_goals (have hg10:=True.intro;first|(refine wkG (fun b hg10=>?_);cases b;all_goals first | exact Bool.noConfusion hg10 | simp only [zU,zV] at hg10 | skip) | refine wkR ?_)
     all_goals refine wkP ?_
     iterate 16
      all_goals refine wkR ?_
     all_goals (have hg27:=True.intro;first|(refine wkG (fun b hg27=>?_);cases b;all_goals first | exact Bool.noConfusion hg27 | simp only [zU,zV] at hg27 | skip) | refine wkR ?_)
     all_goals refine wkP ?_
     all_goals refine jA ?_
     all_goals have EG:=(tQ hbel HS)
     all_goals first
       | (have HT:=yD (HNO.out hg7);go_wp2;go_roundw;(case rel=>exact ⟨k + 1,(j:Int),by omega,by go_num,rfl,HT,yD (.inr ⟨j,by omega,rfl⟩),EG⟩);(case measure=>simp [intOf];omega))
       | (have HT:=yD ((fun q=>HUP.out q h3) hg7);go_wp2;go_roundw;(case rel=>exact ⟨k + 1,(k:Int),by omega,by go_num,rfl,HT,yD (.inr ⟨k,by omega,rfl⟩),EG⟩);(case measure=>simp [intOf];omega))
   have hd:decide ((y.1.length:Int) < x.1.length)=false:=qQ
   have hd2:decide ((x.1.length:Int) > y.1.length)=false:=qQ
   have hdn:decide (y.1.length < x.1.length)=false:=qQ
   replace K0:=cL hbel K0
   go_upto_region 5 with fail
   have FX:=yD (fun (W:World) (hW:Below wr.heap.size wr W)=>kMn hW K0 Ax0 Ax1 Ax2 Ay0)
   refine jB (fun W=>Below wr.heap.size wr W) [true,true,true,true,true,true,false,true,true,true,true,true,true,true,true,true,true,true,true,true,true,true,true,true,true,true,true,true] rF rF gX (bR.drew) ?_
   intro wS HS
   iterate 6
    all_goals refine wkR ?_
   all_goals first | refine wkB (kEl (HN.out.below ((tQ EB (tQ hbel HS)))) (px.below HS)) (fun wS1 HS=>?_) | refine wkR ?_
   all_goals (have hg7:=True.intro;first|(refine wkG (fun b hg7=>?_);cases b;all_goals first | exact Bool.noConfusion hg7 | simp only [zU,zV] at hg7 | skip) | refine wkR ?_)
   all_goals refine wkP ?_
   all_goals refine wkR ?_
   all_goals refine wkR ?_
   all_goals (have hg10:=True.intro;first|(refine wkG (fun b hg10=>?_);cases b;all_goals first | exact Bool.noConfusion hg10 | simp only [zU,zV] at hg10 | skip) | refine wkR ?_)
   all_goals refine wkP ?_
   iterate 16
    all_goals refine wkR ?_
   all_goals (have hg27:=True.intro;first|(refine wkG (fun b hg27=>?_);cases b;all_goals first | exact Bool.noConfusion hg27 | simp only [zU,zV] at hg27 | skip) | refine wkR ?_)
   all_goals refine wkP ?_
   all_goals refine jA ?_
   all_goals have EG:=(tQ hbel HS)
   all_goals first
     | (have HT:=yD (HNO.out hg7);go_wp2;go_roundw;(case rel=>exact ⟨k + 1,(j:Int),by omega,by go_num,rfl,HT,yD (.inr ⟨j,by omega,rfl⟩),EG⟩);(case measure=>simp [intOf];omega))
     | (have HT:=yD ((fun (_:kHk n x.1=true)=>HKEEP.out h3) hg7);go_wp2;go_roundw;(case rel=>exact ⟨k + 1,(j:Int),by omega,by go_num,rfl,HT,yD (.inr ⟨j,by omega,rfl⟩),EG⟩);(case measure=>simp [intOf];omega))
 obtain rfl:k=l.length:=rP
 have EG:=(tQ EB hbel)
 have R0:=cL hbel K1
 have F0:wr.frozen? ⟨w.heap.size + 1,0,none⟩=false:=(hbel.frozen (p:=⟨w.heap.size + 1,0,none⟩) rG).trans F1
 rcases HR.out with rfl|⟨j,hj,rfl⟩
 · have HT:=yD (m_no HM.out)
   clear rdl
   go_wp2
   refine bodyPost_ret (v:=.tuple #[.agg #[.slice none 0 0],.bool false]) (by simp [results,Tryz.results68,go_sem,R0,F0]) rfl ⟨[.slice none 0 0],by rw [HT.out.1],?_,?_⟩
   · rw [HT.out.2];exact Rep.kCk
   exact EG.setCell rQ _
 have hj0:=Int.natCast_nonneg j
 have hj2:=Int.ofNat_lt.2 hj
 have HT:=yD (m_yes hj HM.out)
 obtain ⟨yb,yo,rfl,yc0,yc1,yc2,yr,Ay0,Ay1,Ay2⟩:=Rep.kBg rdl.1 hj rfl
 obtain ⟨yv0,yhe,y_0,y_1,y_2,y_3⟩:=yg yr
 simp only [List.cons.injEq,and_true] at yhe
 obtain ⟨rfl,rfl,rfl⟩:=yhe
 obtain ⟨ya,yp,rfl,yl⟩:=Rep.sl y_1
 have py:kL.rd wr _ l[j].1:=⟨y_0,(Rep.yF HL.out hj).1⟩
 clear yr y_2 y_3 y_1 y_0
 clear rdl
 generalize l[j]=y at *
 go_wp2_with fail
 refine (kAj (py.below bH)).mono ?_
 rintro e w2 ⟨cs,rfl,O2,hb2⟩
 obtain ⟨cv,rfl,c_0⟩:=kM O2.raw
 obtain ⟨a2,c2,hv,_⟩:=Rep.kJe c_0
 obtain rfl:cv=_:=by simpa using hv
 have HO:Hid (kL.own w2 [.slice a2 y.1.length c2] y.1 (Btw (w.heap.size + 1 + 1) w2.heap.size)):=yD (O2.wide fF)
 have EF:Below w.heap.size w w2:=EG.trans (Below.mono (Below.trans bH hb2) EG.size)
 replace R0:=cL hb2 R0
 replace F0:w2.frozen? ⟨w.heap.size + 1,0,none⟩=false:=(hb2.frozen (p:=⟨w.heap.size + 1,0,none⟩) (by have:=hbel.size;simp;omega)).trans F0
 clear hv O2 c_0 hb2 EG
 go_wp2
 refine bodyPost_ret (v:=.tuple #[.agg #[.slice a2 y.1.length c2],.bool true]) (by simp [results,Tryz.results68,go_sem,R0,F0]) rfl ⟨[.slice a2 y.1.length c2],by rw [HT.out.1],?_,?_⟩
 · rw [HT.out.2]
   exact (HO.out.setCell dP).wide dR
 exact EF.setCell rQ _
theorem kEj {w:World} {vl:Value} {l:List yA} (hl:(Rep.slice 181 kX).rd w [vl] l) {cn:List Value} {n:kW} (hn:kL.rd w cn n) :
    Calls Tryz.prog 76 #[vl,.agg cn.toArray] w fun e w'=>∃ cs,e=.returned (.tuple #[.agg cs.toArray,.bool (mOk n l)])∧kL.own w' cs (kHl n l) (Btw w.heap.size w'.heap.size)∧Below w.heap.size w w':=by
 have HN:=yD hn
 have HL:=yD hl
 obtain ⟨av,rfl,n_0⟩:=kM hn.1
 obtain ⟨an,capn,rfl,ln⟩:=Rep.sl n_0
 obtain ⟨aa,capa,rfl,la⟩:=Rep.sl hl.1
 clear hn hl n_0
 go_enter Tryz.func76,Tryz.ntmps76
 go_wp2
 generalize hwB:World.alloc (World.alloc w _) _=wB
 have EB:Below w.heap.size w wB:=by rw [← hwB];exact bH
 have hsz:wB.heap.size=w.heap.size + 2:=qK
 have K0:wB.cell? ⟨w.heap.size,0,none⟩=some (.slice an n.length capn):=nV
 have K1:wB.cell? ⟨w.heap.size + 1,0,none⟩=some (.slice none 0 0):=nV
 have F1:wB.frozen? ⟨w.heap.size + 1,0,none⟩=false:=nV
 clear hwB
 go_loopw [6,11] (fun b i wr=>∃ (k:Nat) (m:Int),k≤l.length∧i=.int .i64 k∧b=.int .i64 m∧Hid (mB n l k=m)∧Hid (m=-1∨∃ j:Nat,j < k∧m=j)∧Below wB.heap.size wB wr) (fun _ i _=>l.length - (intOf i).toNat)
 case atStart=>exact ⟨0,-1,Nat.zero_le _,rfl,rfl,yD rfl,yD (.inl rfl),bR⟩
 obtain ⟨k,m,hk,rfl,rfl,HM,HR,hbel⟩:=hrel
 have rdl:=Rep.rd.below HL.out (tQ EB hbel)
 by_cases hlt:k < l.length
 · have hk0:=Int.natCast_nonneg k
   have hk2:=Int.ofNat_lt.2 hlt
   obtain ⟨xb,xo,rfl,xc0,xc1,xc2,xr,Ax0,Ax1,Ax2⟩:=Rep.kBg rdl.1 hlt rfl
   obtain ⟨xv0,xhe,x_0,x_1,x_2,x_3⟩:=yg xr
   simp only [List.cons.injEq,and_true] at xhe
   obtain ⟨rfl,rfl,rfl⟩:=xhe
   obtain ⟨xa,xp,rfl,xl⟩:=Rep.sl x_1
   have px:kL.rd wr _ l[k].1:=⟨x_0,(Rep.yF HL.out hlt).1⟩
   clear xr x_2 x_3 x_1 x_0
   rcases HR.out with rfl|⟨j,hjk,rfl⟩
   · have hno:=fun q=>(mB_no (n:=n) hlt q).trans HM.out
     have hnew:=fun q=>mB_new (n:=n) hlt q HM.out
     clear rdl
     generalize l[k]=x at *
     have HNO:=yD hno;have HNEW:=yD hnew;clear hno hnew
     replace K0:=cL hbel K0
     go_upto_region 5 with fail
     generalize hwC:World.alloc wr _=wC
     have EC:Below wr.heap.size wr wC:=nA
     have M0:wC.cell? ⟨wr.heap.size,0,none⟩=some (.slice xa x.1.length xp):=nW
     have M1:wC.cell? ⟨wr.heap.size,1,none⟩=some (.int .i64 x.2.1):=nW
     have M2:wC.cell? ⟨wr.heap.size,2,none⟩=some (.int .i64 x.2.2):=nW
     replace K0:=cL EC K0
     (try replace Ay0:=cL EC Ay0);(try replace Ay1:=cL EC Ay1);(try replace Ay2:=cL EC Ay2);clear hwC
     have FX:=yD (fun (W:World) (hW:Below wC.heap.size wC W)=>cLs4 hW K0 M0 M1 M2)
     refine jB (fun W=>Below wC.heap.size wC W) [true,true,true,false,true,true,true,true,true,true,true,true,true,true,true,true,true,true,true,true,true,true] rF rF gX (bR.drew) ?_
     intro wS HS
     iterate 3
      all_goals refine wkR ?_
     all_goals first | refine wkB (kEm (HN.out.below ((tQ EB ((tQ hbel (tQ EC HS)))))) (px.below (tQ EC HS))) (fun wS1 HS=>?_) | refine wkR ?_
     all_goals (have hg4:=True.intro;first|(refine wkG (fun b hg4=>?_);cases b;all_goals first | exact Bool.noConfusion hg4 | simp only [zU,zV] at hg4 | skip) | refine wkR ?_)
     all_goals refine wkP ?_
     all_goals refine wkR ?_
     all_goals refine wkR ?_
     all_goals (have hg7:=True.intro;first|(refine wkG (fun b hg7=>?_);cases b;all_goals first | exact Bool.noConfusion hg7 | simp only [zU,zV] at hg7 | skip) | refine wkR ?_)
     all_goals refine wkP ?_
     iterate 13
      all_goals refine wkR ?_
     all_goals (have hg21:=True.intro;first|(refine wkG (fun b hg21=>?_);cases b;all_goals first | exact Bool.noConfusion hg21 | simp only [zU,zV] at hg21 | skip) | refine wkR ?_)
     all_goals refine wkP ?_
     all_goals refine jA ?_
     all_goals have EG:=(tQ hbel (tQ EC HS))
     all_goals first
       | (have HT:=yD (HNO.out hg4);go_wp2;go_roundw;(case rel=>exact ⟨k + 1,-1,by omega,by go_num,rfl,HT,yD (.inl rfl),EG⟩);(case measure=>simp [intOf];omega))
       | (have HT:=yD (HNEW.out hg4);go_wp2;go_roundw;(case rel=>exact ⟨k + 1,(k:Int),by omega,by go_num,rfl,HT,yD (.inr ⟨k,by omega,rfl⟩),EG⟩);(case measure=>simp [intOf];omega))
   have hj:j < l.length:=rP
   have hj0:=Int.natCast_nonneg j
   have hj2:=Int.ofNat_lt.2 hj
   obtain ⟨yb,yo,yE,yc0,yc1,yc2,yr,Ay0,Ay1,Ay2⟩:=Rep.kBg rdl.1 hj rfl
   simp only [Option.some.injEq,Addr.mk.injEq,and_true] at yE
   obtain ⟨rfl,rfl⟩:=yE
   obtain ⟨yv0,yhe,y_0,y_1,y_2,y_3⟩:=yg yr
   simp only [List.cons.injEq,and_true] at yhe
   obtain ⟨rfl,rfl,rfl⟩:=yhe
   obtain ⟨ya,yp,rfl,yl⟩:=Rep.sl y_1
   have py:kL.rd wr _ l[j].1:=⟨y_0,(Rep.yF HL.out hj).1⟩
   clear yr y_2 y_3 y_1 y_0
   have hno:=fun q=>(mB_no (n:=n) hlt q).trans HM.out
   have hup:=fun q q2=>mB_up (n:=n) hlt q hj HM.out q2
   have hkeep:=fun q2=>mB_keep (n:=n) hlt hj HM.out q2
   clear rdl py
   generalize l[k]=x at *
   generalize l[j]=y at *
   have HNO:=yD hno;have HUP:=yD hup;have HKEEP:=yD hkeep;clear hno hup hkeep
   by_cases h3:y.1.length < x.1.length
   · have hd:decide ((y.1.length:Int) < x.1.length)=true:=qQ
     have hd2:decide ((x.1.length:Int) > y.1.length)=true:=qQ
     have hdn:decide (y.1.length < x.1.length)=true:=qQ
     replace K0:=cL hbel K0
     go_upto_region 5 with fail
     generalize hwC:World.alloc wr _=wC
     have EC:Below wr.heap.size wr wC:=nA
     have M0:wC.cell? ⟨wr.heap.size,0,none⟩=some (.slice xa x.1.length xp):=nW
     have M1:wC.cell? ⟨wr.heap.size,1,none⟩=some (.int .i64 x.2.1):=nW
     have M2:wC.cell? ⟨wr.heap.size,2,none⟩=some (.int .i64 x.2.2):=nW
     replace K0:=cL EC K0
     (try replace Ay0:=cL EC Ay0);(try replace Ay1:=cL EC Ay1);(try replace Ay2:=cL EC Ay2);clear hwC
     have FX:=yD (fun (W:World) (hW:Below wC.heap.size wC W)=>kMn hW K0 M0 M1 M2 Ay0)
     refine jB (fun W=>Below wC.heap.size wC W) [true,true,true,false,true,true,true,true,true,true,true,true,true,true,true,true,true,true,true,true,true,true] rF rF gX (bR.drew) ?_
     intro wS HS
     iterate 3
      all_goals refine wkR ?_
     all_goals first | refine wkB (kEm (HN.out.below ((tQ EB ((tQ hbel (tQ EC HS)))))) (px.below (tQ EC HS))) (fun wS1 HS=>?_) | refine wkR ?_
     all_goals (have hg4:=True.intro;first|(refine wkG (fun b hg4=>?_);cases b;all_goals first | exact Bool.noConfusion hg4 | simp only [zU,zV] at hg4 | skip) | refine wkR ?_)
     all_goals refine wkP ?_
     all_goals refine wkR ?_
     all_goals refine wkR ?_
     all_goals (have hg7:=True.intro;first|(refine wkG (fun b hg7=>?_);cases b;all_goals first | exact Bool.noConfusion hg7 | simp only [zU,zV] at hg7 | skip) | refine wkR ?_)
     all_goals refine wkP ?_
     iterate 13
      all_goals refine wkR ?_
     all_goals (have hg21:=True.intro;first|(refine wkG (fun b hg21=>?_);cases b;all_goals first | exact Bool.noConfusion hg21 | simp only [zU,zV] at hg21 | skip) | refine wkR ?_)
     all_goals refine wkP ?_
     all_goals refine jA ?_
     all_goals have EG:=(tQ hbel (tQ EC HS))
     all_goals first
       | (have HT:=yD (HNO.out hg4);go_wp2;go_roundw;(case rel=>exact ⟨k + 1,(j:Int),by omega,by go_num,rfl,HT,yD (.inr ⟨j,by omega,rfl⟩),EG⟩);(case measure=>simp [intOf];omega))
       | (have HT:=yD ((fun q=>HUP.out q h3) hg4);go_wp2;go_roundw;(case rel=>exact ⟨k + 1,(k:Int),by omega,by go_num,rfl,HT,yD (.inr ⟨k,by omega,rfl⟩),EG⟩);(case measure=>simp [intOf];omega))
   have hd:decide ((y.1.length:Int) < x.1.length)=false:=qQ
   have hd2:decide ((x.1.length:Int) > y.1.length)=false:=qQ
   have hdn:decide (y.1.length < x.1.length)=false:=qQ
   replace K0:=cL hbel K0
   go_upto_region 5 with fail
   generalize hwC:World.alloc wr _=wC
   have EC:Below wr.heap.size wr wC:=nA
   have M0:wC.cell? ⟨wr.heap.size,0,none⟩=some (.slice xa x.1.length xp):=nW
   have M1:wC.cell? ⟨wr.heap.size,1,none⟩=some (.int .i64 x.2.1):=nW
   have M2:wC.cell? ⟨wr.heap.size,2,none⟩=some (.int .i64 x.2.2):=nW
   replace K0:=cL EC K0
   (try replace Ay0:=cL EC Ay0);(try replace Ay1:=cL EC Ay1);(try replace Ay2:=cL EC Ay2);clear hwC
   have FX:=yD (fun (W:World) (hW:Below wC.heap.size wC W)=>kMn hW K0 M0 M1 M2 Ay0)
   refine jB (fun W=>Below wC.heap.size wC W) [true,true,true,false,true,true,true,true,true,true,true,true,true,true,true,true,true,true,true,true,true,true] rF rF gX (bR.drew) ?_
   intro wS HS
   iterate 3
    all_goals refine wkR ?_
   all_goals first | refine wkB (kEm (HN.out.below ((tQ EB ((tQ hbel (tQ EC HS)))))) (px.below (tQ EC HS))) (fun wS1 HS=>?_) | refine wkR ?_
   all_goals (have hg4:=True.intro;first|(refine wkG (fun b hg4=>?_);cases b;all_goals first | exact Bool.noConfusion hg4 | simp only [zU,zV] at hg4 | skip) | refine wkR ?_)
   all_goals refine wkP ?_
   all_goals refine wkR ?_
   all_goals refine wkR ?_
   all_goals (have hg7:=True.intro;first|(refine wkG (fun b hg7=>?_);cases b;all_goals first | exact Bool.noConfusion hg7 | simp only [zU,zV] at hg7 | skip) | refine wkR ?_)
   all_goals refine wkP ?_
   iterate 13
    all_goals refine wkR ?_
   all_goals (have hg21:=True.intro;first|(refine wkG (fun b hg21=>?_);cases b;all_goals first | exact Bool.noConfusion hg21 | simp only [zU,zV] at hg21 | skip) | refine wkR ?_)
   all_goals refine wkP ?_
   all_goals refine jA ?_
   all_goals have EG:=(tQ hbel (tQ EC HS))
   all_goals first
     | (have HT:=yD (HNO.out hg4);go_wp2;go_roundw;(case rel=>exact ⟨k + 1,(j:Int),by omega,by go_num,rfl,HT,yD (.inr ⟨j,by omega,rfl⟩),EG⟩);(case measure=>simp [intOf];omega))
     | (have HT:=yD ((fun (_:kHk n x.1=true)=>HKEEP.out h3) hg4);go_wp2;go_roundw;(case rel=>exact ⟨k + 1,(j:Int),by omega,by go_num,rfl,HT,yD (.inr ⟨j,by omega,rfl⟩),EG⟩);(case measure=>simp [intOf];omega))
 obtain rfl:k=l.length:=rP
 have EG:=(tQ EB hbel)
 have R0:=cL hbel K1
 have F0:wr.frozen? ⟨w.heap.size + 1,0,none⟩=false:=(hbel.frozen (p:=⟨w.heap.size + 1,0,none⟩) rG).trans F1
 rcases HR.out with rfl|⟨j,hj,rfl⟩
 · have HT:=yD (m_no HM.out)
   clear rdl
   go_wp2
   refine bodyPost_ret (v:=.tuple #[.agg #[.slice none 0 0],.bool false]) (by simp [results,Tryz.results76,go_sem,R0,F0]) rfl ⟨[.slice none 0 0],by rw [HT.out.1],?_,?_⟩
   · rw [HT.out.2];exact Rep.kCk
   exact EG.setCell rQ _
 have hj0:=Int.natCast_nonneg j
 have hj2:=Int.ofNat_lt.2 hj
 have HT:=yD (m_yes hj HM.out)
 obtain ⟨yb,yo,rfl,yc0,yc1,yc2,yr,Ay0,Ay1,Ay2⟩:=Rep.kBg rdl.1 hj rfl
 obtain ⟨yv0,yhe,y_0,y_1,y_2,y_3⟩:=yg yr
 simp only [List.cons.injEq,and_true] at yhe
 obtain ⟨rfl,rfl,rfl⟩:=yhe
 obtain ⟨ya,yp,rfl,yl⟩:=Rep.sl y_1
 have py:kL.rd wr _ l[j].1:=⟨y_0,(Rep.yF HL.out hj).1⟩
 clear yr y_2 y_3 y_1 y_0
 clear rdl
 generalize l[j]=y at *
 go_wp2_with fail
 refine (zW (py.below bH)).mono ?_
 rintro e w2 ⟨cs,rfl,O2,hb2⟩
 obtain ⟨cv,rfl,c_0⟩:=kM O2.raw
 obtain ⟨a2,c2,hv,_⟩:=Rep.kJe c_0
 obtain rfl:cv=_:=by simpa using hv
 have HO:Hid (kL.own w2 [.slice a2 y.1.length c2] y.1 (Btw (w.heap.size + 1 + 1) w2.heap.size)):=yD (O2.wide fF)
 have EF:Below w.heap.size w w2:=EG.trans (Below.mono (Below.trans bH hb2) EG.size)
 replace R0:=cL hb2 R0
 replace F0:w2.frozen? ⟨w.heap.size + 1,0,none⟩=false:=(hb2.frozen (p:=⟨w.heap.size + 1,0,none⟩) (by have:=hbel.size;simp;omega)).trans F0
 clear hv O2 c_0 hb2 EG
 go_wp2
 refine bodyPost_ret (v:=.tuple #[.agg #[.slice a2 y.1.length c2],.bool true]) (by simp [results,Tryz.results76,go_sem,R0,F0]) rfl ⟨[.slice a2 y.1.length c2],by rw [HT.out.1],?_,?_⟩
 · rw [HT.out.2]
   exact (HO.out.setCell dP).wide dR
 exact EF.setCell rQ _
end Go.Proofs.YtlfblpgkegeaeaaGreat
