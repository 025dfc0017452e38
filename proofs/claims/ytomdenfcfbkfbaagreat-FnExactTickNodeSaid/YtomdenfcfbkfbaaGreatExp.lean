/-
  Pending interests whose time has expired leave.
-/
import Derived.Test.YtomdenfcfbkfbaaGreatBase
import Derived.Test.YtomdenfcfbkfbaaGreatCopyP
import Derived.Test.YtomdenfcfbkfbaaGreatCopyP0
import Derived.Test.YtomdenfcfbkfbaaGreatDelF
import Derived.Test.YtomdenfcfbkfbaaGreatTake2
import Derived.IntWalk
import Derived.Deep.Cut
import Derived.WalkSpells
import Derived.WalkLawsBesides
namespace Go.Proofs.YtomdenfcfbkfbaaGreat
open Go.RowKit
set_option linter.unusedVariables false
set_option linter.unusedSimpArgs false
set_option linter.unnecessarySimpa false
def expR (now:Int) (rs:List LRequester):List LRequester:=rs.filter (fun r=>decide (now≤r.2.2))
def expP (now:Int) (l:List kP):List kP:=(l.map (fun p=>(p.1,expR now p.2.1,p.2.2))).filter (fun p=>decide (0 < p.2.1.length))
theorem expR_len (now:Int) (rs:List LRequester):(expR now rs).length≤rs.length:=List.length_filter_le _ _
theorem expP_len (now:Int) (l:List kP):(expP now l).length≤l.length:=Nat.le_trans (List.length_filter_le _ _) (by simp)
theorem expP_yes {now:Int} {l:List kP} {k:Nat} (h:k < l.length) (q:0 < (expR now l[k].2.1).length):expP now (l.take (k + 1))=expP now (l.take k)++[(l[k].1,expR now l[k].2.1,l[k].2.2)]:=by
 unfold expP
 rw [List.take_succ_eq_append_getElem h,List.map_append,List.filter_append]
 simp [q]
theorem expP_no {now:Int} {l:List kP} {k:Nat} (h:k < l.length) (q:¬ 0 < (expR now l[k].2.1).length):expP now (l.take (k + 1))=expP now (l.take k):=by
 unfold expP
 rw [List.take_succ_eq_append_getElem h,List.map_append,List.filter_append]
 have:decide (0 < (expR now l[k].2.1).length)=false:=by simpa using q
 simp [this]
theorem expR_yes {now:Int} {l:List LRequester} {k:Nat} (h:k < l.length) (q:now≤l[k].2.2):expR now (l.take (k + 1))=expR now (l.take k)++[l[k]]:=filter_yes (p:=fun r:LRequester=>decide (now≤r.2.2)) h (by simpa using q)
theorem expR_no {now:Int} {l:List LRequester} {k:Nat} (h:k < l.length) (q:¬ now≤l[k].2.2):expR now (l.take (k + 1))=expR now (l.take k):=filter_no (p:=fun r:LRequester=>decide (now≤r.2.2)) h (by simpa using q)
theorem expR_take (now:Int) (l:List LRequester) (k:Nat):(expR now (l.take k)).length≤l.length:=Nat.le_trans (expR_len _ _) (by rw [List.length_take];omega)
theorem expP_take (now:Int) (l:List kP) (k:Nat):(expP now (l.take k)).length≤l.length:=Nat.le_trans (expP_len _ _) (by rw [List.length_take];omega)
set_option maxRecDepth 100000 in
set_option maxHeartbeats 4000000 in
theorem specExpirePending_c {w:World} {vl:Value} {l:List kP} (hl:(Rep.slice 77 kH).rd w [vl] l) (hln:l.length≤2000000) (hrn:∀ x∈l,x.2.1.length≤2000000) {now:Int} :
    Calls Tryz.prog 28 #[vl,.int .i64 now] w (MadePost (Rep.slice 77 kH) (expP now l) w):=by
 have HL:=hD hl
 have HRN:=hD hrn
 obtain ⟨la,lp,lh,ll⟩:=Rep.kR hl.1;obtain rfl:vl=_:=by simpa using lh
 clear lh hl hrn
 go_enter Tryz.func28,Tryz.ntmps28
 go_wp2
 go_loopw [5,6] (fun v i wr=>∃ (k:Nat) (a:Option Addr) (n c:Nat),v=.slice a n c∧i=.int .i64 k∧k≤l.length∧Hid (n=(expP now (l.take k)).length)∧Hid ((Rep.slice 77 kH).own wr [.slice a n c] (expP now (l.take k)) (Btw w.heap.size wr.heap.size))∧Below w.heap.size w wr) (fun _ i _=>l.length - (intOf i).toNat)
 case atStart=>exact ⟨0,_,0,0,rfl,rfl,Nat.zero_le _,hD rfl,hD Rep.void_own,(Below.refl _ _).alloc (Nat.le_refl _) _⟩
 obtain ⟨k,a,n,c,rfl,rfl,hk,HN,HO,hbel⟩:=hrel
 have hk0:=Int.natCast_nonneg k
 have hsr:=hbel.size
 have hek:=expP_take now l k
 by_cases hlt:k < l.length
 · have hk2:=Int.ofNat_lt.2 hlt
   obtain ⟨qb,qo,rfl,c0,c1,c2,qr,A0,A1,A2⟩:=Rep.get3 (HL.out.1.below hbel) hlt rfl
   have hbd:=Rep.raw_bdd HL.out hlt
   have hrl:=HRN.out _ (List.getElem_mem hlt)
   have hyes:=fun q=>expP_yes (now:=now) hlt q
   have hno:=fun q=>expP_no (now:=now) hlt q
   generalize l[k]=x at *
   have HYES:=hD hyes;have HNO:=hD hno;clear hyes hno
   obtain ⟨x0,x1,x2⟩:=x
   obtain ⟨qv0,qv1,qhe,q_0,q_1,q_2,q_3⟩:=RPendingInterest_raw qr
   simp only [List.cons.injEq,and_true] at qhe
   obtain ⟨rfl,rfl,rfl⟩:=qhe
   obtain ⟨na,np,nh,_⟩:=Rep.kR q_1;obtain rfl:c0=_:=by simpa using nh
   obtain ⟨ra,rp,rh,hrp⟩:=Rep.kR q_2;obtain rfl:c1=_:=by simpa using rh
   have hrcap:=Rep.cap_raw q_2
   have HQ:=hD q_2
   have HNM:Hid (RName.rd wr [.slice na x0.length np] x0):=hD ⟨q_0,hbd.1⟩
   simp only at hrl A0 A1 A2 hrcap
   clear nh rh qr q_0 q_1 q_2
   have HBD:=hD q_3
   clear q_3 hbd
   go_upto_region 6 with fail
   generalize hwC:World.alloc wr _=wC
   have EC:Below wr.heap.size wr wC:=by rw [← hwC];exact (Below.refl _ _).alloc (Nat.le_refl _) _
   clear hwC
   have hsC:=EC.size
   replace A0:=cL EC A0
   replace A1:=cL EC A1
   replace A2:=cL EC A2
   replace HQ:=hD (HQ.out.below EC)
   replace HNM:=hD (HNM.out.below EC)
   replace HO:=hD (HO.out.below EC)
   replace hbel:=hbel.trans (EC.mono hbel.size)
   clear EC
   go_wp2
   go_loopw [7,8] (fun v i wq=>∃ (m:Nat) (b:Option Addr) (bn bc:Nat),v=.slice b bn bc∧i=.int .i64 m∧m≤x1.length∧Hid (bn=(expR now (x1.take m)).length)∧Hid ((Rep.slice 81 kM).own wq [.slice b bn bc] (expR now (x1.take m)) (Btw wC.heap.size wq.heap.size))∧Below wC.heap.size wC wq) (fun _ i _=>x1.length - (intOf i).toNat)
   case atStart=>exact ⟨0,_,0,0,rfl,rfl,Nat.zero_le _,hD rfl,hD Rep.void_own,Below.refl _ _⟩
   obtain ⟨m,b,bn,bc,rfl,rfl,hm,HBN,HA,hbq⟩:=hrel
   have hm0:=Int.natCast_nonneg m
   have hsq:=hbq.size
   have B0:=cL hbq A0
   have B1:=cL hbq A1
   have B2:=cL hbq A2
   have hxm:=expR_take now x1 m
   by_cases hmt:m < x1.length
   · have hm2:=Int.ofNat_lt.2 hmt
     obtain ⟨rb,ro,rfl,r0,r1,r2,rr,R0,R1,R2⟩:=Rep.get3 (HQ.out.below hbq) hmt rfl
     have hry:=fun q=>expR_yes (now:=now) hmt q
     have hrno:=fun q=>expR_no (now:=now) hmt q
     generalize x1[m]=y at *
     have HRY:=hD hry;have HRNO:=hD hrno;clear hry hrno
     obtain ⟨y0,y1,y2⟩:=y
     obtain ⟨rhe,s_0,s_1,s_2⟩:=RRequester_raw rr
     simp only [List.cons.injEq,and_true] at rhe
     obtain ⟨rfl,rfl,rfl⟩:=rhe
     have HX:=hD (fun W=>Rep.flat.own (w:=W) (S:=fun _=>False) (Rep.flat_pair (Rep.flat_int s_0) (Rep.flat_pair (Rep.flat_int s_1) (Rep.flat_int s_2))))
     clear rr s_0 s_1 s_2
     by_cases hle:now≤y2
     · have HT:=hD (HRY.out hle)
       clear HRY HRNO
       have hro:ro=ro:=rfl
       go_wp2_with (at_builtin;refine Rep.wpList_pushG1 rfl _ _ 75 rfl (r:=kM) (e:=81) Tryz.underlying75 infRequester rfl (by decide) (by decide) HA.out (Below.refl _ _) (HX.out wr) (by rfl) (by rfl) (fun _ _ h=>h.elim) (by have:=expR_take now x1 m;omega) ?_)
       intro v5 w5 ho5 ht5
       have hs5:=ht5.size
       rw [← HT.out] at ho5
       obtain ⟨b5,c5,hv5,_⟩:=Rep.kR ho5.raw;obtain rfl:v5=_:=by simpa using hv5
       have HA5:=hD (ho5.wide (T:=Btw wC.heap.size w5.heap.size) (fun j q=>q.elim (fun q=>⟨q.1,by have:=q.2;omega⟩) (fun q=>⟨by have:=q.1;omega,q.2⟩)))
       have E5:=hbq.trans (ht5.below hsq (fun j q=>q.1.1))
       clear ho5 ht5 hv5
       go_wp2
       go_roundw
       case rel=>exact ⟨m + 1,b5,_,c5,rfl,by go_num,by omega,hD rfl,HA5,E5⟩
       simp [intOf];omega
     have HT:=hD (HRNO.out hle)
     clear HRY HRNO
     go_wp2
     go_roundw
     case rel=>exact ⟨m + 1,b,bn,bc,rfl,by go_num,by omega,hD (by rw [HT.out];exact HBN.out),hD (by rw [HT.out];exact HA.out),hbq⟩
     simp [intOf];omega
   have hm3:¬ ((m:Int) < x1.length):=by omega
   obtain rfl:m=x1.length:=by omega
   have HBE:=hD (show bn=(expR now x1).length by have:=HBN.out;rwa [List.take_length] at this)
   replace HA:=hD (show (Rep.slice 81 kM).own wr [.slice b bn bc] (expR now x1) (Btw wC.heap.size wr.heap.size) by have:=HA.out;rwa [List.take_length] at this)
   clear HBN hxm
   by_cases hpos:0 < bn
   · have HT:=hD (HYES.out (by have h_:=HBE.out;omega))
     have hposI:(0:Int) < bn:=by omega
     clear HYES HNO
     go_wp2_with fail
     refine (specl4Copy_c (HNM.out.below hbq)).mono ?_
     rintro e wT ⟨tc,rfl,OT,hbT⟩
     obtain ⟨tv0,rfl,t_0⟩:=RName_raw OT.raw
     obtain ⟨ta0,tp0,th0,_⟩:=Rep.kR t_0;obtain rfl:tv0=_:=(by simpa using th0)
     clear th0 t_0
     have hsT:=hbT.size
     go_upto_region 13 with fail
     generalize hwD:World.alloc wT _=wD
     have ED:Below wT.heap.size wT wD:=by rw [← hwD];exact (Below.refl _ _).alloc (Nat.le_refl _) _
     have KD:wD.cell? ⟨wT.heap.size,0,none⟩=some (.slice ta0 x0.length tp0):=by rw [← hwD];simp [go_sem]
     clear hwD
     have hsD:=ED.size
     have ER:=hbT.trans (ED.mono hbT.size)
     replace B2:=cL ER B2
     have ERC:=hbq.trans (ER.mono hbq.size)
     refine wp_region_soft_tail (fun W=>Below wD.heap.size wD W) [true,true,true,true,true,true,true,true,true,false] (by kernel_rfl) (by kernel_rfl) (fun c a d v w h=>by cases d <;> exact h) ((Below.refl _ _).drew) ?_
     intro wS HS
     all_goals first|(refine kC rfl HS ?_)|(refine kD (v:=?_) rfl (fun W hW=>?_) ?_;rotate_left;(· go_simp;try with_reducible rfl))
     all_goals try simp only [Act.put,zA,zB,zC]
     all_goals first|(refine kC rfl HS ?_)|(refine kD (v:=?_) rfl (fun W hW=>?_) ?_;rotate_left;(· have A_KD:=cL hW KD;have A_B2:=cL hW B2;clear hW;go_simp;try with_reducible rfl))
     iterate 5
      all_goals try simp only [Act.put,zA,zB,zC]
      all_goals first|(refine kC rfl HS ?_)|(refine kD (v:=?_) rfl (fun W hW=>?_) ?_;rotate_left;(· go_simp;try with_reducible rfl))
     all_goals try simp only [Act.put,zA,zB,zC]
     all_goals first|(refine kC rfl HS ?_)|(refine kD (v:=?_) rfl (fun W hW=>?_) ?_;rotate_left;(· have A_KD:=cL hW KD;have A_B2:=cL hW B2;clear hW;go_simp;try with_reducible rfl))
     all_goals try simp only [Act.put,zA,zB,zC]
     all_goals first|(refine kC rfl HS ?_)|(refine kD (v:=?_) rfl (fun W hW=>?_) ?_;rotate_left;(· go_simp;try with_reducible rfl))
     all_goals try simp only [Act.put,zA,zB,zC]
     all_goals first|(refine kC rfl HS ?_)|(refine kF rfl (fun K hK=>?_);go_simp;refine hK _ _ (HS.alloc HS.size _) ?_;clear hK K)
     all_goals try simp only [Act.put,zA,zB,zC]
     all_goals refine soft_rest ?_
     have hsS:=HS.size
     go_wp2_with (at_builtin;refine Rep.wpList_pushG1 rfl _ _ 37 rfl (r:=kH) (e:=77) Tryz.underlying37 infPendingInterest rfl (by decide) (by decide) HO.out (ERC.trans (HS.mono ERC.size)) (Rep.own.wide (T:=Btw wC.heap.size wS.heap.size) (Rep.own_pair (r:=RName) (q:=Rep.pair (Rep.slice 81 kM) Rep.int) (cs:=[.slice ta0 x0.length tp0]) (ds:=[.slice b bn bc,.int .i64 x2]) (x:=x0) (y:=(expR now x1,x2)) (A:=Btw wr.heap.size wT.heap.size) (B:=Btw wC.heap.size wr.heap.size) (S:=Btw wC.heap.size wT.heap.size) (OT.below (ED.trans (HS.mono ED.size))) (Rep.own_flat (HA.out.below (ER.trans (HS.mono ER.size))) (Rep.flat_int HBD.out)) (fun j q=>⟨by have:=q.1;omega,q.2⟩) (fun j q=>⟨q.1,by have:=q.2;omega⟩) (fun j q1 q2=>by have:=q1.1;have:=q2.2;omega)) (fun j q=>⟨q.1,by have:=q.2;omega⟩)) (by rfl) (by rfl) (fun j h1 h2=>by have:=h1.2;have:=h2.1;omega) (by omega) ?_)
     intro v6 w6 ho6 ht6
     have hs6:=ht6.size
     rw [← HT.out] at ho6
     obtain ⟨b6,c6,hv6,_⟩:=Rep.kR ho6.raw;obtain rfl:v6=_:=by simpa using hv6
     have HO6:=hD (ho6.wide (T:=Btw w.heap.size w6.heap.size) (fun j q=>by rcases q with q | q | q;exact ⟨q.1,by have:=q.2;omega⟩;exact ⟨by have:=q.1;omega,by have:=q.2;omega⟩;exact ⟨by have:=q.1;omega,q.2⟩))
     have EB:=hbel.trans (ERC.mono hbel.size)
     have E6:=EB.trans ((HS.mono (by omega)).trans (ht6.below (by omega) (fun j q=>q.1.1)))
     clear ho6 ht6 hv6
     go_wp2
     go_roundw
     case rel=>exact ⟨k + 1,b6,_,c6,rfl,by go_num,by omega,hD rfl,HO6,E6⟩
     simp [intOf];omega
   have HT:=hD (HNO.out (by have h_:=HBE.out;omega))
   have hposI:¬ (0:Int) < bn:=by omega
   clear HYES HNO
   go_wp2
   go_roundw
   case rel=>exact ⟨k + 1,a,n,c,rfl,by go_num,by omega,hD (by rw [HT.out];exact HN.out),hD (by rw [HT.out];exact (HO.out.below hbq).wide (fun j q=>⟨q.1,by have:=q.2;omega⟩)),hbel.trans (hbq.mono hbel.size)⟩
   simp [intOf];omega
 have hk3:¬ ((k:Int) < l.length):=by omega
 obtain rfl:k=l.length:=by omega
 go_wp2
 go_ret
 exact ⟨_,rfl,by have:=HO.out;rwa [List.take_length] at this,hbel⟩
theorem pend0_open {w:World} {cs:List Value} {x:kP} {C:Nat→Prop} (h:RPend0.own w cs x C):∃ (na:Option Addr) (np:Nat) (ra:Option Addr) (rp:Nat) (A B:Nat→Prop),
    cs=[.slice na x.1.length np,.slice ra x.2.1.length rp,.int .i64 x.2.2]∧RName.own w [.slice na x.1.length np] x.1 A∧Rep.own0 81 kM w (.slice ra x.2.1.length rp) x.2.1 B∧(∀ j,A j→C j)∧(∀ j,B j→C j)∧(∀ j,A j→B j→False)∧(-9223372036854775808≤x.2.2∧x.2.2≤9223372036854775807):=by
 obtain ⟨⟨c,d,A,B,rfl,h1,⟨c2,d2,A2,B2,rfl,h2,h3,k1,k2,k3⟩,k4,k5,k6⟩,hb⟩:=h
 have hn:RName.own w c x.1 A:=⟨h1,hb.1⟩
 obtain ⟨cn,rfl,n0⟩:=RName_raw hn.raw
 obtain ⟨na,np,nh,_⟩:=Rep.kR n0;obtain rfl:cn=_:=by simpa using nh
 obtain ⟨ra,ln,rp,rfl,rfl,hrest⟩:=h2.1
 obtain ⟨rfl,hr⟩:=h3
 exact ⟨na,np,ra,rp,A,A2,rfl,hn,Rep.own0_of (e:=81) (r:=kM) (w:=w) (v:=.slice ra x.2.1.length rp) (xs:=x.2.1) (S:=A2) ⟨h2,hb.2.1⟩,k4,fun j hj=>k5 j (k1 j hj),fun j a b=>k6 rfl j a (k1 j b),hr⟩
def oldR (now:Int) (r:LRequester):Bool:=decide (r.2.2 < now)
theorem oldR_filter (now:Int) (rs:List LRequester):rs.filter (fun r=>!oldR now r)=expR now rs:=by
 unfold expR oldR
 congr 1
 funext r
 by_cases h:r.2.2 < now
 · have:¬ now≤r.2.2:=by omega
   simp [h,this]
 have:now≤r.2.2:=by omega
 simp [h,this]
set_option maxRecDepth 100000 in
set_option maxHeartbeats 2000000 in
theorem implExpirePending1_c {w:World} {cr:List Value} {r:LRequester} (hr:kM.raw w cr r) {now:Int} {Bnow:Nat} (Anow0:w.cell? ⟨Bnow,0,none⟩=some (.int .i64 now)) :
    Calls Tryz.prog 132 (#[.agg cr.toArray]++#[.pointer (some ⟨Bnow,0,none⟩)]) w fun e w'=>e=.returned (.bool (oldR now r))∧Below w.heap.size w w':=by
 have Hr:=hD hr
 obtain ⟨rfl,fr_0,fr_1,fr_2⟩:=RRequester_raw hr
 show Calls Tryz.prog 132 #[_,_] w _
 go_enter Tryz.func132,Tryz.ntmps132
 go_upto_region 1 with fail
 generalize hwB:World.alloc w _=wB
 have EB:Below w.heap.size w wB:=by rw [← hwB];exact (by repeat (first|(with_reducible exact Below.refl _ _) | refine Below.alloc ?_ (by simp;try omega) _ | refine Below.drew ?_ | refine Below.setCell ?_ (by simp;try omega) _))
 have K2_0:wB.cell? ⟨w.heap.size,0,none⟩=some (.int .i64 r.1):=by rw [← hwB];simp [go_sem]
 have K2_1:wB.cell? ⟨w.heap.size,1,none⟩=some (.int .i64 r.2.1):=by rw [← hwB];simp [go_sem]
 have K2_2:wB.cell? ⟨w.heap.size,2,none⟩=some (.int .i64 r.2.2):=by rw [← hwB];simp [go_sem]
 clear hwB
 replace Anow0:=cL EB Anow0
 refine wp_region_soft_plain (fun W=>Below wB.heap.size wB W) [true,true,true,true,true] (Below.refl _ _) ?_
 intro wS HS
 all_goals first|(refine kC rfl HS ?_)|(refine kD (v:=?_) rfl (fun W hW=>?_) ?_;rotate_left;(· go_simp;try with_reducible rfl))
 iterate 2
  all_goals try simp only [Act.put,zA,zB,zC]
  all_goals first|(refine kC rfl HS ?_)|(refine kD (v:=?_) rfl (fun W hW=>?_) ?_;rotate_left;(· have A_K2_0:=cL hW K2_0;have A_K2_1:=cL hW K2_1;have A_K2_2:=cL hW K2_2;have A_Anow0:=cL hW Anow0;clear hW;go_simp;try with_reducible rfl))
 all_goals try simp only [Act.put,zA,zB,zC]
 all_goals first|(refine kC rfl HS ?_)|(refine kD (v:=?_) rfl (fun W hW=>?_) ?_;rotate_left;(· go_simp;try with_reducible rfl))
 all_goals try simp only [Act.put,zA,zB,zC]
 all_goals first|(refine kC rfl HS ?_;have hg4:=True.intro)|(refine kE (v:=?_) (b:=?_) rfl (fun W hW=>?_) ?_ (fun b hg4=>?_);rotate_left;rotate_left;(· go_simp;try with_reducible rfl);(· with_reducible rfl);cases b;all_goals first|(exact Bool.noConfusion hg4)|(simp only [Bool.not_eq_true',Bool.not_eq_false'] at hg4) | skip)
 all_goals try simp only [Act.put,zA,zB,zC]
 all_goals refine soft_nil ?_
 all_goals have EG:=EB.trans (HS.mono EB.size)
 all_goals first
   | (have HT:=hD (show (oldR now r)=false by simp only [oldR,Bool.not_true,Bool.not_false,Bool.and_true,Bool.true_and,Bool.and_false,Bool.false_and,Bool.or_true,Bool.true_or,Bool.or_false,Bool.false_or,Bool.not_not,hg4]);go_wp2;go_ret;exact ⟨kT HT.out.symm,EG⟩)
   | (have HT:=hD (show (oldR now r)=true by simp only [oldR,Bool.not_true,Bool.not_false,Bool.and_true,Bool.true_and,Bool.and_false,Bool.false_and,Bool.or_true,Bool.true_or,Bool.or_false,Bool.false_or,Bool.not_not,hg4]);go_wp2;go_ret;exact ⟨kT HT.out.symm,EG⟩)
theorem callable_implExpirePending1_c:Callable Tryz.prog 132:=callable_of Tryz.func132 (by kernel_rfl) (by kernel_rfl)
set_option maxRecDepth 100000 in
set_option maxHeartbeats 4000000 in
theorem implExpirePending_c {w:World} {vl:Value} {l:List kP} (hl:(Rep.slice 77 kH).rd w [vl] l) (hln:l.length≤2000000) (hrn:∀ x∈l,x.2.1.length≤2000000) {now:Int} :
    Calls Tryz.prog 42 #[vl,.int .i64 now] w (MadePost (Rep.slice 77 kH) (expP now l) w):=by
 have HL:=hD hl
 have HRN:=hD hrn
 obtain ⟨la,lp,lh,ll⟩:=Rep.kR hl.1;obtain rfl:vl=_:=by simpa using lh
 clear lh hl hrn
 go_enter Tryz.func42,Tryz.ntmps42
 go_upto_region 2 with fail
 generalize hwB:World.alloc (World.alloc w _) _=wB
 have EB:Below w.heap.size w wB:=by rw [← hwB];exact (by repeat (first|(with_reducible exact Below.refl _ _) | refine Below.alloc ?_ (by simp;try omega) _ | refine Below.drew ?_ | refine Below.setCell ?_ (by simp;try omega) _))
 have hzB:w.heap.size + 2≤wB.heap.size:=by rw [← hwB];simp
 have KN:wB.cell? ⟨w.heap.size,0,none⟩=some (.int .i64 now):=by rw [← hwB];simp [go_sem]
 clear hwB
 go_wp2_with fail
 refine (implcopyPending_0 (HL.out.below EB)).mono ?_
 rintro e w2 ⟨v2,rfl,O2,hb2⟩
 have hz2:=hb2.size
 replace KN:=cL hb2 KN
 have E2:=EB.trans (hb2.mono EB.size)
 obtain ⟨va,vn,vc,hv2,HVN⟩:=O2.parts;obtain rfl:=hv2
 have HG:Hid (0 < l.length→∃ b,va=some ⟨b,0,none⟩∧Rep.gap 77 RPend0 w2 b vc l.length [] 0 l (Btw wB.heap.size w2.heap.size)):=hD (fun h=>by
   obtain ⟨b,cap,he,hg⟩:=Rep.gap_start O2 h
   simp only [Value.slice.injEq] at he
   obtain ⟨rfl,_,rfl⟩:=he
   exact ⟨b,rfl,by simpa using hg⟩)
 have hvn:=HVN.out
 subst hvn
 clear O2 HVN hb2
 go_wp2
 go_loopw [5,12] (fun v i wr=>∃ (k:Nat) (a:Option Addr) (n c:Nat) (SG T:Nat→Prop),v=.slice a n c∧i=.int .i64 k∧k≤l.length∧Hid (n=(expP now (l.take k)).length)∧Hid ((Rep.slice 77 kH).own wr [.slice a n c] (expP now (l.take k)) T)∧Hid (k < l.length→∃ b,va=some ⟨b,0,none⟩∧Rep.gap 77 RPend0 wr b vc l.length [] k (l.drop k) SG) ∧
     Hid (∀ j,SG j→wB.heap.size≤j∧j < w2.heap.size)∧Hid (∀ j,T j→w.heap.size + 1≤j∧j < wr.heap.size)∧Hid (∀ j,SG j→T j→False)∧wr.cell? ⟨w.heap.size,0,none⟩=some (.int .i64 now)∧w2.heap.size≤wr.heap.size∧Below w.heap.size w wr) (fun _ i _=>l.length - (intOf i).toNat)
 case atStart=>exact ⟨0,_,0,0,Btw wB.heap.size w2.heap.size,fun _=>False,rfl,rfl,Nat.zero_le _,hD rfl,hD Rep.void_own,hD (fun h=>by rw [List.drop_zero];exact HG.out h),hD (fun j q=>q),hD (fun _ q=>q.elim),hD (fun _ _ q=>q),KN,Nat.le_refl _,E2⟩
 clear HG KN E2
 obtain ⟨k,a,n,c,SG,T,rfl,rfl,hk,HN,HO,HG,HSG,HT,HD,KN,hsr,hbel⟩:=hrel
 have hk0:=Int.natCast_nonneg k
 have hsw:=hbel.size
 have hek:=expP_take now l k
 by_cases hlt:k < l.length
 · have hk2:=Int.ofNat_lt.2 hlt
   obtain ⟨b,rfl,hg⟩:=HG.out hlt
   rw [List.drop_eq_getElem_cons hlt] at hg
   obtain ⟨cs,C,hown,hC,hcell,hg2⟩:=hg.skip2
   have HG2:=hD hg2
   have hrl:=HRN.out _ (List.getElem_mem hlt)
   have hyes:=fun q=>expP_yes (now:=now) hlt q
   have hno:=fun q=>expP_no (now:=now) hlt q
   generalize l[k]=x at *
   have HYES:=hD hyes;have HNO:=hD hno;clear hyes hno hg hg2
   obtain ⟨na,np,ra,rp,A,B,rfl,hA,hB,hAC,hBC,hAB,hxr⟩:=pend0_open hown
   obtain ⟨x0,x1,x2⟩:=x
   simp only at hrl hA hB hxr
   have A0:wr.cell? ⟨b,k * 3,none⟩=some (.slice na x0.length np):=by have h:=hcell 0 _ rfl;rw [List.length_nil,Nat.zero_add,Nat.add_zero] at h;exact h
   have A1:wr.cell? ⟨b,k * 3 + 1,none⟩=some (.slice ra x1.length rp):=by have h:=hcell 1 _ rfl;rw [List.length_nil,Nat.zero_add] at h;exact h
   have A2:wr.cell? ⟨b,k * 3 + 2,none⟩=some (.int .i64 x2):=by have h:=hcell 2 _ rfl;rw [List.length_nil,Nat.zero_add] at h;exact h
   have HA:=hD hA;have HB:=hD hB;have HAC:=hD hAC;have HBC:=hD hBC;have HAB:=hD hAB;have HXR:=hD hxr;have HC:=hD hC
   clear hown hC hcell hA hB hAC hBC hAB hxr HG
   go_upto_region 5 with fail
   generalize hwC:World.alloc wr _=wC
   have EC:Below wr.heap.size wr wC:=by rw [← hwC];exact (Below.refl _ _).alloc (Nat.le_refl _) _
   have BX:wC.heap[wr.heap.size]?=some (.cells #[.slice na x0.length np,.slice ra x1.length rp,.int .i64 x2] 77 (0,0)):=by rw [← hwC];exact heap_new_at rfl
   have hsC:wr.heap.size + 1≤wC.heap.size:=by rw [← hwC];simp
   clear hwC A0 A1 A2
   replace KN:=cL EC KN
   replace HA:=hD (HA.out.below EC)
   replace HB:=hD (HB.out.below EC)
   have K0:wC.cell? ⟨wr.heap.size,1,none⟩=some (.slice ra x1.length rp):=kG BX rfl
   have HKN:=hD KN
   go_wp2_with fail
   refine (DeleteFunc_Requester_c (oldR now) callable_implExpirePending1_c HB.out (by omega) (fun W hW x cs hr=>implExpirePending1_c hr ?_)).mono ?_
   · have e1:W.heap[w.heap.size]?=wC.heap[w.heap.size]?:=hW.block _ (by omega) (fun q=>by have:=(HSG.out _ (HC.out _ (HBC.out _ q)).1).1;omega)
     rw [← HKN.out];unfold World.cell?;simp only [e1]
   rintro e w3 ⟨v3,rfl,O3,T3⟩
   rw [oldR_filter] at O3
   have hBw:∀ j,B j→wB.heap.size≤j∧j < w2.heap.size:=fun j q=>HSG.out _ (HC.out _ (HBC.out _ q)).1
   have BX3:=T3.kN BX (fun q=>by have:=hBw _ q;omega)
   have hs3:=T3.size
   have KN3:w3.cell? ⟨w.heap.size,0,none⟩=some (.int .i64 now):=by
    have e1:w3.heap[w.heap.size]?=wC.heap[w.heap.size]?:=T3.block _ (by omega) (fun q=>by have:=hBw _ q;omega)
    rw [← HKN.out];unfold World.cell?;simp only [e1]
   have hTB:∀ j,T j→¬ B j:=fun j q1 q2=>HD.out j (HC.out _ (HBC.out _ q2)).1 q1
   have HA3:=hD (HA.out.touch T3 (fun j q1 q2=>HAB.out j q1 q2))
   have HO3:=hD ((HO.out.below EC).touch T3 hTB)
   have HG3:=hD (fun h:k + 1 < l.length=>(show ∃ b',some (⟨b,0,none⟩:Addr)=some ⟨b',0,none⟩∧Rep.gap 77 RPend0 w3 b' vc l.length [] (k + 1) (l.drop (k + 1)) (fun j=>SG j∧¬ C j) from ⟨b,rfl,(HG2.out.below EC).keep (fun j q hj=>T3.block j hj (fun q2=>q.2 (HBC.out _ q2)))⟩))
   have E3:=(hbel.trans (EC.mono hbel.size)).trans (T3.below (by omega) (fun j q=>by have:=hBw _ q;omega))
   obtain ⟨pa,pn,pc,hp,HPN⟩:=O3.parts;obtain rfl:=hp
   have HB3:=hD O3
   have HBW:=hD hBw
   clear O3 T3 HA HB HO HG2 BX KN HKN K0 EC hTB hBw
   have K3:w3.cell? ⟨wr.heap.size,1,none⟩=some (.slice ra x1.length rp):=kG BX3 rfl
   have F3:w3.frozen? ⟨wr.heap.size,1,none⟩=false:=frozen_of_row w3 wr.heap.size 1 _ _ BX3
   go_upto_region 6 with fail
   generalize hwD:World.setCell w3 _ _=wD
   have TD:Touch (fun j=>j=wr.heap.size) w3 wD:=by rw [← hwD];exact kV w3 wr.heap.size 1 _
   have BX4:wD.heap[wr.heap.size]?=some (.cells #[.slice na x0.length np,.slice pa pn pc,.int .i64 x2] 77 (0,0)):=by rw [← hwD];exact setCell_row BX3 1
   clear hwD K3 F3
   have hsD:=TD.size
   have HA4:=hD (HA3.out.touch TD (fun j q1 q2=>by have:=(HSG.out _ (HC.out _ (HAC.out _ q1)).1).2;omega))
   have HB4:=hD (HB3.out.touch TD (fun j q1 q2=>by have:=HBW.out _ q1;omega))
   have HO4:=hD (HO3.out.touch TD (fun j q1 q2=>by have:=HT.out _ q1;omega))
   have HG4:=hD (fun h:k + 1 < l.length=>by
     obtain ⟨b',hb',hg'⟩:=HG3.out h
     exact (show ∃ b',some (⟨b,0,none⟩:Addr)=some ⟨b',0,none⟩∧Rep.gap 77 RPend0 wD b' vc l.length [] (k + 1) (l.drop (k + 1)) (fun j=>SG j∧¬ C j) from ⟨b',hb',hg'.keep (fun j q hj=>TD.block j hj (fun q2=>by have:=(HSG.out _ q.1).2;omega))⟩))
   have KN4:wD.cell? ⟨w.heap.size,0,none⟩=some (.int .i64 now):=by
    have e1:wD.heap[w.heap.size]?=w3.heap[w.heap.size]?:=TD.block _ (by omega) (fun q=>by omega)
    rw [← KN3];unfold World.cell?;simp only [e1]
   have E4:=E3.trans (TD.below (by omega) (fun j q=>by omega))
   clear HA3 HB3 HO3 HG3 KN3 TD E3 BX3
   have K0:wD.cell? ⟨wr.heap.size,0,none⟩=some (.slice na x0.length np):=kG BX4 rfl
   have K1:wD.cell? ⟨wr.heap.size,1,none⟩=some (.slice pa pn pc):=kG BX4 rfl
   have K2:wD.cell? ⟨wr.heap.size,2,none⟩=some (.int .i64 x2):=kG BX4 rfl
   have hxl:=expR_len now x1
   by_cases hpos:0 < pn
   · have HYQ:=hD (HYES.out (by have h_:=HPN.out;omega))
     have hposI:(0:Int) < pn:=by omega
     clear HYES HNO
     have HPN2:=HPN.out
     subst HPN2
     go_wp2_with (at_builtin;refine Rep.wpList_pushG1 rfl _ _ 37 rfl (r:=kH) (e:=77) Tryz.underlying37 infPendingInterest rfl (by decide) (by decide) HO4.out (Below.refl _ _) (Rep.own_pair (r:=RName) (q:=Rep.pair (Rep.slice 81 kM) Rep.int) (cs:=[.slice na x0.length np]) (ds:=[.slice pa (expR now x1).length pc,.int .i64 x2]) (x:=x0) (y:=(expR now x1,x2)) (A:=A) (B:=B) (S:=C) HA4.out (Rep.own_flat (HB4.out.own (by unfold Big;omega)) (Rep.flat_int HXR.out)) HAC.out HBC.out HAB.out) (by rfl) (by rfl) (fun j h1 h2=>HD.out j (HC.out _ h2).1 h1) (by omega) ?_)
     intro v6 w6 ho6 ht6
     have hs6:=ht6.size
     rw [← HYQ.out] at ho6
     obtain ⟨b6,c6,hv6,_⟩:=Rep.kR ho6.raw;obtain rfl:v6=_:=by simpa using hv6
     have HO6:=hD ho6
     have E6:=E4.trans (ht6.below (by omega) (fun j q=>by have:=HT.out _ q.1;omega))
     have HG6:=hD (fun h:k + 1 < l.length=>by
       obtain ⟨b',hb',hg'⟩:=HG4.out h
       exact (show ∃ b',some (⟨b,0,none⟩:Addr)=some ⟨b',0,none⟩∧Rep.gap 77 RPend0 w6 b' vc l.length [] (k + 1) (l.drop (k + 1)) (fun j=>SG j∧¬ C j) from ⟨b',hb',hg'.keep (fun j q hj=>ht6.block j hj (fun q2=>HD.out j q.1 q2.1))⟩))
     have KN6:w6.cell? ⟨w.heap.size,0,none⟩=some (.int .i64 now):=by
      have e1:w6.heap[w.heap.size]?=wD.heap[w.heap.size]?:=ht6.block _ (by omega) (fun q=>by have:=HT.out _ q.1;omega)
      rw [← KN4];unfold World.cell?;simp only [e1]
     have HT6:=hD (show ∀ j,(T j∨C j∨(wD.heap.size≤j∧j < w6.heap.size))→w.heap.size + 1≤j∧j < w6.heap.size from fun j q=>by
       rcases q with q | q | q
       · have:=HT.out _ q;omega
       · have:=HSG.out _ (HC.out _ q).1;omega
       · omega)
     have HD6:=hD (show ∀ j,(SG j∧¬ C j)→(T j∨C j∨(wD.heap.size≤j∧j < w6.heap.size))→False from fun j q1 q=>by
       rcases q with q | q | q
       · exact HD.out j q1.1 q
       · exact q1.2 q
       · have:=HSG.out _ q1.1;omega)
     have HSG6:=hD (show ∀ j,(SG j∧¬ C j)→wB.heap.size≤j∧j < w2.heap.size from fun j q=>HSG.out _ q.1)
     clear ho6 ht6 hv6 HO4 HG4 KN4 HA4 HB4 K0 K1 K2 BX4
     go_wp2
     go_roundw
     case rel=>exact ⟨k + 1,b6,_,c6,_,_,rfl,by go_num,by omega,hD rfl,HO6,HG6,HSG6,HT6,HD6,KN6,by omega,E6⟩
     simp [intOf];omega
   have HYQ:=hD (HNO.out (by have h_:=HPN.out;omega))
   have hposI:¬ (0:Int) < pn:=by omega
   clear HYES HNO
   have HSG6:=hD (show ∀ j,(SG j∧¬ C j)→wB.heap.size≤j∧j < w2.heap.size from fun j q=>HSG.out _ q.1)
   have HT6:=hD (show ∀ j,T j→w.heap.size + 1≤j∧j < wD.heap.size from fun j q=>by have:=HT.out _ q;omega)
   have HD6:=hD (show ∀ j,(SG j∧¬ C j)→T j→False from fun j q1 q=>HD.out j q1.1 q)
   have HN6:=hD (show n=(expP now (l.take (k + 1))).length by rw [HYQ.out];exact HN.out)
   have HO6:=hD (show (Rep.slice 77 kH).own wD [.slice a n c] (expP now (l.take (k + 1))) T by rw [HYQ.out];exact HO4.out)
   clear K0 K2 BX4 HA4 HB4 HO4
   go_wp2
   go_roundw
   case rel=>exact ⟨k + 1,a,n,c,_,T,rfl,by go_num,by omega,HN6,HO6,HG4,HSG6,HT6,HD6,KN4,by omega,E4⟩
   simp [intOf];omega
 have hk3:¬ ((k:Int) < l.length):=by omega
 obtain rfl:k=l.length:=by omega
 go_wp2
 go_ret
 exact ⟨_,rfl,by have h_:=HO.out;rw [List.take_length] at h_;exact h_.wide (fun j q=>by have:=HT.out _ q;exact ⟨by omega,this.2⟩),hbel⟩
end Go.Proofs.YtomdenfcfbkfbaaGreat
