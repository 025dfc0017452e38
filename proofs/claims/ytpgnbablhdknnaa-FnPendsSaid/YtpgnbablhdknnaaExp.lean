/-
  Pending interests whose time has expired leave.
-/
import Derived.Test.YtpgnbablhdknnaaSoftT
import Derived.Test.YtpgnbablhdknnaaDrawB
import Derived.Test.YtpgnbablhdknnaaSat
set_option linter.unusedVariables false
set_option linter.unusedSimpArgs false
set_option linter.unnecessarySimpa false
set_option maxRecDepth 100000
set_option maxHeartbeats 4000000
namespace Go.Proofs.Ytpgnbablhdknnaa
open Go.RowKit
def kBc (now:Int) (rs:List kH):List kH:=rs.filter (fun r=>decide (now≤r.2.2))
def kDh (now:Int) (l:List kD):List kD:=(l.map (fun p=>(p.1,kBc now p.2.1,p.2.2))).filter (fun p=>decide (0 < p.2.1.length))
theorem expR_len (now:Int) (rs:List kH):(kBc now rs).length≤rs.length:=List.length_filter_le _ _
theorem expP_len (now:Int) (l:List kD):(kDh now l).length≤l.length:=Nat.le_trans (List.length_filter_le _ _) gW
theorem expP_yes {now:Int} {l:List kD} {k:Nat} (h:k < l.length) (q:0 < (kBc now l[k].2.1).length):kDh now (l.take (k + 1))=kDh now (l.take k)++[(l[k].1,kBc now l[k].2.1,l[k].2.2)]:=by
 unfold kDh
 rw [List.take_succ_eq_append_getElem h,List.map_append,List.filter_append]
 simp [q]
theorem expP_no {now:Int} {l:List kD} {k:Nat} (h:k < l.length) (q:¬ 0 < (kBc now l[k].2.1).length):kDh now (l.take (k + 1))=kDh now (l.take k):=by
 unfold kDh
 rw [List.take_succ_eq_append_getElem h,List.map_append,List.filter_append]
 have:decide (0 < (kBc now l[k].2.1).length)=false:=by simpa using q
 simp [this]
theorem expR_yes {now:Int} {l:List kH} {k:Nat} (h:k < l.length) (q:now≤l[k].2.2):kBc now (l.take (k + 1))=kBc now (l.take k)++[l[k]]:=kHn (p:=fun r:kH=>decide (now≤r.2.2)) h (by simpa using q)
theorem expR_no {now:Int} {l:List kH} {k:Nat} (h:k < l.length) (q:¬ now≤l[k].2.2):kBc now (l.take (k + 1))=kBc now (l.take k):=kFo (p:=fun r:kH=>decide (now≤r.2.2)) h (by simpa using q)
theorem kIt (now:Int) (l:List kH) (k:Nat):(kBc now (l.take k)).length≤l.length:=Nat.le_trans (expR_len _ _) dR
theorem kIu (now:Int) (l:List kD) (k:Nat):(kDh now (l.take k)).length≤l.length:=Nat.le_trans (expP_len _ _) dR
theorem kDc {w:World} {vl:Value} {l:List kD} (hl:(Rep.slice 67 kE).rd w [vl] l) (hln:l.length≤2000000) (hrn:∀ x∈l,x.2.1.length≤2000000) {now:Int} :
    Calls Try.prog 18 #[vl,.int .i64 now] w (zT (Rep.slice 67 kE) (kDh now l) w):=by
 have HL:=yD hl
 have HRN:=yD hrn
 obtain ⟨la,lp,rfl,ll⟩:=Rep.sl hl.1
 clear hl hrn
 go_enter Try.func18,Try.ntmps18
 go_wp2
 go_loopw [5,6] (fun v i wr=>∃ (k:Nat) (a:Option Addr) (n c:Nat),v=.slice a n c∧i=.int .i64 k∧k≤l.length∧Hid (n=(kDh now (l.take k)).length)∧Hid ((Rep.slice 67 kE).own wr [.slice a n c] (kDh now (l.take k)) (Btw w.heap.size wr.heap.size))∧Below w.heap.size w wr) (fun _ i _=>l.length - (intOf i).toNat)
 case atStart=>exact ⟨0,_,0,0,rfl,rfl,Nat.zero_le _,yD rfl,yD Rep.jd,bR.alloc nL _⟩
 obtain ⟨k,a,n,c,rfl,rfl,hk,HN,HO,hbel⟩:=hrel
 have hk0:=Int.natCast_nonneg k
 have hsr:=hbel.size
 have hek:=kIu now l k
 by_cases hlt:k < l.length
 · have hk2:=Int.ofNat_lt.2 hlt
   obtain ⟨qb,qo,rfl,c0,c1,c2,qr,A0,A1,A2⟩:=Rep.yP (HL.out.1.below hbel) hlt rfl
   have hbd:=Rep.zg HL.out hlt
   have hrl:=HRN.out _ (List.getElem_mem hlt)
   have hyes:=fun q=>expP_yes (now:=now) hlt q
   have hno:=fun q=>expP_no (now:=now) hlt q
   generalize l[k]=x at *
   have HYES:=yD hyes;have HNO:=yD hno;clear hyes hno
   obtain ⟨x0,x1,x2⟩:=x
   obtain ⟨qv0,qv1,qhe,q_0,q_1,q_2,q_3⟩:=kM qr
   simp only [List.cons.injEq,and_true] at qhe
   obtain ⟨rfl,rfl,rfl⟩:=qhe
   obtain ⟨na,np,rfl,_⟩:=Rep.sl q_1
   obtain ⟨ra,rp,rfl,hrp⟩:=Rep.sl q_2
   have hrcap:=Rep.kGn q_2
   have HQ:=yD q_2
   have HNM:Hid (kZ.rd wr [.slice na x0.length np] x0):=yD ⟨q_0,hbd.1⟩
   simp only at hrl A0 A1 A2 hrcap
   clear qr q_0 q_1 q_2
   have HBD:=yD q_3
   clear q_3 hbd
   go_upto_region 6 with fail
   generalize hwC:World.alloc wr _=wC
   have EC:Below wr.heap.size wr wC:=dI
   clear hwC
   have hsC:=EC.size
   replace A0:=cL EC A0
   replace A1:=cL EC A1
   replace A2:=cL EC A2
   replace HQ:=yD (HQ.out.below EC)
   replace HNM:=yD (HNM.out.below EC)
   replace HO:=yD (HO.out.below EC)
   replace hbel:=(tQ hbel EC)
   clear EC
   go_wp2
   go_loopw [7,8] (fun v i wq=>∃ (m:Nat) (b:Option Addr) (bn bc:Nat),v=.slice b bn bc∧i=.int .i64 m∧m≤x1.length∧Hid (bn=(kBc now (x1.take m)).length)∧Hid ((Rep.slice 56 kF).own wq [.slice b bn bc] (kBc now (x1.take m)) (Btw wC.heap.size wq.heap.size))∧Below wC.heap.size wC wq) (fun _ i _=>x1.length - (intOf i).toNat)
   case atStart=>exact ⟨0,_,0,0,rfl,rfl,Nat.zero_le _,yD rfl,yD Rep.jd,bR⟩
   obtain ⟨m,b,bn,bc,rfl,rfl,hm,HBN,HA,hbq⟩:=hrel
   have hm0:=Int.natCast_nonneg m
   have hsq:=hbq.size
   have B0:=cL hbq A0
   have B1:=cL hbq A1
   have B2:=cL hbq A2
   have hxm:=kIt now x1 m
   by_cases hmt:m < x1.length
   · have hm2:=Int.ofNat_lt.2 hmt
     obtain ⟨rb,ro,rfl,r0,r1,r2,rr,R0,R1,R2⟩:=Rep.yP (HQ.out.below hbq) hmt rfl
     have hry:=fun q=>expR_yes (now:=now) hmt q
     have hrno:=fun q=>expR_no (now:=now) hmt q
     generalize x1[m]=y at *
     have HRY:=yD hry;have HRNO:=yD hrno;clear hry hrno
     obtain ⟨y0,y1,y2⟩:=y
     obtain ⟨rhe,s_0,s_1,s_2⟩:=ko rr
     simp only [List.cons.injEq,and_true] at rhe
     obtain ⟨rfl,rfl,rfl⟩:=rhe
     have HX:=yD (fun W=>Rep.flat.own (w:=W) (S:=fun _=>False) (Rep.jA (Rep.kW s_0) (Rep.jA (Rep.kW s_1) (Rep.kW s_2))))
     clear rr s_0 s_1 s_2
     by_cases hle:now≤y2
     · have HT:=yD (HRY.out hle)
       clear HRY HRNO
       have hro:ro=ro:=rfl
       go_wp2_with (at_builtin;refine Rep.jo rfl _ _ 36 rfl (r:=kF) (e:=56) Try.underlying36 jC rfl gU gU HA.out bR (HX.out wr) gX gX (fun _ _ h=>h.elim) (by have:=kIt now x1 m;omega) ?_)
       intro v5 w5 ho5 ht5
       have hs5:=ht5.size
       rw [← HT.out] at ho5
       obtain ⟨b5,c5,rfl,_⟩:=Rep.sl ho5.raw
       have HA5:=yD (ho5.wide (T:=Btw wC.heap.size w5.heap.size) (fun j q=>q.elim (fun q=>⟨q.1,by have:=q.2;omega⟩) (fun q=>⟨by have:=q.1;omega,q.2⟩)))
       have E5:=hbq.trans (ht5.below hsq (fun j q=>q.1.1))
       clear ho5 ht5
       go_wp2
       go_roundw
       case rel=>exact ⟨m + 1,b5,_,c5,rfl,by go_num,by omega,yD rfl,HA5,E5⟩
       simp [intOf];omega
     have HT:=yD (HRNO.out hle)
     clear HRY HRNO
     go_wp2
     go_roundw
     case rel=>exact ⟨m + 1,b,bn,bc,rfl,by go_num,by omega,yD (by rw [HT.out];exact HBN.out),yD (by rw [HT.out];exact HA.out),hbq⟩
     simp [intOf];omega
   have hm3:¬ ((m:Int) < x1.length):=gV
   obtain rfl:m=x1.length:=gV
   have HBE:=yD (show bn=(kBc now x1).length by have:=HBN.out;rwa [List.take_length] at this)
   replace HA:=yD (show (Rep.slice 56 kF).own wr [.slice b bn bc] (kBc now x1) (Btw wC.heap.size wr.heap.size) by have:=HA.out;rwa [List.take_length] at this)
   clear HBN hxm
   by_cases hpos:0 < bn
   · have HT:=yD (HYES.out (by have h_:=HBE.out;omega))
     have hposI:(0:Int) < bn:=gV
     clear HYES HNO
     go_wp2_with fail
     refine (yZ (HNM.out.below hbq)).mono ?_
     rintro e wT ⟨tc,rfl,OT,hbT⟩
     obtain ⟨tv0,rfl,t_0⟩:=kY OT.raw
     obtain ⟨ta0,tp0,rfl,_⟩:=Rep.sl t_0
     clear t_0
     have hsT:=hbT.size
     go_upto_region 13 with fail
     generalize hwD:World.alloc wT _=wD
     have ED:Below wT.heap.size wT wD:=dM
     have KD:wD.cell? ⟨wT.heap.size,0,none⟩=some (.slice ta0 x0.length tp0):=fA
     clear hwD
     have hsD:=ED.size
     have ER:=(tQ hbT ED)
     replace B2:=cL ER B2
     have ERC:=(tQ hbq ER)
     have FX:=yD (fun (W:World) (hW:Below wD.heap.size wD W)=>cLs2 hW KD B2)
     refine jE (fun W=>Below wD.heap.size wD W) [true,true,true,true,true,true,true,true,true,false] gP gP bX (bR.drew) ?_
     intro wS HS
     iterate 9
      all_goals refine wkR ?_
     all_goals first|(refine kG rfl HS ?_)|(refine kQ rfl (fun K hK=>?_);go_simp;refine hK _ _ (HS.alloc HS.size _) ?_;clear hK K)
     all_goals refine wkP ?_
     all_goals refine jb ?_
     have hsS:=HS.size
     go_wp2_with (at_builtin;refine Rep.jo rfl _ _ 24 rfl (r:=kE) (e:=67) Try.underlying24 kV rfl gU gU HO.out (tQ ERC HS) (Rep.own.wide (T:=Btw wC.heap.size wS.heap.size) (Rep.jV (r:=kZ) (q:=Rep.pair (Rep.slice 56 kF) Rep.int) (cs:=[.slice ta0 x0.length tp0]) (ds:=[.slice b bn bc,.int .i64 x2]) (x:=x0) (y:=(kBc now x1,x2)) (A:=Btw wr.heap.size wT.heap.size) (B:=Btw wC.heap.size wr.heap.size) (S:=Btw wC.heap.size wT.heap.size) (OT.below (tQ ED HS)) (Rep.jm (HA.out.below (tQ ER HS)) (Rep.kW HBD.out)) dL dJ (fun j q1 q2=>by have:=q1.1;have:=q2.2;omega)) dJ) gX gX (fun j h1 h2=>by have:=h1.2;have:=h2.1;omega) gV ?_)
     intro v6 w6 ho6 ht6
     have hs6:=ht6.size
     rw [← HT.out] at ho6
     obtain ⟨b6,c6,rfl,_⟩:=Rep.sl ho6.raw
     have HO6:=yD (ho6.wide (T:=Btw w.heap.size w6.heap.size) (fun j q=>by rcases q with q | q | q;exact ⟨q.1,by have:=q.2;omega⟩;exact ⟨by have:=q.1;omega,by have:=q.2;omega⟩;exact ⟨by have:=q.1;omega,q.2⟩))
     have EB:=(tQ hbel ERC)
     have E6:=EB.trans ((HS.mono gV).trans (ht6.below gV (fun j q=>q.1.1)))
     clear ho6 ht6
     go_wp2
     go_roundw
     case rel=>exact ⟨k + 1,b6,_,c6,rfl,by go_num,by omega,yD rfl,HO6,E6⟩
     simp [intOf];omega
   have HT:=yD (HNO.out (by have h_:=HBE.out;omega))
   have hposI:¬ (0:Int) < bn:=gV
   clear HYES HNO
   go_wp2
   go_roundw
   case rel=>exact ⟨k + 1,a,n,c,rfl,by go_num,by omega,yD (by rw [HT.out];exact HN.out),yD (by rw [HT.out];exact (HO.out.below hbq).wide dJ),(tQ hbel hbq)⟩
   simp [intOf];omega
 have hk3:¬ ((k:Int) < l.length):=gV
 obtain rfl:k=l.length:=gV
 go_wp2
 go_ret
 exact ⟨_,rfl,by have:=HO.out;rwa [List.take_length] at this,hbel⟩
theorem pend0_open {w:World} {cs:List Value} {x:kD} {C:Nat→Prop} (h:yF.own w cs x C):∃ (na:Option Addr) (np:Nat) (ra:Option Addr) (rp:Nat) (A B:Nat→Prop),
    cs=[.slice na x.1.length np,.slice ra x.2.1.length rp,.int .i64 x.2.2]∧kZ.own w [.slice na x.1.length np] x.1 A∧Rep.kT 56 kF w (.slice ra x.2.1.length rp) x.2.1 B∧(∀ j,A j→C j)∧(∀ j,B j→C j)∧(∀ j,A j→B j→False)∧(-9223372036854775808≤x.2.2∧x.2.2≤9223372036854775807):=by
 obtain ⟨⟨c,d,A,B,rfl,h1,⟨c2,d2,A2,B2,rfl,h2,h3,k1,k2,k3⟩,k4,k5,k6⟩,hb⟩:=h
 have hn:kZ.own w c x.1 A:=⟨h1,hb.1⟩
 obtain ⟨cn,rfl,n0⟩:=kY hn.raw
 obtain ⟨na,np,rfl,_⟩:=Rep.sl n0
 obtain ⟨ra,ln,rp,rfl,rfl,hrest⟩:=h2.1
 obtain ⟨rfl,hr⟩:=h3
 exact ⟨na,np,ra,rp,A,A2,rfl,hn,Rep.own0_of (e:=56) (r:=kF) (w:=w) (v:=.slice ra x.2.1.length rp) (xs:=x.2.1) (S:=A2) ⟨h2,hb.2.1⟩,k4,fun j hj=>k5 j (k1 j hj),fun j a b=>k6 rfl j a (k1 j b),hr⟩
def oldR (now:Int) (r:kH):Bool:=decide (r.2.2 < now)
theorem oldR_filter (now:Int) (rs:List kH):rs.filter (fun r=>!oldR now r)=kBc now rs:=by
 unfold kBc oldR
 congr 1
 funext r
 by_cases h:r.2.2 < now
 · have:¬ now≤r.2.2:=gV
   simp [h,this]
 have:now≤r.2.2:=by omega
 simp [h,this]
theorem kCp {w:World} {cr:List Value} {r:kH} (hr:kF.raw w cr r) {now:Int} {Bnow:Nat} (Anow0:w.cell? ⟨Bnow,0,none⟩=some (.int .i64 now)) :
    Calls Try.prog 55 (#[.agg cr.toArray]++#[.pointer (some ⟨Bnow,0,none⟩)]) w fun e w'=>e=.returned (.bool (oldR now r))∧Below w.heap.size w w':=by
 have Hr:=yD hr
 obtain ⟨rfl,fr_0,fr_1,fr_2⟩:=ko hr
 show Calls Try.prog 55 #[_,_] w _
 go_enter Try.func55,Try.ntmps55
 go_upto_region 1 with fail
 generalize hwB:World.alloc w _=wB
 have EB:Below w.heap.size w wB:=by rw [← hwB];exact bB
 have K2_0:wB.cell? ⟨w.heap.size,0,none⟩=some (.int .i64 r.1):=dX
 have K2_1:wB.cell? ⟨w.heap.size,1,none⟩=some (.int .i64 r.2.1):=dX
 have K2_2:wB.cell? ⟨w.heap.size,2,none⟩=some (.int .i64 r.2.2):=dX
 clear hwB
 replace Anow0:=cL EB Anow0
 have FX:=yD (fun (W:World) (hW:Below wB.heap.size wB W)=>zi hW K2_0 K2_1 K2_2 Anow0)
 refine kS (fun W=>Below wB.heap.size wB W) [true,true,true,true,true] bR ?_
 intro wS HS
 iterate 4
  all_goals refine wkR ?_
 all_goals (have hg4:=True.intro;first|(refine wkG (fun b hg4=>?_);cases b;all_goals first | exact Bool.noConfusion hg4 | simp only [zU,zV] at hg4 | skip) | refine wkR ?_)
 all_goals refine wkP ?_
 all_goals refine kN ?_
 all_goals have EG:=(tQ EB HS)
 all_goals first
   | (have HT:=yD (show (oldR now r)=false by simp only [oldR,Bool.not_true,Bool.not_false,Bool.and_true,Bool.true_and,Bool.and_false,Bool.false_and,Bool.or_true,Bool.true_or,Bool.or_false,Bool.false_or,Bool.not_not,hg4]);go_wp2;go_ret;exact ⟨kP HT.out.symm,EG⟩)
   | (have HT:=yD (show (oldR now r)=true by simp only [oldR,Bool.not_true,Bool.not_false,Bool.and_true,Bool.true_and,Bool.and_false,Bool.false_and,Bool.or_true,Bool.true_or,Bool.or_false,Bool.false_or,Bool.not_not,hg4]);go_wp2;go_ret;exact ⟨kP HT.out.symm,EG⟩)
theorem zR:jG Try.prog 55:=jr Try.func55 gP gP
theorem kDd {w:World} {vl:Value} {l:List kD} (hl:(Rep.slice 67 kE).rd w [vl] l) (hln:l.length≤2000000) (hrn:∀ x∈l,x.2.1.length≤2000000) {now:Int} :
    Calls Try.prog 17 #[vl,.int .i64 now] w (zT (Rep.slice 67 kE) (kDh now l) w):=by
 have HL:=yD hl
 have HRN:=yD hrn
 obtain ⟨la,lp,rfl,ll⟩:=Rep.sl hl.1
 clear hl hrn
 go_enter Try.func17,Try.ntmps17
 go_upto_region 2 with fail
 generalize hwB:World.alloc (World.alloc w _) _=wB
 have EB:Below w.heap.size w wB:=by rw [← hwB];exact bB
 have hzB:w.heap.size + 2≤wB.heap.size:=fV
 have KN:wB.cell? ⟨w.heap.size,0,none⟩=some (.int .i64 now):=dX
 clear hwB
 go_wp2_with fail
 refine (kAk (HL.out.below EB)).mono ?_
 rintro e w2 ⟨v2,rfl,O2,hb2⟩
 have hz2:=hb2.size
 replace KN:=cL hb2 KN
 have E2:=(tQ EB hb2)
 obtain ⟨va,vn,vc,hv2,HVN⟩:=O2.parts;obtain rfl:=hv2
 have HG:Hid (0 < l.length→∃ b,va=some ⟨b,0,none⟩∧Rep.gap 67 yF w2 b vc l.length [] 0 l (Btw wB.heap.size w2.heap.size)):=yD (fun h=>by
   obtain ⟨b,cap,he,hg⟩:=Rep.kCy O2 h
   simp only [Value.slice.injEq] at he
   obtain ⟨rfl,_,rfl⟩:=he
   exact ⟨b,rfl,by simpa using hg⟩)
 have hvn:=HVN.out
 subst hvn
 clear O2 HVN hb2
 go_wp2
 go_loopw [5,12] (fun v i wr=>∃ (k:Nat) (a:Option Addr) (n c:Nat) (SG T:Nat→Prop),v=.slice a n c∧i=.int .i64 k∧k≤l.length∧Hid (n=(kDh now (l.take k)).length)∧Hid ((Rep.slice 67 kE).own wr [.slice a n c] (kDh now (l.take k)) T)∧Hid (k < l.length→∃ b,va=some ⟨b,0,none⟩∧Rep.gap 67 yF wr b vc l.length [] k (l.drop k) SG) ∧
     Hid (∀ j,SG j→wB.heap.size≤j∧j < w2.heap.size)∧Hid (∀ j,T j→w.heap.size + 1≤j∧j < wr.heap.size)∧Hid (∀ j,SG j→T j→False)∧wr.cell? ⟨w.heap.size,0,none⟩=some (.int .i64 now)∧w2.heap.size≤wr.heap.size∧Below w.heap.size w wr) (fun _ i _=>l.length - (intOf i).toNat)
 case atStart=>exact ⟨0,_,0,0,Btw wB.heap.size w2.heap.size,fun _=>False,rfl,rfl,Nat.zero_le _,yD rfl,yD Rep.jd,yD (fun h=>by rw [List.drop_zero];exact HG.out h),yD (fun j q=>q),yD (fun _ q=>q.elim),yD (fun _ _ q=>q),KN,Nat.le_refl _,E2⟩
 clear HG KN E2
 obtain ⟨k,a,n,c,SG,T,rfl,rfl,hk,HN,HO,HG,HSG,HT,HD,KN,hsr,hbel⟩:=hrel
 have hk0:=Int.natCast_nonneg k
 have hsw:=hbel.size
 have hek:=kIu now l k
 by_cases hlt:k < l.length
 · have hk2:=Int.ofNat_lt.2 hlt
   obtain ⟨b,rfl,hg⟩:=HG.out hlt
   rw [List.drop_eq_getElem_cons hlt] at hg
   obtain ⟨cs,C,hown,hC,hcell,hg2⟩:=hg.skip2
   have HG2:=yD hg2
   have hrl:=HRN.out _ (List.getElem_mem hlt)
   have hyes:=fun q=>expP_yes (now:=now) hlt q
   have hno:=fun q=>expP_no (now:=now) hlt q
   generalize l[k]=x at *
   have HYES:=yD hyes;have HNO:=yD hno;clear hyes hno hg hg2
   obtain ⟨na,np,ra,rp,A,B,rfl,hA,hB,hAC,hBC,hAB,hxr⟩:=pend0_open hown
   obtain ⟨x0,x1,x2⟩:=x
   simp only at hrl hA hB hxr
   have A0:wr.cell? ⟨b,k * 3,none⟩=some (.slice na x0.length np):=by have h:=hcell 0 _ rfl;rw [List.length_nil,Nat.zero_add,Nat.add_zero] at h;exact h
   have A1:wr.cell? ⟨b,k * 3 + 1,none⟩=some (.slice ra x1.length rp):=by have h:=hcell 1 _ rfl;rw [List.length_nil,Nat.zero_add] at h;exact h
   have A2:wr.cell? ⟨b,k * 3 + 2,none⟩=some (.int .i64 x2):=by have h:=hcell 2 _ rfl;rw [List.length_nil,Nat.zero_add] at h;exact h
   have HA:=yD hA;have HB:=yD hB;have HAC:=yD hAC;have HBC:=yD hBC;have HAB:=yD hAB;have HXR:=yD hxr;have HC:=yD hC
   clear hown hC hcell hA hB hAC hBC hAB hxr HG
   go_upto_region 5 with fail
   generalize hwC:World.alloc wr _=wC
   have EC:Below wr.heap.size wr wC:=dI
   have BX:wC.heap[wr.heap.size]?=some (.cells #[.slice na x0.length np,.slice ra x1.length rp,.int .i64 x2] 67 (0,0)):=by rw [← hwC];exact kU rfl
   have hsC:wr.heap.size + 1≤wC.heap.size:=by rw [← hwC];simp
   clear hwC A0 A1 A2
   replace KN:=cL EC KN
   replace HA:=yD (HA.out.below EC)
   replace HB:=yD (HB.out.below EC)
   have K0:wC.cell? ⟨wr.heap.size,1,none⟩=some (.slice ra x1.length rp):=kL BX rfl
   have HKN:=yD KN
   go_wp2_with fail
   refine (ym (oldR now) zR HB.out gV (fun W hW x cs hr=>kCp hr ?_)).mono ?_
   · have e1:W.heap[w.heap.size]?=wC.heap[w.heap.size]?:=hW.block _ gV (fun q=>by have:=(HSG.out _ (HC.out _ (HBC.out _ q)).1).1;omega)
     rw [← HKN.out];unfold World.cell?;simp only [e1]
   rintro e w3 ⟨v3,rfl,O3,T3⟩
   rw [oldR_filter] at O3
   have hBw:∀ j,B j→wB.heap.size≤j∧j < w2.heap.size:=fun j q=>HSG.out _ (HC.out _ (HBC.out _ q)).1
   have BX3:=T3.kI BX (fun q=>by have:=hBw _ q;omega)
   have hs3:=T3.size
   have KN3:w3.cell? ⟨w.heap.size,0,none⟩=some (.int .i64 now):=by
    have e1:w3.heap[w.heap.size]?=wC.heap[w.heap.size]?:=T3.block _ gV (fun q=>by have:=hBw _ q;omega)
    rw [← HKN.out];unfold World.cell?;simp only [e1]
   have hTB:∀ j,T j→¬ B j:=fun j q1 q2=>HD.out j (HC.out _ (HBC.out _ q2)).1 q1
   have HA3:=yD (HA.out.touch T3 (fun j q1 q2=>HAB.out j q1 q2))
   have HO3:=yD ((HO.out.below EC).touch T3 hTB)
   have HG3:=yD (fun h:k + 1 < l.length=>(show ∃ b',some (⟨b,0,none⟩:Addr)=some ⟨b',0,none⟩∧Rep.gap 67 yF w3 b' vc l.length [] (k + 1) (l.drop (k + 1)) (fun j=>SG j∧¬ C j) from ⟨b,rfl,(HG2.out.below EC).keep (fun j q hj=>T3.block j hj (fun q2=>q.2 (HBC.out _ q2)))⟩))
   have E3:=(tQ hbel EC).trans (T3.below gV (fun j q=>by have:=hBw _ q;omega))
   obtain ⟨pa,pn,pc,hp,HPN⟩:=O3.parts;obtain rfl:=hp
   have HB3:=yD O3
   have HBW:=yD hBw
   clear O3 T3 HA HB HO HG2 BX KN HKN K0 EC hTB hBw
   have K3:w3.cell? ⟨wr.heap.size,1,none⟩=some (.slice ra x1.length rp):=kL BX3 rfl
   have F3:w3.frozen? ⟨wr.heap.size,1,none⟩=false:=frozen_of_row w3 wr.heap.size 1 _ _ BX3
   go_upto_region 6 with fail
   generalize hwD:World.setCell w3 _ _=wD
   have TD:Touch (fun j=>j=wr.heap.size) w3 wD:=by rw [← hwD];exact kC w3 wr.heap.size 1 _
   have BX4:wD.heap[wr.heap.size]?=some (.cells #[.slice na x0.length np,.slice pa pn pc,.int .i64 x2] 67 (0,0)):=by rw [← hwD];exact jJ BX3 1
   clear hwD K3 F3
   have hsD:=TD.size
   have HA4:=yD (HA3.out.touch TD (fun j q1 q2=>by have:=(HSG.out _ (HC.out _ (HAC.out _ q1)).1).2;omega))
   have HB4:=yD (HB3.out.touch TD (fun j q1 q2=>by have:=HBW.out _ q1;omega))
   have HO4:=yD (HO3.out.touch TD (fun j q1 q2=>by have:=HT.out _ q1;omega))
   have HG4:=yD (fun h:k + 1 < l.length=>by
     obtain ⟨b',hb',hg'⟩:=HG3.out h
     exact (show ∃ b',some (⟨b,0,none⟩:Addr)=some ⟨b',0,none⟩∧Rep.gap 67 yF wD b' vc l.length [] (k + 1) (l.drop (k + 1)) (fun j=>SG j∧¬ C j) from ⟨b',hb',hg'.keep (fun j q hj=>TD.block j hj (fun q2=>by have:=(HSG.out _ q.1).2;omega))⟩))
   have KN4:wD.cell? ⟨w.heap.size,0,none⟩=some (.int .i64 now):=by
    have e1:wD.heap[w.heap.size]?=w3.heap[w.heap.size]?:=TD.block _ gV (fun q=>by omega)
    rw [← KN3];unfold World.cell?;simp only [e1]
   have E4:=E3.trans (TD.below gV (fun j q=>by omega))
   clear HA3 HB3 HO3 HG3 KN3 TD E3 BX3
   have K0:wD.cell? ⟨wr.heap.size,0,none⟩=some (.slice na x0.length np):=kL BX4 rfl
   have K1:wD.cell? ⟨wr.heap.size,1,none⟩=some (.slice pa pn pc):=kL BX4 rfl
   have K2:wD.cell? ⟨wr.heap.size,2,none⟩=some (.int .i64 x2):=kL BX4 rfl
   have hxl:=expR_len now x1
   by_cases hpos:0 < pn
   · have HYQ:=yD (HYES.out (by have h_:=HPN.out;omega))
     have hposI:(0:Int) < pn:=gV
     clear HYES HNO
     have HPN2:=HPN.out
     subst HPN2
     go_wp2_with (at_builtin;refine Rep.jo rfl _ _ 24 rfl (r:=kE) (e:=67) Try.underlying24 kV rfl gU gU HO4.out bR (Rep.jV (r:=kZ) (q:=Rep.pair (Rep.slice 56 kF) Rep.int) (cs:=[.slice na x0.length np]) (ds:=[.slice pa (kBc now x1).length pc,.int .i64 x2]) (x:=x0) (y:=(kBc now x1,x2)) (A:=A) (B:=B) (S:=C) HA4.out (Rep.jm (HB4.out.own fQ) (Rep.kW HXR.out)) HAC.out HBC.out HAB.out) gX gX (fun j h1 h2=>HD.out j (HC.out _ h2).1 h1) gV ?_)
     intro v6 w6 ho6 ht6
     have hs6:=ht6.size
     rw [← HYQ.out] at ho6
     obtain ⟨b6,c6,rfl,_⟩:=Rep.sl ho6.raw
     have HO6:=yD ho6
     have E6:=E4.trans (ht6.below gV (fun j q=>by have:=HT.out _ q.1;omega))
     have HG6:=yD (fun h:k + 1 < l.length=>by
       obtain ⟨b',hb',hg'⟩:=HG4.out h
       exact (show ∃ b',some (⟨b,0,none⟩:Addr)=some ⟨b',0,none⟩∧Rep.gap 67 yF w6 b' vc l.length [] (k + 1) (l.drop (k + 1)) (fun j=>SG j∧¬ C j) from ⟨b',hb',hg'.keep (fun j q hj=>ht6.block j hj (fun q2=>HD.out j q.1 q2.1))⟩))
     have KN6:w6.cell? ⟨w.heap.size,0,none⟩=some (.int .i64 now):=by
      have e1:w6.heap[w.heap.size]?=wD.heap[w.heap.size]?:=ht6.block _ gV (fun q=>by have:=HT.out _ q.1;omega)
      rw [← KN4];unfold World.cell?;simp only [e1]
     have HT6:=yD (show ∀ j,(T j∨C j∨(wD.heap.size≤j∧j < w6.heap.size))→w.heap.size + 1≤j∧j < w6.heap.size from fun j q=>by
       rcases q with q | q | q
       · have:=HT.out _ q;omega
       · have:=HSG.out _ (HC.out _ q).1;omega
       · omega)
     have HD6:=yD (show ∀ j,(SG j∧¬ C j)→(T j∨C j∨(wD.heap.size≤j∧j < w6.heap.size))→False from fun j q1 q=>by
       rcases q with q | q | q
       · exact HD.out j q1.1 q
       · exact q1.2 q
       · have:=HSG.out _ q1.1;omega)
     have HSG6:=yD (show ∀ j,(SG j∧¬ C j)→wB.heap.size≤j∧j < w2.heap.size from fun j q=>HSG.out _ q.1)
     clear ho6 ht6 HO4 HG4 KN4 HA4 HB4 K0 K1 K2 BX4
     go_wp2
     go_roundw
     case rel=>exact ⟨k + 1,b6,_,c6,_,_,rfl,by go_num,by omega,yD rfl,HO6,HG6,HSG6,HT6,HD6,KN6,by omega,E6⟩
     simp [intOf];omega
   have HYQ:=yD (HNO.out (by have h_:=HPN.out;omega))
   have hposI:¬ (0:Int) < pn:=gV
   clear HYES HNO
   have HSG6:=yD (show ∀ j,(SG j∧¬ C j)→wB.heap.size≤j∧j < w2.heap.size from fun j q=>HSG.out _ q.1)
   have HT6:=yD (show ∀ j,T j→w.heap.size + 1≤j∧j < wD.heap.size from fun j q=>by have:=HT.out _ q;omega)
   have HD6:=yD (show ∀ j,(SG j∧¬ C j)→T j→False from fun j q1 q=>HD.out j q1.1 q)
   have HN6:=yD (show n=(kDh now (l.take (k + 1))).length by rw [HYQ.out];exact HN.out)
   have HO6:=yD (show (Rep.slice 67 kE).own wD [.slice a n c] (kDh now (l.take (k + 1))) T by rw [HYQ.out];exact HO4.out)
   clear K0 K2 BX4 HA4 HB4 HO4
   go_wp2
   go_roundw
   case rel=>exact ⟨k + 1,a,n,c,_,T,rfl,by go_num,by omega,HN6,HO6,HG4,HSG6,HT6,HD6,KN4,by omega,E4⟩
   simp [intOf];omega
 have hk3:¬ ((k:Int) < l.length):=gV
 obtain rfl:k=l.length:=gV
 go_wp2
 go_ret
 exact ⟨_,rfl,by have h_:=HO.out;rw [List.take_length] at h_;exact h_.wide (fun j q=>by have:=HT.out _ q;exact ⟨by omega,this.2⟩),hbel⟩
end Go.Proofs.Ytpgnbablhdknnaa
