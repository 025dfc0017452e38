/-
  Pending interests drawn that are read only.
-/
import Derived.Test.YtpgnbablhdknnaaDrawQ
import Derived.Test.YtpgnbablhdknnaaDrawD
import Derived.Test.YtpgnbablhdknnaaSR
set_option linter.unusedVariables false
set_option linter.unusedSimpArgs false
set_option linter.unnecessarySimpa false
set_option maxRecDepth 100000
set_option maxHeartbeats 4000000
namespace Go.Proofs.Ytpgnbablhdknnaa
open Go.RowKit
theorem pend_rdB {w:World} {cs:List Value} {x:kD} {S:Nat→Prop} (h:kE.rdB w cs x S):∃ v0 v1,cs=[v0,v1,.int .i64 x.2.2]∧kZ.rdB w [v0] x.1 S∧(Rep.slice 56 kF).rdB w [v1] x.2.1 S∧-9223372036854775808≤x.2.2∧x.2.2≤9223372036854775807:=by
 obtain ⟨c,d,rfl,h1,h2⟩:=Rep.pair_rdB (r:=kZ) (q:=.pair (Rep.slice 56 kF) .int) h
 obtain ⟨c2,d2,rfl,h3,h4⟩:=Rep.pair_rdB (r:=(Rep.slice 56 kF)) (q:=.int) h2
 have l1:=kZ.len h1.1
 have l2:=(Rep.slice 56 kF).len h3.1
 obtain ⟨rfl,h5,h6⟩:=h4.1
 match c,l1,c2,l2 with
 | [v0],_,[v1],_=>exact ⟨v0,v1,rfl,h1,h3,h5,h6⟩
theorem kDt {l:List kD} {m k:Nat} {y:kD} (h:jP l m) (hk:m < k) (hy:y.2.1.length≤k):jP (l++[y]) k:=by
 refine ⟨by have:=h.1;simp;omega,fun z hz=>?_⟩
 rcases List.mem_append.1 hz with hz | hz
 · have:=h.2 z hz;omega
 rw [List.mem_singleton.1 hz];exact hy
theorem kHc {w:World} {v u:Value} {ps:kw} {rs:List kH} {t:Int} {A B S:Nat→Prop} (h:kZ.own w [v] ps A) (k:(Rep.slice 56 kF).own w [u] rs B) (hA:∀ k,A k→S k) (hB:∀ k,B k→S k) (hd:∀ k,A k→B k→False) (ht:-9223372036854775808≤t∧t≤9223372036854775807):kE.own w [v,u,.int .i64 t] (ps,rs,t) S :=
  Rep.jV (r:=kZ) (q:=.pair (Rep.slice 56 kF) .int) (cs:=[v]) (ds:=[u,.int .i64 t]) h (Rep.jm (r:=(Rep.slice 56 kF)) (q:=.int) (cs:=[u]) (ds:=[.int .i64 t]) k (Rep.kW ht)) hA hB hd
theorem smallP_snoc {l:List kD} {m:Nat} {y:kD} (h:jP l m) (hl:l.length < m) (hy:y.2.1.length≤m):jP (l++[y]) m:=by
 refine ⟨by simp;omega,fun z hz=>?_⟩
 rcases List.mem_append.1 hz with hz | hz
 · exact h.2 z hz
 rw [List.mem_singleton.1 hz];exact hy
theorem yL {w0 w:World} {p:Nat} (hc:Cur w0 w p) :
    Calls Try.prog 31 #[.pointer (some ⟨p,0,none⟩)] w fun e w'=>∃ a c l,e=.returned (.slice a l.length c)∧jP l 14∧(Rep.slice 67 kE).rdB w' [.slice a l.length c] l (Btw w.heap.size w'.heap.size)∧Cur w0 w' p∧Touch (fun k=>k=p) w w':=by
 go_enter Try.func31,Try.ntmps31
 obtain ⟨hp0,hp1⟩:=hc.lt
 go_wp2_with fail
 refine (kHz hc).mono ?_
 rintro e w1 ⟨a,n,c,l,rfl,hn_,hsm,hO,hcN,htN⟩
 have z_w1:=htN.size
 have TE:=htN
 clear hc htN
 have hc:=hcN
 clear hcN
 subst hn_
 have HSM:=yD hsm
 have hl8:=hsm.1
 clear hsm
 have HO:=yD (hO)
 clear hO
 go_wp2_with fail
 refine (kX (n:=10) hc gU).mono ?_
 rintro e w2 ⟨m,hm0,hm1,hm2,rfl,hcN,htN⟩
 have z_w2:=htN.size
 replace HO:=yD (HO.out.touch htN bW)
 replace TE:=TE.trans htN
 clear hc htN
 have hc:=hcN
 clear hcN
 replace hm1:=hm1 gU
 clear hm2
 by_cases h0:m=0
 · subst h0
   go_wp2_with fail
   refine (kFu hc).mono ?_
   rintro e w3 ⟨na,nc,nm,rfl,hr,hnl,hcN,htN⟩
   have z_w3:=htN.size
   replace HO:=yD (HO.out.touch htN bW)
   replace TE:=TE.trans htN
   clear hc htN
   have hc:=hcN
   clear hcN
   have HR:=yD (hr)
   clear hr
   go_wp2_with fail
   refine (kX (n:=9) hc gU).mono ?_
   rintro e w4 ⟨f,hf0,hf1,hf2,rfl,hcN,htN⟩
   have z_w4:=htN.size
   replace HO:=yD (HO.out.touch htN bW)
   replace HR:=yD (HR.out.touch htN bW)
   replace TE:=TE.trans htN
   clear hc htN
   have hc:=hcN
   clear hcN
   replace hf1:=hf1 gU
   clear hf2
   have hwf:IntKind.i64.wrap (f - 1)=f - 1:=IntWalk.i64_in _ gV
   go_wp2_with fail
   refine (kAg (hc.below (bR.alloc nL _)) (Rep.kGl _ [0,-1,1000001] gU gU) gV gU gU).mono ?_
   rintro e w5 ⟨y,hyM,hyR,rfl,hcN,htN⟩
   replace htN:=(Touch.of_below (S:=fun k=>k=p) (bR.alloc nL _)).trans htN
   have z_w5:=htN.size
   replace HO:=yD (HO.out.touch htN bW)
   replace HR:=yD (HR.out.touch htN bW)
   replace TE:=TE.trans htN
   clear hc htN
   have hc:=hcN
   clear hcN
   have hy:=Rep.mem_int (lo:=-1) (hi:=1000001) gU hyM
   clear hyM
   have hfl:kF.flat [.int .i64 (f - 1),.int .i64 y,.int .i64 0] (f - 1,y,0):=Rep.jA (cs:=[.int .i64 (f - 1)]) (Rep.kW gV) (Rep.jA (cs:=[.int .i64 y]) (Rep.kW gV) (Rep.kW gV))
   go_wp2_with (at_builtin;refine Rep.jo rfl _ _ 24 rfl (r:=kE) (e:=67) Try.underlying24 kV rfl gU gU (w:=w5) HO.out (Rep.jB _ _) (c:=1) (kHc (A:=Btw w2.heap.size w3.heap.size) (B:=fun k=>k=w5.heap.size) (S:=fun k=>w2.heap.size≤k∧k≤w5.heap.size) (HR.out.below (Rep.jB _ _)) ((Rep.kEo w5 hfl).own gT) dK (fun k q=>by omega) (fun k q1 q2=>by have:=q1.2;omega) (t:=0) gV) gX (by rw [show ∀ (o:Obj),(World.alloc w5 o).heap.size=w5.heap.size + 1 from fun o=>by simp];rfl) bQ gV ?_)
   intro v9 w9 hQ hTQ
   have hT:Touch (fun k=>w.heap.size≤k∧k < w1.heap.size) w5 w9:=(Touch.of_below (Rep.jB _ _)).trans (hTQ.wide (fun k q=>q.1))
   have z9:=hT.size
   have zq:=hTQ.size
   have zr:w5.heap.size + 1≤w9.heap.size:=by simpa using zq
   clear hTQ zq
   obtain ⟨l2,hl2⟩:∃ l2,l++[(nm,[(f - 1,y,0)],0)]=l2:=⟨_,rfl⟩
   rw [hl2] at hQ
   have HS2:=yD (show jP l2 10 from hl2 ▸ kDt HSM.out gV gW)
   have HL2:=yD (show l2.length=l.length + 1 by rw [← hl2];simp)
   clear hl2
   obtain ⟨a9,c9,rfl,_⟩:=Rep.sl hQ.raw
   have HO2:=yD (hQ.wide (T:=Btw w.heap.size w9.heap.size) (fun k q=>by rcases q with q | q | q;exact ⟨q.1,by have:=q.2;omega⟩;exact ⟨by have:=q.1;omega,by have:=q.2;omega⟩;exact ⟨by have:=q.1;(try simp at this);omega,q.2⟩))
   clear hQ
   replace hc:=hc.touch hT fH fB
   replace TE:=TE.kBh hT (fun k q=>q.1)
   clear hT HO HR
   go_wp2
   go_ret
   exact ⟨_,_,l2,rfl,HS2.out.mono gV,HO2.out.rdB,hc,TE⟩
 skip
 by_cases h1:m=1
 · subst h1
   go_wp2_with fail
   refine (kDn (s:={ data:=#[47,113] }) gU).mono ?_
   rintro e w3 ⟨na,nc,nm,rfl,hr,hpl,hb⟩
   have z_w3:=hb.size
   replace HO:=yD (HO.out.below hb)
   replace hc:=hc.below hb
   replace TE:=TE.trans (Touch.of_below hb)
   clear hb
   have HR:=yD (hr)
   clear hr
   go_wp2_with (at_builtin;refine Rep.jo rfl _ _ 24 rfl (r:=kE) (e:=67) Try.underlying24 kV rfl gU gU (w:=w3) HO.out bR (c:=1) (kHc (A:=Btw w2.heap.size w3.heap.size) (B:=fun _=>False) (S:=fun k=>w2.heap.size≤k∧k < w3.heap.size) HR.out Rep.jd (fun k q=>q) (fun k q=>q.elim) (fun k q1 q2=>q2) (t:=0) gV) gX gX bQ gV ?_)
   intro v9 w9 hQ hTQ
   have hT:Touch (fun k=>w.heap.size≤k∧k < w1.heap.size) w3 w9:=hTQ.wide (fun k q=>q.1)
   have z9:=hT.size
   clear hTQ
   obtain ⟨l2,hl2⟩:∃ l2,l++[(nm,[],0)]=l2:=⟨_,rfl⟩
   rw [hl2] at hQ
   have HS2:=yD (show jP l2 10 from hl2 ▸ kDt HSM.out gV gW)
   have HL2:=yD (show l2.length=l.length + 1 by rw [← hl2];simp)
   clear hl2
   obtain ⟨a9,c9,rfl,_⟩:=Rep.sl hQ.raw
   have HO2:=yD (hQ.wide (T:=Btw w.heap.size w9.heap.size) (fun k q=>by rcases q with q | q | q;exact ⟨q.1,by have:=q.2;omega⟩;exact ⟨by have:=q.1;omega,by have:=q.2;omega⟩;exact ⟨by have:=q.1;omega,q.2⟩))
   clear hQ
   replace hc:=hc.touch hT fH fB
   replace TE:=TE.kBh hT (fun k q=>q.1)
   clear hT HO HR
   go_wp2
   go_ret
   exact ⟨_,_,l2,rfl,HS2.out.mono gV,HO2.out.rdB,hc,TE⟩
 by_cases h2:m=2
 · subst h2
   by_cases hl0:0 < l.length
   · obtain ⟨_,bb,off,rfl,_,hbl⟩:=Rep.kHe HO.out hl0
     obtain ⟨ce,B,hoe,hB,hSb,hcell,_,_⟩:=Rep.own_get HO.out (i:=0) hl0
     obtain ⟨v0,v1,rfl,_,p0,p1,p2⟩:=kM hoe.raw
     obtain ⟨na,nc,rfl,_⟩:=Rep.sl p0
     obtain ⟨ra,rc,rfl,_⟩:=Rep.sl p1
     have A0:=hcell 0 _ rfl
     have A1:=hcell 1 _ rfl
     have A2:=hcell 2 _ rfl
     simp only [Nat.zero_mul,Nat.add_zero] at A0 A1 A2
     have hsm0:=HSM.out.2 _ (List.getElem_mem hl0)
     have HE:=yD hoe
     clear hcell hoe p0 p1
     have hlI:(0:Int) < l.length:=gV
     generalize l[0]=y at *
     go_wp2_with (at_builtin;refine Rep.kHv rfl _ _ 24 rfl (r:=kE) (e:=67) Try.underlying24 kV rfl gU gU (w:=w2) HO.out bR (c:=1) HE.out.rdB gX gX (fun b_ o_ q_ h_=>by simp only [Option.some.injEq,Addr.mk.injEq,and_true] at q_;have:=(hB _ h_).2;omega) hl0 gV ?_)
     intro v9 w9 hQ hTQ
     have hT:Touch (fun k=>w.heap.size≤k∧k < w1.heap.size) w2 w9:=hTQ.wide (fun k q=>q.1)
     have z9:=hT.size
     clear hTQ A0 A1 A2
     obtain ⟨l2,hl2⟩:∃ l2,l++[y]=l2:=⟨_,rfl⟩
     rw [hl2] at hQ
     have HS2:=yD (show jP l2 10 from hl2 ▸ kDt HSM.out gV gV)
     have HL2:=yD (show l2.length=l.length + 1 by rw [← hl2];simp)
     clear hl2
     obtain ⟨a9,c9,rfl,_⟩:=Rep.sl hQ.rd.1
     have HO2:=yD (hQ.wide (T:=Btw w.heap.size w9.heap.size) (fun k q=>by rcases q with q | q | q;exact ⟨q.1,by have:=q.2;omega⟩;(have:=(hB _ q).1;exact ⟨this.1,by have:=this.2;omega⟩);exact ⟨by have:=q.1;omega,q.2⟩))
     clear hQ
     replace hc:=hc.touch hT fH fB
     replace TE:=TE.kBh hT (fun k q=>q.1)
     clear hT HO HE
     go_wp2
     go_ret
     exact ⟨_,_,l2,rfl,HS2.out.mono gV,HO2.out,hc,TE⟩
   have hlI:¬ (0:Int) < l.length:=gV
   go_wp2
   go_ret
   exact ⟨_,_,l,rfl,HSM.out.mono gV,HO.out.rdB.wide dK,hc,TE⟩
 by_cases h3:m=3
 · subst h3
   go_wp2
   go_loopw [3,4] (fun v i wr=>∃ (j:Nat) (a:Option Addr) (n c:Nat) (l:List kD),v=.slice a n c∧i=.int .i64 j∧j≤n∧n≤13∧Hid (n=l.length)∧Hid (jP l 13)∧Hid ((Rep.slice 67 kE).own wr [.slice a n c] l (fun q=>w.heap.size≤q∧q < wr.heap.size))∧w2.heap.size≤wr.heap.size∧Cur w0 wr p∧Touch (fun k=>k=p) w wr) (fun v _ _=>match v with | .slice _ n _=>14 - n | _=>0)
   case atStart=>exact ⟨0,a,l.length,c,l,rfl,rfl,by omega,by omega,yD rfl,yD (HSM.out.mono gV),yD (HO.out.wide (fun q h=>⟨h.1,by have:=h.2;omega⟩)),Nat.le_refl _,hc,TE⟩
   clear hc TE HO HSM hl8
   obtain ⟨j,a,n,c,l,rfl,rfl,hj,hn13,HN,HSM,HO,hzr,hc,TE⟩:=hrel
   replace HO:=yD (HO.out.wide (T:=fun q=>w.heap.size≤q∧q < wr.heap.size) (fun _ h=>h))
   go_wp2_with fail
   refine (kX (n:=3) hc gU).mono ?_
   rintro e w10 ⟨y,hy0,hy1,hy2,rfl,hcN,htN⟩
   have z_w10:=htN.size
   replace HO:=yD (HO.out.touch htN bW)
   replace TE:=TE.trans htN
   clear hc htN
   have hc:=hcN
   clear hcN
   replace hy1:=hy1 gU
   clear hy2
   have hw:IntKind.i64.wrap (11 + y)=11 + y:=IntWalk.i64_in _ gV
   by_cases hlt:(n:Int) < 11 + y
   · have hn12:n≤12:=gV
     go_wp2_with fail
     refine (kDn (s:={ data:=#[47,122,122] }) gU).mono ?_
     rintro e w11 ⟨za,zc,zs,rfl,hr,hpl,hb⟩
     have z_w11:=hb.size
     replace HO:=yD (HO.out.below hb)
     replace hc:=hc.below hb
     replace TE:=TE.trans (Touch.of_below hb)
     clear hb
     have HZ:=yD (hr.wide (T:=fun q=>w10.heap.size≤q∧q < w11.heap.size) (fun _ h=>h))
     clear hr
     go_wp2_with fail
     refine (kGe (n:=(j:Int)) gV).mono ?_
     rintro e w12 ⟨rfl,hb⟩
     have z_w12:=hb.size
     replace HO:=yD (HO.out.below hb)
     replace HZ:=yD (HZ.out.below hb)
     replace hc:=hc.below hb
     replace TE:=TE.trans (Touch.of_below hb)
     clear hb
     have hts:=itoaB_size (n:=(j:Int)) gV
     generalize kEq (j:Int)=s at *
     have hsz:(({ data:=#[112] }:ByteArray)++s).size≤21:=by rw [ByteArray.size_append];have:({ data:=#[112] }:ByteArray).size=1:=rfl;omega
     go_wp2_with fail
     clear hts
     generalize ({ data:=#[112] }:ByteArray)++s=s5 at *
     refine (kAx (cn:=[.slice za zs.length zc]) HZ.out.rd (s:=s5) gV fQ).mono ?_
     rintro e w13 ⟨na,nn,nc,b2,rfl,hb2,hO2,hb⟩
     have z_w13:=hb.size
     replace HO:=yD (HO.out.below hb)
     replace HZ:=yD (HZ.out.below hb)
     replace hc:=hc.below hb
     replace TE:=TE.trans (Touch.of_below hb)
     clear hb
     have hql:(if b2 then zs++[s5] else zs).length≤65:=by split <;> (try simp only [List.length_append,List.length_cons,List.length_nil]) <;> omega
     generalize (if b2 then zs++[s5] else zs)=qs at *
     obtain ⟨_,_,_,hpe,HPN⟩:=hO2.parts
     simp only [Value.slice.injEq] at hpe
     have HQN:=yD (hpe.2.1.trans HPN.out)
     clear hpe HPN hsz
     have HB:=yD (hO2.wide (T:=fun q=>w12.heap.size≤q∧q < w13.heap.size) (fun _ h=>h))
     clear hO2
     clear HZ
     go_upto_region 15 with fail
     generalize hw_:World.alloc w13 _=w14
     have E_w14:Below w13.heap.size w13 w14:=dH
     have X:w14.heap[w13.heap.size]?=some (.cells #[.slice na nn nc] 27 (0,0)):=fC
     have z_w14:w13.heap.size + 1≤w14.heap.size:=fU
     clear hw_
     replace HO:=yD (HO.out.below E_w14)
     replace HB:=yD (HB.out.below E_w14)
     replace hc:=hc.below E_w14
     replace TE:=TE.trans (Touch.of_below E_w14)
     clear E_w14
     have KX_0:w14.cell? ⟨w13.heap.size,0,none⟩=some (.slice na nn nc):=kL X rfl
     have hfl:kF.flat [.int .i64 1,.int .i64 0,.int .i64 0] (1,0,0):=Rep.jA (cs:=[.int .i64 1]) (Rep.kW gV) (Rep.jA (cs:=[.int .i64 0]) (Rep.kW gV) (Rep.kW gV))
     go_wp2_with (at_builtin;refine Rep.jo rfl _ _ 24 rfl (r:=kE) (e:=67) Try.underlying24 kV rfl gU gU (w:=w14) HO.out (Rep.jB _ _) (c:=1) (kHc (A:=fun q=>w12.heap.size≤q∧q < w13.heap.size) (B:=fun k=>k=w14.heap.size) (S:=fun k=>w12.heap.size≤k∧k≤w14.heap.size) ((HB.out.own fQ).below (Rep.jB _ _)) ((Rep.kEo w14 hfl).own gT) dK (fun k q=>by omega) (fun k q1 q2=>by have:=q1.2;omega) (t:=0) gV) gX (by rw [show ∀ (o:Obj),(World.alloc w14 o).heap.size=w14.heap.size + 1 from fun o=>by simp];rfl) bQ (by have:=HN.out;omega) ?_)
     intro v9 w9 hQ hTQ
     have hT:Touch (fun k=>w.heap.size≤k∧k < wr.heap.size) w14 w9:=(Touch.of_below (Rep.jB _ _)).trans (hTQ.wide (fun k q=>q.1))
     have z9:=hT.size
     have zq:=hTQ.size
     have zr:w14.heap.size + 1≤w9.heap.size:=by simpa using zq
     clear hTQ zq
     obtain ⟨l2,hl2⟩:∃ l2,l++[(qs,[(1,0,0)],0)]=l2:=⟨_,rfl⟩
     rw [hl2] at hQ
     have HS2:=yD (show jP l2 13 from hl2 ▸ smallP_snoc HSM.out (by have:=HN.out;omega) gW)
     have HL2:=yD (show l2.length=l.length + 1 by rw [← hl2];simp)
     clear hl2
     obtain ⟨a9,c9,rfl,_⟩:=Rep.sl hQ.raw
     have HO2:=yD (hQ.wide (T:=fun q=>w.heap.size≤q∧q < w9.heap.size) (fun k q=>by rcases q with q | q | q;exact ⟨q.1,by have:=q.2;omega⟩;exact ⟨by have:=q.1;omega,by have:=q.2;omega⟩;exact ⟨by have:=q.1;(try simp at this);omega,q.2⟩))
     clear hQ
     have hc2:=hc.touch hT fH fB
     have TE2:=TE.kBh hT (fun k q=>q.1)
     clear hT hc TE HO HB X KX_0
     go_wp2
     go_roundw
     case rel=>exact ⟨j + 1,a9,l2.length,_,l2,rfl,by go_num,by have h1:=HL2.out;have h2:=HN.out;omega,by have h1:=HL2.out;have h2:=HN.out;omega,yD rfl,HS2,HO2,by omega,hc2,TE2⟩
     have h1:=HL2.out;have h2:=HN.out;first | omega|(simp;omega)
   go_wp2
   go_ret
   have hn:=HN.out
   subst hn
   exact ⟨_,_,l,rfl,HSM.out.mono gV,HO.out.rdB.wide dK,hc,TE⟩
 go_wp2
 go_ret
 exact ⟨_,_,l,rfl,HSM.out.mono gV,HO.out.rdB.wide dK,hc,TE⟩
theorem int_own2 {w:World} {v:Value} {ps:kw} {n h t:Int} {S:Nat→Prop} (k:(Rep.slice 9 Rep.str).own w [v] ps S) (hn:-9223372036854775808≤n∧n≤9223372036854775807) (hh:-1≤h∧h≤17) (ht:0≤t∧t≤21):jl.own w [v,.int .i64 n,.int .i64 h,.int .i64 t] (ps,n,h,t) S :=
  Rep.jm (r:=kZ) (cs:=[v]) (ds:=[.int .i64 n,.int .i64 h,.int .i64 t]) k (Rep.jA (cs:=[.int .i64 n]) (Rep.kW hn) (Rep.jA (cs:=[.int .i64 h]) (Rep.kW gV) (Rep.kW gV)))
theorem kAp {w0 w:World} {p:Nat} (hc:Cur w0 w p) {la:Option Addr} {lc:Nat} {l:List kD} (hl:(Rep.slice 67 kE).rdB w [.slice la l.length lc] l (fun k=>¬ k=p)) (hll:l.length≤200) :
    Calls Try.prog 32 #[.pointer (some ⟨p,0,none⟩),.slice la l.length lc] w fun e w'=>∃ a c ps n h t,e=.returned (.agg #[.slice a ps.length c,.int .i64 n,.int .i64 h,.int .i64 t])∧kZ.own w' [.slice a ps.length c] ps (Btw w.heap.size w'.heap.size)∧(-9223372036854775808≤n∧n≤9223372036854775807)∧(-1≤h∧h≤17)∧(0≤t∧t≤21)∧Cur w0 w' p∧Touch (fun k=>k=p) w w':=by
 go_enter Try.func32,Try.ntmps32
 obtain ⟨hp0,hp1⟩:=hc.lt
 have HL:=yD (hl.live.wide (T:=fun k=>k < w.heap.size∧¬ k=p) (fun k q=>⟨q.2,q.1⟩))
 clear hl
 go_upto_region 1 with fail
 generalize hw_:World.alloc w _=w1
 have E_w1:Below w.heap.size w w1:=dH
 have R:w1.heap[w.heap.size]?=some (.cells #[.slice none 0 0,.int .i64 0,.int .i64 0,.int .i64 0] 29 (0,0)):=fC
 have z_w1:w.heap.size + 1≤w1.heap.size:=fU
 clear hw_
 replace HL:=yD (HL.out.below E_w1)
 replace hc:=hc.below E_w1
 have TE:Touch (fun k=>k=p) w w1:=Touch.of_below E_w1
 clear E_w1
 go_wp2_with fail
 refine (specl7Any_c hc).mono ?_
 rintro e w2 ⟨a,c,ps,n,h,t,rfl,hO,hps,hn,hh,ht,hcN,htN⟩
 have z_w2:=htN.size
 replace R:=htN.kI R gV
 replace HL:=yD (HL.out.touch htN bW)
 replace TE:=TE.trans htN
 clear hc htN
 have hc:=hcN
 clear hcN
 have HO:=yD (hO.wide (T:=fun j=>w1.heap.size≤j∧j < w2.heap.size) (fun _ h=>h))
 clear hO
 go_upto_region 2 with fail
 generalize hw_:World.alloc w2 _=w3
 have E_w3:Below w2.heap.size w2 w3:=dH
 have B:w3.heap[w2.heap.size]?=some (.cells #[.slice a ps.length c,.int .i64 n,.int .i64 h,.int .i64 t] 29 (0,0)):=fC
 have z_w3:w2.heap.size + 1≤w3.heap.size:=fU
 clear hw_
 replace R:=kI R E_w3
 replace HL:=yD (HL.out.below E_w3)
 replace HO:=yD (HO.out.below E_w3)
 replace hc:=hc.below E_w3
 replace TE:=TE.trans (Touch.of_below E_w3)
 clear E_w3
 by_cases hl0:0 < l.length
 · have hlI:(0:Int) < l.length:=gV
   go_wp2_with fail
   refine (yK (n:=2) hc gU).mono ?_
   rintro e w4 ⟨b,rfl,hcN,htN⟩
   have z_w4:=htN.size
   replace R:=htN.kI R gV
   replace B:=htN.kI B gV
   replace HL:=yD (HL.out.touch htN bW)
   replace HO:=yD (HO.out.touch htN bW)
   replace TE:=TE.trans htN
   clear hc htN
   have hc:=hcN
   clear hcN
   cases b
   · have KR_0:w4.cell? ⟨w.heap.size,0,none⟩=some (.slice none 0 0):=kL R rfl
     have KR_1:w4.cell? ⟨w.heap.size,1,none⟩=some (.int .i64 0):=kL R rfl
     have KR_2:w4.cell? ⟨w.heap.size,2,none⟩=some (.int .i64 0):=kL R rfl
     have KR_3:w4.cell? ⟨w.heap.size,3,none⟩=some (.int .i64 0):=kL R rfl
     obtain ⟨KB_0,KB_1,KB_2,KB_3⟩:=jL B
     obtain ⟨FR_0,FR_1,FR_2,FR_3⟩:=yJ R
     go_wp2
     refine bodyPost_ret (v:=.agg #[.slice a ps.length c,.int .i64 n,.int .i64 h,.int .i64 t]) bE rfl ⟨a,c,ps,n,h,t,rfl,?_,by omega,by omega,by omega,hc.touch ((((kC _ _ _ _).trans (kC _ _ _ _)).trans (kC _ _ _ _)).trans (kC _ _ _ _)) gV fT,TE.ku ((((kC _ _ _ _).trans (kC _ _ _ _)).trans (kC _ _ _ _)).trans (kC _ _ _ _)) gV⟩
     exact (HO.out.touch ((((kC _ _ _ _).trans (kC _ _ _ _)).trans (kC _ _ _ _)).trans (kC _ _ _ _)) dZ).wide bF
   go_wp2_with fail
   refine (kX (n:=(l.length:Int)) hc gV).mono ?_
   rintro e w5 ⟨x,hx0,hx1,hx2,rfl,hcN,htN⟩
   have z_w5:=htN.size
   replace R:=htN.kI R gV
   replace B:=htN.kI B gV
   replace HL:=yD (HL.out.touch htN bW)
   replace HO:=yD (HO.out.touch htN bW)
   replace TE:=TE.trans htN
   clear hc htN
   have hc:=hcN
   clear hcN
   replace hx1:=hx1 hlI
   clear hx2
   obtain ⟨k,rfl⟩:=Int.eq_ofNat_of_zero_le hx0
   have hk:k < l.length:=gV
   obtain ⟨bb,off,rfl,ce,hce,hcell⟩:=Rep.rdB_get HL.out hk
   obtain ⟨v0,v1,rfl,hN,hR,hs⟩:=pend_rdB hce
   obtain ⟨na,nc,rfl,_⟩:=Rep.sl hN.rd.1
   obtain ⟨ra,rc,rfl,_⟩:=Rep.sl hR.rd.1
   have A0:=hcell 0 _ rfl
   have A1:=hcell 1 _ rfl
   have A2:=hcell 2 _ rfl
   simp only [Nat.add_zero,kEc] at A0 A1 A2
   have HN:=yD hN
   have HR:=yD hR
   clear hcell hce hN hR
   generalize l[k]=y at *
   go_upto_region 4 with fail
   generalize hw_:World.alloc w5 _=w6
   have E_w6:Below w5.heap.size w5 w6:=dH
   have X:w6.heap[w5.heap.size]?=some (.cells #[.slice na y.1.length nc,.slice ra y.2.1.length rc,.int .i64 y.2.2] 67 (0,0)):=fC
   have z_w6:w5.heap.size + 1≤w6.heap.size:=fU
   clear hw_
   replace R:=kI R E_w6
   replace B:=kI B E_w6
   replace HL:=yD (HL.out.below E_w6)
   replace HO:=yD (HO.out.below E_w6)
   replace HN:=yD (HN.out.below E_w6)
   replace HR:=yD (HR.out.below E_w6)
   replace hc:=hc.below E_w6
   replace TE:=TE.trans (Touch.of_below E_w6)
   clear E_w6
   clear A0 A1 A2
   clear HL
   obtain ⟨KX_0,KX_1,KX_2⟩:=rowC3 X
   obtain ⟨KB_0,KB_1,KB_2,KB_3⟩:=jL B
   obtain ⟨FB_0,FB_1,FB_2,FB_3⟩:=yJ B
   go_wp2_with fail
   refine (kBj (ca:=[.slice na y.1.length nc]) HN.out.rd).mono ?_
   rintro e w7 ⟨qa,qn,qc,rfl,hQ,hb⟩
   have z_w7:=hb.size
   replace R:=kI R hb
   replace B:=kI B hb
   replace X:=kI X hb
   replace HO:=yD (HO.out.below hb)
   replace HN:=yD (HN.out.below hb)
   replace HR:=yD (HR.out.below hb)
   replace hc:=hc.below hb
   replace TE:=TE.trans (Touch.of_below hb)
   clear KX_0 KX_1 KX_2 KB_0 KB_1 KB_2 KB_3 FB_0 FB_1 FB_2 FB_3
   clear hb
   obtain ⟨_,_,_,hpe,HPN⟩:=hQ.parts
   simp only [Value.slice.injEq] at hpe
   obtain rfl:=hpe.2.1.trans HPN.out
   clear hpe HPN
   have HQ:=yD ((hQ.own HN.out.2.1).wide (T:=fun j=>w1.heap.size≤j∧j < w7.heap.size∧¬ j=w2.heap.size) bJ)
   clear hQ
   clear HO HN
   obtain ⟨KB_0,KB_1,KB_2,KB_3⟩:=jL B
   obtain ⟨FB_0,FB_1,FB_2,FB_3⟩:=yJ B
   go_upto_region 5 with fail
   generalize hw_:World.setCell w7 _ _=w8
   have T_w8:Touch (fun k=>k=w2.heap.size) w7 w8:=by rw [← hw_];exact kC w7 (w2.heap.size) 0 _
   replace B:w8.heap[w2.heap.size]?=some (.cells #[.slice qa y.1.length qc,.int .i64 n,.int .i64 h,.int .i64 t] 29 (0,0)):=fF
   have z_w8:=T_w8.size
   clear hw_
   replace R:=T_w8.kI R gV
   replace X:=T_w8.kI X gV
   replace HR:=yD (HR.out.touch T_w8 bW)
   replace HQ:=yD (HQ.out.touch T_w8 bW)
   replace hc:=hc.touch T_w8 gV fT
   replace TE:=TE.ku T_w8 gV
   clear KB_0 KB_1 KB_2 KB_3 FB_0 FB_1 FB_2 FB_3
   clear T_w8
   obtain ⟨KX_0,KX_1,KX_2⟩:=rowC3 X
   by_cases hr0:0 < y.2.1.length
   · have hrI:(0:Int) < y.2.1.length:=gV
     go_wp2_with fail
     refine (yK (n:=2) hc gU).mono ?_
     rintro e w9 ⟨b,rfl,hcN,htN⟩
     have z_w9:=htN.size
     replace R:=htN.kI R gV
     replace B:=htN.kI B gV
     replace X:=htN.kI X gV
     replace HR:=yD (HR.out.touch htN bW)
     replace HQ:=yD (HQ.out.touch htN bW)
     replace TE:=TE.trans htN
     clear KX_0 KX_1 KX_2
     clear hc htN
     have hc:=hcN
     clear hcN
     cases b
     · have HQ2:=yD (HQ.out.wide (T:=fun j=>w1.heap.size≤j∧j < w9.heap.size) dF)
       obtain ⟨KR_0,KR_1,KR_2,KR_3⟩:=jL R
       obtain ⟨KB_0,KB_1,KB_2,KB_3⟩:=jL B
       obtain ⟨FR_0,FR_1,FR_2,FR_3⟩:=yJ R
       go_wp2
       refine bodyPost_ret (v:=.agg #[.slice qa y.1.length qc,.int .i64 n,.int .i64 h,.int .i64 t]) bE rfl ⟨qa,qc,y.1,n,h,t,rfl,?_,by omega,by omega,by omega,hc.touch ((((kC _ _ _ _).trans (kC _ _ _ _)).trans (kC _ _ _ _)).trans (kC _ _ _ _)) gV fT,TE.ku ((((kC _ _ _ _).trans (kC _ _ _ _)).trans (kC _ _ _ _)).trans (kC _ _ _ _)) gV⟩
       exact (HQ2.out.touch ((((kC _ _ _ _).trans (kC _ _ _ _)).trans (kC _ _ _ _)).trans (kC _ _ _ _)) dZ).wide bF
     obtain ⟨rb,roff,rfl,d0,d1,d2,hd,D0,D1,D2⟩:=Rep.yP HR.out.rd.1 hr0 rfl
     obtain ⟨he,r0,r1,r2⟩:=ko hd
     simp only [List.cons.injEq,and_true] at he
     obtain ⟨rfl,rfl,rfl⟩:=he
     clear hd D0 D2
     simp only [Nat.zero_mul,Nat.add_zero] at D1
     generalize y.2.1[0]=z at *
     obtain ⟨KX_0,KX_1,KX_2⟩:=rowC3 X
     obtain ⟨KB_0,KB_1,KB_2,KB_3⟩:=jL B
     obtain ⟨FB_0,FB_1,FB_2,FB_3⟩:=yJ B
     go_upto_region 7 with fail
     clear D1
     generalize hw_:World.setCell w9 _ _=w10
     have T_w10:Touch (fun k=>k=w2.heap.size) w9 w10:=by rw [← hw_];exact kC w9 (w2.heap.size) 1 _
     replace B:w10.heap[w2.heap.size]?=some (.cells #[.slice qa y.1.length qc,.int .i64 z.2.1,.int .i64 h,.int .i64 t] 29 (0,0)):=by rw [← hw_];exact jJ B 1
     have z_w10:=T_w10.size
     clear hw_
     replace R:=T_w10.kI R gV
     replace X:=T_w10.kI X gV
     replace HR:=yD (HR.out.touch T_w10 bW)
     replace HQ:=yD (HQ.out.touch T_w10 bW)
     replace hc:=hc.touch T_w10 gV fT
     replace TE:=TE.ku T_w10 gV
     clear KX_0 KX_1 KX_2 KB_0 KB_1 KB_2 KB_3 FB_0 FB_1 FB_2 FB_3
     clear T_w10
     have HQ2:=yD (HQ.out.wide (T:=fun j=>w1.heap.size≤j∧j < w10.heap.size) dF)
     obtain ⟨KR_0,KR_1,KR_2,KR_3⟩:=jL R
     obtain ⟨KB_0,KB_1,KB_2,KB_3⟩:=jL B
     obtain ⟨FR_0,FR_1,FR_2,FR_3⟩:=yJ R
     go_wp2
     refine bodyPost_ret (v:=.agg #[.slice qa y.1.length qc,.int .i64 z.2.1,.int .i64 h,.int .i64 t]) bE rfl ⟨qa,qc,y.1,z.2.1,h,t,rfl,?_,by omega,by omega,by omega,hc.touch ((((kC _ _ _ _).trans (kC _ _ _ _)).trans (kC _ _ _ _)).trans (kC _ _ _ _)) gV fT,TE.ku ((((kC _ _ _ _).trans (kC _ _ _ _)).trans (kC _ _ _ _)).trans (kC _ _ _ _)) gV⟩
     exact (HQ2.out.touch ((((kC _ _ _ _).trans (kC _ _ _ _)).trans (kC _ _ _ _)).trans (kC _ _ _ _)) dZ).wide bF
   have hrI:¬ (0:Int) < y.2.1.length:=gV
   have HQ2:=yD (HQ.out.wide (T:=fun j=>w1.heap.size≤j∧j < w8.heap.size) dF)
   clear KX_0 KX_1 KX_2
   obtain ⟨KR_0,KR_1,KR_2,KR_3⟩:=jL R
   obtain ⟨KB_0,KB_1,KB_2,KB_3⟩:=jL B
   obtain ⟨KX_0,KX_1,KX_2⟩:=rowC3 X
   obtain ⟨FR_0,FR_1,FR_2,FR_3⟩:=yJ R
   go_wp2
   refine bodyPost_ret (v:=.agg #[.slice qa y.1.length qc,.int .i64 n,.int .i64 h,.int .i64 t]) bE rfl ⟨qa,qc,y.1,n,h,t,rfl,?_,by omega,by omega,by omega,hc.touch ((((kC _ _ _ _).trans (kC _ _ _ _)).trans (kC _ _ _ _)).trans (kC _ _ _ _)) gV fT,TE.ku ((((kC _ _ _ _).trans (kC _ _ _ _)).trans (kC _ _ _ _)).trans (kC _ _ _ _)) gV⟩
   exact (HQ2.out.touch ((((kC _ _ _ _).trans (kC _ _ _ _)).trans (kC _ _ _ _)).trans (kC _ _ _ _)) dZ).wide bF
 have hlI:¬ (0:Int) < l.length:=gV
 obtain ⟨KR_0,KR_1,KR_2,KR_3⟩:=jL R
 obtain ⟨KB_0,KB_1,KB_2,KB_3⟩:=jL B
 obtain ⟨FR_0,FR_1,FR_2,FR_3⟩:=yJ R
 go_wp2
 refine bodyPost_ret (v:=.agg #[.slice a ps.length c,.int .i64 n,.int .i64 h,.int .i64 t]) bE rfl ⟨a,c,ps,n,h,t,rfl,?_,by omega,by omega,by omega,hc.touch ((((kC _ _ _ _).trans (kC _ _ _ _)).trans (kC _ _ _ _)).trans (kC _ _ _ _)) gV fT,TE.ku ((((kC _ _ _ _).trans (kC _ _ _ _)).trans (kC _ _ _ _)).trans (kC _ _ _ _)) gV⟩
 exact (HO.out.touch ((((kC _ _ _ _).trans (kC _ _ _ _)).trans (kC _ _ _ _)).trans (kC _ _ _ _)) dZ).wide bF
def DrawnA (w:World) (e:Ending) (w':World):Prop:=∃ (a:Option Addr) (c:Nat) (l:List kD) (ia:Option Addr) (ic:Nat) (ps:kw) (n h t s:Int),e=.returned (.tuple #[.slice a l.length c,.agg #[.slice ia ps.length ic,.int .i64 n,.int .i64 h,.int .i64 t],.int .i64 s,.int .i64 50])∧jP l 14∧(Rep.slice 67 kE).rdB w' [.slice a l.length c] l (Btw w.heap.size w'.heap.size)∧kZ.own w' [.slice ia ps.length ic] ps (Btw w.heap.size w'.heap.size)∧(-9223372036854775808≤n∧n≤9223372036854775807)∧(-1≤h∧h≤17)∧(0≤t∧t≤21)∧(-1≤s∧s≤7)∧Below w.heap.size w w'
theorem kBl {w:World} {v:Value} {code:List UInt8} (hcode:(Rep.slice 5 Rep.byte).raw w [v] code) :
    Calls Try.prog 5 #[v] w (DrawnA w):=by
 obtain ⟨ca,cc,rfl,_⟩:=Rep.sl hcode
 go_enter Try.func5,Try.ntmps5
 go_upto_region 1 with fail
 generalize hw_:World.alloc w _=w1
 have E_w1:Below w.heap.size w w1:=dH
 have R:w1.heap[w.heap.size]?=some (.cells #[.slice none 0 0,.int .i64 0,.int .i64 0,.int .i64 0] 29 (0,0)):=fC
 have z_w1:w.heap.size + 1≤w1.heap.size:=fU
 clear hw_
 have EE:=E_w1
 clear E_w1
 go_wp2_with fail
 refine (zL hcode EE).mono ?_
 rintro e w2 ⟨p,rfl,hc,hp0,hbN⟩
 have z_w2:=hbN.size
 have hp1:=hc.lt.2
 replace R:=kI R hbN
 have TE:Touch (fun k=>k=p) w w2:=Touch.of_below (tQ EE hbN)
 clear hbN EE
 go_wp2_with fail
 refine (yL hc).mono ?_
 rintro e w3 ⟨a,c,l,rfl,hsm,hO,hcN,htN⟩
 have z_w3:=htN.size
 replace R:=htN.kI R gV
 replace TE:=TE.trans htN
 clear hc htN
 have hc:=hcN
 clear hcN
 have HO:=yD (hO)
 clear hO
 go_wp2_with fail
 refine (kAp hc (HO.out.wide fB) (by have:=hsm.1;omega)).mono ?_
 rintro e w4 ⟨ia,ic,ps,n,h,t,rfl,hr,hn,hh,ht,hcN,htN⟩
 have z_w4:=htN.size
 replace R:=htN.kI R gV
 replace HO:=yD (HO.out.touch htN bW)
 replace TE:=TE.trans htN
 clear hc htN
 have hc:=hcN
 clear hcN
 have HR:=yD (hr)
 clear hr
 go_upto_region 4 with fail
 generalize hw_:World.alloc w4 _=w5
 have E_w5:Below w4.heap.size w4 w5:=dH
 have B:w5.heap[w4.heap.size]?=some (.cells #[.slice ia ps.length ic,.int .i64 n,.int .i64 h,.int .i64 t] 29 (0,0)):=fC
 have z_w5:w4.heap.size + 1≤w5.heap.size:=fU
 clear hw_
 replace R:=kI R E_w5
 replace HO:=yD (HO.out.below E_w5)
 replace HR:=yD (HR.out.below E_w5)
 replace hc:=hc.below E_w5
 replace TE:=TE.trans (Touch.of_below E_w5)
 clear E_w5
 refine jX (SR w w5 p (w.heap.size) 29 4) [(0,true),(1,true),(2,true),(3,false),(4,true),(5,true),(6,false),(7,true),(8,true)] gP gP bX (SR.start hc R rfl) ?_
 intro wS1 HS
 simp only [kg,List.getElem?_cons_succ,List.getElem?_cons_zero,List.map_cons,List.map_nil]
 refine kJ (v:=?_) rfl (fun W hW=>?_) ?_;rotate_left;(· go_simp;try with_reducible rfl)
 try simp only [Act.put,zA,zB,zC]
 refine kJ (v:=?_) rfl (fun W hW=>?_) ?_;rotate_left;(· have A_0:=kL (hW.touch.kI B gV) (j:=0) (v:=.slice ia ps.length ic) rfl;have A_1:=kL (hW.touch.kI B gV) (j:=1) (v:=.int .i64 n) rfl;have A_2:=kL (hW.touch.kI B gV) (j:=2) (v:=.int .i64 h) rfl;have A_3:=kL (hW.touch.kI B gV) (j:=3) (v:=.int .i64 t) rfl;clear hW;go_simp;try with_reducible rfl)
 try simp only [Act.put,zA,zB,zC]
 refine kJ (v:=?_) rfl (fun W hW=>?_) ?_;rotate_left;(· go_simp;try with_reducible rfl)
 try simp only [Act.put,zA,zB,zC]
 refine kQ rfl (fun K hK=>?_);go_simp;refine (kX (n:=9) HS.2 gU).mono ?_;rintro e wS1 ⟨x,hx0,hx1,hx2,rfl,hcS,htS⟩;replace hx1:=hx1 gU;clear hx2;replace HS:=HS.go htS hcS gV;clear hcS htS;have hw:IntKind.i64.wrap (x - 1)=x - 1:=IntWalk.i64_in _ gV;refine hK _ _ HS ?_;clear hK K
 iterate 2
  try simp only [Act.put,zA,zB,zC]
  refine kJ (v:=?_) rfl (fun W hW=>?_) ?_;rotate_left;(· go_simp;try with_reducible rfl)
 try simp only [Act.put,zA,zB,zC]
 have hzS:=HS.touch.size
 obtain ⟨l_,hl_,RS⟩:=HS.row
 obtain ⟨x0_,x1_,x2_,x3_,rfl⟩:=list4 hl_
 have KR_0:wS1.cell? ⟨w.heap.size,0,none⟩=some x0_:=kL RS rfl
 have FR_0:wS1.frozen? ⟨w.heap.size,0,none⟩=false:=frozen_of_row wS1 (w.heap.size) 0 _ _ RS
 have KR_1:wS1.cell? ⟨w.heap.size,1,none⟩=some x1_:=kL RS rfl
 have FR_1:wS1.frozen? ⟨w.heap.size,1,none⟩=false:=frozen_of_row wS1 (w.heap.size) 1 _ _ RS
 have KR_2:wS1.cell? ⟨w.heap.size,2,none⟩=some x2_:=kL RS rfl
 have FR_2:wS1.frozen? ⟨w.heap.size,2,none⟩=false:=frozen_of_row wS1 (w.heap.size) 2 _ _ RS
 have KR_3:wS1.cell? ⟨w.heap.size,3,none⟩=some x3_:=kL RS rfl
 have FR_3:wS1.frozen? ⟨w.heap.size,3,none⟩=false:=frozen_of_row wS1 (w.heap.size) 3 _ _ RS
 have HOS:=yD (HO.out.touch HS.touch bW)
 have HRS:=yD (HR.out.touch HS.touch bW)
 have BS:=(TE.below nL fT).trans (HS.touch.below (B:=w.heap.size) gV fT)
 refine kQ rfl (fun K hK=>?_);go_simp;refine hK _ _ ((((HS.set gV gV _ _).set gV gV _ _).set gV gV _ _).set gV gV _ _) ?_;clear hK K
 iterate 2
  try simp only [Act.put,zA,zB,zC]
  refine kJ (v:=?_) rfl (fun W hW=>?_) ?_;rotate_left;(· go_simp;try with_reducible rfl)
 try simp only [Act.put,zA,zB,zC]
 refine kN ?_
 go_wp2
 refine bodyPost_ret (v:=.tuple #[.slice a l.length c,.agg #[.slice ia ps.length ic,.int .i64 n,.int .i64 h,.int .i64 t],.int .i64 (x - 1),.int .i64 50]) (by simp [results,Try.results5,go_sem,KR_0,FR_0,KR_1,FR_1,KR_2,FR_2,KR_3,FR_3]) rfl ⟨a,c,l,ia,ic,ps,n,h,t,x - 1,rfl,hsm,?_,?_,hn,hh,ht,by omega,?_⟩
 · exact (HOS.out.touch ((((kC _ _ _ _).trans (kC _ _ _ _)).trans (kC _ _ _ _)).trans (kC _ _ _ _)) dV).wide bF
 · exact (HRS.out.touch ((((kC _ _ _ _).trans (kC _ _ _ _)).trans (kC _ _ _ _)).trans (kC _ _ _ _)) dV).wide bF
 exact BS.trans (((((kC _ _ _ _).trans (kC _ _ _ _)).trans (kC _ _ _ _)).trans (kC _ _ _ _):Touch (fun k=>k=w.heap.size) wS1 _).below (B:=w.heap.size) gV fT)
def DrawnH (w:World) (e:Ending) (w':World):Prop:=∃ (a:Option Addr) (c:Nat) (l:List kD) (ia:Option Addr) (ic:Nat) (ps:kw),e=.returned (.tuple #[.slice a l.length c,.agg #[.slice ia ps.length ic]])∧jP l 14∧(Rep.slice 67 kE).rdB w' [.slice a l.length c] l (Btw w.heap.size w'.heap.size)∧kZ.own w' [.slice ia ps.length ic] ps (Btw w.heap.size w'.heap.size)∧Below w.heap.size w w'
theorem yI {w:World} {v:Value} {code:List UInt8} (hcode:(Rep.slice 5 Rep.byte).raw w [v] code) :
    Calls Try.prog 50 #[v] w (DrawnH w):=by
 obtain ⟨ca,cc,rfl,_⟩:=Rep.sl hcode
 go_enter Try.func50,Try.ntmps50
 go_upto_region 1 with fail
 generalize hw_:World.alloc w _=w1
 have E_w1:Below w.heap.size w w1:=dH
 have R:w1.heap[w.heap.size]?=some (.cells #[.slice none 0 0] 27 (0,0)):=fC
 have z_w1:w.heap.size + 1≤w1.heap.size:=fU
 clear hw_
 have EE:=E_w1
 clear E_w1
 go_wp2_with fail
 refine (zL hcode EE).mono ?_
 rintro e w2 ⟨p,rfl,hc,hp0,hbN⟩
 have z_w2:=hbN.size
 have hp1:=hc.lt.2
 replace R:=kI R hbN
 have TE:Touch (fun k=>k=p) w w2:=Touch.of_below (tQ EE hbN)
 clear hbN EE
 go_wp2_with fail
 refine (yL hc).mono ?_
 rintro e w3 ⟨a,c,l,rfl,hsm,hO,hcN,htN⟩
 have z_w3:=htN.size
 replace R:=htN.kI R gV
 replace TE:=TE.trans htN
 clear hc htN
 have hc:=hcN
 clear hcN
 have HO:=yD (hO)
 clear hO
 go_wp2_with fail
 refine (kAp hc (HO.out.wide fB) (by have:=hsm.1;omega)).mono ?_
 rintro e w4 ⟨ia,ic,ps,n,h,t,rfl,hr,hn,hh,ht,hcN,htN⟩
 have z_w4:=htN.size
 replace R:=htN.kI R gV
 replace HO:=yD (HO.out.touch htN bW)
 replace TE:=TE.trans htN
 clear hc htN
 have hc:=hcN
 clear hcN
 have HR:=yD (hr)
 clear hr
 have KR_0:w4.cell? ⟨w.heap.size,0,none⟩=some (.slice none 0 0):=kL R rfl
 have FR_0:w4.frozen? ⟨w.heap.size,0,none⟩=false:=frozen_of_row w4 (w.heap.size) 0 _ _ R
 have hfd:Sem.run Try.prog (Instr.field 29 (.agg #[.slice ia ps.length ic,.int .i64 n,.int .i64 h,.int .i64 t]) 0) w4=.ok (.agg #[.slice ia ps.length ic]) w4:=gP
 go_wp2
 refine bodyPost_ret (v:=.tuple #[.slice a l.length c,.agg #[.slice ia ps.length ic]]) (by simp [results,Try.results50,go_sem,KR_0,FR_0]) rfl ⟨a,c,l,ia,ic,ps,rfl,hsm,?_,?_,?_⟩
 · exact (HO.out.touch (kC w4 w.heap.size 0 _) dV).wide bF
 · exact (HR.out.touch (kC w4 w.heap.size 0 _) dV).wide bF
 exact (TE.below nL fT).setCell gW _
theorem kEf {w:World} {v:Value} {code:List UInt8} (hcode:(Rep.slice 5 Rep.byte).raw w [v] code) :
    Calls Try.prog 8 #[v] w (DrawnH w):=by
 obtain ⟨ca,cc,rfl,_⟩:=Rep.sl hcode
 go_enter Try.func8,Try.ntmps8
 go_upto_region 1 with fail
 generalize hw_:World.alloc w _=w1
 have E_w1:Below w.heap.size w w1:=dH
 have R:w1.heap[w.heap.size]?=some (.cells #[.slice none 0 0] 27 (0,0)):=fC
 have z_w1:w.heap.size + 1≤w1.heap.size:=fU
 clear hw_
 have EE:=E_w1
 clear E_w1
 go_wp2_with fail
 refine (yI (hcode.below EE)).mono ?_
 rintro e w2 ⟨a,c,l,ia,ic,ps,rfl,hsm,hO,hr,hb⟩
 have z_w2:=hb.size
 replace R:=kI R hb
 replace EE:=(tQ EE hb)
 clear hb
 have HO:=yD (hO)
 have HR:=yD (hr)
 clear hO hr
 have KR_0:w2.cell? ⟨w.heap.size,0,none⟩=some (.slice none 0 0):=kL R rfl
 have FR_0:w2.frozen? ⟨w.heap.size,0,none⟩=false:=frozen_of_row w2 (w.heap.size) 0 _ _ R
 go_wp2
 refine bodyPost_ret (v:=.tuple #[.slice a l.length c,.agg #[.slice ia ps.length ic]]) (by simp [results,Try.results8,go_sem,KR_0,FR_0]) rfl ⟨a,c,l,ia,ic,ps,rfl,hsm,?_,?_,?_⟩
 · exact (HO.out.touch (kC w2 w.heap.size 0 _) dV).wide bF
 · exact (HR.out.touch (kC w2 w.heap.size 0 _) dV).wide bF
 exact EE.setCell gW _
theorem kCj {w:World} {v:Value} {code:List UInt8} (hcode:(Rep.slice 5 Rep.byte).raw w [v] code) :
    Calls Try.prog 14 #[v] w (DrawnH w):=by
 obtain ⟨ca,cc,rfl,_⟩:=Rep.sl hcode
 go_enter Try.func14,Try.ntmps14
 go_upto_region 1 with fail
 generalize hw_:World.alloc w _=w1
 have E_w1:Below w.heap.size w w1:=dH
 have R:w1.heap[w.heap.size]?=some (.cells #[.slice none 0 0] 27 (0,0)):=fC
 have z_w1:w.heap.size + 1≤w1.heap.size:=fU
 clear hw_
 have EE:=E_w1
 clear E_w1
 go_wp2_with fail
 refine (yI (hcode.below EE)).mono ?_
 rintro e w2 ⟨a,c,l,ia,ic,ps,rfl,hsm,hO,hr,hb⟩
 have z_w2:=hb.size
 replace R:=kI R hb
 replace EE:=(tQ EE hb)
 clear hb
 have HO:=yD (hO)
 have HR:=yD (hr)
 clear hO hr
 have KR_0:w2.cell? ⟨w.heap.size,0,none⟩=some (.slice none 0 0):=kL R rfl
 have FR_0:w2.frozen? ⟨w.heap.size,0,none⟩=false:=frozen_of_row w2 (w.heap.size) 0 _ _ R
 go_wp2
 refine bodyPost_ret (v:=.tuple #[.slice a l.length c,.agg #[.slice ia ps.length ic]]) (by simp [results,Try.results14,go_sem,KR_0,FR_0]) rfl ⟨a,c,l,ia,ic,ps,rfl,hsm,?_,?_,?_⟩
 · exact (HO.out.touch (kC w2 w.heap.size 0 _) dV).wide bF
 · exact (HR.out.touch (kC w2 w.heap.size 0 _) dV).wide bF
 exact EE.setCell gW _
def DrawnM (w:World) (e:Ending) (w':World):Prop:=∃ (a:Option Addr) (c:Nat) (l:List kD) (ia:Option Addr) (ic:Nat) (ps:kw),e=.returned (.tuple #[.slice a l.length c,.agg #[.slice ia ps.length ic],.int .i64 50])∧jP l 14∧(Rep.slice 67 kE).rdB w' [.slice a l.length c] l (Btw w.heap.size w'.heap.size)∧kZ.own w' [.slice ia ps.length ic] ps (Btw w.heap.size w'.heap.size)∧Below w.heap.size w w'
theorem kDp {w:World} {v:Value} {code:List UInt8} (hcode:(Rep.slice 5 Rep.byte).raw w [v] code) :
    Calls Try.prog 15 #[v] w (DrawnM w):=by
 obtain ⟨ca,cc,rfl,_⟩:=Rep.sl hcode
 go_enter Try.func15,Try.ntmps15
 go_upto_region 1 with fail
 generalize hw_:World.alloc w _=w1
 have E_w1:Below w.heap.size w w1:=dH
 have R:w1.heap[w.heap.size]?=some (.cells #[.slice none 0 0] 27 (0,0)):=fC
 have z_w1:w.heap.size + 1≤w1.heap.size:=fU
 clear hw_
 have EE:=E_w1
 clear E_w1
 go_wp2_with fail
 refine (yI (hcode.below EE)).mono ?_
 rintro e w2 ⟨a,c,l,ia,ic,ps,rfl,hsm,hO,hr,hb⟩
 have z_w2:=hb.size
 replace R:=kI R hb
 replace EE:=(tQ EE hb)
 clear hb
 have HO:=yD (hO)
 have HR:=yD (hr)
 clear hO hr
 go_upto_region 2 with fail
 generalize hw_:World.alloc w2 _=w3
 have E_w3:Below w2.heap.size w2 w3:=dH
 have B:w3.heap[w2.heap.size]?=some (.cells #[.slice ia ps.length ic] 27 (0,0)):=fC
 have z_w3:w2.heap.size + 1≤w3.heap.size:=fU
 clear hw_
 replace R:=kI R E_w3
 replace HO:=yD (HO.out.below E_w3)
 replace HR:=yD (HR.out.below E_w3)
 replace EE:=(tQ EE E_w3)
 clear E_w3
 have KR_0:w3.cell? ⟨w.heap.size,0,none⟩=some (.slice none 0 0):=kL R rfl
 have KB_0:w3.cell? ⟨w2.heap.size,0,none⟩=some (.slice ia ps.length ic):=kL B rfl
 have FR_0:w3.frozen? ⟨w.heap.size,0,none⟩=false:=frozen_of_row w3 (w.heap.size) 0 _ _ R
 have FX:=yD (fun (W:World) (hW:Below w3.heap.size w3 W)=>cL hW KB_0)
 refine jE (fun W=>Below w3.heap.size w3 W) [true,true,true] gP gP bX (bR.drew) ?_
 intro wS HS
 iterate 3
  all_goals refine wkR ?_
 all_goals refine jb ?_
 have KR:=cL HS KR_0
 have FR:wS.frozen? ⟨w.heap.size,0,none⟩=false:=frozen_of_row wS w.heap.size 0 _ _ (kI R HS)
 have HO2:=yD (HO.out.below HS)
 have HR2:=yD (HR.out.below HS)
 have E2:=(tQ EE HS)
 have zS:=HS.size
 clear HS HO HR EE R B KR_0 FR_0 KB_0
 go_wp2
 refine bodyPost_ret (v:=.tuple #[.slice a l.length c,.agg #[.slice ia ps.length ic],.int .i64 50]) (by simp [results,Try.results15,go_sem,KR,FR]) rfl ⟨a,c,l,ia,ic,ps,rfl,hsm,?_,?_,E2.setCell gW _⟩
 · exact (HO2.out.touch (kC wS w.heap.size 0 _) dV).wide bF
 exact (HR2.out.touch (kC wS w.heap.size 0 _) dV).wide bF
def DrawnE (w:World) (e:Ending) (w':World):Prop:=∃ (a:Option Addr) (c:Nat) (l:List kD) (x:Int),e=.returned (.tuple #[.slice a l.length c,.int .i64 x])∧jP l 14∧(Rep.slice 67 kE).rdB w' [.slice a l.length c] l (Btw w.heap.size w'.heap.size)∧(40≤x∧x≤55)∧Below w.heap.size w w'
theorem kAw {w:World} {v:Value} {code:List UInt8} (hcode:(Rep.slice 5 Rep.byte).raw w [v] code) :
    Calls Try.prog 11 #[v] w (DrawnE w):=by
 obtain ⟨ca,cc,rfl,_⟩:=Rep.sl hcode
 go_enter Try.func11,Try.ntmps11
 go_wp2_with fail
 refine (zL hcode bR).mono ?_
 rintro e w1 ⟨p,rfl,hc,hp0,hbN⟩
 have z_w1:=hbN.size
 have hp1:=hc.lt.2
 have TE:Touch (fun k=>k=p) w w1:=Touch.of_below (hbN)
 clear hbN
 go_wp2_with fail
 refine (yL hc).mono ?_
 rintro e w2 ⟨a,c,l,rfl,hsm,hO,hcN,htN⟩
 have z_w2:=htN.size
 replace TE:=TE.trans htN
 clear hc htN
 have hc:=hcN
 clear hcN
 have HO:=yD (hO)
 clear hO
 go_wp2_with fail
 refine (kX (n:=16) hc gU).mono ?_
 rintro e w3 ⟨x,hx0,hx1,hx2,rfl,hcN,htN⟩
 have z_w3:=htN.size
 replace HO:=yD (HO.out.touch htN bW)
 replace TE:=TE.trans htN
 clear hc htN
 have hc:=hcN
 clear hcN
 replace hx1:=hx1 gU
 clear hx2
 have hw:IntKind.i64.wrap (40 + x)=40 + x:=IntWalk.i64_in _ gV
 go_wp2
 refine bodyPost_ret (v:=.tuple #[.slice a l.length c,.int .i64 (40 + x)]) (by simp [results,Try.results11,go_sem]) rfl ⟨a,c,l,40 + x,rfl,hsm,HO.out.wide bL,by omega,TE.below nL fT⟩
def DrawnP (w:World) (e:Ending) (w':World):Prop:=∃ (a:Option Addr) (c:Nat) (l:List kD) (a2:Option Addr) (c2:Nat) (l2:List kD),e=.returned (.tuple #[.slice a l.length c,.slice a2 l2.length c2])∧jP l 14∧(Rep.slice 67 kE).rdB w' [.slice a l.length c] l (Btw w.heap.size w'.heap.size)∧jP l2 14∧(Rep.slice 67 kE).rdB w' [.slice a2 l2.length c2] l2 (Btw w.heap.size w'.heap.size)∧Below w.heap.size w w'
theorem kBk {w:World} {v:Value} {code:List UInt8} (hcode:(Rep.slice 5 Rep.byte).raw w [v] code) :
    Calls Try.prog 12 #[v] w (DrawnP w):=by
 obtain ⟨ca,cc,rfl,_⟩:=Rep.sl hcode
 go_enter Try.func12,Try.ntmps12
 go_wp2_with fail
 refine (zL hcode bR).mono ?_
 rintro e w1 ⟨p,rfl,hc,hp0,hbN⟩
 have z_w1:=hbN.size
 have hp1:=hc.lt.2
 have TE:Touch (fun k=>k=p) w w1:=Touch.of_below (hbN)
 clear hbN
 go_wp2_with fail
 refine (yL hc).mono ?_
 rintro e w2 ⟨a,c,l,rfl,hsm,hO,hcN,htN⟩
 have z_w2:=htN.size
 replace TE:=TE.trans htN
 clear hc htN
 have hc:=hcN
 clear hcN
 have HO:=yD (hO)
 clear hO
 go_wp2_with fail
 refine (yK (n:=2) hc gU).mono ?_
 rintro e w3 ⟨b,rfl,hcN,htN⟩
 have z_w3:=htN.size
 replace HO:=yD (HO.out.touch htN bW)
 replace TE:=TE.trans htN
 clear hc htN
 have hc:=hcN
 clear hcN
 cases b
 · go_wp2_with fail
   refine (yL hc).mono ?_
   rintro e w4 ⟨ya,yc,yl,rfl,yhsm,hO,hcN,htN⟩
   have z_w4:=htN.size
   replace HO:=yD (HO.out.touch htN bW)
   replace TE:=TE.trans htN
   clear hc htN
   have hc:=hcN
   clear hcN
   have HY:=yD (hO)
   clear hO
   go_wp2
   refine bodyPost_ret (v:=.tuple #[.slice a l.length c,.slice ya yl.length yc]) (by simp [results,Try.results12,go_sem]) rfl ⟨a,c,l,ya,yc,yl,rfl,hsm,HO.out.wide bL,yhsm,HY.out.wide bL,TE.below nL fT⟩
 go_wp2_with fail
 refine (zI HO.out.rd).mono ?_
 rintro e w4 ⟨v2,rfl,hY,hb⟩
 have z_w4:=hb.size
 replace HO:=yD (HO.out.below hb)
 replace hc:=hc.below hb
 replace TE:=TE.trans (Touch.of_below hb)
 clear hb
 have hY2:=hY.own (by have:=hsm.1;unfold Big;omega)
 obtain ⟨ya,yc,rfl,_⟩:=Rep.sl hY2.raw
 clear hY
 have HY:=yD (hY2)
 clear hY2
 go_wp2
 refine bodyPost_ret (v:=.tuple #[.slice a l.length c,.slice ya l.length yc]) (by simp [results,Try.results12,go_sem]) rfl ⟨a,c,l,ya,yc,l,rfl,hsm,HO.out.wide bL,hsm,HY.out.rdB.wide bL,TE.below nL fT⟩
def DrawnL (w:World) (e:Ending) (w':World):Prop:=∃ (a:Option Addr) (c:Nat) (l:List kD) (sa:Option Addr) (sc:Nat) (s:List kz) (ia:Option Addr) (ic:Nat) (ps:kw) (n h t:Int),e=.returned (.tuple #[.slice a l.length c,.slice sa s.length sc,.agg #[.slice ia ps.length ic,.int .i64 n,.int .i64 h,.int .i64 t]])∧jP l 14∧(Rep.slice 67 kE).rdB w' [.slice a l.length c] l (Btw w.heap.size w'.heap.size)∧(Rep.slice 77 ky).own w' [.slice sa s.length sc] s (Btw w.heap.size w'.heap.size)∧s.length≤24∧kZ.own w' [.slice ia ps.length ic] ps (Btw w.heap.size w'.heap.size)∧(-9223372036854775808≤n∧n≤9223372036854775807)∧(-1≤h∧h≤17)∧(0≤t∧t≤21)∧Below w.heap.size w w'
theorem kFc {w:World} {v:Value} {code:List UInt8} (hcode:(Rep.slice 5 Rep.byte).raw w [v] code) :
    Calls Try.prog 13 #[v] w (DrawnL w):=by
 obtain ⟨ca,cc,rfl,_⟩:=Rep.sl hcode
 go_enter Try.func13,Try.ntmps13
 go_upto_region 1 with fail
 generalize hw_:World.alloc w _=w1
 have E_w1:Below w.heap.size w w1:=dH
 have R:w1.heap[w.heap.size]?=some (.cells #[.slice none 0 0,.int .i64 0,.int .i64 0,.int .i64 0] 29 (0,0)):=fC
 have z_w1:w.heap.size + 1≤w1.heap.size:=fU
 clear hw_
 have EE:=E_w1
 clear E_w1
 go_wp2_with fail
 refine (zL hcode EE).mono ?_
 rintro e w2 ⟨p,rfl,hc,hp0,hbN⟩
 have z_w2:=hbN.size
 have hp1:=hc.lt.2
 replace R:=kI R hbN
 have TE:Touch (fun k=>k=p) w w2:=Touch.of_below (tQ EE hbN)
 clear hbN EE
 go_wp2_with fail
 refine (yL hc).mono ?_
 rintro e w3 ⟨a,c,l,rfl,hsm,hO,hcN,htN⟩
 have z_w3:=htN.size
 replace R:=htN.kI R gV
 replace TE:=TE.trans htN
 clear hc htN
 have hc:=hcN
 clear hcN
 have HO:=yD (hO)
 clear hO
 go_wp2_with fail
 refine (kHx hc).mono ?_
 rintro e w4 ⟨sa,sn,sc,s,rfl,hsn,hsl,hS,hcN,htN⟩
 have z_w4:=htN.size
 replace R:=htN.kI R gV
 replace HO:=yD (HO.out.touch htN bW)
 replace TE:=TE.trans htN
 clear hc htN
 have hc:=hcN
 clear hcN
 subst hsn
 have HQ:=yD (hS)
 clear hS
 go_wp2_with fail
 refine (kAp hc (HO.out.wide fB) (by have:=hsm.1;omega)).mono ?_
 rintro e w5 ⟨ia,ic,ps,n,h,t,rfl,hr,hn,hh,ht,hcN,htN⟩
 have z_w5:=htN.size
 replace R:=htN.kI R gV
 replace HO:=yD (HO.out.touch htN bW)
 replace HQ:=yD (HQ.out.touch htN bW)
 replace TE:=TE.trans htN
 clear hc htN
 have hc:=hcN
 clear hcN
 have HR:=yD (hr)
 clear hr
 go_upto_region 5 with fail
 generalize hw_:World.alloc w5 _=w6
 have E_w6:Below w5.heap.size w5 w6:=dH
 have B:w6.heap[w5.heap.size]?=some (.cells #[.slice ia ps.length ic,.int .i64 n,.int .i64 h,.int .i64 t] 29 (0,0)):=fC
 have z_w6:w5.heap.size + 1≤w6.heap.size:=fU
 clear hw_
 replace R:=kI R E_w6
 replace HO:=yD (HO.out.below E_w6)
 replace HQ:=yD (HQ.out.below E_w6)
 replace HR:=yD (HR.out.below E_w6)
 replace hc:=hc.below E_w6
 replace TE:=TE.trans (Touch.of_below E_w6)
 clear E_w6
 by_cases hs0:0 < s.length
 · have hsI:(0:Int) < s.length:=gV
   go_wp2_with fail
   refine (yK (n:=3) hc gU).mono ?_
   rintro e w7 ⟨b,rfl,hcN,htN⟩
   have z_w7:=htN.size
   replace R:=htN.kI R gV
   replace B:=htN.kI B gV
   replace HO:=yD (HO.out.touch htN bW)
   replace HQ:=yD (HQ.out.touch htN bW)
   replace HR:=yD (HR.out.touch htN bW)
   replace TE:=TE.trans htN
   clear hc htN
   have hc:=hcN
   clear hcN
   cases b
   · go_upto_region 8 with fail
     obtain ⟨KR_0,KR_1,KR_2,KR_3⟩:=jL R
     obtain ⟨KB_0,KB_1,KB_2,KB_3⟩:=jL B
     obtain ⟨FR_0,FR_1,FR_2,FR_3⟩:=yJ R
     have FX:=yD (fun (W:World) (hW:Below w7.heap.size w7 W)=>zi hW KB_0 KB_1 KB_2 KB_3)
     refine jE (fun W=>Below w7.heap.size w7 W) [true,true,true,true,true] gP gP bX (bR.drew) ?_
     intro wS HS
     iterate 5
      all_goals refine wkR ?_
     all_goals refine jb ?_
     have RS:=kI R HS
     have KR0:=cL HS KR_0
     have KR1:=cL HS KR_1
     have KR2:=cL HS KR_2
     have KR3:=cL HS KR_3
     have FR0:wS.frozen? ⟨w.heap.size,0,none⟩=false:=frozen_of_row wS w.heap.size 0 _ _ RS
     have FR1:wS.frozen? ⟨w.heap.size,1,none⟩=false:=frozen_of_row wS w.heap.size 1 _ _ RS
     have FR2:wS.frozen? ⟨w.heap.size,2,none⟩=false:=frozen_of_row wS w.heap.size 2 _ _ RS
     have FR3:wS.frozen? ⟨w.heap.size,3,none⟩=false:=frozen_of_row wS w.heap.size 3 _ _ RS
     have HO2:=yD (HO.out.below HS)
     have HR2:=yD (HR.out.below HS)
     have HQ2:=yD (HQ.out.below HS)
     have TE2:=TE.trans (Touch.of_below HS)
     have zS:=HS.size
     clear HS HO HQ TE R B hc KR_0 FR_0 KB_0 KR_1 FR_1 KB_1 KR_2 FR_2 KB_2 KR_3 FR_3 KB_3
     go_wp2
     refine bodyPost_ret (v:=.tuple #[.slice a l.length c,.slice sa s.length sc,.agg #[.slice ia ps.length ic,.int .i64 n,.int .i64 h,.int .i64 t]]) bH rfl ⟨a,c,l,sa,sc,s,_,_,ps,n,h,t,rfl,hsm,?_,?_,hsl,?_,by omega,hh,ht,?_⟩
     · exact (HO2.out.touch ((((kC _ _ _ _).trans (kC _ _ _ _)).trans (kC _ _ _ _)).trans (kC _ _ _ _)) dV).wide bF
     · exact (HQ2.out.touch ((((kC _ _ _ _).trans (kC _ _ _ _)).trans (kC _ _ _ _)).trans (kC _ _ _ _)) dV).wide bF
     · exact (HR2.out.touch ((((kC _ _ _ _).trans (kC _ _ _ _)).trans (kC _ _ _ _)).trans (kC _ _ _ _)) dV).wide bF
     exact (TE2.ku ((((kC _ _ _ _).trans (kC _ _ _ _)).trans (kC _ _ _ _)).trans (kC _ _ _ _)) gV).below nL fT
   obtain ⟨_,sb,so,rfl,hSs,_⟩:=Rep.kHe HQ.out hs0
   obtain ⟨sb2_,so2_,he_,c0,c1,hcr,A0,A1⟩:=Rep.get2 HQ.out.rd.1 hs0 rfl
   simp only [Option.some.injEq,Addr.mk.injEq,and_true] at he_
   obtain ⟨rfl,rfl⟩:=he_
   have hsb0:=hSs.1
   have hsb1:=hSs.2
   clear hSs
   obtain ⟨v0,he,p0,p1,p2⟩:=yj hcr
   simp only [List.cons.injEq,and_true] at he
   obtain ⟨rfl,rfl⟩:=he
   obtain ⟨na,nc,rfl,_⟩:=Rep.sl p1
   clear hcr p0
   simp only [Nat.zero_mul,Nat.add_zero] at A0 A1
   have hyb:kZ.bdd Big s[0].1:=(HQ.out.2.2 _ (List.getElem_mem hs0)).1
   have HN:=yD (show kZ.rd w7 [.slice na s[0].1.length nc] s[0].1 from ⟨p1,hyb⟩)
   clear p1 hyb
   generalize s[0]=y at *
   obtain ⟨KB_0,KB_1,KB_2,KB_3⟩:=jL B
   obtain ⟨FB_0,FB_1,FB_2,FB_3⟩:=yJ B
   go_wp2_with fail
   refine (kBj (ca:=[.slice na y.1.length nc]) HN.out).mono ?_
   rintro e w8 ⟨qa,qn,qc,rfl,hQ,hb⟩
   have z_w8:=hb.size
   replace R:=kI R hb
   replace B:=kI B hb
   replace A0:=cL hb A0
   replace A1:=cL hb A1
   replace HO:=yD (HO.out.below hb)
   replace HQ:=yD (HQ.out.below hb)
   replace HR:=yD (HR.out.below hb)
   replace hc:=hc.below hb
   replace TE:=TE.trans (Touch.of_below hb)
   clear KB_0 KB_1 KB_2 KB_3 FB_0 FB_1 FB_2 FB_3
   clear hb
   obtain ⟨_,_,_,hpe,HPN⟩:=hQ.parts
   simp only [Value.slice.injEq] at hpe
   obtain rfl:=hpe.2.1.trans HPN.out
   clear hpe HPN
   have HZ:=yD ((hQ.own HN.out.2.1).wide (T:=fun j=>w1.heap.size≤j∧j < w8.heap.size∧¬ j=w5.heap.size) bJ)
   clear hQ HN
   clear HR
   obtain ⟨KB_0,KB_1,KB_2,KB_3⟩:=jL B
   obtain ⟨FB_0,FB_1,FB_2,FB_3⟩:=yJ B
   go_upto_region 7 with fail
   generalize hw_:World.setCell w8 _ _=w9
   have T_w9:Touch (fun k=>k=w5.heap.size) w8 w9:=by rw [← hw_];exact kC w8 (w5.heap.size) 0 _
   replace B:w9.heap[w5.heap.size]?=some (.cells #[.slice qa y.1.length qc,.int .i64 n,.int .i64 h,.int .i64 t] 29 (0,0)):=fF
   have z_w9:=T_w9.size
   clear hw_
   replace R:=T_w9.kI R gV
   replace A0:=T_w9.cellT A0 gV
   replace A1:=T_w9.cellT A1 gV
   replace HO:=yD (HO.out.touch T_w9 bW)
   replace HQ:=yD (HQ.out.touch T_w9 bW)
   replace HZ:=yD (HZ.out.touch T_w9 bW)
   replace hc:=hc.touch T_w9 gV fT
   replace TE:=TE.ku T_w9 gV
   clear KB_0 KB_1 KB_2 KB_3 FB_0 FB_1 FB_2 FB_3
   clear T_w9
   obtain ⟨KB_0,KB_1,KB_2,KB_3⟩:=jL B
   obtain ⟨FB_0,FB_1,FB_2,FB_3⟩:=yJ B
   go_upto_region 8 with fail
   clear A0 A1
   generalize hw_:World.setCell w9 _ _=w10
   have T_w10:Touch (fun k=>k=w5.heap.size) w9 w10:=by rw [← hw_];exact kC w9 (w5.heap.size) 1 _
   replace B:w10.heap[w5.heap.size]?=some (.cells #[.slice qa y.1.length qc,.int .i64 y.2,.int .i64 h,.int .i64 t] 29 (0,0)):=by rw [← hw_];exact jJ B 1
   have z_w10:=T_w10.size
   clear hw_
   replace R:=T_w10.kI R gV
   replace HO:=yD (HO.out.touch T_w10 bW)
   replace HQ:=yD (HQ.out.touch T_w10 bW)
   replace HZ:=yD (HZ.out.touch T_w10 bW)
   replace hc:=hc.touch T_w10 gV fT
   replace TE:=TE.ku T_w10 gV
   clear KB_0 KB_1 KB_2 KB_3 FB_0 FB_1 FB_2 FB_3
   clear T_w10
   have HR:=yD (HZ.out.wide (T:=Btw w1.heap.size w10.heap.size) dF)
   clear HZ
   go_upto_region 8 with fail
   obtain ⟨KR_0,KR_1,KR_2,KR_3⟩:=jL R
   obtain ⟨KB_0,KB_1,KB_2,KB_3⟩:=jL B
   obtain ⟨FR_0,FR_1,FR_2,FR_3⟩:=yJ R
   have FX:=yD (fun (W:World) (hW:Below w10.heap.size w10 W)=>zi hW KB_0 KB_1 KB_2 KB_3)
   refine jE (fun W=>Below w10.heap.size w10 W) [true,true,true,true,true] gP gP bX (bR.drew) ?_
   intro wS HS
   iterate 5
    all_goals refine wkR ?_
   all_goals refine jb ?_
   have RS:=kI R HS
   have KR0:=cL HS KR_0
   have KR1:=cL HS KR_1
   have KR2:=cL HS KR_2
   have KR3:=cL HS KR_3
   have FR0:wS.frozen? ⟨w.heap.size,0,none⟩=false:=frozen_of_row wS w.heap.size 0 _ _ RS
   have FR1:wS.frozen? ⟨w.heap.size,1,none⟩=false:=frozen_of_row wS w.heap.size 1 _ _ RS
   have FR2:wS.frozen? ⟨w.heap.size,2,none⟩=false:=frozen_of_row wS w.heap.size 2 _ _ RS
   have FR3:wS.frozen? ⟨w.heap.size,3,none⟩=false:=frozen_of_row wS w.heap.size 3 _ _ RS
   have HO2:=yD (HO.out.below HS)
   have HR2:=yD (HR.out.below HS)
   have HQ2:=yD (HQ.out.below HS)
   have TE2:=TE.trans (Touch.of_below HS)
   have zS:=HS.size
   clear HS HO HQ TE R B hc KR_0 FR_0 KB_0 KR_1 FR_1 KB_1 KR_2 FR_2 KB_2 KR_3 FR_3 KB_3
   go_wp2
   refine bodyPost_ret (v:=.tuple #[.slice a l.length c,.slice (some ⟨sb,so,none⟩) s.length sc,.agg #[.slice qa y.1.length qc,.int .i64 y.2,.int .i64 h,.int .i64 t]]) bH rfl ⟨a,c,l,(some ⟨sb,so,none⟩),sc,s,_,_,y.1,y.2,h,t,rfl,hsm,?_,?_,hsl,?_,by omega,hh,ht,?_⟩
   · exact (HO2.out.touch ((((kC _ _ _ _).trans (kC _ _ _ _)).trans (kC _ _ _ _)).trans (kC _ _ _ _)) dV).wide bF
   · exact (HQ2.out.touch ((((kC _ _ _ _).trans (kC _ _ _ _)).trans (kC _ _ _ _)).trans (kC _ _ _ _)) dV).wide bF
   · exact (HR2.out.touch ((((kC _ _ _ _).trans (kC _ _ _ _)).trans (kC _ _ _ _)).trans (kC _ _ _ _)) dV).wide bF
   exact (TE2.ku ((((kC _ _ _ _).trans (kC _ _ _ _)).trans (kC _ _ _ _)).trans (kC _ _ _ _)) gV).below nL fT
 have hsI:¬ (0:Int) < s.length:=gV
 go_upto_region 8 with fail
 obtain ⟨KR_0,KR_1,KR_2,KR_3⟩:=jL R
 obtain ⟨KB_0,KB_1,KB_2,KB_3⟩:=jL B
 obtain ⟨FR_0,FR_1,FR_2,FR_3⟩:=yJ R
 have FX:=yD (fun (W:World) (hW:Below w6.heap.size w6 W)=>zi hW KB_0 KB_1 KB_2 KB_3)
 refine jE (fun W=>Below w6.heap.size w6 W) [true,true,true,true,true] gP gP bX (bR.drew) ?_
 intro wS HS
 iterate 5
  all_goals refine wkR ?_
 all_goals refine jb ?_
 have RS:=kI R HS
 have KR0:=cL HS KR_0
 have KR1:=cL HS KR_1
 have KR2:=cL HS KR_2
 have KR3:=cL HS KR_3
 have FR0:wS.frozen? ⟨w.heap.size,0,none⟩=false:=frozen_of_row wS w.heap.size 0 _ _ RS
 have FR1:wS.frozen? ⟨w.heap.size,1,none⟩=false:=frozen_of_row wS w.heap.size 1 _ _ RS
 have FR2:wS.frozen? ⟨w.heap.size,2,none⟩=false:=frozen_of_row wS w.heap.size 2 _ _ RS
 have FR3:wS.frozen? ⟨w.heap.size,3,none⟩=false:=frozen_of_row wS w.heap.size 3 _ _ RS
 have HO2:=yD (HO.out.below HS)
 have HR2:=yD (HR.out.below HS)
 have HQ2:=yD (HQ.out.below HS)
 have TE2:=TE.trans (Touch.of_below HS)
 have zS:=HS.size
 clear HS HO HQ TE R B hc KR_0 FR_0 KB_0 KR_1 FR_1 KB_1 KR_2 FR_2 KB_2 KR_3 FR_3 KB_3
 go_wp2
 refine bodyPost_ret (v:=.tuple #[.slice a l.length c,.slice sa s.length sc,.agg #[.slice ia ps.length ic,.int .i64 n,.int .i64 h,.int .i64 t]]) bH rfl ⟨a,c,l,sa,sc,s,_,_,ps,n,h,t,rfl,hsm,?_,?_,hsl,?_,by omega,hh,ht,?_⟩
 · exact (HO2.out.touch ((((kC _ _ _ _).trans (kC _ _ _ _)).trans (kC _ _ _ _)).trans (kC _ _ _ _)) dV).wide bF
 · exact (HQ2.out.touch ((((kC _ _ _ _).trans (kC _ _ _ _)).trans (kC _ _ _ _)).trans (kC _ _ _ _)) dV).wide bF
 · exact (HR2.out.touch ((((kC _ _ _ _).trans (kC _ _ _ _)).trans (kC _ _ _ _)).trans (kC _ _ _ _)) dV).wide bF
 exact (TE2.ku ((((kC _ _ _ _).trans (kC _ _ _ _)).trans (kC _ _ _ _)).trans (kC _ _ _ _)) gV).below nL fT
end Go.Proofs.Ytpgnbablhdknnaa
