/-
  Pending interests drawn.
-/
import Derived.Test.YtpgnbablhdknnaaDrawP
import Derived.Test.YtpgnbablhdknnaaAddQ
import Derived.Test.YtpgnbablhdknnaaSeen
set_option linter.unusedVariables false
set_option linter.unusedSimpArgs false
set_option linter.unnecessarySimpa false
set_option maxRecDepth 100000
set_option maxHeartbeats 4000000
namespace Go.Proofs.Ytpgnbablhdknnaa
open Go.RowKit
def jP (l:List kD) (m:Nat):Prop:=l.length≤m∧∀ y∈l,y.2.1.length≤m
theorem jP.mono {l:List kD} {m k:Nat} (h:jP l m) (hk:m≤k):jP l k:=⟨Nat.le_trans h.1 hk,fun y hy=>Nat.le_trans (h.2 y hy) hk⟩
theorem addQ_small {x:kr} {f t:Int} {l:List kD} {m:Nat} (h:jP l m):jP (zG x f t l) (m + 1):=by
 cases hk:jF x f l
 · rw [(kDb hk).1]
   have:=h.1
   exact ⟨by omega,fun y hy=>Nat.le_succ_of_le (h.2 y hy)⟩
 by_cases hi:idxOf (kR x.1) l < 0
 · rw [(kEu (t:=t) hk hi).1]
   refine ⟨by have:=h.1;simp;omega,fun y hy=>?_⟩
   rcases List.mem_append.1 hy with hy | hy
   · exact Nat.le_succ_of_le (h.2 y hy)
   obtain rfl:=List.mem_singleton.1 hy
   simp
 obtain ⟨k,hkl,hki⟩:=jy hi
 rw [(kEt (t:=t) hk hki hkl).1]
 refine ⟨by have:=h.1;simp;omega,fun y hy=>?_⟩
 rcases List.mem_or_eq_of_mem_set hy with hy | rfl
 · exact Nat.le_succ_of_le (h.2 y hy)
 have h1:=kEi (yn x f t) l[k].2.1
 have h2:=h.2 _ (List.getElem_mem hkl)
 show (kCb (yn x f t) l[k].2.1).length≤m + 1
 omega
theorem kIe {l:List kz} {n:kw} {x:Int}:(kAl l n x).length≤max l.length 24:=by
 unfold kAl
 split
 · simp;omega
 simp at *;omega
theorem sentP_small {n:kw} {t:Int} {l:List kD} {m:Nat} (h:jP l m):jP (kFw n t l) m:=by
 by_cases hi:idxOf (kR n) l < 0
 · rw [kGz hi];exact h
 obtain ⟨k,hkl,hki⟩:=jy hi
 rw [kFe hki hkl]
 refine ⟨by have:=h.1;simp;omega,fun y hy=>?_⟩
 rcases List.mem_or_eq_of_mem_set hy with hy | rfl
 · exact h.2 y hy
 exact show l[k].2.1.length≤m from h.2 _ (List.getElem_mem hkl)
theorem kHz {w0 w:World} {p:Nat} (hc:Cur w0 w p) :
    Calls Try.prog 68 #[.pointer (some ⟨p,0,none⟩)] w fun e w'=>∃ a n c l,e=.returned (.slice a n c)∧n=l.length∧jP l 8∧(Rep.slice 67 kE).own w' [.slice a n c] l (Btw w.heap.size w'.heap.size)∧Cur w0 w' p∧Touch (fun k=>k=p) w w':=by
 go_enter Try.func68,Try.ntmps68
 obtain ⟨hp0,hp1⟩:=hc.lt
 go_upto_region 2 with fail
 generalize hw_:World.alloc w _=w1
 have E_:Below w.heap.size w w1:=dH
 have z_w1:w.heap.size + 1≤w1.heap.size:=fU
 clear hw_
 replace hc:=hc.below E_
 have TE:Touch (fun k=>k=p) w w1:=Touch.of_below E_
 clear E_
 go_wp2_with fail
 refine (kX (n:=8) hc gU).mono ?_
 rintro e w2 ⟨x,hx0,hx1,hx2,rfl,hcN,htN⟩
 have z_w2:=htN.size
 replace TE:=TE.trans htN
 clear hc htN
 have hc:=hcN
 clear hcN
 replace hx1:=hx1 gU
 clear hx2
 obtain ⟨m,rfl⟩:=Int.eq_ofNat_of_zero_le hx0
 go_wp2
 go_loopw [3,4] (fun v i wr=>∃ (j k:Nat) (a:Option Addr) (n c:Nat) (l:List kD),v=.slice a n c∧i=.int .i64 j∧j + k≤8∧Hid (n=l.length)∧Hid (jP l k)∧Hid ((Rep.slice 67 kE).own wr [.slice a n c] l (Btw w.heap.size wr.heap.size))∧w2.heap.size≤wr.heap.size∧Cur w0 wr p∧Touch (fun k=>k=p) w wr) (fun _ i _=>(intOf i).toNat)
 case atStart=>exact ⟨m,0,_,0,0,[],rfl,rfl,by omega,yD rfl,yD ⟨Nat.le_refl _,by simp⟩,yD Rep.jd,Nat.le_refl _,hc,TE⟩
 clear hc TE
 obtain ⟨j,k,a,n,c,l,rfl,rfl,hj,HN,HS_,HO,hzr,hc,TE⟩:=hrel
 cases j with
 | zero =>
   have hjN:¬ (0:Int) < (0:Nat):=gV
   go_wp2
   refine bodyPost_ret (v:=.slice a n c) (by simp [results,Try.results68,go_sem]) rfl ⟨a,n,c,rfl,l,HN.out,HS_.out.mono gV,HO.out,hc,TE⟩
 | succ j =>
   have hjI:(0:Int) < (j:Int) + 1:=gV
   replace HO:=yD (HO.out.wide (T:=fun q=>w.heap.size≤q∧q < wr.heap.size) (fun _ h=>h))
   have hkl:k≤7:=gV
   go_wp2_with fail
   refine (kBi hc).mono ?_
   rintro e w6 ⟨ia,ic,ps,nn,nh,nt,rfl,hO7,hps,hn,hh,ht,hcN,htN⟩
   have z_w6:=htN.size
   replace HO:=yD (HO.out.touch htN bW)
   replace TE:=TE.trans htN
   clear hc htN
   have hc:=hcN
   clear hcN
   have HI:=yD ((int_own hO7 hn hh ht).wide (T:=fun q=>wr.heap.size≤q∧q < w6.heap.size) (fun _ h=>h))
   have HNM:=yD (hO7.wide (T:=fun q=>wr.heap.size≤q∧q < w6.heap.size) (fun _ h=>h))
   clear hO7
   go_upto_region 6 with fail
   generalize hw_:World.alloc w6 _=w7
   have E_w7:Below w6.heap.size w6 w7:=dH
   have B:w7.heap[w6.heap.size]?=some (.cells #[.slice ia ps.length ic,.int .i64 nn,.int .i64 nh,.int .i64 nt] 29 (0,0)):=fC
   have z_w7:w6.heap.size + 1≤w7.heap.size:=fU
   clear hw_
   replace HO:=yD (HO.out.below E_w7)
   replace HI:=yD (HI.out.below E_w7)
   replace HNM:=yD (HNM.out.below E_w7)
   replace hc:=hc.below E_w7
   replace TE:=TE.trans (Touch.of_below E_w7)
   clear E_w7
   have FX:=yD (fun (W:World) (hW:Touch (fun k=>k=p) w7 W∧Cur w0 W p)=>And.intro (kL (hW.1.kI B gV) (j:=0) (v:=.slice ia ps.length ic) rfl) (And.intro (kL (hW.1.kI B gV) (j:=1) (v:=.int .i64 nn) rfl) (And.intro (kL (hW.1.kI B gV) (j:=2) (v:=.int .i64 nh) rfl) (kL (hW.1.kI B gV) (j:=3) (v:=.int .i64 nt) rfl))))
   refine jX (fun W=>Touch (fun k=>k=p) w7 W∧Cur w0 W p) [(0,true),(1,true),(2,true),(4,true),(3,false),(5,false),(6,true),(7,false),(8,true),(9,true),(10,true),(11,true)] gP gP bX (⟨Touch.of_below bR.drew,hc.below bR.drew⟩) ?_
   intro wS HS
   simp only [kg,List.getElem?_cons_succ,List.getElem?_cons_zero,List.map_cons,List.map_nil]
   iterate 4
    refine wkR ?_
   refine kQ rfl (fun K hK=>?_);go_simp;refine (kX (n:=4) HS.2 gU).mono ?_;rintro e wS1 ⟨x,hx0,hx1,hx2,rfl,hcS,htS⟩;replace hx1:=hx1 gU;clear hx2;replace HS:=And.intro (HS.1.trans htS) hcS;clear hcS htS;refine hK _ _ HS ?_;clear hK K
   refine wkP ?_
   refine kQ rfl (fun K hK=>?_);go_simp;refine (kX (n:=10) HS.2 gU).mono ?_;rintro e wS1 ⟨y,hy0,hy1,hy2,rfl,hcS,htS⟩;replace hy1:=hy1 gU;clear hy2;replace HS:=And.intro (HS.1.trans htS) hcS;clear hcS htS;have hw:IntKind.i64.wrap (40 + y)=40 + y:=IntWalk.i64_in _ gV;refine hK _ _ HS ?_;clear hK K
   refine wkP ?_
   refine wkR ?_
   refine kQ rfl (fun K hK=>?_);go_simp;refine (zu ((HO.out.touch HS.1 bW).rd) (fun y hy=>Nat.le_trans (HS_.out.2 y hy) gV) (HI.out.touch HS.1 bW).rd gV gV).mono ?_;rintro e wS2 ⟨v2,rfl,O2,hbS⟩;have hzA:=HS.1.size;have hzB:=hbS.size;replace HS:=And.intro (HS.1.trans (Touch.of_below hbS)) (HS.2.below hbS);have HO2:=yD O2;refine hK _ _ HS ?_;clear hK K hbS O2
   refine wkP ?_
   iterate 4
    refine wkR ?_
   refine kN ?_
   obtain ⟨l2,hl2⟩:∃ l2,zG (ps,nn,nh,nt) x (40 + y) l=l2:=⟨_,rfl⟩
   rw [hl2] at HO2
   have HS2:=yD (show jP l2 (k + 1) from hl2 ▸ addQ_small HS_.out)
   clear hl2 HI HO
   obtain ⟨a2,c2,rfl,_⟩:=Rep.sl HO2.out.raw
   rename World=>w8
   have z_w8:=HS.1.size
   have hcN:=HS.2
   have htN:=HS.1
   clear HS
   replace B:=htN.kI B gV
   replace HNM:=yD (HNM.out.touch htN bW)
   replace TE:=TE.trans htN
   clear hc htN
   have hc:=hcN
   clear hcN
   replace HO2:=yD (HO2.out.wide (T:=fun q=>w.heap.size≤q∧q < w8.heap.size) dL)
   go_wp2_with fail
   refine (yK (n:=2) hc gU).mono ?_
   rintro e w9 ⟨b,rfl,hcN,htN⟩
   have z_w9:=htN.size
   replace B:=htN.kI B gV
   replace HNM:=yD (HNM.out.touch htN bW)
   replace HO2:=yD (HO2.out.touch htN bW)
   replace TE:=TE.trans htN
   clear hc htN
   have hc:=hcN
   clear hcN
   cases b
   · go_wp2
     go_roundw
     case rel=>exact ⟨j,k + 1,a2,l2.length,_,l2,rfl,by go_num,by omega,yD rfl,HS2,yD (HO2.out.wide dJ),by omega,hc,TE⟩
     case measure=>first|(simp [intOf];done)|(simp [intOf];omega)
   · go_upto_region 8 with fail
     have FX:=yD (fun (W:World) (hW:Touch (fun k=>k=p) w9 W∧Cur w0 W p)=>And.intro (kL (hW.1.kI B gV) (j:=0) (v:=.slice ia ps.length ic) rfl) (And.intro (kL (hW.1.kI B gV) (j:=1) (v:=.int .i64 nn) rfl) (And.intro (kL (hW.1.kI B gV) (j:=2) (v:=.int .i64 nh) rfl) (kL (hW.1.kI B gV) (j:=3) (v:=.int .i64 nt) rfl))))
     refine kK (fun W=>Touch (fun k=>k=p) w9 W∧Cur w0 W p) [true,true,true,true,false,true,false,true] gP gP bX (⟨Touch.of_below bR.drew,hc.below bR.drew⟩) ?_
     intro wS HS
     iterate 4
      refine wkR ?_
     refine kQ rfl (fun K hK=>?_);go_simp;refine (kX (n:=12) HS.2 gU).mono ?_;rintro e wS1 ⟨z,hz0,hz1,hz2,rfl,hcS,htS⟩;replace hz1:=hz1 gU;clear hz2;replace HS:=And.intro (HS.1.trans htS) hcS;clear hcS htS;have hw:IntKind.i64.wrap (40 + z)=40 + z:=IntWalk.i64_in _ gV;refine hK _ _ HS ?_;clear hK K
     refine wkP ?_
     refine wkR ?_
     refine kQ rfl (fun K hK=>?_);go_simp;refine (kCi ((HO2.out.touch HS.1 bW).rd) (cn:=[.slice ia ps.length ic]) ((HNM.out.touch HS.1 bW).rd) gV).mono ?_;rintro e wS2 ⟨v3,rfl,O3,hbS⟩;have hzA:=HS.1.size;have hzB:=hbS.size;replace HS:=And.intro (HS.1.trans (Touch.of_below hbS)) (HS.2.below hbS);have HO3:=yD O3;refine hK _ _ HS ?_;clear hK K hbS O3
     refine wkP ?_
     refine wkR ?_
     refine kN ?_
     obtain ⟨l3,hl3⟩:∃ l3,kFw ps (40 + z) l2=l3:=⟨_,rfl⟩
     rw [hl3] at HO3
     have HS3:=yD (show jP l3 (k + 1) from hl3 ▸ sentP_small HS2.out)
     clear hl3 HO2 HNM
     obtain ⟨a3,c3,rfl,_⟩:=Rep.sl HO3.out.raw
     rename World=>w10
     have z_w10:=HS.1.size
     have hcN:=HS.2
     have htN:=HS.1
     clear HS
     replace B:=htN.kI B gV
     replace TE:=TE.trans htN
     clear hc htN
     have hc:=hcN
     clear hcN
     have HO2:=yD (HO3.out.wide (T:=fun q=>w.heap.size≤q∧q < w10.heap.size) dL)
     go_wp2
     go_roundw
     case rel=>exact ⟨j,k + 1,a3,l3.length,_,l3,rfl,by go_num,by omega,yD rfl,HS3,yD (HO2.out.wide dJ),by omega,hc,TE⟩
     case measure=>first|(simp [intOf];done)|(simp [intOf];omega)
theorem kHx {w0 w:World} {p:Nat} (hc:Cur w0 w p) :
    Calls Try.prog 53 #[.pointer (some ⟨p,0,none⟩)] w fun e w'=>∃ a n c s,e=.returned (.slice a n c)∧n=s.length∧s.length≤24∧(Rep.slice 77 ky).own w' [.slice a n c] s (fun q=>w.heap.size≤q∧q < w'.heap.size)∧Cur w0 w' p∧Touch (fun k=>k=p) w w':=by
 go_enter Try.func53,Try.ntmps53
 obtain ⟨hp0,hp1⟩:=hc.lt
 go_upto_region 2 with fail
 generalize hw_:World.alloc w _=w1
 have E_:Below w.heap.size w w1:=dH
 have z_w1:w.heap.size + 1≤w1.heap.size:=fU
 clear hw_
 replace hc:=hc.below E_
 have TE:Touch (fun k=>k=p) w w1:=Touch.of_below E_
 clear E_
 go_wp2_with fail
 refine (kX (n:=5) hc gU).mono ?_
 rintro e w2 ⟨x,hx0,hx1,hx2,rfl,hcN,htN⟩
 have z_w2:=htN.size
 replace TE:=TE.trans htN
 clear hc htN
 have hc:=hcN
 clear hcN
 replace hx1:=hx1 gU
 clear hx2
 obtain ⟨m,rfl⟩:=Int.eq_ofNat_of_zero_le hx0
 go_wp2
 go_loopw [3,4] (fun v i wr=>∃ (j:Nat) (a:Option Addr) (n c:Nat) (s:List kz),v=.slice a n c∧i=.int .i64 j∧j≤4∧Hid (n=s.length)∧Hid (s.length≤24)∧Hid ((Rep.slice 77 ky).own wr [.slice a n c] s (fun q=>w.heap.size≤q∧q < wr.heap.size))∧w2.heap.size≤wr.heap.size∧Cur w0 wr p∧Touch (fun k=>k=p) w wr) (fun _ i _=>(intOf i).toNat)
 case atStart=>exact ⟨m,_,0,0,[],rfl,rfl,by omega,yD rfl,yD gW,yD Rep.jd,Nat.le_refl _,hc,TE⟩
 clear hc TE
 obtain ⟨j,a,n,c,s,rfl,rfl,hj,HN,HL,HO,hzr,hc,TE⟩:=hrel
 cases j with
 | zero =>
   have hjN:¬ (0:Int) < (0:Nat):=gV
   go_wp2_with fail
   refine (yK (n:=12) hc gU).mono ?_
   rintro e w6 ⟨b,rfl,hcN,htN⟩
   have z_w6:=htN.size
   replace HO:=yD (HO.out.touch htN bW)
   replace TE:=TE.trans htN
   clear hc htN
   have hc:=hcN
   clear hcN
   replace HO:=yD (HO.out.wide (T:=fun q=>w.heap.size≤q∧q < w6.heap.size) dJ)
   cases b
   · go_wp2
     refine bodyPost_ret (v:=.slice a n c) (by simp [results,Try.results53,go_sem]) rfl ⟨a,n,c,s,rfl,HN.out,HL.out,HO.out,hc,TE⟩
   · go_wp2
     go_loopw [3] (fun v wl=>∃ (a:Option Addr) (n c:Nat) (s:List kz),v=.slice a n c∧Hid (n=s.length)∧Hid (s.length≤24)∧Hid ((Rep.slice 77 ky).own wl [.slice a n c] s (fun q=>w.heap.size≤q∧q < wl.heap.size))∧w6.heap.size≤wl.heap.size∧Cur w0 wl p∧Touch (fun k=>k=p) w wl) (fun v _=>match v with | .slice _ n _=>25 - n | _=>0)
     case atStart=>exact ⟨a,n,c,s,rfl,HN,HL,HO,Nat.le_refl _,hc,TE⟩
     case round =>
       clear hc TE HO HN HL
       obtain ⟨a,n,c,s,rfl,HN,HL,HO,hzl,hc,TE⟩:=hrel
       go_wp2_with fail
       refine (kX (n:=2) hc gU).mono ?_
       rintro e w10 ⟨y,hy0,hy1,hy2,rfl,hcN,htN⟩
       have z_w10:=htN.size
       replace HO:=yD (HO.out.touch htN bW)
       replace TE:=TE.trans htN
       clear hc htN
       have hc:=hcN
       clear hcN
       replace hy1:=hy1 gU
       clear hy2
       replace HO:=yD (HO.out.wide (T:=fun q=>w.heap.size≤q∧q < w10.heap.size) dJ)
       have hw:IntKind.i64.wrap (23 + y)=23 + y:=IntWalk.i64_in _ gV
       by_cases hlt:(n:Int) < 23 + y
       · have hn24:n < 24:=gV
         go_wp2_with fail
         refine (kDn (s:={ data:=#[47,115] }) gU).mono ?_
         rintro e w11 ⟨na,nc,ps,rfl,hr,hpl,hb⟩
         have z_w11:=hb.size
         replace HO:=yD (HO.out.below hb)
         replace hc:=hc.below hb
         replace TE:=TE.trans (Touch.of_below hb)
         clear hb
         have HR:=yD (hr.wide (T:=fun q=>w10.heap.size≤q∧q < w11.heap.size) (fun _ h=>h))
         clear hr
         have hnI:-9223372036854775808≤(n:Int)∧(n:Int)≤9223372036854775807:=gV
         go_wp2_with (at_builtin;refine Rep.jo rfl _ _ 43 rfl (r:=ky) (e:=77) Try.underlying43 kBq rfl gU gU (w:=w11) HO.out bR (c:=1) (Rep.jm (r:=kZ) (q:=Rep.int) (cs:=[.slice na ps.length nc]) (ds:=[.int .i64 n]) (x:=ps) (y:=(n:Int)) HR.out (Rep.kW hnI)) gX gX bQ (by have:=HN.out;omega) ?_)
         intro v2 w12 hQ hTQ
         have hT:Touch (fun k=>w.heap.size≤k∧k < w10.heap.size) w11 w12:=hTQ.wide (fun j q=>q.1)
         have z_w12:=hT.size
         clear hTQ
         obtain ⟨s2,hs2⟩:∃ s2,s++[(ps,(n:Int))]=s2:=⟨_,rfl⟩
         rw [hs2] at hQ
         have HL2:=yD (show s2.length=s.length + 1 by rw [← hs2];simp)
         clear hs2 HO
         obtain ⟨a2,c2,rfl,_⟩:=Rep.sl hQ.raw
         have HO2:=yD (hQ.wide (T:=fun q=>w.heap.size≤q∧q < w12.heap.size) (fun j q=>by rcases q with q | q | q;exact ⟨q.1,by have:=q.2;omega⟩;exact ⟨by have:=q.1;omega,by have:=q.2;omega⟩;exact ⟨by have:=q.1;omega,q.2⟩))
         clear hQ
         have hc2:=hc.touch hT fH dV
         have TE2:=TE.kBh hT dV
         clear hT hc TE
         go_wp2
         go_roundw
         case rel=>exact ⟨a2,s2.length,_,s2,rfl,yD rfl,yD (by have h1:=HL2.out;have h2:=HN.out;omega),HO2,by omega,hc2,TE2⟩
         case measure=>have h1:=HL2.out;have h2:=HN.out;first | omega|(simp;omega)
       · go_wp2
         refine bodyPost_ret (v:=.slice a n c) (by simp [results,Try.results53,go_sem]) rfl ⟨a,n,c,s,rfl,HN.out,HL.out,HO.out,hc,TE⟩
 | succ j =>
   have hjI:(0:Int) < (j:Int) + 1:=gV
   replace HO:=yD (HO.out.wide (T:=fun q=>w.heap.size≤q∧q < wr.heap.size) (fun _ h=>h))
   go_wp2_with fail
   refine (kBi hc).mono ?_
   rintro e w6 ⟨ia,ic,ps,nn,nh,nt,rfl,hO7,hps,hn,hh,ht,hcN,htN⟩
   have z_w6:=htN.size
   replace HO:=yD (HO.out.touch htN bW)
   replace TE:=TE.trans htN
   clear hc htN
   have hc:=hcN
   clear hcN
   have HNM:=yD (hO7.wide (T:=fun q=>wr.heap.size≤q∧q < w6.heap.size) (fun _ h=>h))
   clear hO7
   go_upto_region 6 with fail
   generalize hw_:World.alloc w6 _=w7
   have E_w7:Below w6.heap.size w6 w7:=dH
   have B:w7.heap[w6.heap.size]?=some (.cells #[.slice ia ps.length ic,.int .i64 nn,.int .i64 nh,.int .i64 nt] 29 (0,0)):=fC
   have z_w7:w6.heap.size + 1≤w7.heap.size:=fU
   clear hw_
   replace HO:=yD (HO.out.below E_w7)
   replace HNM:=yD (HNM.out.below E_w7)
   replace hc:=hc.below E_w7
   replace TE:=TE.trans (Touch.of_below E_w7)
   clear E_w7
   obtain ⟨KB_0,KB_1,KB_2,KB_3⟩:=jL B
   go_wp2_with fail
   refine (kDr HO.out.rd fP (cn:=[.slice ia ps.length ic]) HNM.out.rd gV).mono ?_
   rintro e w8 ⟨v2,rfl,O2,hb⟩
   have z_w8:=hb.size
   replace B:=kI B hb
   replace HO:=yD (HO.out.below hb)
   replace HNM:=yD (HNM.out.below hb)
   replace hc:=hc.below hb
   replace TE:=TE.trans (Touch.of_below hb)
   clear KB_0 KB_1 KB_2 KB_3
   clear hb
   obtain ⟨s2,hs2⟩:∃ s2,kAl s ps nn=s2:=⟨_,rfl⟩
   rw [hs2] at O2
   have HL2:=yD (show s2.length≤24 by have h1:=kIe (l:=s) (n:=ps) (x:=nn);have:=HL.out;rw [hs2] at h1;omega)
   clear hs2
   obtain ⟨a2,c2,rfl,_⟩:=Rep.sl O2.raw
   have HO2:=yD (O2.wide (T:=fun q=>w.heap.size≤q∧q < w8.heap.size) dL)
   go_wp2
   go_roundw
   case rel=>exact ⟨j,a2,s2.length,_,s2,rfl,by go_num,by omega,yD rfl,HL2,HO2,by omega,hc,TE⟩
   case measure=>first|(simp [intOf];done)|(simp [intOf];omega)
end Go.Proofs.Ytpgnbablhdknnaa
