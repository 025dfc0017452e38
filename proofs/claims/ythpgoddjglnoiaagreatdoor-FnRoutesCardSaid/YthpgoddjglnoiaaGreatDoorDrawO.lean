/-
  Routes as the reference draws them.
-/
import Derived.Test.YthpgoddjglnoiaaGreatDoorDrawM
import Derived.Test.YthpgoddjglnoiaaGreatDoorSzW
set_option linter.unusedVariables false
set_option linter.unusedSimpArgs false
set_option linter.unnecessarySimpa false
set_option maxRecDepth 100000
set_option maxHeartbeats 4000000
namespace Go.Proofs.YthpgoddjglnoiaaGreatDoor
open Go.RowKit
def ku (m:Nat) (l:List kD):Prop:=l.length≤m∧∀ r∈l,kz r.1∧r.1.length≤64
theorem ku.addR {l:List kD} {r:kD} (h:ku 24 l) (hr:kz r.1∧r.1.length≤64):ku 24 (addR r l):=by
 have key:∀ x∈zL r l,kz x.1∧x.1.length≤64:=by
  intro x hx
  by_cases q:idxOf (kZ r.1 r.2.1) l < 0
  · rw [kEy q] at hx
    rcases List.mem_append.1 hx with hx | hx
    · exact h.2 x hx
    rw [List.mem_singleton.1 hx];exact hr
  obtain ⟨k,hk,e⟩:=kEu q
  rw [kEx e hk] at hx
  rcases List.mem_or_eq_of_mem_set hx with hx | hx
  · exact h.2 x hx
  rw [hx];exact h.2 l[k] (List.getElem_mem hk)
 cases q:kr (zL r l)
 · rw [(kCi q).1];exact h
 rw [(kAw q).1];exact ⟨yu q,key⟩
theorem ku.snoc {m:Nat} {l:List kD} {r:kD} (h:ku m l) (hr:kz r.1∧r.1.length≤64):ku (m + 1) (l++[r]):=by
 refine ⟨by have:=h.1;simp;omega,fun x hx=>?_⟩
 rcases List.mem_append.1 hx with hx | hx
 · exact h.2 x hx
 rw [List.mem_singleton.1 hx];exact hr
theorem ku.twice {m:Nat} {l:List kD} (h:ku m l):ku (m + m) (l++l):=by
 refine ⟨by have:=h.1;simp;omega,fun x hx=>?_⟩
 rcases List.mem_append.1 hx with hx | hx <;> exact h.2 x hx
theorem ku.mono {m k:Nat} {l:List kD} (h:ku m l) (hk:m≤k):ku k l:=⟨Nat.le_trans h.1 hk,h.2⟩
theorem ku.nil:ku 24 []:=⟨by simp,fun r hr=>by simp at hr⟩
theorem kIr {α:Type} {f:α→Nat} {K:Nat}:∀ {l:List α},(∀ x∈l,f x≤K)→zX f l≤K * l.length
  | [],_=>by simp [zX]
  | a :: l,h=>by
    have h1:=h a fZ
    have h2:=kIr (l:=l) (fun x hx=>h x (by simp [hx]))
    unfold zX at h2 ⊢
    simp only [List.map_cons,List.sum_cons,List.length_cons,Nat.mul_add,Nat.mul_one]
    omega
theorem ku.wRs {l:List kD} (h:ku 48 l):wRs l≤1048576:=by
 have h1:∀ r∈l,wN r.1≤4160:=fun r hr=>by
   have:=kIr (f:=ByteArray.size) (K:=64) (l:=r.1) (h.2 r hr).1
   have:=(h.2 r hr).2
   unfold wN;omega
 have h2:=kIr (f:=fun r:kD=>wN r.1) (K:=4160) h1
 have:=h.1
 unfold Proofs.YthpgoddjglnoiaaGreatDoor.wRs;omega
theorem kEl {w:World} {v:Value} {ps:kR} {f c:Int} {S:Nat→Prop} (k:kV.own w [v] ps S) (hf:-9223372036854775808≤f∧f≤9223372036854775807) (hc:-9223372036854775808≤c∧c≤9223372036854775807):kE.own w [v,.int .i64 f,.int .i64 c] (ps,f,c) S :=
  Rep.kAm (r:=kV) (cs:=[v]) (ds:=[.int .i64 f,.int .i64 c]) k (Rep.zT (cs:=[.int .i64 f]) (Rep.jN hf) (Rep.jN hc))
theorem kDn {w0 w:World} {p:Nat} (hc:Cur w0 w p) :
    Calls Tryz.prog 30 #[.pointer (some ⟨p,0,none⟩)] w fun e w'=>∃ a c ps f co,e=.returned (.agg #[.slice a ps.length c,.int .i64 f,.int .i64 co])∧kV.own w' [.slice a ps.length c] ps (Btw w.heap.size w'.heap.size)∧kz ps∧ps.length≤64∧(1≤f∧f≤4)∧(0≤co∧co≤4)∧Cur w0 w' p∧Touch (fun k=>k=p) w w':=by
 go_enter Tryz.func30,Tryz.ntmps30
 obtain ⟨hp0,hp1⟩:=hc.lt
 go_upto_region 1 with fail
 generalize hw_:World.alloc w _=w1
 have E_w1:Below w.heap.size w w1:=dC
 have R:w1.heap[w.heap.size]?=some (.cells #[.slice none 0 0,.int .i64 0,.int .i64 0] 29 (0,0)):=dN
 have z_w1:w.heap.size + 1≤w1.heap.size:=fA
 clear hw_
 replace hc:=hc.below E_w1
 have TE:Touch (fun k=>k=p) w w1:=Touch.of_below E_w1
 clear E_w1
 go_wp2_with fail
 refine (zq (hc.below (bR.alloc nL _)) (Rep.kGb _ [{ data:=#[47] },{ data:=#[47,97] },{ data:=#[47,98] },{ data:=#[47,97,47,110,101,119,115] },{ data:=#[47,110,101,119,115] }] fU fU) fV fU fU).mono ?_
 rintro e w2 ⟨y,hyM,hyR,rfl,hcN,htN⟩
 replace htN:=(Touch.of_below (S:=fun k=>k=p) (bR.alloc nL _)).trans htN
 have z_w2:=htN.size
 replace R:=htN.kC R fV
 replace TE:=TE.trans htN
 clear hc htN
 have hc:=hcN
 clear hcN
 go_wp2_with fail
 refine (kGi (Rep.kCf fU hyM)).mono ?_
 rintro e w3 ⟨a,c,ps,rfl,hr,hl,hsm,hb⟩
 have z_w3:=hb.size
 replace R:=kC R hb
 replace hc:=hc.below hb
 replace TE:=TE.trans (Touch.of_below hb)
 clear hb
 have HR:=yD (hr)
 clear hr
 go_wp2_with fail
 refine (kv (n:=4) hc fU).mono ?_
 rintro e w4 ⟨x,hx0,hx1,hx2,rfl,hcN,htN⟩
 have z_w4:=htN.size
 replace R:=htN.kC R fV
 replace HR:=yD (HR.out.touch htN bT)
 replace TE:=TE.trans htN
 clear hc htN
 have hc:=hcN
 clear hcN
 replace hx1:=hx1 fU
 clear hx2
 have hw:IntKind.i64.wrap (1 + x)=1 + x:=IntWalk.i64_in _ fV
 go_wp2_with fail
 refine (kv (n:=5) hc fU).mono ?_
 rintro e w5 ⟨y,hy0,hy1,hy2,rfl,hcN,htN⟩
 have z_w5:=htN.size
 replace R:=htN.kC R fV
 replace HR:=yD (HR.out.touch htN bT)
 replace TE:=TE.trans htN
 clear hc htN
 have hc:=hcN
 clear hcN
 replace hy1:=hy1 fU
 clear hy2
 obtain ⟨KR_0,KR_1,KR_2⟩:=kFe R
 obtain ⟨FR_0,FR_1,FR_2⟩:=rowF3 R
 go_wp2
 refine bodyPost_ret (v:=.agg #[.slice a ps.length c,.int .i64 (1 + x),.int .i64 y]) (by simp [results,Tryz.results30,go_sem,KR_0,KR_1,KR_2,FR_0,FR_1,FR_2]) rfl ⟨_,_,ps,1 + x,y,rfl,?_,hsm,hl,by omega,by omega,hc.touch (((kF _ _ _ _).trans (kF _ _ _ _)).trans (kF _ _ _ _)) fV dZ,TE.jU (((kF _ _ _ _).trans (kF _ _ _ _)).trans (kF _ _ _ _)) fV⟩
 exact (HR.out.touch (((kF _ _ _ _).trans (kF _ _ _ _)).trans (kF _ _ _ _)) dI).wide bE
theorem kHl {w0 w:World} {p:Nat} (hc:Cur w0 w p) :
    Calls Tryz.prog 64 #[.pointer (some ⟨p,0,none⟩)] w fun e w'=>∃ a c l,e=.returned (.slice a l.length c)∧(Rep.slice 29 kE).own w' [.slice a l.length c] l (Btw w.heap.size w'.heap.size)∧ku 24 l∧Cur w0 w' p∧Touch (fun k=>k=p) w w':=by
 go_enter Tryz.func64,Tryz.ntmps64
 obtain ⟨hp0,hp1⟩:=hc.lt
 go_upto_region 2 with fail
 generalize hw_:World.alloc w _=w1
 have E_w1:Below w.heap.size w w1:=dC
 have z_w1:w.heap.size + 1≤w1.heap.size:=fA
 clear hw_
 replace hc:=hc.below E_w1
 have TE:Touch (fun k=>k=p) w w1:=Touch.of_below E_w1
 clear E_w1
 go_wp2_with fail
 refine (kv (n:=8) hc fU).mono ?_
 rintro e w2 ⟨m,hm0,hm1,hm2,rfl,hcN,htN⟩
 have z_w2:=htN.size
 replace TE:=TE.trans htN
 clear hc htN
 have hc:=hcN
 clear hcN
 replace hm1:=hm1 fU
 clear hm2
 obtain ⟨m,rfl⟩:=Int.eq_ofNat_of_zero_le hm0
 go_wp2
 go_loopw [3,4] (fun v i wr=>∃ (j:Nat) (a:Option Addr) (n c:Nat) (l:List kD),v=.slice a n c∧i=.int .i64 j∧Hid (ku 24 l)∧Hid (n=l.length)∧j < 8∧Hid ((Rep.slice 29 kE).own wr [.slice a n c] l (Btw w.heap.size wr.heap.size))∧w2.heap.size≤wr.heap.size∧Cur w0 wr p∧Touch (fun k=>k=p) w wr) (fun _ i _=>(intOf i).toNat)
 case atStart=>exact ⟨m,_,0,0,[],rfl,rfl,yD ku.nil,yD rfl,by omega,yD Rep.yt,Nat.le_refl _,hc,TE⟩
 clear hc TE
 obtain ⟨j,a,n,c,l,rfl,rfl,HSM,HN,hj,HO,hzr,hc,TE⟩:=hrel
 have hzw:=TE.size
 cases j with
 | zero =>
   go_wp2
   go_ret
   have hn:=HN.out
   subst hn
   exact ⟨_,_,l,rfl,HO.out,HSM.out,hc,TE⟩
 | succ j =>
   have hjI:(0:Int) < (j:Int) + 1:=fV
   go_wp2_with fail
   refine (kDn hc).mono ?_
   rintro e w4 ⟨na,nc,ps,f,co,rfl,hr,hsm,hpl,hf,hco,hcN,htN⟩
   have z_w4:=htN.size
   replace HO:=yD (HO.out.touch htN bT)
   replace TE:=TE.trans htN
   clear hc htN
   have hc:=hcN
   clear hcN
   have HR:=yD (kEl hr (f:=f) (c:=co) fV fV)
   clear hr
   go_wp2_with fail
   refine (kBt HO.out.rd HR.out.rd).mono ?_
   rintro e w5 ⟨v2,rfl,hO2,hb⟩
   have z_w5:=hb.size
   replace HO:=yD (HO.out.below hb)
   replace HR:=yD (HR.out.below hb)
   replace hc:=hc.below hb
   replace TE:=TE.trans (Touch.of_below hb)
   clear hb
   have HS2:=yD (HSM.out.addR (r:=(ps,f,co)) ⟨hsm,hpl⟩)
   generalize addR (ps,f,co) l=l2 at *
   generalize kBz (ps,f,co) l=ok at *
   obtain ⟨a2,c2,rfl,_⟩:=Rep.sl hO2.raw
   have HO2:=yD (hO2.wide (T:=Btw w.heap.size w5.heap.size) (fun k hk=>⟨by have:=hk.1;omega,hk.2⟩))
   clear hO2 HO HR
   go_wp2
   go_roundw
   case rel=>exact ⟨j,a2,l2.length,c2,l2,rfl,by go_num,HS2,yD rfl,by omega,HO2,by omega,hc,TE⟩
   case measure=>simp [intOf]
theorem jw {w0 w:World} {p:Nat} (hc:Cur w0 w p) :
    Calls Tryz.prog 29 #[.pointer (some ⟨p,0,none⟩)] w fun e w'=>∃ a c l,e=.returned (.slice a l.length c)∧(Rep.slice 29 kE).own w' [.slice a l.length c] l (Btw w.heap.size w'.heap.size)∧ku 48 l∧Cur w0 w' p∧Touch (fun k=>k=p) w w':=by
 go_enter Tryz.func29,Tryz.ntmps29
 obtain ⟨hp0,hp1⟩:=hc.lt
 go_wp2_with fail
 refine (kHl hc).mono ?_
 rintro e w1 ⟨a,c,l,rfl,hO,hsm,hcN,htN⟩
 have z_w1:=htN.size
 have TE:=htN
 clear hc htN
 have hc:=hcN
 clear hcN
 have HO:=yD (hO)
 clear hO
 have hl24:=hsm.1
 have HSM:=yD hsm
 clear hsm
 go_wp2_with fail
 refine (kv (n:=10) hc fU).mono ?_
 rintro e w2 ⟨m,hm0,hm1,hm2,rfl,hcN,htN⟩
 have z_w2:=htN.size
 replace HO:=yD (HO.out.touch htN bT)
 replace TE:=TE.trans htN
 clear hc htN
 have hc:=hcN
 clear hcN
 replace hm1:=hm1 fU
 clear hm2
 obtain ⟨m,rfl⟩:=Int.eq_ofNat_of_zero_le hm0
 by_cases hq0:m=0
 · subst hq0
   go_wp2_with fail
   refine (specl4Any_s hc).mono ?_
   rintro e w3 ⟨na,nc,nm,rfl,hr,hnl,hns,hcN,htN⟩
   have z_w3:=htN.size
   replace HO:=yD (HO.out.touch htN bT)
   replace TE:=TE.trans htN
   clear hc htN
   have hc:=hcN
   clear hcN
   have HR:=yD (hr)
   clear hr
   go_wp2_with fail
   refine (kBr (hc.below (bR.alloc nL _)) (Rep.kJa _ [0,1,6,7] fU fU) fV fU fU).mono ?_
   rintro e w4 ⟨f,hfM,hfR,rfl,hcN,htN⟩
   replace htN:=(Touch.of_below (S:=fun k=>k=p) (bR.alloc nL _)).trans htN
   have z_w4:=htN.size
   replace HO:=yD (HO.out.touch htN bT)
   replace HR:=yD (HR.out.touch htN bT)
   replace TE:=TE.trans htN
   clear hc htN
   have hc:=hcN
   clear hcN
   have hf:=Rep.kIz (lo:=0) (hi:=7) fU hfM
   clear hfM
   go_wp2_with fail
   refine (kBr (hc.below (bR.alloc nL _)) (Rep.kJa _ [-1,0,1000,1001] fU fU) fV fU fU).mono ?_
   rintro e w5 ⟨y,hyM,hyR,rfl,hcN,htN⟩
   replace htN:=(Touch.of_below (S:=fun k=>k=p) (bR.alloc nL _)).trans htN
   have z_w5:=htN.size
   replace HO:=yD (HO.out.touch htN bT)
   replace HR:=yD (HR.out.touch htN bT)
   replace TE:=TE.trans htN
   clear hc htN
   have hc:=hcN
   clear hcN
   have hy:=Rep.kIz (lo:=-1) (hi:=1001) fU hyM
   clear hyM
   go_wp2_with (at_builtin;refine Rep.kHf rfl _ _ 24 rfl (r:=kE) (e:=29) Tryz.underlying24 jX rfl fU fU HO.out bR (kEl HR.out fV fV) gB gB (fun k h1 h2=>by have:=h1.2;have:=h2.1;omega) fV ?_)
   intro v9 w9 ho9 ht9
   have hz9:=ht9.size
   have HS9:=yD ((HSM.out.snoc (r:=(nm,f,y)) ⟨hns,by show nm.length≤64;omega⟩).mono (k:=48) fV)
   generalize l++[(nm,f,y)]=q at *
   obtain ⟨a9,c9,hv9,_⟩:=Rep.yj ho9.raw
   obtain rfl:v9=_:=by simpa using hv9
   have HO9:=yD (ho9.wide (T:=Btw w.heap.size w9.heap.size) (fun k q=>by rcases q with q | q | q;exact ⟨q.1,by have:=q.2;omega⟩;exact ⟨by have:=q.1;omega,by have:=q.2;omega⟩;exact ⟨by have:=q.1;omega,q.2⟩))
   have hc9:=hc.touch ht9 (fun q=>by have:=q.1.1;omega) (fun k q=>by have:=q.1.1;omega)
   have TE9:=TE.kFz ht9 (fun k q=>q.1.1)
   clear ho9 ht9 hv9
   go_wp2
   go_ret
   exact ⟨_,_,q,rfl,HO9.out,HS9.out,hc9,TE9⟩
 have hq0I:¬ (m:Int)=0:=fV
 by_cases hq1:m=1
 · subst hq1
   go_wp2_with fail
   refine (yC HO.out.rd).mono ?_
   rintro e w3 ⟨vc,rfl,hr,hb⟩
   have z_w3:=hb.size
   replace HO:=yD (HO.out.below hb)
   replace hc:=hc.below hb
   replace TE:=TE.trans (Touch.of_below hb)
   clear hb
   have HR:=yD (hr)
   clear hr
   obtain ⟨ya,yn,yc,hv,HYN⟩:=HR.out.parts
   obtain rfl:=hv
   go_wp2_with (at_builtin;refine Rep.kHe rfl _ _ 24 rfl (r:=kE) (e:=29) Tryz.underlying24 jX rfl fU fU HO.out HR.out gB gB (fun k h1 h2=>by have:=h1.2;have:=h2.1;omega) fV ?_)
   intro v9 w9 ho9 ht9
   have hz9:=ht9.size
   have HS9:=yD (HSM.out.twice)
   generalize l++l=q at *
   obtain ⟨a9,c9,hv9,_⟩:=Rep.yj ho9.raw
   obtain rfl:v9=_:=by simpa using hv9
   have HO9:=yD (ho9.wide (T:=Btw w.heap.size w9.heap.size) (fun k q=>by rcases q with q | q | q;exact ⟨q.1,by have:=q.2;omega⟩;exact ⟨by have:=q.1;omega,by have:=q.2;omega⟩;exact ⟨by have:=q.1;omega,q.2⟩))
   have hc9:=hc.touch ht9 (fun q=>by have:=q.1;omega) (fun k q=>by have:=q.1;omega)
   have TE9:=TE.kFz ht9 (fun k q=>q.1)
   clear ho9 ht9 hv9
   go_wp2
   go_ret
   exact ⟨_,_,q,rfl,HO9.out,HS9.out,hc9,TE9⟩
 have hq1I:¬ (m:Int)=1:=fV
 go_wp2
 go_ret
 exact ⟨_,_,l,rfl,HO.out.wide (fun k q=>⟨q.1,by have:=q.2;omega⟩),HSM.out.mono fV,hc,TE⟩
def DrawnRN (w:World) (e:Ending) (w':World):Prop:=∃ (a:Option Addr) (c:Nat) (l:List kD) (na:Option Addr) (nc:Nat) (nm:kR),e=.returned (.tuple #[.slice a l.length c,.agg #[.slice na nm.length nc]])∧ku 48 l∧(Rep.slice 29 kE).own w' [.slice a l.length c] l (Btw w.heap.size w'.heap.size)∧kV.own w' [.slice na nm.length nc] nm (Btw w.heap.size w'.heap.size)∧Below w.heap.size w w'
theorem kHk {w:World} {v:Value} {code:List UInt8} (hcode:(Rep.slice 5 Rep.byte).raw w [v] code) :
    Calls Tryz.prog 39 #[v] w (DrawnRN w):=by
 obtain ⟨ca,cc,rfl,_⟩:=Rep.sl hcode
 go_enter Tryz.func39,Tryz.ntmps39
 go_upto_region 1 with fail
 generalize hw_:World.alloc w _=w1
 have E_w1:Below w.heap.size w w1:=dC
 have R:w1.heap[w.heap.size]?=some (.cells #[.slice none 0 0] 27 (0,0)):=dN
 have z_w1:w.heap.size + 1≤w1.heap.size:=fA
 clear hw_
 have EE:=E_w1
 clear E_w1
 go_wp2_with fail
 refine (yx hcode EE).mono ?_
 rintro e w2 ⟨p,rfl,hc,hp0,hbN⟩
 have z_w2:=hbN.size
 have hp1:=hc.lt.2
 replace R:=kC R hbN
 have TE:Touch (fun k=>k=p) w w2:=Touch.of_below (tQ EE hbN)
 clear hbN EE
 go_wp2_with fail
 refine (jw hc).mono ?_
 rintro e w3 ⟨a,c,l,rfl,hO,hsm,hcN,htN⟩
 have z_w3:=htN.size
 replace R:=htN.kC R fV
 replace TE:=TE.trans htN
 clear hc htN
 have hc:=hcN
 clear hcN
 have HO:=yD (hO)
 clear hO
 go_wp2_with fail
 refine (zq (hc.below (bR.alloc nL _)) (Rep.kGb _ [{ data:=#[47,97,47,49] },{ data:=#[47,97,47,110,101,119,115,47,50] },{ data:=#[47,98,47,120] },{ data:=#[47,122,122] },{ data:=#[47,110,101,119,115] }] fU fU) fV fU fU).mono ?_
 rintro e w4 ⟨y,hyM,hyR,rfl,hcN,htN⟩
 replace htN:=(Touch.of_below (S:=fun k=>k=p) (bR.alloc nL _)).trans htN
 have z_w4:=htN.size
 replace R:=htN.kC R fV
 replace HO:=yD (HO.out.touch htN bT)
 replace TE:=TE.trans htN
 clear hc htN
 have hc:=hcN
 clear hcN
 go_wp2_with fail
 refine (kGi (Rep.kCf fU hyM)).mono ?_
 rintro e w5 ⟨na,nc,nm,rfl,hr,hl,hns,hb⟩
 have z_w5:=hb.size
 replace R:=kC R hb
 replace HO:=yD (HO.out.below hb)
 replace hc:=hc.below hb
 replace TE:=TE.trans (Touch.of_below hb)
 clear hb
 have HR:=yD (hr)
 clear hr
 have KR_0:w5.cell? ⟨w.heap.size,0,none⟩=some (.slice none 0 0):=kT R rfl
 have FR_0:w5.frozen? ⟨w.heap.size,0,none⟩=false:=frozen_of_row w5 (w.heap.size) 0 _ _ R
 go_wp2
 refine bodyPost_ret (v:=.tuple #[.slice a l.length c,.agg #[.slice na nm.length nc]]) (by simp [results,Tryz.results39,go_sem,KR_0,FR_0]) rfl ⟨a,c,l,na,nc,nm,rfl,hsm,?_,?_,?_⟩
 · exact (HO.out.touch (kF w5 w.heap.size 0 _) dI).wide bE
 · exact (HR.out.touch (kF w5 w.heap.size 0 _) dI).wide bE
 exact (TE.below nL dZ).setCell fZ _
theorem kCs {w:World} {v:Value} {code:List UInt8} (hcode:(Rep.slice 5 Rep.byte).raw w [v] code) :
    Calls Tryz.prog 8 #[v] w (DrawnRN w):=by
 obtain ⟨ca,cc,rfl,_⟩:=Rep.sl hcode
 go_enter Tryz.func8,Tryz.ntmps8
 go_upto_region 1 with fail
 generalize hw_:World.alloc w _=w1
 have E_w1:Below w.heap.size w w1:=dC
 have R:w1.heap[w.heap.size]?=some (.cells #[.slice none 0 0] 27 (0,0)):=dN
 have z_w1:w.heap.size + 1≤w1.heap.size:=fA
 clear hw_
 have EE:=E_w1
 clear E_w1
 go_wp2_with fail
 refine (kHk (hcode.below EE)).mono ?_
 rintro e w2 ⟨a,c,l,na,nc,nm,rfl,hsm,hO,hr,hb⟩
 have z_w2:=hb.size
 replace R:=kC R hb
 replace EE:=(tQ EE hb)
 clear hb
 have HO:=yD (hO)
 have HR:=yD (hr)
 clear hO hr
 have KR_0:w2.cell? ⟨w.heap.size,0,none⟩=some (.slice none 0 0):=kT R rfl
 have FR_0:w2.frozen? ⟨w.heap.size,0,none⟩=false:=frozen_of_row w2 (w.heap.size) 0 _ _ R
 go_wp2
 refine bodyPost_ret (v:=.tuple #[.slice a l.length c,.agg #[.slice na nm.length nc]]) (by simp [results,Tryz.results8,go_sem,KR_0,FR_0]) rfl ⟨a,c,l,na,nc,nm,rfl,hsm,?_,?_,?_⟩
 · exact (HO.out.touch (kF w2 w.heap.size 0 _) dI).wide bE
 · exact (HR.out.touch (kF w2 w.heap.size 0 _) dI).wide bE
 exact EE.setCell fZ _
def DrawnRF (w:World) (e:Ending) (w':World):Prop:=∃ (a:Option Addr) (c:Nat) (l:List kD) (x:Int),e=.returned (.tuple #[.slice a l.length c,.int .i64 x])∧ku 48 l∧(Rep.slice 29 kE).own w' [.slice a l.length c] l (Btw w.heap.size w'.heap.size)∧(0≤x∧x≤5)∧Below w.heap.size w w'
theorem kBs {w:World} {v:Value} {code:List UInt8} (hcode:(Rep.slice 5 Rep.byte).raw w [v] code) :
    Calls Tryz.prog 12 #[v] w (DrawnRF w):=by
 obtain ⟨ca,cc,rfl,_⟩:=Rep.sl hcode
 go_enter Tryz.func12,Tryz.ntmps12
 go_wp2_with fail
 refine (yx hcode bR).mono ?_
 rintro e w1 ⟨p,rfl,hc,hp0,hbN⟩
 have z_w1:=hbN.size
 have hp1:=hc.lt.2
 have TE:Touch (fun k=>k=p) w w1:=Touch.of_below (hbN)
 clear hbN
 go_wp2_with fail
 refine (jw hc).mono ?_
 rintro e w2 ⟨a,c,l,rfl,hO,hsm,hcN,htN⟩
 have z_w2:=htN.size
 replace TE:=TE.trans htN
 clear hc htN
 have hc:=hcN
 clear hcN
 have HO:=yD (hO)
 clear hO
 go_wp2_with fail
 refine (kv (n:=6) hc fU).mono ?_
 rintro e w3 ⟨x,hx0,hx1,hx2,rfl,hcN,htN⟩
 have z_w3:=htN.size
 replace HO:=yD (HO.out.touch htN bT)
 replace TE:=TE.trans htN
 clear hc htN
 have hc:=hcN
 clear hcN
 replace hx1:=hx1 fU
 clear hx2
 go_wp2
 refine bodyPost_ret (v:=.tuple #[.slice a l.length c,.int .i64 x]) (by simp [results,Tryz.results12,go_sem]) rfl ⟨a,c,l,x,rfl,hsm,HO.out.wide bK,by omega,TE.below nL dZ⟩
def DrawnRs (w:World) (e:Ending) (w':World):Prop:=∃ (a:Option Addr) (c:Nat) (l:List kD),e=.returned (.slice a l.length c)∧ku 48 l∧(Rep.slice 29 kE).own w' [.slice a l.length c] l (Btw w.heap.size w'.heap.size)∧Below w.heap.size w w'
theorem kAz {w:World} {v:Value} {code:List UInt8} (hcode:(Rep.slice 5 Rep.byte).raw w [v] code) :
    Calls Tryz.prog 14 #[v] w (DrawnRs w):=by
 obtain ⟨ca,cc,rfl,_⟩:=Rep.sl hcode
 go_enter Tryz.func14,Tryz.ntmps14
 go_wp2_with fail
 refine (yx hcode bR).mono ?_
 rintro e w1 ⟨p,rfl,hc,hp0,hbN⟩
 have z_w1:=hbN.size
 have hp1:=hc.lt.2
 have TE:Touch (fun k=>k=p) w w1:=Touch.of_below (hbN)
 clear hbN
 go_wp2_with fail
 refine (jw hc).mono ?_
 rintro e w2 ⟨a,c,l,rfl,hO,hsm,hcN,htN⟩
 have z_w2:=htN.size
 replace TE:=TE.trans htN
 clear hc htN
 have hc:=hcN
 clear hcN
 have HO:=yD (hO)
 clear hO
 go_wp2
 go_ret
 exact ⟨a,c,l,rfl,hsm,HO.out.wide bK,TE.below nL dZ⟩
def DrawnR2 (w:World) (e:Ending) (w':World):Prop:=∃ (a:Option Addr) (c:Nat) (l:List kD) (a2:Option Addr) (c2:Nat) (l2:List kD),e=.returned (.tuple #[.slice a l.length c,.slice a2 l2.length c2])∧ku 48 l∧(Rep.slice 29 kE).own w' [.slice a l.length c] l (Btw w.heap.size w'.heap.size)∧ku 48 l2∧(Rep.slice 29 kE).own w' [.slice a2 l2.length c2] l2 (Btw w.heap.size w'.heap.size)∧Below w.heap.size w w'
theorem kBn {w:World} {v:Value} {code:List UInt8} (hcode:(Rep.slice 5 Rep.byte).raw w [v] code) :
    Calls Tryz.prog 13 #[v] w (DrawnR2 w):=by
 obtain ⟨ca,cc,rfl,_⟩:=Rep.sl hcode
 go_enter Tryz.func13,Tryz.ntmps13
 go_wp2_with fail
 refine (yx hcode bR).mono ?_
 rintro e w1 ⟨p,rfl,hc,hp0,hbN⟩
 have z_w1:=hbN.size
 have hp1:=hc.lt.2
 have TE:Touch (fun k=>k=p) w w1:=Touch.of_below (hbN)
 clear hbN
 go_wp2_with fail
 refine (jw hc).mono ?_
 rintro e w2 ⟨a,c,l,rfl,hO,hsm,hcN,htN⟩
 have z_w2:=htN.size
 replace TE:=TE.trans htN
 clear hc htN
 have hc:=hcN
 clear hcN
 have HO:=yD (hO)
 clear hO
 go_wp2_with fail
 refine (kDm (n:=2) hc fU).mono ?_
 rintro e w3 ⟨b,rfl,hcN,htN⟩
 have z_w3:=htN.size
 replace HO:=yD (HO.out.touch htN bT)
 replace TE:=TE.trans htN
 clear hc htN
 have hc:=hcN
 clear hcN
 cases b
 · go_wp2_with fail
   refine (jw hc).mono ?_
   rintro e w4 ⟨ya,yc,yl,rfl,hO,yhsm,hcN,htN⟩
   have z_w4:=htN.size
   replace HO:=yD (HO.out.touch htN bT)
   replace TE:=TE.trans htN
   clear hc htN
   have hc:=hcN
   clear hcN
   have HY:=yD (hO)
   clear hO
   go_wp2
   refine bodyPost_ret (v:=.tuple #[.slice a l.length c,.slice ya yl.length yc]) (by simp [results,Tryz.results13,go_sem]) rfl ⟨a,c,l,ya,yc,yl,rfl,hsm,HO.out.wide bK,yhsm,HY.out.wide bK,TE.below nL dZ⟩
 go_wp2_with fail
 refine (yC HO.out.rd).mono ?_
 rintro e w4 ⟨v2,rfl,hY,hb⟩
 have z_w4:=hb.size
 replace HO:=yD (HO.out.below hb)
 replace hc:=hc.below hb
 replace TE:=TE.trans (Touch.of_below hb)
 clear hb
 have hY2:=hY.own (by have:=hsm.1;unfold Big;omega)
 obtain ⟨ya,yc,rfl,_⟩:=Rep.sl hY2.raw
 clear hY
 have HY:=yD (hY2)
 clear hY2
 go_wp2
 refine bodyPost_ret (v:=.tuple #[.slice a l.length c,.slice ya l.length yc]) (by simp [results,Tryz.results13,go_sem]) rfl ⟨a,c,l,ya,yc,l,rfl,hsm,HO.out.wide bK,hsm,HY.out.wide bK,TE.below nL dZ⟩
def DrawnAR (w:World) (e:Ending) (w':World):Prop:=∃ (a:Option Addr) (c:Nat) (l:List kD) (na:Option Addr) (nc:Nat) (ps:kR) (f co:Int),e=.returned (.tuple #[.slice a l.length c,.agg #[.slice na ps.length nc,.int .i64 f,.int .i64 co]])∧ku 48 l∧(Rep.slice 29 kE).own w' [.slice a l.length c] l (Btw w.heap.size w'.heap.size)∧kV.own w' [.slice na ps.length nc] ps (Btw w.heap.size w'.heap.size)∧(1≤f∧f≤4)∧(-1≤co∧co≤1001)∧Below w.heap.size w w'
theorem kCt {w:World} {v:Value} {code:List UInt8} (hcode:(Rep.slice 5 Rep.byte).raw w [v] code) :
    Calls Tryz.prog 5 #[v] w (DrawnAR w):=by
 obtain ⟨ca,cc,rfl,_⟩:=Rep.sl hcode
 go_enter Tryz.func5,Tryz.ntmps5
 go_upto_region 1 with fail
 generalize hw_:World.alloc w _=w1
 have E_w1:Below w.heap.size w w1:=dC
 have R:w1.heap[w.heap.size]?=some (.cells #[.slice none 0 0,.int .i64 0,.int .i64 0] 29 (0,0)):=dN
 have z_w1:w.heap.size + 1≤w1.heap.size:=fA
 clear hw_
 have EE:=E_w1
 clear E_w1
 go_wp2_with fail
 refine (yx hcode EE).mono ?_
 rintro e w2 ⟨p,rfl,hc,hp0,hbN⟩
 have z_w2:=hbN.size
 have hp1:=hc.lt.2
 replace R:=kC R hbN
 have TE:Touch (fun k=>k=p) w w2:=Touch.of_below (tQ EE hbN)
 clear hbN EE
 go_wp2_with fail
 refine (jw hc).mono ?_
 rintro e w3 ⟨a,c,l,rfl,hO,hsm,hcN,htN⟩
 have z_w3:=htN.size
 replace R:=htN.kC R fV
 replace TE:=TE.trans htN
 clear hc htN
 have hc:=hcN
 clear hcN
 have HO:=yD (hO)
 clear hO
 go_wp2_with fail
 refine (kDn hc).mono ?_
 rintro e w4 ⟨na,nc,ps,f,co,rfl,hr,hns,hpl,hf,hco,hcN,htN⟩
 have z_w4:=htN.size
 replace R:=htN.kC R fV
 replace HO:=yD (HO.out.touch htN bT)
 replace TE:=TE.trans htN
 clear hc htN
 have hc:=hcN
 clear hcN
 have HR:=yD (hr)
 clear hr
 go_upto_region 4 with fail
 generalize hw_:World.alloc w4 _=w5
 have E_w5:Below w4.heap.size w4 w5:=dC
 have B:w5.heap[w4.heap.size]?=some (.cells #[.slice na ps.length nc,.int .i64 f,.int .i64 co] 29 (0,0)):=dN
 have z_w5:w4.heap.size + 1≤w5.heap.size:=fA
 clear hw_
 replace R:=kC R E_w5
 replace HO:=yD (HO.out.below E_w5)
 replace HR:=yD (HR.out.below E_w5)
 replace hc:=hc.below E_w5
 replace TE:=TE.trans (Touch.of_below E_w5)
 clear E_w5
 go_wp2_with fail
 refine (kDm (n:=6) hc fU).mono ?_
 rintro e w6 ⟨b,rfl,hcN,htN⟩
 have z_w6:=htN.size
 replace R:=htN.kC R fV
 replace B:=htN.kC B fV
 replace HO:=yD (HO.out.touch htN bT)
 replace HR:=yD (HR.out.touch htN bT)
 replace TE:=TE.trans htN
 clear hc htN
 have hc:=hcN
 clear hcN
 cases b
 · go_upto_region 6 with fail
   obtain ⟨KR_0,KR_1,KR_2⟩:=kFe R
   obtain ⟨KB_0,KB_1,KB_2⟩:=kFe B
   obtain ⟨FR_0,FR_1,FR_2⟩:=rowF3 R
   have FX:=yD (fun (W:World) (hW:Below w6.heap.size w6 W)=>cLs3 hW KB_0 KB_1 KB_2)
   refine jS (fun W=>Below w6.heap.size w6 W) [true,true,true] fP fP bW (bR.drew) ?_
   intro wS HS
   iterate 3
    all_goals refine wkR ?_
   all_goals refine jV ?_
   have RS_:=kC R HS
   have KR0:=cL HS KR_0
   have KR1:=cL HS KR_1
   have KR2:=cL HS KR_2
   have FR0:wS.frozen? ⟨w.heap.size,0,none⟩=false:=frozen_of_row wS w.heap.size 0 _ _ RS_
   have FR1:wS.frozen? ⟨w.heap.size,1,none⟩=false:=frozen_of_row wS w.heap.size 1 _ _ RS_
   have FR2:wS.frozen? ⟨w.heap.size,2,none⟩=false:=frozen_of_row wS w.heap.size 2 _ _ RS_
   have HO2:=yD (HO.out.below HS)
   have HR2:=yD (HR.out.below HS)
   have TE2:=TE.trans (Touch.of_below HS)
   have zS:=HS.size
   clear HS HO HR TE R B hc KR_0 FR_0 KB_0 KR_1 FR_1 KB_1 KR_2 FR_2 KB_2
   go_wp2
   refine bodyPost_ret (v:=.tuple #[.slice a l.length c,.agg #[.slice na ps.length nc,.int .i64 f,.int .i64 co]]) (by simp [results,Tryz.results5,go_sem,KR0,FR0,KR1,FR1,KR2,FR2]) rfl ⟨a,c,l,na,nc,ps,f,co,rfl,hsm,?_,?_,hf,by omega,?_⟩
   · exact (HO2.out.touch (((kF _ _ _ _).trans (kF _ _ _ _)).trans (kF _ _ _ _)) dI).wide bE
   · exact (HR2.out.touch (((kF _ _ _ _).trans (kF _ _ _ _)).trans (kF _ _ _ _)) dI).wide bE
   exact (TE2.jU (((kF _ _ _ _).trans (kF _ _ _ _)).trans (kF _ _ _ _)) fV).below nL dZ
 go_wp2_with fail
 refine (kBr (hc.below (bR.alloc nL _)) (Rep.kJa _ [-1,1001] fU fU) fV fU fU).mono ?_
 rintro e w7 ⟨y,hyM,hyR,rfl,hcN,htN⟩
 replace htN:=(Touch.of_below (S:=fun k=>k=p) (bR.alloc nL _)).trans htN
 have z_w7:=htN.size
 replace R:=htN.kC R fV
 replace B:=htN.kC B fV
 replace HO:=yD (HO.out.touch htN bT)
 replace HR:=yD (HR.out.touch htN bT)
 replace TE:=TE.trans htN
 clear hc htN
 have hc:=hcN
 clear hcN
 have hy:=Rep.kIz (lo:=-1) (hi:=1001) fU hyM
 clear hyM
 obtain ⟨KB_0,KB_1,KB_2⟩:=kFe B
 obtain ⟨FB_0,FB_1,FB_2⟩:=rowF3 B
 go_upto_region 6 with fail
 clear KB_0 KB_1 KB_2 FB_0 FB_1 FB_2
 generalize hw_:World.setCell w7 _ _=w8
 have T_w8:Touch (fun k=>k=w4.heap.size) w7 w8:=by rw [← hw_];exact kF w7 (w4.heap.size) 2 _
 replace B:w8.heap[w4.heap.size]?=some (.cells #[.slice na ps.length nc,.int .i64 f,.int .i64 y] 29 (0,0)):=by rw [← hw_];exact zu B 2
 have z_w8:=T_w8.size
 clear hw_
 replace R:=T_w8.kC R fV
 replace HO:=yD (HO.out.touch T_w8 bT)
 replace HR:=yD (HR.out.touch T_w8 bT)
 replace hc:=hc.touch T_w8 fV dZ
 replace TE:=TE.jU T_w8 fV
 clear T_w8
 go_upto_region 6 with fail
 obtain ⟨KR_0,KR_1,KR_2⟩:=kFe R
 obtain ⟨KB_0,KB_1,KB_2⟩:=kFe B
 obtain ⟨FR_0,FR_1,FR_2⟩:=rowF3 R
 have FX:=yD (fun (W:World) (hW:Below w8.heap.size w8 W)=>cLs3 hW KB_0 KB_1 KB_2)
 refine jS (fun W=>Below w8.heap.size w8 W) [true,true,true] fP fP bW (bR.drew) ?_
 intro wS HS
 iterate 3
  all_goals refine wkR ?_
 all_goals refine jV ?_
 have RS_:=kC R HS
 have KR0:=cL HS KR_0
 have KR1:=cL HS KR_1
 have KR2:=cL HS KR_2
 have FR0:wS.frozen? ⟨w.heap.size,0,none⟩=false:=frozen_of_row wS w.heap.size 0 _ _ RS_
 have FR1:wS.frozen? ⟨w.heap.size,1,none⟩=false:=frozen_of_row wS w.heap.size 1 _ _ RS_
 have FR2:wS.frozen? ⟨w.heap.size,2,none⟩=false:=frozen_of_row wS w.heap.size 2 _ _ RS_
 have HO2:=yD (HO.out.below HS)
 have HR2:=yD (HR.out.below HS)
 have TE2:=TE.trans (Touch.of_below HS)
 have zS:=HS.size
 clear HS HO HR TE R B hc KR_0 FR_0 KB_0 KR_1 FR_1 KB_1 KR_2 FR_2 KB_2
 go_wp2
 refine bodyPost_ret (v:=.tuple #[.slice a l.length c,.agg #[.slice na ps.length nc,.int .i64 f,.int .i64 y]]) (by simp [results,Tryz.results5,go_sem,KR0,FR0,KR1,FR1,KR2,FR2]) rfl ⟨a,c,l,na,nc,ps,f,y,rfl,hsm,?_,?_,hf,by omega,?_⟩
 · exact (HO2.out.touch (((kF _ _ _ _).trans (kF _ _ _ _)).trans (kF _ _ _ _)) dI).wide bE
 · exact (HR2.out.touch (((kF _ _ _ _).trans (kF _ _ _ _)).trans (kF _ _ _ _)) dI).wide bE
 exact (TE2.jU (((kF _ _ _ _).trans (kF _ _ _ _)).trans (kF _ _ _ _)) fV).below nL dZ
end Go.Proofs.YthpgoddjglnoiaaGreatDoor
