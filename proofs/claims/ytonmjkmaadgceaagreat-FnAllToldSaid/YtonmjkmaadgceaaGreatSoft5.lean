/-
  Regions in two phases whose later operations may wait for the head alone. No program in sight.
-/
import Derived.Test.YtonmjkmaadgceaaGreatRecS
set_option linter.unusedVariables false
set_option linter.unusedSimpArgs false
set_option linter.unnecessarySimpa false
set_option maxRecDepth 100000
set_option maxHeartbeats 4000000
namespace Go.Proofs.YtonmjkmaadgceaaGreat
open Go.RowKit _root_.Go.Proofs.Tryz
theorem recF_len {n:kQ} {f:Int} {l:List kT} (h:l.length≤24):(recF n f l).length≤24:=by
 unfold recF
 split
 · split
   · split
     · simp;omega
     exact h
   simp;exact h
 exact h
theorem recS_len {n:kQ} {f:Int} {l:List kT} (h:l.length≤24):(kKb n f l).length≤24:=by
 unfold kKb
 split
 · exact h
 split
 · simp;omega
 simp;exact h
theorem kUd {w0 w:World} {p:Nat} (hc:yK w0 w p) :
    Calls prog 148 #[.pointer (some ⟨p,0,none⟩)] w fun e w'=>∃ a c ps,e=.returned (.agg #[.slice a ps.length c])∧kM.own w' [.slice a ps.length c] ps (jR w.heap.size w'.heap.size)∧ps.length≤64∧yK w0 w' p∧Touch (fun k=>k=p) w w':=by
 go_enter func148,ntmps148
 obtain ⟨b7,cj⟩:=hc.lt
 go_upto_region 1 with fail
 generalize F:World.alloc w _=w1
 obtain ⟨ak,R,bn⟩:=uW
 clear F
 obtain ⟨hc,H⟩:=q8
 clear ak
 go_wp2_with fail
 refine (zo (hc.below (bR.alloc nL _)) (kE.kAw _ [{ data:=#[47] },{ data:=#[47,97] },{ data:=#[47,98] },{ data:=#[47,97,47,110,101,119,115] }] bB8 bB8) bB9 bB8 bB8).mono ?_
 rintro e V ⟨y,al,a8,rfl,G,D⟩
 replace D:=(Touch.of_below (S:=fun k=>k=p) (bR.alloc nL _)).trans D
 obtain ⟨bo,R,H⟩:=xE
 clear hc D
 have hc:=G
 clear G
 go_wp2_with fail
 refine (kSf (kE.kBz bB8 al)).mono ?_
 rintro e w3 ⟨a,c,ps,rfl,hr,hl,hb⟩
 have bp:=hb.size
 replace R:=kD R hb
 obtain ⟨hc,H⟩:=oP
 clear hb
 have HR:=yD (hr)
 clear hr
 have ac:w3.cell? ⟨w.heap.size,0,none⟩=some (.slice none 0 0):=kF R rfl
 have aq:w3.frozen? ⟨w.heap.size,0,none⟩=false:=frozen_of_row w3 (w.heap.size) 0 _ _ R
 go_wp2
 refine bodyPost_ret (v:=.agg #[.slice a ps.length c]) (by simp [results,results148,go_sem,ac,aq]) rfl ⟨_,_,ps,rfl,?_,hl,hc.touch (kC w3 w.heap.size 0 _) bB9 wB,H.jJ (kC w3 w.heap.size 0 _) bB9⟩
 exact (HR.out.touch (kC w3 w.heap.size 0 _) sM).wide fK
theorem kLn {w0 w:World} {p:Nat} (hc:yK w0 w p) :
    Calls prog 109 #[.pointer (some ⟨p,0,none⟩)] w fun e w'=>∃ a c l,e=.returned (.slice a l.length c)∧(kE.slice 105 kL).own w' [.slice a l.length c] l (jR w.heap.size w'.heap.size)∧l.length≤24∧yK w0 w' p∧Touch (fun k=>k=p) w w':=by
 go_enter func109,ntmps109
 obtain ⟨b7,cj⟩:=hc.lt
 go_upto_region 2 with fail
 generalize F:World.alloc w _=w1
 obtain ⟨ak,bn⟩:=EB
 clear F
 obtain ⟨hc,H⟩:=q8
 clear ak
 go_wp2_with fail
 refine (kV (n:=14) hc bB8).mono ?_
 rintro e V ⟨m,bq,ao,ck,rfl,G,D⟩
 have bo:=D.size
 replace H:=H.trans D
 clear hc D
 have hc:=G
 clear G
 replace ao:=ao bB8
 clear ck
 obtain ⟨m,rfl⟩:=Int.eq_ofNat_of_zero_le bq
 go_wp2
 go_loopw [3,4] (fun v i wr=>∃ (j:Nat) (a:Option Addr) (n c:Nat) (l:List kT),v=.slice a n c∧i=.int .i64 j∧l.length≤24∧Hid (n=l.length)∧j < 14∧Hid ((kE.slice 105 kL).own wr [.slice a n c] l (jR w.heap.size wr.heap.size))∧V.heap.size≤wr.heap.size∧yK w0 wr p∧Touch (fun k=>k=p) w wr) (fun _ i _=>(intOf i).toNat)
 case atStart=>exact ⟨m,_,0,0,[],rfl,rfl,by simp,yD rfl,by omega,yD kE.jf,Nat.le_refl _,hc,H⟩
 clear hc H
 obtain ⟨j,a,n,c,l,rfl,rfl,hl,HN,I,L,dh,hc,H⟩:=hrel
 have aa:=H.size
 cases j with
 | zero =>
   go_wp2
   go_ret
   have hn:=HN.out
   subst hn
   exact ⟨_,_,l,rfl,L.out,hl,hc,H⟩
 | succ j =>
   have dn:(0:Int) < (j:Int) + 1:=bB9
   go_upto_region 5 with fail
   go_wp2_with fail
   refine (kUd hc).mono ?_
   rintro e w4 ⟨na,nc,N,rfl,hr,cq,G,D⟩
   have b9:=D.size
   obtain ⟨L,H⟩:=oZ
   clear hc D
   have hc:=G
   clear G
   have HR:=yD (hr)
   clear hr
   go_upto_region 6 with fail
   generalize F:World.alloc w4 _=w5
   have O:Below w4.heap.size w4 w5:=rX
   have B:w5.heap[w4.heap.size]?=some (.cells #[.slice na N.length nc] 41 (0,0)):=tX
   have cd:w4.heap.size + 1≤w5.heap.size:=bA3
   clear F
   replace L:=yD (L.out.below O)
   replace HR:=yD (HR.out.below O)
   replace hc:=hc.below O
   replace H:=H.trans (Touch.of_below O)
   clear O
   have FX:=yD (fun (W:World) (hW:Touch (fun k=>k=p) w5 W∧yK w0 W p)=>kF (hW.1.kD B bB9) (j:=0) (v:=.slice na N.length nc) rfl)
   refine kW (fun W=>Touch (fun k=>k=p) w5 W∧yK w0 W p) [true,true,true,false,true,false,true] bB4 bB4 qD (⟨Touch.of_below bR.drew,hc.below bR.drew⟩) ?_
   intro wS E
   refine kS ?_
   refine kS ?_
   refine kS ?_
   refine ko rfl (fun K J=>?_);go_simp;refine (kV (n:=3) E.2 bB8).mono ?_;rintro e wS1 ⟨x,ax,Z,b4,rfl,be,a9⟩;replace Z:=Z bB8;clear b4;replace E:=And.intro (E.1.trans a9) be;clear be a9;have hw:IntKind.i64.wrap (1 + x)=1 + x:=IntWalk.i64_in _ bB9;refine J _ _ E ?_;clear J K
   refine kX ?_
   refine kS ?_
   refine ko rfl (fun K J=>?_);go_simp;have d1:=E.1.size;refine (kLa ((L.out.touch E.1 qB).rd) (cn:=[.slice na N.length nc]) (HR.out.touch E.1 qB).rd bB9).mono ?_;rintro e bj ⟨v2,rfl,cc,af⟩;have bw:=af.size;obtain ⟨a2,c2,rfl,_⟩:=kE.sl cc.raw;replace E:=And.intro (E.1.trans (Touch.of_below af)) (E.2.below af);refine J _ _ E ?_;clear J K
   refine kX ?_
   refine kS ?_
   refine kZ ?_
   have al:=E.1.size
   have bc:=recF_len (n:=N) (f:=1 + x) hl
   generalize recF N (1 + x) l=l2 at *
   have ag:=yD (cc.wide (T:=jR w.heap.size bj.heap.size) qU)
   have br:=H.trans E.1
   have bt:=E.2
   have B2:=E.1.kD B bB9
   have fu:=yD (HR.out.touch E.1 qB)
   clear cc L H hc B HR af E hw
   go_wp2_with fail
   refine (zk (n:=4) bt bB8).mono ?_
   rintro e w8 ⟨b,rfl,ai,ab⟩
   have bx:=ab.size
   have bf:=yD (ag.out.touch ab qB)
   have ac:=yD (fu.out.touch ab qB)
   have B8:=ab.kD B2 bB9
   have Y:=br.trans ab
   clear ag fu B2 br bt ab
   cases b
   · go_wp2
     go_roundw
     case rel=>exact ⟨j,a2,l2.length,c2,l2,rfl,by go_num,bc,yD rfl,by omega,yD (bf.out.wide (fun k hk=>⟨hk.1,by have:=hk.2;omega⟩)),by omega,ai,Y⟩
     case measure=>simp [intOf]
   · rename yK w0 w8 p=>hc
     have L:=bf
     have HR:=ac
     have B:=B8
     have H:=Y
     clear bf ac B8 Y
     have R:=bx
     go_upto_region 8 with fail
     have FX:=yD (fun (W:World) (hW:Touch (fun k=>k=p) w8 W∧yK w0 W p)=>kF (hW.1.kD B bB9) (j:=0) (v:=.slice na N.length nc) rfl)
     refine kW (fun W=>Touch (fun k=>k=p) w8 W∧yK w0 W p) [true,true,true,false,true,false,true] bB4 bB4 qD (⟨Touch.of_below bR.drew,hc.below bR.drew⟩) ?_
     intro wS E
     refine kS ?_
     refine kS ?_
     refine kS ?_
     refine ko rfl (fun K J=>?_);go_simp;refine (kV (n:=3) E.2 bB8).mono ?_;rintro e wS1 ⟨y,b6,a4,a6,rfl,be,a9⟩;replace a4:=a4 bB8;clear a6;replace E:=And.intro (E.1.trans a9) be;clear be a9;have hw:IntKind.i64.wrap (1 + y)=1 + y:=IntWalk.i64_in _ bB9;refine J _ _ E ?_;clear J K
     refine kX ?_
     refine kS ?_
     refine ko rfl (fun K J=>?_);go_simp;have b8:=E.1.size;refine (kKz ((L.out.touch E.1 qB).rd) (cn:=[.slice na N.length nc]) (HR.out.touch E.1 qB).rd bB9).mono ?_;rintro e a5 ⟨v3,rfl,X,af⟩;have ha:=af.size;obtain ⟨a3,c3,rfl,_⟩:=kE.sl X.raw;replace E:=And.intro (E.1.trans (Touch.of_below af)) (E.2.below af);refine J _ _ E ?_;clear J K
     refine kX ?_
     refine kS ?_
     refine kZ ?_
     have aj:=E.1.size
     have fe:=recS_len (n:=N) (f:=1 + y) bc
     generalize kKb N (1 + y) l2=l3 at *
     have ae:=yD (X.wide (T:=jR w.heap.size a5.heap.size) qU)
     have ah:=H.trans E.1
     have U:=E.2
     clear X L H hc B HR af E hw
     go_wp2
     go_roundw
     case rel=>exact ⟨j,a3,l3.length,c3,l3,rfl,by go_num,fe,yD rfl,by omega,ae,by omega,U,ah⟩
     case measure=>simp [intOf]
theorem kWh {w0 w:World} {p:Nat} (hc:yK w0 w p) :
    Calls prog 79 #[.pointer (some ⟨p,0,none⟩)] w fun e w'=>∃ a c l,e=.returned (.slice a l.length c)∧(kE.slice 105 kL).own w' [.slice a l.length c] l (jR w.heap.size w'.heap.size)∧l.length≤48∧yK w0 w' p∧Touch (fun k=>k=p) w w':=by
 go_enter func79,ntmps79
 obtain ⟨b7,cj⟩:=hc.lt
 go_wp2_with fail
 refine (kLn hc).mono ?_
 rintro e w1 ⟨a,c,l,rfl,hO,hl,G,D⟩
 have bn:=D.size
 have H:=D
 clear hc D
 have hc:=G
 clear G
 have L:=yD (hO)
 clear hO
 go_wp2_with fail
 refine (kV (n:=10) hc bB8).mono ?_
 rintro e V ⟨m,bq,ao,ck,rfl,G,D⟩
 have bo:=D.size
 obtain ⟨L,H⟩:=oZ
 clear hc D
 have hc:=G
 clear G
 replace ao:=ao bB8
 clear ck
 obtain ⟨m,rfl⟩:=Int.eq_ofNat_of_zero_le bq
 by_cases b5:m=0
 · subst b5
   go_wp2_with fail
   refine (specl4Any_c hc).mono ?_
   rintro e w3 ⟨na,nc,N,rfl,hr,cq,G,D⟩
   have bp:=D.size
   obtain ⟨L,H⟩:=oZ
   clear hc D
   have hc:=G
   clear G
   have HR:=yD (hr)
   clear hr
   go_wp2_with fail
   refine (kV (n:=8) hc bB8).mono ?_
   rintro e w4 ⟨f,el,dt,d4,rfl,G,D⟩
   have b9:=D.size
   obtain ⟨L,HR,H⟩:=xC
   clear hc D
   have hc:=G
   clear G
   replace dt:=dt bB8
   clear d4
   go_wp2_with fail
   refine (kBh (hc.below (bR.alloc nL _)) (kE.kGs _ [0,1,50,51,-1] bB8 bB8) bB9 bB8 bB8).mono ?_
   rintro e w5 ⟨y,al,a8,rfl,G,D⟩
   obtain ⟨D,cd⟩:=xQ
   obtain ⟨L,HR,H⟩:=xC
   clear hc D
   have hc:=G
   clear G
   have hy:=kE.kGq (lo:=-1) (hi:=51) bB8 al
   go_wp2_with (at_builtin;refine kE.zO rfl _ _ 31 rfl (r:=kL) (e:=105) underlying31 yg rfl bB8 bB8 L.out bR (kE.jw HR.out (kE.jr (kE.ky bB9) (kE.ky bB9))) bC1 bC1 nW bB9 ?_)
   intro v9 w9 a5 an
   have R:=an.size
   have U:(l++[(N,f,y)]).length≤25:=bB5
   generalize l++[(N,f,y)]=q at *
   obtain ⟨a9,c9,bb,_⟩:=kE.kAx a5.raw
   obtain rfl:v9=_:=by simpa using bb
   have br:=yD (a5.wide (T:=jR w.heap.size w9.heap.size) bL)
   have J:=hc.touch an tF sQ
   have E:=H.kBj an (fun k q=>q.1.1)
   clear a5 an bb
   go_wp2
   go_ret
   exact ⟨_,_,q,rfl,br.out,by omega,J,E⟩
 have I:¬ (m:Int)=0:=bB9
 by_cases O:m=1
 · subst O
   go_wp2_with fail
   refine (kEu L.out.rd).mono ?_
   rintro e w3 ⟨vc,rfl,hr,hb⟩
   have bp:=hb.size
   replace L:=yD (L.out.below hb)
   obtain ⟨hc,H⟩:=oP
   clear hb
   have HR:=yD (hr)
   clear hr
   obtain ⟨ya,yn,yc,hv,X⟩:=HR.out.parts
   obtain rfl:=hv
   go_wp2_with (at_builtin;refine kE.kLh rfl _ _ 31 rfl (r:=kL) (e:=105) underlying31 yg rfl bB8 bB8 L.out HR.out bC1 bC1 nW bB9 ?_)
   intro v9 w9 a5 an
   have R:=an.size
   have U:(l++l).length≤48:=bB5
   generalize l++l=q at *
   obtain ⟨a9,c9,bb,_⟩:=kE.kAx a5.raw
   obtain rfl:v9=_:=by simpa using bb
   have br:=yD (a5.wide (T:=jR w.heap.size w9.heap.size) bL)
   have J:=hc.touch an tT sZ
   have E:=H.kBj an (fun k q=>q.1)
   clear a5 an bb
   go_wp2
   go_ret
   exact ⟨_,_,q,rfl,br.out,by omega,J,E⟩
 have F:¬ (m:Int)=1:=bB9
 go_wp2
 go_ret
 exact ⟨_,_,l,rfl,L.out.wide rM,by omega,hc,H⟩
end Go.Proofs.YtonmjkmaadgceaaGreat
namespace Go.Proofs.YtonmjkmaadgceaaGreat
open Go _root_.Go.Proofs.Tryz
section
variable {P:Program} {ops:Array Oper} {S S2:World→Prop} {Q:Exit→Act→World→Prop}
def treeC (md:Region.Mode) (ops:Array Oper) (n:Nat):Bool :=
  (List.range ops.size).all fun t=>decide (t≤n) || (((List.range t).any fun j=>decide (n≤j) && Region.waitsFor md ops t j) || (decide (0 < n) && (Region.waitsFor md ops t (n - 1) && kLt md ops (n - 1) [])))
theorem sink_open {md:Region.Mode} {n m:Nat} {listed:Array Bool} (hs:kLt md ops m []=true) (hm:m < ops.size) (inv:HeadInv md ops n listed):∀ (d i:Nat),m - i=d→i≤m→listed.getD i true=false→listed.getD m true=false:=by
 intro d
 induction d using Nat.strongRecOn with
 | _ d ih =>
   intro i hd hi F
   by_cases E:i=m
   · subst E;exact F
   · have h1:=List.all_eq_true.1 hs i (List.mem_range.2 bB9)
     simp only [List.contains_nil,Bool.false_or,Bool.not_false,Bool.true_and] at h1
     obtain ⟨j,I,bq⟩:=List.any_eq_true.1 h1
     simp only [Bool.and_eq_true,decide_eq_true_eq] at bq
     have D:j≤m:=rQ
     obtain ⟨N,O,e,he,hb,ay⟩:=Region.waitsFor_spec bq.2
     cases hl:listed.getD j false with
     | true =>
       have h2:=inv.closed j N O hl e he hb
       rw [ay,getD_both F] at h2
       cases h2
     | false =>
       have H:j < listed.size:=vK
       exact ih (m - j) bB9 j rfl D (getD_in H hl)
theorem kQe {md:Region.Mode} {n:Nat} {E:List Nat} {listed:Array Bool} (hs:kLt md ops n E=true) (hc:treeC md ops n=true) (hn:n < ops.size) (inv:HeadInv md ops n listed) :
    ∀ (d i:Nat),n - i=d→i < n→E.contains i=false→listed.getD i true=false→∀ t,n≤t→t ∉ Region.ready md ops listed:=by
 intro d
 induction d using Nat.strongRecOn with
 | _ d ih =>
   intro i hd hi aa F t ht hr
   obtain ⟨_,V,D,J⟩:=mem_ready.1 hr
   have G:t < ops.size:=(Array.getElem?_eq_some_iff.1 D).1
   by_cases U:t=n
   · exact mJ
   · have h1:=List.all_eq_true.1 hc t (List.mem_range.2 G)
     simp only [Bool.or_eq_true,Bool.and_eq_true,decide_eq_true_eq] at h1
     rcases h1 with h1 | h1 | h1
     · omega
     · exact mV
     · obtain ⟨W,hw,X⟩:=h1
       have ab:=sink_open X bB9 inv _ i rfl bB9 F
       obtain ⟨Y,L,e,he,hb,ay⟩:=Region.waitsFor_spec hw
       have:Y=V:=Option.some.inj (L.symm.trans D)
       subst this
       have h2:=J e he hb
       rw [ay,getD_both ab] at h2
       cases h2
theorem kRq {md:Region.Mode} {n i:Nat} {E:List Nat} {V:Oper} {v:Value} {L:Array Bool→Act→World→Prop} (hi:ops[i]?=some V) (D:∀ (j:Nat) (o:Oper) cs b,ops[j]?=some o→o.op≠.select cs b)
    (hQ:∀ c a w,Q (.panic c) (a.put V.dst v) w→Q (.panic c) a w) (hs:kLt md ops n E=true) (hc:treeC md ops n=true) (hn:n < ops.size) (R:i < n) (aa:E.contains i=false)
    (Z:∀ listed a w,L listed a w→∀ j∈Region.ready md ops listed,n≤j) :
    ∀ (f:Nat) (listed:Array Bool) (a:Act) (w:World),HeadInv md ops n listed →
      (∀ j N,ops[j]?=some N→j≠i→listed.getD j true=false→(∀ e∈N.after,Region.binds md e=true→e.on≠i)→V.apart ops N=true) →
      i∈Region.ready md ops listed→YieldsIf P ops S V v a→S w →
      kCl P md ops Q S n L f (listed.setIfInBounds i true) (a.put V.dst v) w→kCl P md ops Q S n L (f + 1) listed a w:=by
 intro f
 induction f with
 | zero =>
   intro listed a w inv _ hr hy hS H
   have F:=(mem_ready.1 hr).1
   refine ⟨fun h=>vC,fun j I=>?_⟩
   have ab:j < n:=by
     rcases Nat.lt_or_ge j n with h | h
     · exact h
     · exact absurd I (kQe hs hc hn inv _ i rfl R aa F j h)
   exact lY
 | succ f ih =>
   intro listed a w inv U hr hy hS H
   have F:=(mem_ready.1 hr).1
   refine ⟨fun h=>vC,fun j I=>?_⟩
   have ab:j < n:=by
     rcases Nat.lt_or_ge j n with h | h
     · exact h
     · exact absurd I (kQe hs hc hn inv _ i rfl R aa F j h)
   exact lZ
def soft2OkC (md:Region.Mode) (ops:Array Oper) (E:List Nat) (q q2:List (Nat × Bool)):Bool :=
  Region.noSelect ops && (decide (E.length + q.length < ops.size) && (E.all (fun x=>decide (x < E.length + q.length)) && (q.all (fun x=>decide (x.1 < E.length + q.length) && !E.contains x.1) && (kLt md ops (E.length + q.length) E && (treeC md ops (E.length + q.length) &&
    (preB md ops E (Array.replicate ops.size false) && (q2.all (fun x=>decide (x.1 < ops.size)) && (decide (E.length + q.length + q2.length=ops.size) && kDb md ops (E.length + q.length) q2 q (kKg E (Array.replicate ops.size false))))))))))
theorem kFo {l:List Oper} {n:Nat} {E:List Nat} {q2:List (Nat × Bool)} (D:Region.noSelect l.toArray=true) (hQ:∀ c a d v w,Q (.panic c) (Act.put a d v) w→Q (.panic c) a w)
    (hs:kLt .any l.toArray n E=true) (hc:treeC .any l.toArray n=true) (hn:n < l.toArray.size):∀ (q:List (Nat × Bool)) (k:Nat) (listed:Array Bool) (a:Act) (w:World),
    q.all (fun x=>decide (x.1 < n) && !E.contains x.1)=true→HeadInv .any l.toArray n listed→kDb .any l.toArray n q2 q listed=true→S w→kJz P l.toArray S S2 Q (jD l q2) (q2.map (·.2)) k (jD l q) (q.map (·.2)) a w →
    kCl P .any l.toArray Q S n (fun listed a w=>(Region.ready .any l.toArray listed).all (fun j=>decide (n≤j))=true∧kHd .any l.toArray q2 listed=true∧S2 w∧∃ k,kCs P l.toArray S2 Q k (jD l q2) (q2.map (·.2)) a w) q.length listed a w
  | [],k,listed,a,w,_,inv,hB,hS,h=>by
    exact o5
  | (i,true) :: q,k,listed,a,w,hi,inv,hB,hS,h=>by
    simp only [List.all_cons,Bool.and_eq_true,decide_eq_true_eq,Bool.not_eq_true'] at hi
    have H:i < l.toArray.size:=Nat.lt_trans hi.1.1 hn
    have h0:l.toArray[i]?=some l.toArray[i]:=Array.getElem?_eq_getElem H
    have hp:jD l ((i,true) :: q)=l.toArray[i] :: jD l q:=by
      exact mD
    rw [hp] at h
    obtain ⟨v,hy,h⟩:=h
    simp only [kDb,Bool.and_eq_true] at hB
    have hr:i∈Region.ready .any l.toArray listed:=vO
    have af:q.all (fun x=>decide (x.1 < n) && !E.contains x.1)=true:=dP
    exact kRq h0 (Region.noSelect_spec D) (fun c a w=>hQ c a _ _ w) hs hc hn hi.1.1 hi.1.2 (fun F a' w' J j I=>by simpa using List.all_eq_true.1 J.1 j I) q.length listed a w inv (Region.free_spec h0 hB.1.2) hr hy hS
      (kFo D hQ hs hc hn q (k + 1) _ _ _ af (inv.set hr hi.1.1) hB.2 hS h)
  | (i,false) :: q,k,listed,a,w,hi,inv,hB,hS,h=>by
    simp only [List.all_cons,Bool.and_eq_true,decide_eq_true_eq,Bool.not_eq_true'] at hi
    have af:q.all (fun x=>decide (x.1 < n) && !E.contains x.1)=true:=dP
    have H:i < l.toArray.size:=Nat.lt_trans hi.1.1 hn
    have h0:l.toArray[i]?=some l.toArray[i]:=Array.getElem?_eq_getElem H
    have hp:jD l ((i,false) :: q)=l.toArray[i] :: jD l q:=by
      exact mD
    rw [hp] at h
    simp only [kDb,Bool.and_eq_true,beq_iff_eq] at hB
    have hr:i∈Region.ready .any l.toArray listed:=bA2
    refine ⟨by rw [hB.1];simp,fun j I=>?_⟩
    rw [hB.1] at I
    obtain rfl:j=i:=bA6
    refine ⟨hi.1.1,?_⟩
    refine wpOp_mono (fun a' w' G=>⟨G.1,kFo D hQ hs hc hn q (k + 1) _ _ _ af (inv.set hr hi.1.1) hB.2 G.1 G.2⟩) (K:=fun a' w'=>S w'∧kJz P l.toArray S S2 Q (jD l q2) (q2.map (·.2)) (k + 1) (jD l q) (q.map (·.2)) a' w') ?_
    unfold wpOp
    simp only [h0]
    exact h
theorem kHo {id:Nat} {a:Act} {w:World} {l:List Oper} (S S2:World→Prop) (E:List Nat) (q q2:List (Nat × Bool)) (hm:P.follows .mixedOrders=true) (hB:soft2OkC .any l.toArray E q q2=true)
    (hQ:∀ c a d v w,Q (.panic c) (Act.put a d v) w→Q (.panic c) a w) (hS:S { w with drawn:=w.drawn + 1 })
    (h:∀ w',S w'→pre P l.toArray (fun a'=>kHt P l.toArray S S2 Q (jD l q2) (q2.map (·.2)) 0 (jD l q) (q.map (·.2)) a' w') (kAv l E) a):(Code.region id l.toArray true).wp P Q a w:=by
 simp only [soft2OkC,Bool.and_eq_true,decide_eq_true_eq] at hB
 have h:=h _ hS
 unfold pre at h
 unfold kHt at h
 have D:HeadInv .any l.toArray (E.length + q.length) (Array.replicate l.toArray.size false) :=
   ⟨by simp,fun j N _ hl=>pF,fun t _ ht=>getD_in bA0 (getD_replicate_false _ _)⟩
 refine wp_region_any hm ?_
 obtain ⟨b1,b2,O,L,V,X,U,R,W,I⟩:=hB
 have F:q.all (fun x=>decide (x.1 < E.length + q.length) && !E.contains x.1)=true:=fA
 have key:=kOo (f:=q.length + q2.length) b1 hQ b2 E (Array.replicate l.toArray.size false) a bA8 D U (kOx (fun a' hk=>by
   intro G
   have H:=kFo (S2:=S2) b1 hQ V X b2 q 0 _ a' _ F G I hS hk
   exact kCb (Q:=Q) (g:=q2.length) (fun listed a' w' J=>by
     obtain ⟨_,hb,c7,k,hw⟩:=J
     exact wpAny_of_held (S:=S2) _ _ _ _ (kDy b1 hQ q2 k _ listed a' w' R nL hb c7 hw)) _ _ _ _ H) _ _ h)
 rw [show E.length + (q.length + q2.length)=l.toArray.size by omega] at key
 exact key
end
end Go.Proofs.YtonmjkmaadgceaaGreat
