/-
  Content stores as the reference draws them.
-/
import Derived.Test.YtonmjkmaadgceaaGreatDrawY
import Derived.Test.YtonmjkmaadgceaaGreatDrawK
import Derived.Test.YtonmjkmaadgceaaGreatCacheD
import Derived.Test.YtonmjkmaadgceaaGreatDrawD
set_option linter.unusedVariables false
set_option linter.unusedSimpArgs false
set_option linter.unnecessarySimpa false
set_option maxRecDepth 100000
set_option maxHeartbeats 8000000
namespace Go.Proofs.YtonmjkmaadgceaaGreat
open Go.RowKit _root_.Go.Proofs.Tryz
theorem kIo {w:World} {cs:List Value} {x:kg} (h:kN.raw w cs x):∃ a c,cs=[.int .i64 x.1,.slice a x.2.length c]:=by
 obtain ⟨v0,rfl,bw,ba⟩:=jQ h
 obtain ⟨a0,c0,rfl,_⟩:=kE.sl ba
 exact ⟨_,_,rfl⟩
theorem kOe (y:jG) (t:Int) (c:Int) (l:List kr):∃ k,kAb y t (c,l)=(c,k)∧k.length≤l.length + 1:=by
 unfold kAb
 split
 · exact ⟨_,rfl,by omega⟩
 refine ⟨_,rfl,?_⟩
 have h1:=kOv c (kCf y.1 l);have h2:=kSu y.1 l
 simp only [List.length_append,List.length_cons,List.length_nil]
 show (kFx c (kCf y.1 l)).length + 1≤l.length + 1
 omega
theorem touchS_len (n:kQ) (t:Int) (c:Int) (l:List kr):∃ k,kMc n t (c,l)=(c,k)∧k.length=l.length:=by
 unfold kMc
 refine ⟨_,rfl,?_⟩
 simp only
 split <;> simp
def DrawnS (m:Nat) (w0 w:World) (p:Nat) (e:Ending) (w':World):Prop:=∃ a c kc l,e=.returned (.agg #[.int .i64 kc,.slice a l.length c])∧kN.own w' [.int .i64 kc,.slice a l.length c] (kc,l) (jR w.heap.size w'.heap.size)∧l.length≤m∧yK w0 w' p∧Touch (fun k=>k=p) w w'
theorem data_parts9 {w:World} {c0 c1 c2 c3 c4:Value} {x:jG} {S:Nat→Prop} (h:jA.own w [c0,c1,c2,c3,c4] x S):kM.rd w [c0] x.1:=by
 obtain ⟨a,d,A,T,he,h1,h2,hA,Y,hd⟩:=kE.kCe (r:=kM) h
 have l1:=kM.len h1.1
 match a,l1 with
 | [u],_=>simp only [List.singleton_append,List.cons.injEq] at he;obtain ⟨rfl,_⟩:=he;exact h1.rd
theorem kUg {w0 w:World} {p:Nat} (hc:yK w0 w p) :
    Calls prog 120 #[.pointer (some ⟨p,0,none⟩)] w fun e w'=>DrawnS 7 w0 w p e w':=by
 go_enter func120,ntmps120
 obtain ⟨b7,cj⟩:=hc.lt
 go_upto_region 1 with fail
 generalize F:World.alloc w _=w1
 obtain ⟨ak,R,bn⟩:=DL
 clear F
 obtain ⟨hc,H⟩:=q8
 clear ak
 go_wp2_with fail
 refine (kV (n:=5) hc bB8).mono ?_
 rintro e V ⟨x,ax,Z,b4,rfl,G,D⟩
 obtain ⟨bo,R,H⟩:=xE
 clear hc D
 have hc:=G
 clear G
 replace Z:=Z bB8
 clear b4
 go_wp2_with fail
 refine (kEn (c:=x) bB9).mono ?_
 rintro e w3 ⟨cs,rfl,hO,hb⟩
 have bp:=hb.size
 replace R:=kD R hb
 obtain ⟨hc,H⟩:=oP
 clear hb
 obtain ⟨ka,kp,rfl⟩:=kIo hO.raw
 simp only [newC,List.length_nil] at hO ⊢
 have f2:=kOd (c:=x) bB9
 generalize capC x=kc at *
 have L:=yD (hO)
 clear hO
 go_upto_region 2 with fail
 generalize F:World.alloc w3 _=w4
 have a3:Below w3.heap.size w3 w4:=rX
 have BK:w4.heap[w3.heap.size]?=some (.cells #[.int .i64 kc,.slice ka 0 kp] 27 (0,0)):=tX
 have b9:w3.heap.size + 1≤w4.heap.size:=bA3
 clear F
 replace R:=kD R a3
 replace L:=yD (L.out.below a3)
 replace hc:=hc.below a3
 replace H:=H.trans (Touch.of_below a3)
 clear a3
 obtain ⟨kb,b2⟩:∃ b_,b_=w3.heap.size:=⟨_,rfl⟩
 rw [← b2] at BK ⊢
 have av:=Nat.le_of_eq b2
 have aw:=Nat.le_of_eq b2.symm
 clear b2
 go_wp2_with fail
 refine (kV (n:=8) hc bB8).mono ?_
 rintro e w5 ⟨m,bq,ao,ck,rfl,G,D⟩
 have cd:=D.size
 replace R:=D.kD R bB9
 replace BK:=D.kD BK bB9
 obtain ⟨L,H⟩:=oZ
 clear hc D
 have hc:=G
 clear G
 replace ao:=ao bB8
 clear ck
 obtain ⟨m,rfl⟩:=Int.eq_ofNat_of_zero_le bq
 go_wp2
 go_loopw [4] (fun i wr=>∃ (j:Nat) (ka:Option Addr) (kp:Nat) (l:List kr),i=.int .i64 j∧j≤7∧Hid (l.length + j≤7)∧wr.heap[kb]?=some (.cells #[.int .i64 kc,.slice ka l.length kp] 27 (0,0))∧Hid (kN.own wr [.int .i64 kc,.slice ka l.length kp] (kc,l) (fun k=>w.heap.size < k∧k < wr.heap.size∧k≠kb))∧w5.heap.size≤wr.heap.size∧yK w0 wr p∧Touch (fun k=>k=p∨k=kb) w5 wr) (fun i _=>(intOf i).toNat)
 case atStart=>exact ⟨m,ka,kp,[],rfl,by omega,yD bB5,BK,yD (L.out.wide fV),Nat.le_refl _,hc,Touch.of_below bR⟩
 clear BK hc
 obtain ⟨j,ka,kp,l,rfl,I,HL,BK,L,dh,hc,X⟩:=hrel
 have fm:=X.size
 cases j with
 | zero =>
   have em:¬ (0:Int) < (0:Nat):=bB9
   replace R:=X.kD R bB9
   replace H:=H.jZ X wG
   obtain ⟨ac,au⟩:=jc R
   obtain ⟨N,U⟩:=jc BK
   obtain ⟨aq,ar⟩:=kAo R
   go_wp2
   refine bodyPost_ret (v:=.agg #[.int .i64 kc,.slice ka l.length kp]) (by simp [results,results120,go_sem,ac,au,aq,ar]) rfl ⟨ka,kp,kc,l,rfl,?_,by have:=HL.out;omega,hc.touch ((kC _ _ _ _).trans (kC _ _ _ _)) bB9 wB,H.jJ ((kC _ _ _ _).trans (kC _ _ _ _)) bB9⟩
   exact (L.out.touch (T:=fun k=>k=w.heap.size) ((kC _ _ _ _).trans (kC _ _ _ _)) sK).wide fF
 | succ j =>
   have dn:(0:Int) < (j:Int) + 1:=bB9
   go_wp2_with fail
   refine (kIp hc).mono ?_
   rintro e cf ⟨ds,x,rfl,hX,ci,G,D⟩
   have de:=D.size
   replace X:=X.jZ D mK
   replace BK:=D.kD BK bB9
   replace L:=yD (L.out.touch D nO)
   clear hc D
   have hc:=G
   clear G
   obtain ⟨bg,dc,ay,c6,bf,db,rfl⟩:=yN hX.raw
   have HX:=yD hX
   clear hX
   go_upto_region 6 with fail
   generalize F:World.alloc cf _=bu
   have hb:Below cf.heap.size cf bu:=rX
   have BX:bu.heap[cf.heap.size]?=some (.cells #[.slice bg x.1.length dc,.slice ay x.2.1.length c6,.slice bf x.2.2.1.length db,.int .i64 x.2.2.2.1,.int .i64 x.2.2.2.2] 43 (0,0)):=tX
   have dz:cf.heap.size + 1≤bu.heap.size:=bA3
   clear F
   have cq:=hb.size
   replace X:=X.trans (Touch.of_below hb)
   replace BK:=kD BK hb
   replace L:=yD (L.out.below hb)
   replace HX:=yD (HX.out.below hb)
   replace hc:=hc.below hb
   clear hb
   refine zT (fun W=>Touch (fun k=>k=p) bu W∧yK w0 W p) (fun _=>True) [] [(0,true),(1,true),(2,true),(3,false),(4,true),(5,false)] [(6,false)] bB4 bB4 qD (⟨Touch.of_below bR.drew,hc.below bR.drew⟩) ?_
   intro wS E
   simp only [jD,kAv,List.getElem?_cons_succ,List.getElem?_cons_zero,List.map_cons,List.map_nil]
   refine pre_nil ?_
   iterate 2
    refine jX (v:=?_) rfl (fun W hW=>?_) ?_;rotate_left;(· have cg:=kF (hW.1.kD BK bB9) (j:=0) (v:=.int .i64 kc) rfl;have c9:=kF (hW.1.kD BK bB9) (j:=1) (v:=.slice ka l.length kp) rfl;have di:=kF (hW.1.kD BX bB9) (j:=0) (v:=.slice bg x.1.length dc) rfl;have df:=kF (hW.1.kD BX bB9) (j:=1) (v:=.slice ay x.2.1.length c6) rfl;have dd:=kF (hW.1.kD BX bB9) (j:=2) (v:=.slice bf x.2.2.1.length db) rfl;have dk:=kF (hW.1.kD BX bB9) (j:=3) (v:=.int .i64 x.2.2.2.1) rfl;have dr:=kF (hW.1.kD BX bB9) (j:=4) (v:=.int .i64 x.2.2.2.2) rfl;clear hW;go_simp;try with_reducible rfl)
    refine kX ?_
   refine jX (v:=?_) rfl (fun W hW=>?_) ?_;rotate_left;(· go_simp;try with_reducible rfl)
   refine kX ?_
   refine yu rfl (fun K J=>?_);go_simp;refine (kV (n:=20) E.2 bB8).mono ?_;rintro e wS1 ⟨y,b6,a4,a6,rfl,be,a9⟩;replace a4:=a4 bB8;clear a6;replace E:=And.intro (E.1.trans a9) be;clear be a9;have hw:IntKind.i64.wrap (40 + y)=40 + y:=IntWalk.i64_in _ bB9;refine J _ _ E ?_;clear J K
   refine kX ?_
   refine jX (v:=?_) rfl (fun W hW=>?_) ?_;rotate_left;(· go_simp;try with_reducible rfl)
   refine kX ?_
   refine yu rfl (fun K J=>?_);go_simp;refine (kJf (cx:=[.int .i64 kc,.slice ka l.length kp]) (x:=(kc,l)) (L.out.touch E.1 nO).rd (cy:=[.slice bg x.1.length dc,.slice ay x.2.1.length c6,.slice bf x.2.2.1.length db,.int .i64 x.2.2.2.1,.int .i64 x.2.2.2.2]) (HX.out.touch E.1 nO).rd (t:=40 + y) bB9 (by have:=HL.out;show l.length≤_;omega)).mono ?_;rintro e O ⟨cs,rfl,hO,af⟩;have d1:=E.1.size;have b8:=af.size;replace E:=And.intro (E.1.trans (Touch.of_below af)) (E.2.below af);obtain ⟨l2,bc,ej⟩:=kOe x (40 + y) kc l;rw [bc] at hO;obtain ⟨na,np,rfl⟩:=kIo hO.raw;clear bc;have HN:=yD hO;refine J _ _ E ?_;clear J K af hO
   refine kX ?_
   obtain ⟨fh,RS,ac,aq⟩:=DW
   have au:O.cell? ⟨kb,1,none⟩=some (.slice ka l.length kp):=kF RS rfl
   have ar:O.frozen? ⟨kb,1,none⟩=false:=frozen_of_row O (kb) 1 _ _ RS
   refine zl trivial ?_
   refine ko rfl (fun K J=>?_);go_simp;refine J _ _ trivial ?_;clear J K
   refine kX ?_
   refine kZ ?_
   replace X:=X.jZ E.1 mK
   replace BX:=E.1.kD BX bB9
   replace L:=yD (L.out.touch E.1 nO)
   replace HX:=yD (HX.out.touch E.1 nO)
   replace hc:=E.2
   clear E BK
   have BK:=RS
   clear RS ac aq au ar
   clear L HX BX
   generalize F:World.setCell (World.setCell O _ _) _ _=dw
   have Y:Touch (fun k=>k=kb) O dw:=mO
   replace BK:dw.heap[kb]?=some (.cells #[.int .i64 kc,.slice na l2.length np] 27 (0,0)):=by rw [← F];exact kH (kH (BK) 0) 1
   have d8:=Y.size
   clear F
   replace HN:=yD (HN.out.touch Y nO)
   obtain ⟨hc,X⟩:=uU
   clear Y
   have aa:=yD (show l2.length + j≤7 by have:=HL.out;omega)
   clear HL ej
   go_wp2_with fail
   refine (zk (n:=3) hc bB8).mono ?_
   rintro e aj ⟨b,rfl,G,D⟩
   have al:=D.size
   replace X:=X.jZ D mK
   replace BK:=D.kD BK bB9
   replace HN:=yD (HN.out.touch D nO)
   clear hc D
   have hc:=G
   clear G
   cases b
   · go_wp2
     go_roundw
     case rel=>exact ⟨j,na,np,l2,by go_num,by omega,aa,BK,yD (HN.out.wide fU),by omega,hc,X⟩
     case measure=>simp [intOf]
   · go_upto_region 8 with fail
     refine zT (fun W=>Touch (fun k=>k=p) aj W∧yK w0 W p) (fun _=>True) [] [(0,true),(1,true),(2,false),(3,true),(4,false)] [(5,false)] bB4 bB4 qD (⟨Touch.of_below bR.drew,hc.below bR.drew⟩) ?_
     intro wS E
     simp only [jD,kAv,List.getElem?_cons_succ,List.getElem?_cons_zero,List.map_cons,List.map_nil]
     refine pre_nil ?_
     refine jX (v:=?_) rfl (fun W hW=>?_) ?_;rotate_left;(· have cg:=kF (hW.1.kD BK bB9) (j:=0) (v:=.int .i64 kc) rfl;have c9:=kF (hW.1.kD BK bB9) (j:=1) (v:=.slice na l2.length np) rfl;clear hW;go_simp;try with_reducible rfl)
     refine kX ?_
     refine jX (v:=?_) rfl (fun W hW=>?_) ?_;rotate_left;(· go_simp;try with_reducible rfl)
     refine kX ?_
     refine yu rfl (fun K J=>?_);go_simp;refine (kIp E.2).mono ?_;rintro e wS1 ⟨ds,v,rfl,hV,d2,be,a9⟩;obtain ⟨ab,ae,am,an,a7,b3,rfl⟩:=yN hV.raw;have HV:=yD hV;have a8:=E.1.size;have az:=a9.size;replace E:=And.intro (E.1.trans a9) be;have gw:∀ W:World,Sem.run prog (Instr.field 43 (.agg #[.slice ab v.1.length ae,.slice am v.2.1.length an,.slice a7 v.2.2.1.length b3,.int .i64 v.2.2.2.1,.int .i64 v.2.2.2.2]) 0) W=.ok (.agg #[.slice ab v.1.length ae]) W:=fun W=>bB4;refine J _ _ E ?_;clear J K be a9 hV
     refine kX ?_
     refine jX (v:=.agg #[.slice ab v.1.length ae]) rfl (fun W hW=>?_) ?_;(· go_simp;(try simp only [gw]);try rfl)
     refine kX ?_
     refine yu rfl (fun K J=>?_);go_simp;refine (specTouch_c (cx:=[.int .i64 kc,.slice na l2.length np]) (x:=(kc,l2)) (HN.out.touch E.1 nO).rd (cn:=[.slice ab v.1.length ae]) (n:=v.1) (data_parts9 HV.out) (t:=60) bB9).mono ?_;rintro e O ⟨cs,rfl,hO,af⟩;have d1:=E.1.size;have b8:=af.size;replace E:=And.intro (E.1.trans (Touch.of_below af)) (E.2.below af);obtain ⟨l3,fe,ag⟩:=touchS_len v.1 60 kc l2;rw [fe] at hO;obtain ⟨ma,mp,rfl⟩:=kIo hO.raw;have ai:=yD ag;clear fe ag;have HM:=yD hO;refine J _ _ E ?_;clear J K af hO
     refine kX ?_
     obtain ⟨fh,RS,ac,aq⟩:=DW
     have au:O.cell? ⟨kb,1,none⟩=some (.slice na l2.length np):=kF RS rfl
     have ar:O.frozen? ⟨kb,1,none⟩=false:=frozen_of_row O (kb) 1 _ _ RS
     refine zl trivial ?_
     refine ko rfl (fun K J=>?_);go_simp;refine J _ _ trivial ?_;clear J K
     refine kX ?_
     refine kZ ?_
     replace X:=X.jZ E.1 mK
     replace HN:=yD (HN.out.touch E.1 nO)
     replace hc:=E.2
     clear E BK
     have BK:=RS
     clear RS ac aq au ar
     clear HN
     generalize F:World.setCell (World.setCell O _ _) _ _=ah
     have Y:Touch (fun k=>k=kb) O ah:=mO
     replace BK:ah.heap[kb]?=some (.cells #[.int .i64 kc,.slice ma l3.length mp] 27 (0,0)):=by rw [← F];exact kH (kH (BK) 0) 1
     have ap:=Y.size
     clear F
     replace HM:=yD (HM.out.touch Y nO)
     obtain ⟨hc,X⟩:=uU
     clear Y
     go_wp2
     go_roundw
     case rel=>exact ⟨j,ma,mp,l3,by go_num,by omega,yD (by have:=aa.out;have:=ai.out;omega),BK,yD (HM.out.wide fU),by omega,hc,X⟩
     case measure=>simp [intOf]
theorem entry_own {w:World} {c0 c1 c2 c3 c4:Value} {x:jG} {u:Int} {S:Nat→Prop} (h:jA.own w [c0,c1,c2,c3,c4] x S) (hu:-9223372036854775808≤u∧u≤9223372036854775807):kw.own w [c0,c1,c2,c3,c4,.int .i64 u] (x,u) S :=
  kE.jw (r:=jA) (q:=.int) (cs:=[c0,c1,c2,c3,c4]) (ds:=[.int .i64 u]) h (kE.ky hu)
theorem kHp {w:World} {v:Value} {c:Int} {l:List kr} {S:Nat→Prop} (h:(kE.slice 98 kw).jY w [v] l S) (hc:-9223372036854775808≤c∧c≤9223372036854775807):kN.jY w [.int .i64 c,v] (c,l) S :=
  kE.kAi (r:=.int) (q:=(kE.slice 98 kw)) (z:=(c,l)) (kE.flat.jY (kE.ky hc)) h
theorem store_int {w:World} {c:Int} {v:Value} {l:List kr} {x:Int} {S:Nat→Prop} (h:kN.own w [.int .i64 x,v] (c,l) S):-9223372036854775808≤c∧c≤9223372036854775807:=by
 obtain ⟨a,d,A,B,he,h1,h2,hA,hB,hd⟩:=kE.kCe h
 exact (kE.yz h1.raw).2
def DrawnSR (m:Nat) (w0 w:World) (p:Nat) (e:Ending) (w':World):Prop:=∃ a c kc l,e=.returned (.agg #[.int .i64 kc,.slice a l.length c])∧kN.jY w' [.int .i64 kc,.slice a l.length c] (kc,l) (jR w.heap.size w'.heap.size)∧l.length≤m∧yK w0 w' p∧Touch (fun k=>k=p) w w'
theorem entry_form {w:World} {cs:List Value} {y:kr} (h:kw.raw w cs y):∃ a0 c0 a1 c1 a2 c2,cs=[.slice a0 y.1.1.length c0,.slice a1 y.1.2.1.length c1,.slice a2 y.1.2.2.1.length c2,.int .i64 y.1.2.2.2.1,.int .i64 y.1.2.2.2.2,.int .i64 y.2]:=by
 obtain ⟨v0,v1,v2,rfl,bw,_⟩:=jv h
 obtain ⟨a0,c0,a1,c1,a2,c2,e⟩:=yN bw
 simp only [List.cons.injEq,and_true] at e
 obtain ⟨rfl,rfl,rfl⟩:=e
 exact ⟨_,_,_,_,_,_,rfl⟩
theorem kWm {w0 w:World} {p:Nat} (hc:yK w0 w p) :
    Calls prog 80 #[.pointer (some ⟨p,0,none⟩)] w fun e w'=>DrawnSR 8 w0 w p e w':=by
 go_enter func80,ntmps80
 obtain ⟨b7,cj⟩:=hc.lt
 go_upto_region 1 with fail
 generalize F:World.alloc w _=w1
 obtain ⟨ak,R,bn⟩:=DL
 clear F
 obtain ⟨hc,H⟩:=q8
 clear ak
 go_wp2_with fail
 refine (kUg hc).mono ?_
 rintro e V ⟨ka,kp,kc,l,rfl,hO,aj,G,D⟩
 obtain ⟨bo,R,H⟩:=xE
 clear hc D
 have hc:=G
 clear G
 have f2:=store_int hO
 have L:=yD (kUw hO)
 clear hO
 go_upto_region 2 with fail
 generalize F:World.alloc V _=w3
 have ap:Below V.heap.size V w3:=rX
 have BK:w3.heap[V.heap.size]?=some (.cells #[.int .i64 kc,.slice ka l.length kp] 27 (0,0)):=tX
 have bp:V.heap.size + 1≤w3.heap.size:=bA3
 clear F
 obtain ⟨R,L,hc,H⟩:=x8
 clear ap
 go_wp2_with fail
 refine (kV (n:=10) hc bB8).mono ?_
 rintro e w4 ⟨m,bq,ao,ck,rfl,G,D⟩
 have b9:=D.size
 replace R:=D.kD R bB9
 replace BK:=D.kD BK bB9
 obtain ⟨L,H⟩:=oZ
 clear hc D
 have hc:=G
 clear G
 replace ao:=ao bB8
 clear ck
 obtain ⟨m,rfl⟩:=Int.eq_ofNat_of_zero_le bq
 by_cases az:m=0
 · subst az
   go_wp2_with fail
   refine (kBh (hc.below (bR.alloc nL _)) (kE.kGs _ [-1,0,8,9] bB8 bB8) bB9 bB8 bB8).mono ?_
   rintro e w5 ⟨y,al,a8,rfl,G,D⟩
   obtain ⟨D,cd⟩:=xQ
   replace R:=D.kD R bB9
   replace BK:=D.kD BK bB9
   obtain ⟨L,H⟩:=oZ
   clear hc D
   have hc:=G
   clear G
   have fk:=kE.kGq (lo:=-1) (hi:=9) bB8 al
   clear al a8
   obtain ⟨N,U⟩:=jc BK
   obtain ⟨ah,X⟩:=kAo BK
   go_upto_region 10 with fail
   generalize F:World.setCell w5 _ _=w6
   have O:Touch (fun k=>k=V.heap.size) w5 w6:=pV
   replace BK:w6.heap[V.heap.size]?=some (.cells #[.int .i64 y,.slice ka l.length kp] 27 (0,0)):=by rw [← F];exact kH BK 0
   have c8:=O.size
   clear F N U ah X
   replace R:=O.kD R bB9
   replace L:=yD (L.out.touch O qB)
   replace hc:=hc.touch O bB9 wB
   replace H:=H.jJ O bB9
   clear O
   obtain ⟨ac,au⟩:=jc R
   obtain ⟨N,U⟩:=jc BK
   obtain ⟨aq,ar⟩:=kAo R
   go_wp2
   refine bodyPost_ret (v:=.agg #[.int .i64 y,.slice ka l.length kp]) mE rfl ⟨ka,kp,y,l,rfl,?_,by omega,hc.touch ((kC _ _ _ _).trans (kC _ _ _ _)) bB9 wB,H.jJ ((kC _ _ _ _).trans (kC _ _ _ _)) bB9⟩
   exact ((kHp (L.out.jY.wide (T:=fun k=>w.heap.size < k∧k < w6.heap.size∧k≠V.heap.size) fV) bB9).touch (T:=fun k=>k=w.heap.size) ((kC _ _ _ _).trans (kC _ _ _ _)) sK).wide fF
 have bm:¬ (m:Int)=0:=bB9
 by_cases bj:m=1
 · subst bj
   go_upto_region 6 with fail
   refine zT (fun W=>Touch (fun k=>k=p) w4 W∧yK w0 W p) (fun _=>True) [] [(0,true),(1,true),(2,true),(3,false),(4,true),(5,false)] [(6,false),(7,true),(8,false)] bB4 bB4 qD (⟨Touch.of_below bR.drew,hc.below bR.drew⟩) ?_
   intro wS E
   simp only [jD,kAv,List.getElem?_cons_succ,List.getElem?_cons_zero,List.map_cons,List.map_nil]
   refine pre_nil ?_
   refine jX (v:=?_) rfl (fun W hW=>?_) ?_;rotate_left;(· go_simp;try with_reducible rfl)
   refine kX ?_
   refine jX (v:=?_) rfl (fun W hW=>?_) ?_;rotate_left;(· have cg:=kF (hW.1.kD BK bB9) (j:=0) (v:=.int .i64 kc) rfl;have c9:=kF (hW.1.kD BK bB9) (j:=1) (v:=.slice ka l.length kp) rfl;clear hW;go_simp;try with_reducible rfl)
   refine kX ?_
   refine jX (v:=?_) rfl (fun W hW=>?_) ?_;rotate_left;(· go_simp;try with_reducible rfl)
   refine kX ?_
   refine yu rfl (fun K J=>?_);go_simp;refine (kQf E.2).mono ?_;rintro e wS1 ⟨ds,x,rfl,hX,ci,be,a9⟩;obtain ⟨bg,dc,ay,c6,bf,db,rfl⟩:=yN hX.raw;have HX:=yD hX;have fd:=E.1.size;replace E:=And.intro (E.1.trans a9) be;refine J _ _ E ?_;clear J K be a9 hX
   refine kX ?_
   refine jX (v:=?_) rfl (fun W hW=>?_) ?_;rotate_left;(· go_simp;try with_reducible rfl)
   refine kX ?_
   refine yu rfl (fun K J=>?_);go_simp;have aa:Touch (fun k=>k=p) w4 (World.alloc wS1 (.cells #[.slice bg x.1.length dc,.slice ay x.2.1.length c6,.slice bf x.2.2.1.length db,.int .i64 x.2.2.2.1,.int .i64 x.2.2.2.2,.int .i64 0] 98))∧yK w0 (World.alloc wS1 (.cells #[.slice bg x.1.length dc,.slice ay x.2.1.length c6,.slice bf x.2.2.1.length db,.int .i64 x.2.2.2.1,.int .i64 x.2.2.2.2,.int .i64 0] 98)) p:=⟨E.1.trans (Touch.of_below (bR.alloc nL _)),E.2.below (bR.alloc nL _)⟩;refine J _ _ aa ?_;clear J K aa
   refine kX ?_
   have zS:=E.1.size
   have R5:=E.1.kD R bB9
   have B5:=E.1.kD BK bB9
   have Y:=H.trans E.1
   have bc:=E.2
   have aw:=L.out.touch E.1 qB
   clear R BK H hc L
   obtain ⟨v3,u3,ba,af,an⟩:=kE.kFu (P:=prog) (t:=25) (ty:=25) (r:=kw) (e:=98) (c:=1) underlying25 yL rfl bB8 bB8 aw bR (entry_own HX.out (u:=0) bB9) nY bB9
   have z3:=an.size
   have ab:Touch (fun k=>w.heap.size < k∧k < V.heap.size∧k≠p) wS1 u3:=an.wide fE
   have b8:(l++[(x,(0:Int))]).length≤8:=bB5
   generalize l++[(x,(0:Int))]=q at *
   obtain ⟨a3,c3,rfl,_⟩:=kE.sl af.raw
   have R:=ab.kD R5 bB9
   have BK:=ab.kD B5 bB9
   have H:=Y.kBj ab sM
   have hc:=bc.touch ab bB1 sM
   obtain ⟨a6,bh⟩:=jc BK
   obtain ⟨bi,bl⟩:=kAo BK
   clear R5 B5 Y bc aw an ab E
   refine zl trivial ?_
   refine ko rfl (fun K J=>?_);refine kE.jP _ _ _ rfl bC1 bC1 ba ?_;refine J _ _ trivial ?_;clear J K
   refine kX ?_
   refine kS ?_
   refine ko rfl (fun K J=>?_);go_simp;refine J _ _ trivial ?_;clear J K
   refine kX ?_
   refine kZ ?_
   generalize F:World.setCell u3 _ _=wQ
   obtain ⟨O,BQ,b6⟩:=CZ
   clear F a6 bh bi bl BK
   have BK:=BQ
   clear BQ
   replace R:=O.kD R bB9
   replace hc:=hc.touch O bB9 wB
   replace H:=H.jJ O bB9
   have HQ:=yD ((af.jY.touch O (fun k q h=>by rcases q with q | q | q;(have:=q.2;omega);(have:=q.1;omega);(have:=q.1;omega))).wide (T:=fun k=>w.heap.size < k∧k < wQ.heap.size∧k≠V.heap.size) (fun k q=>by rcases q with q | q | q;exact ⟨by have:=q.1;omega,by have:=q.2;omega,by have:=q.2;omega⟩;exact ⟨by have:=q.1;omega,by have:=q.2;omega,by have:=q.1;omega⟩;exact ⟨by have:=q.1;omega,by have:=q.2;omega,by have:=q.1;omega⟩))
   exact bE
 have bv:¬ (m:Int)=1:=bB9
 by_cases a7:m=2
 · subst a7
   by_cases da:0 < l.length
   · have de:(0:Int) < l.length:=bB9
     obtain ⟨_,bb,off,rfl,_,bk⟩:=kE.kHv L.out da
     obtain ⟨ce,B_,Z,hB,dg,ae,_,_⟩:=kE.own_get L.out (i:=0) da
     obtain ⟨bg,dc,ay,c6,bf,db,rfl⟩:=entry_form Z.raw
     have A0:=ae 0 _ rfl
     have A1:=ae 1 _ rfl
     have A2:=ae 2 _ rfl
     have A3:=ae 3 _ rfl
     have A4:=ae 4 _ rfl
     have A5:=ae 5 _ rfl
     simp only [Nat.zero_mul,Nat.add_zero] at A0 A1 A2 A3 A4 A5
     have HE:=yD Z
     have ai:w1.heap.size≤bb:=dg.1
     clear ae Z
     generalize am:l[0]=y at *
     clear am
     obtain ⟨N,U⟩:=jc BK
     go_upto_region 9 with fail
     clear N U
     refine zT (fun W=>Touch (fun k=>k=p) w4 W∧yK w0 W p) (fun _=>True) [] [(0,true),(1,true),(2,true),(3,true),(4,true),(5,true),(6,false)] [(7,false),(8,true),(9,false)] bB4 bB4 qD (⟨Touch.of_below bR.drew,hc.below bR.drew⟩) ?_
     intro wS E
     simp only [jD,kAv,List.getElem?_cons_succ,List.getElem?_cons_zero,List.map_cons,List.map_nil]
     refine pre_nil ?_
     iterate 3
      refine jX (v:=?_) rfl (fun W hW=>?_) ?_;rotate_left;(· go_simp;try with_reducible rfl)
      refine kX ?_
      refine jX (v:=?_) rfl (fun W hW=>?_) ?_;rotate_left;(· have cg:=kF (hW.1.kD BK bB9) (j:=0) (v:=.int .i64 kc) rfl;have c9:=kF (hW.1.kD BK bB9) (j:=1) (v:=.slice (some ⟨bb,off,none⟩) l.length kp) rfl;have di:=hW.1.kJl A0 bB9;have df:=hW.1.kJl A1 bB9;have dd:=hW.1.kJl A2 bB9;have dk:=hW.1.kJl A3 bB9;have dr:=hW.1.kJl A4 bB9;have dw:=hW.1.kJl A5 bB9;clear hW;go_simp;try with_reducible rfl)
      refine kX ?_
     refine yu rfl (fun K J=>?_);go_simp;have aa:Touch (fun k=>k=p) w4 (World.alloc wS (.cells #[.slice bg y.1.1.length dc,.slice ay y.1.2.1.length c6,.slice bf y.1.2.2.1.length db,.int .i64 y.1.2.2.2.1,.int .i64 y.1.2.2.2.2,.int .i64 y.2] 98))∧yK w0 (World.alloc wS (.cells #[.slice bg y.1.1.length dc,.slice ay y.1.2.1.length c6,.slice bf y.1.2.2.1.length db,.int .i64 y.1.2.2.2.1,.int .i64 y.1.2.2.2.2,.int .i64 y.2] 98)) p:=⟨E.1.trans (Touch.of_below (bR.alloc nL _)),E.2.below (bR.alloc nL _)⟩;refine J _ _ aa ?_;clear J K aa
     refine kX ?_
     have ag:=yD E.1
     have zS:=E.1.size
     have R5:=E.1.kD R bB9
     have B5:=E.1.kD BK bB9
     have Y:=H.trans E.1
     have bc:=E.2
     have aw:=L.out.touch E.1 qB
     clear R BK H hc L
     obtain ⟨v3,u3,ba,af,an⟩:=kE.kSp (P:=prog) (t:=25) (ty:=25) (r:=kw) (e:=98) (c:=1) underlying25 yL rfl bB8 bB8 aw bR (HE.out.touch ag.out (fun k q=>by have h1:=(hB k q).1;have h2:=h1.1;have h3:=h1.2;omega)).jY (fun b_ o_ q_ h_=>by simp only [Option.some.injEq,Addr.mk.injEq,and_true] at q_;have:=(hB _ h_).2;omega) da bB9
     have z3:=an.size
     have ab:Touch (fun k=>w.heap.size < k∧k < V.heap.size∧k≠p) wS u3:=an.wide fE
     have b8:(l++[y]).length≤8:=bB5
     generalize l++[y]=q at *
     obtain ⟨a3,c3,rfl,_⟩:=kE.sl af.rd.1
     have R:=ab.kD R5 bB9
     have BK:=ab.kD B5 bB9
     have H:=Y.kBj ab sM
     have hc:=bc.touch ab bB1 sM
     obtain ⟨a6,bh⟩:=jc BK
     obtain ⟨bi,bl⟩:=kAo BK
     clear R5 B5 Y bc aw an ab E
     refine zl trivial ?_
     refine ko rfl (fun K J=>?_);refine kE.jP _ _ _ rfl bC1 bC1 ba ?_;refine J _ _ trivial ?_;clear J K
     refine kX ?_
     refine kS ?_
     refine ko rfl (fun K J=>?_);go_simp;refine J _ _ trivial ?_;clear J K
     refine kX ?_
     refine kZ ?_
     generalize F:World.setCell u3 _ _=wQ
     obtain ⟨O,BQ,b6⟩:=CZ
     clear F a6 bh bi bl BK
     have BK:=BQ
     clear BQ
     replace R:=O.kD R bB9
     replace hc:=hc.touch O bB9 wB
     replace H:=H.jJ O bB9
     have HQ:=yD ((af.touch O (fun k q h=>by rcases q with q | q | q;(have:=q.2;omega);(have h1:=(hB k q).1;have h2:=h1.2;omega);(have:=q.1;omega))).wide (T:=fun k=>w.heap.size < k∧k < wQ.heap.size∧k≠V.heap.size) (fun k q=>by rcases q with q | q | q;exact ⟨by have:=q.1;omega,by have:=q.2;omega,by have:=q.2;omega⟩;exact ⟨by have:=(hB k q).1.1;omega,by have:=(hB k q).1.2;omega,by have:=(hB k q).1.2;omega⟩;exact ⟨by have:=q.1;omega,by have:=q.2;omega,by have:=q.1;omega⟩))
     exact bE
   have de:¬ (0:Int) < l.length:=bB9
   obtain ⟨N,U⟩:=jc BK
   go_upto_region 10 with fail
   clear N U
   exact bV
 have cc:¬ (m:Int)=2:=bB9
 go_upto_region 10 with fail
 exact bV
end Go.Proofs.YtonmjkmaadgceaaGreat
