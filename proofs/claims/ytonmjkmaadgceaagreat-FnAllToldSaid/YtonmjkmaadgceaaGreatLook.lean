/-
  Data found by their names: in a list, in a content store.
-/
import Derived.Test.YtonmjkmaadgceaaGreatPMt
set_option linter.unusedVariables false
set_option linter.unusedSimpArgs false
set_option linter.unnecessarySimpa false
set_option maxRecDepth 100000
set_option maxHeartbeats 4000000
namespace Go.Proofs.YtonmjkmaadgceaaGreat
open Go.RowKit _root_.Go.Proofs.Tryz
def eqS (s t:ByteArray):Bool:=t.toList==s.toList
def hasS (p:List ByteArray) (s:ByteArray):Bool:=decide (0≤idxOf (eqS s) p)
def kCu (r:kCt) (s:ByteArray):Bool:=isLet s && !hasS r.1 s
def kJd (r:kCt):Bool:=(kDi r.1 && kDi r.2) && yX (fun j=>!kCu r (r.2.getD j ByteArray.empty)) r.2.length
def allows (n m:kQ) (r:kCt):Bool:=(kJd r && kFj r.1 n []) && kFj r.2 m (ptB r.1 n [])
def firstA (l:List kCt) (n m:kQ):Int:=idxOf (allows n m) l
def kBq (l:List kCt) (n m:kQ):Bool:=decide (firstA l n m ≥ 0)
theorem eqS_comm (s t:ByteArray):eqS s t=(s.toList==t.toList):=by unfold eqS;rw [Bool.eq_iff_iff];simp only [beq_iff_eq];exact ⟨Eq.symm,Eq.symm⟩
section
variable {r:kCt} {k:Nat}
theorem kKq (h:(kDi r.1 && kDi r.2)=false):kJd r=false:=by unfold kJd;rw [h];rfl
theorem kUo (h:k < r.2.length) (q:kCu r r.2[k]=true):kJd r=false:=by
 unfold kJd;rw [kCj h rD];simp
theorem kRv (h:k < r.2.length) (q:kCu r r.2[k]=false) (a:yX (fun j=>!kCu r (r.2.getD j ByteArray.empty)) k=true):yX (fun j=>!kCu r (r.2.getD j ByteArray.empty)) (k + 1)=true :=
  kAq a rD
theorem kRw (v:(kDi r.1 && kDi r.2)=true) (q:yX (fun j=>!kCu r (r.2.getD j ByteArray.empty)) k=true) (h:¬ k < r.2.length) (hk:k≤r.2.length):kJd r=true:=by
 obtain rfl:k=r.2.length:=bB9
 unfold kJd;rw [q,v];rfl
end
theorem kWn {w:World} {cl:List Value} {l:zQ} (hl:yw.raw w cl l) {s:ByteArray} :
    Calls prog 191 #[.agg cl.toArray,.string s] w (bQ w (.bool (hasS l s))):=by
 obtain ⟨pv,rfl,a5⟩:=kCr hl
 obtain ⟨al,pl,rfl,ll⟩:=kE.sl a5
 have HL:=yD a5
 clear a5 hl
 go_enter func191,ntmps191
 go_wp2
 generalize H:World.alloc w _=N
 have Z:Below w.heap.size w N:=by rw [← H];exact bI
 have K0:N.cell? ⟨w.heap.size,0,none⟩=some (.slice al l.length pl):=tN
 clear H
 go_loopw [5] (fun i wr=>∃ k:Nat,k≤l.length∧i=.int .i64 k∧Hid (∀ j,(h:j < k)→(h2:j < l.length)→eqS s l[j]=false)∧Below N.heap.size N wr) (fun i _=>l.length - (intOf i).toNat)
 case atStart=>exact ⟨0,Nat.zero_le _,rfl,yD (fun _ h=>by omega),bR⟩
 obtain ⟨k,hk,rfl,HN,D⟩:=hrel
 have G:=(tQ Z D)
 replace K0:=cL D K0
 by_cases hlt:k < l.length
 · obtain ⟨qb,qo,rfl,ah,qr,a1⟩:=kE.kBo (HL.out.below G) hlt rfl
   obtain ⟨he,b0⟩:=kE.yY qr
   obtain rfl:ah=_:=by simpa using he
   have J:=fun q=>idxOf_hit (p:=eqS s) hlt q HN.out
   have I:=fun q=>kAm (p:=eqS s) hlt q HN.out
   generalize l[k]=x at *
   have HD:=yD J;have HX:=yD I;clear J I he qr
   cases hv:eqS s x
   · have U:=yD (HX.out hv)
     have b5:(x.toList==s.toList)=false:=hv
     exact lQ
   have U:=yD (HD.out hv)
   have b5:(x.toList==s.toList)=true:=hv
   clear hv HD HX
   go_wp2
   go_ret
   exact ⟨kR (show _=hasS l s by unfold hasS;rw [U.out];simp),G⟩
 have U:=yD (idxOf_miss hlt HN.out)
 go_wp2
 go_ret
 exact ⟨kR (show _=hasS l s by unfold hasS;rw [U.out];rfl),G⟩
theorem Index_str_c {w:World} {vl:Value} {l:List ByteArray} (hl:(kE.slice 9 kE.str).raw w [vl] l) {s:ByteArray} :
    Calls prog 203 #[vl,.string s] w fun e w'=>e=.returned (.int .i64 (idxOf (eqS s) l))∧Below w.heap.size w w':=by
 obtain ⟨al,pl,rfl,ll⟩:=kE.sl hl
 have HL:=yD hl
 clear hl
 go_enter func203,ntmps203
 go_wp2
 obtain ⟨N,H⟩:∃ N,N=w:=⟨_,rfl⟩
 have Z:Below w.heap.size w N:=by rw [H];exact bR
 rw [← H]
 clear H
 go_loopw [8] (fun i wr=>∃ k:Nat,k≤l.length∧i=.int .i64 k∧Hid (∀ j,(h:j < k)→(h2:j < l.length)→eqS s l[j]=false)∧Below N.heap.size N wr) (fun i _=>l.length - (intOf i).toNat)
 case atStart=>exact ⟨0,Nat.zero_le _,rfl,yD (fun _ h=>by omega),bR⟩
 obtain ⟨k,hk,rfl,HN,D⟩:=hrel
 have G:=(tQ Z D)
 skip
 by_cases hlt:k < l.length
 · obtain ⟨qb,qo,rfl,ah,qr,a1⟩:=kE.kBo (HL.out.below G) hlt rfl
   obtain ⟨he,b0⟩:=kE.yY qr
   obtain rfl:ah=_:=by simpa using he
   have J:=fun q=>idxOf_hit (p:=eqS s) hlt q HN.out
   have I:=fun q=>kAm (p:=eqS s) hlt q HN.out
   generalize l[k]=x at *
   have HD:=yD J;have HX:=yD I;clear J I he qr
   cases hv:eqS s x
   · have U:=yD (HX.out hv)
     have b5:(s.toList==x.toList)=false:=by rw [← eqS_comm];exact hv
     exact lQ
   have U:=yD (HD.out hv)
   have b5:(s.toList==x.toList)=true:=by rw [← eqS_comm];exact hv
   clear hv HD HX
   go_wp2
   go_ret
   exact ⟨jW U.out.symm,G⟩
 have U:=yD (idxOf_miss hlt HN.out)
 go_wp2
 go_ret
 exact ⟨jW U.out.symm,G⟩
theorem kTv {w:World} {vl:Value} {l:List ByteArray} (hl:(kE.slice 9 kE.str).raw w [vl] l) {s:ByteArray} :
    Calls prog 202 #[vl,.string s] w (bQ w (.bool (hasS l s))):=by
 go_enter func202,ntmps202
 go_wp2_with fail
 refine (Index_str_c hl).mono ?_
 rintro e w1 ⟨rfl,hb⟩
 go_wp2
 go_ret
 exact ⟨kR rfl,hb⟩
theorem kQw {w:World} {cr:List Value} {r:kCt} (hr:kEo.raw w cr r):Calls prog 175 #[.agg cr.toArray] w (bQ w (.bool (kJd r))):=by
 obtain ⟨ez,bh,rfl,ac,ay,a3,a5⟩:=kIh hr
 obtain ⟨cl,b6,rfl,e1⟩:=kE.sl ay
 obtain ⟨av,au,rfl,bi⟩:=kE.sl a5
 have H0:=yD ac;have H2:=yD a3;have H1:=yD ay;have H3:=yD a5
 clear hr ac ay a3 a5
 go_enter func175,ntmps175
 go_upto_region 1 with fail
 generalize H:World.alloc w _=N
 obtain ⟨Z,K0,K1⟩:=vH
 clear H
 go_wp2_with fail
 refine (kDl (H0.out.below Z)).mono ?_
 rintro e w1 ⟨rfl,O⟩
 replace K0:=cL O K0
 replace K1:=cL O K1
 have E1:=(tQ Z O)
 clear O Z
 cases F:kDi r.1
 · have U:=yD (kKq (r:=r) (by rw [F];rfl))
   go_wp2
   go_ret
   exact ⟨kR U.out.symm,E1⟩
 go_wp2_with fail
 refine (kDl (H2.out.below E1)).mono ?_
 rintro e V ⟨rfl,ab⟩
 replace K0:=cL ab K0
 replace K1:=cL ab K1
 have E2:=(tQ E1 ab)
 clear ab E1
 cases b5:kDi r.2
 · have U:=yD (kKq (r:=r) bA9)
   clear F b5
   go_wp2
   go_ret
   exact ⟨kR U.out.symm,E2⟩
 have HV:Hid ((kDi r.1 && kDi r.2)=true):=yD bA9
 clear F b5
 go_wp2
 go_loopw [3] (fun i wr=>∃ k:Nat,k≤r.2.length∧i=.int .i64 k∧Hid (yX (fun j=>!kCu r (r.2.getD j ByteArray.empty)) k=true)∧Below V.heap.size V wr) (fun i _=>r.2.length - (intOf i).toNat)
 case atStart=>exact ⟨0,Nat.zero_le _,rfl,yD rfl,bR⟩
 obtain ⟨k,hk,rfl,HN,D⟩:=hrel
 have G:=(tQ E2 D)
 replace K0:=cL D K0
 replace K1:=cL D K1
 by_cases hlt:k < r.2.length
 · obtain ⟨qb,qo,rfl,ah,qr,a1⟩:=kE.kBo (H3.out.below G) hlt rfl
   obtain ⟨he,b0⟩:=kE.yY qr
   obtain rfl:ah=_:=by simpa using he
   have J:=fun q=>kUo hlt q
   have I:=fun q=>kRv hlt q HN.out
   generalize r.2[k]=s at *
   have HD:=yD J;have HX:=yD I;clear J I he qr
   go_upto_region 6 with fail
   have FX:=yD (fun (W:World) (hW:Below wr.heap.size wr W)=>kMs hW K0 K1 a1)
   refine kW (fun W=>Below wr.heap.size wr W) [true,true,true,true,true,true,false,true,true,true,true,true,true,true,true,true,false,true,true] bB4 bB4 qD (bR.drew) ?_
   intro wS E
   iterate 6
    all_goals refine kS ?_
   all_goals first | refine wkC (kJx b0) ?_ | refine kS ?_
   all_goals (have af:=True.intro;first|(refine yT (fun b af=>?_);cases b;all_goals first | exact Bool.noConfusion af | simp only [zU,zV] at af | skip) | refine kS ?_)
   all_goals refine kX ?_
   iterate 8
    all_goals refine kS ?_
   all_goals first | refine wkB (kWn (H0.out.below (tQ G E))) (fun wS1 E=>?_) | refine kS ?_
   all_goals refine kS ?_
   all_goals (have X:=True.intro;first|(refine yT (fun b X=>?_);cases b;all_goals first | exact Bool.noConfusion X | simp only [zU,zV] at X | skip) | refine kS ?_)
   all_goals refine kX ?_
   all_goals refine kZ ?_
   all_goals have ER:=(tQ D E)
   all_goals have EF:=(tQ G E)
   all_goals first
     | (have U:=yD (HD.out (show kCu r s=true by simp only [kCu,Bool.not_true,Bool.not_false,Bool.and_true,Bool.true_and,Bool.and_false,Bool.false_and,Bool.or_true,Bool.true_or,Bool.or_false,Bool.false_or,Bool.not_not,af,X]));clear HD HX;go_wp2;go_ret;exact ⟨kR U.out.symm,EF⟩)
     | (have U:=yD (HX.out (show kCu r s=false by simp only [kCu,Bool.not_true,Bool.not_false,Bool.and_true,Bool.true_and,Bool.and_false,Bool.false_and,Bool.or_true,Bool.true_or,Bool.or_false,Bool.false_or,Bool.not_not,af,X]));clear HD HX;go_wp2;go_roundw;(case rel=>exact ⟨k + 1,by omega,by go_num,U,ER⟩);(case measure=>simp [intOf];omega))
 have U:=yD (kRw HV.out HN.out hlt hk)
 exact iN
theorem kRd {w:World} {cr:List Value} {r:kCt} (hr:kEo.raw w cr r):Calls prog 187 #[.agg cr.toArray] w (bQ w (.bool (kJd r))):=by
 obtain ⟨ez,bh,rfl,ac,ay,a3,a5⟩:=kIh hr
 obtain ⟨cl,b6,rfl,e1⟩:=kE.sl ay
 obtain ⟨av,au,rfl,bi⟩:=kE.sl a5
 have H0:=yD ac;have H2:=yD a3;have H1:=yD ay;have H3:=yD a5
 clear hr ac ay a3 a5
 go_enter func187,ntmps187
 go_upto_region 1 with fail
 generalize H:World.alloc w _=N
 obtain ⟨Z,K0,K1⟩:=vH
 clear H
 go_wp2_with fail
 refine (kDo (H0.out.below Z)).mono ?_
 rintro e w1 ⟨rfl,O⟩
 replace K0:=cL O K0
 replace K1:=cL O K1
 have E1:=(tQ Z O)
 clear O Z
 cases F:kDi r.1
 · have U:=yD (kKq (r:=r) (by rw [F];rfl))
   go_wp2
   go_ret
   exact ⟨kR U.out.symm,E1⟩
 go_wp2_with fail
 refine (kDo (H2.out.below E1)).mono ?_
 rintro e V ⟨rfl,ab⟩
 replace K0:=cL ab K0
 replace K1:=cL ab K1
 have E2:=(tQ E1 ab)
 clear ab E1
 cases b5:kDi r.2
 · have U:=yD (kKq (r:=r) bA9)
   clear F b5
   go_wp2
   go_ret
   exact ⟨kR U.out.symm,E2⟩
 have HV:Hid ((kDi r.1 && kDi r.2)=true):=yD bA9
 clear F b5
 go_wp2
 go_loopw [19] (fun i wr=>∃ k:Nat,k≤r.2.length∧i=.int .i64 k∧Hid (yX (fun j=>!kCu r (r.2.getD j ByteArray.empty)) k=true)∧Below V.heap.size V wr) (fun i _=>r.2.length - (intOf i).toNat)
 case atStart=>exact ⟨0,Nat.zero_le _,rfl,yD rfl,bR⟩
 obtain ⟨k,hk,rfl,HN,D⟩:=hrel
 have G:=(tQ E2 D)
 replace K0:=cL D K0
 replace K1:=cL D K1
 by_cases hlt:k < r.2.length
 · obtain ⟨qb,qo,rfl,ah,qr,a1⟩:=kE.kBo (H3.out.below G) hlt rfl
   obtain ⟨he,b0⟩:=kE.yY qr
   obtain rfl:ah=_:=by simpa using he
   have J:=fun q=>kUo hlt q
   have I:=fun q=>kRv hlt q HN.out
   generalize r.2[k]=s at *
   have HD:=yD J;have HX:=yD I;clear J I he qr
   go_upto_region 6 with fail
   have FX:=yD (fun (W:World) (hW:Below wr.heap.size wr W)=>cLs2 hW K0 K1)
   refine kz (fun W=>Below wr.heap.size wr W) [true,false,true,true,true,true,true,false,true,true] bR ?_
   intro wS E
   all_goals refine kS ?_
   all_goals first | refine wkC (kEs b0) ?_ | refine kS ?_
   all_goals (have R:=True.intro;first|(refine yT (fun b R=>?_);cases b;all_goals first | exact Bool.noConfusion R | simp only [zU,zV] at R | skip) | refine kS ?_)
   all_goals refine kX ?_
   iterate 4
    all_goals refine kS ?_
   all_goals first | refine wkB (kTv (H1.out.below (tQ G E))) (fun wS1 E=>?_) | refine kS ?_
   all_goals refine kS ?_
   all_goals (have L:=True.intro;first|(refine yT (fun b L=>?_);cases b;all_goals first | exact Bool.noConfusion L | simp only [zU,zV] at L | skip) | refine kS ?_)
   all_goals refine kX ?_
   all_goals refine kZ ?_
   all_goals have ER:=(tQ D E)
   all_goals have EF:=(tQ G E)
   all_goals first
     | (have U:=yD (HD.out (show kCu r s=true by simp only [kCu,Bool.not_true,Bool.not_false,Bool.and_true,Bool.true_and,Bool.and_false,Bool.false_and,Bool.or_true,Bool.true_or,Bool.or_false,Bool.false_or,Bool.not_not,R,L]));clear HD HX;go_wp2;go_ret;exact ⟨kR U.out.symm,EF⟩)
     | (have U:=yD (HX.out (show kCu r s=false by simp only [kCu,Bool.not_true,Bool.not_false,Bool.and_true,Bool.true_and,Bool.and_false,Bool.false_and,Bool.or_true,Bool.true_or,Bool.or_false,Bool.false_or,Bool.not_not,R,L]));clear HD HX;go_wp2;go_roundw;(case rel=>exact ⟨k + 1,by omega,by go_num,U,ER⟩);(case measure=>simp [intOf];omega))
 have U:=yD (kRw HV.out HN.out hlt hk)
 exact iN
theorem kPh {w:World} {cr:List Value} {r:kCt} (hr:kEo.raw w cr r) {cn:List Value} {n:kQ} (hn:kM.raw w cn n) {cm:List Value} {m:kQ} (hm:kM.raw w cm m) :
    Calls prog 170 #[.agg cr.toArray,.agg cn.toArray,.agg cm.toArray] w (bQ w (.bool (allows n m r))):=by
 have HR:=yD hr;have HN:=yD hn;have HM:=yD hm
 obtain ⟨ez,bh,rfl,ac,ay,a3,a5⟩:=kIh hr
 obtain ⟨cl,b6,rfl,e1⟩:=kE.sl ay
 obtain ⟨av,au,rfl,bi⟩:=kE.sl a5
 obtain ⟨h7,rfl,a4⟩:=kU hn
 obtain ⟨fm,fn,rfl,ir⟩:=kE.sl a4
 obtain ⟨c3,rfl,aq⟩:=kU hm
 obtain ⟨ai,a6,rfl,cc⟩:=kE.sl aq
 have H0:=yD ac;have H2:=yD a3
 have U:=yD (show allows n m r=((kJd r && kFj r.1 n []) && kFj r.2 m (ptB r.1 n [])) from rfl)
 have bd:=mB_len6 (p:=r.1) (n:=n) (l:=[])
 simp only [List.length_nil] at bd
 clear hr hn hm ac ay a3 a5 a4 aq
 go_enter func170,ntmps170
 go_upto_region 1 with fail
 generalize H:World.alloc (World.alloc (World.alloc w _) _) _=N
 obtain ⟨Z,K0,K1⟩:=vH
 have K2:N.cell? ⟨w.heap.size + 1,0,none⟩=some (.slice fm n.length fn):=tN
 have K3:N.cell? ⟨w.heap.size + 1 + 1,0,none⟩=some (.slice ai m.length a6):=tN
 clear H
 go_wp2_with fail
 have X:=((kE.ku.void (e:=223) (r:=kAk) (w:=N) (a:=none) (S:=fun _=>False)).own (Nat.zero_le _)).rd
 have BX:=Below.refl N.heap.size N
 have E:=Z
 refine (kQn (H0.out.below E) (HN.out.below E) (cn:=[.slice fm n.length fn]) (l:=[]) X bC0).mono ?_
 rintro e w1 ⟨v1,rfl,O1,O⟩
 obtain ⟨a1,L,c1,F,ag⟩:=O1.parts;obtain rfl:=F
 replace K0:=cL (tQ BX O) K0
 replace K1:=cL (tQ BX O) K1
 replace K3:=cL (tQ BX O) K3
 have E1:=(tQ E O)
 have R1:=yD ((O1.own vV).rd)
 clear O O1 Z E K2 BX X
 generalize kFj r.1 n []=aa at *
 generalize ptB r.1 n []=D at *
 go_wp2_with fail
 refine (kQn (H2.out.below E1) (HM.out.below E1) (cn:=[.slice ai m.length a6]) R1.out bB9).mono ?_
 rintro e V ⟨v2,rfl,O2,ab⟩
 obtain ⟨a2,n2,c2,b5,al⟩:=O2.parts;obtain rfl:=b5
 replace K0:=cL ab K0
 replace K1:=cL ab K1
 have E2:=(tQ E1 ab)
 clear ab O2 E1 K3 R1
 generalize kFj r.2 m D=ae at *
 go_wp2_with fail
 refine (kRd (HR.out.below E2)).mono ?_
 rintro e w3 ⟨rfl,Y⟩
 have E3:=(tQ E2 Y)
 clear Y E2
 cases hv:kJd r
 · exact lS
 cases aa
 · exact lS
 have HU:Hid (allows n m r=ae):=yD (by rw [U.out,hv];rfl)
 clear hv
 go_wp2
 go_ret
 exact ⟨kR HU.out.symm,E3⟩
theorem kHi {w:World} {cr:List Value} {r:kCt} (hr:kEo.raw w cr r) {n:kQ} {cq:Value} {Bn:Nat} (nr:kM.raw w [cq] n) (D:w.cell? ⟨Bn,0,none⟩=some cq) {m:kQ} {X:Value} {Bm:Nat} (mr:kM.raw w [X] m) (J:w.cell? ⟨Bm,0,none⟩=some X) :
    Calls prog 169 (#[.agg cr.toArray]++#[.pointer (some ⟨Bn,0,none⟩),.pointer (some ⟨Bm,0,none⟩)]) w (bQ w (.bool (allows n m r))):=by
 have Hr:=yD hr
 obtain ⟨ag,ah,rfl,ak,aa,ai,R⟩:=kIh hr
 obtain ⟨ae,Y,rfl,al⟩:=kE.sl aa
 obtain ⟨ac,ab,rfl,aj⟩:=kE.sl R
 obtain ⟨af,I,am⟩:=kU nr
 simp only [List.cons.injEq,and_true] at I
 obtain rfl:=I
 obtain ⟨d0,ar,rfl,aw⟩:=kE.sl am
 obtain ⟨an,V,fx⟩:=kU mr
 simp only [List.cons.injEq,and_true] at V
 obtain rfl:=V
 obtain ⟨aq,ap,rfl,ao⟩:=kE.sl fx
 show Calls prog 169 #[_,_,_] w _
 go_enter func169,ntmps169
 go_upto_region 1 with fail
 generalize H:World.alloc w _=N
 have Z:Below w.heap.size w N:=by rw [← H];exact bI
 have F:N.cell? ⟨w.heap.size,0,none⟩=some (.slice ae (r.1).length Y):=tN
 have L:N.cell? ⟨w.heap.size,1,none⟩=some (.slice ac (r.2).length ab):=tN
 clear H
 replace D:=cL Z D
 replace J:=cL Z J
 have FX:=yD (fun (W:World) (hW:Below N.heap.size N W)=>kLd hW F L D J)
 refine kz (fun W=>Below N.heap.size N W) [true,true,true,false,true] bR ?_
 intro wS E
 iterate 3
  all_goals refine kS ?_
 all_goals first | refine wkB (kPh (kE.raw.below Hr.out (tQ Z E)) (kE.raw.below nr (tQ Z E)) (kE.raw.below mr (tQ Z E))) (fun wS1 E=>?_) | refine kS ?_
 all_goals (have O:=True.intro;first|(refine yT (fun b O=>?_);cases b;all_goals first | exact Bool.noConfusion O | simp only [zU,zV] at O | skip) | refine kS ?_)
 all_goals refine kX ?_
 all_goals refine kZ ?_
 all_goals have G:=(tQ Z E)
 all_goals first
   | (have U:=yD (show (allows n m r)=false by simp only [Bool.not_true,Bool.not_false,Bool.and_true,Bool.true_and,Bool.and_false,Bool.false_and,Bool.or_true,Bool.true_or,Bool.or_false,Bool.false_or,Bool.not_not,O]);go_wp2;go_ret;exact ⟨kR U.out.symm,G⟩)
   | (have U:=yD (show (allows n m r)=true by simp only [Bool.not_true,Bool.not_false,Bool.and_true,Bool.true_and,Bool.and_false,Bool.false_and,Bool.or_true,Bool.true_or,Bool.or_false,Bool.false_or,Bool.not_not,O]);go_wp2;go_ret;exact ⟨kR U.out.symm,G⟩)
theorem kDx:jb prog 169:=zY func169 bB4 bB4
theorem kHz {w:World} {vl:Value} {l:(List kCt)} (hl:(kE.slice 184 kEo).raw w [vl] l) {cn:List Value} {n:kQ} (hn:kM.raw w cn n) {cm:List Value} {m:kQ} (hm:kM.raw w cm m) :
    Calls prog 132 #[vl,.agg cn.toArray,.agg cm.toArray] w (bQ w (.int .i64 (idxOf (allows n m) l))):=by
 obtain ⟨al,pl,rfl,ll⟩:=kE.sl hl
 have Hn:=yD hn
 obtain ⟨Y,rfl,R⟩:=kU hn
 obtain ⟨V,L,rfl,aa⟩:=kE.sl R
 have Hm:=yD hm
 obtain ⟨ag,rfl,ae⟩:=kU hm
 obtain ⟨ab,ac,rfl,ah⟩:=kE.sl ae
 go_enter func132,ntmps132
 go_upto_region 1 with fail
 generalize H:World.alloc (World.alloc w _) _=N
 obtain ⟨Z,X⟩:=rZ
 have D:N.cell? ⟨w.heap.size + 1,0,none⟩=some (.slice ab (m).length ac):=tN
 clear H
 go_wp2_with fail
 refine (kPs (allows n m) kDx (kE.raw.below hl Z) ?_).mono ?_
 · intro wr hb i h cs hr
   exact kHi hr (kE.raw.below Hn.out (tQ Z hb)) (cL hb X) (kE.raw.below Hm.out (tQ Z hb)) (cL hb D)
 exact iU
theorem kLy {w:World} {vl:Value} {l:(List kCt)} (hl:(kE.slice 184 kEo).raw w [vl] l) {cn:List Value} {n:kQ} (hn:kM.raw w cn n) {cm:List Value} {m:kQ} (hm:kM.raw w cm m) :
    Calls prog 98 #[vl,.agg cn.toArray,.agg cm.toArray] w (bQ w (.bool (kBq l n m))):=by
 obtain ⟨al,pl,rfl,ll⟩:=kE.sl hl
 have Hn:=yD hn
 obtain ⟨Y,rfl,R⟩:=kU hn
 obtain ⟨V,L,rfl,aa⟩:=kE.sl R
 have Hm:=yD hm
 obtain ⟨ag,rfl,ae⟩:=kU hm
 obtain ⟨ab,ac,rfl,ah⟩:=kE.sl ae
 go_enter func98,ntmps98
 go_upto_region 1 with fail
 generalize H:World.alloc (World.alloc w _) _=N
 obtain ⟨Z,X⟩:=rZ
 have D:N.cell? ⟨w.heap.size + 1,0,none⟩=some (.slice ab (m).length ac):=tN
 clear H
 have FX:=yD (fun (W:World) (hW:Below N.heap.size N W)=>cLs2 hW X D)
 refine kz (fun W=>Below N.heap.size N W) [true,true,true,false,true,true] bR ?_
 intro wS E
 iterate 3
  all_goals refine kS ?_
 all_goals first | refine wkB (kHz (kE.raw.below hl (tQ Z E)) (kE.raw.below Hn.out (tQ Z E)) (kE.raw.below Hm.out (tQ Z E))) (fun wS1 E=>?_) | refine kS ?_
 all_goals refine kS ?_
 all_goals (have bb:=True.intro;first|(refine yT (fun b bb=>?_);cases b;all_goals first | exact Bool.noConfusion bb | simp only [zU,zV] at bb | skip) | refine kS ?_)
 all_goals refine kX ?_
 all_goals refine kZ ?_
 all_goals have G:=(tQ Z E)
 all_goals first
   | (have U:=yD (show (kBq l n m)=false by simp only [kBq,firstA,ge_iff_le,Bool.not_true,Bool.not_false,Bool.and_true,Bool.true_and,Bool.and_false,Bool.false_and,Bool.or_true,Bool.true_or,Bool.or_false,Bool.false_or,Bool.not_not,bb]);go_wp2;go_ret;exact ⟨kR U.out.symm,G⟩)
   | (have U:=yD (show (kBq l n m)=true by simp only [kBq,firstA,ge_iff_le,Bool.not_true,Bool.not_false,Bool.and_true,Bool.true_and,Bool.and_false,Bool.false_and,Bool.or_true,Bool.true_or,Bool.or_false,Bool.false_or,Bool.not_not,bb]);go_wp2;go_ret;exact ⟨kR U.out.symm,G⟩)
theorem kXi {w:World} {va V:Value} {a b:List UInt8} (ac:(kE.slice 5 kE.byte).raw w [va] a) (a4:(kE.slice 5 kE.byte).raw w [V] b) :
    Calls prog 137 #[va,V] w (bQ w (.bool (decide (a=b)))):=by
 obtain ⟨aa,J,rfl,la⟩:=kE.sl ac
 obtain ⟨ab,I,rfl,lb⟩:=kE.sl a4
 go_enter func137,ntmps137
 by_cases hl:a.length=b.length
 case neg =>
  have U:=yD (show decide (a=b)=false by simp;rintro rfl;exact hl rfl)
  exact iM
 have hz:((a.length:Int) != b.length)=false:=bB5
 have H:(a.length != b.length)=false:=wI
 have HL:=yD hl;clear hl
 go_wp2
 go_loopw [13] (fun i wr=>∃ k:Nat,k≤a.length∧i=.int .i64 k∧Hid (a.take k=b.take k)∧Below w.heap.size w wr) (fun i _=>a.length - (intOf i).toNat)
 case atStart=>exact ⟨0,Nat.zero_le _,rfl,yD rfl,bR⟩
 obtain ⟨k,hk,rfl,HN,D⟩:=hrel
 by_cases hlt:k < a.length
 · have bk:k < b.length:=vN
   obtain ⟨ba,ah,rfl,c0,hr,A0⟩:=kE.kBo (ac.below D) hlt rfl
   obtain ⟨bb,O,rfl,d0,R,B0⟩:=kE.kBo (a4.below D) bk rfl
   have he:=kE.kOg hr
   obtain rfl:c0=_:=by simpa using he
   have L:=kE.kOg R
   obtain rfl:d0=_:=by simpa using L
   clear he L hr R
   have hne:=fun q=>kVm hlt bk q
   have F:=fun q=>kIn HN.out hlt bk q
   generalize a[k]=x at *
   generalize b[k]=y at *
   have HD:=yD hne
   have HX:=yD F
   clear hne F
   go_wp2_with fail
   have FX:=yD (fun (W:World) (hW:Below wr.heap.size wr W)=>cLs2 hW A0 B0)
   refine kW (fun W=>Below wr.heap.size wr W) [true,true,true,true,true,true,true,true,true] bB4 bB4 qD (bR.drew) ?_
   intro wS E
   iterate 9
    all_goals refine kS ?_
   all_goals refine kZ ?_
   have G:=(tQ D E)
   cases hz:((x.toNat:Int)==(y.toNat:Int))
   · have U:=yD (show decide (a=b)=false by
       simp at hz;simp;exact HD.out (fun q=>hz (by rw [q])))
     clear HD HX
     exact iN
   have U:=yD (HX.out (u8_inj wW))
   exact iO
 have U:=yD (show decide (a=b)=true by simp;exact kTn HN.out hlt HL.out)
 go_wp2
 go_ret
 exact ⟨kR U.out.symm,D⟩
def isD (n:kQ) (x:jG):Bool:=eqN x.1 n
def fresh (t:Int) (x:jG):Bool:=decide (t≤x.2.2.2.1)
def kRr:jG:=([],[],[],0,0)
theorem own_voidL {α β:Type} {e:TypeId} {r:kE α} {q:kE β} {w:World} {ds:List Value} {y:β} {S:Nat→Prop} (h:q.own w ds y S):(kE.pair (kE.slice e r) q).own w ([.slice none 0 0]++ds) ([],y) S :=
  kE.ja (A:=fun _=>False) (B:=S) kE.jf h (fun _ h=>h.elim) (fun _ h=>h) (fun _ h _=>h)
theorem kUc {w:World} {vl:Value} {l:(List jG)} (hl:(kE.slice 43 jA).raw w [vl] l) {cn:List Value} {n:kQ} (hn:kM.raw w cn n) :
    Calls prog 22 #[vl,.agg cn.toArray] w (bQ w (.int .i64 (idxOf (isD n) l))):=by
 obtain ⟨al,pl,rfl,ll⟩:=kE.sl hl
 have Hn:=yD hn
 obtain ⟨Y,rfl,R⟩:=kU hn
 obtain ⟨V,L,rfl,aa⟩:=kE.sl R
 go_enter func22,ntmps22
 go_wp2
 generalize H:World.alloc w _=N
 obtain ⟨Z,F⟩:=u6
 clear H
 replace hl:=hl.below Z
 go_loopw [5] (fun i wr=>∃ k:Nat,k≤l.length∧i=.int .i64 k∧Hid (∀ j,(h:j < k)→(h2:j < l.length)→(isD n) l[j]=false)∧Below N.heap.size N wr) (fun i _=>l.length - (intOf i).toNat)
 case atStart=>exact ⟨0,Nat.zero_le _,rfl,yD (fun _ h=>by omega),bR⟩
 obtain ⟨k,hk,rfl,HN,D⟩:=hrel
 replace F:=cL D F
 by_cases hlt:k < l.length
 · obtain ⟨qb,qo,rfl,ah,ai,aj,ck,co,qr,a1,a4,bb,b0,b4⟩:=kE.get5 (hl.below D) (i:=k) bB9 rfl
   obtain ⟨J,I⟩:=xR
   generalize l[k]=x at *
   have HD:=yD J;have HX:=yD I;clear J I
   obtain ⟨x0,x1,x2,x3,x4⟩:=x
   obtain ⟨bq,cc,cj,aq,ar,ax,ap,bc,bv,bz,ci⟩:=jN qr
   simp only [List.cons.injEq,and_true] at aq
   obtain ⟨rfl,rfl,rfl,rfl,rfl⟩:=aq
   obtain ⟨ae,be,rfl,az⟩:=kE.sl ax
   obtain ⟨ao,br,rfl,bn⟩:=kE.sl ap
   obtain ⟨am,bt,rfl,bo⟩:=kE.sl bv
   go_upto_region 4 with fail
   have FX:=yD (fun (W:World) (hW:Below wr.heap.size wr W)=>cLs6 hW F a1 a4 bb b0 b4)
   refine kW (fun W=>Below wr.heap.size wr W) [true,true,true,true,true,true,false] bB4 bB4 qD (bR.drew) ?_
   intro wS E
   iterate 6
    all_goals refine kS ?_
   all_goals first | refine wkB (kAe (kE.raw.below ar E) (kE.raw.below Hn.out ((tQ Z (tQ D E))))) (fun wS1 E=>?_) | refine kS ?_
   all_goals refine kZ ?_
   all_goals cases O:eqN x0 n
   all_goals have G:=(tQ D E)
   all_goals first
     | (have U:=yD (HD.out (show _=true by simp only [isD,Bool.not_true,Bool.not_false,Bool.and_true,Bool.true_and,Bool.and_false,Bool.false_and,Bool.or_true,Bool.true_or,Bool.or_false,Bool.false_or,Bool.not_not,O]));clear HD HX;go_wp2;go_ret;exact ⟨jW U.out.symm,(tQ Z G)⟩)
     | (have U:=yD (HX.out (show _=false by simp only [isD,Bool.not_true,Bool.not_false,Bool.and_true,Bool.true_and,Bool.and_false,Bool.false_and,Bool.or_true,Bool.true_or,Bool.or_false,Bool.false_or,Bool.not_not,O]));clear HD HX;go_wp2;go_roundw;(case rel=>exact ⟨k + 1,by omega,by go_num,U,G⟩);(case measure=>simp [intOf];omega))
 exact iT
theorem kTi {w:World} {cx:List Value} {x:jG} (hx:jA.raw w cx x) {n:kQ} {cq:Value} {Bn:Nat} (nr:kM.raw w [cq] n) (D:w.cell? ⟨Bn,0,none⟩=some cq) :
    Calls prog 45 (#[.agg cx.toArray]++#[.pointer (some ⟨Bn,0,none⟩)]) w (bQ w (.bool (isD n x))):=by
 have Hx:=yD hx
 obtain ⟨aq,a2,au,rfl,ah,ab,ai,aj,ak,ap,av⟩:=jN hx
 obtain ⟨ae,L,rfl,ao⟩:=kE.sl ab
 obtain ⟨an,X,rfl,a1⟩:=kE.sl ai
 obtain ⟨al,F,rfl,ax⟩:=kE.sl ak
 obtain ⟨af,I,am⟩:=kU nr
 simp only [List.cons.injEq,and_true] at I
 obtain rfl:=I
 obtain ⟨d0,ar,rfl,aw⟩:=kE.sl am
 show Calls prog 45 #[_,_] w _
 go_enter func45,ntmps45
 go_upto_region 1 with fail
 generalize H:World.alloc w _=N
 have Z:Below w.heap.size w N:=by rw [← H];exact bI
 have R:N.cell? ⟨w.heap.size,0,none⟩=some (.slice ae (x.1).length L):=tN
 have V:N.cell? ⟨w.heap.size,1,none⟩=some (.slice an (x.2.1).length X):=tN
 have J:N.cell? ⟨w.heap.size,2,none⟩=some (.slice al (x.2.2.1).length F):=tN
 have Y:N.cell? ⟨w.heap.size,3,none⟩=some (.int .i64 x.2.2.2.1):=tN
 have aa:N.cell? ⟨w.heap.size,4,none⟩=some (.int .i64 x.2.2.2.2):=tN
 clear H
 replace D:=cL Z D
 have FX:=yD (fun (W:World) (hW:Below N.heap.size N W)=>cLs6 hW R V J Y aa D)
 refine kz (fun W=>Below N.heap.size N W) [true,true,true,false,true] bR ?_
 intro wS E
 iterate 3
  all_goals refine kS ?_
 all_goals first | refine wkB (ym (kE.raw.below ah (tQ Z E)) (kE.raw.below nr (tQ Z E))) (fun wS1 E=>?_) | refine kS ?_
 all_goals (have O:=True.intro;first|(refine yT (fun b O=>?_);cases b;all_goals first | exact Bool.noConfusion O | simp only [zU,zV] at O | skip) | refine kS ?_)
 all_goals refine kX ?_
 all_goals refine kZ ?_
 all_goals have G:=(tQ Z E)
 all_goals first
   | (have U:=yD (show (isD n x)=false by simp only [isD,Bool.not_true,Bool.not_false,Bool.and_true,Bool.true_and,Bool.and_false,Bool.false_and,Bool.or_true,Bool.true_or,Bool.or_false,Bool.false_or,Bool.not_not,O]);go_wp2;go_ret;exact ⟨kR U.out.symm,G⟩)
   | (have U:=yD (show (isD n x)=true by simp only [isD,Bool.not_true,Bool.not_false,Bool.and_true,Bool.true_and,Bool.and_false,Bool.false_and,Bool.or_true,Bool.true_or,Bool.or_false,Bool.false_or,Bool.not_not,O]);go_wp2;go_ret;exact ⟨kR U.out.symm,G⟩)
theorem kId:jb prog 45:=zY func45 bB4 bB4
theorem kLx {w:World} {vl:Value} {l:(List jG)} (hl:(kE.slice 43 jA).raw w [vl] l) {cn:List Value} {n:kQ} (hn:kM.raw w cn n) :
    Calls prog 16 #[vl,.agg cn.toArray] w (bQ w (.int .i64 (idxOf (isD n) l))):=by
 obtain ⟨al,pl,rfl,ll⟩:=kE.sl hl
 have Hn:=yD hn
 obtain ⟨Y,rfl,R⟩:=kU hn
 obtain ⟨V,L,rfl,aa⟩:=kE.sl R
 go_enter func16,ntmps16
 go_upto_region 1 with fail
 generalize H:World.alloc w _=N
 obtain ⟨Z,F⟩:=u6
 clear H
 go_wp2_with fail
 refine (kIk (isD n) kId (kE.raw.below hl Z) ?_).mono ?_
 · intro wr hb i h cs hr
   exact kTi hr (kE.raw.below Hn.out (tQ Z hb)) (cL hb F)
 exact iU
theorem kUl {w:World} {cx:List Value} {x:jG} (hx:jA.raw w cx x) {t:Int} :
    Calls prog 136 #[.agg cx.toArray,.int .i64 t] w (bQ w (.bool (fresh t x))):=by
 obtain ⟨v0,v1,v2,rfl,ac,ay,a3,a5,ba,bg,b2⟩:=jN hx
 have U:=yD (show fresh t x=decide (t≤x.2.2.2.1) from rfl)
 clear hx ac ay a3 a5 ba bg b2
 go_enter func136,ntmps136
 go_wp2
 go_ret
 exact ⟨kR U.out.symm,bI⟩
end Go.Proofs.YtonmjkmaadgceaaGreat
