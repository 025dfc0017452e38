/-
  How long a node's lists are. No program in sight.
-/
import Derived.Test.YtonmjkmaadgceaaGreatLook
set_option linter.unusedVariables false
set_option linter.unusedSimpArgs false
set_option linter.unnecessarySimpa false
set_option maxRecDepth 100000
set_option maxHeartbeats 4000000
namespace Go.Proofs.YtonmjkmaadgceaaGreat
open Go.RowKit _root_.Go.Proofs.Tryz
def isK (n:kQ) (k:kIi):Bool:=eqN k.1 n
def zJ (l:List kIi) (n:kQ):Int:=if idxOf (isK n) l < 0 then 0 else (l.getD (idxOf (isK n) l).toNat ([],0)).2
def verS (l:List kIi) (x:jG):Bool:=verify (zJ l x.2.2.1) x
def kHg (l:List kIi) (n:kQ):List UInt8:=if zJ l n=0 then [] else kBx (digest [zJ l n])
section
variable {l:List kIi} {n:kQ} {k:Nat}
theorem sec_no (h:idxOf (isK n) l=-1):zJ l n=0:=by simp [zJ,h]
theorem kWo (hk:k < l.length) (h:idxOf (isK n) l=k):zJ l n=l[k].2:=by
 unfold zJ
 rw [h,Int.toNat_natCast,jM hk,if_neg bB9]
theorem kRk {w:World} {vl:Value} (hl:(kE.slice 181 kGe).raw w [vl] l):-9223372036854775808≤zJ l n∧zJ l n≤9223372036854775807:=by
 by_cases h:idxOf (isK n) l < 0
 · unfold zJ;rw [if_pos h];omega
 obtain ⟨j,I,G⟩:=kNz h
 rw [kWo I G]
 obtain ⟨al,pl,rfl,ll⟩:=kE.sl hl
 obtain ⟨qb,qo,cl,ah,ai,qr,_,_⟩:=kE.get2 hl I rfl
 obtain ⟨v0,he,_,_,h3⟩:=kOj qr
 exact h3
theorem kVp (h:zJ l n=0):kHg l n=[]:=by unfold kHg;rw [if_pos h]
theorem kTe (h:¬ zJ l n=0):kHg l n=[]++kBx (digest [zJ l n]):=by unfold kHg;rw [if_neg h];rfl
theorem kTf:(kHg l n).length≤6:=by
 unfold kHg
 split
 · simp
 exact kEp _
end
theorem kWd {w:World} {vl:Value} {l:(List kIi)} (hl:(kE.slice 181 kGe).raw w [vl] l) {cn:List Value} {n:kQ} (hn:kM.raw w cn n) :
    Calls prog 163 #[vl,.agg cn.toArray] w (bQ w (.int .i64 (idxOf (isK n) l))):=by
 obtain ⟨al,pl,rfl,ll⟩:=kE.sl hl
 have Hn:=yD hn
 obtain ⟨Y,rfl,R⟩:=kU hn
 obtain ⟨V,L,rfl,aa⟩:=kE.sl R
 go_enter func163,ntmps163
 go_wp2
 generalize H:World.alloc w _=N
 obtain ⟨Z,F⟩:=u6
 clear H
 replace hl:=hl.below Z
 go_loopw [5] (fun i wr=>∃ k:Nat,k≤l.length∧i=.int .i64 k∧Hid (∀ j,(h:j < k)→(h2:j < l.length)→(isK n) l[j]=false)∧Below N.heap.size N wr) (fun i _=>l.length - (intOf i).toNat)
 case atStart=>exact ⟨0,Nat.zero_le _,rfl,yD (fun _ h=>by omega),bR⟩
 obtain ⟨k,hk,rfl,HN,D⟩:=hrel
 replace F:=cL D F
 by_cases hlt:k < l.length
 · obtain ⟨qb,qo,rfl,ah,ai,qr,a1,a4⟩:=kE.get2 (hl.below D) (i:=k) bB9 rfl
   obtain ⟨J,I⟩:=xR
   generalize l[k]=x at *
   have HD:=yD J;have HX:=yD I;clear J I
   obtain ⟨x0,x1⟩:=x
   obtain ⟨bq,aq,ar,ax,ap⟩:=kOj qr
   simp only [List.cons.injEq,and_true] at aq
   obtain ⟨rfl,rfl⟩:=aq
   obtain ⟨ae,be,rfl,az⟩:=kE.sl ax
   go_upto_region 4 with fail
   have FX:=yD (fun (W:World) (hW:Below wr.heap.size wr W)=>kMs hW F a1 a4)
   refine kW (fun W=>Below wr.heap.size wr W) [true,true,true,true,true,true,false] bB4 bB4 qD (bR.drew) ?_
   intro wS E
   iterate 6
    all_goals refine kS ?_
   all_goals first | refine wkB (kAe (kE.raw.below ar E) (kE.raw.below Hn.out ((tQ Z (tQ D E))))) (fun wS1 E=>?_) | refine kS ?_
   all_goals refine kZ ?_
   all_goals cases O:eqN x0 n
   all_goals have G:=(tQ D E)
   all_goals first
     | (have U:=yD (HD.out (show _=true by simp only [isK,Bool.not_true,Bool.not_false,Bool.and_true,Bool.true_and,Bool.and_false,Bool.false_and,Bool.or_true,Bool.true_or,Bool.or_false,Bool.false_or,Bool.not_not,O]));clear HD HX;go_wp2;go_ret;exact ⟨jW U.out.symm,(tQ Z G)⟩)
     | (have U:=yD (HX.out (show _=false by simp only [isK,Bool.not_true,Bool.not_false,Bool.and_true,Bool.true_and,Bool.and_false,Bool.false_and,Bool.or_true,Bool.true_or,Bool.or_false,Bool.false_or,Bool.not_not,O]));clear HD HX;go_wp2;go_roundw;(case rel=>exact ⟨k + 1,by omega,by go_num,U,G⟩);(case measure=>simp [intOf];omega))
 exact iT
theorem kEc {w:World} {vl:Value} {l:List kIi} (hl:(kE.slice 181 kGe).raw w [vl] l) {cn:List Value} {n:kQ} (hn:kM.raw w cn n) :
    Calls prog 126 #[vl,.agg cn.toArray] w (bQ w (.int .i64 (zJ l n))):=by
 obtain ⟨al,pl,rfl,ll⟩:=kE.sl hl
 have HL:=yD hl;have HN:=yD hn
 obtain ⟨nv,rfl,am⟩:=kU hn
 obtain ⟨an,aj,rfl,ln⟩:=kE.sl am
 clear hl hn am
 go_enter func126,ntmps126
 go_upto_region 1 with fail
 generalize H:World.alloc w _=N
 obtain ⟨Z,K0⟩:=uN
 clear H
 go_wp2_with fail
 refine (kWd (HL.out.below Z) (HN.out.below Z) (cn:=[.slice an n.length aj])).mono ?_
 rintro e w1 ⟨rfl,hb⟩
 have E1:=(tQ Z hb)
 clear hb Z K0
 by_cases hi:idxOf (isK n) l < 0
 · have U:Hid (zJ l n=0):=yD (by unfold zJ;rw [if_pos hi])
   go_wp2
   go_ret
   exact ⟨jW U.out.symm,E1⟩
 obtain ⟨j,I,G⟩:=kNz hi
 have U:=yD (kWo I G)
 obtain ⟨qb,qo,cl,ah,ai,qr,a1,a4⟩:=kE.get2 (HL.out.below E1) I rfl
 obtain rfl:=cl
 rw [G]
 clear hi G
 generalize l[j]=x at *
 obtain ⟨x0,x1⟩:=x
 obtain ⟨v0,aq,ar,ax,ap⟩:=kOj qr
 simp only [List.cons.injEq,and_true] at aq
 obtain ⟨rfl,rfl⟩:=aq
 have dn:(j:Int) < l.length:=bB9
 have da:¬ ((j:Int) < 0):=bB9
 have d2:=Int.natCast_nonneg j
 go_wp2
 go_ret
 exact ⟨jW U.out.symm,E1⟩
theorem kFy {w:World} {vl:Value} {l:List kIi} (hl:(kE.slice 181 kGe).raw w [vl] l) {cn:List Value} {n:kQ} (hn:kM.raw w cn n) :
    Calls prog 131 #[vl,.agg cn.toArray] w (bQ w (.int .i64 (zJ l n))):=by
 obtain ⟨al,pl,rfl,ll⟩:=kE.sl hl
 have HL:=yD hl;have HN:=yD hn
 obtain ⟨nv,rfl,am⟩:=kU hn
 obtain ⟨an,aj,rfl,ln⟩:=kE.sl am
 clear hl hn am
 go_enter func131,ntmps131
 go_upto_region 1 with fail
 generalize H:World.alloc w _=N
 obtain ⟨Z,K0⟩:=uN
 clear H
 go_wp2
 go_loopw [9] (fun i wr=>∃ k:Nat,k≤l.length∧i=.int .i64 k∧Hid (∀ j,(h:j < k)→(h2:j < l.length)→isK n l[j]=false)∧Below N.heap.size N wr) (fun i _=>l.length - (intOf i).toNat)
 case atStart=>exact ⟨0,Nat.zero_le _,rfl,yD (fun _ h=>by omega),bR⟩
 obtain ⟨k,hk,rfl,HW,D⟩:=hrel
 have G:=(tQ Z D)
 replace K0:=cL D K0
 by_cases hlt:k < l.length
 · obtain ⟨qb,qo,rfl,ah,ai,qr,a1,a4⟩:=kE.get2 (HL.out.below G) hlt rfl
   have J:=fun q=>kWo hlt (idxOf_hit (p:=isK n) hlt q HW.out)
   have I:=fun q=>kAm (p:=isK n) hlt q HW.out
   generalize l[k]=x at *
   have HD:=yD J;have HX:=yD I;clear J I
   obtain ⟨x0,x1⟩:=x
   obtain ⟨bq,aq,ar,ax,ap⟩:=kOj qr
   simp only [List.cons.injEq,and_true] at aq
   obtain ⟨rfl,rfl⟩:=aq
   obtain ⟨ae,be,rfl,az⟩:=kE.sl ax
   go_upto_region 4 with fail
   generalize F:World.alloc wr _=R
   have EC:Below wr.heap.size wr R:=rX
   have M0:R.cell? ⟨wr.heap.size,0,none⟩=some (.slice ae x0.length be):=tO
   have M1:R.cell? ⟨wr.heap.size,1,none⟩=some (.int .i64 x1):=tO
   replace K0:=cL EC K0
   clear F
   have X:=(tQ G EC)
   have E:=(tQ D EC)
   go_wp2_with fail
   refine (ym (kE.raw.below ar EC) (HN.out.below X) (ca:=[.slice ae x0.length be]) (cb:=[.slice an n.length aj])).mono ?_
   rintro e V ⟨rfl,ab⟩
   replace M1:=cL ab M1
   have E2:=(tQ X ab)
   have Y:=(tQ E ab)
   clear ab
   cases hv:eqN x0 n
   · have U:=yD (HX.out hv)
     clear HD HX hv
     go_wp2
     go_roundw
     case rel=>exact ⟨k + 1,by omega,by go_num,U,Y⟩
     simp [intOf];omega
   have U:=yD (HD.out hv)
   clear HD HX hv
   go_wp2
   go_ret
   exact ⟨jW U.out.symm,E2⟩
 have U:=yD (sec_no (idxOf_miss (p:=isK n) hlt HW.out))
 go_wp2
 go_ret
 exact ⟨jW U.out.symm,G⟩
def kKm (l:List kIi) (n:kQ) (t:Int) (x:jG):Bool:=((eqN x.1 n && fresh t x) && verS l x) && decide (x.2.1=kHg l n)
def kBp (t:jS) (n:kQ) (now:Int):Int:=if zJ t.1 n=0 then -1 else idxOf (kKm t.1 n now) t.2.2.2
def isAn (n:kQ) (a:kQ):Bool:=eqN a n
def isAnc (t:jS) (n:kQ):Bool:=decide (0≤idxOf (isAn n) t.2.2.1)
theorem fc_no {t:jS} {n:kQ} {now:Int} (h:zJ t.1 n=0):kBp t n now=-1:=by unfold kBp;rw [if_pos h]
theorem fc_yes {t:jS} {n:kQ} {now:Int} (h:¬ zJ t.1 n=0):kBp t n now=idxOf (kKm t.1 n now) t.2.2.2:=by unfold kBp;rw [if_neg h]
theorem kQz {w:World} {vl:Value} {l:List kIi} (hl:(kE.slice 181 kGe).raw w [vl] l) {cn:List Value} {n:kQ} (hn:kM.raw w cn n) :
    Calls prog 176 #[vl,.agg cn.toArray] w (zz 5 kE.byte (kHg l n) w):=by
 obtain ⟨al,pl,rfl,ll⟩:=kE.sl hl
 have HL:=yD hl;have HN:=yD hn
 have HR:=yD (show I64q (zJ l n) from kRk hl)
 obtain ⟨nv,rfl,am⟩:=kU hn
 obtain ⟨an,aj,rfl,ln⟩:=kE.sl am
 clear hl hn am
 go_enter func176,ntmps176
 go_upto_region 1 with fail
 generalize H:World.alloc w _=N
 obtain ⟨Z,K0⟩:=uN
 clear H
 go_wp2_with fail
 refine (kEc (HL.out.below Z) (HN.out.below Z) (cn:=[.slice an n.length aj])).mono ?_
 rintro e w1 ⟨rfl,hb⟩
 have E1:=(tQ Z hb)
 clear hb Z K0
 by_cases h0:zJ l n=0
 · have U:=yD (kVp h0)
   have E:(zJ l n==0)=true:=wH
   go_wp2
   go_ret
   exact ⟨_,rfl,(kE.ku.void:kE.ku 5 kE.byte _ _ [] _).cast U.out.symm,(by repeat (first|(with_reducible exact E1) | refine Below.alloc ?_ (by have:=Below.size E1;simp;try omega) _ | refine Below.drew ?_ | refine Below.setCell ?_ (by have:=Below.size E1;simp;try omega) _))⟩
 have U:=yD (kTe h0)
 have E:(zJ l n==0)=false:=wH
 generalize zJ l n=s at *
 have RD:=((kHf (w:=(w1.alloc (.cells #[] 5))) (x:=s) (e:=3) HR.out).own sS).raw
 have X:=((kE.ku.void (e:=5) (r:=kE.byte) (w:=World.alloc (w1.alloc (.cells #[] 5)) (.cells #[.int .i64 s] 3)) (a:=some ⟨w1.heap.size,0,none⟩) (S:=fun _=>False)).own (Nat.zero_le _)).rd
 clear h0
 go_wp2_with fail
 refine (kNd (by simpa using RD)).mono ?_
 rintro e V ⟨rfl,hw⟩
 obtain rfl:=hw.symm
 go_wp2_with fail
 refine (kDm X).mono ?_
 exact o7
theorem kBw {w:World} {vl:Value} {l:List kIi} (hl:(kE.slice 181 kGe).raw w [vl] l) {cx:List Value} {x:jG} (hx:jA.rd w cx x) (hc:x.2.1.length≤2000000) :
    Calls prog 97 #[vl,.agg cx.toArray] w (bQ w (.bool (verS l x))):=by
 obtain ⟨al,pl,rfl,ll⟩:=kE.sl hl
 have HL:=yD hl;have HX:=yD hx
 have hy:=hx.1
 obtain ⟨ez,bh,e9,rfl,ac,ay,a3,a5,ba,bg,b2⟩:=jN hy
 obtain ⟨cl,b6,rfl,e1⟩:=kE.sl ay
 obtain ⟨av,au,rfl,bi⟩:=kE.sl a3
 obtain ⟨c6,c5,rfl,fa⟩:=kE.sl ba
 have HK:=yD a5
 have HR:=yD (kRk (n:=x.2.2.1) hl)
 clear hl hx hy ac ay a3 a5 ba bg b2
 go_enter func97,ntmps97
 go_upto_region 1 with fail
 generalize H:World.alloc w _=N
 have Z:Below w.heap.size w N:=by rw [← H];exact bI
 obtain ⟨K0,K1,K2,K3,K4⟩:=oU
 clear H
 have FX:=yD (fun (W:World) (hW:Below N.heap.size N W)=>cLs5 hW K0 K1 K2 K3 K4)
 refine yQ (fun W=>Below N.heap.size N W) [(0,true),(1,true),(2,true),(4,true),(3,false),(5,false),(6,true)] bB4 bB4 qD (bR.drew) ?_
 intro wS E
 simp only [jD,List.getElem?_cons_succ,List.getElem?_cons_zero,List.map_cons,List.map_nil]
 iterate 4
  all_goals refine kS ?_
 all_goals first | refine wkB (kFy (HL.out.below (tQ Z E)) (HK.out.below (tQ Z E)) (cn:=[.slice c6 x.2.2.1.length c5])) (fun wS1 E=>?_) | refine kS ?_
 all_goals first | refine wkB (kPe HR.out (HX.out.below (tQ Z E)) hc (cx:=[.slice cl x.1.length b6,.slice av x.2.1.length au,.slice c6 x.2.2.1.length c5,.int .i64 x.2.2.2.1,.int .i64 x.2.2.2.2])) (fun wS1 E=>?_) | refine kS ?_
 all_goals refine kS ?_
 all_goals refine kZ ?_
 have G:=(tQ Z E)
 go_wp2
 go_ret
 exact ⟨rfl,G⟩
theorem kRe {w:World} {vl:Value} {l:List kIi} (hl:(kE.slice 181 kGe).raw w [vl] l) {cn:List Value} {n:kQ} (hn:kM.raw w cn n) :
    Calls prog 138 #[vl,.agg cn.toArray] w (zz 5 kE.byte (kHg l n) w):=by
 obtain ⟨al,pl,rfl,ll⟩:=kE.sl hl
 have HL:=yD hl;have HN:=yD hn
 have HR:=yD (show I64q (zJ l n) from kRk hl)
 obtain ⟨nv,rfl,am⟩:=kU hn
 obtain ⟨an,aj,rfl,ln⟩:=kE.sl am
 clear hl hn am
 go_enter func138,ntmps138
 go_upto_region 1 with fail
 generalize H:World.alloc w _=N
 obtain ⟨Z,K0⟩:=uN
 clear H
 go_wp2_with fail
 refine (kFy (HL.out.below Z) (HN.out.below Z) (cn:=[.slice an n.length aj])).mono ?_
 rintro e w1 ⟨rfl,hb⟩
 have E1:=(tQ Z hb)
 clear hb Z K0
 by_cases h0:zJ l n=0
 · have U:=yD (kVp h0)
   have E:(zJ l n==0)=true:=wH
   go_wp2
   go_ret
   exact ⟨_,rfl,(kE.ku.void:kE.ku 5 kE.byte _ _ [] _).cast U.out.symm,E1⟩
 have U:=yD (kTe h0)
 have E:(zJ l n==0)=false:=wH
 generalize zJ l n=s at *
 have RD:=((kHf (w:=w1) (x:=s) (e:=3) HR.out).own sS).raw
 have X:=((kE.ku.void (e:=5) (r:=kE.byte) (w:=World.alloc w1 (.cells #[.int .i64 s] 3)) (a:=none) (S:=fun _=>False)).own (Nat.zero_le _)).rd
 clear h0
 go_wp2_with fail
 refine (kNx (by simpa using RD)).mono ?_
 rintro e V ⟨rfl,hw⟩
 obtain rfl:=hw.symm
 go_wp2_with fail
 refine (kDp X).mono ?_
 exact o7
theorem kRg {w:World} {ca:List Value} {a:kQ} (ha:kM.raw w ca a) {n:kQ} {cq:Value} {Bn:Nat} (nr:kM.raw w [cq] n) (D:w.cell? ⟨Bn,0,none⟩=some cq) :
    Calls prog 134 (#[.agg ca.toArray]++#[.pointer (some ⟨Bn,0,none⟩)]) w (bQ w (.bool (isAn n a))):=by
 have X:=yD ha
 obtain ⟨V,rfl,J⟩:=kU ha
 obtain ⟨F,L,rfl,O⟩:=kE.sl J
 obtain ⟨af,I,am⟩:=kU nr
 simp only [List.cons.injEq,and_true] at I
 obtain rfl:=I
 obtain ⟨d0,ar,rfl,aw⟩:=kE.sl am
 show Calls prog 134 #[_,_] w _
 go_enter func134,ntmps134
 go_upto_region 1 with fail
 generalize H:World.alloc w _=N
 have Z:Below w.heap.size w N:=by rw [← H];exact bI
 have R:N.cell? ⟨w.heap.size,0,none⟩=some (.slice F (a).length L):=tN
 clear H
 replace D:=cL Z D
 have FX:=yD (fun (W:World) (hW:Below N.heap.size N W)=>cLs2 hW R D)
 refine kz (fun W=>Below N.heap.size N W) [true,true,false,true] bR ?_
 intro wS E
 all_goals refine kS ?_
 all_goals refine kS ?_
 all_goals first | refine wkB (ym (kE.raw.below X.out (tQ Z E)) (kE.raw.below nr (tQ Z E))) (fun wS1 E=>?_) | refine kS ?_
 all_goals (have ag:=True.intro;first|(refine yT (fun b ag=>?_);cases b;all_goals first | exact Bool.noConfusion ag | simp only [zU,zV] at ag | skip) | refine kS ?_)
 all_goals refine kX ?_
 all_goals refine kZ ?_
 all_goals have G:=(tQ Z E)
 all_goals first
   | (have U:=yD (show (isAn n a)=false by simp only [isAn,Bool.not_true,Bool.not_false,Bool.and_true,Bool.true_and,Bool.and_false,Bool.false_and,Bool.or_true,Bool.true_or,Bool.or_false,Bool.false_or,Bool.not_not,ag]);go_wp2;go_ret;exact ⟨kR U.out.symm,G⟩)
   | (have U:=yD (show (isAn n a)=true by simp only [isAn,Bool.not_true,Bool.not_false,Bool.and_true,Bool.true_and,Bool.and_false,Bool.false_and,Bool.or_true,Bool.true_or,Bool.or_false,Bool.false_or,Bool.not_not,ag]);go_wp2;go_ret;exact ⟨kR U.out.symm,G⟩)
theorem kHk:jb prog 134:=zY func134 bB4 bB4
theorem kTj {w:World} {ct:List Value} {t:jS} (ht:je.raw w ct t) {cn:List Value} {n:kQ} (hn:kM.raw w cn n) :
    Calls prog 99 #[.agg ct.toArray,.agg cn.toArray] w (bQ w (.bool (isAnc t n))):=by
 obtain ⟨dh,el,eu,c6,rfl,a2,bk,bm,b7⟩:=zb ht
 obtain ⟨av,bh,rfl,et⟩:=kE.sl a2
 obtain ⟨bd,cu,rfl,er⟩:=kE.sl bk
 obtain ⟨aw,bi,rfl,eo⟩:=kE.sl bm
 obtain ⟨ag,ac,rfl,c9⟩:=kE.sl b7
 have au:=yD a2;have dc:=yD bk;have F:=yD bm;have db:=yD b7
 obtain ⟨nv,rfl,am⟩:=kU hn
 obtain ⟨an,aj,rfl,ln⟩:=kE.sl am
 have HN:=yD hn
 clear ht hn am a2 bk bm b7
 go_enter func99,ntmps99
 go_upto_region 1 with fail
 generalize H:World.alloc (World.alloc w _) _=N
 obtain ⟨Z,K0,K1,K2,K3,K4⟩:=uY
 clear H
 go_wp2_with fail
 refine (kLg (isAn n) kHk (F.out.below Z) ?_).mono ?_
 · intro wr hb i h cs hr
   exact kRg hr (kE.raw.below HN.out (tQ Z hb)) (cL hb K4)
 rintro e w1 ⟨rfl,O⟩
 have E1:=(tQ Z O)
 clear O
 go_wp2
 go_ret
 exact ⟨kR rfl,E1⟩
theorem kIx {w:World} {cx:List Value} {x:jG} (hx:jA.rd w cx x) (b8:x.2.1.length≤2000000) {n:kQ} {an:Option Addr} {aj Bn:Nat} (hn:kM.raw w [.slice an n.length aj] n) (X:w.cell? ⟨Bn,0,none⟩=some (.slice an n.length aj))
    {now:Int} {Bw:Nat} (D:w.cell? ⟨Bw,0,none⟩=some (.int .i64 now)) {t:jS} {av:Option Addr} {bh Bt:Nat} (hk:(kE.slice 181 kGe).raw w [.slice av t.1.length bh] t.1) (I:w.cell? ⟨Bt,0,none⟩=some (.slice av t.1.length bh)) :
    Calls prog 135 (#[.agg cx.toArray]++#[.pointer (some ⟨Bn,0,none⟩),.pointer (some ⟨Bw,0,none⟩),.pointer (some ⟨Bt,0,none⟩)]) w (bQ w (.bool (kKm t.1 n now x))):=by
 have hy:=hx.1
 obtain ⟨bq,cc,cj,rfl,ar,ax,ap,bc,bv,bz,ci⟩:=jN hy
 obtain ⟨ae,be,rfl,az⟩:=kE.sl ax
 obtain ⟨ao,br,rfl,bn⟩:=kE.sl ap
 obtain ⟨am,bt,rfl,bo⟩:=kE.sl bv
 have a3:=yD hx;have HN:=yD hn;have au:=yD hk;have G:=yD ar;have R:=yD ap
 clear hx hn hk ar ax ap bc bv bz ci
 show Calls prog 135 #[_,_,_,_] w _
 go_enter func135,ntmps135
 go_upto_region 1 with fail
 generalize H:World.alloc w _=N
 have Z:Below w.heap.size w N:=by rw [← H];exact bI
 have M0:N.cell? ⟨w.heap.size,0,none⟩=some (.slice ae x.1.length be):=tN
 have M1:N.cell? ⟨w.heap.size,1,none⟩=some (.slice ao x.2.1.length br):=tN
 have M2:N.cell? ⟨w.heap.size,2,none⟩=some (.slice am x.2.2.1.length bt):=tN
 have M3:N.cell? ⟨w.heap.size,3,none⟩=some (.int .i64 x.2.2.2.1):=tN
 have M4:N.cell? ⟨w.heap.size,4,none⟩=some (.int .i64 x.2.2.2.2):=tN
 clear H
 replace X:=cL Z X
 replace D:=cL Z D
 replace I:=cL Z I
 have FX:=yD (fun (W:World) (hW:Below N.heap.size N W)=>cLs8 hW X D I M0 M1 M2 M3 M4)
 refine kW (fun W=>Below N.heap.size N W) [true,true,true,false,true,true,true,false,true,true,true,true,true,false,true,true,true,true,true,true,true,false,false,true,true] bB4 bB4 qD (bR.drew) ?_
 intro wS E
 iterate 3
  all_goals refine kS ?_
 all_goals first | refine wkB (ym (G.out.below (tQ Z E)) (HN.out.below (tQ Z E)) (ca:=[.slice ae x.1.length be]) (cb:=[.slice an n.length aj])) (fun wS1 E=>?_) | refine kS ?_
 all_goals (have O:=True.intro;first|(refine yT (fun b O=>?_);cases b;all_goals first | exact Bool.noConfusion O | simp only [zU,zV] at O | skip) | refine kS ?_)
 all_goals refine kX ?_
 all_goals refine kS ?_
 all_goals refine kS ?_
 all_goals first | refine wkB (kUl (a3.out.below (tQ Z E)).1 (cx:=[.slice ae x.1.length be,.slice ao x.2.1.length br,.slice am x.2.2.1.length bt,.int .i64 x.2.2.2.1,.int .i64 x.2.2.2.2])) (fun wS1 E=>?_) | refine kS ?_
 all_goals refine kS ?_
 all_goals (have L:=True.intro;first|(refine yT (fun b L=>?_);cases b;all_goals first | exact Bool.noConfusion L | simp only [zU,zV] at L | skip) | refine kS ?_)
 all_goals refine kX ?_
 iterate 3
  all_goals refine kS ?_
 all_goals first | refine wkB (kBw (au.out.below (tQ Z E)) (a3.out.below (tQ Z E)) b8 (cx:=[.slice ae x.1.length be,.slice ao x.2.1.length br,.slice am x.2.2.1.length bt,.int .i64 x.2.2.2.1,.int .i64 x.2.2.2.2])) (fun wS1 E=>?_) | refine kS ?_
 all_goals refine kS ?_
 all_goals (have F:=True.intro;first|(refine yT (fun b F=>?_);cases b;all_goals first | exact Bool.noConfusion F | simp only [zU,zV] at F | skip) | refine kS ?_)
 all_goals refine kX ?_
 iterate 5
  all_goals refine kS ?_
 all_goals first|(refine kK rfl E ?_)|(refine ko rfl (fun K J=>?_);go_simp;refine (kRe (au.out.below (tQ Z E)) (HN.out.below (tQ Z E)) (cn:=[.slice an n.length aj])).mono ?_;rintro e wS1 ⟨vk,rfl,Y,af⟩;obtain ⟨ak,nk,ck,V,aa⟩:=Y.parts;obtain rfl:=V;have RK:=(Y.own (by have:=kTf (l:=t.1) (n:=n);unfold Big;omega)).raw;clear Y;replace E:=(tQ E af);refine J _ _ E ?_;clear J K af)
 all_goals refine kX ?_
 all_goals first|(refine kK rfl E ?_)|(refine ko rfl (fun K J=>?_);go_simp;refine (kXi (R.out.below (tQ Z E)) RK).mono ?_;rintro e bj ⟨rfl,af⟩;replace E:=(tQ E af);refine J _ _ E ?_;clear J K af RK)
 all_goals refine kX ?_
 all_goals refine kS ?_
 all_goals refine kS ?_
 all_goals refine kZ ?_
 all_goals have EF:=(tQ Z E)
 all_goals first
   | (have U:=yD (show kKm t.1 n now x=false by simp only [kKm,Bool.not_true,Bool.not_false,Bool.and_true,Bool.true_and,Bool.and_false,Bool.false_and,Bool.or_true,Bool.true_or,Bool.or_false,Bool.false_or,Bool.not_not,O,L,F]);go_wp2;go_ret;exact ⟨kR U.out.symm,EF⟩)
   | (have U:=yD (show kKm t.1 n now x=decide (x.2.1=kHg t.1 n) by simp only [kKm,Bool.not_true,Bool.not_false,Bool.and_true,Bool.true_and,Bool.and_false,Bool.false_and,Bool.or_true,Bool.true_or,Bool.or_false,Bool.false_or,Bool.not_not,O,L,F]);go_wp2;go_ret;exact ⟨kR U.out.symm,EF⟩)
theorem kEm:jb prog 135:=zY func135 bB4 bB4
theorem kJp {w:World} {ct:List Value} {t:jS} (D:je.rd w ct t) (hB:∀ k (h:k < t.2.2.2.length),t.2.2.2[k].2.1.length≤2000000) {cn:List Value} {n:kQ} (hn:kM.raw w cn n) {now:Int} :
    Calls prog 100 #[.agg ct.toArray,.agg cn.toArray,.int .i64 now] w (bQ w (.int .i64 (kBp t n now))):=by
 have ht:=D.1
 have c4:=yD (show ∀ k (h:k < t.2.2.2.length),jA.bdd Big t.2.2.2[k] from fun k h=>D.2.2.2.2.2 _ (List.getElem_mem h))
 have af:=yD hB
 obtain ⟨dh,el,eu,c6,rfl,a2,bk,bm,b7⟩:=zb ht
 obtain ⟨av,bh,rfl,et⟩:=kE.sl a2
 obtain ⟨bd,cu,rfl,er⟩:=kE.sl bk
 obtain ⟨aw,bi,rfl,eo⟩:=kE.sl bm
 obtain ⟨ag,ac,rfl,c9⟩:=kE.sl b7
 have au:=yD a2;have dc:=yD bk;have F:=yD bm;have db:=yD b7
 obtain ⟨nv,rfl,am⟩:=kU hn
 obtain ⟨an,aj,rfl,ln⟩:=kE.sl am
 have HN:=yD hn
 clear ht D hB hn am a2 bk bm b7
 go_enter func100,ntmps100
 go_upto_region 1 with fail
 generalize H:World.alloc (World.alloc (World.alloc w _) _) _=N
 obtain ⟨Z,K0,K1,K2,K3,K4⟩:=uY
 have K5:N.cell? ⟨w.heap.size + 1 + 1,0,none⟩=some (.int .i64 now):=tN
 clear H
 go_wp2_with fail
 refine (kFy (au.out.below Z) (HN.out.below Z) (cn:=[.slice an n.length aj])).mono ?_
 rintro e w1 ⟨rfl,hb⟩
 have E1:=(tQ Z hb)
 replace K0:=cL hb K0
 replace K1:=cL hb K1
 replace K2:=cL hb K2
 replace K3:=cL hb K3
 replace K4:=cL hb K4
 replace K5:=cL hb K5
 clear hb Z
 by_cases h0:zJ t.1 n=0
 · have U:=yD (fc_no (now:=now) h0)
   have E:(zJ t.1 n==0)=true:=wH
   go_wp2
   go_ret
   exact ⟨jW U.out.symm,E1⟩
 have G:=yD (fc_yes (now:=now) h0)
 have E:(zJ t.1 n==0)=false:=wH
 clear h0
 go_wp2_with fail
 refine (kIk (kKm t.1 n now) kEm (db.out.below E1) ?_).mono ?_
 · intro wr hb i h cs hr
   exact kIx ⟨hr,c4.out i h⟩ (af.out i h) (kE.raw.below HN.out (tQ E1 hb)) (cL hb K4) (cL hb K5) (kE.raw.below au.out (tQ E1 hb)) (cL hb K0)
 rintro e V ⟨rfl,ab⟩
 have E2:=(tQ E1 ab)
 clear ab
 go_wp2
 go_ret
 exact ⟨jW G.out.symm,E2⟩
def lenN (m:Nat) (x:yI):Prop :=
  (x.1.length≤m∧True)∧(True∧(x.2.1.2.length≤m∧True))∧(x.2.2.1.length≤m∧∀ y∈x.2.2.1,True∧(y.2.1.length≤m∧True))∧(x.2.2.2.1.length≤m∧True)∧(x.2.2.2.2.1.length≤m∧True)∧(x.2.2.2.2.2.1.length≤m∧True)∧True
theorem lenN.mono {m k:Nat} {x:yI} (h:lenN m x) (hk:m≤k):lenN k x:=by
 obtain ⟨⟨a,_⟩,⟨_,b,_⟩,⟨c,d⟩,⟨e,_⟩,⟨f,_⟩,⟨g,_⟩,_⟩:=h
 exact ⟨⟨by omega,trivial⟩,⟨trivial,by omega,trivial⟩,⟨by omega,fun y hy=>⟨trivial,by have:=(d y hy).2.1;omega,trivial⟩⟩,⟨by omega,trivial⟩,⟨by omega,trivial⟩,⟨by omega,trivial⟩,trivial⟩
theorem lenN_mk {m:Nat} {x:yI} (a:x.1.length≤m) (b:x.2.1.2.length≤m) (c:x.2.2.1.length≤m) (d:∀ y∈x.2.2.1,y.2.1.length≤m) (e:x.2.2.2.1.length≤m) (f:x.2.2.2.2.1.length≤m) (g:x.2.2.2.2.2.1.length≤m):lenN m x :=
  ⟨⟨a,trivial⟩,⟨trivial,b,trivial⟩,⟨c,fun y hy=>⟨trivial,d y hy,trivial⟩⟩,⟨e,trivial⟩,⟨f,trivial⟩,⟨g,trivial⟩,trivial⟩
def lenT (t:jS):Prop:=∀ k (h:k < t.2.2.2.length),t.2.2.2[k].2.1.length≤2000000
end Go.Proofs.YtonmjkmaadgceaaGreat
