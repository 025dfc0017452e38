/-
  Interests, data and what goes out: compared.
  Secrets, certificates and anchors.
  Whether a name is pending.
-/
import Derived.Laws.IdiomStrings
import Derived.Test.YtlfblpgkegeaeaaGreatSig
set_option linter.unusedVariables false
set_option linter.unusedSimpArgs false
set_option linter.unnecessarySimpa false
set_option maxRecDepth 100000
set_option maxHeartbeats 4000000
namespace Go.Proofs.YtlfblpgkegeaeaaGreat
open Go.RowKit
theorem kSq {P:Program} {w:World} {src e dst:TypeId} (hs:P.underlying src=some (.slice e)) (he:P.underlying e=some (.int .u8)) (hd:P.underlying dst=some .string) {xs:List UInt8} {a:Option Addr} {len cap:Nat} (h:(Rep.slice e Rep.byte).raw w [.slice a len cap] xs) :
    (convert src dst (.slice a len cap)).run P w=.ok (.string ⟨xs.toArray⟩) w:=by
 obtain ⟨aa,pp,hv,_⟩:=Rep.kJe h
 simp only [List.cons.injEq,Value.slice.injEq,and_true] at hv
 obtain ⟨rfl,rfl,rfl⟩:=hv
 by_cases h0:xs=[]
 · subst h0
   cases a with
   | none=>have h2:=run_convert_bytes_string w src dst e none 0 cap hs he hd;exact h2.trans rfl
   | some a=>exact run_convert_bytes_back w src dst e a cap [] hs he hd (fun j hj=>by simp at hj)
 have hp:0 < xs.length:=List.length_pos_iff.2 h0
 obtain ⟨b,off,rfl,_⟩:=Rep.kAy h hp rfl
 refine run_convert_bytes_back w src dst e ⟨b,off,none⟩ cap xs hs he hd (fun j hj=>?_)
 obtain ⟨b',off',hE,c0,hr,hc⟩:=Rep.kAy h hj rfl
 simp only [Option.some.injEq,Addr.mk.injEq,and_true] at hE
 obtain ⟨rfl,rfl⟩:=hE
 have hq:=Rep.kCn hr
 obtain rfl:c0=_:=by simpa using hq
 have hadd:(⟨b,off,none⟩:Addr).add j=⟨b,off + j,none⟩:=mD
 rw [hadd]
 exact hc
theorem bytes_eq (a b:List UInt8):((⟨a.toArray⟩:ByteArray).toList==(⟨b.toArray⟩:ByteArray).toList)=decide (a=b):=by
 rw [kLb,Bool.eq_iff_iff]
 simp
theorem kNg {w:World} {va vb:Value} {a b:List UInt8} (a_0:(Rep.slice 5 Rep.byte).raw w [va] a) (b_0:(Rep.slice 5 Rep.byte).raw w [vb] b) :
    Calls Tryz.prog 204 #[va,vb] w fun e w'=>e=.returned (.bool (decide (a=b)))∧Below w.heap.size w w':=by
 obtain ⟨aa,capa,rfl,la⟩:=Rep.sl a_0
 obtain ⟨ab,capb,rfl,lb⟩:=Rep.sl b_0
 have h1:=kSq (P:=Tryz.prog) (dst:=9) Tryz.underlying40 Tryz.underlying5 Tryz.underlying9 a_0
 have h2:=kSq (P:=Tryz.prog) (dst:=9) Tryz.underlying40 Tryz.underlying5 Tryz.underlying9 b_0
 have HE:=yD (bytes_eq a b)
 generalize hsa:(⟨a.toArray⟩:ByteArray)=sa at *
 generalize hsb:(⟨b.toArray⟩:ByteArray)=sb at *
 clear hsa hsb a_0 b_0
 go_enter Tryz.func204,Tryz.ntmps204
 go_wp2
 go_ret
 exact ⟨kG HE.out,bR⟩
theorem kWi {w:World} {va vb:Value} {a b:List UInt8} (a_0:(Rep.slice 5 Rep.byte).raw w [va] a) (b_0:(Rep.slice 5 Rep.byte).raw w [vb] b) :
    Calls Tryz.prog 215 #[va,vb] w fun e w'=>e=.returned (.bool (decide (a=b)))∧Below w.heap.size w w':=by
 obtain ⟨aa,capa,rfl,la⟩:=Rep.sl a_0
 obtain ⟨ab,capb,rfl,lb⟩:=Rep.sl b_0
 go_enter Tryz.func215,Tryz.ntmps215
 by_cases hl:a.length=b.length
 case neg =>
  have HT:=yD (show decide (a=b)=false by simp;rintro rfl;exact hl rfl)
  have hz:((a.length:Int) != b.length)=true:=rG
  have hzn:(a.length != b.length)=true:=qU
  go_wp2
  go_ret
  exact ⟨kG HT.out.symm,bR⟩
 have hz:((a.length:Int) != b.length)=false:=rG
 have hzn:(a.length != b.length)=false:=qU
 have HL:=yD hl;clear hl
 go_wp2
 go_loopw [13] (fun i wr=>∃ k:Nat,k≤a.length∧i=.int .i64 k∧Hid (a.take k=b.take k)∧Below w.heap.size w wr) (fun i _=>a.length - (intOf i).toNat)
 case atStart=>exact ⟨0,Nat.zero_le _,rfl,yD rfl,bR⟩
 obtain ⟨k,hk,rfl,HN,hbel⟩:=hrel
 by_cases hlt:k < a.length
 · have hlt2:k < b.length:=by have:=HL.out;omega
   obtain ⟨ba,offa,rfl,c0,hr,A0⟩:=Rep.kAy (a_0.below hbel) hlt rfl
   obtain ⟨bb,offb,rfl,d0,hr2,B0⟩:=Rep.kAy (b_0.below hbel) hlt2 rfl
   have he:=Rep.kCn hr
   obtain rfl:c0=_:=by simpa using he
   have he2:=Rep.kCn hr2
   obtain rfl:d0=_:=by simpa using he2
   clear he he2 hr hr2
   have hne:=fun q=>zm hlt hlt2 q
   have hnx:=fun q=>yC HN.out hlt hlt2 q
   generalize a[k]=x at *
   generalize b[k]=y at *
   have HD:=yD hne
   have HX:=yD hnx
   clear hne hnx
   go_wp2_with fail
   have FX:=yD (fun (W:World) (hW:Below wr.heap.size wr W)=>cLs2 hW A0 B0)
   refine jB (fun W=>Below wr.heap.size wr W) [true,true,true,true,true,true,true,true,true] rF rF gX (bR.drew) ?_
   intro wS HS
   iterate 9
    all_goals refine wkR ?_
   all_goals refine jA ?_
   have EG:=(tQ hbel HS)
   cases hz:((x.toNat:Int)==(y.toNat:Int))
   · have HT:=yD (show decide (a=b)=false by
       simp at hz;simp;exact HD.out (fun q=>hz rO))
     clear HD HX
     go_wp2
     go_ret
     exact ⟨kG HT.out.symm,EG⟩
   have HT:=yD (HX.out (u8_inj qZ))
   clear HD HX
   go_wp2
   go_roundw
   case rel=>exact ⟨k + 1,by omega,by go_num,HT,EG⟩
   simp [intOf];omega
 have HT:=yD (show decide (a=b)=true by simp;exact yx HN.out hlt HL.out)
 go_wp2
 go_ret
 exact ⟨kG HT.out.symm,hbel⟩
def isK (n:kW) (k:kDu):Bool:=eqN k.1 n
def zh (l:List kDu) (n:kW):Int:=if idxOf (isK n) l < 0 then 0 else (l.getD (idxOf (isK n) l).toNat ([],0)).2
def verS (l:List kDu) (x:jJ):Bool:=verify (zh l x.2.2.1) x
def kFw (l:List kDu) (n:kW):List UInt8:=if zh l n=0 then [] else kBt (digest [zh l n])
section
variable {l:List kDu} {n:kW} {k:Nat}
theorem sec_no (h:idxOf (isK n) l=-1):zh l n=0:=by simp [zh,h]
theorem kVq (hk:k < l.length) (h:idxOf (isK n) l=k):zh l n=l[k].2:=by
 unfold zh
 rw [h,Int.toNat_natCast,jr hk,if_neg rP]
theorem kQl {w:World} {vl:Value} (hl:(Rep.slice 187 jg).raw w [vl] l):-9223372036854775808≤zh l n∧zh l n≤9223372036854775807:=by
 by_cases h:idxOf (isK n) l < 0
 · unfold zh;rw [if_pos h];omega
 obtain ⟨j,hj,hji⟩:=kIn h
 rw [kVq hj hji]
 obtain ⟨al,pl,rfl,ll⟩:=Rep.sl hl
 obtain ⟨qb,qo,hqe,qc0,qc1,qr,_,_⟩:=Rep.kEk hl hj rfl
 obtain ⟨v0,he,_,_,h3⟩:=kCe qr
 exact h3
theorem kUw (h:zh l n=0):kFw l n=[]:=by unfold kFw;rw [if_pos h]
theorem kRy (h:¬ zh l n=0):kFw l n=[]++kBt (digest [zh l n]):=by unfold kFw;rw [if_neg h];rfl
theorem kRz:(kFw l n).length≤6:=by
 unfold kFw
 split
 · simp
 exact kDw _
end
theorem kVm {w:World} {vl:Value} {l:(List kDu)} (hl:(Rep.slice 187 jg).raw w [vl] l) {cn:List Value} {n:kW} (hn:kL.raw w cn n) :
    Calls Tryz.prog 227 #[vl,.agg cn.toArray] w fun e w'=>e=.returned (.int .i64 (idxOf (isK n) l))∧Below w.heap.size w w':=by
 obtain ⟨al,pl,rfl,ll⟩:=Rep.sl hl
 have Hn:=yD hn
 obtain ⟨fnv0,rfl,fn_0⟩:=kM hn
 obtain ⟨fna0,fnp0,rfl,fnl0⟩:=Rep.sl fn_0
 go_enter Tryz.func227,Tryz.ntmps227
 go_wp2
 generalize hwB:World.alloc w _=wB
 have EB:Below w.heap.size w wB:=by rw [← hwB];exact bH
 have K3_0:wB.cell? ⟨w.heap.size,0,none⟩=some (.slice fna0 (n).length fnp0):=nV
 clear hwB
 replace hl:=hl.below EB
 go_loopw [5] (fun i wr=>∃ k:Nat,k≤l.length∧i=.int .i64 k∧Hid (∀ j,(h:j < k)→(h2:j < l.length)→(isK n) l[j]=false)∧Below wB.heap.size wB wr) (fun i _=>l.length - (intOf i).toNat)
 case atStart=>exact ⟨0,Nat.zero_le _,rfl,yD (fun _ h=>by omega),bR⟩
 obtain ⟨k,hk,rfl,HN,hbel⟩:=hrel
 replace K3_0:=cL hbel K3_0
 by_cases hlt:k < l.length
 · obtain ⟨qb,qo,rfl,qc0,qc1,qr,Aq0,Aq1⟩:=Rep.kEk (hl.below hbel) (i:=k) rP rfl
   have hhit:=fun q=>idxOf_hit hlt q HN.out
   have hmis:=fun q=>kAk hlt q HN.out
   generalize l[k]=x at *
   have HD:=yD hhit;have HX:=yD hmis;clear hhit hmis
   obtain ⟨x0,x1⟩:=x
   obtain ⟨qv0,qhe,q_0,q_1,q_2⟩:=kCe qr
   simp only [List.cons.injEq,and_true] at qhe
   obtain ⟨rfl,rfl⟩:=qhe
   obtain ⟨qa0,qp0,rfl,ql0⟩:=Rep.sl q_1
   go_upto_region 4 with fail
   have FX:=yD (fun (W:World) (hW:Below wr.heap.size wr W)=>cLs3 hW K3_0 Aq0 Aq1)
   refine jB (fun W=>Below wr.heap.size wr W) [true,true,true,true,true,true,false] rF rF gX (bR.drew) ?_
   intro wS HS
   iterate 6
    all_goals refine wkR ?_
   all_goals first | refine wkB (zD (Rep.raw.below q_0 HS) (Rep.raw.below Hn.out ((tQ EB (tQ hbel HS))))) (fun wS1 HS=>?_) | refine wkR ?_
   all_goals refine jA ?_
   all_goals cases hg6:eqN x0 n
   all_goals have EG:=(tQ hbel HS)
   all_goals first
     | (have HT:=yD (HD.out (show _=true by simp only [isK,Bool.not_true,Bool.not_false,Bool.and_true,Bool.true_and,Bool.and_false,Bool.false_and,Bool.or_true,Bool.true_or,Bool.or_false,Bool.false_or,Bool.not_not,hg6]));clear HD HX;go_wp2;go_ret;exact ⟨ku HT.out.symm,(tQ EB EG)⟩)
     | (have HT:=yD (HX.out (show _=false by simp only [isK,Bool.not_true,Bool.not_false,Bool.and_true,Bool.true_and,Bool.and_false,Bool.false_and,Bool.or_true,Bool.true_or,Bool.or_false,Bool.false_or,Bool.not_not,hg6]));clear HD HX;go_wp2;go_roundw;(case rel=>exact ⟨k + 1,by omega,by go_num,HT,EG⟩);(case measure=>simp [intOf];omega))
 have HT:=yD (idxOf_miss hlt HN.out)
 go_wp2
 go_ret
 exact ⟨ku HT.out.symm,(tQ EB hbel)⟩
theorem kFc {w:World} {vl:Value} {l:List kDu} (hl:(Rep.slice 187 jg).raw w [vl] l) {cn:List Value} {n:kW} (hn:kL.raw w cn n) :
    Calls Tryz.prog 201 #[vl,.agg cn.toArray] w fun e w'=>e=.returned (.int .i64 (zh l n))∧Below w.heap.size w w':=by
 obtain ⟨al,pl,rfl,ll⟩:=Rep.sl hl
 have HL:=yD hl;have HN:=yD hn
 obtain ⟨nv,rfl,n_0⟩:=kM hn
 obtain ⟨an,capn,rfl,ln⟩:=Rep.sl n_0
 clear hl hn n_0
 go_enter Tryz.func201,Tryz.ntmps201
 go_upto_region 1 with fail
 generalize hwB:World.alloc w _=wB
 have EB:Below w.heap.size w wB:=by rw [← hwB];exact bH
 have K0:wB.cell? ⟨w.heap.size,0,none⟩=some (.slice an n.length capn):=nV
 clear hwB
 go_wp2_with fail
 refine (kVm (HL.out.below EB) (HN.out.below EB) (cn:=[.slice an n.length capn])).mono ?_
 rintro e w1 ⟨rfl,hb⟩
 have E1:=(tQ EB hb)
 clear hb EB K0
 by_cases hi:idxOf (isK n) l < 0
 · have HT:Hid (zh l n=0):=yD (by unfold zh;rw [if_pos hi])
   go_wp2
   go_ret
   exact ⟨ku HT.out.symm,E1⟩
 obtain ⟨j,hj,hji⟩:=kIn hi
 have HT:=yD (kVq hj hji)
 obtain ⟨qb,qo,hqe,qc0,qc1,qr,Aq0,Aq1⟩:=Rep.kEk (HL.out.below E1) hj rfl
 obtain rfl:=hqe
 rw [hji]
 clear hi hji
 generalize l[j]=x at *
 obtain ⟨x0,x1⟩:=x
 obtain ⟨v0,qhe,q_0,q_1,q_2⟩:=kCe qr
 simp only [List.cons.injEq,and_true] at qhe
 obtain ⟨rfl,rfl⟩:=qhe
 have hjI:(j:Int) < l.length:=rP
 have hj0:¬ ((j:Int) < 0):=rP
 have hjz:=Int.natCast_nonneg j
 go_wp2
 go_ret
 exact ⟨ku HT.out.symm,E1⟩
theorem kFh {w:World} {vl:Value} {l:List kDu} (hl:(Rep.slice 187 jg).raw w [vl] l) {cn:List Value} {n:kW} (hn:kL.raw w cn n) :
    Calls Tryz.prog 209 #[vl,.agg cn.toArray] w fun e w'=>e=.returned (.int .i64 (zh l n))∧Below w.heap.size w w':=by
 obtain ⟨al,pl,rfl,ll⟩:=Rep.sl hl
 have HL:=yD hl;have HN:=yD hn
 obtain ⟨nv,rfl,n_0⟩:=kM hn
 obtain ⟨an,capn,rfl,ln⟩:=Rep.sl n_0
 clear hl hn n_0
 go_enter Tryz.func209,Tryz.ntmps209
 go_upto_region 1 with fail
 generalize hwB:World.alloc w _=wB
 have EB:Below w.heap.size w wB:=by rw [← hwB];exact bH
 have K0:wB.cell? ⟨w.heap.size,0,none⟩=some (.slice an n.length capn):=nV
 clear hwB
 go_wp2
 go_loopw [9] (fun i wr=>∃ k:Nat,k≤l.length∧i=.int .i64 k∧Hid (∀ j,(h:j < k)→(h2:j < l.length)→isK n l[j]=false)∧Below wB.heap.size wB wr) (fun i _=>l.length - (intOf i).toNat)
 case atStart=>exact ⟨0,Nat.zero_le _,rfl,yD (fun _ h=>by omega),bR⟩
 obtain ⟨k,hk,rfl,HW,hbel⟩:=hrel
 have EG:=(tQ EB hbel)
 replace K0:=cL hbel K0
 by_cases hlt:k < l.length
 · obtain ⟨qb,qo,rfl,qc0,qc1,qr,Aq0,Aq1⟩:=Rep.kEk (HL.out.below EG) hlt rfl
   have hhit:=fun q=>kVq hlt (idxOf_hit (p:=isK n) hlt q HW.out)
   have hmis:=fun q=>kAk (p:=isK n) hlt q HW.out
   generalize l[k]=x at *
   have HD:=yD hhit;have HX:=yD hmis;clear hhit hmis
   obtain ⟨x0,x1⟩:=x
   obtain ⟨qv0,qhe,q_0,q_1,q_2⟩:=kCe qr
   simp only [List.cons.injEq,and_true] at qhe
   obtain ⟨rfl,rfl⟩:=qhe
   obtain ⟨qa0,qp0,rfl,ql0⟩:=Rep.sl q_1
   go_upto_region 4 with fail
   generalize hwC:World.alloc wr _=wC
   have EC:Below wr.heap.size wr wC:=nA
   have M0:wC.cell? ⟨wr.heap.size,0,none⟩=some (.slice qa0 x0.length qp0):=nW
   have M1:wC.cell? ⟨wr.heap.size,1,none⟩=some (.int .i64 x1):=nW
   replace K0:=cL EC K0
   clear hwC
   have EE:=(tQ EG EC)
   have hbelC:=(tQ hbel EC)
   go_wp2_with fail
   refine (zq (Rep.raw.below q_0 EC) (HN.out.below EE) (ca:=[.slice qa0 x0.length qp0]) (cb:=[.slice an n.length capn])).mono ?_
   rintro e w2 ⟨rfl,hb2⟩
   replace M1:=cL hb2 M1
   have E2:=(tQ EE hb2)
   have hbel2:=(tQ hbelC hb2)
   clear hb2
   cases hv:eqN x0 n
   · have HT:=yD (HX.out hv)
     clear HD HX hv
     go_wp2
     go_roundw
     case rel=>exact ⟨k + 1,by omega,by go_num,HT,hbel2⟩
     simp [intOf];omega
   have HT:=yD (HD.out hv)
   clear HD HX hv
   go_wp2
   go_ret
   exact ⟨ku HT.out.symm,E2⟩
 have HT:=yD (sec_no (idxOf_miss (p:=isK n) hlt HW.out))
 go_wp2
 go_ret
 exact ⟨ku HT.out.symm,EG⟩
def kCy (l:List kDu) (n:kW) (t:Int) (x:jJ):Bool:=((eqN x.1 n && fresh t x) && verS l x) && decide (x.2.1=kFw l n)
def kAz (t:kz) (n:kW) (now:Int):Int:=if zh t.1 n=0 then -1 else idxOf (kCy t.1 n now) t.2.2.2
def isAn (n:kW) (a:kW):Bool:=eqN a n
def kLz (t:kz) (n:kW):Bool:=decide (0≤idxOf (isAn n) t.2.2.1)
theorem fc_no {t:kz} {n:kW} {now:Int} (h:zh t.1 n=0):kAz t n now=-1:=by unfold kAz;rw [if_pos h]
theorem fc_yes {t:kz} {n:kW} {now:Int} (h:¬ zh t.1 n=0):kAz t n now=idxOf (kCy t.1 n now) t.2.2.2:=by unfold kAz;rw [if_neg h]
theorem kDv {w:World} {vl:Value} {l:List kDu} (hl:(Rep.slice 187 jg).raw w [vl] l) {cx:List Value} {x:jJ} (hx:kP.rd w cx x) (hc:x.2.1.length≤2000000) :
    Calls Tryz.prog 168 #[vl,.agg cx.toArray] w fun e w'=>e=.returned (.bool (verS l x))∧Below w.heap.size w w':=by
 obtain ⟨al,pl,rfl,ll⟩:=Rep.sl hl
 have HL:=yD hl;have HX:=yD hx
 have hy:=hx.1
 obtain ⟨av0,av1,av2,rfl,a_0,a_1,a_2,a_3,a_4,a_5,a_6⟩:=kY hy
 obtain ⟨aa0,ap0,rfl,al0⟩:=Rep.sl a_1
 obtain ⟨aa1,ap1,rfl,al1⟩:=Rep.sl a_2
 obtain ⟨aa2,ap2,rfl,al2⟩:=Rep.sl a_4
 have HK:=yD a_3
 have HR:=yD (kQl (n:=x.2.2.1) hl)
 clear hl hx hy a_0 a_1 a_2 a_3 a_4 a_5 a_6
 go_enter Tryz.func168,Tryz.ntmps168
 go_upto_region 1 with fail
 generalize hwB:World.alloc w _=wB
 have EB:Below w.heap.size w wB:=by rw [← hwB];exact bH
 have K0:wB.cell? ⟨w.heap.size,0,none⟩=some (.slice aa0 x.1.length ap0):=nV
 have K1:wB.cell? ⟨w.heap.size,1,none⟩=some (.slice aa1 x.2.1.length ap1):=nV
 have K2:wB.cell? ⟨w.heap.size,2,none⟩=some (.slice aa2 x.2.2.1.length ap2):=nV
 have K3:wB.cell? ⟨w.heap.size,3,none⟩=some (.int .i64 x.2.2.2.1):=nV
 have K4:wB.cell? ⟨w.heap.size,4,none⟩=some (.int .i64 x.2.2.2.2):=nV
 clear hwB
 have FX:=yD (fun (W:World) (hW:Below wB.heap.size wB W)=>kMn hW K0 K1 K2 K3 K4)
 refine yG (fun W=>Below wB.heap.size wB W) [(0,true),(1,true),(2,true),(4,true),(3,false),(5,false),(6,true)] rF rF gX (bR.drew) ?_
 intro wS HS
 simp only [jY,List.getElem?_cons_succ,List.getElem?_cons_zero,List.map_cons,List.map_nil]
 iterate 4
  all_goals refine wkR ?_
 all_goals first | refine wkB (kFc (HL.out.below (tQ EB HS)) (HK.out.below (tQ EB HS)) (cn:=[.slice aa2 x.2.2.1.length ap2])) (fun wS1 HS=>?_) | refine wkR ?_
 all_goals first | refine wkB (kNc HR.out (HX.out.below (tQ EB HS)) hc (cx:=[.slice aa0 x.1.length ap0,.slice aa1 x.2.1.length ap1,.slice aa2 x.2.2.1.length ap2,.int .i64 x.2.2.2.1,.int .i64 x.2.2.2.2])) (fun wS1 HS=>?_) | refine wkR ?_
 all_goals refine wkR ?_
 all_goals refine jA ?_
 have EG:=(tQ EB HS)
 go_wp2
 go_ret
 exact ⟨rfl,EG⟩
theorem kPo {w:World} {vl:Value} {l:List kDu} (hl:(Rep.slice 187 jg).raw w [vl] l) {cn:List Value} {n:kW} (hn:kL.raw w cn n) :
    Calls Tryz.prog 205 #[vl,.agg cn.toArray] w (kAt 5 Rep.byte (kFw l n) w):=by
 obtain ⟨al,pl,rfl,ll⟩:=Rep.sl hl
 have HL:=yD hl;have HN:=yD hn
 have HR:=yD (show I64q (zh l n) from kQl hl)
 obtain ⟨nv,rfl,n_0⟩:=kM hn
 obtain ⟨an,capn,rfl,ln⟩:=Rep.sl n_0
 clear hl hn n_0
 go_enter Tryz.func205,Tryz.ntmps205
 go_upto_region 1 with fail
 generalize hwB:World.alloc w _=wB
 have EB:Below w.heap.size w wB:=by rw [← hwB];exact bH
 have K0:wB.cell? ⟨w.heap.size,0,none⟩=some (.slice an n.length capn):=nV
 clear hwB
 go_wp2_with fail
 refine (kFc (HL.out.below EB) (HN.out.below EB) (cn:=[.slice an n.length capn])).mono ?_
 rintro e w1 ⟨rfl,hb⟩
 have E1:=(tQ EB hb)
 clear hb EB K0
 by_cases h0:zh l n=0
 · have HT:=yD (kUw h0)
   have h0b:(zh l n==0)=true:=qV
   go_wp2
   go_ret
   exact ⟨_,rfl,(Rep.kg.void:Rep.kg 5 Rep.byte _ _ [] _).cast HT.out.symm,(by repeat (first|(with_reducible exact E1) | refine Below.alloc ?_ (by have:=Below.size E1;simp;try omega) _ | refine Below.drew ?_ | refine Below.setCell ?_ (by have:=Below.size E1;simp;try omega) _))⟩
 have HT:=yD (kRy h0)
 have h0b:(zh l n==0)=false:=qV
 generalize zh l n=s at *
 have RD:=((kFv (w:=(w1.alloc (.cells #[] 5))) (x:=s) (e:=3) HR.out).own nT).raw
 have RV:=((Rep.kg.void (e:=5) (r:=Rep.byte) (w:=World.alloc (w1.alloc (.cells #[] 5)) (.cells #[.int .i64 s] 3)) (a:=some ⟨w1.heap.size,0,none⟩) (S:=fun _=>False)).own (Nat.zero_le _)).rd
 clear h0
 go_wp2_with fail
 refine (kLo (by simpa using RD)).mono ?_
 rintro e w2 ⟨rfl,hw⟩
 obtain rfl:=hw.symm
 go_wp2_with fail
 refine (kCs RV).mono ?_
 rintro e w3 ⟨v3,rfl,O3,hb3⟩
 obtain ⟨a3,n3,c3,hv3,HN3⟩:=O3.parts;obtain rfl:=hv3
 have E3:Below w.heap.size w w3:=E1.trans (Below.trans (by repeat (first|(with_reducible exact bR) | refine Below.alloc ?_ (by have:=E1.size;simp;try omega) _)) (hb3.mono (by have:=E1.size;simp;omega)))
 have HO3:=yD (O3.wide (T:=Btw w.heap.size w3.heap.size) (fun j hj=>⟨by have h1:=hj.1;have h2:=E1.size;(try simp at h1);omega,hj.2⟩))
 clear O3 hb3 RD RV
 go_wp2
 go_ret
 exact ⟨_,rfl,HO3.out.cast HT.out.symm,E3⟩
theorem kBs {w:World} {vl:Value} {l:List kDu} (hl:(Rep.slice 187 jg).raw w [vl] l) {cx:List Value} {x:jJ} (hx:kP.rd w cx x) (hc:x.2.1.length≤2000000) :
    Calls Tryz.prog 179 #[vl,.agg cx.toArray] w fun e w'=>e=.returned (.bool (verS l x))∧Below w.heap.size w w':=by
 obtain ⟨al,pl,rfl,ll⟩:=Rep.sl hl
 have HL:=yD hl;have HX:=yD hx
 have hy:=hx.1
 obtain ⟨av0,av1,av2,rfl,a_0,a_1,a_2,a_3,a_4,a_5,a_6⟩:=kY hy
 obtain ⟨aa0,ap0,rfl,al0⟩:=Rep.sl a_1
 obtain ⟨aa1,ap1,rfl,al1⟩:=Rep.sl a_2
 obtain ⟨aa2,ap2,rfl,al2⟩:=Rep.sl a_4
 have HK:=yD a_3
 have HR:=yD (kQl (n:=x.2.2.1) hl)
 clear hl hx hy a_0 a_1 a_2 a_3 a_4 a_5 a_6
 go_enter Tryz.func179,Tryz.ntmps179
 go_upto_region 1 with fail
 generalize hwB:World.alloc w _=wB
 have EB:Below w.heap.size w wB:=by rw [← hwB];exact bH
 have K0:wB.cell? ⟨w.heap.size,0,none⟩=some (.slice aa0 x.1.length ap0):=nV
 have K1:wB.cell? ⟨w.heap.size,1,none⟩=some (.slice aa1 x.2.1.length ap1):=nV
 have K2:wB.cell? ⟨w.heap.size,2,none⟩=some (.slice aa2 x.2.2.1.length ap2):=nV
 have K3:wB.cell? ⟨w.heap.size,3,none⟩=some (.int .i64 x.2.2.2.1):=nV
 have K4:wB.cell? ⟨w.heap.size,4,none⟩=some (.int .i64 x.2.2.2.2):=nV
 clear hwB
 have FX:=yD (fun (W:World) (hW:Below wB.heap.size wB W)=>kMn hW K0 K1 K2 K3 K4)
 refine yG (fun W=>Below wB.heap.size wB W) [(0,true),(1,true),(2,true),(4,true),(3,false),(5,false),(6,true)] rF rF gX (bR.drew) ?_
 intro wS HS
 simp only [jY,List.getElem?_cons_succ,List.getElem?_cons_zero,List.map_cons,List.map_nil]
 iterate 4
  all_goals refine wkR ?_
 all_goals first | refine wkB (kFh (HL.out.below (tQ EB HS)) (HK.out.below (tQ EB HS)) (cn:=[.slice aa2 x.2.2.1.length ap2])) (fun wS1 HS=>?_) | refine wkR ?_
 all_goals first | refine wkB (kNu HR.out (HX.out.below (tQ EB HS)) hc (cx:=[.slice aa0 x.1.length ap0,.slice aa1 x.2.1.length ap1,.slice aa2 x.2.2.1.length ap2,.int .i64 x.2.2.2.1,.int .i64 x.2.2.2.2])) (fun wS1 HS=>?_) | refine wkR ?_
 all_goals refine wkR ?_
 all_goals refine jA ?_
 have EG:=(tQ EB HS)
 go_wp2
 go_ret
 exact ⟨rfl,EG⟩
theorem kPw {w:World} {vl:Value} {l:List kDu} (hl:(Rep.slice 187 jg).raw w [vl] l) {cn:List Value} {n:kW} (hn:kL.raw w cn n) :
    Calls Tryz.prog 216 #[vl,.agg cn.toArray] w (kAt 5 Rep.byte (kFw l n) w):=by
 obtain ⟨al,pl,rfl,ll⟩:=Rep.sl hl
 have HL:=yD hl;have HN:=yD hn
 have HR:=yD (show I64q (zh l n) from kQl hl)
 obtain ⟨nv,rfl,n_0⟩:=kM hn
 obtain ⟨an,capn,rfl,ln⟩:=Rep.sl n_0
 clear hl hn n_0
 go_enter Tryz.func216,Tryz.ntmps216
 go_upto_region 1 with fail
 generalize hwB:World.alloc w _=wB
 have EB:Below w.heap.size w wB:=by rw [← hwB];exact bH
 have K0:wB.cell? ⟨w.heap.size,0,none⟩=some (.slice an n.length capn):=nV
 clear hwB
 go_wp2_with fail
 refine (kFh (HL.out.below EB) (HN.out.below EB) (cn:=[.slice an n.length capn])).mono ?_
 rintro e w1 ⟨rfl,hb⟩
 have E1:=(tQ EB hb)
 clear hb EB K0
 by_cases h0:zh l n=0
 · have HT:=yD (kUw h0)
   have h0b:(zh l n==0)=true:=qV
   go_wp2
   go_ret
   exact ⟨_,rfl,(Rep.kg.void:Rep.kg 5 Rep.byte _ _ [] _).cast HT.out.symm,E1⟩
 have HT:=yD (kRy h0)
 have h0b:(zh l n==0)=false:=qV
 generalize zh l n=s at *
 have RD:=((kFv (w:=w1) (x:=s) (e:=3) HR.out).own nT).raw
 have RV:=((Rep.kg.void (e:=5) (r:=Rep.byte) (w:=World.alloc w1 (.cells #[.int .i64 s] 3)) (a:=none) (S:=fun _=>False)).own (Nat.zero_le _)).rd
 clear h0
 go_wp2_with fail
 refine (kMe (by simpa using RD)).mono ?_
 rintro e w2 ⟨rfl,hw⟩
 obtain rfl:=hw.symm
 go_wp2_with fail
 refine (kCx RV).mono ?_
 rintro e w3 ⟨v3,rfl,O3,hb3⟩
 obtain ⟨a3,n3,c3,hv3,HN3⟩:=O3.parts;obtain rfl:=hv3
 have E3:Below w.heap.size w w3:=E1.trans (Below.trans (by repeat (first|(with_reducible exact bR) | refine Below.alloc ?_ (by have:=E1.size;simp;try omega) _)) (hb3.mono (by have:=E1.size;simp;omega)))
 have HO3:=yD (O3.wide (T:=Btw w.heap.size w3.heap.size) (fun j hj=>⟨by have h1:=hj.1;have h2:=E1.size;(try simp at h1);omega,hj.2⟩))
 clear O3 hb3 RD RV
 go_wp2
 go_ret
 exact ⟨_,rfl,HO3.out.cast HT.out.symm,E3⟩
theorem kPy {w:World} {ca:List Value} {a:kW} (ha:kL.raw w ca a) {n:kW} {nc0:Value} {Bn:Nat} (nr:kL.raw w [nc0] n) (An0:w.cell? ⟨Bn,0,none⟩=some nc0) :
    Calls Tryz.prog 212 (#[.agg ca.toArray]++#[.pointer (some ⟨Bn,0,none⟩)]) w fun e w'=>e=.returned (.bool (isAn n a))∧Below w.heap.size w w':=by
 have Ha:=yD ha
 obtain ⟨fav0,rfl,fa_0⟩:=kM ha
 obtain ⟨faa0,fap0,rfl,fal0⟩:=Rep.sl fa_0
 obtain ⟨nv0,nhe,n_0⟩:=kM nr
 simp only [List.cons.injEq,and_true] at nhe
 obtain rfl:=nhe
 obtain ⟨na0,np0,rfl,nl0⟩:=Rep.sl n_0
 show Calls Tryz.prog 212 #[_,_] w _
 go_enter Tryz.func212,Tryz.ntmps212
 go_upto_region 1 with fail
 generalize hwB:World.alloc w _=wB
 have EB:Below w.heap.size w wB:=by rw [← hwB];exact bH
 have K2_0:wB.cell? ⟨w.heap.size,0,none⟩=some (.slice faa0 (a).length fap0):=nV
 clear hwB
 replace An0:=cL EB An0
 have FX:=yD (fun (W:World) (hW:Below wB.heap.size wB W)=>cLs2 hW K2_0 An0)
 refine jE (fun W=>Below wB.heap.size wB W) [true,true,false,true] bR ?_
 intro wS HS
 all_goals refine wkR ?_
 all_goals refine wkR ?_
 all_goals first | refine wkB (zq (Rep.raw.below Ha.out (tQ EB HS)) (Rep.raw.below nr (tQ EB HS))) (fun wS1 HS=>?_) | refine wkR ?_
 all_goals (have hg3:=True.intro;first|(refine wkG (fun b hg3=>?_);cases b;all_goals first | exact Bool.noConfusion hg3 | simp only [zU,zV] at hg3 | skip) | refine wkR ?_)
 all_goals refine wkP ?_
 all_goals refine jA ?_
 all_goals have EG:=(tQ EB HS)
 all_goals first
   | (have HT:=yD (show (isAn n a)=false by simp only [isAn,Bool.not_true,Bool.not_false,Bool.and_true,Bool.true_and,Bool.and_false,Bool.false_and,Bool.or_true,Bool.true_or,Bool.or_false,Bool.false_or,Bool.not_not,hg3]);go_wp2;go_ret;exact ⟨kG HT.out.symm,EG⟩)
   | (have HT:=yD (show (isAn n a)=true by simp only [isAn,Bool.not_true,Bool.not_false,Bool.and_true,Bool.true_and,Bool.and_false,Bool.false_and,Bool.or_true,Bool.true_or,Bool.or_false,Bool.false_or,Bool.not_not,hg3]);go_wp2;go_ret;exact ⟨kG HT.out.symm,EG⟩)
theorem kFz:jm Tryz.prog 212:=kAn Tryz.func212 rF rF
theorem kSd {w:World} {ct:List Value} {t:kz} (ht:kT.raw w ct t) {cn:List Value} {n:kW} (hn:kL.raw w cn n) :
    Calls Tryz.prog 181 #[.agg ct.toArray,.agg cn.toArray] w fun e w'=>e=.returned (.bool (kLz t n))∧Below w.heap.size w w':=by
 obtain ⟨tv0,tv1,tv2,tv3,rfl,t_0,t_1,t_2,t_3⟩:=kw ht
 obtain ⟨ta0,tp0,rfl,tl0⟩:=Rep.sl t_0
 obtain ⟨ta1,tp1,rfl,tl1⟩:=Rep.sl t_1
 obtain ⟨ta2,tp2,rfl,tl2⟩:=Rep.sl t_2
 obtain ⟨ta3,tp3,rfl,tl3⟩:=Rep.sl t_3
 have HTK:=yD t_0;have HTR:=yD t_1;have HTA:=yD t_2;have HTC:=yD t_3
 obtain ⟨nv,rfl,n_0⟩:=kM hn
 obtain ⟨an,capn,rfl,ln⟩:=Rep.sl n_0
 have HN:=yD hn
 clear ht hn n_0 t_0 t_1 t_2 t_3
 go_enter Tryz.func181,Tryz.ntmps181
 go_upto_region 1 with fail
 generalize hwB:World.alloc (World.alloc w _) _=wB
 have EB:Below w.heap.size w wB:=by rw [← hwB];exact bH
 have K0:wB.cell? ⟨w.heap.size,0,none⟩=some (.slice ta0 t.1.length tp0):=nV
 have K1:wB.cell? ⟨w.heap.size,1,none⟩=some (.slice ta1 t.2.1.length tp1):=nV
 have K2:wB.cell? ⟨w.heap.size,2,none⟩=some (.slice ta2 t.2.2.1.length tp2):=nV
 have K3:wB.cell? ⟨w.heap.size,3,none⟩=some (.slice ta3 t.2.2.2.length tp3):=nV
 have K4:wB.cell? ⟨w.heap.size + 1,0,none⟩=some (.slice an n.length capn):=nV
 clear hwB
 go_wp2_with fail
 refine (kJy (isAn n) kFz (HTA.out.below EB) ?_).mono ?_
 · intro wr hb i h cs hr
   exact kPy hr (Rep.raw.below HN.out (tQ EB hb)) (cL hb K4)
 rintro e w1 ⟨rfl,hb1⟩
 have E1:=(tQ EB hb1)
 clear hb1
 go_wp2
 go_ret
 exact ⟨kG rfl,E1⟩
theorem kRd {w:World} {ct:List Value} {t:kz} (ht:kT.raw w ct t) {cn:List Value} {n:kW} (hn:kL.raw w cn n) :
    Calls Tryz.prog 170 #[.agg ct.toArray,.agg cn.toArray] w fun e w'=>e=.returned (.bool (kLz t n))∧Below w.heap.size w w':=by
 obtain ⟨tv0,tv1,tv2,tv3,rfl,t_0,t_1,t_2,t_3⟩:=kw ht
 obtain ⟨ta0,tp0,rfl,tl0⟩:=Rep.sl t_0
 obtain ⟨ta1,tp1,rfl,tl1⟩:=Rep.sl t_1
 obtain ⟨ta2,tp2,rfl,tl2⟩:=Rep.sl t_2
 obtain ⟨ta3,tp3,rfl,tl3⟩:=Rep.sl t_3
 have HTK:=yD t_0;have HTR:=yD t_1;have HTA:=yD t_2;have HTC:=yD t_3
 obtain ⟨nv,rfl,n_0⟩:=kM hn
 obtain ⟨an,capn,rfl,ln⟩:=Rep.sl n_0
 have HN:=yD hn
 have HV:=yD (show kLz t n=decide (0≤idxOf (isAn n) t.2.2.1) from rfl)
 clear ht hn n_0 t_0 t_1 t_2 t_3
 go_enter Tryz.func170,Tryz.ntmps170
 go_upto_region 1 with fail
 generalize hwB:World.alloc (World.alloc w _) _=wB
 have EB:Below w.heap.size w wB:=by rw [← hwB];exact bH
 have K0:wB.cell? ⟨w.heap.size,0,none⟩=some (.slice ta0 t.1.length tp0):=nV
 have K1:wB.cell? ⟨w.heap.size,1,none⟩=some (.slice ta1 t.2.1.length tp1):=nV
 have K2:wB.cell? ⟨w.heap.size,2,none⟩=some (.slice ta2 t.2.2.1.length tp2):=nV
 have K3:wB.cell? ⟨w.heap.size,3,none⟩=some (.slice ta3 t.2.2.2.length tp3):=nV
 have K4:wB.cell? ⟨w.heap.size + 1,0,none⟩=some (.slice an n.length capn):=nV
 clear hwB
 generalize t.2.2.1=l at *
 go_wp2
 go_loopw [5] (fun i wr=>∃ k:Nat,k≤l.length∧i=.int .i64 k∧Hid (∀ j,(h:j < k)→(h2:j < l.length)→isAn n l[j]=false)∧Below wB.heap.size wB wr) (fun i _=>l.length - (intOf i).toNat)
 case atStart=>exact ⟨0,Nat.zero_le _,rfl,yD (fun _ h=>by omega),bR⟩
 obtain ⟨k,hk,rfl,HW,hbel⟩:=hrel
 have EG:=(tQ EB hbel)
 replace K2:=cL hbel K2
 replace K4:=cL hbel K4
 by_cases hlt:k < l.length
 · obtain ⟨qb,qo,rfl,qc0,qr,Aq0⟩:=Rep.kAy (HTA.out.below EG) hlt rfl
   have hhit:=fun q=>idxOf_hit (p:=isAn n) hlt q HW.out
   have hmis:=fun q=>kAk (p:=isAn n) hlt q HW.out
   generalize l[k]=x at *
   have HD:=yD hhit;have HX:=yD hmis;clear hhit hmis
   go_upto_region 4 with fail
   have FX:=yD (fun (W:World) (hW:Below wr.heap.size wr W)=>cLs3 hW K2 K4 Aq0)
   refine jB (fun W=>Below wr.heap.size wr W) [true,true,true,true,true,true,false] rF rF gX (bR.drew) ?_
   intro wS HS
   iterate 6
    all_goals refine wkR ?_
   all_goals first | refine wkB (zD (Rep.raw.below qr HS) (HN.out.below (tQ EG HS)) (cb:=[.slice an n.length capn])) (fun wS1 HS=>?_) | refine wkR ?_
   all_goals refine jA ?_
   all_goals have ER:=(tQ hbel HS)
   all_goals have EF:=(tQ EG HS)
   all_goals cases hv:eqN x n
   · have HT:=yD (HX.out hv)
     clear HD HX hv
     go_wp2
     go_roundw
     case rel=>exact ⟨k + 1,by omega,by go_num,HT,ER⟩
     simp [intOf];omega
   have HT:=yD (HD.out hv)
   clear HD HX hv
   go_wp2
   go_ret
   exact ⟨kG (by rw [HV.out,HT.out];simp),EF⟩
 have HT:=yD (idxOf_miss hlt HW.out)
 go_wp2
 go_ret
 exact ⟨kG (by rw [HV.out,HT.out];rfl),EG⟩
theorem kHs {w:World} {ct:List Value} {t:kz} (ht0:kT.rd w ct t) (hB:∀ k (h:k < t.2.2.2.length),t.2.2.2[k].2.1.length≤2000000) {cn:List Value} {n:kW} (hn:kL.raw w cn n) {now:Int} :
    Calls Tryz.prog 171 #[.agg ct.toArray,.agg cn.toArray,.int .i64 now] w fun e w'=>e=.returned (.int .i64 (kAz t n now))∧Below w.heap.size w w':=by
 have ht:=ht0.1
 have HBD:=yD (show ∀ k (h:k < t.2.2.2.length),kP.bdd Big t.2.2.2[k] from fun k h=>ht0.2.2.2.2.2 _ (List.getElem_mem h))
 have HBC:=yD hB
 obtain ⟨tv0,tv1,tv2,tv3,rfl,t_0,t_1,t_2,t_3⟩:=kw ht
 obtain ⟨ta0,tp0,rfl,tl0⟩:=Rep.sl t_0
 obtain ⟨ta1,tp1,rfl,tl1⟩:=Rep.sl t_1
 obtain ⟨ta2,tp2,rfl,tl2⟩:=Rep.sl t_2
 obtain ⟨ta3,tp3,rfl,tl3⟩:=Rep.sl t_3
 have HTK:=yD t_0;have HTR:=yD t_1;have HTA:=yD t_2;have HTC:=yD t_3
 obtain ⟨nv,rfl,n_0⟩:=kM hn
 obtain ⟨an,capn,rfl,ln⟩:=Rep.sl n_0
 have HN:=yD hn
 clear ht ht0 hB hn n_0 t_0 t_1 t_2 t_3
 go_enter Tryz.func171,Tryz.ntmps171
 go_upto_region 1 with fail
 generalize hwB:World.alloc (World.alloc w _) _=wB
 have EB:Below w.heap.size w wB:=by rw [← hwB];exact bH
 have K0:wB.cell? ⟨w.heap.size,0,none⟩=some (.slice ta0 t.1.length tp0):=nV
 have K1:wB.cell? ⟨w.heap.size,1,none⟩=some (.slice ta1 t.2.1.length tp1):=nV
 have K2:wB.cell? ⟨w.heap.size,2,none⟩=some (.slice ta2 t.2.2.1.length tp2):=nV
 have K3:wB.cell? ⟨w.heap.size,3,none⟩=some (.slice ta3 t.2.2.2.length tp3):=nV
 have K4:wB.cell? ⟨w.heap.size + 1,0,none⟩=some (.slice an n.length capn):=nV
 clear hwB
 go_wp2_with fail
 refine (kFc (HTK.out.below EB) (HN.out.below EB) (cn:=[.slice an n.length capn])).mono ?_
 rintro e w1 ⟨rfl,hb⟩
 have E1:=(tQ EB hb)
 replace K0:=cL hb K0
 replace K1:=cL hb K1
 replace K2:=cL hb K2
 replace K3:=cL hb K3
 replace K4:=cL hb K4
 clear hb EB
 by_cases h0:zh t.1 n=0
 · have HT:=yD (fc_no (now:=now) h0)
   have h0b:(zh t.1 n==0)=true:=qV
   go_wp2
   go_ret
   exact ⟨ku HT.out.symm,E1⟩
 have HFC:=yD (fc_yes (now:=now) h0)
 have h0b:(zh t.1 n==0)=false:=qV
 clear h0
 go_wp2
 clear h0b
 go_loopw [7] (fun i wr=>∃ k:Nat,k≤t.2.2.2.length∧i=.int .i64 k∧Hid (∀ j,(h:j < k)→(h2:j < t.2.2.2.length)→kCy t.1 n now t.2.2.2[j]=false)∧Below w1.heap.size w1 wr) (fun i _=>t.2.2.2.length - (intOf i).toNat)
 case atStart=>exact ⟨0,Nat.zero_le _,rfl,yD (fun _ h=>by omega),bR⟩
 obtain ⟨k,hk,rfl,HW,hbel⟩:=hrel
 have EG:=(tQ E1 hbel)
 replace K0:=cL hbel K0
 replace K1:=cL hbel K1
 replace K2:=cL hbel K2
 replace K3:=cL hbel K3
 replace K4:=cL hbel K4
 by_cases hlt:k < t.2.2.2.length
 · obtain ⟨qb,qo,rfl,qc0,qc1,qc2,qc3,qc4,qr,Aq0,Aq1,Aq2,Aq3,Aq4⟩:=Rep.get5 (HTC.out.below EG) hlt rfl
   have hhit:=fun q=>idxOf_hit (p:=kCy t.1 n now) hlt q HW.out
   have hmis:=fun q=>kAk (p:=kCy t.1 n now) hlt q HW.out
   have hxb:=HBD.out k hlt
   have hxc:=HBC.out k hlt
   generalize t.2.2.2[k]=x at *
   have HD:=yD hhit;have HX:=yD hmis;clear hhit hmis
   have HXR:=yD (show kP.rd wr _ x from ⟨qr,hxb⟩)
   obtain ⟨qv0,qv1,qv2,qhe,q_0,q_1,q_2,q_3,q_4,q_5,q_6⟩:=kY qr
   simp only [List.cons.injEq,and_true] at qhe
   obtain ⟨rfl,rfl,rfl,rfl,rfl⟩:=qhe
   obtain ⟨qa0,qp0,rfl,ql0⟩:=Rep.sl q_1
   obtain ⟨qa1,qp1,rfl,ql1⟩:=Rep.sl q_2
   obtain ⟨qa2,qp2,rfl,ql2⟩:=Rep.sl q_4
   clear hxb
   go_upto_region 7 with fail
   generalize hwC:World.alloc wr _=wC
   have EC:Below wr.heap.size wr wC:=nA
   have M0:wC.cell? ⟨wr.heap.size,0,none⟩=some (.slice qa0 x.1.length qp0):=nW
   have M1:wC.cell? ⟨wr.heap.size,1,none⟩=some (.slice qa1 x.2.1.length qp1):=nW
   have M2:wC.cell? ⟨wr.heap.size,2,none⟩=some (.slice qa2 x.2.2.1.length qp2):=nW
   have M3:wC.cell? ⟨wr.heap.size,3,none⟩=some (.int .i64 x.2.2.2.1):=nW
   have M4:wC.cell? ⟨wr.heap.size,4,none⟩=some (.int .i64 x.2.2.2.2):=nW
   replace K0:=cL EC K0
   replace K1:=cL EC K1
   replace K2:=cL EC K2
   replace K3:=cL EC K3
   replace K4:=cL EC K4
   clear hwC
   have EE:=(tQ EG EC)
   have hbelC:=(tQ hbel EC)
   have FX:=yD (fun (W:World) (hW:Below wC.heap.size wC W)=>cLs10 hW K0 K1 K2 K3 K4 M0 M1 M2 M3 M4)
   refine jB (fun W=>Below wC.heap.size wC W) [true,true,true,false,true,true,true,false,true,true,true,true,true,false,true,true,true,true,true,true,true,false,false,true] rF rF gX (bR.drew) ?_
   intro wS HS
   iterate 3
    all_goals refine wkR ?_
   all_goals first | refine wkB (zD (Rep.raw.below q_0 (tQ EC HS)) (HN.out.below (tQ EE HS)) (ca:=[.slice qa0 x.1.length qp0]) (cb:=[.slice an n.length capn])) (fun wS1 HS=>?_) | refine wkR ?_
   all_goals (have hg4:=True.intro;first|(refine wkG (fun b hg4=>?_);cases b;all_goals first | exact Bool.noConfusion hg4 | simp only [zU,zV] at hg4 | skip) | refine wkR ?_)
   all_goals refine wkP ?_
   all_goals refine wkR ?_
   all_goals refine wkR ?_
   all_goals first | refine wkB (kTl (HXR.out.below (tQ EC HS)).1 (cx:=[.slice qa0 x.1.length qp0,.slice qa1 x.2.1.length qp1,.slice qa2 x.2.2.1.length qp2,.int .i64 x.2.2.2.1,.int .i64 x.2.2.2.2])) (fun wS1 HS=>?_) | refine wkR ?_
   all_goals refine wkR ?_
   all_goals (have hg9:=True.intro;first|(refine wkG (fun b hg9=>?_);cases b;all_goals first | exact Bool.noConfusion hg9 | simp only [zU,zV] at hg9 | skip) | refine wkR ?_)
   all_goals refine wkP ?_
   iterate 3
    all_goals refine wkR ?_
   all_goals first | refine wkB (kDv (HTK.out.below (tQ EE HS)) (HXR.out.below (tQ EC HS)) hxc (cx:=[.slice qa0 x.1.length qp0,.slice qa1 x.2.1.length qp1,.slice qa2 x.2.2.1.length qp2,.int .i64 x.2.2.2.1,.int .i64 x.2.2.2.2])) (fun wS1 HS=>?_) | refine wkR ?_
   all_goals refine wkR ?_
   all_goals (have hg15:=True.intro;first|(refine wkG (fun b hg15=>?_);cases b;all_goals first | exact Bool.noConfusion hg15 | simp only [zU,zV] at hg15 | skip) | refine wkR ?_)
   all_goals refine wkP ?_
   iterate 5
    all_goals refine wkR ?_
   all_goals first|(refine kU rfl HS ?_)|(refine ky rfl (fun K hK=>?_);go_simp;refine (kPo (HTK.out.below (tQ EE HS)) (HN.out.below (tQ EE HS)) (cn:=[.slice an n.length capn])).mono ?_;rintro e wS1 ⟨vk,rfl,OK,hbS⟩;obtain ⟨ak,nk,ck,hvk,HNk⟩:=OK.parts;obtain rfl:=hvk;have RK:=(OK.own (by have:=kRz (l:=t.1) (n:=n);unfold Big;omega)).raw;clear OK;replace HS:=(tQ HS hbS);refine hK _ _ HS ?_;clear hK K hbS)
   all_goals refine wkP ?_
   all_goals first|(refine kU rfl HS ?_)|(refine ky rfl (fun K hK=>?_);go_simp;refine (kNg (Rep.raw.below q_2 (tQ EC HS)) RK).mono ?_;rintro e wS2 ⟨rfl,hbS⟩;replace HS:=(tQ HS hbS);refine hK _ _ HS ?_;clear hK K hbS RK)
   all_goals refine wkP ?_
   all_goals (have hg23:=True.intro;first|(refine wkG (fun b hg23=>?_);cases b;all_goals first | exact Bool.noConfusion hg23 | simp only [zU,zV] at hg23 | skip) | refine wkR ?_)
   all_goals refine wkP ?_
   all_goals refine jA ?_
   all_goals have EF:=(tQ EE HS)
   all_goals have ER:=(tQ hbelC HS)
   all_goals clear EC
   all_goals first
     | (have HT:=yD (HD.out (show kCy t.1 n now x=true by simp only [kCy,Bool.not_true,Bool.not_false,Bool.and_true,Bool.true_and,Bool.and_false,Bool.false_and,Bool.or_true,Bool.true_or,Bool.or_false,Bool.false_or,Bool.not_not,hg4,hg9,hg15,hg23]));clear HD HX;go_wp2;go_ret;exact ⟨ku (by rw [HFC.out,HT.out]),EF⟩)
     | (have HT:=yD (HX.out (show kCy t.1 n now x=false by simp only [kCy,Bool.not_true,Bool.not_false,Bool.and_true,Bool.true_and,Bool.and_false,Bool.false_and,Bool.or_true,Bool.true_or,Bool.or_false,Bool.false_or,Bool.not_not,hg4,hg9,hg15,hg23]));clear HD HX;go_wp2;go_roundw;(case rel=>exact ⟨k + 1,by omega,by go_num,HT,ER⟩);(case measure=>simp [intOf];omega))
 have HT:=yD (idxOf_miss hlt HW.out)
 go_wp2
 go_ret
 exact ⟨ku (by rw [HFC.out,HT.out]),EG⟩
theorem kHb {w:World} {cx:List Value} {x:jJ} (hx:kP.rd w cx x) (hxc:x.2.1.length≤2000000) {n:kW} {an:Option Addr} {capn Bn:Nat} (hn:kL.raw w [.slice an n.length capn] n) (An:w.cell? ⟨Bn,0,none⟩=some (.slice an n.length capn))
    {now:Int} {Bw:Nat} (Aw:w.cell? ⟨Bw,0,none⟩=some (.int .i64 now)) {t:kz} {ta0:Option Addr} {tp0 Bt:Nat} (hk:(Rep.slice 187 jg).raw w [.slice ta0 t.1.length tp0] t.1) (At:w.cell? ⟨Bt,0,none⟩=some (.slice ta0 t.1.length tp0)) :
    Calls Tryz.prog 213 (#[.agg cx.toArray]++#[.pointer (some ⟨Bn,0,none⟩),.pointer (some ⟨Bw,0,none⟩),.pointer (some ⟨Bt,0,none⟩)]) w fun e w'=>e=.returned (.bool (kCy t.1 n now x))∧Below w.heap.size w w':=by
 have hy:=hx.1
 obtain ⟨qv0,qv1,qv2,rfl,q_0,q_1,q_2,q_3,q_4,q_5,q_6⟩:=kY hy
 obtain ⟨qa0,qp0,rfl,ql0⟩:=Rep.sl q_1
 obtain ⟨qa1,qp1,rfl,ql1⟩:=Rep.sl q_2
 obtain ⟨qa2,qp2,rfl,ql2⟩:=Rep.sl q_4
 have HXR:=yD hx;have HN:=yD hn;have HTK:=yD hk;have HQ0:=yD q_0;have HQ2:=yD q_2
 clear hx hn hk q_0 q_1 q_2 q_3 q_4 q_5 q_6
 show Calls Tryz.prog 213 #[_,_,_,_] w _
 go_enter Tryz.func213,Tryz.ntmps213
 go_upto_region 1 with fail
 generalize hwB:World.alloc w _=wB
 have EB:Below w.heap.size w wB:=by rw [← hwB];exact bH
 have M0:wB.cell? ⟨w.heap.size,0,none⟩=some (.slice qa0 x.1.length qp0):=nV
 have M1:wB.cell? ⟨w.heap.size,1,none⟩=some (.slice qa1 x.2.1.length qp1):=nV
 have M2:wB.cell? ⟨w.heap.size,2,none⟩=some (.slice qa2 x.2.2.1.length qp2):=nV
 have M3:wB.cell? ⟨w.heap.size,3,none⟩=some (.int .i64 x.2.2.2.1):=nV
 have M4:wB.cell? ⟨w.heap.size,4,none⟩=some (.int .i64 x.2.2.2.2):=nV
 clear hwB
 replace An:=cL EB An
 replace Aw:=cL EB Aw
 replace At:=cL EB At
 have FX:=yD (fun (W:World) (hW:Below wB.heap.size wB W)=>cLs8 hW An Aw At M0 M1 M2 M3 M4)
 refine jB (fun W=>Below wB.heap.size wB W) [true,true,true,false,true,true,true,false,true,true,true,true,true,false,true,true,true,true,true,true,true,false,false,true,true] rF rF gX (bR.drew) ?_
 intro wS HS
 iterate 3
  all_goals refine wkR ?_
 all_goals first | refine wkB (zq (HQ0.out.below (tQ EB HS)) (HN.out.below (tQ EB HS)) (ca:=[.slice qa0 x.1.length qp0]) (cb:=[.slice an n.length capn])) (fun wS1 HS=>?_) | refine wkR ?_
 all_goals (have hg4:=True.intro;first|(refine wkG (fun b hg4=>?_);cases b;all_goals first | exact Bool.noConfusion hg4 | simp only [zU,zV] at hg4 | skip) | refine wkR ?_)
 all_goals refine wkP ?_
 all_goals refine wkR ?_
 all_goals refine wkR ?_
 all_goals first | refine wkB (kTs (HXR.out.below (tQ EB HS)).1 (cx:=[.slice qa0 x.1.length qp0,.slice qa1 x.2.1.length qp1,.slice qa2 x.2.2.1.length qp2,.int .i64 x.2.2.2.1,.int .i64 x.2.2.2.2])) (fun wS1 HS=>?_) | refine wkR ?_
 all_goals refine wkR ?_
 all_goals (have hg9:=True.intro;first|(refine wkG (fun b hg9=>?_);cases b;all_goals first | exact Bool.noConfusion hg9 | simp only [zU,zV] at hg9 | skip) | refine wkR ?_)
 all_goals refine wkP ?_
 iterate 3
  all_goals refine wkR ?_
 all_goals first | refine wkB (kBs (HTK.out.below (tQ EB HS)) (HXR.out.below (tQ EB HS)) hxc (cx:=[.slice qa0 x.1.length qp0,.slice qa1 x.2.1.length qp1,.slice qa2 x.2.2.1.length qp2,.int .i64 x.2.2.2.1,.int .i64 x.2.2.2.2])) (fun wS1 HS=>?_) | refine wkR ?_
 all_goals refine wkR ?_
 all_goals (have hg15:=True.intro;first|(refine wkG (fun b hg15=>?_);cases b;all_goals first | exact Bool.noConfusion hg15 | simp only [zU,zV] at hg15 | skip) | refine wkR ?_)
 all_goals refine wkP ?_
 iterate 5
  all_goals refine wkR ?_
 all_goals first|(refine kU rfl HS ?_)|(refine ky rfl (fun K hK=>?_);go_simp;refine (kPw (HTK.out.below (tQ EB HS)) (HN.out.below (tQ EB HS)) (cn:=[.slice an n.length capn])).mono ?_;rintro e wS1 ⟨vk,rfl,OK,hbS⟩;obtain ⟨ak,nk,ck,hvk,HNk⟩:=OK.parts;obtain rfl:=hvk;have RK:=(OK.own (by have:=kRz (l:=t.1) (n:=n);unfold Big;omega)).raw;clear OK;replace HS:=(tQ HS hbS);refine hK _ _ HS ?_;clear hK K hbS)
 all_goals refine wkP ?_
 all_goals first|(refine kU rfl HS ?_)|(refine ky rfl (fun K hK=>?_);go_simp;refine (kWi (HQ2.out.below (tQ EB HS)) RK).mono ?_;rintro e wS2 ⟨rfl,hbS⟩;replace HS:=(tQ HS hbS);refine hK _ _ HS ?_;clear hK K hbS RK)
 all_goals refine wkP ?_
 all_goals refine wkR ?_
 all_goals refine wkR ?_
 all_goals refine jA ?_
 all_goals have EF:=(tQ EB HS)
 all_goals first
   | (have HT:=yD (show kCy t.1 n now x=false by simp only [kCy,Bool.not_true,Bool.not_false,Bool.and_true,Bool.true_and,Bool.and_false,Bool.false_and,Bool.or_true,Bool.true_or,Bool.or_false,Bool.false_or,Bool.not_not,hg4,hg9,hg15]);go_wp2;go_ret;exact ⟨kG HT.out.symm,EF⟩)
   | (have HT:=yD (show kCy t.1 n now x=decide (x.2.1=kFw t.1 n) by simp only [kCy,Bool.not_true,Bool.not_false,Bool.and_true,Bool.true_and,Bool.and_false,Bool.false_and,Bool.or_true,Bool.true_or,Bool.or_false,Bool.false_or,Bool.not_not,hg4,hg9,hg15]);go_wp2;go_ret;exact ⟨kG HT.out.symm,EF⟩)
theorem kDt:jm Tryz.prog 213:=kAn Tryz.func213 rF rF
theorem kHv {w:World} {ct:List Value} {t:kz} (ht0:kT.rd w ct t) (hB:∀ k (h:k < t.2.2.2.length),t.2.2.2[k].2.1.length≤2000000) {cn:List Value} {n:kW} (hn:kL.raw w cn n) {now:Int} :
    Calls Tryz.prog 182 #[.agg ct.toArray,.agg cn.toArray,.int .i64 now] w fun e w'=>e=.returned (.int .i64 (kAz t n now))∧Below w.heap.size w w':=by
 have ht:=ht0.1
 have HBD:=yD (show ∀ k (h:k < t.2.2.2.length),kP.bdd Big t.2.2.2[k] from fun k h=>ht0.2.2.2.2.2 _ (List.getElem_mem h))
 have HBC:=yD hB
 obtain ⟨tv0,tv1,tv2,tv3,rfl,t_0,t_1,t_2,t_3⟩:=kw ht
 obtain ⟨ta0,tp0,rfl,tl0⟩:=Rep.sl t_0
 obtain ⟨ta1,tp1,rfl,tl1⟩:=Rep.sl t_1
 obtain ⟨ta2,tp2,rfl,tl2⟩:=Rep.sl t_2
 obtain ⟨ta3,tp3,rfl,tl3⟩:=Rep.sl t_3
 have HTK:=yD t_0;have HTR:=yD t_1;have HTA:=yD t_2;have HTC:=yD t_3
 obtain ⟨nv,rfl,n_0⟩:=kM hn
 obtain ⟨an,capn,rfl,ln⟩:=Rep.sl n_0
 have HN:=yD hn
 clear ht ht0 hB hn n_0 t_0 t_1 t_2 t_3
 go_enter Tryz.func182,Tryz.ntmps182
 go_upto_region 1 with fail
 generalize hwB:World.alloc (World.alloc (World.alloc w _) _) _=wB
 have EB:Below w.heap.size w wB:=by rw [← hwB];exact bH
 have K0:wB.cell? ⟨w.heap.size,0,none⟩=some (.slice ta0 t.1.length tp0):=nV
 have K1:wB.cell? ⟨w.heap.size,1,none⟩=some (.slice ta1 t.2.1.length tp1):=nV
 have K2:wB.cell? ⟨w.heap.size,2,none⟩=some (.slice ta2 t.2.2.1.length tp2):=nV
 have K3:wB.cell? ⟨w.heap.size,3,none⟩=some (.slice ta3 t.2.2.2.length tp3):=nV
 have K4:wB.cell? ⟨w.heap.size + 1,0,none⟩=some (.slice an n.length capn):=nV
 have K5:wB.cell? ⟨w.heap.size + 1 + 1,0,none⟩=some (.int .i64 now):=nV
 clear hwB
 go_wp2_with fail
 refine (kFh (HTK.out.below EB) (HN.out.below EB) (cn:=[.slice an n.length capn])).mono ?_
 rintro e w1 ⟨rfl,hb⟩
 have E1:=(tQ EB hb)
 replace K0:=cL hb K0
 replace K1:=cL hb K1
 replace K2:=cL hb K2
 replace K3:=cL hb K3
 replace K4:=cL hb K4
 replace K5:=cL hb K5
 clear hb EB
 by_cases h0:zh t.1 n=0
 · have HT:=yD (fc_no (now:=now) h0)
   have h0b:(zh t.1 n==0)=true:=qV
   go_wp2
   go_ret
   exact ⟨ku HT.out.symm,E1⟩
 have HFC:=yD (fc_yes (now:=now) h0)
 have h0b:(zh t.1 n==0)=false:=qV
 clear h0
 go_wp2_with fail
 refine (kGs (kCy t.1 n now) kDt (HTC.out.below E1) ?_).mono ?_
 · intro wr hb i h cs hr
   exact kHb ⟨hr,HBD.out i h⟩ (HBC.out i h) (Rep.raw.below HN.out (tQ E1 hb)) (cL hb K4) (cL hb K5) (Rep.raw.below HTK.out (tQ E1 hb)) (cL hb K0)
 rintro e w2 ⟨rfl,hb2⟩
 have E2:=(tQ E1 hb2)
 clear hb2
 go_wp2
 go_ret
 exact ⟨ku HFC.out.symm,E2⟩
theorem kNf {w:World} {vl:Value} {l:List kS} (hl:(Rep.slice 175 kE).raw w [vl] l) {cn:List Value} {n:kW} (hn:kL.raw w cn n) :
    Calls Tryz.prog 35 #[vl,.agg cn.toArray] w fun e w'=>e=.returned (.bool (decide (0≤idxOf (yw n) l)))∧Below w.heap.size w w':=by
 have HL:=yD hl
 have HN:=yD hn
 obtain ⟨la,lp,rfl,ll⟩:=Rep.sl hl
 obtain ⟨av,rfl,a_0⟩:=kM hn
 obtain ⟨na,np,rfl,_⟩:=Rep.sl a_0
 clear hl hn a_0
 go_enter Tryz.func35,Tryz.ntmps35
 go_wp2_with fail
 refine (kKd (HL.out.below bH) (HN.out.below bH)).mono ?_
 rintro e w1 ⟨rfl,hb1⟩
 have EF:Below w.heap.size w w1:=Below.trans bH (hb1.mono rQ)
 clear hb1
 go_wp2
 go_ret
 exact ⟨kG rQ,EF⟩
theorem kNy {w:World} {vl:Value} {l:List kS} (hl:(Rep.slice 175 kE).raw w [vl] l) {cn:List Value} {n:kW} (hn:kL.raw w cn n) :
    Calls Tryz.prog 48 #[vl,.agg cn.toArray] w fun e w'=>e=.returned (.bool (decide (0≤idxOf (yw n) l)))∧Below w.heap.size w w':=by
 have HL:=yD hl
 have HN:=yD hn
 obtain ⟨la,lp,rfl,ll⟩:=Rep.sl hl
 obtain ⟨av,rfl,a_0⟩:=kM hn
 obtain ⟨na,np,rfl,_⟩:=Rep.sl a_0
 clear hl hn a_0
 go_enter Tryz.func48,Tryz.ntmps48
 go_wp2_with fail
 refine (kHm (HL.out.below bH) (HN.out.below bH)).mono ?_
 rintro e w1 ⟨rfl,hb1⟩
 have EF:Below w.heap.size w w1:=Below.trans bH (hb1.mono rQ)
 clear hb1
 go_wp2
 go_ret
 exact ⟨kG rQ,EF⟩
end Go.Proofs.YtlfblpgkegeaeaaGreat
