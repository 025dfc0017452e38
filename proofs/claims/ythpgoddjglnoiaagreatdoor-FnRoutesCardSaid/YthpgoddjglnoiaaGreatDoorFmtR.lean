/-
  Routes, written as text.
-/
import Derived.Test.YthpgoddjglnoiaaGreatDoorFmtT
import Derived.Test.YthpgoddjglnoiaaGreatDoorSzW
set_option linter.unusedVariables false
set_option linter.unusedSimpArgs false
set_option linter.unnecessarySimpa false
set_option maxRecDepth 100000
set_option maxHeartbeats 4000000
namespace Go.Proofs.YthpgoddjglnoiaaGreatDoor
open Go.RowKit
def sl:List UInt8:=[47]
def kFi (n:kR):List UInt8:=Lib.joinTail [47] (n.map (·.data.toList))
def kBl (n:kR):ByteArray:=if n=[] then ⟨#[47]⟩ else ⟨(kFi n).toArray⟩
theorem nameL_succ {n:kR} {k:Nat} (h:k < n.length):kFi (n.take (k + 1))=kFi (n.take k)++([47]++n[k].data.toList):=by
 unfold kFi Lib.joinTail
 rw [List.take_succ_eq_append_getElem h,List.map_append,List.map_append,List.flatten_append]
 simp
theorem kIe (n:kR):(kFi n).length=wN n:=by
 unfold kFi
 rw [Lib.joinTail_length]
 unfold wN zX Lib.lens
 simp only [List.length_cons,List.length_nil,List.length_map,List.map_map]
 have:n.map (List.length ∘ fun x:ByteArray=>x.data.toList)=n.map ByteArray.size:=by
  apply List.map_congr_left;intro x _;simp
 first|(rw [this];omega)|(simp;omega)
theorem kBe (n:kR):(kBl n).size≤wN n + 1:=by
 unfold kBl
 split
 · have:(⟨#[47]⟩:ByteArray).size=1:=rfl
   omega
 rw [kEa,kIe];omega
def rtB (r:kD):ByteArray:=kBl r.1++⟨#[62]⟩++zf r.2.1++⟨#[58]⟩++zf r.2.2
theorem rtB_size {r:kD} (h1:-9223372036854775808≤r.2.1∧r.2.1≤9223372036854775807) (h2:-9223372036854775808≤r.2.2∧r.2.2≤9223372036854775807):(rtB r).size≤wN r.1 + 43:=by
 have a:=yZ h1
 have b:=yZ h2
 have n:=kBe r.1
 have c:(⟨#[62]⟩:ByteArray).size=1:=rfl
 have d:(⟨#[58]⟩:ByteArray).size=1:=rfl
 unfold rtB;simp only [ByteArray.size_append];omega
def ja (l:List kD):List UInt8:=Lib.join (l.map fun r=>(rtB r).data.toList) [32]
def zw (l:List kD):ByteArray:=if l=[] then ⟨#[45]⟩ else ⟨(ja l).toArray⟩
theorem join_snoc:∀ (xs:List (List UInt8)) (x sep:List UInt8),xs≠[]→Lib.join (xs++[x]) sep=Lib.join xs sep++sep++x
  | y :: ys,x,sep,_=>by
    rw [List.cons_append,Lib.join_cons,Lib.join_cons]
    unfold Lib.joinTail
    simp
theorem kHz {l:List kD} (h:0 < l.length):ja (l.take 1)=(rtB l[0]).data.toList:=by
 unfold ja
 rw [show l.take 1=[l[0]] by rw [List.take_one];cases l with | nil=>cases h | cons a b=>rfl]
 exact Lib.join_one _ _
theorem kDq {l:List kD} {k:Nat} (h0:0 < k) (h:k < l.length):ja (l.take (k + 1))=ja (l.take k)++[32]++(rtB l[k]).data.toList:=by
 unfold ja
 rw [List.take_succ_eq_append_getElem h,List.map_append,List.map_cons,List.map_nil]
 exact join_snoc _ _ _ (by
   intro q
   have:=congrArg List.length q
   rw [List.length_map,List.length_take] at this
   simp only [List.length_nil] at this;omega)
theorem wN_at {l:List kD} {k:Nat} (h:k < l.length):wN l[k].1≤wRs l:=by
 have:=sumL_mem (f:=fun r:kD=>wN r.1) (List.getElem_mem h)
 unfold wRs;omega
theorem sum_at {l:List kD} {k:Nat} (h:k≤l.length):zX (fun r:kD=>wN r.1) (l.take k) + k≤wRs l:=by
 have e:=kGg (fun r:kD=>wN r.1) l k
 unfold wRs;omega
theorem kAj {w:World} {cn:List Value} {n:kR} (hn:kV.raw w cn n) (hw:wN n≤1048576) :
    Calls Tryz.prog 57 #[.agg cn.toArray] w fun e w'=>e=.returned (.string (kBl n))∧Below w.heap.size w w':=by
 obtain ⟨av,rfl,a_0⟩:=kN hn
 obtain ⟨aa,capa,rfl,la⟩:=Rep.sl a_0
 have HA:=yD a_0
 have hnl:n.length≤1048576:=by unfold wN at hw;omega
 clear hn a_0
 go_enter Tryz.func57,Tryz.ntmps57
 go_wp2_with fail
 generalize hwB:World.alloc w _=wB
 have EB:Below w.heap.size w wB:=by rw [← hwB];exact bB
 have K0:wB.cell? ⟨w.heap.size,0,none⟩=some (.slice aa n.length capa):=dL
 clear hwB
 have HB:=yD (HA.out.below EB)
 have HW:=yD hw
 clear hw
 go_wp2
 go_loop [3,4] (fun sv iv=>∃ (k:Nat) (s:ByteArray),k≤n.length∧iv=.int .i64 k∧sv=.string s∧s.size≤1048576∧Hid (s.data.toList=kFi (n.take k))) (fun _ iv=>n.length - (intOf iv).toNat)
 case atStart=>exact ⟨0,ByteArray.empty,Nat.zero_le _,rfl,rfl,by decide,yD rfl⟩
 obtain ⟨k,s,hk,rfl,rfl,hs,HP⟩:=hrel
 by_cases hlt:k < n.length
 · obtain ⟨ba,offa,rfl,c0,hr,A0⟩:=Rep.kAd HB.out hlt rfl
   obtain ⟨he,hsz⟩:=Rep.jv hr
   obtain rfl:c0=_:=by simpa using he
   have HX:=yD (nameL_succ hlt)
   have hss:s.size + 1 + n[k].size≤1048576:=by
    have h1:=congrArg List.length HX.out
    rw [← HP.out] at h1
    have h2:=kIe (n.take (k + 1))
    have h3:wN (n.take (k + 1))≤wN n:=by
     have e:=kGg ByteArray.size n (k + 1)
     unfold wN;rw [List.length_take];omega
    have h4:=HW.out
    simp only [List.length_append,List.length_cons,List.length_nil] at h1
    have h5:s.data.toList.length=s.size:=fZ
    have h6:n[k].data.toList.length=n[k].size:=fZ
    omega
   clear he hr hsz
   generalize n[k]=p at *
   go_wp2
   go_round
   case rel=>exact ⟨k + 1,_,by omega,by go_num,rfl,(by have c1:(⟨#[47]⟩:ByteArray).size=1:=rfl;simp only [ByteArray.size_append];omega),yD (by rw [HX.out,← HP.out];simp)⟩
   simp [intOf];omega
 obtain rfl:k=n.length:=fV
 have HS:Hid (n≠[]→s=kBl n):=yD (fun q=>by
   unfold kBl;rw [if_neg q]
   apply ByteArray.ext
   have h:=HP.out
   rw [List.take_length] at h
   rw [← h])
 by_cases h0:n.length=0
 · have hn0:n=[]:=List.length_eq_zero_iff.1 h0
   subst hn0
   go_wp2
   go_ret
   exact ⟨rfl,EB⟩
 have HT:=yD (HS.out (fun q=>h0 (by rw [q];rfl)))
 go_wp2
 go_ret
 exact ⟨by rw [← HT.out];rfl,EB⟩
theorem joinC {w:World} {v:Value} {xs:List ByteArray} (h:(Rep.slice 9 Rep.str).raw w [v] xs) (h0:0 < xs.length) (c:UInt8) (hl:(Lib.join (xs.map (·.data.toList)) [c]).length≤140737488355328) (hx:xs.length≤140737488355328) :
    Calls Tryz.prog 78 #[v,.string ⟨#[c]⟩] w fun e w'=>e=.returned (.string ⟨(Lib.join (xs.map (·.data.toList)) [c]).toArray⟩)∧Below w.heap.size w w':=by
 obtain ⟨a,cap,rfl,_⟩:=Rep.sl h
 obtain ⟨b,off,rfl,_⟩:=Rep.kAd h h0 rfl
 have hb:b < w.heap.size:=by
  obtain ⟨_,_,h2,c0,_,A0⟩:=Rep.kAd h h0 rfl
  simp only [Option.some.injEq,Addr.mk.injEq,and_true] at h2
  obtain ⟨rfl,rfl⟩:=h2
  exact Nat.lt_of_not_le (fun q=>by simp [World.cell?,Array.getElem?_eq_none q] at A0)
 have hc:=Rep.kBi h
 refine Tryz.strings_Join b off cap xs ⟨#[c]⟩ w ?_ hb hx hc.1 hl
 intro j x hj
 obtain ⟨hlt,rfl⟩:=List.getElem?_eq_some_iff.1 hj
 obtain ⟨_,_,h2,c0,hr,A0⟩:=Rep.kAd h hlt rfl
 simp only [Option.some.injEq,Addr.mk.injEq,and_true] at h2
 obtain ⟨rfl,rfl⟩:=h2
 obtain ⟨he,_⟩:=Rep.jv hr
 obtain rfl:c0=_:=by simpa using he
 exact A0
theorem kHn {w:World} {va:Value} {n:kR} (ha:(Rep.slice 9 Rep.str).raw w [va] n) (hw:wN n≤1048576) :
    Calls Tryz.prog 76 #[va] w fun e w'=>e=.returned (.string (kBl n))∧Below w.heap.size w w':=by
 obtain ⟨aa,capa,rfl,la⟩:=Rep.sl ha
 have HA:=yD ha
 clear ha
 go_enter Tryz.func76,Tryz.ntmps76
 by_cases h0:n.length=0
 · have hn0:n=[]:=List.length_eq_zero_iff.1 h0
   subst hn0
   go_wp2
   go_ret
   exact ⟨rfl,bR⟩
 have hpos:0 < n.length:=fV
 have HJ:Hid (kBl n=⟨#[47]⟩++⟨(Lib.join (n.map (·.data.toList)) [47]).toArray⟩):=yD (by
   cases n with
   | nil=>cases hpos
   | cons a r =>
     unfold kBl kFi
     rw [if_neg fZ,List.map_cons,Lib.join_cons]
     apply ByteArray.ext
     simp [Lib.joinTail])
 have hjl:(Lib.join (n.map (·.data.toList)) [47]).length≤1048576:=by
  have h1:=congrArg ByteArray.size HJ.out
  have h4:=kEa (Lib.join (n.map (·.data.toList)) [47])
  rw [ByteArray.size_append] at h1
  have h2:=kBe n
  have h3:(⟨#[47]⟩:ByteArray).size=1:=rfl
  omega
 have hnl:n.length≤1048576:=by unfold wN at hw;omega
 have hln:((n.length:Int)==0)=false:=by rw [beq_eq_false_iff_ne];omega
 clear hw
 have hbs:=kEa (Lib.join (n.map (·.data.toList)) [47])
 have hj2:(Lib.join (n.map (·.data.toList)) [47]).length≤140737488355328:=fV
 have hj3:n.length≤140737488355328:=fV
 have HJC:=yD (joinC HA.out hpos 47 hj2 hj3)
 clear hj2 hj3
 go_wp2_with fail
 refine (HJC.out).mono ?_
 rintro e w1 ⟨rfl,hb⟩
 generalize (⟨(Lib.join (n.map (·.data.toList)) [47]).toArray⟩:ByteArray)=J at *
 go_wp2
 go_ret
 exact ⟨by rw [HJ.out];rfl,hb⟩
theorem kEt {w:World} {cn:List Value} {n:kR} (hn:kV.raw w cn n) (hw:wN n≤1048576) :
    Calls Tryz.prog 54 #[.agg cn.toArray] w fun e w'=>e=.returned (.string (kBl n))∧Below w.heap.size w w':=by
 obtain ⟨av,rfl,a_0⟩:=kN hn
 clear hn
 go_enter Tryz.func54,Tryz.ntmps54
 go_wp2_with fail
 generalize hwB:World.alloc w _=wB
 have EB:Below w.heap.size w wB:=by rw [← hwB];exact bB
 clear hwB
 refine (kHn (a_0.below EB) hw).mono ?_
 rintro e w1 ⟨rfl,hb⟩
 have EG:=(tQ EB hb)
 go_wp2
 go_ret
 exact ⟨rfl,EG⟩
theorem kCr {w:World} {vl:Value} {l:List kD} (hl:(Rep.slice 29 kE).rd w [vl] l) (hw:wRs l≤1048576) :
    Calls Tryz.prog 23 #[vl] w fun e w'=>e=.returned (.string (zw l))∧Below w.heap.size w w':=by
 obtain ⟨aa,capa,rfl,la⟩:=Rep.sl hl.1
 have HA:=yD hl.1
 have hll:l.length≤1048576:=by unfold wRs at hw;omega
 have HW:=yD hw
 clear hl hw
 go_enter Tryz.func23,Tryz.ntmps23
 go_wp2
 go_loopw [3,4] (fun sv iv wr=>∃ (k:Nat) (s:ByteArray),k≤l.length∧iv=.int .i64 k∧sv=.string s∧s.size≤zX (fun r:kD=>wN r.1) (l.take k) + 44 * k∧Hid (s.data.toList=if k=0 then [] else ja (l.take k))∧Below w.heap.size w wr) (fun _ iv _=>l.length - (intOf iv).toNat)
 case atStart=>exact ⟨0,ByteArray.empty,Nat.zero_le _,rfl,rfl,Nat.zero_le _,yD fZ,bR⟩
 obtain ⟨k,s,hk,rfl,rfl,hs,HP,hbel⟩:=hrel
 by_cases hlt:k < l.length
 · obtain ⟨ba,offa,rfl,c0,c1,c2,hr,A0,A1,A2⟩:=Rep.yg (HA.out.below hbel) hlt rfl
   obtain ⟨rv0,hre,r_0,r_1,r_2,r_3⟩:=kG hr
   simp only [List.cons.injEq,and_true] at hre
   obtain ⟨rfl,rfl,rfl⟩:=hre
   obtain ⟨ra,rp,rfl,_⟩:=Rep.sl r_1
   have hwn:wN l[k].1≤1048576:=Nat.le_trans (wN_at hlt) HW.out
   have hrs:=rtB_size r_2 r_3
   have hns:=kBe l[k].1
   have hq1:=yZ r_2
   have hq2:=yZ r_3
   have hsu:=kHt (f:=fun r:kD=>wN r.1) hlt
   have hs2:=sum_at (l:=l) (k:=k + 1) fV
   have hs3:=HW.out
   have H0:Hid (k=0→ja (l.take (k + 1))=(rtB l[k]).data.toList):=yD (fun q=>by subst q;exact kHz hlt)
   have HX:=yD (fun (q:0 < k)=>kDq q hlt)
   have HRT:=yD (show rtB l[k]=kBl l[k].1++⟨#[62]⟩++zf l[k].2.1++⟨#[58]⟩++zf l[k].2.2 from rfl)
   clear hr r_1
   try simp only at hsu
   generalize l[k]=r at *
   have HR0:=yD r_0
   have HQ:=yD (show (rtB r).size≤wN r.1 + 43 from hrs)
   have hsz2:s.size + wN r.1 + 44≤100000000:=fV
   by_cases h0:k=0
   · have HS0:=yD (show s=ByteArray.empty by
       apply ByteArray.ext
       have h:=HP.out
       rw [if_pos h0] at h
       apply Array.ext'
       rw [h];rfl)
     have hk0:¬ (0:Int) < (k:Int):=fV
     have H00:=yD h0;clear h0
     go_upto_region 7 with fail
     have FX:=yD (fun (W:World) (hW:Below wr.heap.size wr W)=>cLs3 hW A0 A1 A2)
     refine jc (fun W=>Below wr.heap.size wr W) [(0,true),(1,true),(2,true),(3,true),(4,true),(5,true),(9,true),(10,true),(11,true),(12,true),(13,true),(17,true),(18,true),(19,true),(20,true),(21,true),(6,false),(7,true),(8,true),(14,false),(15,true),(16,true),(22,false),(23,true),(24,true)] fP fP bW (bR.drew) ?_
     intro wS HS
     simp only [kK,List.getElem?_cons_succ,List.getElem?_cons_zero,List.map_cons,List.map_nil]
     iterate 16
      all_goals refine wkR ?_
     all_goals first | refine wkB (kAj (HR0.out.below HS) hwn) (fun wS1 HS=>?_) | refine wkR ?_
     iterate 2
      all_goals first|(refine kJ rfl HS ?_)|(refine kW (v:=?_) rfl (fun W hW=>?_) ?_;rotate_left;(· go_simp;(try rw [if_neg bZ]);try with_reducible rfl))
      all_goals refine wkP ?_
     all_goals first | refine wkB (yH r_2) (fun wS1 HS=>?_) | refine wkR ?_
     iterate 2
      all_goals first|(refine kJ rfl HS ?_)|(refine kW (v:=?_) rfl (fun W hW=>?_) ?_;rotate_left;(· go_simp;(try rw [if_neg bZ]);try with_reducible rfl))
      all_goals refine wkP ?_
     all_goals first | refine wkB (yH r_3) (fun wS1 HS=>?_) | refine wkR ?_
     all_goals first|(refine kJ rfl HS ?_)|(refine kW (v:=?_) rfl (fun W hW=>?_) ?_;rotate_left;(· go_simp;(try rw [if_neg bZ]);try with_reducible rfl))
     all_goals refine wkP ?_
     all_goals refine wkR ?_
     all_goals refine kQ ?_
     have EWR:=(tQ hbel HS)
     clear HS A0 A1 A2
     go_wp2
     go_roundw
     case rel=>exact ⟨k + 1,_,by omega,by go_num,rfl,(by have c1:(⟨#[62]⟩:ByteArray).size=1:=rfl;have c2:(⟨#[58]⟩:ByteArray).size=1:=rfl;simp only [ByteArray.size_append] at *;omega),yD (by rw [if_neg fV,H0.out H00.out,HRT.out,HS0.out];simp),EWR⟩
     simp [intOf];omega
   have hpos:0 < k:=fV
   have hk0:(0:Int) < (k:Int):=fV
   go_upto_region 7 with fail
   have FX:=yD (fun (W:World) (hW:Below wr.heap.size wr W)=>cLs3 hW A0 A1 A2)
   refine jc (fun W=>Below wr.heap.size wr W) [(0,true),(1,true),(2,true),(3,true),(4,true),(5,true),(9,true),(10,true),(11,true),(12,true),(13,true),(17,true),(18,true),(19,true),(20,true),(21,true),(6,false),(7,true),(8,true),(14,false),(15,true),(16,true),(22,false),(23,true),(24,true)] fP fP bW (bR.drew) ?_
   intro wS HS
   simp only [kK,List.getElem?_cons_succ,List.getElem?_cons_zero,List.map_cons,List.map_nil]
   iterate 16
    all_goals refine wkR ?_
   all_goals first | refine wkB (kAj (HR0.out.below HS) hwn) (fun wS1 HS=>?_) | refine wkR ?_
   iterate 2
    all_goals first|(refine kJ rfl HS ?_)|(refine kW (v:=?_) rfl (fun W hW=>?_) ?_;rotate_left;(· go_simp;(try rw [if_neg bZ]);try with_reducible rfl))
    all_goals refine wkP ?_
   all_goals first | refine wkB (yH r_2) (fun wS1 HS=>?_) | refine wkR ?_
   iterate 2
    all_goals first|(refine kJ rfl HS ?_)|(refine kW (v:=?_) rfl (fun W hW=>?_) ?_;rotate_left;(· go_simp;(try rw [if_neg bZ]);try with_reducible rfl))
    all_goals refine wkP ?_
   all_goals first | refine wkB (yH r_3) (fun wS1 HS=>?_) | refine wkR ?_
   all_goals first|(refine kJ rfl HS ?_)|(refine kW (v:=?_) rfl (fun W hW=>?_) ?_;rotate_left;(· go_simp;(try rw [if_neg bZ]);try with_reducible rfl))
   all_goals refine wkP ?_
   all_goals refine wkR ?_
   all_goals refine kQ ?_
   have EWR:=(tQ hbel HS)
   clear HS A0 A1 A2
   go_wp2
   go_roundw
   case rel=>exact ⟨k + 1,_,by omega,by go_num,rfl,(by have c0:(⟨#[32]⟩:ByteArray).size=1:=rfl;have c1:(⟨#[62]⟩:ByteArray).size=1:=rfl;have c2:(⟨#[58]⟩:ByteArray).size=1:=rfl;simp only [ByteArray.size_append] at *;omega),yD (by have h:=HP.out;rw [if_neg h0] at h;rw [if_neg fV,HX.out hpos,HRT.out,← h];simp),EWR⟩
   simp [intOf];omega
 obtain rfl:k=l.length:=fV
 by_cases h0:l.length=0
 · have hn0:l=[]:=List.length_eq_zero_iff.1 h0
   subst hn0
   go_wp2
   go_ret
   exact ⟨rfl,hbel⟩
 have HT:=yD (show s=zw l by
   unfold zw;rw [if_neg (fun q=>h0 (by rw [q];rfl))]
   apply ByteArray.ext
   have h:=HP.out
   rw [if_neg h0,List.take_length] at h
   rw [← h])
 go_wp2
 go_ret
 exact ⟨by rw [← HT.out];rfl,hbel⟩
theorem kJd {w:World} {va:Value} {l:List kD} (ha:(Rep.slice 9 Rep.str).raw w [va] (l.map rtB)) (hl:(ja l).length≤140737488355328) (hx:l.length≤1048576) :
    Calls Tryz.prog 56 #[va] w fun e w'=>e=.returned (.string (zw l))∧Below w.heap.size w w':=by
 obtain ⟨aa,capa,hva,la⟩:=Rep.yj ha;obtain rfl:va=.slice aa l.length capa:=by simpa using hva
 have HA:=yD ha
 have HE:Hid ((l.map rtB).map (·.data.toList)=l.map fun r=>(rtB r).data.toList):=yD (by rw [List.map_map];rfl)
 clear hva ha
 have hlm:(l.map rtB).length=l.length:=fZ
 generalize l.map rtB=ws at *
 have HLM:=yD hlm
 clear hlm
 go_enter Tryz.func56,Tryz.ntmps56
 by_cases h0:l.length=0
 · have hn0:l=[]:=List.length_eq_zero_iff.1 h0
   subst hn0
   go_wp2
   go_ret
   exact ⟨rfl,bR⟩
 have hpos:0 < ws.length:=by rw [HLM.out];omega
 have hln:((l.length:Int)==0)=false:=by rw [beq_eq_false_iff_ne];omega
 have HJC:=yD (joinC HA.out hpos 32 (by rw [HE.out];exact hl) (by rw [HLM.out];omega))
 have HT:=yD (show zw l=⟨(Lib.join (ws.map (·.data.toList)) [32]).toArray⟩ by
   unfold zw ja
   rw [HE.out,if_neg (fun q=>h0 (by rw [q];rfl))])
 clear hl
 go_wp2_with fail
 refine (HJC.out).mono ?_
 rintro e w1 ⟨rfl,hb⟩
 generalize (⟨(Lib.join (ws.map (·.data.toList)) [32]).toArray⟩:ByteArray)=J at *
 go_wp2
 go_ret
 exact ⟨by rw [HT.out];rfl,hb⟩
theorem routesL_len {l:List kD} (hw:wRs l≤1048576) (hs:∀ r∈l,(rtB r).size≤wN r.1 + 43):(ja l).length≤100000000:=by
 have key:∀ (l:List kD),(∀ r∈l,(rtB r).size≤wN r.1 + 43)→(Lib.joinTail [32] (l.map fun r=>(rtB r).data.toList)).length≤zX (fun r:kD=>wN r.1) l + 44 * l.length:=by
  intro l
  induction l with
  | nil=>intro _;simp [Lib.joinTail]
  | cons a r ih =>
    intro h
    have h1:=ih (fun x hx=>h x (by simp [hx]))
    have h2:=h a fZ
    have h3:(rtB a).data.toList.length=(rtB a).size:=fZ
    have e:zX (fun r:kD=>wN r.1) (a :: r)=wN a.1 + zX (fun r:kD=>wN r.1) r:=by simp [zX]
    rw [e]
    simp only [Lib.joinTail,List.map_cons,List.flatten_cons,List.length_append,List.length_cons,List.length_nil] at *
    omega
 have hll:l.length≤1048576:=by unfold wRs at hw;omega
 cases l with
 | nil=>simp [ja,Lib.join_nil]
 | cons a r =>
   have h1:=key (a :: r) hs
   have h2:(ja (a :: r)).length≤(Lib.joinTail [32] ((a :: r).map fun r=>(rtB r).data.toList)).length:=by
     unfold ja
     rw [List.map_cons,Lib.join_cons]
     simp [Lib.joinTail]
   unfold wRs at hw
   omega
theorem kCx {w:World} {vl:Value} {l:List kD} (hl:(Rep.slice 29 kE).rd w [vl] l) (hw:wRs l≤1048576) (ht:TabW Tryz.prog w) :
    Calls Tryz.prog 22 #[vl] w fun e w'=>e=.returned (.string (zw l))∧Below w.heap.size w w':=by
 obtain ⟨aa,capa,rfl,la⟩:=Rep.sl hl.1
 have HA:=yD hl.1
 have hll:l.length≤1048576:=by unfold wRs at hw;omega
 have HW:=yD hw
 have HT:=yD ht
 have HB:=yD hl
 clear hl hw ht
 go_enter Tryz.func22,Tryz.ntmps22
 go_wp2
 have O0:Rep.kH 9 Rep.str (w.alloc (.cells #[] 9)) (.slice (some ⟨w.heap.size,0,none⟩) 0 0) ([]:List ByteArray) (Btw w.heap.size (w.alloc (.cells #[] 9)).heap.size):=Rep.kH.void
 go_loopw [3,9] (fun v iv wr=>∃ (k:Nat),k≤l.length∧iv=.int .i64 k∧Hid (Rep.kH 9 Rep.str wr v ((l.take k).map rtB) (Btw w.heap.size wr.heap.size))∧Hid (∀ r∈l.take k,(rtB r).size≤wN r.1 + 43)∧Below w.heap.size w wr) (fun _ iv _=>l.length - (intOf iv).toNat)
 case atStart=>exact ⟨0,Nat.zero_le _,rfl,yD O0,yD fZ,bR.alloc nL _⟩
 clear O0
 obtain ⟨k,hk,rfl,HO,HSZ,hbel⟩:=hrel
 obtain ⟨oa,on,oc,ho,HON⟩:=HO.out.parts;obtain rfl:=ho
 by_cases hlt:k < l.length
 · obtain ⟨ba,offa,rfl,c0,c1,c2,hr,A0,A1,A2⟩:=Rep.yg (HA.out.below hbel) hlt rfl
   obtain ⟨rv0,hre,r_0,r_1,r_2,r_3⟩:=kG hr
   simp only [List.cons.injEq,and_true] at hre
   obtain ⟨rfl,rfl,rfl⟩:=hre
   obtain ⟨ra,rp,rfl,_⟩:=Rep.sl r_1
   have hwn:wN l[k].1≤1048576:=Nat.le_trans (wN_at hlt) HW.out
   have hrs:=rtB_size r_2 r_3
   have hns:=kBe l[k].1
   have hq1:=yZ r_2
   have hq2:=yZ r_3
   have hsu:=kHt (f:=fun r:kD=>wN r.1) hlt
   have hs2:=sum_at (l:=l) (k:=k + 1) fV
   have hs3:=HW.out
   have H0:Hid (k=0→ja (l.take (k + 1))=(rtB l[k]).data.toList):=yD (fun q=>by subst q;exact kHz hlt)
   have HX:=yD (fun (q:0 < k)=>kDq q hlt)
   have HRT:=yD (show rtB l[k]=kBl l[k].1++⟨#[62]⟩++zf l[k].2.1++⟨#[58]⟩++zf l[k].2.2 from rfl)
   clear hr r_1
   try simp only at hsu
   have HSN:=yD (show (l.take (k + 1)).map rtB=(l.take k).map rtB++[rtB l[k]] by rw [List.take_succ_eq_append_getElem hlt,List.map_append];rfl)
   have HZN:=yD (fun q=>kHp (P:=fun r:kD=>(rtB r).size≤wN r.1 + 43) HSZ.out hlt q)
   generalize l[k]=r at *
   have HR0:=yD r_0
   have HQ:=yD (show (rtB r).size≤wN r.1 + 43 from hrs)
   have hlm:((l.take k).map rtB).length≤k:=by rw [List.length_map,List.length_take];omega
   go_upto_region 5 with fail
   generalize hwC:World.alloc wr _=wC
   have EC:Below wr.heap.size wr wC:=dD
   have M0:wC.cell? ⟨wr.heap.size,0,none⟩=some (.slice ra r.1.length rp):=dM
   have M1:wC.cell? ⟨wr.heap.size,1,none⟩=some (.int .i64 r.2.1):=dM
   have M2:wC.cell? ⟨wr.heap.size,2,none⟩=some (.int .i64 r.2.2):=dM
   clear hwC A0 A1 A2
   have HTC:=yD ((HT.out.below hbel).below EC)
   have hcB:wr.heap.size≤wC.heap.size:=EC.size
   have FX:=yD (fun (W:World) (hW:Below wC.heap.size wC W)=>cLs3 hW M0 M1 M2)
   refine jh (fun W=>Below wC.heap.size wC W) [(0,true),(1,true),(2,true),(5,true),(6,true),(10,true),(11,true),(3,false),(4,true),(7,false),(8,true),(9,true),(12,false),(13,true),(14,false)] fP fP bW (bR.drew) ?_
   intro wS HS
   simp only [kK,List.length_cons,List.length_nil,List.getElem?_cons_succ,List.getElem?_cons_zero,List.map_cons,List.map_nil,List.cons_append,List.nil_append,List.drop_succ_cons,List.drop_zero]
   iterate 7
    all_goals refine wkR ?_
   all_goals first | refine wkB (kEt (HR0.out.below (tQ EC HS)) hwn) (fun wS1 HS=>?_) | refine wkR ?_
   all_goals first|(refine kJ rfl HS ?_)|(refine kW (v:=?_) rfl (fun W hW=>?_) ?_;rotate_left;(· go_simp;(try rw [if_neg bZ]);try with_reducible rfl))
   all_goals refine wkP ?_
   all_goals first | refine wkB (kBm r_2 (HTC.out.below HS)) (fun wS1 HS=>?_) | refine wkR ?_
   iterate 2
    all_goals first|(refine kJ rfl HS ?_)|(refine kW (v:=?_) rfl (fun W hW=>?_) ?_;rotate_left;(· go_simp;(try rw [if_neg bZ]);try with_reducible rfl))
    all_goals refine wkP ?_
   all_goals first | refine wkB (kBm r_3 (HTC.out.below HS)) (fun wS1 HS=>?_) | refine wkR ?_
   all_goals first|(refine kJ rfl HS ?_)|(refine kW (v:=?_) rfl (fun W hW=>?_) ?_;rotate_left;(· go_simp;(try rw [if_neg bZ]);try with_reducible rfl))
   all_goals refine wkP ?_
   all_goals rw [← HRT.out]
   all_goals first|(refine kJ rfl HS ?_)|(refine jF rfl (fun K hK=>?_);go_simp;refine hK _ _ (HS.alloc HS.size _) ?_;clear hK K)
   all_goals refine wkP ?_
   all_goals refine jV ?_
   have ECS:=(tQ EC HS)
   have hsW:=ECS.size
   have hbd2:=hbel.size
   have HOS:=yD (HO.out.below ECS)
   have hby:∀ W:World,Rep.str.own W [.string (rtB r)] (rtB r) (fun _=>False):=fun W=>⟨⟨rfl,by unfold maxLen;omega⟩,by show _≤Big;unfold Big;omega⟩
   clear HS M0 M1 M2 HO
   go_wp2_with (at_builtin;refine Rep.ky rfl _ _ 25 rfl (r:=Rep.str) (e:=9) Tryz.underlying25 jW rfl fU fU (B:=w.heap.size) HOS.out gB gB rfl (hby _) rfl (fun _ _ h=>h) cK (fun _ h=>h.elim) fV fV ?_)
   intro v2 w2 hown2 hbel2 hz2
   have HO2:Hid (Rep.kH 9 Rep.str w2 v2 ((l.take (k + 1)).map rtB) (Btw w.heap.size w2.heap.size)):=yD (hown2.cast (by rw [HSN.out];first | rfl | simp only [List.map_take]))
   obtain ⟨a2,n2,c2,hv2,HN2⟩:=hown2.parts
   obtain rfl:=hv2
   have EWR:=hbel.trans ((ECS.mono hbd2).trans hbel2)
   have HZ2:=yD (HZN.out HQ.out)
   clear hown2 hbel2 HOS ECS
   go_wp2
   go_roundw
   case rel=>exact ⟨k + 1,by omega,by go_num,HO2,HZ2,EWR⟩
   simp [intOf];omega
 obtain rfl:k=l.length:=fV
 have HZ:=yD (show ∀ r∈l,(rtB r).size≤wN r.1 + 43 from by have h:=HSZ.out;rwa [List.take_length] at h)
 have hrl:=routesL_len HW.out HZ.out
 have HJ:=yD (kJd (HO.out.cast (by rw [List.take_length])).zQ fV hll)
 clear hrl
 go_wp2_with fail
 refine (HJ.out).mono ?_
 rintro e w1 ⟨rfl,hb⟩
 have EWR:=(tQ hbel hb)
 go_wp2
 go_ret
 exact ⟨rfl,EWR⟩
end Go.Proofs.YthpgoddjglnoiaaGreatDoor
