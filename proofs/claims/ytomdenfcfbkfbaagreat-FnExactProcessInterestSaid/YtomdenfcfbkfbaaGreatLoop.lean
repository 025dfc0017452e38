/-
  The faces by which an interest leaves.
  Parts and names that are valid.
  Names that are valid.
  A node over time.
  Interests that come round; when a name was sent last.
-/
import Derived.Test.YtomdenfcfbkfbaaGreatHops
set_option linter.unusedVariables false
set_option linter.unusedSimpArgs false
set_option linter.unnecessarySimpa false
set_option maxRecDepth 100000
set_option maxHeartbeats 4000000
namespace Go.Proofs.YtomdenfcfbkfbaaGreat
open Go.RowKit
theorem kOk {w:World} {v:Value} {l:List Int} {g:FuncId} {cp:Array Value} {S:Nat→Prop} (p:Int→Bool) (hg:jB Tryz.prog g) (hl:Rep.kQ 3 Rep.int w v l S) (hlen:l.length≤16777216)
    (hcl:∀ wr,Touch S w wr→∀ x c,Rep.int.raw wr [c] x→Calls Tryz.prog g (#[c]++cp) wr (fun e w'=>e=.returned (.bool (p x))∧Below wr.heap.size wr w')) :
    Calls Tryz.prog 136 #[v,.func (.func g) #[] cp] w fun e w'=>∃ v',e=.returned v'∧Rep.kQ 3 Rep.int w' v' (l.filter (fun x=>!p x)) S∧Touch S w w':=by
 have HCL:=yD hcl;clear hcl
 have HO:=yD hl
 have HCG:=yD hg
 unfold jB at hg
 have HI:Hid (∀ va,v=va→Calls Tryz.prog 197 #[va,.func (.func g) #[] cp] w fun e w'=>e=.returned (.int .i64 (idxOf p l))∧Below w.heap.size w w'):=yD (fun va hv=>by
   subst hv
   exact kQg p HCG.out (HO.out.own hlen).raw (fun wr hb i h c hr=>HCL.out wr (Touch.of_below hb) _ c hr))
 rcases kIb p l with ⟨hi,hno⟩|⟨i,hil,hi,hyes,hno⟩
 · obtain ⟨oa,on,oc,ho,HON⟩:=hl.parts;obtain rfl:=ho
   rw [hi] at HI
   have HF:=yD (kIf hno).symm
   clear hno hi hl
   go_enter Tryz.func136,Tryz.ntmps136
   go_wp2_with fail
   refine (HI.out _ rfl).mono ?_
   rintro e w1 ⟨rfl,hb1⟩
   have HO1:=yD (HO.out.below hb1)
   go_wp2
   go_ret
   exact ⟨_,rfl,HO1.out.cast HF.out,Touch.of_below hb1⟩
 obtain ⟨b,cap,rfl,hgap⟩:=Rep.kNy hl hil
 rw [hi] at HI
 rw [List.drop_eq_getElem_cons hil] at hgap
 have hgap1:=hgap.skip
 have HK0:=yD (kFi hil hno)
 have HNY:=yD (kBr (p:=fun y=>!p y) hil (by simp [hyes]))
 have HSb:=yD hgap.mem
 have hcap:=hgap.len
 simp only [List.length_take,List.length_cons,List.length_drop] at hcap
 have hcap2:l.length≤cap:=hcap.2.1
 have hcap3:cap≤9223372036854775807:=fG
 clear hno hi hl hgap hyes HO hcap
 have hi1:((i:Int)==-1)=false:=mF
 go_enter Tryz.func136,Tryz.ntmps136
 go_wp2_with fail
 refine (HI.out _ rfl).mono ?_
 rintro e w1 ⟨rfl,hb1⟩
 have G1:=yD (hgap1.below hb1)
 have E1:=yD (Touch.of_below (S:=S) hb1)
 clear hgap1 HI
 go_wp2
 go_loopw [5,6] (fun q c wr=>∃ m kn:Nat,m≤l.length∧kn + 1≤m∧q=.int .i64 kn∧c=.int .i64 m∧Hid (kn=((l.take m).filter (fun y=>!p y)).length)∧Hid (Rep.gap 3 Rep.int wr b cap l.length ((l.take m).filter (fun y=>!p y)) (m - kn) (l.drop m) S)∧Hid (Touch S w wr)) (fun _ c _=>l.length - (intOf c).toNat)
 case atStart =>
  refine ⟨i + 1,i,by omega,by omega,rfl,by go_num,yD mD,yD ?_,E1⟩
  rw [HNY.out,HK0.out,show i + 1 - i=0 + 1 by omega]
  exact G1.out
 clear E1 G1 HNY HK0 hb1
 obtain ⟨m,kn,hm,hkn,rfl,rfl,HKN,G,E⟩:=hrel
 by_cases hlt:m < l.length
 · have hG:=G.out
   rw [List.drop_eq_getElem_cons hlt] at hG
   have hfy:=fun q=>kDe (p:=fun y=>!p y) hlt q
   have hfn:=fun q=>kBr (p:=fun y=>!p y) hlt q
   obtain ⟨cs,hr,hcl,hbd,hcell,hnext⟩:=hG.next
   have hskip:=hG.skip
   have hfz:=hG.frozen
   generalize l[m]=x at *
   have HFY:=yD hfy;have HFN:=yD hfn;clear hfy hfn hG
   rw [← HKN.out] at hcell hnext
   rw [show kn + (m - kn)=m by omega] at hcell
   obtain ⟨c0,rfl⟩:∃ c0,cs=[c0]:=by
    have hl2:=Rep.int.len hr
    match cs,hl2 with
    | [c0],_=>exact ⟨_,rfl⟩
   have A0:wr.cell? ⟨b,m,none⟩=some c0:=by have:=hcell 0 c0 rfl;simpa [show Rep.int.n=1 from rfl] using this
   have hroom:∀ q,q < 1→kn * 1 + q < cap * 1:=by intro q hq;omega
   obtain ⟨o0,O0⟩:=Option.isSome_iff_exists.1 (G.out.cells (i:=kn) (by have:=hroom 0 rJ;simp only [show Rep.int.n=1 from rfl];omega))
   have Z0:=hfz kn
   have HR:=yD hr
   obtain ⟨rhe,rrg⟩:=Rep.jX hr
   obtain rfl:c0=_:=by simpa using rhe
   clear rhe rrg hr hcl hcell hroom hfz
   have HNX:=yD hnext;have HSK:=yD hskip;clear hnext hskip
   have HB:=yD (G.out.lt)
   go_wp2_with fail
   refine (HCL.out wr E.out _ _ HR.out).mono ?_
   rintro e w5 ⟨rfl,hb5⟩
   have E5:=yD hb5
   clear hb5
   cases hp:p x
   · have HT:=yD (HFY.out rF)
     replace O0:=cL E5.out O0
     replace Z0:=(E5.out.frozen (p:=⟨b,kn,none⟩) HB.out).trans Z0
     obtain ⟨hg1,hg2⟩:=HNX.out w5 E5.out rJ _ rfl
     simp only [show Rep.int.n=1 from rfl,Nat.mul_one] at hg1 hg2
     have HG1:=yD hg1;have HG2:=yD hg2;clear hg1 hg2 HNX HSK HFN HFY
     go_wp2
     go_roundw
     case rel =>
      refine ⟨m + 1,kn + 1,by omega,by omega,by go_num,by go_num,yD dY,yD ?_,yD ((E.out.trans (Touch.of_below E5.out)).trans (HG2.out.wide (fun j hj=>hj ▸ HSb.out)))⟩
      rw [HT.out,show m + 1 - (kn + 1)=m - kn by omega]
      exact HG1.out
     simp [intOf];omega
   have HT:=yD (HFN.out rF)
   go_wp2
   go_roundw
   case rel =>
    refine ⟨m + 1,kn,by omega,by omega,rfl,by go_num,yD (by rw [HT.out];exact HKN.out),yD ?_,yD (E.out.trans (Touch.of_below E5.out))⟩
    rw [HT.out,show m + 1 - kn=(m - kn) + 1 by omega]
    exact HSK.out.below E5.out
   simp [intOf];omega
 obtain rfl:m=l.length:=rJ
 have hG:=G.out
 rw [List.drop_length,List.take_length] at hG
 rw [List.take_length] at HKN
 have HG:=yD hG;clear hG G
 have hknI:(kn:Int)≤l.length:=rJ
 have hknC:(kn:Int)≤cap:=rJ
 have hknN:kn≤l.length:=rJ
 have hlcI:(l.length:Int)≤cap:=rJ
 have hj0:0 < l.length - kn:=rJ
 obtain ⟨w6,hrun,h6,t6⟩:=HG.out.kFq (P:=Tryz.prog) (t:=84) (ty:=0) (c:=cap - kn) (p:=kn) hj0 Tryz.underlying84 kEm rfl rG (kQn _ rG) (by simp only [show Rep.int.n=1 from rfl];rw [← HKN.out,Nat.mul_one])
 have H6:=yD h6;have T6:=yD t6;clear h6 t6 HG
 go_wp2
 go_ret
 exact ⟨_,rfl,by rw [HKN.out];exact H6.out,E.out.trans (T6.out.wide (fun j hj=>hj ▸ HSb.out))⟩
def outOk (x:yZ) (n:ky):Bool:=mOk n x.2.2.2.2.1
def kFh (x:yZ) (n:ky) (ex:Int):List Int:=if outOk x n then kGz x.2.2.2.2.2.1 (kCk n x.2.2.2.2.1) ((kCl x.2.2.2.2.1 n).filter (fun f=>!(f==ex))) else []
theorem outF_no {x:yZ} {n:ky} {ex:Int} (h:mOk n x.2.2.2.2.1=false):kFh x n ex=[]:=by unfold kFh outOk;rw [h];rfl
theorem kRs {x:yZ} {n:ky} {ex:Int} (h:mOk n x.2.2.2.2.1=true):kFh x n ex=kGz x.2.2.2.2.2.1 (kCk n x.2.2.2.2.1) ((kCl x.2.2.2.2.1 n).filter (fun f=>!(f==ex))):=by unfold kFh outOk;rw [h];rfl
theorem kUy {x:yZ} {n:ky} {ex:Int} (h:mOk n x.2.2.2.2.1=true):kFh x n ex=(kGz x.2.2.2.2.2.1 (kCk n x.2.2.2.2.1) (kCl x.2.2.2.2.1 n)).filter (fun f=>!(f==ex)):=by
 rw [kRs h];unfold kGz;rw [Srt.kTr]
theorem kLx {x:yZ} {n:ky} {ex:Int}:(kFh x n ex).length≤x.2.2.2.2.1.length:=by
 unfold kFh
 split
 · rw [kIu];exact Nat.le_trans (List.length_filter_le _ _) kIx
 exact Nat.zero_le _
theorem kPs {w:World} {f ex:Int} {B:Nat} (A:w.cell? ⟨B,0,none⟩=some (.int .i64 ex)):Calls Tryz.prog 138 (#[.int .i64 f]++#[.pointer (some ⟨B,0,none⟩)]) w fun e w'=>e=.returned (.bool (f==ex))∧w'=w:=by
 show Calls Tryz.prog 138 #[_,_] w _
 go_enter Tryz.func138,Tryz.ntmps138
 go_wp2
 go_ret
 exact ⟨rfl,rfl⟩
theorem kKz:jB Tryz.prog 138:=yh Tryz.func138 rA rA
theorem cell_lt {w:World} {b i:Nat} {v:Value} (k:w.cell? ⟨b,i,none⟩=some v):b < w.heap.size:=by
 rcases Nat.lt_or_ge b w.heap.size with q | q
 · exact q
 unfold World.cell? at k
 simp [Array.getElem?_eq_none q] at k
theorem Touch.cell {S:Nat→Prop} {w w':World} {b i:Nat} {v:Value} (h:Touch S w w') (hb:¬ S b) (k:w.cell? ⟨b,i,none⟩=some v):w'.cell? ⟨b,i,none⟩=some v:=by
 have hlt:b < w.heap.size:=by
  rcases Nat.lt_or_ge b w.heap.size with q | q
  · exact q
  unfold World.cell? at k
  simp [Array.getElem?_eq_none q] at k
 have e:=h.block b hlt hb
 unfold World.cell? at k ⊢
 simp only at k ⊢
 rw [e];exact k
theorem kJe {w:World} {cx:List Value} {x:yZ} (hx:jM.rd w cx x) {cn:List Value} {n:ky} (hn:kZ.rd w cn n) {ex:Int} (hex:-9223372036854775808≤ex∧ex≤9223372036854775807) :
    Calls Tryz.prog 46 #[.agg cx.toArray,.agg cn.toArray,.int .i64 ex] w (yf (Rep.slice 3 Rep.int) (kFh x n ex) w):=by
 obtain ⟨q1,q2,q3,q4,q5,q6,q7⟩:=hx.2
 have HA:Hid (x.2.2.2.2.1.length≤16777216):=yD q5.1
 have HN:=yD hn
 obtain ⟨nv,rfl,n_0⟩:=kR hn.1
 obtain ⟨na,np,rfl,_⟩:=Rep.sl n_0
 obtain ⟨av0,av2,av3,av4,av5,av6,rfl,a_0,a_1,a_2,a_3,a_4,a_5,a_6,a_7,a_8⟩:=jm hx.1
 obtain ⟨aa0,ap0,rfl,al0⟩:=Rep.sl a_0
 obtain ⟨aa2,ap2,rfl,al2⟩:=Rep.sl a_3
 obtain ⟨aa3,ap3,rfl,al3⟩:=Rep.sl a_4
 obtain ⟨aa4,ap4,rfl,al4⟩:=Rep.sl a_5
 obtain ⟨aa5,ap5,rfl,al5⟩:=Rep.sl a_6
 obtain ⟨aa6,ap6,rfl,al6⟩:=Rep.sl a_7
 have RR:Hid ((Rep.slice 159 kM).rd w [.slice aa5 x.2.2.2.2.1.length ap5] x.2.2.2.2.1):=yD ⟨a_6,q5⟩
 have RM:Hid ((Rep.slice 166 kG).rd w [.slice aa6 x.2.2.2.2.2.1.length ap6] x.2.2.2.2.2.1):=yD ⟨a_7,q6⟩
 clear n_0 hn hx q1 q2 q3 q4 q5 q6 q7 a_0 a_1 a_2 a_3 a_4 a_5 a_6 a_7 a_8
 have HNO:=yD (outF_no (x:=x) (n:=n) (ex:=ex));have HYES:=yD (kRs (x:=x) (n:=n) (ex:=ex));have HYES2:=yD (kUy (x:=x) (n:=n) (ex:=ex));have HOL:=yD (kLx (x:=x) (n:=n) (ex:=ex))
 go_enter Tryz.func46,Tryz.ntmps46
 go_wp2_with fail
 generalize hwB:World.alloc (World.alloc (World.alloc w _) _) _=wB
 have EB:Below w.heap.size w wB:=by rw [← hwB];exact bD
 have K5:wB.cell? ⟨w.heap.size,5,none⟩=some (.slice aa5 x.2.2.2.2.1.length ap5):=nJ
 have K6:wB.cell? ⟨w.heap.size,6,none⟩=some (.slice aa6 x.2.2.2.2.2.1.length ap6):=nJ
 have KN:wB.cell? ⟨w.heap.size + 1,0,none⟩=some (.slice na n.length np):=nJ
 have KE:wB.cell? ⟨w.heap.size + 1 + 1,0,none⟩=some (.int .i64 ex):=nJ
 clear hwB
 have hzB:=EB.size
 refine (kDm (RR.out.below EB) (HN.out.below EB)).mono ?_
 rintro e w1 ⟨pc,rfl,OP,hb1⟩
 obtain ⟨pv0,rfl,p_0⟩:=kR OP.raw
 obtain ⟨pa0,pp0,rfl,_⟩:=Rep.sl p_0
 clear p_0
 have HP:=yD OP.rd
 have E1:=(tQ EB hb1)
 have hz1:=E1.size
 replace K5:=cL hb1 K5
 replace K6:=cL hb1 K6
 replace KN:=cL hb1 KN
 replace KE:=cL hb1 KE
 clear OP hb1 EB
 cases hok:mOk n x.2.2.2.2.1
 · have HE:=yD (HNO.out hok)
   go_wp2
   go_ret
   exact ⟨_,rfl,by rw [HE.out];exact Rep.kAs,E1.trans (Below.mono bD E1.size)⟩
 have HE:=yD (HYES.out hok)
 clear HNO HYES HYES2
 go_upto_region 4 with fail
 generalize hwC:World.alloc w1 _=wC
 have EC0:Below w1.heap.size w1 wC:=mE
 have KP:wC.cell? ⟨w1.heap.size,0,none⟩=some (.slice pa0 (kCk n x.2.2.2.2.1).length pp0):=nK
 clear hwC
 replace K5:=cL EC0 K5
 replace K6:=cL EC0 K6
 replace KN:=cL EC0 KN
 replace KE:=cL EC0 KE
 have EC:=(tQ E1 EC0)
 have hzC:=EC.size
 have hlt6:=cell_lt K6
 have hltP:=cell_lt KP
 go_wp2_with fail
 refine (kSe (RR.out.below EC) (HN.out.below EC)).mono ?_
 rintro e w2 ⟨v2,rfl,O2,hb2⟩
 obtain ⟨oa,on,oc,ho,HON⟩:=O2.parts;obtain rfl:=ho
 have HO:=yD O2;have HB2:=yD hb2
 have hz2:=hb2.size
 have E2:=(tQ EC hb2)
 have KE2:=cL hb2 KE
 replace K6:=cL hb2 K6
 replace KP:=cL hb2 KP
 clear O2 hb2
 go_wp2_with fail
 have HCL:Hid (∀ wr,Touch (Btw wC.heap.size w2.heap.size) w2 wr→∀ z c,Rep.int.raw wr [c] z→Calls Tryz.prog 138 (#[c]++#[.pointer (some ⟨w.heap.size + 1 + 1,0,none⟩)]) wr (fun e w'=>e=.returned (.bool (z==ex))∧Below wr.heap.size wr w')):=yD (fun wr tw z c hz=>by
   have e:=HB2.out.trans (tw.below HB2.out.size (fun i hi=>hi.1))
   obtain ⟨hc,_⟩:=Rep.jX hz
   obtain rfl:c=_:=by simpa using hc
   exact (kPs (cL e KE)).mono (fun e2 w2 h=>⟨h.1,by rw [h.2];exact bR⟩))
 refine (kOk (fun z=>z==ex) kKz HO.out (by have:=kIx (l:=x.2.2.2.2.1) (n:=n);have:=HA.out;omega) HCL.out).mono ?_
 rintro e w3 ⟨v3,rfl,O3,T3⟩
 obtain ⟨da,dn,dc,hd,HDN⟩:=O3.parts;obtain rfl:=hd
 have hT3:=T3.below (B:=wC.heap.size) hz2 (fun i hi=>hi.1)
 have hz3:=T3.size
 have HO3:=yD O3
 have E3:=E2.trans (T3.below rJ nD)
 have hbCC:Below wC.heap.size wC w3:=HB2.out.trans hT3
 have K6':w3.cell? ⟨w.heap.size,6,none⟩=some (.slice aa6 x.2.2.2.2.2.1.length ap6):=T3.cell (by intro q;have:=q.1;omega) K6
 have KP':w3.cell? ⟨w1.heap.size,0,none⟩=some (.slice pa0 (kCk n x.2.2.2.2.1).length pp0):=T3.cell (by intro q;have:=q.1;omega) KP
 clear O3 T3 HO HCL K6 KP hT3
 have HD:Hid ((Rep.slice 3 Rep.int).rd w3 [.slice da dn dc] ((kCl x.2.2.2.2.1 n).filter (fun z=>!(z==ex)))):=yD ((HO3.out.own (by have:=kIx (l:=x.2.2.2.2.1) (n:=n);have:=HA.out;have:=List.length_filter_le (fun z=>!(z==ex)) (kCl x.2.2.2.2.1 n);unfold Big;omega)).rd)
 go_wp2_with fail
 refine (kPr (RM.out.below E3) (HP.out.below (tQ EC0 hbCC)) HD.out).mono ?_
 rintro e w4 ⟨v4,rfl,O4,hb4⟩
 obtain ⟨ra,rp,rfl,_⟩:=Rep.sl O4.raw
 have HO4:=yD O4;clear O4
 have hz4:=hb4.size;have hz5:=E3.size
 go_wp2
 go_ret
 exact ⟨_,rfl,by rw [HE.out];exact HO4.out.wide gQ,(tQ E3 hb4)⟩
theorem kJb {w:World} {cx:List Value} {x:yZ} (hx:jM.rd w cx x) {cn:List Value} {n:ky} (hn:kZ.rd w cn n) {ex:Int} (hex:-9223372036854775808≤ex∧ex≤9223372036854775807) :
    Calls Tryz.prog 32 #[.agg cx.toArray,.agg cn.toArray,.int .i64 ex] w (yf (Rep.slice 3 Rep.int) (kFh x n ex) w):=by
 obtain ⟨q1,q2,q3,q4,q5,q6,q7⟩:=hx.2
 have HA:Hid (x.2.2.2.2.1.length≤16777216):=yD q5.1
 have HN:=yD hn
 obtain ⟨nv,rfl,n_0⟩:=kR hn.1
 obtain ⟨na,np,rfl,_⟩:=Rep.sl n_0
 obtain ⟨av0,av2,av3,av4,av5,av6,rfl,a_0,a_1,a_2,a_3,a_4,a_5,a_6,a_7,a_8⟩:=jm hx.1
 obtain ⟨aa0,ap0,rfl,al0⟩:=Rep.sl a_0
 obtain ⟨aa2,ap2,rfl,al2⟩:=Rep.sl a_3
 obtain ⟨aa3,ap3,rfl,al3⟩:=Rep.sl a_4
 obtain ⟨aa4,ap4,rfl,al4⟩:=Rep.sl a_5
 obtain ⟨aa5,ap5,rfl,al5⟩:=Rep.sl a_6
 obtain ⟨aa6,ap6,rfl,al6⟩:=Rep.sl a_7
 have RR:Hid ((Rep.slice 159 kM).rd w [.slice aa5 x.2.2.2.2.1.length ap5] x.2.2.2.2.1):=yD ⟨a_6,q5⟩
 have RM:Hid ((Rep.slice 166 kG).rd w [.slice aa6 x.2.2.2.2.2.1.length ap6] x.2.2.2.2.2.1):=yD ⟨a_7,q6⟩
 clear n_0 hn hx q1 q2 q3 q4 q5 q6 q7 a_0 a_1 a_2 a_3 a_4 a_5 a_6 a_7 a_8
 have HNO:=yD (outF_no (x:=x) (n:=n) (ex:=ex));have HYES:=yD (kRs (x:=x) (n:=n) (ex:=ex));have HYES2:=yD (kUy (x:=x) (n:=n) (ex:=ex));have HOL:=yD (kLx (x:=x) (n:=n) (ex:=ex))
 go_enter Tryz.func32,Tryz.ntmps32
 go_wp2_with fail
 generalize hwB:World.alloc (World.alloc w _) _=wB
 have EB:Below w.heap.size w wB:=by rw [← hwB];exact bD
 have K5:wB.cell? ⟨w.heap.size,5,none⟩=some (.slice aa5 x.2.2.2.2.1.length ap5):=nJ
 have K6:wB.cell? ⟨w.heap.size,6,none⟩=some (.slice aa6 x.2.2.2.2.2.1.length ap6):=nJ
 have KN:wB.cell? ⟨w.heap.size + 1,0,none⟩=some (.slice na n.length np):=nJ
 clear hwB
 have hzB:=EB.size
 refine (kDj (RR.out.below EB) (HN.out.below EB)).mono ?_
 rintro e w1 ⟨pc,rfl,OP,hb1⟩
 obtain ⟨pv0,rfl,p_0⟩:=kR OP.raw
 obtain ⟨pa0,pp0,rfl,_⟩:=Rep.sl p_0
 clear p_0
 have HP:=yD OP.rd
 have E1:=(tQ EB hb1)
 have hz1:=E1.size
 replace K5:=cL hb1 K5
 replace K6:=cL hb1 K6
 replace KN:=cL hb1 KN
 clear OP hb1 EB
 generalize hok:mOk n x.2.2.2.2.1=ok at *
 go_upto_region 2 with fail
 generalize hwC:World.alloc w1 _=wC
 have EC0:Below w1.heap.size w1 wC:=mE
 have KP:wC.cell? ⟨w1.heap.size,0,none⟩=some (.slice pa0 (kCk n x.2.2.2.2.1).length pp0):=nK
 clear hwC
 replace K5:=cL EC0 K5
 replace K6:=cL EC0 K6
 replace KN:=cL EC0 KN
 have EC:=(tQ E1 EC0)
 have hzC:=EC.size
 have FX:=yD (fun (W:World) (hW:Below wC.heap.size wC W)=>kDa hW K5 K6 KN KP)
 refine kV (fun W=>Below wC.heap.size wC W) [true,true,true,true,true,true,false,false,true] rA rA gI (bR.drew) ?_
 intro wS HS
 iterate 6
  all_goals refine wkR ?_
 all_goals first|(refine kL rfl HS ?_)|(refine jE rfl (fun K hK=>?_);go_simp;refine (kRb (RR.out.below (tQ EC HS)) (HN.out.below (tQ EC HS))).mono ?_;rintro e wT ⟨hv,rfl,OH,hbT⟩;obtain ⟨ha,hp,rfl,_⟩:=Rep.sl OH.raw;have HOH:=yD OH;clear OH;replace HS:=(tQ HS hbT);refine hK _ _ HS ?_;clear hK K hbT)
 all_goals refine wkP ?_
 all_goals first|(refine kL rfl HS ?_)|(refine jE rfl (fun K hK=>?_);go_simp;refine (kPi (RM.out.below (tQ EC HS)) (HP.out.below (tQ EC0 HS)) HOH.out.rd).mono ?_;rintro e wU ⟨fv,rfl,OF,hbU⟩;obtain ⟨fa,fp,rfl,_⟩:=Rep.sl OF.raw;have HF:=yD OF;clear OF;replace HS:=(tQ HS hbU);refine hK _ _ HS ?_;clear hK K hbU)
 all_goals refine wkP ?_
 all_goals refine wkR ?_
 all_goals refine ko ?_
 generalize wU=w4 at *
 have E4:=(tQ EC HS)
 have hz4:=E4.size
 have HFL:Hid ((kGz x.2.2.2.2.2.1 (kCk n x.2.2.2.2.1) (kCl x.2.2.2.2.1 n)).length≤16777216):=yD (by rw [kIu];have:=kIx (l:=x.2.2.2.2.1) (n:=n);have:=HA.out;omega)
 have HRAW:=yD HF.out.raw
 clear HOH HF KP K5 K6 KN HS
 generalize kGz x.2.2.2.2.2.1 (kCk n x.2.2.2.2.1) (kCl x.2.2.2.2.1 n)=F at *
 have hfl:F.length≤16777216:=HFL.out
 go_wp2
 go_loopw [10,11] (fun v i wr=>∃ (k:Nat),k≤F.length∧i=.int .i64 k∧(ok=false→k=0)∧Hid (Rep.kQ 3 Rep.int wr v ((F.take k).filter (fun z=>!(z==ex))) (Btw w4.heap.size wr.heap.size))∧Below w4.heap.size w4 wr) (fun _ i _=>F.length - (intOf i).toNat)
 case atStart=>exact ⟨0,Nat.zero_le _,rfl,fun _=>rfl,yD Rep.kQ.void,bD⟩
 obtain ⟨k,hk,rfl,hk0,HI,hbel⟩:=hrel
 obtain ⟨ia,inn,ic,hi,HIN⟩:=HI.out.parts;obtain rfl:=hi
 have HK0:=yD hk0;clear hk0
 have hrz:=hbel.size
 have hkn:=Int.natCast_nonneg k
 by_cases hlt:k < F.length
 · have hltI0:(k:Int) < F.length:=rJ
   cases ok
   · have HFIN:Hid (kFh x n ex=(F.take k).filter (fun z=>!(z==ex))):=yD (by rw [HNO.out rfl,HK0.out rfl];rfl)
     have HLN:Hid (((F.take k).filter (fun z=>!(z==ex))).length≤Big):=yD (by have h2:=zf (p:=fun z=>!(z==ex)) (l:=F) (k:=k) hk;unfold Big;omega)
     go_wp2
     go_ret
     exact ⟨_,rfl,by rw [HFIN.out];exact (HI.out.own HLN.out).wide gQ,(tQ E4 hbel)⟩
   have hltI:(k:Int) < F.length:=rJ
   have hfy:=fun q=>kDe (p:=fun z=>!(z==ex)) hlt q
   have hfn:=fun q=>kBr (p:=fun z=>!(z==ex)) hlt q
   have hil:inn≤16777216:=by have h1:=HIN.out;have h2:=zf (p:=fun z=>!(z==ex)) (l:=F) (k:=k) rJ;omega
   have hin2:((F.take k).filter (fun z=>!(z==ex))).length≤16777216:=by have h2:=zf (p:=fun z=>!(z==ex)) (l:=F) (k:=k) rJ;omega
   obtain ⟨qb,qo,rfl,qc0,qr,A0⟩:=Rep.kEo (HRAW.out.below hbel) hlt rfl
   obtain ⟨qhe,HRG⟩:=Rep.jX qr
   obtain rfl:qc0=_:=by simpa using qhe
   generalize F[k]=z at *
   have HFY:=yD hfy;have HFN:=yD hfn;clear hfy hfn qhe qr
   cases hq:(z==ex)
   · have HT:=yD (HFY.out (by rw [hq];rfl))
     have hne:(z != ex)=true:=by simp only [bne,hq];rfl
     clear HFY HFN
     go_wp2_with (at_builtin;refine Rep.jU rfl _ _ 84 rfl (r:=Rep.int) (e:=3) Tryz.underlying84 kEm rfl rG rG (B:=w4.heap.size) HI.out rO rO rfl (Rep.kr HRG _) rfl (fun _ _ h=>h) gP (fun _ h=>h.elim) rJ rJ ?_)
     intro v5 w5 hown hb5 hz5
     have HO5:=yD (Rep.kQ.cast hown HT.out.symm)
     have hbF:=hbel.trans hb5
     clear hown hb5
     go_wp2
     go_roundw
     case rel=>exact ⟨k + 1,by omega,by go_num,(fun h=>Bool.noConfusion h),HO5,hbF⟩
     simp [intOf];omega
   have HT:=yD (HFN.out (by rw [hq];rfl))
   have hne:(z != ex)=false:=by simp only [bne,hq];rfl
   clear HFY HFN
   go_wp2
   go_roundw
   case rel=>exact ⟨k + 1,by omega,by go_num,(fun h=>Bool.noConfusion h),yD (HI.out.cast HT.out.symm),hbel⟩
   simp [intOf];omega
 have hltI:¬ (k:Int) < F.length:=rJ
 have HFIN:Hid (kFh x n ex=(F.take k).filter (fun z=>!(z==ex))):=yD (by 
         obtain rfl:k=F.length:=rJ
         rw [List.take_length]
         cases ok
         · rw [HNO.out rfl];have h0:=HK0.out rfl;rw [List.eq_nil_of_length_eq_zero h0];rfl
         · exact HYES2.out rfl)
 have HLN:Hid (((F.take k).filter (fun z=>!(z==ex))).length≤Big):=yD (by have h2:=zf (p:=fun z=>!(z==ex)) (l:=F) (k:=k) hk;unfold Big;omega)
 go_wp2
 go_ret
 exact ⟨_,rfl,by rw [HFIN.out];exact (HI.out.own HLN.out).wide gQ,(tQ E4 hbel)⟩
def kKo (c:Int):Bool:=!((!inR c 97 122 && !inR c 48 57) && (c != 45))
def okBi (c:Int):Bool:=((decide (c ≥ 97) && decide (c≤122)) || (decide (c ≥ 48) && decide (c≤57))) || (c==45)
def kDq (s:ByteArray) (j:Nat):Int:=(s.data.toList.getD j 0).toNat
def kCn (s:ByteArray):Bool:=kGs (fun j=>kKo (kDq s j)) s.size && inR s.size 1 8
theorem okBi_eq (c:Int):okBi c=kKo c:=by
 unfold okBi kKo inR
 rw [Bool.eq_iff_iff]
 simp
 try omega
theorem vPart_out {s:ByteArray} (h:inR s.size 1 8=false):kCn s=false:=by simp [kCn,h]
theorem kUg {s:ByteArray} {k:Nat} (h:k < s.size) (q:kKo (kDq s k)=false):kCn s=false:=by
 unfold kCn;rw [kSs h q];rfl
theorem kQp {s:ByteArray} {k:Nat} (q:kGs (fun j=>kKo (kDq s j)) k=true) (h:¬ k < s.size) (hk:k≤s.size):kCn s=inR s.size 1 8:=by
 obtain rfl:k=s.size:=rJ
 unfold kCn;rw [q];rfl
theorem kSp {s:ByteArray} {k:Nat} (h:k < s.size):kDq s k=(s[k].toNat:Int):=by
 unfold kDq
 rw [zL qX]
 rfl
theorem kSo (s:ByteArray) (k:Nat):0≤kDq s k∧kDq s k < 256:=by
 unfold kDq;have:=(s.data.toList.getD k 0).toNat_lt;omega
theorem kPg {w:World} {s:ByteArray} (hs:s.size≤maxLen):Calls Tryz.prog 187 #[.string s] w fun e w'=>e=.returned (.bool (kCn s))∧w'=w:=by
 unfold maxLen at hs
 go_enter Tryz.func187,Tryz.ntmps187
 go_wp2_with fail
 refine kAp.mono ?_
 rintro e w1 ⟨rfl,hw⟩
 obtain rfl:=hw.symm
 cases hin:inR s.size 1 8
 · have HT:=yD (vPart_out hin)
   go_wp2
   go_ret
   exact ⟨kP HT.out.symm,rfl⟩
 have HI:=yD hin
 go_wp2
 go_loop [3] (fun i=>∃ k:Nat,k≤s.size∧i=.int .i64 k∧Hid (kGs (fun j=>kKo (kDq s j)) k=true)) (fun i=>s.size - (intOf i).toNat)
 case atStart=>exact ⟨0,Nat.zero_le _,rfl,yD rfl⟩
 obtain ⟨k,hk,rfl,HN⟩:=hrel
 by_cases hlt:k < s.size
 · have hr:=kSo s k
   have hg:=kSp hlt
   have HB:=yD (fun q=>kUg hlt q)
   have HX:=yD (fun q=>kIy (f:=fun j=>kKo (kDq s j)) HN.out q)
   go_upto_region 7 with fail
   generalize (s[k].toNat:Int)=c at *
   have HC:=yD hg
   clear hg
   refine ku (fun W=>Hid (W=w)) [true,false,true,true,true,false,true,true,true,true,true,true] (yD rfl) ?_
   intro wS HS
   all_goals refine wkR ?_
   all_goals first | refine wkC (kAp) ?_ | refine wkR ?_
   all_goals refine wkR ?_
   all_goals (have hg3:=True.intro;first|(refine wkG (fun b hg3=>?_);cases b;all_goals first | exact Bool.noConfusion hg3 | simp only [zU,zV] at hg3 | skip) | refine wkR ?_)
   all_goals refine wkP ?_
   all_goals refine wkR ?_
   all_goals first | refine wkC (kAp) ?_ | refine wkR ?_
   all_goals refine wkR ?_
   all_goals refine wkR ?_
   all_goals (have hg8:=True.intro;first|(refine wkG (fun b hg8=>?_);cases b;all_goals first | exact Bool.noConfusion hg8 | simp only [zU,zV] at hg8 | skip) | refine wkR ?_)
   all_goals refine wkP ?_
   all_goals refine wkR ?_
   all_goals refine wkR ?_
   all_goals (have hg11:=True.intro;first|(refine wkG (fun b hg11=>?_);cases b;all_goals first | exact Bool.noConfusion hg11 | simp only [zU,zV] at hg11 | skip) | refine wkR ?_)
   all_goals refine wkP ?_
   all_goals refine ko ?_
   all_goals obtain rfl:=HS.out.symm
   all_goals first
     | (have HV:=(congrArg kKo HC.out).trans (show _=false by simp only [kKo,Bool.not_true,Bool.not_false,Bool.and_true,Bool.true_and,Bool.and_false,Bool.false_and,Bool.or_true,Bool.true_or,Bool.or_false,Bool.false_or,Bool.not_not,hg3,hg8,hg11]);have HT:=yD (HB.out HV);clear HV HB HX HC;go_wp2;go_ret;exact ⟨kP HT.out.symm,rfl⟩)
     | (have HV:=(congrArg kKo HC.out).trans (show _=true by simp only [kKo,Bool.not_true,Bool.not_false,Bool.and_true,Bool.true_and,Bool.and_false,Bool.false_and,Bool.or_true,Bool.true_or,Bool.or_false,Bool.false_or,Bool.not_not,hg3,hg8,hg11]);have HT:=yD (HX.out HV);clear HV HB HX HC;go_wp2;go_round;(case rel=>exact ⟨k + 1,by omega,by go_num,HT⟩);(case measure=>simp [intOf];omega))
 have HT:=yD (kQp HN.out hlt hk)
 have HU:=yD (HT.out.trans HI.out)
 go_wp2
 go_ret
 exact ⟨kP HU.out.symm,rfl⟩
theorem kPp {w:World} {s:ByteArray} (hs:s.size≤maxLen):Calls Tryz.prog 210 #[.string s] w fun e w'=>e=.returned (.bool (kCn s))∧w'=w:=by
 unfold maxLen at hs
 go_enter Tryz.func210,Tryz.ntmps210
 go_wp2
 go_loop [7] (fun i=>∃ k:Nat,k≤s.size∧i=.int .i64 k∧Hid (kGs (fun j=>kKo (kDq s j)) k=true)) (fun i=>s.size - (intOf i).toNat)
 case atStart=>exact ⟨0,Nat.zero_le _,rfl,yD rfl⟩
 obtain ⟨k,hk,rfl,HN⟩:=hrel
 by_cases hlt:k < s.size
 · have hr:=kSo s k
   have hg:=kSp hlt
   have HB:=yD (fun q=>kUg hlt q)
   have HX:=yD (fun q=>kIy (f:=fun j=>kKo (kDq s j)) HN.out q)
   go_upto_region 5 with fail
   generalize (s[k].toNat:Int)=c at *
   have HC:=yD hg
   clear hg
   refine ku (fun W=>Hid (W=w)) [true,true,true,true,true,true,true,true,true,true,true,true,true,true,true,true,true,true,true] (yD rfl) ?_
   intro wS HS
   all_goals refine wkR ?_
   all_goals refine wkR ?_
   all_goals (have hg2:=True.intro;first|(refine wkG (fun b hg2=>?_);cases b;all_goals first | exact Bool.noConfusion hg2 | simp only [zU,zV] at hg2 | skip) | refine wkR ?_)
   all_goals refine wkP ?_
   iterate 3
    all_goals refine wkR ?_
   all_goals (have hg6:=True.intro;first|(refine wkG (fun b hg6=>?_);cases b;all_goals first | exact Bool.noConfusion hg6 | simp only [zU,zV] at hg6 | skip) | refine wkR ?_)
   all_goals refine wkP ?_
   all_goals refine wkR ?_
   all_goals refine wkR ?_
   all_goals (have hg9:=True.intro;first|(refine wkG (fun b hg9=>?_);cases b;all_goals first | exact Bool.noConfusion hg9 | simp only [zU,zV] at hg9 | skip) | refine wkR ?_)
   all_goals refine wkP ?_
   iterate 4
    all_goals refine wkR ?_
   all_goals (have hg14:=True.intro;first|(refine wkG (fun b hg14=>?_);cases b;all_goals first | exact Bool.noConfusion hg14 | simp only [zU,zV] at hg14 | skip) | refine wkR ?_)
   all_goals refine wkP ?_
   iterate 3
    all_goals refine wkR ?_
   all_goals (have hg18:=True.intro;first|(refine wkG (fun b hg18=>?_);cases b;all_goals first | exact Bool.noConfusion hg18 | simp only [zU,zV] at hg18 | skip) | refine wkR ?_)
   all_goals refine wkP ?_
   all_goals refine ko ?_
   all_goals obtain rfl:=HS.out.symm
   all_goals first
     | (have HV:=(congrArg kKo HC.out).trans ((okBi_eq _).symm.trans (show _=false by simp only [okBi,Bool.not_true,Bool.not_false,Bool.and_true,Bool.true_and,Bool.and_false,Bool.false_and,Bool.or_true,Bool.true_or,Bool.or_false,Bool.false_or,Bool.not_not,ge_iff_le,hg2,hg6,hg9,hg14,hg18]));have HT:=yD (HB.out HV);clear HV HB HX HC;go_wp2;go_ret;exact ⟨kP HT.out.symm,rfl⟩)
     | (have HV:=(congrArg kKo HC.out).trans ((okBi_eq _).symm.trans (show _=true by simp only [okBi,Bool.not_true,Bool.not_false,Bool.and_true,Bool.true_and,Bool.and_false,Bool.false_and,Bool.or_true,Bool.true_or,Bool.or_false,Bool.false_or,Bool.not_not,ge_iff_le,hg2,hg6,hg9,hg14,hg18]));have HT:=yD (HX.out HV);clear HV HB HX HC;go_wp2;go_round;(case rel=>exact ⟨k + 1,by omega,by go_num,HT⟩);(case measure=>simp [intOf];omega))
 have HT:=yD (kQp HN.out hlt hk)
 go_wp2_with fail
 refine kAh.mono ?_
 rintro e w1 ⟨rfl,hw⟩
 obtain rfl:=hw.symm
 go_wp2
 go_ret
 exact ⟨kP HT.out.symm,rfl⟩
def kLk (n:ky):Bool:=kGs (fun j=>kCn (n.getD j ByteArray.empty)) n.length && decide (n.length≤6)
theorem vName_bad {n:ky} {k:Nat} (h:k < n.length) (q:kCn n[k]=false):kLk n=false:=by
 unfold kLk;rw [kSs h (by (try simp only);rw [zL h];exact q)];rfl
theorem vName_next {n:ky} {k:Nat} (h:k < n.length) (q:kCn n[k]=true) (a:kGs (fun j=>kCn (n.getD j ByteArray.empty)) k=true):kGs (fun j=>kCn (n.getD j ByteArray.empty)) (k + 1)=true :=
  kIy a (by (try simp only);rw [zL h];exact q)
theorem vName_good {n:ky} {k:Nat} (q:kGs (fun j=>kCn (n.getD j ByteArray.empty)) k=true) (h:¬ k < n.length) (hk:k≤n.length):kLk n=decide (n.length≤6):=by
 obtain rfl:k=n.length:=rJ
 unfold kLk;rw [q];rfl
theorem idx_all {α:Type} (p:α→Bool) (x:List α) (d:α):(!decide (0≤idxOf p x))=kGs (fun j=>!p (x.getD j d)) x.length:=by
 unfold idxOf
 cases h:x.findIdx? p with
 | none =>
   have hn:=List.findIdx?_eq_none_iff.1 h
   have:kGs (fun j=>!p (x.getD j d)) x.length=true:=by
     have key:∀ n,n≤x.length→kGs (fun j=>!p (x.getD j d)) n=true:=by
       intro n
       induction n with
       | zero=>intro _;rfl
       | succ n ih =>
         intro hn2
         refine kIy (ih rJ) ?_
         (try simp only)
         rw [zL rJ,hn _ (List.getElem_mem _)]
         rfl
     exact key _ nL
   rw [this];simp
 | some i =>
   obtain ⟨hi,hp,_⟩:=List.findIdx?_eq_some_iff_getElem.1 h
   rw [kSs hi (by (try simp only);rw [zL hi,hp];rfl)]
   simp
theorem vName_idx (n:ky):kLk n=(decide (n.length≤6) && !decide (0≤idxOf (fun p=>!kCn p) n)):=by
 unfold kLk
 rw [idx_all _ n ByteArray.empty]
 simp only [Bool.not_not]
 exact Bool.and_comm _ _
theorem kPh {w:World} {cn:List Value} {n:ky} (hn:kZ.raw w cn n):Calls Tryz.prog 114 #[.agg cn.toArray] w fun e w'=>e=.returned (.bool (kLk n))∧Below w.heap.size w w':=by
 obtain ⟨av,rfl,a_0⟩:=kR hn
 obtain ⟨aa,capa,rfl,la⟩:=Rep.sl a_0
 clear hn
 go_enter Tryz.func114,Tryz.ntmps114
 go_wp2
 generalize hwB:World.alloc w _=wB
 have EB:Below w.heap.size w wB:=by rw [← hwB];exact bD
 have K0:wB.cell? ⟨w.heap.size,0,none⟩=some (.slice aa n.length capa):=nJ
 clear hwB
 replace a_0:=a_0.below EB
 go_loopw [3] (fun i wr=>∃ k:Nat,k≤n.length∧i=.int .i64 k∧Hid (kGs (fun j=>kCn (n.getD j ByteArray.empty)) k=true)∧Below wB.heap.size wB wr) (fun i _=>n.length - (intOf i).toNat)
 case atStart=>exact ⟨0,Nat.zero_le _,rfl,yD rfl,bR⟩
 obtain ⟨k,hk,rfl,HN,hbel⟩:=hrel
 replace K0:=cL hbel K0
 have EB2:=(tQ EB hbel)
 by_cases hlt:k < n.length
 · obtain ⟨ba,offa,rfl,c0,hr,A0⟩:=Rep.kEo (a_0.below hbel) hlt rfl
   obtain ⟨he,hsz⟩:=Rep.kBe hr
   obtain rfl:c0=_:=by simpa using he
   clear he hr
   have hb:=fun q=>vName_bad hlt q
   have hx:=fun q=>vName_next hlt q HN.out
   generalize n[k]=s at *
   have HB:=yD hb;have HX:=yD hx;have HSZ:=yD hsz;clear hb hx hsz
   go_wp2_with fail
   refine (kPg HSZ.out).mono ?_
   rintro e w1 ⟨rfl,hw⟩
   obtain rfl:=hw.symm
   cases hv:kCn s
   · have HT:=yD (HB.out hv)
     go_wp2
     go_ret
     exact ⟨kP HT.out.symm,EB2⟩
   have HT:=yD (HX.out hv)
   go_wp2
   go_roundw
   case rel=>exact ⟨k + 1,by omega,by go_num,HT,hbel⟩
   simp [intOf];omega
 have HT:=yD (vName_good HN.out hlt hk)
 go_wp2
 go_ret
 exact ⟨kP (by rw [HT.out];simp;try omega),EB2⟩
theorem kNr {w:World} {s:ByteArray} (hs:s.size≤maxLen):Calls Tryz.prog 209 (#[.string s]++#[]) w fun e w'=>e=.returned (.bool (!kCn s))∧Below w.heap.size w w':=by
 show Calls Tryz.prog 209 #[_] w _
 go_enter Tryz.func209,Tryz.ntmps209
 go_wp2_with fail
 refine (kPp hs).mono ?_
 rintro e w1 ⟨rfl,hw⟩
 obtain rfl:=hw.symm
 go_wp2
 go_ret
 exact ⟨rfl,bR⟩
theorem kEw:jB Tryz.prog 209:=yh Tryz.func209 rA rA
theorem kPq {w:World} {cn:List Value} {n:ky} (hn:kZ.raw w cn n):Calls Tryz.prog 140 #[.agg cn.toArray] w fun e w'=>e=.returned (.bool (kLk n))∧Below w.heap.size w w':=by
 obtain ⟨av,rfl,a_0⟩:=kR hn
 obtain ⟨aa,capa,rfl,la⟩:=Rep.sl a_0
 clear hn
 have HV:=yD (vName_idx n)
 go_enter Tryz.func140,Tryz.ntmps140
 by_cases hl:n.length≤6
 · have hd:decide ((n.length:Int)≤6)=true:=rC
   have hdn:decide (n.length≤6)=true:=qP
   go_wp2_with fail
   refine (kHj (fun p=>!kCn p) kEw (a_0.below bD) ?_).mono ?_
   · intro wr hb i h c hr
     obtain ⟨he,hsz⟩:=Rep.kBe hr
     obtain rfl:c=_:=by simpa using he
     exact kNr hsz
   rintro e w1 ⟨rfl,hb1⟩
   have EF:Below w.heap.size w w1:=Below.trans bD (hb1.mono rM)
   clear hb1
   go_wp2
   go_ret
   exact ⟨kP (by rw [HV.out,hdn];simp),EF⟩
 have hd:decide ((n.length:Int)≤6)=false:=rC
 have hdn:decide (n.length≤6)=false:=qP
 go_wp2
 go_ret
 exact ⟨kP (by rw [HV.out,hdn];rfl),bD⟩
theorem node_pend {w:World} {c0 c1 c2 c3 c4 c5 c6 c7:Value} {x0:List yX} {x1:jH} {x2:List kJ} {x3:List jL} {x4:List jD} {x5:List kv} {x6:Int} (h:jM.raw w [c0,c1,c2,c3,c4,c5,c6,c7] (x0,x1,x2,x3,x4,x5,x6)):(Rep.slice 77 kD).raw w [c3] x2:=by
 obtain ⟨v0,v2,v3,v4,v5,v6,he,a0,a1,a2,a3,a4,a5,a6,a7,a8⟩:=jm h
 simp only [List.cons.injEq,and_true] at he
 obtain ⟨rfl,rfl,rfl,rfl,rfl,rfl,rfl,rfl⟩:=he
 exact a4
theorem kDz {w:World} {c0 c1 c2 c3 c4 c5 c6 c7 v:Value} {x0:List yX} {x1:jH} {x2 y:List kJ} {x3:List jL} {x4:List jD} {x5:List kv} {x6:Int} {S T:Nat→Prop}
    (h:jM.own w [c0,c1,c2,c3,c4,c5,c6,c7] (x0,x1,x2,x3,x4,x5,x6) S) (hv:(Rep.slice 77 kD).own w [v] y T) (hd:∀ k,S k→T k→False):jM.own w [c0,c1,c2,v,c4,c5,c6,c7] (x0,x1,y,x3,x4,x5,x6) (fun k=>S k∨T k) :=
  Rep.set_right (c:=[c0]) h rfl (fun B hB hq=>Rep.set_right (c:=[c1,c2]) hq rfl (fun B2 hB2 hq2=>Rep.set_left (c:=[c3]) (c':=[v]) hq2 rfl hv (fun k a b=>hd k (hB k (hB2 k a)) b)) (fun k a b=>hd k (hB k a) b)) hd
theorem kLy {w:World} {c0 c1 c2 c3 c4 c5 c6 c7 v:Value} {x0:List yX} {x1:jH} {x2:List kJ} {x3 y:List jL} {x4:List jD} {x5:List kv} {x6:Int} {S T:Nat→Prop}
    (h:jM.own w [c0,c1,c2,c3,c4,c5,c6,c7] (x0,x1,x2,x3,x4,x5,x6) S) (hv:(Rep.slice 157 kI).own w [v] y T) (hd:∀ k,S k→T k→False):jM.own w [c0,c1,c2,c3,v,c5,c6,c7] (x0,x1,x2,y,x4,x5,x6) (fun k=>S k∨T k) :=
  Rep.set_right (c:=[c0]) h rfl (fun B hB hq=>Rep.set_right (c:=[c1,c2]) hq rfl (fun B2 hB2 hq2=>Rep.set_right (c:=[c3]) hq2 rfl (fun B3 hB3 hq3=>Rep.set_left (c:=[c4]) (c':=[v]) hq3 rfl hv (fun k a b=>hd k (hB k (hB2 k (hB3 k a))) b)) (fun k a b=>hd k (hB k (hB2 k a)) b)) (fun k a b=>hd k (hB k a) b)) hd
theorem kKa {w:World} {c0 c1 c2 c3 c4 c5 c6 c7 v u:Value} {x0:List yX} {x1 y:jH} {x2:List kJ} {x3:List jL} {x4:List jD} {x5:List kv} {x6:Int} {S T:Nat→Prop}
    (h:jM.own w [c0,c1,c2,c3,c4,c5,c6,c7] (x0,x1,x2,x3,x4,x5,x6) S) (hv:kH.own w [u,v] y T) (hd:∀ k,S k→T k→False):jM.own w [c0,u,v,c3,c4,c5,c6,c7] (x0,y,x2,x3,x4,x5,x6) (fun k=>S k∨T k) :=
  Rep.set_right (c:=[c0]) h rfl (fun B hB hq=>Rep.set_left (c:=[c1,c2]) (c':=[u,v]) hq rfl hv (fun k a b=>hd k (hB k a) b)) hd
def kKr (l:List kJ) (n:ky):Int:=if idxOf (jT n) l < 0 then 0 else (l.getD (idxOf (jT n) l).toNat ([],[],0)).2.2
theorem kUz {l:List kJ} {n:ky} (h:idxOf (jT n) l < 0):kKr l n=0:=by unfold kKr;rw [if_pos h]
theorem kRz {l:List kJ} {n:ky} {k:Nat} (hk:k < l.length) (h:idxOf (jT n) l=k):kKr l n=l[k].2.2:=by
 unfold kKr;rw [h,if_neg rJ,Int.toNat_natCast,zL hk]
def kFp (c:Int) (r:kS):Bool:=r.2.1==c
def kDs (x:jF) (p:kJ):Bool:=eqN p.1 x.1 && p.2.1.any (kFp x.2.1)
def kFs (x:jF) (s:jL):Bool:=eqN s.1 x.1 && (s.2==x.2.1)
def kOr (x:jF) (l:List kJ) (s:List jL):Bool:=l.any (kDs x) || s.any (kFs x)
theorem kMt {α:Type} {p:α→Bool} {l:List α} {k:Nat} (h:k < l.length) (q:p l[k]=true):l.any p=true:=List.any_eq_true.2 ⟨_,List.getElem_mem h,q⟩
theorem kMs {α:Type} {p:α→Bool} {l:List α} {k:Nat} (h:k < l.length) (a:(l.take k).any p=false) (q:p l[k]=false):(l.take (k + 1)).any p=false:=by
 rw [List.take_succ_eq_append_getElem h,List.any_append,a];simp [q]
theorem kWq {α:Type} (p:α→Bool) (l:List α):decide (0≤idxOf p l)=l.any p:=by
 unfold idxOf
 cases h:l.findIdx? p with
 | none =>
   have:l.any p=false:=by rw [List.any_eq_false];intro y hy q;have:=List.findIdx?_eq_none_iff.1 h y hy;rw [q] at this;cases this
   rw [this];simp
 | some i =>
   obtain ⟨hi,hp,_⟩:=List.findIdx?_eq_some_iff_getElem.1 h
   rw [kMt hi hp];simp
theorem kNg {w:World} {vl:Value} {l:List kJ} (hl:(Rep.slice 77 kD).raw w [vl] l) {cn:List Value} {n:ky} (hn:kZ.raw w cn n) :
    Calls Tryz.prog 77 #[vl,.agg cn.toArray] w fun e w'=>e=.returned (.int .i64 (kKr l n))∧Below w.heap.size w w':=by
 have HL:=yD hl
 have HN:=yD hn
 obtain ⟨la,lp,rfl,ll⟩:=Rep.sl hl
 obtain ⟨av,rfl,a_0⟩:=kR hn
 obtain ⟨na,np,rfl,_⟩:=Rep.sl a_0
 clear hl hn a_0
 go_enter Tryz.func77,Tryz.ntmps77
 go_wp2_with fail
 refine (kBu (HL.out.below bD) (HN.out.below bD)).mono ?_
 rintro e w1 ⟨rfl,hb1⟩
 have EF:Below w.heap.size w w1:=Below.trans bD (hb1.mono rM)
 clear hb1
 by_cases h:idxOf (jT n) l < 0
 · have HT:=yD (kUz h)
   generalize idxOf (jT n) l=q at *
   go_wp2
   go_ret
   exact ⟨jI HT.out.symm,EF⟩
 obtain ⟨k,hk,hi⟩:=kCs h
 have HT:=yD (kRz hk hi)
 rw [hi] at h ⊢
 clear hi
 obtain ⟨ba,offa,rfl,c0,c1,c2,hr,A0,A1,A2⟩:=Rep.zT (HL.out.below EF) hk rfl
 obtain ⟨v0,v1,he,p0,p1,p2,p3⟩:=kz hr
 simp only [List.cons.injEq,and_true] at he
 obtain ⟨rfl,rfl,rfl⟩:=he
 clear hr p0 p1 p2 p3
 generalize l[k]=y at *
 have hk2:=Int.ofNat_lt.2 hk
 have hk0:=Int.natCast_nonneg k
 go_wp2
 go_ret
 exact ⟨jI HT.out.symm,EF⟩
theorem kNt {w:World} {vl:Value} {l:List kJ} (hl:(Rep.slice 77 kD).raw w [vl] l) {cn:List Value} {n:ky} (hn:kZ.raw w cn n) :
    Calls Tryz.prog 88 #[vl,.agg cn.toArray] w fun e w'=>e=.returned (.int .i64 (kKr l n))∧Below w.heap.size w w':=by
 have HL:=yD hl
 have HN:=yD hn
 obtain ⟨la,lp,rfl,ll⟩:=Rep.sl hl
 obtain ⟨av,rfl,a_0⟩:=kR hn
 obtain ⟨na,np,rfl,_⟩:=Rep.sl a_0
 clear hl hn a_0
 go_enter Tryz.func88,Tryz.ntmps88
 go_wp2_with fail
 refine (kAv (HL.out.below bD) (HN.out.below bD)).mono ?_
 rintro e w1 ⟨rfl,hb1⟩
 have EF:Below w.heap.size w w1:=Below.trans bD (hb1.mono rM)
 clear hb1
 by_cases h:idxOf (jT n) l < 0
 · have HT:=yD (kUz h)
   generalize idxOf (jT n) l=q at *
   go_wp2
   go_ret
   exact ⟨jI HT.out.symm,EF⟩
 obtain ⟨k,hk,hi⟩:=kCs h
 have HT:=yD (kRz hk hi)
 rw [hi] at h ⊢
 clear hi
 obtain ⟨ba,offa,rfl,c0,c1,c2,hr,A0,A1,A2⟩:=Rep.zT (HL.out.below EF) hk rfl
 obtain ⟨v0,v1,he,p0,p1,p2,p3⟩:=kz hr
 simp only [List.cons.injEq,and_true] at he
 obtain ⟨rfl,rfl,rfl⟩:=he
 clear hr p0 p1 p2 p3
 generalize l[k]=y at *
 have hk2:=Int.ofNat_lt.2 hk
 have hk0:=Int.natCast_nonneg k
 go_wp2
 go_ret
 exact ⟨jI HT.out.symm,EF⟩
theorem kTw {w:World} {cr:List Value} {r:kS} (hr:kF.raw w cr r) {x:jF} {xc0 xc1 xc2 xc3:Value} {Bx:Nat} (xr:kw.raw w [xc0,xc1,xc2,xc3] x) (Ax0:w.cell? ⟨Bx,0,none⟩=some xc0) (Ax1:w.cell? ⟨Bx,1,none⟩=some xc1) (Ax2:w.cell? ⟨Bx,2,none⟩=some xc2) (Ax3:w.cell? ⟨Bx,3,none⟩=some xc3) :
    Calls Tryz.prog 168 (#[.agg cr.toArray]++#[.pointer (some ⟨Bx,0,none⟩)]) w fun e w'=>e=.returned (.bool (kFp x.2.1 r))∧Below w.heap.size w w':=by
 have Hr:=yD hr
 obtain ⟨rfl,fr_0,fr_1,fr_2⟩:=yA hr
 obtain ⟨xv0,xhe,x_0,x_1,x_2,x_3,x_4⟩:=jA xr
 simp only [List.cons.injEq,and_true] at xhe
 obtain ⟨rfl,rfl,rfl,rfl⟩:=xhe
 obtain ⟨xa0,xp0,rfl,xl0⟩:=Rep.sl x_1
 show Calls Tryz.prog 168 #[_,_] w _
 go_enter Tryz.func168,Tryz.ntmps168
 go_upto_region 1 with fail
 generalize hwB:World.alloc w _=wB
 have EB:Below w.heap.size w wB:=by rw [← hwB];exact bD
 have K2_0:wB.cell? ⟨w.heap.size,0,none⟩=some (.int .i64 r.1):=nJ
 have K2_1:wB.cell? ⟨w.heap.size,1,none⟩=some (.int .i64 r.2.1):=nJ
 have K2_2:wB.cell? ⟨w.heap.size,2,none⟩=some (.int .i64 r.2.2):=nJ
 clear hwB
 replace Ax0:=cL EB Ax0
 replace Ax1:=cL EB Ax1
 replace Ax2:=cL EB Ax2
 replace Ax3:=cL EB Ax3
 have FX:=yD (fun (W:World) (hW:Below wB.heap.size wB W)=>cLs7 hW K2_0 K2_1 K2_2 Ax0 Ax1 Ax2 Ax3)
 refine ku (fun W=>Below wB.heap.size wB W) [true,true,true,true,true,true] bR ?_
 intro wS HS
 iterate 5
  all_goals refine wkR ?_
 all_goals (have hg5:=True.intro;first|(refine wkG (fun b hg5=>?_);cases b;all_goals first | exact Bool.noConfusion hg5 | simp only [zU,zV] at hg5 | skip) | refine wkR ?_)
 all_goals refine wkP ?_
 all_goals refine ko ?_
 all_goals have EG:=(tQ EB HS)
 all_goals first
   | (have HT:=yD (show (kFp x.2.1 r)=false by simp only [kFp,Bool.not_true,Bool.not_false,Bool.and_true,Bool.true_and,Bool.and_false,Bool.false_and,Bool.or_true,Bool.true_or,Bool.or_false,Bool.false_or,Bool.not_not,hg5]);go_wp2;go_ret;exact ⟨kP HT.out.symm,EG⟩)
   | (have HT:=yD (show (kFp x.2.1 r)=true by simp only [kFp,Bool.not_true,Bool.not_false,Bool.and_true,Bool.true_and,Bool.and_false,Bool.false_and,Bool.or_true,Bool.true_or,Bool.or_false,Bool.false_or,Bool.not_not,hg5]);go_wp2;go_ret;exact ⟨kP HT.out.symm,EG⟩)
theorem kGq:jB Tryz.prog 168:=yh Tryz.func168 rA rA
theorem kTv {w:World} {cs:List Value} {s:jL} (hs:kI.raw w cs s) {x:jF} {xc0 xc1 xc2 xc3:Value} {Bx:Nat} (xr:kw.raw w [xc0,xc1,xc2,xc3] x) (Ax0:w.cell? ⟨Bx,0,none⟩=some xc0) (Ax1:w.cell? ⟨Bx,1,none⟩=some xc1) (Ax2:w.cell? ⟨Bx,2,none⟩=some xc2) (Ax3:w.cell? ⟨Bx,3,none⟩=some xc3) :
    Calls Tryz.prog 170 (#[.agg cs.toArray]++#[.pointer (some ⟨Bx,0,none⟩)]) w fun e w'=>e=.returned (.bool (kFs x s))∧Below w.heap.size w w':=by
 have Hs:=yD hs
 obtain ⟨fsv0,rfl,fs_0,fs_1,fs_2⟩:=yJ hs
 obtain ⟨fsa0,fsp0,rfl,fsl0⟩:=Rep.sl fs_1
 obtain ⟨xv0,xhe,x_0,x_1,x_2,x_3,x_4⟩:=jA xr
 simp only [List.cons.injEq,and_true] at xhe
 obtain ⟨rfl,rfl,rfl,rfl⟩:=xhe
 obtain ⟨xa0,xp0,rfl,xl0⟩:=Rep.sl x_1
 show Calls Tryz.prog 170 #[_,_] w _
 go_enter Tryz.func170,Tryz.ntmps170
 go_upto_region 1 with fail
 generalize hwB:World.alloc w _=wB
 have EB:Below w.heap.size w wB:=by rw [← hwB];exact bD
 have K2_0:wB.cell? ⟨w.heap.size,0,none⟩=some (.slice fsa0 (s.1).length fsp0):=nJ
 have K2_1:wB.cell? ⟨w.heap.size,1,none⟩=some (.int .i64 s.2):=nJ
 clear hwB
 replace Ax0:=cL EB Ax0
 replace Ax1:=cL EB Ax1
 replace Ax2:=cL EB Ax2
 replace Ax3:=cL EB Ax3
 have FX:=yD (fun (W:World) (hW:Below wB.heap.size wB W)=>kLb hW K2_0 K2_1 Ax0 Ax1 Ax2 Ax3)
 refine ku (fun W=>Below wB.heap.size wB W) [true,true,true,true,false,true,true,true,true,true,true,true,true] bR ?_
 intro wS HS
 iterate 4
  all_goals refine wkR ?_
 all_goals first | refine wkB (yz (Rep.raw.below fs_0 (tQ EB HS)) (Rep.raw.below x_0 (tQ EB HS))) (fun wS1 HS=>?_) | refine wkR ?_
 all_goals (have hg5:=True.intro;first|(refine wkG (fun b hg5=>?_);cases b;all_goals first | exact Bool.noConfusion hg5 | simp only [zU,zV] at hg5 | skip) | refine wkR ?_)
 all_goals refine wkP ?_
 iterate 6
  all_goals refine wkR ?_
 all_goals (have hg12:=True.intro;first|(refine wkG (fun b hg12=>?_);cases b;all_goals first | exact Bool.noConfusion hg12 | simp only [zU,zV] at hg12 | skip) | refine wkR ?_)
 all_goals refine wkP ?_
 all_goals refine ko ?_
 all_goals have EG:=(tQ EB HS)
 all_goals first
   | (have HT:=yD (show (kFs x s)=false by simp only [kFs,Bool.not_true,Bool.not_false,Bool.and_true,Bool.true_and,Bool.and_false,Bool.false_and,Bool.or_true,Bool.true_or,Bool.or_false,Bool.false_or,Bool.not_not,hg5,hg12]);go_wp2;go_ret;exact ⟨kP HT.out.symm,EG⟩)
   | (have HT:=yD (show (kFs x s)=true by simp only [kFs,Bool.not_true,Bool.not_false,Bool.and_true,Bool.true_and,Bool.and_false,Bool.false_and,Bool.or_true,Bool.true_or,Bool.or_false,Bool.false_or,Bool.not_not,hg5,hg12]);go_wp2;go_ret;exact ⟨kP HT.out.symm,EG⟩)
theorem kGp:jB Tryz.prog 170:=yh Tryz.func170 rA rA
theorem kVz {w:World} {vl:Value} {l:List kJ} (hl:(Rep.slice 77 kD).rd w [vl] l) {vs:Value} {s:List jL} (hs:(Rep.slice 157 kI).rd w [vs] s) {cx:List Value} {x:jF} (hx:kw.rd w cx x) :
    Calls Tryz.prog 70 #[vl,vs,.agg cx.toArray] w fun e w'=>e=.returned (.bool (kOr x l s))∧Below w.heap.size w w':=by
 obtain ⟨x0,x1,x2,x3⟩:=x
 have HL:=yD hl
 have HS_:=yD hs
 have HX:=yD hx
 obtain ⟨la,lp,rfl,ll⟩:=Rep.sl hl.1
 obtain ⟨sa,sp,rfl,sl⟩:=Rep.sl hs.1
 obtain ⟨xv0,rfl,x_0,x_1,x_2,x_3,x_4⟩:=jA hx.1
 obtain ⟨na,np,rfl,_⟩:=Rep.sl x_1
 have HNX:Hid (kZ.raw w [.slice na x0.length np] x0):=yD x_0
 clear hl hs hx x_0 x_1
 go_enter Tryz.func70,Tryz.ntmps70
 go_upto_region 1 with fail
 generalize hwB:World.alloc w _=wB
 have EB:Below w.heap.size w wB:=by rw [← hwB];exact bD
 have K0:wB.cell? ⟨w.heap.size,0,none⟩=some (.slice na x0.length np):=nJ
 have K1:wB.cell? ⟨w.heap.size,1,none⟩=some (.int .i64 x1):=nJ
 have K2:wB.cell? ⟨w.heap.size,2,none⟩=some (.int .i64 x2):=nJ
 have K3:wB.cell? ⟨w.heap.size,3,none⟩=some (.int .i64 x3):=nJ
 clear hwB
 have K1b:=K1
 go_wp2
 go_loopw [7] (fun i wr=>∃ k:Nat,i=.int .i64 k∧k≤l.length∧Hid ((l.take k).any (kDs (x0,x1,x2,x3))=false)∧Below wB.heap.size wB wr) (fun i _=>l.length - (intOf i).toNat)
 case atStart=>exact ⟨0,rfl,Nat.zero_le _,yD rM,bR⟩
 rename World=>wq
 obtain ⟨k,rfl,hk,HA,hbq⟩:=hrel
 have EQ:=(tQ EB hbq)
 have hk0:=Int.natCast_nonneg k
 by_cases hlt:k < l.length
 · have hk2:=Int.ofNat_lt.2 hlt
   obtain ⟨qb,qo,hqa,c0,c1,c2,qr,A0w,A1w,A2w⟩:=Rep.zT HL.out.1 hlt rfl
   have hit:=fun q=>kMt (p:=kDs (x0,x1,x2,x3)) hlt q
   have nxt:=fun q=>kMs (p:=kDs (x0,x1,x2,x3)) hlt HA.out q
   generalize l[k]=y at *
   have HIT:=yD hit;have NXT:=yD nxt;clear hit nxt
   obtain ⟨y0,y1,y2⟩:=y
   obtain ⟨qv0,qv1,qhe,q_0,q_1,q_2,q_3⟩:=kz qr
   simp only [List.cons.injEq,and_true] at qhe
   obtain ⟨rfl,rfl,rfl⟩:=qhe
   obtain ⟨ma,mp,rfl,_⟩:=Rep.sl q_1
   obtain ⟨ra,rp,rfl,_⟩:=Rep.sl q_2
   have HNM:Hid (kZ.raw w [.slice ma y0.length mp] y0):=yD q_0
   have HQ:=yD q_2
   try simp only at A0w A1w A2w
   clear qr q_0 q_1 q_2 q_3
   subst hqa
   cases he:eqN y0 x0
   · have HE:=yD he
     clear he
     have HP0:=yD (show kDs (x0,x1,x2,x3) (y0,y1,y2)=false by unfold kDs;simp only [HE.out];rfl)
     go_wp2
     go_loopw [8] (fun i wr=>∃ m:Nat,i=.int .i64 m∧m≤y1.length∧Hid ((y1.take m).any (kFp x1)=false)∧Below wB.heap.size wB wr) (fun i _=>y1.length - (intOf i).toNat)
     case atStart=>exact ⟨0,rfl,Nat.zero_le _,yD rM,hbq⟩
     rename World=>wp
     obtain ⟨m,rfl,hm,HM,hbp⟩:=hrel
     have hm0:=Int.natCast_nonneg m
     have EP:=(tQ EB hbp)
     have A0:=cL EP A0w
     have A1:=cL EP A1w
     replace K0:=cL hbp K0
     replace K1:=cL hbp K1
     by_cases hmt:m < y1.length
     · have hm2:=Int.ofNat_lt.2 hmt
       go_upto_region 5 with fail
       have FX:=yD (fun (W:World) (hW:Below wp.heap.size wp W)=>kDa hW A0 A1 K0 K1)
       refine kV (fun W=>Below wp.heap.size wp W) [true,true,true,true,true,true,true,true,true,true,true,true,true,true,true,true,false,true] rA rA gI (bR.drew) ?_
       intro wS HS
       iterate 8
        all_goals refine wkR ?_
       all_goals (have hg8:=True.intro;first|(refine wkG (fun b hg8=>?_);cases b;all_goals first | exact Bool.noConfusion hg8 | simp only [zU,zV] at hg8 | skip) | refine wkR ?_)
       all_goals refine wkP ?_
       iterate 7
        all_goals refine wkR ?_
       all_goals first|(refine kL rfl HS ?_)|(refine jE rfl (fun K hK=>?_);go_simp;refine (je (HNM.out.below (tQ EP HS)) (HNX.out.below (tQ EP HS))).mono ?_;rintro e wS1 ⟨he_,hbS⟩;have he2_:e=.returned (.bool false):=he_.trans qZ;subst he2_;clear he_;replace HS:=(tQ HS hbS);refine hK _ _ HS ?_;clear hK K hbS)
       all_goals refine wkP ?_
       all_goals refine wkR ?_
       all_goals refine ko ?_
       have hbw:=(tQ hbp HS)
       go_wp2
       go_roundw
       case rel=>exact ⟨k + 1,by go_num,by omega,yD (NXT.out HP0.out),hbw⟩
       simp [intOf];omega
     have hm3:¬ ((m:Int) < y1.length):=rJ
     obtain rfl:m=y1.length:=rJ
     go_upto_region 5 with fail
     have FX:=yD (fun (W:World) (hW:Below wp.heap.size wp W)=>kDa hW A0 A1 K0 K1)
     refine kV (fun W=>Below wp.heap.size wp W) [true,true,true,true,true,true,true,true,true,true,true,true,true,true,true,true,false,true] rA rA gI (bR.drew) ?_
     intro wS HS
     iterate 8
      all_goals refine wkR ?_
     all_goals (have hg8:=True.intro;first|(refine wkG (fun b hg8=>?_);cases b;all_goals first | exact Bool.noConfusion hg8 | simp only [zU,zV] at hg8 | skip) | refine wkR ?_)
     all_goals refine wkP ?_
     iterate 7
      all_goals refine wkR ?_
     all_goals first|(refine kL rfl HS ?_)|(refine jE rfl (fun K hK=>?_);go_simp;refine (je (HNM.out.below (tQ EP HS)) (HNX.out.below (tQ EP HS))).mono ?_;rintro e wS1 ⟨he_,hbS⟩;have he2_:e=.returned (.bool false):=he_.trans qZ;subst he2_;clear he_;replace HS:=(tQ HS hbS);refine hK _ _ HS ?_;clear hK K hbS)
     all_goals refine wkP ?_
     all_goals refine wkR ?_
     all_goals refine ko ?_
     have hbw:=(tQ hbp HS)
     go_wp2
     go_roundw
     case rel=>exact ⟨k + 1,by go_num,by omega,yD (NXT.out HP0.out),hbw⟩
     simp [intOf];omega
   have HE:=yD he
   clear he
   go_wp2
   go_loopw [8] (fun i wr=>∃ m:Nat,i=.int .i64 m∧m≤y1.length∧Hid ((y1.take m).any (kFp x1)=false)∧Below wB.heap.size wB wr) (fun i _=>y1.length - (intOf i).toNat)
   case atStart=>exact ⟨0,rfl,Nat.zero_le _,yD rM,hbq⟩
   rename World=>wp
   obtain ⟨m,rfl,hm,HM,hbp⟩:=hrel
   have hm0:=Int.natCast_nonneg m
   have EP:=(tQ EB hbp)
   have A0:=cL EP A0w
   have A1:=cL EP A1w
   replace K0:=cL hbp K0
   replace K1:=cL hbp K1
   by_cases hmt:m < y1.length
   · have hm2:=Int.ofNat_lt.2 hmt
     obtain ⟨rb,ro,hra,r0,r1,r2,rr,R0w,R1w,R2w⟩:=Rep.zT HQ.out hmt rfl
     have qhit:=fun q=>kMt (p:=kFp x1) hmt q
     have qnxt:=fun q=>kMs (p:=kFp x1) hmt HM.out q
     generalize y1[m]=z at *
     have QHIT:=yD qhit;have QNXT:=yD qnxt;clear qhit qnxt
     obtain ⟨z0,z1,z2⟩:=z
     obtain ⟨rhe,s_0,s_1,s_2⟩:=yA rr
     simp only [List.cons.injEq,and_true] at rhe
     obtain ⟨rfl,rfl,rfl⟩:=rhe
     try simp only at R0w R1w R2w
     subst hra
     clear rr s_0 s_1 s_2
     go_upto_region 5 with fail
     have FX:=yD (fun (W:World) (hW:Below wp.heap.size wp W)=>kDa hW A0 A1 K0 K1)
     refine kV (fun W=>Below wp.heap.size wp W) [true,true,true,true,true,true,true,true,true,true,true,true,true,true,true,true,false,true] rA rA gI (bR.drew) ?_
     intro wS HS
     iterate 8
      all_goals refine wkR ?_
     all_goals (have hg8:=True.intro;first|(refine wkG (fun b hg8=>?_);cases b;all_goals first | exact Bool.noConfusion hg8 | simp only [zU,zV] at hg8 | skip) | refine wkR ?_)
     all_goals refine wkP ?_
     iterate 7
      all_goals refine wkR ?_
     all_goals first|(refine kL rfl HS ?_)|(refine jE rfl (fun K hK=>?_);go_simp;refine (je (HNM.out.below (tQ EP HS)) (HNX.out.below (tQ EP HS))).mono ?_;rintro e wS1 ⟨he_,hbS⟩;have he2_:e=.returned (.bool true):=he_.trans qZ;subst he2_;clear he_;replace HS:=(tQ HS hbS);refine hK _ _ HS ?_;clear hK K hbS)
     all_goals refine wkP ?_
     all_goals refine wkR ?_
     all_goals refine ko ?_
     have EW:=(tQ EP HS)
     have hbw:=(tQ hbp HS)
     clear HS
     have B1:=cL EW A1w
     have R1:=cL EW R1w
     have N1:wS1.cell? ⟨w.heap.size,1,none⟩=some (.int .i64 x1):=cL (hbw) K1b
     by_cases hz:z1=x1
     skip
     · have HH:=yD (QHIT.out (by unfold kFp;simp [hz]))
       have HP1:=yD (HIT.out (by unfold kDs;simp only [HE.out,HH.out];rfl))
       go_upto_region 7 with fail
       refine kV (fun W=>Below wS1.heap.size wS1 W) [true,true,true,true,true,true,true,true,true,true,true,true] rA rA gI (bR.drew) ?_
       intro wT HT_
       iterate 4
        all_goals first|(refine kL rfl HT_ ?_)|(refine jC (v:=?_) rfl (fun W hW=>?_) ?_;rotate_left;(· go_simp;try with_reducible rfl))
        all_goals refine wkP ?_
       all_goals first|(refine kL rfl HT_ ?_)|(refine jC (v:=?_) rfl (fun W hW=>?_) ?_;rotate_left;(· have A_B1:=cL hW B1;have A_R1:=cL hW R1;have A_N1:=cL hW N1;clear hW;go_simp;try with_reducible rfl))
       iterate 3
        all_goals refine wkP ?_
        all_goals first|(refine kL rfl HT_ ?_)|(refine jC (v:=?_) rfl (fun W hW=>?_) ?_;rotate_left;(· go_simp;try with_reducible rfl))
       iterate 2
        all_goals refine wkP ?_
        all_goals first|(refine kL rfl HT_ ?_)|(refine jC (v:=?_) rfl (fun W hW=>?_) ?_;rotate_left;(· have A_B1:=cL hW B1;have A_R1:=cL hW R1;have A_N1:=cL hW N1;clear hW;go_simp;try with_reducible rfl))
        all_goals refine wkP ?_
        all_goals first|(refine kL rfl HT_ ?_)|(refine jC (v:=?_) rfl (fun W hW=>?_) ?_;rotate_left;(· go_simp;try with_reducible rfl))
       all_goals refine wkP ?_
       all_goals refine ko ?_
       have EV:=(tQ EW HT_)
       go_wp2
       go_ret
       exact ⟨kP (by unfold kOr;rw [HP1.out];rfl),EV⟩
     have HH:=yD (QNXT.out (by unfold kFp;simp [hz]))
     go_upto_region 7 with fail
     refine kV (fun W=>Below wS1.heap.size wS1 W) [true,true,true,true,true,true,true,true,true,true,true,true] rA rA gI (bR.drew) ?_
     intro wT HT_
     iterate 4
      all_goals first|(refine kL rfl HT_ ?_)|(refine jC (v:=?_) rfl (fun W hW=>?_) ?_;rotate_left;(· go_simp;try with_reducible rfl))
      all_goals refine wkP ?_
     all_goals first|(refine kL rfl HT_ ?_)|(refine jC (v:=?_) rfl (fun W hW=>?_) ?_;rotate_left;(· have A_B1:=cL hW B1;have A_R1:=cL hW R1;have A_N1:=cL hW N1;clear hW;go_simp;try with_reducible rfl))
     iterate 3
      all_goals refine wkP ?_
      all_goals first|(refine kL rfl HT_ ?_)|(refine jC (v:=?_) rfl (fun W hW=>?_) ?_;rotate_left;(· go_simp;try with_reducible rfl))
     iterate 2
      all_goals refine wkP ?_
      all_goals first|(refine kL rfl HT_ ?_)|(refine jC (v:=?_) rfl (fun W hW=>?_) ?_;rotate_left;(· have A_B1:=cL hW B1;have A_R1:=cL hW R1;have A_N1:=cL hW N1;clear hW;go_simp;try with_reducible rfl))
      all_goals refine wkP ?_
      all_goals first|(refine kL rfl HT_ ?_)|(refine jC (v:=?_) rfl (fun W hW=>?_) ?_;rotate_left;(· go_simp;try with_reducible rfl))
     all_goals refine wkP ?_
     all_goals refine ko ?_
     have hbv:=(tQ hbw HT_)
     go_wp2
     go_roundw
     case rel=>exact ⟨m + 1,by go_num,by omega,HH,hbv⟩
     simp [intOf];omega
   have hm3:¬ ((m:Int) < y1.length):=rJ
   obtain rfl:m=y1.length:=rJ
   have HP0:=yD (show kDs (x0,x1,x2,x3) (y0,y1,y2)=false by have h_:=HM.out;rw [List.take_length] at h_;unfold kDs;simp only [h_];exact Bool.and_false _)
   go_upto_region 5 with fail
   have FX:=yD (fun (W:World) (hW:Below wp.heap.size wp W)=>kDa hW A0 A1 K0 K1)
   refine kV (fun W=>Below wp.heap.size wp W) [true,true,true,true,true,true,true,true,true,true,true,true,true,true,true,true,false,true] rA rA gI (bR.drew) ?_
   intro wS HS
   iterate 8
    all_goals refine wkR ?_
   all_goals (have hg8:=True.intro;first|(refine wkG (fun b hg8=>?_);cases b;all_goals first | exact Bool.noConfusion hg8 | simp only [zU,zV] at hg8 | skip) | refine wkR ?_)
   all_goals refine wkP ?_
   iterate 7
    all_goals refine wkR ?_
   all_goals first|(refine kL rfl HS ?_)|(refine jE rfl (fun K hK=>?_);go_simp;refine (je (HNM.out.below (tQ EP HS)) (HNX.out.below (tQ EP HS))).mono ?_;rintro e wS1 ⟨he_,hbS⟩;have he2_:e=.returned (.bool true):=he_.trans qZ;subst he2_;clear he_;replace HS:=(tQ HS hbS);refine hK _ _ HS ?_;clear hK K hbS)
   all_goals refine wkP ?_
   all_goals refine wkR ?_
   all_goals refine ko ?_
   have hbw:=(tQ hbp HS)
   go_wp2
   go_roundw
   case rel=>exact ⟨k + 1,by go_num,by omega,yD (NXT.out HP0.out),hbw⟩
   simp [intOf];omega
 have hk3:¬ ((k:Int) < l.length):=rJ
 obtain rfl:k=l.length:=rJ
 have HAL:=yD (show l.any (kDs (x0,x1,x2,x3))=false by have h_:=HA.out;rwa [List.take_length] at h_)
 clear HA
 go_wp2
 go_loopw [9] (fun i wr=>∃ m:Nat,i=.int .i64 m∧m≤s.length∧Hid ((s.take m).any (kFs (x0,x1,x2,x3))=false)∧Below wB.heap.size wB wr) (fun i _=>s.length - (intOf i).toNat)
 case atStart=>exact ⟨0,rfl,Nat.zero_le _,yD rM,hbq⟩
 rename World=>wp
 obtain ⟨m,rfl,hm,HM,hbp⟩:=hrel
 have hm0:=Int.natCast_nonneg m
 have EP:=(tQ EB hbp)
 replace K0:=cL hbp K0
 replace K1:=cL hbp K1
 by_cases hmt:m < s.length
 · have hm2:=Int.ofNat_lt.2 hmt
   obtain ⟨rb,ro,hra,r0,r1,rr,R0w,R1w⟩:=Rep.get2 HS_.out.1 hmt rfl
   have qhit:=fun q=>kMt (p:=kFs (x0,x1,x2,x3)) hmt q
   have qnxt:=fun q=>kMs (p:=kFs (x0,x1,x2,x3)) hmt HM.out q
   generalize s[m]=z at *
   have QHIT:=yD qhit;have QNXT:=yD qnxt;clear qhit qnxt
   obtain ⟨z0,z1⟩:=z
   obtain ⟨zv,rhe,s_0,s_1,s_2⟩:=yJ rr
   simp only [List.cons.injEq,and_true] at rhe
   obtain ⟨rfl,rfl⟩:=rhe
   obtain ⟨za,zp,rfl,_⟩:=Rep.sl s_1
   have HZN:Hid (kZ.raw w [.slice za z0.length zp] z0):=yD s_0
   try simp only at R0w R1w
   subst hra
   clear rr s_0 s_1 s_2
   have R0:=cL EP R0w
   have R1:=cL EP R1w
   by_cases hz:z1=x1
   · subst hz
     cases he:eqN z0 x0
     · have HE:=yD he
       clear he
       have HH:=yD (QNXT.out (by unfold kFs;simp only [HE.out];rfl))
       go_upto_region 12 with fail
       have FX:=yD (fun (W:World) (hW:Below wp.heap.size wp W)=>kDa hW R0 R1 K0 K1)
       refine kV (fun W=>Below wp.heap.size wp W) [true,true,true,true,true,true,true,true,true,true,true,true,true,true,true,true,false,true] rA rA gI (bR.drew) ?_
       intro wS HS
       iterate 8
        all_goals refine wkR ?_
       all_goals (have hg8:=True.intro;first|(refine wkG (fun b hg8=>?_);cases b;all_goals first | exact Bool.noConfusion hg8 | simp only [zU,zV] at hg8 | skip) | refine wkR ?_)
       all_goals refine wkP ?_
       iterate 7
        all_goals refine wkR ?_
       all_goals first|(refine kL rfl HS ?_)|(refine jE rfl (fun K hK=>?_);go_simp;refine (je (HZN.out.below (tQ EP HS)) (HNX.out.below (tQ EP HS))).mono ?_;rintro e wS1 ⟨he_,hbS⟩;have he2_:e=.returned (.bool false):=he_.trans qZ;subst he2_;clear he_;replace HS:=(tQ HS hbS);refine hK _ _ HS ?_;clear hK K hbS)
       all_goals refine wkP ?_
       all_goals refine wkR ?_
       all_goals refine ko ?_
       have hbw:=(tQ hbp HS)
       go_wp2
       go_roundw
       case rel=>exact ⟨m + 1,by go_num,by omega,HH,hbw⟩
       simp [intOf];omega
     have HE:=yD he
     clear he
     have HH:=yD (QHIT.out (by unfold kFs;simp only [HE.out];simp))
     go_upto_region 12 with fail
     have FX:=yD (fun (W:World) (hW:Below wp.heap.size wp W)=>kDa hW R0 R1 K0 K1)
     refine kV (fun W=>Below wp.heap.size wp W) [true,true,true,true,true,true,true,true,true,true,true,true,true,true,true,true,false,true] rA rA gI (bR.drew) ?_
     intro wS HS
     iterate 8
      all_goals refine wkR ?_
     all_goals (have hg8:=True.intro;first|(refine wkG (fun b hg8=>?_);cases b;all_goals first | exact Bool.noConfusion hg8 | simp only [zU,zV] at hg8 | skip) | refine wkR ?_)
     all_goals refine wkP ?_
     iterate 7
      all_goals refine wkR ?_
     all_goals first|(refine kL rfl HS ?_)|(refine jE rfl (fun K hK=>?_);go_simp;refine (je (HZN.out.below (tQ EP HS)) (HNX.out.below (tQ EP HS))).mono ?_;rintro e wS1 ⟨he_,hbS⟩;have he2_:e=.returned (.bool true):=he_.trans qZ;subst he2_;clear he_;replace HS:=(tQ HS hbS);refine hK _ _ HS ?_;clear hK K hbS)
     all_goals refine wkP ?_
     all_goals refine wkR ?_
     all_goals refine ko ?_
     have EV:=(tQ EP HS)
     go_wp2
     go_ret
     exact ⟨kP (by unfold kOr;rw [HH.out];exact (Bool.or_true _).symm),EV⟩
   have hzB:((z1==x1)=false):=qU
   have HH:=yD (QNXT.out (by unfold kFs;simp [hz]))
   have HE:Hid (eqN z0 x0=eqN z0 x0):=yD rfl
   go_upto_region 12 with fail
   have FX:=yD (fun (W:World) (hW:Below wp.heap.size wp W)=>kDa hW R0 R1 K0 K1)
   refine kV (fun W=>Below wp.heap.size wp W) [true,true,true,true,true,true,true,true,true,true,true,true,true,true,true,true,false,true] rA rA gI (bR.drew) ?_
   intro wS HS
   iterate 8
    all_goals refine wkR ?_
   all_goals (have hg8:=True.intro;first|(refine wkG (fun b hg8=>?_);cases b;all_goals first | exact Bool.noConfusion hg8 | simp only [zU,zV] at hg8 | skip) | refine wkR ?_)
   all_goals refine wkP ?_
   iterate 7
    all_goals refine wkR ?_
   all_goals first|(refine kL rfl HS ?_)|(refine jE rfl (fun K hK=>?_);go_simp;refine (je (HZN.out.below (tQ EP HS)) (HNX.out.below (tQ EP HS))).mono ?_;rintro e wS1 ⟨he_,hbS⟩;have he2_:e=.returned (.bool (eqN z0 x0)):=he_.trans qZ;subst he2_;clear he_;replace HS:=(tQ HS hbS);refine hK _ _ HS ?_;clear hK K hbS)
   all_goals refine wkP ?_
   all_goals refine wkR ?_
   all_goals refine ko ?_
   have hbw:=(tQ hbp HS)
   go_wp2
   go_roundw
   case rel=>exact ⟨m + 1,by go_num,by omega,HH,hbw⟩
   simp [intOf];omega
 have hm3:¬ ((m:Int) < s.length):=rJ
 obtain rfl:m=s.length:=rJ
 go_wp2
 go_ret
 exact ⟨kP (by have h_:=HM.out;rw [List.take_length] at h_;unfold kOr;rw [HAL.out,h_];rfl),EP⟩
theorem kWj {w:World} {vl:Value} {l:List kJ} (hl:(Rep.slice 77 kD).rd w [vl] l) {vs:Value} {s:List jL} (hs:(Rep.slice 157 kI).rd w [vs] s) {cx:List Value} {x:jF} (hx:kw.rd w cx x) :
    Calls Tryz.prog 83 #[vl,vs,.agg cx.toArray] w fun e w'=>e=.returned (.bool (kOr x l s))∧Below w.heap.size w w':=by
 obtain ⟨x0,x1,x2,x3⟩:=x
 have HL:=yD hl
 have HS_:=yD hs
 have HX:=yD hx
 obtain ⟨la,lp,rfl,ll⟩:=Rep.sl hl.1
 obtain ⟨sa,sp,rfl,sl⟩:=Rep.sl hs.1
 obtain ⟨xv0,rfl,x_0,x_1,x_2,x_3,x_4⟩:=jA hx.1
 obtain ⟨na,np,rfl,_⟩:=Rep.sl x_1
 have HNX:Hid (kZ.raw w [.slice na x0.length np] x0):=yD x_0
 clear hl hs hx x_0 x_1
 go_enter Tryz.func83,Tryz.ntmps83
 go_upto_region 1 with fail
 generalize hwB:World.alloc w _=wB
 have EB:Below w.heap.size w wB:=by rw [← hwB];exact bD
 have K0:wB.cell? ⟨w.heap.size,0,none⟩=some (.slice na x0.length np):=nJ
 have K1:wB.cell? ⟨w.heap.size,1,none⟩=some (.int .i64 x1):=nJ
 have K2:wB.cell? ⟨w.heap.size,2,none⟩=some (.int .i64 x2):=nJ
 have K3:wB.cell? ⟨w.heap.size,3,none⟩=some (.int .i64 x3):=nJ
 clear hwB
 go_wp2
 go_loopw [11] (fun i wr=>∃ k:Nat,i=.int .i64 k∧k≤l.length∧Hid ((l.take k).any (kDs (x0,x1,x2,x3))=false)∧Below wB.heap.size wB wr) (fun i _=>l.length - (intOf i).toNat)
 case atStart=>exact ⟨0,rfl,Nat.zero_le _,yD rM,bR⟩
 rename World=>wq
 obtain ⟨k,rfl,hk,HA,hbq⟩:=hrel
 have EQ:=(tQ EB hbq)
 replace K0:=cL hbq K0
 replace K1:=cL hbq K1
 replace K2:=cL hbq K2
 replace K3:=cL hbq K3
 have hk0:=Int.natCast_nonneg k
 by_cases hlt:k < l.length
 · have hk2:=Int.ofNat_lt.2 hlt
   obtain ⟨qb,qo,rfl,c0,c1,c2,qr,A0,A1,A2⟩:=Rep.zT (HL.out.1.below EQ) hlt rfl
   have hit:=fun q=>kMt (p:=kDs (x0,x1,x2,x3)) hlt q
   have nxt:=fun q=>kMs (p:=kDs (x0,x1,x2,x3)) hlt HA.out q
   generalize l[k]=y at *
   obtain ⟨y0,y1,y2⟩:=y
   have HIT:=yD hit;have NXT:=yD nxt;clear hit nxt
   obtain ⟨qv0,qv1,qhe,q_0,q_1,q_2,q_3⟩:=kz qr
   simp only [List.cons.injEq,and_true] at qhe
   obtain ⟨rfl,rfl,rfl⟩:=qhe
   obtain ⟨ma,mp,rfl,_⟩:=Rep.sl q_1
   obtain ⟨ra,rp,rfl,_⟩:=Rep.sl q_2
   have HNM:Hid (kZ.raw wq [.slice ma y0.length mp] y0):=yD q_0
   have HQ:=yD q_2
   try simp only at A0 A1 A2
   clear qr q_0 q_1 q_2 q_3
   go_upto_region 4 with fail
   generalize hwC:World.alloc wq _=wC
   have EC:Below wq.heap.size wq wC:=mE
   have M0:wC.cell? ⟨wq.heap.size,0,none⟩=some (.slice ma y0.length mp):=nK
   have M1:wC.cell? ⟨wq.heap.size,1,none⟩=some (.slice ra y1.length rp):=nK
   have M2:wC.cell? ⟨wq.heap.size,2,none⟩=some (.int .i64 y2):=nK
   replace K0:=cL EC K0
   replace K1:=cL EC K1
   replace K2:=cL EC K2
   replace K3:=cL EC K3
   clear hwC
   have FX:=yD (fun (W:World) (hW:Below wC.heap.size wC W)=>cLs7 hW K0 K1 K2 K3 M0 M1 M2)
   refine ku (fun W=>Below wC.heap.size wC W) [true,true,true,true,false,true,true,true,false,false,true] bR ?_
   intro wS HS
   iterate 4
    all_goals refine wkR ?_
   all_goals first | refine wkB (yz (HNM.out.below (tQ EC HS)) (HNX.out.below (EQ.trans (Below.mono (tQ EC HS) EQ.size)))) (fun wS1 HS=>?_) | refine wkR ?_
   all_goals (have hg5:=True.intro;first|(refine wkG (fun b hg5=>?_);cases b;all_goals first | exact Bool.noConfusion hg5 | simp only [zU,zV] at hg5 | skip) | refine wkR ?_)
   all_goals refine wkP ?_
   all_goals refine wkR ?_
   all_goals refine wkR ?_
   all_goals first|(refine kL rfl HS ?_)|(refine jE rfl (fun K hK=>?_);go_simp;refine hK _ _ HS ?_;clear hK K)
   all_goals refine wkP ?_
   all_goals first|(refine kL rfl HS ?_)|(refine jE rfl (fun K hK=>?_);go_simp;refine (kBz (kFp x1) kGq (HQ.out.below (tQ EC HS)) ?_).mono ?_;(· intro wr2 hb2 i hi cs2 hcs;exact kTw hcs (Rep.raw.below HX.out.1 ((EQ.trans (Below.mono (tQ EC HS) EQ.size)).trans (hb2.mono (Below.size (EQ.trans (Below.mono (tQ EC HS) EQ.size)))))) (cL hb2 (cL HS K0)) (cL hb2 (cL HS K1)) (cL hb2 (cL HS K2)) (cL hb2 (cL HS K3)));rintro e wS1 ⟨rfl,hbS⟩;replace HS:=(tQ HS hbS);refine hK _ _ HS ?_;clear hK K hbS)
   all_goals refine wkP ?_
   all_goals (have hg10:=True.intro;first|(refine wkG (fun b hg10=>?_);cases b;all_goals first | exact Bool.noConfusion hg10 | simp only [zU,zV] at hg10 | skip) | refine wkR ?_)
   all_goals refine wkP ?_
   all_goals refine ko ?_
   all_goals have EG:=hbq.trans (Below.mono (tQ EC HS) hbq.size)
   all_goals first|(have HT:=yD (HIT.out (show _=true by simp only [kDs,← kWq,Bool.not_true,Bool.not_false,Bool.and_true,Bool.true_and,Bool.and_false,Bool.false_and,Bool.or_true,Bool.true_or,Bool.or_false,Bool.false_or,Bool.not_not,ge_iff_le,hg5,hg10]));clear HIT NXT HA;go_wp2;go_ret;exact ⟨kP (by unfold kOr;rw [HT.out];exact (Bool.true_or _).symm),(tQ EB EG)⟩)|(have HT:=yD (NXT.out (show _=false by simp only [kDs,← kWq,Bool.not_true,Bool.not_false,Bool.and_true,Bool.true_and,Bool.and_false,Bool.false_and,Bool.or_true,Bool.true_or,Bool.or_false,Bool.false_or,Bool.not_not,ge_iff_le,hg5,hg10]));clear HIT NXT HA;go_wp2;go_roundw;(case rel=>exact ⟨k + 1,by go_num,by omega,HT,EG⟩);(case measure=>simp [intOf];omega))
 have hk3:¬ ((k:Int) < l.length):=rJ
 obtain rfl:k=l.length:=rJ
 have HAL:=yD (show l.any (kDs (x0,x1,x2,x3))=false by have h_:=HA.out;rwa [List.take_length] at h_)
 clear HA
 go_upto_region 7 with fail
 refine ku (fun W=>Below wq.heap.size wq W) [true,false,false,true] bR ?_
 intro wS HS
 all_goals refine wkR ?_
 all_goals first|(refine kL rfl HS ?_)|(refine jE rfl (fun K hK=>?_);go_simp;refine hK _ _ HS ?_;clear hK K)
 all_goals refine wkP ?_
 all_goals first|(refine kL rfl HS ?_)|(refine jE rfl (fun K hK=>?_);go_simp;refine (kFm (kFs (x0,x1,x2,x3)) kGp (HS_.out.1.below (tQ EQ HS)) ?_).mono ?_;(· intro wr2 hb2 i hi cs2 hcs;exact kTv hcs (Rep.raw.below HX.out.1 ((tQ EQ HS).trans (hb2.mono (Below.size (tQ EQ HS))))) (cL hb2 (cL HS K0)) (cL hb2 (cL HS K1)) (cL hb2 (cL HS K2)) (cL hb2 (cL HS K3)));rintro e wS1 ⟨rfl,hbS⟩;replace HS:=(tQ HS hbS);refine hK _ _ HS ?_;clear hK K hbS)
 all_goals refine wkP ?_
 all_goals refine wkR ?_
 all_goals refine ko ?_
 go_wp2
 go_ret
 exact ⟨kP (by unfold kOr;rw [HAL.out,kWq];rfl),(tQ EQ HS)⟩
end Go.Proofs.YtomdenfcfbkfbaaGreat
