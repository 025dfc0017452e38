/-
  The faces by which an interest leaves.
-/
import Derived.Test.YtomdenfcfbkfbaaGreatBase
import Derived.Test.YtomdenfcfbkfbaaGreatHops
import Derived.IntWalk
import Derived.Deep.Cut
import Derived.WalkSpells
import Derived.WalkLawsBesides
namespace Go.Proofs.YtomdenfcfbkfbaaGreat
open Go.RowKit
set_option linter.unusedVariables false
set_option linter.unusedSimpArgs false
set_option linter.unnecessarySimpa false
set_option maxRecDepth 100000 in
set_option maxHeartbeats 2000000 in
theorem DeleteFunc_int_c {w:World} {v:Value} {l:List Int} {g:FuncId} {cp:Array Value} {S:Nat→Prop} (p:Int→Bool) (hg:Callable Tryz.prog g) (hl:Rep.own0 3 Rep.int w v l S) (hlen:l.length≤16777216)
    (hcl:∀ wr,Touch S w wr→∀ x c,Rep.int.raw wr [c] x→Calls Tryz.prog g (#[c]++cp) wr (fun e w'=>e=.returned (.bool (p x))∧Below wr.heap.size wr w')) :
    Calls Tryz.prog 136 #[v,.func (.func g) #[] cp] w fun e w'=>∃ v',e=.returned v'∧Rep.own0 3 Rep.int w' v' (l.filter (fun x=>!p x)) S∧Touch S w w':=by
 have HCL:=hD hcl;clear hcl
 have HO:=hD hl
 have HCG:=hD hg
 unfold Callable at hg
 have HI:Hid (∀ va,v=va→Calls Tryz.prog 197 #[va,.func (.func g) #[] cp] w fun e w'=>e=.returned (.int .i64 (idxOf p l))∧Below w.heap.size w w'):=hD (fun va hv=>by
   subst hv
   exact IndexFunc_Int_c p HCG.out (HO.out.own hlen).raw (fun wr hb i h c hr=>HCL.out wr (Touch.of_below hb) _ c hr))
 rcases idxOf_cases p l with ⟨hi,hno⟩|⟨i,hil,hi,hyes,hno⟩
 · obtain ⟨oa,on,oc,ho,HON⟩:=hl.parts;obtain rfl:=ho
   rw [hi] at HI
   have HF:=hD (filter_none hno).symm
   clear hno hi hl
   go_enter Tryz.func136,Tryz.ntmps136
   go_wp2_with fail
   refine (HI.out _ rfl).mono ?_
   rintro e w1 ⟨rfl,hb1⟩
   have HO1:=hD (HO.out.below hb1)
   go_wp2
   go_ret
   exact ⟨_,rfl,HO1.out.cast HF.out,Touch.of_below hb1⟩
 obtain ⟨b,cap,rfl,hgap⟩:=Rep.gap_start hl hil
 rw [hi] at HI
 rw [List.drop_eq_getElem_cons hil] at hgap
 have hgap1:=hgap.skip
 have HK0:=hD (filter_before hil hno)
 have HNY:=hD (filter_no (p:=fun y=>!p y) hil (by simp [hyes]))
 have HSb:=hD hgap.mem
 have hcap:=hgap.len
 simp only [List.length_take,List.length_cons,List.length_drop] at hcap
 have hcap2:l.length≤cap:=hcap.2.1
 have hcap3:cap≤9223372036854775807:=by have:=hcap.2.2;unfold maxLen at this;omega
 clear hno hi hl hgap hyes HO hcap
 have hi1:((i:Int)==-1)=false:=by first|(simp;done)|(simp;omega)
 go_enter Tryz.func136,Tryz.ntmps136
 go_wp2_with fail
 refine (HI.out _ rfl).mono ?_
 rintro e w1 ⟨rfl,hb1⟩
 have G1:=hD (hgap1.below hb1)
 have E1:=hD (Touch.of_below (S:=S) hb1)
 clear hgap1 HI
 go_wp2
 go_loopw [5,6] (fun q c wr=>∃ m kn:Nat,m≤l.length∧kn + 1≤m∧q=.int .i64 kn∧c=.int .i64 m∧Hid (kn=((l.take m).filter (fun y=>!p y)).length)∧Hid (Rep.gap 3 Rep.int wr b cap l.length ((l.take m).filter (fun y=>!p y)) (m - kn) (l.drop m) S)∧Hid (Touch S w wr)) (fun _ c _=>l.length - (intOf c).toNat)
 case atStart =>
  refine ⟨i + 1,i,by omega,by omega,rfl,by go_num,hD (by rw [HNY.out,HK0.out];simp;omega),hD ?_,E1⟩
  rw [HNY.out,HK0.out,show i + 1 - i=0 + 1 by omega]
  exact G1.out
 clear E1 G1 HNY HK0 hb1
 obtain ⟨m,kn,hm,hkn,rfl,rfl,HKN,G,E⟩:=hrel
 by_cases hlt:m < l.length
 · have hG:=G.out
   rw [List.drop_eq_getElem_cons hlt] at hG
   have hfy:=fun q=>filter_yes (p:=fun y=>!p y) hlt q
   have hfn:=fun q=>filter_no (p:=fun y=>!p y) hlt q
   obtain ⟨cs,hr,hcl,hbd,hcell,hnext⟩:=hG.next
   have hskip:=hG.skip
   have hfz:=hG.frozen
   generalize l[m]=x at *
   have HFY:=hD hfy;have HFN:=hD hfn;clear hfy hfn hG
   rw [← HKN.out] at hcell hnext
   rw [show kn + (m - kn)=m by omega] at hcell
   obtain ⟨c0,rfl⟩:∃ c0,cs=[c0]:=by
    have hl2:=Rep.int.len hr
    match cs,hl2 with
    | [c0],_=>exact ⟨_,rfl⟩
   have A0:wr.cell? ⟨b,m,none⟩=some c0:=by have:=hcell 0 c0 rfl;simpa [show Rep.int.n=1 from rfl] using this
   have hroom:∀ q,q < 1→kn * 1 + q < cap * 1:=by intro q hq;omega
   obtain ⟨o0,O0⟩:=Option.isSome_iff_exists.1 (G.out.cells (i:=kn) (by have:=hroom 0 (by omega);simp only [show Rep.int.n=1 from rfl];omega))
   have Z0:=hfz kn
   have HR:=hD hr
   obtain ⟨rhe,rrg⟩:=Rep.int_raw hr
   obtain rfl:c0=_:=by simpa using rhe
   clear rhe rrg hr hcl hcell hroom hfz
   have HNX:=hD hnext;have HSK:=hD hskip;clear hnext hskip
   have HB:=hD (G.out.lt)
   go_wp2_with fail
   refine (HCL.out wr E.out _ _ HR.out).mono ?_
   rintro e w5 ⟨rfl,hb5⟩
   have E5:=hD hb5
   clear hb5
   cases hp:p x
   · have HT:=hD (HFY.out (by simp [hp]))
     replace O0:=cL E5.out O0
     replace Z0:=(E5.out.frozen (p:=⟨b,kn,none⟩) HB.out).trans Z0
     obtain ⟨hg1,hg2⟩:=HNX.out w5 E5.out (by omega) _ rfl
     simp only [show Rep.int.n=1 from rfl,Nat.mul_one] at hg1 hg2
     have HG1:=hD hg1;have HG2:=hD hg2;clear hg1 hg2 HNX HSK HFN HFY
     go_wp2
     go_roundw
     case rel =>
      refine ⟨m + 1,kn + 1,by omega,by omega,by go_num,by go_num,hD (by rw [HT.out,List.length_append,← HKN.out];rfl),hD ?_,hD ((E.out.trans (Touch.of_below E5.out)).trans (HG2.out.wide (fun j hj=>hj ▸ HSb.out)))⟩
      rw [HT.out,show m + 1 - (kn + 1)=m - kn by omega]
      exact HG1.out
     simp [intOf];omega
   have HT:=hD (HFN.out (by simp [hp]))
   go_wp2
   go_roundw
   case rel =>
    refine ⟨m + 1,kn,by omega,by omega,rfl,by go_num,hD (by rw [HT.out];exact HKN.out),hD ?_,hD (E.out.trans (Touch.of_below E5.out))⟩
    rw [HT.out,show m + 1 - kn=(m - kn) + 1 by omega]
    exact HSK.out.below E5.out
   simp [intOf];omega
 obtain rfl:m=l.length:=by omega
 have hG:=G.out
 rw [List.drop_length,List.take_length] at hG
 rw [List.take_length] at HKN
 have HG:=hD hG;clear hG G
 have hknI:(kn:Int)≤l.length:=by omega
 have hknC:(kn:Int)≤cap:=by omega
 have hknN:kn≤l.length:=by omega
 have hlcI:(l.length:Int)≤cap:=by omega
 have hj0:0 < l.length - kn:=by omega
 obtain ⟨w6,hrun,h6,t6⟩:=HG.out.run_clear (P:=Tryz.prog) (t:=84) (ty:=0) (c:=cap - kn) (p:=kn) hj0 Tryz.underlying84 infInt rfl (by decide) (zero_one _ (by decide)) (by simp only [show Rep.int.n=1 from rfl];rw [← HKN.out,Nat.mul_one])
 have H6:=hD h6;have T6:=hD t6;clear h6 t6 HG
 go_wp2
 go_ret
 exact ⟨_,rfl,by rw [HKN.out];exact H6.out,E.out.trans (T6.out.wide (fun j hj=>hj ▸ HSb.out))⟩
def outOk (x:LNode) (n:LName):Bool:=mOk n x.2.2.2.2.1
def outF (x:LNode) (n:LName) (ex:Int):List Int:=if outOk x n then rankF x.2.2.2.2.2.1 (mName n x.2.2.2.2.1) ((hopsF x.2.2.2.2.1 n).filter (fun f=>!(f==ex))) else []
theorem outF_no {x:LNode} {n:LName} {ex:Int} (h:mOk n x.2.2.2.2.1=false):outF x n ex=[]:=by unfold outF outOk;rw [h];rfl
theorem outF_yes {x:LNode} {n:LName} {ex:Int} (h:mOk n x.2.2.2.2.1=true):outF x n ex=rankF x.2.2.2.2.2.1 (mName n x.2.2.2.2.1) ((hopsF x.2.2.2.2.1 n).filter (fun f=>!(f==ex))):=by unfold outF outOk;rw [h];rfl
theorem outF_yes2 {x:LNode} {n:LName} {ex:Int} (h:mOk n x.2.2.2.2.1=true):outF x n ex=(rankF x.2.2.2.2.2.1 (mName n x.2.2.2.2.1) (hopsF x.2.2.2.2.1 n)).filter (fun f=>!(f==ex)):=by
 rw [outF_yes h];unfold rankF;rw [Srt.sorted_filter]
theorem outF_len {x:LNode} {n:LName} {ex:Int}:(outF x n ex).length≤x.2.2.2.2.1.length:=by
 unfold outF
 split
 · rw [rankF_len];exact Nat.le_trans (List.length_filter_le _ _) hopsF_len
 exact Nat.zero_le _
set_option maxHeartbeats 400000 in
theorem implOutgoing1_c {w:World} {f ex:Int} {B:Nat} (A:w.cell? ⟨B,0,none⟩=some (.int .i64 ex)):Calls Tryz.prog 138 (#[.int .i64 f]++#[.pointer (some ⟨B,0,none⟩)]) w fun e w'=>e=.returned (.bool (f==ex))∧w'=w:=by
 show Calls Tryz.prog 138 #[_,_] w _
 go_enter Tryz.func138,Tryz.ntmps138
 go_wp2
 go_ret
 exact ⟨rfl,rfl⟩
theorem callable_Outgoing1:Callable Tryz.prog 138:=callable_of Tryz.func138 (by kernel_rfl) (by kernel_rfl)
theorem cell_lt {w:World} {b i:Nat} {v:Value} (k:w.cell? ⟨b,i,none⟩=some v):b < w.heap.size:=by
 rcases Nat.lt_or_ge b w.heap.size with q | q
 · exact q
 unfold World.cell? at k
 simp [Array.getElem?_eq_none q] at k
theorem Touch.cell {S:Nat→Prop} {w w':World} {b i:Nat} {v:Value} (h:Touch S w w') (hb:¬ S b) (k:w.cell? ⟨b,i,none⟩=some v):w'.cell? ⟨b,i,none⟩=some v:=by
 have hlt:b < w.heap.size:=by
  rcases Nat.lt_or_ge b w.heap.size with q | q
  · exact q
  unfold World.cell? at k
  simp [Array.getElem?_eq_none q] at k
 have e:=h.block b hlt hb
 unfold World.cell? at k ⊢
 simp only at k ⊢
 rw [e];exact k
set_option maxRecDepth 100000 in
set_option maxHeartbeats 4000000 in
theorem implOutgoingFaces_c {w:World} {cx:List Value} {x:LNode} (hx:RNode.rd w cx x) {cn:List Value} {n:LName} (hn:RName.rd w cn n) {ex:Int} (hex:-9223372036854775808≤ex∧ex≤9223372036854775807) :
    Calls Tryz.prog 46 #[.agg cx.toArray,.agg cn.toArray,.int .i64 ex] w (MadePost (Rep.slice 3 Rep.int) (outF x n ex) w):=by
 obtain ⟨q1,q2,q3,q4,q5,q6,q7⟩:=hx.2
 have HA:Hid (x.2.2.2.2.1.length≤16777216):=hD q5.1
 have HN:=hD hn
 obtain ⟨nv,rfl,n_0⟩:=RName_raw hn.1
 obtain ⟨na,np,hnv,_⟩:=Rep.kR n_0;obtain rfl:nv=_:=by simpa using hnv
 obtain ⟨av0,av2,av3,av4,av5,av6,rfl,a_0,a_1,a_2,a_3,a_4,a_5,a_6,a_7,a_8⟩:=RNode_raw hx.1
 obtain ⟨aa0,ap0,ah0,al0⟩:=Rep.kR a_0;obtain rfl:av0=_:=by simpa using ah0
 clear ah0
 obtain ⟨aa2,ap2,ah2,al2⟩:=Rep.kR a_3;obtain rfl:av2=_:=by simpa using ah2
 clear ah2
 obtain ⟨aa3,ap3,ah3,al3⟩:=Rep.kR a_4;obtain rfl:av3=_:=by simpa using ah3
 clear ah3
 obtain ⟨aa4,ap4,ah4,al4⟩:=Rep.kR a_5;obtain rfl:av4=_:=by simpa using ah4
 clear ah4
 obtain ⟨aa5,ap5,ah5,al5⟩:=Rep.kR a_6;obtain rfl:av5=_:=by simpa using ah5
 clear ah5
 obtain ⟨aa6,ap6,ah6,al6⟩:=Rep.kR a_7;obtain rfl:av6=_:=by simpa using ah6
 clear ah6
 have RR:Hid ((Rep.slice 159 RRoute).rd w [.slice aa5 x.2.2.2.2.1.length ap5] x.2.2.2.2.1):=hD ⟨a_6,q5⟩
 have RM:Hid ((Rep.slice 166 kI).rd w [.slice aa6 x.2.2.2.2.2.1.length ap6] x.2.2.2.2.2.1):=hD ⟨a_7,q6⟩
 clear hnv n_0 hn hx q1 q2 q3 q4 q5 q6 q7 a_0 a_1 a_2 a_3 a_4 a_5 a_6 a_7 a_8
 have HNO:=hD (outF_no (x:=x) (n:=n) (ex:=ex));have HYES:=hD (outF_yes (x:=x) (n:=n) (ex:=ex));have HYES2:=hD (outF_yes2 (x:=x) (n:=n) (ex:=ex));have HOL:=hD (outF_len (x:=x) (n:=n) (ex:=ex))
 go_enter Tryz.func46,Tryz.ntmps46
 go_wp2_with fail
 generalize hwB:World.alloc (World.alloc (World.alloc w _) _) _=wB
 have EB:Below w.heap.size w wB:=by rw [← hwB];exact (by repeat (first|(with_reducible exact Below.refl _ _) | refine Below.alloc ?_ (by simp;try omega) _ | refine Below.drew ?_ | refine Below.setCell ?_ (by simp;try omega) _))
 have K5:wB.cell? ⟨w.heap.size,5,none⟩=some (.slice aa5 x.2.2.2.2.1.length ap5):=by rw [← hwB];simp [go_sem]
 have K6:wB.cell? ⟨w.heap.size,6,none⟩=some (.slice aa6 x.2.2.2.2.2.1.length ap6):=by rw [← hwB];simp [go_sem]
 have KN:wB.cell? ⟨w.heap.size + 1,0,none⟩=some (.slice na n.length np):=by rw [← hwB];simp [go_sem]
 have KE:wB.cell? ⟨w.heap.size + 1 + 1,0,none⟩=some (.int .i64 ex):=by rw [← hwB];simp [go_sem]
 clear hwB
 have hzB:=EB.size
 refine (implMatchingPrefix_c (RR.out.below EB) (HN.out.below EB)).mono ?_
 rintro e w1 ⟨pc,rfl,OP,hb1⟩
 obtain ⟨pv0,rfl,p_0⟩:=RName_raw OP.raw
 obtain ⟨pa0,pp0,ph0,_⟩:=Rep.kR p_0;obtain rfl:pv0=_:=(by simpa using ph0)
 clear ph0 p_0
 have HP:=hD OP.rd
 have E1:=EB.trans (hb1.mono EB.size)
 have hz1:=E1.size
 replace K5:=cL hb1 K5
 replace K6:=cL hb1 K6
 replace KN:=cL hb1 KN
 replace KE:=cL hb1 KE
 clear OP hb1 EB
 cases hok:mOk n x.2.2.2.2.1
 · have HE:=hD (HNO.out hok)
   go_wp2
   go_ret
   exact ⟨_,rfl,by rw [HE.out];exact Rep.void_own,E1.trans (Below.mono (by repeat (first|(with_reducible exact Below.refl _ _) | refine Below.alloc ?_ (by simp;try omega) _ | refine Below.drew ?_ | refine Below.setCell ?_ (by simp;try omega) _)) E1.size)⟩
 have HE:=hD (HYES.out hok)
 clear HNO HYES HYES2
 go_upto_region 4 with fail
 generalize hwC:World.alloc w1 _=wC
 have EC0:Below w1.heap.size w1 wC:=by rw [← hwC];exact (Below.refl _ _).alloc (Nat.le_refl _) _
 have KP:wC.cell? ⟨w1.heap.size,0,none⟩=some (.slice pa0 (mName n x.2.2.2.2.1).length pp0):=by rw [← hwC];simp [go_sem]
 clear hwC
 replace K5:=cL EC0 K5
 replace K6:=cL EC0 K6
 replace KN:=cL EC0 KN
 replace KE:=cL EC0 KE
 have EC:=E1.trans (EC0.mono E1.size)
 have hzC:=EC.size
 have hlt6:=cell_lt K6
 have hltP:=cell_lt KP
 go_wp2_with fail
 refine (implNextHops_0 (RR.out.below EC) (HN.out.below EC)).mono ?_
 rintro e w2 ⟨v2,rfl,O2,hb2⟩
 obtain ⟨oa,on,oc,ho,HON⟩:=O2.parts;obtain rfl:=ho
 have HO:=hD O2;have HB2:=hD hb2
 have hz2:=hb2.size
 have E2:=EC.trans (hb2.mono EC.size)
 have KE2:=cL hb2 KE
 replace K6:=cL hb2 K6
 replace KP:=cL hb2 KP
 clear O2 hb2
 go_wp2_with fail
 have HCL:Hid (∀ wr,Touch (Btw wC.heap.size w2.heap.size) w2 wr→∀ z c,Rep.int.raw wr [c] z→Calls Tryz.prog 138 (#[c]++#[.pointer (some ⟨w.heap.size + 1 + 1,0,none⟩)]) wr (fun e w'=>e=.returned (.bool (z==ex))∧Below wr.heap.size wr w')):=hD (fun wr tw z c hz=>by
   have e:=HB2.out.trans (tw.below HB2.out.size (fun i hi=>hi.1))
   obtain ⟨hc,_⟩:=Rep.int_raw hz
   obtain rfl:c=_:=by simpa using hc
   exact (implOutgoing1_c (cL e KE)).mono (fun e2 w2 h=>⟨h.1,by rw [h.2];exact Below.refl _ _⟩))
 refine (DeleteFunc_int_c (fun z=>z==ex) callable_Outgoing1 HO.out (by have:=hopsF_len (l:=x.2.2.2.2.1) (n:=n);have:=HA.out;omega) HCL.out).mono ?_
 rintro e w3 ⟨v3,rfl,O3,T3⟩
 obtain ⟨da,dn,dc,hd,HDN⟩:=O3.parts;obtain rfl:=hd
 have hT3:=T3.below (B:=wC.heap.size) hz2 (fun i hi=>hi.1)
 have hz3:=T3.size
 have HO3:=hD O3
 have E3:=E2.trans (T3.below (by omega) (fun i hi=>by have:=hi.1;omega))
 have hbCC:Below wC.heap.size wC w3:=HB2.out.trans hT3
 have K6':w3.cell? ⟨w.heap.size,6,none⟩=some (.slice aa6 x.2.2.2.2.2.1.length ap6):=T3.cell (by intro q;have:=q.1;omega) K6
 have KP':w3.cell? ⟨w1.heap.size,0,none⟩=some (.slice pa0 (mName n x.2.2.2.2.1).length pp0):=T3.cell (by intro q;have:=q.1;omega) KP
 clear O3 T3 HO HCL K6 KP hT3
 have HD:Hid ((Rep.slice 3 Rep.int).rd w3 [.slice da dn dc] ((hopsF x.2.2.2.2.1 n).filter (fun z=>!(z==ex)))):=hD ((HO3.out.own (by have:=hopsF_len (l:=x.2.2.2.2.1) (n:=n);have:=HA.out;have:=List.length_filter_le (fun z=>!(z==ex)) (hopsF x.2.2.2.2.1 n);unfold Big;omega)).rd)
 go_wp2_with fail
 refine (implRankFaces_c (RM.out.below E3) (HP.out.below (EC0.trans (hbCC.mono EC0.size))) HD.out).mono ?_
 rintro e w4 ⟨v4,rfl,O4,hb4⟩
 obtain ⟨ra,rp,hrv,_⟩:=Rep.kR O4.raw;obtain rfl:v4=_:=by simpa using hrv
 have HO4:=hD O4;clear O4 hrv
 have hz4:=hb4.size;have hz5:=E3.size
 go_wp2
 go_ret
 exact ⟨_,rfl,by rw [HE.out];exact HO4.out.wide (fun j hj=>⟨by have:=hj.1;omega,hj.2⟩),E3.trans (hb4.mono E3.size)⟩
set_option maxRecDepth 100000 in
set_option maxHeartbeats 4000000 in
theorem specOutgoingFaces_c {w:World} {cx:List Value} {x:LNode} (hx:RNode.rd w cx x) {cn:List Value} {n:LName} (hn:RName.rd w cn n) {ex:Int} (hex:-9223372036854775808≤ex∧ex≤9223372036854775807) :
    Calls Tryz.prog 32 #[.agg cx.toArray,.agg cn.toArray,.int .i64 ex] w (MadePost (Rep.slice 3 Rep.int) (outF x n ex) w):=by
 obtain ⟨q1,q2,q3,q4,q5,q6,q7⟩:=hx.2
 have HA:Hid (x.2.2.2.2.1.length≤16777216):=hD q5.1
 have HN:=hD hn
 obtain ⟨nv,rfl,n_0⟩:=RName_raw hn.1
 obtain ⟨na,np,hnv,_⟩:=Rep.kR n_0;obtain rfl:nv=_:=by simpa using hnv
 obtain ⟨av0,av2,av3,av4,av5,av6,rfl,a_0,a_1,a_2,a_3,a_4,a_5,a_6,a_7,a_8⟩:=RNode_raw hx.1
 obtain ⟨aa0,ap0,ah0,al0⟩:=Rep.kR a_0;obtain rfl:av0=_:=by simpa using ah0
 clear ah0
 obtain ⟨aa2,ap2,ah2,al2⟩:=Rep.kR a_3;obtain rfl:av2=_:=by simpa using ah2
 clear ah2
 obtain ⟨aa3,ap3,ah3,al3⟩:=Rep.kR a_4;obtain rfl:av3=_:=by simpa using ah3
 clear ah3
 obtain ⟨aa4,ap4,ah4,al4⟩:=Rep.kR a_5;obtain rfl:av4=_:=by simpa using ah4
 clear ah4
 obtain ⟨aa5,ap5,ah5,al5⟩:=Rep.kR a_6;obtain rfl:av5=_:=by simpa using ah5
 clear ah5
 obtain ⟨aa6,ap6,ah6,al6⟩:=Rep.kR a_7;obtain rfl:av6=_:=by simpa using ah6
 clear ah6
 have RR:Hid ((Rep.slice 159 RRoute).rd w [.slice aa5 x.2.2.2.2.1.length ap5] x.2.2.2.2.1):=hD ⟨a_6,q5⟩
 have RM:Hid ((Rep.slice 166 kI).rd w [.slice aa6 x.2.2.2.2.2.1.length ap6] x.2.2.2.2.2.1):=hD ⟨a_7,q6⟩
 clear hnv n_0 hn hx q1 q2 q3 q4 q5 q6 q7 a_0 a_1 a_2 a_3 a_4 a_5 a_6 a_7 a_8
 have HNO:=hD (outF_no (x:=x) (n:=n) (ex:=ex));have HYES:=hD (outF_yes (x:=x) (n:=n) (ex:=ex));have HYES2:=hD (outF_yes2 (x:=x) (n:=n) (ex:=ex));have HOL:=hD (outF_len (x:=x) (n:=n) (ex:=ex))
 go_enter Tryz.func32,Tryz.ntmps32
 go_wp2_with fail
 generalize hwB:World.alloc (World.alloc w _) _=wB
 have EB:Below w.heap.size w wB:=by rw [← hwB];exact (by repeat (first|(with_reducible exact Below.refl _ _) | refine Below.alloc ?_ (by simp;try omega) _ | refine Below.drew ?_ | refine Below.setCell ?_ (by simp;try omega) _))
 have K5:wB.cell? ⟨w.heap.size,5,none⟩=some (.slice aa5 x.2.2.2.2.1.length ap5):=by rw [← hwB];simp [go_sem]
 have K6:wB.cell? ⟨w.heap.size,6,none⟩=some (.slice aa6 x.2.2.2.2.2.1.length ap6):=by rw [← hwB];simp [go_sem]
 have KN:wB.cell? ⟨w.heap.size + 1,0,none⟩=some (.slice na n.length np):=by rw [← hwB];simp [go_sem]
 clear hwB
 have hzB:=EB.size
 refine (specMatchingPrefix_c (RR.out.below EB) (HN.out.below EB)).mono ?_
 rintro e w1 ⟨pc,rfl,OP,hb1⟩
 obtain ⟨pv0,rfl,p_0⟩:=RName_raw OP.raw
 obtain ⟨pa0,pp0,ph0,_⟩:=Rep.kR p_0;obtain rfl:pv0=_:=(by simpa using ph0)
 clear ph0 p_0
 have HP:=hD OP.rd
 have E1:=EB.trans (hb1.mono EB.size)
 have hz1:=E1.size
 replace K5:=cL hb1 K5
 replace K6:=cL hb1 K6
 replace KN:=cL hb1 KN
 clear OP hb1 EB
 generalize hok:mOk n x.2.2.2.2.1=ok at *
 go_upto_region 2 with fail
 generalize hwC:World.alloc w1 _=wC
 have EC0:Below w1.heap.size w1 wC:=by rw [← hwC];exact (Below.refl _ _).alloc (Nat.le_refl _) _
 have KP:wC.cell? ⟨w1.heap.size,0,none⟩=some (.slice pa0 (mName n x.2.2.2.2.1).length pp0):=by rw [← hwC];simp [go_sem]
 clear hwC
 replace K5:=cL EC0 K5
 replace K6:=cL EC0 K6
 replace KN:=cL EC0 KN
 have EC:=E1.trans (EC0.mono E1.size)
 have hzC:=EC.size
 refine wp_region_soft (fun W=>Below wC.heap.size wC W) [true,true,true,true,true,true,false,false,true] (by kernel_rfl) (by kernel_rfl) (fun c a d v w h=>by cases d <;> exact h) ((Below.refl _ _).drew) ?_
 intro wS HS
 iterate 2
  all_goals first|(refine kC rfl HS ?_)|(refine kD (v:=?_) rfl (fun W hW=>?_) ?_;rotate_left;(· go_simp;try with_reducible rfl))
  all_goals try simp only [Act.put,zA,zB,zC]
  all_goals first|(refine kC rfl HS ?_)|(refine kD (v:=?_) rfl (fun W hW=>?_) ?_;rotate_left;(· have A_K5:=cL hW K5;have A_K6:=cL hW K6;have A_KN:=cL hW KN;have A_KP:=cL hW KP;clear hW;go_simp;try with_reducible rfl))
  all_goals try simp only [Act.put,zA,zB,zC]
  all_goals first|(refine kC rfl HS ?_)|(refine kD (v:=?_) rfl (fun W hW=>?_) ?_;rotate_left;(· have A_K5:=cL hW K5;have A_K6:=cL hW K6;have A_KN:=cL hW KN;have A_KP:=cL hW KP;clear hW;go_simp;try with_reducible rfl))
  all_goals try simp only [Act.put,zA,zB,zC]
 all_goals first|(refine kC rfl HS ?_)|(refine kF rfl (fun K hK=>?_);go_simp;refine (specNextHops_c (RR.out.below (EC.trans (HS.mono EC.size))) (HN.out.below (EC.trans (HS.mono EC.size)))).mono ?_;rintro e wT ⟨hv,rfl,OH,hbT⟩;obtain ⟨ha,hp,hhv,_⟩:=Rep.kR OH.raw;obtain rfl:hv=_:=(by simpa using hhv);have HOH:=hD OH;clear OH hhv;replace HS:=HS.trans (hbT.mono HS.size);refine hK _ _ HS ?_;clear hK K hbT)
 all_goals try simp only [Act.put,zA,zB,zC]
 all_goals first|(refine kC rfl HS ?_)|(refine kF rfl (fun K hK=>?_);go_simp;refine (specRankFaces_c (RM.out.below (EC.trans (HS.mono EC.size))) (HP.out.below (EC0.trans (HS.mono EC0.size))) HOH.out.rd).mono ?_;rintro e wU ⟨fv,rfl,OF,hbU⟩;obtain ⟨fa,fp,hfv,_⟩:=Rep.kR OF.raw;obtain rfl:fv=_:=(by simpa using hfv);have HF:=hD OF;clear OF hfv;replace HS:=HS.trans (hbU.mono HS.size);refine hK _ _ HS ?_;clear hK K hbU)
 all_goals try simp only [Act.put,zA,zB,zC]
 all_goals first|(refine kC rfl HS ?_)|(refine kD (v:=?_) rfl (fun W hW=>?_) ?_;rotate_left;(· go_simp;try with_reducible rfl))
 all_goals try simp only [Act.put,zA,zB,zC]
 all_goals refine soft_nil ?_
 generalize wU=w4 at *
 have E4:=EC.trans (HS.mono EC.size)
 have hz4:=E4.size
 have HFL:Hid ((rankF x.2.2.2.2.2.1 (mName n x.2.2.2.2.1) (hopsF x.2.2.2.2.1 n)).length≤16777216):=hD (by rw [rankF_len];have:=hopsF_len (l:=x.2.2.2.2.1) (n:=n);have:=HA.out;omega)
 have HRAW:=hD HF.out.raw
 clear HOH HF KP K5 K6 KN HS
 generalize rankF x.2.2.2.2.2.1 (mName n x.2.2.2.2.1) (hopsF x.2.2.2.2.1 n)=F at *
 have hfl:F.length≤16777216:=HFL.out
 go_wp2
 go_loopw [10,11] (fun v i wr=>∃ (k:Nat),k≤F.length∧i=.int .i64 k∧(ok=false→k=0)∧Hid (Rep.own0 3 Rep.int wr v ((F.take k).filter (fun z=>!(z==ex))) (Btw w4.heap.size wr.heap.size))∧Below w4.heap.size w4 wr) (fun _ i _=>F.length - (intOf i).toNat)
 case atStart=>exact ⟨0,Nat.zero_le _,rfl,fun _=>rfl,hD Rep.own0.void,(by repeat (first|(with_reducible exact Below.refl _ _) | refine Below.alloc ?_ (by simp;try omega) _ | refine Below.drew ?_ | refine Below.setCell ?_ (by simp;try omega) _))⟩
 obtain ⟨k,hk,rfl,hk0,HI,hbel⟩:=hrel
 obtain ⟨ia,inn,ic,hi,HIN⟩:=HI.out.parts;obtain rfl:=hi
 have HK0:=hD hk0;clear hk0
 have hrz:=hbel.size
 have hkn:=Int.natCast_nonneg k
 by_cases hlt:k < F.length
 · have hltI0:(k:Int) < F.length:=by omega
   cases ok
   · have HFIN:Hid (outF x n ex=(F.take k).filter (fun z=>!(z==ex))):=hD (by rw [HNO.out rfl,HK0.out rfl];rfl)
     have HLN:Hid (((F.take k).filter (fun z=>!(z==ex))).length≤Big):=hD (by have h2:=filter_take_le (p:=fun z=>!(z==ex)) (l:=F) (k:=k) hk;unfold Big;omega)
     go_wp2
     go_ret
     exact ⟨_,rfl,by rw [HFIN.out];exact (HI.out.own HLN.out).wide (fun j hj=>⟨by have:=hj.1;omega,hj.2⟩),E4.trans (hbel.mono E4.size)⟩
   have hltI:(k:Int) < F.length:=by omega
   have hfy:=fun q=>filter_yes (p:=fun z=>!(z==ex)) hlt q
   have hfn:=fun q=>filter_no (p:=fun z=>!(z==ex)) hlt q
   have hil:inn≤16777216:=by have h1:=HIN.out;have h2:=filter_take_le (p:=fun z=>!(z==ex)) (l:=F) (k:=k) (by omega);omega
   have hin2:((F.take k).filter (fun z=>!(z==ex))).length≤16777216:=by have h2:=filter_take_le (p:=fun z=>!(z==ex)) (l:=F) (k:=k) (by omega);omega
   obtain ⟨qb,qo,rfl,qc0,qr,A0⟩:=Rep.get1 (HRAW.out.below hbel) hlt rfl
   obtain ⟨qhe,HRG⟩:=Rep.int_raw qr
   obtain rfl:qc0=_:=by simpa using qhe
   generalize F[k]=z at *
   have HFY:=hD hfy;have HFN:=hD hfn;clear hfy hfn qhe qr
   cases hq:(z==ex)
   · have HT:=hD (HFY.out (by rw [hq];rfl))
     have hne:(z != ex)=true:=by simp only [bne,hq];rfl
     clear HFY HFN
     go_wp2_with (at_builtin;refine Rep.wpList_pushB rfl _ _ 84 rfl (r:=Rep.int) (e:=3) Tryz.underlying84 infInt rfl (by decide) (by decide) (B:=w4.heap.size) HI.out (by rfl) (by rfl) rfl (Rep.flat_int HRG _) rfl (fun _ _ h=>h) (fun j hj=>⟨hj.1,by have:=hj.2;omega⟩) (fun _ h=>h.elim) (by omega) (by omega) ?_)
     intro v5 w5 hown hb5 hz5
     have HO5:=hD (Rep.own0.cast hown HT.out.symm)
     have hbF:=hbel.trans hb5
     clear hown hb5
     go_wp2
     go_roundw
     case rel=>exact ⟨k + 1,by omega,by go_num,(fun h=>Bool.noConfusion h),HO5,hbF⟩
     simp [intOf];omega
   have HT:=hD (HFN.out (by rw [hq];rfl))
   have hne:(z != ex)=false:=by simp only [bne,hq];rfl
   clear HFY HFN
   go_wp2
   go_roundw
   case rel=>exact ⟨k + 1,by omega,by go_num,(fun h=>Bool.noConfusion h),hD (HI.out.cast HT.out.symm),hbel⟩
   simp [intOf];omega
 have hltI:¬ (k:Int) < F.length:=by omega
 have HFIN:Hid (outF x n ex=(F.take k).filter (fun z=>!(z==ex))):=hD (by 
         obtain rfl:k=F.length:=by omega
         rw [List.take_length]
         cases ok
         · rw [HNO.out rfl];have h0:=HK0.out rfl;rw [List.eq_nil_of_length_eq_zero h0];rfl
         · exact HYES2.out rfl)
 have HLN:Hid (((F.take k).filter (fun z=>!(z==ex))).length≤Big):=hD (by have h2:=filter_take_le (p:=fun z=>!(z==ex)) (l:=F) (k:=k) hk;unfold Big;omega)
 go_wp2
 go_ret
 exact ⟨_,rfl,by rw [HFIN.out];exact (HI.out.own HLN.out).wide (fun j hj=>⟨by have:=hj.1;omega,hj.2⟩),E4.trans (hbel.mono E4.size)⟩
end Go.Proofs.YtomdenfcfbkfbaaGreat
