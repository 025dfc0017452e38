/-
  The stable sort, its small parts.
-/
import Derived.Test.YthpgoddjglnoiaaGreatDoorSto
import Derived.Test.YthpgoddjglnoiaaGreatDoorSoft3
set_option linter.unusedVariables false
set_option linter.unusedSimpArgs false
set_option linter.unnecessarySimpa false
set_option maxRecDepth 100000
set_option maxHeartbeats 4000000
namespace Go.Proofs.YthpgoddjglnoiaaGreatDoor
open Go.RowKit
namespace Rep
theorem cells3 {w:World} {b o:Nat} {c0 c1 c2:Value} (h0:w.cell? ⟨b,o,none⟩=some c0) (h1:w.cell? ⟨b,o + 1,none⟩=some c1) (h2:w.cell? ⟨b,o + 2,none⟩=some c2):∀ q u,([c0,c1,c2]:List Value)[q]?=some u→w.cell? ⟨b,o + q,none⟩=some u:=by
 intro q u hq
 match q with
 | 0=>simp at hq;subst hq;exact h0
 | 1=>simp at hq;subst hq;exact h1
 | 2=>simp at hq;subst hq;exact h2
 | q + 3=>simp at hq
end Rep
theorem inner_yes {α:Type} {key:α→Int} {a j k:Nat} {cu:List α} (hk:k + 1=j) (ha:a < j) (hj:j < cu.length) (hkl:k < cu.length) (h:decide (key cu[j] < key cu[k])=true):Srt.inner key a j cu=Srt.inner key a k (Srt.sw cu j k):=by
 subst hk
 have h:=of_decide_eq_true h
 rw [Srt.inner,if_pos ⟨ha,by rw [Srt.jG hj,Srt.jG hkl];exact h⟩]
theorem inner_no {α:Type} {key:α→Int} {a j k:Nat} {cu:List α} (hk:k + 1=j) (hj:j < cu.length) (hkl:k < cu.length) (h:decide (key cu[j] < key cu[k])=false):Srt.inner key a j cu=cu:=by
 subst hk
 have h:=of_decide_eq_false h
 rw [Srt.inner,if_neg (by rintro ⟨_,q⟩;rw [Srt.jG hj,Srt.jG hkl] at q;exact h q)]
theorem inner_stop {α:Type} {key:α→Int} {a j:Nat} {cu:List α} (ha:¬ a < j):Srt.inner key a j cu=cu:=by
 cases j with
 | zero=>rfl
 | succ j=>rw [Srt.inner,if_neg (by rintro ⟨q,_⟩;exact ha q)]
theorem outer_next {α:Type} {key:α→Int} {a z i:Nat} {cu:List α} (h:i < z):Srt.outer key a (z - i) i cu=Srt.outer key a (z - (i + 1)) (i + 1) (Srt.inner key a i cu):=by
 rw [show z - i=(z - (i + 1)) + 1 by omega,Srt.outer]
theorem outer_end {α:Type} {key:α→Int} {a z i:Nat} {cu:List α} (h:¬ i < z):Srt.outer key a (z - i) i cu=cu:=by
 rw [show z - i=0 by omega,Srt.outer]
theorem swr_next {α:Type} {n a b i:Nat} {cu:List α} (h:i < n):Srt.swr (n - i) (a + i) (b + i) cu=Srt.swr (n - (i + 1)) (a + (i + 1)) (b + (i + 1)) (Srt.sw cu (a + i) (b + i)):=by
 rw [show n - i=(n - (i + 1)) + 1 by omega,Srt.swr];rfl
theorem swr_end {α:Type} {n a b i:Nat} {cu:List α} (h:¬ i < n):Srt.swr (n - i) (a + i) (b + i) cu=cu:=by
 rw [show n - i=0 by omega,Srt.swr]
def jZ (key:kD→Int) (g:FuncId) (cp:Array Value) (S:Nat→Prop) (w0:World):Prop :=
  ∀ wr,Touch S w0 wr→∀ x y cs ds,kE.raw wr cs x→kE.raw wr ds y→Calls Tryz.prog g (#[.agg cs.toArray,.agg ds.toArray]++cp) wr (fun e w'=>∃ k:Int,e=.returned (.int .i64 k)∧decide (k < 0)=decide (key x < key y)∧Below wr.heap.size wr w')
theorem kBx {w:World} {b n cap a z:Nat} {xs:List kD} {S:Nat→Prop} {g:FuncId} {cp:Array Value} (key:kD→Int) (hg:kY Tryz.prog g) (hcl:jZ key g cp S w) (h:Rep.kH 29 kE w (.slice (some ⟨b,0,none⟩) n cap) xs S) (hn:n=xs.length) (hlen:xs.length≤16777216) (haz:a≤z) (hz:z≤xs.length) :
    Calls Tryz.prog 85 #[.slice (some ⟨b,0,none⟩) n cap,.int .i64 (a:Nat),.int .i64 (z:Nat),.func (.func g) #[] cp] w fun e w'=>e=.returned (.tuple #[])∧Rep.kH 29 kE w' (.slice (some ⟨b,0,none⟩) n cap) (Srt.yf key a z xs) S∧Touch S w w':=by
 have HCL:=yD hcl
 unfold kY at hg
 have HO0:=yD h
 have HN0:=yD hn
 clear h hcl
 have hzn:z≤16777216:=fV
 have hz2:z≤n:=fV
 clear hlen hz hn
 have ha0:=Int.natCast_nonneg a
 have hz0:=Int.natCast_nonneg z
 have haZ:(a:Int)≤z:=fV
 have hZB:(z:Int)≤16777216:=fV
 have hncap:n≤cap∨xs=[]:=by
  rcases HO0.out.2 with ⟨_,q⟩|⟨_,_,_,_,_,q,q2,_⟩
  · exact .inr q
  simp only [Value.slice.injEq] at q;left;omega
 clear hncap
 go_enter Tryz.func85,Tryz.ntmps85
 go_wp2
 go_loopw [8] (fun i wr=>∃ (m:Nat) (cur:List kD),i=.int .i64 m∧a + 1≤m∧(m≤z∨m=a + 1)∧Hid (Srt.outer key a (z - m) m cur=Srt.yf key a z xs)∧Hid (cur.length=n)∧Hid (Rep.kH 29 kE wr (.slice (some ⟨b,0,none⟩) n cap) cur S)∧Hid (Touch S w wr)) (fun i _=>z - (intOf i).toNat)
 case atStart=>exact ⟨a + 1,xs,by go_num,Nat.le_refl _,.inr rfl,yD rfl,yD HN0.out.symm,HO0,yD (Touch.refl _ _)⟩
 obtain ⟨i,cur,rfl,hi1,hi2,HF,HLC,HO,HT⟩:=hrel
 have hi0:=Int.natCast_nonneg i
 by_cases hlt:i < z
 · have hiI:(i:Int) < z:=fV
   have HNX:=yD (outer_next (key:=key) (a:=a) (cu:=cur) hlt)
   go_wp2
   go_loopw [9] (fun j wr=>∃ (m:Nat) (cu:List kD),j=.int .i64 m∧a≤m∧m≤i∧Hid (Srt.inner key a m cu=Srt.inner key a i cur)∧Hid (cu.length=n)∧Hid (Rep.kH 29 kE wr (.slice (some ⟨b,0,none⟩) n cap) cu S)∧Hid (Touch S w wr)) (fun j _=>(intOf j).toNat)
   case atStart=>exact ⟨i,cur,rfl,by omega,Nat.le_refl _,yD rfl,HLC,HO,HT⟩
   obtain ⟨j,cu,rfl,hj1,hj2,HF2,HL2,HO2,HT2⟩:=hrel
   have hj0:=Int.natCast_nonneg j
   have hjZ:(j:Int) < z:=fV
   by_cases hja:a < j
   · obtain ⟨k,hk⟩:∃ k,k + 1=j:=⟨j - 1,by omega⟩
     have hjl:j < cu.length:=dV
     have hkl:k < cu.length:=fV
     have hjn:j < n:=fV
     have hkn:k < n:=fV
     have hjN:(j:Int) < n:=fV
     have hkN:(k:Int) < n:=fV
     have hk0:=Int.natCast_nonneg k
     have hsub:(j:Int) - 1=(k:Int):=fV
     have hw:IntKind.i64.wrap (k:Int)=k:=IntWalk.i64_in _ fV
     have hp:decide ((j:Int) > a)=true:=fQ
     have hp2:decide (a < j)=true:=by simpa using hja
     have hp3:(a:Int) < j:=fV
     have HY:=yD (fun q=>(inner_yes (key:=key) hk hja hjl hkl q).symm.trans HF2.out)
     have HNO:=yD (fun q=>(inner_no (key:=key) (a:=a) hk hjl hkl q).symm.trans HF2.out)
     obtain ⟨pc0,pc1,pc2,pr,pA0,pA1,pA2⟩:=Rep.at3 HO2.out.zQ hjl rfl
     obtain ⟨pv0,phe,p_0,p_1,p_2,p_3⟩:=kG pr
     simp only [List.cons.injEq,and_true] at phe
     obtain ⟨rfl,rfl,rfl⟩:=phe
     obtain ⟨pa0,pp0,rfl,pl0⟩:=Rep.sl p_1
     clear p_0 p_1 p_2 p_3
     obtain ⟨qc0,qc1,qc2,qr,qA0,qA1,qA2⟩:=Rep.at3 HO2.out.zQ hkl rfl
     obtain ⟨qv0,qhe,q_0,q_1,q_2,q_3⟩:=kG qr
     simp only [List.cons.injEq,and_true] at qhe
     obtain ⟨rfl,rfl,rfl⟩:=qhe
     obtain ⟨qa0,qp0,rfl,ql0⟩:=Rep.sl q_1
     clear q_0 q_1 q_2 q_3
     generalize cu[j]=x at *
     generalize cu[k]=y at *
     go_upto_region 4 with fail
     have FX:=yD (fun (W:World) (hW:Below wr.heap.size wr W)=>cLs6 hW pA0 pA1 pA2 qA0 qA1 qA2)
     refine kI (fun W=>Below wr.heap.size wr W) [true,true,true,true,true,true,true,true,true,true,true,true,true,true,false,true,true] fP fP bW (bR.drew) ?_
     intro wS HS
     iterate 3
      all_goals refine wkR ?_
     all_goals (have hg3:=True.intro;first|(refine wkG (fun b hg3=>?_);cases b;all_goals first | exact Bool.noConfusion hg3 | simp only [zU,zV] at hg3 | skip) | refine wkR ?_)
     all_goals refine wkP ?_
     iterate 10
      all_goals refine wkR ?_
     all_goals first|(refine kJ rfl HS ?_)|(refine jF rfl (fun K hK=>?_);go_simp;refine (HCL.out _ (HT2.out.trans (Touch.of_below HS)) _ _ _ _ (Rep.raw.below pr HS) (Rep.raw.below qr HS)).mono ?_;rintro e wS1 ⟨kk,rfl,hkk,hbS⟩;replace HS:=(tQ HS hbS);refine hK _ _ HS ?_;clear hK K hbS)
     all_goals refine wkP ?_
     all_goals refine wkR ?_
     all_goals (have hg16:=True.intro;first|(refine wkG (fun b hg16=>?_);cases b;all_goals first | exact Bool.noConfusion hg16 | simp only [zU,zV] at hg16 | skip) | refine wkR ?_)
     all_goals refine wkP ?_
     all_goals refine kQ ?_
     all_goals have HTX:=yD (HT2.out.trans (Touch.of_below HS))
     all_goals replace HO2:=yD (HO2.out.below HS)
     all_goals first
       | (have HV:=yD (show decide (key x < key y)=false by first|(exact hg16)|(simpa using hg16)|(rw [← hkk];simpa using hg16));have HFX:Hid (cu=Srt.inner key a i cur):=yD (HNO.out HV.out);clear HNO HY hkk hg16;have HOX:=HO2;have HFN:Hid (Srt.outer key a (z - (i + 1)) (i + 1) cu=Srt.yf key a z xs):=yD (by rw [HFX.out,← HNX.out];exact HF.out);go_wp2;go_roundw;(case rel=>exact ⟨i + 1,cu,by go_num,by omega,.inl fV,HFN,HL2,HOX,HTX⟩);(case measure=>simp [intOf];omega))
       | have HV:=yD (show decide (key x < key y)=true by first|(exact hg16)|(simpa using hg16)|(rw [← hkk];simpa using hg16))
     have HSW:=yD (HY.out HV.out)
     clear HY HNO hkk hg16 HV
     replace pA0:=cL HS pA0
     replace pA1:=cL HS pA1
     replace pA2:=cL HS pA2
     replace qA0:=cL HS qA0
     replace qA1:=cL HS qA1
     replace qA2:=cL HS qA2
     clear HS
     generalize wS1=wr2 at *
     go_upto_region 6 with fail
     have FX:=yD (fun (W:World) (hW:Below wr2.heap.size wr2 W)=>cLs6 hW pA0 pA1 pA2 qA0 qA1 qA2)
     refine jT (fun W=>Below wr2.heap.size wr2 W) [2,3,4] [(0,true),(1,true),(5,true),(6,true),(7,true),(8,true),(9,true),(10,true),(11,true),(12,true),(13,true),(14,true)] fP fP bW (bR.drew) ?_
     intro wS HS
     simp only [kK,jy,List.length_cons,List.length_nil,List.getElem?_cons_succ,List.getElem?_cons_zero,List.map_cons,List.map_nil,List.cons_append,List.nil_append,List.drop_succ_cons,List.drop_zero,Nat.reduceAdd,Nat.zero_add]
     iterate 3
      refine kDr (v:=?_) rfl (fun W=>?_) ?_;rotate_left;(· go_simp;try with_reducible rfl)
      refine wkP ?_
     refine pre_nil ?_
     iterate 12
      refine wkR ?_
     refine jV ?_
     replace HTX:=yD (HTX.out.trans (Touch.of_below HS))
     replace HO2:=yD (HO2.out.below HS)
     replace pA0:=cL HS pA0
     replace pA1:=cL HS pA1
     replace pA2:=cL HS pA2
     replace qA0:=cL HS qA0
     replace qA1:=cL HS qA1
     replace qA2:=cL HS qA2
     have BK:=Rep.kBd HO2.out hjl
     have EQi:j * kE.n=j * 3:=rfl
     have EQj:k * kE.n=k * 3:=rfl
     have THi:wS.there b (j * 3) 3:=by have q:=Rep.jl HO2.out hjl;rw [EQi] at q;exact q
     have THj:wS.there b (k * 3) 3:=by have q:=Rep.jl HO2.out hkl;rw [EQj] at q;exact q
     have hci:∀ q u,([.slice pa0 (x.1).length pp0,.int .i64 x.2.1,.int .i64 x.2.2]:List Value)[q]?=some u→wS.cell? ⟨b,j * kE.n + q,none⟩=some u:=bU
     have hcj:∀ q u,([.slice qa0 (y.1).length qp0,.int .i64 y.2.1,.int .i64 y.2.2]:List Value)[q]?=some u→wS.cell? ⟨b,k * kE.n + q,none⟩=some u:=bV
     obtain ⟨s1,s2⟩:=Rep.kCe (ci:=[.slice pa0 (x.1).length pp0,.int .i64 x.2.1,.int .i64 x.2.2]) (cj:=[.slice qa0 (y.1).length qp0,.int .i64 y.2.1,.int .i64 y.2.2]) HO2.out hjl hkl fV rfl rfl hci hcj (pi:=j * 3) (pj:=k * 3) EQi.symm EQj.symm
     have HO6:=yD s1;have HT6:=yD s2;clear s1 s2 hci hcj EQi EQj
     have hsz:(Tryz.prog.info? 29).map (·.size)=some 3:=bH
     have honei:∀ c∈([.slice pa0 (x.1).length pp0,.int .i64 x.2.1,.int .i64 x.2.2]:List Value),c.oneCell'=true:=bC
     have honej:∀ c∈([.slice qa0 (y.1).length qp0,.int .i64 y.2.1,.int .i64 y.2.2]:List Value),c.oneCell'=true:=bC
     refine jH rfl 29 _ _ rfl b (j * 3) (.agg #[.slice qa0 (y.1).length qp0,.int .i64 y.2.1,.int .i64 y.2.2]) [.slice qa0 (y.1).length qp0,.int .i64 y.2.1,.int .i64 y.2.2] rfl gB gB THi hsz honej ?_
     intro w5 hw5
     have THj5:w5.there b (k * 3) 3:=dK
     have HW5:=yD hw5;clear hw5
     go_wp2_with (refine jH rfl 29 _ _ rfl b (k * 3) (.agg #[.slice pa0 (x.1).length pp0,.int .i64 x.2.1,.int .i64 x.2.2]) [.slice pa0 (x.1).length pp0,.int .i64 x.2.1,.int .i64 x.2.2] rfl gB gB THj5 hsz honei ?_)
     rw [← HW5.out] at HO6 HT6
     generalize hw6:Rep.setCells w5 b (k * 3) [.slice pa0 (x.1).length pp0,.int .i64 x.2.1,.int .i64 x.2.2]=w6 at *
     clear HW5 hw6 THi THj THj5 hsz honei honej
     have HT7:=yD (HTX.out.trans (kCb HT6.out BK.1))
     have HL7:Hid ((Srt.sw cu j k).length=n):=yD (by rw [Srt.jr];exact HL2.out)
     go_roundw
     case rel=>exact ⟨k,Srt.sw cu j k,by go_num,by omega,by omega,HSW,HL7,HO6,HT7⟩
     simp [intOf];omega
   have hja2:¬ (a:Int) < j:=fV
   have hp:decide ((j:Int) > a)=false:=fQ
   have hp2:decide (a < j)=false:=by simpa using hja
   have HFX:Hid (cu=Srt.inner key a i cur):=yD ((inner_stop (key:=key) hja).symm.trans HF2.out)
   go_upto_region 4 with fail
   refine kI (fun W=>Below wr.heap.size wr W) [true,true,true,true,true,true,true,true,true,true,true,true,true,true,false,true,true] fP fP bW (bR.drew) ?_
   intro wS HS
   iterate 3
    all_goals refine wkR ?_
   all_goals (have hg3:=True.intro;first|(refine wkG (fun b hg3=>?_);cases b;all_goals first | exact Bool.noConfusion hg3 | simp only [zU,zV] at hg3 | skip) | refine wkR ?_)
   all_goals refine wkP ?_
   iterate 10
    all_goals refine wkR ?_
   all_goals first|(refine kJ rfl HS ?_)|(fail)
   all_goals refine wkP ?_
   all_goals refine wkR ?_
   all_goals (have hg16:=True.intro;first|(refine wkG (fun b hg16=>?_);cases b;all_goals first | exact Bool.noConfusion hg16 | simp only [zU,zV] at hg16 | skip) | refine wkR ?_)
   all_goals refine wkP ?_
   all_goals refine kQ ?_
   all_goals have HTX:=yD (HT2.out.trans (Touch.of_below HS))
   all_goals have HOX:=yD (HO2.out.below HS)
   have HFN:Hid (Srt.outer key a (z - (i + 1)) (i + 1) cu=Srt.yf key a z xs):=yD (by rw [HFX.out,← HNX.out];exact HF.out)
   go_wp2
   go_roundw
   case rel=>exact ⟨i + 1,cu,by go_num,by omega,.inl fV,HFN,HL2,HOX,HTX⟩
   simp [intOf];omega
 have HE:Hid (cur=Srt.yf key a z xs):=yD ((outer_end (key:=key) (a:=a) (cu:=cur) hlt).symm.trans HF.out)
 have hiz:¬ (i:Int) < z:=fV
 go_wp2
 go_end0
 exact ⟨rfl,HO.out.cast HE.out,HT.out⟩
theorem rot_eq {α:Type} {m p q:Nat} {cu:List α} (h:p=q):Srt.rot m p q cu=Srt.swr p (m - p) m cu:=by rw [Srt.rot,if_pos h]
theorem rot_gt {α:Type} {m p q:Nat} {cu:List α} (h:q < p) (hq:0 < q):Srt.rot m p q cu=Srt.rot m (p - q) q (Srt.swr q (m - p) m cu):=by
 rw [Srt.rot,if_neg fV,dif_pos ⟨by omega,hq⟩,if_pos h]
theorem rot_lt {α:Type} {m p q:Nat} {cu:List α} (h:p < q) (hp:0 < p):Srt.rot m p q cu=Srt.rot m p (q - p) (Srt.swr p (m - p) (m + q - p) cu):=by
 rw [Srt.rot,if_neg fV,dif_pos ⟨hp,by omega⟩,if_neg fV]
theorem kAb {w:World} {b n cap a z c:Nat} {xs:List kD} {S:Nat→Prop} {g:FuncId} {cp:Array Value} (h:Rep.kH 29 kE w (.slice (some ⟨b,0,none⟩) n cap) xs S) (hn:n=xs.length) (hlen:xs.length≤16777216) (haz:a + c≤z) (hz:z + c≤xs.length) :
    Calls Tryz.prog 101 #[.slice (some ⟨b,0,none⟩) n cap,.int .i64 (a:Nat),.int .i64 (z:Nat),.int .i64 (c:Nat),.func (.func g) #[] cp] w fun e w'=>e=.returned (.tuple #[])∧Rep.kH 29 kE w' (.slice (some ⟨b,0,none⟩) n cap) (Srt.swr c a z xs) S∧Touch S w w':=by
 have HO0:=yD h
 have HN0:=yD hn
 clear h
 have hzn:z + c≤16777216:=fV
 have hz2:z + c≤n:=fV
 clear hlen hz hn
 have ha0:=Int.natCast_nonneg a
 have hz0:=Int.natCast_nonneg z
 have hc0:=Int.natCast_nonneg c
 have haZ:(a:Int)≤z:=fV
 have hZB:(z:Int) + c≤16777216:=fV
 go_enter Tryz.func101,Tryz.ntmps101
 go_wp2
 go_loopw [10] (fun i wr=>∃ (m:Nat) (cu:List kD),i=.int .i64 m∧m≤c∧Hid (Srt.swr (c - m) (a + m) (z + m) cu=Srt.swr c a z xs)∧Hid (cu.length=n)∧Hid (Rep.kH 29 kE wr (.slice (some ⟨b,0,none⟩) n cap) cu S)∧Hid (Touch S w wr)) (fun i _=>c - (intOf i).toNat)
 case atStart=>exact ⟨0,xs,rfl,Nat.zero_le _,yD rfl,yD HN0.out.symm,HO0,yD (Touch.refl _ _)⟩
 obtain ⟨i,cu,rfl,hi1,HF,HL,HO,HT⟩:=hrel
 have hi0:=Int.natCast_nonneg i
 by_cases hlt:i < c
 · have hiI:(i:Int) < c:=fV
   have HSW:=yD ((swr_next (a:=a) (b:=z) (cu:=cu) hlt).symm.trans HF.out)
   have hjl0:a + i < cu.length:=dW
   have hkl0:z + i < cu.length:=dW
   obtain ⟨j,hj⟩:∃ j,a + i=j:=⟨_,rfl⟩
   obtain ⟨k,hk⟩:∃ k,z + i=k:=⟨_,rfl⟩
   have hjl:j < cu.length:=fV
   have hkl:k < cu.length:=fV
   have hjk:j≠k:=fV
   rw [hj,hk] at HSW
   have hj0:=Int.natCast_nonneg j
   have hk0:=Int.natCast_nonneg k
   have hjN:(j:Int) < n:=dW
   have hkN:(k:Int) < n:=dW
   have hs1:(a:Int) + (i:Int)=(j:Int):=fV
   have hs2:(z:Int) + (i:Int)=(k:Int):=fV
   have hjB:j≤16777216:=fV
   have hkB:k≤16777216:=fV
   have hw1:IntKind.i64.wrap (j:Int)=j:=IntWalk.i64_in _ fV
   have hw2:IntKind.i64.wrap (k:Int)=k:=IntWalk.i64_in _ fV
   clear hjl0 hkl0
   obtain ⟨pc0,pc1,pc2,pr,pA0,pA1,pA2⟩:=Rep.at3 HO.out.zQ hjl rfl
   obtain ⟨pv0,phe,p_0,p_1,p_2,p_3⟩:=kG pr
   simp only [List.cons.injEq,and_true] at phe
   obtain ⟨rfl,rfl,rfl⟩:=phe
   obtain ⟨pa0,pp0,rfl,pl0⟩:=Rep.sl p_1
   clear p_0 p_1 p_2 p_3
   obtain ⟨qc0,qc1,qc2,qr,qA0,qA1,qA2⟩:=Rep.at3 HO.out.zQ hkl rfl
   obtain ⟨qv0,qhe,q_0,q_1,q_2,q_3⟩:=kG qr
   simp only [List.cons.injEq,and_true] at qhe
   obtain ⟨rfl,rfl,rfl⟩:=qhe
   obtain ⟨qa0,qp0,rfl,ql0⟩:=Rep.sl q_1
   clear q_0 q_1 q_2 q_3
   generalize cu[j]=x at *
   generalize cu[k]=y at *
   go_upto_region 3 with fail
   have FX:=yD (fun (W:World) (hW:Below wr.heap.size wr W)=>cLs6 hW pA0 pA1 pA2 qA0 qA1 qA2)
   refine jT (fun W=>Below wr.heap.size wr W) [4,5,6,7] [(0,true),(1,true),(2,true),(3,true),(8,true),(9,true),(10,true),(11,true),(12,true),(13,true),(14,true),(15,true),(16,true),(17,true),(18,true),(19,true),(20,true)] fP fP bW (bR.drew) ?_
   intro wS HS
   simp only [kK,jy,List.length_cons,List.length_nil,List.getElem?_cons_succ,List.getElem?_cons_zero,List.map_cons,List.map_nil,List.cons_append,List.nil_append,List.drop_succ_cons,List.drop_zero,Nat.reduceAdd,Nat.zero_add]
   iterate 4
    refine kDr (v:=?_) rfl (fun W=>?_) ?_;rotate_left;(· go_simp;try with_reducible rfl)
    refine wkP ?_
   refine pre_nil ?_
   iterate 17
    refine wkR ?_
   refine jV ?_
   have HTX:=yD (HT.out.trans (Touch.of_below HS))
   replace HO:=yD (HO.out.below HS)
   replace pA0:=cL HS pA0
   replace pA1:=cL HS pA1
   replace pA2:=cL HS pA2
   replace qA0:=cL HS qA0
   replace qA1:=cL HS qA1
   replace qA2:=cL HS qA2
   have BK:=Rep.kBd HO.out hjl
   have EQi:j * kE.n=j * 3:=rfl
   have EQj:k * kE.n=k * 3:=rfl
   have THi:wS.there b (j * 3) 3:=by have q:=Rep.jl HO.out hjl;rw [EQi] at q;exact q
   have THj:wS.there b (k * 3) 3:=by have q:=Rep.jl HO.out hkl;rw [EQj] at q;exact q
   have hci:∀ q u,([.slice pa0 (x.1).length pp0,.int .i64 x.2.1,.int .i64 x.2.2]:List Value)[q]?=some u→wS.cell? ⟨b,j * kE.n + q,none⟩=some u:=bU
   have hcj:∀ q u,([.slice qa0 (y.1).length qp0,.int .i64 y.2.1,.int .i64 y.2.2]:List Value)[q]?=some u→wS.cell? ⟨b,k * kE.n + q,none⟩=some u:=bV
   obtain ⟨s1,s2⟩:=Rep.kCe (ci:=[.slice pa0 (x.1).length pp0,.int .i64 x.2.1,.int .i64 x.2.2]) (cj:=[.slice qa0 (y.1).length qp0,.int .i64 y.2.1,.int .i64 y.2.2]) HO.out hjl hkl hjk rfl rfl hci hcj (pi:=j * 3) (pj:=k * 3) EQi.symm EQj.symm
   have HO6:=yD s1;have HT6:=yD s2;clear s1 s2 hci hcj EQi EQj
   have hsz:(Tryz.prog.info? 29).map (·.size)=some 3:=bH
   have honei:∀ c∈([.slice pa0 (x.1).length pp0,.int .i64 x.2.1,.int .i64 x.2.2]:List Value),c.oneCell'=true:=bC
   have honej:∀ c∈([.slice qa0 (y.1).length qp0,.int .i64 y.2.1,.int .i64 y.2.2]:List Value),c.oneCell'=true:=bC
   refine jH rfl 29 _ _ rfl b (j * 3) (.agg #[.slice qa0 (y.1).length qp0,.int .i64 y.2.1,.int .i64 y.2.2]) [.slice qa0 (y.1).length qp0,.int .i64 y.2.1,.int .i64 y.2.2] rfl gB gB THi hsz honej ?_
   intro w5 hw5
   have THj5:w5.there b (k * 3) 3:=dK
   have HW5:=yD hw5;clear hw5
   go_wp2_with (refine jH rfl 29 _ _ rfl b (k * 3) (.agg #[.slice pa0 (x.1).length pp0,.int .i64 x.2.1,.int .i64 x.2.2]) [.slice pa0 (x.1).length pp0,.int .i64 x.2.1,.int .i64 x.2.2] rfl gB gB THj5 hsz honei ?_)
   rw [← HW5.out] at HO6 HT6
   generalize hw6:Rep.setCells w5 b (k * 3) [.slice pa0 (x.1).length pp0,.int .i64 x.2.1,.int .i64 x.2.2]=w6 at *
   clear HW5 hw6 THi THj THj5 hsz honei honej
   have HT7:=yD (HTX.out.trans (kCb HT6.out BK.1))
   have HL7:Hid ((Srt.sw cu j k).length=n):=yD (by rw [Srt.jr];exact HL.out)
   go_roundw
   case rel=>exact ⟨i + 1,Srt.sw cu j k,by go_num,by omega,HSW,HL7,HO6,HT7⟩
   simp [intOf];omega
 have HE:Hid (cu=Srt.swr c a z xs):=yD ((swr_end (a:=a) (b:=z) (cu:=cu) hlt).symm.trans HF.out)
 have hiz:¬ (i:Int) < c:=fV
 go_wp2
 go_end0
 exact ⟨rfl,HO.out.cast HE.out,HT.out⟩
theorem rot_Route_c {w:World} {b n cap a m z:Nat} {xs:List kD} {S:Nat→Prop} {g:FuncId} {cp:Array Value} (h:Rep.kH 29 kE w (.slice (some ⟨b,0,none⟩) n cap) xs S) (hn:n=xs.length) (hlen:xs.length≤16777216) (ham:a < m) (hmz:m < z) (hz:z≤xs.length) :
    Calls Tryz.prog 97 #[.slice (some ⟨b,0,none⟩) n cap,.int .i64 (a:Nat),.int .i64 (m:Nat),.int .i64 (z:Nat),.func (.func g) #[] cp] w fun e w'=>e=.returned (.tuple #[])∧Rep.kH 29 kE w' (.slice (some ⟨b,0,none⟩) n cap) (Srt.rot m (m - a) (z - m) xs) S∧Touch S w w':=by
 have HO0:=yD h
 have HN0:=yD hn
 clear h
 have hzn:z≤16777216:=fV
 have hz2:z≤n:=fV
 have hnB:n≤16777216:=fV
 clear hlen hz hn
 have ha0:=Int.natCast_nonneg a
 have haM:(a:Int) < m:=fV
 have hMZ:(m:Int) < z:=fV
 have hZB:(z:Int)≤16777216:=fV
 have hs1:(m:Int) - (a:Int)=((m - a:Nat):Int):=fV
 have hs2:(z:Int) - (m:Int)=((z - m:Nat):Int):=fV
 generalize hi0:m - a=i0 at *
 generalize hj0:z - m=j0 at *
 have hi1:(i0:Int)≤16777216:=fV
 have hj1:(j0:Int)≤16777216:=fV
 have hi2:=Int.natCast_nonneg i0
 have hj2:=Int.natCast_nonneg j0
 have hw1:IntKind.i64.wrap (i0:Int)=i0:=IntWalk.i64_in _ fV
 have hw2:IntKind.i64.wrap (j0:Int)=j0:=IntWalk.i64_in _ fV
 go_enter Tryz.func97,Tryz.ntmps97
 go_wp2
 go_loopw [10,11] (fun i j wr=>∃ (p q:Nat) (cu:List kD),i=.int .i64 p∧j=.int .i64 q∧0 < p∧0 < q∧p≤m∧m + q≤n∧Hid (Srt.rot m p q cu=Srt.rot m i0 j0 xs)∧Hid (cu.length=n)∧Hid (Rep.kH 29 kE wr (.slice (some ⟨b,0,none⟩) n cap) cu S)∧Hid (Touch S w wr)) (fun i j _=>(intOf i).toNat + (intOf j).toNat)
 case atStart=>exact ⟨i0,j0,xs,rfl,rfl,by omega,by omega,by omega,by omega,yD rfl,yD HN0.out.symm,HO0,yD (Touch.refl _ _)⟩
 clear hs1 hs2 hw1 hw2
 obtain ⟨p,q,cu,rfl,rfl,hp,hq,hpm,hqn,HF,HL,HO,HT⟩:=hrel
 have hp0:=Int.natCast_nonneg p
 have hq0:=Int.natCast_nonneg q
 have hpM:(p:Int)≤m:=fV
 have hqN:(m:Int) + q≤16777216:=fV
 obtain ⟨mp,hmp⟩:∃ mp,m - p=mp:=⟨_,rfl⟩
 have hs3:(m:Int) - (p:Int)=(mp:Int):=fV
 have hw3:IntKind.i64.wrap (mp:Int)=mp:=IntWalk.i64_in _ fV
 have hmp0:=Int.natCast_nonneg mp
 by_cases hpq:p=q
 · subst hpq
   have HE:=yD ((rot_eq (m:=m) (cu:=cu) rfl).symm.trans HF.out)
   rw [hmp] at HE
   have hb:((p:Int) != (p:Int))=false:=fZ
   go_wp2_with fail
   refine (kAb (n:=n) (b:=b) HO.out HL.out.symm dW (a:=mp) (z:=m) (c:=p) fV dW).mono ?_
   rintro e w2 ⟨rfl,O2,T2⟩
   have HO2:=yD O2;have HT2:=yD (HT.out.trans T2)
   clear O2 T2
   go_wp2
   go_end0
   exact ⟨rfl,HO2.out.cast HE.out,HT2.out⟩
 have hb:((p:Int) != (q:Int))=true:=fQ
 have hb2:(p != q)=true:=by simpa using hpq
 have hb3:¬ (p:Int)=q:=fV
 by_cases hgt:q < p
 · have HE:=yD ((rot_gt (m:=m) (cu:=cu) hgt hq).symm.trans HF.out)
   rw [hmp] at HE
   have hg2:(q:Int) < p:=fV
   have hg3:decide ((p:Int) > q)=true:=fQ
   have hs4:(p:Int) - (q:Int)=((p - q:Nat):Int):=fV
   generalize hpq':p - q=pq at *
   have hw4:IntKind.i64.wrap (pq:Int)=pq:=IntWalk.i64_in _ fV
   go_wp2_with fail
   refine (kAb (n:=n) (b:=b) HO.out HL.out.symm dW (a:=mp) (z:=m) (c:=q) fV dW).mono ?_
   rintro e w2 ⟨rfl,O2,T2⟩
   have HO2:=yD O2;have HT2:=yD (HT.out.trans T2)
   have HL2:Hid ((Srt.swr q mp m cu).length=n):=yD (by rw [Srt.yX];exact HL.out)
   clear O2 T2
   go_wp2
   go_roundw
   case rel=>exact ⟨pq,q,Srt.swr q mp m cu,rfl,rfl,by omega,hq,by omega,hqn,HE,HL2,HO2,HT2⟩
   simp [intOf];omega
 have hlt:p < q:=fV
 have HE:=yD ((rot_lt (m:=m) (cu:=cu) hlt hp).symm.trans HF.out)
 rw [hmp] at HE
 have hg2:¬ (q:Int) < p:=fV
 have hg3:decide ((p:Int) > q)=false:=fQ
 have hs4:(q:Int) - (p:Int)=((q - p:Nat):Int):=fV
 generalize hpq':q - p=pq at *
 have hw4:IntKind.i64.wrap (pq:Int)=pq:=IntWalk.i64_in _ fV
 have hs5:(m:Int) + (q:Int)=((m + q:Nat):Int):=fV
 generalize hmq:m + q=mq at *
 have hw5:IntKind.i64.wrap (mq:Int)=mq:=IntWalk.i64_in _ fV
 have hs6:(mq:Int) - (p:Int)=((mq - p:Nat):Int):=fV
 generalize hmqp:mq - p=mqp at *
 have hw6:IntKind.i64.wrap (mqp:Int)=mqp:=IntWalk.i64_in _ fV
 go_wp2_with fail
 refine (kAb (n:=n) (b:=b) HO.out HL.out.symm dW (a:=mp) (z:=mqp) (c:=p) fV dW).mono ?_
 rintro e w2 ⟨rfl,O2,T2⟩
 have HO2:=yD O2;have HT2:=yD (HT.out.trans T2)
 have HL2:Hid ((Srt.swr p mp mqp cu).length=n):=yD (by rw [Srt.yX];exact HL.out)
 clear O2 T2
 go_wp2
 go_roundw
 case rel=>exact ⟨p,pq,Srt.swr p mp mqp cu,rfl,rfl,hp,by omega,hpm,by omega,HE,HL2,HO2,HT2⟩
 simp [intOf];omega
end Go.Proofs.YthpgoddjglnoiaaGreatDoor
