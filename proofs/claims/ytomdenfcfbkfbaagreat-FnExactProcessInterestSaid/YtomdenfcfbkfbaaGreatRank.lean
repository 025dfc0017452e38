/-
  Faces in order of their failures.
-/
import Derived.Test.YtomdenfcfbkfbaaGreatMeas
import Derived.Test.YtomdenfcfbkfbaaGreatCopyD
set_option linter.unusedVariables false
set_option linter.unusedSimpArgs false
set_option linter.unnecessarySimpa false
set_option maxRecDepth 100000
set_option maxHeartbeats 4000000
namespace Go.Proofs.YtomdenfcfbkfbaaGreat
open Go.RowKit
theorem Clone_int_0 {w:World} {va:Value} {x:List Int} (ha:(Rep.slice 3 Rep.int).rd w [va] x):Calls Tryz.prog 204 #[va] w (kDc 3 Rep.int x w):=by
 obtain ⟨aa,capa,rfl,la⟩:=Rep.sl ha.1
 have HA:=yD ha
 have hnil:=fun (W:World) (a:Option Addr) (n c:Nat)=>Lib.run_eql_slice_nil (P:=Tryz.prog) W 84 3 a n c 0 0 Tryz.underlying84
 cases aa with
 | none =>
   have hx:x=[]:=by
     cases x with
     | nil=>rfl
     | cons y ys =>
       obtain ⟨b,off,h,_⟩:=Rep.kCt ha.1 (i:=0) rM
       cases h
   subst hx
   clear ha
   go_enter Tryz.func204,Tryz.ntmps204
   go_wp2
   go_ret
   exact ⟨_,rfl,Rep.kQ.void,bR⟩
 | some a =>
   have hb:x.length≤16777216:=ha.2.1
   clear ha
   go_enter Tryz.func204,Tryz.ntmps204
   have O0:Rep.kQ 3 Rep.int (w.alloc (.cells #[] 3)) (.slice (some ⟨w.heap.size,0,none⟩) 0 0) [] (fun k=>k=w.heap.size):=Rep.yS (cs:=[]) (xs:=[]) (T:=fun _=>False) rM rM rfl (fun _ h=>h.elim) rfl
   go_wp2_with (at_builtin;refine Rep.kAb rfl _ _ 84 rfl (r:=Rep.int) (e:=3) Tryz.underlying84 kEm rfl rG rG flatint (B:=w.heap.size) O0 rO rO (HA.out.alloc _) gZ rM rC ?_)
   intro v2 w2 hown hbel hz
   have HO:=yD hown
   obtain ⟨a2,c2,hv⟩:=hown.zR
   obtain rfl:=hv
   have EG:Below w.heap.size w w2:=Below.trans bD hbel
   clear hown O0 hbel
   go_wp2
   go_ret
   exact ⟨_,rfl,Rep.kQ.cast HO.out rM,EG⟩
def kGz (l:List kv) (n:ky) (fs:List Int):List Int:=Srt.sorted (yT l n) fs
theorem kIu (l:List kv) (n:ky) (fs:List Int):(kGz l n fs).length=fs.length:=by
 unfold kGz;rw [← Srt.kIr,Srt.kDh]
theorem cmpI_lt {a b:Int}:decide (kBx a b < 0)=decide (a < b):=by
 unfold kBx
 by_cases h:a < b
 · rw [if_pos h];simp [h]
 rw [if_neg h]
 by_cases h2:b < a
 · rw [if_pos h2];simp [h]
 rw [if_neg h2];simp [h]
theorem sorted_snoc {α:Type} {key:α→Int} {l:List α} {k:Nat} (h:k < l.length):Srt.sorted key (l.take (k + 1))=Srt.put key (Srt.sorted key (l.take k)) l[k]:=by
 unfold Srt.sorted;rw [List.take_succ_eq_append_getElem h,List.foldl_append];rfl
theorem kEk {α:Type} {key:α→Int} {l:List α}:(Srt.sorted key l).length=l.length:=by rw [← Srt.kIr,Srt.kDh]
theorem kRm {α:Type} {key:α→Int} {l:List α} {x:α} {k j:Nat} (hj:j + 1=k) (hl:j < l.length) (h:decide (key x < key l[j])=true):Srt.place key k l x=Srt.place key j l x:=by
 subst hj;rw [Srt.place,if_pos (by rw [Srt.yu hl];exact of_decide_eq_true h)]
theorem kRk {α:Type} {key:α→Int} {l:List α} {x:α} {k j:Nat} (hj:j + 1=k) (hl:j < l.length) (h:decide (key x < key l[j])=false):Srt.place key k l x=k:=by
 subst hj;rw [Srt.place,if_neg (by rw [Srt.yu hl];exact of_decide_eq_false h)]
theorem kWc {α:Type} {key:α→Int} {l:List α} {x:α} {k:Nat} (h:k=Srt.place key l.length l x):Srt.put key l x=l.take k++[x]++l.drop k:=by subst h;rfl
namespace Rep
theorem kNk {α:Type} {r:Rep α} {e:TypeId} {w:World} {a:Option Addr} {n cap:Nat} {xs:List α} {S:Nat→Prop} (h:kQ e r w (.slice a n cap) xs S):(n=0∧cap=0)∨∃ b,a=some ⟨b,0,none⟩:=by
 rcases h.2 with ⟨⟨a',h0⟩,_⟩|⟨b,cap',cur,cs,tl,h0,_⟩
 · simp only [Value.slice.injEq] at h0;exact .inl ⟨h0.2.1,h0.2.2⟩
 simp only [Value.slice.injEq] at h0;exact .inr ⟨b,h0.1⟩
theorem kQh {α:Type} {r:Rep α} {e:TypeId} {w:World} {a:Option Addr} {c:Nat} (hc:c≤maxLen):(slice e r).rd w [.slice a 0 c] []:=⟨void_raw hc,Nat.zero_le _,by simp⟩
theorem kQj {α:Type} {r:Rep α} {e:TypeId} {w:World} {b len cap k:Nat} {xs:List α} (h:(slice e r).rd w [.slice (some ⟨b,0,none⟩) len cap] xs) (hk:k≤xs.length):(slice e r).rd w [.slice (some ⟨b,0 + k * r.n,none⟩) (len - k) (cap - k)] (xs.drop k) :=
  ⟨drop_raw h.1 hk,by have:=h.2.1;simp;omega,fun x hx=>h.2.2 x (List.mem_of_mem_drop hx)⟩
end Rep
theorem kNs {w:World} {a b:Int} {l:List kv} {n:ky} {lv nv:Value} {B1 B2:Nat} (hl:(Rep.slice 166 kG).raw w [lv] l) (hn:kZ.raw w [nv] n) (A0:w.cell? ⟨B1,0,none⟩=some lv) (A1:w.cell? ⟨B2,0,none⟩=some nv) :
    Calls Tryz.prog 206 (#[.int .i64 a,.int .i64 b]++#[.pointer (some ⟨B1,0,none⟩),.pointer (some ⟨B2,0,none⟩)]) w fun e w'=>e=.returned (.int .i64 (kBx (yT l n a) (yT l n b)))∧Below w.heap.size w w':=by
 have HL:=yD hl
 have HN:=yD hn
 obtain ⟨nv0,hnv0,n_0⟩:=kR hn
 obtain rfl:nv=nv0:=by simpa using hnv0
 obtain ⟨na,np,rfl,_⟩:=Rep.sl n_0
 obtain ⟨la,lp,rfl,_⟩:=Rep.sl hl
 clear n_0 hl hn hnv0
 show Calls Tryz.prog 206 #[_,_,_,_] w _
 go_enter Tryz.func206,Tryz.ntmps206
 go_upto_region 1 with fail
 have FX:=yD (fun (W:World) (hW:Below w.heap.size w W)=>kIl hW A0 A1)
 refine zO (fun W=>Below w.heap.size w W) [(0,true),(1,true),(2,true),(4,true),(5,true),(6,true),(3,false),(7,false),(8,false),(9,true)] rA rA gI (bR.drew) ?_
 intro wS HS
 simp only [jO,List.getElem?_cons_succ,List.getElem?_cons_zero,List.map_cons,List.map_nil]
 iterate 6
  all_goals refine wkR ?_
 iterate 2
  all_goals first | refine wkB (kNv (Rep.raw.below HL.out HS) (Rep.raw.below HN.out HS)) (fun wS1 HS=>?_) | refine wkR ?_
 all_goals first | refine wkC (kMn) ?_ | refine wkR ?_
 all_goals refine wkR ?_
 all_goals refine ko ?_
 go_wp2
 go_ret
 exact ⟨rfl,HS⟩
theorem kJj:jB Tryz.prog 206:=yh Tryz.func206 rA rA
theorem kPr {w:World} {vl:Value} {l:List kv} (hl:(Rep.slice 166 kG).rd w [vl] l) {cn:List Value} {n:ky} (hn:kZ.rd w cn n) {vf:Value} {fs:List Int} (hf:(Rep.slice 3 Rep.int).rd w [vf] fs) :
    Calls Tryz.prog 139 #[vl,.agg cn.toArray,vf] w (yf (Rep.slice 3 Rep.int) (kGz l n fs) w):=by
 have HL:=yD hl
 have HN:=yD hn
 have HF:=yD hf
 have hfb:fs.length≤16777216:=hf.2.1
 obtain ⟨nv,rfl,n_0⟩:=kR hn.1
 obtain ⟨na,np,rfl,_⟩:=Rep.sl n_0
 obtain ⟨la,lp,rfl,_⟩:=Rep.sl hl.1
 obtain ⟨fa,fp,rfl,_⟩:=Rep.sl hf.1
 clear n_0 hl hn hf
 go_enter Tryz.func139,Tryz.ntmps139
 go_wp2_with fail
 generalize hwB:World.alloc (World.alloc w _) _=wB
 have EB:Below w.heap.size w wB:=by rw [← hwB];exact bD
 have K0:wB.cell? ⟨w.heap.size,0,none⟩=some (.slice la l.length lp):=nJ
 have K1:wB.cell? ⟨w.heap.size + 1,0,none⟩=some (.slice na n.length np):=nJ
 clear hwB
 refine (Clone_int_0 (HF.out.below EB)).mono ?_
 rintro e w1 ⟨v1,rfl,O1,hb1⟩
 obtain ⟨oa,on,oc,ho,HON⟩:=O1.parts;obtain rfl:=ho
 have E1:=(tQ EB hb1)
 have HO:=yD O1;have HB1:=yD hb1
 have hz1:=hb1.size;have hzB:=EB.size
 clear O1 hb1
 have HC:Hid (kCz (yT l n) 206 #[.pointer (some ⟨w.heap.size,0,none⟩),.pointer (some ⟨w.heap.size + 1,0,none⟩)] (Btw wB.heap.size w1.heap.size) w1):=yD (fun wr tw x y c d hx hy=>by
   have e:=HB1.out.trans (tw.below HB1.out.size (fun i hi=>hi.1))
   obtain ⟨hc,_⟩:=Rep.jX hx
   obtain ⟨hd,_⟩:=Rep.jX hy
   obtain rfl:c=_:=by simpa using hc
   obtain rfl:d=_:=by simpa using hd
   exact (kNs (HL.out.1.below (tQ EB e)) (HN.out.1.below (tQ EB e)) (cL e K0) (cL e K1)).mono (fun e2 w2 h=>⟨_,h.1,cmpI_lt,h.2⟩))
 clear K0 K1 EB
 go_wp2_with fail
 refine (kOg (yT l n) kJj HC.out HO.out hfb).mono ?_
 rintro e w2 ⟨rfl,O2,T2⟩
 have E2:=E1.trans (T2.below rJ nD)
 have hz2:=T2.size
 have HO2:=yD ((O2.cast (Srt.kIr fs)).wide (T:=Btw w.heap.size w2.heap.size) dM)
 clear O2 T2 HC HO
 go_wp2
 go_ret
 exact ⟨_,rfl,HO2.out.own (by show (kGz l n fs).length≤Big;rw [kIu];unfold Big;omega),E2⟩
theorem ja {w:World} {v:Value} {xs ys:List Int} {S:Nat→Prop} {B:Nat} {av:Option Addr} {len cap:Nat} (hown:Rep.kQ 3 Rep.int w v xs S) (hy:(Rep.slice 3 Rep.int).rd w [.slice av len cap] ys) (hSB:∀ k,S k→B≤k∧k < w.heap.size) (hB:B≤w.heap.size) (hlen:xs.length + ys.length≤1000000000) :
    ∃ v' w',(Builtin.append_ #[84,84] 84 #[v,.slice av len cap]).run Tryz.prog w=.ok v' w'∧Rep.kQ 3 Rep.int w' v' (xs++ys) (Btw B w'.heap.size)∧Below B w w'∧w.heap.size≤w'.heap.size :=
  Rep.kIs (r:=Rep.int) Tryz.underlying84 kEm rfl (show 0 < 1 by omega) rG Rep.kEl hown hy hSB hB hlen
theorem kAu {w:World} {cs:List Value} {x:Int} (hx:Rep.is Rep.int true w cs x (fun _=>True)) (hb:Rep.bdd Rep.int Big x) :
    (Rep.slice 3 Rep.int).rd (World.alloc w (.cells cs.toArray 3)) [.slice (some ⟨w.heap.size,0,none⟩) 1 1] [x] :=
  ((Rep.yS (e:=3) (r:=Rep.int) (w:=w) (cs:=cs) (xs:=[x]) (T:=fun _=>True) (S:=fun _=>True) (by intro y hy;rw [List.mem_singleton.1 hy];exact hb) (by show 1≤_;unfold maxLen;omega) (Rep.kDd hx) (fun _ h=>h) trivial).own (by show 1≤_;unfold Big;omega)).rd
theorem kPi {w:World} {vl:Value} {l:List kv} (hl:(Rep.slice 166 kG).rd w [vl] l) {cn:List Value} {n:ky} (hn:kZ.rd w cn n) {vf:Value} {fs:List Int} (hf:(Rep.slice 3 Rep.int).rd w [vf] fs) :
    Calls Tryz.prog 112 #[vl,.agg cn.toArray,vf] w (yf (Rep.slice 3 Rep.int) (kGz l n fs) w):=by
 have HL:=yD hl
 have HN:=yD hn
 have HF:=yD hf
 have hfb:fs.length≤16777216:=hf.2.1
 obtain ⟨nv,rfl,n_0⟩:=kR hn.1
 obtain ⟨na,np,rfl,_⟩:=Rep.sl n_0
 obtain ⟨la,lp,rfl,_⟩:=Rep.sl hl.1
 obtain ⟨fa,fp,rfl,_⟩:=Rep.sl hf.1
 clear n_0 hl hn hf
 go_enter Tryz.func112,Tryz.ntmps112
 go_wp2
 generalize hwB:World.alloc (World.alloc w _) _=wB
 have EB:Below w.heap.size w wB:=by rw [← hwB];exact bD
 have hzB:=EB.size
 have K0:wB.cell? ⟨w.heap.size,0,none⟩=some (.slice na n.length np):=nJ
 clear hwB
 go_loopw [7,8] (fun v i wr=>∃ (k:Nat),k≤fs.length∧i=.int .i64 k∧Hid (Rep.kQ 3 Rep.int wr v (Srt.sorted (yT l n) (fs.take k)) (Btw w.heap.size wr.heap.size))∧Below wB.heap.size wB wr) (fun _ i _=>fs.length - (intOf i).toNat)
 case atStart=>exact ⟨0,Nat.zero_le _,rfl,yD Rep.kQ.void,bR⟩
 obtain ⟨i,hi,rfl,HO,hbel⟩:=hrel
 replace K0:=cL hbel K0
 obtain ⟨a,m,cap,ho,HM⟩:=HO.out.parts;obtain rfl:=ho
 have hrz:=hbel.size
 have hi0:=Int.natCast_nonneg i
 by_cases hlt:i < fs.length
 · have hiI:(i:Int) < fs.length:=rJ
   have hml : m ≤ 16777216 := by have h0 : m = i := by rw [HM.out, kEk]; simp; omega
                                 omega
   have hmcap:m≤cap∧cap≤9223372036854775807:=by have h1:=HO.out.kBj;have h2:=HM.out;obtain ⟨h3,h4⟩:=Rep.kEb h1;exact ⟨by omega,h4⟩
   obtain ⟨fb,fo,rfl,fc,fr,Af⟩:=Rep.kEo (HF.out.1.below (tQ EB hbel)) hlt rfl
   obtain ⟨fhe,frg⟩:=Rep.jX fr
   obtain rfl:fc=_:=by simpa using fhe
   have HSN:=yD (sorted_snoc (key:=yT l n) hlt)
   have HX:=yD fr
   clear fhe fr
   generalize fs[i]=x at *
   generalize hLL:Srt.sorted (yT l n) (fs.take i)=LL at *
   clear hLL
   go_wp2
   go_loopw [9] (fun q wr2=>∃ (k:Nat),k≤m∧q=.int .i64 k∧Hid (Srt.place (yT l n) k LL x=Srt.place (yT l n) m LL x)∧Below wr.heap.size wr wr2) (fun q _=>(intOf q).toNat)
   case atStart=>exact ⟨m,Nat.le_refl _,rfl,yD rfl,bR⟩
   obtain ⟨k,hkm,rfl,HP,hb2⟩:=hrel
   have K0':=cL hb2 K0
   have Af':=cL hb2 Af
   have HO2:=yD (HO.out.below hb2)
   have EQ:Below wB.heap.size wB _:=(tQ hbel hb2)
   have hk0:=Int.natCast_nonneg k
   have hkcap:(k:Int)≤cap:=rJ
   have hkcapN:k≤cap:=rJ
   by_cases hk:0 < k
   · obtain ⟨j,hj⟩:∃ j,j + 1=k:=⟨k - 1,by omega⟩
     have hjI:(k:Int) - 1=(j:Int):=rJ
     have hwj:IntKind.i64.wrap (j:Int)=j:=IntWalk.i64_in _ rJ
     have hj0:=Int.natCast_nonneg j
     have hjl:j < LL.length:=pY
     have hjm:(j:Int) < m:=rJ
     have hp:decide ((k:Int) > 0)=true:=rC
     have hp2:decide (0 < k)=true:=qN
     have hp3:(0:Int) < k:=rJ
     have HY:=yD (fun q=>(kRm (key:=yT l n) (x:=x) hj hjl q).symm.trans HP.out)
     have HNO:=yD (fun q=>(kRk (key:=yT l n) (x:=x) hj hjl q).symm.trans HP.out)
     obtain ⟨ob,oo,rfl,oc0,or_,Ao⟩:=Rep.kEo HO2.out.kBj hjl rfl
     obtain ⟨ohe,org⟩:=Rep.jX or_
     obtain rfl:oc0=_:=by simpa using ohe
     clear ohe or_ org
     generalize LL[j]=y at *
     go_upto_region 6 with fail
     refine zO (fun W=>Below wr.heap.size wr W) [(0,true),(1,true),(2,true),(3,true),(4,true),(5,true),(6,true),(7,true),(8,true),(9,true),(11,true),(12,true),(13,true),(14,true),(15,true),(16,true),(10,false),(17,false),(18,true),(19,true)] rA rA gI (bR.drew) ?_
     intro wS HS
     simp only [jO,List.getElem?_cons_succ,List.getElem?_cons_zero,List.map_cons,List.map_nil]
     all_goals refine wkR ?_
     all_goals refine wkR ?_
     all_goals (have hg2:=True.intro;first|(refine wkG (fun b hg2=>?_);cases b;all_goals first | exact Bool.noConfusion hg2 | simp only [zU,zV] at hg2 | skip) | refine wkR ?_)
     all_goals refine wkP ?_
     all_goals refine wkR ?_
     all_goals first|(refine kL rfl HS ?_)|(refine jC (v:=?_) rfl (fun W hW=>?_) ?_;rotate_left;(· have A_K0':=cL hW K0';have A_Af':=cL hW Af';have A_Ao:=cL hW Ao;clear hW;go_simp;try with_reducible rfl))
     all_goals refine wkP ?_
     iterate 4
      all_goals refine wkR ?_
     iterate 2
      all_goals first|(refine kL rfl HS ?_)|(refine jC (v:=?_) rfl (fun W hW=>?_) ?_;rotate_left;(· have A_K0':=cL hW K0';have A_Af':=cL hW Af';have A_Ao:=cL hW Ao;clear hW;go_simp;try with_reducible rfl))
      all_goals refine wkP ?_
      all_goals refine wkR ?_
     all_goals refine wkR ?_
     all_goals refine wkR ?_
     all_goals first|(refine kL rfl HS ?_)|(refine jC (v:=?_) rfl (fun W hW=>?_) ?_;rotate_left;(· have A_K0':=cL hW K0';have A_Af':=cL hW Af';have A_Ao:=cL hW Ao;clear hW;go_simp;try with_reducible rfl))
     all_goals refine wkP ?_
     iterate 2
      all_goals first | refine wkB (kNi (Rep.raw.below HL.out.1 ((tQ EB (tQ EQ HS)))) (Rep.raw.below HN.out.1 ((tQ EB (tQ EQ HS))))) (fun wS1 HS=>?_) | refine wkR ?_
     all_goals refine wkR ?_
     all_goals (have hg19:=True.intro;first|(refine wkG (fun b hg19=>?_);cases b;all_goals first | exact Bool.noConfusion hg19 | simp only [zU,zV] at hg19 | skip) | refine wkR ?_)
     all_goals refine wkP ?_
     all_goals refine ko ?_
     all_goals have HBX:=yD (tQ hb2 HS)
     all_goals have hbw:=HBX.out
     all_goals replace Af':=cL HS Af'
     all_goals first
       | (have HV:=yD (show decide (yT l n x < yT l n y)=true by first | exact hg19 | simpa using hg19);have HP2:=yD (HY.out HV.out);clear HY HNO HV hg19;go_wp2;go_roundw;(case rel=>exact ⟨j,by omega,rfl,HP2,HBX.out⟩);(case measure=>simp [intOf];omega))
       | (have HV:=yD (show decide (yT l n x < yT l n y)=false by first | exact hg19 | simpa using hg19);have HPL:=yD (HNO.out HV.out);clear HY HNO HV hg19)
     have HPUT:=yD (HSN.out.trans (kWc (show k=_ by rw [← HM.out];exact HPL.out)))
     have HO3:=yD (HO.out.below hbw)
     generalize wS1=wq at *
     clear HS
     skip
     have HRD:=yD ((HO3.out.own (by have:=HM.out;unfold Big;omega)).rd)
     have HTK:=yD (Rep.kLl HRD.out (k:=k) pY)
     have hLB:LL.length≤16777216:=pY
     go_upto_region 8 with fail
     by_cases hkc2:k < cap
     · rcases Rep.kNk HO3.out with ⟨h1,h2⟩|⟨b,hb⟩
       · exact absurd hkc2 rJ
       first | subst hb|(simp only [Option.some.injEq,Addr.mk.injEq,and_true] at hb;obtain ⟨rfl,rfl⟩:=hb)
       have hck:¬ cap=k:=rJ
       have HDR:=yD (Rep.kQj HRD.out (k:=k) pY)
       rw [Nat.zero_add,show k * Rep.int.n=k from Nat.mul_one k] at HDR
       have FX:=yD (fun (W:World) (hW:Below wq.heap.size wq W)=>cL hW Af')
       refine yj (fun W=>Below wq.heap.size wq W) rA (bR.drew) ?_
       intro wS HS
       refine kY 1 ?_
       refine wkP ?_
       refine kY 2 ?_
       refine wkP ?_
       refine kY 3 ?_
       refine wkP ?_
       refine kY 5 ?_
       refine wkP ?_
       refine kY 6 ?_
       refine wkP ?_
       refine kY 7 ?_
       refine wkP ?_
       refine kY 8 ?_
       refine wkP ?_
       refine kY 11 ?_
       refine wkP ?_
       refine kY 12 ?_
       refine wkP ?_
       refine kY 13 ?_
       refine wkP ?_
       refine yQ (i:=0) (j:=9) rfl rfl rA rfl rfl (fun K hK=>?_) (fun K hK=>?_)
       · have bn0:=HS.size
         go_simp
         generalize hwN:World.alloc wS _=t0
         have bN:Below wS.heap.size wS t0:=mG
         have zN0:=bN.size
         clear hwN
         replace HS:=(tQ HS bN)
         refine hK _ _ HS ?_
         clear hK K bN
         refine wkP ?_
         refine yQ (i:=4) (j:=9) rfl rfl rA rfl rfl (fun K hK=>?_) (fun K hK=>?_)
         · have bn1:=HS.size
           obtain ⟨v1,t1,hr,HV,hbN,zN1⟩:=ja (w:=t0) (v:=.slice (some ⟨wS.heap.size,0,none⟩) 0 0) (xs:=[]) (S:=fun _=>False) (B:=t0.heap.size) Rep.kQ.void (HTK.out.below HS) (fun _ h=>h.elim) nL rC
           refine Rep.kX _ _ _ rfl rO rO hr ?_
           obtain ⟨a1,n1,c1,hv1,HN1⟩:=HV.parts
           obtain rfl:=hv1
           replace HS:=(tQ HS hbN)
           refine hK _ _ HS ?_
           clear hK K hr hbN
           refine wkP ?_
           refine kT (k:=9) rfl rA rfl (fun K hK=>?_)
           have bn2:=HS.size
           go_simp
           have RL:=kAu (w:=t1) (cs:=[.int .i64 x]) (x:=x) (show Rep.int.is true _ [.int .i64 x] x _ from ⟨rfl,frg⟩) trivial
           have bN0:Below t1.heap.size t1 (World.alloc t1 (.cells #[.int .i64 x] 3)):=bR.alloc nL _
           generalize hwN:World.alloc t1 (.cells #[.int .i64 x] 3)=t2 at RL bN0 ⊢
           have zN2:=bN0.size
           have bN:=bN0
           clear hwN bN0
           replace HV:=HV.below bN
           replace HS:=(tQ HS bN)
           refine hK _ _ HS ?_
           clear hK K bN
           refine wkP ?_
           refine kT (k:=10) rfl rA rfl (fun K hK=>?_)
           have bn3:=HS.size
           obtain ⟨v2,t3,hr,HV2,hbN,zN3⟩:=ja (B:=wq.heap.size) HV RL dM HS.size rC
           refine Rep.kX _ _ _ rfl rO rO hr ?_
           obtain ⟨a2,n2,c2,hv2,HN2⟩:=HV2.parts
           obtain rfl:=hv2
           replace HS:=HS.trans hbN
           have HV3:=HV2;clear HV;have HV:=HV3;clear HV2 HV3 RL
           refine hK _ _ HS ?_
           clear hK K hr hbN
           refine wkP ?_
           refine kT (k:=14) rfl rA rfl (fun K hK=>?_)
           have bn4:=HS.size
           obtain ⟨v3,t4,hr,HV2,hbN,zN4⟩:=ja (B:=wq.heap.size) HV (HDR.out.below HS) gP HS.size rC
           refine Rep.kX _ _ _ rfl rO rO hr ?_
           obtain ⟨a3,n3,c3,hv3,HN3⟩:=HV2.parts
           obtain rfl:=hv3
           replace HS:=HS.trans hbN
           have HV3:=HV2;clear HV;have HV:=HV3;clear HV2 HV3
           refine hK _ _ HS ?_
           clear hK K hr hbN
           refine wkP ?_
           refine kY 15 ?_
           refine wkP ?_
           refine jc rA ?_
           have HPQ:=yD (Rep.kQ.cast HV (show _=Srt.sorted (yT l n) (fs.take (i + 1)) from by rw [HPUT.out,List.nil_append]))
           have hzz:=HS.size
           have hzw:=hbw.size
           have HFB:=yD (hbw.trans (HS.mono (hbw.size)))
           clear HV HPUT
           go_wp2
           go_roundw
           case rel=>exact ⟨i + 1,by omega,by go_num,yD (HPQ.out.wide gQ),(tQ hbel HFB.out)⟩
           simp [intOf];omega
         have bn1:=HS.size
         go_simp
         have RL:=kAu (w:=t0) (cs:=[.int .i64 x]) (x:=x) (show Rep.int.is true _ [.int .i64 x] x _ from ⟨rfl,frg⟩) trivial
         have bN0:Below t0.heap.size t0 (World.alloc t0 (.cells #[.int .i64 x] 3)):=bR.alloc nL _
         generalize hwN:World.alloc t0 (.cells #[.int .i64 x] 3)=t1 at RL bN0 ⊢
         have zN1:=bN0.size
         have bN:=bN0
         clear hwN bN0
         replace HS:=(tQ HS bN)
         refine hK _ _ HS ?_
         clear hK K bN
         refine wkP ?_
         refine kT (k:=4) rfl rA rfl (fun K hK=>?_)
         have bn2:=HS.size
         obtain ⟨v1,t2,hr,HV,hbN,zN2⟩:=ja (w:=t1) (v:=.slice (some ⟨wS.heap.size,0,none⟩) 0 0) (xs:=[]) (S:=fun _=>False) (B:=t1.heap.size) Rep.kQ.void (HTK.out.below HS) (fun _ h=>h.elim) nL rC
         refine Rep.kX _ _ _ rfl rO rO hr ?_
         obtain ⟨a1,n1,c1,hv1,HN1⟩:=HV.parts
         obtain rfl:=hv1
         replace RL:=RL.below hbN
         replace HS:=(tQ HS hbN)
         refine hK _ _ HS ?_
         clear hK K hr hbN
         refine wkP ?_
         refine kT (k:=10) rfl rA rfl (fun K hK=>?_)
         have bn3:=HS.size
         obtain ⟨v2,t3,hr,HV2,hbN,zN3⟩:=ja (B:=wq.heap.size) HV RL dM HS.size rC
         refine Rep.kX _ _ _ rfl rO rO hr ?_
         obtain ⟨a2,n2,c2,hv2,HN2⟩:=HV2.parts
         obtain rfl:=hv2
         replace HS:=HS.trans hbN
         have HV3:=HV2;clear HV;have HV:=HV3;clear HV2 HV3 RL
         refine hK _ _ HS ?_
         clear hK K hr hbN
         refine wkP ?_
         refine kT (k:=14) rfl rA rfl (fun K hK=>?_)
         have bn4:=HS.size
         obtain ⟨v3,t4,hr,HV2,hbN,zN4⟩:=ja (B:=wq.heap.size) HV (HDR.out.below HS) gP HS.size rC
         refine Rep.kX _ _ _ rfl rO rO hr ?_
         obtain ⟨a3,n3,c3,hv3,HN3⟩:=HV2.parts
         obtain rfl:=hv3
         replace HS:=HS.trans hbN
         have HV3:=HV2;clear HV;have HV:=HV3;clear HV2 HV3
         refine hK _ _ HS ?_
         clear hK K hr hbN
         refine wkP ?_
         refine kY 15 ?_
         refine wkP ?_
         refine jc rA ?_
         have HPQ:=yD (Rep.kQ.cast HV (show _=Srt.sorted (yT l n) (fs.take (i + 1)) from by rw [HPUT.out,List.nil_append]))
         have hzz:=HS.size
         have hzw:=hbw.size
         have HFB:=yD (hbw.trans (HS.mono (hbw.size)))
         clear HV HPUT
         go_wp2
         go_roundw
         case rel=>exact ⟨i + 1,by omega,by go_num,yD (HPQ.out.wide gQ),(tQ hbel HFB.out)⟩
         simp [intOf];omega
       have bn0:=HS.size
       go_simp
       have RL:=kAu (w:=wS) (cs:=[.int .i64 x]) (x:=x) (show Rep.int.is true _ [.int .i64 x] x _ from ⟨rfl,frg⟩) trivial
       have bN0:Below wS.heap.size wS (World.alloc wS (.cells #[.int .i64 x] 3)):=bR.alloc nL _
       generalize hwN:World.alloc wS (.cells #[.int .i64 x] 3)=t0 at RL bN0 ⊢
       have zN0:=bN0.size
       have bN:=bN0
       clear hwN bN0
       replace HS:=(tQ HS bN)
       refine hK _ _ HS ?_
       clear hK K bN
       refine wkP ?_
       refine kT (k:=0) rfl rA rfl (fun K hK=>?_)
       have bn1:=HS.size
       go_simp
       generalize hwN:World.alloc t0 _=t1
       have bN:Below t0.heap.size t0 t1:=mG
       have zN1:=bN.size
       clear hwN
       replace RL:=RL.below bN
       replace HS:=(tQ HS bN)
       refine hK _ _ HS ?_
       clear hK K bN
       refine wkP ?_
       refine kT (k:=4) rfl rA rfl (fun K hK=>?_)
       have bn2:=HS.size
       obtain ⟨v1,t2,hr,HV,hbN,zN2⟩:=ja (w:=t1) (v:=.slice (some ⟨t0.heap.size,0,none⟩) 0 0) (xs:=[]) (S:=fun _=>False) (B:=t1.heap.size) Rep.kQ.void (HTK.out.below HS) (fun _ h=>h.elim) nL rC
       refine Rep.kX _ _ _ rfl rO rO hr ?_
       obtain ⟨a1,n1,c1,hv1,HN1⟩:=HV.parts
       obtain rfl:=hv1
       replace RL:=RL.below hbN
       replace HS:=(tQ HS hbN)
       refine hK _ _ HS ?_
       clear hK K hr hbN
       refine wkP ?_
       refine kT (k:=10) rfl rA rfl (fun K hK=>?_)
       have bn3:=HS.size
       obtain ⟨v2,t3,hr,HV2,hbN,zN3⟩:=ja (B:=wq.heap.size) HV RL dM HS.size rC
       refine Rep.kX _ _ _ rfl rO rO hr ?_
       obtain ⟨a2,n2,c2,hv2,HN2⟩:=HV2.parts
       obtain rfl:=hv2
       replace HS:=HS.trans hbN
       have HV3:=HV2;clear HV;have HV:=HV3;clear HV2 HV3 RL
       refine hK _ _ HS ?_
       clear hK K hr hbN
       refine wkP ?_
       refine kT (k:=14) rfl rA rfl (fun K hK=>?_)
       have bn4:=HS.size
       obtain ⟨v3,t4,hr,HV2,hbN,zN4⟩:=ja (B:=wq.heap.size) HV (HDR.out.below HS) gP HS.size rC
       refine Rep.kX _ _ _ rfl rO rO hr ?_
       obtain ⟨a3,n3,c3,hv3,HN3⟩:=HV2.parts
       obtain rfl:=hv3
       replace HS:=HS.trans hbN
       have HV3:=HV2;clear HV;have HV:=HV3;clear HV2 HV3
       refine hK _ _ HS ?_
       clear hK K hr hbN
       refine wkP ?_
       refine kY 15 ?_
       refine wkP ?_
       refine jc rA ?_
       have HPQ:=yD (Rep.kQ.cast HV (show _=Srt.sorted (yT l n) (fs.take (i + 1)) from by rw [HPUT.out,List.nil_append]))
       have hzz:=HS.size
       have hzw:=hbw.size
       have HFB:=yD (hbw.trans (HS.mono (hbw.size)))
       clear HV HPUT
       go_wp2
       go_roundw
       case rel=>exact ⟨i + 1,by omega,by go_num,yD (HPQ.out.wide gQ),(tQ hbel HFB.out)⟩
       simp [intOf];omega
     have hck:cap=k:=rJ
     subst hck
     have HDR:=fun (ad:Option Addr)=>yD (show (Rep.slice 3 Rep.int).rd wq [.slice ad 0 0] (LL.drop cap) from by rw [List.drop_eq_nil_of_le pY];exact Rep.kQh pJ)
     have FX:=yD (fun (W:World) (hW:Below wq.heap.size wq W)=>cL hW Af')
     refine yj (fun W=>Below wq.heap.size wq W) rA (bR.drew) ?_
     intro wS HS
     refine kY 1 ?_
     refine wkP ?_
     refine kY 2 ?_
     refine wkP ?_
     refine kY 3 ?_
     refine wkP ?_
     refine kY 5 ?_
     refine wkP ?_
     refine kY 6 ?_
     refine wkP ?_
     refine kY 7 ?_
     refine wkP ?_
     refine kY 8 ?_
     refine wkP ?_
     refine kY 11 ?_
     refine wkP ?_
     refine kY 12 ?_
     refine wkP ?_
     refine kY 13 ?_
     refine wkP ?_
     refine yQ (i:=0) (j:=9) rfl rfl rA rfl rfl (fun K hK=>?_) (fun K hK=>?_)
     · have bn0:=HS.size
       go_simp
       generalize hwN:World.alloc wS _=t0
       have bN:Below wS.heap.size wS t0:=mG
       have zN0:=bN.size
       clear hwN
       replace HS:=(tQ HS bN)
       refine hK _ _ HS ?_
       clear hK K bN
       refine wkP ?_
       refine yQ (i:=4) (j:=9) rfl rfl rA rfl rfl (fun K hK=>?_) (fun K hK=>?_)
       · have bn1:=HS.size
         obtain ⟨v1,t1,hr,HV,hbN,zN1⟩:=ja (w:=t0) (v:=.slice (some ⟨wS.heap.size,0,none⟩) 0 0) (xs:=[]) (S:=fun _=>False) (B:=t0.heap.size) Rep.kQ.void (HTK.out.below HS) (fun _ h=>h.elim) nL rC
         refine Rep.kX _ _ _ rfl rO rO hr ?_
         obtain ⟨a1,n1,c1,hv1,HN1⟩:=HV.parts
         obtain rfl:=hv1
         replace HS:=(tQ HS hbN)
         refine hK _ _ HS ?_
         clear hK K hr hbN
         refine wkP ?_
         refine kT (k:=9) rfl rA rfl (fun K hK=>?_)
         have bn2:=HS.size
         go_simp
         have RL:=kAu (w:=t1) (cs:=[.int .i64 x]) (x:=x) (show Rep.int.is true _ [.int .i64 x] x _ from ⟨rfl,frg⟩) trivial
         have bN0:Below t1.heap.size t1 (World.alloc t1 (.cells #[.int .i64 x] 3)):=bR.alloc nL _
         generalize hwN:World.alloc t1 (.cells #[.int .i64 x] 3)=t2 at RL bN0 ⊢
         have zN2:=bN0.size
         have bN:=bN0
         clear hwN bN0
         replace HV:=HV.below bN
         replace HS:=(tQ HS bN)
         refine hK _ _ HS ?_
         clear hK K bN
         refine wkP ?_
         refine kT (k:=10) rfl rA rfl (fun K hK=>?_)
         have bn3:=HS.size
         obtain ⟨v2,t3,hr,HV2,hbN,zN3⟩:=ja (B:=wq.heap.size) HV RL dM HS.size rC
         refine Rep.kX _ _ _ rfl rO rO hr ?_
         obtain ⟨a2,n2,c2,hv2,HN2⟩:=HV2.parts
         obtain rfl:=hv2
         replace HS:=HS.trans hbN
         have HV3:=HV2;clear HV;have HV:=HV3;clear HV2 HV3 RL
         refine hK _ _ HS ?_
         clear hK K hr hbN
         refine wkP ?_
         refine kT (k:=14) rfl rA rfl (fun K hK=>?_)
         have bn4:=HS.size
         obtain ⟨v3,t4,hr,HV2,hbN,zN4⟩:=ja (B:=wq.heap.size) HV ((HDR _).out.below HS) gP HS.size rC
         refine Rep.kX _ _ _ rfl rO rO hr ?_
         obtain ⟨a3,n3,c3,hv3,HN3⟩:=HV2.parts
         obtain rfl:=hv3
         replace HS:=HS.trans hbN
         have HV3:=HV2;clear HV;have HV:=HV3;clear HV2 HV3
         refine hK _ _ HS ?_
         clear hK K hr hbN
         refine wkP ?_
         refine kY 15 ?_
         refine wkP ?_
         refine jc rA ?_
         have HPQ:=yD (Rep.kQ.cast HV (show _=Srt.sorted (yT l n) (fs.take (i + 1)) from by rw [HPUT.out,List.nil_append]))
         have hzz:=HS.size
         have hzw:=hbw.size
         have HFB:=yD (hbw.trans (HS.mono (hbw.size)))
         clear HV HPUT
         go_wp2
         go_roundw
         case rel=>exact ⟨i + 1,by omega,by go_num,yD (HPQ.out.wide gQ),(tQ hbel HFB.out)⟩
         simp [intOf];omega
       have bn1:=HS.size
       go_simp
       have RL:=kAu (w:=t0) (cs:=[.int .i64 x]) (x:=x) (show Rep.int.is true _ [.int .i64 x] x _ from ⟨rfl,frg⟩) trivial
       have bN0:Below t0.heap.size t0 (World.alloc t0 (.cells #[.int .i64 x] 3)):=bR.alloc nL _
       generalize hwN:World.alloc t0 (.cells #[.int .i64 x] 3)=t1 at RL bN0 ⊢
       have zN1:=bN0.size
       have bN:=bN0
       clear hwN bN0
       replace HS:=(tQ HS bN)
       refine hK _ _ HS ?_
       clear hK K bN
       refine wkP ?_
       refine kT (k:=4) rfl rA rfl (fun K hK=>?_)
       have bn2:=HS.size
       obtain ⟨v1,t2,hr,HV,hbN,zN2⟩:=ja (w:=t1) (v:=.slice (some ⟨wS.heap.size,0,none⟩) 0 0) (xs:=[]) (S:=fun _=>False) (B:=t1.heap.size) Rep.kQ.void (HTK.out.below HS) (fun _ h=>h.elim) nL rC
       refine Rep.kX _ _ _ rfl rO rO hr ?_
       obtain ⟨a1,n1,c1,hv1,HN1⟩:=HV.parts
       obtain rfl:=hv1
       replace RL:=RL.below hbN
       replace HS:=(tQ HS hbN)
       refine hK _ _ HS ?_
       clear hK K hr hbN
       refine wkP ?_
       refine kT (k:=10) rfl rA rfl (fun K hK=>?_)
       have bn3:=HS.size
       obtain ⟨v2,t3,hr,HV2,hbN,zN3⟩:=ja (B:=wq.heap.size) HV RL dM HS.size rC
       refine Rep.kX _ _ _ rfl rO rO hr ?_
       obtain ⟨a2,n2,c2,hv2,HN2⟩:=HV2.parts
       obtain rfl:=hv2
       replace HS:=HS.trans hbN
       have HV3:=HV2;clear HV;have HV:=HV3;clear HV2 HV3 RL
       refine hK _ _ HS ?_
       clear hK K hr hbN
       refine wkP ?_
       refine kT (k:=14) rfl rA rfl (fun K hK=>?_)
       have bn4:=HS.size
       obtain ⟨v3,t4,hr,HV2,hbN,zN4⟩:=ja (B:=wq.heap.size) HV ((HDR _).out.below HS) gP HS.size rC
       refine Rep.kX _ _ _ rfl rO rO hr ?_
       obtain ⟨a3,n3,c3,hv3,HN3⟩:=HV2.parts
       obtain rfl:=hv3
       replace HS:=HS.trans hbN
       have HV3:=HV2;clear HV;have HV:=HV3;clear HV2 HV3
       refine hK _ _ HS ?_
       clear hK K hr hbN
       refine wkP ?_
       refine kY 15 ?_
       refine wkP ?_
       refine jc rA ?_
       have HPQ:=yD (Rep.kQ.cast HV (show _=Srt.sorted (yT l n) (fs.take (i + 1)) from by rw [HPUT.out,List.nil_append]))
       have hzz:=HS.size
       have hzw:=hbw.size
       have HFB:=yD (hbw.trans (HS.mono (hbw.size)))
       clear HV HPUT
       go_wp2
       go_roundw
       case rel=>exact ⟨i + 1,by omega,by go_num,yD (HPQ.out.wide gQ),(tQ hbel HFB.out)⟩
       simp [intOf];omega
     have bn0:=HS.size
     go_simp
     have RL:=kAu (w:=wS) (cs:=[.int .i64 x]) (x:=x) (show Rep.int.is true _ [.int .i64 x] x _ from ⟨rfl,frg⟩) trivial
     have bN0:Below wS.heap.size wS (World.alloc wS (.cells #[.int .i64 x] 3)):=bR.alloc nL _
     generalize hwN:World.alloc wS (.cells #[.int .i64 x] 3)=t0 at RL bN0 ⊢
     have zN0:=bN0.size
     have bN:=bN0
     clear hwN bN0
     replace HS:=(tQ HS bN)
     refine hK _ _ HS ?_
     clear hK K bN
     refine wkP ?_
     refine kT (k:=0) rfl rA rfl (fun K hK=>?_)
     have bn1:=HS.size
     go_simp
     generalize hwN:World.alloc t0 _=t1
     have bN:Below t0.heap.size t0 t1:=mG
     have zN1:=bN.size
     clear hwN
     replace RL:=RL.below bN
     replace HS:=(tQ HS bN)
     refine hK _ _ HS ?_
     clear hK K bN
     refine wkP ?_
     refine kT (k:=4) rfl rA rfl (fun K hK=>?_)
     have bn2:=HS.size
     obtain ⟨v1,t2,hr,HV,hbN,zN2⟩:=ja (w:=t1) (v:=.slice (some ⟨t0.heap.size,0,none⟩) 0 0) (xs:=[]) (S:=fun _=>False) (B:=t1.heap.size) Rep.kQ.void (HTK.out.below HS) (fun _ h=>h.elim) nL rC
     refine Rep.kX _ _ _ rfl rO rO hr ?_
     obtain ⟨a1,n1,c1,hv1,HN1⟩:=HV.parts
     obtain rfl:=hv1
     replace RL:=RL.below hbN
     replace HS:=(tQ HS hbN)
     refine hK _ _ HS ?_
     clear hK K hr hbN
     refine wkP ?_
     refine kT (k:=10) rfl rA rfl (fun K hK=>?_)
     have bn3:=HS.size
     obtain ⟨v2,t3,hr,HV2,hbN,zN3⟩:=ja (B:=wq.heap.size) HV RL dM HS.size rC
     refine Rep.kX _ _ _ rfl rO rO hr ?_
     obtain ⟨a2,n2,c2,hv2,HN2⟩:=HV2.parts
     obtain rfl:=hv2
     replace HS:=HS.trans hbN
     have HV3:=HV2;clear HV;have HV:=HV3;clear HV2 HV3 RL
     refine hK _ _ HS ?_
     clear hK K hr hbN
     refine wkP ?_
     refine kT (k:=14) rfl rA rfl (fun K hK=>?_)
     have bn4:=HS.size
     obtain ⟨v3,t4,hr,HV2,hbN,zN4⟩:=ja (B:=wq.heap.size) HV ((HDR _).out.below HS) gP HS.size rC
     refine Rep.kX _ _ _ rfl rO rO hr ?_
     obtain ⟨a3,n3,c3,hv3,HN3⟩:=HV2.parts
     obtain rfl:=hv3
     replace HS:=HS.trans hbN
     have HV3:=HV2;clear HV;have HV:=HV3;clear HV2 HV3
     refine hK _ _ HS ?_
     clear hK K hr hbN
     refine wkP ?_
     refine kY 15 ?_
     refine wkP ?_
     refine jc rA ?_
     have HPQ:=yD (Rep.kQ.cast HV (show _=Srt.sorted (yT l n) (fs.take (i + 1)) from by rw [HPUT.out,List.nil_append]))
     have hzz:=HS.size
     have hzw:=hbw.size
     have HFB:=yD (hbw.trans (HS.mono (hbw.size)))
     clear HV HPUT
     go_wp2
     go_roundw
     case rel=>exact ⟨i + 1,by omega,by go_num,yD (HPQ.out.wide gQ),(tQ hbel HFB.out)⟩
     simp [intOf];omega
   have hk00:k=0:=rJ
   have hp:decide ((k:Int) > 0)=false:=rC
   have hp3:¬ (0:Int) < k:=rJ
   have HPL:Hid (k=Srt.place (yT l n) m LL x):=yD (by rw [← HP.out,hk00];rfl)
   clear hk00
   go_upto_region 6 with fail
   refine zO (fun W=>Below wr.heap.size wr W) [(0,true),(1,true),(2,true),(3,true),(4,true),(5,true),(6,true),(7,true),(8,true),(9,true),(11,true),(12,true),(13,true),(14,true),(15,true),(16,true),(10,false),(17,false),(18,true),(19,true)] rA rA gI (bR.drew) ?_
   intro wS HS
   simp only [jO,List.getElem?_cons_succ,List.getElem?_cons_zero,List.map_cons,List.map_nil]
   all_goals refine wkR ?_
   all_goals refine wkR ?_
   all_goals (have hg2:=True.intro;first|(refine wkG (fun b hg2=>?_);cases b;all_goals first | exact Bool.noConfusion hg2 | simp only [zU,zV] at hg2 | skip) | refine wkR ?_)
   all_goals refine wkP ?_
   iterate 13
    all_goals refine wkR ?_
   iterate 2
    all_goals first|(refine kL rfl HS ?_)|(fail)
    all_goals refine wkP ?_
   all_goals refine wkR ?_
   all_goals (have hg19:=True.intro;first|(refine wkG (fun b hg19=>?_);cases b;all_goals first | exact Bool.noConfusion hg19 | simp only [zU,zV] at hg19 | skip) | refine wkR ?_)
   all_goals refine wkP ?_
   all_goals refine ko ?_
   all_goals have HBX:=yD (tQ hb2 HS)
   all_goals have hbw:=HBX.out
   all_goals replace Af':=cL HS Af'
   have HPUT:=yD (HSN.out.trans (kWc (show k=_ by rw [← HM.out];exact HPL.out)))
   have HO3:=yD (HO.out.below hbw)
   generalize wS=wq at *
   clear HS
   skip
   have HRD:=yD ((HO3.out.own (by have:=HM.out;unfold Big;omega)).rd)
   have HTK:=yD (Rep.kLl HRD.out (k:=k) pY)
   have hLB:LL.length≤16777216:=pY
   go_upto_region 8 with fail
   by_cases hkc2:k < cap
   · rcases Rep.kNk HO3.out with ⟨h1,h2⟩|⟨b,hb⟩
     · exact absurd hkc2 rJ
     first | subst hb|(simp only [Option.some.injEq,Addr.mk.injEq,and_true] at hb;obtain ⟨rfl,rfl⟩:=hb)
     have hck:¬ cap=k:=rJ
     have HDR:=yD (Rep.kQj HRD.out (k:=k) pY)
     rw [Nat.zero_add,show k * Rep.int.n=k from Nat.mul_one k] at HDR
     have FX:=yD (fun (W:World) (hW:Below wq.heap.size wq W)=>cL hW Af')
     refine yj (fun W=>Below wq.heap.size wq W) rA (bR.drew) ?_
     intro wS HS
     refine kY 1 ?_
     refine wkP ?_
     refine kY 2 ?_
     refine wkP ?_
     refine kY 3 ?_
     refine wkP ?_
     refine kY 5 ?_
     refine wkP ?_
     refine kY 6 ?_
     refine wkP ?_
     refine kY 7 ?_
     refine wkP ?_
     refine kY 8 ?_
     refine wkP ?_
     refine kY 11 ?_
     refine wkP ?_
     refine kY 12 ?_
     refine wkP ?_
     refine kY 13 ?_
     refine wkP ?_
     refine yQ (i:=0) (j:=9) rfl rfl rA rfl rfl (fun K hK=>?_) (fun K hK=>?_)
     · have bn0:=HS.size
       go_simp
       generalize hwN:World.alloc wS _=t0
       have bN:Below wS.heap.size wS t0:=mG
       have zN0:=bN.size
       clear hwN
       replace HS:=(tQ HS bN)
       refine hK _ _ HS ?_
       clear hK K bN
       refine wkP ?_
       refine yQ (i:=4) (j:=9) rfl rfl rA rfl rfl (fun K hK=>?_) (fun K hK=>?_)
       · have bn1:=HS.size
         obtain ⟨v1,t1,hr,HV,hbN,zN1⟩:=ja (w:=t0) (v:=.slice (some ⟨wS.heap.size,0,none⟩) 0 0) (xs:=[]) (S:=fun _=>False) (B:=t0.heap.size) Rep.kQ.void (HTK.out.below HS) (fun _ h=>h.elim) nL rC
         refine Rep.kX _ _ _ rfl rO rO hr ?_
         obtain ⟨a1,n1,c1,hv1,HN1⟩:=HV.parts
         obtain rfl:=hv1
         replace HS:=(tQ HS hbN)
         refine hK _ _ HS ?_
         clear hK K hr hbN
         refine wkP ?_
         refine kT (k:=9) rfl rA rfl (fun K hK=>?_)
         have bn2:=HS.size
         go_simp
         have RL:=kAu (w:=t1) (cs:=[.int .i64 x]) (x:=x) (show Rep.int.is true _ [.int .i64 x] x _ from ⟨rfl,frg⟩) trivial
         have bN0:Below t1.heap.size t1 (World.alloc t1 (.cells #[.int .i64 x] 3)):=bR.alloc nL _
         generalize hwN:World.alloc t1 (.cells #[.int .i64 x] 3)=t2 at RL bN0 ⊢
         have zN2:=bN0.size
         have bN:=bN0
         clear hwN bN0
         replace HV:=HV.below bN
         replace HS:=(tQ HS bN)
         refine hK _ _ HS ?_
         clear hK K bN
         refine wkP ?_
         refine kT (k:=10) rfl rA rfl (fun K hK=>?_)
         have bn3:=HS.size
         obtain ⟨v2,t3,hr,HV2,hbN,zN3⟩:=ja (B:=wq.heap.size) HV RL dM HS.size rC
         refine Rep.kX _ _ _ rfl rO rO hr ?_
         obtain ⟨a2,n2,c2,hv2,HN2⟩:=HV2.parts
         obtain rfl:=hv2
         replace HS:=HS.trans hbN
         have HV3:=HV2;clear HV;have HV:=HV3;clear HV2 HV3 RL
         refine hK _ _ HS ?_
         clear hK K hr hbN
         refine wkP ?_
         refine kT (k:=14) rfl rA rfl (fun K hK=>?_)
         have bn4:=HS.size
         obtain ⟨v3,t4,hr,HV2,hbN,zN4⟩:=ja (B:=wq.heap.size) HV (HDR.out.below HS) gP HS.size rC
         refine Rep.kX _ _ _ rfl rO rO hr ?_
         obtain ⟨a3,n3,c3,hv3,HN3⟩:=HV2.parts
         obtain rfl:=hv3
         replace HS:=HS.trans hbN
         have HV3:=HV2;clear HV;have HV:=HV3;clear HV2 HV3
         refine hK _ _ HS ?_
         clear hK K hr hbN
         refine wkP ?_
         refine kY 15 ?_
         refine wkP ?_
         refine jc rA ?_
         have HPQ:=yD (Rep.kQ.cast HV (show _=Srt.sorted (yT l n) (fs.take (i + 1)) from by rw [HPUT.out,List.nil_append]))
         have hzz:=HS.size
         have hzw:=hbw.size
         have HFB:=yD (hbw.trans (HS.mono (hbw.size)))
         clear HV HPUT
         go_wp2
         go_roundw
         case rel=>exact ⟨i + 1,by omega,by go_num,yD (HPQ.out.wide gQ),(tQ hbel HFB.out)⟩
         simp [intOf];omega
       have bn1:=HS.size
       go_simp
       have RL:=kAu (w:=t0) (cs:=[.int .i64 x]) (x:=x) (show Rep.int.is true _ [.int .i64 x] x _ from ⟨rfl,frg⟩) trivial
       have bN0:Below t0.heap.size t0 (World.alloc t0 (.cells #[.int .i64 x] 3)):=bR.alloc nL _
       generalize hwN:World.alloc t0 (.cells #[.int .i64 x] 3)=t1 at RL bN0 ⊢
       have zN1:=bN0.size
       have bN:=bN0
       clear hwN bN0
       replace HS:=(tQ HS bN)
       refine hK _ _ HS ?_
       clear hK K bN
       refine wkP ?_
       refine kT (k:=4) rfl rA rfl (fun K hK=>?_)
       have bn2:=HS.size
       obtain ⟨v1,t2,hr,HV,hbN,zN2⟩:=ja (w:=t1) (v:=.slice (some ⟨wS.heap.size,0,none⟩) 0 0) (xs:=[]) (S:=fun _=>False) (B:=t1.heap.size) Rep.kQ.void (HTK.out.below HS) (fun _ h=>h.elim) nL rC
       refine Rep.kX _ _ _ rfl rO rO hr ?_
       obtain ⟨a1,n1,c1,hv1,HN1⟩:=HV.parts
       obtain rfl:=hv1
       replace RL:=RL.below hbN
       replace HS:=(tQ HS hbN)
       refine hK _ _ HS ?_
       clear hK K hr hbN
       refine wkP ?_
       refine kT (k:=10) rfl rA rfl (fun K hK=>?_)
       have bn3:=HS.size
       obtain ⟨v2,t3,hr,HV2,hbN,zN3⟩:=ja (B:=wq.heap.size) HV RL dM HS.size rC
       refine Rep.kX _ _ _ rfl rO rO hr ?_
       obtain ⟨a2,n2,c2,hv2,HN2⟩:=HV2.parts
       obtain rfl:=hv2
       replace HS:=HS.trans hbN
       have HV3:=HV2;clear HV;have HV:=HV3;clear HV2 HV3 RL
       refine hK _ _ HS ?_
       clear hK K hr hbN
       refine wkP ?_
       refine kT (k:=14) rfl rA rfl (fun K hK=>?_)
       have bn4:=HS.size
       obtain ⟨v3,t4,hr,HV2,hbN,zN4⟩:=ja (B:=wq.heap.size) HV (HDR.out.below HS) gP HS.size rC
       refine Rep.kX _ _ _ rfl rO rO hr ?_
       obtain ⟨a3,n3,c3,hv3,HN3⟩:=HV2.parts
       obtain rfl:=hv3
       replace HS:=HS.trans hbN
       have HV3:=HV2;clear HV;have HV:=HV3;clear HV2 HV3
       refine hK _ _ HS ?_
       clear hK K hr hbN
       refine wkP ?_
       refine kY 15 ?_
       refine wkP ?_
       refine jc rA ?_
       have HPQ:=yD (Rep.kQ.cast HV (show _=Srt.sorted (yT l n) (fs.take (i + 1)) from by rw [HPUT.out,List.nil_append]))
       have hzz:=HS.size
       have hzw:=hbw.size
       have HFB:=yD (hbw.trans (HS.mono (hbw.size)))
       clear HV HPUT
       go_wp2
       go_roundw
       case rel=>exact ⟨i + 1,by omega,by go_num,yD (HPQ.out.wide gQ),(tQ hbel HFB.out)⟩
       simp [intOf];omega
     have bn0:=HS.size
     go_simp
     have RL:=kAu (w:=wS) (cs:=[.int .i64 x]) (x:=x) (show Rep.int.is true _ [.int .i64 x] x _ from ⟨rfl,frg⟩) trivial
     have bN0:Below wS.heap.size wS (World.alloc wS (.cells #[.int .i64 x] 3)):=bR.alloc nL _
     generalize hwN:World.alloc wS (.cells #[.int .i64 x] 3)=t0 at RL bN0 ⊢
     have zN0:=bN0.size
     have bN:=bN0
     clear hwN bN0
     replace HS:=(tQ HS bN)
     refine hK _ _ HS ?_
     clear hK K bN
     refine wkP ?_
     refine kT (k:=0) rfl rA rfl (fun K hK=>?_)
     have bn1:=HS.size
     go_simp
     generalize hwN:World.alloc t0 _=t1
     have bN:Below t0.heap.size t0 t1:=mG
     have zN1:=bN.size
     clear hwN
     replace RL:=RL.below bN
     replace HS:=(tQ HS bN)
     refine hK _ _ HS ?_
     clear hK K bN
     refine wkP ?_
     refine kT (k:=4) rfl rA rfl (fun K hK=>?_)
     have bn2:=HS.size
     obtain ⟨v1,t2,hr,HV,hbN,zN2⟩:=ja (w:=t1) (v:=.slice (some ⟨t0.heap.size,0,none⟩) 0 0) (xs:=[]) (S:=fun _=>False) (B:=t1.heap.size) Rep.kQ.void (HTK.out.below HS) (fun _ h=>h.elim) nL rC
     refine Rep.kX _ _ _ rfl rO rO hr ?_
     obtain ⟨a1,n1,c1,hv1,HN1⟩:=HV.parts
     obtain rfl:=hv1
     replace RL:=RL.below hbN
     replace HS:=(tQ HS hbN)
     refine hK _ _ HS ?_
     clear hK K hr hbN
     refine wkP ?_
     refine kT (k:=10) rfl rA rfl (fun K hK=>?_)
     have bn3:=HS.size
     obtain ⟨v2,t3,hr,HV2,hbN,zN3⟩:=ja (B:=wq.heap.size) HV RL dM HS.size rC
     refine Rep.kX _ _ _ rfl rO rO hr ?_
     obtain ⟨a2,n2,c2,hv2,HN2⟩:=HV2.parts
     obtain rfl:=hv2
     replace HS:=HS.trans hbN
     have HV3:=HV2;clear HV;have HV:=HV3;clear HV2 HV3 RL
     refine hK _ _ HS ?_
     clear hK K hr hbN
     refine wkP ?_
     refine kT (k:=14) rfl rA rfl (fun K hK=>?_)
     have bn4:=HS.size
     obtain ⟨v3,t4,hr,HV2,hbN,zN4⟩:=ja (B:=wq.heap.size) HV (HDR.out.below HS) gP HS.size rC
     refine Rep.kX _ _ _ rfl rO rO hr ?_
     obtain ⟨a3,n3,c3,hv3,HN3⟩:=HV2.parts
     obtain rfl:=hv3
     replace HS:=HS.trans hbN
     have HV3:=HV2;clear HV;have HV:=HV3;clear HV2 HV3
     refine hK _ _ HS ?_
     clear hK K hr hbN
     refine wkP ?_
     refine kY 15 ?_
     refine wkP ?_
     refine jc rA ?_
     have HPQ:=yD (Rep.kQ.cast HV (show _=Srt.sorted (yT l n) (fs.take (i + 1)) from by rw [HPUT.out,List.nil_append]))
     have hzz:=HS.size
     have hzw:=hbw.size
     have HFB:=yD (hbw.trans (HS.mono (hbw.size)))
     clear HV HPUT
     go_wp2
     go_roundw
     case rel=>exact ⟨i + 1,by omega,by go_num,yD (HPQ.out.wide gQ),(tQ hbel HFB.out)⟩
     simp [intOf];omega
   have hck:cap=k:=rJ
   subst hck
   have HDR:=fun (ad:Option Addr)=>yD (show (Rep.slice 3 Rep.int).rd wq [.slice ad 0 0] (LL.drop cap) from by rw [List.drop_eq_nil_of_le pY];exact Rep.kQh pJ)
   have FX:=yD (fun (W:World) (hW:Below wq.heap.size wq W)=>cL hW Af')
   refine yj (fun W=>Below wq.heap.size wq W) rA (bR.drew) ?_
   intro wS HS
   refine kY 1 ?_
   refine wkP ?_
   refine kY 2 ?_
   refine wkP ?_
   refine kY 3 ?_
   refine wkP ?_
   refine kY 5 ?_
   refine wkP ?_
   refine kY 6 ?_
   refine wkP ?_
   refine kY 7 ?_
   refine wkP ?_
   refine kY 8 ?_
   refine wkP ?_
   refine kY 11 ?_
   refine wkP ?_
   refine kY 12 ?_
   refine wkP ?_
   refine kY 13 ?_
   refine wkP ?_
   refine yQ (i:=0) (j:=9) rfl rfl rA rfl rfl (fun K hK=>?_) (fun K hK=>?_)
   · have bn0:=HS.size
     go_simp
     generalize hwN:World.alloc wS _=t0
     have bN:Below wS.heap.size wS t0:=mG
     have zN0:=bN.size
     clear hwN
     replace HS:=(tQ HS bN)
     refine hK _ _ HS ?_
     clear hK K bN
     refine wkP ?_
     refine yQ (i:=4) (j:=9) rfl rfl rA rfl rfl (fun K hK=>?_) (fun K hK=>?_)
     · have bn1:=HS.size
       obtain ⟨v1,t1,hr,HV,hbN,zN1⟩:=ja (w:=t0) (v:=.slice (some ⟨wS.heap.size,0,none⟩) 0 0) (xs:=[]) (S:=fun _=>False) (B:=t0.heap.size) Rep.kQ.void (HTK.out.below HS) (fun _ h=>h.elim) nL rC
       refine Rep.kX _ _ _ rfl rO rO hr ?_
       obtain ⟨a1,n1,c1,hv1,HN1⟩:=HV.parts
       obtain rfl:=hv1
       replace HS:=(tQ HS hbN)
       refine hK _ _ HS ?_
       clear hK K hr hbN
       refine wkP ?_
       refine kT (k:=9) rfl rA rfl (fun K hK=>?_)
       have bn2:=HS.size
       go_simp
       have RL:=kAu (w:=t1) (cs:=[.int .i64 x]) (x:=x) (show Rep.int.is true _ [.int .i64 x] x _ from ⟨rfl,frg⟩) trivial
       have bN0:Below t1.heap.size t1 (World.alloc t1 (.cells #[.int .i64 x] 3)):=bR.alloc nL _
       generalize hwN:World.alloc t1 (.cells #[.int .i64 x] 3)=t2 at RL bN0 ⊢
       have zN2:=bN0.size
       have bN:=bN0
       clear hwN bN0
       replace HV:=HV.below bN
       replace HS:=(tQ HS bN)
       refine hK _ _ HS ?_
       clear hK K bN
       refine wkP ?_
       refine kT (k:=10) rfl rA rfl (fun K hK=>?_)
       have bn3:=HS.size
       obtain ⟨v2,t3,hr,HV2,hbN,zN3⟩:=ja (B:=wq.heap.size) HV RL dM HS.size rC
       refine Rep.kX _ _ _ rfl rO rO hr ?_
       obtain ⟨a2,n2,c2,hv2,HN2⟩:=HV2.parts
       obtain rfl:=hv2
       replace HS:=HS.trans hbN
       have HV3:=HV2;clear HV;have HV:=HV3;clear HV2 HV3 RL
       refine hK _ _ HS ?_
       clear hK K hr hbN
       refine wkP ?_
       refine kT (k:=14) rfl rA rfl (fun K hK=>?_)
       have bn4:=HS.size
       obtain ⟨v3,t4,hr,HV2,hbN,zN4⟩:=ja (B:=wq.heap.size) HV ((HDR _).out.below HS) gP HS.size rC
       refine Rep.kX _ _ _ rfl rO rO hr ?_
       obtain ⟨a3,n3,c3,hv3,HN3⟩:=HV2.parts
       obtain rfl:=hv3
       replace HS:=HS.trans hbN
       have HV3:=HV2;clear HV;have HV:=HV3;clear HV2 HV3
       refine hK _ _ HS ?_
       clear hK K hr hbN
       refine wkP ?_
       refine kY 15 ?_
       refine wkP ?_
       refine jc rA ?_
       have HPQ:=yD (Rep.kQ.cast HV (show _=Srt.sorted (yT l n) (fs.take (i + 1)) from by rw [HPUT.out,List.nil_append]))
       have hzz:=HS.size
       have hzw:=hbw.size
       have HFB:=yD (hbw.trans (HS.mono (hbw.size)))
       clear HV HPUT
       go_wp2
       go_roundw
       case rel=>exact ⟨i + 1,by omega,by go_num,yD (HPQ.out.wide gQ),(tQ hbel HFB.out)⟩
       simp [intOf];omega
     have bn1:=HS.size
     go_simp
     have RL:=kAu (w:=t0) (cs:=[.int .i64 x]) (x:=x) (show Rep.int.is true _ [.int .i64 x] x _ from ⟨rfl,frg⟩) trivial
     have bN0:Below t0.heap.size t0 (World.alloc t0 (.cells #[.int .i64 x] 3)):=bR.alloc nL _
     generalize hwN:World.alloc t0 (.cells #[.int .i64 x] 3)=t1 at RL bN0 ⊢
     have zN1:=bN0.size
     have bN:=bN0
     clear hwN bN0
     replace HS:=(tQ HS bN)
     refine hK _ _ HS ?_
     clear hK K bN
     refine wkP ?_
     refine kT (k:=4) rfl rA rfl (fun K hK=>?_)
     have bn2:=HS.size
     obtain ⟨v1,t2,hr,HV,hbN,zN2⟩:=ja (w:=t1) (v:=.slice (some ⟨wS.heap.size,0,none⟩) 0 0) (xs:=[]) (S:=fun _=>False) (B:=t1.heap.size) Rep.kQ.void (HTK.out.below HS) (fun _ h=>h.elim) nL rC
     refine Rep.kX _ _ _ rfl rO rO hr ?_
     obtain ⟨a1,n1,c1,hv1,HN1⟩:=HV.parts
     obtain rfl:=hv1
     replace RL:=RL.below hbN
     replace HS:=(tQ HS hbN)
     refine hK _ _ HS ?_
     clear hK K hr hbN
     refine wkP ?_
     refine kT (k:=10) rfl rA rfl (fun K hK=>?_)
     have bn3:=HS.size
     obtain ⟨v2,t3,hr,HV2,hbN,zN3⟩:=ja (B:=wq.heap.size) HV RL dM HS.size rC
     refine Rep.kX _ _ _ rfl rO rO hr ?_
     obtain ⟨a2,n2,c2,hv2,HN2⟩:=HV2.parts
     obtain rfl:=hv2
     replace HS:=HS.trans hbN
     have HV3:=HV2;clear HV;have HV:=HV3;clear HV2 HV3 RL
     refine hK _ _ HS ?_
     clear hK K hr hbN
     refine wkP ?_
     refine kT (k:=14) rfl rA rfl (fun K hK=>?_)
     have bn4:=HS.size
     obtain ⟨v3,t4,hr,HV2,hbN,zN4⟩:=ja (B:=wq.heap.size) HV ((HDR _).out.below HS) gP HS.size rC
     refine Rep.kX _ _ _ rfl rO rO hr ?_
     obtain ⟨a3,n3,c3,hv3,HN3⟩:=HV2.parts
     obtain rfl:=hv3
     replace HS:=HS.trans hbN
     have HV3:=HV2;clear HV;have HV:=HV3;clear HV2 HV3
     refine hK _ _ HS ?_
     clear hK K hr hbN
     refine wkP ?_
     refine kY 15 ?_
     refine wkP ?_
     refine jc rA ?_
     have HPQ:=yD (Rep.kQ.cast HV (show _=Srt.sorted (yT l n) (fs.take (i + 1)) from by rw [HPUT.out,List.nil_append]))
     have hzz:=HS.size
     have hzw:=hbw.size
     have HFB:=yD (hbw.trans (HS.mono (hbw.size)))
     clear HV HPUT
     go_wp2
     go_roundw
     case rel=>exact ⟨i + 1,by omega,by go_num,yD (HPQ.out.wide gQ),(tQ hbel HFB.out)⟩
     simp [intOf];omega
   have bn0:=HS.size
   go_simp
   have RL:=kAu (w:=wS) (cs:=[.int .i64 x]) (x:=x) (show Rep.int.is true _ [.int .i64 x] x _ from ⟨rfl,frg⟩) trivial
   have bN0:Below wS.heap.size wS (World.alloc wS (.cells #[.int .i64 x] 3)):=bR.alloc nL _
   generalize hwN:World.alloc wS (.cells #[.int .i64 x] 3)=t0 at RL bN0 ⊢
   have zN0:=bN0.size
   have bN:=bN0
   clear hwN bN0
   replace HS:=(tQ HS bN)
   refine hK _ _ HS ?_
   clear hK K bN
   refine wkP ?_
   refine kT (k:=0) rfl rA rfl (fun K hK=>?_)
   have bn1:=HS.size
   go_simp
   generalize hwN:World.alloc t0 _=t1
   have bN:Below t0.heap.size t0 t1:=mG
   have zN1:=bN.size
   clear hwN
   replace RL:=RL.below bN
   replace HS:=(tQ HS bN)
   refine hK _ _ HS ?_
   clear hK K bN
   refine wkP ?_
   refine kT (k:=4) rfl rA rfl (fun K hK=>?_)
   have bn2:=HS.size
   obtain ⟨v1,t2,hr,HV,hbN,zN2⟩:=ja (w:=t1) (v:=.slice (some ⟨t0.heap.size,0,none⟩) 0 0) (xs:=[]) (S:=fun _=>False) (B:=t1.heap.size) Rep.kQ.void (HTK.out.below HS) (fun _ h=>h.elim) nL rC
   refine Rep.kX _ _ _ rfl rO rO hr ?_
   obtain ⟨a1,n1,c1,hv1,HN1⟩:=HV.parts
   obtain rfl:=hv1
   replace RL:=RL.below hbN
   replace HS:=(tQ HS hbN)
   refine hK _ _ HS ?_
   clear hK K hr hbN
   refine wkP ?_
   refine kT (k:=10) rfl rA rfl (fun K hK=>?_)
   have bn3:=HS.size
   obtain ⟨v2,t3,hr,HV2,hbN,zN3⟩:=ja (B:=wq.heap.size) HV RL dM HS.size rC
   refine Rep.kX _ _ _ rfl rO rO hr ?_
   obtain ⟨a2,n2,c2,hv2,HN2⟩:=HV2.parts
   obtain rfl:=hv2
   replace HS:=HS.trans hbN
   have HV3:=HV2;clear HV;have HV:=HV3;clear HV2 HV3 RL
   refine hK _ _ HS ?_
   clear hK K hr hbN
   refine wkP ?_
   refine kT (k:=14) rfl rA rfl (fun K hK=>?_)
   have bn4:=HS.size
   obtain ⟨v3,t4,hr,HV2,hbN,zN4⟩:=ja (B:=wq.heap.size) HV ((HDR _).out.below HS) gP HS.size rC
   refine Rep.kX _ _ _ rfl rO rO hr ?_
   obtain ⟨a3,n3,c3,hv3,HN3⟩:=HV2.parts
   obtain rfl:=hv3
   replace HS:=HS.trans hbN
   have HV3:=HV2;clear HV;have HV:=HV3;clear HV2 HV3
   refine hK _ _ HS ?_
   clear hK K hr hbN
   refine wkP ?_
   refine kY 15 ?_
   refine wkP ?_
   refine jc rA ?_
   have HPQ:=yD (Rep.kQ.cast HV (show _=Srt.sorted (yT l n) (fs.take (i + 1)) from by rw [HPUT.out,List.nil_append]))
   have hzz:=HS.size
   have hzw:=hbw.size
   have HFB:=yD (hbw.trans (HS.mono (hbw.size)))
   clear HV HPUT
   go_wp2
   go_roundw
   case rel=>exact ⟨i + 1,by omega,by go_num,yD (HPQ.out.wide gQ),(tQ hbel HFB.out)⟩
   simp [intOf];omega
 obtain rfl:i=fs.length:=rJ
 have hz2:=HO.out
 rw [List.take_length] at hz2
 have HO2:=yD hz2;clear hz2
 go_wp2
 go_ret
 exact ⟨_,rfl,HO2.out.own (by show (kGz l n fs).length≤Big;rw [kIu];unfold Big;omega),(tQ EB hbel)⟩
end Go.Proofs.YtomdenfcfbkfbaaGreat
