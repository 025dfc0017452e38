/-
  Faces in order of their failures.
-/
import Derived.Test.YtomdenfcfbkfbaaGreatBase
import Derived.Test.YtomdenfcfbkfbaaGreatSortC
import Derived.Test.YtomdenfcfbkfbaaGreatMeas
import Derived.Test.YtomdenfcfbkfbaaGreatClone
import Derived.Test.YtomdenfcfbkfbaaGreatSoft2
import Derived.Test.YtomdenfcfbkfbaaGreatTake
import Derived.Test.YtomdenfcfbkfbaaGreatSeen
import Derived.Test.YtomdenfcfbkfbaaGreatTake2
import Derived.IntWalk
import Derived.Deep.Cut
import Derived.WalkSpells
import Derived.WalkLawsBesides
namespace Go.Proofs.YtomdenfcfbkfbaaGreat
open Go.RowKit
set_option linter.unusedVariables false
set_option linter.unusedSimpArgs false
set_option linter.unnecessarySimpa false
set_option maxRecDepth 100000 in
set_option maxHeartbeats 1000000 in
theorem Clone_int_0 {w:World} {va:Value} {x:List Int} (ha:(Rep.slice 3 Rep.int).rd w [va] x):Calls Tryz.prog 204 #[va] w (Made0 3 Rep.int x w):=by
 obtain ⟨aa,capa,hva,la⟩:=Rep.kR ha.1;obtain rfl:va=_:=by simpa using hva
 clear hva
 have HA:=hD ha
 have hnil:=fun (W:World) (a:Option Addr) (n c:Nat)=>Lib.run_eql_slice_nil (P:=Tryz.prog) W 84 3 a n c 0 0 Tryz.underlying84
 cases aa with
 | none =>
   have hx:x=[]:=by
     cases x with
     | nil=>rfl
     | cons y ys =>
       obtain ⟨b,off,h,_⟩:=Rep.get_raw ha.1 (i:=0) (by simp)
       cases h
   subst hx
   clear ha
   go_enter Tryz.func204,Tryz.ntmps204
   go_wp2
   go_ret
   exact ⟨_,rfl,Rep.own0.void,Below.refl _ _⟩
 | some a =>
   have hb:x.length≤16777216:=ha.2.1
   clear ha
   go_enter Tryz.func204,Tryz.ntmps204
   have O0:Rep.own0 3 Rep.int (w.alloc (.cells #[] 3)) (.slice (some ⟨w.heap.size,0,none⟩) 0 0) [] (fun k=>k=w.heap.size):=Rep.own0_lit (cs:=[]) (xs:=[]) (T:=fun _=>False) (by simp) (by simp) rfl (fun _ h=>h.elim) rfl
   go_wp2_with (at_builtin;refine Rep.wpList_pushN rfl _ _ 84 rfl (r:=Rep.int) (e:=3) Tryz.underlying84 infInt rfl (by decide) (by decide) flatint (B:=w.heap.size) O0 (by rfl) (by rfl) (HA.out.alloc _) (fun k hk=>⟨by omega,by simp;omega⟩) (by simp) (by simp;omega) ?_)
   intro v2 w2 hown hbel hz
   have HO:=hD hown
   obtain ⟨a2,c2,hv⟩:=hown.none_iff
   obtain rfl:=hv
   have EG:Below w.heap.size w w2:=Below.trans (by repeat (first|(with_reducible exact Below.refl _ _) | refine Below.alloc ?_ (by simp;try omega) _ | refine Below.drew ?_ | refine Below.setCell ?_ (by simp;try omega) _)) hbel
   clear hown O0 hbel
   go_wp2
   go_ret
   exact ⟨_,rfl,Rep.own0.cast HO.out (by simp),EG⟩
def rankF (l:List kQ) (n:LName) (fs:List Int):List Int:=Srt.sorted (failOf l n) fs
theorem rankF_len (l:List kQ) (n:LName) (fs:List Int):(rankF l n fs).length=fs.length:=by
 unfold rankF;rw [← Srt.stable_eq,Srt.stable_length]
theorem cmpI_lt {a b:Int}:decide (cmpI a b < 0)=decide (a < b):=by
 unfold cmpI
 by_cases h:a < b
 · rw [if_pos h];simp [h]
 rw [if_neg h]
 by_cases h2:b < a
 · rw [if_pos h2];simp [h]
 rw [if_neg h2];simp [h]
theorem sorted_snoc {α:Type} {key:α→Int} {l:List α} {k:Nat} (h:k < l.length):Srt.sorted key (l.take (k + 1))=Srt.put key (Srt.sorted key (l.take k)) l[k]:=by
 unfold Srt.sorted;rw [List.take_succ_eq_append_getElem h,List.foldl_append];rfl
theorem sorted_len {α:Type} {key:α→Int} {l:List α}:(Srt.sorted key l).length=l.length:=by rw [← Srt.stable_eq,Srt.stable_length]
theorem place_next {α:Type} {key:α→Int} {l:List α} {x:α} {k j:Nat} (hj:j + 1=k) (hl:j < l.length) (h:decide (key x < key l[j])=true):Srt.place key k l x=Srt.place key j l x:=by
 subst hj;rw [Srt.place,if_pos (by rw [Srt.kAt_get hl];exact of_decide_eq_true h)]
theorem place_stop {α:Type} {key:α→Int} {l:List α} {x:α} {k j:Nat} (hj:j + 1=k) (hl:j < l.length) (h:decide (key x < key l[j])=false):Srt.place key k l x=k:=by
 subst hj;rw [Srt.place,if_neg (by rw [Srt.kAt_get hl];exact of_decide_eq_false h)]
theorem put_at {α:Type} {key:α→Int} {l:List α} {x:α} {k:Nat} (h:k=Srt.place key l.length l x):Srt.put key l x=l.take k++[x]++l.drop k:=by subst h;rfl
namespace Rep
theorem own0_form {α:Type} {r:Rep α} {e:TypeId} {w:World} {a:Option Addr} {n cap:Nat} {xs:List α} {S:Nat→Prop} (h:own0 e r w (.slice a n cap) xs S):(n=0∧cap=0)∨∃ b,a=some ⟨b,0,none⟩:=by
 rcases h.2 with ⟨⟨a',h0⟩,_⟩|⟨b,cap',cur,cs,tl,h0,_⟩
 · simp only [Value.slice.injEq] at h0;exact .inl ⟨h0.2.1,h0.2.2⟩
 simp only [Value.slice.injEq] at h0;exact .inr ⟨b,h0.1⟩
theorem void_rd {α:Type} {r:Rep α} {e:TypeId} {w:World} {a:Option Addr} {c:Nat} (hc:c≤maxLen):(slice e r).rd w [.slice a 0 c] []:=⟨void_raw hc,Nat.zero_le _,by simp⟩
theorem drop_rd {α:Type} {r:Rep α} {e:TypeId} {w:World} {b len cap k:Nat} {xs:List α} (h:(slice e r).rd w [.slice (some ⟨b,0,none⟩) len cap] xs) (hk:k≤xs.length):(slice e r).rd w [.slice (some ⟨b,0 + k * r.n,none⟩) (len - k) (cap - k)] (xs.drop k) :=
  ⟨drop_raw h.1 hk,by have:=h.2.1;simp;omega,fun x hx=>h.2.2 x (List.mem_of_mem_drop hx)⟩
end Rep
set_option maxRecDepth 100000 in
set_option maxHeartbeats 1000000 in
theorem implRankFaces1_c {w:World} {a b:Int} {l:List kQ} {n:LName} {lv nv:Value} {B1 B2:Nat} (hl:(Rep.slice 166 kI).raw w [lv] l) (hn:RName.raw w [nv] n) (A0:w.cell? ⟨B1,0,none⟩=some lv) (A1:w.cell? ⟨B2,0,none⟩=some nv) :
    Calls Tryz.prog 206 (#[.int .i64 a,.int .i64 b]++#[.pointer (some ⟨B1,0,none⟩),.pointer (some ⟨B2,0,none⟩)]) w fun e w'=>e=.returned (.int .i64 (cmpI (failOf l n a) (failOf l n b)))∧Below w.heap.size w w':=by
 have HL:=hD hl
 have HN:=hD hn
 obtain ⟨nv0,hnv0,n_0⟩:=RName_raw hn
 obtain rfl:nv=nv0:=by simpa using hnv0
 obtain ⟨na,np,hnv,_⟩:=Rep.kR n_0;obtain rfl:nv=_:=by simpa using hnv
 obtain ⟨la,lp,hlv,_⟩:=Rep.kR hl;obtain rfl:lv=_:=by simpa using hlv
 clear hnv hlv n_0 hl hn hnv0
 show Calls Tryz.prog 206 #[_,_,_,_] w _
 go_enter Tryz.func206,Tryz.ntmps206
 go_upto_region 1 with fail
 refine wp_region_softP (fun W=>Below w.heap.size w W) [(0,true),(1,true),(2,true),(4,true),(5,true),(6,true),(3,false),(7,false),(8,false),(9,true)] (by kernel_rfl) (by kernel_rfl) (fun c a d v w h=>by cases d <;> exact h) ((Below.refl _ _).drew) ?_
 intro wS HS
 simp only [pickOps,List.getElem?_cons_succ,List.getElem?_cons_zero,List.map_cons,List.map_nil]
 iterate 2
  all_goals first|(refine kC rfl HS ?_)|(refine kD (v:=?_) rfl (fun W hW=>?_) ?_;rotate_left;(· have A_A0:=cL hW A0;have A_A1:=cL hW A1;clear hW;go_simp;try with_reducible rfl))
  all_goals try simp only [Act.put,zA,zB,zC]
  all_goals first|(refine kC rfl HS ?_)|(refine kD (v:=?_) rfl (fun W hW=>?_) ?_;rotate_left;(· have A_A0:=cL hW A0;have A_A1:=cL hW A1;clear hW;go_simp;try with_reducible rfl))
  all_goals try simp only [Act.put,zA,zB,zC]
  all_goals first|(refine kC rfl HS ?_)|(refine kD (v:=?_) rfl (fun W hW=>?_) ?_;rotate_left;(· go_simp;try with_reducible rfl))
  all_goals try simp only [Act.put,zA,zB,zC]
 iterate 2
  all_goals first|(refine kC rfl HS ?_)|(refine kF rfl (fun K hK=>?_);go_simp;refine (implFailuresOf_w (Rep.raw.below HL.out HS) (Rep.raw.below HN.out HS)).mono ?_;rintro e wS1 ⟨rfl,hbS⟩;replace HS:=HS.trans (hbS.mono HS.size);refine hK _ _ HS ?_;clear hK K hbS)
  all_goals try simp only [Act.put,zA,zB,zC]
 all_goals first|(refine kC rfl HS ?_)|(refine kF rfl (fun K hK=>?_);go_simp;refine (cmpCompare_c).mono ?_;rintro e wS1 ⟨rfl,hwS⟩;obtain rfl:=hwS.symm;refine hK _ _ HS ?_;clear hK K)
 all_goals try simp only [Act.put,zA,zB,zC]
 all_goals first|(refine kC rfl HS ?_)|(refine kD (v:=?_) rfl (fun W hW=>?_) ?_;rotate_left;(· go_simp;try with_reducible rfl))
 all_goals try simp only [Act.put,zA,zB,zC]
 all_goals refine soft_nil ?_
 go_wp2
 go_ret
 exact ⟨rfl,HS⟩
theorem callable_RankFaces1:Callable Tryz.prog 206:=callable_of Tryz.func206 (by kernel_rfl) (by kernel_rfl)
set_option maxRecDepth 100000 in
set_option maxHeartbeats 1000000 in
theorem implRankFaces_c {w:World} {vl:Value} {l:List kQ} (hl:(Rep.slice 166 kI).rd w [vl] l) {cn:List Value} {n:LName} (hn:RName.rd w cn n) {vf:Value} {fs:List Int} (hf:(Rep.slice 3 Rep.int).rd w [vf] fs) :
    Calls Tryz.prog 139 #[vl,.agg cn.toArray,vf] w (MadePost (Rep.slice 3 Rep.int) (rankF l n fs) w):=by
 have HL:=hD hl
 have HN:=hD hn
 have HF:=hD hf
 have hfb:fs.length≤16777216:=hf.2.1
 obtain ⟨nv,rfl,n_0⟩:=RName_raw hn.1
 obtain ⟨na,np,hnv,_⟩:=Rep.kR n_0;obtain rfl:nv=_:=by simpa using hnv
 obtain ⟨la,lp,hlv,_⟩:=Rep.kR hl.1;obtain rfl:vl=_:=by simpa using hlv
 obtain ⟨fa,fp,hfv,_⟩:=Rep.kR hf.1;obtain rfl:vf=_:=by simpa using hfv
 clear hnv hlv hfv n_0 hl hn hf
 go_enter Tryz.func139,Tryz.ntmps139
 go_wp2_with fail
 generalize hwB:World.alloc (World.alloc w _) _=wB
 have EB:Below w.heap.size w wB:=by rw [← hwB];exact (by repeat (first|(with_reducible exact Below.refl _ _) | refine Below.alloc ?_ (by simp;try omega) _ | refine Below.drew ?_ | refine Below.setCell ?_ (by simp;try omega) _))
 have K0:wB.cell? ⟨w.heap.size,0,none⟩=some (.slice la l.length lp):=by rw [← hwB];simp [go_sem]
 have K1:wB.cell? ⟨w.heap.size + 1,0,none⟩=some (.slice na n.length np):=by rw [← hwB];simp [go_sem]
 clear hwB
 refine (Clone_int_0 (HF.out.below EB)).mono ?_
 rintro e w1 ⟨v1,rfl,O1,hb1⟩
 obtain ⟨oa,on,oc,ho,HON⟩:=O1.parts;obtain rfl:=ho
 have E1:=EB.trans (hb1.mono EB.size)
 have HO:=hD O1;have HB1:=hD hb1
 have hz1:=hb1.size;have hzB:=EB.size
 clear O1 hb1
 have HC:Hid (Cmp_int (failOf l n) 206 #[.pointer (some ⟨w.heap.size,0,none⟩),.pointer (some ⟨w.heap.size + 1,0,none⟩)] (Btw wB.heap.size w1.heap.size) w1):=hD (fun wr tw x y c d hx hy=>by
   have e:=HB1.out.trans (tw.below HB1.out.size (fun i hi=>hi.1))
   obtain ⟨hc,_⟩:=Rep.int_raw hx
   obtain ⟨hd,_⟩:=Rep.int_raw hy
   obtain rfl:c=_:=by simpa using hc
   obtain rfl:d=_:=by simpa using hd
   exact (implRankFaces1_c (HL.out.1.below (EB.trans (e.mono EB.size))) (HN.out.1.below (EB.trans (e.mono EB.size))) (cL e K0) (cL e K1)).mono (fun e2 w2 h=>⟨_,h.1,cmpI_lt,h.2⟩))
 clear K0 K1 EB
 go_wp2_with fail
 refine (SortStable_int_c (failOf l n) callable_RankFaces1 HC.out HO.out hfb).mono ?_
 rintro e w2 ⟨rfl,O2,T2⟩
 have E2:=E1.trans (T2.below (by omega) (fun i hi=>by have:=hi.1;omega))
 have hz2:=T2.size
 have HO2:=hD ((O2.cast (Srt.stable_eq fs)).wide (T:=Btw w.heap.size w2.heap.size) (fun j hj=>⟨by have:=hj.1;omega,by have:=hj.2;omega⟩))
 clear O2 T2 HC HO
 go_wp2
 go_ret
 exact ⟨_,rfl,HO2.out.own (by show (rankF l n fs).length≤Big;rw [rankF_len];unfold Big;omega),E2⟩
set_option maxRecDepth 100000 in
set_option maxHeartbeats 4000000 in
theorem specRankFaces_c {w:World} {vl:Value} {l:List kQ} (hl:(Rep.slice 166 kI).rd w [vl] l) {cn:List Value} {n:LName} (hn:RName.rd w cn n) {vf:Value} {fs:List Int} (hf:(Rep.slice 3 Rep.int).rd w [vf] fs) :
    Calls Tryz.prog 112 #[vl,.agg cn.toArray,vf] w (MadePost (Rep.slice 3 Rep.int) (rankF l n fs) w):=by
 have HL:=hD hl
 have HN:=hD hn
 have HF:=hD hf
 have hfb:fs.length≤16777216:=hf.2.1
 obtain ⟨nv,rfl,n_0⟩:=RName_raw hn.1
 obtain ⟨na,np,hnv,_⟩:=Rep.kR n_0;obtain rfl:nv=_:=by simpa using hnv
 obtain ⟨la,lp,hlv,_⟩:=Rep.kR hl.1;obtain rfl:vl=_:=by simpa using hlv
 obtain ⟨fa,fp,hfv,_⟩:=Rep.kR hf.1;obtain rfl:vf=_:=by simpa using hfv
 clear hnv hlv hfv n_0 hl hn hf
 go_enter Tryz.func112,Tryz.ntmps112
 go_wp2
 generalize hwB:World.alloc (World.alloc w _) _=wB
 have EB:Below w.heap.size w wB:=by rw [← hwB];exact (by repeat (first|(with_reducible exact Below.refl _ _) | refine Below.alloc ?_ (by simp;try omega) _ | refine Below.drew ?_ | refine Below.setCell ?_ (by simp;try omega) _))
 have hzB:=EB.size
 have K0:wB.cell? ⟨w.heap.size,0,none⟩=some (.slice na n.length np):=by rw [← hwB];simp [go_sem]
 clear hwB
 go_loopw [7,8] (fun v i wr=>∃ (k:Nat),k≤fs.length∧i=.int .i64 k∧Hid (Rep.own0 3 Rep.int wr v (Srt.sorted (failOf l n) (fs.take k)) (Btw w.heap.size wr.heap.size))∧Below wB.heap.size wB wr) (fun _ i _=>fs.length - (intOf i).toNat)
 case atStart=>exact ⟨0,Nat.zero_le _,rfl,hD Rep.own0.void,Below.refl _ _⟩
 obtain ⟨i,hi,rfl,HO,hbel⟩:=hrel
 replace K0:=cL hbel K0
 obtain ⟨a,m,cap,ho,HM⟩:=HO.out.parts;obtain rfl:=ho
 have hrz:=hbel.size
 have hi0:=Int.natCast_nonneg i
 by_cases hlt:i < fs.length
 · have hiI:(i:Int) < fs.length:=by omega
   have hml : m ≤ 16777216 := by have h0 : m = i := by rw [HM.out, sorted_len]; simp; omega
                                 omega
   have hmcap:m≤cap∧cap≤9223372036854775807:=by have h1:=HO.out.raw0;have h2:=HM.out;obtain ⟨h3,h4⟩:=Rep.cap_raw h1;exact ⟨by omega,h4⟩
   obtain ⟨fb,fo,rfl,fc,fr,Af⟩:=Rep.get1 (HF.out.1.below (EB.trans (hbel.mono EB.size))) hlt rfl
   obtain ⟨fhe,frg⟩:=Rep.int_raw fr
   obtain rfl:fc=_:=by simpa using fhe
   have HSN:=hD (sorted_snoc (key:=failOf l n) hlt)
   have HX:=hD fr
   clear fhe fr
   generalize fs[i]=x at *
   generalize hLL:Srt.sorted (failOf l n) (fs.take i)=LL at *
   clear hLL
   go_wp2
   go_loopw [9] (fun q wr2=>∃ (k:Nat),k≤m∧q=.int .i64 k∧Hid (Srt.place (failOf l n) k LL x=Srt.place (failOf l n) m LL x)∧Below wr.heap.size wr wr2) (fun q _=>(intOf q).toNat)
   case atStart=>exact ⟨m,Nat.le_refl _,rfl,hD rfl,Below.refl _ _⟩
   obtain ⟨k,hkm,rfl,HP,hb2⟩:=hrel
   have K0':=cL hb2 K0
   have Af':=cL hb2 Af
   have HO2:=hD (HO.out.below hb2)
   have EQ:Below wB.heap.size wB _:=hbel.trans (hb2.mono hbel.size)
   have hk0:=Int.natCast_nonneg k
   have hkcap:(k:Int)≤cap:=by omega
   have hkcapN:k≤cap:=by omega
   by_cases hk:0 < k
   · obtain ⟨j,hj⟩:∃ j,j + 1=k:=⟨k - 1,by omega⟩
     have hjI:(k:Int) - 1=(j:Int):=by omega
     have hwj:IntKind.i64.wrap (j:Int)=j:=IntWalk.i64_in _ (by omega)
     have hj0:=Int.natCast_nonneg j
     have hjl:j < LL.length:=by have:=HM.out;omega
     have hjm:(j:Int) < m:=by omega
     have hp:decide ((k:Int) > 0)=true:=by simp;omega
     have hp2:decide (0 < k)=true:=by simpa using hk
     have hp3:(0:Int) < k:=by omega
     have HY:=hD (fun q=>(place_next (key:=failOf l n) (x:=x) hj hjl q).symm.trans HP.out)
     have HNO:=hD (fun q=>(place_stop (key:=failOf l n) (x:=x) hj hjl q).symm.trans HP.out)
     obtain ⟨ob,oo,rfl,oc0,or_,Ao⟩:=Rep.get1 HO2.out.raw0 hjl rfl
     obtain ⟨ohe,org⟩:=Rep.int_raw or_
     obtain rfl:oc0=_:=by simpa using ohe
     clear ohe or_ org
     generalize LL[j]=y at *
     go_upto_region 6 with fail
     refine wp_region_softP (fun W=>Below wr.heap.size wr W) [(0,true),(1,true),(2,true),(3,true),(4,true),(5,true),(6,true),(7,true),(8,true),(9,true),(11,true),(12,true),(13,true),(14,true),(15,true),(16,true),(10,false),(17,false),(18,true),(19,true)] (by kernel_rfl) (by kernel_rfl) (fun c a d v w h=>by cases d <;> exact h) ((Below.refl _ _).drew) ?_
     intro wS HS
     simp only [pickOps,List.getElem?_cons_succ,List.getElem?_cons_zero,List.map_cons,List.map_nil]
     iterate 2
      all_goals first|(refine kC rfl HS ?_)|(refine kD (v:=?_) rfl (fun W hW=>?_) ?_;rotate_left;(· go_simp;try with_reducible rfl))
      all_goals try simp only [Act.put,zA,zB,zC]
     all_goals first|(refine kC rfl HS ?_;have hg2:=True.intro)|(refine kE (v:=?_) (b:=?_) rfl (fun W hW=>?_) ?_ (fun b hg2=>?_);rotate_left;rotate_left;(· go_simp;try with_reducible rfl);(· with_reducible rfl);cases b;all_goals first|(exact Bool.noConfusion hg2)|(simp only [Bool.not_eq_true',Bool.not_eq_false'] at hg2) | skip)
     all_goals try simp only [Act.put,zA,zB,zC]
     all_goals first|(refine kC rfl HS ?_)|(refine kD (v:=?_) rfl (fun W hW=>?_) ?_;rotate_left;(· go_simp;try with_reducible rfl))
     all_goals try simp only [Act.put,zA,zB,zC]
     all_goals first|(refine kC rfl HS ?_)|(refine kD (v:=?_) rfl (fun W hW=>?_) ?_;rotate_left;(· have A_K0':=cL hW K0';have A_Af':=cL hW Af';have A_Ao:=cL hW Ao;clear hW;go_simp;try with_reducible rfl))
     iterate 4
      all_goals try simp only [Act.put,zA,zB,zC]
      all_goals first|(refine kC rfl HS ?_)|(refine kD (v:=?_) rfl (fun W hW=>?_) ?_;rotate_left;(· go_simp;try with_reducible rfl))
     iterate 2
      all_goals try simp only [Act.put,zA,zB,zC]
      all_goals first|(refine kC rfl HS ?_)|(refine kD (v:=?_) rfl (fun W hW=>?_) ?_;rotate_left;(· have A_K0':=cL hW K0';have A_Af':=cL hW Af';have A_Ao:=cL hW Ao;clear hW;go_simp;try with_reducible rfl))
      all_goals try simp only [Act.put,zA,zB,zC]
      all_goals first|(refine kC rfl HS ?_)|(refine kD (v:=?_) rfl (fun W hW=>?_) ?_;rotate_left;(· go_simp;try with_reducible rfl))
     iterate 2
      all_goals try simp only [Act.put,zA,zB,zC]
      all_goals first|(refine kC rfl HS ?_)|(refine kD (v:=?_) rfl (fun W hW=>?_) ?_;rotate_left;(· go_simp;try with_reducible rfl))
     all_goals try simp only [Act.put,zA,zB,zC]
     all_goals first|(refine kC rfl HS ?_)|(refine kD (v:=?_) rfl (fun W hW=>?_) ?_;rotate_left;(· have A_K0':=cL hW K0';have A_Af':=cL hW Af';have A_Ao:=cL hW Ao;clear hW;go_simp;try with_reducible rfl))
     iterate 2
      all_goals try simp only [Act.put,zA,zB,zC]
      all_goals first|(refine kC rfl HS ?_)|(refine kF rfl (fun K hK=>?_);go_simp;refine (specFailuresOf_w (Rep.raw.below HL.out.1 (EB.trans ((EQ.trans (HS.mono EQ.size)).mono EB.size))) (Rep.raw.below HN.out.1 (EB.trans ((EQ.trans (HS.mono EQ.size)).mono EB.size)))).mono ?_;rintro e wS1 ⟨rfl,hbS⟩;replace HS:=HS.trans (hbS.mono HS.size);refine hK _ _ HS ?_;clear hK K hbS)
     all_goals try simp only [Act.put,zA,zB,zC]
     all_goals first|(refine kC rfl HS ?_)|(refine kD (v:=?_) rfl (fun W hW=>?_) ?_;rotate_left;(· go_simp;try with_reducible rfl))
     all_goals try simp only [Act.put,zA,zB,zC]
     all_goals first|(refine kC rfl HS ?_;have hg19:=True.intro)|(refine kE (v:=?_) (b:=?_) rfl (fun W hW=>?_) ?_ (fun b hg19=>?_);rotate_left;rotate_left;(· go_simp;try with_reducible rfl);(· with_reducible rfl);cases b;all_goals first|(exact Bool.noConfusion hg19)|(simp only [Bool.not_eq_true',Bool.not_eq_false'] at hg19) | skip)
     all_goals try simp only [Act.put,zA,zB,zC]
     all_goals refine soft_nil ?_
     all_goals have HBX:=hD (hb2.trans (HS.mono hb2.size))
     all_goals have hbw:=HBX.out
     all_goals replace Af':=cL HS Af'
     all_goals first
       | (have HV:=hD (show decide (failOf l n x < failOf l n y)=true by first | exact hg19 | simpa using hg19);have HP2:=hD (HY.out HV.out);clear HY HNO HV hg19;go_wp2;go_roundw;(case rel=>exact ⟨j,by omega,rfl,HP2,HBX.out⟩);(case measure=>simp [intOf];omega))
       | (have HV:=hD (show decide (failOf l n x < failOf l n y)=false by first | exact hg19 | simpa using hg19);have HPL:=hD (HNO.out HV.out);clear HY HNO HV hg19)
     have HPUT:=hD (HSN.out.trans (put_at (show k=_ by rw [← HM.out];exact HPL.out)))
     have HO3:=hD (HO.out.below hbw)
     generalize wS1=wq at *
     clear HS
     skip
     have HRD:=hD ((HO3.out.own (by have:=HM.out;unfold Big;omega)).rd)
     have HTK:=hD (Rep.take_rd HRD.out (k:=k) (by have:=HM.out;omega))
     have hLB:LL.length≤16777216:=by have:=HM.out;omega
     go_upto_region 8 with fail
     by_cases hkc2:k < cap
     · rcases Rep.own0_form HO3.out with ⟨h1,h2⟩|⟨b,hb⟩
       · exact absurd hkc2 (by omega)
       first | subst hb|(simp only [Option.some.injEq,Addr.mk.injEq,and_true] at hb;obtain ⟨rfl,rfl⟩:=hb)
       have hck:¬ cap=k:=by omega
       have HDR:=hD (Rep.drop_rd HRD.out (k:=k) (by have:=HM.out;omega))
       rw [Nat.zero_add,show k * Rep.int.n=k from Nat.mul_one k] at HDR
       refine wp_region_tree (fun W=>Below wq.heap.size wq W) (by kernel_rfl) ((Below.refl _ _).drew) ?_
       intro wS HS
       refine kS (k:=1) (v:=?_) rfl (by kernel_rfl) (fun c a d v w h=>by cases d <;> exact h) rfl HS (fun W hW=>?_) ?_
       rotate_left
       · go_simp;try with_reducible rfl
       try simp only [Act.put,zA,zB,zC]
       refine kS (k:=2) (v:=?_) rfl (by kernel_rfl) (fun c a d v w h=>by cases d <;> exact h) rfl HS (fun W hW=>?_) ?_
       rotate_left
       · go_simp;try with_reducible rfl
       try simp only [Act.put,zA,zB,zC]
       refine kS (k:=3) (v:=?_) rfl (by kernel_rfl) (fun c a d v w h=>by cases d <;> exact h) rfl HS (fun W hW=>?_) ?_
       rotate_left
       · go_simp;try with_reducible rfl
       try simp only [Act.put,zA,zB,zC]
       refine kS (k:=5) (v:=?_) rfl (by kernel_rfl) (fun c a d v w h=>by cases d <;> exact h) rfl HS (fun W hW=>?_) ?_
       rotate_left
       · go_simp;try with_reducible rfl
       try simp only [Act.put,zA,zB,zC]
       refine kS (k:=6) (v:=?_) rfl (by kernel_rfl) (fun c a d v w h=>by cases d <;> exact h) rfl HS (fun W hW=>?_) ?_
       rotate_left
       · go_simp;try with_reducible rfl
       try simp only [Act.put,zA,zB,zC]
       refine kS (k:=7) (v:=?_) rfl (by kernel_rfl) (fun c a d v w h=>by cases d <;> exact h) rfl HS (fun W hW=>?_) ?_
       rotate_left
       · go_simp;try with_reducible rfl
       try simp only [Act.put,zA,zB,zC]
       refine kS (k:=8) (v:=?_) rfl (by kernel_rfl) (fun c a d v w h=>by cases d <;> exact h) rfl HS (fun W hW=>?_) ?_
       rotate_left
       · have A_Af:=cL hW Af';clear hW;go_simp;try with_reducible rfl
       try simp only [Act.put,zA,zB,zC]
       refine kS (k:=11) (v:=?_) rfl (by kernel_rfl) (fun c a d v w h=>by cases d <;> exact h) rfl HS (fun W hW=>?_) ?_
       rotate_left
       · go_simp;try with_reducible rfl
       try simp only [Act.put,zA,zB,zC]
       refine kS (k:=12) (v:=?_) rfl (by kernel_rfl) (fun c a d v w h=>by cases d <;> exact h) rfl HS (fun W hW=>?_) ?_
       rotate_left
       · go_simp;try with_reducible rfl
       try simp only [Act.put,zA,zB,zC]
       refine kS (k:=13) (v:=?_) rfl (by kernel_rfl) (fun c a d v w h=>by cases d <;> exact h) rfl HS (fun W hW=>?_) ?_
       rotate_left
       · go_simp;try with_reducible rfl
       try simp only [Act.put,zA,zB,zC]
       refine tree_two (i:=0) (j:=9) rfl rfl (by kernel_rfl) rfl rfl (fun K hK=>?_) (fun K hK=>?_)
       · have bn0:=HS.size
         go_simp
         generalize hwN:World.alloc wS _=t0
         have bN:Below wS.heap.size wS t0:=by rw [← hwN];exact (Below.refl _ _).alloc (Nat.le_refl _) _
         have zN0:=bN.size
         clear hwN
         replace HS:=HS.trans (bN.mono HS.size)
         refine hK _ _ HS ?_
         clear hK K bN
         try simp only [Act.put,zA,zB,zC]
         refine tree_two (i:=4) (j:=9) rfl rfl (by kernel_rfl) rfl rfl (fun K hK=>?_) (fun K hK=>?_)
         · have bn1:=HS.size
           obtain ⟨v1,t1,hr,HV,hbN,zN1⟩:=Rep.kU (P:=Tryz.prog) (t:=84) (ty:=84) (r:=Rep.int) (e:=3) (w:=t0) (v:=.slice (some ⟨wS.heap.size,0,none⟩) 0 0) (xs:=[]) (S:=fun _=>False) (B:=t0.heap.size) Tryz.underlying84 infInt rfl (show 0 < 1 by omega) (by decide) Rep.isFlat_int Rep.own0.void (HTK.out.below HS) (fun _ h=>h.elim) (Nat.le_refl _) (by simp;omega)
           refine Rep.wp_append _ _ _ rfl (by rfl) (by rfl) hr ?_
           obtain ⟨a1,n1,c1,hv1,HN1⟩:=HV.parts
           obtain rfl:=hv1
           replace HS:=HS.trans (hbN.mono HS.size)
           refine hK _ _ HS ?_
           clear hK K hr hbN
           try simp only [Act.put,zA,zB,zC]
           refine kW (k:=9) rfl (by kernel_rfl) rfl (fun K hK=>?_)
           have bn2:=HS.size
           go_simp
           have RL:(Rep.slice 3 Rep.int).rd (World.alloc t1 (.cells #[.int .i64 x] 3)) [.slice (some ⟨t1.heap.size,0,none⟩) 1 1] [x]:=((Rep.own0_lit (e:=3) (r:=Rep.int) (w:=t1) (cs:=[.int .i64 x]) (xs:=[x]) (T:=fun _=>True) (S:=fun _=>True) (by intro y hy;rw [List.mem_singleton.1 hy];exact trivial) (by show 1≤_;unfold maxLen;omega) (Rep.row_single (show Rep.int.is true _ [.int .i64 x] x _ from ⟨rfl,frg⟩)) (fun _ h=>h) trivial).own (by show 1≤_;unfold Big;omega)).rd
           have bN0:Below t1.heap.size t1 (World.alloc t1 (.cells #[.int .i64 x] 3)):=(Below.refl _ _).alloc (Nat.le_refl _) _
           generalize hwN:World.alloc t1 (.cells #[.int .i64 x] 3)=t2 at RL bN0 ⊢
           have zN2:=bN0.size
           have bN:=bN0
           clear hwN bN0
           replace HV:=HV.below bN
           replace HS:=HS.trans (bN.mono HS.size)
           refine hK _ _ HS ?_
           clear hK K bN
           try simp only [Act.put,zA,zB,zC]
           refine kW (k:=10) rfl (by kernel_rfl) rfl (fun K hK=>?_)
           have bn3:=HS.size
           obtain ⟨v2,t3,hr,HV2,hbN,zN3⟩:=Rep.kU (P:=Tryz.prog) (t:=84) (ty:=84) (r:=Rep.int) (e:=3) (w:=t2) (B:=wq.heap.size) Tryz.underlying84 infInt rfl (show 0 < 1 by omega) (by decide) Rep.isFlat_int HV RL (fun j hj=>⟨by have:=hj.1;omega,by have:=hj.2;omega⟩) HS.size (by simp;omega)
           refine Rep.wp_append _ _ _ rfl (by rfl) (by rfl) hr ?_
           obtain ⟨a2,n2,c2,hv2,HN2⟩:=HV2.parts
           obtain rfl:=hv2
           replace HS:=HS.trans hbN
           have HV3:=HV2;clear HV;have HV:=HV3;clear HV2 HV3 RL
           refine hK _ _ HS ?_
           clear hK K hr hbN
           try simp only [Act.put,zA,zB,zC]
           refine kW (k:=14) rfl (by kernel_rfl) rfl (fun K hK=>?_)
           have bn4:=HS.size
           obtain ⟨v3,t4,hr,HV2,hbN,zN4⟩:=Rep.kU (P:=Tryz.prog) (t:=84) (ty:=84) (r:=Rep.int) (e:=3) (w:=t3) (B:=wq.heap.size) Tryz.underlying84 infInt rfl (show 0 < 1 by omega) (by decide) Rep.isFlat_int HV (HDR.out.below HS) (fun j hj=>⟨hj.1,by have:=hj.2;omega⟩) HS.size (by simp;omega)
           refine Rep.wp_append _ _ _ rfl (by rfl) (by rfl) hr ?_
           obtain ⟨a3,n3,c3,hv3,HN3⟩:=HV2.parts
           obtain rfl:=hv3
           replace HS:=HS.trans hbN
           have HV3:=HV2;clear HV;have HV:=HV3;clear HV2 HV3
           refine hK _ _ HS ?_
           clear hK K hr hbN
           try simp only [Act.put,zA,zB,zC]
           refine kS (k:=15) (v:=?_) rfl (by kernel_rfl) (fun c a d v w h=>by cases d <;> exact h) rfl HS (fun W hW=>?_) ?_
           rotate_left
           · go_simp;try with_reducible rfl
           try simp only [Act.put,zA,zB,zC]
           refine tree_end (by kernel_rfl) ?_
           have HPQ:=hD (Rep.own0.cast HV (show _=Srt.sorted (failOf l n) (fs.take (i + 1)) from by rw [HPUT.out,List.nil_append]))
           have hzz:=HS.size
           have hzw:=hbw.size
           have HFB:=hD (hbw.trans (HS.mono (hbw.size)))
           clear HV HPUT
           go_wp2
           go_roundw
           case rel=>exact ⟨i + 1,by omega,by go_num,hD (HPQ.out.wide (fun j hj=>⟨by have:=hj.1;omega,hj.2⟩)),hbel.trans (HFB.out.mono hbel.size)⟩
           simp [intOf];omega
         have bn1:=HS.size
         go_simp
         have RL:(Rep.slice 3 Rep.int).rd (World.alloc t0 (.cells #[.int .i64 x] 3)) [.slice (some ⟨t0.heap.size,0,none⟩) 1 1] [x]:=((Rep.own0_lit (e:=3) (r:=Rep.int) (w:=t0) (cs:=[.int .i64 x]) (xs:=[x]) (T:=fun _=>True) (S:=fun _=>True) (by intro y hy;rw [List.mem_singleton.1 hy];exact trivial) (by show 1≤_;unfold maxLen;omega) (Rep.row_single (show Rep.int.is true _ [.int .i64 x] x _ from ⟨rfl,frg⟩)) (fun _ h=>h) trivial).own (by show 1≤_;unfold Big;omega)).rd
         have bN0:Below t0.heap.size t0 (World.alloc t0 (.cells #[.int .i64 x] 3)):=(Below.refl _ _).alloc (Nat.le_refl _) _
         generalize hwN:World.alloc t0 (.cells #[.int .i64 x] 3)=t1 at RL bN0 ⊢
         have zN1:=bN0.size
         have bN:=bN0
         clear hwN bN0
         replace HS:=HS.trans (bN.mono HS.size)
         refine hK _ _ HS ?_
         clear hK K bN
         try simp only [Act.put,zA,zB,zC]
         refine kW (k:=4) rfl (by kernel_rfl) rfl (fun K hK=>?_)
         have bn2:=HS.size
         obtain ⟨v1,t2,hr,HV,hbN,zN2⟩:=Rep.kU (P:=Tryz.prog) (t:=84) (ty:=84) (r:=Rep.int) (e:=3) (w:=t1) (v:=.slice (some ⟨wS.heap.size,0,none⟩) 0 0) (xs:=[]) (S:=fun _=>False) (B:=t1.heap.size) Tryz.underlying84 infInt rfl (show 0 < 1 by omega) (by decide) Rep.isFlat_int Rep.own0.void (HTK.out.below HS) (fun _ h=>h.elim) (Nat.le_refl _) (by simp;omega)
         refine Rep.wp_append _ _ _ rfl (by rfl) (by rfl) hr ?_
         obtain ⟨a1,n1,c1,hv1,HN1⟩:=HV.parts
         obtain rfl:=hv1
         replace RL:=RL.below hbN
         replace HS:=HS.trans (hbN.mono HS.size)
         refine hK _ _ HS ?_
         clear hK K hr hbN
         try simp only [Act.put,zA,zB,zC]
         refine kW (k:=10) rfl (by kernel_rfl) rfl (fun K hK=>?_)
         have bn3:=HS.size
         obtain ⟨v2,t3,hr,HV2,hbN,zN3⟩:=Rep.kU (P:=Tryz.prog) (t:=84) (ty:=84) (r:=Rep.int) (e:=3) (w:=t2) (B:=wq.heap.size) Tryz.underlying84 infInt rfl (show 0 < 1 by omega) (by decide) Rep.isFlat_int HV RL (fun j hj=>⟨by have:=hj.1;omega,by have:=hj.2;omega⟩) HS.size (by simp;omega)
         refine Rep.wp_append _ _ _ rfl (by rfl) (by rfl) hr ?_
         obtain ⟨a2,n2,c2,hv2,HN2⟩:=HV2.parts
         obtain rfl:=hv2
         replace HS:=HS.trans hbN
         have HV3:=HV2;clear HV;have HV:=HV3;clear HV2 HV3 RL
         refine hK _ _ HS ?_
         clear hK K hr hbN
         try simp only [Act.put,zA,zB,zC]
         refine kW (k:=14) rfl (by kernel_rfl) rfl (fun K hK=>?_)
         have bn4:=HS.size
         obtain ⟨v3,t4,hr,HV2,hbN,zN4⟩:=Rep.kU (P:=Tryz.prog) (t:=84) (ty:=84) (r:=Rep.int) (e:=3) (w:=t3) (B:=wq.heap.size) Tryz.underlying84 infInt rfl (show 0 < 1 by omega) (by decide) Rep.isFlat_int HV (HDR.out.below HS) (fun j hj=>⟨hj.1,by have:=hj.2;omega⟩) HS.size (by simp;omega)
         refine Rep.wp_append _ _ _ rfl (by rfl) (by rfl) hr ?_
         obtain ⟨a3,n3,c3,hv3,HN3⟩:=HV2.parts
         obtain rfl:=hv3
         replace HS:=HS.trans hbN
         have HV3:=HV2;clear HV;have HV:=HV3;clear HV2 HV3
         refine hK _ _ HS ?_
         clear hK K hr hbN
         try simp only [Act.put,zA,zB,zC]
         refine kS (k:=15) (v:=?_) rfl (by kernel_rfl) (fun c a d v w h=>by cases d <;> exact h) rfl HS (fun W hW=>?_) ?_
         rotate_left
         · go_simp;try with_reducible rfl
         try simp only [Act.put,zA,zB,zC]
         refine tree_end (by kernel_rfl) ?_
         have HPQ:=hD (Rep.own0.cast HV (show _=Srt.sorted (failOf l n) (fs.take (i + 1)) from by rw [HPUT.out,List.nil_append]))
         have hzz:=HS.size
         have hzw:=hbw.size
         have HFB:=hD (hbw.trans (HS.mono (hbw.size)))
         clear HV HPUT
         go_wp2
         go_roundw
         case rel=>exact ⟨i + 1,by omega,by go_num,hD (HPQ.out.wide (fun j hj=>⟨by have:=hj.1;omega,hj.2⟩)),hbel.trans (HFB.out.mono hbel.size)⟩
         simp [intOf];omega
       have bn0:=HS.size
       go_simp
       have RL:(Rep.slice 3 Rep.int).rd (World.alloc wS (.cells #[.int .i64 x] 3)) [.slice (some ⟨wS.heap.size,0,none⟩) 1 1] [x]:=((Rep.own0_lit (e:=3) (r:=Rep.int) (w:=wS) (cs:=[.int .i64 x]) (xs:=[x]) (T:=fun _=>True) (S:=fun _=>True) (by intro y hy;rw [List.mem_singleton.1 hy];exact trivial) (by show 1≤_;unfold maxLen;omega) (Rep.row_single (show Rep.int.is true _ [.int .i64 x] x _ from ⟨rfl,frg⟩)) (fun _ h=>h) trivial).own (by show 1≤_;unfold Big;omega)).rd
       have bN0:Below wS.heap.size wS (World.alloc wS (.cells #[.int .i64 x] 3)):=(Below.refl _ _).alloc (Nat.le_refl _) _
       generalize hwN:World.alloc wS (.cells #[.int .i64 x] 3)=t0 at RL bN0 ⊢
       have zN0:=bN0.size
       have bN:=bN0
       clear hwN bN0
       replace HS:=HS.trans (bN.mono HS.size)
       refine hK _ _ HS ?_
       clear hK K bN
       try simp only [Act.put,zA,zB,zC]
       refine kW (k:=0) rfl (by kernel_rfl) rfl (fun K hK=>?_)
       have bn1:=HS.size
       go_simp
       generalize hwN:World.alloc t0 _=t1
       have bN:Below t0.heap.size t0 t1:=by rw [← hwN];exact (Below.refl _ _).alloc (Nat.le_refl _) _
       have zN1:=bN.size
       clear hwN
       replace RL:=RL.below bN
       replace HS:=HS.trans (bN.mono HS.size)
       refine hK _ _ HS ?_
       clear hK K bN
       try simp only [Act.put,zA,zB,zC]
       refine kW (k:=4) rfl (by kernel_rfl) rfl (fun K hK=>?_)
       have bn2:=HS.size
       obtain ⟨v1,t2,hr,HV,hbN,zN2⟩:=Rep.kU (P:=Tryz.prog) (t:=84) (ty:=84) (r:=Rep.int) (e:=3) (w:=t1) (v:=.slice (some ⟨t0.heap.size,0,none⟩) 0 0) (xs:=[]) (S:=fun _=>False) (B:=t1.heap.size) Tryz.underlying84 infInt rfl (show 0 < 1 by omega) (by decide) Rep.isFlat_int Rep.own0.void (HTK.out.below HS) (fun _ h=>h.elim) (Nat.le_refl _) (by simp;omega)
       refine Rep.wp_append _ _ _ rfl (by rfl) (by rfl) hr ?_
       obtain ⟨a1,n1,c1,hv1,HN1⟩:=HV.parts
       obtain rfl:=hv1
       replace RL:=RL.below hbN
       replace HS:=HS.trans (hbN.mono HS.size)
       refine hK _ _ HS ?_
       clear hK K hr hbN
       try simp only [Act.put,zA,zB,zC]
       refine kW (k:=10) rfl (by kernel_rfl) rfl (fun K hK=>?_)
       have bn3:=HS.size
       obtain ⟨v2,t3,hr,HV2,hbN,zN3⟩:=Rep.kU (P:=Tryz.prog) (t:=84) (ty:=84) (r:=Rep.int) (e:=3) (w:=t2) (B:=wq.heap.size) Tryz.underlying84 infInt rfl (show 0 < 1 by omega) (by decide) Rep.isFlat_int HV RL (fun j hj=>⟨by have:=hj.1;omega,by have:=hj.2;omega⟩) HS.size (by simp;omega)
       refine Rep.wp_append _ _ _ rfl (by rfl) (by rfl) hr ?_
       obtain ⟨a2,n2,c2,hv2,HN2⟩:=HV2.parts
       obtain rfl:=hv2
       replace HS:=HS.trans hbN
       have HV3:=HV2;clear HV;have HV:=HV3;clear HV2 HV3 RL
       refine hK _ _ HS ?_
       clear hK K hr hbN
       try simp only [Act.put,zA,zB,zC]
       refine kW (k:=14) rfl (by kernel_rfl) rfl (fun K hK=>?_)
       have bn4:=HS.size
       obtain ⟨v3,t4,hr,HV2,hbN,zN4⟩:=Rep.kU (P:=Tryz.prog) (t:=84) (ty:=84) (r:=Rep.int) (e:=3) (w:=t3) (B:=wq.heap.size) Tryz.underlying84 infInt rfl (show 0 < 1 by omega) (by decide) Rep.isFlat_int HV (HDR.out.below HS) (fun j hj=>⟨hj.1,by have:=hj.2;omega⟩) HS.size (by simp;omega)
       refine Rep.wp_append _ _ _ rfl (by rfl) (by rfl) hr ?_
       obtain ⟨a3,n3,c3,hv3,HN3⟩:=HV2.parts
       obtain rfl:=hv3
       replace HS:=HS.trans hbN
       have HV3:=HV2;clear HV;have HV:=HV3;clear HV2 HV3
       refine hK _ _ HS ?_
       clear hK K hr hbN
       try simp only [Act.put,zA,zB,zC]
       refine kS (k:=15) (v:=?_) rfl (by kernel_rfl) (fun c a d v w h=>by cases d <;> exact h) rfl HS (fun W hW=>?_) ?_
       rotate_left
       · go_simp;try with_reducible rfl
       try simp only [Act.put,zA,zB,zC]
       refine tree_end (by kernel_rfl) ?_
       have HPQ:=hD (Rep.own0.cast HV (show _=Srt.sorted (failOf l n) (fs.take (i + 1)) from by rw [HPUT.out,List.nil_append]))
       have hzz:=HS.size
       have hzw:=hbw.size
       have HFB:=hD (hbw.trans (HS.mono (hbw.size)))
       clear HV HPUT
       go_wp2
       go_roundw
       case rel=>exact ⟨i + 1,by omega,by go_num,hD (HPQ.out.wide (fun j hj=>⟨by have:=hj.1;omega,hj.2⟩)),hbel.trans (HFB.out.mono hbel.size)⟩
       simp [intOf];omega
     have hck:cap=k:=by omega
     subst hck
     have HDR:=fun (ad:Option Addr)=>hD (show (Rep.slice 3 Rep.int).rd wq [.slice ad 0 0] (LL.drop cap) from by rw [List.drop_eq_nil_of_le (by have:=HM.out;omega)];exact Rep.void_rd (by unfold maxLen;omega))
     refine wp_region_tree (fun W=>Below wq.heap.size wq W) (by kernel_rfl) ((Below.refl _ _).drew) ?_
     intro wS HS
     refine kS (k:=1) (v:=?_) rfl (by kernel_rfl) (fun c a d v w h=>by cases d <;> exact h) rfl HS (fun W hW=>?_) ?_
     rotate_left
     · go_simp;try with_reducible rfl
     try simp only [Act.put,zA,zB,zC]
     refine kS (k:=2) (v:=?_) rfl (by kernel_rfl) (fun c a d v w h=>by cases d <;> exact h) rfl HS (fun W hW=>?_) ?_
     rotate_left
     · go_simp;try with_reducible rfl
     try simp only [Act.put,zA,zB,zC]
     refine kS (k:=3) (v:=?_) rfl (by kernel_rfl) (fun c a d v w h=>by cases d <;> exact h) rfl HS (fun W hW=>?_) ?_
     rotate_left
     · go_simp;try with_reducible rfl
     try simp only [Act.put,zA,zB,zC]
     refine kS (k:=5) (v:=?_) rfl (by kernel_rfl) (fun c a d v w h=>by cases d <;> exact h) rfl HS (fun W hW=>?_) ?_
     rotate_left
     · go_simp;try with_reducible rfl
     try simp only [Act.put,zA,zB,zC]
     refine kS (k:=6) (v:=?_) rfl (by kernel_rfl) (fun c a d v w h=>by cases d <;> exact h) rfl HS (fun W hW=>?_) ?_
     rotate_left
     · go_simp;try with_reducible rfl
     try simp only [Act.put,zA,zB,zC]
     refine kS (k:=7) (v:=?_) rfl (by kernel_rfl) (fun c a d v w h=>by cases d <;> exact h) rfl HS (fun W hW=>?_) ?_
     rotate_left
     · go_simp;try with_reducible rfl
     try simp only [Act.put,zA,zB,zC]
     refine kS (k:=8) (v:=?_) rfl (by kernel_rfl) (fun c a d v w h=>by cases d <;> exact h) rfl HS (fun W hW=>?_) ?_
     rotate_left
     · have A_Af:=cL hW Af';clear hW;go_simp;try with_reducible rfl
     try simp only [Act.put,zA,zB,zC]
     refine kS (k:=11) (v:=?_) rfl (by kernel_rfl) (fun c a d v w h=>by cases d <;> exact h) rfl HS (fun W hW=>?_) ?_
     rotate_left
     · go_simp;try with_reducible rfl
     try simp only [Act.put,zA,zB,zC]
     refine kS (k:=12) (v:=?_) rfl (by kernel_rfl) (fun c a d v w h=>by cases d <;> exact h) rfl HS (fun W hW=>?_) ?_
     rotate_left
     · go_simp;try with_reducible rfl
     try simp only [Act.put,zA,zB,zC]
     refine kS (k:=13) (v:=?_) rfl (by kernel_rfl) (fun c a d v w h=>by cases d <;> exact h) rfl HS (fun W hW=>?_) ?_
     rotate_left
     · go_simp;try with_reducible rfl
     try simp only [Act.put,zA,zB,zC]
     refine tree_two (i:=0) (j:=9) rfl rfl (by kernel_rfl) rfl rfl (fun K hK=>?_) (fun K hK=>?_)
     · have bn0:=HS.size
       go_simp
       generalize hwN:World.alloc wS _=t0
       have bN:Below wS.heap.size wS t0:=by rw [← hwN];exact (Below.refl _ _).alloc (Nat.le_refl _) _
       have zN0:=bN.size
       clear hwN
       replace HS:=HS.trans (bN.mono HS.size)
       refine hK _ _ HS ?_
       clear hK K bN
       try simp only [Act.put,zA,zB,zC]
       refine tree_two (i:=4) (j:=9) rfl rfl (by kernel_rfl) rfl rfl (fun K hK=>?_) (fun K hK=>?_)
       · have bn1:=HS.size
         obtain ⟨v1,t1,hr,HV,hbN,zN1⟩:=Rep.kU (P:=Tryz.prog) (t:=84) (ty:=84) (r:=Rep.int) (e:=3) (w:=t0) (v:=.slice (some ⟨wS.heap.size,0,none⟩) 0 0) (xs:=[]) (S:=fun _=>False) (B:=t0.heap.size) Tryz.underlying84 infInt rfl (show 0 < 1 by omega) (by decide) Rep.isFlat_int Rep.own0.void (HTK.out.below HS) (fun _ h=>h.elim) (Nat.le_refl _) (by simp;omega)
         refine Rep.wp_append _ _ _ rfl (by rfl) (by rfl) hr ?_
         obtain ⟨a1,n1,c1,hv1,HN1⟩:=HV.parts
         obtain rfl:=hv1
         replace HS:=HS.trans (hbN.mono HS.size)
         refine hK _ _ HS ?_
         clear hK K hr hbN
         try simp only [Act.put,zA,zB,zC]
         refine kW (k:=9) rfl (by kernel_rfl) rfl (fun K hK=>?_)
         have bn2:=HS.size
         go_simp
         have RL:(Rep.slice 3 Rep.int).rd (World.alloc t1 (.cells #[.int .i64 x] 3)) [.slice (some ⟨t1.heap.size,0,none⟩) 1 1] [x]:=((Rep.own0_lit (e:=3) (r:=Rep.int) (w:=t1) (cs:=[.int .i64 x]) (xs:=[x]) (T:=fun _=>True) (S:=fun _=>True) (by intro y hy;rw [List.mem_singleton.1 hy];exact trivial) (by show 1≤_;unfold maxLen;omega) (Rep.row_single (show Rep.int.is true _ [.int .i64 x] x _ from ⟨rfl,frg⟩)) (fun _ h=>h) trivial).own (by show 1≤_;unfold Big;omega)).rd
         have bN0:Below t1.heap.size t1 (World.alloc t1 (.cells #[.int .i64 x] 3)):=(Below.refl _ _).alloc (Nat.le_refl _) _
         generalize hwN:World.alloc t1 (.cells #[.int .i64 x] 3)=t2 at RL bN0 ⊢
         have zN2:=bN0.size
         have bN:=bN0
         clear hwN bN0
         replace HV:=HV.below bN
         replace HS:=HS.trans (bN.mono HS.size)
         refine hK _ _ HS ?_
         clear hK K bN
         try simp only [Act.put,zA,zB,zC]
         refine kW (k:=10) rfl (by kernel_rfl) rfl (fun K hK=>?_)
         have bn3:=HS.size
         obtain ⟨v2,t3,hr,HV2,hbN,zN3⟩:=Rep.kU (P:=Tryz.prog) (t:=84) (ty:=84) (r:=Rep.int) (e:=3) (w:=t2) (B:=wq.heap.size) Tryz.underlying84 infInt rfl (show 0 < 1 by omega) (by decide) Rep.isFlat_int HV RL (fun j hj=>⟨by have:=hj.1;omega,by have:=hj.2;omega⟩) HS.size (by simp;omega)
         refine Rep.wp_append _ _ _ rfl (by rfl) (by rfl) hr ?_
         obtain ⟨a2,n2,c2,hv2,HN2⟩:=HV2.parts
         obtain rfl:=hv2
         replace HS:=HS.trans hbN
         have HV3:=HV2;clear HV;have HV:=HV3;clear HV2 HV3 RL
         refine hK _ _ HS ?_
         clear hK K hr hbN
         try simp only [Act.put,zA,zB,zC]
         refine kW (k:=14) rfl (by kernel_rfl) rfl (fun K hK=>?_)
         have bn4:=HS.size
         obtain ⟨v3,t4,hr,HV2,hbN,zN4⟩:=Rep.kU (P:=Tryz.prog) (t:=84) (ty:=84) (r:=Rep.int) (e:=3) (w:=t3) (B:=wq.heap.size) Tryz.underlying84 infInt rfl (show 0 < 1 by omega) (by decide) Rep.isFlat_int HV ((HDR _).out.below HS) (fun j hj=>⟨hj.1,by have:=hj.2;omega⟩) HS.size (by simp;omega)
         refine Rep.wp_append _ _ _ rfl (by rfl) (by rfl) hr ?_
         obtain ⟨a3,n3,c3,hv3,HN3⟩:=HV2.parts
         obtain rfl:=hv3
         replace HS:=HS.trans hbN
         have HV3:=HV2;clear HV;have HV:=HV3;clear HV2 HV3
         refine hK _ _ HS ?_
         clear hK K hr hbN
         try simp only [Act.put,zA,zB,zC]
         refine kS (k:=15) (v:=?_) rfl (by kernel_rfl) (fun c a d v w h=>by cases d <;> exact h) rfl HS (fun W hW=>?_) ?_
         rotate_left
         · go_simp;try with_reducible rfl
         try simp only [Act.put,zA,zB,zC]
         refine tree_end (by kernel_rfl) ?_
         have HPQ:=hD (Rep.own0.cast HV (show _=Srt.sorted (failOf l n) (fs.take (i + 1)) from by rw [HPUT.out,List.nil_append]))
         have hzz:=HS.size
         have hzw:=hbw.size
         have HFB:=hD (hbw.trans (HS.mono (hbw.size)))
         clear HV HPUT
         go_wp2
         go_roundw
         case rel=>exact ⟨i + 1,by omega,by go_num,hD (HPQ.out.wide (fun j hj=>⟨by have:=hj.1;omega,hj.2⟩)),hbel.trans (HFB.out.mono hbel.size)⟩
         simp [intOf];omega
       have bn1:=HS.size
       go_simp
       have RL:(Rep.slice 3 Rep.int).rd (World.alloc t0 (.cells #[.int .i64 x] 3)) [.slice (some ⟨t0.heap.size,0,none⟩) 1 1] [x]:=((Rep.own0_lit (e:=3) (r:=Rep.int) (w:=t0) (cs:=[.int .i64 x]) (xs:=[x]) (T:=fun _=>True) (S:=fun _=>True) (by intro y hy;rw [List.mem_singleton.1 hy];exact trivial) (by show 1≤_;unfold maxLen;omega) (Rep.row_single (show Rep.int.is true _ [.int .i64 x] x _ from ⟨rfl,frg⟩)) (fun _ h=>h) trivial).own (by show 1≤_;unfold Big;omega)).rd
       have bN0:Below t0.heap.size t0 (World.alloc t0 (.cells #[.int .i64 x] 3)):=(Below.refl _ _).alloc (Nat.le_refl _) _
       generalize hwN:World.alloc t0 (.cells #[.int .i64 x] 3)=t1 at RL bN0 ⊢
       have zN1:=bN0.size
       have bN:=bN0
       clear hwN bN0
       replace HS:=HS.trans (bN.mono HS.size)
       refine hK _ _ HS ?_
       clear hK K bN
       try simp only [Act.put,zA,zB,zC]
       refine kW (k:=4) rfl (by kernel_rfl) rfl (fun K hK=>?_)
       have bn2:=HS.size
       obtain ⟨v1,t2,hr,HV,hbN,zN2⟩:=Rep.kU (P:=Tryz.prog) (t:=84) (ty:=84) (r:=Rep.int) (e:=3) (w:=t1) (v:=.slice (some ⟨wS.heap.size,0,none⟩) 0 0) (xs:=[]) (S:=fun _=>False) (B:=t1.heap.size) Tryz.underlying84 infInt rfl (show 0 < 1 by omega) (by decide) Rep.isFlat_int Rep.own0.void (HTK.out.below HS) (fun _ h=>h.elim) (Nat.le_refl _) (by simp;omega)
       refine Rep.wp_append _ _ _ rfl (by rfl) (by rfl) hr ?_
       obtain ⟨a1,n1,c1,hv1,HN1⟩:=HV.parts
       obtain rfl:=hv1
       replace RL:=RL.below hbN
       replace HS:=HS.trans (hbN.mono HS.size)
       refine hK _ _ HS ?_
       clear hK K hr hbN
       try simp only [Act.put,zA,zB,zC]
       refine kW (k:=10) rfl (by kernel_rfl) rfl (fun K hK=>?_)
       have bn3:=HS.size
       obtain ⟨v2,t3,hr,HV2,hbN,zN3⟩:=Rep.kU (P:=Tryz.prog) (t:=84) (ty:=84) (r:=Rep.int) (e:=3) (w:=t2) (B:=wq.heap.size) Tryz.underlying84 infInt rfl (show 0 < 1 by omega) (by decide) Rep.isFlat_int HV RL (fun j hj=>⟨by have:=hj.1;omega,by have:=hj.2;omega⟩) HS.size (by simp;omega)
       refine Rep.wp_append _ _ _ rfl (by rfl) (by rfl) hr ?_
       obtain ⟨a2,n2,c2,hv2,HN2⟩:=HV2.parts
       obtain rfl:=hv2
       replace HS:=HS.trans hbN
       have HV3:=HV2;clear HV;have HV:=HV3;clear HV2 HV3 RL
       refine hK _ _ HS ?_
       clear hK K hr hbN
       try simp only [Act.put,zA,zB,zC]
       refine kW (k:=14) rfl (by kernel_rfl) rfl (fun K hK=>?_)
       have bn4:=HS.size
       obtain ⟨v3,t4,hr,HV2,hbN,zN4⟩:=Rep.kU (P:=Tryz.prog) (t:=84) (ty:=84) (r:=Rep.int) (e:=3) (w:=t3) (B:=wq.heap.size) Tryz.underlying84 infInt rfl (show 0 < 1 by omega) (by decide) Rep.isFlat_int HV ((HDR _).out.below HS) (fun j hj=>⟨hj.1,by have:=hj.2;omega⟩) HS.size (by simp;omega)
       refine Rep.wp_append _ _ _ rfl (by rfl) (by rfl) hr ?_
       obtain ⟨a3,n3,c3,hv3,HN3⟩:=HV2.parts
       obtain rfl:=hv3
       replace HS:=HS.trans hbN
       have HV3:=HV2;clear HV;have HV:=HV3;clear HV2 HV3
       refine hK _ _ HS ?_
       clear hK K hr hbN
       try simp only [Act.put,zA,zB,zC]
       refine kS (k:=15) (v:=?_) rfl (by kernel_rfl) (fun c a d v w h=>by cases d <;> exact h) rfl HS (fun W hW=>?_) ?_
       rotate_left
       · go_simp;try with_reducible rfl
       try simp only [Act.put,zA,zB,zC]
       refine tree_end (by kernel_rfl) ?_
       have HPQ:=hD (Rep.own0.cast HV (show _=Srt.sorted (failOf l n) (fs.take (i + 1)) from by rw [HPUT.out,List.nil_append]))
       have hzz:=HS.size
       have hzw:=hbw.size
       have HFB:=hD (hbw.trans (HS.mono (hbw.size)))
       clear HV HPUT
       go_wp2
       go_roundw
       case rel=>exact ⟨i + 1,by omega,by go_num,hD (HPQ.out.wide (fun j hj=>⟨by have:=hj.1;omega,hj.2⟩)),hbel.trans (HFB.out.mono hbel.size)⟩
       simp [intOf];omega
     have bn0:=HS.size
     go_simp
     have RL:(Rep.slice 3 Rep.int).rd (World.alloc wS (.cells #[.int .i64 x] 3)) [.slice (some ⟨wS.heap.size,0,none⟩) 1 1] [x]:=((Rep.own0_lit (e:=3) (r:=Rep.int) (w:=wS) (cs:=[.int .i64 x]) (xs:=[x]) (T:=fun _=>True) (S:=fun _=>True) (by intro y hy;rw [List.mem_singleton.1 hy];exact trivial) (by show 1≤_;unfold maxLen;omega) (Rep.row_single (show Rep.int.is true _ [.int .i64 x] x _ from ⟨rfl,frg⟩)) (fun _ h=>h) trivial).own (by show 1≤_;unfold Big;omega)).rd
     have bN0:Below wS.heap.size wS (World.alloc wS (.cells #[.int .i64 x] 3)):=(Below.refl _ _).alloc (Nat.le_refl _) _
     generalize hwN:World.alloc wS (.cells #[.int .i64 x] 3)=t0 at RL bN0 ⊢
     have zN0:=bN0.size
     have bN:=bN0
     clear hwN bN0
     replace HS:=HS.trans (bN.mono HS.size)
     refine hK _ _ HS ?_
     clear hK K bN
     try simp only [Act.put,zA,zB,zC]
     refine kW (k:=0) rfl (by kernel_rfl) rfl (fun K hK=>?_)
     have bn1:=HS.size
     go_simp
     generalize hwN:World.alloc t0 _=t1
     have bN:Below t0.heap.size t0 t1:=by rw [← hwN];exact (Below.refl _ _).alloc (Nat.le_refl _) _
     have zN1:=bN.size
     clear hwN
     replace RL:=RL.below bN
     replace HS:=HS.trans (bN.mono HS.size)
     refine hK _ _ HS ?_
     clear hK K bN
     try simp only [Act.put,zA,zB,zC]
     refine kW (k:=4) rfl (by kernel_rfl) rfl (fun K hK=>?_)
     have bn2:=HS.size
     obtain ⟨v1,t2,hr,HV,hbN,zN2⟩:=Rep.kU (P:=Tryz.prog) (t:=84) (ty:=84) (r:=Rep.int) (e:=3) (w:=t1) (v:=.slice (some ⟨t0.heap.size,0,none⟩) 0 0) (xs:=[]) (S:=fun _=>False) (B:=t1.heap.size) Tryz.underlying84 infInt rfl (show 0 < 1 by omega) (by decide) Rep.isFlat_int Rep.own0.void (HTK.out.below HS) (fun _ h=>h.elim) (Nat.le_refl _) (by simp;omega)
     refine Rep.wp_append _ _ _ rfl (by rfl) (by rfl) hr ?_
     obtain ⟨a1,n1,c1,hv1,HN1⟩:=HV.parts
     obtain rfl:=hv1
     replace RL:=RL.below hbN
     replace HS:=HS.trans (hbN.mono HS.size)
     refine hK _ _ HS ?_
     clear hK K hr hbN
     try simp only [Act.put,zA,zB,zC]
     refine kW (k:=10) rfl (by kernel_rfl) rfl (fun K hK=>?_)
     have bn3:=HS.size
     obtain ⟨v2,t3,hr,HV2,hbN,zN3⟩:=Rep.kU (P:=Tryz.prog) (t:=84) (ty:=84) (r:=Rep.int) (e:=3) (w:=t2) (B:=wq.heap.size) Tryz.underlying84 infInt rfl (show 0 < 1 by omega) (by decide) Rep.isFlat_int HV RL (fun j hj=>⟨by have:=hj.1;omega,by have:=hj.2;omega⟩) HS.size (by simp;omega)
     refine Rep.wp_append _ _ _ rfl (by rfl) (by rfl) hr ?_
     obtain ⟨a2,n2,c2,hv2,HN2⟩:=HV2.parts
     obtain rfl:=hv2
     replace HS:=HS.trans hbN
     have HV3:=HV2;clear HV;have HV:=HV3;clear HV2 HV3 RL
     refine hK _ _ HS ?_
     clear hK K hr hbN
     try simp only [Act.put,zA,zB,zC]
     refine kW (k:=14) rfl (by kernel_rfl) rfl (fun K hK=>?_)
     have bn4:=HS.size
     obtain ⟨v3,t4,hr,HV2,hbN,zN4⟩:=Rep.kU (P:=Tryz.prog) (t:=84) (ty:=84) (r:=Rep.int) (e:=3) (w:=t3) (B:=wq.heap.size) Tryz.underlying84 infInt rfl (show 0 < 1 by omega) (by decide) Rep.isFlat_int HV ((HDR _).out.below HS) (fun j hj=>⟨hj.1,by have:=hj.2;omega⟩) HS.size (by simp;omega)
     refine Rep.wp_append _ _ _ rfl (by rfl) (by rfl) hr ?_
     obtain ⟨a3,n3,c3,hv3,HN3⟩:=HV2.parts
     obtain rfl:=hv3
     replace HS:=HS.trans hbN
     have HV3:=HV2;clear HV;have HV:=HV3;clear HV2 HV3
     refine hK _ _ HS ?_
     clear hK K hr hbN
     try simp only [Act.put,zA,zB,zC]
     refine kS (k:=15) (v:=?_) rfl (by kernel_rfl) (fun c a d v w h=>by cases d <;> exact h) rfl HS (fun W hW=>?_) ?_
     rotate_left
     · go_simp;try with_reducible rfl
     try simp only [Act.put,zA,zB,zC]
     refine tree_end (by kernel_rfl) ?_
     have HPQ:=hD (Rep.own0.cast HV (show _=Srt.sorted (failOf l n) (fs.take (i + 1)) from by rw [HPUT.out,List.nil_append]))
     have hzz:=HS.size
     have hzw:=hbw.size
     have HFB:=hD (hbw.trans (HS.mono (hbw.size)))
     clear HV HPUT
     go_wp2
     go_roundw
     case rel=>exact ⟨i + 1,by omega,by go_num,hD (HPQ.out.wide (fun j hj=>⟨by have:=hj.1;omega,hj.2⟩)),hbel.trans (HFB.out.mono hbel.size)⟩
     simp [intOf];omega
   have hk00:k=0:=by omega
   have hp:decide ((k:Int) > 0)=false:=by simp;omega
   have hp3:¬ (0:Int) < k:=by omega
   have HPL:Hid (k=Srt.place (failOf l n) m LL x):=hD (by rw [← HP.out,hk00];rfl)
   clear hk00
   go_upto_region 6 with fail
   refine wp_region_softP (fun W=>Below wr.heap.size wr W) [(0,true),(1,true),(2,true),(3,true),(4,true),(5,true),(6,true),(7,true),(8,true),(9,true),(11,true),(12,true),(13,true),(14,true),(15,true),(16,true),(10,false),(17,false),(18,true),(19,true)] (by kernel_rfl) (by kernel_rfl) (fun c a d v w h=>by cases d <;> exact h) ((Below.refl _ _).drew) ?_
   intro wS HS
   simp only [pickOps,List.getElem?_cons_succ,List.getElem?_cons_zero,List.map_cons,List.map_nil]
   iterate 2
    all_goals first|(refine kC rfl HS ?_)|(refine kD (v:=?_) rfl (fun W hW=>?_) ?_;rotate_left;(· go_simp;try with_reducible rfl))
    all_goals try simp only [Act.put,zA,zB,zC]
   all_goals first|(refine kC rfl HS ?_;have hg2:=True.intro)|(refine kE (v:=?_) (b:=?_) rfl (fun W hW=>?_) ?_ (fun b hg2=>?_);rotate_left;rotate_left;(· go_simp;try with_reducible rfl);(· with_reducible rfl);cases b;all_goals first|(exact Bool.noConfusion hg2)|(simp only [Bool.not_eq_true',Bool.not_eq_false'] at hg2) | skip)
   iterate 13
    all_goals try simp only [Act.put,zA,zB,zC]
    all_goals first|(refine kC rfl HS ?_)|(refine kD (v:=?_) rfl (fun W hW=>?_) ?_;rotate_left;(· go_simp;try with_reducible rfl))
   iterate 2
    all_goals try simp only [Act.put,zA,zB,zC]
    all_goals first|(refine kC rfl HS ?_)|(fail)
   all_goals try simp only [Act.put,zA,zB,zC]
   all_goals first|(refine kC rfl HS ?_)|(refine kD (v:=?_) rfl (fun W hW=>?_) ?_;rotate_left;(· go_simp;try with_reducible rfl))
   all_goals try simp only [Act.put,zA,zB,zC]
   all_goals first|(refine kC rfl HS ?_;have hg19:=True.intro)|(refine kE (v:=?_) (b:=?_) rfl (fun W hW=>?_) ?_ (fun b hg19=>?_);rotate_left;rotate_left;(· go_simp;try with_reducible rfl);(· with_reducible rfl);cases b;all_goals first|(exact Bool.noConfusion hg19)|(simp only [Bool.not_eq_true',Bool.not_eq_false'] at hg19) | skip)
   all_goals try simp only [Act.put,zA,zB,zC]
   all_goals refine soft_nil ?_
   all_goals have HBX:=hD (hb2.trans (HS.mono hb2.size))
   all_goals have hbw:=HBX.out
   all_goals replace Af':=cL HS Af'
   have HPUT:=hD (HSN.out.trans (put_at (show k=_ by rw [← HM.out];exact HPL.out)))
   have HO3:=hD (HO.out.below hbw)
   generalize wS=wq at *
   clear HS
   skip
   have HRD:=hD ((HO3.out.own (by have:=HM.out;unfold Big;omega)).rd)
   have HTK:=hD (Rep.take_rd HRD.out (k:=k) (by have:=HM.out;omega))
   have hLB:LL.length≤16777216:=by have:=HM.out;omega
   go_upto_region 8 with fail
   by_cases hkc2:k < cap
   · rcases Rep.own0_form HO3.out with ⟨h1,h2⟩|⟨b,hb⟩
     · exact absurd hkc2 (by omega)
     first | subst hb|(simp only [Option.some.injEq,Addr.mk.injEq,and_true] at hb;obtain ⟨rfl,rfl⟩:=hb)
     have hck:¬ cap=k:=by omega
     have HDR:=hD (Rep.drop_rd HRD.out (k:=k) (by have:=HM.out;omega))
     rw [Nat.zero_add,show k * Rep.int.n=k from Nat.mul_one k] at HDR
     refine wp_region_tree (fun W=>Below wq.heap.size wq W) (by kernel_rfl) ((Below.refl _ _).drew) ?_
     intro wS HS
     refine kS (k:=1) (v:=?_) rfl (by kernel_rfl) (fun c a d v w h=>by cases d <;> exact h) rfl HS (fun W hW=>?_) ?_
     rotate_left
     · go_simp;try with_reducible rfl
     try simp only [Act.put,zA,zB,zC]
     refine kS (k:=2) (v:=?_) rfl (by kernel_rfl) (fun c a d v w h=>by cases d <;> exact h) rfl HS (fun W hW=>?_) ?_
     rotate_left
     · go_simp;try with_reducible rfl
     try simp only [Act.put,zA,zB,zC]
     refine kS (k:=3) (v:=?_) rfl (by kernel_rfl) (fun c a d v w h=>by cases d <;> exact h) rfl HS (fun W hW=>?_) ?_
     rotate_left
     · go_simp;try with_reducible rfl
     try simp only [Act.put,zA,zB,zC]
     refine kS (k:=5) (v:=?_) rfl (by kernel_rfl) (fun c a d v w h=>by cases d <;> exact h) rfl HS (fun W hW=>?_) ?_
     rotate_left
     · go_simp;try with_reducible rfl
     try simp only [Act.put,zA,zB,zC]
     refine kS (k:=6) (v:=?_) rfl (by kernel_rfl) (fun c a d v w h=>by cases d <;> exact h) rfl HS (fun W hW=>?_) ?_
     rotate_left
     · go_simp;try with_reducible rfl
     try simp only [Act.put,zA,zB,zC]
     refine kS (k:=7) (v:=?_) rfl (by kernel_rfl) (fun c a d v w h=>by cases d <;> exact h) rfl HS (fun W hW=>?_) ?_
     rotate_left
     · go_simp;try with_reducible rfl
     try simp only [Act.put,zA,zB,zC]
     refine kS (k:=8) (v:=?_) rfl (by kernel_rfl) (fun c a d v w h=>by cases d <;> exact h) rfl HS (fun W hW=>?_) ?_
     rotate_left
     · have A_Af:=cL hW Af';clear hW;go_simp;try with_reducible rfl
     try simp only [Act.put,zA,zB,zC]
     refine kS (k:=11) (v:=?_) rfl (by kernel_rfl) (fun c a d v w h=>by cases d <;> exact h) rfl HS (fun W hW=>?_) ?_
     rotate_left
     · go_simp;try with_reducible rfl
     try simp only [Act.put,zA,zB,zC]
     refine kS (k:=12) (v:=?_) rfl (by kernel_rfl) (fun c a d v w h=>by cases d <;> exact h) rfl HS (fun W hW=>?_) ?_
     rotate_left
     · go_simp;try with_reducible rfl
     try simp only [Act.put,zA,zB,zC]
     refine kS (k:=13) (v:=?_) rfl (by kernel_rfl) (fun c a d v w h=>by cases d <;> exact h) rfl HS (fun W hW=>?_) ?_
     rotate_left
     · go_simp;try with_reducible rfl
     try simp only [Act.put,zA,zB,zC]
     refine tree_two (i:=0) (j:=9) rfl rfl (by kernel_rfl) rfl rfl (fun K hK=>?_) (fun K hK=>?_)
     · have bn0:=HS.size
       go_simp
       generalize hwN:World.alloc wS _=t0
       have bN:Below wS.heap.size wS t0:=by rw [← hwN];exact (Below.refl _ _).alloc (Nat.le_refl _) _
       have zN0:=bN.size
       clear hwN
       replace HS:=HS.trans (bN.mono HS.size)
       refine hK _ _ HS ?_
       clear hK K bN
       try simp only [Act.put,zA,zB,zC]
       refine tree_two (i:=4) (j:=9) rfl rfl (by kernel_rfl) rfl rfl (fun K hK=>?_) (fun K hK=>?_)
       · have bn1:=HS.size
         obtain ⟨v1,t1,hr,HV,hbN,zN1⟩:=Rep.kU (P:=Tryz.prog) (t:=84) (ty:=84) (r:=Rep.int) (e:=3) (w:=t0) (v:=.slice (some ⟨wS.heap.size,0,none⟩) 0 0) (xs:=[]) (S:=fun _=>False) (B:=t0.heap.size) Tryz.underlying84 infInt rfl (show 0 < 1 by omega) (by decide) Rep.isFlat_int Rep.own0.void (HTK.out.below HS) (fun _ h=>h.elim) (Nat.le_refl _) (by simp;omega)
         refine Rep.wp_append _ _ _ rfl (by rfl) (by rfl) hr ?_
         obtain ⟨a1,n1,c1,hv1,HN1⟩:=HV.parts
         obtain rfl:=hv1
         replace HS:=HS.trans (hbN.mono HS.size)
         refine hK _ _ HS ?_
         clear hK K hr hbN
         try simp only [Act.put,zA,zB,zC]
         refine kW (k:=9) rfl (by kernel_rfl) rfl (fun K hK=>?_)
         have bn2:=HS.size
         go_simp
         have RL:(Rep.slice 3 Rep.int).rd (World.alloc t1 (.cells #[.int .i64 x] 3)) [.slice (some ⟨t1.heap.size,0,none⟩) 1 1] [x]:=((Rep.own0_lit (e:=3) (r:=Rep.int) (w:=t1) (cs:=[.int .i64 x]) (xs:=[x]) (T:=fun _=>True) (S:=fun _=>True) (by intro y hy;rw [List.mem_singleton.1 hy];exact trivial) (by show 1≤_;unfold maxLen;omega) (Rep.row_single (show Rep.int.is true _ [.int .i64 x] x _ from ⟨rfl,frg⟩)) (fun _ h=>h) trivial).own (by show 1≤_;unfold Big;omega)).rd
         have bN0:Below t1.heap.size t1 (World.alloc t1 (.cells #[.int .i64 x] 3)):=(Below.refl _ _).alloc (Nat.le_refl _) _
         generalize hwN:World.alloc t1 (.cells #[.int .i64 x] 3)=t2 at RL bN0 ⊢
         have zN2:=bN0.size
         have bN:=bN0
         clear hwN bN0
         replace HV:=HV.below bN
         replace HS:=HS.trans (bN.mono HS.size)
         refine hK _ _ HS ?_
         clear hK K bN
         try simp only [Act.put,zA,zB,zC]
         refine kW (k:=10) rfl (by kernel_rfl) rfl (fun K hK=>?_)
         have bn3:=HS.size
         obtain ⟨v2,t3,hr,HV2,hbN,zN3⟩:=Rep.kU (P:=Tryz.prog) (t:=84) (ty:=84) (r:=Rep.int) (e:=3) (w:=t2) (B:=wq.heap.size) Tryz.underlying84 infInt rfl (show 0 < 1 by omega) (by decide) Rep.isFlat_int HV RL (fun j hj=>⟨by have:=hj.1;omega,by have:=hj.2;omega⟩) HS.size (by simp;omega)
         refine Rep.wp_append _ _ _ rfl (by rfl) (by rfl) hr ?_
         obtain ⟨a2,n2,c2,hv2,HN2⟩:=HV2.parts
         obtain rfl:=hv2
         replace HS:=HS.trans hbN
         have HV3:=HV2;clear HV;have HV:=HV3;clear HV2 HV3 RL
         refine hK _ _ HS ?_
         clear hK K hr hbN
         try simp only [Act.put,zA,zB,zC]
         refine kW (k:=14) rfl (by kernel_rfl) rfl (fun K hK=>?_)
         have bn4:=HS.size
         obtain ⟨v3,t4,hr,HV2,hbN,zN4⟩:=Rep.kU (P:=Tryz.prog) (t:=84) (ty:=84) (r:=Rep.int) (e:=3) (w:=t3) (B:=wq.heap.size) Tryz.underlying84 infInt rfl (show 0 < 1 by omega) (by decide) Rep.isFlat_int HV (HDR.out.below HS) (fun j hj=>⟨hj.1,by have:=hj.2;omega⟩) HS.size (by simp;omega)
         refine Rep.wp_append _ _ _ rfl (by rfl) (by rfl) hr ?_
         obtain ⟨a3,n3,c3,hv3,HN3⟩:=HV2.parts
         obtain rfl:=hv3
         replace HS:=HS.trans hbN
         have HV3:=HV2;clear HV;have HV:=HV3;clear HV2 HV3
         refine hK _ _ HS ?_
         clear hK K hr hbN
         try simp only [Act.put,zA,zB,zC]
         refine kS (k:=15) (v:=?_) rfl (by kernel_rfl) (fun c a d v w h=>by cases d <;> exact h) rfl HS (fun W hW=>?_) ?_
         rotate_left
         · go_simp;try with_reducible rfl
         try simp only [Act.put,zA,zB,zC]
         refine tree_end (by kernel_rfl) ?_
         have HPQ:=hD (Rep.own0.cast HV (show _=Srt.sorted (failOf l n) (fs.take (i + 1)) from by rw [HPUT.out,List.nil_append]))
         have hzz:=HS.size
         have hzw:=hbw.size
         have HFB:=hD (hbw.trans (HS.mono (hbw.size)))
         clear HV HPUT
         go_wp2
         go_roundw
         case rel=>exact ⟨i + 1,by omega,by go_num,hD (HPQ.out.wide (fun j hj=>⟨by have:=hj.1;omega,hj.2⟩)),hbel.trans (HFB.out.mono hbel.size)⟩
         simp [intOf];omega
       have bn1:=HS.size
       go_simp
       have RL:(Rep.slice 3 Rep.int).rd (World.alloc t0 (.cells #[.int .i64 x] 3)) [.slice (some ⟨t0.heap.size,0,none⟩) 1 1] [x]:=((Rep.own0_lit (e:=3) (r:=Rep.int) (w:=t0) (cs:=[.int .i64 x]) (xs:=[x]) (T:=fun _=>True) (S:=fun _=>True) (by intro y hy;rw [List.mem_singleton.1 hy];exact trivial) (by show 1≤_;unfold maxLen;omega) (Rep.row_single (show Rep.int.is true _ [.int .i64 x] x _ from ⟨rfl,frg⟩)) (fun _ h=>h) trivial).own (by show 1≤_;unfold Big;omega)).rd
       have bN0:Below t0.heap.size t0 (World.alloc t0 (.cells #[.int .i64 x] 3)):=(Below.refl _ _).alloc (Nat.le_refl _) _
       generalize hwN:World.alloc t0 (.cells #[.int .i64 x] 3)=t1 at RL bN0 ⊢
       have zN1:=bN0.size
       have bN:=bN0
       clear hwN bN0
       replace HS:=HS.trans (bN.mono HS.size)
       refine hK _ _ HS ?_
       clear hK K bN
       try simp only [Act.put,zA,zB,zC]
       refine kW (k:=4) rfl (by kernel_rfl) rfl (fun K hK=>?_)
       have bn2:=HS.size
       obtain ⟨v1,t2,hr,HV,hbN,zN2⟩:=Rep.kU (P:=Tryz.prog) (t:=84) (ty:=84) (r:=Rep.int) (e:=3) (w:=t1) (v:=.slice (some ⟨wS.heap.size,0,none⟩) 0 0) (xs:=[]) (S:=fun _=>False) (B:=t1.heap.size) Tryz.underlying84 infInt rfl (show 0 < 1 by omega) (by decide) Rep.isFlat_int Rep.own0.void (HTK.out.below HS) (fun _ h=>h.elim) (Nat.le_refl _) (by simp;omega)
       refine Rep.wp_append _ _ _ rfl (by rfl) (by rfl) hr ?_
       obtain ⟨a1,n1,c1,hv1,HN1⟩:=HV.parts
       obtain rfl:=hv1
       replace RL:=RL.below hbN
       replace HS:=HS.trans (hbN.mono HS.size)
       refine hK _ _ HS ?_
       clear hK K hr hbN
       try simp only [Act.put,zA,zB,zC]
       refine kW (k:=10) rfl (by kernel_rfl) rfl (fun K hK=>?_)
       have bn3:=HS.size
       obtain ⟨v2,t3,hr,HV2,hbN,zN3⟩:=Rep.kU (P:=Tryz.prog) (t:=84) (ty:=84) (r:=Rep.int) (e:=3) (w:=t2) (B:=wq.heap.size) Tryz.underlying84 infInt rfl (show 0 < 1 by omega) (by decide) Rep.isFlat_int HV RL (fun j hj=>⟨by have:=hj.1;omega,by have:=hj.2;omega⟩) HS.size (by simp;omega)
       refine Rep.wp_append _ _ _ rfl (by rfl) (by rfl) hr ?_
       obtain ⟨a2,n2,c2,hv2,HN2⟩:=HV2.parts
       obtain rfl:=hv2
       replace HS:=HS.trans hbN
       have HV3:=HV2;clear HV;have HV:=HV3;clear HV2 HV3 RL
       refine hK _ _ HS ?_
       clear hK K hr hbN
       try simp only [Act.put,zA,zB,zC]
       refine kW (k:=14) rfl (by kernel_rfl) rfl (fun K hK=>?_)
       have bn4:=HS.size
       obtain ⟨v3,t4,hr,HV2,hbN,zN4⟩:=Rep.kU (P:=Tryz.prog) (t:=84) (ty:=84) (r:=Rep.int) (e:=3) (w:=t3) (B:=wq.heap.size) Tryz.underlying84 infInt rfl (show 0 < 1 by omega) (by decide) Rep.isFlat_int HV (HDR.out.below HS) (fun j hj=>⟨hj.1,by have:=hj.2;omega⟩) HS.size (by simp;omega)
       refine Rep.wp_append _ _ _ rfl (by rfl) (by rfl) hr ?_
       obtain ⟨a3,n3,c3,hv3,HN3⟩:=HV2.parts
       obtain rfl:=hv3
       replace HS:=HS.trans hbN
       have HV3:=HV2;clear HV;have HV:=HV3;clear HV2 HV3
       refine hK _ _ HS ?_
       clear hK K hr hbN
       try simp only [Act.put,zA,zB,zC]
       refine kS (k:=15) (v:=?_) rfl (by kernel_rfl) (fun c a d v w h=>by cases d <;> exact h) rfl HS (fun W hW=>?_) ?_
       rotate_left
       · go_simp;try with_reducible rfl
       try simp only [Act.put,zA,zB,zC]
       refine tree_end (by kernel_rfl) ?_
       have HPQ:=hD (Rep.own0.cast HV (show _=Srt.sorted (failOf l n) (fs.take (i + 1)) from by rw [HPUT.out,List.nil_append]))
       have hzz:=HS.size
       have hzw:=hbw.size
       have HFB:=hD (hbw.trans (HS.mono (hbw.size)))
       clear HV HPUT
       go_wp2
       go_roundw
       case rel=>exact ⟨i + 1,by omega,by go_num,hD (HPQ.out.wide (fun j hj=>⟨by have:=hj.1;omega,hj.2⟩)),hbel.trans (HFB.out.mono hbel.size)⟩
       simp [intOf];omega
     have bn0:=HS.size
     go_simp
     have RL:(Rep.slice 3 Rep.int).rd (World.alloc wS (.cells #[.int .i64 x] 3)) [.slice (some ⟨wS.heap.size,0,none⟩) 1 1] [x]:=((Rep.own0_lit (e:=3) (r:=Rep.int) (w:=wS) (cs:=[.int .i64 x]) (xs:=[x]) (T:=fun _=>True) (S:=fun _=>True) (by intro y hy;rw [List.mem_singleton.1 hy];exact trivial) (by show 1≤_;unfold maxLen;omega) (Rep.row_single (show Rep.int.is true _ [.int .i64 x] x _ from ⟨rfl,frg⟩)) (fun _ h=>h) trivial).own (by show 1≤_;unfold Big;omega)).rd
     have bN0:Below wS.heap.size wS (World.alloc wS (.cells #[.int .i64 x] 3)):=(Below.refl _ _).alloc (Nat.le_refl _) _
     generalize hwN:World.alloc wS (.cells #[.int .i64 x] 3)=t0 at RL bN0 ⊢
     have zN0:=bN0.size
     have bN:=bN0
     clear hwN bN0
     replace HS:=HS.trans (bN.mono HS.size)
     refine hK _ _ HS ?_
     clear hK K bN
     try simp only [Act.put,zA,zB,zC]
     refine kW (k:=0) rfl (by kernel_rfl) rfl (fun K hK=>?_)
     have bn1:=HS.size
     go_simp
     generalize hwN:World.alloc t0 _=t1
     have bN:Below t0.heap.size t0 t1:=by rw [← hwN];exact (Below.refl _ _).alloc (Nat.le_refl _) _
     have zN1:=bN.size
     clear hwN
     replace RL:=RL.below bN
     replace HS:=HS.trans (bN.mono HS.size)
     refine hK _ _ HS ?_
     clear hK K bN
     try simp only [Act.put,zA,zB,zC]
     refine kW (k:=4) rfl (by kernel_rfl) rfl (fun K hK=>?_)
     have bn2:=HS.size
     obtain ⟨v1,t2,hr,HV,hbN,zN2⟩:=Rep.kU (P:=Tryz.prog) (t:=84) (ty:=84) (r:=Rep.int) (e:=3) (w:=t1) (v:=.slice (some ⟨t0.heap.size,0,none⟩) 0 0) (xs:=[]) (S:=fun _=>False) (B:=t1.heap.size) Tryz.underlying84 infInt rfl (show 0 < 1 by omega) (by decide) Rep.isFlat_int Rep.own0.void (HTK.out.below HS) (fun _ h=>h.elim) (Nat.le_refl _) (by simp;omega)
     refine Rep.wp_append _ _ _ rfl (by rfl) (by rfl) hr ?_
     obtain ⟨a1,n1,c1,hv1,HN1⟩:=HV.parts
     obtain rfl:=hv1
     replace RL:=RL.below hbN
     replace HS:=HS.trans (hbN.mono HS.size)
     refine hK _ _ HS ?_
     clear hK K hr hbN
     try simp only [Act.put,zA,zB,zC]
     refine kW (k:=10) rfl (by kernel_rfl) rfl (fun K hK=>?_)
     have bn3:=HS.size
     obtain ⟨v2,t3,hr,HV2,hbN,zN3⟩:=Rep.kU (P:=Tryz.prog) (t:=84) (ty:=84) (r:=Rep.int) (e:=3) (w:=t2) (B:=wq.heap.size) Tryz.underlying84 infInt rfl (show 0 < 1 by omega) (by decide) Rep.isFlat_int HV RL (fun j hj=>⟨by have:=hj.1;omega,by have:=hj.2;omega⟩) HS.size (by simp;omega)
     refine Rep.wp_append _ _ _ rfl (by rfl) (by rfl) hr ?_
     obtain ⟨a2,n2,c2,hv2,HN2⟩:=HV2.parts
     obtain rfl:=hv2
     replace HS:=HS.trans hbN
     have HV3:=HV2;clear HV;have HV:=HV3;clear HV2 HV3 RL
     refine hK _ _ HS ?_
     clear hK K hr hbN
     try simp only [Act.put,zA,zB,zC]
     refine kW (k:=14) rfl (by kernel_rfl) rfl (fun K hK=>?_)
     have bn4:=HS.size
     obtain ⟨v3,t4,hr,HV2,hbN,zN4⟩:=Rep.kU (P:=Tryz.prog) (t:=84) (ty:=84) (r:=Rep.int) (e:=3) (w:=t3) (B:=wq.heap.size) Tryz.underlying84 infInt rfl (show 0 < 1 by omega) (by decide) Rep.isFlat_int HV (HDR.out.below HS) (fun j hj=>⟨hj.1,by have:=hj.2;omega⟩) HS.size (by simp;omega)
     refine Rep.wp_append _ _ _ rfl (by rfl) (by rfl) hr ?_
     obtain ⟨a3,n3,c3,hv3,HN3⟩:=HV2.parts
     obtain rfl:=hv3
     replace HS:=HS.trans hbN
     have HV3:=HV2;clear HV;have HV:=HV3;clear HV2 HV3
     refine hK _ _ HS ?_
     clear hK K hr hbN
     try simp only [Act.put,zA,zB,zC]
     refine kS (k:=15) (v:=?_) rfl (by kernel_rfl) (fun c a d v w h=>by cases d <;> exact h) rfl HS (fun W hW=>?_) ?_
     rotate_left
     · go_simp;try with_reducible rfl
     try simp only [Act.put,zA,zB,zC]
     refine tree_end (by kernel_rfl) ?_
     have HPQ:=hD (Rep.own0.cast HV (show _=Srt.sorted (failOf l n) (fs.take (i + 1)) from by rw [HPUT.out,List.nil_append]))
     have hzz:=HS.size
     have hzw:=hbw.size
     have HFB:=hD (hbw.trans (HS.mono (hbw.size)))
     clear HV HPUT
     go_wp2
     go_roundw
     case rel=>exact ⟨i + 1,by omega,by go_num,hD (HPQ.out.wide (fun j hj=>⟨by have:=hj.1;omega,hj.2⟩)),hbel.trans (HFB.out.mono hbel.size)⟩
     simp [intOf];omega
   have hck:cap=k:=by omega
   subst hck
   have HDR:=fun (ad:Option Addr)=>hD (show (Rep.slice 3 Rep.int).rd wq [.slice ad 0 0] (LL.drop cap) from by rw [List.drop_eq_nil_of_le (by have:=HM.out;omega)];exact Rep.void_rd (by unfold maxLen;omega))
   refine wp_region_tree (fun W=>Below wq.heap.size wq W) (by kernel_rfl) ((Below.refl _ _).drew) ?_
   intro wS HS
   refine kS (k:=1) (v:=?_) rfl (by kernel_rfl) (fun c a d v w h=>by cases d <;> exact h) rfl HS (fun W hW=>?_) ?_
   rotate_left
   · go_simp;try with_reducible rfl
   try simp only [Act.put,zA,zB,zC]
   refine kS (k:=2) (v:=?_) rfl (by kernel_rfl) (fun c a d v w h=>by cases d <;> exact h) rfl HS (fun W hW=>?_) ?_
   rotate_left
   · go_simp;try with_reducible rfl
   try simp only [Act.put,zA,zB,zC]
   refine kS (k:=3) (v:=?_) rfl (by kernel_rfl) (fun c a d v w h=>by cases d <;> exact h) rfl HS (fun W hW=>?_) ?_
   rotate_left
   · go_simp;try with_reducible rfl
   try simp only [Act.put,zA,zB,zC]
   refine kS (k:=5) (v:=?_) rfl (by kernel_rfl) (fun c a d v w h=>by cases d <;> exact h) rfl HS (fun W hW=>?_) ?_
   rotate_left
   · go_simp;try with_reducible rfl
   try simp only [Act.put,zA,zB,zC]
   refine kS (k:=6) (v:=?_) rfl (by kernel_rfl) (fun c a d v w h=>by cases d <;> exact h) rfl HS (fun W hW=>?_) ?_
   rotate_left
   · go_simp;try with_reducible rfl
   try simp only [Act.put,zA,zB,zC]
   refine kS (k:=7) (v:=?_) rfl (by kernel_rfl) (fun c a d v w h=>by cases d <;> exact h) rfl HS (fun W hW=>?_) ?_
   rotate_left
   · go_simp;try with_reducible rfl
   try simp only [Act.put,zA,zB,zC]
   refine kS (k:=8) (v:=?_) rfl (by kernel_rfl) (fun c a d v w h=>by cases d <;> exact h) rfl HS (fun W hW=>?_) ?_
   rotate_left
   · have A_Af:=cL hW Af';clear hW;go_simp;try with_reducible rfl
   try simp only [Act.put,zA,zB,zC]
   refine kS (k:=11) (v:=?_) rfl (by kernel_rfl) (fun c a d v w h=>by cases d <;> exact h) rfl HS (fun W hW=>?_) ?_
   rotate_left
   · go_simp;try with_reducible rfl
   try simp only [Act.put,zA,zB,zC]
   refine kS (k:=12) (v:=?_) rfl (by kernel_rfl) (fun c a d v w h=>by cases d <;> exact h) rfl HS (fun W hW=>?_) ?_
   rotate_left
   · go_simp;try with_reducible rfl
   try simp only [Act.put,zA,zB,zC]
   refine kS (k:=13) (v:=?_) rfl (by kernel_rfl) (fun c a d v w h=>by cases d <;> exact h) rfl HS (fun W hW=>?_) ?_
   rotate_left
   · go_simp;try with_reducible rfl
   try simp only [Act.put,zA,zB,zC]
   refine tree_two (i:=0) (j:=9) rfl rfl (by kernel_rfl) rfl rfl (fun K hK=>?_) (fun K hK=>?_)
   · have bn0:=HS.size
     go_simp
     generalize hwN:World.alloc wS _=t0
     have bN:Below wS.heap.size wS t0:=by rw [← hwN];exact (Below.refl _ _).alloc (Nat.le_refl _) _
     have zN0:=bN.size
     clear hwN
     replace HS:=HS.trans (bN.mono HS.size)
     refine hK _ _ HS ?_
     clear hK K bN
     try simp only [Act.put,zA,zB,zC]
     refine tree_two (i:=4) (j:=9) rfl rfl (by kernel_rfl) rfl rfl (fun K hK=>?_) (fun K hK=>?_)
     · have bn1:=HS.size
       obtain ⟨v1,t1,hr,HV,hbN,zN1⟩:=Rep.kU (P:=Tryz.prog) (t:=84) (ty:=84) (r:=Rep.int) (e:=3) (w:=t0) (v:=.slice (some ⟨wS.heap.size,0,none⟩) 0 0) (xs:=[]) (S:=fun _=>False) (B:=t0.heap.size) Tryz.underlying84 infInt rfl (show 0 < 1 by omega) (by decide) Rep.isFlat_int Rep.own0.void (HTK.out.below HS) (fun _ h=>h.elim) (Nat.le_refl _) (by simp;omega)
       refine Rep.wp_append _ _ _ rfl (by rfl) (by rfl) hr ?_
       obtain ⟨a1,n1,c1,hv1,HN1⟩:=HV.parts
       obtain rfl:=hv1
       replace HS:=HS.trans (hbN.mono HS.size)
       refine hK _ _ HS ?_
       clear hK K hr hbN
       try simp only [Act.put,zA,zB,zC]
       refine kW (k:=9) rfl (by kernel_rfl) rfl (fun K hK=>?_)
       have bn2:=HS.size
       go_simp
       have RL:(Rep.slice 3 Rep.int).rd (World.alloc t1 (.cells #[.int .i64 x] 3)) [.slice (some ⟨t1.heap.size,0,none⟩) 1 1] [x]:=((Rep.own0_lit (e:=3) (r:=Rep.int) (w:=t1) (cs:=[.int .i64 x]) (xs:=[x]) (T:=fun _=>True) (S:=fun _=>True) (by intro y hy;rw [List.mem_singleton.1 hy];exact trivial) (by show 1≤_;unfold maxLen;omega) (Rep.row_single (show Rep.int.is true _ [.int .i64 x] x _ from ⟨rfl,frg⟩)) (fun _ h=>h) trivial).own (by show 1≤_;unfold Big;omega)).rd
       have bN0:Below t1.heap.size t1 (World.alloc t1 (.cells #[.int .i64 x] 3)):=(Below.refl _ _).alloc (Nat.le_refl _) _
       generalize hwN:World.alloc t1 (.cells #[.int .i64 x] 3)=t2 at RL bN0 ⊢
       have zN2:=bN0.size
       have bN:=bN0
       clear hwN bN0
       replace HV:=HV.below bN
       replace HS:=HS.trans (bN.mono HS.size)
       refine hK _ _ HS ?_
       clear hK K bN
       try simp only [Act.put,zA,zB,zC]
       refine kW (k:=10) rfl (by kernel_rfl) rfl (fun K hK=>?_)
       have bn3:=HS.size
       obtain ⟨v2,t3,hr,HV2,hbN,zN3⟩:=Rep.kU (P:=Tryz.prog) (t:=84) (ty:=84) (r:=Rep.int) (e:=3) (w:=t2) (B:=wq.heap.size) Tryz.underlying84 infInt rfl (show 0 < 1 by omega) (by decide) Rep.isFlat_int HV RL (fun j hj=>⟨by have:=hj.1;omega,by have:=hj.2;omega⟩) HS.size (by simp;omega)
       refine Rep.wp_append _ _ _ rfl (by rfl) (by rfl) hr ?_
       obtain ⟨a2,n2,c2,hv2,HN2⟩:=HV2.parts
       obtain rfl:=hv2
       replace HS:=HS.trans hbN
       have HV3:=HV2;clear HV;have HV:=HV3;clear HV2 HV3 RL
       refine hK _ _ HS ?_
       clear hK K hr hbN
       try simp only [Act.put,zA,zB,zC]
       refine kW (k:=14) rfl (by kernel_rfl) rfl (fun K hK=>?_)
       have bn4:=HS.size
       obtain ⟨v3,t4,hr,HV2,hbN,zN4⟩:=Rep.kU (P:=Tryz.prog) (t:=84) (ty:=84) (r:=Rep.int) (e:=3) (w:=t3) (B:=wq.heap.size) Tryz.underlying84 infInt rfl (show 0 < 1 by omega) (by decide) Rep.isFlat_int HV ((HDR _).out.below HS) (fun j hj=>⟨hj.1,by have:=hj.2;omega⟩) HS.size (by simp;omega)
       refine Rep.wp_append _ _ _ rfl (by rfl) (by rfl) hr ?_
       obtain ⟨a3,n3,c3,hv3,HN3⟩:=HV2.parts
       obtain rfl:=hv3
       replace HS:=HS.trans hbN
       have HV3:=HV2;clear HV;have HV:=HV3;clear HV2 HV3
       refine hK _ _ HS ?_
       clear hK K hr hbN
       try simp only [Act.put,zA,zB,zC]
       refine kS (k:=15) (v:=?_) rfl (by kernel_rfl) (fun c a d v w h=>by cases d <;> exact h) rfl HS (fun W hW=>?_) ?_
       rotate_left
       · go_simp;try with_reducible rfl
       try simp only [Act.put,zA,zB,zC]
       refine tree_end (by kernel_rfl) ?_
       have HPQ:=hD (Rep.own0.cast HV (show _=Srt.sorted (failOf l n) (fs.take (i + 1)) from by rw [HPUT.out,List.nil_append]))
       have hzz:=HS.size
       have hzw:=hbw.size
       have HFB:=hD (hbw.trans (HS.mono (hbw.size)))
       clear HV HPUT
       go_wp2
       go_roundw
       case rel=>exact ⟨i + 1,by omega,by go_num,hD (HPQ.out.wide (fun j hj=>⟨by have:=hj.1;omega,hj.2⟩)),hbel.trans (HFB.out.mono hbel.size)⟩
       simp [intOf];omega
     have bn1:=HS.size
     go_simp
     have RL:(Rep.slice 3 Rep.int).rd (World.alloc t0 (.cells #[.int .i64 x] 3)) [.slice (some ⟨t0.heap.size,0,none⟩) 1 1] [x]:=((Rep.own0_lit (e:=3) (r:=Rep.int) (w:=t0) (cs:=[.int .i64 x]) (xs:=[x]) (T:=fun _=>True) (S:=fun _=>True) (by intro y hy;rw [List.mem_singleton.1 hy];exact trivial) (by show 1≤_;unfold maxLen;omega) (Rep.row_single (show Rep.int.is true _ [.int .i64 x] x _ from ⟨rfl,frg⟩)) (fun _ h=>h) trivial).own (by show 1≤_;unfold Big;omega)).rd
     have bN0:Below t0.heap.size t0 (World.alloc t0 (.cells #[.int .i64 x] 3)):=(Below.refl _ _).alloc (Nat.le_refl _) _
     generalize hwN:World.alloc t0 (.cells #[.int .i64 x] 3)=t1 at RL bN0 ⊢
     have zN1:=bN0.size
     have bN:=bN0
     clear hwN bN0
     replace HS:=HS.trans (bN.mono HS.size)
     refine hK _ _ HS ?_
     clear hK K bN
     try simp only [Act.put,zA,zB,zC]
     refine kW (k:=4) rfl (by kernel_rfl) rfl (fun K hK=>?_)
     have bn2:=HS.size
     obtain ⟨v1,t2,hr,HV,hbN,zN2⟩:=Rep.kU (P:=Tryz.prog) (t:=84) (ty:=84) (r:=Rep.int) (e:=3) (w:=t1) (v:=.slice (some ⟨wS.heap.size,0,none⟩) 0 0) (xs:=[]) (S:=fun _=>False) (B:=t1.heap.size) Tryz.underlying84 infInt rfl (show 0 < 1 by omega) (by decide) Rep.isFlat_int Rep.own0.void (HTK.out.below HS) (fun _ h=>h.elim) (Nat.le_refl _) (by simp;omega)
     refine Rep.wp_append _ _ _ rfl (by rfl) (by rfl) hr ?_
     obtain ⟨a1,n1,c1,hv1,HN1⟩:=HV.parts
     obtain rfl:=hv1
     replace RL:=RL.below hbN
     replace HS:=HS.trans (hbN.mono HS.size)
     refine hK _ _ HS ?_
     clear hK K hr hbN
     try simp only [Act.put,zA,zB,zC]
     refine kW (k:=10) rfl (by kernel_rfl) rfl (fun K hK=>?_)
     have bn3:=HS.size
     obtain ⟨v2,t3,hr,HV2,hbN,zN3⟩:=Rep.kU (P:=Tryz.prog) (t:=84) (ty:=84) (r:=Rep.int) (e:=3) (w:=t2) (B:=wq.heap.size) Tryz.underlying84 infInt rfl (show 0 < 1 by omega) (by decide) Rep.isFlat_int HV RL (fun j hj=>⟨by have:=hj.1;omega,by have:=hj.2;omega⟩) HS.size (by simp;omega)
     refine Rep.wp_append _ _ _ rfl (by rfl) (by rfl) hr ?_
     obtain ⟨a2,n2,c2,hv2,HN2⟩:=HV2.parts
     obtain rfl:=hv2
     replace HS:=HS.trans hbN
     have HV3:=HV2;clear HV;have HV:=HV3;clear HV2 HV3 RL
     refine hK _ _ HS ?_
     clear hK K hr hbN
     try simp only [Act.put,zA,zB,zC]
     refine kW (k:=14) rfl (by kernel_rfl) rfl (fun K hK=>?_)
     have bn4:=HS.size
     obtain ⟨v3,t4,hr,HV2,hbN,zN4⟩:=Rep.kU (P:=Tryz.prog) (t:=84) (ty:=84) (r:=Rep.int) (e:=3) (w:=t3) (B:=wq.heap.size) Tryz.underlying84 infInt rfl (show 0 < 1 by omega) (by decide) Rep.isFlat_int HV ((HDR _).out.below HS) (fun j hj=>⟨hj.1,by have:=hj.2;omega⟩) HS.size (by simp;omega)
     refine Rep.wp_append _ _ _ rfl (by rfl) (by rfl) hr ?_
     obtain ⟨a3,n3,c3,hv3,HN3⟩:=HV2.parts
     obtain rfl:=hv3
     replace HS:=HS.trans hbN
     have HV3:=HV2;clear HV;have HV:=HV3;clear HV2 HV3
     refine hK _ _ HS ?_
     clear hK K hr hbN
     try simp only [Act.put,zA,zB,zC]
     refine kS (k:=15) (v:=?_) rfl (by kernel_rfl) (fun c a d v w h=>by cases d <;> exact h) rfl HS (fun W hW=>?_) ?_
     rotate_left
     · go_simp;try with_reducible rfl
     try simp only [Act.put,zA,zB,zC]
     refine tree_end (by kernel_rfl) ?_
     have HPQ:=hD (Rep.own0.cast HV (show _=Srt.sorted (failOf l n) (fs.take (i + 1)) from by rw [HPUT.out,List.nil_append]))
     have hzz:=HS.size
     have hzw:=hbw.size
     have HFB:=hD (hbw.trans (HS.mono (hbw.size)))
     clear HV HPUT
     go_wp2
     go_roundw
     case rel=>exact ⟨i + 1,by omega,by go_num,hD (HPQ.out.wide (fun j hj=>⟨by have:=hj.1;omega,hj.2⟩)),hbel.trans (HFB.out.mono hbel.size)⟩
     simp [intOf];omega
   have bn0:=HS.size
   go_simp
   have RL:(Rep.slice 3 Rep.int).rd (World.alloc wS (.cells #[.int .i64 x] 3)) [.slice (some ⟨wS.heap.size,0,none⟩) 1 1] [x]:=((Rep.own0_lit (e:=3) (r:=Rep.int) (w:=wS) (cs:=[.int .i64 x]) (xs:=[x]) (T:=fun _=>True) (S:=fun _=>True) (by intro y hy;rw [List.mem_singleton.1 hy];exact trivial) (by show 1≤_;unfold maxLen;omega) (Rep.row_single (show Rep.int.is true _ [.int .i64 x] x _ from ⟨rfl,frg⟩)) (fun _ h=>h) trivial).own (by show 1≤_;unfold Big;omega)).rd
   have bN0:Below wS.heap.size wS (World.alloc wS (.cells #[.int .i64 x] 3)):=(Below.refl _ _).alloc (Nat.le_refl _) _
   generalize hwN:World.alloc wS (.cells #[.int .i64 x] 3)=t0 at RL bN0 ⊢
   have zN0:=bN0.size
   have bN:=bN0
   clear hwN bN0
   replace HS:=HS.trans (bN.mono HS.size)
   refine hK _ _ HS ?_
   clear hK K bN
   try simp only [Act.put,zA,zB,zC]
   refine kW (k:=0) rfl (by kernel_rfl) rfl (fun K hK=>?_)
   have bn1:=HS.size
   go_simp
   generalize hwN:World.alloc t0 _=t1
   have bN:Below t0.heap.size t0 t1:=by rw [← hwN];exact (Below.refl _ _).alloc (Nat.le_refl _) _
   have zN1:=bN.size
   clear hwN
   replace RL:=RL.below bN
   replace HS:=HS.trans (bN.mono HS.size)
   refine hK _ _ HS ?_
   clear hK K bN
   try simp only [Act.put,zA,zB,zC]
   refine kW (k:=4) rfl (by kernel_rfl) rfl (fun K hK=>?_)
   have bn2:=HS.size
   obtain ⟨v1,t2,hr,HV,hbN,zN2⟩:=Rep.kU (P:=Tryz.prog) (t:=84) (ty:=84) (r:=Rep.int) (e:=3) (w:=t1) (v:=.slice (some ⟨t0.heap.size,0,none⟩) 0 0) (xs:=[]) (S:=fun _=>False) (B:=t1.heap.size) Tryz.underlying84 infInt rfl (show 0 < 1 by omega) (by decide) Rep.isFlat_int Rep.own0.void (HTK.out.below HS) (fun _ h=>h.elim) (Nat.le_refl _) (by simp;omega)
   refine Rep.wp_append _ _ _ rfl (by rfl) (by rfl) hr ?_
   obtain ⟨a1,n1,c1,hv1,HN1⟩:=HV.parts
   obtain rfl:=hv1
   replace RL:=RL.below hbN
   replace HS:=HS.trans (hbN.mono HS.size)
   refine hK _ _ HS ?_
   clear hK K hr hbN
   try simp only [Act.put,zA,zB,zC]
   refine kW (k:=10) rfl (by kernel_rfl) rfl (fun K hK=>?_)
   have bn3:=HS.size
   obtain ⟨v2,t3,hr,HV2,hbN,zN3⟩:=Rep.kU (P:=Tryz.prog) (t:=84) (ty:=84) (r:=Rep.int) (e:=3) (w:=t2) (B:=wq.heap.size) Tryz.underlying84 infInt rfl (show 0 < 1 by omega) (by decide) Rep.isFlat_int HV RL (fun j hj=>⟨by have:=hj.1;omega,by have:=hj.2;omega⟩) HS.size (by simp;omega)
   refine Rep.wp_append _ _ _ rfl (by rfl) (by rfl) hr ?_
   obtain ⟨a2,n2,c2,hv2,HN2⟩:=HV2.parts
   obtain rfl:=hv2
   replace HS:=HS.trans hbN
   have HV3:=HV2;clear HV;have HV:=HV3;clear HV2 HV3 RL
   refine hK _ _ HS ?_
   clear hK K hr hbN
   try simp only [Act.put,zA,zB,zC]
   refine kW (k:=14) rfl (by kernel_rfl) rfl (fun K hK=>?_)
   have bn4:=HS.size
   obtain ⟨v3,t4,hr,HV2,hbN,zN4⟩:=Rep.kU (P:=Tryz.prog) (t:=84) (ty:=84) (r:=Rep.int) (e:=3) (w:=t3) (B:=wq.heap.size) Tryz.underlying84 infInt rfl (show 0 < 1 by omega) (by decide) Rep.isFlat_int HV ((HDR _).out.below HS) (fun j hj=>⟨hj.1,by have:=hj.2;omega⟩) HS.size (by simp;omega)
   refine Rep.wp_append _ _ _ rfl (by rfl) (by rfl) hr ?_
   obtain ⟨a3,n3,c3,hv3,HN3⟩:=HV2.parts
   obtain rfl:=hv3
   replace HS:=HS.trans hbN
   have HV3:=HV2;clear HV;have HV:=HV3;clear HV2 HV3
   refine hK _ _ HS ?_
   clear hK K hr hbN
   try simp only [Act.put,zA,zB,zC]
   refine kS (k:=15) (v:=?_) rfl (by kernel_rfl) (fun c a d v w h=>by cases d <;> exact h) rfl HS (fun W hW=>?_) ?_
   rotate_left
   · go_simp;try with_reducible rfl
   try simp only [Act.put,zA,zB,zC]
   refine tree_end (by kernel_rfl) ?_
   have HPQ:=hD (Rep.own0.cast HV (show _=Srt.sorted (failOf l n) (fs.take (i + 1)) from by rw [HPUT.out,List.nil_append]))
   have hzz:=HS.size
   have hzw:=hbw.size
   have HFB:=hD (hbw.trans (HS.mono (hbw.size)))
   clear HV HPUT
   go_wp2
   go_roundw
   case rel=>exact ⟨i + 1,by omega,by go_num,hD (HPQ.out.wide (fun j hj=>⟨by have:=hj.1;omega,hj.2⟩)),hbel.trans (HFB.out.mono hbel.size)⟩
   simp [intOf];omega
 obtain rfl:i=fs.length:=by omega
 have hz2:=HO.out
 rw [List.take_length] at hz2
 have HO2:=hD hz2;clear hz2
 go_wp2
 go_ret
 exact ⟨_,rfl,HO2.out.own (by show (rankF l n fs).length≤Big;rw [rankF_len];unfold Big;omega),EB.trans (hbel.mono EB.size)⟩
end Go.Proofs.YtomdenfcfbkfbaaGreat
