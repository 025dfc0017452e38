/-
  Owned slices at their block's head: a store into an element; two parts appended to a new slice. No program in sight.
  Slices that stand at the head of their own block, as parts of data; an owned list, one of whose elements gets another part. No program in sight.
  Pending interests copied, the requesters at the head of their own blocks.
-/
import Derived.Test.YtomdenfcfbkfbaaGreatSoft2
import Derived.Test.YtomdenfcfbkfbaaGreatTypes
import Derived.Test.YtomdenfcfbkfbaaGreatBase
import Derived.Test.YtomdenfcfbkfbaaGreatCopyP
import Derived.Test.YtomdenfcfbkfbaaGreatClone
import Derived.IntWalk
namespace Go.Proofs.YtomdenfcfbkfbaaGreat
open Go.RowKit
set_option linter.unusedVariables false
set_option linter.unusedSimpArgs false
set_option linter.unnecessarySimpa false
namespace Rep
section
variable {α:Type} {r:Rep α} {e:TypeId} {w w' u:World} {v:Value} {b cap len n:Nat} {kept rest xs:List α} {j i:Nat} {x:α} {S T:Nat→Prop}
theorem own0_addr (h:own0 e r w v xs S) (hi:i < xs.length):∃ b cap,v=.slice (some ⟨b,0,none⟩) xs.length cap∧S b∧b < w.heap.size∧xs.length≤cap∧cap≤9223372036854775807:=by
 obtain ⟨hb,h⟩:=h
 rcases h with ⟨⟨a,rfl⟩,rfl⟩|⟨b,cap,cur,cs,tl,rfl,h1,h2,h3,h4,h5,h6,h7⟩
 · simp at hi
 exact ⟨b,cap,rfl,h6,(Array.getElem?_eq_some_iff.1 h3).1,h1,by unfold maxLen at h2;omega⟩
theorem own0_size (h:own0 e r w (.slice (some ⟨b,0,none⟩) len cap) xs S) (hi:0 < xs.length):∃ cur,w.heap[b]?=some (.cells cur e (0,0))∧cur.size=cap * r.n:=by
 obtain ⟨hb,h⟩:=h
 rcases h with ⟨⟨a,h0⟩,rfl⟩|⟨b,cap,cur,cs,tl,h0,h1,h2,h3,h4,h5,h6,h7⟩
 · simp at hi
 simp only [Value.slice.injEq,Option.some.injEq,Addr.mk.injEq,and_true] at h0
 obtain ⟨rfl,rfl,rfl⟩:=h0
 exact ⟨cur,h3,h5⟩
theorem own_own0 (h:(slice e r).own w [.slice (some ⟨b,0,none⟩) len cap] xs S) (hne:0 < xs.length) {cur:Array Value} (hc:w.heap[b]?=some (.cells cur e (0,0))) (hs:cur.size=cap * r.n) :
    own0 e r w (.slice (some ⟨b,0,none⟩) len cap) xs S:=by
 obtain ⟨h1,h2,h3,h4,h5,hd,cs,tl,h6,h7,h8,h9,h10⟩:=own_open h hne
 obtain rfl:hd=[]:=List.eq_nil_of_length_eq_zero h7
 rw [hc] at h6
 simp only [Option.some.injEq,Obj.cells.injEq,and_true] at h6
 subst h6
 exact ⟨h5,.inr ⟨b,cap,_,cs,tl,by rw [h1],by omega,h3,hc,by simp,hs,h9,h10⟩⟩
theorem own0.raw0 (h:own0 e r w v xs S):(slice e r).raw w [v] xs:=by
 obtain ⟨hb,h⟩:=h
 have k:(slice e r).is true w [v] xs S:=by
  rcases h with ⟨⟨a,rfl⟩,rfl⟩|⟨b,cap,cur,cs,tl,rfl,h1,h2,h3,h4,h5,h6,h7⟩
  · exact ⟨a,0,0,rfl,rfl,Nat.le_refl _,Nat.zero_le _,.inl ⟨rfl,fun _=>rfl⟩⟩
  exact ⟨_,_,cap,rfl,rfl,h1,h2,.inr ⟨b,0,rfl,cur,e,(0,0),[],cs,tl,h3,by simpa using h4,rfl,by omega,fun _=>⟨rfl,rfl⟩,h6,row_wide h7 (fun k hk=>⟨hk.1,fun _=>hk.2⟩)⟩⟩
 exact (slice e r).wide ((slice e r).weak k) (fun _ _=>trivial)
theorem own0_setCell {j p:Nat} {y:α} {u:Value} (h:own0 e r w (.slice (some ⟨b,0,none⟩) len cap) xs S) (hl:xs.length≤Big) (hi:i < xs.length) (hj:j < r.n)
    (hy:∀ {w:World} {cs:List Value} {S:Nat→Prop},r.is true w cs xs[i] S→r.is true w (cs.set j u) y S) (hby:r.bdd Big y) (hp:p=i * r.n + j) :
    own0 e r (w.setCell ⟨b,p,none⟩ u) (.slice (some ⟨b,0,none⟩) len cap) (xs.set i y) S∧Touch (fun k=>k=b) w (w.setCell ⟨b,p,none⟩ u):=by
 obtain ⟨cur,hc,hs⟩:=own0_size h (by omega)
 obtain ⟨h1,h2⟩:=own_setCell (h.own hl) hi hj hy hby
 rw [Nat.zero_add,← hp] at h1 h2
 have h3:=heap_setCell_same w b p cur e u hc
 exact ⟨own_own0 h1 (by simpa using (by omega:0 < xs.length)) h3 (by simpa using hs),h2⟩
theorem own0_frozen (h:own0 e r w (.slice (some ⟨b,0,none⟩) len cap) xs S) (hi:0 < xs.length) (q:Nat):w.frozen? ⟨b,q,none⟩=false:=by
 obtain ⟨cur,hc,_⟩:=own0_size h hi
 exact frozen_of_row w b q _ _ hc
end
end Rep
end Go.Proofs.YtomdenfcfbkfbaaGreat
namespace Go.Proofs.YtomdenfcfbkfbaaGreat
open Go.RowKit
set_option linter.unusedVariables false
set_option linter.unusedSimpArgs false
set_option linter.unnecessarySimpa false
namespace Rep
section
variable {α β:Type} {r q:Rep α} {e:TypeId} {w w':World} {v:Value} {xs:List α} {S T:Nat→Prop}
def headed (e:TypeId) (n:Nat) (w:World) (cs:List Value):Prop :=
  ∀ a len cap,cs=[.slice a len cap]→(len=0∧cap=0)∨∃ b cur,a=some ⟨b,0,none⟩∧w.heap[b]?=some (.cells cur e (0,0))∧cur.size=cap * n
theorem headed_keep {cs:List Value} (h:(slice e r).is true w cs xs S) (hh:headed e r.n w cs) (k:∀ k,S k→w'.heap[k]?=w.heap[k]?):headed e r.n w' cs:=by
 intro a len cap hc
 rcases hh a len cap hc with h1|⟨b,cur,rfl,h2,h3⟩
 · exact .inl h1
 obtain ⟨a',len',cap',h0,h4,h5,h6,h7⟩:=h
 rw [hc] at h0
 simp only [List.cons.injEq,Value.slice.injEq,and_true] at h0
 obtain ⟨rfl,rfl,rfl⟩:=h0
 rcases h7 with ⟨h8,h9⟩|⟨b',off,hb,cur',e',fr,hd,cs',tl,g1,g2,g3,g4,g5,g6,g7⟩
 · have:=h9 rfl;exact .inl ⟨by omega,this⟩
 simp only [Option.some.injEq,Addr.mk.injEq,and_true] at hb
 obtain ⟨rfl,rfl⟩:=hb
 exact .inr ⟨b,cur,rfl,(k b g6).trans h2,h3⟩
def slice0 {α:Type} (e:TypeId) (r:Rep α):Rep (List α) :=
  { slice e r with
    is:=fun o w cs xs S=>(slice e r).is o w cs xs S∧(o=true→headed e r.n w cs)
    len:=fun h=>(slice e r).len h.1
    one:=fun h=>(slice e r).one h.1
    mono:=by
      intro o w w' cs xs S h k
      refine ⟨(slice e r).mono h.1 k,fun ho=>?_⟩
      subst ho
      exact headed_keep h.1 (h.2 rfl) k
    wide:=fun h k=>⟨(slice e r).wide h.1 k,h.2⟩
    weak:=fun h=>⟨(slice e r).weak h.1,fun q=>by cases q⟩
    live:=fun h=>⟨(slice e r).live h.1,h.2⟩
    is_zero:=⟨(slice e r).is_zero,fun _ a len cap h=>by
      have h':([.slice none 0 0]:List Value)=[.slice a len cap]:=h
      simp only [List.cons.injEq,Value.slice.injEq,and_true] at h'
      exact .inl ⟨h'.2.1.symm,h'.2.2.symm⟩⟩ }
theorem own0.own0h (h:own0 e r w v xs S) (hl:xs.length≤Big):(slice0 e r).own w [v] xs S:=by
 have h1:=h.own hl
 refine ⟨⟨h1.1,fun _ a len cap hc=>?_⟩,h1.2⟩
 obtain ⟨hb,h⟩:=h
 simp only [List.cons.injEq,and_true] at hc
 rcases h with ⟨⟨a',rfl⟩,rfl⟩|⟨b,cap',cur,cs,tl,rfl,g1,g2,g3,g4,g5,g6,g7⟩
 · simp only [Value.slice.injEq] at hc;exact .inl ⟨hc.2.1.symm,hc.2.2.symm⟩
 simp only [Value.slice.injEq] at hc
 obtain ⟨rfl,rfl,rfl⟩:=hc
 exact .inr ⟨b,cur,rfl,g3,g5⟩
theorem own0_of (h:(slice0 e r).own w [v] xs S):own0 e r w v xs S:=by
 obtain ⟨⟨⟨a,len,cap,hv,rfl,h2,h3,h4⟩,hh⟩,hl,hb⟩:=h
 simp only [List.cons.injEq,and_true] at hv
 subst hv
 refine ⟨hb,?_⟩
 rcases h4 with ⟨rfl,h5⟩|⟨b,off,rfl,cur,e',fr,hd,cs,tl,g1,g2,g3,g4,g5,g6,g7⟩
 · exact .inl ⟨⟨a,by rw [h5 rfl];rfl⟩,rfl⟩
 rcases hh rfl _ _ _ rfl with ⟨k1,k2⟩|⟨b',cur',k1,k2,k3⟩
 · have:xs=[]:=List.length_eq_zero_iff.1 k1
   subst this;subst k2
   exact .inl ⟨⟨_,rfl⟩,rfl⟩
 simp only [Option.some.injEq,Addr.mk.injEq,and_true] at k1
 obtain ⟨rfl,rfl⟩:=k1
 rw [g1] at k2
 simp only [Option.some.injEq,Obj.cells.injEq] at k2
 obtain ⟨rfl,rfl,rfl⟩:=k2
 have:hd=[]:=List.length_eq_zero_iff.1 g3
 subst this
 exact .inr ⟨b,cap,cur,cs,tl,rfl,h2,h3,g1,by simpa using g2,k3,g6,row_wide g7 (fun k hk=>⟨hk.1,hk.2 rfl⟩)⟩
theorem row_to (hn:∀ {cs:List Value} {x:α} {S:Nat→Prop},r.is true w cs x S→q.is true w cs x S):∀ {cells:List Value} {ys:List α} {S:Nat→Prop},row r true w cells ys S→row q true w cells ys S
  | _,[],_,h=>h
  | _,y :: ys,_,⟨c,d,A,B,h,h1,h2,hA,hB,hd⟩=>⟨c,d,A,B,h,hn h1,row_to hn h2,hA,hB,hd⟩
theorem own0.to (hn:∀ {cs:List Value} {x:α} {S:Nat→Prop},r.is true w cs x S→q.is true w cs x S) (hb:∀ x,r.bdd Big x→q.bdd Big x) (hq:q.n=r.n) (h:own0 e r w v xs S):own0 e q w v xs S:=by
 obtain ⟨h0,h⟩:=h
 refine ⟨fun x hx=>hb x (h0 x hx),?_⟩
 rcases h with h|⟨b,cap,cur,cs,tl,g0,g1,g2,g3,g4,g5,g6,g7⟩
 · exact .inl h
 exact .inr ⟨b,cap,cur,cs,tl,g0,g1,g2,g3,g4,by rw [hq];exact g5,g6,row_to hn g7⟩
end
end Rep
def RPend0:Rep kP:=Rep.pair RName (Rep.pair (Rep.slice0 81 kM) Rep.int)
end Go.Proofs.YtomdenfcfbkfbaaGreat
namespace Go.Proofs.YtomdenfcfbkfbaaGreat
open Go.RowKit
set_option linter.unusedVariables false
set_option linter.unusedSimpArgs false
set_option linter.unnecessarySimpa false
set_option maxRecDepth 100000 in
set_option maxHeartbeats 1000000 in
theorem Clone_Requester_o {w:World} {va:Value} {x:List LRequester} (ha:(Rep.slice 81 kM).rd w [va] x):Calls Tryz.prog 192 #[va] w (Made0 81 kM x w):=by
 obtain ⟨aa,capa,hva,la⟩:=Rep.kR ha.1;obtain rfl:va=_:=by simpa using hva
 clear hva
 have HA:=hD ha
 have hnil:=fun (W:World) (a:Option Addr) (n c:Nat)=>Lib.run_eql_slice_nil (P:=Tryz.prog) W 75 81 a n c 0 0 Tryz.underlying75
 cases aa with
 | none =>
   have hx:x=[]:=by
     cases x with
     | nil=>rfl
     | cons y ys =>
       obtain ⟨b,off,h,_⟩:=Rep.get_raw ha.1 (i:=0) (by simp)
       cases h
   subst hx
   clear ha
   go_enter Tryz.func192,Tryz.ntmps192
   go_wp2
   go_ret
   exact ⟨_,rfl,Rep.own0.void,Below.refl _ _⟩
 | some a =>
   have hb:x.length≤16777216:=ha.2.1
   clear ha
   go_enter Tryz.func192,Tryz.ntmps192
   have O0:Rep.own0 81 kM (w.alloc (.cells #[] 81)) (.slice (some ⟨w.heap.size,0,none⟩) 0 0) [] (fun k=>k=w.heap.size):=Rep.own0_lit (cs:=[]) (xs:=[]) (T:=fun _=>False) (by simp) (by simp) rfl (fun _ h=>h.elim) rfl
   go_wp2_with (at_builtin;refine Rep.wpList_pushN rfl _ _ 75 rfl (r:=kM) (e:=81) Tryz.underlying75 infRequester rfl (by decide) (by decide) flatRequester (B:=w.heap.size) O0 (by rfl) (by rfl) (HA.out.alloc _) (fun k hk=>⟨by omega,by simp;omega⟩) (by simp) (by simp;omega) ?_)
   intro v2 w2 hown hbel hz
   have HO:=hD hown
   obtain ⟨a2,c2,hv⟩:=hown.none_iff
   obtain rfl:=hv
   have EG:Below w.heap.size w w2:=Below.trans (by repeat (first|(with_reducible exact Below.refl _ _) | refine Below.alloc ?_ (by simp;try omega) _ | refine Below.drew ?_ | refine Below.setCell ?_ (by simp;try omega) _)) hbel
   clear hown O0 hbel
   go_wp2
   go_ret
   exact ⟨_,rfl,by simpa using HO.out,EG⟩
set_option maxRecDepth 100000 in
set_option maxHeartbeats 2000000 in
theorem implcopyPending_0 {w:World} {vl:Value} {l:List kP} (hl:(Rep.slice 77 kH).rd w [vl] l) :
    Calls Tryz.prog 127 #[vl] w (Made0 77 RPend0 l w):=by
 have HL:=hD hl
 obtain ⟨la,lp,lh,ll⟩:=Rep.kR hl.1;obtain rfl:vl=_:=by simpa using lh
 have hlb:l.length≤16777216:=hl.2.1
 clear lh hl
 go_enter Tryz.func127,Tryz.ntmps127
 go_wp2
 have O0:Rep.own0 77 RPend0 (w.alloc (.cells #[] 77)) (.slice (some ⟨w.heap.size,0,none⟩) 0 0) [] (Btw w.heap.size (w.alloc (.cells #[] 77)).heap.size) :=
   Rep.own0_lit (e:=77) (r:=RPend0) (w:=w) (cs:=[]) (xs:=[]) (T:=fun _=>False) (by simp) (by simp) rfl (fun _ h=>h.elim) ⟨Nat.le_refl _,by simp⟩
 go_loopw [3,9] (fun v i wr=>∃ k:Nat,k≤l.length∧i=.int .i64 k∧Hid (Rep.own0 77 RPend0 wr v (l.take k) (Btw w.heap.size wr.heap.size))∧Below w.heap.size w wr) (fun _ i _=>l.length - (intOf i).toNat)
 case atStart=>exact ⟨0,Nat.zero_le _,rfl,hD O0,(Below.refl _ _).alloc (Nat.le_refl _) _⟩
 clear O0
 obtain ⟨k,hk,rfl,HO,hbel⟩:=hrel
 obtain ⟨oa,on,oc,ho,HON⟩:=HO.out.parts;obtain rfl:=ho
 have hlk:(l.take k).length≤k:=by simp;omega
 by_cases hlt:k < l.length
 · obtain ⟨qb,qo,rfl,qc0,qc1,qc2,qr,Aq0,Aq1,Aq2⟩:=Rep.get3 (HL.out.1.below hbel) hlt rfl
   have hbd:=Rep.raw_bdd HL.out hlt
   have hsn:=List.take_succ_eq_append_getElem hlt
   generalize l[k]=x at *
   have HSN:=hD hsn;clear hsn
   obtain ⟨x0,x1,x2⟩:=x
   obtain ⟨qv0,qv1,qhe,q_0,q_1,q_2,q_3⟩:=RPendingInterest_raw qr
   simp only [List.cons.injEq,and_true] at qhe
   obtain ⟨rfl,rfl,rfl⟩:=qhe
   obtain ⟨qa0,qp0,qh0,ql0⟩:=Rep.kR q_1;obtain rfl:qc0=_:=by simpa using qh0
   clear qh0
   obtain ⟨qa1,qp1,qh1,ql1⟩:=Rep.kR q_2;obtain rfl:qc1=_:=by simpa using qh1
   clear qh1
   have px0:RName.rd wr _ x0:=⟨q_0,hbd.1⟩
   have px1:(Rep.slice 81 kM).rd wr _ x1:=⟨q_2,hbd.2.1⟩
   go_upto_region 5 with fail
   generalize hwC:World.alloc wr _=wC
   have EC:Below wr.heap.size wr wC:=by rw [← hwC];exact (Below.refl _ _).alloc (Nat.le_refl _) _
   have hzC:wC.heap.size=wr.heap.size + 1:=by rw [← hwC];simp
   have M0:wC.cell? ⟨wr.heap.size,0,none⟩=some (.slice qa0 (x0).length qp0):=by rw [← hwC];simp [go_sem]
   have M1:wC.cell? ⟨wr.heap.size,1,none⟩=some (.slice qa1 (x1).length qp1):=by rw [← hwC];simp [go_sem]
   have M2:wC.cell? ⟨wr.heap.size,2,none⟩=some (.int .i64 x2):=by rw [← hwC];simp [go_sem]
   clear hwC
   refine wp_region_softP_tail (fun W=>Below wC.heap.size wC W) [(0,true),(1,true),(2,true),(4,true),(5,true),(7,true),(8,true),(3,false),(6,false),(9,true),(10,false)] (by kernel_rfl) (by kernel_rfl) (fun c a d v w h=>by cases d <;> exact h) ((Below.refl _ _).drew) ?_
   intro wS HS
   simp only [pickOps,List.length_cons,List.length_nil,List.getElem?_cons_succ,List.getElem?_cons_zero,List.map_cons,List.map_nil,List.cons_append,List.nil_append,List.drop_succ_cons,List.drop_zero]
   iterate 2
    all_goals first|(refine kC rfl HS ?_)|(refine kD (v:=?_) rfl (fun W hW=>?_) ?_;rotate_left;(· go_simp;try with_reducible rfl))
    all_goals try simp only [Act.put,zA,zB,zC]
   iterate 2
    all_goals first|(refine kC rfl HS ?_)|(refine kD (v:=?_) rfl (fun W hW=>?_) ?_;rotate_left;(· have A_M0:=cL hW M0;have A_M1:=cL hW M1;have A_M2:=cL hW M2;clear hW;go_simp;try with_reducible rfl))
    all_goals try simp only [Act.put,zA,zB,zC]
    all_goals first|(refine kC rfl HS ?_)|(refine kD (v:=?_) rfl (fun W hW=>?_) ?_;rotate_left;(· go_simp;try with_reducible rfl))
    all_goals try simp only [Act.put,zA,zB,zC]
   all_goals first|(refine kC rfl HS ?_)|(refine kD (v:=?_) rfl (fun W hW=>?_) ?_;rotate_left;(· have A_M0:=cL hW M0;have A_M1:=cL hW M1;have A_M2:=cL hW M2;clear hW;go_simp;try with_reducible rfl))
   all_goals try simp only [Act.put,zA,zB,zC]
   all_goals first|(refine kC rfl HS ?_)|(refine kF rfl (fun K hK=>?_);go_simp;refine (implcopyName_c (px0.below (EC.trans (HS.mono EC.size)))).mono ?_;rintro e wT0 ⟨t0_c,rfl,OT0,hbT⟩;obtain ⟨t0_qv0,rfl,t0_q_0⟩:=RName_raw OT0.raw;obtain ⟨t0_qa0,t0_qp0,t0_qh0,t0_ql0⟩:=Rep.kR t0_q_0;obtain rfl:t0_qv0=_:=(by simpa using t0_qh0);clear t0_qh0;clear t0_q_0;replace OT0:=hD OT0;have hs0:=hbT.size;have hr0:=HS.size;replace HS:=HS.trans (hbT.mono HS.size);refine hK _ _ HS ?_;clear hK K hbT)
   all_goals try simp only [Act.put,zA,zB,zC]
   all_goals first|(refine kC rfl HS ?_)|(refine kF rfl (fun K hK=>?_);go_simp;refine (Clone_Requester_o (px1.below (EC.trans (HS.mono EC.size)))).mono ?_;rintro e wT1 ⟨t1_v,rfl,OT1,hbT⟩;obtain ⟨t1_a,t1_p,t1_h,_⟩:=Rep.kR OT1.raw0;obtain rfl:t1_v=_:=(by simpa using t1_h);clear t1_h;replace OT1:=hD OT1;have hs1:=hbT.size;have hr1:=HS.size;replace OT0:=hD (OT0.out.below hbT);replace HS:=HS.trans (hbT.mono HS.size);refine hK _ _ HS ?_;clear hK K hbT)
   all_goals try simp only [Act.put,zA,zB,zC]
   all_goals first|(refine kC rfl HS ?_)|(refine kD (v:=?_) rfl (fun W hW=>?_) ?_;rotate_left;(· go_simp;try with_reducible rfl))
   all_goals try simp only [Act.put,zA,zB,zC]
   all_goals first|(refine kC rfl HS ?_)|(refine kF rfl (fun K hK=>?_);go_simp;refine hK _ _ (HS.alloc HS.size _) ?_;clear hK K)
   all_goals try simp only [Act.put,zA,zB,zC]
   all_goals refine soft_rest ?_
   have hsW:=HS.size
   have hsC:=EC.size
   have hrC:=hbel.size
   have hbS:Below wr.heap.size wr _:=EC.trans (HS.mono EC.size)
   replace HO:=hD (HO.out.below hbS)
   have hbW:=hbel.trans (hbS.mono hbel.size)
   go_wp2_with (at_builtin;refine Rep.wpList_pushB rfl _ _ 37 rfl (r:=RPend0) (e:=77) Tryz.underlying37 infPendingInterest rfl (by decide) (by decide) (B:=w.heap.size) HO.out (by rfl) (by rfl) rfl (Rep.own.wide (T:=Btw wr.heap.size wT1.heap.size) (Rep.own_pair (S:=Btw (wS.heap.size) (wT1.heap.size)) (OT0.out) (Rep.own_flat (OT1.out.own0h px1.2.1) (Rep.flat_int q_3)) (fun j hj=>⟨by have:=hj.1;omega,by have:=hj.2;omega⟩) (fun j hj=>⟨by have:=hj.1;omega,by have:=hj.2;omega⟩) (fun j h1 h2=>by have p:=h1.2;have q:=h2.1;omega)) (fun j hj=>⟨by have:=hj.1;omega,by have:=hj.2;omega⟩)) rfl (fun j h1 h2=>by have p:=h1.2;have q:=h2.1;omega) (fun j hj=>⟨hj.1,by have:=hj.2;omega⟩) (fun j hj=>⟨by have:=hj.1;omega,by have:=hj.2;omega⟩) (by omega) (by first | omega|(simp;omega)) ?_)
   intro v2 w2 hown2 hbel2 hz2
   replace hown2:=Rep.own0.cast hown2 (HSN.out.symm)
   have HO2:=hD hown2
   have hbel3:=hbW.trans hbel2
   clear hown2 HO hbel2
   go_wp2
   go_roundw
   case rel=>exact ⟨k + 1,by omega,by go_num,HO2,hbel3⟩
   simp [intOf];omega
 obtain rfl:k=l.length:=by omega
 go_wp2
 go_ret
 exact ⟨_,rfl,Rep.own0.cast HO.out (by simp),hbel⟩
end Go.Proofs.YtomdenfcfbkfbaaGreat
