/-
  Pending interests copied, the requesters at the head of their own blocks.
  An interest that is valid.
  An owned slice, one of whose elements gets a part that is owned elsewhere. No program in sight.
  A region that draws its order, where two operations may come up at one time: both ways are walked. No program in sight.
-/
import Derived.Test.YtpgnbablhdknnaaCopyP
import Derived.Test.YtpgnbablhdknnaaHead
set_option linter.unusedVariables false
set_option linter.unusedSimpArgs false
set_option linter.unnecessarySimpa false
set_option maxRecDepth 100000
set_option maxHeartbeats 4000000
namespace Go.Proofs.Ytpgnbablhdknnaa
open Go.RowKit
theorem kEw {w:World} {va:Value} {x:List kH} (ha:(Rep.slice 56 kF).rd w [va] x):Calls Try.prog 76 #[va] w (kFz 56 kF x w):=by
 obtain ⟨aa,capa,rfl,la⟩:=Rep.sl ha.1
 have HA:=yD ha
 have hnil:=fun (W:World) (a:Option Addr) (n c:Nat)=>Lib.run_eql_slice_nil (P:=Try.prog) W 36 56 a n c 0 0 Try.underlying36
 cases aa with
 | none =>
   have hx:x=[]:=by
     cases x with
     | nil=>rfl
     | cons y ys =>
       obtain ⟨b,off,h,_⟩:=Rep.kCx ha.1 (i:=0) gW
       cases h
   subst hx
   clear ha
   go_enter Try.func76,Try.ntmps76
   go_wp2
   go_ret
   exact ⟨_,rfl,Rep.kT.void,bR⟩
 | some a =>
   have hb:x.length≤16777216:=ha.2.1
   clear ha
   go_enter Try.func76,Try.ntmps76
   have O0:Rep.kT 56 kF (w.alloc (.cells #[] 56)) (.slice (some ⟨w.heap.size,0,none⟩) 0 0) [] (fun k=>k=w.heap.size):=Rep.jf (cs:=[]) (xs:=[]) (T:=fun _=>False) gW gW rfl (fun _ h=>h.elim) rfl
   go_wp2_with (at_builtin;refine Rep.jv rfl _ _ 36 rfl (r:=kF) (e:=56) Try.underlying36 jC rfl gU gU yB (B:=w.heap.size) O0 gX gX (HA.out.alloc _) dG gW gQ ?_)
   intro v2 w2 hown hbel hz
   have HO:=yD hown
   obtain ⟨a2,c2,hv⟩:=hown.zO
   obtain rfl:=hv
   have EG:Below w.heap.size w w2:=Below.trans bB hbel
   clear hown O0 hbel
   go_wp2
   go_ret
   exact ⟨_,rfl,by simpa using HO.out,EG⟩
theorem kAk {w:World} {vl:Value} {l:List kD} (hl:(Rep.slice 67 kE).rd w [vl] l) :
    Calls Try.prog 34 #[vl] w (kFz 67 yF l w):=by
 have HL:=yD hl
 obtain ⟨la,lp,rfl,ll⟩:=Rep.sl hl.1
 have hlb:l.length≤16777216:=hl.2.1
 clear hl
 go_enter Try.func34,Try.ntmps34
 go_wp2
 have O0:Rep.kT 67 yF (w.alloc (.cells #[] 67)) (.slice (some ⟨w.heap.size,0,none⟩) 0 0) [] (Btw w.heap.size (w.alloc (.cells #[] 67)).heap.size) :=
   Rep.jf (e:=67) (r:=yF) (w:=w) (cs:=[]) (xs:=[]) (T:=fun _=>False) gW gW rfl (fun _ h=>h.elim) ⟨Nat.le_refl _,by simp⟩
 go_loopw [3,9] (fun v i wr=>∃ k:Nat,k≤l.length∧i=.int .i64 k∧Hid (Rep.kT 67 yF wr v (l.take k) (Btw w.heap.size wr.heap.size))∧Below w.heap.size w wr) (fun _ i _=>l.length - (intOf i).toNat)
 case atStart=>exact ⟨0,Nat.zero_le _,rfl,yD O0,bR.alloc nL _⟩
 clear O0
 obtain ⟨k,hk,rfl,HO,hbel⟩:=hrel
 obtain ⟨oa,on,oc,ho,HON⟩:=HO.out.parts;obtain rfl:=ho
 have hlk:(l.take k).length≤k:=gQ
 by_cases hlt:k < l.length
 · obtain ⟨qb,qo,rfl,qc0,qc1,qc2,qr,Aq0,Aq1,Aq2⟩:=Rep.yP (HL.out.1.below hbel) hlt rfl
   have hbd:=Rep.zg HL.out hlt
   have hsn:=List.take_succ_eq_append_getElem hlt
   generalize l[k]=x at *
   have HSN:=yD hsn;clear hsn
   obtain ⟨x0,x1,x2⟩:=x
   obtain ⟨qv0,qv1,qhe,q_0,q_1,q_2,q_3⟩:=kM qr
   simp only [List.cons.injEq,and_true] at qhe
   obtain ⟨rfl,rfl,rfl⟩:=qhe
   obtain ⟨qa0,qp0,rfl,ql0⟩:=Rep.sl q_1
   obtain ⟨qa1,qp1,rfl,ql1⟩:=Rep.sl q_2
   have px0:kZ.rd wr _ x0:=⟨q_0,hbd.1⟩
   have px1:(Rep.slice 56 kF).rd wr _ x1:=⟨q_2,hbd.2.1⟩
   go_upto_region 5 with fail
   generalize hwC:World.alloc wr _=wC
   have EC:Below wr.heap.size wr wC:=dI
   have hzC:wC.heap.size=wr.heap.size + 1:=by rw [← hwC];simp
   have M0:wC.cell? ⟨wr.heap.size,0,none⟩=some (.slice qa0 (x0).length qp0):=dY
   have M1:wC.cell? ⟨wr.heap.size,1,none⟩=some (.slice qa1 (x1).length qp1):=dY
   have M2:wC.cell? ⟨wr.heap.size,2,none⟩=some (.int .i64 x2):=dY
   clear hwC
   have FX:=yD (fun (W:World) (hW:Below wC.heap.size wC W)=>cLs3 hW M0 M1 M2)
   refine jT (fun W=>Below wC.heap.size wC W) [(0,true),(1,true),(2,true),(4,true),(5,true),(7,true),(8,true),(3,false),(6,false),(9,true),(10,false)] gP gP bX (bR.drew) ?_
   intro wS HS
   simp only [kg,List.length_cons,List.length_nil,List.getElem?_cons_succ,List.getElem?_cons_zero,List.map_cons,List.map_nil,List.cons_append,List.nil_append,List.drop_succ_cons,List.drop_zero]
   iterate 7
    all_goals refine wkR ?_
   all_goals first|(refine kG rfl HS ?_)|(refine kQ rfl (fun K hK=>?_);go_simp;refine (yh (px0.below (tQ EC HS))).mono ?_;rintro e wT0 ⟨t0_c,rfl,OT0,hbT⟩;obtain ⟨t0_qv0,rfl,t0_q_0⟩:=kY OT0.raw;obtain ⟨t0_qa0,t0_qp0,rfl,t0_ql0⟩:=Rep.sl t0_q_0;skip;clear t0_q_0;replace OT0:=yD OT0;have hs0:=hbT.size;have hr0:=HS.size;replace HS:=(tQ HS hbT);refine hK _ _ HS ?_;clear hK K hbT)
   all_goals refine wkP ?_
   all_goals first|(refine kG rfl HS ?_)|(refine kQ rfl (fun K hK=>?_);go_simp;refine (kEw (px1.below (tQ EC HS))).mono ?_;rintro e wT1 ⟨t1_v,rfl,OT1,hbT⟩;obtain ⟨t1_a,t1_p,rfl,_⟩:=Rep.sl OT1.raw0;skip;replace OT1:=yD OT1;have hs1:=hbT.size;have hr1:=HS.size;replace OT0:=yD (OT0.out.below hbT);replace HS:=(tQ HS hbT);refine hK _ _ HS ?_;clear hK K hbT)
   all_goals refine wkP ?_
   all_goals refine wkR ?_
   all_goals first|(refine kG rfl HS ?_)|(refine kQ rfl (fun K hK=>?_);go_simp;refine hK _ _ (HS.alloc HS.size _) ?_;clear hK K)
   all_goals refine wkP ?_
   all_goals refine jb ?_
   have hsW:=HS.size
   have hsC:=EC.size
   have hrC:=hbel.size
   have hbS:Below wr.heap.size wr _:=(tQ EC HS)
   replace HO:=yD (HO.out.below hbS)
   have hbW:=(tQ hbel hbS)
   go_wp2_with (at_builtin;refine Rep.jH rfl _ _ 24 rfl (r:=yF) (e:=67) Try.underlying24 kV rfl gU gU (B:=w.heap.size) HO.out gX gX rfl (Rep.own.wide (T:=Btw wr.heap.size wT1.heap.size) (Rep.jV (S:=Btw (wS.heap.size) (wT1.heap.size)) (OT0.out) (Rep.jm (OT1.out.own0h px1.2.1) (Rep.kW q_3)) bK bK bM) bK) rfl bM dC bK gV dW ?_)
   intro v2 w2 hown2 hbel2 hz2
   replace hown2:=Rep.kT.cast hown2 (HSN.out.symm)
   have HO2:=yD hown2
   have hbel3:=hbW.trans hbel2
   clear hown2 HO hbel2
   go_wp2
   go_roundw
   case rel=>exact ⟨k + 1,by omega,by go_num,HO2,hbel3⟩
   simp [intOf];omega
 obtain rfl:k=l.length:=gV
 go_wp2
 go_ret
 exact ⟨_,rfl,Rep.kT.cast HO.out gW,hbel⟩
def yg (x:kr):Bool:=(((yX x.1 && decide (0 < x.1.length)) && inR x.2.1 0 1000000) && inR x.2.2.1 0 16) && inR x.2.2.2 1 20
theorem zZ {w:World} {cx:List Value} {x:kr} (hx:jl.raw w cx x) :
    Calls Try.prog 46 #[.agg cx.toArray] w fun e w'=>e=.returned (.bool (yg x))∧Below w.heap.size w w':=by
 have Hx:=yD hx
 obtain ⟨fxv0,rfl,fx_0,fx_1,fx_2,fx_3,fx_4⟩:=jZ hx
 obtain ⟨fxa0,fxp0,rfl,fxl0⟩:=Rep.sl fx_1
 go_enter Try.func46,Try.ntmps46
 go_upto_region 1 with fail
 generalize hwB:World.alloc w _=wB
 have EB:Below w.heap.size w wB:=by rw [← hwB];exact bB
 have K1_0:wB.cell? ⟨w.heap.size,0,none⟩=some (.slice fxa0 (x.1).length fxp0):=dX
 have K1_1:wB.cell? ⟨w.heap.size,1,none⟩=some (.int .i64 x.2.1):=dX
 have K1_2:wB.cell? ⟨w.heap.size,2,none⟩=some (.int .i64 x.2.2.1):=dX
 have K1_3:wB.cell? ⟨w.heap.size,3,none⟩=some (.int .i64 x.2.2.2):=dX
 clear hwB
 have FX:=yD (fun (W:World) (hW:Below wB.heap.size wB W)=>zi hW K1_0 K1_1 K1_2 K1_3)
 refine kS (fun W=>Below wB.heap.size wB W) [true,true,false,true,true,true,true,true,true,true,true,true,true,false,true,true,true,true,false,true,true,true,true,false,true,true] bR ?_
 intro wS HS
 all_goals refine wkR ?_
 all_goals refine wkR ?_
 all_goals first | refine wkB (yQ (Rep.raw.below fx_0 (tQ EB HS))) (fun wS1 HS=>?_) | refine wkR ?_
 all_goals (have hg3:=True.intro;first|(refine wkG (fun b hg3=>?_);cases b;all_goals first | exact Bool.noConfusion hg3 | simp only [zU,zV] at hg3 | skip) | refine wkR ?_)
 all_goals refine wkP ?_
 iterate 6
  all_goals refine wkR ?_
 all_goals (have hg10:=True.intro;first|(refine wkG (fun b hg10=>?_);cases b;all_goals first | exact Bool.noConfusion hg10 | simp only [zU,zV] at hg10 | skip) | refine wkR ?_)
 all_goals refine wkP ?_
 all_goals refine wkR ?_
 all_goals refine wkR ?_
 all_goals first | refine wkC (jR) ?_ | refine wkR ?_
 all_goals refine wkR ?_
 all_goals (have hg15:=True.intro;first|(refine wkG (fun b hg15=>?_);cases b;all_goals first | exact Bool.noConfusion hg15 | simp only [zU,zV] at hg15 | skip) | refine wkR ?_)
 all_goals refine wkP ?_
 all_goals refine wkR ?_
 all_goals refine wkR ?_
 all_goals first | refine wkC (jR) ?_ | refine wkR ?_
 all_goals refine wkR ?_
 all_goals (have hg20:=True.intro;first|(refine wkG (fun b hg20=>?_);cases b;all_goals first | exact Bool.noConfusion hg20 | simp only [zU,zV] at hg20 | skip) | refine wkR ?_)
 all_goals refine wkP ?_
 all_goals refine wkR ?_
 all_goals refine wkR ?_
 all_goals first | refine wkC (jR) ?_ | refine wkR ?_
 all_goals refine wkR ?_
 all_goals (have hg25:=True.intro;first|(refine wkG (fun b hg25=>?_);cases b;all_goals first | exact Bool.noConfusion hg25 | simp only [zU,zV] at hg25 | skip) | refine wkR ?_)
 all_goals refine wkP ?_
 all_goals refine kN ?_
 all_goals have EG:=(tQ EB HS)
 all_goals first
   | (have HT:=yD (show (yg x)=false by simp only [yg,Bool.not_true,Bool.not_false,Bool.and_true,Bool.true_and,Bool.and_false,Bool.false_and,Bool.or_true,Bool.true_or,Bool.or_false,Bool.false_or,Bool.not_not,hg3,hg10,hg15,hg20,hg25]);go_wp2;go_ret;exact ⟨kP HT.out.symm,EG⟩)
   | (have HT:=yD (show (yg x)=true by simp only [yg,Bool.not_true,Bool.not_false,Bool.and_true,Bool.true_and,Bool.and_false,Bool.false_and,Bool.or_true,Bool.true_or,Bool.or_false,Bool.false_or,Bool.not_not,hg3,hg10,hg15,hg20,hg25]);go_wp2;go_ret;exact ⟨kP HT.out.symm,EG⟩)
theorem zb {w:World} {cx:List Value} {x:kr} (hx:jl.raw w cx x) :
    Calls Try.prog 36 #[.agg cx.toArray] w fun e w'=>e=.returned (.bool (yg x))∧Below w.heap.size w w':=by
 have Hx:=yD hx
 obtain ⟨fxv0,rfl,fx_0,fx_1,fx_2,fx_3,fx_4⟩:=jZ hx
 obtain ⟨fxa0,fxp0,rfl,fxl0⟩:=Rep.sl fx_1
 go_enter Try.func36,Try.ntmps36
 go_upto_region 1 with fail
 generalize hwB:World.alloc w _=wB
 have EB:Below w.heap.size w wB:=by rw [← hwB];exact bB
 have K1_0:wB.cell? ⟨w.heap.size,0,none⟩=some (.slice fxa0 (x.1).length fxp0):=dX
 have K1_1:wB.cell? ⟨w.heap.size,1,none⟩=some (.int .i64 x.2.1):=dX
 have K1_2:wB.cell? ⟨w.heap.size,2,none⟩=some (.int .i64 x.2.2.1):=dX
 have K1_3:wB.cell? ⟨w.heap.size,3,none⟩=some (.int .i64 x.2.2.2):=dX
 clear hwB
 have FX:=yD (fun (W:World) (hW:Below wB.heap.size wB W)=>zi hW K1_0 K1_1 K1_2 K1_3)
 refine kS (fun W=>Below wB.heap.size wB W) [true,true,false,true,true,true,true,true,true,true,true,true,true,false,true,true,true,true,false,true,true,true,true,false,true,true] bR ?_
 intro wS HS
 all_goals refine wkR ?_
 all_goals refine wkR ?_
 all_goals first | refine wkB (kBz (Rep.raw.below fx_0 (tQ EB HS))) (fun wS1 HS=>?_) | refine wkR ?_
 all_goals (have hg3:=True.intro;first|(refine wkG (fun b hg3=>?_);cases b;all_goals first | exact Bool.noConfusion hg3 | simp only [zU,zV] at hg3 | skip) | refine wkR ?_)
 all_goals refine wkP ?_
 iterate 6
  all_goals refine wkR ?_
 all_goals (have hg10:=True.intro;first|(refine wkG (fun b hg10=>?_);cases b;all_goals first | exact Bool.noConfusion hg10 | simp only [zU,zV] at hg10 | skip) | refine wkR ?_)
 all_goals refine wkP ?_
 all_goals refine wkR ?_
 all_goals refine wkR ?_
 all_goals first | refine wkC (jM) ?_ | refine wkR ?_
 all_goals refine wkR ?_
 all_goals (have hg15:=True.intro;first|(refine wkG (fun b hg15=>?_);cases b;all_goals first | exact Bool.noConfusion hg15 | simp only [zU,zV] at hg15 | skip) | refine wkR ?_)
 all_goals refine wkP ?_
 all_goals refine wkR ?_
 all_goals refine wkR ?_
 all_goals first | refine wkC (jM) ?_ | refine wkR ?_
 all_goals refine wkR ?_
 all_goals (have hg20:=True.intro;first|(refine wkG (fun b hg20=>?_);cases b;all_goals first | exact Bool.noConfusion hg20 | simp only [zU,zV] at hg20 | skip) | refine wkR ?_)
 all_goals refine wkP ?_
 all_goals refine wkR ?_
 all_goals refine wkR ?_
 all_goals first | refine wkC (jM) ?_ | refine wkR ?_
 all_goals refine wkR ?_
 all_goals (have hg25:=True.intro;first|(refine wkG (fun b hg25=>?_);cases b;all_goals first | exact Bool.noConfusion hg25 | simp only [zU,zV] at hg25 | skip) | refine wkR ?_)
 all_goals refine wkP ?_
 all_goals refine kN ?_
 all_goals have EG:=(tQ EB HS)
 all_goals first
   | (have HT:=yD (show (yg x)=false by simp only [yg,Bool.not_true,Bool.not_false,Bool.and_true,Bool.true_and,Bool.and_false,Bool.false_and,Bool.or_true,Bool.true_or,Bool.or_false,Bool.false_or,Bool.not_not,hg3,hg10,hg15,hg20,hg25]);go_wp2;go_ret;exact ⟨kP HT.out.symm,EG⟩)
   | (have HT:=yD (show (yg x)=true by simp only [yg,Bool.not_true,Bool.not_false,Bool.and_true,Bool.true_and,Bool.and_false,Bool.false_and,Bool.or_true,Bool.true_or,Bool.or_false,Bool.false_or,Bool.not_not,hg3,hg10,hg15,hg20,hg25]);go_wp2;go_ret;exact ⟨kP HT.out.symm,EG⟩)
namespace Rep
section
variable {α:Type} {r:Rep α} {e:TypeId} {w:World} {b cap len i j p:Nat} {xs:List α} {y:α} {u:Value} {S T:Nat→Prop}
theorem kJf (h:kT e r w (.slice (some ⟨b,0,none⟩) len cap) xs S) (hi:i < xs.length) (hj:j < r.n)
    (hy:∀ {cs:List Value} {B:Nat→Prop},r.is true w cs xs[i] B→(∀ k,B k→S k)→r.is true w (cs.set j u) y (fun k=>B k∨T k)) (hby:r.bdd Big y) (hST:∀ k,S k→T k→False) (hp:p=i * r.n + j) :
    kT e r (w.setCell ⟨b,p,none⟩ u) (.slice (some ⟨b,0,none⟩) len cap) (xs.set i y) (fun k=>S k∨T k)∧Touch (fun k=>k=b) w (w.setCell ⟨b,p,none⟩ u):=by
 subst hp
 refine ⟨?_,je [u] w b _⟩
 obtain ⟨hb,h⟩:=h
 rcases h with ⟨⟨a,h0⟩,rfl⟩|⟨b',cap',cur,cs,tl,h0,h1,h2,h3,h4,h5,h6,h7⟩
 · simp at hi
 simp only [Value.slice.injEq,Option.some.injEq,Addr.mk.injEq,and_true] at h0
 obtain ⟨rfl,rfl,rfl⟩:=h0
 obtain ⟨c1,c,c2,A,B,C,rfl,hl,r1,r2,r3,hA,hB,hC,hd⟩:=kDv h7 hi
 have hc:=r.len r2
 have hbT:∀ k,T k→k≠b:=fun k hk q=>hST k (q ▸ h6) hk
 have n2:=hy r2 (fun k hk=>(hB k hk).1)
 have hcur:cur=((c1++(c++c2))++tl).toArray:=by rw [← h4]
 subst hcur
 have hset:=heap_setCell_same w b (i * r.n + j) _ e u h3
 refine ⟨?_,.inr ⟨b,cap,_,c1++(c.set j u++c2),tl,by rw [List.length_set],by rw [List.length_set];exact h1,h2,hset,?_,?_,.inl h6,?_⟩⟩
 · intro z hz
   rcases List.mem_or_eq_of_mem_set hz with q | q
   · exact hb z q
   rw [q];exact hby
 · simp only [Array.toList_setIfInBounds,List.toList_toArray]
   rw [List.append_assoc,List.append_assoc,List.set_append_right _ _ gV,hl,show i * r.n + j - i * r.n=j by omega,List.set_append_left _ _ gV]
   simp
 · simpa using h5
 have oth:∀ k,k≠b→(w.setCell ⟨b,i * r.n + j,none⟩ u).heap[k]?=w.heap[k]?:=fun k hk=>heap_setCell_other w ⟨b,i * r.n + j,none⟩ k u hk
 have mono:∀ {cs:List Value} {ys:List α} {D:Nat→Prop},row r true w cs ys D→(∀ k,D k→k≠b)→row r true (w.setCell ⟨b,i * r.n + j,none⟩ u) cs ys D:=fun hr hk=>kv hr (fun k hd=>oth k (hk k hd))
 refine kGj (A:=A) (B:=fun k=>B k∨T k) (C:=C) hi (mono r1 (fun k hk=>(hA k hk).2)) (r.mono n2 (fun k hk=>oth k (hk.elim (fun q=>(hB k q).2) (hbT k)))) (mono r3 (fun k hk=>(hC k hk).2)) ?_ ?_ ?_ ?_
 · exact fun k hk=>⟨.inl (hA k hk).1,(hA k hk).2⟩
 · exact fun k hk=>hk.elim (fun q=>⟨.inl (hB k q).1,(hB k q).2⟩) (fun q=>⟨.inr q,hbT k q⟩)
 · exact fun k hk=>⟨.inl (hC k hk).1,(hC k hk).2⟩
 exact fun _ k=>⟨fun a q=>q.elim ((hd rfl k).1 a) (fun t=>hST k (hA k a).1 t),(hd rfl k).2.1,fun q c=>q.elim (fun b=>(hd rfl k).2.2 b c) (fun t=>hST k (hC k c).1 t)⟩
end
end Rep
end Go.Proofs.Ytpgnbablhdknnaa
namespace Go.Proofs.Ytpgnbablhdknnaa
open Go
section
variable {P:Program} {l:List Oper} {S:World→Prop} {Q:Exit→Act→World→Prop} {fuel:Nat} {listed:List Bool} {a:Act} {w:World}
@[irreducible] def tree (P:Program) (l:List Oper) (S:World→Prop) (Q:Exit→Act→World→Prop) (fuel:Nat) (listed:List Bool) (a:Act) (w:World):Prop:=wpAnyH P .any l.toArray Q S fuel listed.toArray a w
theorem kHh (k:Nat):listed.toArray.setIfInBounds k true=(listed.set k true).toArray:=by simp
theorem kEz {k:Nat} {o:Oper} {v:Value} (h0:l[k]?=some o) (hc:(Region.noSelect l.toArray && (Region.free .any l.toArray listed.toArray k && (Region.ready .any l.toArray listed.toArray).contains k))=true)
    (hQ:∀ c a d v w,Q (.panic c) (Act.put a d v) w→Q (.panic c) a w) (hg:Region.wanted o (yielded l.toArray a.tmps)=true) (hS:S w)
    (hv:∀ w,S w→(execOp a.eval o).run P w=.ok (.value v) w) (h:tree P l S Q fuel (listed.set k true) (a.put o.dst v) w):tree P l S Q (fuel + 1) listed a w:=by
 unfold tree at h ⊢
 simp only [Bool.and_eq_true] at hc
 rw [← kHh] at h
 exact wpAnyH_take gJ hc.1 hc.2.1 hc.2.2 (fun c a w=>hQ c a _ _ w) (.inl ⟨hg,hv⟩) hS h
theorem kAf (k : Nat) {o : Oper} {v : Value} (h : tree P l S Q fuel (listed.set k true) (a.put o.dst v) w) (h0 : l[k]? = some o := by rfl) (hc : (Region.noSelect l.toArray && (Region.free .any l.toArray listed.toArray k && (Region.ready .any l.toArray listed.toArray).contains k)) = true := by kernel_rfl)
    (hQ:∀ c a d v w,Q (.panic c) (Act.put a d v) w→Q (.panic c) a w:=by exact fun c a d v w h=>by cases d <;> exact h) (hg:Region.wanted o (yielded l.toArray a.tmps)=true:=by rfl) (hS:S w:=by exact HS)
    (hv:∀ w,S w→(execOp a.eval o).run P w=.ok (.value v) w:=by intro W hW;(try have A:=FX.out W hW);clear hW;go_simp;try with_reducible rfl):tree P l S Q (fuel + 1) listed a w:=kEz h0 hc hQ hg hS hv h
theorem kJb {k:Nat} {o:Oper} (h0:l[k]?=some o) (hg:Region.wanted o (yielded l.toArray a.tmps)=true)
    (h:∀ K:Act→World→Prop,(∀ a' w',S w'→tree P l S Q fuel (listed.set k true) a' w'→K a' w')→o.wp P a w K Q) :
    wpOp P l.toArray Q k (fun a' w'=>S w'∧wpAnyH P .any l.toArray Q S fuel (listed.toArray.setIfInBounds k true) a' w') a w:=by
 unfold wpOp
 rw [show l.toArray[k]?=some o by simpa using h0]
 simp only [hg,if_true]
 refine .inl (h _ (fun a' w' h1 h2=>⟨h1,?_⟩))
 unfold tree at h2
 rw [kHh]
 exact h2
theorem kAv {k:Nat} {o:Oper} (h0:l[k]?=some o) (hr:(Region.ready .any l.toArray listed.toArray==[k])=true) (hg:Region.wanted o (yielded l.toArray a.tmps)=true)
    (h:∀ K:Act→World→Prop,(∀ a' w',S w'→tree P l S Q fuel (listed.set k true) a' w'→K a' w')→o.wp P a w K Q):tree P l S Q (fuel + 1) listed a w:=by
 unfold tree
 refine wpAnyH_all (by simpa using hr) gW ?_
 intro j hj
 obtain rfl:j=k:=gD
 exact kJb h0 hg h
theorem tree_two {i j:Nat} {oi oj:Oper} (hi:l[i]?=some oi) (hj:l[j]?=some oj) (hr:(Region.ready .any l.toArray listed.toArray==[i,j])=true) (hgi:Region.wanted oi (yielded l.toArray a.tmps)=true) (hgj:Region.wanted oj (yielded l.toArray a.tmps)=true)
    (h1:∀ K:Act→World→Prop,(∀ a' w',S w'→tree P l S Q fuel (listed.set i true) a' w'→K a' w')→oi.wp P a w K Q)
    (h2:∀ K:Act→World→Prop,(∀ a' w',S w'→tree P l S Q fuel (listed.set j true) a' w'→K a' w')→oj.wp P a w K Q):tree P l S Q (fuel + 1) listed a w:=by
 unfold tree
 refine wpAnyH_all (by simpa using hr) gW ?_
 intro k hk
 rcases List.mem_cons.1 hk with rfl | hk
 · exact kJb hi hgi h1
 obtain rfl:k=j:=gF
 exact kJb hj hgj h2
theorem tree_end (hr:(Region.ready .any l.toArray listed.toArray==[])=true) (h:Q .normal a w):tree P l S Q fuel listed a w:=by
 unfold tree
 exact wpAnyH_done (by simpa using hr) h fuel
end
end Go.Proofs.Ytpgnbablhdknnaa
