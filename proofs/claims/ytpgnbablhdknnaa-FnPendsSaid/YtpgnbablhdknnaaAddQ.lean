/-
  A requester added to the pending interests.
-/
import Derived.Test.YtpgnbablhdknnaaPut
import Derived.Test.YtpgnbablhdknnaaSoftT
set_option linter.unusedVariables false
set_option linter.unusedSimpArgs false
set_option linter.unnecessarySimpa false
set_option maxRecDepth 100000
set_option maxHeartbeats 4000000
namespace Go.Proofs.Ytpgnbablhdknnaa
open Go.RowKit
def yn (x:kr) (f t:Int):kH:=(f,x.2.1,wrap64 (t + x.2.2.2))
def jF (x:kr) (f:Int) (l:List kD):Bool:=!((!yg x || !inR f 0 6) || (decide (idxOf (kR x.1) l < 0) && decide ((12:Int)≤(l.length:Int))))
def addQ1 (x:kr) (f t:Int) (l:List kD):List kD :=
  if idxOf (kR x.1) l < 0 then l++[(x.1,[yn x f t],0)]
  else l.set (idxOf (kR x.1) l).toNat ((l.getD (idxOf (kR x.1) l).toNat ([],[],0)).1,kCb (yn x f t) (l.getD (idxOf (kR x.1) l).toNat ([],[],0)).2.1,(l.getD (idxOf (kR x.1) l).toNat ([],[],0)).2.2)
def zG (x:kr) (f t:Int) (l:List kD):List kD:=if jF x f l then addQ1 x f t l else l
theorem kDb {x:kr} {f t:Int} {l:List kD} (h:jF x f l=false):zG x f t l=l∧jF x f l=false:=by unfold zG;rw [h];exact ⟨rfl,rfl⟩
theorem kEu {x:kr} {f t:Int} {l:List kD} (h:jF x f l=true) (hk:idxOf (kR x.1) l < 0):zG x f t l=l++[(x.1,[yn x f t],0)]∧jF x f l=true:=by unfold zG addQ1;rw [h,if_pos hk];exact ⟨rfl,rfl⟩
theorem kEt {x:kr} {f t:Int} {l:List kD} {k:Nat} (h:jF x f l=true) (hk:idxOf (kR x.1) l=k) (hkl:k < l.length):zG x f t l=l.set k (l[k].1,kCb (yn x f t) l[k].2.1,l[k].2.2)∧jF x f l=true:=by
 unfold zG addQ1
 rw [h,if_pos rfl,hk,if_neg (show ¬ ((k:Int) < 0) by omega)]
 refine ⟨?_,rfl⟩
 simp only [Int.toNat_natCast,jQ hkl]
theorem kEb {x:kr} {f:Int} {l:List kD} (h:jF x f l=true) (hk:idxOf (kR x.1) l < 0):l.length < 12:=by
 unfold jF at h
 simp [hk] at h
 omega
theorem kGa {P:Program} {l:List Oper} {Q:Exit→Act→World→Prop} {a:Act} {w:World} {id:Nat} (S:World→Prop) (hm:P.follows .mixedOrders=true) (hS:S { w with drawn:=w.drawn + 1 })
    (h:tree P l S Q l.length (List.replicate l.length false) a { w with drawn:=w.drawn + 1 }):(Code.region id l.toArray true).wp P Q a w:=by
 unfold tree at h
 refine wp_region_held (S:=S) hm ?_
 have e:(Array.replicate l.toArray.size false)=(List.replicate l.length false).toArray:=gW
 rw [e,show l.toArray.size=l.length by simp]
 exact h
theorem kIn {α:Type} {r:Rep α} {e:TypeId} {w:World} {v:Value} {xs:List α} {S T:Nat→Prop} {P:Program} {t ty:TypeId}
    {z:Value} {bytes:Nat} (ht:P.underlying t=some (.slice e)) (hinf:(P.info? e).map (fun i=>(i.zero,i.size,i.bytes))=some (some z,r.n,bytes)) (hzs:z.cells.size=r.n) (hn:0 < r.n) (hby:bytes≤1000)
    (hown:Rep.kT e r w v xs S) {b:Nat} (hb:b=w.heap.size) {cs:List Value} {y:α} (hy:r.own w cs y T)
    {u:World} (hu:u=w.alloc (.cells cs.toArray e)) (hST:∀ k,S k→T k→False) (hlen:xs.length + 1≤1000000000) :
    ∃ v' w',(Builtin.append_ #[t,t] ty #[v,.slice (some ⟨b,0,none⟩) 1 1]).run P u=.ok v' w'∧Rep.kT e r w' v' (xs++[y]) (fun k=>S k∨T k∨(w.heap.size + 1≤k∧k < w'.heap.size))∧Touch (fun k=>some k=v.ownBlock∧S k) u w':=by
 subst hu hb
 obtain ⟨i,hi,hz,hsize,hbytes⟩:=info_parts hinf
 have hl:=r.len hy.1
 have hown':Rep.kT e r (w.alloc (.cells cs.toArray e)) v xs (fun k=>S k∧k < w.heap.size):=(Rep.kT.alloc hown.live _)
 have hy':=hy.live.alloc (.cells cs.toArray e)
 have hsrc:Rep.Src (w.alloc (.cells cs.toArray e)) (.slice (some ⟨w.heap.size,0,none⟩) 1 1) 1 cs:=.inr ⟨_,1,rfl,fun j c hj=>by
   have hadd:(⟨w.heap.size,0,none⟩:Addr).add j=⟨w.heap.size,j,none⟩:=dA
   rw [hadd]
   exact kL (heap_alloc_new w _) gD⟩
 obtain ⟨v',w',h0,h1,h2⟩:=Rep.zM (P:=P) (ty:=ty) ht hi hz hsize hzs hn gV hown' hsrc (by rw [hl,Nat.one_mul]) (r.one hy.1) hlen
 refine ⟨v',w',h0,(h2 (ys:=[y]) (T:=fun k=>T k∧k < w.heap.size) ⟨cs,[],_,fun _=>False,by simp,hy'.1,rfl,fun _ h=>h,fun _ h=>h.elim,fun _ _ _ h=>h.elim⟩ (fun k h1 h2=>hST k h1.1 h2.1) (by simpa using hy.2)).wide ?_,⟨h1.os,h1.tape,h1.output,h1.size,fun k hk q=>h1.block k hk (fun a=>q ⟨a.1,a.2.1⟩)⟩⟩
 intro k hk
 rcases hk with hk | hk | hk
 · exact .inl hk.1
 · exact .inr (.inl hk.1)
 exact .inr (.inr ⟨by simpa using hk.1,hk.2⟩)
theorem pend_setReq {w:World} {b cap len k:Nat} {l:List kD} {S T:Nat→Prop} {v':Value} {xs':List kH} (h:Rep.kT 67 kE w (.slice (some ⟨b,0,none⟩) len cap) l S) (hk:k < l.length)
    (hv:Rep.kT 56 kF w v' xs' T) (hlx:xs'.length≤Big) (hST:∀ j,S j→T j→False) :
    Rep.kT 67 kE (w.setCell ⟨b,k * 3 + 1,none⟩ v') (.slice (some ⟨b,0,none⟩) len cap) (l.set k (l[k].1,xs',l[k].2.2)) (fun j=>S j∨T j):=by
 have hbx:=h.1 l[k] (List.getElem_mem hk)
 refine (Rep.kJf (i:=k) (j:=1) (p:=k * 3 + 1) (T:=T) (y:=(l[k].1,xs',l[k].2.2)) h hk gU ?_ ⟨hbx.1,(hv.own0h hlx).2,trivial⟩ hST rfl).1
 rintro cs D ⟨c,d,A,B,rfl,h1,⟨c2,d2,A2,B2,rfl,h2,h3,k1,k2,k3⟩,k4,k5,k6⟩ hD
 have hc1:c.length=1:=kZ.len h1
 obtain ⟨cn,rfl⟩:=List.length_eq_one_iff.1 hc1
 have hc2:c2.length=1:=(Rep.slice 56 kF).len h2
 obtain ⟨cq,rfl⟩:=List.length_eq_one_iff.1 hc2
 refine ⟨[cn],v' :: d2,A,T,rfl,h1,?_,fun j hj=>.inl (k4 j hj),fun j=>.inr,fun _ j a t=>hST j (hD j (k4 j a)) t⟩
 exact ⟨[v'],d2,T,fun _=>False,rfl,(hv.own hlx).1,h3,fun j hj=>hj,fun j hj=>hj.elim,fun _ j _ hj=>hj⟩
theorem kBe (z:Int):-9223372036854775808≤wrap64 z∧wrap64 z≤9223372036854775807:=by unfold wrap64;omega
def kCw (f:Int) (r:kH):Bool:=r.1==f
theorem kDg {w:World} {cr:List Value} {r:kH} (hr:kF.raw w cr r) {f:Int} {Bf:Nat} (Af0:w.cell? ⟨Bf,0,none⟩=some (.int .i64 f)) :
    Calls Try.prog 40 (#[.agg cr.toArray]++#[.pointer (some ⟨Bf,0,none⟩)]) w fun e w'=>e=.returned (.bool (kCw f r))∧Below w.heap.size w w':=by
 have Hr:=yD hr
 obtain ⟨rfl,fr_0,fr_1,fr_2⟩:=ko hr
 show Calls Try.prog 40 #[_,_] w _
 go_enter Try.func40,Try.ntmps40
 go_upto_region 1 with fail
 generalize hwB:World.alloc w _=wB
 have EB:Below w.heap.size w wB:=by rw [← hwB];exact bB
 have K2_0:wB.cell? ⟨w.heap.size,0,none⟩=some (.int .i64 r.1):=dX
 have K2_1:wB.cell? ⟨w.heap.size,1,none⟩=some (.int .i64 r.2.1):=dX
 have K2_2:wB.cell? ⟨w.heap.size,2,none⟩=some (.int .i64 r.2.2):=dX
 clear hwB
 replace Af0:=cL EB Af0
 have FX:=yD (fun (W:World) (hW:Below wB.heap.size wB W)=>zi hW K2_0 K2_1 K2_2 Af0)
 refine kS (fun W=>Below wB.heap.size wB W) [true,true,true,true,true] bR ?_
 intro wS HS
 iterate 4
  all_goals refine wkR ?_
 all_goals (have hg4:=True.intro;first|(refine wkG (fun b hg4=>?_);cases b;all_goals first | exact Bool.noConfusion hg4 | simp only [zU,zV] at hg4 | skip) | refine wkR ?_)
 all_goals refine wkP ?_
 all_goals refine kN ?_
 all_goals have EG:=(tQ EB HS)
 all_goals first
   | (have HT:=yD (show (kCw f r)=false by simp only [kCw,Bool.not_true,Bool.not_false,Bool.and_true,Bool.true_and,Bool.and_false,Bool.false_and,Bool.or_true,Bool.true_or,Bool.or_false,Bool.false_or,Bool.not_not,hg4]);go_wp2;go_ret;exact ⟨kP HT.out.symm,EG⟩)
   | (have HT:=yD (show (kCw f r)=true by simp only [kCw,Bool.not_true,Bool.not_false,Bool.and_true,Bool.true_and,Bool.and_false,Bool.false_and,Bool.or_true,Bool.true_or,Bool.or_false,Bool.false_or,Bool.not_not,hg4]);go_wp2;go_ret;exact ⟨kP HT.out.symm,EG⟩)
theorem kAb:jG Try.prog 40:=jr Try.func40 gP gP
theorem kDf {w:World} {cr:List Value} {r:kH} (hr:kF.raw w cr r) {f:Int} {Bf:Nat} (Af0:w.cell? ⟨Bf,0,none⟩=some (.int .i64 f)) :
    Calls Try.prog 42 (#[.agg cr.toArray]++#[.pointer (some ⟨Bf,0,none⟩)]) w fun e w'=>e=.returned (.bool (decide (f≤r.1)))∧Below w.heap.size w w':=by
 have Hr:=yD hr
 obtain ⟨rfl,fr_0,fr_1,fr_2⟩:=ko hr
 show Calls Try.prog 42 #[_,_] w _
 go_enter Try.func42,Try.ntmps42
 go_upto_region 1 with fail
 generalize hwB:World.alloc w _=wB
 have EB:Below w.heap.size w wB:=by rw [← hwB];exact bB
 have K2_0:wB.cell? ⟨w.heap.size,0,none⟩=some (.int .i64 r.1):=dX
 have K2_1:wB.cell? ⟨w.heap.size,1,none⟩=some (.int .i64 r.2.1):=dX
 have K2_2:wB.cell? ⟨w.heap.size,2,none⟩=some (.int .i64 r.2.2):=dX
 clear hwB
 replace Af0:=cL EB Af0
 have FX:=yD (fun (W:World) (hW:Below wB.heap.size wB W)=>zi hW K2_0 K2_1 K2_2 Af0)
 refine kS (fun W=>Below wB.heap.size wB W) [true,true,true,true,true] bR ?_
 intro wS HS
 iterate 4
  all_goals refine wkR ?_
 all_goals (have hg4:=True.intro;first|(refine wkG (fun b hg4=>?_);cases b;all_goals first | exact Bool.noConfusion hg4 | simp only [zU,zV] at hg4 | skip) | refine wkR ?_)
 all_goals refine wkP ?_
 all_goals refine kN ?_
 all_goals have EG:=(tQ EB HS)
 all_goals first
   | (have HT:=yD (show (decide (f≤r.1))=false by simp only [Bool.not_true,Bool.not_false,Bool.and_true,Bool.true_and,Bool.and_false,Bool.false_and,Bool.or_true,Bool.true_or,Bool.or_false,Bool.false_or,Bool.not_not,hg4]);go_wp2;go_ret;exact ⟨kP HT.out.symm,EG⟩)
   | (have HT:=yD (show (decide (f≤r.1))=true by simp only [Bool.not_true,Bool.not_false,Bool.and_true,Bool.true_and,Bool.and_false,Bool.false_and,Bool.or_true,Bool.true_or,Bool.or_false,Bool.false_or,Bool.not_not,hg4]);go_wp2;go_ret;exact ⟨kP HT.out.symm,EG⟩)
theorem kAa:jG Try.prog 42:=jr Try.func42 gP gP
theorem zu {w:World} {vl:Value} {l:List kD} (hl:(Rep.slice 67 kE).rd w [vl] l) (hsm:∀ y∈l,y.2.1.length≤1048576) {cx:List Value} {x:kr} (hx:jl.rd w cx x) {f:Int} (hf:-9223372036854775808≤f∧f≤9223372036854775807) {t:Int} (ht:-9223372036854775808≤t∧t≤9223372036854775807) :
    Calls Try.prog 7 #[vl,.agg cx.toArray,.int .i64 f,.int .i64 t] w fun e w'=>∃ v,e=.returned (.tuple #[v,.bool (jF x f l)])∧(Rep.slice 67 kE).own w' [v] (zG x f t l) (Btw w.heap.size w'.heap.size)∧Below w.heap.size w w':=by
 have HL:=yD hl
 have HSM:=yD hsm
 have hlb:l.length≤16777216:=hl.2.1
 have HW:=yD hx
 obtain ⟨nv,rfl,r_0,r_1,r_2,r_3,r_4⟩:=jZ hx.1
 obtain ⟨n,x1,x2,x3⟩:=x
 have HN:Hid (kZ.rd w [nv] n):=yD ⟨r_0,hx.2.1⟩
 obtain ⟨na,np,rfl,_⟩:=Rep.sl r_1
 obtain ⟨va,vp,rfl,hvll⟩:=Rep.sl hl.1
 have HF:=yD hf
 have HX1:=yD r_2
 clear r_0 r_1 r_2 r_3 r_4 hl hx hf ht hsm
 go_enter Try.func7,Try.ntmps7
 go_upto_region 1 with fail
 generalize hwB:World.alloc w _=wB
 have EB:Below w.heap.size w wB:=by rw [← hwB];exact bB
 have K0:wB.cell? ⟨w.heap.size,0,none⟩=some (.slice na n.length np):=dX
 have K1:wB.cell? ⟨w.heap.size,1,none⟩=some (.int .i64 x1):=dX
 have K2:wB.cell? ⟨w.heap.size,2,none⟩=some (.int .i64 x2):=dX
 have K3:wB.cell? ⟨w.heap.size,3,none⟩=some (.int .i64 x3):=dX
 have hzB:wB.heap.size=w.heap.size + 1:=fV
 clear hwB
 go_wp2_with fail
 refine (zI (HL.out.below EB)).mono ?_
 rintro e w1 ⟨v1,rfl,O1,hb1⟩
 replace K0:=cL hb1 K0
 replace K1:=cL hb1 K1
 replace K2:=cL hb1 K2
 replace K3:=cL hb1 K3
 have E1:=(tQ EB hb1)
 have hz1:=hb1.size
 have HO:=yD O1
 obtain ⟨oa,on,oc,ho,HON⟩:=O1.parts;obtain rfl:=ho
 clear O1 hb1 EB
 go_wp2_with fail
 refine (yA (HL.out.1.below E1) (HN.out.1.below E1)).mono ?_
 rintro e w4 ⟨rfl,hb4⟩
 replace K0:=cL hb4 K0
 replace K1:=cL hb4 K1
 replace K2:=cL hb4 K2
 replace K3:=cL hb4 K3
 have E4:=(tQ E1 hb4)
 have hz4:=hb4.size
 replace HO:=yD ((HO.out.below hb4).wide (T:=Btw wB.heap.size w4.heap.size) dC)
 clear hb4 E1
 by_cases hk:idxOf (kR n) l < 0
 · have HK:Hid (decide (idxOf (kR n) l < 0)=true):=yD gF
   go_upto_region 3 with fail
   have FX:=yD (fun (W:World) (hW:Below w4.heap.size w4 W)=>zi hW K0 K1 K2 K3)
   refine kS (fun W=>Below w4.heap.size w4 W) [true,false,true,true,true,false,true,true,true,true,true,true,true,true,true,true,true] (bR) ?_
   intro wS HS
   all_goals refine wkR ?_
   all_goals first|(refine kG rfl HS ?_)|(refine kQ rfl (fun K hK=>?_);go_simp;refine (zZ (HW.out.1.below (tQ E4 HS))).mono ?_;rintro e wV ⟨rfl,hbV⟩;replace HS:=(tQ HS hbV);refine hK _ _ HS ?_;clear hK K hbV)
   all_goals refine wkP ?_
   all_goals refine wkR ?_
   all_goals (have hg3:=True.intro;first|(refine wkG (fun b hg3=>?_);cases b;all_goals first | exact Bool.noConfusion hg3 | simp only [zU,zV] at hg3 | skip) | refine wkR ?_)
   all_goals refine wkP ?_
   all_goals refine wkR ?_
   all_goals first | refine wkC (jR) ?_ | refine wkR ?_
   all_goals refine wkR ?_
   all_goals refine wkR ?_
   all_goals (have hg8:=True.intro;first|(refine wkG (fun b hg8=>?_);cases b;all_goals first | exact Bool.noConfusion hg8 | simp only [zU,zV] at hg8 | skip) | refine wkR ?_)
   all_goals refine wkP ?_
   all_goals refine wkR ?_
   all_goals refine wkR ?_
   all_goals (have hg11:=True.intro;first|(refine wkG (fun b hg11=>?_);cases b;all_goals first | exact Bool.noConfusion hg11 | simp only [zU,zV] at hg11 | skip) | refine wkR ?_)
   all_goals refine wkP ?_
   iterate 4
    all_goals refine wkR ?_
   all_goals (have hg16:=True.intro;first|(refine wkG (fun b hg16=>?_);cases b;all_goals first | exact Bool.noConfusion hg16 | simp only [zU,zV] at hg16 | skip) | refine wkR ?_)
   all_goals refine wkP ?_
   all_goals refine kN ?_
   all_goals have E5:=(tQ E4 HS)
   all_goals have HO5:=yD (HO.out.below HS)
   all_goals have hz5:=HS.size
   all_goals have LK0:=cL HS K0
   all_goals have LK1:=cL HS K1
   all_goals have LK2:=cL HS K2
   all_goals have LK3:=cL HS K3
   all_goals clear K0 K1 K2 K3 HO
   all_goals first|(have HT:=yD (kDb (t:=t) (show jF (n,x1,x2,x3) f l=false by simp only [jF,HK.out,Bool.not_true,Bool.not_false,Bool.and_true,Bool.true_and,Bool.and_false,Bool.false_and,Bool.or_true,Bool.true_or,Bool.or_false,Bool.false_or,Bool.not_not,ge_iff_le,hg3,hg8,hg11,hg16,hg16]));go_wp2;go_ret2;exact ⟨_,by rw [HT.out.2];rfl,((HO5.out.cast HT.out.1.symm).own fD).wide bK,E5⟩) | skip
   have HT:=yD (kEu (t:=t) (show jF (n,x1,x2,x3) f l=true by simp only [jF,HK.out,Bool.not_true,Bool.not_false,Bool.and_true,Bool.true_and,Bool.and_false,Bool.false_and,Bool.or_true,Bool.true_or,Bool.or_false,Bool.false_or,Bool.not_not,ge_iff_le,hg3,hg8,hg11,hg16,hg16]) hk)
   have h12:=kEb HT.out.2 hk
   have hk2:¬ (0≤idxOf (kR n) l):=gV
   generalize hq:idxOf (kR n) l=q at *
   clear hq HK
   go_upto_region 6 with fail
   generalize hy3:wrap64 (t + x3)=y3
   have HR:Hid (yn (n,x1,x2,x3) f t=(f,x1,y3)):=yD (by rw [← hy3];rfl)
   have HY:Hid (-9223372036854775808≤y3∧y3≤9223372036854775807):=yD fI
   clear hy3
   generalize hwC:World.alloc _ _=wC
   have EC:Below wV.heap.size wV wC:=dI
   have hzC:wV.heap.size≤wC.heap.size:=EC.size
   have KC0:wC.cell? ⟨wV.heap.size,0,none⟩=some (.int .i64 f):=dY
   have KC1:wC.cell? ⟨wV.heap.size,1,none⟩=some (.int .i64 x1):=dY
   have KC2:wC.cell? ⟨wV.heap.size,2,none⟩=some (.int .i64 y3):=dY
   have E6:=(tQ E5 EC)
   have HO6:=yD (HO5.out.below EC)
   replace LK0:=cL EC LK0
   clear hwC LK1 LK2 LK3 HO5 HS EC
   go_wp2_with fail
   refine (yZ (HN.out.below E6)).mono ?_
   rintro e wT ⟨tc,rfl,OT,hbT⟩
   obtain ⟨tv0,rfl,t_0⟩:=kY OT.raw
   obtain ⟨ta0,tp0,rfl,_⟩:=Rep.sl t_0
   clear t_0
   go_upto_region 8 with fail
   generalize hwD:World.alloc wT _=wD
   have ED:Below wT.heap.size wT wD:=dM
   have KD:wD.cell? ⟨wT.heap.size,0,none⟩=some (.slice ta0 n.length tp0):=fA
   have hzD:wT.heap.size≤wD.heap.size:=ED.size
   clear hwD
   have ER:=(tQ hbT ED)
   have hsT:=hbT.size
   have OTD:=yD (OT.below ED)
   replace KC0:=cL ER KC0
   replace KC1:=cL ER KC1
   replace KC2:=cL ER KC2
   have HO7:=yD (HO6.out.below ER)
   have HQ:Hid ((Rep.slice 56 kF).own (wD.alloc (.cells #[.int .i64 f,.int .i64 x1,.int .i64 y3] 56)) [.slice (some ⟨wD.heap.size,0,none⟩) 1 1] [(f,x1,y3)] (Btw wD.heap.size (wD.heap.size + 1))):=yD (Rep.kT.own (Rep.jf (e:=56) (r:=kF) (w:=wD) (cs:=[.int .i64 f,.int .i64 x1,.int .i64 y3]) (xs:=[(f,x1,y3)]) (T:=fun _=>False) (S:=Btw wD.heap.size (wD.heap.size + 1)) bC (by simp [maxLen]) ⟨_,[],_,_,by simp,(Rep.flat.own (S:=fun _=>False) (Rep.jA (Rep.kW HF.out) (Rep.jA (Rep.kW HX1.out) (Rep.kW HY.out)))).1,rfl,fun _ h=>h,fun _ h=>h,fun _ _ h _=>h⟩ (fun _ h=>h.elim) ⟨Nat.le_refl _,by omega⟩) gT)
   have E8:=(tQ E6 ER)
   clear OT
   go_wp2_with (at_builtin;refine Rep.jH rfl _ _ 24 rfl (r:=kE) (e:=67) Try.underlying24 kV rfl gU gU (B:=w.heap.size) (b:=wD.heap.size + 1) (HO7.out.alloc _) gX gX gW (Rep.own.wide (T:=Btw w4.heap.size (wD.heap.size + 1)) (Rep.jV (r:=kZ) (q:=Rep.pair (Rep.slice 56 kF) Rep.int) (cs:=[.slice ta0 n.length tp0]) (ds:=[.slice (some ⟨wD.heap.size,0,none⟩) 1 1,.int .i64 0]) (x:=n) (y:=([(f,x1,y3)],0)) (S:=Btw w4.heap.size (wD.heap.size + 1)) (OTD.out.alloc _) (Rep.jm (r:=(Rep.slice 56 kF)) (q:=Rep.int) (cs:=[.slice (some ⟨wD.heap.size,0,none⟩) 1 1]) (ds:=[.int .i64 0]) (x:=[(f,x1,y3)]) (y:=0) HQ.out (Rep.kW ⟨by decide,by decide⟩)) bK bK bM) (fun j hj=>hj)) rfl bM (fun j hj=>⟨by have:=hj.1;omega,by have:=hj.2;simp;omega⟩) (fun j hj=>⟨by have:=hj.1;omega,by have:=hj.2;simp;omega⟩) gQ gV ?_)
   intro v5 w5 hown5 hbel5 hz5b
   have HO9:=yD (hown5.cast (by rw [HT.out.1,HR.out]:_=zG (n,x1,x2,x3) f t l))
   obtain ⟨pa,pn,pc,hp,HPN⟩:=hown5.parts;obtain rfl:=hp
   have E9:=(E8.alloc E8.size _).trans hbel5
   clear hown5 hbel5
   go_wp2
   go_ret2
   exact ⟨_,by rw [HT.out.2];rfl,HO9.out.own cK,E9⟩
 have HK:Hid (decide (idxOf (kR n) l < 0)=false):=yD gF
 obtain ⟨k,hkl,hki⟩:=jy hk
 have HKI:=yD hki
 rw [hki]
 have hkN:¬ ((k:Int) < 0):=gV
 clear hk hki
 go_upto_region 3 with fail
 have FX:=yD (fun (W:World) (hW:Below w4.heap.size w4 W)=>zi hW K0 K1 K2 K3)
 refine kS (fun W=>Below w4.heap.size w4 W) [true,false,true,true,true,false,true,true,true,true,true,true,true,true,true,true,true] (bR) ?_
 intro wS HS
 all_goals refine wkR ?_
 all_goals first|(refine kG rfl HS ?_)|(refine kQ rfl (fun K hK=>?_);go_simp;refine (zZ (HW.out.1.below (tQ E4 HS))).mono ?_;rintro e wV ⟨rfl,hbV⟩;replace HS:=(tQ HS hbV);refine hK _ _ HS ?_;clear hK K hbV)
 all_goals refine wkP ?_
 all_goals refine wkR ?_
 all_goals (have hg3:=True.intro;first|(refine wkG (fun b hg3=>?_);cases b;all_goals first | exact Bool.noConfusion hg3 | simp only [zU,zV] at hg3 | skip) | refine wkR ?_)
 all_goals refine wkP ?_
 all_goals refine wkR ?_
 all_goals first | refine wkC (jR) ?_ | refine wkR ?_
 all_goals refine wkR ?_
 all_goals refine wkR ?_
 all_goals (have hg8:=True.intro;first|(refine wkG (fun b hg8=>?_);cases b;all_goals first | exact Bool.noConfusion hg8 | simp only [zU,zV] at hg8 | skip) | refine wkR ?_)
 all_goals refine wkP ?_
 all_goals refine wkR ?_
 all_goals refine wkR ?_
 all_goals (have hg11:=True.intro;first|(refine wkG (fun b hg11=>?_);cases b;all_goals first | exact Bool.noConfusion hg11 | simp only [zU,zV] at hg11 | skip) | refine wkR ?_)
 all_goals refine wkP ?_
 iterate 4
  all_goals refine wkR ?_
 all_goals (have hg16:=True.intro;first|(refine wkG (fun b hg16=>?_);cases b;all_goals first | exact Bool.noConfusion hg16 | simp only [zU,zV] at hg16 | skip) | refine wkR ?_)
 all_goals refine wkP ?_
 all_goals refine kN ?_
 all_goals have E5:=(tQ E4 HS)
 all_goals have HO5:=yD (HO.out.below HS)
 all_goals have hz5:=HS.size
 all_goals have LK0:=cL HS K0
 all_goals have LK1:=cL HS K1
 all_goals have LK2:=cL HS K2
 all_goals have LK3:=cL HS K3
 all_goals clear K0 K1 K2 K3 HO
 all_goals first|(have HT:=yD (kDb (t:=t) (show jF (n,x1,x2,x3) f l=false by simp only [jF,HK.out,Bool.not_true,Bool.not_false,Bool.and_true,Bool.true_and,Bool.and_false,Bool.false_and,Bool.or_true,Bool.true_or,Bool.or_false,Bool.false_or,Bool.not_not,ge_iff_le,hg3,hg8,hg11,hg16,hg16]));go_wp2;go_ret2;exact ⟨_,by rw [HT.out.2];rfl,((HO5.out.cast HT.out.1.symm).own fD).wide bK,E5⟩) | skip
 have HT:=yD (kEt (t:=t) (show jF (n,x1,x2,x3) f l=true by simp only [jF,HK.out,Bool.not_true,Bool.not_false,Bool.and_true,Bool.true_and,Bool.and_false,Bool.false_and,Bool.or_true,Bool.true_or,Bool.or_false,Bool.false_or,Bool.not_not,ge_iff_le,hg3,hg8,hg11,hg16,hg16]) HKI.out hkl)
 go_upto_region 6 with fail
 generalize hy3:wrap64 (t + x3)=y3
 have HR:Hid (yn (n,x1,x2,x3) f t=(f,x1,y3)):=yD (by rw [← hy3];rfl)
 have HY:Hid (-9223372036854775808≤y3∧y3≤9223372036854775807):=yD fI
 clear hy3
 generalize hwC:World.alloc _ _=wC
 have EC:Below wV.heap.size wV wC:=dI
 have hzC:wV.heap.size≤wC.heap.size:=EC.size
 have KC0:wC.cell? ⟨wV.heap.size,0,none⟩=some (.int .i64 f):=dY
 have KC1:wC.cell? ⟨wV.heap.size,1,none⟩=some (.int .i64 x1):=dY
 have KC2:wC.cell? ⟨wV.heap.size,2,none⟩=some (.int .i64 y3):=dY
 have E6:=(tQ E5 EC)
 have HO6:=yD (HO5.out.below EC)
 replace LK0:=cL EC LK0
 clear hwC LK1 LK2 LK3 HO5 HS EC
 obtain ⟨b,cap,hv,hbS,hbl,hcap2,hcap3⟩:=Rep.yx HO6.out hkl
 simp only [Value.slice.injEq] at hv
 obtain ⟨rfl,hon,rfl⟩:=hv
 have hkon:k < on:=gV
 have hkI:(0:Int)≤k:=gV
 have hkI2:(k:Int) < on:=gV
 clear hon
 have HRD:=yD (HO6.out.own hlb)
 obtain ⟨c0,c1,c2,hr,A0,A1,A2⟩:=Rep.at3 HRD.out.raw hkl rfl
 obtain ⟨qv0,qv1,qhe,q_0,q_1,q_2,q_3⟩:=kM hr
 simp only [List.cons.injEq,and_true] at qhe
 obtain ⟨rfl,rfl,rfl⟩:=qhe
 have HRQ:Hid ((Rep.slice 56 kF).rd wC [c1] l[k].2.1):=yD ⟨q_2,(Rep.zg HRD.out.rd hkl).2.1⟩
 obtain ⟨ra,rp,rfl,_⟩:=Rep.sl q_2
 have hq20:l[k].2.1.length≤1048576:=HSM.out _ (List.getElem_mem hkl)
 clear hr q_0 q_1 q_2 q_3 A0 A2 HRD
 go_upto_region 9 with fail
 have FX:=yD (fun (W:World) (hW:Below wC.heap.size wC W)=>zi hW A1 KC0 KC1 KC2)
 refine kK (fun W=>Below wC.heap.size wC W) [true,true,true,true,true,true,false,true] gP gP bX (bR.drew) ?_
 intro wS HS
 iterate 6
  all_goals refine wkR ?_
 all_goals first|(refine kG rfl HS ?_)|(refine kQ rfl (fun K hK=>?_);go_simp;refine (kJd (HRQ.out.below HS) HF.out HX1.out HY.out).mono ?_;rintro e w6 ⟨v6,rfl,O6,hb6⟩;obtain ⟨pa,pn,pc,hp,HPN⟩:=O6.parts;obtain rfl:=hp;replace O6:=yD O6;have hzS:=HS.size;have hz6:=hb6.size;replace HS:=(tQ HS hb6);refine hK _ _ HS ?_;clear hK K hb6)
 all_goals refine wkP ?_
 all_goals refine wkR ?_
 all_goals refine kN ?_
 have A1b:=cL HS A1
 have HO8:=yD (HO6.out.below HS)
 have hfz:=Rep.kCn HO8.out gV (k * 3 + 1)
 have hlx:(kCb (f,x1,y3) l[k].2.1).length≤Big:=Nat.le_trans (kEi _ _) fQ
 have HS9:=yD (pend_setReq HO8.out hkl O6.out hlx bM)
 have HC9:=yD (HS9.out.cast (by rw [HT.out.1,HR.out]:_=zG (n,x1,x2,x3) f t l))
 have E9:=(tQ E6 HS)
 clear HS9
 go_wp2
 go_ret2
 exact ⟨_,by rw [HT.out.2];rfl,(HC9.out.own cK).wide (fun j hj=>by rcases hj with hj | hj;exact ⟨by have:=hj.1;omega,by have:=hj.2;simp [World.setCell];omega⟩;exact ⟨by have:=hj.1;omega,by have:=hj.2;simp [World.setCell];omega⟩),E9.setCell (show w.heap.size≤b by have:=hbS.1;omega) _⟩
theorem kDz {w:World} {vl:Value} {l:List kD} (hl:(Rep.slice 67 kE).rd w [vl] l) (hsm:∀ y∈l,y.2.1.length≤1048576) {cx:List Value} {x:kr} (hx:jl.rd w cx x) {f:Int} (hf:-9223372036854775808≤f∧f≤9223372036854775807) {t:Int} (ht:-9223372036854775808≤t∧t≤9223372036854775807) :
    Calls Try.prog 6 #[vl,.agg cx.toArray,.int .i64 f,.int .i64 t] w fun e w'=>∃ v,e=.returned (.tuple #[v,.bool (jF x f l)])∧(Rep.slice 67 kE).own w' [v] (zG x f t l) (Btw w.heap.size w'.heap.size)∧Below w.heap.size w w':=by
 have HL:=yD hl
 have HSM:=yD hsm
 have hlb:l.length≤16777216:=hl.2.1
 have HW:=yD hx
 obtain ⟨nv,rfl,r_0,r_1,r_2,r_3,r_4⟩:=jZ hx.1
 obtain ⟨n,x1,x2,x3⟩:=x
 have HN:Hid (kZ.rd w [nv] n):=yD ⟨r_0,hx.2.1⟩
 obtain ⟨na,np,rfl,_⟩:=Rep.sl r_1
 obtain ⟨va,vp,rfl,hvll⟩:=Rep.sl hl.1
 have HF:=yD hf
 have HX1:=yD r_2
 clear r_0 r_1 r_2 r_3 r_4 hl hx hf ht hsm
 go_enter Try.func6,Try.ntmps6
 go_upto_region 1 with fail
 generalize hwB:World.alloc (World.alloc w _) _=wB
 have EB:Below w.heap.size w wB:=by rw [← hwB];exact bB
 have K0:wB.cell? ⟨w.heap.size,0,none⟩=some (.slice na n.length np):=dX
 have K1:wB.cell? ⟨w.heap.size,1,none⟩=some (.int .i64 x1):=dX
 have K2:wB.cell? ⟨w.heap.size,2,none⟩=some (.int .i64 x2):=dX
 have K3:wB.cell? ⟨w.heap.size,3,none⟩=some (.int .i64 x3):=dX
 have KF:wB.cell? ⟨w.heap.size + 1,0,none⟩=some (.int .i64 f):=dX
 have hzB:wB.heap.size=w.heap.size + 2:=fV
 clear hwB
 go_wp2_with fail
 refine (kAk (HL.out.below EB)).mono ?_
 rintro e w1 ⟨v1,rfl,O1,hb1⟩
 replace K0:=cL hb1 K0
 replace K1:=cL hb1 K1
 replace K2:=cL hb1 K2
 replace K3:=cL hb1 K3
 replace KF:=cL hb1 KF
 have E1:=(tQ EB hb1)
 have hz1:=hb1.size
 have HO:=yD O1
 obtain ⟨oa,on,oc,ho,HON⟩:=O1.parts;obtain rfl:=ho
 clear O1 hb1 EB
 go_wp2_with fail
 refine (ji (HL.out.1.below E1) (HN.out.1.below E1)).mono ?_
 rintro e w4 ⟨rfl,hb4⟩
 replace K0:=cL hb4 K0
 replace K1:=cL hb4 K1
 replace K2:=cL hb4 K2
 replace K3:=cL hb4 K3
 replace KF:=cL hb4 KF
 have E4:=(tQ E1 hb4)
 have hz4:=hb4.size
 replace HO:=yD ((HO.out.below hb4).wide (T:=Btw wB.heap.size w4.heap.size) dC)
 clear hb4 E1
 by_cases hk:idxOf (kR n) l < 0
 · have HK:Hid (decide (idxOf (kR n) l < 0)=true):=yD gF
   go_upto_region 3 with fail
   have FX:=yD (fun (W:World) (hW:Below w4.heap.size w4 W)=>cLs5 hW K0 K1 K2 K3 KF)
   refine kS (fun W=>Below w4.heap.size w4 W) [true,false,true,true,true,false,true,true,true,true,true,true,true,true,true,true,true] (bR) ?_
   intro wS HS
   all_goals refine wkR ?_
   all_goals first|(refine kG rfl HS ?_)|(refine kQ rfl (fun K hK=>?_);go_simp;refine (zb (HW.out.1.below (tQ E4 HS))).mono ?_;rintro e wV ⟨rfl,hbV⟩;replace HS:=(tQ HS hbV);refine hK _ _ HS ?_;clear hK K hbV)
   all_goals refine wkP ?_
   all_goals refine wkR ?_
   all_goals (have hg3:=True.intro;first|(refine wkG (fun b hg3=>?_);cases b;all_goals first | exact Bool.noConfusion hg3 | simp only [zU,zV] at hg3 | skip) | refine wkR ?_)
   all_goals refine wkP ?_
   all_goals refine wkR ?_
   all_goals first | refine wkC (jM) ?_ | refine wkR ?_
   all_goals refine wkR ?_
   all_goals refine wkR ?_
   all_goals (have hg8:=True.intro;first|(refine wkG (fun b hg8=>?_);cases b;all_goals first | exact Bool.noConfusion hg8 | simp only [zU,zV] at hg8 | skip) | refine wkR ?_)
   all_goals refine wkP ?_
   all_goals refine wkR ?_
   all_goals refine wkR ?_
   all_goals (have hg11:=True.intro;first|(refine wkG (fun b hg11=>?_);cases b;all_goals first | exact Bool.noConfusion hg11 | simp only [zU,zV] at hg11 | skip) | refine wkR ?_)
   all_goals refine wkP ?_
   iterate 4
    all_goals refine wkR ?_
   all_goals (have hg16:=True.intro;first|(refine wkG (fun b hg16=>?_);cases b;all_goals first | exact Bool.noConfusion hg16 | simp only [zU,zV] at hg16 | skip) | refine wkR ?_)
   all_goals refine wkP ?_
   all_goals refine kN ?_
   all_goals have E5:=(tQ E4 HS)
   all_goals have HO5:=yD (HO.out.below HS)
   all_goals have hz5:=HS.size
   all_goals have LK0:=cL HS K0
   all_goals have LK1:=cL HS K1
   all_goals have LK2:=cL HS K2
   all_goals have LK3:=cL HS K3
   all_goals have LKF:=cL HS KF
   all_goals clear K0 K1 K2 K3 KF HO
   all_goals first|(have HT:=yD (kDb (t:=t) (show jF (n,x1,x2,x3) f l=false by simp only [jF,HK.out,Bool.not_true,Bool.not_false,Bool.and_true,Bool.true_and,Bool.and_false,Bool.false_and,Bool.or_true,Bool.true_or,Bool.or_false,Bool.false_or,Bool.not_not,ge_iff_le,hg3,hg8,hg11,hg16,hg16]));go_wp2;go_ret2;exact ⟨_,by rw [HT.out.2];rfl,(((zm HO5.out).cast HT.out.1.symm).own fD).wide bK,E5⟩) | skip
   have HT:=yD (kEu (t:=t) (show jF (n,x1,x2,x3) f l=true by simp only [jF,HK.out,Bool.not_true,Bool.not_false,Bool.and_true,Bool.true_and,Bool.and_false,Bool.false_and,Bool.or_true,Bool.true_or,Bool.or_false,Bool.false_or,Bool.not_not,ge_iff_le,hg3,hg8,hg11,hg16,hg16]) hk)
   have h12:=kEb HT.out.2 hk
   have hk2:¬ (0≤idxOf (kR n) l):=gV
   generalize hq:idxOf (kR n) l=q at *
   clear hq HK
   go_upto_region 6 with fail
   generalize hy3:wrap64 (t + x3)=y3
   have HR:Hid (yn (n,x1,x2,x3) f t=(f,x1,y3)):=yD (by rw [← hy3];rfl)
   have HY:Hid (-9223372036854775808≤y3∧y3≤9223372036854775807):=yD fI
   clear hy3
   generalize hwC:World.alloc _ _=wC
   have EC:Below wV.heap.size wV wC:=dI
   have hzC:wV.heap.size≤wC.heap.size:=EC.size
   have KC0:wC.cell? ⟨wV.heap.size,0,none⟩=some (.int .i64 f):=dY
   have KC1:wC.cell? ⟨wV.heap.size,1,none⟩=some (.int .i64 x1):=dY
   have KC2:wC.cell? ⟨wV.heap.size,2,none⟩=some (.int .i64 y3):=dY
   have E6:=(tQ E5 EC)
   have HO6:=yD (HO5.out.below EC)
   replace LK0:=cL EC LK0
   replace LKF:=cL EC LKF
   clear hwC LK1 LK2 LK3 HO5 HS EC
   go_upto_region 7 with fail
   have HO:Hid (Rep.kT 67 yF wC.drew (.slice oa on oc) l (Btw wB.heap.size w4.heap.size)):=yD (Rep.kT.drew HO6.out)
   have HS:Below w.heap.size w wC.drew∧(wC.drew.cell? ⟨w.heap.size,0,none⟩=some (.slice na n.length np)∧wC.drew.cell? ⟨wV.heap.size,0,none⟩=some (.int .i64 f)∧wC.drew.cell? ⟨wV.heap.size,1,none⟩=some (.int .i64 x1)∧wC.drew.cell? ⟨wV.heap.size,2,none⟩=some (.int .i64 y3)):=⟨E6.trans bR.drew,LK0,KC0,KC1,KC2⟩
   have hzw:w.heap.size≤wC.drew.heap.size:=HS.1.size
   refine kGa (fun W=>Below w.heap.size w W∧(W.cell? ⟨w.heap.size,0,none⟩=some (.slice na n.length np)∧W.cell? ⟨wV.heap.size,0,none⟩=some (.int .i64 f)∧W.cell? ⟨wV.heap.size,1,none⟩=some (.int .i64 x1)∧W.cell? ⟨wV.heap.size,2,none⟩=some (.int .i64 y3))) gP HS ?_
   change tree _ _ _ _ _ _ _ wC.drew
   have hzD:wC.heap.size≤wC.drew.heap.size:=Nat.le_refl _
   generalize hwD:wC.drew=wD at *
   clear hwD HO6 LK0 KC0 KC1 KC2
   refine kAf 0 ?_
   refine wkP ?_
   refine kAf 1 ?_
   refine wkP ?_
   refine kEz (k:=2) (v:=?_) rfl gP bX rfl HS (fun W hW=>?_) ?_
   rotate_left
   · obtain ⟨_,A0,A1,A2,A3⟩:=hW;go_simp;try with_reducible rfl
   refine wkP ?_
   refine kEz (k:=4) (v:=?_) rfl gP bX rfl HS (fun W hW=>?_) ?_
   rotate_left
   · obtain ⟨_,A0,A1,A2,A3⟩:=hW;go_simp;try with_reducible rfl
   refine wkP ?_
   refine tree_two (i:=3) (j:=5) rfl rfl gP rfl rfl (fun K hK=>?_) (fun K hK=>?_)
   · have bn0:=HS.1.size
     go_simp
     refine (yh (HN.out.below HS.1)).mono ?_
     rintro e wT ⟨tc,rfl,OT,hbT⟩
     obtain ⟨tv0,rfl,t_0⟩:=kY OT.raw
     obtain ⟨ta0,tp0,rfl,_⟩:=Rep.sl t_0
     clear t_0
     replace OT:=yD OT
     have hsT:=hbT.size
     replace HO:=yD (HO.out.below hbT)
     replace HS:=And.intro (tQ HS.1 hbT) (And.intro (cL hbT HS.2.1) (And.intro (cL hbT HS.2.2.1) (And.intro (cL hbT HS.2.2.2.1) (cL hbT HS.2.2.2.2))))
     refine hK _ _ HS ?_
     clear hK K hbT
     refine kAv (k:=5) rfl gP rfl (fun K hK=>?_)
     have bn1:=HS.1.size
     go_simp
     have HQ:Hid (Rep.kT 56 kF (wT.alloc (.cells #[.int .i64 f,.int .i64 x1,.int .i64 y3] 56)) (.slice (some ⟨wT.heap.size,0,none⟩) 1 1) [(f,x1,y3)] (Btw wT.heap.size (wT.heap.size + 1))):=yD (Rep.jf (e:=56) (r:=kF) (w:=wT) (cs:=[.int .i64 f,.int .i64 x1,.int .i64 y3]) (xs:=[(f,x1,y3)]) (T:=fun _=>False) (S:=Btw wT.heap.size (wT.heap.size + 1)) bC (by simp [maxLen]) ⟨_,[],_,_,by simp,(Rep.flat.own (S:=fun _=>False) (Rep.jA (Rep.kW HF.out) (Rep.jA (Rep.kW HX1.out) (Rep.kW HY.out)))).1,rfl,fun _ h=>h,fun _ h=>h,fun _ _ h _=>h⟩ (fun _ h=>h.elim) ⟨Nat.le_refl _,by omega⟩)
     obtain ⟨qb,hqb⟩:∃ q,q=wT.heap.size:=⟨_,rfl⟩
     rw [← hqb] at HQ
     have EU:Below wT.heap.size wT (World.alloc wT (.cells #[.int .i64 f,.int .i64 x1,.int .i64 y3] 56)):=(bR.alloc nL _)
     have hzU:wT.heap.size + 1=(World.alloc wT (.cells #[.int .i64 f,.int .i64 x1,.int .i64 y3] 56)).heap.size:=(by simp)
     generalize hwU:World.alloc wT (.cells #[.int .i64 f,.int .i64 x1,.int .i64 y3] 56)=wU at HQ EU hzU ⊢
     clear hwU
     replace HO:=yD (HO.out.below EU)
     replace OT:=yD (OT.out.below EU)
     replace HS:=And.intro (tQ HS.1 EU) (And.intro (cL EU HS.2.1) (And.intro (cL EU HS.2.2.1) (And.intro (cL EU HS.2.2.2.1) (cL EU HS.2.2.2.2))))
     replace hzU:wT.heap.size + 1≤wU.heap.size:=Nat.le_of_eq hzU
     rw [← hqb]
     replace hqb:=Nat.le_antisymm_iff.1 hqb
     refine hK _ _ HS ?_
     clear hK K EU
     refine kAf 6 ?_
     refine wkP ?_
     refine kAv (k:=7) rfl gP rfl (fun K hK=>?_)
     have bn2:=HS.1.size
     go_simp
     have EL:Below wU.heap.size wU (World.alloc wU (.cells #[.slice ta0 n.length tp0,.slice (some ⟨qb,0,none⟩) 1 1,.int .i64 0] 67)):=(bR.alloc nL _)
     obtain ⟨v5,w5,hr5,ho5,ht5⟩:=kIn (P:=Try.prog) (t:=24) (ty:=24) (r:=yF) (e:=67) (w:=wU) (u:=World.alloc wU (.cells #[.slice ta0 n.length tp0,.slice (some ⟨qb,0,none⟩) 1 1,.int .i64 0] 67)) Try.underlying24 kV rfl gU gU HO.out (b:=wU.heap.size) rfl (Rep.own.wide (T:=Btw w4.heap.size wU.heap.size) (Rep.jV (r:=kZ) (q:=Rep.pair (Rep.kDu 56 kF) Rep.int) (cs:=[.slice ta0 n.length tp0]) (ds:=[.slice (some ⟨qb,0,none⟩) 1 1,.int .i64 0]) (x:=n) (y:=([(f,x1,y3)],0)) (S:=Btw w4.heap.size wU.heap.size) OT.out (Rep.jm (r:=(Rep.kDu 56 kF)) (q:=Rep.int) (cs:=[.slice (some ⟨qb,0,none⟩) 1 1]) (ds:=[.int .i64 0]) (x:=[(f,x1,y3)]) (y:=0) (HQ.out.own0h gT) (Rep.kW ⟨by decide,by decide⟩)) bK bK (fun j h1 h2=>by have p:=h1.2;have q:=h2.1;have p2:=h1.1;have q2:=h2.2;omega)) (fun j hj=>hj)) rfl bM gV
     have hzL:wU.heap.size < (World.alloc wU (.cells #[.slice ta0 n.length tp0,.slice (some ⟨qb,0,none⟩) 1 1,.int .i64 0] 67)).heap.size:=(by simp)
     obtain ⟨lb,hlb2⟩:∃ q,q=wU.heap.size:=⟨_,rfl⟩
     rw [← hlb2] at hr5
     generalize hwL:World.alloc wU (.cells #[.slice ta0 n.length tp0,.slice (some ⟨qb,0,none⟩) 1 1,.int .i64 0] 67)=wL at EL hr5 ht5 hzL ⊢
     clear hwL
     replace HS:=And.intro (tQ HS.1 EL) (And.intro (cL EL HS.2.1) (And.intro (cL EL HS.2.2.1) (And.intro (cL EL HS.2.2.2.1) (cL EL HS.2.2.2.2))))
     rw [← hlb2]
     replace hlb2:=Nat.le_antisymm_iff.1 hlb2
     refine hK _ _ HS ?_
     clear hK K EL
     refine kAv (k:=8) rfl gP rfl (fun K hK=>?_)
     have bn3:=HS.1.size
     obtain ⟨pa,pn,pc,hp,HPN⟩:=ho5.parts;obtain rfl:=hp
     have hblk:∀ k,(some k=(Value.slice oa on oc).ownBlock∧Btw wB.heap.size w4.heap.size k)→wB.heap.size≤k∧k < w4.heap.size:=fun k hk=>hk.2
     have hkeep:∀ (bb i:Nat) (u:Value),wL.cell? ⟨bb,i,none⟩=some u→(bb < wB.heap.size∨w4.heap.size≤bb)→w5.cell? ⟨bb,i,none⟩=some u:=fun bb i u hu hq=>by have e1:w5.heap[bb]?=wL.heap[bb]?:=ht5.block _ (World.block_lt_of_cell? _ _ hu) (fun q=>by have:=q.2.1;have:=q.2.2;omega);unfold World.cell? at hu ⊢;simp only [e1];exact hu
     have hbt:Below w.heap.size wL w5:=ht5.below fK (fun k hk=>by have:=hk.2.1;omega)
     have hz5b:=ht5.size
     replace HS:=And.intro (HS.1.trans hbt) (And.intro (hkeep _ _ _ HS.2.1 (.inl gV)) (And.intro (hkeep _ _ _ HS.2.2.1 (.inr gV)) (And.intro (hkeep _ _ _ HS.2.2.2.1 (.inr gV)) (hkeep _ _ _ HS.2.2.2.2 (.inr gV)))))
     refine Rep.jW _ _ _ rfl gX gX hr5 ?_
     refine hK _ _ HS ?_
     clear hK K hr5 ht5 hkeep hblk hbt
     refine kAf 9 ?_
     refine wkP ?_
     refine kAf 10 ?_
     refine wkP ?_
     refine tree_end gP ?_
     have HO9:=yD ((zm ho5).cast (by rw [HT.out.1,HR.out]:_=zG (n,x1,x2,x3) f t l))
     have E9:=HS.1
     clear ho5
     go_wp2
     go_ret2
     exact ⟨_,by rw [HT.out.2];rfl,(HO9.out.own cK).wide (fun j hj=>by rcases hj with hj | hj | hj;exact ⟨by have:=hj.1;omega,by have:=hj.2;omega⟩;exact ⟨by have:=hj.1;omega,by have:=hj.2;omega⟩;exact ⟨by have:=hj.1;omega,by have:=hj.2;omega⟩),E9⟩
   have bn0:=HS.1.size
   go_simp
   have HQ:Hid (Rep.kT 56 kF (wD.alloc (.cells #[.int .i64 f,.int .i64 x1,.int .i64 y3] 56)) (.slice (some ⟨wD.heap.size,0,none⟩) 1 1) [(f,x1,y3)] (Btw wD.heap.size (wD.heap.size + 1))):=yD (Rep.jf (e:=56) (r:=kF) (w:=wD) (cs:=[.int .i64 f,.int .i64 x1,.int .i64 y3]) (xs:=[(f,x1,y3)]) (T:=fun _=>False) (S:=Btw wD.heap.size (wD.heap.size + 1)) bC (by simp [maxLen]) ⟨_,[],_,_,by simp,(Rep.flat.own (S:=fun _=>False) (Rep.jA (Rep.kW HF.out) (Rep.jA (Rep.kW HX1.out) (Rep.kW HY.out)))).1,rfl,fun _ h=>h,fun _ h=>h,fun _ _ h _=>h⟩ (fun _ h=>h.elim) ⟨Nat.le_refl _,by omega⟩)
   obtain ⟨qb,hqb⟩:∃ q,q=wD.heap.size:=⟨_,rfl⟩
   rw [← hqb] at HQ
   have EU:Below wD.heap.size wD (World.alloc wD (.cells #[.int .i64 f,.int .i64 x1,.int .i64 y3] 56)):=(bR.alloc nL _)
   have hzU:wD.heap.size + 1=(World.alloc wD (.cells #[.int .i64 f,.int .i64 x1,.int .i64 y3] 56)).heap.size:=(by simp)
   generalize hwU:World.alloc wD (.cells #[.int .i64 f,.int .i64 x1,.int .i64 y3] 56)=wU at HQ EU hzU ⊢
   clear hwU
   replace HO:=yD (HO.out.below EU)
   replace HS:=And.intro (tQ HS.1 EU) (And.intro (cL EU HS.2.1) (And.intro (cL EU HS.2.2.1) (And.intro (cL EU HS.2.2.2.1) (cL EU HS.2.2.2.2))))
   replace hzU:wD.heap.size + 1≤wU.heap.size:=Nat.le_of_eq hzU
   rw [← hqb]
   replace hqb:=Nat.le_antisymm_iff.1 hqb
   refine hK _ _ HS ?_
   clear hK K EU
   refine kAv (k:=3) rfl gP rfl (fun K hK=>?_)
   have bn1:=HS.1.size
   go_simp
   refine (yh (HN.out.below HS.1)).mono ?_
   rintro e wT ⟨tc,rfl,OT,hbT⟩
   obtain ⟨tv0,rfl,t_0⟩:=kY OT.raw
   obtain ⟨ta0,tp0,rfl,_⟩:=Rep.sl t_0
   clear t_0
   replace OT:=yD OT
   have hsT:=hbT.size
   replace HO:=yD (HO.out.below hbT)
   replace HQ:=yD (HQ.out.below hbT)
   replace HS:=And.intro (tQ HS.1 hbT) (And.intro (cL hbT HS.2.1) (And.intro (cL hbT HS.2.2.1) (And.intro (cL hbT HS.2.2.2.1) (cL hbT HS.2.2.2.2))))
   refine hK _ _ HS ?_
   clear hK K hbT
   refine kAf 6 ?_
   refine wkP ?_
   refine kAv (k:=7) rfl gP rfl (fun K hK=>?_)
   have bn2:=HS.1.size
   go_simp
   have EL:Below wT.heap.size wT (World.alloc wT (.cells #[.slice ta0 n.length tp0,.slice (some ⟨qb,0,none⟩) 1 1,.int .i64 0] 67)):=(bR.alloc nL _)
   obtain ⟨v5,w5,hr5,ho5,ht5⟩:=kIn (P:=Try.prog) (t:=24) (ty:=24) (r:=yF) (e:=67) (w:=wT) (u:=World.alloc wT (.cells #[.slice ta0 n.length tp0,.slice (some ⟨qb,0,none⟩) 1 1,.int .i64 0] 67)) Try.underlying24 kV rfl gU gU HO.out (b:=wT.heap.size) rfl (Rep.own.wide (T:=Btw w4.heap.size wT.heap.size) (Rep.jV (r:=kZ) (q:=Rep.pair (Rep.kDu 56 kF) Rep.int) (cs:=[.slice ta0 n.length tp0]) (ds:=[.slice (some ⟨qb,0,none⟩) 1 1,.int .i64 0]) (x:=n) (y:=([(f,x1,y3)],0)) (S:=Btw w4.heap.size wT.heap.size) OT.out (Rep.jm (r:=(Rep.kDu 56 kF)) (q:=Rep.int) (cs:=[.slice (some ⟨qb,0,none⟩) 1 1]) (ds:=[.int .i64 0]) (x:=[(f,x1,y3)]) (y:=0) (HQ.out.own0h gT) (Rep.kW ⟨by decide,by decide⟩)) bK bK (fun j h1 h2=>by have p:=h1.2;have q:=h2.1;have p2:=h1.1;have q2:=h2.2;omega)) (fun j hj=>hj)) rfl bM gV
   have hzL:wT.heap.size < (World.alloc wT (.cells #[.slice ta0 n.length tp0,.slice (some ⟨qb,0,none⟩) 1 1,.int .i64 0] 67)).heap.size:=(by simp)
   obtain ⟨lb,hlb2⟩:∃ q,q=wT.heap.size:=⟨_,rfl⟩
   rw [← hlb2] at hr5
   generalize hwL:World.alloc wT (.cells #[.slice ta0 n.length tp0,.slice (some ⟨qb,0,none⟩) 1 1,.int .i64 0] 67)=wL at EL hr5 ht5 hzL ⊢
   clear hwL
   replace HS:=And.intro (tQ HS.1 EL) (And.intro (cL EL HS.2.1) (And.intro (cL EL HS.2.2.1) (And.intro (cL EL HS.2.2.2.1) (cL EL HS.2.2.2.2))))
   rw [← hlb2]
   replace hlb2:=Nat.le_antisymm_iff.1 hlb2
   refine hK _ _ HS ?_
   clear hK K EL
   refine kAv (k:=8) rfl gP rfl (fun K hK=>?_)
   have bn3:=HS.1.size
   obtain ⟨pa,pn,pc,hp,HPN⟩:=ho5.parts;obtain rfl:=hp
   have hblk:∀ k,(some k=(Value.slice oa on oc).ownBlock∧Btw wB.heap.size w4.heap.size k)→wB.heap.size≤k∧k < w4.heap.size:=fun k hk=>hk.2
   have hkeep:∀ (bb i:Nat) (u:Value),wL.cell? ⟨bb,i,none⟩=some u→(bb < wB.heap.size∨w4.heap.size≤bb)→w5.cell? ⟨bb,i,none⟩=some u:=fun bb i u hu hq=>by have e1:w5.heap[bb]?=wL.heap[bb]?:=ht5.block _ (World.block_lt_of_cell? _ _ hu) (fun q=>by have:=q.2.1;have:=q.2.2;omega);unfold World.cell? at hu ⊢;simp only [e1];exact hu
   have hbt:Below w.heap.size wL w5:=ht5.below fK (fun k hk=>by have:=hk.2.1;omega)
   have hz5b:=ht5.size
   replace HS:=And.intro (HS.1.trans hbt) (And.intro (hkeep _ _ _ HS.2.1 (.inl gV)) (And.intro (hkeep _ _ _ HS.2.2.1 (.inr gV)) (And.intro (hkeep _ _ _ HS.2.2.2.1 (.inr gV)) (hkeep _ _ _ HS.2.2.2.2 (.inr gV)))))
   refine Rep.jW _ _ _ rfl gX gX hr5 ?_
   refine hK _ _ HS ?_
   clear hK K hr5 ht5 hkeep hblk hbt
   refine kAf 9 ?_
   refine wkP ?_
   refine kAf 10 ?_
   refine wkP ?_
   refine tree_end gP ?_
   have HO9:=yD ((zm ho5).cast (by rw [HT.out.1,HR.out]:_=zG (n,x1,x2,x3) f t l))
   have E9:=HS.1
   clear ho5
   go_wp2
   go_ret2
   exact ⟨_,by rw [HT.out.2];rfl,(HO9.out.own cK).wide (fun j hj=>by rcases hj with hj | hj | hj;exact ⟨by have:=hj.1;omega,by have:=hj.2;omega⟩;exact ⟨by have:=hj.1;omega,by have:=hj.2;omega⟩;exact ⟨by have:=hj.1;omega,by have:=hj.2;omega⟩),E9⟩
 have HK:Hid (decide (idxOf (kR n) l < 0)=false):=yD gF
 obtain ⟨k,hkl,hki⟩:=jy hk
 have HKI:=yD hki
 rw [hki]
 have hkN:¬ ((k:Int) < 0):=gV
 clear hk hki
 go_upto_region 3 with fail
 have FX:=yD (fun (W:World) (hW:Below w4.heap.size w4 W)=>cLs5 hW K0 K1 K2 K3 KF)
 refine kS (fun W=>Below w4.heap.size w4 W) [true,false,true,true,true,false,true,true,true,true,true,true,true,true,true,true,true] (bR) ?_
 intro wS HS
 all_goals refine wkR ?_
 all_goals first|(refine kG rfl HS ?_)|(refine kQ rfl (fun K hK=>?_);go_simp;refine (zb (HW.out.1.below (tQ E4 HS))).mono ?_;rintro e wV ⟨rfl,hbV⟩;replace HS:=(tQ HS hbV);refine hK _ _ HS ?_;clear hK K hbV)
 all_goals refine wkP ?_
 all_goals refine wkR ?_
 all_goals (have hg3:=True.intro;first|(refine wkG (fun b hg3=>?_);cases b;all_goals first | exact Bool.noConfusion hg3 | simp only [zU,zV] at hg3 | skip) | refine wkR ?_)
 all_goals refine wkP ?_
 all_goals refine wkR ?_
 all_goals first | refine wkC (jM) ?_ | refine wkR ?_
 all_goals refine wkR ?_
 all_goals refine wkR ?_
 all_goals (have hg8:=True.intro;first|(refine wkG (fun b hg8=>?_);cases b;all_goals first | exact Bool.noConfusion hg8 | simp only [zU,zV] at hg8 | skip) | refine wkR ?_)
 all_goals refine wkP ?_
 all_goals refine wkR ?_
 all_goals refine wkR ?_
 all_goals (have hg11:=True.intro;first|(refine wkG (fun b hg11=>?_);cases b;all_goals first | exact Bool.noConfusion hg11 | simp only [zU,zV] at hg11 | skip) | refine wkR ?_)
 all_goals refine wkP ?_
 iterate 4
  all_goals refine wkR ?_
 all_goals (have hg16:=True.intro;first|(refine wkG (fun b hg16=>?_);cases b;all_goals first | exact Bool.noConfusion hg16 | simp only [zU,zV] at hg16 | skip) | refine wkR ?_)
 all_goals refine wkP ?_
 all_goals refine kN ?_
 all_goals have E5:=(tQ E4 HS)
 all_goals have HO5:=yD (HO.out.below HS)
 all_goals have hz5:=HS.size
 all_goals have LK0:=cL HS K0
 all_goals have LK1:=cL HS K1
 all_goals have LK2:=cL HS K2
 all_goals have LK3:=cL HS K3
 all_goals have LKF:=cL HS KF
 all_goals clear K0 K1 K2 K3 KF HO
 all_goals first|(have HT:=yD (kDb (t:=t) (show jF (n,x1,x2,x3) f l=false by simp only [jF,HK.out,Bool.not_true,Bool.not_false,Bool.and_true,Bool.true_and,Bool.and_false,Bool.false_and,Bool.or_true,Bool.true_or,Bool.or_false,Bool.false_or,Bool.not_not,ge_iff_le,hg3,hg8,hg11,hg16,hg16]));go_wp2;go_ret2;exact ⟨_,by rw [HT.out.2];rfl,(((zm HO5.out).cast HT.out.1.symm).own fD).wide bK,E5⟩) | skip
 have HT:=yD (kEt (t:=t) (show jF (n,x1,x2,x3) f l=true by simp only [jF,HK.out,Bool.not_true,Bool.not_false,Bool.and_true,Bool.true_and,Bool.and_false,Bool.false_and,Bool.or_true,Bool.true_or,Bool.or_false,Bool.false_or,Bool.not_not,ge_iff_le,hg3,hg8,hg11,hg16,hg16]) HKI.out hkl)
 go_upto_region 6 with fail
 generalize hy3:wrap64 (t + x3)=y3
 have HR:Hid (yn (n,x1,x2,x3) f t=(f,x1,y3)):=yD (by rw [← hy3];rfl)
 have HY:Hid (-9223372036854775808≤y3∧y3≤9223372036854775807):=yD fI
 clear hy3
 generalize hwC:World.alloc _ _=wC
 have EC:Below wV.heap.size wV wC:=dI
 have hzC:wV.heap.size≤wC.heap.size:=EC.size
 have KC0:wC.cell? ⟨wV.heap.size,0,none⟩=some (.int .i64 f):=dY
 have KC1:wC.cell? ⟨wV.heap.size,1,none⟩=some (.int .i64 x1):=dY
 have KC2:wC.cell? ⟨wV.heap.size,2,none⟩=some (.int .i64 y3):=dY
 have E6:=(tQ E5 EC)
 have HO6:=yD (HO5.out.below EC)
 replace LK0:=cL EC LK0
 replace LKF:=cL EC LKF
 clear hwC LK1 LK2 LK3 HO5 HS EC
 obtain ⟨b,cap,hv,hbS,hbl,hcap2,hcap3⟩:=Rep.yx HO6.out hkl
 simp only [Value.slice.injEq] at hv
 obtain ⟨rfl,hon,rfl⟩:=hv
 have hkon:k < on:=gV
 have hkI:(0:Int)≤k:=gV
 have hkI2:(k:Int) < on:=gV
 clear hon
 have hq20:l[k].2.1.length≤1048576:=HSM.out _ (List.getElem_mem hkl)
 obtain ⟨ra,rp,B,A1,hQ,hB,hfr,hSb,hbz,hset⟩:=pend_part HO6.out hkl
 have HQ:=yD hQ;have HSET:=yD hset;have HB:=yD hB;clear hset hQ hB
 have HBR:Hid (∀ j,B j→wB.heap.size≤j∧j < w4.heap.size):=yD (fun j hj=>(HB.out j hj).1)
 clear HO6
 go_wp2_with fail
 refine (ym (kCw f) kAb HQ.out gV (fun wr hb x cs hr=>kDg hr ?_)).mono ?_
 · have e1:wr.heap[w.heap.size + 1]?=wC.heap[w.heap.size + 1]?:=hb.block _ gV (fun q=>by have:=(HBR.out _ q).1;omega)
   rw [← LKF];unfold World.cell?;simp only [e1]
 rintro e w6 ⟨v6,rfl,O6,T6⟩
 have HT6:=yD T6
 have hkeep6:∀ (bb i:Nat) (u:Value),wC.cell? ⟨bb,i,none⟩=some u→(bb < wB.heap.size∨w4.heap.size≤bb)→w6.cell? ⟨bb,i,none⟩=some u:=fun bb i u hu hq=>by
   have e1:w6.heap[bb]?=wC.heap[bb]?:=T6.block _ (World.block_lt_of_cell? _ _ hu) (fun q=>by have:=HBR.out _ q;omega)
   unfold World.cell? at hu ⊢;simp only [e1];exact hu
 replace LKF:=hkeep6 _ _ _ LKF (.inl gV)
 replace KC0:=hkeep6 _ _ _ KC0 (.inr gV)
 replace KC1:=hkeep6 _ _ _ KC1 (.inr gV)
 replace KC2:=hkeep6 _ _ _ KC2 (.inr gV)
 have hz6:=T6.size
 obtain ⟨i,hi,hput,hcase⟩:=kEj (f,x1,y3) l[k].2.1
 obtain ⟨M,hM⟩:∃ M,M=jI (f,x1,y3).1 l[k].2.1:=⟨_,rfl⟩
 rw [← hM] at hi hput hcase
 have HM:Hid (Rep.kT 56 kF w6 v6 M B):=yD (O6.cast (by rw [hM];rfl))
 have hMl:M.length≤1048576:=by rw [hM];exact Nat.le_trans (List.length_filter_le _ _) hq20
 have HPUT:=yD hput
 obtain ⟨pa,pn,pc,hp,HPN⟩:=HM.out.parts;obtain rfl:=hp
 have HA1:=yD A1
 clear O6 T6 hkeep6 A1 HQ hM hput
 go_wp2_with fail
 refine (yG (fun r=>decide (f≤r.1)) kAa HM.out.raw0 (fun wr hb i h cs hr=>kDf hr (cL hb LKF))).mono ?_
 rintro e w7 ⟨rfl,hb7⟩
 have hz7:=hb7.size
 have HM7:=yD (HM.out.below hb7)
 have HB7:=yD hb7
 replace KC0:=cL hb7 KC0
 replace KC1:=cL hb7 KC1
 replace KC2:=cL hb7 KC2
 clear HM hb7
 rcases hcase with ⟨hx,hi2⟩ | hx
 · have hx:idxOf (fun r:kH=>decide (f≤r.1)) M=-1:=hx
   obtain rfl:i=pn:=hi2.trans HPN.out.symm
   rw [hx]
   clear hx hi2
   go_wp2_with fail
   refine (kAc (cx:=[.int .i64 f,.int .i64 x1,.int .i64 y3]) (x:=(f,x1,y3)) (HM7.out.alloc _) gV (heap_alloc_new w7 _) (fun q=>by have:=(HBR.out _ q).2;omega) (Rep.flat.own (S:=fun _=>False) (Rep.jA (Rep.kW HF.out) (Rep.jA (Rep.kW HX1.out) (Rep.kW HY.out)))).1 ⟨trivial,trivial,trivial⟩ hi).mono ?_
   rintro e w8 ⟨v8,rfl,O8,T8⟩
   have hz8:=T8.size
   simp only [World.size_alloc] at hz8
   have HEQ:Hid (∀ j,j < wC.heap.size→¬ B j→w8.heap[j]?=wC.heap[j]?):=yD (fun j hj hn=>by
     rw [T8.block j gQ hn,heap_alloc_old w7 _ gV,HB7.out.block j gV];exact HT6.out.block j hj hn)
   have HS8:=yD (HSET.out w8 v8 (kCb (f,x1,y3) l[k].2.1) _ (fun j hj hn=>HEQ.out j (by have:=hj.2;omega) hn) (O8.cast HPUT.out.symm) (fun j hj=>hj.elim .inl (fun q=>.inr (fun p=>by have:=p.2;have:=q.1;simp at this;omega))) (Nat.le_trans (kEi _ _) fQ))
   have HC9:=yD ((zm HS8.out).cast (by rw [HT.out.1,HR.out]:_=zG (n,x1,x2,x3) f t l))
   have hbB:¬ B b:=fun q=>(HB.out b q).2 rfl
   have e1:=HEQ.out b hbz hbB
   have hu1:w8.cell? ⟨b,k * 3 + 1,none⟩=some (.slice ra l[k].2.1.length rp):=by
    have A1:=HA1.out
    unfold World.cell? at A1 ⊢;simp only [e1];exact A1
   have hfz:w8.frozen? ⟨b,k * 3 + 1,none⟩=false:=by rw [← hfr];unfold World.frozen?;simp only [e1]
   have E8:Below w.heap.size w w8:=(((E6.trans (HT6.out.below gV bU)).trans (HB7.out.mono gV)).alloc gV _).trans (T8.below gQ bU)
   obtain ⟨qa,qn,qc,hq8,HQN⟩:=O8.parts;obtain rfl:=hq8
   clear O8 T8 HS8 HEQ e1 HM7
   go_wp2
   go_ret2
   exact ⟨_,by rw [HT.out.2];rfl,(HC9.out.own cK).wide (fun j hj=>by rcases hj with hj | hj | hj;exact ⟨by have:=hj.1;omega,by have:=hj.2;simp [World.setCell];omega⟩;exact ⟨by have:=(HBR.out j hj).1;omega,by have:=(HBR.out j hj).2;simp [World.setCell];omega⟩;exact ⟨by have:=hj.1;simp at this;omega,by have:=hj.2;simp [World.setCell];omega⟩),E8.setCell (show w.heap.size≤b by have:=hbS.1;omega) _⟩
 have hx:idxOf (fun r:kH=>decide (f≤r.1)) M=(i:Int):=hx
 rw [hx]
 have hiN:¬ ((i:Int) < 0):=gV
 clear hx
 go_wp2_with fail
 refine (kAc (cx:=[.int .i64 f,.int .i64 x1,.int .i64 y3]) (x:=(f,x1,y3)) (HM7.out.alloc _) gV (heap_alloc_new w7 _) (fun q=>by have:=(HBR.out _ q).2;omega) (Rep.flat.own (S:=fun _=>False) (Rep.jA (Rep.kW HF.out) (Rep.jA (Rep.kW HX1.out) (Rep.kW HY.out)))).1 ⟨trivial,trivial,trivial⟩ hi).mono ?_
 rintro e w8 ⟨v8,rfl,O8,T8⟩
 have hz8:=T8.size
 simp only [World.size_alloc] at hz8
 have HEQ:Hid (∀ j,j < wC.heap.size→¬ B j→w8.heap[j]?=wC.heap[j]?):=yD (fun j hj hn=>by
   rw [T8.block j gQ hn,heap_alloc_old w7 _ gV,HB7.out.block j gV];exact HT6.out.block j hj hn)
 have HS8:=yD (HSET.out w8 v8 (kCb (f,x1,y3) l[k].2.1) _ (fun j hj hn=>HEQ.out j (by have:=hj.2;omega) hn) (O8.cast HPUT.out.symm) (fun j hj=>hj.elim .inl (fun q=>.inr (fun p=>by have:=p.2;have:=q.1;simp at this;omega))) (Nat.le_trans (kEi _ _) fQ))
 have HC9:=yD ((zm HS8.out).cast (by rw [HT.out.1,HR.out]:_=zG (n,x1,x2,x3) f t l))
 have hbB:¬ B b:=fun q=>(HB.out b q).2 rfl
 have e1:=HEQ.out b hbz hbB
 have hu1:w8.cell? ⟨b,k * 3 + 1,none⟩=some (.slice ra l[k].2.1.length rp):=by
  have A1:=HA1.out
  unfold World.cell? at A1 ⊢;simp only [e1];exact A1
 have hfz:w8.frozen? ⟨b,k * 3 + 1,none⟩=false:=by rw [← hfr];unfold World.frozen?;simp only [e1]
 have E8:Below w.heap.size w w8:=(((E6.trans (HT6.out.below gV bU)).trans (HB7.out.mono gV)).alloc gV _).trans (T8.below gQ bU)
 obtain ⟨qa,qn,qc,hq8,HQN⟩:=O8.parts;obtain rfl:=hq8
 clear O8 T8 HS8 HEQ e1 HM7
 go_wp2
 go_ret2
 exact ⟨_,by rw [HT.out.2];rfl,(HC9.out.own cK).wide (fun j hj=>by rcases hj with hj | hj | hj;exact ⟨by have:=hj.1;omega,by have:=hj.2;simp [World.setCell];omega⟩;exact ⟨by have:=(HBR.out j hj).1;omega,by have:=(HBR.out j hj).2;simp [World.setCell];omega⟩;exact ⟨by have:=hj.1;simp at this;omega,by have:=hj.2;simp [World.setCell];omega⟩),E8.setCell (show w.heap.size≤b by have:=hbS.1;omega) _⟩
end Go.Proofs.Ytpgnbablhdknnaa
