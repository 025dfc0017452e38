/-
  Pending interests: what is right stays right, who asks is found again. Plain.
  Lists of requesters: equal.
  slices.EqualFunc at the program's types. Printed by genlib.py.
-/
import Derived.Test.YtpgnbablhdknnaaVPend
import Derived.Test.YtpgnbablhdknnaaAddQ
import Derived.Test.YtpgnbablhdknnaaSat
import Derived.Test.YtpgnbablhdknnaaLoop
set_option linter.unusedVariables false
set_option linter.unusedSimpArgs false
set_option linter.unnecessarySimpa false
set_option maxRecDepth 100000
set_option maxHeartbeats 4000000
namespace Go.Proofs.Ytpgnbablhdknnaa
open Go.RowKit
def okR (r:kH):Prop:=inR r.1 0 6=true∧inR r.2.1 0 1000000=true
def rising (l:List kH):Prop:=l.Pairwise (fun a b=>a.1 < b.1)
theorem kGv {l:List kH}:kCa l=true↔0 < l.length∧(∀ r∈l,okR r)∧rising l:=by
 unfold kCa
 rw [Bool.and_eq_true,decide_eq_true_iff,kHs]
 constructor
 · rintro ⟨h,h0⟩
   have hk:∀ k (hk:k < l.length),okR l[k]∧(0 < k→(l[k - 1]'gV).1 < l[k].1):=by
    intro k hk
    have q:=h k hk
    rw [jQ hk] at q
    by_cases k0:0 < k
    · rw [kCv k0 rfl gV] at q
      unfold okA at q
      simp at q
      exact ⟨⟨q.1.1,q.1.2⟩,fun _=>by omega⟩
    rw [kBo k0] at q
    unfold okA0 at q
    simp at q
    exact ⟨⟨q.1,q.2⟩,fun h=>absurd h k0⟩
   refine ⟨h0,fun r hr=>?_,kDk (fun a b c h1 h2=>by omega) (fun k hk1=>?_)⟩
   · obtain ⟨k,hkl,rfl⟩:=List.getElem_of_mem hr
     exact (hk k hkl).1
   have:=(hk (k + 1) hk1).2 gV
   simpa using this
 rintro ⟨h0,h1,h2⟩
 refine ⟨fun k hk=>?_,h0⟩
 rw [jQ hk]
 have a:=h1 _ (List.getElem_mem hk)
 by_cases k0:0 < k
 · rw [kCv k0 rfl gV]
   have b:=List.pairwise_iff_getElem.1 h2 (k - 1) k gV hk gV
   unfold okA
   simp [a.1,a.2]
   omega
 rw [kBo k0]
 unfold okA0
 simp [a.1,a.2]
def okP (p:kD):Prop:=yX p.1=true∧p.1≠[]∧kCa p.2.1=true∧inR p.2.2 0 100000=true
theorem kBp {n:kw} {p:kD}:kR n p=true↔p.1=n:=by unfold kR eqN;simp
theorem kFk {n:kw} {p:kD}:kR n p=false↔p.1≠n:=by unfold kR eqN;simp
theorem kHf {l:List kD} {k:Nat} {x:kD}:yC l k x=true↔okP x∧∀ y∈l.take k,y.1≠x.1:=by
 have h:(decide (idxOf (kR x.1) (l.take k) ≥ 0)=false)↔∀ y∈l.take k,y.1≠x.1:=by
  rw [decide_eq_false_iff_not,show (¬ idxOf (kR x.1) (l.take k) ≥ 0)↔idxOf (kR x.1) (l.take k) < 0 by omega,kBb]
  simp only [kFk]
 have h0:(((x.1.length:Int)==0)=false)↔x.1≠[]:=by
  rw [beq_eq_false_iff_ne]
  cases x.1 <;> simp
  omega
 unfold yC okP
 rw [Bool.not_eq_true',Bool.or_eq_false_iff,Bool.or_eq_false_iff,Bool.or_eq_false_iff,Bool.or_eq_false_iff,h,h0]
 simp only [Bool.not_eq_false']
 constructor
 · rintro ⟨⟨⟨⟨a,b⟩,c⟩,d⟩,e⟩;exact ⟨⟨a,b,c,d⟩,e⟩
 rintro ⟨⟨a,b,c,d⟩,e⟩;exact ⟨⟨⟨⟨a,b⟩,c⟩,d⟩,e⟩
theorem kBg {l:List kD}:yR l=true↔l.length≤12∧(∀ p∈l,okP p)∧l.Pairwise (fun a b=>a.1≠b.1):=by
 unfold yR
 rw [Bool.and_eq_true,decide_eq_true_iff,kHs]
 constructor
 · rintro ⟨h,h0⟩
   have hk:∀ k (hk:k < l.length),okP l[k]∧∀ y∈l.take k,y.1≠l[k].1:=by
    intro k hk
    have q:=h k hk
    rw [jQ hk] at q
    exact kHf.1 q
   refine ⟨h0,fun p hp=>?_,List.pairwise_iff_getElem.2 (fun i j hi hj hij=>?_)⟩
   · obtain ⟨k,hkl,rfl⟩:=List.getElem_of_mem hp
     exact (hk k hkl).1
   exact (hk j hj).2 _ (List.mem_take_iff_getElem.2 ⟨i,by omega,rfl⟩)
 rintro ⟨h0,h1,h2⟩
 refine ⟨fun k hk=>?_,h0⟩
 rw [jQ hk]
 refine kHf.2 ⟨h1 _ (List.getElem_mem hk),fun y hy=>?_⟩
 obtain ⟨i,hi,rfl⟩:=List.mem_take_iff_getElem.1 hy
 exact List.pairwise_iff_getElem.1 h2 i k gV hk gV
theorem kFf {f:Int} {l:List kH} {r:kH} (h:r∈jI f l):r∈l∧r.1≠f:=by
 unfold jI at h
 simpa using h
theorem putR_mem {a r:kH} {l:List kH} (h:r∈kCb a l):r=a∨r∈l:=by
 obtain ⟨i,hi,e,_⟩:=kEj a l
 rw [e] at h
 rcases List.mem_append.1 h with h | h
 · exact .inr (kFf (List.mem_of_mem_take h)).1
 rcases List.mem_cons.1 h with h | h
 · exact .inl h
 exact .inr (kFf (List.mem_of_mem_drop h)).1
theorem kIp {a:kH} {l:List kH}:a∈kCb a l:=by
 obtain ⟨i,hi,e,_⟩:=kEj a l
 rw [e];simp
theorem putR_rising {a:kH} {l:List kH} (h:rising l):rising (kCb a l):=by
 obtain ⟨i,hi,e,hidx⟩:=kEj a l
 have h1:rising (jI a.1 l):=h.sublist List.filter_sublist
 have hlo:∀ r∈(jI a.1 l).take i,r.1 < a.1:=by
  intro r hr
  obtain ⟨j,hj,rfl⟩:=List.mem_take_iff_getElem.1 hr
  rcases hidx with ⟨q,rfl⟩ | q
  · have:=kBb.1 (show idxOf (fun r:kH=>decide (a.1≤r.1)) (jI a.1 l) < 0 by omega) _ (List.getElem_mem (show j < (jI a.1 l).length by omega))
    simp at this
    exact this
  obtain ⟨hk,_,hq⟩:=zQ q
  have:=hq j gV
  simp at this
  exact this
 have hhi:∀ r∈(jI a.1 l).drop i,a.1 < r.1:=by
  intro r hr
  obtain ⟨j,hj,rfl⟩:=List.mem_drop_iff_getElem.1 hr
  rcases hidx with ⟨q,rfl⟩ | q
  · omega
  obtain ⟨hk,hp,_⟩:=zQ q
  have hp:a.1≤((jI a.1 l)[i]).1:=gK
  have hne:=(kFf (List.getElem_mem hk)).2
  by_cases j0:j=0
  · subst j0;simp only [Nat.add_zero] at *;omega
  have:=List.pairwise_iff_getElem.1 h1 i (i + j) hk gV gV
  omega
 unfold rising
 rw [e]
 refine List.pairwise_append.2 ⟨h1.sublist (List.take_sublist _ _),List.pairwise_cons.2 ⟨hhi,h1.sublist (List.drop_sublist _ _)⟩,fun x hx y hy=>?_⟩
 have h2:=hlo x hx
 rcases List.mem_cons.1 hy with rfl | hy
 · exact h2
 have:=hhi y hy;omega
theorem putR_good {a:kH} {l:List kH} (ha:okR a) (h:kCa l=true):kCa (kCb a l)=true:=by
 obtain ⟨h0,h1,h2⟩:=kGv.1 h
 refine kGv.2 ⟨List.length_pos_of_mem kIp,fun r hr=>?_,putR_rising h2⟩
 rcases putR_mem hr with rfl | hr
 · exact ha
 exact h1 r hr
theorem kJm {x:kr} {f:Int} {l:List kD} (h:jF x f l=true):yg x=true∧inR f 0 6=true∧(idxOf (kR x.1) l < 0→l.length < 12):=by
 have hl:=fun q=>kEb h q
 unfold jF at h
 simp at h
 exact ⟨h.1.1,h.1.2,hl⟩
theorem kJg {x:kr} (h:yg x=true):yX x.1=true∧x.1≠[]∧inR x.2.1 0 1000000=true∧inR x.2.2.1 0 16=true∧inR x.2.2.2 1 20=true:=by
 unfold yg at h
 simp only [Bool.and_eq_true,decide_eq_true_eq] at h
 obtain ⟨⟨⟨⟨a,b⟩,c⟩,d⟩,e⟩:=h
 refine ⟨a,?_,c,d,e⟩
 intro q;rw [q] at b;simp at b
theorem kIx {x:kr} {f t:Int} {l:List kD} (h:jF x f l=true) :
    (idxOf (kR x.1) l < 0∧zG x f t l=l++[(x.1,[yn x f t],0)])∨∃ k,∃ hk:k < l.length,idxOf (kR x.1) l=k∧l[k].1=x.1∧zG x f t l=l.set k (l[k].1,kCb (yn x f t) l[k].2.1,l[k].2.2):=by
 by_cases hi:idxOf (kR x.1) l < 0
 · exact .inl ⟨hi,(kEu h hi).1⟩
 obtain ⟨k,hkl,hki⟩:=jy hi
 obtain ⟨_,hp,_⟩:=zQ hki
 exact .inr ⟨k,hkl,hki,kBp.1 hp,(kEt h hki hkl).1⟩
theorem addQ_valid {x:kr} {f t:Int} {l:List kD} (h:jF x f l=true) (V:yR l=true):yR (zG x f t l)=true:=by
 obtain ⟨hw,hf,hlen⟩:=kJm h
 obtain ⟨wn,w0,wc,_,_⟩:=kJg hw
 obtain ⟨v0,v1,v2⟩:=kBg.1 V
 have hr:okR (yn x f t):=⟨hf,wc⟩
 rcases kIx (t:=t) h with ⟨hi,e⟩|⟨k,hk,hi,hn,e⟩
 · rw [e]
   refine kBg.2 ⟨by have:=hlen hi;simp;omega,fun p hp=>?_,?_⟩
   · rcases List.mem_append.1 hp with hp | hp
     · exact v1 p hp
     obtain rfl:=List.mem_singleton.1 hp
     refine ⟨wn,w0,kGv.2 ⟨by simp,fun r q=>?_,?_⟩,by simp [inR]⟩
     · rw [List.mem_singleton.1 q];exact hr
     unfold rising;simp
   refine List.pairwise_append.2 ⟨v2,by simp,fun a ha b hb=>?_⟩
   rw [List.mem_singleton.1 hb]
   exact kFk.1 (kBb.1 hi a ha)
 rw [e]
 refine kBg.2 ⟨by simpa using v0,fun p hp=>?_,?_⟩
 · rcases List.mem_or_eq_of_mem_set hp with hp | rfl
   · exact v1 p hp
   obtain ⟨a,b,c,d⟩:=v1 _ (List.getElem_mem hk)
   exact ⟨a,b,putR_good hr c,d⟩
 refine List.pairwise_iff_getElem.2 (fun i j hi hj hij=>?_)
 have q:=List.pairwise_iff_getElem.1 v2 i j (by simpa using hi) gD hij
 rw [List.getElem_set,List.getElem_set]
 split <;> split <;> simp_all
theorem kJn {x:kr} {f t:Int} {l:List kD} (h:jF x f l=true) :
    ∃ k,∃ hk:k < (zG x f t l).length,idxOf (kR x.1) (zG x f t l)=k∧(zG x f t l)[k].1=x.1∧yn x f t∈(zG x f t l)[k].2.1:=by
 rcases kIx (t:=t) h with ⟨hi,e⟩|⟨k,hk,hi,hn,e⟩
 · rw [e]
   refine ⟨l.length,by simp,idxOf_hit gW (by simp [kBp]) (fun j hj hj2=>?_),by simp,by simp⟩
   rw [List.getElem_append_left hj]
   exact kBb.1 hi _ (List.getElem_mem hj)
 rw [e]
 obtain ⟨_,hp,hq⟩:=zQ hi
 refine ⟨k,by simpa using hk,idxOf_hit gF (by simp [kBp,hn]) (fun j hj hj2=>?_),by simp [hn],by simp [kIp]⟩
 rw [List.getElem_set_ne gV]
 exact hq j hj
theorem addQ_has {x:kr} {f t:Int} {l:List kD} (h:jF x f l=true):0≤idxOf (kR x.1) (zG x f t l):=by
 obtain ⟨k,hk,e,_⟩:=kJn (t:=t) h
 rw [e];omega
theorem addQ_met {x:kr} {f t:Int} {l:List kD} (h:jF x f l=true):yn x f t∈satR x.1 (zG x f t l):=by
 obtain ⟨k,hk,e,_,hm⟩:=kJn (t:=t) h
 rw [(kGi e hk).2];exact hm
theorem addQ_loop {x:kr} {f t:Int} {l:List kD} (h:jF x f l=true) (s:List kz):kDl x (zG x f t l) s=true:=by
 obtain ⟨k,hk,e,hn,hm⟩:=kJn (t:=t) h
 unfold kDl
 rw [Bool.or_eq_true]
 refine .inl (kCz hk ?_)
 unfold zP eqN
 simp only [hn,decide_true,Bool.true_and,List.any_eq_true]
 exact ⟨_,hm,by simp [kAh,yn]⟩
theorem sat_gone {n:kw} {l:List kD} (V:yR l=true):idxOf (kR n) (satP n l) < 0:=by
 by_cases hi:idxOf (kR n) l < 0
 · rw [(sat_no hi).1];exact hi
 obtain ⟨k,hkl,hki⟩:=jy hi
 obtain ⟨_,hp,_⟩:=zQ hki
 have hn:=kBp.1 hp
 rw [(kGi hki hkl).1]
 have v2:=(kBg.1 V).2.2
 refine kBb.2 (fun y hy=>kFk.2 ?_)
 rcases List.mem_append.1 hy with hy | hy
 · obtain ⟨i,hi,rfl⟩:=List.mem_take_iff_getElem.1 hy
   rw [← hn]
   exact List.pairwise_iff_getElem.1 v2 i k gV hkl gV
 obtain ⟨j,hj,rfl⟩:=List.mem_drop_iff_getElem.1 hy
 rw [← hn]
 exact fun q=>List.pairwise_iff_getElem.1 v2 k (k + 1 + j) hkl gV gV q.symm
def vReq (x y:kH):Bool:=(x.1==y.1) && ((x.2.1==y.2.1) && (x.2.2==y.2.2))
theorem kJa (x y:kH):vReq x y=decide (x=y):=by
 obtain ⟨x0,x1,x2⟩:=x
 obtain ⟨y0,y1,y2⟩:=y
 rw [Bool.eq_iff_iff]
 simp [vReq]
theorem kEv {w:World} {va vb:Value} {a b:(List kH)} (a_0:(Rep.slice 56 kF).raw w [va] a) (b_0:(Rep.slice 56 kF).raw w [vb] b) :
    Calls Try.prog 59 #[va,vb] w fun e w'=>e=.returned (.bool (decide (a=b)))∧Below w.heap.size w w':=by
 obtain ⟨aa,capa,rfl,la⟩:=Rep.sl a_0
 obtain ⟨ab,capb,rfl,lb⟩:=Rep.sl b_0
 go_enter Try.func59,Try.ntmps59
 by_cases hl:a.length=b.length
 case neg =>
  have HT:=yD (show decide (a=b)=false by simp;rintro rfl;exact hl rfl)
  have hz:((a.length:Int) != b.length)=true:=gQ
  have hzn:(a.length != b.length)=true:=gB
  go_wp2
  go_ret
  exact ⟨kP HT.out.symm,bR⟩
 have hz:((a.length:Int) != b.length)=false:=gQ
 have hzn:(a.length != b.length)=false:=gB
 have HL:=yD hl;clear hl
 go_wp2
 go_loopw [13] (fun i wr=>∃ k:Nat,k≤a.length∧i=.int .i64 k∧Hid (a.take k=b.take k)∧Below w.heap.size w wr) (fun i _=>a.length - (intOf i).toNat)
 case atStart=>exact ⟨0,Nat.zero_le _,rfl,yD rfl,bR⟩
 obtain ⟨k,hk,rfl,HN,hbel⟩:=hrel
 by_cases hlt:k < a.length
 · have hlt2:k < b.length:=fP
   obtain ⟨pb,po,rfl,pc0,pc1,pc2,pr,Ap0,Ap1,Ap2⟩:=Rep.yP (a_0.below hbel) (i:=k) gV rfl
   obtain ⟨qb,qo,rfl,qc0,qc1,qc2,qr,Aq0,Aq1,Aq2⟩:=Rep.yP (b_0.below hbel) (i:=k) gV rfl
   have hne:=fun q=>zn hlt hlt2 q
   have hnx:=fun q=>jw HN.out hlt hlt2 q
   generalize a[k]=x at *
   generalize b[k]=y at *
   have HD:Hid (decide (x=y)=false→decide (a=b)=false):=yD (fun q=>by simp at q;simpa using hne q)
   have HX:Hid (decide (x=y)=true→a.take (k + 1)=b.take (k + 1)):=yD (fun q=>hnx (by simpa using q))
   have HV0:=yD (kJa x y)
   clear hne hnx
   obtain ⟨x0,x1,x2⟩:=x
   obtain ⟨y0,y1,y2⟩:=y
   obtain ⟨phe,p_0,p_1,p_2⟩:=ko pr
   simp only [List.cons.injEq,and_true] at phe
   obtain ⟨rfl,rfl,rfl⟩:=phe
   obtain ⟨qhe,q_0,q_1,q_2⟩:=ko qr
   simp only [List.cons.injEq,and_true] at qhe
   obtain ⟨rfl,rfl,rfl⟩:=qhe
   have hcase:(x0=y0∧x1=y1∧x2=y2)∨(x0≠y0)∨(x0=y0∧x1≠y1)∨(x0=y0∧x1=y1∧x2≠y2):=gV
   rcases hcase with ⟨rfl,rfl,rfl⟩ | e|⟨rfl,e⟩|⟨rfl,rfl,e⟩
   all_goals go_wp2_with fail
   all_goals refine kK (fun W=>Below wr.heap.size wr W) [true,true,true,true,true,true,true,true,true] gP gP bX (bR.drew) ?_
   all_goals intro wS HS
   iterate 3
    all_goals first|(refine kG rfl HS ?_)|(refine kJ (v:=?_) rfl (fun W hW=>?_) ?_;rotate_left;(· go_simp;try with_reducible rfl))
    all_goals try simp only [Act.put,zA,zB,zC]
   all_goals first|(refine kG rfl HS ?_)|(refine kJ (v:=?_) rfl (fun W hW=>?_) ?_;rotate_left;(· have A_Ap0:=cL hW Ap0;have A_Ap1:=cL hW Ap1;have A_Ap2:=cL hW Ap2;have A_Aq0:=cL hW Aq0;have A_Aq1:=cL hW Aq1;have A_Aq2:=cL hW Aq2;clear hW;go_simp;try with_reducible rfl))
   iterate 3
    all_goals try simp only [Act.put,zA,zB,zC]
    all_goals first|(refine kG rfl HS ?_)|(refine kJ (v:=?_) rfl (fun W hW=>?_) ?_;rotate_left;(· go_simp;try with_reducible rfl))
   all_goals try simp only [Act.put,zA,zB,zC]
   all_goals first|(refine kG rfl HS ?_)|(refine kJ (v:=?_) rfl (fun W hW=>?_) ?_;rotate_left;(· have A_Ap0:=cL hW Ap0;have A_Ap1:=cL hW Ap1;have A_Ap2:=cL hW Ap2;have A_Aq0:=cL hW Aq0;have A_Aq1:=cL hW Aq1;have A_Aq2:=cL hW Aq2;clear hW;go_simp;try with_reducible rfl))
   all_goals try simp only [Act.put,zA,zB,zC]
   all_goals first|(refine kG rfl HS ?_;have hg8:=True.intro)|(refine yu (v:=?_) (b:=?_) rfl (fun W hW=>?_) ?_ (fun b hg8=>?_);rotate_left;rotate_left;(· go_simp;try with_reducible rfl);(· with_reducible rfl);cases b;all_goals first|(exact Bool.noConfusion hg8)|(simp only [zU,zV] at hg8) | skip)
   all_goals try simp only [Act.put,zA,zB,zC]
   all_goals refine kN ?_
   all_goals have EG:=(tQ hbel HS)
   all_goals first
     | (have HV:=HV0.out.symm.trans (show _=false by first|(simp [vReq,e];done)|(simp [vReq];done));have HT:=yD (HD.out HV);clear HV HV0 HD HX;go_wp2;go_ret;exact ⟨kP HT.out.symm,EG⟩)
     | (have HV:=HV0.out.symm.trans (show _=true by first|(simp [vReq,e];done)|(simp [vReq];done));have HT:=yD (HX.out HV);clear HV HV0 HD HX;go_wp2;go_roundw;(case rel=>exact ⟨k + 1,by omega,by go_num,HT,EG⟩);(case measure=>simp [intOf];omega))
 have HT:=yD (show decide (a=b)=true by simp;exact zF HN.out hlt HL.out)
 go_wp2
 go_ret
 exact ⟨kP HT.out.symm,hbel⟩
theorem zl {w:World} {va vb:Value} {a b:List kD} {g:FuncId} {cp:Array Value} (hg:jG Try.prog g) (a_0:(Rep.slice 67 kE).raw w [va] a) (b_0:(Rep.slice 67 kE).raw w [vb] b)
    (hcl:∀ wr,Below w.heap.size w wr→∀ (cs ds:List Value) (x y:kD),kE.raw wr cs x→kE.raw wr ds y→Calls Try.prog g (#[.agg cs.toArray,.agg ds.toArray]++cp) wr (fun e w'=>e=.returned (.bool (decide (x=y)))∧Below wr.heap.size wr w')) :
    Calls Try.prog 56 #[va,vb,.func (.func g) #[] cp] w fun e w'=>e=.returned (.bool (decide (a=b)))∧Below w.heap.size w w':=by
 obtain ⟨aa,capa,rfl,la⟩:=Rep.sl a_0
 obtain ⟨ab,capb,rfl,lb⟩:=Rep.sl b_0
 have HCL:=yD hcl;clear hcl
 unfold jG at hg
 go_enter Try.func56,Try.ntmps56
 by_cases hl:a.length=b.length
 case neg =>
  have HT:=yD (show decide (a=b)=false by simp;rintro rfl;exact hl rfl)
  have hz:((a.length:Int) != b.length)=true:=gQ
  have hzn:(a.length != b.length)=true:=gB
  go_wp2
  go_ret
  exact ⟨kP HT.out.symm,bR⟩
 have hz:((a.length:Int) != b.length)=false:=gQ
 have hzn:(a.length != b.length)=false:=gB
 have HL:=yD hl;clear hl
 go_wp2
 go_loopw [17] (fun i wr=>∃ k:Nat,k≤a.length∧i=.int .i64 k∧Hid (a.take k=b.take k)∧Below w.heap.size w wr) (fun i _=>a.length - (intOf i).toNat)
 case atStart=>exact ⟨0,Nat.zero_le _,rfl,yD rfl,bR⟩
 obtain ⟨k,hk,rfl,HN,hbel⟩:=hrel
 by_cases hlt:k < a.length
 · have hlt2:k < b.length:=fP
   obtain ⟨pb,po,rfl,pc0,pc1,pc2,pr,Ap0,Ap1,Ap2⟩:=Rep.yP (a_0.below hbel) (i:=k) gV rfl
   obtain ⟨qb,qo,rfl,qc0,qc1,qc2,qr,Aq0,Aq1,Aq2⟩:=Rep.yP (b_0.below hbel) (i:=k) gV rfl
   have hne:=fun q=>zn hlt hlt2 q
   have hnx:=fun q=>jw HN.out hlt hlt2 q
   generalize a[k]=x at *
   generalize b[k]=y at *
   have HD:=yD hne;have HX:=yD hnx;have HR:=yD pr;have HR2:=yD qr
   clear hne hnx
   obtain ⟨pv0,pv1,phe,p_0,p_1,p_2,p_3⟩:=kM pr
   simp only [List.cons.injEq,and_true] at phe
   obtain ⟨rfl,rfl,rfl⟩:=phe
   obtain ⟨pa0,pp0,rfl,pl0⟩:=Rep.sl p_1
   obtain ⟨pa1,pp1,rfl,pl1⟩:=Rep.sl p_2
   obtain ⟨qv0,qv1,qhe,q_0,q_1,q_2,q_3⟩:=kM qr
   simp only [List.cons.injEq,and_true] at qhe
   obtain ⟨rfl,rfl,rfl⟩:=qhe
   obtain ⟨qa0,qp0,rfl,ql0⟩:=Rep.sl q_1
   obtain ⟨qa1,qp1,rfl,ql1⟩:=Rep.sl q_2
   have hlI:=Int.ofNat_lt.2 hlt2
   have hbp:=World.block_lt_of_cell? _ _ Ap0
   have hbq:=World.block_lt_of_cell? _ _ Aq0
   simp only at hbp hbq
   go_wp2_with fail
   refine (HCL.out _ (by repeat (first|(with_reducible exact hbel) | refine Below.alloc ?_ dP _ | refine Below.drew ?_)) _ _ x y (HR.out.below (by repeat (first|(with_reducible exact bR) | refine Below.alloc ?_ fZ _))) (HR2.out.below (by repeat (first|(with_reducible exact bR) | refine Below.alloc ?_ fZ _)))).mono ?_
   rintro e w1 ⟨rfl,hb1⟩
   have EG:Below w.heap.size w w1:=Below.trans (by repeat (first|(with_reducible exact hbel) | refine Below.alloc ?_ dP _ | refine Below.drew ?_)) (hb1.mono dP)
   clear hb1
   cases hz:decide (x=y)
   · have HT:=yD (show decide (a=b)=false by simp;exact HD.out gH)
     clear HD HX HR HR2
     go_wp2
     go_ret
     exact ⟨kP HT.out.symm,EG⟩
   have HT:=yD (HX.out gH)
   clear HD HX HR HR2
   go_wp2
   go_roundw
   case rel=>exact ⟨k + 1,by omega,by go_num,HT,EG⟩
   simp [intOf];omega
 have HT:=yD (show decide (a=b)=true by simp;exact zF HN.out hlt HL.out)
 go_wp2
 go_ret
 exact ⟨kP HT.out.symm,hbel⟩
end Go.Proofs.Ytpgnbablhdknnaa
