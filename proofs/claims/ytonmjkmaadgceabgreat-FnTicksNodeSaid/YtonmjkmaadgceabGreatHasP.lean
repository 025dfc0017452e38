/-
  Whether a name is pending.
-/
import Derived.Test.YtonmjkmaadgceabGreatSortC
import Derived.Test.YtonmjkmaadgceabGreatSoft5
set_option linter.unusedVariables false
set_option linter.defProp false
set_option linter.unusedSimpArgs false
set_option linter.unnecessarySimpa false
set_option maxRecDepth 100000
set_option maxHeartbeats 4000000
open Bool renaming and_eq_true->Aa,or_eq_false_iff->Ai,not_eq_false'->Aj,not_eq_true'->Ak
open _root_ renaming List->Ab,decide_eq_true_eq->Ah,decide_eq_false_iff_not->Ap
open List renaming pairwise_iff_getElem->Ac,mem_take_iff_getElem->Ad,getElem?_cons_succ->Ae,getElem?_cons_zero->Ag,map_cons->Al,getElem_mem->Aq,map_nil->Ar,getElem_of_mem->Av,mem_singleton->Ay
open Go renaming Value->Am,World->Au
open Int renaming natCast_nonneg->Aw
open Go.Value.slice renaming injEq->Az
namespace Go.Proofs.YtonmjkmaadgceabGreat
open Go.RowKit _root_.Go.Proofs.Tryz
def Clone_int_0 {w:Au} {va:Am} {x:Ab Int} (ha:(kD.slice 3 kD.int).rd w [va] x):Calls prog 113 #[va] w (kBs 3 kD.int x w):=by
 obtain ⟨aa,al,rfl,la⟩:=kD.sl ha.1;have HA:=yD ha;have D:=λ(W:Au) (a:Option Addr) (n c:Nat)=>Lib.run_eql_slice_nil (P:=prog) W 59 3 a n c 0 0 underlying59;cases aa with
 | none =>
   have hx:x=[]:=by
     cases x with
     | nil=>rfl
     | cons y ys =>
       exact aD
   subst hx;clear ha;go_enter func113,ntmps113;go_wp2;go_ret;exact ⟨_,rfl,kD.kR.void,bR⟩
 | some a =>
   have hb:x.length<=16777216:=ha.2.1;clear ha;go_enter func113,ntmps113;have O0:kD.kR 3 kD.int (w.alloc (.cells #[] 3)) (.slice (some ⟨w.heap.size,0,none⟩) 0 0) [] (λk=>k=w.heap.size):=kD.yO (cs:=[]) (xs:=[]) (T:=λ_=>False) bD0 bD0 rfl (λ_ h=>h.elim) rfl;go_wp2_with (at_builtin;refine kD.yQ rfl _ _ 59 rfl (r:=kD.int) (e:=3) underlying59 kAi rfl bC8 bC8 flatint (B:=w.heap.size) O0 bD1 bD1 (HA.out.alloc _) qJ bD0 bC4 ?_);intro v2 V hown o hz;have J:=yD hown;obtain ⟨a2,c2,hv⟩:=hown.zP;obtain rfl:=hv;have F:Qb w V:=Below.trans bF o;clear hown O0 o;go_wp2;go_ret;exact ⟨_,rfl,kD.kR.cast J.out bD0,F⟩
def kJn (l:Ab kJ) (n:ko) (fs:Ab Int):Ab Int:=Srt.sorted (ym l n) fs
def kLl (l:Ab kJ) (n:ko) (fs:Ab Int):(kJn l n fs).length=fs.length:=by
 unfold kJn;rw [<- Srt.kLj,Srt.kEt]
def cmpI_lt {a b:Int}:decide (kDd a b < 0)=decide (a < b):=by
 unfold kDd;by_cases h:a < b
 · rw [if_pos h];simp [h]
 rw [if_neg h];by_cases h2:b < a
 · rw [if_pos h2];simp [h]
 rw [if_neg h2];simp [h]
def sorted_snoc {α:Type} {key:α->Int} {l:Ab α} {k:Nat} (h:k < l.length):Srt.sorted key (l.take (k + 1))=Srt.put key (Srt.sorted key (l.take k)) l[k]:=by
 unfold Srt.sorted;rw [List.take_succ_eq_append_getElem h,List.foldl_append];rfl
def kGf {α:Type} {key:α->Int} {l:Ab α}:(Srt.sorted key l).length=l.length:=by rw [<- Srt.kLj,Srt.kEt]
def kUq {α:Type} {key:α->Int} {l:Ab α} {x:α} {k j:Nat} (I:j + 1=k) (hl:j < l.length) (h:decide (key x < key l[j])=true):Srt.place key k l x=Srt.place key j l x:=by
 subst I;rw [Srt.place,if_pos (by rw [Srt.zL hl];exact of_decide_eq_true h)]
def kUo {α:Type} {key:α->Int} {l:Ab α} {x:α} {k j:Nat} (I:j + 1=k) (hl:j < l.length) (h:decide (key x < key l[j])=false):Srt.place key k l x=k:=by
 subst I;rw [Srt.place,if_neg (by rw [Srt.zL hl];exact of_decide_eq_false h)]
def kZu {α:Type} {key:α->Int} {l:List α} {x:α} {k:Nat} (h:k=Srt.place key l.length l x):Srt.put key l x=l.take k++[x]++l.drop k:=by subst h;rfl
namespace kD
def kPx {α:Type} {r:kD α} {e:TypeId} {w:Au} {a:Option Addr} {n cap:Nat} {xs:Ab α} {S:Nat->Prop} (h:kR e r w (.slice a n cap) xs S):(n=0/\cap=0)\/∃ b,a=some ⟨b,0,none⟩:=by
 rcases h.2 with ⟨⟨a',h0⟩,_⟩|⟨b,cap',cur,cs,tl,h0,_⟩
 · simp only [Az] at h0;exact .inl ⟨h0.2.1,h0.2.2⟩
 simp only [Az] at h0;exact .inr ⟨b,h0.1⟩
def kSy {α:Type} {r:kD α} {e:TypeId} {w:Au} {a:Option Addr} {c:Nat} (hc:c<=maxLen):(slice e r).rd w [.slice a 0 c] []:=⟨void_raw hc,Nat.zero_le _,by simp⟩
def kTd {α:Type} {r:kD α} {e:TypeId} {w:Au} {b len cap k:Nat} {xs:Ab α} (h:(slice e r).rd w [.slice (some ⟨b,0,none⟩) len cap] xs) (hk:k<=xs.length):(slice e r).rd w [.slice (some ⟨b,0 + k * r.n,none⟩) (len - k) (cap - k)] (xs.drop k) :=
  ⟨drop_raw h.1 hk,by have:=h.2.1;simp;omega,λx hx=>h.2.2 x (List.mem_of_mem_drop hx)⟩
end kD
def kQf {w:Au} {a b:Int} {l:Ab kJ} {n:ko} {D nv:Am} {B1 U:Nat} (hl:(kD.slice 108 kL).raw w [D] l) (hn:kU.raw w [nv] n) (A0:Qc w B1 0 D) (A1:Qc w U 0 nv) :
    Calls prog 115 (#[.int .i64 a,.int .i64 b]++#[.pointer (some ⟨B1,0,none⟩),.pointer (some ⟨U,0,none⟩)]) w (bQ w (.int .i64 (kDd (ym l n a) (ym l n b)))):=by
 have HL:=yD hl
 have HN:=yD hn
 obtain ⟨H,o,a8⟩:=kZ hn
 obtain rfl:nv=H:=bB8
 obtain ⟨na,np,rfl,_⟩:=kD.sl a8
 obtain ⟨la,lp,rfl,_⟩:=kD.sl hl
 clear a8 hl hn o
 show Calls prog 115 #[_,_,_,_] w _
 go_enter func115,ntmps115
 go_upto_region 1 with fail
 have FX:=yD (λ(W:Au) (hW:Qb w W)=>kIk hW A0 A1)
 refine jm (λW=>Qb w W) [(0,true),(1,true),(2,true),(4,true),(5,true),(6,true),(3,false),(7,false),(8,false),(9,true)] bC3 bC3 pK (bR.drew) ?_
 intro wS E
 simp only [kz,Ae,Ag,Al,Ar]
 iterate 6
  all_goals refine ku ?_
 iterate 2
  all_goals first | refine wkB (kQh (kD.raw.below HL.out E) (kD.raw.below HN.out E)) (λwS1 E=>?_) | refine ku ?_
 all_goals first | refine wkC (kPg) ?_ | refine ku ?_
 all_goals refine ku ?_
 all_goals refine kS ?_
 go_wp2
 go_ret
 exact ⟨rfl,E⟩
def kMe:jI prog 115:=zQ func115 bC3 bC3
def kSs {w:Au} {vl:Am} {l:Ab kJ} (hl:(kD.slice 108 kL).rd w [vl] l) {cn:Ab Am} {n:ko} (hn:kU.rd w cn n) {vf:Am} {fs:Ab Int} (hf:(kD.slice 3 kD.int).rd w [vf] fs) :
    Calls prog 60 #[vl,.agg cn.toArray,vf] w (kAa (kD.slice 3 kD.int) (kJn l n fs) w):=by
 have HL:=yD hl
 have HN:=yD hn
 have HF:=yD hf
 have au:fs.length<=16777216:=hf.2.1
 obtain ⟨nv,rfl,a8⟩:=kZ hn.1
 obtain ⟨na,np,rfl,_⟩:=kD.sl a8
 obtain ⟨la,lp,rfl,_⟩:=kD.sl hl.1
 obtain ⟨fa,fp,rfl,_⟩:=kD.sl hf.1
 clear a8 hl hn hf
 go_enter func60,ntmps60
 go_wp2_with fail
 generalize D:World.alloc (World.alloc w _) _=N
 have EB:Qb w N:=by rw [<- D];exact bF
 have K0:Qd N w 0 (.slice la l.length lp):=tK
 have K1:Qc N (w.heap.size + 1) 0 (.slice na n.length np):=tK
 clear D
 refine (Clone_int_0 (HF.out.below EB)).mono ?_
 rintro e Y ⟨v1,rfl,O1,O⟩
 obtain ⟨oa,on,oc,ho,bb⟩:=O1.parts;obtain rfl:=ho
 have E1:=(tQ EB O)
 have J:=yD O1;have o:=yD O
 have bq:=O.size;have bu:=EB.size
 clear O1 O
 have HC:Hid (kEo (ym l n) 115 #[.pointer (some ⟨w.heap.size,0,none⟩),.pointer (some ⟨w.heap.size + 1,0,none⟩)] (jX N.heap.size Y.heap.size) Y):=yD (λwr E x y c d hx hy=>by
   have e:=o.out.trans (E.below o.out.size (λi hi=>hi.1));obtain ⟨hc,_⟩:=kD.jY hx;obtain ⟨hd,_⟩:=kD.jY hy;obtain rfl:c=_:=by simpa using hc
   obtain rfl:d=_:=by simpa using hd
   exact (kQf (HL.out.1.below (tQ EB e)) (HN.out.1.below (tQ EB e)) (cL e K0) (cL e K1)).mono (λe2 V h=>⟨_,h.1,cmpI_lt,h.2⟩))
 clear K0 K1 EB
 go_wp2_with fail
 refine (kQo (ym l n) kMe HC.out J.out au).mono ?_
 rintro e V ⟨rfl,O2,T2⟩
 have E2:=E1.trans (T2.below bC9 sJ)
 have a6:=T2.size
 have R:=yD ((O2.cast (Srt.kLj fs)).wide (T:=jX w.heap.size V.heap.size) mH)
 clear O2 T2 HC J
 go_wp2
 go_ret
 exact ⟨_,rfl,R.out.own fU,E2⟩
def jg {w:Au} {v:Am} {xs ys:Ab Int} {S:Nat->Prop} {B:Nat} {av:Option Addr} {len cap:Nat} (hown:kD.kR 3 kD.int w v xs S) (hy:(kD.slice 3 kD.int).rd w [.slice av len cap] ys) (hSB:∀ k,S k->B<=k/\k < w.heap.size) (hB:B<=w.heap.size) (hlen:xs.length + ys.length<=1000000000) :
    ∃ v' w',(Builtin.append_ #[59,59] 59 #[v,.slice av len cap]).run prog w=.ok v' w'/\kD.kR 3 kD.int w' v' (xs++ys) (jX B w'.heap.size)/\Below B w w'/\w.heap.size<=w'.heap.size :=
  kD.kLk (r:=kD.int) underlying59 kAi rfl (show 0 < 1 by omega) bC8 kD.yg hown hy hSB hB hlen
def kCd {w:Au} {cs:Ab Am} {x:Int} (hx:kD.is kD.int true w cs x (λ_=>True)) (hb:kD.bdd kD.int Big x) :
    (kD.slice 3 kD.int).rd (World.alloc w (.cells cs.toArray 3)) [.slice (some ⟨w.heap.size,0,none⟩) 1 1] [x] :=
  ((kD.yO (e:=3) (r:=kD.int) (w:=w) (cs:=cs) (xs:=[x]) (T:=λ_=>True) (S:=λ_=>True) gX rR (kD.kDm hx) (λ_ h=>h) trivial).own sM).rd
def kSd {w:Au} {vl:Am} {l:Ab kJ} (hl:(kD.slice 108 kL).rd w [vl] l) {cn:Ab Am} {n:ko} (hn:kU.rd w cn n) {vf:Am} {fs:Ab Int} (hf:(kD.slice 3 kD.int).rd w [vf] fs) :
    Calls prog 76 #[vl,.agg cn.toArray,vf] w (kAa (kD.slice 3 kD.int) (kJn l n fs) w):=by
 have HL:=yD hl
 have HN:=yD hn
 have HF:=yD hf
 have au:fs.length<=16777216:=hf.2.1
 obtain ⟨nv,rfl,a8⟩:=kZ hn.1
 obtain ⟨na,np,rfl,_⟩:=kD.sl a8
 obtain ⟨la,lp,rfl,_⟩:=kD.sl hl.1
 obtain ⟨fa,fp,rfl,_⟩:=kD.sl hf.1
 clear a8 hl hn hf
 go_enter func76,ntmps76
 go_wp2
 generalize D:World.alloc (World.alloc w _) _=N
 have EB:Qb w N:=by rw [<- D];exact bF
 have bu:=EB.size
 have K0:Qd N w 0 (.slice na n.length np):=tK
 clear D
 go_loopw [7,8] (λv i wr=>∃ (k:Nat),k<=fs.length/\i=.int .i64 k/\Hid (kD.kR 3 kD.int wr v (Srt.sorted (ym l n) (fs.take k)) (jX w.heap.size wr.heap.size))/\Qb N wr) (λ_ i _=>fs.length - (intOf i).toNat)
 case atStart=>exact ⟨0,Nat.zero_le _,rfl,yD kD.kR.void,bR⟩
 obtain ⟨i,hi,rfl,J,o⟩:=hrel
 replace K0:=cL o K0
 obtain ⟨a,m,cap,ho,HM⟩:=J.out.parts;obtain rfl:=ho
 have b4:=o.size
 have cz:=Aw i
 by_cases hlt:i < fs.length
 · have cv:(i:Int) < fs.length:=bC9
   have dv : m <= 16777216 := by have h0 : m = i := (by rw [HM.out, kGf]; simp; omega); omega
   have b7:m<=cap/\cap<=9223372036854775807:=by have h1:=J.out.kBc;have h2:=HM.out;obtain ⟨h3,h4⟩:=kD.kAd h1;exact ⟨by omega,h4⟩
   obtain ⟨fb,fo,rfl,fc,fr,Af⟩:=kD.kCv (HF.out.1.below (tQ EB o)) hlt rfl;obtain ⟨bg,Z⟩:=kD.jY fr;obtain rfl:fc=_:=by simpa using bg
   have ba:=yD (sorted_snoc (key:=ym l n) hlt);have HX:=yD fr;clear bg fr;generalize fs[i]=x at *;generalize b6:Srt.sorted (ym l n) (fs.take i)=LL at *;clear b6;go_wp2;go_loopw [9] (λq b5=>∃ (k:Nat),k<=m/\q=.int .i64 k/\Hid (Srt.place (ym l n) k LL x=Srt.place (ym l n) m LL x)/\Qb wr b5) (λq _=>(intOf q).toNat);case atStart=>exact ⟨m,Nat.le_refl _,rfl,yD rfl,bR⟩
   obtain ⟨k,bx,rfl,HP,ak⟩:=hrel;have ao:=cL ak K0;have ae:=cL ak Af;have R:=yD (J.out.below ak);have EQ:Qb N _:=(tQ o ak);have bp:=Aw k;have b2:(k:Int)<=cap:=bC9;have bj:k<=cap:=bC9;by_cases hk:0 < k
   · obtain ⟨j,I⟩:∃ j,j + 1=k:=⟨k - 1,by omega⟩;have ce:(k:Int) - 1=(j:Int):=bC9;obtain ⟨co,ch⟩:=AZ;have an:j < LL.length:=vS;have bz:(j:Int) < m:=bC9;have hp:decide ((k:Int) > 0)=true:=bC4;have b9:decide (0 < k)=true:=bA0;have cf:(0:Int) < k:=bC9;have HY:=yD (λq=>(kUq (key:=ym l n) (x:=x) I an q).symm.trans HP.out);have a4:=yD (λq=>(kUo (key:=ym l n) (x:=x) I an q).symm.trans HP.out);obtain ⟨ob,oo,rfl,b3,ap,Ao⟩:=kD.kCv R.out.kBc an rfl;obtain ⟨bd,bm⟩:=kD.jY ap;obtain rfl:b3=_:=by simpa using bd
     clear bd ap bm;generalize LL[j]=y at *;go_upto_region 6 with fail;refine jm (λW=>Qb wr W) [(0,true),(1,true),(2,true),(3,true),(4,true),(5,true),(6,true),(7,true),(8,true),(9,true),(11,true),(12,true),(13,true),(14,true),(15,true),(16,true),(10,false),(17,false),(18,true),(19,true)] bC3 bC3 pK (bR.drew) ?_;intro wS E;simp only [kz,Ae,Ag,Al,Ar];all_goals refine ku ?_
     all_goals refine ku ?_
     all_goals (refine jy λb al=>?_;cases b <;> try simp only [jw] at al)
     all_goals refine ku ?_
     all_goals first|(refine kI rfl E ?_)|(refine jC (v:=?_) rfl (λW hW=>?_) ?_;rotate_left;(· have ah:=cL hW ao;have af:=cL hW ae;have aj:=cL hW Ao;clear hW;go_simp;try with_reducible rfl))
     all_goals refine jF ?_
     iterate 4
      all_goals refine ku ?_
     iterate 2
      all_goals first|(refine kI rfl E ?_)|(refine jC (v:=?_) rfl (λW hW=>?_) ?_;rotate_left;(· have ah:=cL hW ao;have af:=cL hW ae;have aj:=cL hW Ao;clear hW;go_simp;try with_reducible rfl))
      all_goals refine jF ?_
      all_goals refine ku ?_
     all_goals refine ku ?_
     all_goals refine ku ?_
     all_goals first|(refine kI rfl E ?_)|(refine jC (v:=?_) rfl (λW hW=>?_) ?_;rotate_left;(· have ah:=cL hW ao;have af:=cL hW ae;have aj:=cL hW Ao;clear hW;go_simp;try with_reducible rfl))
     all_goals refine jF ?_
     iterate 2
      all_goals first | refine wkB (kPp (kD.raw.below HL.out.1 ((tQ EB (tQ EQ E)))) (kD.raw.below HN.out.1 ((tQ EB (tQ EQ E))))) (λwS1 E=>?_) | refine ku ?_
     all_goals refine ku ?_
     all_goals (refine jy λb aq=>?_;cases b <;> try simp only [jw] at aq)
     all_goals refine kS ?_
     all_goals have cg:=yD (tQ ak E)
     all_goals have am:=cg.out
     all_goals replace ae:=cL E ae
     all_goals first
       | (have U:=yD (show decide (ym l n x < ym l n y)=true by first | exact aq | simpa using aq);have b1:=yD (HY.out U.out);clear HY a4 U aq;go_wp2;go_roundw;(case rel=>exact ⟨j,by omega,rfl,b1,cg.out⟩);(case measure=>simp [intOf];omega))
       | (have U:=yD (show decide (ym l n x < ym l n y)=false by first | exact aq | simpa using aq);have br:=yD (a4.out U.out);clear HY a4 U aq)
     have aa:=yD (ba.out.trans (kZu (show k=_ by rw [<- HM.out];exact br.out)));have ai:=yD (J.out.below am);generalize wS1=wq at *;exact xC
   have bw:k=0:=bC9;have hp:decide ((k:Int) > 0)=false:=bC4;have cf:¬ (0:Int) < k:=bC9;have br:Hid (k=Srt.place (ym l n) m LL x):=yD (by rw [<- HP.out,bw];rfl);clear bw;go_upto_region 6 with fail;refine jm (λW=>Qb wr W) [(0,true),(1,true),(2,true),(3,true),(4,true),(5,true),(6,true),(7,true),(8,true),(9,true),(11,true),(12,true),(13,true),(14,true),(15,true),(16,true),(10,false),(17,false),(18,true),(19,true)] bC3 bC3 pK (bR.drew) ?_;intro wS E;simp only [kz,Ae,Ag,Al,Ar];all_goals refine ku ?_
   all_goals refine ku ?_
   all_goals (refine jy λb al=>?_;cases b <;> try simp only [jw] at al)
   iterate 13
    all_goals refine ku ?_
   iterate 2
    all_goals first|(refine kI rfl E ?_)|(fail)
    all_goals refine jF ?_
   all_goals refine ku ?_
   all_goals (refine jy λb aq=>?_;cases b <;> try simp only [jw] at aq)
   all_goals refine kS ?_
   all_goals have cg:=yD (tQ ak E)
   all_goals have am:=cg.out
   all_goals replace ae:=cL E ae
   have aa:=yD (ba.out.trans (kZu (show k=_ by rw [<- HM.out];exact br.out)));have ai:=yD (J.out.below am);generalize wS=wq at *;exact xC
 obtain rfl:i=fs.length:=bC9
 have a6:=J.out
 rw [List.take_length] at a6
 have R:=yD a6;clear a6
 go_wp2
 go_ret
 exact ⟨_,rfl,R.out.own fU,(tQ EB o)⟩
def kOt (m:kJ):ko × Int:=(m.1,m.2.1)
def kNj {n:ko} {f:Int} {m:kJ}:yA n f m=true↔kOt m=(n,f):=by
 unfold yA kOt eqN;simp [Prod.ext_iff,and_comm]
def okM (m:kJ):Prop:=zM m.1=true/\1<=m.2.1/\m.2.1<=6/\1<=m.2.2/\m.2.2<=50
def kUx {l:Ab kJ} {k:Nat} {m:kJ}:kDn l k m=true↔okM m/\∀ y∈l.take k,kOt y≠kOt m:=by
 have h:(decide (idxOf (yA m.1 m.2.1) (l.take k) ≥ 0)=false)↔∀ y∈l.take k,kOt y≠kOt m:=by
  rw [Ap,show (¬ idxOf (yA m.1 m.2.1) (l.take k) ≥ 0)↔idxOf (yA m.1 m.2.1) (l.take k) < 0 by omega,kIe];constructor
  · intro h y hy q;have:=h y hy;rw [kNj.2 q] at this;cases this
  intro h y hy;cases e:yA m.1 m.2.1 y with
  | false=>rfl
  | true=>exact absurd (kNj.1 e) (h y hy)
 unfold kDn okM inR;simp only [Ak,Ai,Aj,h,Aa,Ah];constructor
 · rintro ⟨a,⟨b,c⟩,⟨d,e⟩,f⟩;exact ⟨⟨a,b,c,d,e⟩,f⟩
 rintro ⟨⟨a,b,c,d,e⟩,f⟩;exact ⟨a,⟨b,c⟩,⟨d,e⟩,f⟩
def kMx {l:Ab kJ}:kBu l=true↔l.length<=24/\(∀ m∈l,okM m)/\(l.map kOt).Nodup:=by
 unfold kBu;rw [Aa,kLc,Ah];have e:(∀ j,j < l.length->kDn l j (l.getD j ([],0,0))=true)↔(∀ m∈l,okM m)/\(l.map kOt).Nodup:=by
  constructor
  · intro h;have F:∀ j (I:j < l.length),okM l[j]/\∀ y∈l.take j,kOt y≠kOt l[j]:=λj I=>kUx.1 (by have:=h j I;rwa [jS I] at this);refine ⟨λm hm=>?_,?_⟩
    · obtain ⟨j,I,rfl⟩:=Av hm;exact (F j I).1
    rw [List.Nodup,Ac];intro i j hi I D;simp only [List.length_map] at hi I;simp only [List.getElem_map];exact (F j I).2 _ (Ad.2 ⟨i,by omega,rfl⟩)
  rintro ⟨h1,h2⟩ j I;rw [jS I];refine kUx.2 ⟨h1 _ (Aq I),λy hy=>?_⟩;obtain ⟨i,hi,rfl⟩:=Ad.1 hy;rw [List.Nodup,Ac] at h2;have:=h2 i j bC4 bB4 bC9;simpa using this
 rw [e];constructor
 · rintro ⟨a,b⟩;exact ⟨b,a⟩
 rintro ⟨a,b⟩;exact ⟨b,a⟩
def map_set_key {l:Ab kJ} {k:Nat} (hk:k < l.length) {y:kJ} (h:kOt y=kOt l[k]):(l.set k y).map kOt=l.map kOt:=by
 rw [List.map_set,h];apply List.ext_getElem bD0;intro i h1 h2;by_cases e:k=i
 · subst e;simp
 simp [List.getElem_set_ne e]
def mem_set_ok {l:Ab kJ} {k:Nat} {y:kJ} (h:∀ m∈l,okM m) (hy:okM y):∀ m∈l.set k y,okM m:=by
 intro m hm;rcases List.mem_or_eq_of_mem_set hm with q | q
 · exact h m q
 rw [q];exact hy
def upF_ok {x:Int} (h:1<=x) (h2:x<=50):1<=upF x/\upF x<=50/\x<=upF x:=by
 unfold upF wrap64;omega
def recF_valid {n:ko} {f:Int} {l:Ab kJ} (h:kBu l=true):kBu (kHj n f l)=true:=by
 cases hq:zM n && inR f 1 6 with
 | false=>rw [kOo hq];exact h
 | true =>
   obtain ⟨h1,h2,h3⟩:=kMx.1 h;by_cases hi:idxOf (yA n f) l < 0
   · by_cases hl:l.length < 24
     · rw [kUn hq hi hl];refine kMx.2 ⟨by simp;omega,?_,?_⟩
       · intro m hm;rcases List.mem_append.1 hm with q | q
         · exact h2 m q
         · rw [Ay.1 q];simp only [Aa,inR,Ah] at hq;exact ⟨hq.1,hq.2.1,hq.2.2,Int.le_refl 1,(by omega:(1:Int)<=50)⟩
       · rw [List.map_append,List.nodup_append];refine ⟨h3,by simp,?_⟩;intro a ha b hb;obtain ⟨y,hy,rfl⟩:=List.mem_map.1 ha;simp only [Al,Ar,Ay] at hb;subst hb;intro q;have:=kIe.1 hi y hy;rw [kNj.2 q] at this;cases this
     · rw [kPw hq hi hl];exact h
   · obtain ⟨k,hk,ac⟩:=kDu hi;rw [kZs hq ac hk];have hm:=h2 _ (Aq hk);have hu:=upF_ok hm.2.2.2.1 hm.2.2.2.2;exact kMx.2 ⟨by simpa using h1,mem_set_ok h2 ⟨hm.1,hm.2.1,hm.2.2.1,hu.1,hu.2.1⟩,by rw [map_set_key (y:=yu l[k] (upF l[k].2.2)) hk rfl];exact h3⟩
def kYf {α κ:Type} {P:α->Prop} {key:α->κ} {ok:Ab α->Nat->α->Bool} {d:α}
    (dm:∀ l k x,ok l k x=true↔P x/\∀ y∈l.take k,key y≠key x) {l:Ab α} :
    yh (λj=>ok l j (l.getD j d)) l.length=true↔(∀ p∈l,P p)/\l.Pairwise (λa b=>key a≠key b):=by
 rw [kLc]
 constructor
 · intro h;have hk:∀ k (hk:k < l.length),P l[k]/\∀ y∈l.take k,key y≠key l[k]:=by
    intro k hk;have q:=h k hk;rw [jS hk] at q;exact (dm _ _ _).1 q
   refine ⟨λp hp=>?_,Ac.2 (λi j hi I D=>?_)⟩
   · obtain ⟨k,aa,rfl⟩:=Av hp;exact (hk k aa).1
   exact (hk j I).2 _ (Ad.2 ⟨i,by omega,rfl⟩)
 rintro ⟨h1,h2⟩ k hk
 rw [jS hk]
 refine (dm _ _ _).2 ⟨h1 _ (Aq hk),λy hy=>?_⟩
 exact lH
def idx_take {α:Type} {p:α->Bool} {l:Ab α}:(decide (idxOf p l ≥ 0)=false)↔∀ y∈l,p y=false:=by
 rw [Ap,show (¬ idxOf p l ≥ 0)↔idxOf p l < 0 by omega,kIe]
def okCe_iff {l:Ab kT} {k:Nat} {x:kT}:kNg l k x=true↔kBh x.1=true/\∀ y∈l.take k,y.1.1≠x.1.1:=by
 unfold kNg;rw [Ak,Ai,idx_take,Aj];simp [isC,eqN]
def okLoc_iff {l:Ab jN} {k:Nat} {x:jN}:kGw l k x=true↔kBh x=true/\∀ y∈l.take k,y.1≠x.1:=by
 unfold kGw;rw [Ak,Ai,idx_take,Aj];simp [isD,eqN]
def kTm {x:kg}:kBt x=true↔((∀ e∈x.2,kBh e.1=true)/\x.2.Pairwise (λa b=>a.1.1≠b.1.1))/\inR x.1 0 8=true/\(x.2.length:Int)<=x.1:=by
 unfold kBt;rw [Aa,kYf (P:=λe:kT=>kBh e.1=true) (key:=λe:kT=>e.1.1) (λl k x=>okCe_iff),Aa,decide_eq_true_iff]
def kVa {x:yB}:kAq x=true↔((∀ d∈x.1,kBh d=true)/\x.1.Pairwise (λa b=>a.1≠b.1))/\x.1.length<=8/\kBt x.2.1=true/\kDj x.2.2.1=true/\kBe x.2.2.2.2.1=true/\kBu x.2.2.2.2.2.1=true/\x.2.2.2.1.length<=24/\0<=x.2.2.2.2.2.2:=by
 unfold kAq kRg;rw [Aa,kYf (P:=λd:jN=>kBh d=true) (key:=λd:jN=>d.1) (λl k x=>okLoc_iff)];simp only [Aa,Ah];constructor
 · rintro ⟨a,⟨⟨⟨⟨⟨b,c⟩,d⟩,e⟩,f⟩,g⟩,h⟩;exact ⟨a,by omega,c,d,e,f,by omega,h⟩
 rintro ⟨a,b,c,d,e,f,g,h⟩;exact ⟨a,⟨⟨⟨⟨⟨by omega,c⟩,d⟩,e⟩,f⟩,by omega⟩,h⟩
def kPo {w:Au} {vl:Am} {l:Ab kF} (hl:(kD.slice 43 kH).raw w [vl] l) {cn:Ab Am} {n:ko} (hn:kU.raw w cn n) :
    Calls prog 29 #[vl,.agg cn.toArray] w (bQ w (.bool (decide (0<=idxOf (ja n) l)))):=by
 have HL:=yD hl
 have HN:=yD hn
 obtain ⟨la,lp,rfl,ll⟩:=kD.sl hl
 obtain ⟨av,rfl,ad⟩:=kZ hn
 obtain ⟨na,np,rfl,_⟩:=kD.sl ad
 clear hl hn ad
 go_enter func29,ntmps29
 go_wp2_with fail
 refine (kEw (HL.out.below bF) (HN.out.below bF)).mono ?_
 exact iM
def kQg {w:Au} {vl:Am} {l:Ab kF} (hl:(kD.slice 43 kH).raw w [vl] l) {cn:Ab Am} {n:ko} (hn:kU.raw w cn n) :
    Calls prog 17 #[vl,.agg cn.toArray] w (bQ w (.bool (decide (0<=idxOf (ja n) l)))):=by
 have HL:=yD hl
 have HN:=yD hn
 obtain ⟨la,lp,rfl,ll⟩:=kD.sl hl
 obtain ⟨av,rfl,ad⟩:=kZ hn
 obtain ⟨na,np,rfl,_⟩:=kD.sl ad
 clear hl hn ad
 go_enter func17,ntmps17
 go_wp2_with fail
 refine (kJr (HL.out.below bF) (HN.out.below bF)).mono ?_
 exact iM
end Go.Proofs.YtonmjkmaadgceabGreat
