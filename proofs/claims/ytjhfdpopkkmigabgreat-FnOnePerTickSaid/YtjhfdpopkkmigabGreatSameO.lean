/-
  What goes out, compared by the laws; a number in a list.
-/
import Derived.Test.YtjhfdpopkkmigabGreatFindD
set_option linter.unusedVariables false
set_option linter.defProp false
set_option linter.unusedSimpArgs false
set_option linter.unnecessarySimpa false
set_option maxRecDepth 100000
set_option maxHeartbeats 4000000
open Bool renaming true->Tt,false->Ff
open Bool renaming not_false->Aa,and_false->Ab,false_and->Ac,not_true->Ad,and_true->Ae,true_and->Ag,or_false->Ah,false_or->Ai,or_true->Ak,true_or->Al,not_not->Am,or_eq_false_iff->Aw,eq_iff_iff->Ay,not_eq_false'->Bd,noConfusion->Be
open _root_ renaming List->Aj
open List.cons renaming injEq->Ap
open List renaming mem_or_eq_of_mem_set->Aq,mem_append->Ar,getElem_mem->Av,mem_singleton->Ba
open Go renaming Value->Au,World->Az,Calls->Bb
open Int renaming natCast_nonneg->Bc
namespace Go.Proofs.YtjhfdpopkkmigabGreat
open Go.RowKit _root_.Go.Proofs.Tryz
def kLi (f:Int) (r:kU):Bool:=r.1==f
def kGd (l:Aj kF) (n:kg) (f:Int):Bool:=if idxOf (jQ n) l < 0 then false else decide (0<=idxOf (kLi f) (l.getD (idxOf (jQ n) l).toNat ([],[],0)).2.1)
def jBl {l:List kF} {n:kg} {f:Int} (h:idxOf (jQ n) l < 0):kGd l n f=false:=by unfold kGd;rw [if_pos h]
def kMe {l:Aj kF} {n:kg} {f:Int} {k:Nat} (hk:k < l.length) (h:idxOf (jQ n) l=k):kGd l n f=decide (0<=idxOf (kLi f) l[k].2.1):=by
 unfold kGd;rw [h,if_neg bH3,Int.toNat_natCast,ja hk]
def kJp {w:Az} {cr:Aj Au} {r:kU} (hr:kM.raw w cr r) {f:Int} {R:Nat} (G:Qc w R 0 (.int .i64 f)) :
    Bb prog 53 (#[.agg cr.toArray]++#[.pointer (some ⟨R,0,none⟩)]) w (bQ w (.bool (kLi f r))):=by
 have Hr:=yD hr
 obtain ⟨rfl,D,H,O⟩:=yU hr
 show Bb prog 53 #[_,_] w _
 go_enter func53,ntmps53
 go_upto_region 1 with fail
 generalize J:World.alloc w _=N
 obtain ⟨EB,I,o,F⟩:=AX
 clear J
 obtain ⟨G,FX⟩:=JD
 refine kr (λW=>Qb N W) [Tt,Tt,Tt,Tt,Tt] bR ?_
 intro wS E
 iterate 4
  all_goals refine ky ?_
 all_goals (refine jy λb co=>?_;cases b <;> try simp only [jw] at co)
 all_goals refine kS ?_
 all_goals have EG:=(tQ EB E)
 all_goals first
   | (have L:=yD (show (kLi f r)=false by simp only [kLi,Ad,Aa,Ae,Ag,Ab,Ac,Ak,Al,Ah,Ai,Am,co]);go_wp2;go_ret;exact ⟨kW L.out.symm,EG⟩)
   | (have L:=yD (show (kLi f r)=true by simp only [kLi,Ad,Aa,Ae,Ag,Ab,Ac,Ak,Al,Ah,Ai,Am,co]);go_wp2;go_ret;exact ⟨kW L.out.symm,EG⟩)
def kFe:jK prog 53:=zP func53 bG6 bG6
def kCc {w:Az} {vl:Au} {l:Aj kF} (hl:(kD.slice 93 kH).raw w [vl] l) {cn:Aj Au} {n:kg} (hn:kN.raw w cn n) {f:Int} :
    Bb prog 11 #[vl,.agg cn.toArray,.int .i64 f] w (bQ w (.bool (kGd l n f))):=by
 have HN:=yD hn
 have HL:=yD hl
 obtain ⟨av,rfl,_⟩:=kX hn
 obtain ⟨aa,ao,rfl,la⟩:=kD.sl hl
 clear hn hl
 go_enter func11,ntmps11
 go_wp2_with fail
 refine (kCg (HL.out.below bI) (HN.out.below bI)).mono ?_
 rintro e w1 ⟨rfl,O⟩
 have EF:Qb w w1:=Below.trans bI (O.mono bD6)
 have K5:Qc w1 (w.heap.size + 1) 0 (.int .i64 f):=(O.cell (p:=⟨w.heap.size + 1,0,none⟩) bH4).trans bF7
 clear O
 by_cases h:idxOf (jQ n) l < 0
 · have L:=yD (jBl (f:=f) h);have hd:decide (0<=idxOf (jQ n) l)=false:=bF6;go_wp2;go_ret;exact ⟨kW L.out.symm,EF⟩
 obtain ⟨k,hk,hi⟩:=kAz h
 have L:=yD (kMe (f:=f) hk hi)
 rw [hi] at h ⊢
 clear hi
 obtain ⟨ba,G,rfl,c0,c1,c2,hr,A0,A1,A2⟩:=kD.kAn (HL.out.below EF) hk rfl
 obtain ⟨v0,v1,he,p0,p1,p2,F⟩:=jR hr
 simp only [Ap,and_true] at he
 obtain ⟨rfl,rfl,rfl⟩:=he
 clear hr p0 p1 F
 generalize l[k]=y at *
 obtain ⟨ra,rc,rfl,o⟩:=kD.sl p2
 have dl:=Int.ofNat_lt.2 hk
 have ce:=Bc k
 have hd:decide ((0:Int)<=(k:Int))=true:=bH4
 go_wp2_with fail
 refine (kDu (kLi f) kFe p2 ?_).mono ?_
 · intro wr hb i h cs hr;exact kJp hr (cL hb K5)
 rintro e V ⟨rfl,af⟩
 have EG:=(tQ EF af)
 clear af
 go_wp2
 go_ret
 exact ⟨kW L.out.symm,EG⟩
def kKe {w:Az} {vl:Au} {l:Aj kF} (hl:(kD.slice 93 kH).raw w [vl] l) {cn:Aj Au} {n:kg} (hn:kN.raw w cn n) {f:Int} :
    Bb prog 44 #[vl,.agg cn.toArray,.int .i64 f] w (bQ w (.bool (kGd l n f))):=by
 have HN:=yD hn
 have HL:=yD hl
 obtain ⟨av,rfl,_⟩:=kX hn
 obtain ⟨aa,ao,rfl,la⟩:=kD.sl hl
 clear hn hl
 go_enter func44,ntmps44
 go_wp2_with fail
 refine (kCi (HL.out.below bI) (HN.out.below bI)).mono ?_
 rintro e w1 ⟨rfl,O⟩
 have EF:Qb w w1:=Below.trans bI (O.mono bD6)
 clear O
 by_cases h:idxOf (jQ n) l < 0
 · have L:=yD (jBl (f:=f) h);have hd:decide (0<=idxOf (jQ n) l)=false:=bF6;go_wp2;go_loop [8] (λi=>i=.int .i64 0) (λ_=>0);case atStart=>rfl
   obtain rfl:=hrel;go_wp2;go_ret;exact ⟨kW L.out.symm,EF⟩
 obtain ⟨k,hk,hi⟩:=kAz h
 have L:=yD (kMe (f:=f) hk hi)
 rw [hi] at h ⊢
 clear hi
 obtain ⟨ba,G,rfl,c0,c1,c2,hr,A0,A1,A2⟩:=kD.kAn (HL.out.below EF) hk rfl
 obtain ⟨v0,v1,he,p0,p1,p2,F⟩:=jR hr
 simp only [Ap,and_true] at he
 obtain ⟨rfl,rfl,rfl⟩:=he
 clear hr p0 p1 F
 generalize l[k]=y at *
 obtain ⟨ra,rc,rfl,o⟩:=kD.sl p2
 have dl:=Int.ofNat_lt.2 hk
 have ce:=Bc k
 have hd:decide ((0:Int)<=(k:Int))=true:=bH4
 generalize hR:y.2.1=R at *
 clear hR
 go_wp2
 go_loop [8] (λi=>∃ j:Nat,j<=R.length/\i=.int .i64 j/\Hid (∀ m,(h:m < j)->(h2:m < R.length)->kLi f R[m]=false)) (λi=>R.length - (intOf i).toNat)
 case atStart=>exact ⟨0,Nat.zero_le _,rfl,yD (λ_ h=>by omega)⟩
 obtain ⟨j,hj,rfl,a4⟩:=hrel
 by_cases hlt:j < R.length
 · obtain ⟨bb,H,rfl,d0,d1,d2,hr,U,B1,X⟩:=kD.kAn p2 hlt rfl;obtain ⟨he,_⟩:=yU hr;simp only [Ap,and_true] at he;obtain ⟨rfl,rfl,rfl⟩:=he;clear hr;have hh:=λq=>idxOf_hit hlt q a4.out;have hm:=λq=>kAs hlt q a4.out;generalize R[j]=z at *;have HH:=yD hh;have HM:=yD hm;clear hh hm;cases hq:(z.1==f)
   · have HU:=yD (HM.out hq);clear HH HM;go_wp2;go_round;case rel=>exact ⟨j + 1,by omega,by go_num,HU⟩
     simp [intOf];omega
   have HU:=yD (L.out.trans (show decide (0<=idxOf (kLi f) R)=true by rw [HH.out hq];simp));clear HH HM;go_wp2;go_ret;exact ⟨kW HU.out.symm,EF⟩
 have HU:=yD (L.out.trans (show decide (0<=idxOf (kLi f) R)=false by rw [idxOf_miss hlt a4.out];simp))
 go_wp2
 go_ret
 exact ⟨kW HU.out.symm,EF⟩
def kKf {w:Az} {vl:Au} {l:(Aj kF)} (hl:(kD.slice 93 kH).rd w [vl] l) {cn:Aj Au} {n:kg} (hn:kN.rd w cn n) {f:Int} (hf:Qi f) :
    Bb prog 44 #[vl,.agg cn.toArray,.int .i64 f] w (bQ w (.bool (kGd l n f))):=kKe hl.1 hn.1
def kKq {w:Az} {vl:Au} {l:(Aj kF)} (hl:(kD.slice 93 kH).rd w [vl] l) {cn:Aj Au} {n:kg} (hn:kN.rd w cn n) {f:Int} (hf:Qi f) :
    Bb prog 11 #[vl,.agg cn.toArray,.int .i64 f] w (bQ w (.bool (kGd l n f))):=kCc hl.1 hn.1
def kAr (x:jd) (f:Int) (q:jF):Bool:=(!kDk q || !inR f 0 6) || kMl q x.2.2.1 x.2.2.2.1
def yj (x:jd) (f:Int) (q:jF) (t:Int):Bool:=((decide (0<=idxOf (jQ q.1) x.2.2.1) && decide (t<=kHm x.2.2.1 q.1)) || !kIg q) || (((kEw x q.1 f).length:Int)==0)
def kEi (x:jd) (f:Int) (q:jF):Aj Int:=if kGd x.2.2.1 q.1 f then kEw x q.1 f else (kEw x q.1 f).take 1
def kMc (y:jF) (g:Int):yR:=(g,true,y,kLu)
def kDo (x:jd) (f:Int) (q:jF) (t:Int):kFy :=
  if kAr x f q then (kMu x,[]) else
  if kJr q.1 t x then ((x.1,kGl q.1 t x.2.1,x.2.2.1,kAu x.2.2.2.1 q.1 q.2.1,x.2.2.2.2),[(f,false,zI,fdD q.1 t x)]) else
  if yH q f x.2.2.1 then
    if yj x f q t then ((x.1,x.2.1,kBk q f t x.2.2.1,x.2.2.2),[]) else
    ((x.1,x.2.1,kCe q.1 t (kBk q f t x.2.2.1),x.2.2.2),(kEi x f q).map (kMc (kQy q)))
  else (kMu x,[])
section
variable {x:jd} {f t:Int} {q:jF}
def kWf (h:kAr x f q=true):kDo x f q t=(kMu x,[]):=by unfold kDo;rw [h];rfl
def kPd (h:kAr x f q=false) (h2:kJr q.1 t x=true):kDo x f q t=((x.1,kGl q.1 t x.2.1,x.2.2.1,kAu x.2.2.2.1 q.1 q.2.1,x.2.2.2.2),[(f,false,zI,fdD q.1 t x)]):=by unfold kDo;rw [h,h2];rfl
def kSb (h:kAr x f q=false) (h2:kJr q.1 t x=false) (h3:yH q f x.2.2.1=false):kDo x f q t=(kMu x,[]):=by unfold kDo;rw [h,h2,h3];rfl
def kKh (h:kAr x f q=false) (h2:kJr q.1 t x=false) (h3:yH q f x.2.2.1=true) (h4:yj x f q t=true):kDo x f q t=((x.1,x.2.1,kBk q f t x.2.2.1,x.2.2.2),[]):=by unfold kDo;rw [h,h2,h3,h4];rfl
def kNh (h:kAr x f q=false) (h2:kJr q.1 t x=false) (h3:yH q f x.2.2.1=true) (h4:yj x f q t=false):kDo x f q t=((x.1,x.2.1,kCe q.1 t (kBk q f t x.2.2.1),x.2.2.2),(kEi x f q).map (kMc (kQy q))):=by unfold kDo;rw [h,h2,h3,h4];rfl
end
def kZd {x:jd} {f t:Int} {q:jF} (h:yj x f q t=false):0 < (kEw x q.1 f).length:=by
 unfold yj at h;simp only [Aw,beq_eq_false_iff_ne] at h;omega
def faces_lt {F fs:Aj Int} {kn:Bool} {k:Nat} (h:F=if kn then fs else fs.take 1):(decide (k < fs.length) && (kn || ((k:Int)==0)))=decide (k < F.length):=by
 subst h;cases kn
 · rw [Ay];simp;omega
 rw [Ay];simp
def jAe {w:Az} {a:Option Addr} {c:Nat} {F fs:Aj Int} {kn:Bool} (h:F=if kn then fs else fs.take 1) (hp:0 < fs.length) (r:(kD.slice 3 kD.int).raw w [Qs a fs c] fs):∃ m,(kD.slice 3 kD.int).raw w [.slice a m c] F:=by
 subst h;cases kn
 · exact ⟨1,kD.kGa r hp⟩
 exact ⟨_,r⟩
def jAg {F fs:Aj Int} {kn:Bool} (h:F=if kn then fs else fs.take 1):F.length<=fs.length:=by
 subst h;cases kn
 · simp;omega
 simp
def jAf {F fs:List Int} (h:F=if false then fs else fs.take 1) (hp:0 < fs.length):F.length=1:=by subst h;simp;omega
def out2_own {w:Az} {g:Int} {c0 c1 c2 c3:Au} {y:jF} {S:Nat->Prop} (hg:Qi g) (h:jO.own w [c0,c1,c2,c3] y S) :
    zg.own w [Qn g,.bool true,c0,c1,c2,c3,.slice none 0 0,.slice none 0 0,.slice none 0 0,Qn 0,Qn 0] (kMc y g) S :=
  kD.kDd (r:=kD.int) (q:=kD.pair kD.bool (kD.pair jO jI)) (cs:=[.int .i64 g]) (kD.ku hg) (kD.kDd (r:=kD.bool) (q:=kD.pair jO jI) (cs:=[.bool true]) (kD.jAc true)
    (kD.jh (r:=jO) (q:=jI) (cs:=[c0,c1,c2,c3]) (A:=S) (B:=λ_=>False) h kRp (λ_ h=>h) (λ_ h=>h.elim) (λ_ _ h=>h)))
def kTk {α:Type} {P:α->Prop} {l:Aj α} {k:Nat} {y:α} (h:∀ m∈l,P m) (hy:P y):∀ m∈l.set k y,P m:=by
 intro m hm;rcases Aq hm with hm | rfl
 · exact h m hm
 exact hy
def kQz (l:Aj yR):Nat->Int
  | 0=>0
  | k + 1=>if (l.getD k (0,false,([],0,0,0),([],[],[],0,0))).2.1 then kQz l k + 1 else kQz l k
def cntI (l:Aj yR):Int:=kQz l l.length
def cntK_yes {l:Aj yR} {k:Nat} (h:k < l.length) (q:l[k].2.1=true):kQz l (k + 1)=kQz l k + 1:=by
 show (if _ then kQz l k + 1 else kQz l k)=_;rw [ja h,q];rfl
def cntK_no {l:Aj yR} {k:Nat} (h:k < l.length) (q:l[k].2.1=false):kQz l (k + 1)=kQz l k:=by
 show (if _ then kQz l k + 1 else kQz l k)=_;rw [ja h,q];rfl
def kDb {w:Az} {vl:Au} {l:Aj yR} (hl:(kD.slice 76 zg).raw w [vl] l) :
    Bb prog 9 #[vl] w (bQ w (.int .i64 (cntI l))):=by
 obtain ⟨aa,ao,rfl,la⟩:=kD.sl hl
 go_enter func9,ntmps9
 go_wp2
 go_loopw [3,8] (λn i wr=>∃ (k:Nat) (m:Int),k<=l.length/\i=.int .i64 k/\n=.int .i64 m/\Hid (kQz l k=m)/\0<=m/\m<=k/\Qb w wr) (λ_ i _=>l.length - (intOf i).toNat)
 case atStart=>exact ⟨0,0,Nat.zero_le _,rfl,rfl,yD rfl,Int.le_refl _,Int.le_refl _,bR⟩
 obtain ⟨k,m,hk,rfl,rfl,HM,bc,N,o⟩:=hrel
 by_cases hlt:k < l.length
 · obtain ⟨qb,qo,rfl,Y,ae,ah,b7,b9,bx,c9,b0,b1,cm,bi,qr,ap,aq,ay,bd,be,ba,a3,a1,bn,bt,av⟩:=kD.get11 (hl.below o) (i:=k) bH3 rfl;have hy:=λq=>cntK_yes hlt q;have hn:=λq=>cntK_no hlt q;generalize l[k]=x at *;have HY:=yD hy;have HX:=yD hn;clear hy hn;obtain ⟨U,F,x2,x3⟩:=x;obtain ⟨b5,c5,c7,db,G,ag,ak,am,ar,bk,bg,bp,bu,bq,az,ai,bh,O,a6,a2⟩:=kJa qr;simp only [Ap,and_true] at G;obtain ⟨rfl,rfl,rfl,rfl,rfl,rfl,rfl,rfl,rfl,rfl,rfl⟩:=G;obtain ⟨aj,bf,rfl,cc⟩:=kD.sl ar;obtain ⟨cv,c4,rfl,b8⟩:=kD.sl az;obtain ⟨c1,ch,rfl,ce⟩:=kD.sl ai;obtain ⟨c6,cw,rfl,b6⟩:=kD.sl O;cases F
   · have L:=yD ((HX.out rfl).trans HM.out);clear HX HY;go_wp2;go_roundw;case rel=>exact ⟨k + 1,m,by omega,by go_num,rfl,L,by omega,by omega,(o.alloc o.size _)⟩
     simp [intOf];omega
   have L:=yD ((HY.out rfl).trans (congrArg (λz=>z + 1) HM.out));clear HX HY;go_wp2;go_roundw;case rel=>exact ⟨k + 1,m + 1,by omega,by go_num,rfl,L,by omega,by omega,(o.alloc o.size _)⟩
   simp [intOf];omega
 obtain rfl:k=l.length:=bH3
 have L:=yD (show cntI l=m from HM.out)
 go_wp2
 go_ret
 exact ⟨jV L.out.symm,o⟩
def cntF (l:Aj yR):Nat:=(l.filter (λo=>o.2.1)).length
def kTq (l:Aj yR):∀ k:Nat,k<=l.length->kQz l k=(((l.take k).filter (λo=>o.2.1)).length:Int)
  | 0,_=>by simp [kQz]
  | k + 1,h=>by
    have hk:k < l.length:=h;have ih:=kTq l k bH3;rw [List.take_succ_eq_append_getElem hk,List.filter_append,List.length_append];cases hb:l[k].2.1
    · rw [cntK_no hk hb,ih];simp [hb]
    · rw [cntK_yes hk hb,ih];simp [hb]
def kTr (l:Aj yR):cntI l=(cntF l:Int):=by
 unfold cntI cntF;rw [kTq l _ nL,List.take_length]
def goodL (l:Aj kF):Prop:=∀ y∈l,kQv y.2.1
def kDn (x:jd) (f t:Int) (q:jF):jd:=(x.1,x.2.1,kCe q.1 t (kBk q f t x.2.2.1),x.2.2.2)
def one_sent {x:jd} {f t:Int} {q:jF} (h:0 < ((kDo x f q t).2.filter (λo=>o.2.1)).length) :
    kAr x f q=false/\kJr q.1 t x=false/\yH q f x.2.2.1=true/\yj x f q t=false/\(kDo x f q t).1=kDn x f t q:=by
 cases h1:kAr x f q
 · cases h2:kJr q.1 t x
   · cases h3:yH q f x.2.2.1
     · rw [kSb h1 h2 h3] at h;simp at h
     cases h4:yj x f q t
     · exact ⟨rfl,rfl,rfl,rfl,by rw [kNh h1 h2 h3 h4];rfl⟩
     rw [kKh h1 h2 h3 h4] at h;simp at h
   rw [kPd h1 h2] at h;simp at h
 rw [kWf h1] at h;simp at h
def sentP_at {n:kg} {t:Int} {l:Aj kF} {k:Nat} (hk:k < l.length) (h:idxOf (jQ n) l=k) :
    ∃ dl:k < (kCe n t l).length,idxOf (jQ n) (kCe n t l)=k/\(kCe n t l)[k].1=l[k].1/\(kCe n t l)[k].2.1=l[k].2.1/\(kCe n t l)[k].2.2=t:=by
 obtain ⟨_,hp,hq⟩:=kDc h
 rw [kGy h hk]
 refine ⟨by simpa using hk,idxOf_hit bE2 ?_ (λj hj bf=>?_),?_,?_,?_⟩
 · rw [List.getElem_set_self];exact kFq.2 (kFq.1 hp)
 · rw [List.getElem_set_ne bH3];exact hq j hj
 · rw [List.getElem_set_self];rfl
 · rw [List.getElem_set_self];rfl
 rw [List.getElem_set_self];rfl
def addQ_nonce {x:jF} {f t c:Int} {l:Aj kF} (hx:x.2.1≠c) (h:∀ y∈l,∀ r∈y.2.1,r.2.1≠c):∀ y∈kBk x f t l,∀ r∈y.2.1,r.2.1≠c:=by
 cases hk:yH x f l
 · rw [(kKw hk).1];exact h
 rcases kNp (t:=t) hk with ⟨hi,e⟩|⟨k,hkl,hi,hn,e⟩
 · rw [e];intro y hy r hr;rcases Ar.1 hy with hy | hy
   · exact h y hy r hr
   obtain rfl:=Ba.1 hy;rw [Ba.1 hr];exact hx
 rw [e];intro y hy r hr;rcases Aq hy with hy | rfl
 · exact h y hy r hr
 rcases putR_mem hr with rfl | hr
 · exact hx
 exact h _ (Av hkl) r hr
def loop_none {q:jF} {l:Aj kF} {s:Aj jL} (hl:∀ y∈l,∀ r∈y.2.1,r.2.1≠q.2.1) (hs:∀ y∈s,y.2≠q.2.1):kMl q l s=false:=by
 unfold kMl;rw [Aw];refine ⟨List.any_eq_false.2 (λy hy=>?_),List.any_eq_false.2 (λy hy=>?_)⟩
 · unfold kGh;rw [Bool.not_eq_true,Bool.and_eq_false_iff];refine .inr (List.any_eq_false.2 (λr hr=>?_));have:=hl y hy r hr;simpa [kIa] using this
 have:=hs y hy;simp [kIe,this]
def kWe {f g t:Int} {q:jF} {l:Aj kF} (h:yH q f l=true) (hg:g=f\/kGd l q.1 g=true):kGd (kBk q f t l) q.1 g=true:=by
 have mem:∀ {m:Aj kF} {k:Nat} (hk:k < m.length),idxOf (jQ q.1) m=k->((∃ r∈m[k].2.1,r.1=g)↔kGd m q.1 g=true):=by
  intro m k hk e;rw [kMe hk e,kVf,List.any_eq_true];simp [kLi]
 obtain ⟨k,hk,e,_,hm⟩:=addQ_at (t:=t) h;rw [<- mem hk e];rcases hg with rfl | hg
 · exact ⟨_,hm,rfl⟩
 rcases kNp (t:=t) h with ⟨hi,_⟩|⟨j,hj,hi,hn,e2⟩
 · rw [jBl hi] at hg;exact Be hg
 obtain ⟨r,hr,b8⟩:=(mem hj hi).2 hg;by_cases hf:g=f
 · exact ⟨_,hm,hf.symm⟩
 have o:k=j:=by
  have h1:=kDc e;have h2:idxOf (jQ q.1) (kBk q f t l)=j:=by
   obtain ⟨_,hp,hq⟩:=kDc hi;rw [e2];refine idxOf_hit bD9 (by simp [kFq,hn]) (λi hi hi2=>?_);rw [List.getElem_set_ne bH3];exact hq i hi
  omega
 subst o;refine ⟨r,?_,b8⟩;have:(kBk q f t l)[k]=(l[k].1,kIt (kFj q f t) l[k].2.1,l[k].2.2):=by simp only [e2,List.getElem_set_self]
 rw [this];obtain ⟨i,be,e3,_⟩:=kMg (kFj q f t) l[k].2.1;show r∈kIt _ _;rw [e3];have h5:r∈yt (kFj q f t).1 l[k].2.1:=by unfold yt;rw [List.mem_filter];exact ⟨hr,by simp [kFj];omega⟩
 rw [<- List.take_append_drop i (yt _ _)] at h5;rcases Ar.1 h5 with h6 | h6
 · exact Ar.2 (.inl h6)
 exact Ar.2 (.inr (List.mem_cons_of_mem _ h6))
def retr_sent {n:kg} {g t:Int} {l:Aj kF} {k:Nat} (hk:k < l.length) (e:idxOf (jQ n) l=k):kGd (kCe n t l) n g=kGd l n g:=by
 obtain ⟨h2,e2,_,q,_⟩:=sentP_at (t:=t) hk e;rw [kMe h2 e2,kMe hk e,q]
def fresh_later {n:kg} {t u:Int} {x:jd} (o:t<=u) (h:kJr n t x=false):kJr n u x=false:=by
 by_cases hi:idxOf (isD n) x.1 < 0
 · rw [(fd_no hi).1] at h ⊢;unfold lkOk at h ⊢;simp only [Bd,decide_eq_true_eq] at h ⊢;rw [kSp] at h ⊢;intro y hy;have:=h y hy;unfold kLo fresh at this ⊢;simp only [Bool.and_eq_false_iff,decide_eq_false_iff_not] at this ⊢;rcases this with q | q
   · exact .inl q
   exact .inr bH3
 obtain ⟨k,hk,e⟩:=kAz hi;rw [(fd_yes (t:=t) hk e).1] at h;exact Be h
structure Second (x:jd) (f:Int) (q:jF) (s c t:Int):Prop where
  bad:kAr (kDn x f t q) s (q.1,c,q.2.2)=false
  none:kJr q.1 t (kDn x f t q)=false
  later:kJr q.1 (t + 1) (kDn x f t q)=false
  ok:yH (q.1,c,q.2.2) s (kDn x f t q).2.2.1=true
  still:yj (kDn x f t q) s (q.1,c,q.2.2) t=true
  moved:0 < (kEw x q.1 s).length->yj (kDn x f t q) s (q.1,c,q.2.2) (t + 1)=false
  here:∀ u,kGd (kBk (q.1,c,q.2.2) s u (kDn x f t q).2.2.1) q.1 s=true
  there:∀ u,kGd (kBk (q.1,c,q.2.2) s u (kDn x f t q).2.2.1) q.1 f=true
def second {x:jd} {f s c t:Int} {q:jF} (hp:goodL x.2.2.1) (hs:kFm x.2.2.2.1) (hq:q.2.1 < 100\/1000000<=q.2.1) (hc:100<=c/\c < 1000000) (h6:0<=s/\s<=6)
    (h1:kAr x f q=false) (h2:kJr q.1 t x=false) (h3:yH q f x.2.2.1=true) (h4:yj x f q t=false):Second x f q s c t:=by
 obtain ⟨k,hk,e,hn,hm⟩:=addQ_at (t:=t) h3
 obtain ⟨k2,e2,n2,r2,t2⟩:=sentP_at (t:=t) hk e
 have hw:kDk q=true:=(kRi h3).1
 have H:kDk (q.1,c,q.2.2)=true:=by
  unfold kDk at hw ⊢;simp only [Bool.and_eq_true] at hw ⊢;exact ⟨⟨⟨hw.1.1.1,by unfold inR;simp;omega⟩,hw.1.2⟩,hw.2⟩
 have O:inR s 0 6=true:=by unfold inR;simp;omega
 have hl:∀ y∈kCe q.1 t (kBk q f t x.2.2.1),∀ r∈y.2.1,r.2.1≠c:=by
  have E:=addQ_nonce (f:=f) (t:=t) (c:=c) (x:=q) (l:=x.2.2.1) bH3 (λy hy r hr=>by have:=(hp y hy).2 r hr;omega);rw [kGy e hk];intro y hy r hr;rcases Aq hy with hy | rfl
  · exact E y hy r hr
  exact E _ (Av hk) r hr
 have hb:kMl (q.1,c,q.2.2) (kCe q.1 t (kBk q f t x.2.2.1)) x.2.2.2.1=false:=loop_none hl (λy hy=>by have:=hs.2 y hy;show y.2≠c;omega)
 have ok:yH (q.1,c,q.2.2) s (kCe q.1 t (kBk q f t x.2.2.1))=true:=by
  unfold yH;rw [H,O,show idxOf (jQ (q.1,c,q.2.2).1) (kCe q.1 t (kBk q f t x.2.2.1))=k from e2,decide_eq_false (show ¬ ((k:Nat):Int) < 0 by omega)];rfl
 have o:kIg (q.1,c,q.2.2)=true:=by
  unfold yj at h4;simp only [Aw,Bd] at h4;exact h4.1.2
 refine ⟨?_,h2,fresh_later (x:=x) bH3 h2,ok,?_,λho=>?_,λu=>kWe ok (.inl rfl),λu=>kWe ok (.inr ?_)⟩
 · unfold kAr;rw [H,O];exact hb
 · unfold yj;have:kHm (kDn x f t q).2.2.1 q.1=t:=(kKn k2 e2).trans t2;rw [show idxOf (jQ (q.1,c,q.2.2).1) (kDn x f t q).2.2.1=k from e2,show kHm (kDn x f t q).2.2.1 (q.1,c,q.2.2).1=t from this];simp
 · unfold yj;have:kHm (kDn x f t q).2.2.1 q.1=t:=(kKn k2 e2).trans t2;rw [show idxOf (jQ (q.1,c,q.2.2).1) (kDn x f t q).2.2.1=k from e2,show kHm (kDn x f t q).2.2.1 (q.1,c,q.2.2).1=t from this,o,show kEw (kDn x f t q) (q.1,c,q.2.2).1 s=kEw x q.1 s from rfl];simp;exact ⟨by omega,λe0=>by rw [e0] at ho;simp at ho⟩
 rw [show kGd (kDn x f t q).2.2.1 q.1 f=kGd (kBk q f t x.2.2.1) q.1 f from retr_sent hk e]
 exact kWe h3 (.inl rfl)
def lenN_sent {x:jd} {f t:Int} {q:jF} (h:kHf x):lenN 1048576 (kDn x f t q):=by
 obtain ⟨a,b,c,d,e,g,_⟩:=h;have hl:∀ l:Aj kF,(l.length<=100/\∀ y∈l,y.2.1.length<=100)->(kCe q.1 t l).length<=100/\∀ y∈kCe q.1 t l,y.2.1.length<=100:=by
  intro l hl;by_cases hi:idxOf (jQ q.1) l < 0
  · rw [kQg hi];exact hl
  obtain ⟨k,hk,e⟩:=kAz hi;rw [kGy e hk];exact ⟨by rw [List.length_set];exact hl.1,kTk (P:=λy:kF=>y.2.1.length<=100) hl.2 (show l[k].2.1.length<=100 from hl.2 _ (Av hk))⟩
 have ha:(kBk q f t x.2.2.1).length<=100/\∀ y∈kBk q f t x.2.2.1,y.2.1.length<=100:=by
  have c1:=c.1;cases hk:yH q f x.2.2.1
  · rw [(kKw hk).1];exact ⟨by omega,λy hy=>by have:=(c.2 y hy).1;omega⟩
  rcases kNp (t:=t) hk with ⟨hi,e⟩|⟨k,hkl,hi,hn,e⟩
  · rw [e];refine ⟨by simp;omega,λy hy=>?_⟩;rcases Ar.1 hy with hy | hy
    · have:=(c.2 y hy).1;omega
    rw [Ba.1 hy];show 1<=100;omega
  rw [e];refine ⟨by rw [List.length_set];omega,kTk (P:=λy:kF=>y.2.1.length<=100) (λy hy=>by have:=(c.2 y hy).1;omega) ?_⟩;have h1:=kMf (kFj q f t) x.2.2.1[k].2.1;have h2:=(c.2 _ (Av hkl)).1;show (kIt _ _).length<=100;omega
 have hs:=hl _ ha;exact lenN_mk (x:=kDn x f t q) (by show x.1.length<=_;omega) (by show x.2.1.2.length<=_;omega) (Nat.le_trans hs.1 bH2) (λy hy=>Nat.le_trans (hs.2 y hy) bH2) (by have:=d.1;show x.2.2.2.1.length<=_;omega) (by show x.2.2.2.2.1.length<=_;omega) (by show x.2.2.2.2.2.1.length<=_;omega)
def kYn {x:jd} {f:Int} {q:jF} (h:0 < (kEw x q.1 f).length):0 < (kEi x f q).length:=by
 unfold kEi;split
 · exact h
 rw [List.length_take];omega
structure OneTick (x:jd) (f:Int) (q:jF) (F:jd):Prop where
  face:0<=f/\f<=6
  len:lenN 1048576 F
  then_:∀ s c:Int,0<=s->s<=6->100<=c->c < 1000000->∃ R,kDo F s (q.1,c,q.2.2) 50=(R,[])/\kGd R.2.2.1 q.1 s=true/\kGd R.2.2.1 q.1 f=true/\(0 < cntI (kDo F s (q.1,c,q.2.2) 51).2\/(kEw x q.1 s).length=0)
def one_plan {x:jd} {f:Int} {q:jF} {F:jd} {os:Aj yR} (hx:kHf x) (hq:q.2.1 < 100\/1000000<=q.2.1) (h:kDo x f q 50=(F,os)) (hz:¬ cntI os=0):OneTick x f q F:=by
 have h0:0 < ((kDo x f q 50).2.filter (λo=>o.2.1)).length:=by
  rw [h];have h1:=kTr os;unfold cntF at h1;show 0 < (os.filter (λo=>o.2.1)).length;omega
 obtain ⟨h1,h2,h3,h4,h5⟩:=one_sent h0;obtain rfl:F=kDn x f 50 q:=by rw [<- h5,h]
 have hf:=(kRi h3).2.1;refine ⟨by unfold inR at hf;simp at hf;omega,lenN_sent hx,λs c R D c0 c1=>?_⟩;have S:=second (t:=50) (λy hy=>(hx.2.2.1.2 y hy).2.1) hx.2.2.2.1 hq ⟨c0,c1⟩ ⟨R,D⟩ h1 h2 h3 h4;refine ⟨_,kKh S.bad S.none S.ok S.still,S.here 50,S.there 50,?_⟩;by_cases ho:0 < (kEw x q.1 s).length
 · refine .inl ?_;have E:=S.moved ho;rw [show (51:Int)=50 + 1 from rfl,kNh S.bad S.later S.ok E,kTr];unfold cntF;have hp:=kYn (x:=kDn x f 50 q) (f:=s) (q:=(q.1,c,q.2.2)) ho;rw [List.filter_eq_self.2 (λo ho=>by obtain ⟨g,_,rfl⟩:=List.mem_map.1 ho;rfl),List.length_map];omega
 exact .inr bH3
def vOutS (x y:yR):Bool:=!((x.1 != y.1) || ((!(x.2.1==y.2.1)) || ((!decide (x.2.2.1=y.2.2.1)) || !decide (x.2.2.2=y.2.2.2))))
def vOutS_eq (x y:yR):vOutS x y=decide (x=y):=by
 obtain ⟨U,F,x2,x3⟩:=x;obtain ⟨y0,y1,y2,y3⟩:=y;rw [Ay];simp [vOutS]
def vAct (x y:kFy):Bool:=decide (x.1=y.1) && decide (x.2=y.2)
def vAct_eq (x y:kFy):vAct x y=decide (x=y):=by
 obtain ⟨U,F⟩:=x;obtain ⟨y0,y1⟩:=y;rw [Ay];simp [vAct]
def kWu {w:Az} {cx:Aj Au} {x:jF} (hx:jO.raw w cx x) {cy:Aj Au} {y:jF} (hy:jO.raw w cy y) :
    Bb prog 96 #[.agg cx.toArray,.agg cy.toArray] w (bQ w (.bool (vInt x y))):=by
 have Hx:=yD hx
 obtain ⟨al,rfl,O,R,Y,ac,Z⟩:=jY hx
 obtain ⟨X,G,rfl,ak⟩:=kD.sl R
 have Hy:=yD hy
 obtain ⟨a5,rfl,aj,ai,am,av,aq⟩:=jY hy
 obtain ⟨ae,ad,rfl,a7⟩:=kD.sl ai
 go_enter func96,ntmps96
 go_upto_region 1 with fail
 generalize J:World.alloc (World.alloc w _) _=N
 obtain ⟨EB,I⟩:=CX
 have o:Qd N w 1 (.int .i64 x.2.1):=wF
 have F:Qd N w 2 (.int .i64 x.2.2.1):=wF
 have V:Qd N w 3 (.int .i64 x.2.2.2):=wF
 have D:Qc N (w.heap.size + 1) 0 (.slice ae (y.1).length ad):=wF
 have aa:Qc N (w.heap.size + 1) 1 (.int .i64 y.2.1):=wF
 have ab:Qc N (w.heap.size + 1) 2 (.int .i64 y.2.2.1):=wF
 have ar:Qc N (w.heap.size + 1) 3 (.int .i64 y.2.2.2):=wF
 clear J
 have FX:=yD (λ(W:Az) (hW:Qb N W)=>cLs8 hW I o F V D aa ab ar)
 refine kr (λW=>Qb N W) [Tt,Tt,Tt,Tt,Ff,Tt,Tt,Tt,Tt,Tt,Tt,Tt,Tt,Tt,Tt,Tt,Tt,Tt,Tt,Tt,Tt,Tt,Tt,Tt,Tt,Tt,Tt] bR ?_
 intro wS E
 iterate 4
  all_goals refine ky ?_
 all_goals first | refine wkB (kAx (kD.raw.below O (tQ EB E)) (kD.raw.below aj (tQ EB E))) (λwS1 E=>?_) | refine ky ?_
 all_goals (refine jy λb c3=>?_;cases b <;> try simp only [jw] at c3)
 iterate 6
  all_goals refine ky ?_
 all_goals (refine jy λb af=>?_;cases b <;> try simp only [jw] at af)
 iterate 6
  all_goals refine ky ?_
 all_goals (refine jy λb an=>?_;cases b <;> try simp only [jw] at an)
 iterate 6
  all_goals refine ky ?_
 all_goals (refine jy λb H=>?_;cases b <;> try simp only [jw] at H)
 all_goals refine kS ?_
 all_goals have EG:=(tQ EB E)
 all_goals first
   | (have L:=yD (show (vInt x y)=false by simp only [vInt,Ad,Aa,Ae,Ag,Ab,Ac,Ak,Al,Ah,Ai,Am,c3,af,an,H]);go_wp2;go_ret;exact ⟨kW L.out.symm,EG⟩)
   | (have L:=yD (show (vInt x y)=true by simp only [vInt,Ad,Aa,Ae,Ag,Ab,Ac,Ak,Al,Ah,Ai,Am,c3,af,an,H]);go_wp2;go_ret;exact ⟨kW L.out.symm,EG⟩)
def kWv {w:Az} {cx:Aj Au} {x:jF} (hx:jO.raw w cx x) {cy:Aj Au} {y:jF} (hy:jO.raw w cy y) :
    Bb prog 96 #[.agg cx.toArray,.agg cy.toArray] w (bQ w (.bool (decide (x=y)))):=by
 have h:=kWu hx hy
 rw [vInt_eq] at h
 exact h
def kWx {w:Az} {va J:Au} {a b:(Aj yR)} (Z:(kD.slice 76 zg).raw w [va] a) (a4:(kD.slice 76 zg).raw w [J] b) :
    Bb prog 34 #[va,J] w (bQ w (.bool (decide (a=b)))):=by
 obtain ⟨aa,ao,rfl,la⟩:=kD.sl Z
 obtain ⟨ab,af,rfl,lb⟩:=kD.sl a4
 go_enter func34,ntmps34
 by_cases hl:a.length=b.length
 case neg =>
  exact o6
 obtain ⟨hz,bo⟩:=xW
 have HL:=yD hl;clear hl
 go_wp2
 go_loopw [5] (λi wr=>∃ k:Nat,k<=a.length/\i=.int .i64 k/\Hid (a.take k=b.take k)/\Qb w wr) (λi _=>a.length - (intOf i).toNat)
 case atStart=>exact ⟨0,Nat.zero_le _,rfl,yD rfl,bR⟩
 obtain ⟨k,hk,rfl,HN,o⟩:=hrel
 by_cases hlt:k < a.length
 · have ad:k < b.length:=bB3;obtain ⟨pb,po,rfl,bm,cf,cd,df,cz,d2,dp,dn,c3,dl,dc,pr,al,au,ax,V,R,bb,cl,cg,c8,da,bl⟩:=kD.get11 (Z.below o) (i:=k) bH3 rfl;obtain ⟨qb,qo,rfl,Y,ae,ah,b7,b9,bx,c9,b0,b1,cm,bi,qr,ap,aq,ay,bd,be,ba,a3,a1,bn,bt,av⟩:=kD.get11 (a4.below o) (i:=k) bH3 rfl;obtain ⟨hne,D⟩:=CG;generalize a[k]=x at *;generalize b[k]=y at *;obtain ⟨HD,HX⟩:=AB;have H:=yD (vOutS_eq x y);clear hne D;obtain ⟨U,F,x2,x3⟩:=x;obtain ⟨y0,y1,y2,y3⟩:=y;obtain ⟨bz,dt,dr,dx,aw,a7,bj,bw,b3,a5,a9,b2,bc,c2,bv,a8,de,br,dg,dd⟩:=kJa pr;simp only [Ap,and_true] at aw;obtain ⟨rfl,rfl,rfl,rfl,rfl,rfl,rfl,rfl,rfl,rfl,rfl⟩:=aw;obtain ⟨co,dh,rfl,b4⟩:=kD.sl b3;obtain ⟨dw,dq,rfl,dm⟩:=kD.sl bv;obtain ⟨dk,dj,rfl,di⟩:=kD.sl a8;obtain ⟨ck,dv,rfl,du⟩:=kD.sl br;obtain ⟨b5,c5,c7,db,G,ag,ak,am,ar,bk,bg,bp,bu,bq,az,ai,bh,O,a6,a2⟩:=kJa qr;simp only [Ap,and_true] at G;obtain ⟨rfl,rfl,rfl,rfl,rfl,rfl,rfl,rfl,rfl,rfl,rfl⟩:=G;obtain ⟨aj,bf,rfl,cc⟩:=kD.sl ar;obtain ⟨cv,c4,rfl,b8⟩:=kD.sl az;obtain ⟨c1,ch,rfl,ce⟩:=kD.sl ai;obtain ⟨c6,cw,rfl,b6⟩:=kD.sl O;go_wp2_with fail;have FX:=yD (λ(W:Az) (hW:Qb wr W)=>And.intro (cL hW al) (And.intro (cL hW au) (And.intro (cL hW ax) (And.intro (cL hW V) (And.intro (cL hW R) (And.intro (cL hW bb) (And.intro (cL hW cl) (And.intro (cL hW cg) (And.intro (cL hW c8) (And.intro (cL hW da) (And.intro (cL hW bl) (And.intro (cL hW ap) (And.intro (cL hW aq) (And.intro (cL hW ay) (And.intro (cL hW bd) (And.intro (cL hW be) (And.intro (cL hW ba) (And.intro (cL hW a3) (And.intro (cL hW a1) (And.intro (cL hW bn) (And.intro (cL hW bt) (cL hW av))))))))))))))))))))));refine kK (λW=>Qb wr W) [Tt,Tt,Tt,Tt,Tt,Tt,Tt,Tt,Tt,Tt,Tt,Tt,Tt,Tt,Tt,Tt,Tt,Tt,Tt,Tt,Tt,Tt,Tt,Tt,Tt,Tt,Tt,Tt,Tt,Tt,Tt,Tt,Tt,Tt,Tt,Ff,Tt,Tt,Tt,Tt,Tt,Tt,Tt,Tt,Tt,Tt,Tt,Tt,Tt,Ff,Tt,Tt] bG6 bG6 qY (bR.drew) ?_;intro wS E;iterate 11
    all_goals refine ky ?_
   all_goals (refine jy λb an=>?_;cases b <;> try simp only [jw] at an)
   iterate 12
    all_goals refine ky ?_
   all_goals (refine jy λb I=>?_;cases b <;> try simp only [jw] at I)
   iterate 10
    all_goals refine ky ?_
   all_goals first | refine wkB (kWv (kD.raw.below bj E) (kD.raw.below ak E)) (λwS1 E=>?_) | refine ky ?_
   all_goals refine ky ?_
   all_goals refine ky ?_
   all_goals (refine jy λb ac=>?_;cases b <;> try simp only [jw] at ac)
   iterate 10
    all_goals refine ky ?_
   all_goals first | refine wkB (kGn (kD.raw.below bc E) (kD.raw.below bu E)) (λwS1 E=>?_) | refine ky ?_
   all_goals refine ky ?_
   all_goals (refine jy λb N=>?_;cases b <;> try simp only [jw] at N)
   all_goals refine kS ?_
   all_goals have EG:=(tQ o E)
   all_goals first
     | (have X:=H.out.symm.trans (show _=false by simp only [vOutS,Ad,Aa,Ae,Ag,Ab,Ac,Ak,Al,Ah,Ai,Am,an,I,ac,N]);have L:=yD (HD.out X);clear X H HD HX;go_wp2;go_ret;exact ⟨kW L.out.symm,EG⟩)
     | (have X:=H.out.symm.trans (show _=true by simp only [vOutS,Ad,Aa,Ae,Ag,Ab,Ac,Ak,Al,Ah,Ai,Am,an,I,ac,N]);have L:=yD (HX.out X);clear X H HD HX;go_wp2;go_roundw;(case rel=>exact ⟨k + 1,by omega,by go_num,L,EG⟩);(case measure=>simp [intOf];omega))
 exact o7
def kYo {w:Az} {cx:Aj Au} {x:kFy} (hx:kFx.raw w cx x) {cy:Aj Au} {y:kFy} (hy:kFx.raw w cy y) :
    Bb prog 7 #[.agg cx.toArray,.agg cy.toArray] w (bQ w (.bool (vAct x y))):=by
 have Hx:=yD hx
 obtain ⟨al,a4,ch,co,b9,b3,c2,rfl,O,R,Y,ac,Z,ap,ao,a1,bz,cw,H⟩:=kIj hx
 obtain ⟨X,G,rfl,ak⟩:=kD.sl R
 obtain ⟨ah,ag,rfl,a6⟩:=kD.sl Z
 obtain ⟨bo,a8,rfl,b8⟩:=kD.sl ap
 obtain ⟨bi,bf,rfl,cg⟩:=kD.sl ao
 obtain ⟨bl,bj,rfl,ck⟩:=kD.sl a1
 obtain ⟨bc,be,rfl,cc⟩:=kD.sl bz
 obtain ⟨cd,cm,rfl,cz⟩:=kD.sl H
 have Hy:=yD hy
 obtain ⟨a5,b1,ce,b4,b6,cv,c1,rfl,aj,ai,am,av,aq,ax,a3,a2,b0,c5,U⟩:=kIj hy
 obtain ⟨ae,ad,rfl,a7⟩:=kD.sl ai
 obtain ⟨aw,az,rfl,bx⟩:=kD.sl aq
 obtain ⟨br,a9,rfl,b2⟩:=kD.sl ax
 obtain ⟨ba,bn,rfl,b5⟩:=kD.sl a3
 obtain ⟨bq,bv,rfl,cl⟩:=kD.sl a2
 obtain ⟨bd,bk,rfl,b7⟩:=kD.sl b0
 obtain ⟨bu,bw,rfl,c4⟩:=kD.sl U
 go_enter func7,ntmps7
 go_upto_region 1 with fail
 generalize J:World.alloc (World.alloc w _) _=N
 have EB:Qb w N:=by rw [<- J];exact bI
 have I:Qd N w 0 (.slice X (x.1.1).length G):=wF
 have o:Qd N w 1 (.int .i64 x.1.2.1.1):=wF
 have F:Qd N w 2 (.slice ah (x.1.2.1.2).length ag):=wF
 have V:Qd N w 3 (.slice bo (x.1.2.2.1).length a8):=wF
 have au:Qd N w 4 (.slice bi (x.1.2.2.2.1).length bf):=wF
 have bm:Qd N w 5 (.slice bl (x.1.2.2.2.2.1).length bj):=wF
 have bh:Qd N w 6 (.slice bc (x.1.2.2.2.2.2.1).length be):=wF
 have bg:Qd N w 7 (.int .i64 x.1.2.2.2.2.2.2):=wF
 have an:Qd N w 8 (.slice cd (x.2).length cm):=wF
 have D:Qc N (w.heap.size + 1) 0 (.slice ae (y.1.1).length ad):=wF
 have aa:Qc N (w.heap.size + 1) 1 (.int .i64 y.1.2.1.1):=wF
 have ab:Qc N (w.heap.size + 1) 2 (.slice aw (y.1.2.1.2).length az):=wF
 have ar:Qc N (w.heap.size + 1) 3 (.slice br (y.1.2.2.1).length a9):=wF
 have ay:Qc N (w.heap.size + 1) 4 (.slice ba (y.1.2.2.2.1).length bn):=wF
 have bb:Qc N (w.heap.size + 1) 5 (.slice bq (y.1.2.2.2.2.1).length bv):=wF
 have bt:Qc N (w.heap.size + 1) 6 (.slice bd (y.1.2.2.2.2.2.1).length bk):=wF
 have bp:Qc N (w.heap.size + 1) 7 (.int .i64 y.1.2.2.2.2.2.2):=wF
 have cf:Qc N (w.heap.size + 1) 8 (.slice bu (y.2).length bw):=wF
 clear J
 have FX:=yD (λ(W:Az) (hW:Qb N W)=>cLs18 hW I o F V au bm bh bg an D aa ab ar ay bb bt bp cf)
 refine kr (λW=>Qb N W) [Tt,Tt,Tt,Tt,Ff,Tt,Tt,Tt,Tt,Tt,Ff,Tt,Tt] bR ?_
 intro wS E
 iterate 4
  all_goals refine ky ?_
 all_goals first | refine wkB (kWz (kD.raw.below O (tQ EB E)) (kD.raw.below aj (tQ EB E))) (λwS1 E=>?_) | refine ky ?_
 all_goals (refine jy λb c3=>?_;cases b <;> try simp only [jw] at c3)
 iterate 4
  all_goals refine ky ?_
 all_goals first | refine wkB (kWx (kD.raw.below H (tQ EB E)) (kD.raw.below U (tQ EB E))) (λwS1 E=>?_) | refine ky ?_
 all_goals refine ky ?_
 all_goals (refine jy λb af=>?_;cases b <;> try simp only [jw] at af)
 all_goals refine kS ?_
 all_goals have EG:=(tQ EB E)
 all_goals first
   | (have L:=yD (show (vAct x y)=false by simp only [vAct,Ad,Aa,Ae,Ag,Ab,Ac,Ak,Al,Ah,Ai,Am,c3,af]);go_wp2;go_ret;exact ⟨kW L.out.symm,EG⟩)
   | (have L:=yD (show (vAct x y)=true by simp only [vAct,Ad,Aa,Ae,Ag,Ab,Ac,Ak,Al,Ah,Ai,Am,c3,af]);go_wp2;go_ret;exact ⟨kW L.out.symm,EG⟩)
def kYp {w:Az} {cx:Aj Au} {x:kFy} (hx:kFx.raw w cx x) {cy:Aj Au} {y:kFy} (hy:kFx.raw w cy y) :
    Bb prog 7 #[.agg cx.toArray,.agg cy.toArray] w (bQ w (.bool (decide (x=y)))):=by
 have h:=kYo hx hy
 rw [vAct_eq] at h
 exact h
end Go.Proofs.YtjhfdpopkkmigabGreat
