/-
  The longest prefix among routes.
-/
import Derived.Test.YthocbplmdjkifaaGreatSortA
set_option linter.unusedVariables false
set_option linter.defProp false
set_option linter.unusedSimpArgs false
set_option linter.unnecessarySimpa false
set_option maxRecDepth 100000
set_option maxHeartbeats 4000000
open Bool renaming true->Tt,false->Ff
open Int renaming natCast_nonneg->Aa,ofNat_lt->Ah,toNat_natCast->Ap
open List renaming getElem?_cons_succ->Ab,getElem?_cons_zero->Ac,map_cons->Ai,eq_nil_of_length_eq_zero->Ak,map_nil->Al,take_of_length_le->Aq
open Go renaming World->Ad,Value->Ae,Calls->Aj,bodyPost_ret->Am,FuncId->Aw
open _root_ renaming List->Ag,if_neg->Ay
open Go.Proofs.Tryz renaming underlying79->Ar
open Go.Value.slice renaming injEq->Au
open Option.some renaming injEq->Av
open Go.Addr.mk renaming injEq->Az
namespace Go.Proofs.YthocbplmdjkifaaGreat
open Go.RowKit _root_.Go.Proofs.Tryz
def kXq {w:Ad} {v:Ae} {g:Aw} {cp:Array Ae}:Aj prog 268 #[v,.int .i64 (0:Nat),.int .i64 (0:Nat),.func (.func g) #[] cp] w λe w'=>e=.returned (.tuple #[])/\w'=w:=by
 go_enter func268,ntmps268;exact q9
def jFd {w:Ad} {v:Ae} {n:Nat} {g:Aw} {cp:Array Ae} {Q:Ad->Prop} (hn:n<=19) (H:Aj prog 268 #[v,.int .i64 (0:Nat),.int .i64 n,.func (.func g) #[] cp] w λe w'=>e=.returned (.tuple #[])/\Q w') :
    Aj prog 247 #[v,.int .i64 n,.func (.func g) #[] cp] w λe w'=>e=.returned (.tuple #[])/\Q w':=by
 have HX:=yD H
 have U:(n:Int)<=19:=bF2
 have V:=Aa n
 clear H hn
 go_enter func247,ntmps247
 exact qZ
def kVs {w:Ad} {v:Ae} {xs:Ag Int} {S:Nat->Prop} {g:Aw} {cp:Array Ae} (key:Int->Int) (hg:jL prog g) (an:jGp key g cp S w) (h:kD.kY 3 kD.int w v xs S) (hlen:xs.length<=19) :
    Aj prog 203 #[v,.func (.func g) #[] cp] w λe w'=>e=.returned (.tuple #[])/\kD.kY 3 kD.int w' v (Srt.sorted key xs) S/\Touch S w w':=by
 obtain ⟨a,cap,rfl⟩:∃ a cap,v=.slice a xs.length cap:=by
  rcases Nat.eq_zero_or_pos xs.length with h0 | h0
  · obtain ⟨a,cap,rfl⟩:=h.zJ;exact ⟨_,_,rfl⟩
  obtain ⟨b,cap,rfl,_⟩:=kD.zm h h0;exact ⟨_,_,rfl⟩
 have HC:=yD (jFd (w:=w) (v:=Qs a xs cap) (g:=g) (cp:=cp) (Q:=λw'=>kD.kY 3 kD.int w' (Qs a xs cap) (Srt.sorted key xs) S/\Touch S w w') hlen (by
   rcases Nat.eq_zero_or_pos xs.length with h0 | h0
   · obtain rfl:xs=[]:=Ak h0;refine kXq.mono ?_;rintro e w2 ⟨rfl,hw⟩;obtain rfl:=hw.symm;exact ⟨rfl,h,Touch.refl _ _⟩
   · obtain ⟨b,c,hv,_⟩:=kD.zm h h0;rw [hv] at h ⊢;rw [<- Srt.kVf];exact jGb key hg an h rfl bF2 (Nat.zero_le _) nL))
 clear h an hg
 go_enter func203,ntmps203
 exact r9
def kTj {w:Ad} {v:Ae} {g:Aw} {cp:Array Ae}:Aj prog 266 #[v,.int .i64 (0:Nat),.int .i64 (0:Nat),.func (.func g) #[] cp] w λe w'=>e=.returned (.tuple #[])/\w'=w:=by
 go_enter func266,ntmps266;exact q9
def kZg {w:Ad} {v:Ae} {n:Nat} {g:Aw} {cp:Array Ae} {Q:Ad->Prop} (hn:n<=19) (H:Aj prog 266 #[v,.int .i64 (0:Nat),.int .i64 n,.func (.func g) #[] cp] w λe w'=>e=.returned (.tuple #[])/\Q w') :
    Aj prog 245 #[v,.int .i64 n,.func (.func g) #[] cp] w λe w'=>e=.returned (.tuple #[])/\Q w':=by
 have HX:=yD H
 have U:(n:Int)<=19:=bF2
 have V:=Aa n
 clear H hn
 go_enter func245,ntmps245
 exact qZ
def kSm {w:Ad} {v:Ae} {xs:Ag jI} {S:Nat->Prop} {g:Aw} {cp:Array Ae} (key:jI->Int) (hg:jL prog g) (an:kVx key g cp S w) (h:kD.kY 176 jA w v xs S) (hlen:xs.length<=19) :
    Aj prog 198 #[v,.func (.func g) #[] cp] w λe w'=>e=.returned (.tuple #[])/\kD.kY 176 jA w' v (Srt.sorted key xs) S/\Touch S w w':=by
 obtain ⟨a,cap,rfl⟩:∃ a cap,v=.slice a xs.length cap:=by
  rcases Nat.eq_zero_or_pos xs.length with h0 | h0
  · obtain ⟨a,cap,rfl⟩:=h.zJ;exact ⟨_,_,rfl⟩
  obtain ⟨b,cap,rfl,_⟩:=kD.zm h h0;exact ⟨_,_,rfl⟩
 have HC:=yD (kZg (w:=w) (v:=Qs a xs cap) (g:=g) (cp:=cp) (Q:=λw'=>kD.kY 176 jA w' (Qs a xs cap) (Srt.sorted key xs) S/\Touch S w w') hlen (by
   rcases Nat.eq_zero_or_pos xs.length with h0 | h0
   · obtain rfl:xs=[]:=Ak h0;refine kTj.mono ?_;rintro e w2 ⟨rfl,hw⟩;obtain rfl:=hw.symm;exact ⟨rfl,h,Touch.refl _ _⟩
   · obtain ⟨b,c,hv,_⟩:=kD.zm h h0;rw [hv] at h ⊢;rw [<- Srt.kVf];exact jAx key hg an h rfl bF2 (Nat.zero_le _) nL))
 clear h an hg
 go_enter func198,ntmps198
 exact r9
def Clone_int_0 {w:Ad} {va:Ae} {x:Ag Int} (ha:(kD.slice 3 kD.int).rd w [va] x):Aj prog 202 #[va] w (kBu 3 kD.int x w):=by
 obtain ⟨aa,al,rfl,la⟩:=kD.sl ha.1;have HA:=yD ha;have E:=λ(W:Ad) (a:Option Addr) (n c:Nat)=>Lib.run_eql_slice_nil (P:=prog) W 79 3 a n c 0 0 Ar;cases aa with
 | none =>
   have hx:x=[]:=by
     cases x with
     | nil=>rfl
     | cons y ys =>
       exact aJ
   subst hx;clear ha;go_enter func202,ntmps202;go_wp2;go_ret;exact ⟨_,rfl,kD.kY.void,bR⟩
 | some a =>
   have hb:x.length<=16777216:=ha.2.1;clear ha;go_enter func202,ntmps202;have O0:kD.kY 3 kD.int (w.alloc (.cells #[] 3)) (.slice (some ⟨w,0,none⟩) 0 0) [] (λk=>k=w.heap.size):=kD.yR (cs:=[]) (xs:=[]) (T:=λ_=>False) bF3 bF3 rfl (λ_ h=>h.elim) rfl;go_wp2_with (at_builtin;refine kD.yh rfl _ _ 79 rfl (r:=kD.int) (e:=3) Ar kBl rfl bF1 bF1 flatint (B:=w.heap.size) O0 bF4 bF4 (HA.out.alloc _) rY bF3 bE6 ?_);intro v2 w2 hown o hz;have J:=yD hown;obtain ⟨a2,c2,hv⟩:=hown.zJ;obtain rfl:=hv;have D:Qb w w2:=Below.trans bI o;clear hown O0 o;go_wp2;go_ret;exact ⟨_,rfl,kD.kY.cast J.out bF3,D⟩
def kNg (l:Ag kW) (n:ko) (fs:Ag Int):Ag Int:=Srt.sorted (zP l n) fs
def kPi (l:Ag kW) (n:ko) (fs:Ag Int):(kNg l n fs).length=fs.length:=by
 unfold kNg;rw [Srt.kRe]
def cmpI_lt {a b:Int}:decide (kEb a b < 0)=decide (a < b):=by
 unfold kEb;by_cases h:a < b
 · rw [if_pos h];simp [h]
 rw [Ay h];by_cases h2:b < a
 · rw [if_pos h2];simp [h]
 rw [Ay h2];simp [h]
def sorted_snoc {α:Type} {key:α->Int} {l:Ag α} {k:Nat} (h:k < l.length):Srt.sorted key (l.take (k + 1))=Srt.put key (Srt.sorted key (l.take k)) l[k]:=by
 unfold Srt.sorted;rw [List.take_succ_eq_append_getElem h,List.foldl_append];rfl
def kIm {α:Type} {key:α->Int} {l:Ag α}:(Srt.sorted key l).length=l.length:=by rw [Srt.kRe]
def kZy {α:Type} {key:α->Int} {l:Ag α} {x:α} {k j:Nat} (I:j + 1=k) (hl:j < l.length) (h:decide (key x < key l[j])=true):Srt.place key k l x=Srt.place key j l x:=by
 subst I;rw [Srt.place,if_pos (by rw [Srt.kDo hl];exact of_decide_eq_true h)]
def kZw {α:Type} {key:α->Int} {l:Ag α} {x:α} {k j:Nat} (I:j + 1=k) (hl:j < l.length) (h:decide (key x < key l[j])=false):Srt.place key k l x=k:=by
 subst I;rw [Srt.place,Ay (by rw [Srt.kDo hl];exact of_decide_eq_false h)]
def jFs {α:Type} {key:α->Int} {l:List α} {x:α} {k:Nat} (h:k=Srt.place key l.length l x):Srt.put key l x=l.take k++[x]++l.drop k:=by subst h;rfl
namespace kD
def kUz {α:Type} {r:kD α} {e:TypeId} {w:Ad} {a:Option Addr} {n cap:Nat} {xs:Ag α} {S:Nat->Prop} (h:kY e r w (.slice a n cap) xs S):(n=0/\cap=0)\/∃ b,a=some ⟨b,0,none⟩:=by
 rcases h.2 with ⟨⟨a',h0⟩,_⟩|⟨b,cap',cur,cs,tl,h0,_⟩
 · simp only [Au] at h0;exact .inl ⟨h0.2.1,h0.2.2⟩
 simp only [Au] at h0;exact .inr ⟨b,h0.1⟩
def kYc {α:Type} {r:kD α} {e:TypeId} {w:Ad} {a:Option Addr} {c:Nat} (hc:c<=maxLen):(slice e r).rd w [.slice a 0 c] []:=⟨void_raw hc,Nat.zero_le _,by simp⟩
def kYj {α:Type} {r:kD α} {e:TypeId} {w:Ad} {b len cap k:Nat} {xs:Ag α} (h:(slice e r).rd w [.slice (some ⟨b,0,none⟩) len cap] xs) (hk:k<=xs.length):(slice e r).rd w [.slice (some ⟨b,0 + k * r.n,none⟩) (len - k) (cap - k)] (xs.drop k) :=
  ⟨drop_raw h.1 hk,by have:=h.2.1;simp;omega,λx hx=>h.2.2 x (List.mem_of_mem_drop hx)⟩
end kD
def kVj {w:Ad} {a b:Int} {l:Ag kW} {n:ko} {F nv:Ae} {B1 B2:Nat} (hl:(kD.slice 179 kN).raw w [F] l) (hn:kR.raw w [nv] n) (A0:Qc w B1 0 F) (A1:Qc w B2 0 nv) :
    Aj prog 204 (#[.int .i64 a,.int .i64 b]++#[.pointer (some ⟨B1,0,none⟩),.pointer (some ⟨B2,0,none⟩)]) w (bQ w (.int .i64 (kEb (zP l n a) (zP l n b)))):=by
 have HL:=yD hl
 have Y:=yD hn
 obtain ⟨D,o,az⟩:=kw hn
 obtain rfl:nv=D:=by simpa using o
 obtain ⟨na,np,rfl,_,la,lp,rfl,_⟩:=kD.sx az (kD.sl hl)
 clear az hl hn o
 show Aj prog 204 #[_,_,_,_] w _
 go_enter func204,ntmps204
 go_upto_region 1 with fail
 have FX:=yD (λ(W:Ad) (hW:Qb w W)=>kQm hW A0 A1)
 refine yT (λW=>Qb w W) [(0,true),(1,true),(2,true),(4,true),(5,true),(6,true),(3,false),(7,false),(8,false),(9,true)] bE5 bE5 qW (bR.drew) ?_
 intro wS E
 simp only [jG,Ab,Ac,Ai,Al]
 all_goals ((iterate 6 refine kS ?_);(iterate 2 (first | refine zi (kVm (kD.raw.below HL.out E) (kD.raw.below Y.out E)) (λwS1 E=>?_) | refine kS ?_));(first | refine wkC (kTu) ?_ | refine kS ?_);refine kS ?_;refine kM ?_)
 go_wp2
 go_ret
 exact ⟨rfl,E⟩
def kQl:jL prog 204:=yM func204 bE5 bE5
def kXv {w:Ad} {vl:Ae} {l:Ag kW} (hl:(kD.slice 179 kN).rd w [vl] l) {cn:Ag Ae} {n:ko} (hn:kR.rd w cn n) {vf:Ae} {fs:Ag Int} (hf:(kD.slice 3 kD.int).rd w [vf] fs) (gh:fs.length<=19) :
    Aj prog 118 #[vl,.agg cn.toArray,vf] w (kBh (kD.slice 3 kD.int) (kNg l n fs) w):=by
 have HL:=yD hl
 have Y:=yD hn
 have HF:=yD hf
 obtain ⟨nv,rfl,az⟩:=kw hn.1
 obtain ⟨na,np,rfl,_,la,lp,rfl,_,fa,fp,rfl,_⟩:=kD.sx az (kD.sx hl.1 (kD.sl hf.1))
 clear az hl hn hf
 go_enter func118,ntmps118
 go_wp2_with fail
 generalize R:World.alloc (World.alloc w _) _=U
 have Z:Qb w U:=by rw [<- R];exact bI
 have K0:Qd U w 0 (Qs la l lp):=vS
 have K1:Qc U (w.heap.size + 1) 0 (Qs na n np):=vS
 clear R
 refine (Clone_int_0 (HF.out.below Z)).mono ?_
 rintro e w1 ⟨v1,rfl,O1,N⟩
 obtain ⟨oa,on,oc,ho,ay⟩:=O1.parts;obtain rfl:=ho
 have E1:=(tQ Z N)
 have J:=yD O1;have o:=yD N
 have bn:=N.size;have bx:=Z.size
 clear O1 N
 have HC:Hid (jGp (zP l n) 204 #[.pointer (some ⟨w,0,none⟩),.pointer (some ⟨w.heap.size + 1,0,none⟩)] (jg U w1) w1):=yD (λwr E x y c d hx hy=>by
   have e:=o.out.trans (E.below o.out.size (λi hi=>hi.1));obtain ⟨hc,_⟩:=kD.yX hx;obtain ⟨hd,_⟩:=kD.yX hy;obtain rfl:c=_:=by simpa using hc
   obtain rfl:d=_:=by simpa using hd
   exact (kVj (HL.out.1.below (tQ Z e)) (Y.out.1.below (tQ Z e)) (cL e K0) (cL e K1)).mono (λe2 w2 h=>⟨_,h.1,cmpI_lt,h.2⟩))
 clear K0 K1 Z
 go_wp2_with fail
 refine (kVs (zP l n) kQl HC.out J.out gh).mono ?_
 rintro e w2 ⟨rfl,O2,D⟩
 have E2:=E1.trans (D.below bF2 vF)
 have ax:=D.size
 have ab:=yD (O2.wide (T:=jg w w2) nK)
 clear O2 D HC J
 go_wp2
 go_ret
 exact ⟨_,rfl,ab.out.own mE,E2⟩
def yK {w:Ad} {v:Ae} {xs ys:Ag Int} {S:Nat->Prop} {B:Nat} {av:Option Addr} {len cap:Nat} (hown:kD.kY 3 kD.int w v xs S) (hy:(kD.slice 3 kD.int).rd w [.slice av len cap] ys) (hSB:∀ k,S k->B<=k/\k < w.heap.size) (hB:B<=w.heap.size) (hlen:xs.length + ys.length<=1000000000) :
    ∃ v' w',(Builtin.append_ #[79,79] 79 #[v,.slice av len cap]).run prog w=.ok v' w'/\kD.kY 3 kD.int w' v' (xs++ys) (jg B w')/\Below B w w'/\w.heap.size<=w'.heap.size :=
  kD.kPg (r:=kD.int) Ar kBl rfl (show 0 < 1 by omega) bF1 kD.zH hown hy hSB hB hlen
def kCq {w:Ad} {cs:Ag Ae} {x:Int} (hx:kD.is kD.int true w cs x (λ_=>True)) (hb:kD.bdd kD.int Big x) :
    (kD.slice 3 kD.int).rd (World.alloc w (.cells cs.toArray 3)) [.slice (some ⟨w,0,none⟩) 1 1] [x] :=
  ((kD.yR (e:=3) (r:=kD.int) (w:=w) (cs:=cs) (xs:=[x]) (T:=λ_=>True) (S:=λ_=>True) mY tK (kD.kDh hx) (λ_ h=>h) trivial).own vI).rd
def kXf {w:Ad} {vl:Ae} {l:Ag kW} (hl:(kD.slice 179 kN).rd w [vl] l) {cn:Ag Ae} {n:ko} (hn:kR.rd w cn n) {vf:Ae} {fs:Ag Int} (hf:(kD.slice 3 kD.int).rd w [vf] fs) :
    Aj prog 144 #[vl,.agg cn.toArray,vf] w (kBh (kD.slice 3 kD.int) (kNg l n fs) w):=by
 have HL:=yD hl
 have Y:=yD hn
 have HF:=yD hf
 have gh:fs.length<=16777216:=hf.2.1
 obtain ⟨nv,rfl,az⟩:=kw hn.1
 obtain ⟨na,np,rfl,_,la,lp,rfl,_,fa,fp,rfl,_⟩:=kD.sx az (kD.sx hl.1 (kD.sl hf.1))
 clear az hl hn hf
 go_enter func144,ntmps144
 go_wp2
 generalize R:World.alloc (World.alloc w _) _=U
 have Z:Qb w U:=by rw [<- R];exact bI
 have bx:=Z.size
 have K0:Qd U w 0 (Qs na n np):=vS
 clear R
 go_loopw [7,8] (λv i wr=>∃ (k:Nat),k<=fs.length/\i=.int .i64 k/\Hid (kD.kY 3 kD.int wr v (Srt.sorted (zP l n) (fs.take k)) (jg w wr))/\Qb U wr) (λ_ i _=>fs.length - (intOf i).toNat)
 case atStart=>exact ⟨0,Nat.zero_le _,rfl,yD kD.kY.void,bR⟩
 obtain ⟨i,hi,rfl,J,o⟩:=hrel
 replace K0:=cL o K0
 obtain ⟨a,m,cap,ho,HM⟩:=J.out.parts
 obtain rfl:=ho
 have bk:=o.size
 have a8:=Aa i
 by_cases hlt:i < fs.length
 · have cd:(i:Int) < fs.length:=bF2;have ej:m<=16777216:=by have h0:m=i:=(by rw [HM.out,kIm];simp;omega);omega
   have b5:m<=cap/\cap<=9223372036854775807:=by have h1:=J.out.kKg;have h2:=HM.out;obtain ⟨h3,h4⟩:=kD.kBj h1;exact ⟨by omega,h4⟩
   obtain ⟨fb,fo,rfl,fc,fr,Af⟩:=kD.kCk (HF.out.1.below (tQ Z o)) hlt rfl;obtain ⟨bd,F⟩:=kD.yX fr;obtain rfl:fc=_:=by simpa using bd
   have bm:=yD (sorted_snoc (key:=zP l n) hlt);clear bd fr;generalize fs[i]=x at *;generalize b4:Srt.sorted (zP l n) (fs.take i)=LL at *;clear b4;go_wp2;go_loopw [9] (λq bn=>∃ (k:Nat),k<=m/\q=.int .i64 k/\Hid (Srt.place (zP l n) k LL x=Srt.place (zP l n) m LL x)/\Qb wr bn) (λq _=>(intOf q).toNat);case atStart=>exact ⟨m,Nat.le_refl _,rfl,yD rfl,bR⟩
   obtain ⟨k,bt,rfl,HP,ag⟩:=hrel;have aj:=cL ag K0;have ac:=cL ag Af;have ab:=yD (J.out.below ag);have EQ:Qb U _:=(tQ o ag);have b9:=Aa k;have bv:(k:Int)<=cap:=bF2;have br:k<=cap:=bF2;by_cases hk:0 < k
   · obtain ⟨j,I⟩:∃ j,j + 1=k:=⟨k - 1,by omega⟩;have c9:(k:Int) - 1=(j:Int):=bF2;have b0:IntKind.i64.wrap (j:Int)=j:=IntWalk.i64_in _ bF2;have bi:=Aa j;have av:j < LL.length:=bA1;have bu:(j:Int) < m:=bF2;have hp:decide ((k:Int) > 0)=true:=bE6;have bw:decide (0 < k)=true:=bC2;have bz:(0:Int) < k:=bF2;have HY:=yD (λq=>(kZy (key:=zP l n) (x:=x) I av q).symm.trans HP.out);have a7:=yD (λq=>(kZw (key:=zP l n) (x:=x) I av q).symm.trans HP.out);obtain ⟨ob,oo,rfl,b3,ak,Ao⟩:=kD.kCk ab.out.kKg av rfl;obtain ⟨aw,b1⟩:=kD.yX ak;obtain rfl:b3=_:=by simpa using aw
     clear aw ak b1;generalize LL[j]=y at *;go_upto_region 6 with fail;refine yT (λW=>Qb wr W) [(0,true),(1,true),(2,true),(3,true),(4,true),(5,true),(6,true),(7,true),(8,true),(9,true),(11,true),(12,true),(13,true),(14,true),(15,true),(16,true),(10,false),(17,false),(18,true),(19,true)] bE5 bE5 qW (bR.drew) ?_;intro wS E;simp only [jG,Ab,Ac,Ai,Al];all_goals (refine kS ?_;refine kS ?_;refine jT λb au=>?_;cases b <;> try simp only [jS] at au)
     all_goals (refine kS ?_;(first|(refine kI rfl E ?_)|(refine jC (v:=?_) rfl (λW hW=>?_) ?_;rotate_left;(· have af:=cL hW aj;have ae:=cL hW ac;have ah:=cL hW Ao;clear hW;go_simp;try with_reducible rfl)));refine jH ?_;(iterate 4 refine kS ?_);(iterate 2 (first|(refine kI rfl E ?_)|(refine jC (v:=?_) rfl (λW hW=>?_) ?_;rotate_left;(· have af:=cL hW aj;have ae:=cL hW ac;have ah:=cL hW Ao;clear hW;go_simp;try with_reducible rfl)));refine jH ?_;refine kS ?_);refine kS ?_;refine kS ?_;(first|(refine kI rfl E ?_)|(refine jC (v:=?_) rfl (λW hW=>?_) ?_;rotate_left;(· have af:=cL hW aj;have ae:=cL hW ac;have ah:=cL hW Ao;clear hW;go_simp;try with_reducible rfl)));refine jH ?_;(iterate 2 (first | refine zi (kUp (kD.raw.below HL.out.1 ((tQ Z (tQ EQ E)))) (kD.raw.below Y.out.1 ((tQ Z (tQ EQ E))))) (λwS1 E=>?_) | refine kS ?_));refine kS ?_;refine jT λb O=>?_;cases b <;> try simp only [jS] at O)
     all_goals (refine kM ?_;have dg:=yD (tQ ag E);have ai:=dg.out;replace ac:=cL E ac)
     all_goals first
       | (have X:=yD (show decide (zP l n x < zP l n y)=true by first | exact O | simpa using O);have hs:=yD (HY.out X.out);clear HY a7 X O;refine Qg ?_;exact ⟨j,by omega,rfl,hs,dg.out⟩)
       | (have X:=yD (show decide (zP l n x < zP l n y)=false by first | exact O | simpa using O);have a9:=yD (a7.out X.out);clear HY a7 X O)
     have aa:=yD (bm.out.trans (jFs (show k=_ by rw [<- HM.out];exact a9.out)));have aq:=yD (J.out.below ai);generalize wS1=wq at *;exact uQ
   have bq:k=0:=bF2;have hp:decide ((k:Int) > 0)=false:=bE6;have bz:¬ (0:Int) < k:=bF2;have a9:Hid (k=Srt.place (zP l n) m LL x):=yD (by rw [<- HP.out,bq];rfl);clear bq;go_upto_region 6 with fail;refine yT (λW=>Qb wr W) [(0,true),(1,true),(2,true),(3,true),(4,true),(5,true),(6,true),(7,true),(8,true),(9,true),(11,true),(12,true),(13,true),(14,true),(15,true),(16,true),(10,false),(17,false),(18,true),(19,true)] bE5 bE5 qW (bR.drew) ?_;intro wS E;simp only [jG,Ab,Ac,Ai,Al];all_goals (refine kS ?_;refine kS ?_;refine jT λb au=>?_;cases b <;> try simp only [jS] at au)
   all_goals ((iterate 13 refine kS ?_);(iterate 2 (first|(refine kI rfl E ?_)|(fail));refine jH ?_);refine kS ?_;refine jT λb O=>?_;cases b <;> try simp only [jS] at O)
   all_goals (refine kM ?_;have dg:=yD (tQ ag E);have ai:=dg.out;replace ac:=cL E ac)
   have aa:=yD (bm.out.trans (jFs (show k=_ by rw [<- HM.out];exact a9.out)));have aq:=yD (J.out.below ai);generalize wS=wq at *;exact uQ
 obtain rfl:i=fs.length:=bF2
 have ax:=J.out
 rw [List.take_length] at ax
 have ab:=yD ax
 clear ax
 go_wp2
 go_ret
 exact ⟨_,rfl,ab.out.own mE,(tQ Z o)⟩
def kNh (n p:ko):Bool:=decide ((p.length:Int)<=n.length) && eqN (n.take p.length) p
def prefN_no {n p:ko} (h:¬ p.length<=n.length):kNh n p=false:=by unfold kNh;rw [decide_eq_false bF2];rfl
def jDx {n p:ko} (h:p.length<=n.length):kNh n p=eqN (n.take p.length) p:=by unfold kNh;rw [decide_eq_true bF2];rfl
def clip {n:ko} (k:Int):∃ m:Nat,max 0 (min k n.length)=(m:Int)/\m<=n.length/\n.take k.toNat=n.take m:=by
 refine ⟨(max 0 (min k n.length)).toNat,by omega,by omega,?_⟩;by_cases h:k.toNat<=n.length
 · congr 1;omega
 rw [Aq bF2,Aq bF2]
def mB (n:ko) (l:Ag jI):Nat->Int
  | 0=>-1
  | k + 1=>if kNh n (l.getD k ([],0,0)).1=true/\(mB n l k < 0\/(l.getD (mB n l k).toNat ([],0,0)).1.length < (l.getD k ([],0,0)).1.length) then k else mB n l k
def mB_no {n:ko} {l:Ag jI} {k:Nat} (hk:k < l.length) (h:kNh n l[k].1=false):mB n l (k + 1)=mB n l k:=by
 conv=>lhs;unfold mB
 rw [jb hk,Ay (by simp [h])]
def mB_new {n:ko} {l:Ag jI} {k:Nat} (hk:k < l.length) (h:kNh n l[k].1=true) (h2:mB n l k=-1):mB n l (k + 1)=k:=by
 conv=>lhs;unfold mB
 rw [jb hk,if_pos ⟨h,.inl bF2⟩]
def mB_up {n:ko} {l:Ag jI} {k j:Nat} (hk:k < l.length) (h:kNh n l[k].1=true) (I:j < l.length) (h2:mB n l k=j) (h3:l[j].1.length < l[k].1.length):mB n l (k + 1)=k:=by
 conv=>lhs;unfold mB
 rw [jb hk,h2,Ap,jb I,if_pos ⟨h,.inr h3⟩]
def mB_keep {n:ko} {l:Ag jI} {k j:Nat} (hk:k < l.length) (I:j < l.length) (h2:mB n l k=j) (h3:¬ l[j].1.length < l[k].1.length):mB n l (k + 1)=j:=by
 conv=>lhs;unfold mB
 rw [jb hk,h2,Ap,jb I,Ay (λq=>by rcases q.2 with h | h;omega;exact h3 h)]
def mOk (n:ko) (l:Ag jI):Bool:=!decide (mB n l l.length < 0)
def kEs (n:ko) (l:Ag jI):ko:=if mB n l l.length < 0 then [] else (l.getD (mB n l l.length).toNat ([],0,0)).1
def m_no {n:ko} {l:List jI} (h:mB n l l.length=-1):mOk n l=false/\kEs n l=[]:=by simp [mOk,kEs,h]
def m_yes {n:ko} {l:Ag jI} {j:Nat} (I:j < l.length) (h:mB n l l.length=j):mOk n l=true/\kEs n l=l[j].1:=by
 unfold mOk kEs;rw [h,Ap,jb I,Ay bF2,decide_eq_false bF2];exact ⟨rfl,rfl⟩
def kZk {w:Ad} {ca:Ag Ae} {x:ko} {k:Int} (ha:kR.rd w ca x):Aj prog 252 #[.agg ca.toArray,.int .i64 k] w (kAb kR (x.take k.toNat) w):=by
 have HA:=yD ha;obtain ⟨av,rfl,V⟩:=kw ha.1;obtain ⟨aa,al,rfl,la⟩:=kD.sl V;have br:=kD.kBj V;have hb:x.length<=16777216:=ha.2.1;obtain ⟨m,hm,E,ag⟩:=clip (n:=x) k;have ay:=yD ag;clear ha V ag;go_enter func252,ntmps252;go_wp2_with fail;refine jDj.mono ?_;rintro e w1 ⟨rfl,rfl⟩;go_wp2_with fail;refine specMax_c.mono ?_;rintro e w1 ⟨rfl,rfl⟩;rw [hm];have ac:=yD (kD.kSu (e:=9) (r:=kD.str) HA.out E);have hl:(x.take m).length=m:=bE6;generalize x.take m=y at *;subst hl;have bk:(y.length:Int)<=al:=bF2;have O0:kD.kY 9 kD.str (((w.alloc (.cells #[.slice aa x.length al] 36)).alloc (.cells #[.slice none 0 0] 36)).alloc (.cells #[] 9)) (.slice (some ⟨w.heap.size + 1 + 1,0,none⟩) 0 0) [] (λk=>k=w.heap.size + 1 + 1):=by
  exact aM
 go_wp2_with (at_builtin;refine kD.yh rfl _ _ 34 rfl (r:=kD.str) (e:=9) underlying34 kCv rfl bF1 bF1 kD.kEm (B:=w.heap.size + 1 + 1) O0 bF4 bF4 (ac.out.below bI) rY bF3 bE6 ?_);intro v2 w2 hown o hz;obtain ⟨a2,c2,hv⟩:=hown.zJ;obtain rfl:=hv;have hw:=hown.own (by simp [Big];omega);have J:Hid (kR.own w2 [Qs a2 y c2] y (jg (w.heap.size + 1 + 1) w2)):=yD hw;have D:Qb w w2:=Below.trans bI (o.mono sK);clear hown O0 hw;obtain ⟨R0,F0⟩:=x8;clear o;go_wp2;refine Am (v:=.agg #[Qs a2 y c2]) (by simp [results,results252,go_sem,R0,F0]) rfl ⟨[_],rfl,?_,?_⟩
 · rw [ay.out];exact (J.out.setCell fK).wide gL
 exact D.setCell bF3 _
def kHc {w:Ad} {ca cb:Ag Ae} {a b:ko} (ha:kR.rd w ca a) (hb:kR.rd w cb b) :
    Aj prog 213 #[.agg ca.toArray,.agg cb.toArray] w (bQ w (.bool (kNh a b))):=by
 have HA:=yD ha
 have HB:=yD hb
 obtain ⟨av,rfl,V⟩:=kw ha.1
 obtain ⟨bv,rfl,ag⟩:=kw hb.1
 clear ha hb
 obtain ⟨aa,al,rfl,la,ab,ar,rfl,lb⟩:=kD.sx V (kD.sl ag)
 go_enter func213,ntmps213
 go_wp2_with fail
 generalize R:World.alloc (World.alloc w _) _=U
 obtain ⟨Z,K0,K1⟩:=CS
 clear R
 by_cases hc:b.length<=a.length
 · have hd:decide ((b.length:Int)<=a.length)=true:=bC1;have bk:(b.length:Int)<=a.length:=bF2;have L:=yD (jDx hc);have FX:=yD (λ(W:Ad) (hW:Qb U W)=>kQm hW K0 K1);refine yT (λW=>Qb U W) [(0,true),(1,true),(2,true),(3,true),(4,true),(5,true),(6,true),(7,true),(8,true),(9,true),(10,true),(11,true),(13,true),(12,false),(14,false),(15,true),(16,true)] bE5 bE5 qW (bR.drew) ?_;intro wS E;simp only [jG,Ab,Ac,Ai,Al];all_goals ((iterate 7 refine kS ?_);refine jT λb ax=>?_;cases b <;> try simp only [jS] at ax)
   all_goals ((iterate 5 refine kS ?_);(first|(refine kI rfl E ?_)|(refine ku rfl (λK H=>?_);go_simp;refine (kZk (HA.out.below (tQ Z E))).mono ?_;rintro e wT ⟨tc,rfl,OT,ai⟩;replace E:=(tQ E ai);refine H _ _ E ?_;clear H K ai));refine jH ?_;(first | refine zi (jU OT.raw (HB.out.1.below (tQ Z E))) (λwS1 E=>?_) | refine kS ?_);refine kS ?_;refine kS ?_;refine kM ?_)
   exact nN
 have hd:decide ((b.length:Int)<=a.length)=false:=bC1
 have L:=yD (prefN_no hc)
 have FX:=yD (λ(W:Ad) (hW:Qb U W)=>kQm hW K0 K1)
 refine yT (λW=>Qb U W) [(0,true),(1,true),(2,true),(3,true),(4,true),(5,true),(6,true),(7,true),(8,true),(9,true),(10,true),(11,true),(13,true),(12,false),(14,false),(15,true),(16,true)] bE5 bE5 qW (bR.drew) ?_
 intro wS E
 simp only [jG,Ab,Ac,Ai,Al]
 all_goals ((iterate 7 refine kS ?_);refine jT λb ax=>?_;cases b <;> try simp only [jS] at ax)
 all_goals ((iterate 5 refine kS ?_);(iterate 2 (first|(refine kI rfl E ?_)|(fail));refine jH ?_);refine kS ?_;refine kS ?_;refine kM ?_)
 exact nN
def kHg {w:Ad} {ca cb:Ag Ae} {a b:ko} (ha:kR.rd w ca a) (hb:kR.rd w cb b) :
    Aj prog 194 #[.agg ca.toArray,.agg cb.toArray] w (bQ w (.bool (kNh a b))):=by
 have HA:=yD ha
 have HB:=yD hb
 obtain ⟨av,rfl,V⟩:=kw ha.1
 obtain ⟨bv,rfl,ag⟩:=kw hb.1
 clear ha hb
 obtain ⟨aa,al,rfl,la,ab,ar,rfl,lb⟩:=kD.sx V (kD.sl ag)
 have br:=kD.kBj V
 go_enter func194,ntmps194
 go_wp2_with fail
 generalize R:World.alloc (World.alloc w _) _=U
 obtain ⟨Z,K0,K1⟩:=CS
 clear R
 by_cases hc:b.length<=a.length
 · have hd:decide ((b.length:Int)<=a.length)=true:=bC1;have bk:(b.length:Int)<=a.length:=bF2;have dj:(b.length:Int)<=al:=bF2;have L:=yD (jDx hc);have FX:=yD (λ(W:Ad) (hW:Qb U W)=>kQm hW K0 K1);refine kK (λW=>Qb U W) [Tt,Tt,Tt,Tt,Tt,Tt,Tt,Tt,Tt,Tt,Tt,Tt,Tt,Tt,Tt,Tt,Ff,Tt,Tt] bE5 bE5 qW (bR.drew) ?_;intro wS E;all_goals ((iterate 7 refine kS ?_);refine jT λb ax=>?_;cases b <;> try simp only [jS] at ax)
   all_goals ((iterate 8 refine kS ?_);(first | refine zi (kOz (kD.kBz (e:=9) (r:=kD.str) (HA.out.1.below (tQ Z E)) hc) (HB.out.1.below (tQ Z E))) (λwS1 E=>?_) | refine kS ?_);refine kS ?_;refine kS ?_;refine kM ?_)
   exact nN
 have hd:decide ((b.length:Int)<=a.length)=false:=bC1
 have L:=yD (prefN_no hc)
 have FX:=yD (λ(W:Ad) (hW:Qb U W)=>kQm hW K0 K1)
 refine kK (λW=>Qb U W) [Tt,Tt,Tt,Tt,Tt,Tt,Tt,Tt,Tt,Tt,Tt,Tt,Tt,Tt,Tt,Tt,Ff,Tt,Tt] bE5 bE5 qW (bR.drew) ?_
 intro wS E
 all_goals ((iterate 7 refine kS ?_);refine jT λb ax=>?_;cases b <;> try simp only [jS] at ax)
 all_goals ((iterate 8 refine kS ?_);(first|(refine kI rfl E ?_)|(fail));refine jH ?_;refine kS ?_;refine kS ?_;refine kM ?_)
 exact nN
def kGs {w:Ad} {vl:Ae} {l:Ag jI} (hl:(kD.slice 176 jA).rd w [vl] l) {cn:Ag Ae} {n:ko} (hn:kR.rd w cn n) :
    Aj prog 143 #[vl,.agg cn.toArray] w λe w'=>∃ cs,e=.returned (.tuple #[.agg cs.toArray,.bool (mOk n l)])/\kR.own w' cs (kEs n l) (jg w w')/\Qb w w':=by
 have Y:=yD hn
 have HL:=yD hl
 obtain ⟨av,rfl,az⟩:=kw hn.1
 obtain ⟨an,a8,rfl,ln,aa,al,rfl,la⟩:=kD.sx az (kD.sl hl.1)
 clear hn hl az
 go_enter func143,ntmps143
 go_wp2
 generalize R:World.alloc (World.alloc w _) _=U
 obtain ⟨Z,be,K0,K1,F1⟩:=DU
 clear R
 go_loopw [6,7] (λb i wr=>∃ (k:Nat) (m:Int),k<=l.length/\i=.int .i64 k/\b=.int .i64 m/\Hid (mB n l k=m)/\Hid (m=-1\/∃ j:Nat,j < k/\m=j)/\Qb U wr) (λ_ i _=>l.length - (intOf i).toNat)
 case atStart=>exact ⟨0,-1,Nat.zero_le _,rfl,rfl,yD rfl,yD (.inl rfl),bR⟩
 obtain ⟨k,m,hk,rfl,rfl,HM,HR,o⟩:=hrel
 have F:=kD.rd.below HL.out (tQ Z o)
 by_cases hlt:k < l.length
 · have b9:=Aa k;have dt:=Ah.2 hlt;obtain ⟨xb,xo,rfl,cf,cc,cd,xr,ac,ad,N⟩:=kD.zL F.1 hlt rfl;obtain ⟨rfl,rfl,ao,am,aq,ap⟩:=yI xr;obtain ⟨xa,xp,rfl,xl⟩:=kD.sl am;have px:kR.rd wr _ l[k].1:=⟨ao,(kD.yx HL.out hlt).1⟩;clear xr aq ap am ao;rcases HR.out with rfl|⟨j,hjk,rfl⟩
   · have hno:=λq=>(mB_no (n:=n) hlt q).trans HM.out;have ae:=λq=>mB_new (n:=n) hlt q HM.out;clear F;generalize l[k]=x at *;have a7:=yD hno;have ai:=yD ae;clear hno ae;replace K0:=cL o K0;go_upto_region 5 with fail;have FX:=yD (λ(W:Ad) (hW:Qb wr W)=>kDk hW K0 ac ad N);refine kK (λW=>Qb wr W) [Tt,Tt,Tt,Tt,Tt,Tt,Ff,Tt,Tt,Tt,Tt,Tt,Tt,Tt,Tt,Tt,Tt,Tt,Tt,Tt,Tt,Tt,Tt,Tt,Tt,Tt,Tt,Tt] bE5 bE5 qW (bR.drew) ?_;intro wS E;all_goals ((iterate 6 refine kS ?_);(first | refine zi (kHc (Y.out.below ((tQ Z (tQ o E)))) (px.below E)) (λwS1 E=>?_) | refine kS ?_);refine jT λb ax=>?_;cases b <;> try simp only [jS] at ax)
     all_goals (refine kS ?_;refine kS ?_;refine jT λb ar=>?_;cases b <;> try simp only [jS] at ar)
     all_goals ((iterate 16 refine kS ?_);refine jT λb O=>?_;cases b <;> try simp only [jS] at O)
     all_goals (refine kM ?_;have D:=(tQ o E))
     all_goals first
       | (have L:=yD (a7.out ax);refine Qg ?_;exact ⟨k + 1,-1,by omega,by go_num,rfl,L,yD (.inl rfl),D⟩)
       | (have L:=yD (ai.out ax);refine Qg ?_;exact ⟨k + 1,(k:Int),by omega,by go_num,rfl,L,yD (.inr ⟨k,by omega,rfl⟩),D⟩)
   have I:j < l.length:=bF2;have bi:=Aa j;have bb:=Ah.2 I;obtain ⟨yb,yo,yE,bh,bo,bn,yr,H,bf,ab⟩:=kD.zL F.1 I rfl;simp only [Av,Az,and_true] at yE;obtain ⟨rfl,rfl⟩:=yE;obtain ⟨rfl,rfl,fe,er,fj,f1⟩:=yI yr;obtain ⟨ya,yp,rfl,yl⟩:=kD.sl er;clear yr fj f1 er fe;obtain ⟨hno,aj,X⟩:=FV;clear F;generalize l[k]=x at *;generalize l[j]=y at *;have a7:=yD hno;have ak:=yD aj;have ah:=yD X;clear hno aj X;by_cases h3:y.1.length < x.1.length
   · have hd:decide ((y.1.length:Int) < x.1.length)=true:=bD2;replace K0:=cL o K0;go_upto_region 5 with fail;have FX:=yD (λ(W:Ad) (hW:Qb wr W)=>kTx hW K0 ac ad N H);refine kK (λW=>Qb wr W) [Tt,Tt,Tt,Tt,Tt,Tt,Ff,Tt,Tt,Tt,Tt,Tt,Tt,Tt,Tt,Tt,Tt,Tt,Tt,Tt,Tt,Tt,Tt,Tt,Tt,Tt,Tt,Tt] bE5 bE5 qW (bR.drew) ?_;intro wS E;all_goals ((iterate 6 refine kS ?_);(first | refine zi (kHc (Y.out.below ((tQ Z (tQ o E)))) (px.below E)) (λwS1 E=>?_) | refine kS ?_);refine jT λb ax=>?_;cases b <;> try simp only [jS] at ax)
     all_goals (refine kS ?_;refine kS ?_;refine jT λb ar=>?_;cases b <;> try simp only [jS] at ar)
     all_goals ((iterate 16 refine kS ?_);refine jT λb O=>?_;cases b <;> try simp only [jS] at O)
     all_goals (refine kM ?_;have D:=(tQ o E))
     all_goals first
       | (have L:=yD (a7.out ax);refine Qg ?_;exact ⟨k + 1,(j:Int),by omega,by go_num,rfl,L,yD (.inr ⟨j,by omega,rfl⟩),D⟩)
       | (have L:=yD ((λq=>ak.out q h3) ax);refine Qg ?_;exact ⟨k + 1,(k:Int),by omega,by go_num,rfl,L,yD (.inr ⟨k,by omega,rfl⟩),D⟩)
   have hd:decide ((y.1.length:Int) < x.1.length)=false:=bD2;replace K0:=cL o K0;go_upto_region 5 with fail;have FX:=yD (λ(W:Ad) (hW:Qb wr W)=>kTx hW K0 ac ad N H);refine kK (λW=>Qb wr W) [Tt,Tt,Tt,Tt,Tt,Tt,Ff,Tt,Tt,Tt,Tt,Tt,Tt,Tt,Tt,Tt,Tt,Tt,Tt,Tt,Tt,Tt,Tt,Tt,Tt,Tt,Tt,Tt] bE5 bE5 qW (bR.drew) ?_;intro wS E;all_goals ((iterate 6 refine kS ?_);(first | refine zi (kHc (Y.out.below ((tQ Z (tQ o E)))) (px.below E)) (λwS1 E=>?_) | refine kS ?_);refine jT λb ax=>?_;cases b <;> try simp only [jS] at ax)
   all_goals (refine kS ?_;refine kS ?_;refine jT λb ar=>?_;cases b <;> try simp only [jS] at ar)
   all_goals ((iterate 16 refine kS ?_);refine jT λb O=>?_;cases b <;> try simp only [jS] at O)
   all_goals (refine kM ?_;have D:=(tQ o E))
   all_goals first
     | (have L:=yD (a7.out ax);refine Qg ?_;exact ⟨k + 1,(j:Int),by omega,by go_num,rfl,L,yD (.inr ⟨j,by omega,rfl⟩),D⟩)
     | (have L:=yD ((λ(_:kNh n x.1=true)=>ah.out h3) ax);refine Qg ?_;exact ⟨k + 1,(j:Int),by omega,by go_num,rfl,L,yD (.inr ⟨j,by omega,rfl⟩),D⟩)
 obtain rfl:k=l.length:=bF2
 obtain ⟨D,R0,F0⟩:=FT
 rcases HR.out with rfl|⟨j,I,rfl⟩
 · have L:=yD (m_no HM.out);clear F;go_wp2;refine Am (v:=.tuple #[.agg #[.slice none 0 0],.bool false]) pJ rfl ⟨[.slice none 0 0],by rw [L.out.1],?_,?_⟩
   · rw [L.out.2];exact kD.yF
   exact D.setCell bF3 _
 have bi:=Aa j
 have bb:=Ah.2 I
 have L:=yD (m_yes I HM.out)
 obtain ⟨yb,yo,rfl,bh,bo,bn,yr,H,bf,ab⟩:=kD.zL F.1 I rfl
 obtain ⟨rfl,rfl,fe,er,fj,f1⟩:=yI yr
 obtain ⟨ya,yp,rfl,yl⟩:=kD.sl er
 have py:kR.rd wr _ l[j].1:=⟨fe,(kD.yx HL.out I).1⟩
 clear yr fj f1 er fe F
 generalize l[j]=y at *
 go_wp2_with fail
 refine (zg (py.below bI)).mono ?_
 rintro e w2 ⟨cs,rfl,O2,ag⟩
 obtain ⟨cv,rfl,af⟩:=kw O2.raw
 obtain ⟨a2,c2,hv,_⟩:=kD.kAw af
 obtain rfl:cv=_:=by simpa using hv
 obtain ⟨J,EF,R0,F0⟩:=AQ
 clear hv O2 af ag D
 go_wp2
 refine Am (v:=.tuple #[.agg #[Qs a2 y.1 c2],.bool true]) pJ rfl ⟨[Qs a2 y.1 c2],by rw [L.out.1],?_,?_⟩
 · rw [L.out.2];exact (J.out.setCell fK).wide gL
 exact EF.setCell bF3 _
def kGy {w:Ad} {vl:Ae} {l:Ag jI} (hl:(kD.slice 176 jA).rd w [vl] l) {cn:Ag Ae} {n:ko} (hn:kR.rd w cn n) :
    Aj prog 114 #[vl,.agg cn.toArray] w λe w'=>∃ cs,e=.returned (.tuple #[.agg cs.toArray,.bool (mOk n l)])/\kR.own w' cs (kEs n l) (jg w w')/\Qb w w':=by
 have Y:=yD hn
 have HL:=yD hl
 obtain ⟨av,rfl,az⟩:=kw hn.1
 obtain ⟨an,a8,rfl,ln,aa,al,rfl,la⟩:=kD.sx az (kD.sl hl.1)
 clear hn hl az
 go_enter func114,ntmps114
 go_wp2
 generalize R:World.alloc (World.alloc w _) _=U
 obtain ⟨Z,be,K0,K1,F1⟩:=DU
 clear R
 go_loopw [6,11] (λb i wr=>∃ (k:Nat) (m:Int),k<=l.length/\i=.int .i64 k/\b=.int .i64 m/\Hid (mB n l k=m)/\Hid (m=-1\/∃ j:Nat,j < k/\m=j)/\Qb U wr) (λ_ i _=>l.length - (intOf i).toNat)
 case atStart=>exact ⟨0,-1,Nat.zero_le _,rfl,rfl,yD rfl,yD (.inl rfl),bR⟩
 obtain ⟨k,m,hk,rfl,rfl,HM,HR,o⟩:=hrel
 have F:=kD.rd.below HL.out (tQ Z o)
 by_cases hlt:k < l.length
 · have b9:=Aa k;have dt:=Ah.2 hlt;obtain ⟨xb,xo,rfl,cf,cc,cd,xr,ac,ad,N⟩:=kD.zL F.1 hlt rfl;obtain ⟨rfl,rfl,ao,am,aq,ap⟩:=yI xr;obtain ⟨xa,xp,rfl,xl⟩:=kD.sl am;have px:kR.rd wr _ l[k].1:=⟨ao,(kD.yx HL.out hlt).1⟩;clear xr aq ap am ao;rcases HR.out with rfl|⟨j,hjk,rfl⟩
   · have hno:=λq=>(mB_no (n:=n) hlt q).trans HM.out;have ae:=λq=>mB_new (n:=n) hlt q HM.out;clear F;generalize l[k]=x at *;have a7:=yD hno;have ai:=yD ae;clear hno ae;replace K0:=cL o K0;go_upto_region 5 with fail;generalize O:World.alloc wr _=wC;obtain ⟨EC,M0,M1,M2,K0⟩:=CB
     (try replace H:=cL EC H);(try replace bf:=cL EC bf);(try replace ab:=cL EC ab);clear O
     have FX:=yD (λ(W:Ad) (hW:Qb wC W)=>kDk hW K0 M0 M1 M2);refine kK (λW=>Qb wC W) [Tt,Tt,Tt,Ff,Tt,Tt,Tt,Tt,Tt,Tt,Tt,Tt,Tt,Tt,Tt,Tt,Tt,Tt,Tt,Tt,Tt,Tt] bE5 bE5 qW (bR.drew) ?_;intro wS E;all_goals ((iterate 3 refine kS ?_);(first | refine zi (kHg (Y.out.below ((tQ Z ((tQ o (tQ EC E)))))) (px.below (tQ EC E))) (λwS1 E=>?_) | refine kS ?_);refine jT λb a1=>?_;cases b <;> try simp only [jS] at a1)
     all_goals (refine kS ?_;refine kS ?_;refine jT λb ax=>?_;cases b <;> try simp only [jS] at ax)
     all_goals ((iterate 13 refine kS ?_);refine jT λb V=>?_;cases b <;> try simp only [jS] at V)
     all_goals (refine kM ?_;have D:=(tQ o (tQ EC E)))
     all_goals first
       | (have L:=yD (a7.out a1);refine Qg ?_;exact ⟨k + 1,-1,by omega,by go_num,rfl,L,yD (.inl rfl),D⟩)
       | (have L:=yD (ai.out a1);refine Qg ?_;exact ⟨k + 1,(k:Int),by omega,by go_num,rfl,L,yD (.inr ⟨k,by omega,rfl⟩),D⟩)
   have I:j < l.length:=bF2;have bi:=Aa j;have bb:=Ah.2 I;obtain ⟨yb,yo,yE,bh,bo,bn,yr,H,bf,ab⟩:=kD.zL F.1 I rfl;simp only [Av,Az,and_true] at yE;obtain ⟨rfl,rfl⟩:=yE;obtain ⟨rfl,rfl,fe,er,fj,f1⟩:=yI yr;obtain ⟨ya,yp,rfl,yl⟩:=kD.sl er;clear yr fj f1 er fe;obtain ⟨hno,aj,X⟩:=FV;clear F;generalize l[k]=x at *;generalize l[j]=y at *;have a7:=yD hno;have ak:=yD aj;have ah:=yD X;clear hno aj X;by_cases h3:y.1.length < x.1.length
   · have hd:decide ((y.1.length:Int) < x.1.length)=true:=bD2;replace K0:=cL o K0;go_upto_region 5 with fail;generalize O:World.alloc wr _=wC;obtain ⟨EC,M0,M1,M2,K0⟩:=CB
     (try replace H:=cL EC H);(try replace bf:=cL EC bf);(try replace ab:=cL EC ab);clear O
     have FX:=yD (λ(W:Ad) (hW:Qb wC W)=>kTx hW K0 M0 M1 M2 H);refine kK (λW=>Qb wC W) [Tt,Tt,Tt,Ff,Tt,Tt,Tt,Tt,Tt,Tt,Tt,Tt,Tt,Tt,Tt,Tt,Tt,Tt,Tt,Tt,Tt,Tt] bE5 bE5 qW (bR.drew) ?_;intro wS E;all_goals ((iterate 3 refine kS ?_);(first | refine zi (kHg (Y.out.below ((tQ Z ((tQ o (tQ EC E)))))) (px.below (tQ EC E))) (λwS1 E=>?_) | refine kS ?_);refine jT λb a1=>?_;cases b <;> try simp only [jS] at a1)
     all_goals (refine kS ?_;refine kS ?_;refine jT λb ax=>?_;cases b <;> try simp only [jS] at ax)
     all_goals ((iterate 13 refine kS ?_);refine jT λb V=>?_;cases b <;> try simp only [jS] at V)
     all_goals (refine kM ?_;have D:=(tQ o (tQ EC E)))
     all_goals first
       | (have L:=yD (a7.out a1);refine Qg ?_;exact ⟨k + 1,(j:Int),by omega,by go_num,rfl,L,yD (.inr ⟨j,by omega,rfl⟩),D⟩)
       | (have L:=yD ((λq=>ak.out q h3) a1);refine Qg ?_;exact ⟨k + 1,(k:Int),by omega,by go_num,rfl,L,yD (.inr ⟨k,by omega,rfl⟩),D⟩)
   have hd:decide ((y.1.length:Int) < x.1.length)=false:=bD2;replace K0:=cL o K0;go_upto_region 5 with fail;generalize O:World.alloc wr _=wC;obtain ⟨EC,M0,M1,M2,K0⟩:=CB
   (try replace H:=cL EC H);(try replace bf:=cL EC bf);(try replace ab:=cL EC ab);clear O
   have FX:=yD (λ(W:Ad) (hW:Qb wC W)=>kTx hW K0 M0 M1 M2 H);refine kK (λW=>Qb wC W) [Tt,Tt,Tt,Ff,Tt,Tt,Tt,Tt,Tt,Tt,Tt,Tt,Tt,Tt,Tt,Tt,Tt,Tt,Tt,Tt,Tt,Tt] bE5 bE5 qW (bR.drew) ?_;intro wS E;all_goals ((iterate 3 refine kS ?_);(first | refine zi (kHg (Y.out.below ((tQ Z ((tQ o (tQ EC E)))))) (px.below (tQ EC E))) (λwS1 E=>?_) | refine kS ?_);refine jT λb a1=>?_;cases b <;> try simp only [jS] at a1)
   all_goals (refine kS ?_;refine kS ?_;refine jT λb ax=>?_;cases b <;> try simp only [jS] at ax)
   all_goals ((iterate 13 refine kS ?_);refine jT λb V=>?_;cases b <;> try simp only [jS] at V)
   all_goals (refine kM ?_;have D:=(tQ o (tQ EC E)))
   all_goals first
     | (have L:=yD (a7.out a1);refine Qg ?_;exact ⟨k + 1,(j:Int),by omega,by go_num,rfl,L,yD (.inr ⟨j,by omega,rfl⟩),D⟩)
     | (have L:=yD ((λ(_:kNh n x.1=true)=>ah.out h3) a1);refine Qg ?_;exact ⟨k + 1,(j:Int),by omega,by go_num,rfl,L,yD (.inr ⟨j,by omega,rfl⟩),D⟩)
 obtain rfl:k=l.length:=bF2
 obtain ⟨D,R0,F0⟩:=FT
 rcases HR.out with rfl|⟨j,I,rfl⟩
 · have L:=yD (m_no HM.out);clear F;go_wp2;refine Am (v:=.tuple #[.agg #[.slice none 0 0],.bool false]) pM rfl ⟨[.slice none 0 0],by rw [L.out.1],?_,?_⟩
   · rw [L.out.2];exact kD.yF
   exact D.setCell bF3 _
 have bi:=Aa j
 have bb:=Ah.2 I
 have L:=yD (m_yes I HM.out)
 obtain ⟨yb,yo,rfl,bh,bo,bn,yr,H,bf,ab⟩:=kD.zL F.1 I rfl
 obtain ⟨rfl,rfl,fe,er,fj,f1⟩:=yI yr
 obtain ⟨ya,yp,rfl,yl⟩:=kD.sl er
 have py:kR.rd wr _ l[j].1:=⟨fe,(kD.yx HL.out I).1⟩
 clear yr fj f1 er fe F
 generalize l[j]=y at *
 go_wp2_with fail
 refine (zG (py.below bI)).mono ?_
 rintro e w2 ⟨cs,rfl,O2,ag⟩
 obtain ⟨cv,rfl,af⟩:=kw O2.raw
 obtain ⟨a2,c2,hv,_⟩:=kD.kAw af
 obtain rfl:cv=_:=by simpa using hv
 obtain ⟨J,EF,R0,F0⟩:=AQ
 clear hv O2 af ag D
 go_wp2
 refine Am (v:=.tuple #[.agg #[Qs a2 y.1 c2],.bool true]) pM rfl ⟨[Qs a2 y.1 c2],by rw [L.out.1],?_,?_⟩
 · rw [L.out.2];exact (J.out.setCell fK).wide gL
 exact EF.setCell bF3 _
end Go.Proofs.YthocbplmdjkifaaGreat
