/-
  The longest prefix among routes.
-/
import Derived.Test.YthocbplmdjkifabGreatSortD
import Derived.Test.YthocbplmdjkifabGreatRecS
set_option linter.unusedVariables false
set_option linter.defProp false
set_option linter.unusedSimpArgs false
set_option linter.unnecessarySimpa false
set_option maxRecDepth 100000
set_option maxHeartbeats 4000000
open Bool renaming true->Tt,false->Ff
open Int renaming natCast_nonneg->Aa,toNat_natCast->Ag,ofNat_lt->Ak
open Go renaming World->Ab,Value->Ad,bodyPost_ret->Ae,Calls->Al
open _root_ renaming List->Ac,Option->Aq,if_neg->Ar
open List renaming getElem?_cons_succ->Ah,getElem?_cons_zero->Ai,take_of_length_le->Aj
open Go.Value.slice renaming injEq->Am
open Option.some renaming injEq->Ap
open Go.Addr.mk renaming injEq->Au
namespace Go.Proofs.YthocbplmdjkifabGreat
open Go.RowKit _root_.Go.Proofs.Tryz
variable {w:Ab} {n:kU} {α:Type} {key:α->Int} {l:Ac jH} {cn ca:Ac Ad} {k j:Nat} {e:TypeId} {vl vf:Ad} {r:kD α} {S:Nat->Prop} {a:Aq Addr} {fs:Ac Int} {xs:Ac α} {x:α}
def Clone_int_0 {va:Ad} {x:Ac Int} (ha:Ck.rd w [va] x):Al prog 191 #[va] w (kAo 3 kD.int x w):=by
 obtain ⟨aa,H,rfl,la⟩:=kD.sl ha.1;have HA:=yD ha;have E:=λ(W:Ab) (a:Aq Addr) (n c:Nat)=>Lib.run_eql_slice_nil (P:=prog) W 63 3 a n c 0 0 underlying63;cases aa with
 | none =>
   have hx:x=[]:=by
     cases x with
     | nil=>rfl
     | cons y ys =>
       exact UK
   subst hx;clear ha;go_enter func191,ntmps191;go_wp2;go_ret;exact ⟨_,rfl,kD.ko.void,bR⟩
 | some a =>
   have hb:x.length<=16777216:=ha.2.1;clear ha;go_enter func191,ntmps191;have O0:kD.ko 3 kD.int (w.alloc (.cells #[] 3)) (.slice (Qa w) 0 0) [] (λk=>k=w.heap.size):=kD.yf (cs:=[]) (xs:=[]) (T:=λ_=>False) bJ6 bJ6 rfl (λ_ h=>h.elim) rfl;go_wp2_with (at_builtin;refine kD.yH rfl _ _ 63 rfl (r:=kD.int) (e:=3) underlying63 zk rfl bJ4 bJ4 flatint (B:=w.heap.size) O0 bJ7 bJ7 (HA.alloc _) tO bJ6 bJ0 ?_);intro v2 w2 hown D hz;have F:=yD hown;obtain ⟨a2,c2,hv⟩:=hown.zK;obtain rfl:=hv;have G:Qb w w2:=Below.trans bK D;clear hown O0 D;go_wp2;go_ret;exact ⟨_,rfl,kD.ko.cast F.out bJ6,G⟩
def kOf (l:Ac kM) (n:kU) (fs:Ac Int):Ac Int:=Srt.sorted (zm l n) fs
def kQl (l:Ac kM) (n:kU) (fs:Ac Int):(kOf l n fs).length=fs.length:=by
 unfold kOf;rw [Srt.kRy]
def cmpI_lt {a b:Int}:decide (kFs a b < 0)=decide (a < b):=by
 unfold kFs;by_cases h:a < b;rw [if_pos h];simp [h];rw [Ar h];by_cases h2:b < a;rw [if_pos h2];simp [h];rw [Ar h2];simp [h]
def sorted_snoc {l:Ac α} (h:k < l.length):Srt.sorted key (l.take (k + 1))=Srt.put key (Srt.sorted key (l.take k)) l[k]:=by
 unfold Srt.sorted;rw [List.take_succ_eq_append_getElem h,List.foldl_append];rfl
def kJs {l:Ac α}:(Srt.sorted key l).length=l.length:=by rw [Srt.kRy]
def jCc {l:Ac α} (J:j + 1=k) (hl:j < l.length) (h:decide (key x < key l[j])=true):Srt.place key k l x=Srt.place key j l x:=by
 subst J;rw [Srt.place,if_pos (by rw [Srt.kFc hl];exact of_decide_eq_true h)]
def jCa {l:Ac α} (J:j + 1=k) (hl:j < l.length) (h:decide (key x < key l[j])=false):Srt.place key k l x=k:=by
 subst J;rw [Srt.place,Ar (by rw [Srt.kFc hl];exact of_decide_eq_false h)]
def jIi {l:List α} (h:k=Srt.place key l.length l x):Srt.put key l x=l.take k++[x]++l.drop k:=by subst h;rfl
namespace kD
def kWk {n cap:Nat} (h:ko e r w (.slice a n cap) xs S):(n=0/\cap=0)\/∃ b,a=some ⟨b,0,none⟩:=by
 rcases h.2 with ⟨⟨a',h0⟩,_⟩|⟨b,cap',cur,cs,tl,h0,_⟩;simp only [Am] at h0;exact .inl ⟨h0.2.1,h0.2.2⟩;simp only [Am] at h0;exact .inr ⟨b,h0.1⟩
def kZu {c:Nat} (hc:c<=maxLen):(slice e r).rd w [.slice a 0 c] []:=⟨void_raw hc,Nat.zero_le _,by simp⟩
def jAd {b len cap:Nat} (h:(slice e r).rd w [.slice (Qa b) len cap] xs) (hk:k<=xs.length):(slice e r).rd w [.slice (some ⟨b,0 + k * r.n,none⟩) (len - k) (cap - k)] (xs.drop k) :=
  ⟨drop_raw h.1 hk,by have:=h.2.1;simp;omega,λx hx=>h.2.2 x (List.mem_of_mem_drop hx)⟩
end kD
def kWw {a b:Int} {l:Ac kM} {F nv:Ad} {B1 B2:Nat} (hl:Cf.raw w [F] l) (hn:kQ.raw w [nv] n) (A0:Qc w B1 0 F) (A1:Qc w B2 0 nv) :
    Al prog 193 (#[.int .i64 a,.int .i64 b]++#[.pointer (Qa B1),.pointer (Qa B2)]) w (bQ w (.int .i64 (kFs (zm l n a) (zm l n b)))):=by
 refine NW λHL HN=>?_;obtain ⟨E,D,ab⟩:=kT hn;obtain rfl:nv=E:=bI5;obtain ⟨na,np,rfl,_,la,lp,rfl,_⟩:=kD.sx ab (kD.sl hl);clear ab hl hn D;show Al prog 193 #[_,_,_,_] w _;go_enter func193,ntmps193;go_upto_region 1 with fail;have FX:=yD (λ(W:Ab) (hW:Qb w W)=>kNa hW A0 A1);refine jf (λW=>Qb w W) [(0,true),(1,true),(2,true),(4,true),(5,true),(6,true),(3,false),(7,false),(8,false),(9,true)] bI9 bI9 sD (bR.drew) ?_;refine uN λwS I=>?_;all_goals ((iterate 6 refine kZ ?_);(iterate 2 (first | refine wkB (kWx (kD.raw.below HL.out I) (kD.raw.below HN.out I)) (λwS1 I=>?_) | refine kZ ?_));(first | refine wkC (kVg) ?_ | refine kZ ?_);refine kZ ?_;refine kR ?_)
 exact xW I
def kRe:jL prog 193:=yK func193 bI9 bI9
def kZj {l:Ac kM} (hl:Cf.rd w [vl] l) (hn:kQ.rd w cn n) (hf:Ck.rd w [vf] fs) (az:fs.length<=19) :
    Al prog 127 #[vl,.agg cn.toArray,vf] w (kAj Ck (kOf l n fs) w):=by
 refine NW λHL HN=>?_;have HF:=yD hf;obtain ⟨nv,rfl,ab⟩:=kT hn.1;obtain ⟨na,np,rfl,_,la,lp,rfl,_,fa,fp,rfl,_⟩:=kD.sx ab (kD.sx hl.1 (kD.sl hf.1));clear ab hl hn hf;go_enter func127,ntmps127;go_wp2_with fail;refine fK λX U EB=>?_;have Y:Qd X w 0 (Qs la l lp):=bA9;refine IR λK1=>?_;clear U;refine (Clone_int_0 (HF.below EB)).mono ?_;refine eD λw1 v1 O1 O=>?_;refine aH O1 λoa on oc ho ak=>?_;obtain rfl:=ho;have E1:=(tQ EB O);refine aN O1 O λF D=>?_;have a4:=O.size;have cc:=EB.size;clear O1 O;have HC:Hid (jJa (zm l n) 193 #[.pointer (Qa w),.pointer (Qa (w.heap.size + 1))] (jW X w1) w1):=yD (λwr I x y c d hx hy=>by
   have e:=D.trans (I.below D.size (λi hi=>hi.1));obtain ⟨hc,_⟩:=kD.yX hx;obtain ⟨hd,_⟩:=kD.yX hy;obtain rfl:c=_:=by simpa using hc
   obtain rfl:d=_:=by simpa using hd
   exact (kWw (HL.1.below (tQ EB e)) (HN.1.below (tQ EB e)) (cL e Y) (cL e K1)).mono (λe2 w2 h=>⟨_,h.1,cmpI_lt,h.2⟩))
 clear Y K1 EB;go_wp2_with fail;refine (kXg (zm l n) kRe HC.out F.out az).mono ?_;rintro e w2 ⟨rfl,O2,R⟩;have E2:=E1.trans (R.below bJ5 wR);have am:=R.size;have ae:=yD (O2.wide (T:=jW w w2) pJ);clear O2 R HC F;go_wp2;go_ret;exact ⟨_,rfl,ae.own mR,E2⟩
def yN {v:Ad} {xs ys:Ac Int} {B:Nat} {av:Aq Addr} {len cap:Nat} (hown:kD.ko 3 kD.int w v xs S) (hy:Ck.rd w [.slice av len cap] ys) (hSB:∀ k,S k->B<=k/\k < w.heap.size) (hB:B<=w.heap.size) (hlen:xs.length + ys.length<=1000000000) :
    ∃ v' w',(Builtin.append_ #[63,63] 63 #[v,.slice av len cap]).run prog w=.ok v' w'/\kD.ko 3 kD.int w' v' (xs++ys) (jW B w')/\Below B w w'/\w.heap.size<=w'.heap.size :=
  kD.kQk (r:=kD.int) underlying63 zk rfl (show 0 < 1 by omega) bJ4 kD.yL hown hy hSB hB hlen
def kEa {cs:Ac Ad} {x:Int} (hx:kD.is kD.int true w cs x (λ_=>True)) (hb:kD.bdd kD.int Big x) :
    Ck.rd (World.alloc w (.cells cs.toArray 3)) [.slice (Qa w) 1 1] [x] :=
  ((kD.yf (e:=3) (r:=kD.int) (w:=w) (cs:=cs) (xs:=[x]) (T:=λ_=>True) (S:=λ_=>True) nT vX (kD.kGc hx) (λ_ h=>h) trivial).own wW).rd
def kYw {l:Ac kM} (hl:Cf.rd w [vl] l) (hn:kQ.rd w cn n) (hf:Ck.rd w [vf] fs) :
    Al prog 132 #[vl,.agg cn.toArray,vf] w (kAj Ck (kOf l n fs) w):=by
 refine NW λHL HN=>?_;have HF:=yD hf;have az:fs.length<=16777216:=hf.2.1;obtain ⟨nv,rfl,ab⟩:=kT hn.1;obtain ⟨na,np,rfl,_,la,lp,rfl,_,fa,fp,rfl,_⟩:=kD.sx ab (kD.sx hl.1 (kD.sl hf.1));clear ab hl hn hf;go_enter func132,ntmps132;go_wp2;refine fK λX U EB=>?_;have cc:=EB.size;have Y:Qd X w 0 (Qs na n np):=bA9;clear U;go_loopw [7,8] (λv i wr=>∃ (k:Nat),k<=fs.length/\i=.int .i64 k/\Hid (kD.ko 3 kD.int wr v (Srt.sorted (zm l n) (fs.take k)) (jW w wr))/\Qb X wr) (λ_ i _=>fs.length - (intOf i).toNat);case atStart=>exact ⟨0,Nat.zero_le _,rfl,yD kD.ko.void,bR⟩
 obtain ⟨i,hi,rfl,F,D⟩:=hrel;replace Y:=cL D Y;refine aH F λa m cap ho HM=>?_;obtain rfl:=ho;have bo:=D.size;have bq:=Aa i;by_cases hlt:i < fs.length
 · have b7:(i:Int) < fs.length:=bJ5;have eo:m<=16777216:=by have h0:m=i:=(by rw [HM.out,kJs];simp;omega);omega
   have b3:m<=cap/\cap<=9223372036854775807:=by have h1:=F.kMm;have h2:=HM.out;obtain ⟨h3,h4⟩:=kD.kBx h1;exact ⟨by omega,h4⟩
   obtain ⟨fb,fo,rfl,fc,fr,Af⟩:=kD.kAu (HF.1.below (tQ EB D)) hlt rfl;obtain ⟨bi,N⟩:=kD.yX fr;obtain rfl:fc=_:=by simpa using bi
   have ch:=yD (sorted_snoc (key:=zm l n) hlt);clear bi fr;generalize fs[i]=x at *;generalize b2:Srt.sorted (zm l n) (fs.take i)=LL at *;clear b2;go_wp2;go_loopw [9] (λq bm=>∃ (k:Nat),k<=m/\q=.int .i64 k/\Hid (Srt.place (zm l n) k LL x=Srt.place (zm l n) m LL x)/\Qb wr bm) (λq _=>(intOf q).toNat);case atStart=>exact ⟨m,Nat.le_refl _,rfl,yD rfl,bR⟩
   obtain ⟨k,bp,rfl,HP,V⟩:=hrel;have aw:=cL V Y;have ah:=cL V Af;have ae:=yD (F.below V);have EQ:Qb X _:=(tQ D V);have dt:=Aa k;have bu:(k:Int)<=cap:=bJ5;have bt:k<=cap:=bJ5;by_cases hk:0 < k
   · obtain ⟨j,J⟩:∃ j,j + 1=k:=⟨k - 1,by omega⟩;have dc:(k:Int) - 1=(j:Int):=bJ5;have bx:IntKind.i64.wrap (j:Int)=j:=IntWalk.i64_in _ bJ5;have dh:=Aa j;have aq:j < LL.length:=bD5;have br:(j:Int) < m:=bJ5;have hp:decide ((k:Int) > 0)=true:=bJ0;have bw:decide (0 < k)=true:=bG3;have bv:(0:Int) < k:=bJ5;have HY:=yD (λq=>(jCc (key:=zm l n) (x:=x) J aq q).symm.trans HP.out);have ax:=yD (λq=>(jCa (key:=zm l n) (x:=x) J aq q).symm.trans HP.out);obtain ⟨ob,oo,rfl,b1,ay,Ao⟩:=kD.kAu ae.kMm aq rfl;obtain ⟨bb,bz⟩:=kD.yX ay;obtain rfl:b1=_:=by simpa using bb
     clear bb ay bz;generalize LL[j]=y at *;go_upto_region 6 with fail;refine jf (λW=>Qb wr W) [(0,true),(1,true),(2,true),(3,true),(4,true),(5,true),(6,true),(7,true),(8,true),(9,true),(11,true),(12,true),(13,true),(14,true),(15,true),(16,true),(10,false),(17,false),(18,true),(19,true)] bI9 bI9 sD (bR.drew) ?_;intro wS I;simp only [jE,Ah,Ai,List.map_cons,List.map_nil];all_goals (refine kZ ?_;refine kZ ?_;refine jo λb ai=>?_;cases b <;> try simp only [jm] at ai)
     all_goals (refine kZ ?_;(first|(refine kI rfl I ?_)|(refine jF (v:=?_) rfl (λW hW=>?_) ?_;rotate_left;(· have ao:=cL hW aw;have aj:=cL hW ah;have au:=cL hW Ao;clear hW;go_simp;try with_reducible rfl)));refine jD ?_;(iterate 4 refine kZ ?_);(iterate 2 (first|(refine kI rfl I ?_)|(refine jF (v:=?_) rfl (λW hW=>?_) ?_;rotate_left;(· have ao:=cL hW aw;have aj:=cL hW ah;have au:=cL hW Ao;clear hW;go_simp;try with_reducible rfl)));refine jD ?_;refine kZ ?_);refine kZ ?_;refine kZ ?_;(first|(refine kI rfl I ?_)|(refine jF (v:=?_) rfl (λW hW=>?_) ?_;rotate_left;(· have ao:=cL hW aw;have aj:=cL hW ah;have au:=cL hW Ao;clear hW;go_simp;try with_reducible rfl)));refine jD ?_;(iterate 2 (first | refine wkB (kVx (kD.raw.below HL.1 ((tQ EB (tQ EQ I)))) (kD.raw.below HN.1 ((tQ EB (tQ EQ I))))) (λwS1 I=>?_) | refine kZ ?_));refine kZ ?_;refine jo λb ak=>?_;cases b <;> try simp only [jm] at ak)
     all_goals (refine kR ?_;have dy:=yD (tQ V I);have af:=dy.out;replace ah:=cL I ah)
     all_goals first|(have HV:=yD (show decide (zm l n x < zm l n y)=true by first | exact ak | simpa using ak);have ge:=yD (HY.out HV.out);clear HY ax HV ak;refine Qg ?_;exact ⟨j,by omega,rfl,ge,dy.out⟩)|(have HV:=yD (show decide (zm l n x < zm l n y)=false by first | exact ak | simpa using ak);have bc:=yD (ax.out HV.out);clear HY ax HV ak)
     have ac:=yD (ch.trans (jIi (show k=_ by rw [<- HM.out];exact bc.out)));have ap:=yD (F.below af);generalize wS1=wq at *;clear I;have a8:=yD ((ap.own (by have:=HM.out;unfold Big;omega)).rd);have ag:=yD (kD.kTu a8.out (k:=k) bD5);have b0:LL.length<=16777216:=bD5;go_upto_region 8 with fail;by_cases bl:k < cap
     · rcases kD.kWk ap.out with ⟨h1,h2⟩|⟨b,hb⟩;exact absurd bl bJ5;first | subst hb|(simp only [Ap,Au,and_true] at hb;obtain ⟨rfl,rfl⟩:=hb)
       refine z8 λbk dm FX wS I=>?_;refine jg (i:=0) (j:=9) rfl rfl bI9 rfl rfl (λK E=>?_) (λK E=>?_)
       · refine uI λbg t0 R I=>?_;clear E K R;refine jD ?_;refine jg (i:=4) (j:=9) rfl rfl bI9 rfl rfl (λK E=>?_) (λK E=>?_)
         · refine lM λbf t1 O bh a1 n1 c1 a5 hr HV I=>?_;clear E K hr O;refine iQ λt2 H bd HV I=>?_;refine N9 λK E v2 t3 hr L O a7=>?_;refine RA L λa2 n2 c2 a9 a6=>?_;obtain rfl:=a9;refine U7 λI HV=>?_;clear H L;clear E K hr O;refine jD ?_;refine kK (k:=14) rfl bI9 rfl (λK E=>?_);refine UB λv3 t4 hr L O a4=>?_;refine RA L λa3 n3 c3 ar ba=>?_;obtain rfl:=ar;exact QZ
         refine lI λbf t1 H R I=>?_;clear E K R;refine iV λbe t2 bd a1 n1 c1 a5 HV H I=>?_;refine jD ?_;exact TP
       refine SI λbg t0 H R=>?_;refine LG R λI=>?_;clear E K R;refine iE λt1 H I K E be=>?_;refine UD λv1 t2 hr HV O bd=>?_;refine LD HV λa1 n1 c1 an a5=>?_;obtain rfl:=an;refine SK H O λH I=>?_;clear E K hr O;exact QO
     have bk:cap=k:=bJ5;subst bk;have dm:=λ(ad:Aq Addr)=>yD (show Ck.rd wq [.slice ad 0 0] (LL.drop cap) from by rw [List.drop_eq_nil_of_le bD5];exact kD.kZu bC7);have FX:=yD (λ(W:Ab) (hW:Qb wq W)=>cL hW ah);refine TB λwS I=>?_;refine kP 6 ?_;refine kP 7 ?_;refine kP 8 ?_;refine kP 11 ?_;refine kP 12 ?_;refine kP 13 ?_;refine jg (i:=0) (j:=9) rfl rfl bI9 rfl rfl (λK E=>?_) (λK E=>?_)
     · refine uI λbg t0 R I=>?_;clear E K R;refine jD ?_;refine jg (i:=4) (j:=9) rfl rfl bI9 rfl rfl (λK E=>?_) (λK E=>?_)
       · refine lM λbf t1 O bh a1 n1 c1 a5 hr HV I=>?_;clear E K hr O;refine iQ λt2 H bd HV I=>?_;refine bF λt3 a7 a2 n2 c2 a6 I HV K E=>?_;clear H;obtain ⟨v3,t4,hr,L,O,a4⟩:=yN (B:=wq.heap.size) HV ((dm _).out.below I) vD I.size bJ0;refine LX ?_;exact aP
       refine lI λbf t1 H R I=>?_;clear E K R;refine iV λbe t2 bd a1 n1 c1 a5 HV H I=>?_;exact QK
     refine lH λbg t0 H R I=>?_;clear E K R;refine jD ?_;refine kK (k:=0) rfl bI9 rfl (λK E=>?_);go_simp;refine jZ ?_;intro t1 R _ _;refine SH R λH I=>?_;clear R;refine S9 λK E=>?_;have be:=I.size;refine RZ λv1 t2 hr HV O bd=>?_;refine aM HV λa1 n1 c1 an a5=>?_;obtain rfl:=an;refine SH O λH I=>?_;clear hr O;refine jD ?_;refine kK (k:=10) rfl bI9 rfl (λK E=>?_);obtain ⟨v2,t3,hr,L,O,a7⟩:=yN (B:=wq.heap.size) HV H pJ I.size bJ0;refine aM L λa2 n2 c2 a9 a6=>?_;obtain rfl:=a9;refine U6 λI G HV=>?_;clear L G;refine E _ _ I ?_;clear hr O;refine jD ?_;refine kK (k:=14) rfl bI9 rfl (λK E=>?_);exact TY
   have bn:k=0:=bJ5;have hp:decide ((k:Int) > 0)=false:=bJ0;have bv:¬ (0:Int) < k:=bJ5;have bc:Hid (k=Srt.place (zm l n) m LL x):=yD (by rw [<- HP.out,bn];rfl);clear bn;go_upto_region 6 with fail;refine jf (λW=>Qb wr W) [(0,true),(1,true),(2,true),(3,true),(4,true),(5,true),(6,true),(7,true),(8,true),(9,true),(11,true),(12,true),(13,true),(14,true),(15,true),(16,true),(10,false),(17,false),(18,true),(19,true)] bI9 bI9 sD (bR.drew) ?_;refine uN λwS I=>?_;all_goals (refine kZ ?_;refine kZ ?_;refine jo λb ai=>?_;cases b <;> try simp only [jm] at ai)
   all_goals ((iterate 13 refine kZ ?_);(iterate 2 (first|(refine kI rfl I ?_)|(fail));refine jD ?_);refine kZ ?_;refine jo λb ak=>?_;cases b <;> try simp only [jm] at ak)
   all_goals (refine kR ?_;have dy:=yD (tQ V I);have af:=dy.out;replace ah:=cL I ah)
   have ac:=yD (ch.trans (jIi (show k=_ by rw [<- HM.out];exact bc.out)));have ap:=yD (F.below af);generalize wS=wq at *;clear I;have a8:=yD ((ap.own (by have:=HM.out;unfold Big;omega)).rd);have ag:=yD (kD.kTu a8.out (k:=k) bD5);have b0:LL.length<=16777216:=bD5;go_upto_region 8 with fail;by_cases bl:k < cap
   · rcases kD.kWk ap.out with ⟨h1,h2⟩|⟨b,hb⟩;exact absurd bl bJ5;first | subst hb|(simp only [Ap,Au,and_true] at hb;obtain ⟨rfl,rfl⟩:=hb)
     refine z8 λbk dm FX wS I=>?_;refine jg (i:=0) (j:=9) rfl rfl bI9 rfl rfl (λK E=>?_) (λK E=>?_)
     · refine uI λbg t0 R I=>?_;clear E K R;refine jD ?_;refine jg (i:=4) (j:=9) rfl rfl bI9 rfl rfl (λK E=>?_) (λK E=>?_)
       · refine lM λbf t1 O bh a1 n1 c1 a5 hr HV I=>?_;clear E K hr O;refine iQ λt2 H bd HV I=>?_;exact TP
       refine lI λbf t1 H R I=>?_;clear E K R;refine iV λbe t2 bd a1 n1 c1 a5 HV H I=>?_;exact QO
     refine lH λbg t0 H R I=>?_;clear E K R;refine jD ?_;refine kK (k:=0) rfl bI9 rfl (λK E=>?_);go_simp;refine jZ ?_;intro t1 R _ _;refine SH R λH I=>?_;clear R;refine S9 λK E=>?_;have be:=I.size;refine RZ λv1 t2 hr HV O bd=>?_;refine aM HV λa1 n1 c1 an a5=>?_;obtain rfl:=an;refine SH O λH I=>?_;clear hr O;refine jD ?_;refine kK (k:=10) rfl bI9 rfl (λK E=>?_);obtain ⟨v2,t3,hr,L,O,a7⟩:=yN (B:=wq.heap.size) HV H pJ I.size bJ0;refine aM L λa2 n2 c2 a9 a6=>?_;obtain rfl:=a9;refine U6 λI G HV=>?_;clear L G;refine E _ _ I ?_;clear hr O;refine jD ?_;refine kK (k:=14) rfl bI9 rfl (λK E=>?_);refine UB λv3 t4 hr L O a4=>?_;refine aM L λa3 n3 c3 ar ba=>?_;obtain rfl:=ar;exact L9
   have bk:cap=k:=bJ5;subst bk;have dm:=λ(ad:Aq Addr)=>yD (show Ck.rd wq [.slice ad 0 0] (LL.drop cap) from by rw [List.drop_eq_nil_of_le bD5];exact kD.kZu bC7);refine TJ λFX wS I=>?_;refine jg (i:=0) (j:=9) rfl rfl bI9 rfl rfl (λK E=>?_) (λK E=>?_)
   · refine uI λbg t0 R I=>?_;clear E K R;refine jD ?_;refine jg (i:=4) (j:=9) rfl rfl bI9 rfl rfl (λK E=>?_) (λK E=>?_)
     · refine lM λbf t1 O bh a1 n1 c1 a5 hr HV I=>?_;clear E K hr O;refine jD ?_;refine y8 λK E=>?_;refine O7 λt2 H bd R HV=>?_;refine LG R λI=>?_;clear E K R;exact QK
     refine lI λbf t1 H R I=>?_;clear E K R;refine S9 λK E=>?_;have be:=I.size;refine QE λv1 t2 hr HV O bd=>?_;refine aM HV λa1 n1 c1 an a5=>?_;obtain rfl:=an;refine SH O λH I=>?_;clear E K hr O;refine jD ?_;refine N9 λK E v2 t3 hr L O a7=>?_;refine aM L λa2 n2 c2 a9 a6=>?_;obtain rfl:=a9;refine U7 λI HV=>?_;clear H L;clear E K hr O;refine jD ?_;refine kK (k:=14) rfl bI9 rfl (λK E=>?_);exact TY
   refine MV λbg t0 H R=>?_;refine bE R λI=>?_;clear E K R;refine ND λK E t1 R=>?_;refine aV H R λH I=>?_;clear E K R;refine MS λK E be=>?_;refine RZ λv1 t2 hr HV O bd=>?_;refine eU ?_;refine aH HV λa1 n1 c1 an a5=>?_;obtain rfl:=an;refine aV H O λH I=>?_;clear E K hr O;refine jD ?_;refine lT λK E=>?_;obtain ⟨v2,t3,hr,L,O,a7⟩:=yN (B:=wq.heap.size) HV H pJ I.size bJ0;refine eU ?_;refine aH L λa2 n2 c2 a9 a6=>?_;obtain rfl:=a9;refine U6 λI G HV=>?_;clear L G H;refine E _ _ I ?_;clear E K hr O;refine jD ?_;refine kK (k:=14) rfl bI9 rfl (λK E=>?_);obtain ⟨v3,t4,hr,L,O,a4⟩:=yN (B:=wq.heap.size) HV ((dm _).out.below I) vD I.size bJ0;refine eU ?_;refine aH L λa3 n3 c3 ar ba=>?_;exact L8
 obtain rfl:i=fs.length:=bJ5;have am:=F.out;rw [List.take_length] at am;have ae:=yD am;clear am;go_wp2;go_ret;exact ⟨_,rfl,ae.own mR,(tQ EB D)⟩
def kOg (n p:kU):Bool:=decide ((p.length:Int)<=n.length) && eqN (n.take p.length) p
def prefN_no {p:kU} (h:¬ p.length<=n.length):kOg n p=false:=by unfold kOg;rw [decide_eq_false bJ5];rfl
def jGe {p:kU} (h:p.length<=n.length):kOg n p=eqN (n.take p.length) p:=by unfold kOg;rw [decide_eq_true bJ5];rfl
def clip (k:Int):∃ m:Nat,max 0 (min k n.length)=(m:Int)/\m<=n.length/\n.take k.toNat=n.take m:=by
 refine ⟨(max 0 (min k n.length)).toNat,by omega,by omega,?_⟩;by_cases h:k.toNat<=n.length
 · congr 1;omega
 rw [Aj bJ5,Aj bJ5]
def mB (n:kU) (l:Ac jH):Nat->Int
  | 0=>-1
  | k + 1=>if kOg n (l.getD k ([],0,0)).1=true/\(mB n l k < 0\/(l.getD (mB n l k).toNat ([],0,0)).1.length < (l.getD k ([],0,0)).1.length) then k else mB n l k
def mB_no (hk:k < l.length) (h:kOg n l[k].1=false):mB n l (k + 1)=mB n l k:=by
 conv=>lhs;unfold mB
 rw [jY hk,Ar (by simp [h])]
def mB_new (hk:k < l.length) (h:kOg n l[k].1=true) (h2:mB n l k=-1):mB n l (k + 1)=k:=by
 conv=>lhs;unfold mB
 rw [jY hk,if_pos ⟨h,.inl bJ5⟩]
def mB_up (hk:k < l.length) (h:kOg n l[k].1=true) (J:j < l.length) (h2:mB n l k=j) (h3:l[j].1.length < l[k].1.length):mB n l (k + 1)=k:=by
 conv=>lhs;unfold mB
 rw [jY hk,h2,Ag,jY J,if_pos ⟨h,.inr h3⟩]
def mB_keep (hk:k < l.length) (J:j < l.length) (h2:mB n l k=j) (h3:¬ l[j].1.length < l[k].1.length):mB n l (k + 1)=j:=by
 conv=>lhs;unfold mB
 rw [jY hk,h2,Ag,jY J,Ar (λq=>by rcases q.2 with h | h;omega;exact h3 h)]
def mOk (n:kU) (l:Ac jH):Bool:=!decide (mB n l l.length < 0)
def kAd (n:kU) (l:Ac jH):kU:=if mB n l l.length < 0 then [] else (l.getD (mB n l l.length).toNat ([],0,0)).1
def m_no {l:List jH} (h:mB n l l.length=-1):mOk n l=false/\kAd n l=[]:=by simp [mOk,kAd,h]
def m_yes (J:j < l.length) (h:mB n l l.length=j):mOk n l=true/\kAd n l=l[j].1:=by
 unfold mOk kAd;rw [h,Ag,jY J,Ar bJ5,decide_eq_false bJ5];exact ⟨rfl,rfl⟩
def jBl {x:kU} {k:Int} (ha:kQ.rd w ca x):Al prog 174 #[.agg ca.toArray,.int .i64 k] w (kAm kQ (x.take k.toNat) w):=by
 have HA:=yD ha;obtain ⟨av,rfl,ac⟩:=kT ha.1;obtain ⟨aa,H,rfl,la⟩:=kD.sl ac;have ae:=kD.kBx ac;have hb:x.length<=16777216:=ha.2.1;obtain ⟨m,hm,f8,N⟩:=clip (n:=x) k;have ag:=yD N;clear ha ac N;go_enter func174,ntmps174;go_wp2_with fail;refine jFs.mono ?_;rintro e w1 ⟨rfl,rfl⟩;go_wp2_with fail;refine specMax_c.mono ?_;rintro e w1 ⟨rfl,rfl⟩;rw [hm];have L:=yD (kD.kTu (e:=9) (r:=kD.str) HA.out f8);have hl:(x.take m).length=m:=bJ0;generalize x.take m=y at *;subst hl;have b3:(y.length:Int)<=H:=bJ5;refine lQ λO0=>?_;go_wp2_with (at_builtin;refine kD.yH rfl _ _ 39 rfl (r:=kD.str) (e:=9) underlying39 kEe rfl bJ4 bJ4 kD.kDl (B:=w.heap.size + 1 + 1) O0 bJ7 bJ7 (L.below bK) tO bJ6 bJ0 ?_);intro v2 w2 hown D hz;obtain ⟨a2,c2,hv⟩:=hown.zK;obtain rfl:=hv;have hw:=hown.own (by simp [Big];omega);have F:Hid (kQ.own w2 [Qs a2 y c2] y (jW (w.heap.size + 1 + 1) w2)):=yD hw;have G:Qb w w2:=Below.trans bK (D.mono vG);clear hown O0 hw;refine oJ λR0 F0=>?_;clear D;refine Ae (v:=.agg #[Qs a2 y c2]) (by simp [results,results174,go_sem,R0,F0]) rfl ⟨[_],rfl,?_,?_⟩
 · rw [ag.out];exact (F.setCell gM).wide mG
 exact G.setCell bJ6 _
def kIn {cb:Ac Ad} {a b:kU} (ha:kQ.rd w ca a) (hb:kQ.rd w cb b) :
    Al prog 118 #[.agg ca.toArray,.agg cb.toArray] w (bQ w (.bool (kOg a b))):=by
 refine aN ha hb λHA HB=>?_;obtain ⟨av,rfl,ac⟩:=kT ha.1;obtain ⟨bv,rfl,a3⟩:=kT hb.1;clear ha hb;obtain ⟨aa,H,rfl,la,ab,R,rfl,lb⟩:=kD.sx ac (kD.sl a3);go_enter func118,ntmps118;go_wp2_with fail;refine fK λX U EB=>?_;refine JC λY K1=>?_;clear U;by_cases hc:b.length<=a.length
 · have hd:decide ((b.length:Int)<=a.length)=true:=bG0;have ak:(b.length:Int)<=a.length:=bJ5;have L:=yD (jGe hc);have FX:=yD (λ(W:Ab) (hW:Qb X W)=>kNa hW Y K1);refine jf (λW=>Qb X W) [(0,true),(1,true),(2,true),(3,true),(4,true),(5,true),(6,true),(7,true),(8,true),(9,true),(10,true),(11,true),(13,true),(12,false),(14,false),(15,true),(16,true)] bI9 bI9 sD (bR.drew) ?_;intro wS I;simp only [jE,Ah,Ai,List.map_cons,List.map_nil];all_goals ((iterate 7 refine kZ ?_);refine jo λb af=>?_;cases b <;> try simp only [jm] at af)
   all_goals ((iterate 5 refine kZ ?_);(first|(refine kI rfl I ?_)|(refine ku rfl (λK E=>?_);go_simp;refine (jBl (HA.below (tQ EB I))).mono ?_;rintro e wT ⟨tc,rfl,OT,ba⟩;replace I:=(tQ I ba);refine E _ _ I ?_;clear E K ba));refine jD ?_;(first | refine wkB (zb OT.raw (HB.1.below (tQ EB I))) (λwS1 I=>?_) | refine kZ ?_);refine kZ ?_;refine kZ ?_;refine kR ?_)
   have G:=(tQ EB I);go_wp2;exact iZ L G
 have hd:decide ((b.length:Int)<=a.length)=false:=bG0;have L:=yD (prefN_no hc);have FX:=yD (λ(W:Ab) (hW:Qb X W)=>kNa hW Y K1);refine jf (λW=>Qb X W) [(0,true),(1,true),(2,true),(3,true),(4,true),(5,true),(6,true),(7,true),(8,true),(9,true),(10,true),(11,true),(13,true),(12,false),(14,false),(15,true),(16,true)] bI9 bI9 sD (bR.drew) ?_;refine uN λwS I=>?_;all_goals ((iterate 7 refine kZ ?_);refine jo λb af=>?_;cases b <;> try simp only [jm] at af)
 all_goals ((iterate 5 refine kZ ?_);(iterate 2 (first|(refine kI rfl I ?_)|(fail));refine jD ?_);refine kZ ?_;refine kZ ?_;refine kR ?_)
 have G:=(tQ EB I);exact iF L G
def kIr {cb:Ac Ad} {a b:kU} (ha:kQ.rd w ca a) (hb:kQ.rd w cb b) :
    Al prog 99 #[.agg ca.toArray,.agg cb.toArray] w (bQ w (.bool (kOg a b))):=by
 refine aN ha hb λHA HB=>?_;obtain ⟨av,rfl,ac⟩:=kT ha.1;obtain ⟨bv,rfl,a3⟩:=kT hb.1;clear ha hb;obtain ⟨aa,H,rfl,la,ab,R,rfl,lb⟩:=kD.sx ac (kD.sl a3);have ae:=kD.kBx ac;go_enter func99,ntmps99;go_wp2_with fail;refine fK λX U EB=>?_;refine JC λY K1=>?_;clear U;by_cases hc:b.length<=a.length
 · have hd:decide ((b.length:Int)<=a.length)=true:=bG0;have ak:(b.length:Int)<=a.length:=bJ5;have be:(b.length:Int)<=H:=bJ5;have L:=yD (jGe hc);have FX:=yD (λ(W:Ab) (hW:Qb X W)=>kNa hW Y K1);refine kN (λW=>Qb X W) [Tt,Tt,Tt,Tt,Tt,Tt,Tt,Tt,Tt,Tt,Tt,Tt,Tt,Tt,Tt,Tt,Ff,Tt,Tt] bI9 bI9 sD (bR.drew) ?_;intro wS I;all_goals ((iterate 7 refine kZ ?_);refine jo λb af=>?_;cases b <;> try simp only [jm] at af)
   all_goals ((iterate 8 refine kZ ?_);(first | refine wkB (kQc (kD.kDw (e:=9) (r:=kD.str) (HA.1.below (tQ EB I)) hc) (HB.1.below (tQ EB I))) (λwS1 I=>?_) | refine kZ ?_);refine kZ ?_;refine kZ ?_;refine kR ?_)
   have G:=(tQ EB I);go_wp2;exact iZ L G
 have hd:decide ((b.length:Int)<=a.length)=false:=bG0;have L:=yD (prefN_no hc);have FX:=yD (λ(W:Ab) (hW:Qb X W)=>kNa hW Y K1);refine kN (λW=>Qb X W) [Tt,Tt,Tt,Tt,Tt,Tt,Tt,Tt,Tt,Tt,Tt,Tt,Tt,Tt,Tt,Tt,Ff,Tt,Tt] bI9 bI9 sD (bR.drew) ?_;intro wS I;all_goals ((iterate 7 refine kZ ?_);refine jo λb af=>?_;cases b <;> try simp only [jm] at af)
 all_goals ((iterate 8 refine kZ ?_);(first|(refine kI rfl I ?_)|(fail));refine jD ?_;refine kZ ?_;refine kZ ?_;refine kR ?_)
 have G:=(tQ EB I);exact iF L G
def kBi (hl:Ch.rd w [vl] l) (hn:kQ.rd w cn n) :
    Al prog 53 #[vl,.agg cn.toArray] w λe w'=>∃ cs,e=.returned (.tuple #[.agg cs.toArray,.bool (mOk n l)])/\kQ.own w' cs (kAd n l) (jW w w')/\Qb w w':=by
 refine aN hn hl λHN HL=>?_;obtain ⟨av,rfl,ab⟩:=kT hn.1;obtain ⟨an,am,rfl,ln,aa,H,rfl,la⟩:=kD.sx ab (kD.sl hl.1);clear hn hl ab;go_enter func53,ntmps53;go_wp2;refine fK λX U EB=>?_;refine DZ λbn=>?_;refine JL λY K1 F1=>?_;clear U;go_loopw [6,7] (λb i wr=>∃ (k:Nat) (m:Int),k<=l.length/\i=.int .i64 k/\b=.int .i64 m/\Hid (mB n l k=m)/\Hid (m=-1\/∃ j:Nat,j < k/\m=j)/\Qb X wr) (λ_ i _=>l.length - (intOf i).toNat);case atStart=>exact ⟨0,-1,Nat.zero_le _,rfl,rfl,yD rfl,yD (.inl rfl),bR⟩
 obtain ⟨k,m,hk,rfl,rfl,HM,HR,D⟩:=hrel;have N:=kD.rd.below HL.out (tQ EB D);by_cases hlt:k < l.length
 · have dt:=Aa k;have em:=Ak.2 hlt;obtain ⟨xb,xo,rfl,dd,cg,cl,xr,ap,aq,ao⟩:=kD.zx N.1 hlt rfl;obtain ⟨rfl,rfl,al,ae,bz,b1⟩:=yS xr;obtain ⟨xa,xp,rfl,xl⟩:=kD.sl ae;have px:kQ.rd wr _ l[k].1:=⟨al,(kD.zL HL.out hlt).1⟩;clear xr bz b1 ae al;rcases HR.out with rfl|⟨j,hjk,rfl⟩
   · have hno:=λq=>(mB_no (n:=n) hlt q).trans HM.out;have ag:=λq=>mB_new (n:=n) hlt q HM.out;clear N;generalize l[k]=x at *;have ax:=yD hno;have aj:=yD ag;clear hno ag;replace Y:=cL D Y;go_upto_region 5 with fail;refine xS Y ap aq ao λFX=>?_;refine xE λwS I=>?_;all_goals ((first | refine wkB (kIn (HN.below ((tQ EB (tQ D I)))) (px.below I)) (λwS1 I=>?_) | refine kZ ?_);refine jo λb af=>?_;cases b <;> try simp only [jm] at af)
     all_goals (refine kZ ?_;refine kZ ?_;refine jo λb ac=>?_;cases b <;> try simp only [jm] at ac)
     all_goals ((iterate 16 refine kZ ?_);refine jo λb c6=>?_;cases b <;> try simp only [jm] at c6)
     all_goals (refine kR ?_;have G:=(tQ D I))
     all_goals first|(have L:=yD (ax.out af);refine Qg ?_;exact ⟨k + 1,-1,by omega,by go_num,rfl,L,yD (.inl rfl),G⟩)|(have L:=yD (aj.out af);refine Qg ?_;exact ⟨k + 1,(k:Int),by omega,by go_num,rfl,L,yD (.inr ⟨k,by omega,rfl⟩),G⟩)
   refine xQ λJ dh a7 bc a1 ya yp yl E hno ak O=>?_;clear N;generalize l[k]=x at *;generalize l[j]=y at *;refine aN hno ak λax ar=>?_;have ai:=yD O;clear hno ak O;by_cases h3:y.1.length < x.1.length
   · have hd:decide ((y.1.length:Int) < x.1.length)=true:=bH3;replace Y:=cL D Y;go_upto_region 5 with fail;have FX:=yD (λ(W:Ab) (hW:Qb wr W)=>kRf hW Y ap aq ao E);refine xE λwS I=>?_;all_goals ((first | refine wkB (kIn (HN.below ((tQ EB (tQ D I)))) (px.below I)) (λwS1 I=>?_) | refine kZ ?_);refine jo λb af=>?_;cases b <;> try simp only [jm] at af)
     all_goals (refine kZ ?_;refine kZ ?_;refine jo λb ac=>?_;cases b <;> try simp only [jm] at ac)
     all_goals ((iterate 16 refine kZ ?_);refine jo λb c6=>?_;cases b <;> try simp only [jm] at c6)
     all_goals (refine kR ?_;have G:=(tQ D I))
     all_goals first|(have L:=yD (ax.out af);refine Qg ?_;exact ⟨k + 1,(j:Int),by omega,by go_num,rfl,L,yD (.inr ⟨j,by omega,rfl⟩),G⟩)|(have L:=yD ((λq=>ar.out q h3) af);refine Qg ?_;exact ⟨k + 1,(k:Int),by omega,by go_num,rfl,L,yD (.inr ⟨k,by omega,rfl⟩),G⟩)
   have hd:decide ((y.1.length:Int) < x.1.length)=false:=bH3;replace Y:=cL D Y;go_upto_region 5 with fail;have FX:=yD (λ(W:Ab) (hW:Qb wr W)=>kRf hW Y ap aq ao E);refine PZ ?_;refine uC λwS I=>?_;all_goals ((first | refine wkB (kIn (HN.below ((tQ EB (tQ D I)))) (px.below I)) (λwS1 I=>?_) | refine kZ ?_);refine jo λb af=>?_;cases b <;> try simp only [jm] at af)
   all_goals (refine kZ ?_;refine kZ ?_;refine jo λb ac=>?_;cases b <;> try simp only [jm] at ac)
   all_goals ((iterate 16 refine kZ ?_);refine jo λb c6=>?_;cases b <;> try simp only [jm] at c6)
   all_goals (refine kR ?_;have G:=(tQ D I))
   all_goals first|(have L:=yD (ax.out af);refine Qg ?_;exact ⟨k + 1,(j:Int),by omega,by go_num,rfl,L,yD (.inr ⟨j,by omega,rfl⟩),G⟩)|(have L:=yD ((λ(_:kOg n x.1=true)=>ai.out h3) af);refine Qg ?_;exact ⟨k + 1,(j:Int),by omega,by go_num,rfl,L,yD (.inr ⟨j,by omega,rfl⟩),G⟩)
 obtain rfl:k=l.length:=bJ5;refine JM λG R0 F0=>?_;rcases HR.out with rfl|⟨j,J,rfl⟩
 · have L:=yD (m_no HM.out);clear N;go_wp2;refine Ae (v:=.tuple #[.agg #[.slice none 0 0],.bool false]) qU rfl ⟨[.slice none 0 0],by rw [L.1],?_,?_⟩;rw [L.2];exact kD.jr;exact G.setCell bJ6 _
 have dh:=Aa j;have a7:=Ak.2 J;have L:=yD (m_yes J HM.out);obtain ⟨yb,yo,rfl,bm,br,bo,yr,E,bc,a1⟩:=kD.zx N.1 J rfl;obtain ⟨rfl,rfl,bp,bj,bv,b0⟩:=yS yr;obtain ⟨ya,yp,rfl,yl⟩:=kD.sl bj;have py:kQ.rd wr _ l[j].1:=⟨bp,(kD.zL HL.out J).1⟩;clear yr bv b0 bj bp N;generalize l[j]=y at *;go_wp2_with fail;refine (zo (py.below bK)).mono ?_;refine eD λw2 cs O2 V=>?_;obtain ⟨cv,rfl,fe⟩:=kT O2.raw;obtain ⟨a2,c2,hv,_⟩:=kD.kBw fe;obtain rfl:cv=_:=by simpa using hv
 have F:Hid (kQ.own w2 [Qs a2 y.1 c2] y.1 (jW (w.heap.size + 1 + 1) w2)):=yD (O2.wide qD);have EF:Qb w w2:=G.trans (Below.mono (Below.trans bK V) G.size);replace R0:=cL V R0;replace F0:w2.frozen? ⟨w.heap.size + 1,0,none⟩=false:=(V.frozen (p:=⟨w.heap.size + 1,0,none⟩) (by have:=D.size;simp;omega)).trans F0;go_wp2;clear G V fe O2 hv;refine Ae (v:=.tuple #[.agg #[Qs a2 y.1 c2],.bool true]) qU rfl ⟨[Qs a2 y.1 c2],by rw [L.1],?_,?_⟩
 · rw [L.2];exact (F.setCell gM).wide mG
 exact EF.setCell bJ6 _
def kBl (hl:Ch.rd w [vl] l) (hn:kQ.rd w cn n) :
    Al prog 39 #[vl,.agg cn.toArray] w λe w'=>∃ cs,e=.returned (.tuple #[.agg cs.toArray,.bool (mOk n l)])/\kQ.own w' cs (kAd n l) (jW w w')/\Qb w w':=by
 refine aN hn hl λHN HL=>?_;obtain ⟨av,rfl,ab⟩:=kT hn.1;obtain ⟨an,am,rfl,ln,aa,H,rfl,la⟩:=kD.sx ab (kD.sl hl.1);clear hn hl ab;go_enter func39,ntmps39;go_wp2;refine fK λX U EB=>?_;refine DZ λbn=>?_;refine JL λY K1 F1=>?_;clear U;go_loopw [6,11] (λb i wr=>∃ (k:Nat) (m:Int),k<=l.length/\i=.int .i64 k/\b=.int .i64 m/\Hid (mB n l k=m)/\Hid (m=-1\/∃ j:Nat,j < k/\m=j)/\Qb X wr) (λ_ i _=>l.length - (intOf i).toNat);case atStart=>exact ⟨0,-1,Nat.zero_le _,rfl,rfl,yD rfl,yD (.inl rfl),bR⟩
 obtain ⟨k,m,hk,rfl,rfl,HM,HR,D⟩:=hrel;have N:=kD.rd.below HL.out (tQ EB D);by_cases hlt:k < l.length
 · have dt:=Aa k;have em:=Ak.2 hlt;obtain ⟨xb,xo,rfl,dd,cg,cl,xr,ap,aq,ao⟩:=kD.zx N.1 hlt rfl;obtain ⟨rfl,rfl,al,ae,bz,b1⟩:=yS xr;obtain ⟨xa,xp,rfl,xl⟩:=kD.sl ae;have px:kQ.rd wr _ l[k].1:=⟨al,(kD.zL HL.out hlt).1⟩;clear xr bz b1 ae al;rcases HR.out with rfl|⟨j,hjk,rfl⟩
   · have hno:=λq=>(mB_no (n:=n) hlt q).trans HM.out;have ag:=λq=>mB_new (n:=n) hlt q HM.out;clear N;generalize l[k]=x at *;have ax:=yD hno;have aj:=yD ag;clear hno ag;replace Y:=cL D Y;go_upto_region 5 with fail;generalize R:World.alloc wr _=wC;obtain ⟨EC,M0,M1,M2,Y⟩:=W9
     (try replace E:=cL EC E);(try replace bc:=cL EC bc);(try replace a1:=cL EC a1);clear R
     have FX:=yD (λ(W:Ab) (hW:Qb wC W)=>kIm hW Y M0 M1 M2);refine xX λwS I=>?_;all_goals ((first | refine wkB (kIr (HN.below ((tQ EB ((tQ D (tQ EC I)))))) (px.below (tQ EC I))) (λwS1 I=>?_) | refine kZ ?_);refine jo λb Z=>?_;cases b <;> try simp only [jm] at Z)
     all_goals (refine kZ ?_;refine kZ ?_;refine jo λb af=>?_;cases b <;> try simp only [jm] at af)
     all_goals ((iterate 13 refine kZ ?_);refine jo λb ah=>?_;cases b <;> try simp only [jm] at ah)
     all_goals (refine kR ?_;have G:=(tQ D (tQ EC I)))
     all_goals first|(have L:=yD (ax.out Z);refine Qg ?_;exact ⟨k + 1,-1,by omega,by go_num,rfl,L,yD (.inl rfl),G⟩)|(have L:=yD (aj.out Z);refine Qg ?_;exact ⟨k + 1,(k:Int),by omega,by go_num,rfl,L,yD (.inr ⟨k,by omega,rfl⟩),G⟩)
   refine xQ λJ dh a7 bc a1 ya yp yl E hno ak O=>?_;clear N;generalize l[k]=x at *;generalize l[j]=y at *;refine aN hno ak λax ar=>?_;have ai:=yD O;clear hno ak O;by_cases h3:y.1.length < x.1.length
   · have hd:decide ((y.1.length:Int) < x.1.length)=true:=bH3;replace Y:=cL D Y;go_upto_region 5 with fail;generalize R:World.alloc wr _=wC;obtain ⟨EC,M0,M1,M2,Y⟩:=W9
     (try replace E:=cL EC E);(try replace bc:=cL EC bc);(try replace a1:=cL EC a1);clear R
     have FX:=yD (λ(W:Ab) (hW:Qb wC W)=>kRf hW Y M0 M1 M2 E);refine xX λwS I=>?_;all_goals ((first | refine wkB (kIr (HN.below ((tQ EB ((tQ D (tQ EC I)))))) (px.below (tQ EC I))) (λwS1 I=>?_) | refine kZ ?_);refine jo λb Z=>?_;cases b <;> try simp only [jm] at Z)
     all_goals (refine kZ ?_;refine kZ ?_;refine jo λb af=>?_;cases b <;> try simp only [jm] at af)
     all_goals ((iterate 13 refine kZ ?_);refine jo λb ah=>?_;cases b <;> try simp only [jm] at ah)
     all_goals (refine kR ?_;have G:=(tQ D (tQ EC I)))
     all_goals first|(have L:=yD (ax.out Z);refine Qg ?_;exact ⟨k + 1,(j:Int),by omega,by go_num,rfl,L,yD (.inr ⟨j,by omega,rfl⟩),G⟩)|(have L:=yD ((λq=>ar.out q h3) Z);refine Qg ?_;exact ⟨k + 1,(k:Int),by omega,by go_num,rfl,L,yD (.inr ⟨k,by omega,rfl⟩),G⟩)
   have hd:decide ((y.1.length:Int) < x.1.length)=false:=bH3;replace Y:=cL D Y;go_upto_region 5 with fail;generalize R:World.alloc wr _=wC;obtain ⟨EC,M0,M1,M2,Y⟩:=W9
   (try replace E:=cL EC E);(try replace bc:=cL EC bc);(try replace a1:=cL EC a1);clear R
   have FX:=yD (λ(W:Ab) (hW:Qb wC W)=>kRf hW Y M0 M1 M2 E);refine QF ?_;refine uB λwS I=>?_;all_goals ((first | refine wkB (kIr (HN.below ((tQ EB ((tQ D (tQ EC I)))))) (px.below (tQ EC I))) (λwS1 I=>?_) | refine kZ ?_);refine jo λb Z=>?_;cases b <;> try simp only [jm] at Z)
   all_goals (refine kZ ?_;refine kZ ?_;refine jo λb af=>?_;cases b <;> try simp only [jm] at af)
   all_goals ((iterate 13 refine kZ ?_);refine jo λb ah=>?_;cases b <;> try simp only [jm] at ah)
   all_goals (refine kR ?_;have G:=(tQ D (tQ EC I)))
   all_goals first|(have L:=yD (ax.out Z);refine Qg ?_;exact ⟨k + 1,(j:Int),by omega,by go_num,rfl,L,yD (.inr ⟨j,by omega,rfl⟩),G⟩)|(have L:=yD ((λ(_:kOg n x.1=true)=>ai.out h3) Z);refine Qg ?_;exact ⟨k + 1,(j:Int),by omega,by go_num,rfl,L,yD (.inr ⟨j,by omega,rfl⟩),G⟩)
 obtain rfl:k=l.length:=bJ5;refine JM λG R0 F0=>?_;rcases HR.out with rfl|⟨j,J,rfl⟩
 · have L:=yD (m_no HM.out);clear N;go_wp2;refine Ae (v:=.tuple #[.agg #[.slice none 0 0],.bool false]) qV rfl ⟨[.slice none 0 0],by rw [L.1],?_,?_⟩;rw [L.2];exact kD.jr;exact G.setCell bJ6 _
 have dh:=Aa j;have a7:=Ak.2 J;have L:=yD (m_yes J HM.out);obtain ⟨yb,yo,rfl,bm,br,bo,yr,E,bc,a1⟩:=kD.zx N.1 J rfl;obtain ⟨rfl,rfl,bp,bj,bv,b0⟩:=yS yr;obtain ⟨ya,yp,rfl,yl⟩:=kD.sl bj;have py:kQ.rd wr _ l[j].1:=⟨bp,(kD.zL HL.out J).1⟩;clear yr bv b0 bj bp N;generalize l[j]=y at *;go_wp2_with fail;refine (zl (py.below bK)).mono ?_;refine eD λw2 cs O2 V=>?_;obtain ⟨cv,rfl,fe⟩:=kT O2.raw;obtain ⟨a2,c2,hv,_⟩:=kD.kBw fe;obtain rfl:cv=_:=by simpa using hv
 have F:Hid (kQ.own w2 [Qs a2 y.1 c2] y.1 (jW (w.heap.size + 1 + 1) w2)):=yD (O2.wide qD);have EF:Qb w w2:=G.trans (Below.mono (Below.trans bK V) G.size);replace R0:=cL V R0;replace F0:w2.frozen? ⟨w.heap.size + 1,0,none⟩=false:=(V.frozen (p:=⟨w.heap.size + 1,0,none⟩) (by have:=D.size;simp;omega)).trans F0;go_wp2;clear G V fe O2 hv;refine Ae (v:=.tuple #[.agg #[Qs a2 y.1 c2],.bool true]) qV rfl ⟨[Qs a2 y.1 c2],by rw [L.1],?_,?_⟩
 · rw [L.2];exact (F.setCell gM).wide mG
 exact EF.setCell bJ6 _
end Go.Proofs.YthocbplmdjkifabGreat
