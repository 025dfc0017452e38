/-
  Names as the reference draws them.
-/
import Derived.Test.YtjhfdpopkkmigaaGreatName
set_option linter.unusedVariables false
set_option linter.defProp false
set_option linter.unusedSimpArgs false
set_option linter.unnecessarySimpa false
set_option maxRecDepth 100000
set_option maxHeartbeats 4000000
open Bool renaming true->Tt,false->Ff
open _root_ renaming ByteArray->Aa,List->Ah
open Go.Builtin renaming zeroCells->Ab,clear_->Be,append_->Br
open ByteArray renaming empty->Ac
open Array renaming getElem?_eq_some_iff->Ad
open Go renaming World->Ae,Value->Ai,TypeId->Bb,Calls->Bf,Program->Bl,maxLen->Bo
open List renaming take_succ_eq_append_getElem->Ag,mem_of_mem_drop->Aj,getElem?_append_right->Aq,mem_append->Bc,getElem?_toArray->Bd,filter_append->Bg,mem_singleton->Bh,append_assoc->Bn
open Bool renaming not_not->Ak,not_false->Al,and_false->Am,false_and->Ap,not_true->Ar,and_true->Au,true_and->Av,or_false->Aw,false_or->Ay,or_true->Az,true_or->Ba
open Int renaming natCast_nonneg->Bi
open Go.RowKit renaming intOf->Bj
open Go.RowKit.Below renaming trans->Bq
namespace Go.Proofs.YtjhfdpopkkmigaaGreat
open Go.RowKit _root_.Go.Proofs.Tryz
def kNm (c:Int):Bool:=!((!inR c 97 122 && !inR c 48 57) && (c != 45))
def okBi (c:Int):Bool:=((decide (c ≥ 97) && decide (c<=122)) || (decide (c ≥ 48) && decide (c<=57))) || (c==45)
def kCg (s:Aa) (j:Nat):Int:=(s.data.toList.getD j 0).toNat
def kCh (s:Aa):Bool:=ym (λj=>kNm (kCg s j)) s.size && inR s.size 1 8
def okBi_eq (c:Int):okBi c=kNm c:=by
 unfold okBi kNm inR;rw [Bool.eq_iff_iff];simp;try omega
def vPart_out {s:ByteArray} (h:inR s.size 1 8=false):kCh s=false:=by simp [kCh,h]
def kXt {s:Aa} {k:Nat} (h:k < s.size) (q:kNm (kCg s k)=false):kCh s=false:=by
 unfold kCh;rw [kCu h q];rfl
def kUi {s:Aa} {k:Nat} (q:ym (λj=>kNm (kCg s j)) k=true) (h:¬ k < s.size) (hk:k<=s.size):kCh s=inR s.size 1 8:=by
 obtain rfl:k=s.size:=bD1;unfold kCh;rw [q];rfl
def kJg {s:Aa} {k:Nat} (h:k < s.size):kCg s k=(s[k].toNat:Int):=by
 unfold kCg;rw [jZ bB5];rfl
def kNw (s:Aa) (k:Nat):0<=kCg s k/\kCg s k < 256:=by
 unfold kCg;have:=(s.data.toList.getD k 0).toNat_lt;omega
def kJn {w:Ae} {s:Aa} (hs:s.size<=Bo):Bf prog 190 #[.string s] w λe w'=>e=.returned (.bool (kCh s))/\w'=w:=by
 unfold Bo at hs;go_enter func190,ntmps190;go_wp2_with fail;refine jw.mono ?_;rintro e w1 ⟨rfl,hw⟩;obtain rfl:=hw.symm;cases X:inR s.size 1 8
 · have U:=yD (vPart_out X);exact lX
 have HI:=yD X;go_wp2;go_loop [3] (λi=>∃ k:Nat,k<=s.size/\i=.int .i64 k/\Hid (ym (λj=>kNm (kCg s j)) k=true)) (λi=>s.size - (Bj i).toNat);case atStart=>exact ⟨0,Nat.zero_le _,rfl,yD rfl⟩
 obtain ⟨k,hk,rfl,HN⟩:=hrel;by_cases hlt:k < s.size
 · have hr:=kNw s k;have hg:=kJg hlt;have HB:=yD (λq=>kXt hlt q);have HX:=yD (λq=>kAs (f:=λj=>kNm (kCg s j)) HN.out q);go_upto_region 7 with fail;generalize (s[k].toNat:Int)=c at *;have HC:=yD hg;clear hg;refine ky (λW=>Hid (W=w)) [Tt,Ff,Tt,Tt,Tt,Ff,Tt,Tt,Tt,Tt,Tt,Tt] (yD rfl) ?_;intro wS E;all_goals refine kX ?_
   all_goals first | refine wkC (jw) ?_ | refine kX ?_
   all_goals refine kX ?_
   all_goals (refine jd λb a1=>?_;cases b <;> try simp only [jc] at a1)
   all_goals refine kX ?_
   all_goals first | refine wkC (jw) ?_ | refine kX ?_
   all_goals refine kX ?_
   all_goals refine kX ?_
   all_goals (refine jd λb av=>?_;cases b <;> try simp only [jc] at av)
   all_goals refine kX ?_
   all_goals refine kX ?_
   all_goals (refine jd λb au=>?_;cases b <;> try simp only [jc] at au)
   all_goals refine kR ?_
   all_goals obtain rfl:=E.out.symm
   all_goals first
     | (have Y:=(congrArg kNm HC.out).trans (show _=false by simp only [kNm,Ar,Al,Au,Av,Am,Ap,Az,Ba,Aw,Ay,Ak,a1,av,au]);have U:=yD (HB.out Y);clear Y HB HX HC;go_wp2;go_ret;exact ⟨kK U.out.symm,rfl⟩)
     | (have Y:=(congrArg kNm HC.out).trans (show _=true by simp only [kNm,Ar,Al,Au,Av,Am,Ap,Az,Ba,Aw,Ay,Ak,a1,av,au]);have U:=yD (HX.out Y);clear Y HB HX HC;go_wp2;go_round;(case rel=>exact ⟨k + 1,by omega,by go_num,U⟩);(case measure=>simp [Bj];omega))
 have U:=yD (kUi HN.out hlt hk);have HU:=yD (U.out.trans HI.out);go_wp2;go_ret;exact ⟨kK HU.out.symm,rfl⟩
def kTc {w:Ae} {s:Aa} (hs:s.size<=Bo):Bf prog 183 #[.string s] w λe w'=>e=.returned (.bool (kCh s))/\w'=w:=by
 unfold Bo at hs;go_enter func183,ntmps183;go_wp2;go_loop [7] (λi=>∃ k:Nat,k<=s.size/\i=.int .i64 k/\Hid (ym (λj=>kNm (kCg s j)) k=true)) (λi=>s.size - (Bj i).toNat);case atStart=>exact ⟨0,Nat.zero_le _,rfl,yD rfl⟩
 obtain ⟨k,hk,rfl,HN⟩:=hrel;by_cases hlt:k < s.size
 · have hr:=kNw s k;have hg:=kJg hlt;have HB:=yD (λq=>kXt hlt q);have HX:=yD (λq=>kAs (f:=λj=>kNm (kCg s j)) HN.out q);go_upto_region 5 with fail;generalize (s[k].toNat:Int)=c at *;have HC:=yD hg;clear hg;refine ky (λW=>Hid (W=w)) [Tt,Tt,Tt,Tt,Tt,Tt,Tt,Tt,Tt,Tt,Tt,Tt,Tt,Tt,Tt,Tt,Tt,Tt,Tt] (yD rfl) ?_;intro wS E;all_goals refine kX ?_
   all_goals refine kX ?_
   all_goals (refine jd λb au=>?_;cases b <;> try simp only [jc] at au)
   iterate 3
    all_goals refine kX ?_
   all_goals (refine jd λb c1=>?_;cases b <;> try simp only [jc] at c1)
   all_goals refine kX ?_
   all_goals refine kX ?_
   all_goals (refine jd λb c4=>?_;cases b <;> try simp only [jc] at c4)
   iterate 4
    all_goals refine kX ?_
   all_goals (refine jd λb H=>?_;cases b <;> try simp only [jc] at H)
   iterate 3
    all_goals refine kX ?_
   all_goals (refine jd λb D=>?_;cases b <;> try simp only [jc] at D)
   all_goals refine kR ?_
   all_goals obtain rfl:=E.out.symm
   all_goals first
     | (have Y:=(congrArg kNm HC.out).trans ((okBi_eq _).symm.trans (show _=false by simp only [okBi,Ar,Al,Au,Av,Am,Ap,Az,Ba,Aw,Ay,Ak,ge_iff_le,au,c1,c4,H,D]));have U:=yD (HB.out Y);clear Y HB HX HC;go_wp2;go_ret;exact ⟨kK U.out.symm,rfl⟩)
     | (have Y:=(congrArg kNm HC.out).trans ((okBi_eq _).symm.trans (show _=true by simp only [okBi,Ar,Al,Au,Av,Am,Ap,Az,Ba,Aw,Ay,Ak,ge_iff_le,au,c1,c4,H,D]));have U:=yD (HX.out Y);clear Y HB HX HC;go_wp2;go_round;(case rel=>exact ⟨k + 1,by omega,by go_num,U⟩);(case measure=>simp [Bj];omega))
 have U:=yD (kUi HN.out hlt hk);go_wp2_with fail;refine yF.mono ?_;rintro e w1 ⟨rfl,hw⟩;obtain rfl:=hw.symm;exact lX
def zf (n:kr):Bool:=ym (λj=>kCh (n.getD j Ac)) n.length && decide (n.length<=6)
def kXv {n:kr} {k:Nat} (h:k < n.length) (q:kCh n[k]=false):zf n=false:=by
 unfold zf;rw [kCu h qK];rfl
def vName_next {n:kr} {k:Nat} (h:k < n.length) (q:kCh n[k]=true) (a:ym (λj=>kCh (n.getD j Ac)) k=true):ym (λj=>kCh (n.getD j Ac)) (k + 1)=true :=
  kAs a qK
def vName_good {n:kr} {k:Nat} (q:ym (λj=>kCh (n.getD j Ac)) k=true) (h:¬ k < n.length) (hk:k<=n.length):zf n=decide (n.length<=6):=by
 obtain rfl:k=n.length:=bD1;unfold zf;rw [q];rfl
def idx_all {α:Type} (p:α->Bool) (x:Ah α) (d:α):(!decide (0<=idxOf p x))=ym (λj=>!p (x.getD j d)) x.length:=by
 unfold idxOf;cases h:x.findIdx? p with
 | none =>
   have hn:=List.findIdx?_eq_none_iff.1 h;have:ym (λj=>!p (x.getD j d)) x.length=true:=by
     have key:∀ n,n<=x.length->ym (λj=>!p (x.getD j d)) n=true:=by
       intro n;induction n with
       | zero=>intro _;rfl
       | succ n ih =>
         intro o;refine kAs (ih bD1) ?_
         (try simp only)
         rw [jZ bD1,hn _ (List.getElem_mem _)];rfl
     exact key _ nL
   rw [this];simp
 | some i =>
   obtain ⟨hi,hp,_⟩:=List.findIdx?_eq_some_iff_getElem.1 h;rw [kCu hi (by (try simp only);rw [jZ hi,hp];rfl)];simp
def vName_idx (n:kr):zf n=(decide (n.length<=6) && !decide (0<=idxOf (λp=>!kCh p) n)):=by
 unfold zf;rw [idx_all _ n Ac];simp only [Ak];exact Bool.and_comm _ _
def yZ {w:Ae} {cn:Ah Ai} {n:kr} (hn:kW.raw w cn n):Bf prog 150 #[.agg cn.toArray] w (bQ w (.bool (zf n))):=by
 obtain ⟨av,rfl,G⟩:=ko hn;obtain ⟨aa,am,rfl,la⟩:=kD.sl G;clear hn;go_enter func150,ntmps150;go_wp2;generalize J:World.alloc w _=N;have R:Qb w N:=by rw [<- J];exact bG
 have K0:Qd N w 0 (.slice aa n.length am):=tT;clear J;replace G:=G.below R;go_loopw [3] (λi wr=>∃ k:Nat,k<=n.length/\i=.int .i64 k/\Hid (ym (λj=>kCh (n.getD j Ac)) k=true)/\Qb N wr) (λi _=>n.length - (Bj i).toNat);case atStart=>exact ⟨0,Nat.zero_le _,rfl,yD rfl,bR⟩
 obtain ⟨k,hk,rfl,HN,o⟩:=hrel;replace K0:=cL o K0;have D:=(tQ R o);by_cases hlt:k < n.length
 · obtain ⟨ba,H,rfl,c0,hr,A0⟩:=kD.kCa (G.below o) hlt rfl;obtain ⟨he,az⟩:=kD.zi hr;obtain rfl:c0=_:=by simpa using he
   clear he hr;have hb:=λq=>kXv hlt q;have hx:=λq=>vName_next hlt q HN.out;generalize n[k]=s at *;have HB:=yD hb;have HX:=yD hx;have ec:=yD az;clear hb hx az;go_wp2_with fail;refine (kJn ec.out).mono ?_;rintro e w1 ⟨rfl,hw⟩;obtain rfl:=hw.symm;cases hv:kCh s
   · have U:=yD (HB.out hv);go_wp2;go_ret;exact ⟨kK U.out.symm,D⟩
   have U:=yD (HX.out hv);go_wp2;go_roundw;case rel=>exact ⟨k + 1,by omega,by go_num,U,o⟩
   simp [Bj];omega
 have U:=yD (vName_good HN.out hlt hk);go_wp2;go_ret;exact ⟨kK (by rw [U.out];simp;try omega),D⟩
def kQl {w:Ae} {s:Aa} (hs:s.size<=Bo):Bf prog 182 (#[.string s]++#[]) w (bQ w (.bool (!kCh s))):=by
 show Bf prog 182 #[_] w _;go_enter func182,ntmps182;go_wp2_with fail;refine (kTc hs).mono ?_;rintro e w1 ⟨rfl,hw⟩;obtain rfl:=hw.symm;go_wp2;go_ret;exact ⟨rfl,bR⟩
def kGw:jH prog 182:=yR func182 bC5 bC5
def kBz {w:Ae} {cn:Ah Ai} {n:kr} (hn:kW.raw w cn n):Bf prog 144 #[.agg cn.toArray] w (bQ w (.bool (zf n))):=by
 obtain ⟨av,rfl,G⟩:=ko hn;obtain ⟨aa,am,rfl,la⟩:=kD.sl G;clear hn;have Y:=yD (vName_idx n);go_enter func144,ntmps144;by_cases hl:n.length<=6
 · have hd:decide ((n.length:Int)<=6)=true:=bC6;have ad:decide (n.length<=6)=true:=wY;go_wp2_with fail;refine (kKe (λp=>!kCh p) kGw (G.below bG) ?_).mono ?_
   · intro wr hb i h c hr;obtain ⟨he,az⟩:=kD.zi hr;obtain rfl:c=_:=by simpa using he
     exact kQl az
   rintro e w1 ⟨rfl,O⟩;have EF:Qb w w1:=Bq bG (O.mono bD2);clear O;go_wp2;go_ret;exact ⟨kK (by rw [Y.out,ad];simp),EF⟩
 have hd:decide ((n.length:Int)<=6)=false:=bC6;have ad:decide (n.length<=6)=false:=wY;go_wp2;go_ret;exact ⟨kK (by rw [Y.out,ad];rfl),bG⟩
namespace kD
def kCy {α:Type} (r:kD α):Prop:=∀ {o:Bool} {w w':Ae} {cs:Ah Ai} {x:α} {S:Nat->Prop},r.is o w cs x S->r.is true w' cs x (λ_=>False)
def yg:int.kCy:=λh=>h
def kFg:byte.kCy:=λh=>h
def kDj:str.kCy:=λh=>h
def kRv {α β:Type} {r:kD α} {s:kD β} (h:r.kCy) (k:s.kCy):(pair r s).kCy:=by
 intro o w w' cs x S q;obtain ⟨c,d,A,B,rfl,h1,h2,_⟩:=q;exact ⟨c,d,_,_,rfl,h h1,k h2,λ_ h=>h,λ_ h=>h,λ_ _ h _=>h⟩
section
variable {α:Type} {r:kD α} {e:Bb} {w w':Ae} {v:Ai} {xs ys:Ah α} {S T:Nat->Prop}
def kOu (hr:r.kCy) {o:Bool}:∀ {cells:Ah Ai} {ys:Ah α} {S:Nat->Prop},row r o w cells ys S->row r true w' cells ys (λ_=>False)
  | _,[],_,h=>h
  | _,y :: ys,_,⟨c,d,A,B,h,h1,h2,_⟩=>⟨c,d,_,_,h,hr h1,kOu hr h2,λ_ h=>h,λ_ h=>h,λ_ _ h _=>h⟩
def kLj {P:Bl} {t ty:Bb} {z:Ai} {bytes:Nat} (ht:P.underlying t=some (.slice e)) (hinf:(P.info? e).map (λi=>(i.zero,i.size,i.bytes))=some (some z,r.n,bytes)) (hzs:z.cells.size=r.n) (hn:0 < r.n) (hby:bytes<=1000) (hf:r.kCy)
    {B:Nat} (hown:kU e r w v xs S) {av:Option Addr} {len cap:Nat} (hy:(slice e r).rd w [.slice av len cap] ys) (hSB:∀ k,S k->B<=k/\k < w.heap.size) (hB:B<=w.heap.size) (hlen:xs.length + ys.length<=1000000000) :
    ∃ v' w',(Br #[t,t] ty #[v,.slice av len cap]).run P w=.ok v' w'/\kU e r w' v' (xs++ys) (jU B w'.heap.size)/\Below B w w'/\w.heap.size<=w'.heap.size:=by
 obtain ⟨i,hi,hz,hsize,D⟩:=info_parts hinf
 obtain ⟨cells,hsrc,hrow⟩:=jAd hy.1
 have o:row r true w cells ys (λ_=>False):=kOu hf hrow
 obtain ⟨v',w',hr,h2,h3⟩:=kFc (P:=P) (ty:=ty) ht hi hz hsize hzs hn bD1 hown hsrc (zQ hrow) (row_one hrow) hlen
 refine ⟨v',w',hr,(h3 o (λ_ _ h=>h) hy.2.2).wide ?_,h2.below hB ?_,h2.size⟩
 · exact iQ
 intro k hk;exact (hSB k hk.2).1
def kV {P:Bl} {o:Oper} {a:Act} {K:Act->Ae->Prop} {Q:Exit->Act->Ae->Prop} (s x:Operand) (t:Bb)
    (ho:o.op=.call { callee:=.builtin .append,args:=#[s,x],argTypes:=#[t,t] }) {v sv v':Ai} (hs:a.eval s=v) (hx:a.eval x=sv) {w w':Ae}
    (hr:(Br #[t,t] o.type #[v,sv]).run P w=.ok v' w') (h:K (a.put o.dst v') w'):o.wp P a w K Q:=by
 unfold Oper.wp execOp
 simp only [ho,resolve,invoke,builtin,Sem.run_bind,Sem.run_pure,Result.andThen_ok,List.map_toArray,List.map_cons,List.map_nil,hs,hx,hr]
 exact h
def yU {P:Bl} {ops:Array Oper} {rest:Ah Oper} {o:Oper} {a:Act} {Q:Exit->Act->Ae->Prop} (E:o.guard=none) (s x:Operand) (t:Bb)
    (ho:o.op=.call { callee:=.builtin .append,args:=#[s,x],argTypes:=#[t,t] })
    {z:Ai} {bytes:Nat} (ht:P.underlying t=some (.slice e)) (hinf:(P.info? e).map (λi=>(i.zero,i.size,i.bytes))=some (some z,r.n,bytes)) (hzs:z.cells.size=r.n) (hn:0 < r.n) (hby:bytes<=1000) (hf:r.kCy)
    {B:Nat} (hown:kU e r w v xs S) (hs:a.eval s=v) {av:Option Addr} {len cap:Nat} (hx:a.eval x=.slice av len cap) (hy:(slice e r).rd w [.slice av len cap] ys) (hSB:∀ k,S k->B<=k/\k < w.heap.size) (hB:B<=w.heap.size) (hlen:xs.length + ys.length<=1000000000)
    (h:∀ v' w',kU e r w' v' (xs++ys) (jU B w'.heap.size)->Below B w w'->w.heap.size<=w'.heap.size->wpList P ops Q rest (a.put o.dst v') w'):wpList P ops Q (o :: rest) a w:=by
 refine wpList_plain E λ_ H=>?_
 obtain ⟨v',w',hr,h1,h2,h3⟩:=kLj (ty:=o.type) ht hinf hzs hn hby hf hown hy hSB hB hlen
 exact kV s x t ho hs hx hr (H _ _ (h v' w' h1 h2 h3))
end
end kD
def kWy {w:Ae} {va:Ai} {x:Ah Aa} (ha:(kD.slice 9 kD.str).rd w [va] x):Bf prog 163 #[va] w (kBm (kD.slice 9 kD.str) x w):=by
 obtain ⟨aa,am,rfl,la⟩:=kD.sl ha.1;have HA:=yD ha;have D:=λ(W:Ae) (a:Option Addr) (n c:Nat)=>Lib.run_eql_slice_nil (P:=prog) W 34 9 a n c 0 0 underlying34;cases aa with
 | none =>
   have hx:x=[]:=by
     cases x with
     | nil=>rfl
     | cons y ys =>
       exact aD
   subst hx;clear ha;go_enter func163,ntmps163;go_wp2;go_ret;exact ⟨_,rfl,kD.jr,bR⟩
 | some a =>
   have hb:x.length<=16777216:=ha.2.1;clear ha;go_enter func163,ntmps163;have O0:kD.kU 9 kD.str (w.alloc (.cells #[] 9)) (.slice (some ⟨w.heap.size,0,none⟩) 0 0) [] (λk=>k=w.heap.size):=kD.yO (cs:=[]) (xs:=[]) (T:=λ_=>False) bD2 bD2 rfl (λ_ h=>h.elim) rfl;go_wp2_with (at_builtin;refine kD.yU rfl _ _ 34 rfl (r:=kD.str) (e:=9) underlying34 kCe rfl bD0 bD0 kD.kDj (B:=w.heap.size) O0 bD3 bD3 (HA.out.alloc _) qV bD2 bC6 ?_);exact aF
def kAp {w:Ae} {ca:Ah Ai} {x:kr} (ha:kW.rd w ca x):Bf prog 94 #[.agg ca.toArray] w (kAe kW x w):=by
 have HA:=yD ha;obtain ⟨av,rfl,G⟩:=ko ha.1;obtain ⟨aa,am,rfl,la⟩:=kD.sl G;have hb:x.length<=16777216:=ha.2.1;clear ha;go_enter func94,ntmps94;go_wp2_with fail;refine (kWy (HA.out.below bG)).mono ?_;rintro e V ⟨v2,rfl,O2,o⟩;obtain ⟨a2,c2,hv,_⟩:=kD.kAx O2.raw;obtain rfl:v2=_:=by simpa using hv
 have L:Hid (kW.own V [Qs a2 x c2] x (jU (w.heap.size + 2) V.heap.size)):=yD (O2.wide nK);have F:Qb w V:=Bq bG (o.mono rE);clear hv O2;obtain ⟨R0,F0⟩:=xU;clear o;go_wp2;refine bodyPost_ret (v:=.agg #[Qs a2 x c2]) (by simp [results,results94,go_sem,R0,F0]) rfl ⟨[_],rfl,?_,?_⟩
 · exact (L.out.setCell fB).wide fZ
 exact F.setCell bD2 _
def zT {w:Ae} {ca:Ah Ai} {x:kr} (ha:kW.rd w ca x):Bf prog 100 #[.agg ca.toArray] w (kAe kW x w):=by
 have HA:=yD ha;obtain ⟨av,rfl,G⟩:=ko ha.1;obtain ⟨aa,am,rfl,la⟩:=kD.sl G;have hb:x.length<=16777216:=ha.2.1;clear ha;go_enter func100,ntmps100;have O0:kD.kU 9 kD.str (((w.alloc (.cells #[.slice aa x.length am] 36)).alloc (.cells #[.slice none 0 0] 36)).alloc (.cells #[] 9)) (.slice (some ⟨w.heap.size + 1 + 1,0,none⟩) 0 0) [] (λk=>k=w.heap.size + 1 + 1):=by
  exact aG
 go_wp2_with (at_builtin;refine kD.yU rfl _ _ 34 rfl (r:=kD.str) (e:=9) underlying34 kCe rfl bD0 bD0 kD.kDj (B:=w.heap.size + 1 + 1) O0 bD3 bD3 (HA.out.below bG) qV bD2 bC6 ?_);intro v2 V hown o hz;obtain ⟨a2,c2,hv⟩:=hown.zW;obtain rfl:=hv;have hw:=hown.own vL;have L:Hid (kW.own V [Qs a2 x c2] x (jU (w.heap.size + 1 + 1) V.heap.size)):=yD hw;have F:Qb w V:=Bq bG (o.mono rE);clear hown O0 hw;obtain ⟨R0,F0⟩:=xU;clear o;go_wp2;refine bodyPost_ret (v:=.agg #[Qs a2 x c2]) nN rfl ⟨[_],rfl,?_,?_⟩
 · exact (L.out.setCell fB).wide fZ
 exact F.setCell bD2 _
namespace kD
section
variable {α:Type} {r:kD α} {e:Bb} {w w':Ae} {v:Ai} {b cap n:Nat} {kept rest xs:Ah α} {j:Nat} {x:α} {S T:Nat->Prop}
def gap (e:Bb) (r:kD α) (w:Ae) (b cap n:Nat) (kept:Ah α) (j:Nat) (rest:Ah α) (S:Nat->Prop):Prop :=
  (∀ x∈kept,r.bdd Big x)/\(∀ x∈rest,r.bdd Big x)/\kept.length + j + rest.length=n/\n<=cap/\cap<=Bo/\S b /\
  ∃ (c G d tl:Ah Ai) (A B:Nat->Prop),w.heap[b]?=some (.cells (c++(G++(d++tl))).toArray e (0,0))/\(c++(G++(d++tl))).length=cap * r.n/\G.length=j * r.n /\
    row r true w c kept A/\row r true w d rest B/\(∀ k,A k->S k/\k≠b)/\(∀ k,B k->S k/\k≠b)/\(∀ k,A k->B k->False)
def gap.lt (h:gap e r w b cap n kept j rest S):b < w.heap.size:=by
 obtain ⟨_,_,_,_,_,_,c,G,d,tl,A,B,h1,_⟩:=h;exact (Ad.1 h1).1
def gap.mem (h:gap e r w b cap n kept j rest S):S b:=h.2.2.2.2.2.1
def gap.len (h:gap e r w b cap n kept j rest S):kept.length + j + rest.length=n/\n<=cap/\cap<=Bo:=⟨h.2.2.1,h.2.2.2.1,h.2.2.2.2.1⟩
def gap.keep (h:gap e r w b cap n kept j rest S) (k:∀ k,S k->k < w.heap.size->w'.heap[k]?=w.heap[k]?):gap e r w' b cap n kept j rest S:=by
 obtain ⟨a1,a2,a3,a4,a5,Z,c,G,d,tl,A,B,h1,h2,h3,h4,h5,h6,h7,h8⟩:=h;refine ⟨a1,a2,a3,a4,a5,Z,c,G,d,tl,(λk=>A k/\k < w.heap.size),(λk=>B k/\k < w.heap.size),(k b Z (Ad.1 h1).1).trans h1,h2,h3,yG (zO h4) (λi hi=>k i (h6 i hi.1).1 hi.2),yG (zO h5) (λi hi=>k i (h7 i hi.1).1 hi.2),λi hi=>h6 i hi.1,λi hi=>h7 i hi.1,λi h E=>h8 i h.1 E.1⟩
def gap.below (h:gap e r w b cap n kept j rest S) (k:Qb w w'):gap e r w' b cap n kept j rest S:=h.keep (λi _ hi=>k.block i hi)
def gap.frozen (h:gap e r w b cap n kept j rest S) (i:Nat):w.frozen? ⟨b,i,none⟩=false:=by
 obtain ⟨_,_,_,_,_,_,c,G,d,tl,A,B,h1,_⟩:=h;exact frozen_of_row w b i _ _ h1
def kLt (h:kU e r w v xs S) {i:Nat} (hi:i < xs.length):∃ b cap,v=.slice (some ⟨b,0,none⟩) xs.length cap/\gap e r w b cap xs.length (xs.take i) 0 (xs.drop i) S:=by
 obtain ⟨hb,h⟩:=h;rcases h with ⟨⟨a,rfl⟩,rfl⟩|⟨b,cap,cur,cs,tl,rfl,h1,h2,h3,h4,h5,h6,h7⟩
 · simp at hi
 refine ⟨b,cap,rfl,λx hx=>hb x (List.mem_of_mem_take hx),λx hx=>hb x (Aj hx),by simp;omega,h1,h2,h6,?_⟩;have e1:xs=xs.take i++xs.drop i:=bD2;rw [e1] at h7;obtain ⟨c,d,A,B,rfl,W,r2,hA,hB,hd⟩:=kIg _ h7;refine ⟨c,[],d,tl,A,B,?_,?_,by simp,W,r2,hA,hB,hd rfl⟩
 · rw [h3,show cur=(c++([]++(d++tl))).toArray from by rw [show c++([]++(d++tl))=cur.toList from by rw [h4];simp]]
 rw [<- h5,<- Array.length_toList,h4];simp
def gap.skip (h:gap e r w b cap n kept j (x :: rest) S):gap e r w b cap n kept (j + 1) rest S:=by
 obtain ⟨a1,a2,a3,a4,a5,Z,c,G,d,tl,A,B,h1,h2,h3,h4,⟨c1,H,A1,B1,rfl,q1,q2,hA1,F,hd1⟩,h6,h7,h8⟩:=h;refine ⟨a1,λy hy=>a2 y bC8,by simp at a3;omega,a4,a5,Z,c,G++c1,H,tl,A,B1,by rw [h1];simp,by rw [<- h2];simp,?_,h4,q2,h6,λk hk=>h7 k (F k hk),λk h E=>h8 k h (F k E)⟩;simp [h3,r.len q1,Nat.add_mul]
def gap.next (h:gap e r w b cap n kept j (x :: rest) S):∃ cs,r.raw w cs x/\cs.length=r.n/\r.bdd Big x/\(∀ q c,cs[q]?=some c->w.cell? ⟨b,(kept.length + j) * r.n + q,none⟩=some c) /\
    ∀ w1,Qb w w1->0 < j->∀ p,p=kept.length * r.n->gap e r (setCells w1 b p cs) b cap n (kept++[x]) j rest S/\Touch (λk=>k=b) w1 (setCells w1 b p cs):=by
 have H0:=h
 obtain ⟨a1,a2,a3,a4,a5,Z,c,G,d,tl,A,B,h1,h2,h3,h4,⟨c1,H,A1,B1,rfl,q1,q2,hA1,F,hd1⟩,h6,h7,h8⟩:=h
 have J:=zQ h4
 have ac:=r.len q1
 refine ⟨c1,r.wide (r.weak q1) (λ_ _=>trivial),ac,a2 x bD2,?_,?_⟩
 · intro q u hq;have b8:=(List.getElem?_eq_some_iff.1 hq).1;rw [cell_of_row w b _ _ e (0,0) h1];simp only [Bd];rw [Aq (by rw [J,Nat.add_mul];omega),Aq (by rw [J,h3,Nat.add_mul];omega),Bn,List.getElem?_append_left (by rw [J,h3,Nat.add_mul];omega)];rw [<- hq];congr 1;rw [J,h3,Nat.add_mul];omega
 intro w1 hw I p hp
 refine ⟨?_,yt _ _ _ _⟩
 obtain ⟨b1,b2,R,O,V,b6,_⟩:=H0
 have U:w1.heap[b]?=_:=(hw.block b (Ad.1 h1).1).trans h1
 have ab:r.n<=G.length:=by rw [h3];exact Nat.le_mul_of_pos_left _ I
 have D:(setCells w1 b p c1).heap[b]?=some (.cells (c++(c1++(G.drop r.n++((c1++H)++tl)))).toArray e (0,0)):=by
  refine zn c1 (G.take r.n) c (G.drop r.n++((c1++H)++tl)) w1 b p ?_ (by rw [J,hp]) (by rw [List.length_take,ac];omega);rw [U,<- Bn (G.take r.n),List.take_append_drop]
 have L:∀ k,k≠b->k < w.heap.size->(setCells w1 b p c1).heap[k]?=w.heap[k]?:=λk hk hl=>(zz c1 w1 b p k hk).trans (hw.block k hl)
 refine ⟨?_,λy hy=>a2 y bC8,by simp at a3 ⊢;omega,a4,a5,Z,c++c1,G.drop r.n++c1,H,tl,(λk=>(A k\/A1 k)/\k < w.heap.size),(λk=>B1 k/\k < w.heap.size),by rw [D];simp,?_,?_,?_,?_,?_,?_,?_⟩
 · intro y hy;rcases Bc.1 hy with hy | hy
   · exact a1 y hy
   obtain rfl:y=x:=by simpa using hy
   exact a2 y bD2
 · rw [<- h2];simp;omega
 · rw [List.length_append,List.length_drop,h3,ac];have:=h3;omega
 · refine kAg (A:=λk=>A k/\k < w.heap.size) (B:=λk=>A1 k/\k < w.heap.size) (yG (zO h4) (λk hk=>L k (h6 k hk.1).2 hk.2)) (yG (zO (kDi q1)) (λk hk=>L k (h7 k (hA1 k hk.1)).2 hk.2)) (λk hk=>⟨.inl hk.1,hk.2⟩) (λk hk=>⟨.inr hk.1,hk.2⟩) (λ_ k h E=>h8 k h.1 (hA1 k E.1))
 · exact yG (zO q2) (λk hk=>L k (h7 k (F k hk.1)).2 hk.2)
 · rintro k ⟨hk | hk,_⟩
   · exact h6 k hk
   exact h7 k (hA1 k hk)
 · intro k hk;exact h7 k (F k hk.1)
 rintro k ⟨hk | hk,_⟩ E
 · exact h8 k hk (F k E.1)
 exact hd1 rfl k hk E.1
def kFt:∀ (cs:Ah Ai) (w:Ae) (b p:Nat),w.setCells b p cs=setCells w b p cs
  | [],_,_,_=>rfl
  | c :: cs,w,b,p=>by
    simp only [World.setCells,setCells];exact kFt cs _ b (p + 1)
def gap.cells (h:gap e r w b cap n kept j rest S) {i:Nat} (hi:i < cap * r.n):(w.cell? ⟨b,i,none⟩).isSome=true:=by
 obtain ⟨_,_,_,_,_,_,c,G,d,tl,A,B,h1,h2,_⟩:=h;rw [cell_of_row w b _ _ e (0,0) h1];simp only [Bd];rw [List.getElem?_eq_getElem (by rw [h2];exact hi)];rfl
def gap.wipe (h:gap e r w b cap n kept j [] S) {zs:Ah Ai} (hz:zs.length=j * r.n) {p:Nat} (hp:p=kept.length * r.n) :
    kU e r (setCells w b p zs) (.slice (some ⟨b,0,none⟩) kept.length cap) kept S/\Touch (λk=>k=b) w (setCells w b p zs):=by
 obtain ⟨a1,a2,a3,a4,a5,Z,c,G,d,tl,A,B,h1,h2,h3,h4,h5,h6,h7,h8⟩:=h
 obtain rfl:d=[]:=h5
 have J:=zQ h4
 refine ⟨⟨a1,.inr ⟨b,cap,_,c,zs++tl,rfl,by simp at a3;omega,a5,?_,rfl,?_,Z,?_⟩⟩,yt _ _ _ _⟩
 · exact zn zs G c tl w b p bA6 (by rw [J,hp]) (by rw [h3,hz])
 · rw [<- h2];simp;omega
 exact yK (yG (zO h4) (λk hk=>zz zs w b p k (h6 k hk.1).2)) (λk hk=>h6 k hk.1)
def gap.done (h:gap e r w b cap n kept 0 [] S):kU e r w (.slice (some ⟨b,0,none⟩) kept.length cap) kept S:=by
 have:=(h.wipe (zs:=[]) bD2 rfl).1;exact this
def kLk {P:Bl} {t ty:Bb} {z:Ai} (ht:P.underlying t=some (.slice e)) (hv:∀ w,(zeroValue e).run P w=.ok z w) (h1:∀ u∈z.cells,u.oneCell'=true) (b o m c:Nat) (hm:0 < m)
    (hc:∀ j,j < (Ab z.cells m).size->(w.cell? ⟨b,o + j,none⟩).isSome=true) (hf:∀ j,j < (Ab z.cells m).size->w.frozen? ⟨b,o + j,none⟩=false) (b1:0 < z.cells.size) :
    (Be #[t] ty #[.slice (some ⟨b,o,none⟩) m c]).run P w=.ok (.tuple #[]) (setCells w b o (Ab z.cells m).toList):=by
 have E:∀ v∈(Ab z.cells m).toList,v.oneCell'=true:=by
  intro v H;simp only [Ab,Array.toList_map,List.mem_map] at H;obtain ⟨i,_,rfl⟩:=H;have hlt:=Nat.mod_lt i b1;rw [getElem!_pos z.cells _ hlt];exact h1 _ (Array.getElem_mem hlt)
 have D:=run_storeCells_cells (P:=P) b o (Ab z.cells m).toList 0 w bA1 bA8 E
 simp only [Nat.add_zero] at D
 obtain ⟨q,rfl⟩:∃ q,m=q + 1:=⟨m - 1,by omega⟩
 rw [<- kFt]
 simp [Be,run_underlying ht,hv,D]
def zero_of_info {P:Bl} {i:TypeInfo} {z:Ai} (hi:P.info? e=some i) (hz:i.zero=some z):∀ w,(zeroValue e).run P w=.ok z w:=by
 intro w;simp [zeroValue,typeInfo,hi,hz]
def gap.kLk {P:Bl} {t ty:Bb} {z:Ai} {bytes:Nat} (h:gap e r w b cap n kept j [] S) (I:0 < j) (ht:P.underlying t=some (.slice e)) (hinf:(P.info? e).map (λi=>(i.zero,i.size,i.bytes))=some (some z,r.n,bytes)) (hzs:z.cells.size=r.n) (hn:0 < r.n) (E:∀ u∈z.cells,u.oneCell'=true)
    {p c:Nat} (hp:p=kept.length * r.n) :
    ∃ w',(Be #[t] ty #[.slice (some ⟨b,p,none⟩) j c]).run P w=.ok (.tuple #[]) w'/\kU e r w' (.slice (some ⟨b,0,none⟩) kept.length cap) kept S/\Touch (λk=>k=b) w w':=by
 obtain ⟨i,hi,hz,hsize,D⟩:=info_parts hinf
 have az:(Ab z.cells j).size=j * r.n:=by rw [size_zeroCells,hzs]
 have hl:=h.len
 have o:∀ q,q < j * r.n->p + q < cap * r.n:=by
  intro q hq;have h1:(kept.length + j) * r.n<=cap * r.n:=Nat.mul_le_mul_right _ (by have:=hl.1;simp at this;omega);rw [Nat.add_mul] at h1;omega
 have hr:=kD.kLk (P:=P) (ty:=ty) (w:=w) ht (zero_of_info hi hz) E b p j c I (λq hq=>h.cells (o q (by rwa [az] at hq))) (λq _=>h.frozen _) bD1
 obtain ⟨h1,h2⟩:=h.wipe (zs:=(Ab z.cells j).toList) (by simpa using az) hp
 exact ⟨_,hr,h1,h2⟩
end
end kD
variable {α:Type} {r:kD α} {e:Bb} {w w':Ae} {v:Ai} {xs ys:Ah α} {S:Nat->Prop}
def kCl (e:Bb) (r:kD α) (x:Ah α) (w:Ae) (E:Ending) (w':Ae):Prop:=∃ v,E=.returned v/\kD.kU e r w' v x (jU w.heap.size w'.heap.size)/\Qb w w'
def kD.kU.cast (h:kD.kU e r w v xs S) (k:xs=ys):kD.kU e r w v ys S:=k ▸ h
def kD.kU.parts (h:kD.kU e r w v xs S):∃ a n cap,v=.slice a n cap/\Hid (n=xs.length):=by
 obtain ⟨a,cap,h⟩:=h.zW;exact ⟨a,_,cap,h,yD rfl⟩
def kCl.post {E:Ending} (h:kCl e r xs w E w') (hl:xs.length<=Big):kBm (kD.slice e r) xs w E w':=by
 obtain ⟨v,rfl,h1,h2⟩:=h;exact ⟨v,rfl,h1.own hl,h2⟩
def kGm {α:Type} {p:α->Bool} {l:Ah α} {k:Nat} (h:k < l.length) (q:p l[k]=true):(l.take (k + 1)).filter p=(l.take k).filter p++[l[k]]:=by
 rw [Ag h,Bg];simp [q]
def kEq {α:Type} {p:α->Bool} {l:Ah α} {k:Nat} (h:k < l.length) (q:p l[k]=false):(l.take (k + 1)).filter p=(l.take k).filter p:=by
 rw [Ag h,Bg];simp [q]
def kAa {α:Type} {p:α->Bool} {l:Ah α} {k:Nat} (h:k<=l.length):((l.take k).filter p).length<=k:=by
 have h1:=List.length_filter_le p (l.take k);rw [List.length_take_of_le h] at h1;exact h1
def yu (Y:Ah Aa):Prop:=∀ p∈Y,p.size<=64
def yu.snoc {Y:Ah Aa} {y:Aa} (h:yu Y) (hy:y.size<=64):yu (Y++[y]):=λp hp=>by
  rcases Bc.1 hp with hp | hp
  · exact h p hp
  · rw [Bh.1 hp];exact hy
def yu.nil:yu []:=λp hp=>by simp at hp
def yu.drop {Y:Ah Aa} (h:yu Y) (k:Nat):yu (Y.drop k):=λp hp=>h p (Aj hp)
def kCo (M:Nat) (Y:Ah Aa):Prop:=∀ p∈Y,p.size<=M
def kCo.nil {M:Nat}:kCo M []:=λp hp=>by simp at hp
def kCo.drop {M:Nat} {Y:Ah Aa} (h:kCo M Y) (k:Nat):kCo M (Y.drop k):=λp hp=>h p (Aj hp)
def kCo.cut {M:Nat} {Y:Ah Aa} {s:Aa} (h:kCo M Y) (hs:s.size<=M) (m k:Nat):kCo M (Y++[s.extract m k]):=λp hp=>by
  rcases Bc.1 hp with hp | hp
  · exact h p hp
  · rw [Bh.1 hp];simp only [ByteArray.size_extract];omega
def kMk {w:Ae} {s:Aa} {M:Nat} (hM:M<=1000) (hs:s.size<=M) {by0:Nat} (hb:by0 < 256) :
    Bf prog 193 #[.string s,.int .u8 by0] w λe w'=>∃ v,e=.returned v/\∃ Y,kD.kU 9 kD.str w' v Y (jU w.heap.size w'.heap.size)/\0 < Y.length/\Y.length<=M + 1/\kCo M Y/\Qb w w':=by
 go_enter func193,ntmps193
 go_wp2
 go_loopw [5,6,7] (λv f i wr=>∃ (k m:Nat) (Y:Ah Aa),k<=s.size + 1/\m<=k/\i=.int .i64 k/\f=.int .i64 m/\Y.length<=k/\(k=s.size + 1->0 < Y.length)/\Hid (kCo M Y)/\Hid (kD.kU 9 kD.str wr v Y (jU w.heap.size wr.heap.size))/\Qb w wr) (λ_ _ i _=>s.size + 1 - (Bj i).toNat)
 case atStart=>exact ⟨0,0,[],by omega,by omega,rfl,rfl,by simp,by omega,yD kCo.nil,yD kD.kU.void,bR.alloc nL _⟩
 obtain ⟨k,m,Y,hk,hm,rfl,rfl,d6,ay,ae,L,o⟩:=hrel
 obtain ⟨oa,on,oc,ho,bh⟩:=L.out.parts;obtain rfl:=ho
 have dp:=o.size
 have bk:=Bi k
 have bc:=Bi m
 by_cases a4:k<=s.size
 · have D:(k:Int)<=s.size:=bD1;by_cases he:k=s.size
   · have cg:(k:Int)=s.size:=bD1;have af:(m:Int)<=k:=bD1;go_wp2_with (at_builtin;refine kD.jO rfl _ _ 34 rfl (r:=kD.str) (e:=9) underlying34 kCe rfl bD0 bD0 (B:=w.heap.size) L.out bD3 bD3 rfl (kD.flat.own (S:=λ_=>False) (kD.kFi (s:=s.extract m s.size) gQ)) rfl (λ_ _ h=>h) rC (λ_ h=>h.elim) bD1 bD1 ?_);intro v2 V ad ab a7;have Z:=yD ad;obtain ⟨pa,pn,pc,hp,a2⟩:=ad.parts;obtain rfl:=hp;have G:=o.trans ab;clear ad ab;go_wp2;go_roundw;case rel=>exact ⟨k + 1,k + 1,_,by omega,by omega,by go_num,by go_num,by simp;omega,by simp,yD (ae.out.cut hs m s.size),Z,G⟩
     simp [Bj];omega
   have cg:¬ (k:Int)=s.size:=bD1;have F:(k:Int) < s.size:=bD1;have am:k < s.size:=bD1;have af:(m:Int)<=k:=bD1;go_upto_region 6 with fail;refine ky (λW=>Qb wr W) [Tt,Tt,Tt,Tt,Tt,Tt,Tt,Tt,Tt,Tt,Tt] (bR) ?_;intro wS E;iterate 4
    all_goals refine kX ?_
   all_goals (refine jd λb O=>?_;cases b <;> try simp only [jc] at O)
   iterate 5
    all_goals refine kX ?_
   all_goals (refine jd λb aq=>?_;cases b <;> try simp only [jc] at aq)
   all_goals refine kR ?_
   all_goals replace o:=(tQ o E)
   all_goals replace L:=yD ((L.out.below E).wide (T:=jU w.heap.size wS.heap.size) (λj I=>⟨I.1,by have:=I.2;have:=E.size;omega⟩))
   all_goals have dp:=o.size
   all_goals clear E
   all_goals first
     | (go_wp2;go_roundw;(case rel=>exact ⟨k + 1,m,Y,by omega,by omega,by go_num,rfl,by omega,by omega,ae,L,o⟩);(case measure=>simp [Bj];omega))
     | skip
   all_goals
     go_wp2_with (at_builtin;refine kD.jO rfl _ _ 34 rfl (r:=kD.str) (e:=9) underlying34 kCe rfl bD0 bD0 (B:=w.heap.size) L.out bD3 bD3 rfl (kD.flat.own (S:=λ_=>False) (kD.kFi (s:=s.extract m k) gQ)) rfl (λ_ _ h=>h) rC (λ_ h=>h.elim) bD1 bD1 ?_)
     intro v2 V ad ab a7
     have Z:=yD ad
     obtain ⟨pa,pn,pc,hp,a2⟩:=ad.parts;obtain rfl:=hp
     have G:=o.trans ab
     clear ad ab
     go_wp2
     go_roundw
     case rel=>exact ⟨k + 1,k + 1,_,by omega,by omega,by go_num,by go_num,by simp;omega,by simp,yD (ae.out.cut hs m k),Z,G⟩
     case measure=>simp [Bj];omega
 have D:¬ (k:Int)<=s.size:=bD1
 have hp:=ay bD1
 go_wp2
 go_ret
 exact ⟨_,rfl,Y,L.out,hp,by omega,ae.out,o⟩
def kMj {w:Ae} {s:Aa} (hs:s.size<=64) {by0:Nat} (hb:by0 < 256) :
    Bf prog 193 #[.string s,.int .u8 by0] w λe w'=>∃ v,e=.returned v/\∃ Y,kD.kU 9 kD.str w' v Y (jU w.heap.size w'.heap.size)/\0 < Y.length/\Y.length<=65/\yu Y/\Qb w w':=kMk (M:=64) bD0 hs hb
end Go.Proofs.YtjhfdpopkkmigaaGreat
