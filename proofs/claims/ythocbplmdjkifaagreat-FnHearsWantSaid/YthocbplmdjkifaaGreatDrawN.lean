/-
  Names as the reference draws them.
-/
import Derived.Test.YthocbplmdjkifaaGreatName
set_option linter.unusedVariables false
set_option linter.defProp false
set_option linter.unusedSimpArgs false
set_option linter.unnecessarySimpa false
set_option maxRecDepth 100000
set_option maxHeartbeats 4000000
open Bool renaming true->Tt,false->Ff
open _root_ renaming ByteArray->Aa,List->Ah
open Go.Builtin renaming zeroCells->Ab,clear_->Bf,append_->Br
open ByteArray renaming empty->Ac
open Array renaming getElem?_eq_some_iff->Ad
open Go renaming World->Ae,Value->Ai,TypeId->Bc,Calls->Bg,Program->Bl,maxLen->Bo
open List renaming take_succ_eq_append_getElem->Ag,mem_of_mem_drop->Aj,getElem?_append_right->Ar,mem_append->Bd,getElem?_toArray->Be,filter_append->Bh,mem_singleton->Bi,append_assoc->Bn
open Bool renaming not_not->Ak,not_false->Am,and_false->Ap,false_and->Aq,not_true->Au,and_true->Av,true_and->Aw,or_false->Ay,false_or->Az,or_true->Ba,true_or->Bb
open Go.Proofs.Tryz renaming underlying34->Al
open Int renaming natCast_nonneg->Bj
open Go.RowKit.Below renaming trans->Bq
namespace Go.Proofs.YthocbplmdjkifaaGreat
open Go.RowKit _root_.Go.Proofs.Tryz
def kRv (c:Int):Bool:=!((!inR c 97 122 && !inR c 48 57) && (c != 45))
def okBi (c:Int):Bool:=((decide (c ≥ 97) && decide (c<=122)) || (decide (c ≥ 48) && decide (c<=57))) || (c==45)
def kCy (s:Aa) (j:Nat):Int:=(s.data.toList.getD j 0).toNat
def kDb (s:Aa):Bool:=zN (λj=>kRv (kCy s j)) s.size && inR s.size 1 8
def okBi_eq (c:Int):okBi c=kRv c:=by
 unfold okBi kRv inR;rw [Bool.eq_iff_iff];simp;try omega
def vPart_out {s:ByteArray} (h:inR s.size 1 8=false):kDb s=false:=by simp [kDb,h]
def jCy {s:Aa} {k:Nat} (h:k < s.size) (q:kRv (kCy s k)=false):kDb s=false:=by
 unfold kDb;rw [kDl h q];rfl
def kYx {s:Aa} {k:Nat} (q:zN (λj=>kRv (kCy s j)) k=true) (h:¬ k < s.size) (hk:k<=s.size):kDb s=inR s.size 1 8:=by
 obtain rfl:k=s.size:=bF2;unfold kDb;rw [q];rfl
def kMu {s:Aa} {k:Nat} (h:k < s.size):kCy s k=(s[k].toNat:Int):=by
 unfold kCy;rw [jb bD5];rfl
def jBq (s:Aa) (k:Nat):0<=kCy s k/\kCy s k < 256:=by
 unfold kCy;have:=(s.data.toList.getD k 0).toNat_lt;omega
def kNb {w:Ae} {s:Aa} (hs:s.size<=Bo):Bg prog 210 #[.string s] w λe w'=>e=.returned (.bool (kDb s))/\w'=w:=by
 unfold Bo at hs;go_enter func210,ntmps210;go_wp2_with fail;refine yL.mono ?_;rintro e w1 ⟨rfl,hw⟩;obtain rfl:=hw.symm;cases U:inR s.size 1 8
 · have L:=yD (vPart_out U);exact oC
 have HI:=yD U;go_wp2;go_loop [3] (λi=>∃ k:Nat,k<=s.size/\i=.int .i64 k/\Hid (zN (λj=>kRv (kCy s j)) k=true)) (λi=>s.size - (intOf i).toNat);case atStart=>exact ⟨0,Nat.zero_le _,rfl,yD rfl⟩
 obtain ⟨k,hk,rfl,Y⟩:=hrel;by_cases hlt:k < s.size
 · have hr:=jBq s k;have hg:=kMu hlt;have HB:=yD (λq=>jCy hlt q);have HX:=yD (λq=>kBp (f:=λj=>kRv (kCy s j)) Y.out q);go_upto_region 7 with fail;generalize (s[k].toNat:Int)=c at *;have HC:=yD hg;clear hg;refine kL (λW=>Hid (W=w)) [Tt,Ff,Tt,Tt,Tt,Ff,Tt,Tt,Tt,Tt,Tt,Tt] (yD rfl) ?_;intro wS E;all_goals (refine kS ?_;(first | refine wkC (yL) ?_ | refine kS ?_);refine kS ?_;refine jT λb bh=>?_;cases b <;> try simp only [jS] at bh)
   all_goals (refine kS ?_;(first | refine wkC (yL) ?_ | refine kS ?_);refine kS ?_;refine kS ?_;refine jT λb b6=>?_;cases b <;> try simp only [jS] at b6)
   all_goals (refine kS ?_;refine kS ?_;refine jT λb an=>?_;cases b <;> try simp only [jS] at an)
   all_goals refine kM ?_
   all_goals obtain rfl:=E.out.symm
   all_goals first
     | (have X:=(congrArg kRv HC.out).trans (show _=false by simp only [kRv,Au,Am,Av,Aw,Ap,Aq,Ba,Bb,Ay,Az,Ak,bh,b6,an]);have L:=yD (HB.out X);clear X HB HX HC;go_wp2;go_ret;exact ⟨kJ L.out.symm,rfl⟩)
     | (have X:=(congrArg kRv HC.out).trans (show _=true by simp only [kRv,Au,Am,Av,Aw,Ap,Aq,Ba,Bb,Ay,Az,Ak,bh,b6,an]);have L:=yD (HX.out X);clear X HB HX HC;go_wp2;go_round;(case rel=>exact ⟨k + 1,by omega,by go_num,L⟩);(case measure=>simp [intOf];omega))
 have L:=yD (kYx Y.out hlt hk);have HU:=yD (L.out.trans HI.out);go_wp2;go_ret;exact ⟨kJ HU.out.symm,rfl⟩
def kXu {w:Ae} {s:Aa} (hs:s.size<=Bo):Bg prog 187 #[.string s] w λe w'=>e=.returned (.bool (kDb s))/\w'=w:=by
 unfold Bo at hs;go_enter func187,ntmps187;go_wp2;go_loop [7] (λi=>∃ k:Nat,k<=s.size/\i=.int .i64 k/\Hid (zN (λj=>kRv (kCy s j)) k=true)) (λi=>s.size - (intOf i).toNat);case atStart=>exact ⟨0,Nat.zero_le _,rfl,yD rfl⟩
 obtain ⟨k,hk,rfl,Y⟩:=hrel;by_cases hlt:k < s.size
 · have hr:=jBq s k;have hg:=kMu hlt;have HB:=yD (λq=>jCy hlt q);have HX:=yD (λq=>kBp (f:=λj=>kRv (kCy s j)) Y.out q);go_upto_region 5 with fail;generalize (s[k].toNat:Int)=c at *;have HC:=yD hg;clear hg;refine kL (λW=>Hid (W=w)) [Tt,Tt,Tt,Tt,Tt,Tt,Tt,Tt,Tt,Tt,Tt,Tt,Tt,Tt,Tt,Tt,Tt,Tt,Tt] (yD rfl) ?_;intro wS E;all_goals (refine kS ?_;refine kS ?_;refine jT λb au=>?_;cases b <;> try simp only [jS] at au)
   all_goals ((iterate 3 refine kS ?_);refine jT λb cg=>?_;cases b <;> try simp only [jS] at cg)
   all_goals (refine kS ?_;refine kS ?_;refine jT λb a5=>?_;cases b <;> try simp only [jS] at a5)
   all_goals ((iterate 4 refine kS ?_);refine jT λb dp=>?_;cases b <;> try simp only [jS] at dp)
   all_goals ((iterate 3 refine kS ?_);refine jT λb dr=>?_;cases b <;> try simp only [jS] at dr)
   all_goals refine kM ?_
   all_goals obtain rfl:=E.out.symm
   all_goals first
     | (have X:=(congrArg kRv HC.out).trans ((okBi_eq _).symm.trans (show _=false by simp only [okBi,Au,Am,Av,Aw,Ap,Aq,Ba,Bb,Ay,Az,Ak,ge_iff_le,au,cg,a5,dp,dr]));have L:=yD (HB.out X);clear X HB HX HC;go_wp2;go_ret;exact ⟨kJ L.out.symm,rfl⟩)
     | (have X:=(congrArg kRv HC.out).trans ((okBi_eq _).symm.trans (show _=true by simp only [okBi,Au,Am,Av,Aw,Ap,Aq,Ba,Bb,Ay,Az,Ak,ge_iff_le,au,cg,a5,dp,dr]));have L:=yD (HX.out X);clear X HB HX HC;go_wp2;go_round;(case rel=>exact ⟨k + 1,by omega,by go_num,L⟩);(case measure=>simp [intOf];omega))
 have L:=yD (kYx Y.out hlt hk);go_wp2_with fail;refine yC.mono ?_;rintro e w1 ⟨rfl,hw⟩;obtain rfl:=hw.symm;exact oC
def zx (n:ko):Bool:=zN (λj=>kDb (n.getD j Ac)) n.length && decide (n.length<=6)
def jDa {n:ko} {k:Nat} (h:k < n.length) (q:kDb n[k]=false):zx n=false:=by
 unfold zx;rw [kDl h rP];rfl
def vName_next {n:ko} {k:Nat} (h:k < n.length) (q:kDb n[k]=true) (a:zN (λj=>kDb (n.getD j Ac)) k=true):zN (λj=>kDb (n.getD j Ac)) (k + 1)=true :=
  kBp a rP
def vName_good {n:ko} {k:Nat} (q:zN (λj=>kDb (n.getD j Ac)) k=true) (h:¬ k < n.length) (hk:k<=n.length):zx n=decide (n.length<=6):=by
 obtain rfl:k=n.length:=bF2;unfold zx;rw [q];rfl
def idx_all {α:Type} (p:α->Bool) (x:Ah α) (d:α):(!decide (0<=idxOf p x))=zN (λj=>!p (x.getD j d)) x.length:=by
 unfold idxOf;cases h:x.findIdx? p with
 | none =>
   have hn:=List.findIdx?_eq_none_iff.1 h;have:zN (λj=>!p (x.getD j d)) x.length=true:=by
     have key:∀ n,n<=x.length->zN (λj=>!p (x.getD j d)) n=true:=by
       intro n;induction n with
       | zero=>intro _;rfl
       | succ n ih =>
         intro bm;refine kBp (ih bF2) ?_
         (try simp only)
         rw [jb bF2,hn _ (List.getElem_mem _)];rfl
     exact key _ nL
   rw [this];simp
 | some i =>
   obtain ⟨hi,hp,_⟩:=List.findIdx?_eq_some_iff_getElem.1 h;rw [kDl hi (by (try simp only);rw [jb hi,hp];rfl)];simp
def vName_idx (n:ko):zx n=(decide (n.length<=6) && !decide (0<=idxOf (λp=>!kDb p) n)):=by
 unfold zx;rw [idx_all _ n Ac];simp only [Ak];exact Bool.and_comm _ _
def zF {w:Ae} {cn:Ah Ai} {n:ko} (hn:kR.raw w cn n):Bg prog 130 #[.agg cn.toArray] w (bQ w (.bool (zx n))):=by
 obtain ⟨av,rfl,V⟩:=kw hn;obtain ⟨aa,al,rfl,la⟩:=kD.sl V;clear hn;go_enter func130,ntmps130;go_wp2;generalize R:World.alloc w _=U;have Z:Qb w U:=by rw [<- R];exact bI
 have K0:Qd U w 0 (Qs aa n al):=vS;clear R;replace V:=V.below Z;go_loopw [3] (λi wr=>∃ k:Nat,k<=n.length/\i=.int .i64 k/\Hid (zN (λj=>kDb (n.getD j Ac)) k=true)/\Qb U wr) (λi _=>n.length - (intOf i).toNat);case atStart=>exact ⟨0,Nat.zero_le _,rfl,yD rfl,bR⟩
 obtain ⟨k,hk,rfl,Y,o⟩:=hrel;replace K0:=cL o K0;have F:=(tQ Z o);by_cases hlt:k < n.length
 · obtain ⟨ba,X,rfl,c0,hr,A0⟩:=kD.kCk (V.below o) hlt rfl;obtain ⟨he,be⟩:=kD.kAj hr;obtain rfl:c0=_:=by simpa using he
   clear he hr;have hb:=λq=>jDa hlt q;have hx:=λq=>vName_next hlt q Y.out;generalize n[k]=s at *;have HB:=yD hb;have HX:=yD hx;have H:=yD be;clear hb hx be;go_wp2_with fail;refine (kNb H.out).mono ?_;rintro e w1 ⟨rfl,hw⟩;obtain rfl:=hw.symm;cases hv:kDb s
   · have L:=yD (HB.out hv);go_wp2;go_ret;exact ⟨kJ L.out.symm,F⟩
   have L:=yD (HX.out hv);refine Qg ?_;exact ⟨k + 1,by omega,by go_num,L,o⟩
 have L:=yD (vName_good Y.out hlt hk);go_wp2;go_ret;exact ⟨kJ (by rw [L.out];simp;try omega),F⟩
def kVi {w:Ae} {s:Aa} (hs:s.size<=Bo):Bg prog 186 (#[.string s]++#[]) w (bQ w (.bool (!kDb s))):=by
 show Bg prog 186 #[_] w _;go_enter func186,ntmps186;go_wp2_with fail;refine (kXu hs).mono ?_;rintro e w1 ⟨rfl,hw⟩;obtain rfl:=hw.symm;go_wp2;go_ret;exact ⟨rfl,bR⟩
def kJe:jL prog 186:=yM func186 bE5 bE5
def kBo {w:Ae} {cn:Ah Ai} {n:ko} (hn:kR.raw w cn n):Bg prog 102 #[.agg cn.toArray] w (bQ w (.bool (zx n))):=by
 obtain ⟨av,rfl,V⟩:=kw hn;obtain ⟨aa,al,rfl,la⟩:=kD.sl V;clear hn;have X:=yD (vName_idx n);go_enter func102,ntmps102;by_cases hl:n.length<=6
 · have hd:decide ((n.length:Int)<=6)=true:=bE6;have dz:decide (n.length<=6)=true:=bC0;go_wp2_with fail;refine (kNu (λp=>!kDb p) kJe (V.below bI) ?_).mono ?_
   · intro wr hb i h c hr;obtain ⟨he,be⟩:=kD.kAj hr;obtain rfl:c=_:=by simpa using he
     exact kVi be
   rintro e w1 ⟨rfl,N⟩;have EF:Qb w w1:=Bq bI (N.mono bF3);clear N;go_wp2;go_ret;exact ⟨kJ (by rw [X.out,dz];simp),EF⟩
 have hd:decide ((n.length:Int)<=6)=false:=bE6;have dz:decide (n.length<=6)=false:=bC0;go_wp2;go_ret;exact ⟨kJ (by rw [X.out,dz];rfl),bI⟩
namespace kD
def kCz {α:Type} (r:kD α):Prop:=∀ {o:Bool} {w w':Ae} {cs:Ah Ai} {x:α} {S:Nat->Prop},r.is o w cs x S->r.is true w' cs x (λ_=>False)
def zH:int.kCz:=λh=>h
def kGw:byte.kCz:=λh=>h
def kEm:str.kCz:=λh=>h
def kWt {α β:Type} {r:kD α} {s:kD β} (h:r.kCz) (k:s.kCz):(pair r s).kCz:=by
 intro o w w' cs x S q;obtain ⟨c,d,A,B,rfl,h1,h2,_⟩:=q;exact ⟨c,d,_,_,rfl,h h1,k h2,λ_ h=>h,λ_ h=>h,λ_ _ h _=>h⟩
section
variable {α:Type} {r:kD α} {e:Bc} {w w':Ae} {v:Ai} {xs ys:Ah α} {S T:Nat->Prop}
def kLb (hr:r.kCz) {o:Bool}:∀ {cells:Ah Ai} {ys:Ah α} {S:Nat->Prop},row r o w cells ys S->row r true w' cells ys (λ_=>False)
  | _,[],_,h=>h
  | _,y :: ys,_,⟨c,d,A,B,h,h1,h2,_⟩=>⟨c,d,_,_,h,hr h1,kLb hr h2,λ_ h=>h,λ_ h=>h,λ_ _ h _=>h⟩
def kPg {P:Bl} {t ty:Bc} {z:Ai} {bytes:Nat} (ht:P.underlying t=some (.slice e)) (hinf:(P.info? e).map (λi=>(i.zero,i.size,i.bytes))=some (some z,r.n,bytes)) (hzs:z.cells.size=r.n) (hn:0 < r.n) (hby:bytes<=1000) (hf:r.kCz)
    {B:Nat} (hown:kY e r w v xs S) {av:Option Addr} {len cap:Nat} (hy:(slice e r).rd w [.slice av len cap] ys) (hSB:∀ k,S k->B<=k/\k < w.heap.size) (hB:B<=w.heap.size) (hlen:xs.length + ys.length<=1000000000) :
    ∃ v' w',(Br #[t,t] ty #[v,.slice av len cap]).run P w=.ok v' w'/\kY e r w' v' (xs++ys) (jg B w')/\Below B w w'/\w.heap.size<=w'.heap.size:=by
 obtain ⟨i,hi,hz,hsize,L⟩:=info_parts hinf
 obtain ⟨cells,hsrc,hrow⟩:=jFr hy.1
 have o:row r true w cells ys (λ_=>False):=kLb hf hrow
 obtain ⟨v',w',hr,h2,h3⟩:=kFg (P:=P) (ty:=ty) ht hi hz hsize hzs hn bF2 hown hsrc (zR hrow) (row_one hrow) hlen
 refine ⟨v',w',hr,(h3 o (λ_ _ h=>h) hy.2.2).wide ?_,h2.below hB ?_,h2.size⟩
 · exact lD
 intro k hk;exact (hSB k hk.2).1
def kX {P:Bl} {o:Oper} {a:Act} {K:Act->Ae->Prop} {Q:Exit->Act->Ae->Prop} (s x:Operand) (t:Bc)
    (ho:o.op=.call { callee:=.builtin .append,args:=#[s,x],argTypes:=#[t,t] }) {v sv v':Ai} (hs:a.eval s=v) (hx:a.eval x=sv) {w w':Ae}
    (hr:(Br #[t,t] o.type #[v,sv]).run P w=.ok v' w') (h:K (a.put o.dst v') w'):o.wp P a w K Q:=by
 unfold Oper.wp execOp
 simp only [ho,resolve,invoke,builtin,Sem.run_bind,Sem.run_pure,Result.andThen_ok,List.map_toArray,List.map_cons,List.map_nil,hs,hx,hr]
 exact h
def yh {P:Bl} {ops:Array Oper} {rest:Ah Oper} {o:Oper} {a:Act} {Q:Exit->Act->Ae->Prop} (D:o.guard=none) (s x:Operand) (t:Bc)
    (ho:o.op=.call { callee:=.builtin .append,args:=#[s,x],argTypes:=#[t,t] })
    {z:Ai} {bytes:Nat} (ht:P.underlying t=some (.slice e)) (hinf:(P.info? e).map (λi=>(i.zero,i.size,i.bytes))=some (some z,r.n,bytes)) (hzs:z.cells.size=r.n) (hn:0 < r.n) (hby:bytes<=1000) (hf:r.kCz)
    {B:Nat} (hown:kY e r w v xs S) (hs:a.eval s=v) {av:Option Addr} {len cap:Nat} (hx:a.eval x=.slice av len cap) (hy:(slice e r).rd w [.slice av len cap] ys) (hSB:∀ k,S k->B<=k/\k < w.heap.size) (hB:B<=w.heap.size) (hlen:xs.length + ys.length<=1000000000)
    (h:∀ v' w',kY e r w' v' (xs++ys) (jg B w')->Below B w w'->w.heap.size<=w'.heap.size->wpList P ops Q rest (a.put o.dst v') w'):wpList P ops Q (o :: rest) a w:=by
 refine wpList_plain D λ_ H=>?_
 obtain ⟨v',w',hr,h1,h2,h3⟩:=kPg (ty:=o.type) ht hinf hzs hn hby hf hown hy hSB hB hlen
 exact kX s x t ho hs hx hr (H _ _ (h v' w' h1 h2 h3))
end
end kD
def jBy {w:Ae} {va:Ai} {x:Ah Aa} (ha:(kD.slice 9 kD.str).rd w [va] x):Bg prog 191 #[va] w (kBh (kD.slice 9 kD.str) x w):=by
 obtain ⟨aa,al,rfl,la⟩:=kD.sl ha.1;have HA:=yD ha;have E:=λ(W:Ae) (a:Option Addr) (n c:Nat)=>Lib.run_eql_slice_nil (P:=prog) W 34 9 a n c 0 0 Al;cases aa with
 | none =>
   have hx:x=[]:=by
     cases x with
     | nil=>rfl
     | cons y ys =>
       exact aJ
   subst hx;clear ha;go_enter func191,ntmps191;go_wp2;go_ret;exact ⟨_,rfl,kD.yF,bR⟩
 | some a =>
   have hb:x.length<=16777216:=ha.2.1;clear ha;go_enter func191,ntmps191;have O0:kD.kY 9 kD.str (w.alloc (.cells #[] 9)) (.slice (some ⟨w,0,none⟩) 0 0) [] (λk=>k=w.heap.size):=kD.yR (cs:=[]) (xs:=[]) (T:=λ_=>False) bF3 bF3 rfl (λ_ h=>h.elim) rfl;go_wp2_with (at_builtin;refine kD.yh rfl _ _ 34 rfl (r:=kD.str) (e:=9) Al kCv rfl bF1 bF1 kD.kEm (B:=w.heap.size) O0 bF4 bF4 (HA.out.alloc _) rY bF3 bE6 ?_);exact aK
def zG {w:Ae} {ca:Ah Ai} {x:ko} (ha:kR.rd w ca x):Bg prog 108 #[.agg ca.toArray] w (kAb kR x w):=by
 have HA:=yD ha;obtain ⟨av,rfl,V⟩:=kw ha.1;obtain ⟨aa,al,rfl,la⟩:=kD.sl V;clear ha;go_enter func108,ntmps108;go_wp2_with fail;refine (jBy (HA.out.below bI)).mono ?_;rintro e w2 ⟨v2,rfl,O2,o⟩;obtain ⟨a2,c2,hv,_⟩:=kD.kAw O2.raw;obtain rfl:v2=_:=by simpa using hv
 have J:Hid (kR.own w2 [Qs a2 x c2] x (jg (w.heap.size + 2) w2)):=yD (O2.wide pE);have D:Qb w w2:=Bq bI (o.mono sK);clear hv O2;obtain ⟨R0,F0⟩:=x8;clear o;go_wp2;refine bodyPost_ret (v:=.agg #[Qs a2 x c2]) (by simp [results,results108,go_sem,R0,F0]) rfl ⟨[_],rfl,?_,?_⟩
 · exact (J.out.setCell fK).wide gL
 exact D.setCell bF3 _
def zg {w:Ae} {ca:Ah Ai} {x:ko} (ha:kR.rd w ca x):Bg prog 92 #[.agg ca.toArray] w (kAb kR x w):=by
 have HA:=yD ha;obtain ⟨av,rfl,V⟩:=kw ha.1;obtain ⟨aa,al,rfl,la⟩:=kD.sl V;have hb:x.length<=16777216:=ha.2.1;clear ha;go_enter func92,ntmps92;have O0:kD.kY 9 kD.str (((w.alloc (.cells #[.slice aa x.length al] 36)).alloc (.cells #[.slice none 0 0] 36)).alloc (.cells #[] 9)) (.slice (some ⟨w.heap.size + 1 + 1,0,none⟩) 0 0) [] (λk=>k=w.heap.size + 1 + 1):=by
  exact aM
 go_wp2_with (at_builtin;refine kD.yh rfl _ _ 34 rfl (r:=kD.str) (e:=9) Al kCv rfl bF1 bF1 kD.kEm (B:=w.heap.size + 1 + 1) O0 bF4 bF4 (HA.out.below bI) rY bF3 bE6 ?_);intro v2 w2 hown o hz;obtain ⟨a2,c2,hv⟩:=hown.zJ;obtain rfl:=hv;have hw:=hown.own wO;have J:Hid (kR.own w2 [Qs a2 x c2] x (jg (w.heap.size + 1 + 1) w2)):=yD hw;have D:Qb w w2:=Bq bI (o.mono sK);clear hown O0 hw;obtain ⟨R0,F0⟩:=x8;clear o;go_wp2;refine bodyPost_ret (v:=.agg #[Qs a2 x c2]) pX rfl ⟨[_],rfl,?_,?_⟩
 · exact (J.out.setCell fK).wide gL
 exact D.setCell bF3 _
namespace kD
section
variable {α:Type} {r:kD α} {e:Bc} {w w':Ae} {v:Ai} {b cap n:Nat} {kept rest xs:Ah α} {j:Nat} {x:α} {S T:Nat->Prop}
def gap (e:Bc) (r:kD α) (w:Ae) (b cap n:Nat) (kept:Ah α) (j:Nat) (rest:Ah α) (S:Nat->Prop):Prop :=
  (∀ x∈kept,r.bdd Big x)/\(∀ x∈rest,r.bdd Big x)/\kept.length + j + rest.length=n/\n<=cap/\cap<=Bo/\S b /\
  ∃ (c D d tl:Ah Ai) (A B:Nat->Prop),w.heap[b]?=some (.cells (c++(D++(d++tl))).toArray e (0,0))/\(c++(D++(d++tl))).length=cap * r.n/\D.length=j * r.n /\
    row r true w c kept A/\row r true w d rest B/\(∀ k,A k->S k/\k≠b)/\(∀ k,B k->S k/\k≠b)/\(∀ k,A k->B k->False)
def gap.lt (h:gap e r w b cap n kept j rest S):b < w.heap.size:=by
 obtain ⟨_,_,_,_,_,_,c,D,d,tl,A,B,h1,_⟩:=h;exact (Ad.1 h1).1
def gap.mem (h:gap e r w b cap n kept j rest S):S b:=h.2.2.2.2.2.1
def gap.len (h:gap e r w b cap n kept j rest S):kept.length + j + rest.length=n/\n<=cap/\cap<=Bo:=⟨h.2.2.1,h.2.2.2.1,h.2.2.2.2.1⟩
def gap.keep (h:gap e r w b cap n kept j rest S) (k:∀ k,S k->k < w.heap.size->w'.heap[k]?=w.heap[k]?):gap e r w' b cap n kept j rest S:=by
 obtain ⟨a1,a2,a3,a4,a5,a6,c,D,d,tl,A,B,h1,h2,h3,h4,h5,h6,h7,h8⟩:=h;refine ⟨a1,a2,a3,a4,a5,a6,c,D,d,tl,(λk=>A k/\k < w.heap.size),(λk=>B k/\k < w.heap.size),(k b a6 (Ad.1 h1).1).trans h1,h2,h3,yV (zl h4) (λi hi=>k i (h6 i hi.1).1 hi.2),yV (zl h5) (λi hi=>k i (h7 i hi.1).1 hi.2),λi hi=>h6 i hi.1,λi hi=>h7 i hi.1,λi h F=>h8 i h.1 F.1⟩
def gap.below (h:gap e r w b cap n kept j rest S) (k:Qb w w'):gap e r w' b cap n kept j rest S:=h.keep (λi _ hi=>k.block i hi)
def gap.frozen (h:gap e r w b cap n kept j rest S) (i:Nat):w.frozen? ⟨b,i,none⟩=false:=by
 obtain ⟨_,_,_,_,_,_,c,D,d,tl,A,B,h1,_⟩:=h;exact frozen_of_row w b i _ _ h1
def kLm (h:kY e r w v xs S) {i:Nat} (hi:i < xs.length):∃ b cap,v=.slice (some ⟨b,0,none⟩) xs.length cap/\gap e r w b cap xs.length (xs.take i) 0 (xs.drop i) S:=by
 obtain ⟨hb,h⟩:=h;rcases h with ⟨⟨a,rfl⟩,rfl⟩|⟨b,cap,cur,cs,tl,rfl,h1,h2,h3,h4,h5,h6,h7⟩
 · simp at hi
 refine ⟨b,cap,rfl,λx hx=>hb x (List.mem_of_mem_take hx),λx hx=>hb x (Aj hx),by simp;omega,h1,h2,h6,?_⟩;have e1:xs=xs.take i++xs.drop i:=bF3;rw [e1] at h7;obtain ⟨c,d,A,B,rfl,r1,r2,hA,hB,hd⟩:=kHz _ h7;refine ⟨c,[],d,tl,A,B,?_,?_,by simp,r1,r2,hA,hB,hd rfl⟩
 · rw [h3,show cur=(c++([]++(d++tl))).toArray from by rw [show c++([]++(d++tl))=cur.toList from by rw [h4];simp]]
 rw [<- h5,<- Array.length_toList,h4];simp
def gap.skip (h:gap e r w b cap n kept j (x :: rest) S):gap e r w b cap n kept (j + 1) rest S:=by
 obtain ⟨a1,a2,a3,a4,a5,a6,c,D,d,tl,A,B,h1,h2,h3,h4,⟨c1,d1,A1,B1,rfl,q1,q2,hA1,H,hd1⟩,h6,h7,h8⟩:=h;refine ⟨a1,λy hy=>a2 y bE9,by simp at a3;omega,a4,a5,a6,c,D++c1,d1,tl,A,B1,by rw [h1];simp,by rw [<- h2];simp,?_,h4,q2,h6,λk hk=>h7 k (H k hk),λk h F=>h8 k h (H k F)⟩;simp [h3,r.len q1,Nat.add_mul]
def gap.next (h:gap e r w b cap n kept j (x :: rest) S):∃ cs,r.raw w cs x/\cs.length=r.n/\r.bdd Big x/\(∀ q c,cs[q]?=some c->w.cell? ⟨b,(kept.length + j) * r.n + q,none⟩=some c) /\
    ∀ w1,Qb w w1->0 < j->∀ p,p=kept.length * r.n->gap e r (setCells w1 b p cs) b cap n (kept++[x]) j rest S/\Touch (λk=>k=b) w1 (setCells w1 b p cs):=by
 have H0:=h
 obtain ⟨a1,a2,a3,a4,a5,a6,c,D,d,tl,A,B,h1,h2,h3,h4,⟨c1,d1,A1,B1,rfl,q1,q2,hA1,H,hd1⟩,h6,h7,h8⟩:=h
 have an:=zR h4
 have dj:=r.len q1
 refine ⟨c1,r.wide (r.weak q1) (λ_ _=>trivial),dj,a2 x bF3,?_,?_⟩
 · intro q u hq;have b8:=(List.getElem?_eq_some_iff.1 hq).1;rw [cell_of_row w b _ _ e (0,0) h1];simp only [Be];rw [Ar (by rw [an,Nat.add_mul];omega),Ar (by rw [an,h3,Nat.add_mul];omega),Bn,List.getElem?_append_left (by rw [an,h3,Nat.add_mul];omega)];rw [<- hq];congr 1;rw [an,h3,Nat.add_mul];omega
 intro w1 hw I p hp
 refine ⟨?_,ze _ _ _ _⟩
 obtain ⟨b1,b2,L,N,O,U,_⟩:=H0
 have R:w1.heap[b]?=_:=(hw.block b (Ad.1 h1).1).trans h1
 have aa:r.n<=D.length:=by rw [h3];exact Nat.le_mul_of_pos_left _ I
 have J:(setCells w1 b p c1).heap[b]?=some (.cells (c++(c1++(D.drop r.n++((c1++d1)++tl)))).toArray e (0,0)):=by
  refine kAl c1 (D.take r.n) c (D.drop r.n++((c1++d1)++tl)) w1 b p ?_ (by rw [an,hp]) (by rw [List.length_take,dj];omega);rw [R,<- Bn (D.take r.n),List.take_append_drop]
 have E:∀ k,k≠b->k < w.heap.size->(setCells w1 b p c1).heap[k]?=w.heap[k]?:=λk hk hl=>(kAp c1 w1 b p k hk).trans (hw.block k hl)
 refine ⟨?_,λy hy=>a2 y bE9,by simp at a3 ⊢;omega,a4,a5,a6,c++c1,D.drop r.n++c1,d1,tl,(λk=>(A k\/A1 k)/\k < w.heap.size),(λk=>B1 k/\k < w.heap.size),by rw [J];simp,?_,?_,?_,?_,?_,?_,?_⟩
 · intro y hy;rcases Bd.1 hy with hy | hy
   · exact a1 y hy
   obtain rfl:y=x:=by simpa using hy
   exact a2 y bF3
 · rw [<- h2];simp;omega
 · rw [List.length_append,List.length_drop,h3,dj];have:=h3;omega
 · refine kAh (A:=λk=>A k/\k < w.heap.size) (B:=λk=>A1 k/\k < w.heap.size) (yV (zl h4) (λk hk=>E k (h6 k hk.1).2 hk.2)) (yV (zl (kDh q1)) (λk hk=>E k (h7 k (hA1 k hk.1)).2 hk.2)) (λk hk=>⟨.inl hk.1,hk.2⟩) (λk hk=>⟨.inr hk.1,hk.2⟩) (λ_ k h F=>h8 k h.1 (hA1 k F.1))
 · exact yV (zl q2) (λk hk=>E k (h7 k (H k hk.1)).2 hk.2)
 · rintro k ⟨hk | hk,_⟩
   · exact h6 k hk
   exact h7 k (hA1 k hk)
 · intro k hk;exact h7 k (H k hk.1)
 rintro k ⟨hk | hk,_⟩ F
 · exact h8 k hk (H k F.1)
 exact hd1 rfl k hk F.1
def kHt:∀ (cs:Ah Ai) (w:Ae) (b p:Nat),w.setCells b p cs=setCells w b p cs
  | [],_,_,_=>rfl
  | c :: cs,w,b,p=>by
    simp only [World.setCells,setCells];exact kHt cs _ b (p + 1)
def gap.cells (h:gap e r w b cap n kept j rest S) {i:Nat} (hi:i < cap * r.n):(w.cell? ⟨b,i,none⟩).isSome=true:=by
 obtain ⟨_,_,_,_,_,_,c,D,d,tl,A,B,h1,h2,_⟩:=h;rw [cell_of_row w b _ _ e (0,0) h1];simp only [Be];rw [List.getElem?_eq_getElem (by rw [h2];exact hi)];rfl
def gap.wipe (h:gap e r w b cap n kept j [] S) {zs:Ah Ai} (hz:zs.length=j * r.n) {p:Nat} (hp:p=kept.length * r.n) :
    kY e r (setCells w b p zs) (.slice (some ⟨b,0,none⟩) kept.length cap) kept S/\Touch (λk=>k=b) w (setCells w b p zs):=by
 obtain ⟨a1,a2,a3,a4,a5,a6,c,D,d,tl,A,B,h1,h2,h3,h4,h5,h6,h7,h8⟩:=h
 obtain rfl:d=[]:=h5
 have an:=zR h4
 refine ⟨⟨a1,.inr ⟨b,cap,_,c,zs++tl,rfl,by simp at a3;omega,a5,?_,rfl,?_,a6,?_⟩⟩,ze _ _ _ _⟩
 · exact kAl zs D c tl w b p bC5 (by rw [an,hp]) (by rw [h3,hz])
 · rw [<- h2];simp;omega
 exact yU (yV (zl h4) (λk hk=>kAp zs w b p k (h6 k hk.1).2)) (λk hk=>h6 k hk.1)
def gap.done (h:gap e r w b cap n kept 0 [] S):kY e r w (.slice (some ⟨b,0,none⟩) kept.length cap) kept S:=by
 have:=(h.wipe (zs:=[]) bF3 rfl).1;exact this
def kLa {P:Bl} {t ty:Bc} {z:Ai} (ht:P.underlying t=some (.slice e)) (hv:∀ w,(zeroValue e).run P w=.ok z w) (h1:∀ u∈z.cells,u.oneCell'=true) (b o m c:Nat) (hm:0 < m)
    (hc:∀ j,j < (Ab z.cells m).size->(w.cell? ⟨b,o + j,none⟩).isSome=true) (hf:∀ j,j < (Ab z.cells m).size->w.frozen? ⟨b,o + j,none⟩=false) (a5:0 < z.cells.size) :
    (Bf #[t] ty #[.slice (some ⟨b,o,none⟩) m c]).run P w=.ok (.tuple #[]) (setCells w b o (Ab z.cells m).toList):=by
 have E:∀ v∈(Ab z.cells m).toList,v.oneCell'=true:=by
  intro v D;simp only [Ab,Array.toList_map,List.mem_map] at D;obtain ⟨i,_,rfl⟩:=D;have hlt:=Nat.mod_lt i a5;rw [getElem!_pos z.cells _ hlt];exact h1 _ (Array.getElem_mem hlt)
 have J:=run_storeCells_cells (P:=P) b o (Ab z.cells m).toList 0 w bC1 bC6 E
 simp only [Nat.add_zero] at J
 obtain ⟨q,rfl⟩:∃ q,m=q + 1:=⟨m - 1,by omega⟩
 rw [<- kHt]
 simp [Bf,run_underlying ht,hv,J]
def zero_of_info {P:Bl} {i:TypeInfo} {z:Ai} (hi:P.info? e=some i) (hz:i.zero=some z):∀ w,(zeroValue e).run P w=.ok z w:=by
 intro w;simp [zeroValue,typeInfo,hi,hz]
def gap.kLa {P:Bl} {t ty:Bc} {z:Ai} {bytes:Nat} (h:gap e r w b cap n kept j [] S) (I:0 < j) (ht:P.underlying t=some (.slice e)) (hinf:(P.info? e).map (λi=>(i.zero,i.size,i.bytes))=some (some z,r.n,bytes)) (hzs:z.cells.size=r.n) (hn:0 < r.n) (E:∀ u∈z.cells,u.oneCell'=true)
    {p c:Nat} (hp:p=kept.length * r.n) :
    ∃ w',(Bf #[t] ty #[.slice (some ⟨b,p,none⟩) j c]).run P w=.ok (.tuple #[]) w'/\kY e r w' (.slice (some ⟨b,0,none⟩) kept.length cap) kept S/\Touch (λk=>k=b) w w':=by
 obtain ⟨i,hi,hz,hsize,L⟩:=info_parts hinf
 have be:(Ab z.cells j).size=j * r.n:=by rw [size_zeroCells,hzs]
 have hl:=h.len
 have D:∀ q,q < j * r.n->p + q < cap * r.n:=by
  intro q hq;have h1:(kept.length + j) * r.n<=cap * r.n:=Nat.mul_le_mul_right _ (by have:=hl.1;simp at this;omega);rw [Nat.add_mul] at h1;omega
 have hr:=kD.kLa (P:=P) (ty:=ty) (w:=w) ht (zero_of_info hi hz) E b p j c I (λq hq=>h.cells (D q (by rwa [be] at hq))) (λq _=>h.frozen _) bF2
 obtain ⟨h1,h2⟩:=h.wipe (zs:=(Ab z.cells j).toList) (by simpa using be) hp
 exact ⟨_,hr,h1,h2⟩
end
end kD
variable {α:Type} {r:kD α} {e:Bc} {w w':Ae} {v:Ai} {xs ys:Ah α} {S:Nat->Prop}
def kBu (e:Bc) (r:kD α) (x:Ah α) (w:Ae) (E:Ending) (w':Ae):Prop:=∃ v,E=.returned v/\kD.kY e r w' v x (jg w w')/\Qb w w'
def kD.kY.cast (h:kD.kY e r w v xs S) (k:xs=ys):kD.kY e r w v ys S:=k ▸ h
def kD.kY.parts (h:kD.kY e r w v xs S):∃ a n cap,v=.slice a n cap/\Hid (n=xs.length):=by
 obtain ⟨a,cap,h⟩:=h.zJ;exact ⟨a,_,cap,h,yD rfl⟩
def kBu.post {E:Ending} (h:kBu e r xs w E w') (hl:xs.length<=Big):kBh (kD.slice e r) xs w E w':=by
 obtain ⟨v,rfl,h1,h2⟩:=h;exact ⟨v,rfl,h1.own hl,h2⟩
def kDj {α:Type} {p:α->Bool} {l:Ah α} {k:Nat} (h:k < l.length) (q:p l[k]=true):(l.take (k + 1)).filter p=(l.take k).filter p++[l[k]]:=by
 rw [Ag h,Bh];simp [q]
def kCc {α:Type} {p:α->Bool} {l:Ah α} {k:Nat} (h:k < l.length) (q:p l[k]=false):(l.take (k + 1)).filter p=(l.take k).filter p:=by
 rw [Ag h,Bh];simp [q]
def zf {α:Type} {p:α->Bool} {l:Ah α} {k:Nat} (h:k<=l.length):((l.take k).filter p).length<=k:=by
 have h1:=List.length_filter_le p (l.take k);rw [List.length_take_of_le h] at h1;exact h1
def zO (ps:Ah Aa):Prop:=∀ p∈ps,p.size<=64
def zO.snoc {ps:Ah Aa} {y:Aa} (h:zO ps) (hy:y.size<=64):zO (ps++[y]):=λp hp=>by
  rcases Bd.1 hp with hp | hp
  · exact h p hp
  · rw [Bi.1 hp];exact hy
def zO.nil:zO []:=λp hp=>by simp at hp
def zO.drop {ps:Ah Aa} (h:zO ps) (k:Nat):zO (ps.drop k):=λp hp=>h p (Aj hp)
def kDg (M:Nat) (ps:Ah Aa):Prop:=∀ p∈ps,p.size<=M
def kDg.nil {M:Nat}:kDg M []:=λp hp=>by simp at hp
def kDg.drop {M:Nat} {ps:Ah Aa} (h:kDg M ps) (k:Nat):kDg M (ps.drop k):=λp hp=>h p (Aj hp)
def kDg.cut {M:Nat} {ps:Ah Aa} {s:Aa} (h:kDg M ps) (hs:s.size<=M) (m k:Nat):kDg M (ps++[s.extract m k]):=λp hp=>by
  rcases Bd.1 hp with hp | hp
  · exact h p hp
  · rw [Bi.1 hp];simp only [ByteArray.size_extract];omega
def kQs {w:Ae} {s:Aa} {M:Nat} (hM:M<=1000) (hs:s.size<=M) {by0:Nat} (hb:by0 < 256) :
    Bg prog 248 #[.string s,.int .u8 by0] w λe w'=>∃ v,e=.returned v/\∃ ps,kD.kY 9 kD.str w' v ps (jg w w')/\0 < ps.length/\ps.length<=M + 1/\kDg M ps/\Qb w w':=by
 go_enter func248,ntmps248
 go_wp2
 go_loopw [5,6,7] (λv f i wr=>∃ (k m:Nat) (ps:Ah Aa),k<=s.size + 1/\m<=k/\i=.int .i64 k/\f=.int .i64 m/\ps.length<=k/\(k=s.size + 1->0 < ps.length)/\Hid (kDg M ps)/\Hid (kD.kY 9 kD.str wr v ps (jg w wr))/\Qb w wr) (λ_ _ i _=>s.size + 1 - (intOf i).toNat)
 case atStart=>exact ⟨0,0,[],by omega,by omega,rfl,rfl,by simp,by omega,yD kDg.nil,yD kD.kY.void,bR.alloc nL _⟩
 obtain ⟨k,m,ps,hk,hm,rfl,rfl,ee,bh,cd,J,o⟩:=hrel
 obtain ⟨oa,on,oc,ho,ay⟩:=J.out.parts
 obtain rfl:=ho
 have ch:=o.size
 have b9:=Bj k
 have bc:=Bj m
 by_cases aw:k<=s.size
 · have D:(k:Int)<=s.size:=bF2;by_cases he:k=s.size
   · have F:(k:Int)=s.size:=bF2;go_wp2_with (at_builtin;refine kD.jR rfl _ _ 34 rfl (r:=kD.str) (e:=9) Al kCv rfl bF1 bF1 (B:=w.heap.size) J.out bF4 bF4 rfl (kD.flat.own (S:=λ_=>False) (kD.kGz (s:=s.extract m s.size) mI)) rfl (λ_ _ h=>h) sI (λ_ h=>h.elim) bF2 bF2 ?_);intro v2 w2 H ag ax;have ab:=yD H;obtain ⟨pa,pn,pc,hp,bo⟩:=H.parts;obtain rfl:=hp;have N:=o.trans ag;clear H ag;refine Qg ?_;exact ⟨k + 1,k + 1,_,by omega,by omega,by go_num,by go_num,by simp;omega,by simp,yD (cd.out.cut hs m s.size),ab,N⟩
   have F:¬ (k:Int)=s.size:=bF2;have L:(k:Int) < s.size:=bF2;have U:(m:Int)<=k:=bF2;go_upto_region 6 with fail;refine kL (λW=>Qb wr W) [Tt,Tt,Tt,Tt,Tt,Tt,Tt,Tt,Tt,Tt,Tt] (bR) ?_;intro wS E;all_goals ((iterate 4 refine kS ?_);refine jT λb a1=>?_;cases b <;> try simp only [jS] at a1)
   all_goals ((iterate 5 refine kS ?_);refine jT λb ar=>?_;cases b <;> try simp only [jS] at ar)
   all_goals (refine kM ?_;replace o:=(tQ o E);replace J:=yD ((J.out.below E).wide (T:=jg w wS) (λj I=>⟨I.1,by have:=I.2;have:=E.size;omega⟩));have ch:=o.size;clear E)
   all_goals first
     | (refine Qg ?_;exact ⟨k + 1,m,ps,by omega,by omega,by go_num,rfl,by omega,by omega,cd,J,o⟩)
     | skip
   all_goals
     go_wp2_with (at_builtin;refine kD.jR rfl _ _ 34 rfl (r:=kD.str) (e:=9) Al kCv rfl bF1 bF1 (B:=w.heap.size) J.out bF4 bF4 rfl (kD.flat.own (S:=λ_=>False) (kD.kGz (s:=s.extract m k) mI)) rfl (λ_ _ h=>h) sI (λ_ h=>h.elim) bF2 bF2 ?_)
     intro v2 w2 H ag ax
     have ab:=yD H
     obtain ⟨pa,pn,pc,hp,bo⟩:=H.parts
     obtain rfl:=hp
     have N:=o.trans ag
     clear H ag
     refine Qg ?_
     exact ⟨k + 1,k + 1,_,by omega,by omega,by go_num,by go_num,by simp;omega,by simp,yD (cd.out.cut hs m k),ab,N⟩
 have D:¬ (k:Int)<=s.size:=bF2
 have hp:=bh bF2
 go_wp2
 go_ret
 exact ⟨_,rfl,ps,J.out,hp,by omega,cd.out,o⟩
def kQr {w:Ae} {s:Aa} (hs:s.size<=64) {by0:Nat} (hb:by0 < 256) :
    Bg prog 248 #[.string s,.int .u8 by0] w λe w'=>∃ v,e=.returned v/\∃ ps,kD.kY 9 kD.str w' v ps (jg w w')/\0 < ps.length/\ps.length<=65/\zO ps/\Qb w w':=kQs (M:=64) bF1 hs hb
end Go.Proofs.YthocbplmdjkifaaGreat
