/-
  Names as the reference draws them.
-/
import Derived.Test.YtjhfdpopkkmigabGreatName
set_option linter.unusedVariables false
set_option linter.defProp false
set_option linter.unusedSimpArgs false
set_option linter.unnecessarySimpa false
set_option maxRecDepth 100000
set_option maxHeartbeats 4000000
open Bool renaming true->Tt,false->Ff
open _root_ renaming ByteArray->Aa,List->Ah
open Go.Builtin renaming zeroCells->Ab,clear_->Be,append_->Br
open ByteArray renaming empty->Ac
open Array renaming getElem?_eq_some_iff->Ad
open Go renaming World->Ae,Value->Ai,TypeId->Bb,Calls->Bf,Program->Bl,maxLen->Bp
open List renaming take_succ_eq_append_getElem->Ag,mem_of_mem_drop->Aj,getElem?_append_right->Aq,mem_append->Bc,getElem?_toArray->Bd,filter_append->Bg,mem_singleton->Bh,append_assoc->Bo
open Bool renaming not_not->Ak,not_false->Al,and_false->Am,false_and->Ap,not_true->Ar,and_true->Au,true_and->Av,or_false->Aw,false_or->Ay,or_true->Az,true_or->Ba
open Int renaming natCast_nonneg->Bi
open Go.RowKit renaming intOf->Bj
open Go.RowKit.Below renaming trans->Bq
namespace Go.Proofs.YtjhfdpopkkmigabGreat
open Go.RowKit _root_.Go.Proofs.Tryz
def kPe (c:Int):Bool:=!((!inR c 97 122 && !inR c 48 57) && (c != 45))
def okBi (c:Int):Bool:=((decide (c ≥ 97) && decide (c<=122)) || (decide (c ≥ 48) && decide (c<=57))) || (c==45)
def kCm (s:Aa) (j:Nat):Int:=(s.data.toList.getD j 0).toNat
def kCp (s:Aa):Bool:=zi (λj=>kPe (kCm s j)) s.size && inR s.size 1 8
def okBi_eq (c:Int):okBi c=kPe c:=by
 unfold okBi kPe inR;rw [Bool.eq_iff_iff];simp;try omega
def vPart_out {s:ByteArray} (h:inR s.size 1 8=false):kCp s=false:=by simp [kCp,h]
def kYx {s:Aa} {k:Nat} (h:k < s.size) (q:kPe (kCm s k)=false):kCp s=false:=by
 unfold kCp;rw [kDe h q];rfl
def kVm {s:Aa} {k:Nat} (q:zi (λj=>kPe (kCm s j)) k=true) (h:¬ k < s.size) (hk:k<=s.size):kCp s=inR s.size 1 8:=by
 obtain rfl:k=s.size:=bH3;unfold kCp;rw [q];rfl
def kKv {s:Aa} {k:Nat} (h:k < s.size):kCm s k=(s[k].toNat:Int):=by
 unfold kCm;rw [ja bF6];rfl
def kPk (s:Aa) (k:Nat):0<=kCm s k/\kCm s k < 256:=by
 unfold kCm;have:=(s.data.toList.getD k 0).toNat_lt;omega
def kLb {w:Ae} {s:Aa} (hs:s.size<=Bp):Bf prog 163 #[.string s] w λe w'=>e=.returned (.bool (kCp s))/\w'=w:=by
 unfold Bp at hs;go_enter func163,ntmps163;go_wp2_with fail;refine yA.mono ?_;rintro e w1 ⟨rfl,hw⟩;obtain rfl:=hw.symm;cases O:inR s.size 1 8
 · have L:=yD (vPart_out O);exact mW
 have HI:=yD O;go_wp2;go_loop [3] (λi=>∃ k:Nat,k<=s.size/\i=.int .i64 k/\Hid (zi (λj=>kPe (kCm s j)) k=true)) (λi=>s.size - (Bj i).toNat);case atStart=>exact ⟨0,Nat.zero_le _,rfl,yD rfl⟩
 obtain ⟨k,hk,rfl,HN⟩:=hrel;by_cases hlt:k < s.size
 · have hr:=kPk s k;have hg:=kKv hlt;have HB:=yD (λq=>kYx hlt q);have HX:=yD (λq=>kBe (f:=λj=>kPe (kCm s j)) HN.out q);go_upto_region 7 with fail;generalize (s[k].toNat:Int)=c at *;have HC:=yD hg;clear hg;refine kr (λW=>Hid (W=w)) [Tt,Ff,Tt,Tt,Tt,Ff,Tt,Tt,Tt,Tt,Tt,Tt] (yD rfl) ?_;intro wS E;all_goals refine ky ?_
   all_goals first | refine wkC (yA) ?_ | refine ky ?_
   all_goals refine ky ?_
   all_goals (refine jy λb bh=>?_;cases b <;> try simp only [jw] at bh)
   all_goals refine ky ?_
   all_goals first | refine wkC (yA) ?_ | refine ky ?_
   all_goals refine ky ?_
   all_goals refine ky ?_
   all_goals (refine jy λb ck=>?_;cases b <;> try simp only [jw] at ck)
   all_goals refine ky ?_
   all_goals refine ky ?_
   all_goals (refine jy λb an=>?_;cases b <;> try simp only [jw] at an)
   all_goals refine kS ?_
   all_goals obtain rfl:=E.out.symm
   all_goals first
     | (have X:=(congrArg kPe HC.out).trans (show _=false by simp only [kPe,Ar,Al,Au,Av,Am,Ap,Az,Ba,Aw,Ay,Ak,bh,ck,an]);have L:=yD (HB.out X);clear X HB HX HC;go_wp2;go_ret;exact ⟨kW L.out.symm,rfl⟩)
     | (have X:=(congrArg kPe HC.out).trans (show _=true by simp only [kPe,Ar,Al,Au,Av,Am,Ap,Az,Ba,Aw,Ay,Ak,bh,ck,an]);have L:=yD (HX.out X);clear X HB HX HC;go_wp2;go_round;(case rel=>exact ⟨k + 1,by omega,by go_num,L⟩);(case measure=>simp [Bj];omega))
 have L:=yD (kVm HN.out hlt hk);have HU:=yD (L.out.trans HI.out);go_wp2;go_ret;exact ⟨kW HU.out.symm,rfl⟩
def kUp {w:Ae} {s:Aa} (hs:s.size<=Bp):Bf prog 151 #[.string s] w λe w'=>e=.returned (.bool (kCp s))/\w'=w:=by
 unfold Bp at hs;go_enter func151,ntmps151;go_wp2;go_loop [7] (λi=>∃ k:Nat,k<=s.size/\i=.int .i64 k/\Hid (zi (λj=>kPe (kCm s j)) k=true)) (λi=>s.size - (Bj i).toNat);case atStart=>exact ⟨0,Nat.zero_le _,rfl,yD rfl⟩
 obtain ⟨k,hk,rfl,HN⟩:=hrel;by_cases hlt:k < s.size
 · have hr:=kPk s k;have hg:=kKv hlt;have HB:=yD (λq=>kYx hlt q);have HX:=yD (λq=>kBe (f:=λj=>kPe (kCm s j)) HN.out q);go_upto_region 5 with fail;generalize (s[k].toNat:Int)=c at *;have HC:=yD hg;clear hg;refine kr (λW=>Hid (W=w)) [Tt,Tt,Tt,Tt,Tt,Tt,Tt,Tt,Tt,Tt,Tt,Tt,Tt,Tt,Tt,Tt,Tt,Tt,Tt] (yD rfl) ?_;intro wS E;all_goals refine ky ?_
   all_goals refine ky ?_
   all_goals (refine jy λb al=>?_;cases b <;> try simp only [jw] at al)
   iterate 3
    all_goals refine ky ?_
   all_goals (refine jy λb cm=>?_;cases b <;> try simp only [jw] at cm)
   all_goals refine ky ?_
   all_goals refine ky ?_
   all_goals (refine jy λb O=>?_;cases b <;> try simp only [jw] at O)
   iterate 4
    all_goals refine ky ?_
   all_goals (refine jy λb d6=>?_;cases b <;> try simp only [jw] at d6)
   iterate 3
    all_goals refine ky ?_
   all_goals (refine jy λb dr=>?_;cases b <;> try simp only [jw] at dr)
   all_goals refine kS ?_
   all_goals obtain rfl:=E.out.symm
   all_goals first
     | (have X:=(congrArg kPe HC.out).trans ((okBi_eq _).symm.trans (show _=false by simp only [okBi,Ar,Al,Au,Av,Am,Ap,Az,Ba,Aw,Ay,Ak,ge_iff_le,al,cm,O,d6,dr]));have L:=yD (HB.out X);clear X HB HX HC;go_wp2;go_ret;exact ⟨kW L.out.symm,rfl⟩)
     | (have X:=(congrArg kPe HC.out).trans ((okBi_eq _).symm.trans (show _=true by simp only [okBi,Ar,Al,Au,Av,Am,Ap,Az,Ba,Aw,Ay,Ak,ge_iff_le,al,cm,O,d6,dr]));have L:=yD (HX.out X);clear X HB HX HC;go_wp2;go_round;(case rel=>exact ⟨k + 1,by omega,by go_num,L⟩);(case measure=>simp [Bj];omega))
 have L:=yD (kVm HN.out hlt hk);go_wp2_with fail;refine kBj.mono ?_;rintro e w1 ⟨rfl,hw⟩;obtain rfl:=hw.symm;exact mW
def kAp (n:kg):Bool:=zi (λj=>kCp (n.getD j Ac)) n.length && decide (n.length<=6)
def kYz {n:kg} {k:Nat} (h:k < n.length) (q:kCp n[k]=false):kAp n=false:=by
 unfold kAp;rw [kDe h rT];rfl
def vName_next {n:kg} {k:Nat} (h:k < n.length) (q:kCp n[k]=true) (a:zi (λj=>kCp (n.getD j Ac)) k=true):zi (λj=>kCp (n.getD j Ac)) (k + 1)=true :=
  kBe a rT
def vName_good {n:kg} {k:Nat} (q:zi (λj=>kCp (n.getD j Ac)) k=true) (h:¬ k < n.length) (hk:k<=n.length):kAp n=decide (n.length<=6):=by
 obtain rfl:k=n.length:=bH3;unfold kAp;rw [q];rfl
def idx_all {α:Type} (p:α->Bool) (x:Ah α) (d:α):(!decide (0<=idxOf p x))=zi (λj=>!p (x.getD j d)) x.length:=by
 unfold idxOf;cases h:x.findIdx? p with
 | none =>
   have hn:=List.findIdx?_eq_none_iff.1 h;have:zi (λj=>!p (x.getD j d)) x.length=true:=by
     have key:∀ n,n<=x.length->zi (λj=>!p (x.getD j d)) n=true:=by
       intro n;induction n with
       | zero=>intro _;rfl
       | succ n ih =>
         intro a6;refine kBe (ih bH3) ?_
         (try simp only)
         rw [ja bH3,hn _ (List.getElem_mem _)];rfl
     exact key _ nL
   rw [this];simp
 | some i =>
   obtain ⟨hi,hp,_⟩:=List.findIdx?_eq_some_iff_getElem.1 h;rw [kDe hi (by (try simp only);rw [ja hi,hp];rfl)];simp
def vName_idx (n:kg):kAp n=(decide (n.length<=6) && !decide (0<=idxOf (λp=>!kCp p) n)):=by
 unfold kAp;rw [idx_all _ n Ac];simp only [Ak];exact Bool.and_comm _ _
def yg {w:Ae} {cn:Ah Ai} {n:kg} (hn:kN.raw w cn n):Bf prog 98 #[.agg cn.toArray] w (bQ w (.bool (kAp n))):=by
 obtain ⟨av,rfl,Z⟩:=kX hn;obtain ⟨aa,ao,rfl,la⟩:=kD.sl Z;clear hn;go_enter func98,ntmps98;go_wp2;generalize J:World.alloc w _=N;have EB:Qb w N:=by rw [<- J];exact bI
 have K0:Qd N w 0 (.slice aa n.length ao):=wF;clear J;replace Z:=Z.below EB;go_loopw [3] (λi wr=>∃ k:Nat,k<=n.length/\i=.int .i64 k/\Hid (zi (λj=>kCp (n.getD j Ac)) k=true)/\Qb N wr) (λi _=>n.length - (Bj i).toNat);case atStart=>exact ⟨0,Nat.zero_le _,rfl,yD rfl,bR⟩
 obtain ⟨k,hk,rfl,HN,o⟩:=hrel;replace K0:=cL o K0;have D:=(tQ EB o);by_cases hlt:k < n.length
 · obtain ⟨ba,G,rfl,c0,hr,A0⟩:=kD.kCu (Z.below o) hlt rfl;obtain ⟨he,U⟩:=kD.zz hr;obtain rfl:c0=_:=by simpa using he
   clear he hr;have hb:=λq=>kYz hlt q;have hx:=λq=>vName_next hlt q HN.out;generalize n[k]=s at *;have HB:=yD hb;have HX:=yD hx;have H:=yD U;clear hb hx U;go_wp2_with fail;refine (kLb H.out).mono ?_;rintro e w1 ⟨rfl,hw⟩;obtain rfl:=hw.symm;cases hv:kCp s
   · have L:=yD (HB.out hv);go_wp2;go_ret;exact ⟨kW L.out.symm,D⟩
   have L:=yD (HX.out hv);go_wp2;go_roundw;case rel=>exact ⟨k + 1,by omega,by go_num,L,o⟩
   simp [Bj];omega
 have L:=yD (vName_good HN.out hlt hk);go_wp2;go_ret;exact ⟨kW (by rw [L.out];simp;try omega),D⟩
def kSk {w:Ae} {s:Aa} (hs:s.size<=Bp):Bf prog 150 (#[.string s]++#[]) w (bQ w (.bool (!kCp s))):=by
 show Bf prog 150 #[_] w _;go_enter func150,ntmps150;go_wp2_with fail;refine (kUp hs).mono ?_;rintro e w1 ⟨rfl,hw⟩;obtain rfl:=hw.symm;go_wp2;go_ret;exact ⟨rfl,bR⟩
def kHy:jK prog 150:=zP func150 bG6 bG6
def kUq {w:Ae} {cn:Ah Ai} {n:kg} (hn:kN.raw w cn n):Bf prog 76 #[.agg cn.toArray] w (bQ w (.bool (kAp n))):=by
 obtain ⟨av,rfl,Z⟩:=kX hn;obtain ⟨aa,ao,rfl,la⟩:=kD.sl Z;clear hn;have X:=yD (vName_idx n);go_enter func76,ntmps76;by_cases hl:n.length<=6
 · have hd:decide ((n.length:Int)<=6)=true:=bG7;have ac:decide (n.length<=6)=true:=bD8;go_wp2_with fail;refine (kLs (λp=>!kCp p) kHy (Z.below bI) ?_).mono ?_
   · intro wr hb i h c hr;obtain ⟨he,U⟩:=kD.zz hr;obtain rfl:c=_:=by simpa using he
     exact kSk U
   rintro e w1 ⟨rfl,O⟩;have EF:Qb w w1:=Bq bI (O.mono bH4);clear O;go_wp2;go_ret;exact ⟨kW (by rw [X.out,ac];simp),EF⟩
 have hd:decide ((n.length:Int)<=6)=false:=bG7;have ac:decide (n.length<=6)=false:=bD8;go_wp2;go_ret;exact ⟨kW (by rw [X.out,ac];rfl),bI⟩
namespace kD
def kDf {α:Type} (r:kD α):Prop:=∀ {o:Bool} {w w':Ae} {cs:Ah Ai} {x:α} {S:Nat->Prop},r.is o w cs x S->r.is true w' cs x (λ_=>False)
def yu:int.kDf:=λh=>h
def kGi:byte.kDf:=λh=>h
def kEd:str.kDf:=λh=>h
def kTl {α β:Type} {r:kD α} {s:kD β} (h:r.kDf) (k:s.kDf):(pair r s).kDf:=by
 intro o w w' cs x S q;obtain ⟨c,d,A,B,rfl,h1,h2,_⟩:=q;exact ⟨c,d,_,_,rfl,h h1,k h2,λ_ h=>h,λ_ h=>h,λ_ _ h _=>h⟩
section
variable {α:Type} {r:kD α} {e:Bb} {w w':Ae} {v:Ai} {xs ys:Ah α} {S T:Nat->Prop}
def kJm (hr:r.kDf) {o:Bool}:∀ {cells:Ah Ai} {ys:Ah α} {S:Nat->Prop},row r o w cells ys S->row r true w' cells ys (λ_=>False)
  | _,[],_,h=>h
  | _,y :: ys,_,⟨c,d,A,B,h,h1,h2,_⟩=>⟨c,d,_,_,h,hr h1,kJm hr h2,λ_ h=>h,λ_ h=>h,λ_ _ h _=>h⟩
def kNe {P:Bl} {t ty:Bb} {z:Ai} {bytes:Nat} (ht:P.underlying t=some (.slice e)) (hinf:(P.info? e).map (λi=>(i.zero,i.size,i.bytes))=some (some z,r.n,bytes)) (hzs:z.cells.size=r.n) (hn:0 < r.n) (hby:bytes<=1000) (hf:r.kDf)
    {B:Nat} (hown:kQ e r w v xs S) {av:Option Addr} {len cap:Nat} (hy:(slice e r).rd w [.slice av len cap] ys) (hSB:∀ k,S k->B<=k/\k < w.heap.size) (hB:B<=w.heap.size) (hlen:xs.length + ys.length<=1000000000) :
    ∃ v' w',(Br #[t,t] ty #[v,.slice av len cap]).run P w=.ok v' w'/\kQ e r w' v' (xs++ys) (jb B w'.heap.size)/\Below B w w'/\w.heap.size<=w'.heap.size:=by
 obtain ⟨i,hi,hz,hsize,D⟩:=info_parts hinf
 obtain ⟨cells,hsrc,hrow⟩:=jBm hy.1
 have o:row r true w cells ys (λ_=>False):=kJm hf hrow
 obtain ⟨v',w',hr,h2,h3⟩:=kEt (P:=P) (ty:=ty) ht hi hz hsize hzs hn bH3 hown hsrc (zH hrow) (row_one hrow) hlen
 refine ⟨v',w',hr,(h3 o (λ_ _ h=>h) hy.2.2).wide ?_,h2.below hB ?_,h2.size⟩
 · exact iV
 intro k hk;exact (hSB k hk.2).1
def kV {P:Bl} {o:Oper} {a:Act} {K:Act->Ae->Prop} {Q:Exit->Act->Ae->Prop} (s x:Operand) (t:Bb)
    (ho:o.op=.call { callee:=.builtin .append,args:=#[s,x],argTypes:=#[t,t] }) {v sv v':Ai} (hs:a.eval s=v) (hx:a.eval x=sv) {w w':Ae}
    (hr:(Br #[t,t] o.type #[v,sv]).run P w=.ok v' w') (h:K (a.put o.dst v') w'):o.wp P a w K Q:=by
 unfold Oper.wp execOp
 simp only [ho,resolve,invoke,builtin,Sem.run_bind,Sem.run_pure,Result.andThen_ok,List.map_toArray,List.map_cons,List.map_nil,hs,hx,hr]
 exact h
def yT {P:Bl} {ops:Array Oper} {rest:Ah Oper} {o:Oper} {a:Act} {Q:Exit->Act->Ae->Prop} (E:o.guard=none) (s x:Operand) (t:Bb)
    (ho:o.op=.call { callee:=.builtin .append,args:=#[s,x],argTypes:=#[t,t] })
    {z:Ai} {bytes:Nat} (ht:P.underlying t=some (.slice e)) (hinf:(P.info? e).map (λi=>(i.zero,i.size,i.bytes))=some (some z,r.n,bytes)) (hzs:z.cells.size=r.n) (hn:0 < r.n) (hby:bytes<=1000) (hf:r.kDf)
    {B:Nat} (hown:kQ e r w v xs S) (hs:a.eval s=v) {av:Option Addr} {len cap:Nat} (hx:a.eval x=.slice av len cap) (hy:(slice e r).rd w [.slice av len cap] ys) (hSB:∀ k,S k->B<=k/\k < w.heap.size) (hB:B<=w.heap.size) (hlen:xs.length + ys.length<=1000000000)
    (h:∀ v' w',kQ e r w' v' (xs++ys) (jb B w'.heap.size)->Below B w w'->w.heap.size<=w'.heap.size->wpList P ops Q rest (a.put o.dst v') w'):wpList P ops Q (o :: rest) a w:=by
 refine wpList_plain E λ_ H=>?_
 obtain ⟨v',w',hr,h1,h2,h3⟩:=kNe (ty:=o.type) ht hinf hzs hn hby hf hown hy hSB hB hlen
 exact kV s x t ho hs hx hr (H _ _ (h v' w' h1 h2 h3))
end
end kD
def kXy {w:Ae} {va:Ai} {x:Ah Aa} (ha:(kD.slice 9 kD.str).rd w [va] x):Bf prog 158 #[va] w (kBb (kD.slice 9 kD.str) x w):=by
 obtain ⟨aa,ao,rfl,la⟩:=kD.sl ha.1;have HA:=yD ha;have D:=λ(W:Ae) (a:Option Addr) (n c:Nat)=>Lib.run_eql_slice_nil (P:=prog) W 34 9 a n c 0 0 underlying34;cases aa with
 | none =>
   have hx:x=[]:=by
     cases x with
     | nil=>rfl
     | cons y ys =>
       exact aJ
   subst hx;clear ha;go_enter func158,ntmps158;go_wp2;go_ret;exact ⟨_,rfl,kD.jm,bR⟩
 | some a =>
   have hb:x.length<=16777216:=ha.2.1;clear ha;go_enter func158,ntmps158;have O0:kD.kQ 9 kD.str (w.alloc (.cells #[] 9)) (.slice (some ⟨w.heap.size,0,none⟩) 0 0) [] (λk=>k=w.heap.size):=kD.yJ (cs:=[]) (xs:=[]) (T:=λ_=>False) bH4 bH4 rfl (λ_ h=>h.elim) rfl;go_wp2_with (at_builtin;refine kD.yT rfl _ _ 34 rfl (r:=kD.str) (e:=9) underlying34 kCk rfl bH2 bH2 kD.kEd (B:=w.heap.size) O0 bH5 bH5 (HA.out.alloc _) sG bH4 bG7 ?_);exact aK
def yh {w:Ae} {ca:Ah Ai} {x:kg} (ha:kN.rd w ca x):Bf prog 84 #[.agg ca.toArray] w (zo kN x w):=by
 have HA:=yD ha;obtain ⟨av,rfl,Z⟩:=kX ha.1;obtain ⟨aa,ao,rfl,la⟩:=kD.sl Z;have hb:x.length<=16777216:=ha.2.1;clear ha;go_enter func84,ntmps84;go_wp2_with fail;refine (kXy (HA.out.below bI)).mono ?_;rintro e V ⟨v2,rfl,O2,o⟩;obtain ⟨a2,c2,hv,_⟩:=kD.kBd O2.raw;obtain rfl:v2=_:=by simpa using hv
 have I:Hid (kN.own V [Qs a2 x c2] x (jb (w.heap.size + 2) V.heap.size)):=yD (O2.wide nN);have EG:Qb w V:=Bq bI (o.mono sP);clear hv O2;obtain ⟨R0,F0⟩:=xS;clear o;go_wp2;refine bodyPost_ret (v:=.agg #[Qs a2 x c2]) (by simp [results,results84,go_sem,R0,F0]) rfl ⟨[_],rfl,?_,?_⟩
 · exact (I.out.setCell fH).wide gB
 exact EG.setCell bH4 _
def zX {w:Ae} {ca:Ah Ai} {x:kg} (ha:kN.rd w ca x):Bf prog 66 #[.agg ca.toArray] w (zo kN x w):=by
 have HA:=yD ha;obtain ⟨av,rfl,Z⟩:=kX ha.1;obtain ⟨aa,ao,rfl,la⟩:=kD.sl Z;have hb:x.length<=16777216:=ha.2.1;clear ha;go_enter func66,ntmps66;have O0:kD.kQ 9 kD.str (((w.alloc (.cells #[.slice aa x.length ao] 36)).alloc (.cells #[.slice none 0 0] 36)).alloc (.cells #[] 9)) (.slice (some ⟨w.heap.size + 1 + 1,0,none⟩) 0 0) [] (λk=>k=w.heap.size + 1 + 1):=by
  exact aL
 go_wp2_with (at_builtin;refine kD.yT rfl _ _ 34 rfl (r:=kD.str) (e:=9) underlying34 kCk rfl bH2 bH2 kD.kEd (B:=w.heap.size + 1 + 1) O0 bH5 bH5 (HA.out.below bI) sG bH4 bG7 ?_);intro v2 V hown o hz;obtain ⟨a2,c2,hv⟩:=hown.yw;obtain rfl:=hv;have hw:=hown.own bA7;have I:Hid (kN.own V [Qs a2 x c2] x (jb (w.heap.size + 1 + 1) V.heap.size)):=yD hw;have EG:Qb w V:=Bq bI (o.mono sP);clear hown O0 hw;obtain ⟨R0,F0⟩:=xS;clear o;go_wp2;refine bodyPost_ret (v:=.agg #[Qs a2 x c2]) qA rfl ⟨[_],rfl,?_,?_⟩
 · exact (I.out.setCell fH).wide gB
 exact EG.setCell bH4 _
namespace kD
section
variable {α:Type} {r:kD α} {e:Bb} {w w':Ae} {v:Ai} {b cap n:Nat} {kept rest xs:Ah α} {j:Nat} {x:α} {S T:Nat->Prop}
def gap (e:Bb) (r:kD α) (w:Ae) (b cap n:Nat) (kept:Ah α) (j:Nat) (rest:Ah α) (S:Nat->Prop):Prop :=
  (∀ x∈kept,r.bdd Big x)/\(∀ x∈rest,r.bdd Big x)/\kept.length + j + rest.length=n/\n<=cap/\cap<=Bp/\S b /\
  ∃ (c J d tl:Ah Ai) (A B:Nat->Prop),w.heap[b]?=some (.cells (c++(J++(d++tl))).toArray e (0,0))/\(c++(J++(d++tl))).length=cap * r.n/\J.length=j * r.n /\
    row r true w c kept A/\row r true w d rest B/\(∀ k,A k->S k/\k≠b)/\(∀ k,B k->S k/\k≠b)/\(∀ k,A k->B k->False)
def gap.lt (h:gap e r w b cap n kept j rest S):b < w.heap.size:=by
 obtain ⟨_,_,_,_,_,_,c,J,d,tl,A,B,h1,_⟩:=h;exact (Ad.1 h1).1
def gap.mem (h:gap e r w b cap n kept j rest S):S b:=h.2.2.2.2.2.1
def gap.len (h:gap e r w b cap n kept j rest S):kept.length + j + rest.length=n/\n<=cap/\cap<=Bp:=⟨h.2.2.1,h.2.2.2.1,h.2.2.2.2.1⟩
def gap.keep (h:gap e r w b cap n kept j rest S) (k:∀ k,S k->k < w.heap.size->w'.heap[k]?=w.heap[k]?):gap e r w' b cap n kept j rest S:=by
 obtain ⟨a1,a2,a3,a4,a5,Y,c,J,d,tl,A,B,h1,h2,h3,h4,h5,h6,h7,h8⟩:=h;refine ⟨a1,a2,a3,a4,a5,Y,c,J,d,tl,(λk=>A k/\k < w.heap.size),(λk=>B k/\k < w.heap.size),(k b Y (Ad.1 h1).1).trans h1,h2,h3,yI (zb h4) (λi hi=>k i (h6 i hi.1).1 hi.2),yI (zb h5) (λi hi=>k i (h7 i hi.1).1 hi.2),λi hi=>h6 i hi.1,λi hi=>h7 i hi.1,λi h G=>h8 i h.1 G.1⟩
def gap.below (h:gap e r w b cap n kept j rest S) (k:Qb w w'):gap e r w' b cap n kept j rest S:=h.keep (λi _ hi=>k.block i hi)
def gap.frozen (h:gap e r w b cap n kept j rest S) (i:Nat):w.frozen? ⟨b,i,none⟩=false:=by
 obtain ⟨_,_,_,_,_,_,c,J,d,tl,A,B,h1,_⟩:=h;exact frozen_of_row w b i _ _ h1
def kJq (h:kQ e r w v xs S) {i:Nat} (hi:i < xs.length):∃ b cap,v=.slice (some ⟨b,0,none⟩) xs.length cap/\gap e r w b cap xs.length (xs.take i) 0 (xs.drop i) S:=by
 obtain ⟨hb,h⟩:=h;rcases h with ⟨⟨a,rfl⟩,rfl⟩|⟨b,cap,cur,cs,tl,rfl,h1,h2,h3,h4,h5,h6,h7⟩
 · simp at hi
 refine ⟨b,cap,rfl,λx hx=>hb x (List.mem_of_mem_take hx),λx hx=>hb x (Aj hx),by simp;omega,h1,h2,h6,?_⟩;have e1:xs=xs.take i++xs.drop i:=bH4;rw [e1] at h7;obtain ⟨c,d,A,B,rfl,r1,r2,hA,hB,hd⟩:=kGz _ h7;refine ⟨c,[],d,tl,A,B,?_,?_,by simp,r1,r2,hA,hB,hd rfl⟩
 · rw [h3,show cur=(c++([]++(d++tl))).toArray from by rw [show c++([]++(d++tl))=cur.toList from by rw [h4];simp]]
 rw [<- h5,<- Array.length_toList,h4];simp
def gap.skip (h:gap e r w b cap n kept j (x :: rest) S):gap e r w b cap n kept (j + 1) rest S:=by
 obtain ⟨a1,a2,a3,a4,a5,Y,c,J,d,tl,A,B,h1,h2,h3,h4,⟨c1,d1,A1,B1,rfl,q1,q2,hA1,H,hd1⟩,h6,h7,h8⟩:=h;refine ⟨a1,λy hy=>a2 y bH0,by simp at a3;omega,a4,a5,Y,c,J++c1,d1,tl,A,B1,by rw [h1];simp,by rw [<- h2];simp,?_,h4,q2,h6,λk hk=>h7 k (H k hk),λk h G=>h8 k h (H k G)⟩;simp [h3,r.len q1,Nat.add_mul]
def gap.next (h:gap e r w b cap n kept j (x :: rest) S):∃ cs,r.raw w cs x/\cs.length=r.n/\r.bdd Big x/\(∀ q c,cs[q]?=some c->w.cell? ⟨b,(kept.length + j) * r.n + q,none⟩=some c) /\
    ∀ w1,Qb w w1->0 < j->∀ p,p=kept.length * r.n->gap e r (setCells w1 b p cs) b cap n (kept++[x]) j rest S/\Touch (λk=>k=b) w1 (setCells w1 b p cs):=by
 have H0:=h
 obtain ⟨a1,a2,a3,a4,a5,Y,c,J,d,tl,A,B,h1,h2,h3,h4,⟨c1,d1,A1,B1,rfl,q1,q2,hA1,H,hd1⟩,h6,h7,h8⟩:=h
 have F:=zH h4
 have dp:=r.len q1
 refine ⟨c1,r.wide (r.weak q1) (λ_ _=>trivial),dp,a2 x bH4,?_,?_⟩
 · intro q u hq;have bk:=(List.getElem?_eq_some_iff.1 hq).1;rw [cell_of_row w b _ _ e (0,0) h1];simp only [Bd];rw [Aq (by rw [F,Nat.add_mul];omega),Aq (by rw [F,h3,Nat.add_mul];omega),Bo,List.getElem?_append_left (by rw [F,h3,Nat.add_mul];omega)];rw [<- hq];congr 1;rw [F,h3,Nat.add_mul];omega
 intro w1 hw hj p hp
 refine ⟨?_,zR _ _ _ _⟩
 obtain ⟨b1,b2,R,L,O,X,_⟩:=H0
 have ap:w1.heap[b]?=_:=(hw.block b (Ad.1 h1).1).trans h1
 have ad:r.n<=J.length:=by rw [h3];exact Nat.le_mul_of_pos_left _ hj
 have E:(setCells w1 b p c1).heap[b]?=some (.cells (c++(c1++(J.drop r.n++((c1++d1)++tl)))).toArray e (0,0)):=by
  refine kAb c1 (J.take r.n) c (J.drop r.n++((c1++d1)++tl)) w1 b p ?_ (by rw [F,hp]) (by rw [List.length_take,dp];omega);rw [ap,<- Bo (J.take r.n),List.take_append_drop]
 have I:∀ k,k≠b->k < w.heap.size->(setCells w1 b p c1).heap[k]?=w.heap[k]?:=λk hk hl=>(kAf c1 w1 b p k hk).trans (hw.block k hl)
 refine ⟨?_,λy hy=>a2 y bH0,by simp at a3 ⊢;omega,a4,a5,Y,c++c1,J.drop r.n++c1,d1,tl,(λk=>(A k\/A1 k)/\k < w.heap.size),(λk=>B1 k/\k < w.heap.size),by rw [E];simp,?_,?_,?_,?_,?_,?_,?_⟩
 · intro y hy;rcases Bc.1 hy with hy | hy
   · exact a1 y hy
   obtain rfl:y=x:=by simpa using hy
   exact a2 y bH4
 · rw [<- h2];simp;omega
 · rw [List.length_append,List.length_drop,h3,dp];have:=h3;omega
 · refine zx (A:=λk=>A k/\k < w.heap.size) (B:=λk=>A1 k/\k < w.heap.size) (yI (zb h4) (λk hk=>I k (h6 k hk.1).2 hk.2)) (yI (zb (kCx q1)) (λk hk=>I k (h7 k (hA1 k hk.1)).2 hk.2)) (λk hk=>⟨.inl hk.1,hk.2⟩) (λk hk=>⟨.inr hk.1,hk.2⟩) (λ_ k h G=>h8 k h.1 (hA1 k G.1))
 · exact yI (zb q2) (λk hk=>I k (h7 k (H k hk.1)).2 hk.2)
 · rintro k ⟨hk | hk,_⟩
   · exact h6 k hk
   exact h7 k (hA1 k hk)
 · intro k hk;exact h7 k (H k hk.1)
 rintro k ⟨hk | hk,_⟩ G
 · exact h8 k hk (H k G.1)
 exact hd1 rfl k hk G.1
def kGt:∀ (cs:Ah Ai) (w:Ae) (b p:Nat),w.setCells b p cs=setCells w b p cs
  | [],_,_,_=>rfl
  | c :: cs,w,b,p=>by
    simp only [World.setCells,setCells];exact kGt cs _ b (p + 1)
def gap.cells (h:gap e r w b cap n kept j rest S) {i:Nat} (hi:i < cap * r.n):(w.cell? ⟨b,i,none⟩).isSome=true:=by
 obtain ⟨_,_,_,_,_,_,c,J,d,tl,A,B,h1,h2,_⟩:=h;rw [cell_of_row w b _ _ e (0,0) h1];simp only [Bd];rw [List.getElem?_eq_getElem (by rw [h2];exact hi)];rfl
def gap.wipe (h:gap e r w b cap n kept j [] S) {zs:Ah Ai} (hz:zs.length=j * r.n) {p:Nat} (hp:p=kept.length * r.n) :
    kQ e r (setCells w b p zs) (.slice (some ⟨b,0,none⟩) kept.length cap) kept S/\Touch (λk=>k=b) w (setCells w b p zs):=by
 obtain ⟨a1,a2,a3,a4,a5,Y,c,J,d,tl,A,B,h1,h2,h3,h4,h5,h6,h7,h8⟩:=h
 obtain rfl:d=[]:=h5
 have F:=zH h4
 refine ⟨⟨a1,.inr ⟨b,cap,_,c,zs++tl,rfl,by simp at a3;omega,a5,?_,rfl,?_,Y,?_⟩⟩,zR _ _ _ _⟩
 · exact kAb zs J c tl w b p bE6 (by rw [F,hp]) (by rw [h3,hz])
 · rw [<- h2];simp;omega
 exact yL (yI (zb h4) (λk hk=>kAf zs w b p k (h6 k hk.1).2)) (λk hk=>h6 k hk.1)
def gap.done (h:gap e r w b cap n kept 0 [] S):kQ e r w (.slice (some ⟨b,0,none⟩) kept.length cap) kept S:=by
 have:=(h.wipe (zs:=[]) bH4 rfl).1;exact this
def kJl {P:Bl} {t ty:Bb} {z:Ai} (ht:P.underlying t=some (.slice e)) (hv:∀ w,(zeroValue e).run P w=.ok z w) (h1:∀ u∈z.cells,u.oneCell'=true) (b o m c:Nat) (hm:0 < m)
    (hc:∀ j,j < (Ab z.cells m).size->(w.cell? ⟨b,o + j,none⟩).isSome=true) (hf:∀ j,j < (Ab z.cells m).size->w.frozen? ⟨b,o + j,none⟩=false) (bi:0 < z.cells.size) :
    (Be #[t] ty #[.slice (some ⟨b,o,none⟩) m c]).run P w=.ok (.tuple #[]) (setCells w b o (Ab z.cells m).toList):=by
 have F:∀ v∈(Ab z.cells m).toList,v.oneCell'=true:=by
  intro v I;simp only [Ab,Array.toList_map,List.mem_map] at I;obtain ⟨i,_,rfl⟩:=I;have hlt:=Nat.mod_lt i bi;rw [getElem!_pos z.cells _ hlt];exact h1 _ (Array.getElem_mem hlt)
 have E:=run_storeCells_cells (P:=P) b o (Ab z.cells m).toList 0 w bE0 bE7 F
 simp only [Nat.add_zero] at E
 obtain ⟨q,rfl⟩:∃ q,m=q + 1:=⟨m - 1,by omega⟩
 rw [<- kGt]
 simp [Be,run_underlying ht,hv,E]
def zero_of_info {P:Bl} {i:TypeInfo} {z:Ai} (hi:P.info? e=some i) (hz:i.zero=some z):∀ w,(zeroValue e).run P w=.ok z w:=by
 intro w;simp [zeroValue,typeInfo,hi,hz]
def gap.kJl {P:Bl} {t ty:Bb} {z:Ai} {bytes:Nat} (h:gap e r w b cap n kept j [] S) (hj:0 < j) (ht:P.underlying t=some (.slice e)) (hinf:(P.info? e).map (λi=>(i.zero,i.size,i.bytes))=some (some z,r.n,bytes)) (hzs:z.cells.size=r.n) (hn:0 < r.n) (F:∀ u∈z.cells,u.oneCell'=true)
    {p c:Nat} (hp:p=kept.length * r.n) :
    ∃ w',(Be #[t] ty #[.slice (some ⟨b,p,none⟩) j c]).run P w=.ok (.tuple #[]) w'/\kQ e r w' (.slice (some ⟨b,0,none⟩) kept.length cap) kept S/\Touch (λk=>k=b) w w':=by
 obtain ⟨i,hi,hz,hsize,D⟩:=info_parts hinf
 have U:(Ab z.cells j).size=j * r.n:=by rw [size_zeroCells,hzs]
 have hl:=h.len
 have o:∀ q,q < j * r.n->p + q < cap * r.n:=by
  intro q hq;have h1:(kept.length + j) * r.n<=cap * r.n:=Nat.mul_le_mul_right _ (by have:=hl.1;simp at this;omega);rw [Nat.add_mul] at h1;omega
 have hr:=kD.kJl (P:=P) (ty:=ty) (w:=w) ht (zero_of_info hi hz) F b p j c hj (λq hq=>h.cells (o q (by rwa [U] at hq))) (λq _=>h.frozen _) bH3
 obtain ⟨h1,h2⟩:=h.wipe (zs:=(Ab z.cells j).toList) (by simpa using U) hp
 exact ⟨_,hr,h1,h2⟩
end
end kD
variable {α:Type} {r:kD α} {e:Bb} {w w':Ae} {v:Ai} {xs ys:Ah α} {S:Nat->Prop}
def kBx (e:Bb) (r:kD α) (x:Ah α) (w:Ae) (E:Ending) (w':Ae):Prop:=∃ v,E=.returned v/\kD.kQ e r w' v x (jb w.heap.size w'.heap.size)/\Qb w w'
def kD.kQ.cast (h:kD.kQ e r w v xs S) (k:xs=ys):kD.kQ e r w v ys S:=k ▸ h
def kD.kQ.parts (h:kD.kQ e r w v xs S):∃ a n cap,v=.slice a n cap/\Hid (n=xs.length):=by
 obtain ⟨a,cap,h⟩:=h.yw;exact ⟨a,_,cap,h,yD rfl⟩
def kBx.post {E:Ending} (h:kBx e r xs w E w') (hl:xs.length<=Big):kBb (kD.slice e r) xs w E w':=by
 obtain ⟨v,rfl,h1,h2⟩:=h;exact ⟨v,rfl,h1.own hl,h2⟩
def kFr {α:Type} {p:α->Bool} {l:Ah α} {k:Nat} (h:k < l.length) (q:p l[k]=true):(l.take (k + 1)).filter p=(l.take k).filter p++[l[k]]:=by
 rw [Ag h,Bg];simp [q]
def kDi {α:Type} {p:α->Bool} {l:Ah α} {k:Nat} (h:k < l.length) (q:p l[k]=false):(l.take (k + 1)).filter p=(l.take k).filter p:=by
 rw [Ag h,Bg];simp [q]
def kAh {α:Type} {p:α->Bool} {l:Ah α} {k:Nat} (h:k<=l.length):((l.take k).filter p).length<=k:=by
 have h1:=List.length_filter_le p (l.take k);rw [List.length_take_of_le h] at h1;exact h1
def zF (ps:Ah Aa):Prop:=∀ p∈ps,p.size<=64
def zF.snoc {ps:Ah Aa} {y:Aa} (h:zF ps) (hy:y.size<=64):zF (ps++[y]):=λp hp=>by
  rcases Bc.1 hp with hp | hp
  · exact h p hp
  · rw [Bh.1 hp];exact hy
def zF.nil:zF []:=λp hp=>by simp at hp
def zF.drop {ps:Ah Aa} (h:zF ps) (k:Nat):zF (ps.drop k):=λp hp=>h p (Aj hp)
def kCw (M:Nat) (ps:Ah Aa):Prop:=∀ p∈ps,p.size<=M
def kCw.nil {M:Nat}:kCw M []:=λp hp=>by simp at hp
def kCw.drop {M:Nat} {ps:Ah Aa} (h:kCw M ps) (k:Nat):kCw M (ps.drop k):=λp hp=>h p (Aj hp)
def kCw.cut {M:Nat} {ps:Ah Aa} {s:Aa} (h:kCw M ps) (hs:s.size<=M) (m k:Nat):kCw M (ps++[s.extract m k]):=λp hp=>by
  rcases Bc.1 hp with hp | hp
  · exact h p hp
  · rw [Bh.1 hp];simp only [ByteArray.size_extract];omega
def kOg {w:Ae} {s:Aa} {M:Nat} (hM:M<=1000) (hs:s.size<=M) {by0:Nat} (hb:by0 < 256) :
    Bf prog 202 #[.string s,.int .u8 by0] w λe w'=>∃ v,e=.returned v/\∃ ps,kD.kQ 9 kD.str w' v ps (jb w.heap.size w'.heap.size)/\0 < ps.length/\ps.length<=M + 1/\kCw M ps/\Qb w w':=by
 go_enter func202,ntmps202
 go_wp2
 go_loopw [5,6,7] (λv f i wr=>∃ (k m:Nat) (ps:Ah Aa),k<=s.size + 1/\m<=k/\i=.int .i64 k/\f=.int .i64 m/\ps.length<=k/\(k=s.size + 1->0 < ps.length)/\Hid (kCw M ps)/\Hid (kD.kQ 9 kD.str wr v ps (jb w.heap.size wr.heap.size))/\Qb w wr) (λ_ _ i _=>s.size + 1 - (Bj i).toNat)
 case atStart=>exact ⟨0,0,[],by omega,by omega,rfl,rfl,by simp,by omega,yD kCw.nil,yD kD.kQ.void,bR.alloc nL _⟩
 obtain ⟨k,m,ps,hk,hm,rfl,rfl,db,bd,b8,I,o⟩:=hrel
 obtain ⟨oa,on,oc,ho,a1⟩:=I.out.parts;obtain rfl:=ho
 have da:=o.size
 have ce:=Bi k
 have bc:=Bi m
 by_cases a4:k<=s.size
 · have D:(k:Int)<=s.size:=bH3;by_cases he:k=s.size
   · have dj:(k:Int)=s.size:=bH3;have N:(m:Int)<=k:=bH3;go_wp2_with (at_builtin;refine kD.jP rfl _ _ 34 rfl (r:=kD.str) (e:=9) underlying34 kCk rfl bH2 bH2 (B:=w.heap.size) I.out bH5 bH5 rfl (kD.flat.own (S:=λ_=>False) (kD.kGk (s:=s.extract m s.size) mI)) rfl (λ_ _ h=>h) rQ (λ_ h=>h.elim) bH3 bH3 ?_);intro v2 V H af a9;have R:=yD H;obtain ⟨pa,pn,pc,hp,bj⟩:=H.parts;obtain rfl:=hp;have O:=o.trans af;clear H af;go_wp2;go_roundw;case rel=>exact ⟨k + 1,k + 1,_,by omega,by omega,by go_num,by go_num,by simp;omega,by simp,yD (b8.out.cut hs m s.size),R,O⟩
     simp [Bj];omega
   have dj:¬ (k:Int)=s.size:=bH3;have F:(k:Int) < s.size:=bH3;have hkl:k < s.size:=bH3;have N:(m:Int)<=k:=bH3;go_upto_region 6 with fail;refine kr (λW=>Qb wr W) [Tt,Tt,Tt,Tt,Tt,Tt,Tt,Tt,Tt,Tt,Tt] (bR) ?_;intro wS E;iterate 4
    all_goals refine ky ?_
   all_goals (refine jy λb co=>?_;cases b <;> try simp only [jw] at co)
   iterate 5
    all_goals refine ky ?_
   all_goals (refine jy λb ad=>?_;cases b <;> try simp only [jw] at ad)
   all_goals refine kS ?_
   all_goals replace o:=(tQ o E)
   all_goals replace I:=yD ((I.out.below E).wide (T:=jb w.heap.size wS.heap.size) (λj hj=>⟨hj.1,by have:=hj.2;have:=E.size;omega⟩))
   all_goals have da:=o.size
   all_goals clear E
   all_goals first
     | (go_wp2;go_roundw;(case rel=>exact ⟨k + 1,m,ps,by omega,by omega,by go_num,rfl,by omega,by omega,b8,I,o⟩);(case measure=>simp [Bj];omega))
     | skip
   all_goals
     go_wp2_with (at_builtin;refine kD.jP rfl _ _ 34 rfl (r:=kD.str) (e:=9) underlying34 kCk rfl bH2 bH2 (B:=w.heap.size) I.out bH5 bH5 rfl (kD.flat.own (S:=λ_=>False) (kD.kGk (s:=s.extract m k) mI)) rfl (λ_ _ h=>h) rQ (λ_ h=>h.elim) bH3 bH3 ?_)
     intro v2 V H af a9
     have R:=yD H
     obtain ⟨pa,pn,pc,hp,bj⟩:=H.parts;obtain rfl:=hp
     have O:=o.trans af
     clear H af
     go_wp2
     go_roundw
     case rel=>exact ⟨k + 1,k + 1,_,by omega,by omega,by go_num,by go_num,by simp;omega,by simp,yD (b8.out.cut hs m k),R,O⟩
     case measure=>simp [Bj];omega
 have D:¬ (k:Int)<=s.size:=bH3
 have hp:=bd bH3
 go_wp2
 go_ret
 exact ⟨_,rfl,ps,I.out,hp,by omega,b8.out,o⟩
def kOf {w:Ae} {s:Aa} (hs:s.size<=64) {by0:Nat} (hb:by0 < 256) :
    Bf prog 202 #[.string s,.int .u8 by0] w λe w'=>∃ v,e=.returned v/\∃ ps,kD.kQ 9 kD.str w' v ps (jb w.heap.size w'.heap.size)/\0 < ps.length/\ps.length<=65/\zF ps/\Qb w w':=kOg (M:=64) bH2 hs hb
end Go.Proofs.YtjhfdpopkkmigabGreat
