/-
  Names as the reference draws them.
-/
import Derived.Test.YtonmjkmaadgceabGreatName
set_option linter.unusedVariables false
set_option linter.defProp false
set_option linter.unusedSimpArgs false
set_option linter.unnecessarySimpa false
set_option maxRecDepth 100000
set_option maxHeartbeats 4000000
open Bool renaming true->Tt,false->Ff
open _root_ renaming ByteArray->Aa,List->Ah
open Go.Builtin renaming zeroCells->Ab,clear_->Bc,append_->Bo
open ByteArray renaming empty->Ac
open Array renaming getElem?_eq_some_iff->Ad
open Go renaming World->Ae,Value->Ai,TypeId->Ba,Calls->Bd,Program->Bi,maxLen->Bj
open List renaming take_succ_eq_append_getElem->Ag,mem_of_mem_drop->Aj,mem_append->Bb,filter_append->Be,mem_singleton->Bf
open Bool renaming not_not->Ak,not_false->Al,and_false->Am,false_and->Ap,not_true->Aq,and_true->Ar,true_and->Au,or_false->Av,false_or->Aw,or_true->Ay,true_or->Az
open Int renaming natCast_nonneg->Bg
open Go.RowKit renaming intOf->Bh
open Go.RowKit.Below renaming trans->Bl
namespace Go.Proofs.YtonmjkmaadgceabGreat
open Go.RowKit _root_.Go.Proofs.Tryz
def kNh (c:Int):Bool:=!((!inR c 97 122 && !inR c 48 57) && (c != 45))
def okBi (c:Int):Bool:=((decide (c ≥ 97) && decide (c<=122)) || (decide (c ≥ 48) && decide (c<=57))) || (c==45)
def kCj (s:Aa) (j:Nat):Int:=(s.data.toList.getD j 0).toNat
def kCk (s:Aa):Bool:=yh (λj=>kNh (kCj s j)) s.size && inR s.size 1 8
def okBi_eq (c:Int):okBi c=kNh c:=by
 unfold okBi kNh inR;rw [Bool.eq_iff_iff];simp;try omega
def vPart_out {s:ByteArray} (h:inR s.size 1 8=false):kCk s=false:=by simp [kCk,h]
def kXd {s:Aa} {k:Nat} (h:k < s.size) (q:kNh (kCj s k)=false):kCk s=false:=by
 unfold kCk;rw [kCx h q];rfl
def kTr {s:Aa} {k:Nat} (q:yh (λj=>kNh (kCj s j)) k=true) (h:¬ k < s.size) (hk:k<=s.size):kCk s=inR s.size 1 8:=by
 obtain rfl:k=s.size:=bC9;unfold kCk;rw [q];rfl
def kJe {s:Aa} {k:Nat} (h:k < s.size):kCj s k=(s[k].toNat:Int):=by
 unfold kCj;rw [jS bB3];rfl
def kNo (s:Aa) (k:Nat):0<=kCj s k/\kCj s k < 256:=by
 unfold kCj;have:=(s.data.toList.getD k 0).toNat_lt;omega
def kJj {w:Ae} {s:Aa} (hs:s.size<=Bj):Bd prog 126 #[.string s] w λe w'=>e=.returned (.bool (kCk s))/\w'=w:=by
 unfold Bj at hs;go_enter func126,ntmps126;go_wp2_with fail;refine jo.mono ?_;rintro e Y ⟨rfl,hw⟩;obtain rfl:=hw.symm;cases R:inR s.size 1 8
 · have L:=yD (vPart_out R);exact lI
 have HI:=yD R;go_wp2;go_loop [3] (λi=>∃ k:Nat,k<=s.size/\i=.int .i64 k/\Hid (yh (λj=>kNh (kCj s j)) k=true)) (λi=>s.size - (Bh i).toNat);case atStart=>exact ⟨0,Nat.zero_le _,rfl,yD rfl⟩
 obtain ⟨k,hk,rfl,HN⟩:=hrel;by_cases hlt:k < s.size
 · have hr:=kNo s k;have hg:=kJe hlt;have HB:=yD (λq=>kXd hlt q);have HX:=yD (λq=>kAu (f:=λj=>kNh (kCj s j)) HN.out q);go_upto_region 7 with fail;generalize (s[k].toNat:Int)=c at *;have HC:=yD hg;clear hg;refine jE (λW=>Hid (W=w)) [Tt,Ff,Tt,Tt,Tt,Ff,Tt,Tt,Tt,Tt,Tt,Tt] (yD rfl) ?_;intro wS E;all_goals refine ku ?_
   all_goals first | refine wkC (jo) ?_ | refine ku ?_
   all_goals refine ku ?_
   all_goals (refine jy λb a1=>?_;cases b <;> try simp only [jw] at a1)
   all_goals refine ku ?_
   all_goals first | refine wkC (jo) ?_ | refine ku ?_
   all_goals refine ku ?_
   all_goals refine ku ?_
   all_goals (refine jy λb ak=>?_;cases b <;> try simp only [jw] at ak)
   all_goals refine ku ?_
   all_goals refine ku ?_
   all_goals (refine jy λb V=>?_;cases b <;> try simp only [jw] at V)
   all_goals refine kS ?_
   all_goals obtain rfl:=E.out.symm
   all_goals first
     | (have U:=(congrArg kNh HC.out).trans (show _=false by simp only [kNh,Aq,Al,Ar,Au,Am,Ap,Ay,Az,Av,Aw,Ak,a1,ak,V]);have L:=yD (HB.out U);clear U HB HX HC;go_wp2;go_ret;exact ⟨kX L.out.symm,rfl⟩)
     | (have U:=(congrArg kNh HC.out).trans (show _=true by simp only [kNh,Aq,Al,Ar,Au,Am,Ap,Ay,Az,Av,Aw,Ak,a1,ak,V]);have L:=yD (HX.out U);clear U HB HX HC;go_wp2;go_round;(case rel=>exact ⟨k + 1,by omega,by go_num,L⟩);(case measure=>simp [Bh];omega))
 have L:=yD (kTr HN.out hlt hk);have HU:=yD (L.out.trans HI.out);go_wp2;go_ret;exact ⟨kX HU.out.symm,rfl⟩
def kSr {w:Ae} {s:Aa} (hs:s.size<=Bj):Bd prog 119 #[.string s] w λe w'=>e=.returned (.bool (kCk s))/\w'=w:=by
 unfold Bj at hs;go_enter func119,ntmps119;go_wp2;go_loop [7] (λi=>∃ k:Nat,k<=s.size/\i=.int .i64 k/\Hid (yh (λj=>kNh (kCj s j)) k=true)) (λi=>s.size - (Bh i).toNat);case atStart=>exact ⟨0,Nat.zero_le _,rfl,yD rfl⟩
 obtain ⟨k,hk,rfl,HN⟩:=hrel;by_cases hlt:k < s.size
 · have hr:=kNo s k;have hg:=kJe hlt;have HB:=yD (λq=>kXd hlt q);have HX:=yD (λq=>kAu (f:=λj=>kNh (kCj s j)) HN.out q);go_upto_region 5 with fail;generalize (s[k].toNat:Int)=c at *;have HC:=yD hg;clear hg;refine jE (λW=>Hid (W=w)) [Tt,Tt,Tt,Tt,Tt,Tt,Tt,Tt,Tt,Tt,Tt,Tt,Tt,Tt,Tt,Tt,Tt,Tt,Tt] (yD rfl) ?_;intro wS E;all_goals refine ku ?_
   all_goals refine ku ?_
   all_goals (refine jy λb al=>?_;cases b <;> try simp only [jw] at al)
   iterate 3
    all_goals refine ku ?_
   all_goals (refine jy λb ad=>?_;cases b <;> try simp only [jw] at ad)
   all_goals refine ku ?_
   all_goals refine ku ?_
   all_goals (refine jy λb J=>?_;cases b <;> try simp only [jw] at J)
   iterate 4
    all_goals refine ku ?_
   all_goals (refine jy λb H=>?_;cases b <;> try simp only [jw] at H)
   iterate 3
    all_goals refine ku ?_
   all_goals (refine jy λb G=>?_;cases b <;> try simp only [jw] at G)
   all_goals refine kS ?_
   all_goals obtain rfl:=E.out.symm
   all_goals first
     | (have U:=(congrArg kNh HC.out).trans ((okBi_eq _).symm.trans (show _=false by simp only [okBi,Aq,Al,Ar,Au,Am,Ap,Ay,Az,Av,Aw,Ak,ge_iff_le,al,ad,J,H,G]));have L:=yD (HB.out U);clear U HB HX HC;go_wp2;go_ret;exact ⟨kX L.out.symm,rfl⟩)
     | (have U:=(congrArg kNh HC.out).trans ((okBi_eq _).symm.trans (show _=true by simp only [okBi,Aq,Al,Ar,Au,Am,Ap,Ay,Az,Av,Aw,Ak,ge_iff_le,al,ad,J,H,G]));have L:=yD (HX.out U);clear U HB HX HC;go_wp2;go_round;(case rel=>exact ⟨k + 1,by omega,by go_num,L⟩);(case measure=>simp [Bh];omega))
 have L:=yD (kTr HN.out hlt hk);go_wp2_with fail;refine yJ.mono ?_;rintro e Y ⟨rfl,hw⟩;obtain rfl:=hw.symm;exact lI
def zM (n:ko):Bool:=yh (λj=>kCk (n.getD j Ac)) n.length && decide (n.length<=6)
def kXf {n:ko} {k:Nat} (h:k < n.length) (q:kCk n[k]=false):zM n=false:=by
 unfold zM;rw [kCx h qB];rfl
def vName_next {n:ko} {k:Nat} (h:k < n.length) (q:kCk n[k]=true) (a:yh (λj=>kCk (n.getD j Ac)) k=true):yh (λj=>kCk (n.getD j Ac)) (k + 1)=true :=
  kAu a qB
def vName_good {n:ko} {k:Nat} (q:yh (λj=>kCk (n.getD j Ac)) k=true) (h:¬ k < n.length) (hk:k<=n.length):zM n=decide (n.length<=6):=by
 obtain rfl:k=n.length:=bC9;unfold zM;rw [q];rfl
def idx_all {α:Type} (p:α->Bool) (x:Ah α) (d:α):(!decide (0<=idxOf p x))=yh (λj=>!p (x.getD j d)) x.length:=by
 unfold idxOf;cases h:x.findIdx? p with
 | none =>
   have hn:=List.findIdx?_eq_none_iff.1 h;have:yh (λj=>!p (x.getD j d)) x.length=true:=by
     have key:∀ n,n<=x.length->yh (λj=>!p (x.getD j d)) n=true:=by
       intro n;induction n with
       | zero=>intro _;rfl
       | succ n ih =>
         intro o;refine kAu (ih bC9) ?_
         (try simp only)
         rw [jS bC9,hn _ (List.getElem_mem _)];rfl
     exact key _ nL
   rw [this];simp
 | some i =>
   obtain ⟨hi,hp,_⟩:=List.findIdx?_eq_some_iff_getElem.1 h;rw [kCx hi (by (try simp only);rw [jS hi,hp];rfl)];simp
def vName_idx (n:ko):zM n=(decide (n.length<=6) && !decide (0<=idxOf (λp=>!kCk p) n)):=by
 unfold zM;rw [idx_all _ n Ac];simp only [Ak];exact Bool.and_comm _ _
def yY {w:Ae} {cn:Ah Ai} {n:ko} (hn:kU.raw w cn n):Bd prog 78 #[.agg cn.toArray] w (bQ w (.bool (zM n))):=by
 obtain ⟨av,rfl,ad⟩:=kZ hn;obtain ⟨aa,al,rfl,la⟩:=kD.sl ad;clear hn;go_enter func78,ntmps78;go_wp2;generalize D:World.alloc w _=N;have EB:Qb w N:=by rw [<- D];exact bF
 have K0:Qd N w 0 (.slice aa n.length al):=tK;clear D;replace ad:=ad.below EB;go_loopw [3] (λi wr=>∃ k:Nat,k<=n.length/\i=.int .i64 k/\Hid (yh (λj=>kCk (n.getD j Ac)) k=true)/\Qb N wr) (λi _=>n.length - (Bh i).toNat);case atStart=>exact ⟨0,Nat.zero_le _,rfl,yD rfl,bR⟩
 obtain ⟨k,hk,rfl,HN,o⟩:=hrel;replace K0:=cL o K0;have I:=(tQ EB o);by_cases hlt:k < n.length
 · obtain ⟨ba,H,rfl,c0,hr,A0⟩:=kD.kCv (ad.below o) hlt rfl;obtain ⟨he,ax⟩:=kD.zi hr;obtain rfl:c0=_:=by simpa using he
   clear he hr;have hb:=λq=>kXf hlt q;have hx:=λq=>vName_next hlt q HN.out;generalize n[k]=s at *;have HB:=yD hb;have HX:=yD hx;have ac:=yD ax;clear hb hx ax;go_wp2_with fail;refine (kJj ac.out).mono ?_;rintro e Y ⟨rfl,hw⟩;obtain rfl:=hw.symm;cases hv:kCk s
   · have L:=yD (HB.out hv);go_wp2;go_ret;exact ⟨kX L.out.symm,I⟩
   have L:=yD (HX.out hv);go_wp2;go_roundw;case rel=>exact ⟨k + 1,by omega,by go_num,L,o⟩
   simp [Bh];omega
 have L:=yD (vName_good HN.out hlt hk);go_wp2;go_ret;exact ⟨kX (by rw [L.out];simp;try omega),I⟩
def kQe {w:Ae} {s:Aa} (hs:s.size<=Bj):Bd prog 118 (#[.string s]++#[]) w (bQ w (.bool (!kCk s))):=by
 show Bd prog 118 #[_] w _;go_enter func118,ntmps118;go_wp2_with fail;refine (kSr hs).mono ?_;rintro e Y ⟨rfl,hw⟩;obtain rfl:=hw.symm;go_wp2;go_ret;exact ⟨rfl,bR⟩
def kGq:jI prog 118:=zQ func118 bC3 bC3
def kAs {w:Ae} {cn:Ah Ai} {n:ko} (hn:kU.raw w cn n):Bd prog 61 #[.agg cn.toArray] w (bQ w (.bool (zM n))):=by
 obtain ⟨av,rfl,ad⟩:=kZ hn;obtain ⟨aa,al,rfl,la⟩:=kD.sl ad;clear hn;have U:=yD (vName_idx n);go_enter func61,ntmps61;by_cases hl:n.length<=6
 · have hd:decide ((n.length:Int)<=6)=true:=bC4;have ac:decide (n.length<=6)=true:=wR;go_wp2_with fail;refine (kKd (λp=>!kCk p) kGq (ad.below bF) ?_).mono ?_
   · intro wr hb i h c hr;obtain ⟨he,ax⟩:=kD.zi hr;obtain rfl:c=_:=by simpa using he
     exact kQe ax
   rintro e Y ⟨rfl,O⟩;have R:Qb w Y:=Bl bF (O.mono bD0);clear O;go_wp2;go_ret;exact ⟨kX (by rw [U.out,ac];simp),R⟩
 have hd:decide ((n.length:Int)<=6)=false:=bC4;have ac:decide (n.length<=6)=false:=wR;go_wp2;go_ret;exact ⟨kX (by rw [U.out,ac];rfl),bF⟩
namespace kD
def kDa {α:Type} (r:kD α):Prop:=∀ {o:Bool} {w w':Ae} {cs:Ah Ai} {x:α} {S:Nat->Prop},r.is o w cs x S->r.is true w' cs x (λ_=>False)
def yg:int.kDa:=λh=>h
def kFi:byte.kDa:=λh=>h
def kDo:str.kDa:=λh=>h
def kRn {α β:Type} {r:kD α} {s:kD β} (h:r.kDa) (k:s.kDa):(pair r s).kDa:=by
 intro o w w' cs x S q;obtain ⟨c,d,A,B,rfl,h1,h2,_⟩:=q;exact ⟨c,d,_,_,rfl,h h1,k h2,λ_ h=>h,λ_ h=>h,λ_ _ h _=>h⟩
section
variable {α:Type} {r:kD α} {e:Ba} {w w':Ae} {v:Ai} {xs ys:Ah α} {S T:Nat->Prop}
def kOm (hr:r.kDa) {o:Bool}:∀ {cells:Ah Ai} {ys:Ah α} {S:Nat->Prop},row r o w cells ys S->row r true w' cells ys (λ_=>False)
  | _,[],_,h=>h
  | _,y :: ys,_,⟨c,d,A,B,h,h1,h2,_⟩=>⟨c,d,_,_,h,hr h1,kOm hr h2,λ_ h=>h,λ_ h=>h,λ_ _ h _=>h⟩
def kLk {P:Bi} {t ty:Ba} {z:Ai} {bytes:Nat} (ht:P.underlying t=some (.slice e)) (hinf:(P.info? e).map (λi=>(i.zero,i.size,i.bytes))=some (some z,r.n,bytes)) (hzs:z.cells.size=r.n) (hn:0 < r.n) (hby:bytes<=1000) (hf:r.kDa)
    {B:Nat} (hown:kR e r w v xs S) {av:Option Addr} {len cap:Nat} (hy:(slice e r).rd w [.slice av len cap] ys) (hSB:∀ k,S k->B<=k/\k < w.heap.size) (hB:B<=w.heap.size) (hlen:xs.length + ys.length<=1000000000) :
    ∃ v' w',(Bo #[t,t] ty #[v,.slice av len cap]).run P w=.ok v' w'/\kR e r w' v' (xs++ys) (jX B w'.heap.size)/\Below B w w'/\w.heap.size<=w'.heap.size:=by
 obtain ⟨i,hi,hz,hsize,D⟩:=info_parts hinf
 obtain ⟨cells,hsrc,hrow⟩:=kZt hy.1
 have o:row r true w cells ys (λ_=>False):=kOm hf hrow
 obtain ⟨v',w',hr,h2,h3⟩:=kFd (P:=P) (ty:=ty) ht hi hz hsize hzs hn bC9 hown hsrc (zK hrow) (row_one hrow) hlen
 refine ⟨v',w',hr,(h3 o (λ_ _ h=>h) hy.2.2).wide ?_,h2.below hB ?_,h2.size⟩
 · exact iK
 intro k hk;exact (hSB k hk.2).1
def kV {P:Bi} {o:Oper} {a:Act} {K:Act->Ae->Prop} {Q:Exit->Act->Ae->Prop} (s x:Operand) (t:Ba)
    (ho:o.op=.call { callee:=.builtin .append,args:=#[s,x],argTypes:=#[t,t] }) {v sv v':Ai} (hs:a.eval s=v) (hx:a.eval x=sv) {w w':Ae}
    (hr:(Bo #[t,t] o.type #[v,sv]).run P w=.ok v' w') (h:K (a.put o.dst v') w'):o.wp P a w K Q:=by
 unfold Oper.wp execOp
 simp only [ho,resolve,invoke,builtin,Sem.run_bind,Sem.run_pure,Result.andThen_ok,List.map_toArray,List.map_cons,List.map_nil,hs,hx,hr]
 exact h
def yQ {P:Bi} {ops:Array Oper} {rest:Ah Oper} {o:Oper} {a:Act} {Q:Exit->Act->Ae->Prop} (E:o.guard=none) (s x:Operand) (t:Ba)
    (ho:o.op=.call { callee:=.builtin .append,args:=#[s,x],argTypes:=#[t,t] })
    {z:Ai} {bytes:Nat} (ht:P.underlying t=some (.slice e)) (hinf:(P.info? e).map (λi=>(i.zero,i.size,i.bytes))=some (some z,r.n,bytes)) (hzs:z.cells.size=r.n) (hn:0 < r.n) (hby:bytes<=1000) (hf:r.kDa)
    {B:Nat} (hown:kR e r w v xs S) (hs:a.eval s=v) {av:Option Addr} {len cap:Nat} (hx:a.eval x=.slice av len cap) (hy:(slice e r).rd w [.slice av len cap] ys) (hSB:∀ k,S k->B<=k/\k < w.heap.size) (hB:B<=w.heap.size) (hlen:xs.length + ys.length<=1000000000)
    (h:∀ v' w',kR e r w' v' (xs++ys) (jX B w'.heap.size)->Below B w w'->w.heap.size<=w'.heap.size->wpList P ops Q rest (a.put o.dst v') w'):wpList P ops Q (o :: rest) a w:=by
 refine wpList_plain E λ_ H=>?_
 obtain ⟨v',w',hr,h1,h2,h3⟩:=kLk (ty:=o.type) ht hinf hzs hn hby hf hown hy hSB hB hlen
 exact kV s x t ho hs hx hr (H _ _ (h v' w' h1 h2 h3))
end
end kD
def kWf {w:Ae} {va:Ai} {x:Ah Aa} (ha:(kD.slice 9 kD.str).rd w [va] x):Bd prog 104 #[va] w (kAa (kD.slice 9 kD.str) x w):=by
 obtain ⟨aa,al,rfl,la⟩:=kD.sl ha.1;have HA:=yD ha;have D:=λ(W:Ae) (a:Option Addr) (n c:Nat)=>Lib.run_eql_slice_nil (P:=prog) W 38 9 a n c 0 0 underlying38;cases aa with
 | none =>
   have hx:x=[]:=by
     cases x with
     | nil=>rfl
     | cons y ys =>
       exact aD
   subst hx;clear ha;go_enter func104,ntmps104;go_wp2;go_ret;exact ⟨_,rfl,kD.jd,bR⟩
 | some a =>
   have hb:x.length<=16777216:=ha.2.1;clear ha;go_enter func104,ntmps104;have O0:kD.kR 9 kD.str (w.alloc (.cells #[] 9)) (.slice (some ⟨w.heap.size,0,none⟩) 0 0) [] (λk=>k=w.heap.size):=kD.yO (cs:=[]) (xs:=[]) (T:=λ_=>False) bD0 bD0 rfl (λ_ h=>h.elim) rfl;go_wp2_with (at_builtin;refine kD.yQ rfl _ _ 38 rfl (r:=kD.str) (e:=9) underlying38 kCh rfl bC8 bC8 kD.kDo (B:=w.heap.size) O0 bD1 bD1 (HA.out.alloc _) qJ bD0 bC4 ?_);exact aF
def zI {w:Ae} {ca:Ah Ai} {x:ko} (ha:kU.rd w ca x):Bd prog 55 #[.agg ca.toArray] w (kAe kU x w):=by
 have HA:=yD ha;obtain ⟨av,rfl,ad⟩:=kZ ha.1;obtain ⟨aa,al,rfl,la⟩:=kD.sl ad;have hb:x.length<=16777216:=ha.2.1;clear ha;go_enter func55,ntmps55;go_wp2_with fail;refine (kWf (HA.out.below bF)).mono ?_;rintro e V ⟨v2,rfl,O2,o⟩;obtain ⟨a2,c2,hv,_⟩:=kD.kAy O2.raw;obtain rfl:v2=_:=by simpa using hv
 have J:Hid (kU.own V [Qs a2 x c2] x (jX (w.heap.size + 2) V.heap.size)):=yD (O2.wide mZ);have F:Qb w V:=Bl bF (o.mono qX);clear hv O2;obtain ⟨R0,F0⟩:=xR;clear o;go_wp2;refine bodyPost_ret (v:=.agg #[Qs a2 x c2]) (by simp [results,results55,go_sem,R0,F0]) rfl ⟨[_],rfl,?_,?_⟩
 · exact (J.out.setCell dX).wide fJ
 exact F.setCell bD0 _
def zJ {w:Ae} {ca:Ah Ai} {x:ko} (ha:kU.rd w ca x):Bd prog 73 #[.agg ca.toArray] w (kAe kU x w):=by
 have HA:=yD ha;obtain ⟨av,rfl,ad⟩:=kZ ha.1;obtain ⟨aa,al,rfl,la⟩:=kD.sl ad;have hb:x.length<=16777216:=ha.2.1;clear ha;go_enter func73,ntmps73;have O0:kD.kR 9 kD.str (((w.alloc (.cells #[.slice aa x.length al] 40)).alloc (.cells #[.slice none 0 0] 40)).alloc (.cells #[] 9)) (.slice (some ⟨w.heap.size + 1 + 1,0,none⟩) 0 0) [] (λk=>k=w.heap.size + 1 + 1):=by
  exact aG
 go_wp2_with (at_builtin;refine kD.yQ rfl _ _ 38 rfl (r:=kD.str) (e:=9) underlying38 kCh rfl bC8 bC8 kD.kDo (B:=w.heap.size + 1 + 1) O0 bD1 bD1 (HA.out.below bF) qJ bD0 bC4 ?_);intro v2 V hown o hz;obtain ⟨a2,c2,hv⟩:=hown.zP;obtain rfl:=hv;have hw:=hown.own vH;have J:Hid (kU.own V [Qs a2 x c2] x (jX (w.heap.size + 1 + 1) V.heap.size)):=yD hw;have F:Qb w V:=Bl bF (o.mono qX);clear hown O0 hw;obtain ⟨R0,F0⟩:=xR;clear o;go_wp2;refine bodyPost_ret (v:=.agg #[Qs a2 x c2]) nJ rfl ⟨[_],rfl,?_,?_⟩
 · exact (J.out.setCell dX).wide fJ
 exact F.setCell bD0 _
namespace kD
section
variable {α:Type} {r:kD α} {e:Ba} {w w':Ae} {v:Ai} {b cap n:Nat} {kept rest xs:Ah α} {j:Nat} {x:α} {S T:Nat->Prop}
def gap (e:Ba) (r:kD α) (w:Ae) (b cap n:Nat) (kept:Ah α) (j:Nat) (rest:Ah α) (S:Nat->Prop):Prop :=
  (∀ x∈kept,r.bdd Big x)/\(∀ x∈rest,r.bdd Big x)/\kept.length + j + rest.length=n/\n<=cap/\cap<=Bj/\S b /\
  ∃ (c E d tl:Ah Ai) (A B:Nat->Prop),w.heap[b]?=some (.cells (c++(E++(d++tl))).toArray e (0,0))/\(c++(E++(d++tl))).length=cap * r.n/\E.length=j * r.n /\
    row r true w c kept A/\row r true w d rest B/\(∀ k,A k->S k/\k≠b)/\(∀ k,B k->S k/\k≠b)/\(∀ k,A k->B k->False)
def gap.lt (h:gap e r w b cap n kept j rest S):b < w.heap.size:=by
 obtain ⟨_,_,_,_,_,_,c,E,d,tl,A,B,h1,_⟩:=h;exact (Ad.1 h1).1
def gap.mem (h:gap e r w b cap n kept j rest S):S b:=h.2.2.2.2.2.1
def gap.len (h:gap e r w b cap n kept j rest S):kept.length + j + rest.length=n/\n<=cap/\cap<=Bj:=⟨h.2.2.1,h.2.2.2.1,h.2.2.2.2.1⟩
def gap.keep (h:gap e r w b cap n kept j rest S) (k:∀ k,S k->k < w.heap.size->w'.heap[k]?=w.heap[k]?):gap e r w' b cap n kept j rest S:=by
 obtain ⟨a1,a2,a3,a4,a5,a6,c,E,d,tl,A,B,h1,h2,h3,h4,h5,h6,h7,h8⟩:=h;refine ⟨a1,a2,a3,a4,a5,a6,c,E,d,tl,(λk=>A k/\k < w.heap.size),(λk=>B k/\k < w.heap.size),(k b a6 (Ad.1 h1).1).trans h1,h2,h3,yM (zO h4) (λi hi=>k i (h6 i hi.1).1 hi.2),yM (zO h5) (λi hi=>k i (h7 i hi.1).1 hi.2),λi hi=>h6 i hi.1,λi hi=>h7 i hi.1,λi h F=>h8 i h.1 F.1⟩
def gap.below (h:gap e r w b cap n kept j rest S) (k:Qb w w'):gap e r w' b cap n kept j rest S:=h.keep (λi _ hi=>k.block i hi)
def gap.frozen (h:gap e r w b cap n kept j rest S) (i:Nat):w.frozen? ⟨b,i,none⟩=false:=by
 obtain ⟨_,_,_,_,_,_,c,E,d,tl,A,B,h1,_⟩:=h;exact frozen_of_row w b i _ _ h1
def kFy (h:kR e r w v xs S) {i:Nat} (hi:i < xs.length):∃ b cap,v=.slice (some ⟨b,0,none⟩) xs.length cap/\gap e r w b cap xs.length (xs.take i) 0 (xs.drop i) S:=by
 obtain ⟨hb,h⟩:=h;rcases h with ⟨⟨a,rfl⟩,rfl⟩|⟨b,cap,cur,cs,tl,rfl,h1,h2,h3,h4,h5,h6,h7⟩
 · simp at hi
 refine ⟨b,cap,rfl,λx hx=>hb x (List.mem_of_mem_take hx),λx hx=>hb x (Aj hx),by simp;omega,h1,h2,h6,?_⟩;have e1:xs=xs.take i++xs.drop i:=bD0;rw [e1] at h7;obtain ⟨c,d,A,B,rfl,r1,r2,hA,hB,hd⟩:=kHz _ h7;refine ⟨c,[],d,tl,A,B,?_,?_,by simp,r1,r2,hA,hB,hd rfl⟩
 · rw [h3,show cur=(c++([]++(d++tl))).toArray from by rw [show c++([]++(d++tl))=cur.toList from by rw [h4];simp]]
 rw [<- h5,<- Array.length_toList,h4];simp
def gap.skip (h:gap e r w b cap n kept j (x :: rest) S):gap e r w b cap n kept (j + 1) rest S:=by
 obtain ⟨a1,a2,a3,a4,a5,a6,c,E,d,tl,A,B,h1,h2,h3,h4,⟨c1,N,A1,B1,rfl,q1,q2,hA1,H,hd1⟩,h6,h7,h8⟩:=h;refine ⟨a1,λy hy=>a2 y bC6,by simp at a3;omega,a4,a5,a6,c,E++c1,N,tl,A,B1,by rw [h1];simp,by rw [<- h2];simp,?_,h4,q2,h6,λk hk=>h7 k (H k hk),λk h F=>h8 k h (H k F)⟩;simp [h3,r.len q1,Nat.add_mul]
def gap.next (h:gap e r w b cap n kept j (x :: rest) S):∃ cs,r.raw w cs x/\cs.length=r.n/\r.bdd Big x/\(∀ q c,cs[q]?=some c->w.cell? ⟨b,(kept.length + j) * r.n + q,none⟩=some c) /\
    ∀ Y,Qb w Y->0 < j->∀ p,p=kept.length * r.n->gap e r (setCells Y b p cs) b cap n (kept++[x]) j rest S/\Touch (λk=>k=b) Y (setCells Y b p cs):=by
 have H0:=h
 obtain ⟨a1,a2,a3,a4,a5,a6,c,E,d,tl,A,B,h1,h2,h3,h4,⟨c1,N,A1,B1,rfl,q1,q2,hA1,H,hd1⟩,h6,h7,h8⟩:=h
 have ag:=zK h4
 have G:=r.len q1
 refine ⟨c1,r.wide (r.weak q1) (λ_ _=>trivial),G,a2 x bD0,?_,?_⟩
 · exact iL
 intro Y hw I p hp
 refine ⟨?_,zH _ _ _ _⟩
 obtain ⟨b1,b2,R,O,V,b6,_⟩:=H0
 have L:Y.heap[b]?=_:=(hw.block b (Ad.1 h1).1).trans h1
 have ak:r.n<=E.length:=by rw [h3];exact Nat.le_mul_of_pos_left _ I
 have D:(setCells Y b p c1).heap[b]?=some (.cells (c++(c1++(E.drop r.n++((c1++N)++tl)))).toArray e (0,0)):=by
  refine zl c1 (E.take r.n) c (E.drop r.n++((c1++N)++tl)) Y b p ?_ (by rw [ag,hp]) (by rw [List.length_take,G];omega);rw [L,<- List.append_assoc (E.take r.n),List.take_append_drop]
 have o:∀ k,k≠b->k < w.heap.size->(setCells Y b p c1).heap[k]?=w.heap[k]?:=λk hk hl=>(zy c1 Y b p k hk).trans (hw.block k hl)
 refine ⟨?_,λy hy=>a2 y bC6,by simp at a3 ⊢;omega,a4,a5,a6,c++c1,E.drop r.n++c1,N,tl,(λk=>(A k\/A1 k)/\k < w.heap.size),(λk=>B1 k/\k < w.heap.size),by rw [D];simp,?_,?_,?_,?_,?_,?_,?_⟩
 · intro y hy;rcases Bb.1 hy with hy | hy
   · exact a1 y hy
   obtain rfl:y=x:=by simpa using hy
   exact a2 y bD0
 · rw [<- h2];simp;omega
 · rw [List.length_append,List.length_drop,h3,G];have:=h3;omega
 · refine kAg (A:=λk=>A k/\k < w.heap.size) (B:=λk=>A1 k/\k < w.heap.size) (yM (zO h4) (λk hk=>o k (h6 k hk.1).2 hk.2)) (yM (zO (kDm q1)) (λk hk=>o k (h7 k (hA1 k hk.1)).2 hk.2)) (λk hk=>⟨.inl hk.1,hk.2⟩) (λk hk=>⟨.inr hk.1,hk.2⟩) (λ_ k h F=>h8 k h.1 (hA1 k F.1))
 · exact yM (zO q2) (λk hk=>o k (h7 k (H k hk.1)).2 hk.2)
 · rintro k ⟨hk | hk,_⟩
   · exact h6 k hk
   exact h7 k (hA1 k hk)
 · intro k hk;exact h7 k (H k hk.1)
 rintro k ⟨hk | hk,_⟩ F
 · exact h8 k hk (H k F.1)
 exact hd1 rfl k hk F.1
def kFu:∀ (cs:Ah Ai) (w:Ae) (b p:Nat),w.setCells b p cs=setCells w b p cs
  | [],_,_,_=>rfl
  | c :: cs,w,b,p=>by
    simp only [World.setCells,setCells];exact kFu cs _ b (p + 1)
def gap.cells (h:gap e r w b cap n kept j rest S) {i:Nat} (hi:i < cap * r.n):(w.cell? ⟨b,i,none⟩).isSome=true:=by
 obtain ⟨_,_,_,_,_,_,c,E,d,tl,A,B,h1,h2,_⟩:=h;rw [cell_of_row w b _ _ e (0,0) h1];simp only [List.getElem?_toArray];rw [List.getElem?_eq_getElem (by rw [h2];exact hi)];rfl
def gap.wipe (h:gap e r w b cap n kept j [] S) {zs:Ah Ai} (hz:zs.length=j * r.n) {p:Nat} (hp:p=kept.length * r.n) :
    kR e r (setCells w b p zs) (.slice (some ⟨b,0,none⟩) kept.length cap) kept S/\Touch (λk=>k=b) w (setCells w b p zs):=by
 obtain ⟨a1,a2,a3,a4,a5,a6,c,E,d,tl,A,B,h1,h2,h3,h4,h5,h6,h7,h8⟩:=h
 obtain rfl:d=[]:=h5
 have ag:=zK h4
 refine ⟨⟨a1,.inr ⟨b,cap,_,c,zs++tl,rfl,by simp at a3;omega,a5,?_,rfl,?_,a6,?_⟩⟩,zH _ _ _ _⟩
 · exact zl zs E c tl w b p bA1 (by rw [ag,hp]) (by rw [h3,hz])
 · rw [<- h2];simp;omega
 exact yL (yM (zO h4) (λk hk=>zy zs w b p k (h6 k hk.1).2)) (λk hk=>h6 k hk.1)
def gap.done (h:gap e r w b cap n kept 0 [] S):kR e r w (.slice (some ⟨b,0,none⟩) kept.length cap) kept S:=by
 have:=(h.wipe (zs:=[]) bD0 rfl).1;exact this
def kHy {P:Bi} {t ty:Ba} {z:Ai} (ht:P.underlying t=some (.slice e)) (hv:∀ w,(zeroValue e).run P w=.ok z w) (h1:∀ u∈z.cells,u.oneCell'=true) (b o m c:Nat) (hm:0 < m)
    (hc:∀ j,j < (Ab z.cells m).size->(w.cell? ⟨b,o + j,none⟩).isSome=true) (hf:∀ j,j < (Ab z.cells m).size->w.frozen? ⟨b,o + j,none⟩=false) (bx:0 < z.cells.size) :
    (Bc #[t] ty #[.slice (some ⟨b,o,none⟩) m c]).run P w=.ok (.tuple #[]) (setCells w b o (Ab z.cells m).toList):=by
 have E:∀ v∈(Ab z.cells m).toList,v.oneCell'=true:=by
  intro v I;simp only [Ab,Array.toList_map,List.mem_map] at I;obtain ⟨i,_,rfl⟩:=I;have hlt:=Nat.mod_lt i bx;rw [getElem!_pos z.cells _ hlt];exact h1 _ (Array.getElem_mem hlt)
 have D:=run_storeCells_cells (P:=P) b o (Ab z.cells m).toList 0 w wW bA3 E
 simp only [Nat.add_zero] at D
 obtain ⟨q,rfl⟩:∃ q,m=q + 1:=⟨m - 1,by omega⟩
 rw [<- kFu]
 simp [Bc,run_underlying ht,hv,D]
def zero_of_info {P:Bi} {i:TypeInfo} {z:Ai} (hi:P.info? e=some i) (hz:i.zero=some z):∀ w,(zeroValue e).run P w=.ok z w:=by
 intro w;simp [zeroValue,typeInfo,hi,hz]
def gap.kHy {P:Bi} {t ty:Ba} {z:Ai} {bytes:Nat} (h:gap e r w b cap n kept j [] S) (I:0 < j) (ht:P.underlying t=some (.slice e)) (hinf:(P.info? e).map (λi=>(i.zero,i.size,i.bytes))=some (some z,r.n,bytes)) (hzs:z.cells.size=r.n) (hn:0 < r.n) (E:∀ u∈z.cells,u.oneCell'=true)
    {p c:Nat} (hp:p=kept.length * r.n) :
    ∃ w',(Bc #[t] ty #[.slice (some ⟨b,p,none⟩) j c]).run P w=.ok (.tuple #[]) w'/\kR e r w' (.slice (some ⟨b,0,none⟩) kept.length cap) kept S/\Touch (λk=>k=b) w w':=by
 obtain ⟨i,hi,hz,hsize,D⟩:=info_parts hinf
 have ax:(Ab z.cells j).size=j * r.n:=by rw [size_zeroCells,hzs]
 have hl:=h.len
 have o:∀ q,q < j * r.n->p + q < cap * r.n:=by
  intro q hq;have h1:(kept.length + j) * r.n<=cap * r.n:=Nat.mul_le_mul_right _ (by have:=hl.1;simp at this;omega);rw [Nat.add_mul] at h1;omega
 have hr:=kD.kHy (P:=P) (ty:=ty) (w:=w) ht (zero_of_info hi hz) E b p j c I (λq hq=>h.cells (o q (by rwa [ax] at hq))) (λq _=>h.frozen _) bC9
 obtain ⟨h1,h2⟩:=h.wipe (zs:=(Ab z.cells j).toList) (by simpa using ax) hp
 exact ⟨_,hr,h1,h2⟩
end
end kD
variable {α:Type} {r:kD α} {e:Ba} {w w':Ae} {v:Ai} {xs ys:Ah α} {S:Nat->Prop}
def kBs (e:Ba) (r:kD α) (x:Ah α) (w:Ae) (E:Ending) (w':Ae):Prop:=∃ v,E=.returned v/\kD.kR e r w' v x (jX w.heap.size w'.heap.size)/\Qb w w'
def kD.kR.cast (h:kD.kR e r w v xs S) (k:xs=ys):kD.kR e r w v ys S:=k ▸ h
def kD.kR.parts (h:kD.kR e r w v xs S):∃ a n cap,v=.slice a n cap/\Hid (n=xs.length):=by
 obtain ⟨a,cap,h⟩:=h.zP;exact ⟨a,_,cap,h,yD rfl⟩
def kBs.post {E:Ending} (h:kBs e r xs w E w') (hl:xs.length<=Big):kAa (kD.slice e r) xs w E w':=by
 obtain ⟨v,rfl,h1,h2⟩:=h;exact ⟨v,rfl,h1.own hl,h2⟩
def kCw {α:Type} {p:α->Bool} {l:Ah α} {k:Nat} (h:k < l.length) (q:p l[k]=true):(l.take (k + 1)).filter p=(l.take k).filter p++[l[k]]:=by
 rw [Ag h,Be];simp [q]
def kBl {α:Type} {p:α->Bool} {l:Ah α} {k:Nat} (h:k < l.length) (q:p l[k]=false):(l.take (k + 1)).filter p=(l.take k).filter p:=by
 rw [Ag h,Be];simp [q]
def zY {α:Type} {p:α->Bool} {l:Ah α} {k:Nat} (h:k<=l.length):((l.take k).filter p).length<=k:=by
 have h1:=List.length_filter_le p (l.take k);rw [List.length_take_of_le h] at h1;exact h1
def yj (ps:Ah Aa):Prop:=∀ p∈ps,p.size<=64
def yj.snoc {ps:Ah Aa} {y:Aa} (h:yj ps) (hy:y.size<=64):yj (ps++[y]):=λp hp=>by
  rcases Bb.1 hp with hp | hp
  · exact h p hp
  · rw [Bf.1 hp];exact hy
def yj.nil:yj []:=λp hp=>by simp at hp
def yj.drop {ps:Ah Aa} (h:yj ps) (k:Nat):yj (ps.drop k):=λp hp=>h p (Aj hp)
def kCq (M:Nat) (ps:Ah Aa):Prop:=∀ p∈ps,p.size<=M
def kCq.nil {M:Nat}:kCq M []:=λp hp=>by simp at hp
def kCq.drop {M:Nat} {ps:Ah Aa} (h:kCq M ps) (k:Nat):kCq M (ps.drop k):=λp hp=>h p (Aj hp)
def kCq.cut {M:Nat} {ps:Ah Aa} {s:Aa} (h:kCq M ps) (hs:s.size<=M) (m k:Nat):kCq M (ps++[s.extract m k]):=λp hp=>by
  rcases Bb.1 hp with hp | hp
  · exact h p hp
  · rw [Bf.1 hp];simp only [ByteArray.size_extract];omega
def kMj {w:Ae} {s:Aa} {M:Nat} (hM:M<=1000) (hs:s.size<=M) {by0:Nat} (hb:by0 < 256) :
    Bd prog 185 #[.string s,.int .u8 by0] w λe w'=>∃ v,e=.returned v/\∃ ps,kD.kR 9 kD.str w' v ps (jX w.heap.size w'.heap.size)/\0 < ps.length/\ps.length<=M + 1/\kCq M ps/\Qb w w':=by
 go_enter func185,ntmps185
 go_wp2
 go_loopw [5,6,7] (λv f i wr=>∃ (k m:Nat) (ps:Ah Aa),k<=s.size + 1/\m<=k/\i=.int .i64 k/\f=.int .i64 m/\ps.length<=k/\(k=s.size + 1->0 < ps.length)/\Hid (kCq M ps)/\Hid (kD.kR 9 kD.str wr v ps (jX w.heap.size wr.heap.size))/\Qb w wr) (λ_ _ i _=>s.size + 1 - (Bh i).toNat)
 case atStart=>exact ⟨0,0,[],by omega,by omega,rfl,rfl,by simp,by omega,yD kCq.nil,yD kD.kR.void,bR.alloc nL _⟩
 obtain ⟨k,m,ps,hk,hm,rfl,rfl,dm,bf,ae,J,o⟩:=hrel
 obtain ⟨oa,on,oc,ho,bb⟩:=J.out.parts;obtain rfl:=ho
 have dt:=o.size
 have bp:=Bg k
 have bt:=Bg m
 by_cases ax:k<=s.size
 · have D:(k:Int)<=s.size:=bC9;by_cases he:k=s.size
   · have c7:(k:Int)=s.size:=bC9;have ab:(m:Int)<=k:=bC9;go_wp2_with (at_builtin;refine kD.jL rfl _ _ 38 rfl (r:=kD.str) (e:=9) underlying38 kCh rfl bC8 bC8 (B:=w.heap.size) J.out bD1 bD1 rfl (kD.flat.own (S:=λ_=>False) (kD.kFj (s:=s.extract m s.size) gD)) rfl (λ_ _ h=>h) qU (λ_ h=>h.elim) bC9 bC9 ?_);intro v2 V Z ak a6;have R:=yD Z;obtain ⟨pa,pn,pc,hp,ay⟩:=Z.parts;obtain rfl:=hp;have F:=o.trans ak;clear Z ak;go_wp2;go_roundw;case rel=>exact ⟨k + 1,k + 1,_,by omega,by omega,by go_num,by go_num,by simp;omega,by simp,yD (ae.out.cut hs m s.size),R,F⟩
     simp [Bh];omega
   have c7:¬ (k:Int)=s.size:=bC9;have G:(k:Int) < s.size:=bC9;have aa:k < s.size:=bC9;have ab:(m:Int)<=k:=bC9;go_upto_region 6 with fail;refine jE (λW=>Qb wr W) [Tt,Tt,Tt,Tt,Tt,Tt,Tt,Tt,Tt,Tt,Tt] (bR) ?_;intro wS E;iterate 4
    all_goals refine ku ?_
   all_goals (refine jy λb O=>?_;cases b <;> try simp only [jw] at O)
   iterate 5
    all_goals refine ku ?_
   all_goals (refine jy λb Y=>?_;cases b <;> try simp only [jw] at Y)
   all_goals refine kS ?_
   all_goals replace o:=(tQ o E)
   all_goals replace J:=yD ((J.out.below E).wide (T:=jX w.heap.size wS.heap.size) (λj I=>⟨I.1,by have:=I.2;have:=E.size;omega⟩))
   all_goals have dt:=o.size
   all_goals clear E
   all_goals first
     | (go_wp2;go_roundw;(case rel=>exact ⟨k + 1,m,ps,by omega,by omega,by go_num,rfl,by omega,by omega,ae,J,o⟩);(case measure=>simp [Bh];omega))
     | skip
   all_goals
     go_wp2_with (at_builtin;refine kD.jL rfl _ _ 38 rfl (r:=kD.str) (e:=9) underlying38 kCh rfl bC8 bC8 (B:=w.heap.size) J.out bD1 bD1 rfl (kD.flat.own (S:=λ_=>False) (kD.kFj (s:=s.extract m k) gD)) rfl (λ_ _ h=>h) qU (λ_ h=>h.elim) bC9 bC9 ?_)
     intro v2 V Z ak a6
     have R:=yD Z
     obtain ⟨pa,pn,pc,hp,ay⟩:=Z.parts;obtain rfl:=hp
     have F:=o.trans ak
     clear Z ak
     go_wp2
     go_roundw
     case rel=>exact ⟨k + 1,k + 1,_,by omega,by omega,by go_num,by go_num,by simp;omega,by simp,yD (ae.out.cut hs m k),R,F⟩
     case measure=>simp [Bh];omega
 have D:¬ (k:Int)<=s.size:=bC9
 have hp:=bf bC9
 go_wp2
 go_ret
 exact ⟨_,rfl,ps,J.out,hp,by omega,ae.out,o⟩
def kMi {w:Ae} {s:Aa} (hs:s.size<=64) {by0:Nat} (hb:by0 < 256) :
    Bd prog 185 #[.string s,.int .u8 by0] w λe w'=>∃ v,e=.returned v/\∃ ps,kD.kR 9 kD.str w' v ps (jX w.heap.size w'.heap.size)/\0 < ps.length/\ps.length<=65/\yj ps/\Qb w w':=kMj (M:=64) bC8 hs hb
end Go.Proofs.YtonmjkmaadgceabGreat
