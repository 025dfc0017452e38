/-
  Names as the reference draws them.
-/
import Derived.Test.YthocbplmdjkifabGreatNum
set_option linter.unusedVariables false
set_option linter.defProp false
set_option linter.unusedSimpArgs false
set_option linter.unnecessarySimpa false
set_option maxRecDepth 100000
set_option maxHeartbeats 4000000
open Bool renaming true->Tt,false->Ff
open _root_ renaming ByteArray->Aa,List->Ae
open Array renaming getElem?_eq_some_iff->Ab
open Go.Builtin renaming zeroCells->Ac,append_->Am,clear_->Bd
open Go renaming World->Ad,Value->Ag,Calls->Aj,TypeId->Av,Program->Be,maxLen->Bj
open Int renaming natCast_nonneg->Ah,eq_ofNat_of_zero_le->Aw
open ByteArray renaming empty->Ai
open List renaming take_succ_eq_append_getElem->Ak,mem_of_mem_drop->Al,mem_append->Ap,getElem?_append_right->Ar,getElem_mem->Ay,getElem?_toArray->Bb,take_succ_cons->Bf,filter_append->Bg,mem_singleton->Bh,append_assoc->Bi
open Go.Proofs.Tryz renaming underlying39->Aq
open Go.RowKit.Below renaming trans->Au
open Go.Op renaming bytesLess->Az
open List.cons renaming injEq->Ba
open Go.IntKind renaming i64->Bc
open Go.RowKit renaming intOf->Bl
namespace Go.Proofs.YthocbplmdjkifabGreat
open Go.RowKit _root_.Go.Proofs.Tryz
variable {w w0:Ad} {k p bytes M by0 B:Nat} {s:Aa} {Q:Exit->Act->Ad->Prop} {S:Nat->Prop} {P:Be} {n x:kU} {av:Option Addr} {ca cn:Ae Ag} {z v:Ag} {i:TypeInfo} {ps:Ae Aa} {α:Type} {o:Oper} {a:Act}
def and255 (x:Int):0<=bits BinOp.and Bc x 255/\bits BinOp.and Bc x 255<=255:=by
 unfold bits;simp only;rw [IntKind.wrap_i64];have h:(BitVec.ofInt Bc.bits x &&& BitVec.ofInt Bc.bits 255).toNat<=255:=by
  rw [BitVec.toNat_and];exact Nat.le_trans Nat.and_le_right bJ4
 omega
def yz (w0 w:Ad) (p:Nat):Prop:=Qb w0 w/\w0.heap.size<=p/\∃ (a:Option Addr) (c:Nat) (i h:Int) (ac:Ae UInt8),Qr w p #[Qs a ac c,Qn i,Qn h] 146/\Cc.raw w0 [Qs a ac c] ac/\0<=i/\i<=ac.length
def yz.below {w':Ad} (h:yz w0 w p) (b:Qb w w'):yz w0 w' p:=by
 obtain ⟨h1,h2,a,c,i,hh,ac,h3,h4⟩:=h;exact ⟨(tQ h1 b),h2,a,c,i,hh,ac,(b.block _ (Ab.1 h3).1).trans h3,h4⟩
def yz.touch {w':Ad} (h:yz w0 w p) (t:Touch S w w') (hp:¬ S p) (h0:∀ k,S k->w0.heap.size<=k):yz w0 w' p:=by
 obtain ⟨h1,h2,a,c,i,hh,ac,h3,h4⟩:=h;exact ⟨h1.trans (t.below h1.size h0),h2,a,c,i,hh,ac,(t.block _ (Ab.1 h3).1 hp).trans h3,h4⟩
def yz.lt (h:yz w0 w p):w0.heap.size<=p/\p < w.heap.size:=by
 obtain ⟨h1,h2,a,c,i,hh,ac,h3,h4⟩:=h;exact ⟨h2,(Ab.1 h3).1⟩
def yz.size (h:yz w0 w p):Qb w0 w:=h.1
def jFl (w:Ad) (p j:Nat) (v:Ag):Touch (λk=>k=p) w (w.setCell ⟨p,j,none⟩ v):=kD.kAc [v] w p j
def kGt {w0 w:World} (hc:yz w0 w p) :
    Calls prog 83 #[.pointer (Qa p)] w λe w'=>∃ x:Int,0<=x/\x<=255/\e=.returned (.int .i64 x)/\yz w0 w' p/\Touch (λk=>k=p) w w':=by
 obtain ⟨ck,bx,a,c,i,h,ac,hh,J,bq,bu⟩:=hc;obtain ⟨m,rfl⟩:=Int.eq_ofNat_of_zero_le bq;obtain ⟨_,_,_,ag⟩:=kD.kBw J;have eo:m<=ac.length:=bJ5;clear bq bu;refine aN J ck λHC HW=>?_;have P2:Qc w p 2 (Qn h):=kE hh rfl;have ah:∀ j,w.frozen? ⟨p,j,none⟩=false:=λj=>frozen_of_row w p j _ _ hh;have Z2:=ah 2;have HH:=yD hh;clear J hh ck ah;go_enter func83,ntmps83;go_upto_region 2 with fail;generalize hH:wrap64 (wrap64 (h * 6364136223846793005) + 1442695040888963407)=H;generalize V:World.setCell w _ _=Z;have E:Qr Z p #[Qs a ac c,.int .i64 (m:Int),Qn H] 146:=by rw [<- V];have q:=heap_setCell_same w p 2 _ _ (Qn H) HH.out;simpa using q
 have TA:Touch (λk=>k=p) w Z:=by rw [<- V];exact jFl w p 2 _
 clear V P2 Z2 hH;have O:Qc Z p 0 (Qs a ac c):=kE E rfl;have P1:Qc Z p 1 (.int .i64 (m:Int)):=kE E rfl;have P2:Qc Z p 2 (Qn H):=kE E rfl;go_upto_region 2 with fail;refine kN (λW=>Qb Z W) [Tt,Tt,Tt,Tt,Tt,Tt,Tt,Tt,Tt,Tt,Tt,Tt,Tt] bI9 bI9 sD (bR.drew) ?_;refine IK λwS1 aj=>?_;all_goals ((first|(refine kI rfl aj ?_)|(refine jF (v:=?_) rfl (λW hW=>?_) ?_;rotate_left;(· have ae:=cL hW P2;clear hW;go_simp;try with_reducible rfl)));(iterate 4 refine jD ?_;(first|(refine kI rfl aj ?_)|(refine jF (v:=?_) rfl (λW hW=>?_) ?_;rotate_left;(· go_simp;try with_reducible rfl))));refine jD ?_;(first|(refine kI rfl aj ?_)|(refine jF (v:=?_) rfl (λW hW=>?_) ?_;rotate_left;(· have ae:=cL hW P2;clear hW;go_simp;try with_reducible rfl)));(iterate 4 refine jD ?_;(first|(refine kI rfl aj ?_)|(refine jF (v:=?_) rfl (λW hW=>?_) ?_;rotate_left;(· go_simp;try with_reducible rfl))));refine jD ?_;refine kR ?_)
 generalize hX:bits BinOp.and IntKind.i64 _ 255=X;have af:0<=X/\X<=255:=by rw [<- hX];exact and255 _
 clear hX;refine aL aj O P1 λO P1=>?_;have R:wS1.heap[p]?=_:=(aj.block p (Array.getElem?_eq_some_iff.1 E).1).trans E;have E1:Touch (λk=>k=p) w wS1:=TA.trans (Touch.of_below aj);clear aj E TA;go_upto_region 3 with fail;refine kN (λW=>Qb wS1 W) [Tt,Tt,Tt,Tt,Tt,Tt,Tt,Tt,Tt,Tt] bI9 bI9 sD (bR.drew) ?_;refine IK λbm d8=>?_;all_goals ((first|(refine kI rfl d8 ?_)|(refine jF (v:=?_) rfl (λW hW=>?_) ?_;rotate_left;(· have F:=cL hW O;have G:=cL hW P1;clear hW;go_simp;try with_reducible rfl)));(iterate 3 refine jD ?_;(first|(refine kI rfl d8 ?_)|(refine jF (v:=?_) rfl (λW hW=>?_) ?_;rotate_left;(· go_simp;try with_reducible rfl))));refine jD ?_;(first|(refine kI rfl d8 ?_)|(refine jF (v:=?_) rfl (λW hW=>?_) ?_;rotate_left;(· have F:=cL hW O;have G:=cL hW P1;clear hW;go_simp;try with_reducible rfl)));(iterate 2 refine jD ?_;(first|(refine kI rfl d8 ?_)|(refine jF (v:=?_) rfl (λW hW=>?_) ?_;rotate_left;(· go_simp;try with_reducible rfl))));refine jD ?_;refine kR ?_)
 refine aL d8 O P1 λO P1=>?_;have D:bm.heap[p]?=_:=(d8.block p (Array.getElem?_eq_some_iff.1 R).1).trans R;have E2:Touch (λk=>k=p) w bm:=E1.trans (Touch.of_below d8);clear d8 R E1;have EB:=HW.trans (E2.below HW.size (λk hk=>by rw [hk];exact bx));by_cases hlt:m < ac.length
 · have cq:(m:Int) < ac.length:=bJ5;have ak:(0:Int)<=m:=bJ5;obtain ⟨cb,I,rfl,c0,cr,an⟩:=kD.kAu (HC.out) hlt rfl;have N:=cL EB an;have az:[c0]=[.int .u8 (ac[m].toNat:Int)]:=cr;obtain rfl:c0=.int .u8 (ac[m].toNat:Int):=bG2;clear cr az;generalize ac[m]=by0 at *;go_upto_region 4 with fail;refine kN (λW=>Qb bm W) [Tt,Tt,Tt,Tt,Tt,Tt,Tt,Tt,Tt,Tt,Tt,Tt,Tt,Tt,Tt] bI9 bI9 sD (bR.drew) ?_;refine mX λa4 ar=>?_;all_goals ((first|(refine kI rfl ar ?_)|(refine jF (v:=?_) rfl (λW hW=>?_) ?_;rotate_left;(· have F:=cL hW O;have G:=cL hW P1;have ai:=cL hW N;clear hW;go_simp;try with_reducible rfl)));(iterate 3 refine jD ?_;(first|(refine kI rfl ar ?_)|(refine jF (v:=?_) rfl (λW hW=>?_) ?_;rotate_left;(· go_simp;try with_reducible rfl))));(iterate 2 refine jD ?_;(first|(refine kI rfl ar ?_)|(refine jF (v:=?_) rfl (λW hW=>?_) ?_;rotate_left;(· have F:=cL hW O;have G:=cL hW P1;have ai:=cL hW N;clear hW;go_simp;try with_reducible rfl)));refine jD ?_;(first|(refine kI rfl ar ?_)|(refine jF (v:=?_) rfl (λW hW=>?_) ?_;rotate_left;(· go_simp;try with_reducible rfl))));(iterate 3 refine jD ?_;(first|(refine kI rfl ar ?_)|(refine jF (v:=?_) rfl (λW hW=>?_) ?_;rotate_left;(· go_simp;try with_reducible rfl))));refine jD ?_;refine kR ?_)
   generalize hY:bits BinOp.and IntKind.i64 _ 255=Y;have ab:0<=Y/\Y<=255:=by rw [<- hY];exact and255 _
   clear hY;replace P1:=cL ar P1;have aa:a4.heap[p]?=_:=(ar.block p (Array.getElem?_eq_some_iff.1 D).1).trans D;have E3:Touch (λk=>k=p) w a4:=E2.trans (Touch.of_below ar);have Z1:=frozen_of_row a4 p 1 _ _ aa;clear ar D E2;have hw:wrap64 ((m:Int) + 1)=(m:Int) + 1:=by unfold wrap64;omega
   have al:IntKind.i64.wrap ((m:Int) + 1)=(m:Int) + 1:=by rw [IntKind.wrap_i64];omega
   have L:=heap_setCell_same a4 p 1 _ _ (.int .i64 ((m:Int) + 1)) aa;have E4:Touch (λk=>k=p) w (a4.setCell ⟨p,1,none⟩ (.int .i64 ((m:Int) + 1))):=E3.trans (jFl _ _ _ _);have U:Hid (yz w0 (a4.setCell ⟨p,1,none⟩ (.int .i64 ((m:Int) + 1))) p):=yD ⟨HW.trans (E4.below HW.size (λk hk=>by rw [hk];exact bx)),bx,_,c,(m:Int) + 1,H,ac,by simpa using L,HC.out,by omega,by omega⟩;have HE:=yD E4;clear L E4 E3 aa;go_wp2;go_ret;exact ⟨Y,ab.1,ab.2,rfl,U.out,HE.out⟩
 have cq:¬ (m:Int) < ac.length:=bJ5;have U:Hid (yz w0 bm p):=yD ⟨EB,bx,a,c,m,H,ac,D,HC.out,by omega,by omega⟩;go_wp2;go_ret;exact ⟨X,af.1,af.2,rfl,U.out,E2⟩
def kPg {ac:Ae UInt8} (dc:Cc.raw w0 [v] ac) (ck:Qb w0 w) :
    Aj prog 41 #[v] w λe w'=>∃ p,e=.returned (.pointer (Qa p))/\yz w0 w' p/\w.heap.size<=p/\Qb w w':=by
 have hl:=dc.below ck;refine aN dc ck λH0 aa=>?_;clear dc ck;obtain ⟨a,c,rfl,ag⟩:=kD.sl hl;have HL:=yD hl;clear hl;go_enter func41,ntmps41;go_wp2;go_loopw [3,4] (λh i wr=>∃ (k:Nat) (z:Int),k<=ac.length/\i=.int .i64 k/\h=.int .i64 z/\Qb w wr) (λ_ i _=>ac.length - (Bl i).toNat);case atStart=>exact ⟨0,_,Nat.zero_le _,rfl,rfl,bR⟩
 obtain ⟨k,z,hk,rfl,rfl,D⟩:=hrel;have E:∀ wx,Qb w wx->yz w0 (wx.alloc (.cells #[.slice a ac.length c,.int .i64 0,.int .i64 z] 146)) wx.heap.size:=λwx hx =>
   ⟨(tQ aa.out hx).alloc (Nat.le_trans aa.size hx.size) _,Nat.le_trans aa.size hx.size,a,c,0,z,ac,heap_alloc_new wx _,H0.out,by omega,by omega⟩
 have al:=yD E;clear E;by_cases hlt:k < ac.length
 · have bg:=Int.ofNat_lt.2 hlt;have dt:=Ah k;obtain ⟨cb,I,rfl,c0,cr,an⟩:=kD.kAu HL.out hlt rfl;have N:=cL D an;have az:[c0]=[.int .u8 (ac[k].toNat:Int)]:=cr;obtain rfl:c0=.int .u8 (ac[k].toNat:Int):=bG2;clear cr az;generalize ac[k]=by0 at *;by_cases h4:(k:Int) < 4000
   · refine Qg ?_;exact ⟨k + 1,_,by omega,by go_num,rfl,D⟩
   go_wp2;go_ret;exact ⟨_,rfl,al.out _ D,D.size,D.alloc D.size _⟩
 have b4:¬ (k:Int) < ac.length:=bJ5;go_wp2;go_ret;exact ⟨_,rfl,al.out _ D,D.size,D.alloc D.size _⟩
def kw (hc:yz w0 w p) {n:Int} (hn:n<=256) :
    Aj prog 32 #[.pointer (Qa p),.int .i64 n] w λe w'=>∃ x:Int,0<=x/\(0 < n->x < n)/\(n<=0->x=0)/\e=.returned (.int .i64 x)/\yz w0 w' p/\Touch (λk=>k=p) w w':=by
 by_cases h0:n<=0
 · go_enter func32,ntmps32;go_wp2;go_ret;exact ⟨0,by omega,by omega,λ_=>rfl,rfl,hc,Touch.of_below bR⟩
 go_enter func32,ntmps32;go_wp2_with fail;refine (kGt hc).mono ?_;rintro e w1 ⟨x,bd,H,rfl,be,D⟩;have hne:¬ n=0:=bJ5;go_wp2;go_ret;refine ⟨_,?_,?_,λq=>absurd q bJ5,rfl,be,D⟩;exact Int.emod_nonneg _ bJ5;exact λq=>Int.emod_lt_of_pos _ q
def kAf (hc:yz w0 w p) {n:Int} (hn:n<=256) :
    Aj prog 102 #[.pointer (Qa p),.int .i64 n] w λe w'=>∃ b:Bool,e=.returned (.bool b)/\yz w0 w' p/\Touch (λk=>k=p) w w':=by
 go_enter func102,ntmps102;go_wp2_with fail;refine (kw hc hn).mono ?_;rintro e w1 ⟨x,bd,H,bu,rfl,be,D⟩;go_wp2;go_ret;exact ⟨_,rfl,be,D⟩
def kDd (hc:yz w0 w p) {xs:Ae Int} (hl:Ck.own w [v] xs S) (hp:¬ S p) (h0:0 < xs.length) (h1:xs.length<=256) :
    Aj prog 223 #[.pointer (Qa p),v] w λe w'=>∃ y,y∈xs/\kD.int.raw w' [.int .i64 y] y/\e=.returned (.int .i64 y)/\yz w0 w' p/\Touch (λk=>k=p) w w':=by
 have HL:=yD hl;obtain ⟨a,c,rfl,ag⟩:=kD.sl hl.raw;clear hl;go_enter func223,ntmps223;go_wp2_with fail;refine (kw hc bJ5).mono ?_;rintro e w1 ⟨x,bd,H,bu,rfl,be,D⟩;have L:=yD (HL.keep (λk hk hl=>D.block k hl (λq=>hp (q ▸ hk))));obtain ⟨k,rfl⟩:=Aw bd;have bg:=H bJ5;have Z:k < xs.length:=bJ5;have dt:=Ah k;obtain ⟨cb,I,rfl,c0,cr,N⟩:=kD.kAu L.raw Z rfl;have E:=Ay Z;generalize xs[k]=y at *;have HR:=yD cr;obtain ⟨rr,_⟩:=kD.yX cr;obtain rfl:c0=.int .i64 y:=by simpa using rr
 clear rr cr bd H bu;go_wp2;go_ret;exact ⟨y,E,HR.out,rfl,be,D⟩
def kBh (hc:yz w0 w p) {xs:Ae Aa} (hl:Cg.own w [v] xs S) (hp:¬ S p) (h0:0 < xs.length) (h1:xs.length<=256) :
    Aj prog 169 #[.pointer (Qa p),v] w λe w'=>∃ y,y∈xs/\kD.str.raw w' [.string y] y/\e=.returned (.string y)/\yz w0 w' p/\Touch (λk=>k=p) w w':=by
 have HL:=yD hl;obtain ⟨a,c,rfl,ag⟩:=kD.sl hl.raw;clear hl;go_enter func169,ntmps169;go_wp2_with fail;refine (kw hc bJ5).mono ?_;rintro e w1 ⟨x,bd,H,bu,rfl,be,D⟩;have L:=yD (HL.keep (λk hk hl=>D.block k hl (λq=>hp (q ▸ hk))));obtain ⟨k,rfl⟩:=Aw bd;have bg:=H bJ5;have Z:k < xs.length:=bJ5;have dt:=Ah k;obtain ⟨cb,I,rfl,c0,cr,N⟩:=kD.kAu L.raw Z rfl;have E:=Ay Z;generalize xs[k]=y at *;have HR:=yD cr;obtain ⟨rr,_⟩:=kD.zQ cr;obtain rfl:c0=.string y:=by simpa using rr
 clear rr cr bd H bu;go_wp2;go_ret;exact ⟨y,E,HR.out,rfl,be,D⟩
def kNb:∀ l:Ae UInt8,Az l l=false
  | []=>rfl
  | a :: l=>by simp [Az,kNb l]
def kQb (a b:Aa):Int:=if Az a.toList b.toList then -1 else if a=b then 0 else 1
def kJk {a b:Aa}:kQb a b=0↔a=b:=by
 unfold kQb;constructor
 · intro h;split at h;omega;split at h;assumption;omega
 rintro rfl;simp [kNb]
def kOy:Ae Aa->Ae Aa->Int
  | [],[]=>0
  | [],_ :: _=>-1
  | _ :: _,[]=>1
  | a :: x,b :: y=>if kQb a b=0 then kOy x y else kQb a b
def jHe:∀ {x y:Ae Aa},kOy x y=0↔x=y
  | [],[]=>by simp [kOy]
  | [],_ :: _=>by simp [kOy]
  | _ :: _,[]=>by simp [kOy]
  | a :: x,b :: y=>by
    unfold kOy;by_cases h:kQb a b=0
    · rw [if_pos h,jHe (x:=x) (y:=y)];have:=kJk.1 h;subst this;simp
    · rw [if_neg h];constructor;intro q;exact absurd q h
      · intro q;simp only [Ba] at q;exact absurd (kJk.2 q.1) h
def jHf:∀ {x y:Ae Aa} {k:Nat} (hx:k < x.length) (hy:k < y.length),x.take k=y.take k->¬ kQb x[k] y[k]=0->kOy x y=kQb x[k] y[k]
  | [],_,_,hx,_,_,_=>by simp at hx
  | _ :: _,[],_,_,hy,_,_=>by simp at hy
  | a :: x,b :: y,0,_,_,_,h=>by
    simp at h;simp [kOy,h]
  | a :: x,b :: y,k + 1,hx,hy,ht,h=>by
    simp only [Bf,Ba] at ht;simp only [List.getElem_cons_succ] at h ⊢;have h0:=kJk.2 ht.1;simp only [kOy,h0,if_true];exact jHf (by simpa using hx) (by simpa using hy) ht.2 h
def cmpN_end:∀ {x y:Ae Aa} {k:Nat},k<=x.length->k<=y.length->x.take k=y.take k->¬ (k < x.length/\k < y.length)->kOy x y=if x.length < y.length then -1 else if y.length < x.length then 1 else 0
  | [],[],_,_,_,_,_=>by simp [kOy]
  | [],b :: y,_,_,_,_,_=>by simp [kOy]
  | a :: x,[],_,_,_,_,_=>by simp [kOy]
  | a :: x,b :: y,0,_,_,_,h=>by simp at h
  | a :: x,b :: y,k + 1,hx,hy,ht,h=>by
    simp only [Bf,Ba] at ht;have h0:=kJk.2 ht.1;simp only [kOy,h0,if_true,List.length_cons];rw [cmpN_end (k:=k) (by simpa using hx) (by simpa using hy) ht.2 bH8];simp
def take_next {x y:Ae Aa} (hx:k < x.length) (hy:k < y.length) (h:x.take k=y.take k) (e:kQb x[k] y[k]=0):x.take (k + 1)=y.take (k + 1) :=
  yO h hx hy (kJk.1 e)
def eqN (a b:kU):Bool:=decide (a=b)
def specl4Cmp_c {a b:Aa}:Aj prog 231 #[.string a,.string b] w λe w'=>e=.returned (.int .i64 (kQb a b))/\w'=w:=by
 go_enter func231,ntmps231;cases h1:Az a.toList b.toList
 · cases h2:(a.toList==b.toList)
   · have L:=yD (show kQb a b=1 by
       unfold kQb;rw [h1];rw [kTh] at h2;simp at h2;simp [h2])
     go_wp2;go_ret;exact ⟨jS L.symm,rfl⟩
   have L:=yD (show kQb a b=0 by
     rw [kTh] at h2;simp at h2;exact kJk.2 h2)
   go_wp2;exact FZ
 have L:=yD (show kQb a b=-1 by simp [kQb,h1]);exact DT
def kSn {cb:Ae Ag} {a b:kU} (ha:kQ.raw w ca a) (hb:kQ.raw w cb b) :
    Aj prog 173 #[.agg ca.toArray,.agg cb.toArray] w (bQ w (.int .i64 (kOy a b))):=by
 obtain ⟨av,rfl,ac⟩:=kT ha;obtain ⟨bv,rfl,a3⟩:=kT hb;clear ha hb;obtain ⟨aa,H,rfl,la,ab,R,rfl,lb⟩:=kD.sx ac (kD.sl a3);go_enter func173,ntmps173;go_wp2;refine fK λX U EB=>?_;refine JC λY K1=>?_;clear U;replace ac:=ac.below EB;replace a3:=a3.below EB;go_loopw [5] (λi wr=>∃ k:Nat,k<=a.length/\k<=b.length/\i=.int .i64 k/\Hid (a.take k=b.take k)/\Qb X wr) (λi _=>a.length - (Bl i).toNat);case atStart=>exact ⟨0,Nat.zero_le _,Nat.zero_le _,rfl,yD rfl,bR⟩
 obtain ⟨k,hk,em,rfl,HN,D⟩:=hrel;refine aL D Y K1 λY K1=>?_;by_cases hc:k < a.length/\k < b.length
 · obtain ⟨hlt,af⟩:=hc;obtain ⟨ba,ah,rfl,c0,hr,A0⟩:=kD.kAu (ac.below D) hlt rfl;obtain ⟨bb,J,rfl,d0,an,B0⟩:=kD.kAu (a3.below D) af rfl;obtain ⟨he,_⟩:=kD.zQ hr;obtain rfl:c0=_:=by simpa using he
   obtain ⟨F,_⟩:=kD.zQ an;obtain rfl:d0=_:=by simpa using F
   clear he F hr an;have N:=λq=>jHf hlt af HN.out q;have E:=λq=>take_next hlt af HN.out q;generalize a[k]=x at *;generalize b[k]=y at *;refine aN N E λHD HX=>?_;clear N E;go_wp2_with fail;refine xS Y K1 A0 B0 λFX=>?_;refine kN (λW=>Qb wr W) [Tt,Tt,Tt,Tt,Tt,Tt,Tt,Tt,Tt,Tt,Ff,Tt] bI9 bI9 sD (bR.drew) ?_;intro wS I;all_goals ((iterate 10 refine kZ ?_);(first | refine wkC (specl4Cmp_c) ?_ | refine kZ ?_);refine kZ ?_;refine kR ?_)
   have EF:=(tQ EB (tQ D I));have G:=(tQ D I);by_cases hz:kQb x y=0
   · have L:=yD (HX.out hz);clear HD HX;have am:(kQb x y != 0)=false:=bF7;clear hz;refine Qg ?_;exact ⟨k + 1,by omega,by omega,by go_num,L,G⟩
   have L:=yD (HD.out hz);clear HD HX;have am:(kQb x y != 0)=true:=bF7;go_wp2;exact uR EF
 have L:=yD (cmpN_end hk em HN.out hc);have EF:=(tQ EB D);by_cases h1:k < a.length
 · have hd:decide ((k:Int) < a.length)=true:=bG6;have h2:¬ k < b.length:=λq=>hc ⟨h1,q⟩;have h3:¬ (a.length:Int) < b.length:=bJ5;have h4:(b.length:Int) < a.length:=bJ5;have HU:=yD (show kOy a b=1 by rw [L.out,if_neg bJ5,if_pos bJ5]);clear hc L;go_wp2;all_goals go_ret
   all_goals exact ⟨jS HU.symm,EF⟩
 have hd:decide ((k:Int) < a.length)=false:=bG6;clear hc;by_cases h3:a.length < b.length
 · have HU:=yD (show kOy a b=-1 by rw [L.out,if_pos h3]);clear L;go_wp2;go_ret;exact ⟨jS HU.symm,EF⟩
 have h4:¬ b.length < a.length:=bJ5;have HU:=yD (show kOy a b=0 by rw [L.out,if_neg h3,if_neg h4]);clear L;exact oK HU EF
def zb {cb:Ae Ag} {a b:kU} (ha:kQ.raw w ca a) (hb:kQ.raw w cb b) :
    Aj prog 114 #[.agg ca.toArray,.agg cb.toArray] w (bQ w (.bool (eqN a b))):=by
 refine aN ha hb λHA HB=>?_;obtain ⟨av,rfl,ac⟩:=kT ha;obtain ⟨bv,rfl,a3⟩:=kT hb;clear ha hb;obtain ⟨aa,H,rfl,la,ab,R,rfl,lb⟩:=kD.sx ac (kD.sl a3);go_enter func114,ntmps114;go_wp2_with fail;refine (kSn (HA.below bK) (HB.below bK)).mono ?_;refine fO λw1 O=>?_;have EF:Qb w w1:=Au bK (O.mono bF5);clear O;go_wp2;go_ret;exact ⟨kJ (by unfold eqN;rw [Bool.eq_iff_iff];simp [jHe]),EF⟩
def kQc {va N:Ag} {a b:Ae Aa} (ac:Cg.raw w [va] a) (a3:Cg.raw w [N] b) :
    Aj prog 164 #[va,N] w (bQ w (.bool (eqN a b))):=by
 obtain ⟨aa,H,rfl,la,ab,R,rfl,lb⟩:=kD.sx ac (kD.sl a3);go_enter func164,ntmps164;by_cases hl:a.length=b.length;case neg =>
  have L:=yD (show eqN a b=false by unfold eqN;simp;rintro rfl;exact hl rfl);exact iW
 refine lJ λhz HL=>?_;clear hl;go_wp2;go_loopw [13] (λi wr=>∃ k:Nat,k<=a.length/\i=.int .i64 k/\Hid (a.take k=b.take k)/\Qb w wr) (λi _=>a.length - (Bl i).toNat);case atStart=>exact ⟨0,Nat.zero_le _,rfl,yD rfl,bR⟩
 exact LW
def yI {cb:Ae Ag} {a b:kU} (ha:kQ.raw w ca a) (hb:kQ.raw w cb b) :
    Aj prog 95 #[.agg ca.toArray,.agg cb.toArray] w (bQ w (.bool (eqN a b))):=by
 obtain ⟨av,rfl,ac⟩:=kT ha;obtain ⟨bv,rfl,a3⟩:=kT hb;clear ha hb;obtain ⟨aa,H,rfl,la,ab,R,rfl,lb⟩:=kD.sx ac (kD.sl a3);go_enter func95,ntmps95;go_wp2_with fail;refine (kQc (ac.below bK) (a3.below bK)).mono ?_;refine fO λw1 O=>?_;have EF:Qb w w1:=Au bK (O.mono bF5);clear O;exact xW EF
def kSu (c:Int):Bool:=!((!inR c 97 122 && !inR c 48 57) && (c != 45))
def okBi (c:Int):Bool:=((decide (c ≥ 97) && decide (c<=122)) || (decide (c ≥ 48) && decide (c<=57))) || (c==45)
def kDb (s:Aa) (j:Nat):Int:=(s.data.toList.getD j 0).toNat
def kEj (s:Aa):Bool:=zf (λj=>kSu (kDb s j)) s.size && inR s.size 1 8
def okBi_eq (c:Int):okBi c=kSu c:=by
 unfold okBi kSu inR;rw [Bool.eq_iff_iff];simp;try omega
def vPart_out {s:ByteArray} (h:inR s.size 1 8=false):kEj s=false:=by simp [kEj,h]
def jFh (h:k < s.size) (q:kSu (kDb s k)=false):kEj s=false:=by
 unfold kEj;rw [kEw h q];rfl
def jAw (q:zf (λj=>kSu (kDb s j)) k=true) (h:¬ k < s.size) (hk:k<=s.size):kEj s=inR s.size 1 8:=by
 obtain rfl:k=s.size:=bJ5;unfold kEj;rw [q];rfl
def kHt (h:k < s.size):kDb s k=(s[k].toNat:Int):=by
 unfold kDb;rw [jY bH8];rfl
def kTf (s:Aa) (k:Nat):0<=kDb s k/\kDb s k < 256:=by
 unfold kDb;have:=(s.data.toList.getD k 0).toNat_lt;omega
def kOc (hs:s.size<=Bj):Aj prog 200 #[.string s] w λe w'=>e=.returned (.bool (kEj s))/\w'=w:=by
 unfold Bj at hs;go_enter func200,ntmps200;go_wp2_with fail;refine yQ.mono ?_;refine OW λhw=>?_;cases O:inR s.size 1 8
 · have L:=yD (vPart_out O);go_wp2;go_ret;exact ⟨kJ L.symm,rfl⟩
 have HI:=yD O;go_wp2;go_loop [3] (λi=>∃ k:Nat,k<=s.size/\i=.int .i64 k/\Hid (zf (λj=>kSu (kDb s j)) k=true)) (λi=>s.size - (Bl i).toNat);case atStart=>exact ⟨0,Nat.zero_le _,rfl,yD rfl⟩
 obtain ⟨k,hk,rfl,HN⟩:=hrel;by_cases hlt:k < s.size
 · have hr:=kTf s k;have hg:=kHt hlt;have HB:=yD (λq=>jFh hlt q);have HX:=yD (λq=>kCi (f:=λj=>kSu (kDb s j)) HN.out q);go_upto_region 7 with fail;generalize (s[k].toNat:Int)=c at *;have HC:=yD hg;clear hg;refine kX (λW=>Hid (W=w)) [Tt,Ff,Tt,Tt,Tt,Ff,Tt,Tt,Tt,Tt,Tt,Tt] (yD rfl) ?_;intro wS I;all_goals (refine kZ ?_;(first | refine wkC (yQ) ?_ | refine kZ ?_);refine kZ ?_;refine jo λb a1=>?_;cases b <;> try simp only [jm] at a1)
   all_goals (refine kZ ?_;(first | refine wkC (yQ) ?_ | refine kZ ?_);refine kZ ?_;refine kZ ?_;refine jo λb an=>?_;cases b <;> try simp only [jm] at an)
   all_goals (refine kZ ?_;refine kZ ?_;refine jo λb am=>?_;cases b <;> try simp only [jm] at am)
   all_goals refine kR ?_
   all_goals obtain rfl:=I.symm
   all_goals first|(have HV:=(congrArg kSu HC.out).trans (show _=false by simp only [kSu,Q0,a1,an,am]);have L:=yD (HB.out HV);clear HV HB HX HC;go_wp2;go_ret;exact ⟨kJ L.symm,rfl⟩)|(have HV:=(congrArg kSu HC.out).trans (show _=true by simp only [kSu,Q0,a1,an,am]);have L:=yD (HX.out HV);clear HV HB HX HC;go_wp2;go_round;(case rel=>exact ⟨k + 1,by omega,by go_num,L⟩);(case measure=>simp [Bl];omega))
 have L:=yD (jAw HN.out hlt hk);have HU:=yD (L.trans HI.out);exact FL HU
def kOl (hs:s.size<=Bj):Aj prog 197 #[.string s] w λe w'=>e=.returned (.bool (kEj s))/\w'=w:=by
 unfold Bj at hs;go_enter func197,ntmps197;go_wp2;go_loop [7] (λi=>∃ k:Nat,k<=s.size/\i=.int .i64 k/\Hid (zf (λj=>kSu (kDb s j)) k=true)) (λi=>s.size - (Bl i).toNat);case atStart=>exact ⟨0,Nat.zero_le _,rfl,yD rfl⟩
 obtain ⟨k,hk,rfl,HN⟩:=hrel;by_cases hlt:k < s.size
 · have hr:=kTf s k;have hg:=kHt hlt;have HB:=yD (λq=>jFh hlt q);have HX:=yD (λq=>kCi (f:=λj=>kSu (kDb s j)) HN.out q);go_upto_region 5 with fail;generalize (s[k].toNat:Int)=c at *;have HC:=yD hg;clear hg;refine kX (λW=>Hid (W=w)) [Tt,Tt,Tt,Tt,Tt,Tt,Tt,Tt,Tt,Tt,Tt,Tt,Tt,Tt,Tt,Tt,Tt,Tt,Tt] (yD rfl) ?_;intro wS I;all_goals (refine kZ ?_;refine kZ ?_;refine jo λb ai=>?_;cases b <;> try simp only [jm] at ai)
   all_goals ((iterate 3 refine kZ ?_);refine jo λb av=>?_;cases b <;> try simp only [jm] at av)
   all_goals (refine kZ ?_;refine kZ ?_;refine jo λb b1=>?_;cases b <;> try simp only [jm] at b1)
   all_goals ((iterate 4 refine kZ ?_);refine jo λb E=>?_;cases b <;> try simp only [jm] at E)
   all_goals ((iterate 3 refine kZ ?_);refine jo λb F=>?_;cases b <;> try simp only [jm] at F)
   all_goals refine kR ?_
   all_goals obtain rfl:=I.symm
   all_goals first|(have HV:=(congrArg kSu HC.out).trans ((okBi_eq _).symm.trans (show _=false by simp only [okBi,Q0,ge_iff_le,ai,av,b1,E,F]));have L:=yD (HB.out HV);clear HV HB HX HC;go_wp2;go_ret;exact ⟨kJ L.symm,rfl⟩)|(have HV:=(congrArg kSu HC.out).trans ((okBi_eq _).symm.trans (show _=true by simp only [okBi,Q0,ge_iff_le,ai,av,b1,E,F]));have L:=yD (HX.out HV);clear HV HB HX HC;go_wp2;go_round;(case rel=>exact ⟨k + 1,by omega,by go_num,L⟩);(case measure=>simp [Bl];omega))
 have L:=yD (jAw HN.out hlt hk);go_wp2_with fail;refine yP.mono ?_;refine OW λhw=>?_;exact FL L
def zX (n:kU):Bool:=zf (λj=>kEj (n.getD j Ai)) n.length && decide (n.length<=6)
def jFi (h:k < n.length) (q:kEj n[k]=false):zX n=false:=by
 unfold zX;rw [kEw h sW];rfl
def vName_next (h:k < n.length) (q:kEj n[k]=true) (a:zf (λj=>kEj (n.getD j Ai)) k=true):zf (λj=>kEj (n.getD j Ai)) (k + 1)=true :=
  kCi a sW
def vName_good (q:zf (λj=>kEj (n.getD j Ai)) k=true) (h:¬ k < n.length) (hk:k<=n.length):zX n=decide (n.length<=6):=by
 obtain rfl:k=n.length:=bJ5;unfold zX;rw [q];rfl
def idx_all (p:α->Bool) (x:Ae α) (d:α):(!decide (0<=idxOf p x))=zf (λj=>!p (x.getD j d)) x.length:=by
 unfold idxOf;cases h:x.findIdx? p with
 | none =>
   have hn:=List.findIdx?_eq_none_iff.1 h;have:zf (λj=>!p (x.getD j d)) x.length=true:=by
     have key:∀ n,n<=x.length->zf (λj=>!p (x.getD j d)) n=true:=by
       intro n;induction n with
       | zero=>intro _;rfl
       | succ n ih =>
         intro F;refine kCi (ih bJ5) ?_
         (try simp only)
         rw [jY bJ5,hn _ (Ay _)];rfl
     exact key _ nL
   rw [this];simp
 | some i =>
   obtain ⟨hi,hp,_⟩:=List.findIdx?_eq_some_iff_getElem.1 h;rw [kEw hi (by (try simp only);rw [jY hi,hp];rfl)];simp
def vName_idx (n:kU):zX n=(decide (n.length<=6) && !decide (0<=idxOf (λp=>!kEj p) n)):=by
 unfold zX;rw [idx_all _ n Ai];simp only [Bool.not_not];exact Bool.and_comm _ _
def zM (hn:kQ.raw w cn n):Aj prog 134 #[.agg cn.toArray] w (bQ w (.bool (zX n))):=by
 obtain ⟨av,rfl,ac⟩:=kT hn;obtain ⟨aa,H,rfl,la⟩:=kD.sl ac;clear hn;go_enter func134,ntmps134;go_wp2;refine MJ λX U EB=>?_;have Y:Qd X w 0 (Qs aa n H):=bA9;clear U;replace ac:=ac.below EB;go_loopw [3] (λi wr=>∃ k:Nat,k<=n.length/\i=.int .i64 k/\Hid (zf (λj=>kEj (n.getD j Ai)) k=true)/\Qb X wr) (λi _=>n.length - (Bl i).toNat);case atStart=>exact ⟨0,Nat.zero_le _,rfl,yD rfl,bR⟩
 obtain ⟨k,hk,rfl,HN,D⟩:=hrel;refine lC D EB λY E=>?_;by_cases hlt:k < n.length
 · obtain ⟨ba,ah,rfl,c0,hr,A0⟩:=kD.kAu (ac.below D) hlt rfl;obtain ⟨he,bn⟩:=kD.zQ hr;obtain rfl:c0=_:=by simpa using he
   clear he hr;have hb:=λq=>jFi hlt q;have hx:=λq=>vName_next hlt q HN.out;generalize n[k]=s at *;refine aN hb hx λHB HX=>?_;have R:=yD bn;clear hb hx bn;go_wp2_with fail;refine (kOc R.out).mono ?_;refine OW λhw=>?_;cases hv:kEj s
   · have L:=yD (HB.out hv);exact iF L E
   have L:=yD (HX.out hv);exact iI L D
 have L:=yD (vName_good HN.out hlt hk);go_wp2;go_ret;exact ⟨kJ wZ,E⟩
def kWt (hs:s.size<=Bj):Aj prog 196 (#[.string s]++#[]) w (bQ w (.bool (!kEj s))):=by
 show Aj prog 196 #[_] w _;go_enter func196,ntmps196;go_wp2_with fail;refine (kOl hs).mono ?_;refine OW λhw=>?_;go_wp2;go_ret;exact ⟨rfl,bR⟩
def kKl:jL prog 196:=yK func196 bI9 bI9
def kAg (hn:kQ.raw w cn n):Aj prog 128 #[.agg cn.toArray] w (bQ w (.bool (zX n))):=by
 obtain ⟨av,rfl,ac⟩:=kT hn;obtain ⟨aa,H,rfl,la⟩:=kD.sl ac;clear hn;have HV:=yD (vName_idx n);go_enter func128,ntmps128;by_cases hl:n.length<=6
 · have hd:decide ((n.length:Int)<=6)=true:=bJ0;have gt:decide (n.length<=6)=true:=bF9;go_wp2_with fail;refine (kPe (λp=>!kEj p) kKl (ac.below bK) ?_).mono ?_
   · intro wr hb i h c hr;obtain ⟨he,bn⟩:=kD.zQ hr;obtain rfl:c=_:=by simpa using he
     exact kWt bn
   refine fO λw1 O=>?_;have EF:Qb w w1:=Au bK (O.mono bJ6);clear O;go_wp2;go_ret;exact ⟨kJ (by rw [HV.out,gt];simp),EF⟩
 have hd:decide ((n.length:Int)<=6)=false:=bJ0;have gt:decide (n.length<=6)=false:=bF9;go_wp2;go_ret;exact ⟨kJ (by rw [HV.out,gt];rfl),bK⟩
namespace kD
def kEy (r:kD α):Prop:=∀ {o:Bool} {w w':Ad} {cs:Ae Ag} {x:α} {S:Nat->Prop},r.is o w cs x S->r.is true w' cs x (λ_=>False)
def yL:int.kEy:=λh=>h
def kEv:byte.kEy:=λh=>h
def kDl:str.kEy:=λh=>h
def kPr {β:Type} {r:kD α} {s:kD β} (h:r.kEy) (k:s.kEy):(pair r s).kEy:=by
 intro o w w' cs x S q;obtain ⟨c,d,A,B,rfl,h1,h2,_⟩:=q;exact ⟨c,d,_,_,rfl,h h1,k h2,λ_ h=>h,λ_ h=>h,λ_ _ h _=>h⟩
section
variable {α:Type} {r:kD α} {e:Av} {w w':Ad} {v:Ag} {xs ys:Ae α} {S T:Nat->Prop}
def kUe (hr:r.kEy) {o:Bool}:∀ {cells:Ae Ag} {ys:Ae α} {S:Nat->Prop},row r o w cells ys S->row r true w' cells ys (λ_=>False)
  | _,[],_,h=>h
  | _,y :: ys,_,⟨c,d,A,B,h,h1,h2,_⟩=>⟨c,d,_,_,h,hr h1,kUe hr h2,λ_ h=>h,λ_ h=>h,λ_ _ h _=>h⟩
def kQk {t ty:Av} (ht:P.underlying t=some (.slice e)) (hinf:(P.info? e).map (λi=>(i.zero,i.size,i.bytes))=some (some z,r.n,bytes)) (hzs:z.cells.size=r.n) (hn:0 < r.n) (hby:bytes<=1000) (hf:r.kEy)
    (hown:ko e r w v xs S) {len cap:Nat} (hy:(slice e r).rd w [.slice av len cap] ys) (hSB:∀ k,S k->B<=k/\k < w.heap.size) (hB:B<=w.heap.size) (hlen:xs.length + ys.length<=1000000000) :
    ∃ v' w',(Am #[t,t] ty #[v,.slice av len cap]).run P w=.ok v' w'/\ko e r w' v' (xs++ys) (jW B w')/\Below B w w'/\w.heap.size<=w'.heap.size:=by
 refine vF λi hi hz hsize E cells hsrc hrow D v' w' hr h2 h3=>?_;refine ⟨v',w',hr,(h3 D (λ_ _ h=>h) hy.2.2).wide ?_,h2.below hB ?_,h2.size⟩;exact JV;intro k hk;exact (hSB k hk.2).1
def kV {K:Act->Ad->Prop} (s x:Operand) (t:Av)
    (ho:o.op=.call { callee:=.builtin .append,args:=#[s,x],argTypes:=#[t,t] }) {v sv v':Ag} (hs:a.eval s=v) (hx:a.eval x=sv) {w w':Ad}
    (hr:(Am #[t,t] o.type #[v,sv]).run P w=.ok v' w') (h:K (a.put o.dst v') w'):o.wp P a w K Q:=by
 unfold Oper.wp execOp;simp only [ho,resolve,invoke,builtin,Sem.run_bind,Sem.run_pure,Result.andThen_ok,List.map_toArray,List.map_cons,List.map_nil,hs,hx,hr];exact h
def yH {ops:Array Oper} {rest:Ae Oper} (D:o.guard=none) (s x:Operand) (t:Av)
    (ho:o.op=.call { callee:=.builtin .append,args:=#[s,x],argTypes:=#[t,t] })
    (ht:P.underlying t=some (.slice e)) (hinf:(P.info? e).map (λi=>(i.zero,i.size,i.bytes))=some (some z,r.n,bytes)) (hzs:z.cells.size=r.n) (hn:0 < r.n) (hby:bytes<=1000) (hf:r.kEy)
    (hown:ko e r w v xs S) (hs:a.eval s=v) {len cap:Nat} (hx:a.eval x=.slice av len cap) (hy:(slice e r).rd w [.slice av len cap] ys) (hSB:∀ k,S k->B<=k/\k < w.heap.size) (hB:B<=w.heap.size) (hlen:xs.length + ys.length<=1000000000)
    (h:∀ v' w',ko e r w' v' (xs++ys) (jW B w')->Below B w w'->w.heap.size<=w'.heap.size->wpList P ops Q rest (a.put o.dst v') w'):wpList P ops Q (o :: rest) a w:=by
 refine wpList_plain D λ_ E=>?_;obtain ⟨v',w',hr,h1,h2,h3⟩:=kQk (ty:=o.type) ht hinf hzs hn hby hf hown hy hSB hB hlen;exact kV s x t ho hs hx hr (E _ _ (h v' w' h1 h2 h3))
end
end kD
def jEh {va:Ag} {x:Ae Aa} (ha:Cg.rd w [va] x):Aj prog 163 #[va] w (kAj Cg x w):=by
 obtain ⟨aa,H,rfl,la⟩:=kD.sl ha.1;have HA:=yD ha;have E:=λ(W:Ad) (a:Option Addr) (n c:Nat)=>Lib.run_eql_slice_nil (P:=prog) W 39 9 a n c 0 0 Aq;cases aa with
 | none =>
   have hx:x=[]:=by
     cases x with
     | nil=>rfl
     | cons y ys =>
       exact UK
   subst hx;clear ha;go_enter func163,ntmps163;go_wp2;go_ret;exact ⟨_,rfl,kD.jr,bR⟩
 | some a =>
   have hb:x.length<=16777216:=ha.2.1;clear ha;go_enter func163,ntmps163;have O0:kD.ko 9 kD.str (w.alloc (.cells #[] 9)) (.slice (Qa w) 0 0) [] (λk=>k=w.heap.size):=kD.yf (cs:=[]) (xs:=[]) (T:=λ_=>False) bJ6 bJ6 rfl (λ_ h=>h.elim) rfl;go_wp2_with (at_builtin;refine kD.yH rfl _ _ 39 rfl (r:=kD.str) (e:=9) Aq kEe rfl bJ4 bJ4 kD.kDl (B:=w.heap.size) O0 bJ7 bJ7 (HA.alloc _) tO bJ6 bJ0 ?_);exact UL
def zl (ha:kQ.rd w ca x):Aj prog 91 #[.agg ca.toArray] w (kAm kQ x w):=by
 have HA:=yD ha;obtain ⟨av,rfl,ac⟩:=kT ha.1;obtain ⟨aa,H,rfl,la⟩:=kD.sl ac;clear ha;go_enter func91,ntmps91;go_wp2_with fail;refine (jEh (HA.below bK)).mono ?_;refine eD λw2 v2 O2 D=>?_;obtain ⟨a2,c2,hv,_⟩:=kD.kBw O2.raw;obtain rfl:v2=_:=by simpa using hv
 have F:Hid (kQ.own w2 [Qs a2 x c2] x (jW (w.heap.size + 2) w2)):=yD (O2.wide qA);have G:Qb w w2:=Au bK (D.mono vG);clear hv O2;refine oJ λR0 F0=>?_;clear D;refine bodyPost_ret (v:=.agg #[Qs a2 x c2]) (by simp [results,results91,go_sem,R0,F0]) rfl ⟨[_],rfl,?_,?_⟩;exact (F.setCell gM).wide mG;exact G.setCell bJ6 _
def zo (ha:kQ.rd w ca x):Aj prog 106 #[.agg ca.toArray] w (kAm kQ x w):=by
 have HA:=yD ha;obtain ⟨av,rfl,ac⟩:=kT ha.1;obtain ⟨aa,H,rfl,la⟩:=kD.sl ac;have hb:x.length<=16777216:=ha.2.1;clear ha;go_enter func106,ntmps106;refine lQ λO0=>?_;go_wp2_with (at_builtin;refine kD.yH rfl _ _ 39 rfl (r:=kD.str) (e:=9) Aq kEe rfl bJ4 bJ4 kD.kDl (B:=w.heap.size + 1 + 1) O0 bJ7 bJ7 (HA.below bK) tO bJ6 bJ0 ?_);intro v2 w2 hown D hz;obtain ⟨a2,c2,hv⟩:=hown.zK;obtain rfl:=hv;have hw:=hown.own bC4;have F:Hid (kQ.own w2 [Qs a2 x c2] x (jW (w.heap.size + 1 + 1) w2)):=yD hw;have G:Qb w w2:=Au bK (D.mono vG);clear hown O0 hw;refine oJ λR0 F0=>?_;clear D;refine bodyPost_ret (v:=.agg #[Qs a2 x c2]) qG rfl ⟨[_],rfl,?_,?_⟩;exact (F.setCell gM).wide mG;exact G.setCell bJ6 _
namespace kD
section
variable {α:Type} {r:kD α} {e:Av} {w w':Ad} {v:Ag} {b cap n:Nat} {kept rest xs:Ae α} {j:Nat} {x:α} {S T:Nat->Prop}
def gap (e:Av) (r:kD α) (w:Ad) (b cap n:Nat) (kept:Ae α) (j:Nat) (rest:Ae α) (S:Nat->Prop):Prop :=
  (∀ x∈kept,r.bdd Big x)/\(∀ x∈rest,r.bdd Big x)/\kept.length + j + rest.length=n/\n<=cap/\cap<=Bj/\S b /\
  ∃ (c D d tl:Ae Ag) (A B:Nat->Prop),w.heap[b]?=some (.cells (c++(D++(d++tl))).toArray e (0,0))/\(c++(D++(d++tl))).length=cap * r.n/\D.length=j * r.n /\
    row r true w c kept A/\row r true w d rest B/\(∀ k,A k->S k/\k≠b)/\(∀ k,B k->S k/\k≠b)/\(∀ k,A k->B k->False)
def gap.lt (h:gap e r w b cap n kept j rest S):b < w.heap.size:=by
 obtain ⟨_,_,_,_,_,_,c,D,d,tl,A,B,h1,_⟩:=h;exact (Ab.1 h1).1
def gap.mem (h:gap e r w b cap n kept j rest S):S b:=h.2.2.2.2.2.1
def gap.len (h:gap e r w b cap n kept j rest S):kept.length + j + rest.length=n/\n<=cap/\cap<=Bj:=⟨h.2.2.1,h.2.2.2.1,h.2.2.2.2.1⟩
def gap.keep (h:gap e r w b cap n kept j rest S) (k:∀ k,S k->k < w.heap.size->w'.heap[k]?=w.heap[k]?):gap e r w' b cap n kept j rest S:=by
 obtain ⟨a1,a2,a3,a4,a5,U,c,D,d,tl,A,B,h1,h2,h3,h4,h5,h6,h7,h8⟩:=h;refine ⟨a1,a2,a3,a4,a5,U,c,D,d,tl,(λk=>A k/\k < w.heap.size),(λk=>B k/\k < w.heap.size),(k b U (Ab.1 h1).1).trans h1,h2,h3,yu (kAh h4) (λi hi=>k i (h6 i hi.1).1 hi.2),yu (kAh h5) (λi hi=>k i (h7 i hi.1).1 hi.2),λi hi=>h6 i hi.1,λi hi=>h7 i hi.1,λi h G=>h8 i h.1 G.1⟩
def gap.below (h:gap e r w b cap n kept j rest S) (k:Qb w w'):gap e r w' b cap n kept j rest S:=h.keep (λi _ hi=>k.block i hi)
def gap.frozen (h:gap e r w b cap n kept j rest S) (i:Nat):w.frozen? ⟨b,i,none⟩=false:=by
 obtain ⟨_,_,_,_,_,_,c,D,d,tl,A,B,h1,_⟩:=h;exact frozen_of_row w b i _ _ h1
def kCz (h:ko e r w v xs S) {i:Nat} (hi:i < xs.length):∃ b cap,v=.slice (Qa b) xs.length cap/\gap e r w b cap xs.length (xs.take i) 0 (xs.drop i) S:=by
 obtain ⟨hb,h⟩:=h;rcases h with ⟨⟨a,rfl⟩,rfl⟩|⟨b,cap,cur,cs,tl,rfl,h1,h2,h3,h4,h5,h6,h7⟩;simp at hi;refine ⟨b,cap,rfl,λx hx=>hb x (List.mem_of_mem_take hx),λx hx=>hb x (Al hx),by simp;omega,h1,h2,h6,?_⟩;have e1:xs=xs.take i++xs.drop i:=bJ6;rw [e1] at h7;obtain ⟨c,d,A,B,rfl,r1,r2,hA,hB,hd⟩:=kMl _ h7;refine ⟨c,[],d,tl,A,B,?_,?_,by simp,r1,r2,hA,hB,hd rfl⟩;rw [h3,show cur=(c++([]++(d++tl))).toArray from by rw [show c++([]++(d++tl))=cur.toList from by rw [h4];simp]];rw [<- h5,<- Array.length_toList,h4];simp
def gap.skip (h:gap e r w b cap n kept j (x :: rest) S):gap e r w b cap n kept (j + 1) rest S:=by
 obtain ⟨a1,a2,a3,a4,a5,U,c,D,d,tl,A,B,h1,h2,h3,h4,⟨c1,I,A1,B1,rfl,q1,q2,hA1,H,hd1⟩,h6,h7,h8⟩:=h;refine ⟨a1,λy hy=>a2 y bJ2,by simp at a3;omega,a4,a5,U,c,D++c1,I,tl,A,B1,by rw [h1];simp,by rw [<- h2];simp,?_,h4,q2,h6,λk hk=>h7 k (H k hk),λk h G=>h8 k h (H k G)⟩;simp [h3,r.len q1,Nat.add_mul]
def gap.next (h:gap e r w b cap n kept j (x :: rest) S):∃ cs,r.raw w cs x/\cs.length=r.n/\r.bdd Big x/\(∀ q c,cs[q]?=some c->w.cell? ⟨b,(kept.length + j) * r.n + q,none⟩=some c) /\
    ∀ w1,Qb w w1->0 < j->∀ p,p=kept.length * r.n->gap e r (setCells w1 b p cs) b cap n (kept++[x]) j rest S/\Touch (λk=>k=b) w1 (setCells w1 b p cs):=by
 have H0:=h;obtain ⟨a1,a2,a3,a4,a5,U,c,D,d,tl,A,B,h1,h2,h3,h4,⟨c1,I,A1,B1,rfl,q1,q2,hA1,H,hd1⟩,h6,h7,h8⟩:=h;have ag:=zu h4;have be:=r.len q1;refine ⟨c1,r.wide (r.weak q1) (λ_ _=>trivial),be,a2 x bJ6,?_,?_⟩;exact V4;intro w1 hw J p hp;refine ⟨?_,kAc _ _ _ _⟩;obtain ⟨b1,b2,O,L,R,b6,_⟩:=H0;have N:w1.heap[b]?=_:=(hw.block b (Ab.1 h1).1).trans h1;have X:r.n<=D.length:=by rw [h3];exact Nat.le_mul_of_pos_left _ J
 have V:(setCells w1 b p c1).heap[b]?=some (.cells (c++(c1++(D.drop r.n++((c1++I)++tl)))).toArray e (0,0)):=by
  refine kBf c1 (D.take r.n) c (D.drop r.n++((c1++I)++tl)) w1 b p ?_ (by rw [ag,hp]) (by rw [List.length_take,be];omega);rw [N,<- Bi (D.take r.n),List.take_append_drop]
 have E:∀ k,k≠b->k < w.heap.size->(setCells w1 b p c1).heap[k]?=w.heap[k]?:=λk hk hl=>(kBj c1 w1 b p k hk).trans (hw.block k hl);refine ⟨?_,λy hy=>a2 y bJ2,by simp at a3 ⊢;omega,a4,a5,U,c++c1,D.drop r.n++c1,I,tl,(λk=>(A k\/A1 k)/\k < w.heap.size),(λk=>B1 k/\k < w.heap.size),by rw [V];simp,?_,?_,?_,?_,?_,?_,?_⟩
 · intro y hy;rcases Ap.1 hy with hy | hy;exact a1 y hy;obtain rfl:y=x:=by simpa using hy
   exact a2 y bJ6
 rw [<- h2];simp;omega;rw [List.length_append,List.length_drop,h3,be];have:=h3;omega
 · refine kAy (A:=λk=>A k/\k < w.heap.size) (B:=λk=>A1 k/\k < w.heap.size) (yu (kAh h4) (λk hk=>E k (h6 k hk.1).2 hk.2)) (yu (kAh (kGc q1)) (λk hk=>E k (h7 k (hA1 k hk.1)).2 hk.2)) (λk hk=>⟨.inl hk.1,hk.2⟩) (λk hk=>⟨.inr hk.1,hk.2⟩) (λ_ k h G=>h8 k h.1 (hA1 k G.1))
 exact yu (kAh q2) (λk hk=>E k (h7 k (H k hk.1)).2 hk.2)
 · rintro k ⟨hk | hk,_⟩;exact h6 k hk;exact h7 k (hA1 k hk)
 intro k hk;exact h7 k (H k hk.1);rintro k ⟨hk | hk,_⟩ G;exact h8 k hk (H k G.1);exact hd1 rfl k hk G.1
def kJb:∀ (cs:Ae Ag) (w:Ad) (b p:Nat),w.setCells b p cs=setCells w b p cs
  | [],_,_,_=>rfl
  | c :: cs,w,b,p=>by
    simp only [World.setCells,setCells];exact kJb cs _ b (p + 1)
def gap.cells (h:gap e r w b cap n kept j rest S) {i:Nat} (hi:i < cap * r.n):(w.cell? ⟨b,i,none⟩).isSome=true:=by
 obtain ⟨_,_,_,_,_,_,c,D,d,tl,A,B,h1,h2,_⟩:=h;rw [cell_of_row w b _ _ e (0,0) h1];simp only [Bb];rw [List.getElem?_eq_getElem (by rw [h2];exact hi)];rfl
def gap.wipe (h:gap e r w b cap n kept j [] S) {zs:Ae Ag} (hz:zs.length=j * r.n) (hp:p=kept.length * r.n) :
    ko e r (setCells w b p zs) (.slice (Qa b) kept.length cap) kept S/\Touch (λk=>k=b) w (setCells w b p zs):=by
 obtain ⟨a1,a2,a3,a4,a5,U,c,D,d,tl,A,B,h1,h2,h3,h4,h5,h6,h7,h8⟩:=h;obtain rfl:d=[]:=h5;have ag:=zu h4;refine ⟨⟨a1,.inr ⟨b,cap,_,c,zs++tl,rfl,by simp at a3;omega,a5,?_,rfl,?_,U,?_⟩⟩,kAc _ _ _ _⟩;exact kBf zs D c tl w b p bG6 (by rw [ag,hp]) (by rw [h3,hz]);rw [<- h2];simp;omega;exact yx (yu (kAh h4) (λk hk=>kBj zs w b p k (h6 k hk.1).2)) (λk hk=>h6 k hk.1)
def gap.done (h:gap e r w b cap n kept 0 [] S):ko e r w (.slice (Qa b) kept.length cap) kept S:=by
 have:=(h.wipe (zs:=[]) bJ6 rfl).1;exact this
def kCx {t ty:Av} (ht:P.underlying t=some (.slice e)) (hv:∀ w,(zeroValue e).run P w=.ok z w) (h1:∀ u∈z.cells,u.oneCell'=true) (b o m c:Nat) (hm:0 < m)
    (hc:∀ j,j < (Ac z.cells m).size->(w.cell? ⟨b,o + j,none⟩).isSome=true) (hf:∀ j,j < (Ac z.cells m).size->w.frozen? ⟨b,o + j,none⟩=false) (a7:0 < z.cells.size) :
    (Bd #[t] ty #[.slice (some ⟨b,o,none⟩) m c]).run P w=.ok (.tuple #[]) (setCells w b o (Ac z.cells m).toList):=by
 have F:∀ v∈(Ac z.cells m).toList,v.oneCell'=true:=by
  intro v D;simp only [Ac,Array.toList_map,List.mem_map] at D;obtain ⟨i,_,rfl⟩:=D;have hlt:=Nat.mod_lt i a7;rw [getElem!_pos z.cells _ hlt];exact h1 _ (Array.getElem_mem hlt)
 have V:=run_storeCells_cells (P:=P) b o (Ac z.cells m).toList 0 w bG0 bG7 F;simp only [Nat.add_zero] at V;obtain ⟨q,rfl⟩:∃ q,m=q + 1:=⟨m - 1,by omega⟩;rw [<- kJb];simp [Bd,run_underlying ht,hv,V]
def zero_of_info (hi:P.info? e=some i) (hz:i.zero=some z):∀ w,(zeroValue e).run P w=.ok z w:=by
 intro w;simp [zeroValue,typeInfo,hi,hz]
def gap.kCx {P:Be} {t ty:Av} {z:Ag} {bytes:Nat} (h:gap e r w b cap n kept j [] S) (J:0 < j) (ht:P.underlying t=some (.slice e)) (hinf:(P.info? e).map (λi=>(i.zero,i.size,i.bytes))=some (some z,r.n,bytes)) (hzs:z.cells.size=r.n) (hn:0 < r.n) (F:∀ u∈z.cells,u.oneCell'=true)
    {p c:Nat} (hp:p=kept.length * r.n) :
    ∃ w',(Bd #[t] ty #[.slice (some ⟨b,p,none⟩) j c]).run P w=.ok (.tuple #[]) w'/\ko e r w' (.slice (Qa b) kept.length cap) kept S/\Touch (λk=>k=b) w w':=by
 obtain ⟨i,hi,hz,hsize,E⟩:=info_parts hinf;have bn:(Ac z.cells j).size=j * r.n:=by rw [size_zeroCells,hzs]
 have hl:=h.len;have D:∀ q,q < j * r.n->p + q < cap * r.n:=by
  intro q hq;have h1:(kept.length + j) * r.n<=cap * r.n:=Nat.mul_le_mul_right _ (by have:=hl.1;simp at this;omega);rw [Nat.add_mul] at h1;omega
 have hr:=kD.kCx (P:=P) (ty:=ty) (w:=w) ht (zero_of_info hi hz) F b p j c J (λq hq=>h.cells (D q (by rwa [bn] at hq))) (λq _=>h.frozen _) bJ5;obtain ⟨h1,h2⟩:=h.wipe (zs:=(Ac z.cells j).toList) (by simpa using bn) hp;exact ⟨_,hr,h1,h2⟩
def run_shift {t ty:Av} (ht:P.underlying t=some (.slice e)) (hi:P.info? e=some i) (hsize:i.size=r.n)
    (h:gap e r w b cap n kept j rest S) {ad:Addr} {c:Nat} (I:rest≠[]->ad=⟨b,(kept.length + j) * r.n,none⟩) (hn:0 < r.n) :
    ∃ w',(Am #[t,t] ty #[.slice (Qa b) kept.length cap,.slice (some ad) rest.length c]).run P w=.ok (.slice (Qa b) (kept.length + rest.length) cap) w' /\
      gap e r w' b cap n (kept++rest) j [] S/\Touch (λk=>k=b) w w':=by
 obtain ⟨a1,a2,a3,a4,a5,U,cc,D,d,tl,A,B,h1,h2,h3,h4,h5,h6,h7,h8⟩:=h;by_cases cw:rest=[]
 · subst cw;obtain rfl:d=[]:=h5;refine ⟨w,?_,⟨by simpa using a1,by simp,by simpa using a3,a4,a5,U,cc,D,[],tl,A,B,by simpa using h1,by simpa using h2,h3,by simpa using h4,rfl,h6,h7,h8⟩,Touch.refl _ _⟩;have W:kept.length<=cap:=by simp at a3;omega
   simp [Am,run_underlying ht,sizeOf,typeInfo,hi,Builtin.lenOf,W,Builtin.firstCells,loadCells,loadCellsFrom,storeCells]
 obtain rfl:=I cw;have ag:=zu h4;have ba:=zu h5;have hne:0 < rest.length:=List.length_pos_iff.2 cw;have ac:∀ q u,d[q]?=some u->w.cell? ((⟨b,(kept.length + j) * r.n,none⟩:Addr).add q)=some u:=by
  intro q u hq;have cl:=(List.getElem?_eq_some_iff.1 hq).1;have F:(⟨b,(kept.length + j) * r.n,none⟩:Addr).add q=⟨b,(kept.length + j) * r.n + q,none⟩:=sP;rw [F,cell_of_row w b _ _ e (0,0) h1];simp only [Bb];rw [Ar wY,Ar vW,List.getElem?_append_left vW];rw [<- hq];congr 1;rw [ag,h3,Nat.add_mul];omega
 have V:kept.length * i.size + d.length<=(cc++(D++(d++tl))).toArray.size:=by simp [hsize,ag];omega
 have hr:=run_append_room (P:=P) w t ty e i ht hi b kept.length cap _ h1 ⟨b,(kept.length + j) * r.n,none⟩ rest.length c d (by rw [hsize];exact ba) ac (row_one h5) bJ5 V;refine ⟨_,hr,?_,⟨rfl,rfl,rfl,by simp,λk _ hk=>setRow_other w b k _ hk⟩⟩;have E:∀ X k,k≠b->(w.setRow b X).heap[k]?=w.heap[k]?:=λX k hk=>setRow_other w b k _ hk;have N:(cc++(D++(d++tl))).toArray.toList.take (kept.length * i.size)=cc:=by rw [hsize,<- ag];simp
 have dn:(cc++(D++(d++tl))).toArray.toList.drop (kept.length * i.size + d.length)=(D++(d++tl)).drop d.length:=by rw [hsize,<- ag];simp
 rw [N,dn];have H:(D++(d++tl)).drop d.length=(D++d).drop d.length++tl:=by
  rw [<- Bi,List.drop_append_of_le_length bJ6]
 refine ⟨?_,by simp,by simp;omega,a4,a5,U,cc++d,(D++d).drop d.length,[],tl,(λk=>A k\/B k),(λ_=>False),?_,?_,?_,?_,rfl,?_,λ_ h=>h.elim,λ_ _ h=>h⟩
 · intro y hy;rcases Ap.1 hy with hy | hy;exact a1 y hy;exact a2 y hy
 rw [setRow_heap w b _ _ e _ h1,H];simp;rw [<- h2];simp;omega;simp [h3];exact kAy (A:=A) (B:=B) (yu h4 (λk hk=>E _ k (h6 k hk).2)) (yu h5 (λk hk=>E _ k (h7 k hk).2)) (λk hk=>.inl hk) (λk hk=>.inr hk) (λ_ k h G=>h8 k h G);rintro k (hk | hk);exact h6 k hk;exact h7 k hk
end
end kD
variable {α:Type} {r:kD α} {e:Av} {w w':Ad} {v:Ag} {xs ys:Ae α} {S:Nat->Prop}
def kAo (e:Av) (r:kD α) (x:Ae α) (w:Ad) (E:Ending) (w':Ad):Prop:=∃ v,E=.returned v/\kD.ko e r w' v x (jW w w')/\Qb w w'
def kD.ko.cast (h:kD.ko e r w v xs S) (k:xs=ys):kD.ko e r w v ys S:=k ▸ h
def kD.ko.parts (h:kD.ko e r w v xs S):∃ a n cap,v=.slice a n cap/\Hid (n=xs.length):=by
 obtain ⟨a,cap,h⟩:=h.zK;exact ⟨a,_,cap,h,yD rfl⟩
def kAo.post {E:Ending} (h:kAo e r xs w E w') (hl:xs.length<=Big):kAj (kD.slice e r) xs w E w':=by
 obtain ⟨v,rfl,h1,h2⟩:=h;exact ⟨v,rfl,h1.own hl,h2⟩
def kDp {α:Type} {p:α->Bool} {l:Ae α} (h:k < l.length) (q:p l[k]=true):(l.take (k + 1)).filter p=(l.take k).filter p++[l[k]]:=by
 rw [Ak h,Bg];simp [q]
def kCh {α:Type} {p:α->Bool} {l:Ae α} (h:k < l.length) (q:p l[k]=false):(l.take (k + 1)).filter p=(l.take k).filter p:=by
 rw [Ak h,Bg];simp [q]
def kAe {α:Type} {p:α->Bool} {l:Ae α} (h:k<=l.length):((l.take k).filter p).length<=k:=by
 have h1:=List.length_filter_le p (l.take k);rw [List.length_take_of_le h] at h1;exact h1
def fm_yes {α β:Type} {p:α->Bool} {g:α->β} {l:List α} (h:k < l.length) (q:p l[k]=true):((l.take (k + 1)).filter p).map g=((l.take k).filter p).map g++[g l[k]]:=by rw [kDp h q,List.map_append];rfl
def fm_no {α β:Type} {p:α->Bool} {g:α->β} {l:List α} (h:k < l.length) (q:p l[k]=false):((l.take (k + 1)).filter p).map g=((l.take k).filter p).map g:=by rw [kCh h q]
def fm_le {α β:Type} {p:α->Bool} {g:α->β} {l:List α} (h:k<=l.length):(((l.take k).filter p).map g).length<=k:=by rw [List.length_map];exact kAe h
def zR (ps:Ae Aa):Prop:=∀ p∈ps,p.size<=64
def zR.snoc {y:Aa} (h:zR ps) (hy:y.size<=64):zR (ps++[y]):=λp hp=>by
  rcases Ap.1 hp with hp | hp;exact h p hp
  · rw [Bh.1 hp];exact hy
def zR.nil:zR []:=λp hp=>by simp at hp
def zR.drop {ps:Ae Aa} (h:zR ps) (k:Nat):zR (ps.drop k):=λp hp=>h p (Al hp)
def kEs (M:Nat) (ps:Ae Aa):Prop:=∀ p∈ps,p.size<=M
def kEs.nil:kEs M []:=λp hp=>by simp at hp
def kEs.drop {M:Nat} {ps:Ae Aa} (h:kEs M ps) (k:Nat):kEs M (ps.drop k):=λp hp=>h p (Al hp)
def kEs.cut (h:kEs M ps) (hs:s.size<=M) (m k:Nat):kEs M (ps++[s.extract m k]):=λp hp=>by
  rcases Ap.1 hp with hp | hp;exact h p hp
  · rw [Bh.1 hp];simp only [ByteArray.size_extract];omega
def kRn {w:Ad} (hM:M<=1000) (hs:s.size<=M) (hb:by0 < 256) :
    Aj prog 260 #[.string s,.int .u8 by0] w λe w'=>∃ v,e=.returned v/\∃ ps,kD.ko 9 kD.str w' v ps (jW w w')/\0 < ps.length/\ps.length<=M + 1/\kEs M ps/\Qb w w':=by
 go_enter func260,ntmps260;go_wp2;go_loopw [5,6,7] (λv f i wr=>∃ (k m:Nat) (ps:Ae Aa),k<=s.size + 1/\m<=k/\i=.int .i64 k/\f=.int .i64 m/\ps.length<=k/\(k=s.size + 1->0 < ps.length)/\Hid (kEs M ps)/\Hid (kD.ko 9 kD.str wr v ps (jW w wr))/\Qb w wr) (λ_ _ i _=>s.size + 1 - (Bl i).toNat);case atStart=>exact ⟨0,0,[],by omega,by omega,rfl,rfl,by simp,by omega,yD kEs.nil,yD kD.ko.void,bR.alloc nL _⟩
 obtain ⟨k,m,ps,hk,hm,rfl,rfl,ed,bx,ao,F,D⟩:=hrel;refine aH F λoa on oc ho ak=>?_;obtain rfl:=ho;have dn:=D.size;have dt:=Ah k;have b1:=Ah m;by_cases ab:k<=s.size
 · have E:(k:Int)<=s.size:=bJ5;by_cases he:k=s.size
   · have G:(k:Int)=s.size:=bJ5;go_wp2_with (at_builtin;refine kD.jN rfl _ _ 39 rfl (r:=kD.str) (e:=9) Aq kEe rfl bJ4 bJ4 (B:=w.heap.size) F.out bJ7 bJ7 rfl (kD.flat.own (S:=λ_=>False) (kD.kFr (s:=s.extract m s.size) mZ)) rfl (λ_ _ h=>h) vD (λ_ h=>h.elim) bJ5 bJ5 ?_);intro v2 w2 Y V am;have ae:=yD Y;refine aH Y λpa pn pc hp bc=>?_;obtain rfl:=hp;have O:=D.trans V;clear Y V;refine Qg ?_;exact ⟨k + 1,k + 1,_,by omega,by omega,by go_num,by go_num,by simp;omega,by simp,yD (ao.cut hs m s.size),ae,O⟩
   have G:¬ (k:Int)=s.size:=bJ5;have bo:(k:Int) < s.size:=bJ5;have fj:(m:Int)<=k:=bJ5;go_upto_region 6 with fail;refine kX (λW=>Qb wr W) [Tt,Tt,Tt,Tt,Tt,Tt,Tt,Tt,Tt,Tt,Tt] (bR) ?_;refine q8 λwS I=>?_;all_goals (refine jo λb Z=>?_;cases b <;> try simp only [jm] at Z)
   all_goals ((iterate 5 refine kZ ?_);refine jo λb ac=>?_;cases b <;> try simp only [jm] at ac)
   all_goals (refine kR ?_;replace D:=(tQ D I);replace F:=yD ((F.below I).wide (T:=jW w wS) (λj J=>⟨J.1,by have:=J.2;have:=I.size;omega⟩));have dn:=D.size;clear I)
   all_goals first|(refine Qg ?_;exact ⟨k + 1,m,ps,by omega,by omega,by go_num,rfl,by omega,by omega,ao,F,D⟩)|skip
   all_goals
     go_wp2_with (at_builtin;refine kD.jN rfl _ _ 39 rfl (r:=kD.str) (e:=9) Aq kEe rfl bJ4 bJ4 (B:=w.heap.size) F.out bJ7 bJ7 rfl (kD.flat.own (S:=λ_=>False) (kD.kFr (s:=s.extract m k) mZ)) rfl (λ_ _ h=>h) vD (λ_ h=>h.elim) bJ5 bJ5 ?_)
     intro v2 w2 Y V am
     have ae:=yD Y
     obtain ⟨pa,pn,pc,hp,bc⟩:=Y.parts
     obtain rfl:=hp
     have O:=D.trans V
     clear Y V
     refine Qg ?_
     exact ⟨k + 1,k + 1,_,by omega,by omega,by go_num,by go_num,by simp;omega,by simp,yD (ao.cut hs m k),ae,O⟩
 have E:¬ (k:Int)<=s.size:=bJ5;have hp:=bx bJ5;go_wp2;go_ret;exact ⟨_,rfl,ps,F.out,hp,by omega,ao.out,D⟩
def kRm {w:Ad} (hs:s.size<=64) (hb:by0 < 256) :
    Aj prog 260 #[.string s,.int .u8 by0] w λe w'=>∃ v,e=.returned v/\∃ ps,kD.ko 9 kD.str w' v ps (jW w w')/\0 < ps.length/\ps.length<=65/\zR ps/\Qb w w':=kRn (M:=64) bJ4 hs hb
end Go.Proofs.YthocbplmdjkifabGreat
