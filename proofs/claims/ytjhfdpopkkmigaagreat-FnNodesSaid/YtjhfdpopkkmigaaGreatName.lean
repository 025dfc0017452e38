/-
  Names: compared.
-/
import Derived.Test.YtjhfdpopkkmigaaGreatNum
set_option linter.unusedVariables false
set_option linter.defProp false
set_option linter.unusedSimpArgs false
set_option linter.unnecessarySimpa false
set_option maxRecDepth 100000
set_option maxHeartbeats 4000000
open Bool renaming true->Tt,false->Ff
open _root_ renaming ByteArray->Aa,List->Ak
open Array renaming getElem?_eq_some_iff->Ab
open Int renaming natCast_nonneg->Ac,eq_ofNat_of_zero_le->Ae
open Go renaming World->Ad,Calls->Am
open Go.Op renaming bytesLess->Ag
open List.cons renaming injEq->Ah
open Go.IntKind renaming i64->Ai
open List renaming take_succ_cons->Aj,getElem_mem->Al
namespace Go.Proofs.YtjhfdpopkkmigaaGreat
open Go.RowKit _root_.Go.Proofs.Tryz
def and255 (x:Int):0<=bits BinOp.and Ai x 255/\bits BinOp.and Ai x 255<=255:=by
 unfold bits;simp only;rw [IntKind.wrap_i64];have h:(BitVec.ofInt Ai.bits x &&& BitVec.ofInt Ai.bits 255).toNat<=255:=by
  rw [BitVec.toNat_and];exact Nat.le_trans Nat.and_le_right bD0
 omega
def yT (w0 w:Ad) (p:Nat):Prop:=Qb w0 w/\w0.heap.size<=p/\∃ (a:Option Addr) (c:Nat) (i h:Int) (Z:Ak UInt8),Qr w p #[Qs a Z c,Qn i,Qn h] 129/\(kD.slice 5 kD.byte).raw w0 [Qs a Z c] Z/\0<=i/\i<=Z.length
def yT.below {w0 w w':Ad} {p:Nat} (h:yT w0 w p) (b:Qb w w'):yT w0 w' p:=by
 obtain ⟨h1,h2,a,c,i,hh,Z,h3,h4⟩:=h;exact ⟨(tQ h1 b),h2,a,c,i,hh,Z,(b.block _ (Ab.1 h3).1).trans h3,h4⟩
def yT.touch {S:Nat->Prop} {w0 w w':Ad} {p:Nat} (h:yT w0 w p) (t:Touch S w w') (hp:¬ S p) (h0:∀ k,S k->w0.heap.size<=k):yT w0 w' p:=by
 obtain ⟨h1,h2,a,c,i,hh,Z,h3,h4⟩:=h;exact ⟨h1.trans (t.below h1.size h0),h2,a,c,i,hh,Z,(t.block _ (Ab.1 h3).1 hp).trans h3,h4⟩
def yT.lt {w0 w:Ad} {p:Nat} (h:yT w0 w p):w0.heap.size<=p/\p < w.heap.size:=by
 obtain ⟨h1,h2,a,c,i,hh,Z,h3,h4⟩:=h;exact ⟨h2,(Ab.1 h3).1⟩
def yT.size {w0 w:Ad} {p:Nat} (h:yT w0 w p):Qb w0 w:=h.1
def kXz (w:Ad) (p j:Nat) (v:Value):Touch (λk=>k=p) w (w.setCell ⟨p,j,none⟩ v):=kD.yt [v] w p j
def kDv {w0 w:World} {p:Nat} (hc:yT w0 w p) :
    Calls prog 109 #[.pointer (some ⟨p,0,none⟩)] w λe w'=>∃ x:Int,0<=x/\x<=255/\e=.returned (.int .i64 x)/\yT w0 w' p/\Touch (λk=>k=p) w w':=by
 obtain ⟨cf,ay,a,c,i,h,Z,hh,F,cw,aq⟩:=hc
 obtain ⟨m,rfl⟩:=Int.eq_ofNat_of_zero_le cw
 obtain ⟨_,_,_,J⟩:=kD.kAx F
 have eb:m<=Z.length:=bD1
 clear cw aq
 have HC:=yD F
 have HW:=yD cf
 have d6:p < w.heap.size:=(Array.getElem?_eq_some_iff.1 hh).1
 have E:Qc w p 0 (.slice a Z.length c):=kE hh rfl
 have P1:Qc w p 1 (.int .i64 (m:Int)):=kE hh rfl
 have P2:Qc w p 2 (.int .i64 h):=kE hh rfl
 have ah:∀ j,w.frozen? ⟨p,j,none⟩=false:=λj=>frozen_of_row w p j _ _ hh
 have Z2:=ah 2
 have HH:=yD hh
 clear F hh cf ah
 go_enter func109,ntmps109
 go_upto_region 2 with fail
 generalize hH:wrap64 (wrap64 (h * 6364136223846793005) + 1442695040888963407)=H
 generalize N:World.setCell w _ _=wA
 have D:Qr wA p #[Qs a Z c,.int .i64 (m:Int),Qn H] 129:=by rw [<- N];have q:=heap_setCell_same w p 2 _ _ (.int .i64 H) HH.out;simpa using q
 have TA:Touch (λk=>k=p) w wA:=by rw [<- N];exact kXz w p 2 _
 clear N E P1 P2 Z2 hH
 have E:Qc wA p 0 (.slice a Z.length c):=kE D rfl
 have P1:Qc wA p 1 (.int .i64 (m:Int)):=kE D rfl
 have P2:Qc wA p 2 (.int .i64 H):=kE D rfl
 go_upto_region 2 with fail
 refine kM (λW=>Qb wA W) [Tt,Tt,Tt,Tt,Tt,Tt,Tt,Tt,Tt,Tt,Tt,Tt,Tt] bC5 bC5 pY (bR.drew) ?_
 intro wS1 aa
 iterate 3
  all_goals first|(refine kG rfl aa ?_)|(refine kw (v:=?_) rfl (λW hW=>?_) ?_;rotate_left;(· go_simp;try with_reducible rfl))
  all_goals refine jD ?_
 all_goals first|(refine kG rfl aa ?_)|(refine kw (v:=?_) rfl (λW hW=>?_) ?_;rotate_left;(· have ae:=cL hW P2;clear hW;go_simp;try with_reducible rfl))
 iterate 4
  all_goals refine jD ?_
  all_goals first|(refine kG rfl aa ?_)|(refine kw (v:=?_) rfl (λW hW=>?_) ?_;rotate_left;(· go_simp;try with_reducible rfl))
 all_goals refine jD ?_
 all_goals first|(refine kG rfl aa ?_)|(refine kw (v:=?_) rfl (λW hW=>?_) ?_;rotate_left;(· have ae:=cL hW P2;clear hW;go_simp;try with_reducible rfl))
 iterate 4
  all_goals refine jD ?_
  all_goals first|(refine kG rfl aa ?_)|(refine kw (v:=?_) rfl (λW hW=>?_) ?_;rotate_left;(· go_simp;try with_reducible rfl))
 all_goals refine jD ?_
 all_goals refine kR ?_
 generalize hX:bits BinOp.and IntKind.i64 _ 255=X
 have ag:0<=X/\X<=255:=by rw [<- hX];exact and255 _
 clear hX
 replace E:=cL aa E
 replace P1:=cL aa P1
 replace P2:=cL aa P2
 have U:wS1.heap[p]?=_:=(aa.block p (Array.getElem?_eq_some_iff.1 D).1).trans D
 have E1:Touch (λk=>k=p) w wS1:=TA.trans (Touch.of_below aa)
 clear aa D TA
 go_upto_region 3 with fail
 refine kM (λW=>Qb wS1 W) [Tt,Tt,Tt,Tt,Tt,Tt,Tt,Tt,Tt,Tt] bC5 bC5 pY (bR.drew) ?_
 intro bx af
 iterate 3
  all_goals first|(refine kG rfl af ?_)|(refine kw (v:=?_) rfl (λW hW=>?_) ?_;rotate_left;(· go_simp;try with_reducible rfl))
  all_goals refine jD ?_
 all_goals first|(refine kG rfl af ?_)|(refine kw (v:=?_) rfl (λW hW=>?_) ?_;rotate_left;(· have G:=cL hW E;have I:=cL hW P1;clear hW;go_simp;try with_reducible rfl))
 iterate 3
  all_goals refine jD ?_
  all_goals first|(refine kG rfl af ?_)|(refine kw (v:=?_) rfl (λW hW=>?_) ?_;rotate_left;(· go_simp;try with_reducible rfl))
 all_goals refine jD ?_
 all_goals first|(refine kG rfl af ?_)|(refine kw (v:=?_) rfl (λW hW=>?_) ?_;rotate_left;(· have G:=cL hW E;have I:=cL hW P1;clear hW;go_simp;try with_reducible rfl))
 iterate 2
  all_goals refine jD ?_
  all_goals first|(refine kG rfl af ?_)|(refine kw (v:=?_) rfl (λW hW=>?_) ?_;rotate_left;(· go_simp;try with_reducible rfl))
 all_goals refine jD ?_
 all_goals refine kR ?_
 replace E:=cL af E
 replace P1:=cL af P1
 replace P2:=cL af P2
 have L:bx.heap[p]?=_:=(af.block p (Array.getElem?_eq_some_iff.1 U).1).trans U
 have E2:Touch (λk=>k=p) w bx:=E1.trans (Touch.of_below af)
 clear af U E1
 have R:=HW.out.trans (E2.below HW.out.size (λk hk=>by rw [hk];exact ay))
 by_cases hlt:m < Z.length
 · have a1:(m:Int) < Z.length:=bD1;have bc:(0:Int)<=m:=bD1;obtain ⟨cb,O,rfl,c0,cr,az⟩:=kD.kCa (HC.out) hlt rfl;have AC:=cL R az;have bb:[c0]=[.int .u8 (Z[m].toNat:Int)]:=cr;obtain rfl:c0=.int .u8 (Z[m].toNat:Int):=bA3;clear cr bb;generalize Z[m]=by0 at *;go_upto_region 4 with fail;refine kM (λW=>Qb bx W) [Tt,Tt,Tt,Tt,Tt,Tt,Tt,Tt,Tt,Tt,Tt,Tt,Tt,Tt,Tt] bC5 bC5 pY (bR.drew) ?_;intro aw ac;iterate 4
    all_goals first|(refine kG rfl ac ?_)|(refine kw (v:=?_) rfl (λW hW=>?_) ?_;rotate_left;(· go_simp;try with_reducible rfl))
    all_goals refine jD ?_
   all_goals first|(refine kG rfl ac ?_)|(refine kw (v:=?_) rfl (λW hW=>?_) ?_;rotate_left;(· have G:=cL hW E;have I:=cL hW P1;have ai:=cL hW AC;clear hW;go_simp;try with_reducible rfl))
   iterate 3
    all_goals refine jD ?_
    all_goals first|(refine kG rfl ac ?_)|(refine kw (v:=?_) rfl (λW hW=>?_) ?_;rotate_left;(· go_simp;try with_reducible rfl))
   iterate 2
    all_goals refine jD ?_
    all_goals first|(refine kG rfl ac ?_)|(refine kw (v:=?_) rfl (λW hW=>?_) ?_;rotate_left;(· have G:=cL hW E;have I:=cL hW P1;have ai:=cL hW AC;clear hW;go_simp;try with_reducible rfl))
    all_goals refine jD ?_
    all_goals first|(refine kG rfl ac ?_)|(refine kw (v:=?_) rfl (λW hW=>?_) ?_;rotate_left;(· go_simp;try with_reducible rfl))
   iterate 3
    all_goals refine jD ?_
    all_goals first|(refine kG rfl ac ?_)|(refine kw (v:=?_) rfl (λW hW=>?_) ?_;rotate_left;(· go_simp;try with_reducible rfl))
   all_goals refine jD ?_
   all_goals refine kR ?_
   generalize hY:bits BinOp.and IntKind.i64 _ 255=Y;have ad:0<=Y/\Y<=255:=by rw [<- hY];exact and255 _
   clear hY;replace E:=cL ac E;replace P1:=cL ac P1;replace P2:=cL ac P2;have ab:aw.heap[p]?=_:=(ac.block p (Array.getElem?_eq_some_iff.1 L).1).trans L;have E3:Touch (λk=>k=p) w aw:=E2.trans (Touch.of_below ac);have Z1:=frozen_of_row aw p 1 _ _ ab;clear ac L E2;have hw:wrap64 ((m:Int) + 1)=(m:Int) + 1:=by unfold wrap64;omega
   have aj:IntKind.i64.wrap ((m:Int) + 1)=(m:Int) + 1:=by rw [IntKind.wrap_i64];omega
   have o:=heap_setCell_same aw p 1 _ _ (.int .i64 ((m:Int) + 1)) ab;have E4:Touch (λk=>k=p) w (aw.setCell ⟨p,1,none⟩ (.int .i64 ((m:Int) + 1))):=E3.trans (kXz _ _ _ _);have V:Hid (yT w0 (aw.setCell ⟨p,1,none⟩ (.int .i64 ((m:Int) + 1))) p):=yD ⟨HW.out.trans (E4.below HW.out.size (λk hk=>by rw [hk];exact ay)),ay,_,c,(m:Int) + 1,H,Z,by simpa using o,HC.out,by omega,by omega⟩;have HE:=yD E4;clear o E4 E3 ab;go_wp2;go_ret;exact ⟨Y,ad.1,ad.2,rfl,V.out,HE.out⟩
 have a1:¬ (m:Int) < Z.length:=bD1
 have V:Hid (yT w0 bx p):=yD ⟨R,ay,a,c,m,H,Z,L,HC.out,by omega,by omega⟩
 go_wp2
 go_ret
 exact ⟨X,ag.1,ag.2,rfl,V.out,E2⟩
def kRn {w0 w:Ad} {v:Value} {Z:Ak UInt8} (bp:(kD.slice 5 kD.byte).raw w0 [v] Z) (cf:Qb w0 w) :
    Am prog 46 #[v] w λe w'=>∃ p,e=.returned (.pointer (some ⟨p,0,none⟩))/\yT w0 w' p/\w.heap.size<=p/\Qb w w':=by
 have hl:=bp.below cf
 have H0:=yD bp
 have an:=yD cf
 clear bp cf
 obtain ⟨a,c,rfl,J⟩:=kD.sl hl
 have HL:=yD hl
 clear hl
 go_enter func46,ntmps46
 go_wp2
 go_loopw [3,4] (λh i wr=>∃ (k:Nat) (z:Int),k<=Z.length/\i=.int .i64 k/\h=.int .i64 z/\Qb w wr) (λ_ i _=>Z.length - (intOf i).toNat)
 case atStart=>exact ⟨0,_,Nat.zero_le _,rfl,rfl,bR⟩
 obtain ⟨k,z,hk,rfl,rfl,o⟩:=hrel
 have D:∀ wx,Qb w wx->yT w0 (wx.alloc (.cells #[.slice a Z.length c,.int .i64 0,.int .i64 z] 129)) wx.heap.size:=λwx hx =>
   ⟨(tQ an.out hx).alloc (Nat.le_trans an.out.size hx.size) _,Nat.le_trans an.out.size hx.size,a,c,0,z,Z,heap_alloc_new wx _,H0.out,by omega,by omega⟩
 have V:=yD D;clear D
 by_cases hlt:k < Z.length
 · have bv:=Int.ofNat_lt.2 hlt;have bk:=Ac k;obtain ⟨cb,O,rfl,c0,cr,az⟩:=kD.kCa HL.out hlt rfl;have AC:=cL o az;have bb:[c0]=[.int .u8 (Z[k].toNat:Int)]:=cr;obtain rfl:c0=.int .u8 (Z[k].toNat:Int):=bA3;clear cr bb;generalize Z[k]=by0 at *;by_cases h4:(k:Int) < 4000
   · go_wp2;go_roundw;case rel=>exact ⟨k + 1,_,by omega,by go_num,rfl,o⟩
     simp [intOf];omega
   go_wp2;go_ret;exact ⟨_,rfl,V.out _ o,o.size,o.alloc o.size _⟩
 have b6:¬ (k:Int) < Z.length:=bD1
 go_wp2
 go_ret
 exact ⟨_,rfl,V.out _ o,o.size,o.alloc o.size _⟩
def ku {w0 w:Ad} {p:Nat} (hc:yT w0 w p) {n:Int} (hn:n<=256) :
    Am prog 43 #[.pointer (some ⟨p,0,none⟩),.int .i64 n] w λe w'=>∃ x:Int,0<=x/\(0 < n->x < n)/\(n<=0->x=0)/\e=.returned (.int .i64 x)/\yT w0 w' p/\Touch (λk=>k=p) w w':=by
 by_cases h0:n<=0
 · go_enter func43,ntmps43;go_wp2;go_ret;exact ⟨0,by omega,by omega,λ_=>rfl,rfl,hc,Touch.of_below bR⟩
 go_enter func43,ntmps43
 go_wp2_with fail
 refine (kDv hc).mono ?_
 rintro e w1 ⟨x,ao,U,rfl,ac,o⟩
 have hne:¬ n=0:=bD1
 have H:¬ n < 0:=bD1
 go_wp2
 go_ret
 refine ⟨_,?_,?_,λq=>absurd q bD1,rfl,ac,o⟩
 · exact Int.emod_nonneg _ bD1
 exact λq=>Int.emod_lt_of_pos _ q
def zk {w0 w:Ad} {p:Nat} (hc:yT w0 w p) {n:Int} (hn:n<=256) :
    Am prog 44 #[.pointer (some ⟨p,0,none⟩),.int .i64 n] w λe w'=>∃ b:Bool,e=.returned (.bool b)/\yT w0 w' p/\Touch (λk=>k=p) w w':=by
 go_enter func44,ntmps44
 go_wp2_with fail
 refine (ku hc hn).mono ?_
 rintro e w1 ⟨x,ao,U,a1,rfl,ac,o⟩
 go_wp2
 go_ret
 exact ⟨_,rfl,ac,o⟩
def zy {w0 w:Ad} {p:Nat} (hc:yT w0 w p) {v:Value} {xs:Ak Int} {S:Nat->Prop} (hl:(kD.slice 3 kD.int).own w [v] xs S) (hp:¬ S p) (h0:0 < xs.length) (h1:xs.length<=256) :
    Am prog 38 #[.pointer (some ⟨p,0,none⟩),v] w λe w'=>∃ y,y∈xs/\kD.int.raw w' [.int .i64 y] y/\e=.returned (.int .i64 y)/\yT w0 w' p/\Touch (λk=>k=p) w w':=by
 have HL:=yD hl
 obtain ⟨a,c,rfl,J⟩:=kD.sl hl.raw
 clear hl
 go_enter func38,ntmps38
 go_wp2_with fail
 refine (ku hc bD1).mono ?_
 rintro e w1 ⟨x,ao,U,a1,rfl,ac,o⟩
 have Z:=yD (HL.out.keep (λk hk hl=>o.block k hl (λq=>hp (q ▸ hk))))
 obtain ⟨k,rfl⟩:=Ae ao
 have bv:=U bD1
 have am:k < xs.length:=bD1
 have bk:=Ac k
 obtain ⟨cb,O,rfl,c0,cr,AC⟩:=kD.kCa Z.out.raw am rfl
 have D:=Al am
 generalize xs[k]=y at *
 have HR:=yD cr
 obtain ⟨E,_⟩:=kD.jb cr
 obtain rfl:c0=.int .i64 y:=by simpa using E
 clear E cr ao U a1
 go_wp2
 go_ret
 exact ⟨y,D,HR.out,rfl,ac,o⟩
def zx {w0 w:Ad} {p:Nat} (hc:yT w0 w p) {v:Value} {xs:Ak Aa} {S:Nat->Prop} (hl:(kD.slice 9 kD.str).own w [v] xs S) (hp:¬ S p) (h0:0 < xs.length) (h1:xs.length<=256) :
    Am prog 103 #[.pointer (some ⟨p,0,none⟩),v] w λe w'=>∃ y,y∈xs/\kD.str.raw w' [.string y] y/\e=.returned (.string y)/\yT w0 w' p/\Touch (λk=>k=p) w w':=by
 have HL:=yD hl
 obtain ⟨a,c,rfl,J⟩:=kD.sl hl.raw
 clear hl
 go_enter func103,ntmps103
 go_wp2_with fail
 refine (ku hc bD1).mono ?_
 rintro e w1 ⟨x,ao,U,a1,rfl,ac,o⟩
 have Z:=yD (HL.out.keep (λk hk hl=>o.block k hl (λq=>hp (q ▸ hk))))
 obtain ⟨k,rfl⟩:=Ae ao
 have bv:=U bD1
 have am:k < xs.length:=bD1
 have bk:=Ac k
 obtain ⟨cb,O,rfl,c0,cr,AC⟩:=kD.kCa Z.out.raw am rfl
 have D:=Al am
 generalize xs[k]=y at *
 have HR:=yD cr
 obtain ⟨E,_⟩:=kD.zi cr
 obtain rfl:c0=.string y:=by simpa using E
 clear E cr ao U a1
 go_wp2
 go_ret
 exact ⟨y,D,HR.out,rfl,ac,o⟩
def kIq:∀ l:Ak UInt8,Ag l l=false
  | []=>rfl
  | a :: l=>by simp [Ag,kIq l]
def kJf (a b:Aa):Int:=if Ag a.toList b.toList then -1 else if a=b then 0 else 1
def kGc {a b:Aa}:kJf a b=0↔a=b:=by
 unfold kJf;constructor
 · intro h;split at h
   · omega
   split at h
   · assumption
   omega
 rintro rfl;simp [kIq]
def kKa:Ak Aa->Ak Aa->Int
  | [],[]=>0
  | [],_ :: _=>-1
  | _ :: _,[]=>1
  | a :: x,b :: y=>if kJf a b=0 then kKa x y else kJf a b
def kZd:∀ {x y:Ak Aa},kKa x y=0↔x=y
  | [],[]=>by simp [kKa]
  | [],_ :: _=>by simp [kKa]
  | _ :: _,[]=>by simp [kKa]
  | a :: x,b :: y=>by
    unfold kKa;by_cases h:kJf a b=0
    · rw [if_pos h,kZd (x:=x) (y:=y)];have:=kGc.1 h;subst this;simp
    · rw [if_neg h];constructor
      · intro q;exact absurd q h
      · intro q;simp only [Ah] at q;exact absurd (kGc.2 q.1) h
def kZe:∀ {x y:Ak Aa} {k:Nat} (hx:k < x.length) (hy:k < y.length),x.take k=y.take k->¬ kJf x[k] y[k]=0->kKa x y=kJf x[k] y[k]
  | [],_,_,hx,_,_,_=>by simp at hx
  | _ :: _,[],_,_,hy,_,_=>by simp at hy
  | a :: x,b :: y,0,_,_,_,h=>by
    simp at h;simp [kKa,h]
  | a :: x,b :: y,k + 1,hx,hy,ht,h=>by
    simp only [Aj,Ah] at ht;simp only [List.getElem_cons_succ] at h ⊢;have h0:=kGc.2 ht.1;simp only [kKa,h0,if_true];exact kZe (by simpa using hx) (by simpa using hy) ht.2 h
def cmpN_end:∀ {x y:Ak Aa} {k:Nat},k<=x.length->k<=y.length->x.take k=y.take k->¬ (k < x.length/\k < y.length)->kKa x y=if x.length < y.length then -1 else if y.length < x.length then 1 else 0
  | [],[],_,_,_,_,_=>by simp [kKa]
  | [],b :: y,_,_,_,_,_=>by simp [kKa]
  | a :: x,[],_,_,_,_,_=>by simp [kKa]
  | a :: x,b :: y,0,_,_,_,h=>by simp at h
  | a :: x,b :: y,k + 1,hx,hy,ht,h=>by
    simp only [Aj,Ah] at ht;have h0:=kGc.2 ht.1;simp only [kKa,h0,if_true,List.length_cons];rw [cmpN_end (k:=k) (by simpa using hx) (by simpa using hy) ht.2 bB5];simp
def take_next {x y:Ak Aa} {k:Nat} (hx:k < x.length) (hy:k < y.length) (h:x.take k=y.take k) (e:kJf x[k] y[k]=0):x.take (k + 1)=y.take (k + 1) :=
  jv h hx hy (kGc.1 e)
def eqN (a b:kr):Bool:=decide (a=b)
def specl4Cmp_c {w:Ad} {a b:Aa}:Am prog 194 #[.string a,.string b] w λe w'=>e=.returned (.int .i64 (kJf a b))/\w'=w:=by
 go_enter func194,ntmps194;cases h1:Ag a.toList b.toList
 · cases h2:(a.toList==b.toList)
   · have U:=yD (show kJf a b=1 by
       unfold kJf;rw [h1];rw [kQu] at h2;simp at h2;simp [h2])
     exact lQ
   have U:=yD (show kJf a b=0 by
     rw [kQu] at h2;simp at h2;exact kGc.2 h2)
   exact lQ
 have U:=yD (show kJf a b=-1 by simp [kJf,h1]);exact lQ
def kNg {w:World} {ca cb:List Value} {a b:kr} (ha:kW.raw w ca a) (hb:kW.raw w cb b) :
    Calls prog 165 #[.agg ca.toArray,.agg cb.toArray] w (bQ w (.int .i64 (kKa a b))):=by
 obtain ⟨av,rfl,G⟩:=ko ha
 obtain ⟨bv,rfl,al⟩:=ko hb
 clear ha hb
 obtain ⟨aa,am,rfl,la⟩:=kD.sl G
 obtain ⟨ab,aq,rfl,lb⟩:=kD.sl al
 go_enter func165,ntmps165
 go_wp2
 generalize J:World.alloc (World.alloc w _) _=N
 obtain ⟨R,K0,K1⟩:=DY
 clear J
 replace G:=G.below R
 replace al:=al.below R
 go_loopw [5] (λi wr=>∃ k:Nat,k<=a.length/\k<=b.length/\i=.int .i64 k/\Hid (a.take k=b.take k)/\Qb N wr) (λi _=>a.length - (intOf i).toNat)
 case atStart=>exact ⟨0,Nat.zero_le _,Nat.zero_le _,rfl,yD rfl,bR⟩
 obtain ⟨k,hk,co,rfl,HN,o⟩:=hrel
 replace K0:=cL o K0
 replace K1:=cL o K1
 by_cases hc:k < a.length/\k < b.length
 · obtain ⟨hlt,X⟩:=hc;have hd:decide ((k:Int) < a.length)=true:=by simpa using hlt
   have ad:decide (k < a.length)=true:=by simpa using hlt
   obtain ⟨ba,H,rfl,c0,hr,A0⟩:=kD.kCa (G.below o) hlt rfl;obtain ⟨bb,V,rfl,Z,I,Y⟩:=kD.kCa (al.below o) X rfl;obtain ⟨he,_⟩:=kD.zi hr;obtain rfl:c0=_:=by simpa using he
   obtain ⟨O,_⟩:=kD.zi I;obtain rfl:Z=_:=by simpa using O
   clear he O hr I;have L:=λq=>kZe hlt X HN.out q;have D:=λq=>take_next hlt X HN.out q;generalize a[k]=x at *;generalize b[k]=y at *;have HD:=yD L;have HX:=yD D;clear L D;go_wp2_with fail;have FX:=yD (λ(W:World) (hW:Qb wr W)=>kGr hW K0 K1 A0 Y);refine kM (λW=>Qb wr W) [Tt,Tt,Tt,Tt,Tt,Tt,Tt,Tt,Tt,Tt,Ff,Tt] bC5 bC5 pY (bR.drew) ?_;intro wS E;iterate 10
    all_goals refine kX ?_
   all_goals first | refine wkC (specl4Cmp_c) ?_ | refine kX ?_
   all_goals refine kX ?_
   all_goals refine kR ?_
   have EF:=(tQ R (tQ o E));have F:=(tQ o E);by_cases hz:kJf x y=0
   · have U:=yD (HX.out hz);clear HD HX;have ac:(kJf x y==0)=true:=bA0;have a7:(kJf x y != 0)=false:=bA0;clear hz;go_wp2;go_roundw;case rel=>exact ⟨k + 1,by omega,by omega,by go_num,U,F⟩
     simp [intOf];omega
   have U:=yD (HD.out hz);clear HD HX;have ac:(kJf x y==0)=false:=bA0;have a7:(kJf x y != 0)=true:=bA0;go_wp2;go_ret;exact ⟨jX U.out.symm,EF⟩
 have U:=yD (cmpN_end hk co HN.out hc)
 have EF:=(tQ R o)
 by_cases h1:k < a.length
 · have hd:decide ((k:Int) < a.length)=true:=bA6;have ad:decide (k < a.length)=true:=bA6;have h2:¬ k < b.length:=λq=>hc ⟨h1,q⟩;have h3:¬ (a.length:Int) < b.length:=bD1;have h4:(b.length:Int) < a.length:=bD1;have HU:=yD (show kKa a b=1 by rw [U.out,if_neg bD1,if_pos bD1]);clear hc U;go_wp2;all_goals go_ret
   all_goals exact ⟨jX HU.out.symm,EF⟩
 have hd:decide ((k:Int) < a.length)=false:=bA6
 have ad:decide (k < a.length)=false:=bA6
 clear hc
 by_cases h3:a.length < b.length
 · have HU:=yD (show kKa a b=-1 by rw [U.out,if_pos h3]);clear U;go_wp2;go_ret;exact ⟨jX HU.out.symm,EF⟩
 have h4:¬ b.length < a.length:=bD1
 have HU:=yD (show kKa a b=0 by rw [U.out,if_neg h3,if_neg h4])
 clear U
 go_wp2
 go_ret
 exact ⟨jX HU.out.symm,EF⟩
def zD {w:Ad} {ca cb:Ak Value} {a b:kr} (ha:kW.raw w ca a) (hb:kW.raw w cb b) :
    Am prog 107 #[.agg ca.toArray,.agg cb.toArray] w (bQ w (.bool (eqN a b))):=by
 have HA:=yD ha
 have HB:=yD hb
 obtain ⟨av,rfl,G⟩:=ko ha
 obtain ⟨bv,rfl,al⟩:=ko hb
 clear ha hb
 obtain ⟨aa,am,rfl,la⟩:=kD.sl G
 obtain ⟨ab,aq,rfl,lb⟩:=kD.sl al
 go_enter func107,ntmps107
 go_wp2_with fail
 refine (kNg (HA.out.below bG) (HB.out.below bG)).mono ?_
 rintro e w1 ⟨rfl,O⟩
 have EF:Qb w w1:=Below.trans bG (O.mono wX)
 clear O
 go_wp2
 go_ret
 exact ⟨kK (by unfold eqN;rw [Bool.eq_iff_iff];simp [kZd]),EF⟩
def kLd {w:Ad} {va L:Value} {a b:Ak Aa} (G:(kD.slice 9 kD.str).raw w [va] a) (al:(kD.slice 9 kD.str).raw w [L] b) :
    Am prog 139 #[va,L] w (bQ w (.bool (eqN a b))):=by
 obtain ⟨aa,am,rfl,la⟩:=kD.sl G
 obtain ⟨ab,aq,rfl,lb⟩:=kD.sl al
 go_enter func139,ntmps139
 by_cases hl:a.length=b.length
 case neg =>
  exact lS
 obtain ⟨hz,a3⟩:=xG
 have HL:=yD hl;clear hl
 go_wp2
 go_loopw [13] (λi wr=>∃ k:Nat,k<=a.length/\i=.int .i64 k/\Hid (a.take k=b.take k)/\Qb w wr) (λi _=>a.length - (intOf i).toNat)
 case atStart=>exact ⟨0,Nat.zero_le _,rfl,yD rfl,bR⟩
 exact uR
def yA {w:Ad} {ca cb:Ak Value} {a b:kr} (ha:kW.raw w ca a) (hb:kW.raw w cb b) :
    Am prog 74 #[.agg ca.toArray,.agg cb.toArray] w (bQ w (.bool (eqN a b))):=by
 obtain ⟨av,rfl,G⟩:=ko ha
 obtain ⟨bv,rfl,al⟩:=ko hb
 clear ha hb
 obtain ⟨aa,am,rfl,la⟩:=kD.sl G
 obtain ⟨ab,aq,rfl,lb⟩:=kD.sl al
 go_enter func74,ntmps74
 go_wp2_with fail
 refine (kLd (G.below bG) (al.below bG)).mono ?_
 rintro e w1 ⟨rfl,O⟩
 have EF:Qb w w1:=Below.trans bG (O.mono wX)
 clear O
 go_wp2
 go_ret
 exact ⟨rfl,EF⟩
end Go.Proofs.YtjhfdpopkkmigaaGreat
