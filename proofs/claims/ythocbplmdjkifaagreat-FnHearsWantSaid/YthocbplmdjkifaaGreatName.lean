/-
  Names: compared.
-/
import Derived.Test.YthocbplmdjkifaaGreatNum
set_option linter.unusedVariables false
set_option linter.defProp false
set_option linter.unusedSimpArgs false
set_option linter.unnecessarySimpa false
set_option maxRecDepth 100000
set_option maxHeartbeats 4000000
open Bool renaming true->Tt,false->Ff
open _root_ renaming ByteArray->Aa,List->Ak
open Array renaming getElem?_eq_some_iff->Ab
open Go renaming World->Ac,Calls->Al,Value->Ap
open Int renaming natCast_nonneg->Ad,eq_ofNat_of_zero_le->Ae
open Go.Op renaming bytesLess->Ag
open List.cons renaming injEq->Ah
open Go.IntKind renaming i64->Ai
open List renaming take_succ_cons->Aj,getElem_mem->Am
namespace Go.Proofs.YthocbplmdjkifaaGreat
open Go.RowKit _root_.Go.Proofs.Tryz
def and255 (x:Int):0<=bits BinOp.and Ai x 255/\bits BinOp.and Ai x 255<=255:=by
 unfold bits;simp only;rw [IntKind.wrap_i64];have h:(BitVec.ofInt Ai.bits x &&& BitVec.ofInt Ai.bits 255).toNat<=255:=by
  rw [BitVec.toNat_and];exact Nat.le_trans Nat.and_le_right bF1
 omega
def ym (w0 w:Ac) (p:Nat):Prop:=Qb w0 w/\w0.heap.size<=p/\∃ (a:Option Addr) (c:Nat) (i h:Int) (ah:Ak UInt8),Qr w p #[Qs a ah c,Qn i,Qn h] 123/\(kD.slice 5 kD.byte).raw w0 [Qs a ah c] ah/\0<=i/\i<=ah.length
def ym.below {w0 w w':Ac} {p:Nat} (h:ym w0 w p) (b:Qb w w'):ym w0 w' p:=by
 obtain ⟨h1,h2,a,c,i,hh,ah,h3,h4⟩:=h;exact ⟨(tQ h1 b),h2,a,c,i,hh,ah,(b.block _ (Ab.1 h3).1).trans h3,h4⟩
def ym.touch {S:Nat->Prop} {w0 w w':Ac} {p:Nat} (h:ym w0 w p) (t:Touch S w w') (hp:¬ S p) (h0:∀ k,S k->w0.heap.size<=k):ym w0 w' p:=by
 obtain ⟨h1,h2,a,c,i,hh,ah,h3,h4⟩:=h;exact ⟨h1.trans (t.below h1.size h0),h2,a,c,i,hh,ah,(t.block _ (Ab.1 h3).1 hp).trans h3,h4⟩
def ym.lt {w0 w:Ac} {p:Nat} (h:ym w0 w p):w0.heap.size<=p/\p < w.heap.size:=by
 obtain ⟨h1,h2,a,c,i,hh,ah,h3,h4⟩:=h;exact ⟨h2,(Ab.1 h3).1⟩
def ym.size {w0 w:Ac} {p:Nat} (h:ym w0 w p):Qb w0 w:=h.1
def jDe (w:Ac) (p j:Nat) (v:Ap):Touch (λk=>k=p) w (w.setCell ⟨p,j,none⟩ v):=kD.ze [v] w p j
def kEz {w0 w:World} {p:Nat} (hc:ym w0 w p) :
    Calls prog 95 #[.pointer (some ⟨p,0,none⟩)] w λe w'=>∃ x:Int,0<=x/\x<=255/\e=.returned (.int .i64 x)/\ym w0 w' p/\Touch (λk=>k=p) w w':=by
 obtain ⟨cd,bh,a,c,i,h,ah,hh,I,a8,bx⟩:=hc
 obtain ⟨m,rfl⟩:=Int.eq_ofNat_of_zero_le a8
 obtain ⟨_,_,_,an⟩:=kD.kAw I
 have ej:m<=ah.length:=bF2
 clear a8 bx
 have HC:=yD I
 have HW:=yD cd
 have P2:Qc w p 2 (Qn h):=kE hh rfl
 have af:∀ j,w.frozen? ⟨p,j,none⟩=false:=λj=>frozen_of_row w p j _ _ hh
 have Z2:=af 2
 have HH:=yD hh
 clear I hh cd af
 go_enter func95,ntmps95
 go_upto_region 2 with fail
 generalize hH:wrap64 (wrap64 (h * 6364136223846793005) + 1442695040888963407)=H
 generalize U:World.setCell w _ _=wA
 have D:Qr wA p #[Qs a ah c,.int .i64 (m:Int),Qn H] 123:=by rw [<- U];have q:=heap_setCell_same w p 2 _ _ (Qn H) HH.out;simpa using q
 have TA:Touch (λk=>k=p) w wA:=by rw [<- U];exact jDe w p 2 _
 clear U P2 Z2 hH
 have J:Qc wA p 0 (Qs a ah c):=kE D rfl
 have P1:Qc wA p 1 (.int .i64 (m:Int)):=kE D rfl
 have P2:Qc wA p 2 (Qn H):=kE D rfl
 go_upto_region 2 with fail
 refine kK (λW=>Qb wA W) [Tt,Tt,Tt,Tt,Tt,Tt,Tt,Tt,Tt,Tt,Tt,Tt,Tt] bE5 bE5 qW (bR.drew) ?_
 intro wS1 aa
 all_goals ((iterate 3 (first|(refine kI rfl aa ?_)|(refine jC (v:=?_) rfl (λW hW=>?_) ?_;rotate_left;(· go_simp;try with_reducible rfl)));refine jH ?_);(first|(refine kI rfl aa ?_)|(refine jC (v:=?_) rfl (λW hW=>?_) ?_;rotate_left;(· have ad:=cL hW P2;clear hW;go_simp;try with_reducible rfl)));(iterate 4 refine jH ?_;(first|(refine kI rfl aa ?_)|(refine jC (v:=?_) rfl (λW hW=>?_) ?_;rotate_left;(· go_simp;try with_reducible rfl))));refine jH ?_;(first|(refine kI rfl aa ?_)|(refine jC (v:=?_) rfl (λW hW=>?_) ?_;rotate_left;(· have ad:=cL hW P2;clear hW;go_simp;try with_reducible rfl)));(iterate 4 refine jH ?_;(first|(refine kI rfl aa ?_)|(refine jC (v:=?_) rfl (λW hW=>?_) ?_;rotate_left;(· go_simp;try with_reducible rfl))));refine jH ?_;refine kM ?_)
 generalize hX:bits BinOp.and IntKind.i64 _ 255=X
 have ag:0<=X/\X<=255:=by rw [<- hX];exact and255 _
 clear hX
 replace J:=cL aa J
 replace P1:=cL aa P1
 have L:wS1.heap[p]?=_:=(aa.block p (Array.getElem?_eq_some_iff.1 D).1).trans D
 have E1:Touch (λk=>k=p) w wS1:=TA.trans (Touch.of_below aa)
 clear aa D TA
 go_upto_region 3 with fail
 refine kK (λW=>Qb wS1 W) [Tt,Tt,Tt,Tt,Tt,Tt,Tt,Tt,Tt,Tt] bE5 bE5 qW (bR.drew) ?_
 intro be N
 all_goals ((iterate 3 (first|(refine kI rfl N ?_)|(refine jC (v:=?_) rfl (λW hW=>?_) ?_;rotate_left;(· go_simp;try with_reducible rfl)));refine jH ?_);(first|(refine kI rfl N ?_)|(refine jC (v:=?_) rfl (λW hW=>?_) ?_;rotate_left;(· have E:=cL hW J;have F:=cL hW P1;clear hW;go_simp;try with_reducible rfl)));(iterate 3 refine jH ?_;(first|(refine kI rfl N ?_)|(refine jC (v:=?_) rfl (λW hW=>?_) ?_;rotate_left;(· go_simp;try with_reducible rfl))));refine jH ?_;(first|(refine kI rfl N ?_)|(refine jC (v:=?_) rfl (λW hW=>?_) ?_;rotate_left;(· have E:=cL hW J;have F:=cL hW P1;clear hW;go_simp;try with_reducible rfl)));(iterate 2 refine jH ?_;(first|(refine kI rfl N ?_)|(refine jC (v:=?_) rfl (λW hW=>?_) ?_;rotate_left;(· go_simp;try with_reducible rfl))));refine jH ?_;refine kM ?_)
 replace J:=cL N J
 replace P1:=cL N P1
 have ak:be.heap[p]?=_:=(N.block p (Array.getElem?_eq_some_iff.1 L).1).trans L
 have E2:Touch (λk=>k=p) w be:=E1.trans (Touch.of_below N)
 clear N L E1
 have Z:=HW.out.trans (E2.below HW.out.size (λk hk=>by rw [hk];exact bh))
 by_cases hlt:m < ah.length
 · have b0:(m:Int) < ah.length:=bF2;have aj:(0:Int)<=m:=bF2;obtain ⟨cb,V,rfl,c0,cr,bd⟩:=kD.kCk (HC.out) hlt rfl;have O:=cL Z bd;have bf:[c0]=[.int .u8 (ah[m].toNat:Int)]:=cr;obtain rfl:c0=.int .u8 (ah[m].toNat:Int):=bC4;clear cr bf;generalize ah[m]=by0 at *;go_upto_region 4 with fail;refine kK (λW=>Qb be W) [Tt,Tt,Tt,Tt,Tt,Tt,Tt,Tt,Tt,Tt,Tt,Tt,Tt,Tt,Tt] bE5 bE5 qW (bR.drew) ?_;intro a1 ae;all_goals ((iterate 4 (first|(refine kI rfl ae ?_)|(refine jC (v:=?_) rfl (λW hW=>?_) ?_;rotate_left;(· go_simp;try with_reducible rfl)));refine jH ?_);(first|(refine kI rfl ae ?_)|(refine jC (v:=?_) rfl (λW hW=>?_) ?_;rotate_left;(· have E:=cL hW J;have F:=cL hW P1;have ai:=cL hW O;clear hW;go_simp;try with_reducible rfl)));(iterate 3 refine jH ?_;(first|(refine kI rfl ae ?_)|(refine jC (v:=?_) rfl (λW hW=>?_) ?_;rotate_left;(· go_simp;try with_reducible rfl))));(iterate 2 refine jH ?_;(first|(refine kI rfl ae ?_)|(refine jC (v:=?_) rfl (λW hW=>?_) ?_;rotate_left;(· have E:=cL hW J;have F:=cL hW P1;have ai:=cL hW O;clear hW;go_simp;try with_reducible rfl)));refine jH ?_;(first|(refine kI rfl ae ?_)|(refine jC (v:=?_) rfl (λW hW=>?_) ?_;rotate_left;(· go_simp;try with_reducible rfl))));(iterate 3 refine jH ?_;(first|(refine kI rfl ae ?_)|(refine jC (v:=?_) rfl (λW hW=>?_) ?_;rotate_left;(· go_simp;try with_reducible rfl))));refine jH ?_;refine kM ?_)
   generalize hY:bits BinOp.and IntKind.i64 _ 255=Y;have ac:0<=Y/\Y<=255:=by rw [<- hY];exact and255 _
   clear hY;replace P1:=cL ae P1;have ab:a1.heap[p]?=_:=(ae.block p (Array.getElem?_eq_some_iff.1 ak).1).trans ak;have E3:Touch (λk=>k=p) w a1:=E2.trans (Touch.of_below ae);have Z1:=frozen_of_row a1 p 1 _ _ ab;clear ae ak E2;have hw:wrap64 ((m:Int) + 1)=(m:Int) + 1:=by unfold wrap64;omega
   have al:IntKind.i64.wrap ((m:Int) + 1)=(m:Int) + 1:=tT;have o:=heap_setCell_same a1 p 1 _ _ (.int .i64 ((m:Int) + 1)) ab;have E4:Touch (λk=>k=p) w (a1.setCell ⟨p,1,none⟩ (.int .i64 ((m:Int) + 1))):=E3.trans (jDe _ _ _ _);have R:Hid (ym w0 (a1.setCell ⟨p,1,none⟩ (.int .i64 ((m:Int) + 1))) p):=yD ⟨HW.out.trans (E4.below HW.out.size (λk hk=>by rw [hk];exact bh)),bh,_,c,(m:Int) + 1,H,ah,by simpa using o,HC.out,by omega,by omega⟩;have HE:=yD E4;clear o E4 E3 ab;go_wp2;go_ret;exact ⟨Y,ac.1,ac.2,rfl,R.out,HE.out⟩
 have b0:¬ (m:Int) < ah.length:=bF2
 have R:Hid (ym w0 be p):=yD ⟨Z,bh,a,c,m,H,ah,ak,HC.out,by omega,by omega⟩
 go_wp2
 go_ret
 exact ⟨X,ag.1,ag.2,rfl,R.out,E2⟩
def kJh {w0 w:Ac} {v:Ap} {ah:Ak UInt8} (bl:(kD.slice 5 kD.byte).raw w0 [v] ah) (cd:Qb w0 w) :
    Al prog 25 #[v] w λe w'=>∃ p,e=.returned (.pointer (some ⟨p,0,none⟩))/\ym w0 w' p/\w.heap.size<=p/\Qb w w':=by
 have hl:=bl.below cd
 have H0:=yD bl
 have ag:=yD cd
 clear bl cd
 obtain ⟨a,c,rfl,an⟩:=kD.sl hl
 have HL:=yD hl
 clear hl
 go_enter func25,ntmps25
 go_wp2
 go_loopw [3,4] (λh i wr=>∃ (k:Nat) (z:Int),k<=ah.length/\i=.int .i64 k/\h=.int .i64 z/\Qb w wr) (λ_ i _=>ah.length - (intOf i).toNat)
 case atStart=>exact ⟨0,_,Nat.zero_le _,rfl,rfl,bR⟩
 obtain ⟨k,z,hk,rfl,rfl,o⟩:=hrel
 have D:∀ wx,Qb w wx->ym w0 (wx.alloc (.cells #[.slice a ah.length c,.int .i64 0,.int .i64 z] 123)) wx.heap.size:=λwx hx =>
   ⟨(tQ ag.out hx).alloc (Nat.le_trans ag.out.size hx.size) _,Nat.le_trans ag.out.size hx.size,a,c,0,z,ah,heap_alloc_new wx _,H0.out,by omega,by omega⟩
 have ar:=yD D;clear D
 by_cases hlt:k < ah.length
 · have be:=Int.ofNat_lt.2 hlt;have b9:=Ad k;obtain ⟨cb,V,rfl,c0,cr,bd⟩:=kD.kCk HL.out hlt rfl;have O:=cL o bd;have bf:[c0]=[.int .u8 (ah[k].toNat:Int)]:=cr;obtain rfl:c0=.int .u8 (ah[k].toNat:Int):=bC4;clear cr bf;generalize ah[k]=by0 at *;by_cases h4:(k:Int) < 4000
   · refine Qg ?_;exact ⟨k + 1,_,by omega,by go_num,rfl,o⟩
   go_wp2;go_ret;exact ⟨_,rfl,ar.out _ o,o.size,o.alloc o.size _⟩
 have dq:¬ (k:Int) < ah.length:=bF2
 go_wp2
 go_ret
 exact ⟨_,rfl,ar.out _ o,o.size,o.alloc o.size _⟩
def kZ {w0 w:Ac} {p:Nat} (hc:ym w0 w p) {n:Int} (hn:n<=256) :
    Al prog 30 #[.pointer (some ⟨p,0,none⟩),.int .i64 n] w λe w'=>∃ x:Int,0<=x/\(0 < n->x < n)/\(n<=0->x=0)/\e=.returned (.int .i64 x)/\ym w0 w' p/\Touch (λk=>k=p) w w':=by
 by_cases h0:n<=0
 · go_enter func30,ntmps30;go_wp2;go_ret;exact ⟨0,by omega,by omega,λ_=>rfl,rfl,hc,Touch.of_below bR⟩
 go_enter func30,ntmps30
 go_wp2_with fail
 refine (kEz hc).mono ?_
 rintro e w1 ⟨x,ai,L,rfl,dj,o⟩
 have hne:¬ n=0:=bF2
 go_wp2
 go_ret
 refine ⟨_,?_,?_,λq=>absurd q bF2,rfl,dj,o⟩
 · exact Int.emod_nonneg _ bF2
 exact λq=>Int.emod_lt_of_pos _ q
def yw {w0 w:Ac} {p:Nat} (hc:ym w0 w p) {n:Int} (hn:n<=256) :
    Al prog 28 #[.pointer (some ⟨p,0,none⟩),.int .i64 n] w λe w'=>∃ b:Bool,e=.returned (.bool b)/\ym w0 w' p/\Touch (λk=>k=p) w w':=by
 go_enter func28,ntmps28
 go_wp2_with fail
 refine (kZ hc hn).mono ?_
 rintro e w1 ⟨x,ai,L,bf,rfl,dj,o⟩
 go_wp2
 go_ret
 exact ⟨_,rfl,dj,o⟩
def kAd {w0 w:Ac} {p:Nat} (hc:ym w0 w p) {v:Ap} {xs:Ak Int} {S:Nat->Prop} (hl:(kD.slice 3 kD.int).own w [v] xs S) (hp:¬ S p) (h0:0 < xs.length) (h1:xs.length<=256) :
    Al prog 31 #[.pointer (some ⟨p,0,none⟩),v] w λe w'=>∃ y,y∈xs/\kD.int.raw w' [.int .i64 y] y/\e=.returned (.int .i64 y)/\ym w0 w' p/\Touch (λk=>k=p) w w':=by
 have HL:=yD hl
 obtain ⟨a,c,rfl,an⟩:=kD.sl hl.raw
 clear hl
 go_enter func31,ntmps31
 go_wp2_with fail
 refine (kZ hc bF2).mono ?_
 rintro e w1 ⟨x,ai,L,bf,rfl,dj,o⟩
 have R:=yD (HL.out.keep (λk hk hl=>o.block k hl (λq=>hp (q ▸ hk))))
 obtain ⟨k,rfl⟩:=Ae ai
 have be:=L bF2
 have hkl:k < xs.length:=bF2
 have b9:=Ad k
 obtain ⟨cb,V,rfl,c0,cr,O⟩:=kD.kCk R.out.raw hkl rfl
 have D:=Am hkl
 generalize xs[k]=y at *
 have HR:=yD cr
 obtain ⟨rr,_⟩:=kD.yX cr
 obtain rfl:c0=.int .i64 y:=by simpa using rr
 clear rr cr ai L bf
 go_wp2
 go_ret
 exact ⟨y,D,HR.out,rfl,dj,o⟩
def kAn {w0 w:Ac} {p:Nat} (hc:ym w0 w p) {v:Ap} {xs:Ak Aa} {S:Nat->Prop} (hl:(kD.slice 9 kD.str).own w [v] xs S) (hp:¬ S p) (h0:0 < xs.length) (h1:xs.length<=256) :
    Al prog 180 #[.pointer (some ⟨p,0,none⟩),v] w λe w'=>∃ y,y∈xs/\kD.str.raw w' [.string y] y/\e=.returned (.string y)/\ym w0 w' p/\Touch (λk=>k=p) w w':=by
 have HL:=yD hl
 obtain ⟨a,c,rfl,an⟩:=kD.sl hl.raw
 clear hl
 go_enter func180,ntmps180
 go_wp2_with fail
 refine (kZ hc bF2).mono ?_
 rintro e w1 ⟨x,ai,L,bf,rfl,dj,o⟩
 have R:=yD (HL.out.keep (λk hk hl=>o.block k hl (λq=>hp (q ▸ hk))))
 obtain ⟨k,rfl⟩:=Ae ai
 have be:=L bF2
 have hkl:k < xs.length:=bF2
 have b9:=Ad k
 obtain ⟨cb,V,rfl,c0,cr,O⟩:=kD.kCk R.out.raw hkl rfl
 have D:=Am hkl
 generalize xs[k]=y at *
 have HR:=yD cr
 obtain ⟨rr,_⟩:=kD.kAj cr
 obtain rfl:c0=.string y:=by simpa using rr
 clear rr cr ai L bf
 go_wp2
 go_ret
 exact ⟨y,D,HR.out,rfl,dj,o⟩
def kLq:∀ l:Ak UInt8,Ag l l=false
  | []=>rfl
  | a :: l=>by simp [Ag,kLq l]
def kOv (a b:Aa):Int:=if Ag a.toList b.toList then -1 else if a=b then 0 else 1
def kId {a b:Aa}:kOv a b=0↔a=b:=by
 unfold kOv;constructor
 · intro h;split at h
   · omega
   split at h
   · assumption
   omega
 rintro rfl;simp [kLq]
def kNq:Ak Aa->Ak Aa->Int
  | [],[]=>0
  | [],_ :: _=>-1
  | _ :: _,[]=>1
  | a :: x,b :: y=>if kOv a b=0 then kNq x y else kOv a b
def jEs:∀ {x y:Ak Aa},kNq x y=0↔x=y
  | [],[]=>by simp [kNq]
  | [],_ :: _=>by simp [kNq]
  | _ :: _,[]=>by simp [kNq]
  | a :: x,b :: y=>by
    unfold kNq;by_cases h:kOv a b=0
    · rw [if_pos h,jEs (x:=x) (y:=y)];have:=kId.1 h;subst this;simp
    · rw [if_neg h];constructor
      · intro q;exact absurd q h
      · intro q;simp only [Ah] at q;exact absurd (kId.2 q.1) h
def jEt:∀ {x y:Ak Aa} {k:Nat} (hx:k < x.length) (hy:k < y.length),x.take k=y.take k->¬ kOv x[k] y[k]=0->kNq x y=kOv x[k] y[k]
  | [],_,_,hx,_,_,_=>by simp at hx
  | _ :: _,[],_,_,hy,_,_=>by simp at hy
  | a :: x,b :: y,0,_,_,_,h=>by
    simp at h;simp [kNq,h]
  | a :: x,b :: y,k + 1,hx,hy,ht,h=>by
    simp only [Aj,Ah] at ht;simp only [List.getElem_cons_succ] at h ⊢;have h0:=kId.2 ht.1;simp only [kNq,h0,if_true];exact jEt (by simpa using hx) (by simpa using hy) ht.2 h
def cmpN_end:∀ {x y:Ak Aa} {k:Nat},k<=x.length->k<=y.length->x.take k=y.take k->¬ (k < x.length/\k < y.length)->kNq x y=if x.length < y.length then -1 else if y.length < x.length then 1 else 0
  | [],[],_,_,_,_,_=>by simp [kNq]
  | [],b :: y,_,_,_,_,_=>by simp [kNq]
  | a :: x,[],_,_,_,_,_=>by simp [kNq]
  | a :: x,b :: y,0,_,_,_,h=>by simp at h
  | a :: x,b :: y,k + 1,hx,hy,ht,h=>by
    simp only [Aj,Ah] at ht;have h0:=kId.2 ht.1;simp only [kNq,h0,if_true,List.length_cons];rw [cmpN_end (k:=k) (by simpa using hx) (by simpa using hy) ht.2 bD5];simp
def take_next {x y:Ak Aa} {k:Nat} (hx:k < x.length) (hy:k < y.length) (h:x.take k=y.take k) (e:kOv x[k] y[k]=0):x.take (k + 1)=y.take (k + 1) :=
  jd h hx hy (kId.1 e)
def eqN (a b:ko):Bool:=decide (a=b)
def specl4Cmp_c {w:Ac} {a b:Aa}:Al prog 251 #[.string a,.string b] w λe w'=>e=.returned (.int .i64 (kOv a b))/\w'=w:=by
 go_enter func251,ntmps251;cases h1:Ag a.toList b.toList
 · cases h2:(a.toList==b.toList)
   · have L:=yD (show kOv a b=1 by
       unfold kOv;rw [h1];rw [kSj] at h2;simp at h2;simp [h2])
     exact o5
   have L:=yD (show kOv a b=0 by
     rw [kSj] at h2;simp at h2;exact kId.2 h2)
   exact o5
 have L:=yD (show kOv a b=-1 by simp [kOv,h1]);exact o5
def kRp {w:Ac} {ca cb:Ak Ap} {a b:ko} (ha:kR.raw w ca a) (hb:kR.raw w cb b) :
    Al prog 211 #[.agg ca.toArray,.agg cb.toArray] w (bQ w (.int .i64 (kNq a b))):=by
 obtain ⟨av,rfl,V⟩:=kw ha
 obtain ⟨bv,rfl,ag⟩:=kw hb
 clear ha hb
 obtain ⟨aa,al,rfl,la,ab,ar,rfl,lb⟩:=kD.sx V (kD.sl ag)
 go_enter func211,ntmps211
 go_wp2
 generalize R:World.alloc (World.alloc w _) _=U
 obtain ⟨Z,K0,K1⟩:=CS
 clear R
 replace V:=V.below Z
 replace ag:=ag.below Z
 go_loopw [5] (λi wr=>∃ k:Nat,k<=a.length/\k<=b.length/\i=.int .i64 k/\Hid (a.take k=b.take k)/\Qb U wr) (λi _=>a.length - (intOf i).toNat)
 case atStart=>exact ⟨0,Nat.zero_le _,Nat.zero_le _,rfl,yD rfl,bR⟩
 obtain ⟨k,hk,dt,rfl,Y,o⟩:=hrel
 replace K0:=cL o K0
 replace K1:=cL o K1
 by_cases hc:k < a.length/\k < b.length
 · obtain ⟨hlt,ai⟩:=hc;obtain ⟨ba,X,rfl,c0,hr,A0⟩:=kD.kCk (V.below o) hlt rfl;obtain ⟨bb,J,rfl,d0,I,B0⟩:=kD.kCk (ag.below o) ai rfl;obtain ⟨he,_⟩:=kD.kAj hr;obtain rfl:c0=_:=by simpa using he
   obtain ⟨F,_⟩:=kD.kAj I;obtain rfl:d0=_:=by simpa using F
   clear he F hr I;have N:=λq=>jEt hlt ai Y.out q;have H:=λq=>take_next hlt ai Y.out q;generalize a[k]=x at *;generalize b[k]=y at *;have HD:=yD N;have HX:=yD H;clear N H;go_wp2_with fail;have FX:=yD (λ(W:Ac) (hW:Qb wr W)=>kDk hW K0 K1 A0 B0);refine kK (λW=>Qb wr W) [Tt,Tt,Tt,Tt,Tt,Tt,Tt,Tt,Tt,Tt,Ff,Tt] bE5 bE5 qW (bR.drew) ?_;intro wS E;all_goals ((iterate 10 refine kS ?_);(first | refine wkC (specl4Cmp_c) ?_ | refine kS ?_);refine kS ?_;refine kM ?_)
   have EF:=(tQ Z (tQ o E));have D:=(tQ o E);by_cases hz:kOv x y=0
   · have L:=yD (HX.out hz);clear HD HX;have ax:(kOv x y != 0)=false:=bB9;clear hz;refine Qg ?_;exact ⟨k + 1,by omega,by omega,by go_num,L,D⟩
   have L:=yD (HD.out hz);clear HD HX;have ax:(kOv x y != 0)=true:=bB9;go_wp2;go_ret;exact ⟨jZ L.out.symm,EF⟩
 have L:=yD (cmpN_end hk dt Y.out hc)
 have EF:=(tQ Z o)
 by_cases h1:k < a.length
 · have hd:decide ((k:Int) < a.length)=true:=bC5;have h2:¬ k < b.length:=λq=>hc ⟨h1,q⟩;have h3:¬ (a.length:Int) < b.length:=bF2;have h4:(b.length:Int) < a.length:=bF2;have HU:=yD (show kNq a b=1 by rw [L.out,if_neg bF2,if_pos bF2]);clear hc L;go_wp2;all_goals go_ret
   all_goals exact ⟨jZ HU.out.symm,EF⟩
 have hd:decide ((k:Int) < a.length)=false:=bC5
 clear hc
 by_cases h3:a.length < b.length
 · have HU:=yD (show kNq a b=-1 by rw [L.out,if_pos h3]);clear L;go_wp2;go_ret;exact ⟨jZ HU.out.symm,EF⟩
 have h4:¬ b.length < a.length:=bF2
 have HU:=yD (show kNq a b=0 by rw [L.out,if_neg h3,if_neg h4])
 clear L
 go_wp2
 go_ret
 exact ⟨jZ HU.out.symm,EF⟩
def jU {w:Ac} {ca cb:Ak Ap} {a b:ko} (ha:kR.raw w ca a) (hb:kR.raw w cb b) :
    Al prog 131 #[.agg ca.toArray,.agg cb.toArray] w (bQ w (.bool (eqN a b))):=by
 have HA:=yD ha
 have HB:=yD hb
 obtain ⟨av,rfl,V⟩:=kw ha
 obtain ⟨bv,rfl,ag⟩:=kw hb
 clear ha hb
 obtain ⟨aa,al,rfl,la,ab,ar,rfl,lb⟩:=kD.sx V (kD.sl ag)
 go_enter func131,ntmps131
 go_wp2_with fail
 refine (kRp (HA.out.below bI) (HB.out.below bI)).mono ?_
 rintro e w1 ⟨rfl,N⟩
 have EF:Qb w w1:=Below.trans bI (N.mono bB7)
 clear N
 go_wp2
 go_ret
 exact ⟨kJ (by unfold eqN;rw [Bool.eq_iff_iff];simp [jEs]),EF⟩
def kOz {w:Ac} {va O:Ap} {a b:Ak Aa} (V:(kD.slice 9 kD.str).raw w [va] a) (ag:(kD.slice 9 kD.str).raw w [O] b) :
    Al prog 188 #[va,O] w (bQ w (.bool (eqN a b))):=by
 obtain ⟨aa,al,rfl,la,ab,ar,rfl,lb⟩:=kD.sx V (kD.sl ag)
 go_enter func188,ntmps188
 by_cases hl:a.length=b.length
 case neg =>
  exact o6
 obtain ⟨hz,HL⟩:=uX
 clear hl
 go_wp2
 go_loopw [13] (λi wr=>∃ k:Nat,k<=a.length/\i=.int .i64 k/\Hid (a.take k=b.take k)/\Qb w wr) (λi _=>a.length - (intOf i).toNat)
 case atStart=>exact ⟨0,Nat.zero_le _,rfl,yD rfl,bR⟩
 exact o7
def jw {w:Ac} {ca cb:Ak Ap} {a b:ko} (ha:kR.raw w ca a) (hb:kR.raw w cb b) :
    Al prog 103 #[.agg ca.toArray,.agg cb.toArray] w (bQ w (.bool (eqN a b))):=by
 obtain ⟨av,rfl,V⟩:=kw ha
 obtain ⟨bv,rfl,ag⟩:=kw hb
 clear ha hb
 obtain ⟨aa,al,rfl,la,ab,ar,rfl,lb⟩:=kD.sx V (kD.sl ag)
 go_enter func103,ntmps103
 go_wp2_with fail
 refine (kOz (V.below bI) (ag.below bI)).mono ?_
 rintro e w1 ⟨rfl,N⟩
 have EF:Qb w w1:=Below.trans bI (N.mono bB7)
 clear N
 go_wp2
 go_ret
 exact ⟨rfl,EF⟩
end Go.Proofs.YthocbplmdjkifaaGreat
