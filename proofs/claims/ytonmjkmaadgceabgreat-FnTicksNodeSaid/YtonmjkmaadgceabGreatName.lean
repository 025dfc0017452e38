/-
  Names: compared.
-/
import Derived.Test.YtonmjkmaadgceabGreatNum
set_option linter.unusedVariables false
set_option linter.defProp false
set_option linter.unusedSimpArgs false
set_option linter.unnecessarySimpa false
set_option maxRecDepth 100000
set_option maxHeartbeats 4000000
open Bool renaming true->Tt,false->Ff
open _root_ renaming ByteArray->Aa,List->Ak
open Array renaming getElem?_eq_some_iff->Ab
open Int renaming natCast_nonneg->Ac,eq_ofNat_of_zero_le->Ae
open Go renaming World->Ad,Calls->Am
open Go.Op renaming bytesLess->Ag
open List.cons renaming injEq->Ah
open Go.IntKind renaming i64->Ai
open List renaming take_succ_cons->Aj,getElem_mem->Al
namespace Go.Proofs.YtonmjkmaadgceabGreat
open Go.RowKit _root_.Go.Proofs.Tryz
def and255 (x:Int):0<=bits BinOp.and Ai x 255/\bits BinOp.and Ai x 255<=255:=by
 unfold bits;simp only;rw [IntKind.wrap_i64];have h:(BitVec.ofInt Ai.bits x &&& BitVec.ofInt Ai.bits 255).toNat<=255:=by
  rw [BitVec.toNat_and];exact Nat.le_trans Nat.and_le_right bC8
 omega
def yU (w0 w:Ad) (p:Nat):Prop:=Qb w0 w/\w0.heap.size<=p/\∃ (a:Option Addr) (c:Nat) (i h:Int) (O:Ak UInt8),Qr w p #[Qs a O c,Qn i,Qn h] 122/\(kD.slice 5 kD.byte).raw w0 [Qs a O c] O/\0<=i/\i<=O.length
def yU.below {w0 w w':Ad} {p:Nat} (h:yU w0 w p) (b:Qb w w'):yU w0 w' p:=by
 obtain ⟨h1,h2,a,c,i,hh,O,h3,h4⟩:=h;exact ⟨(tQ h1 b),h2,a,c,i,hh,O,(b.block _ (Ab.1 h3).1).trans h3,h4⟩
def yU.touch {S:Nat->Prop} {w0 w w':Ad} {p:Nat} (h:yU w0 w p) (t:Touch S w w') (hp:¬ S p) (h0:∀ k,S k->w0.heap.size<=k):yU w0 w' p:=by
 obtain ⟨h1,h2,a,c,i,hh,O,h3,h4⟩:=h;exact ⟨h1.trans (t.below h1.size h0),h2,a,c,i,hh,O,(t.block _ (Ab.1 h3).1 hp).trans h3,h4⟩
def yU.lt {w0 w:Ad} {p:Nat} (h:yU w0 w p):w0.heap.size<=p/\p < w.heap.size:=by
 obtain ⟨h1,h2,a,c,i,hh,O,h3,h4⟩:=h;exact ⟨h2,(Ab.1 h3).1⟩
def yU.size {w0 w:Ad} {p:Nat} (h:yU w0 w p):Qb w0 w:=h.1
def kXj (w:Ad) (p j:Nat) (v:Value):Touch (λk=>k=p) w (w.setCell ⟨p,j,none⟩ v):=kD.zH [v] w p j
def kDy {w0 w:World} {p:Nat} (hc:yU w0 w p) :
    Calls prog 45 #[.pointer (some ⟨p,0,none⟩)] w λe w'=>∃ x:Int,0<=x/\x<=255/\e=.returned (.int .i64 x)/\yU w0 w' p/\Touch (λk=>k=p) w w':=by
 obtain ⟨cq,bf,a,c,i,h,O,hh,o,cz,cc⟩:=hc
 obtain ⟨m,rfl⟩:=Int.eq_ofNat_of_zero_le cz
 obtain ⟨_,_,_,ag⟩:=kD.kAy o
 have dv:m<=O.length:=bC9
 clear cz cc
 have HC:=yD o
 have HW:=yD cq
 have dm:p < w.heap.size:=(Array.getElem?_eq_some_iff.1 hh).1
 have E:Qc w p 0 (.slice a O.length c):=kE hh rfl
 have F:Qc w p 1 (.int .i64 (m:Int)):=kE hh rfl
 have L:Qc w p 2 (.int .i64 h):=kE hh rfl
 have ah:∀ j,w.frozen? ⟨p,j,none⟩=false:=λj=>frozen_of_row w p j _ _ hh
 have Z2:=ah 2
 have HH:=yD hh
 clear o hh cq ah
 go_enter func45,ntmps45
 go_upto_region 2 with fail
 generalize hH:wrap64 (wrap64 (h * 6364136223846793005) + 1442695040888963407)=H
 generalize N:World.setCell w _ _=wA
 have D:Qr wA p #[Qs a O c,.int .i64 (m:Int),Qn H] 122:=by rw [<- N];have q:=heap_setCell_same w p 2 _ _ (.int .i64 H) HH.out;simpa using q
 have TA:Touch (λk=>k=p) w wA:=by rw [<- N];exact kXj w p 2 _
 clear N E F L Z2 hH
 have E:Qc wA p 0 (.slice a O.length c):=kE D rfl
 have F:Qc wA p 1 (.int .i64 (m:Int)):=kE D rfl
 have L:Qc wA p 2 (.int .i64 H):=kE D rfl
 go_upto_region 2 with fail
 refine kM (λW=>Qb wA W) [Tt,Tt,Tt,Tt,Tt,Tt,Tt,Tt,Tt,Tt,Tt,Tt,Tt] bC3 bC3 pK (bR.drew) ?_
 intro wS1 ae
 iterate 3
  all_goals first|(refine kI rfl ae ?_)|(refine jC (v:=?_) rfl (λW hW=>?_) ?_;rotate_left;(· go_simp;try with_reducible rfl))
  all_goals refine jF ?_
 all_goals first|(refine kI rfl ae ?_)|(refine jC (v:=?_) rfl (λW hW=>?_) ?_;rotate_left;(· have ai:=cL hW L;clear hW;go_simp;try with_reducible rfl))
 iterate 4
  all_goals refine jF ?_
  all_goals first|(refine kI rfl ae ?_)|(refine jC (v:=?_) rfl (λW hW=>?_) ?_;rotate_left;(· go_simp;try with_reducible rfl))
 all_goals refine jF ?_
 all_goals first|(refine kI rfl ae ?_)|(refine jC (v:=?_) rfl (λW hW=>?_) ?_;rotate_left;(· have ai:=cL hW L;clear hW;go_simp;try with_reducible rfl))
 iterate 4
  all_goals refine jF ?_
  all_goals first|(refine kI rfl ae ?_)|(refine jC (v:=?_) rfl (λW hW=>?_) ?_;rotate_left;(· go_simp;try with_reducible rfl))
 all_goals refine jF ?_
 all_goals refine kS ?_
 generalize hX:bits BinOp.and IntKind.i64 _ 255=X
 have aj:0<=X/\X<=255:=by rw [<- hX];exact and255 _
 clear hX
 replace E:=cL ae E
 replace F:=cL ae F
 replace L:=cL ae L
 have V:wS1.heap[p]?=_:=(ae.block p (Array.getElem?_eq_some_iff.1 D).1).trans D
 have E1:Touch (λk=>k=p) w wS1:=TA.trans (Touch.of_below ae)
 clear ae D TA
 go_upto_region 3 with fail
 refine kM (λW=>Qb wS1 W) [Tt,Tt,Tt,Tt,Tt,Tt,Tt,Tt,Tt,Tt] bC3 bC3 pK (bR.drew) ?_
 intro a9 af
 iterate 3
  all_goals first|(refine kI rfl af ?_)|(refine jC (v:=?_) rfl (λW hW=>?_) ?_;rotate_left;(· go_simp;try with_reducible rfl))
  all_goals refine jF ?_
 all_goals first|(refine kI rfl af ?_)|(refine jC (v:=?_) rfl (λW hW=>?_) ?_;rotate_left;(· have G:=cL hW E;have I:=cL hW F;clear hW;go_simp;try with_reducible rfl))
 iterate 3
  all_goals refine jF ?_
  all_goals first|(refine kI rfl af ?_)|(refine jC (v:=?_) rfl (λW hW=>?_) ?_;rotate_left;(· go_simp;try with_reducible rfl))
 all_goals refine jF ?_
 all_goals first|(refine kI rfl af ?_)|(refine jC (v:=?_) rfl (λW hW=>?_) ?_;rotate_left;(· have G:=cL hW E;have I:=cL hW F;clear hW;go_simp;try with_reducible rfl))
 iterate 2
  all_goals refine jF ?_
  all_goals first|(refine kI rfl af ?_)|(refine jC (v:=?_) rfl (λW hW=>?_) ?_;rotate_left;(· go_simp;try with_reducible rfl))
 all_goals refine jF ?_
 all_goals refine kS ?_
 replace E:=cL af E
 replace F:=cL af F
 replace L:=cL af L
 have U:a9.heap[p]?=_:=(af.block p (Array.getElem?_eq_some_iff.1 V).1).trans V
 have E2:Touch (λk=>k=p) w a9:=E1.trans (Touch.of_below af)
 clear af V E1
 have EB:=HW.out.trans (E2.below HW.out.size (λk hk=>by rw [hk];exact bf))
 by_cases hlt:m < O.length
 · have am:(m:Int) < O.length:=bC9;have bv:(0:Int)<=m:=bC9;obtain ⟨cb,Z,rfl,c0,cr,ax⟩:=kD.kCv (HC.out) hlt rfl;have R:=cL EB ax;have ba:[c0]=[.int .u8 (O[m].toNat:Int)]:=cr;obtain rfl:c0=.int .u8 (O[m].toNat:Int):=wY;clear cr ba;generalize O[m]=by0 at *;go_upto_region 4 with fail;refine kM (λW=>Qb a9 W) [Tt,Tt,Tt,Tt,Tt,Tt,Tt,Tt,Tt,Tt,Tt,Tt,Tt,Tt,Tt] bC3 bC3 pK (bR.drew) ?_;intro az ad;iterate 4
    all_goals first|(refine kI rfl ad ?_)|(refine jC (v:=?_) rfl (λW hW=>?_) ?_;rotate_left;(· go_simp;try with_reducible rfl))
    all_goals refine jF ?_
   all_goals first|(refine kI rfl ad ?_)|(refine jC (v:=?_) rfl (λW hW=>?_) ?_;rotate_left;(· have G:=cL hW E;have I:=cL hW F;have ak:=cL hW R;clear hW;go_simp;try with_reducible rfl))
   iterate 3
    all_goals refine jF ?_
    all_goals first|(refine kI rfl ad ?_)|(refine jC (v:=?_) rfl (λW hW=>?_) ?_;rotate_left;(· go_simp;try with_reducible rfl))
   iterate 2
    all_goals refine jF ?_
    all_goals first|(refine kI rfl ad ?_)|(refine jC (v:=?_) rfl (λW hW=>?_) ?_;rotate_left;(· have G:=cL hW E;have I:=cL hW F;have ak:=cL hW R;clear hW;go_simp;try with_reducible rfl))
    all_goals refine jF ?_
    all_goals first|(refine kI rfl ad ?_)|(refine jC (v:=?_) rfl (λW hW=>?_) ?_;rotate_left;(· go_simp;try with_reducible rfl))
   iterate 3
    all_goals refine jF ?_
    all_goals first|(refine kI rfl ad ?_)|(refine jC (v:=?_) rfl (λW hW=>?_) ?_;rotate_left;(· go_simp;try with_reducible rfl))
   all_goals refine jF ?_
   all_goals refine kS ?_
   generalize hY:bits BinOp.and IntKind.i64 _ 255=Y;have ac:0<=Y/\Y<=255:=by rw [<- hY];exact and255 _
   clear hY;replace E:=cL ad E;replace F:=cL ad F;replace L:=cL ad L;have ab:az.heap[p]?=_:=(ad.block p (Array.getElem?_eq_some_iff.1 U).1).trans U;have E3:Touch (λk=>k=p) w az:=E2.trans (Touch.of_below ad);have Z1:=frozen_of_row az p 1 _ _ ab;clear ad U E2;have hw:wrap64 ((m:Int) + 1)=(m:Int) + 1:=by unfold wrap64;omega
   have al:IntKind.i64.wrap ((m:Int) + 1)=(m:Int) + 1:=by rw [IntKind.wrap_i64];omega
   have J:=heap_setCell_same az p 1 _ _ (.int .i64 ((m:Int) + 1)) ab;have E4:Touch (λk=>k=p) w (az.setCell ⟨p,1,none⟩ (.int .i64 ((m:Int) + 1))):=E3.trans (kXj _ _ _ _);have aa:Hid (yU w0 (az.setCell ⟨p,1,none⟩ (.int .i64 ((m:Int) + 1))) p):=yD ⟨HW.out.trans (E4.below HW.out.size (λk hk=>by rw [hk];exact bf)),bf,_,c,(m:Int) + 1,H,O,by simpa using J,HC.out,by omega,by omega⟩;have HE:=yD E4;clear J E4 E3 ab;go_wp2;go_ret;exact ⟨Y,ac.1,ac.2,rfl,aa.out,HE.out⟩
 have am:¬ (m:Int) < O.length:=bC9
 have aa:Hid (yU w0 a9 p):=yD ⟨EB,bf,a,c,m,H,O,U,HC.out,by omega,by omega⟩
 go_wp2
 go_ret
 exact ⟨X,aj.1,aj.2,rfl,aa.out,E2⟩
def specl1New_o {w0 w:Ad} {v:Value} {O:Ak UInt8} (bm:(kD.slice 5 kD.byte).raw w0 [v] O) (cq:Qb w0 w) :
    Am prog 43 #[v] w λe w'=>∃ p,e=.returned (.pointer (some ⟨p,0,none⟩))/\yU w0 w' p/\w.heap.size<=p/\Qb w w':=by
 have hl:=bm.below cq
 have H0:=yD bm
 have an:=yD cq
 clear bm cq
 obtain ⟨a,c,rfl,ag⟩:=kD.sl hl
 have HL:=yD hl
 clear hl
 go_enter func43,ntmps43
 go_wp2
 go_loopw [3,4] (λh i wr=>∃ (k:Nat) (z:Int),k<=O.length/\i=.int .i64 k/\h=.int .i64 z/\Qb w wr) (λ_ i _=>O.length - (intOf i).toNat)
 case atStart=>exact ⟨0,_,Nat.zero_le _,rfl,rfl,bR⟩
 obtain ⟨k,z,hk,rfl,rfl,o⟩:=hrel
 have D:∀ wx,Qb w wx->yU w0 (wx.alloc (.cells #[.slice a O.length c,.int .i64 0,.int .i64 z] 122)) wx.heap.size:=λwx hx =>
   ⟨(tQ an.out hx).alloc (Nat.le_trans an.out.size hx.size) _,Nat.le_trans an.out.size hx.size,a,c,0,z,O,heap_alloc_new wx _,H0.out,by omega,by omega⟩
 have V:=yD D;clear D
 by_cases hlt:k < O.length
 · have bt:=Int.ofNat_lt.2 hlt;have bp:=Ac k;obtain ⟨cb,Z,rfl,c0,cr,ax⟩:=kD.kCv HL.out hlt rfl;have R:=cL o ax;have ba:[c0]=[.int .u8 (O[k].toNat:Int)]:=cr;obtain rfl:c0=.int .u8 (O[k].toNat:Int):=wY;clear cr ba;generalize O[k]=by0 at *;by_cases h4:(k:Int) < 4000
   · go_wp2;go_roundw;case rel=>exact ⟨k + 1,_,by omega,by go_num,rfl,o⟩
     simp [intOf];omega
   go_wp2;go_ret;exact ⟨_,rfl,V.out _ o,o.size,o.alloc o.size _⟩
 have b3:¬ (k:Int) < O.length:=bC9
 go_wp2
 go_ret
 exact ⟨_,rfl,V.out _ o,o.size,o.alloc o.size _⟩
def kr {w0 w:Ad} {p:Nat} (hc:yU w0 w p) {n:Int} (hn:n<=256) :
    Am prog 14 #[.pointer (some ⟨p,0,none⟩),.int .i64 n] w λe w'=>∃ x:Int,0<=x/\(0 < n->x < n)/\(n<=0->x=0)/\e=.returned (.int .i64 x)/\yU w0 w' p/\Touch (λk=>k=p) w w':=by
 by_cases h0:n<=0
 · go_enter func14,ntmps14;go_wp2;go_ret;exact ⟨0,by omega,by omega,λ_=>rfl,rfl,hc,Touch.of_below bR⟩
 go_enter func14,ntmps14
 go_wp2_with fail
 refine (kDy hc).mono ?_
 rintro e Y ⟨x,ao,L,rfl,G,o⟩
 have hne:¬ n=0:=bC9
 have E:¬ n < 0:=bC9
 go_wp2
 go_ret
 refine ⟨_,?_,?_,λq=>absurd q bC9,rfl,G,o⟩
 · exact Int.emod_nonneg _ bC9
 exact λq=>Int.emod_lt_of_pos _ q
def kAk {w0 w:Ad} {p:Nat} (hc:yU w0 w p) {n:Int} (hn:n<=256) :
    Am prog 158 #[.pointer (some ⟨p,0,none⟩),.int .i64 n] w λe w'=>∃ b:Bool,e=.returned (.bool b)/\yU w0 w' p/\Touch (λk=>k=p) w w':=by
 go_enter func158,ntmps158
 go_wp2_with fail
 refine (kr hc hn).mono ?_
 rintro e Y ⟨x,ao,L,a1,rfl,G,o⟩
 go_wp2
 go_ret
 exact ⟨_,rfl,G,o⟩
def kBp {w0 w:Ad} {p:Nat} (hc:yU w0 w p) {v:Value} {xs:Ak Int} {S:Nat->Prop} (hl:(kD.slice 3 kD.int).own w [v] xs S) (hp:¬ S p) (h0:0 < xs.length) (h1:xs.length<=256) :
    Am prog 142 #[.pointer (some ⟨p,0,none⟩),v] w λe w'=>∃ y,y∈xs/\kD.int.raw w' [.int .i64 y] y/\e=.returned (.int .i64 y)/\yU w0 w' p/\Touch (λk=>k=p) w w':=by
 have HL:=yD hl
 obtain ⟨a,c,rfl,ag⟩:=kD.sl hl.raw
 clear hl
 go_enter func142,ntmps142
 go_wp2_with fail
 refine (kr hc bC9).mono ?_
 rintro e Y ⟨x,ao,L,a1,rfl,G,o⟩
 have N:=yD (HL.out.keep (λk hk hl=>o.block k hl (λq=>hp (q ▸ hk))))
 obtain ⟨k,rfl⟩:=Ae ao
 have bt:=L bC9
 have aa:k < xs.length:=bC9
 have bp:=Ac k
 obtain ⟨cb,Z,rfl,c0,cr,R⟩:=kD.kCv N.out.raw aa rfl
 have D:=Al aa
 generalize xs[k]=y at *
 have HR:=yD cr
 obtain ⟨rr,_⟩:=kD.jY cr
 obtain rfl:c0=.int .i64 y:=by simpa using rr
 clear rr cr ao L a1
 go_wp2
 go_ret
 exact ⟨y,D,HR.out,rfl,G,o⟩
def zx {w0 w:Ad} {p:Nat} (hc:yU w0 w p) {v:Value} {xs:Ak Aa} {S:Nat->Prop} (hl:(kD.slice 9 kD.str).own w [v] xs S) (hp:¬ S p) (h0:0 < xs.length) (h1:xs.length<=256) :
    Am prog 161 #[.pointer (some ⟨p,0,none⟩),v] w λe w'=>∃ y,y∈xs/\kD.str.raw w' [.string y] y/\e=.returned (.string y)/\yU w0 w' p/\Touch (λk=>k=p) w w':=by
 have HL:=yD hl
 obtain ⟨a,c,rfl,ag⟩:=kD.sl hl.raw
 clear hl
 go_enter func161,ntmps161
 go_wp2_with fail
 refine (kr hc bC9).mono ?_
 rintro e Y ⟨x,ao,L,a1,rfl,G,o⟩
 have N:=yD (HL.out.keep (λk hk hl=>o.block k hl (λq=>hp (q ▸ hk))))
 obtain ⟨k,rfl⟩:=Ae ao
 have bt:=L bC9
 have aa:k < xs.length:=bC9
 have bp:=Ac k
 obtain ⟨cb,Z,rfl,c0,cr,R⟩:=kD.kCv N.out.raw aa rfl
 have D:=Al aa
 generalize xs[k]=y at *
 have HR:=yD cr
 obtain ⟨rr,_⟩:=kD.zi cr
 obtain rfl:c0=.string y:=by simpa using rr
 clear rr cr ao L a1
 go_wp2
 go_ret
 exact ⟨y,D,HR.out,rfl,G,o⟩
def kIl:∀ l:Ak UInt8,Ag l l=false
  | []=>rfl
  | a :: l=>by simp [Ag,kIl l]
def kJc (a b:Aa):Int:=if Ag a.toList b.toList then -1 else if a=b then 0 else 1
def kFz {a b:Aa}:kJc a b=0↔a=b:=by
 unfold kJc;constructor
 · intro h;split at h
   · omega
   split at h
   · assumption
   omega
 rintro rfl;simp [kIl]
def kJz:Ak Aa->Ak Aa->Int
  | [],[]=>0
  | [],_ :: _=>-1
  | _ :: _,[]=>1
  | a :: x,b :: y=>if kJc a b=0 then kJz x y else kJc a b
def kYq:∀ {x y:Ak Aa},kJz x y=0↔x=y
  | [],[]=>by simp [kJz]
  | [],_ :: _=>by simp [kJz]
  | _ :: _,[]=>by simp [kJz]
  | a :: x,b :: y=>by
    unfold kJz;by_cases h:kJc a b=0
    · rw [if_pos h,kYq (x:=x) (y:=y)];have:=kFz.1 h;subst this;simp
    · rw [if_neg h];constructor
      · intro q;exact absurd q h
      · intro q;simp only [Ah] at q;exact absurd (kFz.2 q.1) h
def kYr:∀ {x y:Ak Aa} {k:Nat} (hx:k < x.length) (hy:k < y.length),x.take k=y.take k->¬ kJc x[k] y[k]=0->kJz x y=kJc x[k] y[k]
  | [],_,_,hx,_,_,_=>by simp at hx
  | _ :: _,[],_,_,hy,_,_=>by simp at hy
  | a :: x,b :: y,0,_,_,_,h=>by
    simp at h;simp [kJz,h]
  | a :: x,b :: y,k + 1,hx,hy,ht,h=>by
    simp only [Aj,Ah] at ht;simp only [List.getElem_cons_succ] at h ⊢;have h0:=kFz.2 ht.1;simp only [kJz,h0,if_true];exact kYr (by simpa using hx) (by simpa using hy) ht.2 h
def cmpN_end:∀ {x y:Ak Aa} {k:Nat},k<=x.length->k<=y.length->x.take k=y.take k->¬ (k < x.length/\k < y.length)->kJz x y=if x.length < y.length then -1 else if y.length < x.length then 1 else 0
  | [],[],_,_,_,_,_=>by simp [kJz]
  | [],b :: y,_,_,_,_,_=>by simp [kJz]
  | a :: x,[],_,_,_,_,_=>by simp [kJz]
  | a :: x,b :: y,0,_,_,_,h=>by simp at h
  | a :: x,b :: y,k + 1,hx,hy,ht,h=>by
    simp only [Aj,Ah] at ht;have h0:=kFz.2 ht.1;simp only [kJz,h0,if_true,List.length_cons];rw [cmpN_end (k:=k) (by simpa using hx) (by simpa using hy) ht.2 bB3];simp
def take_next {x y:Ak Aa} {k:Nat} (hx:k < x.length) (hy:k < y.length) (h:x.take k=y.take k) (e:kJc x[k] y[k]=0):x.take (k + 1)=y.take (k + 1) :=
  zW h hx hy (kFz.1 e)
def eqN (a b:ko):Bool:=decide (a=b)
def specl4Cmp_c {w:Ad} {a b:Aa}:Am prog 184 #[.string a,.string b] w λe w'=>e=.returned (.int .i64 (kJc a b))/\w'=w:=by
 go_enter func184,ntmps184;cases h1:Ag a.toList b.toList
 · cases h2:(a.toList==b.toList)
   · have L:=yD (show kJc a b=1 by
       unfold kJc;rw [h1];rw [kQn] at h2;simp at h2;simp [h2])
     exact l9
   have L:=yD (show kJc a b=0 by
     rw [kQn] at h2;simp at h2;exact kFz.2 h2)
   exact l9
 have L:=yD (show kJc a b=-1 by simp [kJc,h1]);exact l9
def kNc {w:World} {ca cb:List Value} {a b:ko} (ha:kU.raw w ca a) (hb:kU.raw w cb b) :
    Calls prog 154 #[.agg ca.toArray,.agg cb.toArray] w (bQ w (.int .i64 (kJz a b))):=by
 obtain ⟨av,rfl,ad⟩:=kZ ha
 obtain ⟨bv,rfl,ag⟩:=kZ hb
 clear ha hb
 obtain ⟨aa,al,rfl,la⟩:=kD.sl ad
 obtain ⟨ab,X,rfl,lb⟩:=kD.sl ag
 go_enter func154,ntmps154
 go_wp2
 generalize D:World.alloc (World.alloc w _) _=N
 obtain ⟨EB,K0,K1⟩:=CW
 clear D
 replace ad:=ad.below EB
 replace ag:=ag.below EB
 go_loopw [5] (λi wr=>∃ k:Nat,k<=a.length/\k<=b.length/\i=.int .i64 k/\Hid (a.take k=b.take k)/\Qb N wr) (λi _=>a.length - (intOf i).toNat)
 case atStart=>exact ⟨0,Nat.zero_le _,Nat.zero_le _,rfl,yD rfl,bR⟩
 obtain ⟨k,hk,dr,rfl,HN,o⟩:=hrel
 replace K0:=cL o K0
 replace K1:=cL o K1
 by_cases hc:k < a.length/\k < b.length
 · obtain ⟨hlt,az⟩:=hc;have hd:decide ((k:Int) < a.length)=true:=by simpa using hlt
   have ac:decide (k < a.length)=true:=by simpa using hlt
   obtain ⟨ba,H,rfl,c0,hr,A0⟩:=kD.kCv (ad.below o) hlt rfl;obtain ⟨bb,J,rfl,Y,G,B0⟩:=kD.kCv (ag.below o) az rfl;obtain ⟨he,_⟩:=kD.zi hr;obtain rfl:c0=_:=by simpa using he
   obtain ⟨I,_⟩:=kD.zi G;obtain rfl:Y=_:=by simpa using I
   clear he I hr G;have O:=λq=>kYr hlt az HN.out q;have bx:=λq=>take_next hlt az HN.out q;generalize a[k]=x at *;generalize b[k]=y at *;have HD:=yD O;have HX:=yD bx;clear O bx;go_wp2_with fail;have FX:=yD (λ(W:World) (hW:Qb wr W)=>kGr hW K0 K1 A0 B0);refine kM (λW=>Qb wr W) [Tt,Tt,Tt,Tt,Tt,Tt,Tt,Tt,Tt,Tt,Ff,Tt] bC3 bC3 pK (bR.drew) ?_;intro wS E;iterate 10
    all_goals refine ku ?_
   all_goals first | refine wkC (specl4Cmp_c) ?_ | refine ku ?_
   all_goals refine ku ?_
   all_goals refine kS ?_
   have R:=(tQ EB (tQ o E));have F:=(tQ o E);by_cases hz:kJc x y=0
   · have L:=yD (HX.out hz);clear HD HX;have U:(kJc x y==0)=true:=bA4;have a6:(kJc x y != 0)=false:=bA4;clear hz;go_wp2;go_roundw;case rel=>exact ⟨k + 1,by omega,by omega,by go_num,L,F⟩
     simp [intOf];omega
   have L:=yD (HD.out hz);clear HD HX;have U:(kJc x y==0)=false:=bA4;have a6:(kJc x y != 0)=true:=bA4;go_wp2;go_ret;exact ⟨jT L.out.symm,R⟩
 have L:=yD (cmpN_end hk dr HN.out hc)
 have R:=(tQ EB o)
 by_cases h1:k < a.length
 · have hd:decide ((k:Int) < a.length)=true:=bA1;have ac:decide (k < a.length)=true:=bA1;have h2:¬ k < b.length:=λq=>hc ⟨h1,q⟩;have h3:¬ (a.length:Int) < b.length:=bC9;have h4:(b.length:Int) < a.length:=bC9;have HU:=yD (show kJz a b=1 by rw [L.out,if_neg bC9,if_pos bC9]);clear hc L;go_wp2;all_goals go_ret
   all_goals exact ⟨jT HU.out.symm,R⟩
 have hd:decide ((k:Int) < a.length)=false:=bA1
 have ac:decide (k < a.length)=false:=bA1
 clear hc
 by_cases h3:a.length < b.length
 · have HU:=yD (show kJz a b=-1 by rw [L.out,if_pos h3]);clear L;go_wp2;go_ret;exact ⟨jT HU.out.symm,R⟩
 have h4:¬ b.length < a.length:=bC9
 have HU:=yD (show kJz a b=0 by rw [L.out,if_neg h3,if_neg h4])
 clear L
 go_wp2
 go_ret
 exact ⟨jT HU.out.symm,R⟩
def zN {w:Ad} {ca cb:Ak Value} {a b:ko} (ha:kU.raw w ca a) (hb:kU.raw w cb b) :
    Am prog 122 #[.agg ca.toArray,.agg cb.toArray] w (bQ w (.bool (eqN a b))):=by
 have HA:=yD ha
 have HB:=yD hb
 obtain ⟨av,rfl,ad⟩:=kZ ha
 obtain ⟨bv,rfl,ag⟩:=kZ hb
 clear ha hb
 obtain ⟨aa,al,rfl,la⟩:=kD.sl ad
 obtain ⟨ab,X,rfl,lb⟩:=kD.sl ag
 go_enter func122,ntmps122
 go_wp2_with fail
 refine (kNc (HA.out.below bF) (HB.out.below bF)).mono ?_
 rintro e Y ⟨rfl,O⟩
 have R:Qb w Y:=Below.trans bF (O.mono wO)
 clear O
 go_wp2
 go_ret
 exact ⟨kX (by unfold eqN;rw [Bool.eq_iff_iff];simp [kYq]),R⟩
def kLe {w:Ad} {va D:Value} {a b:Ak Aa} (ad:(kD.slice 9 kD.str).raw w [va] a) (ag:(kD.slice 9 kD.str).raw w [D] b) :
    Am prog 105 #[va,D] w (bQ w (.bool (eqN a b))):=by
 obtain ⟨aa,al,rfl,la⟩:=kD.sl ad
 obtain ⟨ab,X,rfl,lb⟩:=kD.sl ag
 go_enter func105,ntmps105
 by_cases hl:a.length=b.length
 case neg =>
  exact lC
 obtain ⟨hz,bj⟩:=y8
 have HL:=yD hl;clear hl
 go_wp2
 go_loopw [13] (λi wr=>∃ k:Nat,k<=a.length/\i=.int .i64 k/\Hid (a.take k=b.take k)/\Qb w wr) (λi _=>a.length - (intOf i).toNat)
 case atStart=>exact ⟨0,Nat.zero_le _,rfl,yD rfl,bR⟩
 exact uV
def kAo {w:Ad} {ca cb:Ak Value} {a b:ko} (ha:kU.raw w ca a) (hb:kU.raw w cb b) :
    Am prog 86 #[.agg ca.toArray,.agg cb.toArray] w (bQ w (.bool (eqN a b))):=by
 obtain ⟨av,rfl,ad⟩:=kZ ha
 obtain ⟨bv,rfl,ag⟩:=kZ hb
 clear ha hb
 obtain ⟨aa,al,rfl,la⟩:=kD.sl ad
 obtain ⟨ab,X,rfl,lb⟩:=kD.sl ag
 go_enter func86,ntmps86
 go_wp2_with fail
 refine (kLe (ad.below bF) (ag.below bF)).mono ?_
 rintro e Y ⟨rfl,O⟩
 have R:Qb w Y:=Below.trans bF (O.mono wO)
 clear O
 go_wp2
 go_ret
 exact ⟨rfl,R⟩
end Go.Proofs.YtonmjkmaadgceabGreat
