/-
  Names: compared.
-/
import Derived.Test.YtjhfdpopkkmigabGreatNum
set_option linter.unusedVariables false
set_option linter.defProp false
set_option linter.unusedSimpArgs false
set_option linter.unnecessarySimpa false
set_option maxRecDepth 100000
set_option maxHeartbeats 4000000
open Bool renaming true->Tt,false->Ff
open _root_ renaming ByteArray->Aa,List->Ak
open Array renaming getElem?_eq_some_iff->Ab
open Int renaming natCast_nonneg->Ac,eq_ofNat_of_zero_le->Ae
open Go renaming World->Ad,Calls->Am
open Go.Op renaming bytesLess->Ag
open List.cons renaming injEq->Ah
open Go.IntKind renaming i64->Ai
open List renaming take_succ_cons->Aj,getElem_mem->Al
namespace Go.Proofs.YtjhfdpopkkmigabGreat
open Go.RowKit _root_.Go.Proofs.Tryz
def and255 (x:Int):0<=bits BinOp.and Ai x 255/\bits BinOp.and Ai x 255<=255:=by
 unfold bits;simp only;rw [IntKind.wrap_i64];have h:(BitVec.ofInt Ai.bits x &&& BitVec.ofInt Ai.bits 255).toNat<=255:=by
  rw [BitVec.toNat_and];exact Nat.le_trans Nat.and_le_right bH2
 omega
def yS (w0 w:Ad) (p:Nat):Prop:=Qb w0 w/\w0.heap.size<=p/\∃ (a:Option Addr) (c:Nat) (i h:Int) (N:Ak UInt8),Qr w p #[Qs a N c,Qn i,Qn h] 102/\(kD.slice 5 kD.byte).raw w0 [Qs a N c] N/\0<=i/\i<=N.length
def yS.below {w0 w w':Ad} {p:Nat} (h:yS w0 w p) (b:Qb w w'):yS w0 w' p:=by
 obtain ⟨h1,h2,a,c,i,hh,N,h3,h4⟩:=h;exact ⟨(tQ h1 b),h2,a,c,i,hh,N,(b.block _ (Ab.1 h3).1).trans h3,h4⟩
def yS.touch {S:Nat->Prop} {w0 w w':Ad} {p:Nat} (h:yS w0 w p) (t:Touch S w w') (hp:¬ S p) (h0:∀ k,S k->w0.heap.size<=k):yS w0 w' p:=by
 obtain ⟨h1,h2,a,c,i,hh,N,h3,h4⟩:=h;exact ⟨h1.trans (t.below h1.size h0),h2,a,c,i,hh,N,(t.block _ (Ab.1 h3).1 hp).trans h3,h4⟩
def yS.lt {w0 w:Ad} {p:Nat} (h:yS w0 w p):w0.heap.size<=p/\p < w.heap.size:=by
 obtain ⟨h1,h2,a,c,i,hh,N,h3,h4⟩:=h;exact ⟨h2,(Ab.1 h3).1⟩
def yS.size {w0 w:Ad} {p:Nat} (h:yS w0 w p):Qb w0 w:=h.1
def kZb (w:Ad) (p j:Nat) (v:Value):Touch (λk=>k=p) w (w.setCell ⟨p,j,none⟩ v):=kD.zR [v] w p j
def kEo {w0 w:World} {p:Nat} (hc:yS w0 w p) :
    Calls prog 69 #[.pointer (some ⟨p,0,none⟩)] w λe w'=>∃ x:Int,0<=x/\x<=255/\e=.returned (.int .i64 x)/\yS w0 w' p/\Touch (λk=>k=p) w w':=by
 obtain ⟨b7,bd,a,c,i,h,N,hh,D,cz,be⟩:=hc
 obtain ⟨m,rfl⟩:=Int.eq_ofNat_of_zero_le cz
 obtain ⟨_,_,_,F⟩:=kD.kBd D
 have d1:m<=N.length:=bH3
 clear cz be
 have HC:=yD D
 have HW:=yD b7
 have db:p < w.heap.size:=(Array.getElem?_eq_some_iff.1 hh).1
 have G:Qc w p 0 (.slice a N.length c):=kE hh rfl
 have I:Qc w p 1 (.int .i64 (m:Int)):=kE hh rfl
 have P2:Qc w p 2 (.int .i64 h):=kE hh rfl
 have ah:∀ j,w.frozen? ⟨p,j,none⟩=false:=λj=>frozen_of_row w p j _ _ hh
 have Z2:=ah 2
 have HH:=yD hh
 clear D hh b7 ah
 go_enter func69,ntmps69
 go_upto_region 2 with fail
 generalize hH:wrap64 (wrap64 (h * 6364136223846793005) + 1442695040888963407)=H
 generalize aa:World.setCell w _ _=wA
 have E:Qr wA p #[Qs a N c,.int .i64 (m:Int),Qn H] 102:=by rw [<- aa];have q:=heap_setCell_same w p 2 _ _ (.int .i64 H) HH.out;simpa using q
 have TA:Touch (λk=>k=p) w wA:=by rw [<- aa];exact kZb w p 2 _
 clear aa G I P2 Z2 hH
 have G:Qc wA p 0 (.slice a N.length c):=kE E rfl
 have I:Qc wA p 1 (.int .i64 (m:Int)):=kE E rfl
 have P2:Qc wA p 2 (.int .i64 H):=kE E rfl
 go_upto_region 2 with fail
 refine kK (λW=>Qb wA W) [Tt,Tt,Tt,Tt,Tt,Tt,Tt,Tt,Tt,Tt,Tt,Tt,Tt] bG6 bG6 qY (bR.drew) ?_
 intro wS1 ae
 iterate 3
  all_goals first|(refine kJ rfl ae ?_)|(refine jE (v:=?_) rfl (λW hW=>?_) ?_;rotate_left;(· go_simp;try with_reducible rfl))
  all_goals refine jG ?_
 all_goals first|(refine kJ rfl ae ?_)|(refine jE (v:=?_) rfl (λW hW=>?_) ?_;rotate_left;(· have af:=cL hW P2;clear hW;go_simp;try with_reducible rfl))
 iterate 4
  all_goals refine jG ?_
  all_goals first|(refine kJ rfl ae ?_)|(refine jE (v:=?_) rfl (λW hW=>?_) ?_;rotate_left;(· go_simp;try with_reducible rfl))
 all_goals refine jG ?_
 all_goals first|(refine kJ rfl ae ?_)|(refine jE (v:=?_) rfl (λW hW=>?_) ?_;rotate_left;(· have af:=cL hW P2;clear hW;go_simp;try with_reducible rfl))
 iterate 4
  all_goals refine jG ?_
  all_goals first|(refine kJ rfl ae ?_)|(refine jE (v:=?_) rfl (λW hW=>?_) ?_;rotate_left;(· go_simp;try with_reducible rfl))
 all_goals refine jG ?_
 all_goals refine kS ?_
 generalize hX:bits BinOp.and IntKind.i64 _ 255=X
 have ai:0<=X/\X<=255:=by rw [<- hX];exact and255 _
 clear hX
 replace G:=cL ae G
 replace I:=cL ae I
 replace P2:=cL ae P2
 have R:wS1.heap[p]?=_:=(ae.block p (Array.getElem?_eq_some_iff.1 E).1).trans E
 have E1:Touch (λk=>k=p) w wS1:=TA.trans (Touch.of_below ae)
 clear ae E TA
 go_upto_region 3 with fail
 refine kK (λW=>Qb wS1 W) [Tt,Tt,Tt,Tt,Tt,Tt,Tt,Tt,Tt,Tt] bG6 bG6 qY (bR.drew) ?_
 intro bm ab
 iterate 3
  all_goals first|(refine kJ rfl ab ?_)|(refine jE (v:=?_) rfl (λW hW=>?_) ?_;rotate_left;(· go_simp;try with_reducible rfl))
  all_goals refine jG ?_
 all_goals first|(refine kJ rfl ab ?_)|(refine jE (v:=?_) rfl (λW hW=>?_) ?_;rotate_left;(· have J:=cL hW G;have L:=cL hW I;clear hW;go_simp;try with_reducible rfl))
 iterate 3
  all_goals refine jG ?_
  all_goals first|(refine kJ rfl ab ?_)|(refine jE (v:=?_) rfl (λW hW=>?_) ?_;rotate_left;(· go_simp;try with_reducible rfl))
 all_goals refine jG ?_
 all_goals first|(refine kJ rfl ab ?_)|(refine jE (v:=?_) rfl (λW hW=>?_) ?_;rotate_left;(· have J:=cL hW G;have L:=cL hW I;clear hW;go_simp;try with_reducible rfl))
 iterate 2
  all_goals refine jG ?_
  all_goals first|(refine kJ rfl ab ?_)|(refine jE (v:=?_) rfl (λW hW=>?_) ?_;rotate_left;(· go_simp;try with_reducible rfl))
 all_goals refine jG ?_
 all_goals refine kS ?_
 replace G:=cL ab G
 replace I:=cL ab I
 replace P2:=cL ab P2
 have ad:bm.heap[p]?=_:=(ab.block p (Array.getElem?_eq_some_iff.1 R).1).trans R
 have E2:Touch (λk=>k=p) w bm:=E1.trans (Touch.of_below ab)
 clear ab R E1
 have EB:=HW.out.trans (E2.below HW.out.size (λk hk=>by rw [hk];exact bd))
 by_cases hlt:m < N.length
 · have bn:(m:Int) < N.length:=bH3;have b1:(0:Int)<=m:=bH3;obtain ⟨cb,Z,rfl,c0,cr,bk⟩:=kD.kCu (HC.out) hlt rfl;have O:=cL EB bk;have bl:[c0]=[.int .u8 (N[m].toNat:Int)]:=cr;obtain rfl:c0=.int .u8 (N[m].toNat:Int):=bE3;clear cr bl;generalize N[m]=by0 at *;go_upto_region 4 with fail;refine kK (λW=>Qb bm W) [Tt,Tt,Tt,Tt,Tt,Tt,Tt,Tt,Tt,Tt,Tt,Tt,Tt,Tt,Tt] bG6 bG6 qY (bR.drew) ?_;intro aw ag;iterate 4
    all_goals first|(refine kJ rfl ag ?_)|(refine jE (v:=?_) rfl (λW hW=>?_) ?_;rotate_left;(· go_simp;try with_reducible rfl))
    all_goals refine jG ?_
   all_goals first|(refine kJ rfl ag ?_)|(refine jE (v:=?_) rfl (λW hW=>?_) ?_;rotate_left;(· have J:=cL hW G;have L:=cL hW I;have aj:=cL hW O;clear hW;go_simp;try with_reducible rfl))
   iterate 3
    all_goals refine jG ?_
    all_goals first|(refine kJ rfl ag ?_)|(refine jE (v:=?_) rfl (λW hW=>?_) ?_;rotate_left;(· go_simp;try with_reducible rfl))
   iterate 2
    all_goals refine jG ?_
    all_goals first|(refine kJ rfl ag ?_)|(refine jE (v:=?_) rfl (λW hW=>?_) ?_;rotate_left;(· have J:=cL hW G;have L:=cL hW I;have aj:=cL hW O;clear hW;go_simp;try with_reducible rfl))
    all_goals refine jG ?_
    all_goals first|(refine kJ rfl ag ?_)|(refine jE (v:=?_) rfl (λW hW=>?_) ?_;rotate_left;(· go_simp;try with_reducible rfl))
   iterate 3
    all_goals refine jG ?_
    all_goals first|(refine kJ rfl ag ?_)|(refine jE (v:=?_) rfl (λW hW=>?_) ?_;rotate_left;(· go_simp;try with_reducible rfl))
   all_goals refine jG ?_
   all_goals refine kS ?_
   generalize hY:bits BinOp.and IntKind.i64 _ 255=Y;have ac:0<=Y/\Y<=255:=by rw [<- hY];exact and255 _
   clear hY;replace G:=cL ag G;replace I:=cL ag I;replace P2:=cL ag P2;have V:aw.heap[p]?=_:=(ag.block p (Array.getElem?_eq_some_iff.1 ad).1).trans ad;have E3:Touch (λk=>k=p) w aw:=E2.trans (Touch.of_below ag);have Z1:=frozen_of_row aw p 1 _ _ V;clear ag ad E2;have hw:wrap64 ((m:Int) + 1)=(m:Int) + 1:=by unfold wrap64;omega
   have ak:IntKind.i64.wrap ((m:Int) + 1)=(m:Int) + 1:=tY;have o:=heap_setCell_same aw p 1 _ _ (.int .i64 ((m:Int) + 1)) V;have E4:Touch (λk=>k=p) w (aw.setCell ⟨p,1,none⟩ (.int .i64 ((m:Int) + 1))):=E3.trans (kZb _ _ _ _);have U:Hid (yS w0 (aw.setCell ⟨p,1,none⟩ (.int .i64 ((m:Int) + 1))) p):=yD ⟨HW.out.trans (E4.below HW.out.size (λk hk=>by rw [hk];exact bd)),bd,_,c,(m:Int) + 1,H,N,by simpa using o,HC.out,by omega,by omega⟩;have HE:=yD E4;clear o E4 E3 V;go_wp2;go_ret;exact ⟨Y,ac.1,ac.2,rfl,U.out,HE.out⟩
 have bn:¬ (m:Int) < N.length:=bH3
 have U:Hid (yS w0 bm p):=yD ⟨EB,bd,a,c,m,H,N,ad,HC.out,by omega,by omega⟩
 go_wp2
 go_ret
 exact ⟨X,ai.1,ai.2,rfl,U.out,E2⟩
def specl1New_o {w0 w:Ad} {v:Value} {N:Ak UInt8} (bi:(kD.slice 5 kD.byte).raw w0 [v] N) (b7:Qb w0 w) :
    Am prog 13 #[v] w λe w'=>∃ p,e=.returned (.pointer (some ⟨p,0,none⟩))/\yS w0 w' p/\w.heap.size<=p/\Qb w w':=by
 have hl:=bi.below b7
 have H0:=yD bi
 have V:=yD b7
 clear bi b7
 obtain ⟨a,c,rfl,F⟩:=kD.sl hl
 have HL:=yD hl
 clear hl
 go_enter func13,ntmps13
 go_wp2
 go_loopw [3,4] (λh i wr=>∃ (k:Nat) (z:Int),k<=N.length/\i=.int .i64 k/\h=.int .i64 z/\Qb w wr) (λ_ i _=>N.length - (intOf i).toNat)
 case atStart=>exact ⟨0,_,Nat.zero_le _,rfl,rfl,bR⟩
 obtain ⟨k,z,hk,rfl,rfl,o⟩:=hrel
 have D:∀ wx,Qb w wx->yS w0 (wx.alloc (.cells #[.slice a N.length c,.int .i64 0,.int .i64 z] 102)) wx.heap.size:=λwx hx =>
   ⟨(tQ V.out hx).alloc (Nat.le_trans V.out.size hx.size) _,Nat.le_trans V.out.size hx.size,a,c,0,z,N,heap_alloc_new wx _,H0.out,by omega,by omega⟩
 have U:=yD D;clear D
 by_cases hlt:k < N.length
 · have b4:=Int.ofNat_lt.2 hlt;have ce:=Ac k;obtain ⟨cb,Z,rfl,c0,cr,bk⟩:=kD.kCu HL.out hlt rfl;have O:=cL o bk;have bl:[c0]=[.int .u8 (N[k].toNat:Int)]:=cr;obtain rfl:c0=.int .u8 (N[k].toNat:Int):=bE3;clear cr bl;generalize N[k]=by0 at *;by_cases h4:(k:Int) < 4000
   · go_wp2;go_roundw;case rel=>exact ⟨k + 1,_,by omega,by go_num,rfl,o⟩
     simp [intOf];omega
   go_wp2;go_ret;exact ⟨_,rfl,U.out _ o,o.size,o.alloc o.size _⟩
 have du:¬ (k:Int) < N.length:=bH3
 go_wp2
 go_ret
 exact ⟨_,rfl,U.out _ o,o.size,o.alloc o.size _⟩
def ko {w0 w:Ad} {p:Nat} (hc:yS w0 w p) {n:Int} (hn:n<=256) :
    Am prog 18 #[.pointer (some ⟨p,0,none⟩),.int .i64 n] w λe w'=>∃ x:Int,0<=x/\(0 < n->x < n)/\(n<=0->x=0)/\e=.returned (.int .i64 x)/\yS w0 w' p/\Touch (λk=>k=p) w w':=by
 by_cases h0:n<=0
 · go_enter func18,ntmps18;go_wp2;go_ret;exact ⟨0,by omega,by omega,λ_=>rfl,rfl,hc,Touch.of_below bR⟩
 go_enter func18,ntmps18
 go_wp2_with fail
 refine (kEo hc).mono ?_
 rintro e w1 ⟨x,au,o,rfl,dp,D⟩
 have hne:¬ n=0:=bH3
 have I:¬ n < 0:=bH3
 go_wp2
 go_ret
 refine ⟨_,?_,?_,λq=>absurd q bH3,rfl,dp,D⟩
 · exact Int.emod_nonneg _ bH3
 exact λq=>Int.emod_lt_of_pos _ q
def zY {w0 w:Ad} {p:Nat} (hc:yS w0 w p) {n:Int} (hn:n<=256) :
    Am prog 16 #[.pointer (some ⟨p,0,none⟩),.int .i64 n] w λe w'=>∃ b:Bool,e=.returned (.bool b)/\yS w0 w' p/\Touch (λk=>k=p) w w':=by
 go_enter func16,ntmps16
 go_wp2_with fail
 refine (ko hc hn).mono ?_
 rintro e w1 ⟨x,au,o,be,rfl,dp,D⟩
 go_wp2
 go_ret
 exact ⟨_,rfl,dp,D⟩
def zn {w0 w:Ad} {p:Nat} (hc:yS w0 w p) {v:Value} {xs:Ak Int} {S:Nat->Prop} (hl:(kD.slice 3 kD.int).own w [v] xs S) (hp:¬ S p) (h0:0 < xs.length) (h1:xs.length<=256) :
    Am prog 19 #[.pointer (some ⟨p,0,none⟩),v] w λe w'=>∃ y,y∈xs/\kD.int.raw w' [.int .i64 y] y/\e=.returned (.int .i64 y)/\yS w0 w' p/\Touch (λk=>k=p) w w':=by
 have HL:=yD hl
 obtain ⟨a,c,rfl,F⟩:=kD.sl hl.raw
 clear hl
 go_enter func19,ntmps19
 go_wp2_with fail
 refine (ko hc bH3).mono ?_
 rintro e w1 ⟨x,au,o,be,rfl,dp,D⟩
 have L:=yD (HL.out.keep (λk hk hl=>D.block k hl (λq=>hp (q ▸ hk))))
 obtain ⟨k,rfl⟩:=Ae au
 have b4:=o bH3
 have hkl:k < xs.length:=bH3
 have ce:=Ac k
 obtain ⟨cb,Z,rfl,c0,cr,O⟩:=kD.kCu L.out.raw hkl rfl
 have E:=Al hkl
 generalize xs[k]=y at *
 have HR:=yD cr
 obtain ⟨rr,_⟩:=kD.je cr
 obtain rfl:c0=.int .i64 y:=by simpa using rr
 clear rr cr au o be
 go_wp2
 go_ret
 exact ⟨y,E,HR.out,rfl,dp,D⟩
def kAd {w0 w:Ad} {p:Nat} (hc:yS w0 w p) {v:Value} {xs:Ak Aa} {S:Nat->Prop} (hl:(kD.slice 9 kD.str).own w [v] xs S) (hp:¬ S p) (h0:0 < xs.length) (h1:xs.length<=256) :
    Am prog 144 #[.pointer (some ⟨p,0,none⟩),v] w λe w'=>∃ y,y∈xs/\kD.str.raw w' [.string y] y/\e=.returned (.string y)/\yS w0 w' p/\Touch (λk=>k=p) w w':=by
 have HL:=yD hl
 obtain ⟨a,c,rfl,F⟩:=kD.sl hl.raw
 clear hl
 go_enter func144,ntmps144
 go_wp2_with fail
 refine (ko hc bH3).mono ?_
 rintro e w1 ⟨x,au,o,be,rfl,dp,D⟩
 have L:=yD (HL.out.keep (λk hk hl=>D.block k hl (λq=>hp (q ▸ hk))))
 obtain ⟨k,rfl⟩:=Ae au
 have b4:=o bH3
 have hkl:k < xs.length:=bH3
 have ce:=Ac k
 obtain ⟨cb,Z,rfl,c0,cr,O⟩:=kD.kCu L.out.raw hkl rfl
 have E:=Al hkl
 generalize xs[k]=y at *
 have HR:=yD cr
 obtain ⟨rr,_⟩:=kD.zz cr
 obtain rfl:c0=.string y:=by simpa using rr
 clear rr cr au o be
 go_wp2
 go_ret
 exact ⟨y,E,HR.out,rfl,dp,D⟩
def kJt:∀ l:Ak UInt8,Ag l l=false
  | []=>rfl
  | a :: l=>by simp [Ag,kJt l]
def kKs (a b:Aa):Int:=if Ag a.toList b.toList then -1 else if a=b then 0 else 1
def kHc {a b:Aa}:kKs a b=0↔a=b:=by
 unfold kKs;constructor
 · intro h;split at h
   · omega
   split at h
   · assumption
   omega
 rintro rfl;simp [kJt]
def kLp:Ak Aa->Ak Aa->Int
  | [],[]=>0
  | [],_ :: _=>-1
  | _ :: _,[]=>1
  | a :: x,b :: y=>if kKs a b=0 then kLp x y else kKs a b
def jAk:∀ {x y:Ak Aa},kLp x y=0↔x=y
  | [],[]=>by simp [kLp]
  | [],_ :: _=>by simp [kLp]
  | _ :: _,[]=>by simp [kLp]
  | a :: x,b :: y=>by
    unfold kLp;by_cases h:kKs a b=0
    · rw [if_pos h,jAk (x:=x) (y:=y)];have:=kHc.1 h;subst this;simp
    · rw [if_neg h];constructor
      · intro q;exact absurd q h
      · intro q;simp only [Ah] at q;exact absurd (kHc.2 q.1) h
def jAl:∀ {x y:Ak Aa} {k:Nat} (hx:k < x.length) (hy:k < y.length),x.take k=y.take k->¬ kKs x[k] y[k]=0->kLp x y=kKs x[k] y[k]
  | [],_,_,hx,_,_,_=>by simp at hx
  | _ :: _,[],_,_,hy,_,_=>by simp at hy
  | a :: x,b :: y,0,_,_,_,h=>by
    simp at h;simp [kLp,h]
  | a :: x,b :: y,k + 1,hx,hy,ht,h=>by
    simp only [Aj,Ah] at ht;simp only [List.getElem_cons_succ] at h ⊢;have h0:=kHc.2 ht.1;simp only [kLp,h0,if_true];exact jAl (by simpa using hx) (by simpa using hy) ht.2 h
def cmpN_end:∀ {x y:Ak Aa} {k:Nat},k<=x.length->k<=y.length->x.take k=y.take k->¬ (k < x.length/\k < y.length)->kLp x y=if x.length < y.length then -1 else if y.length < x.length then 1 else 0
  | [],[],_,_,_,_,_=>by simp [kLp]
  | [],b :: y,_,_,_,_,_=>by simp [kLp]
  | a :: x,[],_,_,_,_,_=>by simp [kLp]
  | a :: x,b :: y,0,_,_,_,h=>by simp at h
  | a :: x,b :: y,k + 1,hx,hy,ht,h=>by
    simp only [Aj,Ah] at ht;have h0:=kHc.2 ht.1;simp only [kLp,h0,if_true,List.length_cons];rw [cmpN_end (k:=k) (by simpa using hx) (by simpa using hy) ht.2 bF6];simp
def take_next {x y:Ak Aa} {k:Nat} (hx:k < x.length) (hy:k < y.length) (h:x.take k=y.take k) (e:kKs x[k] y[k]=0):x.take (k + 1)=y.take (k + 1) :=
  zT h hx hy (kHc.1 e)
def eqN (a b:kg):Bool:=decide (a=b)
def specl4Cmp_c {w:Ad} {a b:Aa}:Am prog 193 #[.string a,.string b] w λe w'=>e=.returned (.int .i64 (kKs a b))/\w'=w:=by
 go_enter func193,ntmps193;cases h1:Ag a.toList b.toList
 · cases h2:(a.toList==b.toList)
   · have L:=yD (show kKs a b=1 by
       unfold kKs;rw [h1];rw [kSu] at h2;simp at h2;simp [h2])
     exact lW
   have L:=yD (show kKs a b=0 by
     rw [kSu] at h2;simp at h2;exact kHc.2 h2)
   exact lW
 have L:=yD (show kKs a b=-1 by simp [kKs,h1]);exact lW
def kOx {w:World} {ca cb:List Value} {a b:kg} (ha:kN.raw w ca a) (hb:kN.raw w cb b) :
    Calls prog 164 #[.agg ca.toArray,.agg cb.toArray] w (bQ w (.int .i64 (kLp a b))):=by
 obtain ⟨av,rfl,Z⟩:=kX ha
 obtain ⟨bv,rfl,a4⟩:=kX hb
 clear ha hb
 obtain ⟨aa,ao,rfl,la⟩:=kD.sl Z
 obtain ⟨ab,af,rfl,lb⟩:=kD.sl a4
 go_enter func164,ntmps164
 go_wp2
 generalize J:World.alloc (World.alloc w _) _=N
 obtain ⟨EB,K0,K1⟩:=DL
 clear J
 replace Z:=Z.below EB
 replace a4:=a4.below EB
 go_loopw [5] (λi wr=>∃ k:Nat,k<=a.length/\k<=b.length/\i=.int .i64 k/\Hid (a.take k=b.take k)/\Qb N wr) (λi _=>a.length - (intOf i).toNat)
 case atStart=>exact ⟨0,Nat.zero_le _,Nat.zero_le _,rfl,yD rfl,bR⟩
 obtain ⟨k,hk,dl,rfl,HN,o⟩:=hrel
 obtain ⟨K0,K1⟩:=IJ
 by_cases hc:k < a.length/\k < b.length
 · obtain ⟨hlt,ad⟩:=hc;have hd:decide ((k:Int) < a.length)=true:=by simpa using hlt
   have ac:decide (k < a.length)=true:=by simpa using hlt
   obtain ⟨ba,G,rfl,c0,hr,A0⟩:=kD.kCu (Z.below o) hlt rfl;obtain ⟨bb,H,rfl,d0,I,U⟩:=kD.kCu (a4.below o) ad rfl;obtain ⟨he,_⟩:=kD.zz hr;obtain rfl:c0=_:=by simpa using he
   obtain ⟨F,_⟩:=kD.zz I;obtain rfl:d0=_:=by simpa using F
   clear he F hr I;have O:=λq=>jAl hlt ad HN.out q;have D:=λq=>take_next hlt ad HN.out q;generalize a[k]=x at *;generalize b[k]=y at *;have HD:=yD O;have HX:=yD D;clear O D;go_wp2_with fail;have FX:=yD (λ(W:World) (hW:Qb wr W)=>kEe hW K0 K1 A0 U);refine kK (λW=>Qb wr W) [Tt,Tt,Tt,Tt,Tt,Tt,Tt,Tt,Tt,Tt,Ff,Tt] bG6 bG6 qY (bR.drew) ?_;intro wS E;iterate 10
    all_goals refine ky ?_
   all_goals first | refine wkC (specl4Cmp_c) ?_ | refine ky ?_
   all_goals refine ky ?_
   all_goals refine kS ?_
   have EF:=(tQ EB (tQ o E));have EG:=(tQ o E);by_cases hz:kKs x y=0
   · have L:=yD (HX.out hz);clear HD HX;have R:(kKs x y==0)=true:=bE5;have a9:(kKs x y != 0)=false:=bE5;clear hz;go_wp2;go_roundw;case rel=>exact ⟨k + 1,by omega,by omega,by go_num,L,EG⟩
     simp [intOf];omega
   have L:=yD (HD.out hz);clear HD HX;have R:(kKs x y==0)=false:=bE5;have a9:(kKs x y != 0)=true:=bE5;go_wp2;go_ret;exact ⟨jV L.out.symm,EF⟩
 have L:=yD (cmpN_end hk dl HN.out hc)
 have EF:=(tQ EB o)
 by_cases h1:k < a.length
 · have hd:decide ((k:Int) < a.length)=true:=bE6;have ac:decide (k < a.length)=true:=bE6;have h2:¬ k < b.length:=λq=>hc ⟨h1,q⟩;have h3:¬ (a.length:Int) < b.length:=bH3;have h4:(b.length:Int) < a.length:=bH3;have HU:=yD (show kLp a b=1 by rw [L.out,if_neg bH3,if_pos bH3]);clear hc L;go_wp2;all_goals go_ret
   all_goals exact ⟨jV HU.out.symm,EF⟩
 have hd:decide ((k:Int) < a.length)=false:=bE6
 have ac:decide (k < a.length)=false:=bE6
 clear hc
 by_cases h3:a.length < b.length
 · have HU:=yD (show kLp a b=-1 by rw [L.out,if_pos h3]);clear L;go_wp2;go_ret;exact ⟨jV HU.out.symm,EF⟩
 have h4:¬ b.length < a.length:=bH3
 have HU:=yD (show kLp a b=0 by rw [L.out,if_neg h3,if_neg h4])
 clear L
 go_wp2
 go_ret
 exact ⟨jV HU.out.symm,EF⟩
def jq {w:Ad} {ca cb:Ak Value} {a b:kg} (ha:kN.raw w ca a) (hb:kN.raw w cb b) :
    Am prog 99 #[.agg ca.toArray,.agg cb.toArray] w (bQ w (.bool (eqN a b))):=by
 have HA:=yD ha
 have HB:=yD hb
 obtain ⟨av,rfl,Z⟩:=kX ha
 obtain ⟨bv,rfl,a4⟩:=kX hb
 clear ha hb
 obtain ⟨aa,ao,rfl,la⟩:=kD.sl Z
 obtain ⟨ab,af,rfl,lb⟩:=kD.sl a4
 go_enter func99,ntmps99
 go_wp2_with fail
 refine (kOx (HA.out.below bI) (HB.out.below bI)).mono ?_
 rintro e w1 ⟨rfl,O⟩
 have EF:Qb w w1:=Below.trans bI (O.mono bD6)
 clear O
 go_wp2
 go_ret
 exact ⟨kW (by unfold eqN;rw [Bool.eq_iff_iff];simp [jAk]),EF⟩
def kMz {w:Ad} {va J:Value} {a b:Ak Aa} (Z:(kD.slice 9 kD.str).raw w [va] a) (a4:(kD.slice 9 kD.str).raw w [J] b) :
    Am prog 152 #[va,J] w (bQ w (.bool (eqN a b))):=by
 obtain ⟨aa,ao,rfl,la⟩:=kD.sl Z
 obtain ⟨ab,af,rfl,lb⟩:=kD.sl a4
 go_enter func152,ntmps152
 by_cases hl:a.length=b.length
 case neg =>
  exact lX
 obtain ⟨hz,bo⟩:=xW
 have HL:=yD hl;clear hl
 go_wp2
 go_loopw [13] (λi wr=>∃ k:Nat,k<=a.length/\i=.int .i64 k/\Hid (a.take k=b.take k)/\Qb w wr) (λi _=>a.length - (intOf i).toNat)
 case atStart=>exact ⟨0,Nat.zero_le _,rfl,yD rfl,bR⟩
 exact uU
def ze {w:Ad} {ca cb:Ak Value} {a b:kg} (ha:kN.raw w ca a) (hb:kN.raw w cb b) :
    Am prog 77 #[.agg ca.toArray,.agg cb.toArray] w (bQ w (.bool (eqN a b))):=by
 obtain ⟨av,rfl,Z⟩:=kX ha
 obtain ⟨bv,rfl,a4⟩:=kX hb
 clear ha hb
 obtain ⟨aa,ao,rfl,la⟩:=kD.sl Z
 obtain ⟨ab,af,rfl,lb⟩:=kD.sl a4
 go_enter func77,ntmps77
 go_wp2_with fail
 refine (kMz (Z.below bI) (a4.below bI)).mono ?_
 rintro e w1 ⟨rfl,O⟩
 have EF:Qb w w1:=Below.trans bI (O.mono bD6)
 clear O
 go_wp2
 go_ret
 exact ⟨rfl,EF⟩
end Go.Proofs.YtjhfdpopkkmigabGreat
