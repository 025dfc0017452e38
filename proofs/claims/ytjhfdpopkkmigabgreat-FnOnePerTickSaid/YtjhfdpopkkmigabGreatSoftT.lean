/-
  A region that draws its order, where two operations may come up at one time: both ways are walked. No program in sight.
-/
import Derived.Test.YtjhfdpopkkmigabGreatIns
set_option linter.unusedVariables false
set_option linter.defProp false
set_option linter.unusedSimpArgs false
set_option linter.unnecessarySimpa false
set_option maxRecDepth 100000
set_option maxHeartbeats 4000000
open Bool renaming true->Tt,false->Ff
open List.cons renaming injEq->Aa
open Go renaming World->Ab,Value->Ah,yielded->Br,Calls->Bt,TypeId->Bu
open Go.Value.slice renaming injEq->Ac
open List renaming getElem?_cons_succ->Ad,getElem?_cons_zero->Ae,drop_succ_cons->Ai,length_cons->Ak,cons_append->Al,length_nil->Ap,nil_append->Aq,length_set->Ar,drop_zero->Au,map_cons->Az,length_eq_zero_iff->Bg,map_nil->Bh,append_assoc->Bq
open Option.some renaming injEq->Ag
open _root_ renaming List->Aj
open Go.Region renaming wanted->Am,ready->Bo
open Bool renaming not_false->Av,and_false->Aw,false_and->Ay,not_true->Bb,and_true->Bc,true_and->Bd,or_false->Be,false_or->Bf,or_true->Bi,true_or->Bj,not_not->Bl
open Go.Addr.mk renaming injEq->Ba
open Go.Proofs.Tryz renaming underlying28->Bp
namespace Go.Proofs.YtjhfdpopkkmigabGreat
open Go.RowKit _root_.Go.Proofs.Tryz
def kIf {w:Ab} {vl:Ah} {l:Aj kF} (hl:(kD.slice 93 kH).rd w [vl] l) :
    Bt prog 72 #[vl] w (kBx 93 kH l w):=by
 have HL:=yD hl
 obtain ⟨la,lp,rfl,ll⟩:=kD.sl hl.1
 have bc:l.length<=16777216:=hl.2.1
 clear hl
 go_enter func72,ntmps72
 go_wp2
 have O0:kD.kQ 93 kH (w.alloc (.cells #[] 93)) (.slice (some ⟨w.heap.size,0,none⟩) 0 0) [] (jb w.heap.size (w.alloc (.cells #[] 93)).heap.size) :=
   kD.yJ (e:=93) (r:=kH) (w:=w) (cs:=[]) (xs:=[]) (T:=λ_=>False) bH4 bH4 rfl (λ_ h=>h.elim) ⟨Nat.le_refl _,by simp⟩
 go_loopw [3,9] (λv i wr=>∃ k:Nat,k<=l.length/\i=.int .i64 k/\Hid (kD.kQ 93 kH wr v (l.take k) (jb w.heap.size wr.heap.size))/\Qb w wr) (λ_ i _=>l.length - (intOf i).toNat)
 case atStart=>exact ⟨0,Nat.zero_le _,rfl,yD O0,bR.alloc nL _⟩
 clear O0
 obtain ⟨k,hk,rfl,I,o⟩:=hrel
 obtain ⟨oa,on,oc,ho,a1⟩:=I.out.parts;obtain rfl:=ho
 have f9:(l.take k).length<=k:=bG7
 by_cases hlt:k < l.length
 · obtain ⟨qb,qo,rfl,Y,ae,ah,qr,ap,aq,ay⟩:=kD.kAn (HL.out.1.below o) hlt rfl;obtain ⟨X,bx⟩:=y5;generalize l[k]=x at *;have b4:=yD bx;clear bx;obtain ⟨U,F,x2⟩:=x;obtain ⟨a6,bn,G,ag,ak,am,ar⟩:=jR qr;simp only [Aa,and_true] at G;obtain ⟨rfl,rfl,rfl⟩:=G;obtain ⟨ac,az,rfl,a8⟩:=kD.sl ak;obtain ⟨ai,bl,rfl,bt⟩:=kD.sl am;have ab:kN.rd wr _ U:=⟨ag,X.1⟩;have a3:(kD.slice 91 kM).rd wr _ F:=⟨am,X.2.1⟩;go_upto_region 5 with fail;generalize D:World.alloc wr _=wC;obtain ⟨EC,aw,M0⟩:=BJ;have M1:Qd wC wr 1 (.slice ai (F).length bl):=wG;have M2:Qd wC wr 2 (.int .i64 x2):=wG;clear D;have FX:=yD (λ(W:Ab) (hW:Qb wC W)=>kOb hW M0 M1 M2);refine jc (λW=>Qb wC W) [(0,true),(1,true),(2,true),(4,true),(5,true),(7,true),(8,true),(3,false),(6,false),(9,true),(10,false)] bG6 bG6 qY (bR.drew) ?_;intro wS E;simp only [jB,Ak,Ap,Ad,Ae,Az,Bh,Al,Aq,Ai,Au];iterate 7
    all_goals refine ky ?_
   all_goals first|(refine kJ rfl E ?_)|(refine kw rfl (λK H=>?_);go_simp;refine (yh (ab.below (tQ EC E))).mono ?_;rintro e a4 ⟨a5,rfl,N,al⟩;obtain ⟨af,rfl,L⟩:=kX N.raw;obtain ⟨ao,au,rfl,aj⟩:=kD.sl L;clear L;replace N:=yD N;have b8:=al.size;have a7:=E.size;replace E:=(tQ E al);refine H _ _ E ?_;clear H K al)
   all_goals refine jG ?_
   all_goals first|(refine kJ rfl E ?_)|(refine kw rfl (λK H=>?_);go_simp;refine (kRo (a3.below (tQ EC E))).mono ?_;rintro e ba ⟨bf,rfl,av,al⟩;obtain ⟨be,bd,rfl,_⟩:=kD.sl av.raw;replace av:=yD av;have ch:=al.size;have bb:=E.size;replace N:=yD (N.out.below al);replace E:=(tQ E al);refine H _ _ E ?_;clear H K al)
   all_goals refine jG ?_
   all_goals refine ky ?_
   all_goals first|(refine kJ rfl E ?_)|(refine kw rfl (λK H=>?_);go_simp;refine H _ _ (E.alloc E.size _) ?_;clear H K)
   all_goals refine jG ?_
   all_goals refine yG ?_
   obtain ⟨a2,an,ax,Z,I,aa⟩:=BH;go_wp2_with (at_builtin;refine kD.jP rfl _ _ 28 rfl (r:=kH) (e:=93) Bp yQ rfl bH2 bH2 (B:=w.heap.size) I.out bH5 bH5 rfl (kD.own.wide (T:=jb wr.heap.size ba.heap.size) (kD.jh (S:=jb (wS.heap.size) (ba.heap.size)) (N.out) (kD.yF (av.out) (kD.ku ar)) mV mV nX) mV) rfl nX rQ mV bH3 vG ?_);exact aO
 exact aR
def kIq {w:Ab} {vl:Ah} {l:Aj kF} (hl:(kD.slice 93 kH).rd w [vl] l) :
    Bt prog 102 #[vl] w (kBx 93 kH l w):=by
 have HL:=yD hl
 obtain ⟨la,lp,rfl,ll⟩:=kD.sl hl.1
 have bc:l.length<=16777216:=hl.2.1
 clear hl
 go_enter func102,ntmps102
 go_wp2
 have O0:kD.kQ 93 kH (w.alloc (.cells #[] 93)) (.slice (some ⟨w.heap.size,0,none⟩) 0 0) [] (jb w.heap.size (w.alloc (.cells #[] 93)).heap.size) :=
   kD.yJ (e:=93) (r:=kH) (w:=w) (cs:=[]) (xs:=[]) (T:=λ_=>False) bH4 bH4 rfl (λ_ h=>h.elim) ⟨Nat.le_refl _,by simp⟩
 go_loopw [3,4] (λv i wr=>∃ k:Nat,k<=l.length/\i=.int .i64 k/\Hid (kD.kQ 93 kH wr v (l.take k) (jb w.heap.size wr.heap.size))/\Qb w wr) (λ_ i _=>l.length - (intOf i).toNat)
 case atStart=>exact ⟨0,Nat.zero_le _,rfl,yD O0,bR.alloc nL _⟩
 clear O0
 obtain ⟨k,hk,rfl,I,o⟩:=hrel
 obtain ⟨oa,on,oc,ho,a1⟩:=I.out.parts;obtain rfl:=ho
 have f9:(l.take k).length<=k:=bG7
 by_cases hlt:k < l.length
 · obtain ⟨qb,qo,rfl,Y,ae,ah,qr,ap,aq,ay⟩:=kD.kAn (HL.out.1.below o) hlt rfl;obtain ⟨X,bx⟩:=y5;generalize l[k]=x at *;have b4:=yD bx;clear bx;obtain ⟨U,F,x2⟩:=x;obtain ⟨a6,bn,G,ag,ak,am,ar⟩:=jR qr;simp only [Aa,and_true] at G;obtain ⟨rfl,rfl,rfl⟩:=G;obtain ⟨ac,az,rfl,a8⟩:=kD.sl ak;obtain ⟨ai,bl,rfl,bt⟩:=kD.sl am;have ab:kN.rd wr _ U:=⟨ag,X.1⟩;go_wp2_with fail;refine (zX ab).mono ?_;rintro e wT ⟨tc,rfl,OT,al⟩;obtain ⟨fp,rfl,b6⟩:=kX OT.raw;obtain ⟨bi,cv,rfl,_⟩:=kD.sl b6;clear b6;go_upto_region 6 with fail;generalize D:World.alloc wT _=wC;obtain ⟨EC,K0⟩:=H8;clear D;have ER:=(tQ al EC);replace ap:=cL ER ap;replace aq:=cL ER aq;replace ay:=cL ER ay;have a3:(kD.slice 91 kM).rd wC _ F:=⟨kD.raw.below am ER,X.2.1⟩;have FX:=yD (λ(W:Ab) (hW:Qb wC W)=>kEe hW K0 ap aq ay);refine jc (λW=>Qb wC W) [(0,true),(1,true),(3,true),(4,true),(5,true),(6,true),(7,true),(9,true),(10,true),(11,true),(12,true),(13,true),(2,false),(8,false),(14,true),(15,false)] bG6 bG6 qY (bR.drew) ?_;intro wS E;simp only [jB,Ak,Ap,Ad,Ae,Az,Bh,Al,Aq,Ai,Au];iterate 12
    all_goals refine ky ?_
   all_goals first|(refine kJ rfl E ?_)|(refine kw rfl (λK H=>?_);go_simp;generalize av:World.alloc wS _=wU;have b0:wU.heap.size=wS.heap.size + 1:=(by rw [<- av];simp);have bu:=E.size;replace E:Qb wC wU:=(by rw [<- av];exact E.alloc E.size _);clear av;refine H _ _ E ?_;clear H K)
   all_goals refine jG ?_
   all_goals first|(refine kJ rfl E ?_)|(refine kw rfl (λK H=>?_);obtain ⟨au,wV,af,L,bd,aw⟩:=kD.kNe (P:=prog) (t:=89) (ty:=89) (r:=kM) (e:=91) (w:=wU) (v:=.slice (some ⟨wS.heap.size,0,none⟩) 0 0) (xs:=[]) (S:=λ_=>False) (B:=wU.heap.size) underlying89 yx rfl bH2 bH2 kDr kD.kQ.void (a3.below E) (λ_ h=>h.elim) nL (by have:=a3.2.1;simp;unfold Big at this;omega);refine kD.kV _ _ _ rfl bH5 bH5 af ?_;obtain ⟨ao,a4,N⟩:=L.yw;obtain rfl:=N;replace E:=(tQ E bd);have aj:=yD (L.own a3.2.1);refine H _ _ E ?_;clear H K af L)
   all_goals refine jG ?_
   all_goals refine ky ?_
   all_goals first|(refine kJ rfl E ?_)|(refine kw rfl (λK H=>?_);go_simp;refine H _ _ (E.alloc E.size _) ?_;clear H K)
   all_goals refine jG ?_
   all_goals refine yG ?_
   have a2:=E.size;have an:=EC.size;have ax:=o.size;have f2:=al.size;have Z:Qb wr wV:=(tQ ER E);replace I:=yD (I.out.below Z);have aa:=(tQ o Z);go_wp2_with (at_builtin;refine kD.jP rfl _ _ 28 rfl (r:=kH) (e:=93) Bp yQ rfl bH2 bH2 (B:=w.heap.size) I.out bH5 bH5 rfl (kD.own.wide (T:=jb wr.heap.size wV.heap.size) (kD.jh (S:=jb (wr.heap.size) (wV.heap.size)) (OT.below (tQ EC E)) (kD.yF (aj.out) (kD.ku ar)) mV mV nX) mV) rfl nX rQ mV bH3 vG ?_);exact aO
 exact aR
def kMq {w:Ab} {vl:Ah} {l:Aj jL} (hl:(kD.slice 121 jD).rd w [vl] l) :
    Bt prog 73 #[vl] w (kBx 121 jD l w):=by
 have HL:=yD hl
 obtain ⟨la,lp,rfl,ll⟩:=kD.sl hl.1
 have bc:l.length<=16777216:=hl.2.1
 clear hl
 go_enter func73,ntmps73
 go_wp2
 have O0:kD.kQ 121 jD (w.alloc (.cells #[] 121)) (.slice (some ⟨w.heap.size,0,none⟩) 0 0) [] (jb w.heap.size (w.alloc (.cells #[] 121)).heap.size) :=
   kD.yJ (e:=121) (r:=jD) (w:=w) (cs:=[]) (xs:=[]) (T:=λ_=>False) bH4 bH4 rfl (λ_ h=>h.elim) ⟨Nat.le_refl _,by simp⟩
 go_loopw [3,9] (λv i wr=>∃ k:Nat,k<=l.length/\i=.int .i64 k/\Hid (kD.kQ 121 jD wr v (l.take k) (jb w.heap.size wr.heap.size))/\Qb w wr) (λ_ i _=>l.length - (intOf i).toNat)
 case atStart=>exact ⟨0,Nat.zero_le _,rfl,yD O0,bR.alloc nL _⟩
 clear O0
 obtain ⟨k,hk,rfl,I,o⟩:=hrel
 obtain ⟨oa,on,oc,ho,a1⟩:=I.out.parts;obtain rfl:=ho
 have f9:(l.take k).length<=k:=bG7
 by_cases hlt:k < l.length
 · obtain ⟨qb,qo,rfl,Y,ae,qr,ap,aq⟩:=kD.get2 (HL.out.1.below o) hlt rfl;obtain ⟨X,bx⟩:=y5;generalize l[k]=x at *;have b4:=yD bx;clear bx;obtain ⟨U,F⟩:=x;obtain ⟨a6,G,ag,ak,am⟩:=kBq qr;simp only [Aa,and_true] at G;obtain ⟨rfl,rfl⟩:=G;obtain ⟨ac,az,rfl,a8⟩:=kD.sl ak;have ab:kN.rd wr _ U:=⟨ag,X.1⟩;go_upto_region 5 with fail;generalize D:World.alloc wr _=wC;obtain ⟨EC,aw,M0⟩:=BJ;have M1:Qd wC wr 1 (.int .i64 F):=wG;clear D;have FX:=yD (λ(W:Ab) (hW:Qb wC W)=>kIz hW M0 M1);refine jc (λW=>Qb wC W) [(0,true),(1,true),(2,true),(4,true),(5,true),(3,false),(6,true),(7,false)] bG6 bG6 qY (bR.drew) ?_;intro wS E;simp only [jB,Ak,Ap,Ad,Ae,Az,Bh,Al,Aq,Ai,Au];iterate 5
    all_goals refine ky ?_
   all_goals first|(refine kJ rfl E ?_)|(refine kw rfl (λK H=>?_);go_simp;refine (yh (ab.below (tQ EC E))).mono ?_;rintro e a4 ⟨a5,rfl,N,al⟩;obtain ⟨af,rfl,L⟩:=kX N.raw;obtain ⟨ao,au,rfl,aj⟩:=kD.sl L;clear L;replace N:=yD N;have b8:=al.size;have a7:=E.size;replace E:=(tQ E al);refine H _ _ E ?_;clear H K al)
   all_goals refine jG ?_
   all_goals refine ky ?_
   all_goals first|(refine kJ rfl E ?_)|(refine kw rfl (λK H=>?_);go_simp;refine H _ _ (E.alloc E.size _) ?_;clear H K)
   all_goals refine jG ?_
   all_goals refine yG ?_
   obtain ⟨a2,an,ax,Z,I,aa⟩:=BH;go_wp2_with (at_builtin;refine kD.jP rfl _ _ 29 rfl (r:=jD) (e:=121) underlying29 kFa rfl bH2 bH2 (B:=w.heap.size) I.out bH5 bH5 rfl (kD.own.wide (T:=jb wr.heap.size a4.heap.size) (kD.yF (N.out) (kD.ku am)) mV) rfl nX rQ mV bH3 vG ?_);exact aO
 exact aR
def kOo {w:Ab} {vl:Ah} {l:Aj jL} (hl:(kD.slice 121 jD).rd w [vl] l) :
    Bt prog 103 #[vl] w (kBx 121 jD l w):=by
 have HL:=yD hl
 obtain ⟨la,lp,rfl,ll⟩:=kD.sl hl.1
 have bc:l.length<=16777216:=hl.2.1
 clear hl
 go_enter func103,ntmps103
 go_wp2
 have O0:kD.kQ 121 jD (w.alloc (.cells #[] 121)) (.slice (some ⟨w.heap.size,0,none⟩) 0 0) [] (jb w.heap.size (w.alloc (.cells #[] 121)).heap.size) :=
   kD.yJ (e:=121) (r:=jD) (w:=w) (cs:=[]) (xs:=[]) (T:=λ_=>False) bH4 bH4 rfl (λ_ h=>h.elim) ⟨Nat.le_refl _,by simp⟩
 go_loopw [3,4] (λv i wr=>∃ k:Nat,k<=l.length/\i=.int .i64 k/\Hid (kD.kQ 121 jD wr v (l.take k) (jb w.heap.size wr.heap.size))/\Qb w wr) (λ_ i _=>l.length - (intOf i).toNat)
 case atStart=>exact ⟨0,Nat.zero_le _,rfl,yD O0,bR.alloc nL _⟩
 clear O0
 obtain ⟨k,hk,rfl,I,o⟩:=hrel
 obtain ⟨oa,on,oc,ho,a1⟩:=I.out.parts;obtain rfl:=ho
 have f9:(l.take k).length<=k:=bG7
 by_cases hlt:k < l.length
 · obtain ⟨qb,qo,rfl,Y,ae,qr,ap,aq⟩:=kD.get2 (HL.out.1.below o) hlt rfl;obtain ⟨X,bx⟩:=y5;generalize l[k]=x at *;have b4:=yD bx;clear bx;obtain ⟨U,F⟩:=x;obtain ⟨a6,G,ag,ak,am⟩:=kBq qr;simp only [Aa,and_true] at G;obtain ⟨rfl,rfl⟩:=G;obtain ⟨ac,az,rfl,a8⟩:=kD.sl ak;have ab:kN.rd wr _ U:=⟨ag,X.1⟩;go_wp2_with fail;refine (zX ab).mono ?_;rintro e wT ⟨tc,rfl,OT,al⟩;obtain ⟨fp,rfl,b6⟩:=kX OT.raw;obtain ⟨bi,cv,rfl,_⟩:=kD.sl b6;clear b6;go_upto_region 6 with fail;generalize D:World.alloc wT _=wC;obtain ⟨EC,K0⟩:=H8;clear D;have ER:=(tQ al EC);replace ap:=cL ER ap;replace aq:=cL ER aq;have FX:=yD (λ(W:Ab) (hW:Qb wC W)=>kOb hW K0 ap aq);refine zM (λW=>Qb wC W) [Tt,Tt,Tt,Tt,Tt,Tt,Tt,Tt,Ff] bG6 bG6 qY (bR.drew) ?_;intro wS E;iterate 8
    all_goals refine ky ?_
   all_goals first|(refine kJ rfl E ?_)|(refine kw rfl (λK H=>?_);go_simp;refine H _ _ (E.alloc E.size _) ?_;clear H K)
   all_goals refine jG ?_
   all_goals refine yG ?_
   obtain ⟨a2,an,ax,f2,Z,I,aa⟩:=FU;go_wp2_with (at_builtin;refine kD.jP rfl _ _ 29 rfl (r:=jD) (e:=121) underlying29 kFa rfl bH2 bH2 (B:=w.heap.size) I.out bH5 bH5 rfl (kD.own.wide (T:=jb wr.heap.size wT.heap.size) (kD.yF (OT.below (tQ EC E)) (kD.ku am)) mV) rfl nX rQ mV bH3 vG ?_);exact aO
 exact aR
namespace kD
section
variable {α β:Type} {r q:kD α} {e:Bu} {w w':Ab} {v:Ah} {xs:Aj α} {S T:Nat->Prop}
def headed (e:Bu) (n:Nat) (w:Ab) (cs:Aj Ah):Prop :=
  ∀ a len cap,cs=[.slice a len cap]->(len=0/\cap=0)\/∃ b cur,a=some ⟨b,0,none⟩/\w.heap[b]?=some (.cells cur e (0,0))/\cur.size=cap * n
def headed_keep {cs:Aj Ah} (h:(slice e r).is true w cs xs S) (hh:headed e r.n w cs) (k:∀ k,S k->w'.heap[k]?=w.heap[k]?):headed e r.n w' cs:=by
 intro a len cap hc;rcases hh a len cap hc with h1|⟨b,cur,rfl,h2,h3⟩
 · exact .inl h1
 obtain ⟨a',E,cap',h0,h4,h5,h6,h7⟩:=h;rw [hc] at h0;simp only [Aa,Ac,and_true] at h0;obtain ⟨rfl,rfl,rfl⟩:=h0;rcases h7 with ⟨h8,h9⟩|⟨b',off,hb,cur',e',fr,hd,cs',tl,g1,g2,g3,g4,g5,g6,g7⟩
 · have:=h9 rfl;exact .inl ⟨by omega,this⟩
 simp only [Ag,Ba,and_true] at hb;obtain ⟨rfl,rfl⟩:=hb;exact .inr ⟨b,cur,rfl,(k b g6).trans h2,h3⟩
def kPa {α:Type} (e:Bu) (r:kD α):kD (Aj α) :=
  { slice e r with
    is:=λo w cs xs S=>(slice e r).is o w cs xs S/\(o=true->headed e r.n w cs)
    len:=λh=>(slice e r).len h.1
    one:=λh=>(slice e r).one h.1
    mono:=by
      intro o w w' cs xs S h k;refine ⟨(slice e r).mono h.1 k,λho=>?_⟩;subst ho;exact headed_keep h.1 (h.2 rfl) k
    wide:=λh k=>⟨(slice e r).wide h.1 k,h.2⟩
    weak:=λh=>⟨(slice e r).weak h.1,λq=>by cases q⟩
    live:=λh=>⟨(slice e r).live h.1,h.2⟩
    is_zero:=⟨(slice e r).is_zero,λ_ a len cap h=>by
      have G:([.slice none 0 0]:Aj Ah)=[.slice a len cap]:=h;simp only [Aa,Ac,and_true] at G;exact .inl ⟨G.2.1.symm,G.2.2.symm⟩⟩ }
def kQ.own0h (h:kQ e r w v xs S) (hl:xs.length<=Big):(kPa e r).own w [v] xs S:=by
 have h1:=h.own hl;refine ⟨⟨h1.1,λ_ a len cap hc=>?_⟩,h1.2⟩;obtain ⟨hb,h⟩:=h;simp only [Aa,and_true] at hc;rcases h with ⟨⟨a',rfl⟩,rfl⟩|⟨b,cap',cur,cs,tl,rfl,g1,g2,g3,g4,g5,g6,g7⟩
 · simp only [Ac] at hc;exact .inl ⟨hc.2.1.symm,hc.2.2.symm⟩
 simp only [Ac] at hc;obtain ⟨rfl,rfl,rfl⟩:=hc;exact .inr ⟨b,cur,rfl,g3,g5⟩
def own0_of (h:(kPa e r).own w [v] xs S):kQ e r w v xs S:=by
 obtain ⟨⟨⟨a,len,cap,hv,rfl,h2,h3,h4⟩,hh⟩,hl,hb⟩:=h;simp only [Aa,and_true] at hv;subst hv;refine ⟨hb,?_⟩;rcases h4 with ⟨rfl,h5⟩|⟨b,off,rfl,cur,e',fr,hd,cs,tl,g1,g2,g3,g4,g5,g6,g7⟩
 · exact .inl ⟨⟨a,by rw [h5 rfl];rfl⟩,rfl⟩
 rcases hh rfl _ _ _ rfl with ⟨k1,k2⟩|⟨b',cur',k1,k2,k3⟩
 · have:xs=[]:=Bg.1 k1;subst this;subst k2;exact .inl ⟨⟨_,rfl⟩,rfl⟩
 simp only [Ag,Ba,and_true] at k1;obtain ⟨rfl,rfl⟩:=k1;rw [g1] at k2;simp only [Ag,Obj.cells.injEq] at k2;obtain ⟨rfl,rfl,rfl⟩:=k2;have:hd=[]:=Bg.1 g3;subst this;exact .inr ⟨b,cap,cur,cs,tl,rfl,h2,h3,g1,by simpa using g2,k3,g6,yL g7 (λk hk=>⟨hk.1,hk.2 rfl⟩)⟩
def row_to (hn:∀ {cs:Aj Ah} {x:α} {S:Nat->Prop},r.is true w cs x S->q.is true w cs x S):∀ {cells:Aj Ah} {ys:Aj α} {S:Nat->Prop},row r true w cells ys S->row q true w cells ys S
  | _,[],_,h=>h
  | _,y :: ys,_,⟨c,d,A,B,h,h1,h2,hA,hB,hd⟩=>⟨c,d,A,B,h,hn h1,row_to hn h2,hA,hB,hd⟩
def kQ.to (hn:∀ {cs:Aj Ah} {x:α} {S:Nat->Prop},r.is true w cs x S->q.is true w cs x S) (hb:∀ x,r.bdd Big x->q.bdd Big x) (hq:q.n=r.n) (h:kQ e r w v xs S):kQ e q w v xs S:=by
 obtain ⟨h0,h⟩:=h;refine ⟨λx hx=>hb x (h0 x hx),?_⟩;rcases h with h|⟨b,cap,cur,cs,tl,g0,g1,g2,g3,g4,g5,g6,g7⟩
 · exact .inl h
 exact .inr ⟨b,cap,cur,cs,tl,g0,g1,g2,g3,g4,by rw [hq];exact g5,g6,row_to hn g7⟩
def own0_part {b cap len i j p:Nat} (h:kQ e r w (.slice (some ⟨b,0,none⟩) len cap) xs S) (hi:i < xs.length) (hj:j < r.n) (hp:p=i * r.n + j) :
    ∃ (cs:Aj Ah) (B:Nat->Prop),r.is true w cs xs[i] B/\(∀ k,B k->S k/\k≠b)/\(∀ c,cs[j]?=some c->Qc w b p c)/\w.frozen? ⟨b,p,none⟩=false/\S b/\b < w.heap.size /\
      ∀ (w':Ab) (u:Ah) (y:α) (T:Nat->Prop),(∀ k,S k->¬ B k->w'.heap[k]?=w.heap[k]?)->r.is true w' (cs.set j u) y T->(∀ k,T k->B k\/¬ S k)->r.bdd Big y ->
        kQ e r (w'.setCell ⟨b,p,none⟩ u) (.slice (some ⟨b,0,none⟩) len cap) (xs.set i y) (λk=>S k\/T k):=by
 subst hp
 obtain ⟨hb,h⟩:=h
 rcases h with ⟨⟨a,h0⟩,rfl⟩|⟨b',cap',cur,cs,tl,h0,h1,h2,h3,h4,h5,h6,h7⟩
 · simp at hi
 simp only [Ac,Ag,Ba,and_true] at h0
 obtain ⟨rfl,rfl,rfl⟩:=h0
 obtain ⟨c1,c,c2,A,B,C,rfl,hl,r1,r2,G,hA,hB,hC,hd⟩:=kPb h7 hi
 have hc:=r.len r2
 have o:cur=((c1++(c++c2))++tl).toArray:=bH1
 refine ⟨c,B,r2,hB,?_,frozen_of_row w b _ _ _ h3,h6,(Array.getElem?_eq_some_iff.1 h3).1,?_⟩
 · intro u hu;have d3:=(List.getElem?_eq_some_iff.1 hu).1;rw [cell_of_row w b _ _ e (0,0) h3,o];simp only [List.getElem?_toArray];rw [Bq,List.getElem?_append_right bH3,hl,show i * r.n + j - i * r.n=j by omega,Bq,List.getElem?_append_left bH3];exact hu
 intro w' u y T hw hy hT hby
 have al:∀ k,T k->k≠b:=λk hk q=>by
   subst q;rcases hT _ hk with t | t
   · exact (hB _ t).2 rfl
   · exact t h6
 have hb':w'.heap[b]?=some (.cells cur e (0,0)):=(hw b h6 (λt=>(hB b t).2 rfl)).trans h3
 subst o
 have ag:=heap_setCell_same w' b (i * r.n + j) _ e u hb'
 refine ⟨?_,.inr ⟨b,cap,_,c1++(c.set j u++c2),tl,by rw [Ar],by rw [Ar];exact h1,h2,ag,?_,?_,.inl h6,?_⟩⟩
 · exact iX
 · exact iY
 · simpa using h5
 have I:∀ k,k≠b->(w'.setCell ⟨b,i * r.n + j,none⟩ u).heap[k]?=w'.heap[k]?:=λk hk=>heap_setCell_other w' ⟨b,i * r.n + j,none⟩ k u hk
 have keep:∀ {D:Nat->Prop},(∀ k,D k->S k/\k≠b)->(∀ k,D k->B k->False)->∀ k,D k->(w'.setCell ⟨b,i * r.n + j,none⟩ u).heap[k]?=w.heap[k]?:=λhD hx k hk=>(I k (hD k hk).2).trans (hw k (hD k hk).1 (λt=>hx k hk t))
 refine kVa (A:=A) (B:=T) (C:=C) hi (yI r1 (keep hA (λk a t=>(hd rfl k).1 a t))) (r.mono hy (λk hk=>I k (al k hk))) (yI G (keep hC (λk a t=>(hd rfl k).2.2 t a))) ?_ ?_ ?_ ?_
 · exact λk hk=>⟨.inl (hA k hk).1,(hA k hk).2⟩
 · exact λk hk=>⟨.inr hk,al k hk⟩
 · exact λk hk=>⟨.inl (hC k hk).1,(hC k hk).2⟩
 refine λ_ k=>⟨λa t=>?_,(hd rfl k).2.1,λt a=>?_⟩
 · rcases hT k t with q | q
   · exact (hd rfl k).1 a q
   exact q (hA k a).1
 rcases hT k t with q | q
 · exact (hd rfl k).2.2 q a
 exact q (hC k a).1
end
end kD
def kGp:kD kF:=kD.pair kN (kD.pair (kD.kPa 91 kM) kD.int)
def pend_to {w:Ab} {cs:Aj Ah} {x:kF} {S:Nat->Prop} (h:kGp.is true w cs x S):kH.is true w cs x S:=by
 obtain ⟨c,d,A,B,rfl,h1,⟨c2,d2,A2,X,rfl,h2,h3,k1,k2,k3⟩,k4,k5,k6⟩:=h;exact ⟨c,c2++d2,A,B,rfl,h1,⟨c2,d2,A2,X,rfl,h2.1,h3,k1,k2,k3⟩,k4,k5,k6⟩
def kHa {w:Ab} {v:Ah} {l:Aj kF} {S:Nat->Prop} {e:Bu} (h:kD.kQ e kGp w v l S):kD.kQ e kH w v l S :=
  kD.kQ.to (q:=kH) pend_to (λ_ h=>h) rfl h
def pend_part {e:Bu} {w:Ab} {b cap len k:Nat} {l:Aj kF} {S:Nat->Prop} (h:kD.kQ e kGp w (.slice (some ⟨b,0,none⟩) len cap) l S) (hk:k < l.length) :
    ∃ (ra:Option Addr) (rp:Nat) (B:Nat->Prop),Qc w b (k * 3 + 1) (.slice ra l[k].2.1.length rp)/\kD.kQ 91 kM w (.slice ra l[k].2.1.length rp) l[k].2.1 B/\(∀ j,B j->S j/\j≠b)/\w.frozen? ⟨b,k * 3 + 1,none⟩=false/\S b/\b < w.heap.size /\
      ∀ (w':Ab) (v':Ah) (o:Aj kU) (T:Nat->Prop),(∀ j,S j->¬ B j->w'.heap[j]?=w.heap[j]?)->kD.kQ 91 kM w' v' o T->(∀ j,T j->B j\/¬ S j)->o.length<=Big ->
        kD.kQ e kGp (w'.setCell ⟨b,k * 3 + 1,none⟩ v') (.slice (some ⟨b,0,none⟩) len cap) (l.set k (l[k].1,o,l[k].2.2)) (λj=>S j\/T j):=by
 have aa:=h.1 l[k] (List.getElem_mem hk)
 obtain ⟨cs,D,G,hD,Y,R,br,cm,ag⟩:=kD.own0_part h hk (j:=1) (p:=k * 3 + 1) bH2 rfl
 obtain ⟨c,d,A,B,rfl,h1,⟨c2,d2,A2,X,rfl,h2,h3,k1,k2,k3⟩,k4,k5,k6⟩:=G
 have dp:c.length=1:=kN.len h1
 obtain ⟨cn,rfl⟩:=List.length_eq_one_iff.1 dp
 obtain ⟨ra,ln,rp,rfl,rfl,H⟩:=h2.1
 have ho:=kD.own0_of (e:=91) (r:=kM) (w:=w) (v:=.slice ra l[k].2.1.length rp) (xs:=l[k].2.1) (S:=A2) ⟨h2,aa.2.1⟩
 refine ⟨ra,rp,A2,Y _ rfl,ho,λj hj=>hD j (k5 j (k1 j hj)),R,br,cm,?_⟩
 intro w' v' o T hw hv hT hl
 have F:∀ j,D j->¬ A2 j->w'.heap[j]?=w.heap[j]?:=λj hj hn=>hw j (hD j hj).1 hn
 have E:∀ j,T j->A j->False:=λj ht ha=>by
   rcases hT j ht with q | q
   · exact k6 rfl j ha (k1 j q)
   · exact q (hD j (k4 j ha)).1
 refine (ag w' v' (l[k].1,o,l[k].2.2) (λj=>A j\/T j) (λj hs hn=>hw j hs (λq=>hn (k5 j (k1 j q)))) ?_ ?_ ⟨aa.1,(hv.own0h hl).2,trivial⟩).wide ?_
 · refine ⟨[cn],v' :: d2,A,T,rfl,kN.mono h1 (λj hj=>F j (k4 j hj) (λq=>k6 rfl j hj (k1 j q))),?_,λj=>.inl,λj=>.inr,λ_ j a t=>E j t a⟩;exact ⟨[v'],d2,T,λ_=>False,rfl,(hv.own0h hl).1,h3,λj hj=>hj,λj hj=>hj.elim,λ_ j _ hj=>hj⟩
 · rintro j (hj | hj)
   · exact .inl (k4 j hj)
   rcases hT j hj with q | q
   · exact .inl (k5 j (k1 j q))
   exact .inr q
 rintro j (hj | hj | hj)
 · exact .inl hj
 · exact .inl (hD j (k4 j hj)).1
 exact .inr hj
def kRn {w:Ab} {va:Ah} {x:Aj kU} (ha:(kD.slice 91 kM).rd w [va] x):Bt prog 148 #[va] w (kBx 91 kM x w):=by
 obtain ⟨aa,ao,rfl,la⟩:=kD.sl ha.1;obtain ⟨HA,D⟩:=IW;cases aa with
 | none =>
   have hx:x=[]:=by
     cases x with
     | nil=>rfl
     | cons y ys =>
       exact aJ
   subst hx;clear ha;go_enter func148,ntmps148;go_wp2;go_ret;exact ⟨_,rfl,kD.kQ.void,bR⟩
 | some a =>
   have hb:x.length<=16777216:=ha.2.1;clear ha;go_enter func148,ntmps148;have O0:kD.kQ 91 kM (w.alloc (.cells #[] 91)) (.slice (some ⟨w.heap.size,0,none⟩) 0 0) [] (λk=>k=w.heap.size):=kD.yJ (cs:=[]) (xs:=[]) (T:=λ_=>False) bH4 bH4 rfl (λ_ h=>h.elim) rfl;go_wp2_with (at_builtin;refine kD.yT rfl _ _ 89 rfl (r:=kM) (e:=91) underlying89 yx rfl bH2 bH2 kDr (B:=w.heap.size) O0 bH5 bH5 (HA.out.alloc _) sG bH4 bG7 ?_);intro v2 V hown o hz;have I:=yD hown;obtain ⟨a2,c2,hv⟩:=hown.yw;obtain rfl:=hv;have EG:Qb w V:=Below.trans bI o;clear hown O0 o;go_wp2;go_ret;exact ⟨_,rfl,by simpa using I.out,EG⟩
def kQt {w:Ab} {vl:Ah} {l:Aj kF} (hl:(kD.slice 93 kH).rd w [vl] l) :
    Bt prog 72 #[vl] w (kBx 93 kGp l w):=by
 have HL:=yD hl
 obtain ⟨la,lp,rfl,ll⟩:=kD.sl hl.1
 have bc:l.length<=16777216:=hl.2.1
 clear hl
 go_enter func72,ntmps72
 go_wp2
 have O0:kD.kQ 93 kGp (w.alloc (.cells #[] 93)) (.slice (some ⟨w.heap.size,0,none⟩) 0 0) [] (jb w.heap.size (w.alloc (.cells #[] 93)).heap.size) :=
   kD.yJ (e:=93) (r:=kGp) (w:=w) (cs:=[]) (xs:=[]) (T:=λ_=>False) bH4 bH4 rfl (λ_ h=>h.elim) ⟨Nat.le_refl _,by simp⟩
 go_loopw [3,9] (λv i wr=>∃ k:Nat,k<=l.length/\i=.int .i64 k/\Hid (kD.kQ 93 kGp wr v (l.take k) (jb w.heap.size wr.heap.size))/\Qb w wr) (λ_ i _=>l.length - (intOf i).toNat)
 case atStart=>exact ⟨0,Nat.zero_le _,rfl,yD O0,bR.alloc nL _⟩
 clear O0
 obtain ⟨k,hk,rfl,I,o⟩:=hrel
 obtain ⟨oa,on,oc,ho,a1⟩:=I.out.parts;obtain rfl:=ho
 have f9:(l.take k).length<=k:=bG7
 by_cases hlt:k < l.length
 · obtain ⟨qb,qo,rfl,Y,ae,ah,qr,ap,aq,ay⟩:=kD.kAn (HL.out.1.below o) hlt rfl;obtain ⟨X,bx⟩:=y5;generalize l[k]=x at *;have b4:=yD bx;clear bx;obtain ⟨U,F,x2⟩:=x;obtain ⟨a6,bn,G,ag,ak,am,ar⟩:=jR qr;simp only [Aa,and_true] at G;obtain ⟨rfl,rfl,rfl⟩:=G;obtain ⟨ac,az,rfl,a8⟩:=kD.sl ak;obtain ⟨ai,bl,rfl,bt⟩:=kD.sl am;have ab:kN.rd wr _ U:=⟨ag,X.1⟩;have a3:(kD.slice 91 kM).rd wr _ F:=⟨am,X.2.1⟩;go_upto_region 5 with fail;generalize D:World.alloc wr _=wC;obtain ⟨EC,aw,M0⟩:=BJ;have M1:Qd wC wr 1 (.slice ai (F).length bl):=wG;have M2:Qd wC wr 2 (.int .i64 x2):=wG;clear D;have FX:=yD (λ(W:Ab) (hW:Qb wC W)=>kOb hW M0 M1 M2);refine jc (λW=>Qb wC W) [(0,true),(1,true),(2,true),(4,true),(5,true),(7,true),(8,true),(3,false),(6,false),(9,true),(10,false)] bG6 bG6 qY (bR.drew) ?_;intro wS E;simp only [jB,Ak,Ap,Ad,Ae,Az,Bh,Al,Aq,Ai,Au];iterate 7
    all_goals refine ky ?_
   all_goals first|(refine kJ rfl E ?_)|(refine kw rfl (λK H=>?_);go_simp;refine (yh (ab.below (tQ EC E))).mono ?_;rintro e a4 ⟨a5,rfl,N,al⟩;obtain ⟨af,rfl,L⟩:=kX N.raw;obtain ⟨ao,au,rfl,aj⟩:=kD.sl L;clear L;replace N:=yD N;have b8:=al.size;have a7:=E.size;replace E:=(tQ E al);refine H _ _ E ?_;clear H K al)
   all_goals refine jG ?_
   all_goals first|(refine kJ rfl E ?_)|(refine kw rfl (λK H=>?_);go_simp;refine (kRn (a3.below (tQ EC E))).mono ?_;rintro e ba ⟨bf,rfl,av,al⟩;obtain ⟨be,bd,rfl,_⟩:=kD.sl av.kBi;replace av:=yD av;have ch:=al.size;have bb:=E.size;replace N:=yD (N.out.below al);replace E:=(tQ E al);refine H _ _ E ?_;clear H K al)
   all_goals refine jG ?_
   all_goals refine ky ?_
   all_goals first|(refine kJ rfl E ?_)|(refine kw rfl (λK H=>?_);go_simp;refine H _ _ (E.alloc E.size _) ?_;clear H K)
   all_goals refine jG ?_
   all_goals refine yG ?_
   obtain ⟨a2,an,ax,Z,I,aa⟩:=BH;go_wp2_with (at_builtin;refine kD.jP rfl _ _ 28 rfl (r:=kGp) (e:=93) Bp yQ rfl bH2 bH2 (B:=w.heap.size) I.out bH5 bH5 rfl (kD.own.wide (T:=jb wr.heap.size ba.heap.size) (kD.jh (S:=jb (wS.heap.size) (ba.heap.size)) (N.out) (kD.yF (av.out.own0h a3.2.1) (kD.ku ar)) mV mV nX) mV) rfl nX rQ mV bH3 vG ?_);exact aO
 exact aR
def kDk (x:jF):Bool:=(((kAp x.1 && decide (0 < x.1.length)) && inR x.2.1 0 1000000) && inR x.2.2.1 0 16) && inR x.2.2.2 1 20
def kDj {w:Ab} {cx:Aj Ah} {x:jF} (hx:jO.raw w cx x) :
    Bt prog 35 #[.agg cx.toArray] w (bQ w (.bool (kDk x))):=by
 have Hx:=yD hx
 obtain ⟨al,rfl,O,R,Y,ac,Z⟩:=jY hx
 obtain ⟨X,G,rfl,ak⟩:=kD.sl R
 go_enter func35,ntmps35
 go_upto_region 1 with fail
 generalize J:World.alloc w _=N
 obtain ⟨EB,ae,I,F,o⟩:=GZ
 clear J
 have FX:=yD (λ(W:Ab) (hW:Qb N W)=>kEe hW ae I F o)
 refine kr (λW=>Qb N W) [Tt,Tt,Ff,Tt,Tt,Tt,Tt,Tt,Tt,Tt,Tt,Tt,Tt,Ff,Tt,Tt,Tt,Tt,Ff,Tt,Tt,Tt,Tt,Ff,Tt,Tt] bR ?_
 intro wS E
 all_goals refine ky ?_
 all_goals refine ky ?_
 all_goals first | refine wkB (yg (kD.raw.below O (tQ EB E))) (λwS1 E=>?_) | refine ky ?_
 all_goals (refine jy λb bh=>?_;cases b <;> try simp only [jw] at bh)
 iterate 6
  all_goals refine ky ?_
 all_goals (refine jy λb ad=>?_;cases b <;> try simp only [jw] at ad)
 all_goals refine ky ?_
 all_goals refine ky ?_
 all_goals first | refine wkC (yA) ?_ | refine ky ?_
 all_goals refine ky ?_
 all_goals (refine jy λb cz=>?_;cases b <;> try simp only [jw] at cz)
 all_goals refine ky ?_
 all_goals refine ky ?_
 all_goals first | refine wkC (yA) ?_ | refine ky ?_
 all_goals refine ky ?_
 all_goals (refine jy λb D=>?_;cases b <;> try simp only [jw] at D)
 all_goals refine ky ?_
 all_goals refine ky ?_
 all_goals first | refine wkC (yA) ?_ | refine ky ?_
 all_goals refine ky ?_
 all_goals (refine jy λb H=>?_;cases b <;> try simp only [jw] at H)
 all_goals refine kS ?_
 all_goals have EG:=(tQ EB E)
 all_goals first
   | (have L:=yD (show (kDk x)=false by simp only [kDk,Bb,Av,Bc,Bd,Aw,Ay,Bi,Bj,Be,Bf,Bl,bh,ad,cz,D,H]);go_wp2;go_ret;exact ⟨kW L.out.symm,EG⟩)
   | (have L:=yD (show (kDk x)=true by simp only [kDk,Bb,Av,Bc,Bd,Aw,Ay,Bi,Bj,Be,Bf,Bl,bh,ad,cz,D,H]);go_wp2;go_ret;exact ⟨kW L.out.symm,EG⟩)
def kDl {w:Ab} {cx:Aj Ah} {x:jF} (hx:jO.raw w cx x) :
    Bt prog 21 #[.agg cx.toArray] w (bQ w (.bool (kDk x))):=by
 have Hx:=yD hx
 obtain ⟨al,rfl,O,R,Y,ac,Z⟩:=jY hx
 obtain ⟨X,G,rfl,ak⟩:=kD.sl R
 go_enter func21,ntmps21
 go_upto_region 1 with fail
 generalize J:World.alloc w _=N
 obtain ⟨EB,ae,I,F,o⟩:=GZ
 clear J
 have FX:=yD (λ(W:Ab) (hW:Qb N W)=>kEe hW ae I F o)
 refine kr (λW=>Qb N W) [Tt,Tt,Ff,Tt,Tt,Tt,Tt,Tt,Tt,Tt,Tt,Tt,Tt,Ff,Tt,Tt,Tt,Tt,Ff,Tt,Tt,Tt,Tt,Ff,Tt,Tt] bR ?_
 intro wS E
 all_goals refine ky ?_
 all_goals refine ky ?_
 all_goals first | refine wkB (kUq (kD.raw.below O (tQ EB E))) (λwS1 E=>?_) | refine ky ?_
 all_goals (refine jy λb bh=>?_;cases b <;> try simp only [jw] at bh)
 iterate 6
  all_goals refine ky ?_
 all_goals (refine jy λb ad=>?_;cases b <;> try simp only [jw] at ad)
 all_goals refine ky ?_
 all_goals refine ky ?_
 all_goals first | refine wkC (kBj) ?_ | refine ky ?_
 all_goals refine ky ?_
 all_goals (refine jy λb cz=>?_;cases b <;> try simp only [jw] at cz)
 all_goals refine ky ?_
 all_goals refine ky ?_
 all_goals first | refine wkC (kBj) ?_ | refine ky ?_
 all_goals refine ky ?_
 all_goals (refine jy λb D=>?_;cases b <;> try simp only [jw] at D)
 all_goals refine ky ?_
 all_goals refine ky ?_
 all_goals first | refine wkC (kBj) ?_ | refine ky ?_
 all_goals refine ky ?_
 all_goals (refine jy λb H=>?_;cases b <;> try simp only [jw] at H)
 all_goals refine kS ?_
 all_goals have EG:=(tQ EB E)
 all_goals first
   | (have L:=yD (show (kDk x)=false by simp only [kDk,Bb,Av,Bc,Bd,Aw,Ay,Bi,Bj,Be,Bf,Bl,bh,ad,cz,D,H]);go_wp2;go_ret;exact ⟨kW L.out.symm,EG⟩)
   | (have L:=yD (show (kDk x)=true by simp only [kDk,Bb,Av,Bc,Bd,Aw,Ay,Bi,Bj,Be,Bf,Bl,bh,ad,cz,D,H]);go_wp2;go_ret;exact ⟨kW L.out.symm,EG⟩)
namespace kD
section
variable {α:Type} {r:kD α} {e:Bu} {w:Ab} {b cap len i j p:Nat} {xs:Aj α} {y:α} {u:Ah} {S T:Nat->Prop}
def jBo (h:kQ e r w (.slice (some ⟨b,0,none⟩) len cap) xs S) (hi:i < xs.length) (hj:j < r.n)
    (hy:∀ {cs:Aj Ah} {B:Nat->Prop},r.is true w cs xs[i] B->(∀ k,B k->S k)->r.is true w (cs.set j u) y (λk=>B k\/T k)) (hby:r.bdd Big y) (hST:∀ k,S k->T k->False) (hp:p=i * r.n + j) :
    kQ e r (w.setCell ⟨b,p,none⟩ u) (.slice (some ⟨b,0,none⟩) len cap) (xs.set i y) (λk=>S k\/T k)/\Touch (λk=>k=b) w (w.setCell ⟨b,p,none⟩ u):=by
 subst hp
 refine ⟨?_,zR [u] w b _⟩
 obtain ⟨hb,h⟩:=h
 rcases h with ⟨⟨a,h0⟩,rfl⟩|⟨b',cap',cur,cs,tl,h0,h1,h2,h3,h4,h5,h6,h7⟩
 · simp at hi
 simp only [Ac,Ag,Ba,and_true] at h0
 obtain ⟨rfl,rfl,rfl⟩:=h0
 obtain ⟨c1,c,c2,A,B,C,rfl,hl,r1,r2,G,hA,hB,hC,hd⟩:=kPb h7 hi
 have hc:=r.len r2
 have al:∀ k,T k->k≠b:=λk hk q=>hST k (q ▸ h6) hk
 have n2:=hy r2 (λk hk=>(hB k hk).1)
 have o:cur=((c1++(c++c2))++tl).toArray:=bH1
 subst o
 have ag:=heap_setCell_same w b (i * r.n + j) _ e u h3
 refine ⟨?_,.inr ⟨b,cap,_,c1++(c.set j u++c2),tl,by rw [Ar],by rw [Ar];exact h1,h2,ag,?_,?_,.inl h6,?_⟩⟩
 · exact iX
 · exact iY
 · simpa using h5
 have I:∀ k,k≠b->(w.setCell ⟨b,i * r.n + j,none⟩ u).heap[k]?=w.heap[k]?:=λk hk=>heap_setCell_other w ⟨b,i * r.n + j,none⟩ k u hk
 have mono:∀ {cs:Aj Ah} {ys:Aj α} {D:Nat->Prop},row r true w cs ys D->(∀ k,D k->k≠b)->row r true (w.setCell ⟨b,i * r.n + j,none⟩ u) cs ys D:=λhr hk=>yI hr (λk hd=>I k (hk k hd))
 refine kVa (A:=A) (B:=λk=>B k\/T k) (C:=C) hi (mono r1 (λk hk=>(hA k hk).2)) (r.mono n2 (λk hk=>I k (hk.elim (λq=>(hB k q).2) (al k)))) (mono G (λk hk=>(hC k hk).2)) ?_ ?_ ?_ ?_
 · exact λk hk=>⟨.inl (hA k hk).1,(hA k hk).2⟩
 · exact λk hk=>hk.elim (λq=>⟨.inl (hB k q).1,(hB k q).2⟩) (λq=>⟨.inr q,al k q⟩)
 · exact λk hk=>⟨.inl (hC k hk).1,(hC k hk).2⟩
 exact λ_ k=>⟨λa q=>q.elim ((hd rfl k).1 a) (λt=>hST k (hA k a).1 t),(hd rfl k).2.1,λq c=>q.elim (λb=>(hd rfl k).2.2 b c) (λt=>hST k (hC k c).1 t)⟩
end
end kD
end Go.Proofs.YtjhfdpopkkmigabGreat
namespace Go.Proofs.YtjhfdpopkkmigabGreat
open Go Go.RowKit _root_.Go.Proofs.Tryz
section
variable {P:Program} {l:Aj Oper} {S:Ab->Prop} {Q:Exit->Act->Ab->Prop} {fuel:Nat} {listed:Aj Bool} {a:Act} {w:Ab}
@[irreducible] def tree (P:Program) (l:Aj Oper) (S:Ab->Prop) (Q:Exit->Act->Ab->Prop) (fuel:Nat) (listed:Aj Bool) (a:Act) (w:Ab):Prop:=wpAnyH P .any l.toArray Q S fuel listed.toArray a w
def kWt (k:Nat):listed.toArray.setIfInBounds k true=(listed.set k true).toArray:=by simp
def yP {id:Nat} (S:Ab->Prop) (hm:P.follows .mixedOrders=true) (hS:S { w with drawn:=w.drawn + 1 })
    (h:∀ w',S w'->tree P l S Q l.length (List.replicate l.length false) a w'):(Code.region id l.toArray true).wp P Q a w:=by
 have h:=h _ hS
 exact aB
def kDv {id:Nat} (S:Ab->Prop) (hm:P.follows .mixedOrders=true) (hS:S { w with drawn:=w.drawn + 1 })
    (h:∀ w',w'=w.drew->S w'->tree P l S Q l.length (List.replicate l.length false) a w'):(Code.region id l.toArray true).wp P Q a w:=by
 have h:=h _ rfl hS
 exact aB
def kJe {k:Nat} {o:Oper} {v:Ah} (h0:l[k]?=some o) (hc:(Region.noSelect l.toArray && (Region.free .any l.toArray listed.toArray k && (Bo .any l.toArray listed.toArray).contains k))=true)
    (hQ:∀ c a d v w,Q (.panic c) (Act.put a d v) w->Q (.panic c) a w) (hg:Am o (Br l.toArray a.tmps)=true) (hS:S w)
    (hv:∀ w,S w->(execOp a.eval o).run P w=.ok (.value v) w) (h:tree P l S Q fuel (listed.set k true) (a.put o.dst v) w):tree P l S Q (fuel + 1) listed a w:=by
 unfold tree at h ⊢
 simp only [Bool.and_eq_true] at hc
 rw [<- kWt] at h
 exact wpAnyH_take bE9 hc.1 hc.2.1 hc.2.2 (λc a w=>hQ c a _ _ w) (.inl ⟨hg,hv⟩) hS h
def kL (k : Nat) {q : Prop} {o : Oper} {v : Value} (c : q) (h0 : l[k]? = some o := by rfl) (hc : (Region.noSelect l.toArray && (Region.free .any l.toArray listed.toArray k && (Region.ready .any l.toArray listed.toArray).contains k)) = true := by kernel_rfl)
    (hQ:∀ c a d v w,Q (.panic c) (Act.put a d v) w->Q (.panic c) a w:=by exact λc a d v w h=>by cases d <;> exact h) (hg:Region.wanted o (yielded l.toArray a.tmps)=true:=by rfl) (hS:S w:=by exact E)
    (hv:∀ w,S w->(execOp a.eval o).run P w=.ok (.value v) w:=by intro W hW;(try have A:=FX.out W hW);clear hW;go_simp;try with_reducible rfl)
    (hp:Hid q->tree P l S Q fuel (listed.set k true) (a.put o.dst v) w:=by intro kq;(try simp only [Act.put,zA,zB,zC]);exact kq.out):tree P l S Q (fuel + 1) listed a w:=kJe h0 hc hQ hg hS hv (hp (yD c))
def kNb {k:Nat} {o:Oper} (h0:l[k]?=some o) (hg:Am o (Br l.toArray a.tmps)=true)
    (h:∀ K:Act->Ab->Prop,(∀ a' w',S w'->tree P l S Q fuel (listed.set k true) a' w'->K a' w')->o.wp P a w K Q) :
    wpOp P l.toArray Q k (λa' w'=>S w'/\wpAnyH P .any l.toArray Q S fuel (listed.toArray.setIfInBounds k true) a' w') a w:=by
 unfold wpOp
 rw [show l.toArray[k]?=some o by simpa using h0]
 simp only [hg,if_true]
 refine .inl (h _ (λa' w' h1 h2=>⟨h1,?_⟩))
 unfold tree at h2
 rw [kWt]
 exact h2
def kP {k:Nat} {o:Oper} (h0:l[k]?=some o) (hr:(Bo .any l.toArray listed.toArray==[k])=true) (hg:Am o (Br l.toArray a.tmps)=true)
    (h:∀ K:Act->Ab->Prop,(∀ a' w',S w'->tree P l S Q fuel (listed.set k true) a' w'->K a' w')->o.wp P a w K Q):tree P l S Q (fuel + 1) listed a w:=by
 unfold tree
 refine wpAnyH_all bF2 bH4 ?_
 intro j hj
 obtain rfl:j=k:=bD9
 exact kNb h0 hg h
def jr {i j:Nat} {V J:Oper} (hi:l[i]?=some V) (hj:l[j]?=some J) (hr:(Bo .any l.toArray listed.toArray==[i,j])=true) (D:Am V (Br l.toArray a.tmps)=true) (o:Am J (Br l.toArray a.tmps)=true)
    (h1:∀ K:Act->Ab->Prop,(∀ a' w',S w'->tree P l S Q fuel (listed.set i true) a' w'->K a' w')->V.wp P a w K Q)
    (h2:∀ K:Act->Ab->Prop,(∀ a' w',S w'->tree P l S Q fuel (listed.set j true) a' w'->K a' w')->J.wp P a w K Q):tree P l S Q (fuel + 1) listed a w:=by
 unfold tree
 refine wpAnyH_all bF2 bH4 ?_
 intro k hk
 rcases List.mem_cons.1 hk with rfl | hk
 · exact kNb hi D h1
 obtain rfl:k=j:=bE2
 exact kNb hj o h2
def jg (hr:(Bo .any l.toArray listed.toArray==[])=true) (h:Q .normal a w):tree P l S Q fuel listed a w:=by
 unfold tree;exact wpAnyH_done bF2 h fuel
end
end Go.Proofs.YtjhfdpopkkmigabGreat
