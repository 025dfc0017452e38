/-
  An action that changes nothing.
-/
import Derived.Test.YthocbplmdjkifaaGreatSameN
import Derived.Test.YthocbplmdjkifaaGreatProcS
set_option linter.unusedVariables false
set_option linter.defProp false
set_option linter.unusedSimpArgs false
set_option linter.unnecessarySimpa false
set_option maxRecDepth 100000
set_option maxHeartbeats 8000000
open Bool renaming true->Tt,false->Ff
open Go renaming World->Aa,bodyPost_ret->Ad,heap_setCell_other->Ae,Value->Aj
open Bool renaming and_eq_true->Ab,not_false->Ag,and_false->Ah,false_and->Ai,not_true->Ak,and_true->Al,true_and->Am,or_false->Ap,false_or->Aq,or_true->Au,true_or->Av,not_not->Aw,or_eq_false_iff->Ay,not_eq_false'->Az,not_eq_true'->Ba
open _root_ renaming List->Ac
open Go.Act renaming put->Ar
open Go.Proofs.Tryz renaming underlying41->Bb
namespace Go.Proofs.YthocbplmdjkifaaGreat
open Go.RowKit _root_.Go.Proofs.Tryz
def From (W w:Aa):Prop:=Qb W w
def From.below {W w w':Aa} (h:From W w) (b:Qb w w'):From W w':=Below.trans h (b.mono (Below.size h))
def int_nm {w:Aa} {c0 c1 c2 c3:Aj} {x:jE} {S:Nat->Prop} (h:jM.jr w [c0,c1,c2,c3] x S):kR.jr w [c0] x.1 S:=by
 obtain ⟨a,d,he,h1,_⟩:=kD.kDx (r:=kR) (q:=.pair .int (.pair .int .int)) h;have R:=kR.len h1.1
 match a,R with
 | [v],_=>simp only [List.singleton_append,List.cons.injEq] at he;obtain ⟨rfl,_⟩:=he;exact h1
def int_form {w:Aa} {cs:Ac Aj} {x:jE} (h:jM.raw w cs x):∃ a c,cs=[.slice a x.1.length c,.int .i64 x.2.1,.int .i64 x.2.2.1,.int .i64 x.2.2.2]:=by
 obtain ⟨v,rfl,h0,h1,_⟩:=jY h;obtain ⟨a,c,rfl,_⟩:=kD.sl h1;exact ⟨a,c,rfl⟩
def jBw {w:Aa} {cs:Ac Aj} {n:jX} {l:Ac ji} {S:Nat->Prop} (h:kDe.own w cs (n,l) S) :
    ∃ a0 c0 a1 c1 a2 c2 a3 c3 a4 c4 a5 c5 oa oc,cs=[.slice a0 n.1.length c0,.int .i64 n.2.1.1,.slice a1 n.2.1.2.length c1,.slice a2 n.2.2.1.length c2,.slice a3 n.2.2.2.1.length c3,.slice a4 n.2.2.2.2.1.length c4,.slice a5 n.2.2.2.2.2.1.length c5,.int .i64 n.2.2.2.2.2.2,.slice oa l.length oc] /\
      jo.own w [Qs a0 n.1 c0,Qn n.2.1.1,Qs a1 n.2.1.2 c1,Qs a2 n.2.2.1 c2,Qs a3 n.2.2.2.1 c3,Qs a4 n.2.2.2.2.1 c4,Qs a5 n.2.2.2.2.2.1 c5,Qn n.2.2.2.2.2.2] n S/\(kD.slice 62 jO).own w [Qs oa l oc] l S:=by
 obtain ⟨a,d,A,B,he,h1,h2,hA,hB,_⟩:=kD.kDy (r:=jo) (q:=(kD.slice 62 jO)) h
 obtain ⟨a0,c0,a1,c1,a2,c2,a3,c3,a4,c4,a5,c5,rfl⟩:=kCu h1.raw
 obtain ⟨oa,oc,hd,_⟩:=kD.kAw h2.raw
 subst hd
 exact ⟨a0,c0,a1,c1,a2,c2,a3,c3,a4,c4,a5,c5,oa,oc,he,h1.wide hA,h2.wide hB⟩
def act_formR {w:Aa} {cs:Ac Aj} {n:jX} {l:Ac ji} (h:kDe.raw w cs (n,l)) :
    ∃ a0 c0 a1 c1 a2 c2 a3 c3 a4 c4 a5 c5 oa oc,cs=[.slice a0 n.1.length c0,.int .i64 n.2.1.1,.slice a1 n.2.1.2.length c1,.slice a2 n.2.2.1.length c2,.slice a3 n.2.2.2.1.length c3,.slice a4 n.2.2.2.2.1.length c4,.slice a5 n.2.2.2.2.2.1.length c5,.int .i64 n.2.2.2.2.2.2,.slice oa l.length oc]:=by
 obtain ⟨a,d,A,B,rfl,h1,h2,_⟩:=h
 obtain ⟨a0,c0,a1,c1,a2,c2,a3,c3,a4,c4,a5,c5,rfl⟩:=kCu (jo.wide h1 (λ_ _=>trivial))
 obtain ⟨oa,oc,hd,_⟩:=kD.kAw ((kD.slice 62 jO).wide h2 (λ_ _=>trivial))
 subst hd
 exact ⟨a0,c0,a1,c1,a2,c2,a3,c3,a4,c4,a5,c5,oa,oc,rfl⟩
def out_get {w:Aa} {a:Option Addr} {len cap:Nat} {l:Ac ji} {S:Nat->Prop} (h:(kD.slice 62 jO).own w [.slice a len cap] l S) {i:Nat} (hi:i < l.length) :
    ∃ b off,a=some ⟨b,off,none⟩/\∃ cs,jO.rd w cs l[i]/\∀ j c,cs[j]?=some c->Qc w b (off + i * 11 + j) c:=by
 obtain ⟨b,off,ha,cs,hr,hc⟩:=kD.kYg h.jr hi
 exact ⟨b,off,ha,cs,hr.rd,hc⟩
def out_form {w:Aa} {cs:Ac Aj} {g0:Int} {gb:Bool} {gn:ko} {gi gh gt:Int} {hn hk:ko} {hb:Ac UInt8} {hf hs:Int} (h:jO.raw w cs (g0,gb,(gn,gi,gh,gt),(hn,hb,hk,hf,hs))) :
    ∃ ga gc d0 hc0 ej dj fd eh,cs=[.int .i64 g0,.bool gb,.slice ga gn.length gc,.int .i64 gi,.int .i64 gh,.int .i64 gt,.slice d0 hn.length hc0,.slice ej hb.length dj,.slice fd hk.length eh,.int .i64 hf,.int .i64 hs]/\kR.raw w [Qs ga gn gc] gn/\kR.raw w [Qs d0 hn hc0] hn/\jF.raw w [Qs d0 hn hc0,Qs ej hb dj,Qs fd hk eh,Qn hf,Qn hs] (hn,hb,hk,hf,hs):=by
 obtain ⟨v2,v6,I,v8,rfl,o0,o1,o2,O,V,R,U,H,N,L,o,E,D,F,J⟩:=kCw h
 obtain ⟨ga,gc,rfl,_,ha,hc,rfl,_,ba,bc,rfl,_,ka,kc,rfl,_⟩:=kD.sx O (kD.sx L (kD.sx o (kD.sl D)))
 exact ⟨ga,gc,ha,hc,ba,bc,ka,kc,rfl,o2,N,H⟩
def jEh {α κ:Type} {P:α->Prop} {key:α->κ} {ok:Ac α->Nat->α->Bool} {d:α}
    (fi:∀ l k x,ok l k x=true↔P x/\∀ y∈l.take k,key y≠key x) {l:Ac α} :
    zN (λj=>ok l j (l.getD j d)) l.length=true↔(∀ p∈l,P p)/\l.Pairwise (λa b=>key a≠key b):=by
 rw [kUa]
 constructor
 · intro h;have hk:∀ k (hk:k < l.length),P l[k]/\∀ y∈l.take k,key y≠key l[k]:=by
    intro k hk;have q:=h k hk;rw [jb hk] at q;exact (fi _ _ _).1 q
   refine ⟨λp hp=>?_,List.pairwise_iff_getElem.2 (λi j hi I E=>?_)⟩
   · obtain ⟨k,hkl,rfl⟩:=List.getElem_of_mem hp;exact (hk k hkl).1
   exact (hk j I).2 _ (List.mem_take_iff_getElem.2 ⟨i,by omega,rfl⟩)
 rintro ⟨h1,h2⟩ k hk
 rw [jb hk]
 refine (fi _ _ _).2 ⟨h1 _ (List.getElem_mem hk),λy hy=>?_⟩
 exact o9
def idx_take {α:Type} {p:α->Bool} {l:Ac α}:(decide (idxOf p l ≥ 0)=false)↔∀ y∈l,p y=false:=by
 rw [decide_eq_false_iff_not,show (¬ idxOf p l ≥ 0)↔idxOf p l < 0 by omega,kLk]
def okCe_iff {l:Ac kr} {k:Nat} {x:kr}:kRu l k x=true↔kBk x.1=true/\∀ y∈l.take k,y.1.1≠x.1.1:=by
 unfold kRu;rw [Ba,Ay,idx_take,Az];simp [isC,eqN]
def okLoc_iff {l:Ac jQ} {k:Nat} {x:jQ}:kJm l k x=true↔kBk x=true/\∀ y∈l.take k,y.1≠x.1:=by
 unfold kJm;rw [Ba,Ay,idx_take,Az];simp [isD,eqN]
def kYr {x:kg}:kCi x=true↔((∀ e∈x.2,kBk e.1=true)/\x.2.Pairwise (λa b=>a.1.1≠b.1.1))/\inR x.1 0 8=true/\(x.2.length:Int)<=x.1:=by
 unfold kCi;rw [Ab,jEh (P:=λe:kr=>kBk e.1=true) (key:=λe:kr=>e.1.1) (λl k x=>okCe_iff),Ab,decide_eq_true_iff]
def kGh {x:jX}:kAy x=true↔((∀ d∈x.1,kBk d=true)/\x.1.Pairwise (λa b=>a.1≠b.1))/\x.1.length<=8/\kCi x.2.1=true/\kDf x.2.2.1=true/\kBw x.2.2.2.2.1=true/\kNw x.2.2.2.2.2.1=true/\x.2.2.2.1.length<=24/\0<=x.2.2.2.2.2.2:=by
 unfold kAy kWp;rw [Ab,jEh (P:=λd:jQ=>kBk d=true) (key:=λd:jQ=>d.1) (λl k x=>okLoc_iff)];simp only [Ab,decide_eq_true_eq];constructor
 · rintro ⟨a,⟨⟨⟨⟨⟨b,c⟩,d⟩,e⟩,f⟩,g⟩,h⟩;exact ⟨a,by omega,c,d,e,f,by omega,h⟩
 rintro ⟨a,b,c,d,e,f,g,h⟩;exact ⟨a,⟨⟨⟨⟨⟨by omega,c⟩,d⟩,e⟩,f⟩,by omega⟩,h⟩
def kHl.kOi {x:jX} (h:kHl x):kOi 1048576 x:=by
 obtain ⟨a,b,c,d,e,f,_⟩:=h;exact jFz bF2 bF2 (by have:=c.1;omega) rM (by have:=d.1;omega) bF2 bF2
def DrawnSi (w:Aa) (e:Ending) (w':Aa):Prop:=∃ ca a cs x,e=.returned (.tuple #[.agg ca.toArray,.agg cs.toArray])/\kDe.jr w' ca a (jg w w')/\jo.jr w' cs x (jg w w')/\Qb w w'
def kRo {w:Aa} {v:Aj} {ah:Ac UInt8} (Y:(kD.slice 5 kD.byte).raw w [v] ah) :
    Calls prog 8 #[v] w (DrawnSi w):=by
 obtain ⟨ca,cc,rfl,_⟩:=kD.sl Y
 go_enter func8,ntmps8
 go_upto_region 1 with fail
 refine kAe ?_
 intro w1 hb R RN bj
 have U:=hb
 clear hb
 go_wp2_with fail
 refine (kDq (Y.below U)).mono ?_
 rintro e w2 ⟨cs,x,f,cq,q,rfl,hO,hx,⟨ei,dr⟩,hq,es,⟨cg,ch⟩,hb⟩
 have bw:=hb.size
 replace R:=kC R hb
 replace RN:=kC RN hb
 replace U:=(tQ U hb)
 clear hb
 have ee:=yD hx.kOi
 clear hx es cg ch
 obtain ⟨a0,c0,a1,c1,a2,c2,a3,c3,a4,c4,a5,c5,rfl⟩:=kCu hO.rd.1
 obtain ⟨x0,⟨kc,xe⟩,x2,x3,x4,x5,x6⟩:=x
 have XO:=yD (show jo.jr _ [Qs a0 x0 c0,Qn kc,Qs a1 xe c1,Qs a2 x2 c2,Qs a3 x3 c3,Qs a4 x4 c4,Qs a5 x5 c5,Qn x6] (x0,(kc,xe),x2,x3,x4,x5,x6) _ from hO)
 clear hO
 obtain ⟨qa,qc,rfl⟩:=int_form hq.rd.1
 obtain ⟨qn,qi,qh,qt⟩:=q
 have QO:=yD (show jM.jr _ [Qs qa qn qc,Qn qi,Qn qh,Qn qt] (qn,qi,qh,qt) _ from hq)
 clear hq
 go_upto_region 2 with fail
 refine kAe ?_
 intro w3 hb BX BW bz
 replace R:=kC R hb
 replace RN:=kC RN hb
 obtain ⟨XO,QO⟩:=ES
 replace U:=(tQ U hb)
 clear hb
 refine kCn (λU_=>Touch (λk=>k=w.heap.size\/k=w.heap.size + 1) w3 U_) bE5 (Touch.of_below bR.drew) ?_
 intro t1 di E
 have bD:Qb w3 t1:=(by rw [di];exact bR.drew)
 replace R:=kC R bD
 replace RN:=kC RN bD
 have bf:=bD.size
 clear bD di
 refine kCr (k:=0) (v:=?_) rfl bE5 qW rfl E (λW hW=>?_) ?_
 rotate_left
 · have cv:=kE (hW.kC BX bF2) (j:=0) (v:=Qs a0 x0 c0) rfl;have dk:=kE (hW.kC BX bF2) (j:=1) (v:=.int .i64 kc) rfl;have dz:=kE (hW.kC BX bF2) (j:=2) (v:=Qs a1 xe c1) rfl;have d5:=kE (hW.kC BX bF2) (j:=3) (v:=Qs a2 x2 c2) rfl;have d4:=kE (hW.kC BX bF2) (j:=4) (v:=Qs a3 x3 c3) rfl;have el:=kE (hW.kC BX bF2) (j:=5) (v:=Qs a4 x4 c4) rfl;have eh:=kE (hW.kC BX bF2) (j:=6) (v:=Qs a5 x5 c5) rfl;have em:=kE (hW.kC BX bF2) (j:=7) (v:=.int .i64 x6) rfl;have e8:=kE (hW.kC BW bF2) (j:=0) (v:=Qs qa qn qc) rfl;have e7:=kE (hW.kC BW bF2) (j:=1) (v:=.int .i64 qi) rfl;have ep:=kE (hW.kC BW bF2) (j:=2) (v:=.int .i64 qh) rfl;have eq:=kE (hW.kC BW bF2) (j:=3) (v:=.int .i64 qt) rfl;clear hW;go_simp;try with_reducible rfl
 try simp only [Ar,zA,zB,zC]
 refine kCr (k:=1) (v:=?_) rfl bE5 qW rfl E (λW hW=>?_) ?_
 rotate_left
 · go_simp;try with_reducible rfl
 try simp only [Ar,zA,zB,zC]
 refine kCr (k:=2) (v:=?_) rfl bE5 qW rfl E (λW hW=>?_) ?_
 rotate_left
 · have cv:=kE (hW.kC BX bF2) (j:=0) (v:=Qs a0 x0 c0) rfl;have dk:=kE (hW.kC BX bF2) (j:=1) (v:=.int .i64 kc) rfl;have dz:=kE (hW.kC BX bF2) (j:=2) (v:=Qs a1 xe c1) rfl;have d5:=kE (hW.kC BX bF2) (j:=3) (v:=Qs a2 x2 c2) rfl;have d4:=kE (hW.kC BX bF2) (j:=4) (v:=Qs a3 x3 c3) rfl;have el:=kE (hW.kC BX bF2) (j:=5) (v:=Qs a4 x4 c4) rfl;have eh:=kE (hW.kC BX bF2) (j:=6) (v:=Qs a5 x5 c5) rfl;have em:=kE (hW.kC BX bF2) (j:=7) (v:=.int .i64 x6) rfl;have e8:=kE (hW.kC BW bF2) (j:=0) (v:=Qs qa qn qc) rfl;have e7:=kE (hW.kC BW bF2) (j:=1) (v:=.int .i64 qi) rfl;have ep:=kE (hW.kC BW bF2) (j:=2) (v:=.int .i64 qh) rfl;have eq:=kE (hW.kC BW bF2) (j:=3) (v:=.int .i64 qt) rfl;clear hW;go_simp;try with_reducible rfl
 try simp only [Ar,zA,zB,zC]
 refine kCr (k:=3) (v:=?_) rfl bE5 qW rfl E (λW hW=>?_) ?_
 rotate_left
 · go_simp;try with_reducible rfl
 try simp only [Ar,zA,zB,zC]
 refine kCr (k:=5) (v:=?_) rfl bE5 qW rfl E (λW hW=>?_) ?_
 rotate_left
 · have cv:=kE (hW.kC BX bF2) (j:=0) (v:=Qs a0 x0 c0) rfl;have dk:=kE (hW.kC BX bF2) (j:=1) (v:=.int .i64 kc) rfl;have dz:=kE (hW.kC BX bF2) (j:=2) (v:=Qs a1 xe c1) rfl;have d5:=kE (hW.kC BX bF2) (j:=3) (v:=Qs a2 x2 c2) rfl;have d4:=kE (hW.kC BX bF2) (j:=4) (v:=Qs a3 x3 c3) rfl;have el:=kE (hW.kC BX bF2) (j:=5) (v:=Qs a4 x4 c4) rfl;have eh:=kE (hW.kC BX bF2) (j:=6) (v:=Qs a5 x5 c5) rfl;have em:=kE (hW.kC BX bF2) (j:=7) (v:=.int .i64 x6) rfl;have e8:=kE (hW.kC BW bF2) (j:=0) (v:=Qs qa qn qc) rfl;have e7:=kE (hW.kC BW bF2) (j:=1) (v:=.int .i64 qi) rfl;have ep:=kE (hW.kC BW bF2) (j:=2) (v:=.int .i64 qh) rfl;have eq:=kE (hW.kC BW bF2) (j:=3) (v:=.int .i64 qt) rfl;clear hW;go_simp;try with_reducible rfl
 try simp only [Ar,zA,zB,zC]
 refine kU (k:=4) rfl bE5 rfl (λK H=>?_)
 go_simp
 refine (kFv (cx:=[.slice a0 x0.length c0,.int .i64 kc,.slice a1 xe.length c1,.slice a2 x2.length c2,.slice a3 x3.length c3,.slice a4 x4.length c4,.slice a5 x5.length c5,.int .i64 x6]) (XO.out.touch E pR).rd (f:=f) bF2 (cq:=[.slice qa qn.length qc,.int .i64 qi,.int .i64 qh,.int .i64 qt]) (QO.out.touch E pR).rd (t:=50) bF2 ee.out).mono ?_
 rintro e t2 ⟨cs,rfl,hO,hb⟩
 have ez:=hb.size
 replace R:=kC R hb
 replace RN:=kC RN hb
 replace E:=E.trans (Touch.of_below hb)
 clear hb
 obtain ⟨J,os,dd⟩:∃ J os,kCp (x0,(kc,xe),x2,x3,x4,x5,x6) f (qn,qi,qh,qt) 50=(J,os):=⟨_,_,rfl⟩
 rw [dd] at hO
 obtain ⟨ce,bn,dn,cm,dt,co,dq,du,dw,dl,dp,dm,oa,oc,rfl,_,_⟩:=jBw hO
 clear dd
 have HA:=yD (hO.jr)
 refine H _ _ E ?_
 clear H K
 try simp only [Ar,zA,zB,zC]
 refine kU (k:=6) rfl bE5 rfl (λK H=>?_)
 obtain ⟨cw,db,cz,de,eb,d3,ea,ed,ac⟩:=zM R
 obtain ⟨dc,c6,da,dg,d9,d7,ec,d8,ab⟩:=kCb R
 go_simp
 generalize o:World.setCell (World.setCell (World.setCell (World.setCell (World.setCell (World.setCell (World.setCell (World.setCell (World.setCell t2 _ _) _ _) _ _) _ _) _ _) _ _) _ _) _ _) _ _=t3
 have hT:Touch (λk=>k=w.heap.size) t2 t3:=(by rw [<- o];exact sT9)
 replace R:Qr t3 w #[Qs ce J.1 bn,Qn J.2.1.1,Qs dn J.2.1.2 cm,Qs dt J.2.2.1 co,Qs dq J.2.2.2.1 du,Qs dw J.2.2.2.2.1 dl,Qs dp J.2.2.2.2.2.1 dm,Qn J.2.2.2.2.2.2,Qs oa os oc] 43:=(by rw [<- o];exact kG (kG (kG (kG (kG (kG (kG (kG (kG (R) 0) 1) 2) 3) 4) 5) 6) 7) 8)
 have eu:=hT.size
 clear o cw dc db c6 cz da de dg eb d9 d3 d7 ea ec ed d8 ac ab
 replace RN:=hT.kC RN bF2
 replace HA:=yD (HA.out.touch hT pR)
 replace E:=E.trans (hT.wide (λk q=>.inl q))
 clear hT
 refine H _ _ E ?_
 clear H K
 try simp only [Ar,zA,zB,zC]
 refine kU (k:=7) rfl bE5 rfl (λK H=>?_)
 obtain ⟨cw,db,cz,de,eb,d3,ea,ed⟩:=yu RN
 obtain ⟨dc,c6,da,dg,d9,d7,ec,d8⟩:=kIo RN
 go_simp
 generalize o:World.setCell (World.setCell (World.setCell (World.setCell (World.setCell (World.setCell (World.setCell (World.setCell t3 _ _) _ _) _ _) _ _) _ _) _ _) _ _) _ _=t4
 have hT:Touch (λk=>k=w.heap.size + 1) t3 t4:=(by rw [<- o];exact sT8)
 replace RN:Qr t4 (w.heap.size + 1) (Qh a0 x0 c0 kc a1 xe c1 a2 x2 c2 a3 x3 c3 a4 x4 c4 a5 x5 c5 x6) 33:=(by rw [<- o];exact kG (kG (kG (kG (kG (kG (kG (kG (RN) 0) 1) 2) 3) 4) 5) 6) 7)
 have ad:=hT.size
 clear o cw dc db c6 cz da de dg eb d9 d3 d7 ea ec ed d8
 replace R:=hT.kC R bF2
 replace HA:=yD (HA.out.touch hT pR)
 replace E:=E.trans (hT.wide (λk q=>.inr (q)))
 clear hT
 refine H _ _ E ?_
 clear H K
 try simp only [Ar,zA,zB,zC]
 refine jv bE5 ?_
 obtain ⟨az,ay,a9,a6,a7,ax,aw,an,aa⟩:=zM R
 obtain ⟨D,V,X,Z,N,F,L,O⟩:=yu RN
 have zS:=E.size
 go_wp2
 refine Ad (v:=.tuple #[.agg #[Qs ce J.1 bn,Qn J.2.1.1,Qs dn J.2.1.2 cm,Qs dt J.2.2.1 co,Qs dq J.2.2.2.1 du,Qs dw J.2.2.2.2.1 dl,Qs dp J.2.2.2.2.2.1 dm,Qn J.2.2.2.2.2.2,Qs oa os oc],.agg (Qh a0 x0 c0 kc a1 xe c1 a2 x2 c2 a3 x3 c3 a4 x4 c4 a5 x5 c5 x6)]) (by simp [results,results8,go_sem,az,ay,a9,a6,a7,ax,aw,an,aa,D,V,X,Z,N,F,L,O]) rfl ⟨[Qs ce J.1 bn,Qn J.2.1.1,Qs dn J.2.1.2 cm,Qs dt J.2.2.1 co,Qs dq J.2.2.2.1 du,Qs dw J.2.2.2.2.1 dl,Qs dp J.2.2.2.2.2.1 dm,Qn J.2.2.2.2.2.2,Qs oa os oc],(J,os),[.slice a0 x0.length c0,.int .i64 kc,.slice a1 xe.length c1,.slice a2 x2.length c2,.slice a3 x3.length c3,.slice a4 x4.length c4,.slice a5 x5.length c5,.int .i64 x6],(x0,(kc,xe),x2,x3,x4,x5,x6),rfl,?_,?_,?_⟩
 · exact HA.out.wide (T:=jg w _) nK
 · exact (XO.out.touch E pR).wide (T:=jg w _) nK
 exact U.trans (E.below U.size bB6)
def rdB_fix {α:Type} {r:kD α} {e:TypeId} {w:Aa} {cs:Ac Aj} {xs:Ac α} {S:Nat->Prop} (h:(kD.slice e r).jr w cs xs S):(kD.slice e (kD.fix w S r)).rd w cs xs:=by
 obtain ⟨⟨a',E,cap',h0,h1,h2,h3,h4⟩,cv,N⟩:=h;refine ⟨⟨a',E,cap',h0,h1,h2,h3,?_⟩,cv,N⟩;rcases h4 with h4|⟨b,off,ha,cur,e',fr,p,c,q,hb,hc,hp,hl,hf,hS,hx⟩
 · exact .inl h4
 refine .inr ⟨b,off,ha,cur,e',fr,p,c,q,hb,hc,hp,hl,hf,trivial,?_⟩;have go:∀ {cells:Ac Aj} {ys:Ac α} {T:Nat->Prop},(∀ k,T k->S k)->kD.row r false w cells ys T->kD.row (kD.fix w S r) false w cells ys T:=by
  intro cells ys;induction ys generalizing cells with
  | nil=>intro T _ h;exact h
  | cons y ys ih =>
    rintro T hT ⟨c,d,A,B,g,g1,g2,hA,hB,hd⟩;exact ⟨c,d,A,B,g,r.wide g1 (λk hk=>hT k (hA k hk)),ih (λk hk=>hT k (hB k hk)) g2,hA,hB,hd⟩
 exact kD.yU (go (λk hk=>hk.1) hx) (λk hk=>⟨trivial,hk.2⟩)
def DrawnO (w0 w:Aa) (p:Nat) (e:Ending) (w':Aa):Prop:=∃ a c l,e=.returned (.slice a l.length c)/\(kD.slice 62 jO).own w' [Qs a l c] l (jg w w')/\l.length<=4/\ym w0 w' p/\Touch (λk=>k=p) w w'
def kKa {w0 w:Aa} {p:Nat} (hc:ym w0 w p) :
    Calls prog 48 #[.pointer (some ⟨p,0,none⟩)] w λe w'=>DrawnO w0 w p e w':=by
 go_enter func48,ntmps48
 obtain ⟨bh,br⟩:=hc.lt
 go_upto_region 2 with fail
 have OZ:=yD (kD.yR (e:=62) (r:=jO) (w:=w) (cs:=[]) (xs:=[]) (T:=λ_=>False) (S:=λk=>k=w.heap.size) bF3 bF3 rfl (λ_ h=>h.elim) rfl)
 generalize o:World.alloc w _=w1 at OZ ⊢
 have ar:Qb w w1:=tF
 have bj:w.heap.size + 1<=w1.heap.size:=bD6
 clear o
 have an:=yD (((OZ.out.own bF1).wide (T:=λq=>w.heap.size<=q/\q < w1.heap.size) (λj q=>⟨Nat.le_of_eq q.symm,by omega⟩)))
 clear OZ
 obtain ⟨hc,O⟩:=uZ
 clear ar
 go_wp2_with fail
 refine (kZ (n:=5) hc bF1).mono ?_
 rintro e w2 ⟨m,bc,bk,bq,rfl,F,D⟩
 have bw:=D.size
 replace an:=yD (an.out.touch D qV)
 replace O:=O.trans D
 clear hc D
 have hc:=F
 clear F
 replace bk:=bk bF1
 clear bq
 obtain ⟨m,rfl⟩:=Int.eq_ofNat_of_zero_le bc
 have O0:(kD.slice 62 jO).own w2 [.slice (some ⟨w,0,none⟩) ([]:Ac ji).length 0] [] (λq=>w.heap.size<=q/\q < w2.heap.size):=an.out.wide sS
 clear an
 go_wp2
 go_loopw [3,4] (λv i wr=>∃ (j:Nat) (a:Option Addr) (c:Nat) (l:Ac ji),v=.slice a l.length c/\i=.int .i64 j/\j<=4/\l.length + j<=4/\Hid ((kD.slice 62 jO).own wr [Qs a l c] l (λq=>w.heap.size<=q/\q < wr.heap.size))/\w2.heap.size<=wr.heap.size/\ym w0 wr p/\Touch (λk=>k=p) w wr) (λ_ i _=>(intOf i).toNat)
 case atStart=>exact ⟨m,_,0,[],rfl,rfl,by omega,bE6,yD O0,Nat.le_refl _,hc,O⟩
 clear hc O O0
 obtain ⟨j,a,c,l,rfl,rfl,I,a4,J,ch,hc,O⟩:=hrel
 cases j with
 | zero =>
   have ef:¬ (0:Int) < (0:Nat):=bF2;go_wp2;refine Ad (v:=Qs a l c) (by simp [results,results48,go_sem]) rfl ⟨a,c,l,rfl,J.out,by omega,hc,O⟩
 | succ j =>
   have c9:(0:Int) < (j:Int) + 1:=bF2;have az:=hc.lt.2;replace J:=yD (J.out.wide (T:=(λq=>w.heap.size<=q/\q < wr.heap.size)) (λ_ h=>h));go_wp2_with fail;refine (kZ (n:=3) hc bF1).mono ?_;rintro e w6 ⟨fa,a3,aq,ay,rfl,F,D⟩;have df:=D.size;obtain ⟨J,O⟩:=uS;clear hc D;have hc:=F;clear F;replace aq:=aq bF1;clear ay;go_upto_region 6 with fail;refine ja ?_;intro w7 aw BX eo;replace J:=yD (J.out.below aw);replace hc:=hc.below aw;replace O:=O.trans (Touch.of_below aw);clear aw;go_wp2_with fail;refine (yw (n:=2) hc bF1).mono ?_;rintro e w8 ⟨b_,rfl,F,D⟩;have d9:=D.size;replace BX:=D.kC BX bF2;obtain ⟨J,O⟩:=uS;clear hc D;have hc:=F;clear F;have a1:=hc.lt.2;have bo:¬ (w.heap.size<=p/\p < wr.heap.size):=bF2;cases b_
   · go_wp2_with fail;refine (kHr hc).mono ?_;rintro e w9 ⟨ds,y,rfl,hY,d1,F,D⟩;have et:=D.size;replace BX:=D.kC BX bF2;obtain ⟨J,O⟩:=uS;clear hc D;have hc:=F;clear F;obtain ⟨g4,au,hj,av,hd,ax,rfl⟩:=zo hY.raw;have HY:=yD (show jF.own _ (Qe g4 au hj av hd ax y) y (jg w8 w9) from hY);clear hY;obtain ⟨aa,ac,ae,ad,af,am,ao,ap,L,N,E⟩:=kKf BX;obtain ⟨ak,V,W,ai,X,ah,al,aj,ag,Y,R⟩:=rowF11 BX;go_upto_region 10 with fail;generalize o:World.setCell (World.setCell (World.setCell (World.setCell (World.setCell w9 _ _) _ _) _ _) _ _) _ _=cw;have a5:Touch (λk=>k=w6.heap.size) w9 cw:=bA7;replace BX:Qr cw w6 #[Qn fa,.bool false,.slice none 0 0,Qn 0,Qn 0,Qn 0,Qs g4 y.1 au,Qs hj y.2.1 av,Qs hd y.2.2.1 ax,Qn y.2.2.2.1,Qn y.2.2.2.2] 62:=by rw [<- o];exact kG (kG (kG (kG (kG (BX) 6) 7) 8) 9) 10
     have d8:=a5.size;clear o;replace J:=yD (J.out.touch a5 qV);replace HY:=yD (HY.out.touch a5 qV);replace hc:=hc.touch a5 bF2 bB6;replace O:=O.jJ a5 bF2;clear aa ac ae ad af am ao ap L N E ak V W ai X ah al aj ag Y R a5;obtain ⟨aa,ac,ae,ad,af,am,ao,ap,L,N,E⟩:=kKf BX;go_wp2_with (at_builtin;refine kD.zQ rfl _ _ 41 rfl (r:=jO) (e:=62) Bb kCg rfl bF1 bF1 (w:=cw) J.out bR (c:=1) (jAh bF2 HY.out) bF4 bF4 qC bF2 ?_);intro v2 c6 hQ db;have hT:Touch (λk=>w.heap.size<=k/\k < wr.heap.size) cw c6:=db.wide (λj q=>q.1);have e5:=hT.size;clear db;have bg:(l++[(fa,false,zI,y)]).length=l.length + 1:=bF3;generalize l++[(fa,false,zI,y)]=l2 at *;obtain ⟨a2,c2,rfl,_⟩:=kD.sl hQ.raw;have ab:=yD (hQ.wide (T:=(λq=>w.heap.size<=q/\q < c6.heap.size)) bM);exact eB
   · have aa:Qd w8 w6 0 (Qn fa):=kE BX rfl;have ac:Qd w8 w6 1 (.bool false):=kE BX rfl;have ae:Qd w8 w6 2 (.slice none 0 0):=kE BX rfl;have ad:Qd w8 w6 3 (Qn 0):=kE BX rfl;have af:Qd w8 w6 4 (Qn 0):=kE BX rfl;have am:Qd w8 w6 5 (Qn 0):=kE BX rfl;have ao:Qd w8 w6 6 (.slice none 0 0):=kE BX rfl;have ap:Qd w8 w6 7 (.slice none 0 0):=kE BX rfl;have L:Qd w8 w6 8 (.slice none 0 0):=kE BX rfl;have N:Qd w8 w6 9 (Qn 0):=kE BX rfl;have E:Qd w8 w6 10 (Qn 0):=kE BX rfl;obtain ⟨ak,V,W,ai,X,ah,al,aj,ag,Y,R⟩:=rowF11 BX;go_upto_region 8 with fail;generalize o:World.setCell w8 _ _=w9;have H:Touch (λk=>k=w6.heap.size) w8 w9:=wY;replace BX:Qr w9 w6 #[Qn fa,.bool true,.slice none 0 0,Qn 0,Qn 0,Qn 0,.slice none 0 0,.slice none 0 0,.slice none 0 0,Qn 0,Qn 0] 62:=by rw [<- o];exact kG BX 1
     have et:=H.size;clear o;replace J:=yD (J.out.touch H qV);replace hc:=hc.touch H bF2 bB6;replace O:=O.jJ H bF2;clear aa ac ae ad af am ao ap L N E ak V W ai X ah al aj ag Y R H;go_wp2_with fail;refine (kHs hc).mono ?_;rintro e cw ⟨ia,ic,ps,n,h,t,rfl,hr,bu,hn,hh,ht,F,D⟩;have d8:=D.size;replace BX:=D.kC BX bF2;obtain ⟨J,O⟩:=uS;clear hc D;have hc:=F;clear F;have HY:=yD (show jM.own _ [Qs ia ps ic,Qn n,Qn h,Qn t] (ps,n,h,t) (jg w9 cw) from jGa hr bF2 bF2 bF2);clear hr;obtain ⟨aa,ac,ae,ad,af,am,ao,ap,L,N,E⟩:=kKf BX;obtain ⟨ak,V,W,ai,X,ah,al,aj,ag,Y,R⟩:=rowF11 BX;go_upto_region 10 with fail;generalize o:World.setCell (World.setCell (World.setCell (World.setCell cw _ _) _ _) _ _) _ _=c6;have U:Touch (λk=>k=w6.heap.size) cw c6:=bA6;replace BX:Qr c6 w6 #[Qn fa,.bool true,Qs ia ps ic,Qn n,Qn h,Qn t,.slice none 0 0,.slice none 0 0,.slice none 0 0,Qn 0,Qn 0] 62:=by rw [<- o];exact kG (kG (kG (kG (BX) 2) 3) 4) 5
     have e5:=U.size;clear o;replace J:=yD (J.out.touch U qV);replace HY:=yD (HY.out.touch U qV);replace hc:=hc.touch U bF2 bB6;replace O:=O.jJ U bF2;clear aa ac ae ad af am ao ap L N E ak V W ai X ah al aj ag Y R U;obtain ⟨aa,ac,ae,ad,af,am,ao,ap,L,N,E⟩:=kKf BX;go_wp2_with (at_builtin;refine kD.zQ rfl _ _ 41 rfl (r:=jO) (e:=62) Bb kCg rfl bF1 bF1 (w:=c6) J.out bR (c:=1) (jAg bF2 HY.out) bF4 bF4 qC bF2 ?_);intro v2 dk hQ db;have hT:Touch (λk=>w.heap.size<=k/\k < wr.heap.size) c6 dk:=db.wide (λj q=>q.1);have fg:=hT.size;clear db;have bg:(l++[kJj (ps,n,h,t) fa]).length=l.length + 1:=bF3;generalize l++[kJj (ps,n,h,t) fa]=l2 at *;obtain ⟨a2,c2,rfl,_⟩:=kD.sl hQ.raw;have ab:=yD (hQ.wide (T:=(λq=>w.heap.size<=q/\q < dk.heap.size)) bM);exact eB
def DrawnOI (w:Aa) (e:Ending) (w':Aa):Prop:=∃ a c l k,e=.returned (.tuple #[.slice a l.length c,.int .i64 k])/\(kD.slice 62 jO).jr w' [Qs a l c] l (jg w w')/\l.length<=4/\(0<=k/\k<=3)/\Qb w w'
def DrawnOO (w:Aa) (e:Ending) (w':Aa):Prop:=∃ a c l a2 c2 m,e=.returned (.tuple #[.slice a l.length c,.slice a2 m.length c2])/\(kD.slice 62 jO).jr w' [Qs a l c] l (jg w w')/\(kD.slice 62 jO).jr w' [Qs a2 m c2] m (jg w w')/\Qb w w'
def kUt {w:Aa} {v:Aj} {ah:Ac UInt8} (Y:(kD.slice 5 kD.byte).raw w [v] ah) :
    Calls prog 9 #[v] w (DrawnOI w):=by
 obtain ⟨ca,cc,rfl,_⟩:=kD.sl Y
 go_enter func9,ntmps9
 go_wp2_with fail
 refine (kJh Y bR).mono ?_
 rintro e w1 ⟨p,rfl,hc,bh,L⟩
 have bj:=L.size
 have br:=hc.lt.2
 have O:Touch (λk=>k=p) w w1:=Touch.of_below (L)
 clear L
 go_wp2_with fail
 refine (kKa hc).mono ?_
 rintro e w2 ⟨a,c,l,rfl,hO,hl,F,D⟩
 have bw:=D.size
 replace O:=O.trans D
 clear hc D
 have hc:=F
 clear F
 have J:=yD (hO)
 clear hO
 go_wp2_with fail
 refine (kZ (n:=4) hc bF1).mono ?_
 rintro e w3 ⟨k,b9,ce,dt,rfl,F,D⟩
 have bz:=D.size
 obtain ⟨J,O⟩:=uS
 clear hc D
 have hc:=F
 clear F
 replace ce:=ce bF1
 clear dt
 go_wp2
 refine Ad (v:=.tuple #[.slice a l.length c,.int .i64 k]) (by simp [results,results9,go_sem]) rfl ⟨a,c,l,k,rfl,J.out.jr.wide nM,hl,by omega,O.below nL bB6⟩
def kKx {w:Aa} {v:Aj} {ah:Ac UInt8} (Y:(kD.slice 5 kD.byte).raw w [v] ah) :
    Calls prog 10 #[v] w (DrawnOO w):=by
 obtain ⟨ca,cc,rfl,_⟩:=kD.sl Y
 go_enter func10,ntmps10
 go_wp2_with fail
 refine (kJh Y bR).mono ?_
 rintro e w1 ⟨p,rfl,hc,bh,L⟩
 have bj:=L.size
 have br:=hc.lt.2
 have O:Touch (λk=>k=p) w w1:=Touch.of_below (L)
 clear L
 go_wp2_with fail
 refine (kKa hc).mono ?_
 rintro e w2 ⟨a,c,l,rfl,hO,hl,F,D⟩
 have bw:=D.size
 replace O:=O.trans D
 clear hc D
 have hc:=F
 clear F
 have J:=yD (hO)
 clear hO
 go_wp2_with fail
 refine (yw (n:=2) hc bF1).mono ?_
 rintro e w3 ⟨b_,rfl,F,D⟩
 have bz:=D.size
 obtain ⟨J,O⟩:=uS
 clear hc D
 have hc:=F
 clear F
 cases b_
 · go_wp2_with fail;refine (kKa hc).mono ?_;rintro e w4 ⟨ya,yc,yl,rfl,hO,H,F,D⟩;have b5:=D.size;obtain ⟨J,O⟩:=uS;clear hc D;have hc:=F;clear F;have HY:=yD (hO);clear hO;go_wp2;refine Ad (v:=.tuple #[.slice a l.length c,.slice ya yl.length yc]) (by simp [results,results10,go_sem]) rfl ⟨a,c,l,ya,yc,yl,rfl,J.out.jr.wide nM,HY.out.jr.wide nM,O.below nL bB6⟩
 have O0:kD.kY 62 (kD.fix w3 (jg w1 w2) jO) (w3.alloc (.cells #[] 62)) (.slice (some ⟨w3,0,none⟩) 0 0) [] (λk=>k=w3.heap.size):=kD.yR (cs:=[]) (xs:=[]) (T:=λ_=>False) bF3 bF3 rfl (λ_ h=>h.elim) rfl
 go_wp2_with (at_builtin;refine kD.yh rfl _ _ 41 rfl (r:=kD.fix w3 (jg w1 w2) jO) (e:=62) Bb kCg rfl (show 0 < 11 by decide) bF1 kD.fix_flat (B:=w3.heap.size) O0 bF4 bF4 ((rdB_fix J.out.jr).alloc _) rY bF3 bE6 ?_)
 intro v2 w4 hQ hb E
 replace hb:=Below.trans ((bR.alloc nL _):Qb w3 _) hb
 have b5:=hb.size
 have o:=kD.kY.unfix (T:=jg w w4) hQ bB1 (λk hk hl=>hb.block k hl) (λk q=>⟨by have:=q.1;omega,q.2⟩) nM
 have HQ:=yD o
 clear hQ o O0
 replace J:=yD (J.out.below hb)
 obtain ⟨hc,O⟩:=uT
 clear hb
 obtain ⟨a2,c2,rfl,_⟩:=kD.sl HQ.out.rd.1
 go_wp2
 refine Ad (v:=.tuple #[.slice a l.length c,.slice a2 l.length c2]) (by simp [results,results10,go_sem]) rfl ⟨a,c,l,a2,c2,l,rfl,J.out.jr.wide nM,HQ.out,O.below nL bB6⟩
def kBm {α β:Type} {r:kD α} {q:kD β} {w:Aa} {cs ds:Ac Aj} {x:α} {y:β} (h:r.raw w cs x) (k:q.raw w ds y):(kD.pair r q).raw w (cs++ds) (x,y) :=
  ⟨cs,ds,λ_=>True,λ_=>True,rfl,h,k,λ_ _=>trivial,λ_ _=>trivial,λh=>Bool.noConfusion h⟩
def kSe (a:kBx) (y:jX):jX:=(a.1.1,a.1.2.1,a.1.2.2.1,a.1.2.2.2.1,a.1.2.2.2.2.1,a.1.2.2.2.2.2.1,y.2.2.2.2.2.2)
def silent (a:kBx) (y:jX):Bool:=decide (a.2.length=0) && decide (kSe a y=y)
def jDk {a:kBx} {y:jX} (h:¬ a.2.length=0):silent a y=false:=by unfold silent;rw [decide_eq_false h];rfl
def kZt {a:kBx} {y:jX} (h:a.2.length=0):silent a y=decide (kSe a y=y):=by unfold silent;rw [decide_eq_true h];rfl
def kZm {w:Aa} {ca:Ac Aj} {a:kBx} (ha:kDe.raw w ca a) {cy:Ac Aj} {y:jX} (hy:jo.raw w cy y) :
    Calls prog 16 #[.agg ca.toArray,.agg cy.toArray] w (bQ w (.bool (silent a y))):=by
 have Ha:=yD ha
 obtain ⟨cf,b0,b9,cd,bx,cg,ck,rfl,bg,am,a6,bd,a4,ay,av,au,an,bi,az⟩:=kEv ha
 obtain ⟨Y,aj,rfl,ce,ai,af,rfl,ch,ae,I,rfl,cl,ag,ac,rfl,bv,V,ab,rfl,bw,J,H,rfl,cc,a2,a3,rfl,bz⟩:=kD.sx am (kD.sx a4 (kD.sx ay (kD.sx av (kD.sx au (kD.sx an (kD.sl az))))))
 have Hy:=yD hy
 obtain ⟨a8,bu,b7,b4,b6,b2,rfl,aa,ad,ah,ak,al,ao,aw,ax,bh⟩:=yO hy
 obtain ⟨aq,ap,rfl,ba,a7,a9,rfl,bt,bp,bk,rfl,b3,bl,bn,rfl,b5,bo,bq,rfl,b8,bc,bf,rfl,b1⟩:=kD.sx aa (kD.sx ak (kD.sx al (kD.sx ao (kD.sx aw (kD.sl ax)))))
 obtain ⟨br,bb,bm⟩:=AA
 generalize kSe a y=N at *
 have bj:=Hy
 clear Ha Hy ha hy bg am a6 bd a4 ay av au an bi az aa ad ah ak al ao aw ax bh
 go_enter func16,ntmps16
 go_upto_region 2 with fail
 generalize R:World.alloc (World.alloc (World.alloc w _) _) _=U
 have Z:Qb w U:=by rw [<- R];exact bI
 have be:U.heap.size=w.heap.size + 3:=bD4
 have XA:Qr U w #[Qs Y a.1.1 aj,Qn a.1.2.1.1,Qs ai a.1.2.1.2 af,Qs ae a.1.2.2.1 I,Qs ag a.1.2.2.2.1 ac,Qs V a.1.2.2.2.2.1 ab,Qs J a.1.2.2.2.2.2.1 H,Qn a.1.2.2.2.2.2.2,Qs a2 a.2 a3] 43:=sF
 have XY:Qr U (w.heap.size + 1) (Qh aq y.1 ap y.2.1.1 a7 y.2.1.2 a9 bp y.2.2.1 bk bl y.2.2.2.1 bn bo y.2.2.2.2.1 bq bc y.2.2.2.2.2.1 bf y.2.2.2.2.2.2) 33:=by rw [<- R];exact jh (jD bF3)
 have XB:Qr U (w.heap.size + 1 + 1) (Qh Y a.1.1 aj a.1.2.1.1 ai a.1.2.1.2 af ae a.1.2.2.1 I ag a.1.2.2.2.1 ac V a.1.2.2.2.2.1 ab J a.1.2.2.2.2.2.1 H a.1.2.2.2.2.2.2) 33:=by rw [<- R];exact jD bF3
 clear R
 have Y7:=kE (b:=w.heap.size + 1) XY (j:=7) (v:=.int .i64 y.2.2.2.2.2.2) rfl
 have B7:=kE (b:=w.heap.size + 1 + 1) XB (j:=7) (v:=.int .i64 a.1.2.2.2.2.2.2) rfl
 have Z7:=frozen_of_row U (w.heap.size + 1 + 1) 7 _ _ XB
 go_upto_region 3 with fail
 generalize O:World.setCell U _ _=wC
 have EC:Qb w wC:=by rw [<- O];exact Z.setCell qM _
 have o:Qr wC (w.heap.size + 1 + 1) (Qh Y a.1.1 aj a.1.2.1.1 ai a.1.2.1.2 af ae a.1.2.2.1 I ag a.1.2.2.2.1 ac V a.1.2.2.2.2.1 ab J a.1.2.2.2.2.2.1 H y.2.2.2.2.2.2) 33:=by
  rw [<- O];have y0:=heap_setCell_same _ (w.heap.size + 1 + 1) 7 _ 33 (Qn y.2.2.2.2.2.2) XB;exact y0
 have F:Qr wC (w.heap.size + 1) (Qh aq y.1 ap y.2.1.1 a7 y.2.1.2 a9 bp y.2.2.1 bk bl y.2.2.2.1 bn bo y.2.2.2.2.1 bq bc y.2.2.2.2.2.1 bf y.2.2.2.2.2.2) 33:=by rw [<- O];exact (Ae _ ⟨w.heap.size + 1 + 1,7,none⟩ (w.heap.size + 1) _ (show w.heap.size + 1≠w.heap.size + 1 + 1 by omega)).trans XY
 have ar:Qr wC w #[Qs Y a.1.1 aj,Qn a.1.2.1.1,Qs ai a.1.2.1.2 af,Qs ae a.1.2.2.1 I,Qs ag a.1.2.2.2.1 ac,Qs V a.1.2.2.2.2.1 ab,Qs J a.1.2.2.2.2.2.1 H,Qn a.1.2.2.2.2.2.2,Qs a2 a.2 a3] 43:=by rw [<- O];exact (Ae _ ⟨w.heap.size + 1 + 1,7,none⟩ (w.heap.size) _ (show w.heap.size≠w.heap.size + 1 + 1 by omega)).trans XA
 clear O Y7 B7 Z7 XB XY Z be XA
 have B0:=kE (b:=w.heap.size + 1 + 1) o (j:=0) (v:=Qs Y a.1.1 aj) rfl
 have B1:=kE (b:=w.heap.size + 1 + 1) o (j:=1) (v:=.int .i64 a.1.2.1.1) rfl
 have B2:=kE (b:=w.heap.size + 1 + 1) o (j:=2) (v:=Qs ai a.1.2.1.2 af) rfl
 have B3:=kE (b:=w.heap.size + 1 + 1) o (j:=3) (v:=Qs ae a.1.2.2.1 I) rfl
 have B4:=kE (b:=w.heap.size + 1 + 1) o (j:=4) (v:=Qs ag a.1.2.2.2.1 ac) rfl
 have B5:=kE (b:=w.heap.size + 1 + 1) o (j:=5) (v:=Qs V a.1.2.2.2.2.1 ab) rfl
 have B6:=kE (b:=w.heap.size + 1 + 1) o (j:=6) (v:=Qs J a.1.2.2.2.2.2.1 H) rfl
 have B7:=kE (b:=w.heap.size + 1 + 1) o (j:=7) (v:=.int .i64 y.2.2.2.2.2.2) rfl
 obtain ⟨Y0,Y1,Y2,Y3,Y4,Y5,Y6,Y7⟩:=xM
 have A8:=kE (b:=w.heap.size) ar (j:=8) (v:=Qs a2 a.2 a3) rfl
 clear o F ar
 by_cases hl:a.2.length=0
 · have X:=yD (bb.out hl);have hz:((a.2.length:Int)==0)=true:=bC0;clear hl bb bm;have FX:=yD (λ(W:Aa) (hW:Qb wC W)=>cLs17 hW B0 B1 B2 B3 B4 B5 B6 B7 Y0 Y1 Y2 Y3 Y4 Y5 Y6 Y7 A8);refine kL (λW=>Qb wC W) [Tt,Tt,Tt,Tt,Tt,Tt,Tt,Ff,Tt,Tt] bR ?_;intro wS E;all_goals ((iterate 4 refine kS ?_);refine jT λb a1=>?_;cases b <;> try simp only [jS] at a1)
   all_goals (refine kS ?_;refine kS ?_;(first | refine zi (kUq (kD.raw.below br.out (tQ EC E)) (kD.raw.below bj.out (tQ EC E))) (λwS1 E=>?_) | refine kS ?_);refine kS ?_;refine jT λb a5=>?_;cases b <;> try simp only [jS] at a5)
   all_goals (refine kM ?_;have D:=(tQ EC E))
   all_goals first
     | (have L:=yD (show silent a y=false by rw [X.out];simp only [Ak,Ag,Al,Am,Ah,Ai,Au,Av,Ap,Aq,Aw,a1,a5]);go_wp2;go_ret;exact ⟨kJ L.out.symm,D⟩)
     | (have L:=yD (show silent a y=true by rw [X.out];simp only [Ak,Ag,Al,Am,Ah,Ai,Au,Av,Ap,Aq,Aw,a1,a5]);go_wp2;go_ret;exact ⟨kJ L.out.symm,D⟩)
 have X:=yD (bm.out hl)
 have hz:((a.2.length:Int)==0)=false:=bC0
 clear hl bb bm
 have FX:=yD (λ(W:Aa) (hW:Qb wC W)=>cLs17 hW B0 B1 B2 B3 B4 B5 B6 B7 Y0 Y1 Y2 Y3 Y4 Y5 Y6 Y7 A8)
 refine kL (λW=>Qb wC W) [Tt,Tt,Tt,Tt,Tt,Tt,Tt,Ff,Tt,Tt] bR ?_
 intro wS E
 all_goals ((iterate 4 refine kS ?_);refine jT λb a1=>?_;cases b <;> try simp only [jS] at a1)
 all_goals (refine kS ?_;refine kS ?_;(first|(refine kI rfl E ?_)|(fail));refine jH ?_;refine kS ?_;refine jT λb a5=>?_;cases b <;> try simp only [jS] at a5)
 all_goals (refine kM ?_;have D:=(tQ EC E))
 all_goals first
   | (go_wp2;go_ret;exact ⟨kJ X.out.symm,D⟩)
def kIt {w:Aa} {ca:Ac Aj} {a:kBx} (ha:kDe.raw w ca a) {cy:Ac Aj} {y:jX} (hy:jo.raw w cy y) :
    Calls prog 15 #[.agg ca.toArray,.agg cy.toArray] w (bQ w (.bool (silent a y))):=by
 have Ha:=yD ha
 obtain ⟨cf,b0,b9,cd,bx,cg,ck,rfl,bg,am,a6,bd,a4,ay,av,au,an,bi,az⟩:=kEv ha
 obtain ⟨Y,aj,rfl,ce,ai,af,rfl,ch,ae,I,rfl,cl,ag,ac,rfl,bv,V,ab,rfl,bw,J,H,rfl,cc,a2,a3,rfl,bz⟩:=kD.sx am (kD.sx a4 (kD.sx ay (kD.sx av (kD.sx au (kD.sx an (kD.sl az))))))
 have Hy:=yD hy
 obtain ⟨a8,bu,b7,b4,b6,b2,rfl,aa,ad,ah,ak,al,ao,aw,ax,bh⟩:=yO hy
 obtain ⟨aq,ap,rfl,ba,a7,a9,rfl,bt,bp,bk,rfl,b3,bl,bn,rfl,b5,bo,bq,rfl,b8,bc,bf,rfl,b1⟩:=kD.sx aa (kD.sx ak (kD.sx al (kD.sx ao (kD.sx aw (kD.sl ax)))))
 obtain ⟨br,bb,bm⟩:=AA
 generalize kSe a y=N at *
 have bj:=Hy
 clear Ha Hy ha hy bg am a6 bd a4 ay av au an bi az aa ad ah ak al ao aw ax bh
 go_enter func15,ntmps15
 go_upto_region 1 with fail
 generalize R:World.alloc (World.alloc w _) _=U
 have Z:Qb w U:=by rw [<- R];exact bI
 have be:U.heap.size=w.heap.size + 2:=bD4
 have XB:Qr U w #[Qs Y a.1.1 aj,Qn a.1.2.1.1,Qs ai a.1.2.1.2 af,Qs ae a.1.2.2.1 I,Qs ag a.1.2.2.2.1 ac,Qs V a.1.2.2.2.2.1 ab,Qs J a.1.2.2.2.2.2.1 H,Qn a.1.2.2.2.2.2.2,Qs a2 a.2 a3] 43:=vG
 have XY:Qr U (w.heap.size + 1) (Qh aq y.1 ap y.2.1.1 a7 y.2.1.2 a9 bp y.2.2.1 bk bl y.2.2.2.1 bn bo y.2.2.2.2.1 bq bc y.2.2.2.2.2.1 bf y.2.2.2.2.2.2) 33:=by rw [<- R];exact jD bF3
 clear R
 have Y7:=kE (b:=w.heap.size + 1) XY (j:=7) (v:=.int .i64 y.2.2.2.2.2.2) rfl
 have B7:=kE (b:=w.heap.size) XB (j:=7) (v:=.int .i64 a.1.2.2.2.2.2.2) rfl
 have Z7:=frozen_of_row U (w.heap.size) 7 _ _ XB
 go_upto_region 2 with fail
 generalize O:World.setCell U _ _=wC
 have EC:Qb w wC:=by rw [<- O];exact Z.setCell qM _
 have o:Qr wC w #[Qs Y a.1.1 aj,Qn a.1.2.1.1,Qs ai a.1.2.1.2 af,Qs ae a.1.2.2.1 I,Qs ag a.1.2.2.2.1 ac,Qs V a.1.2.2.2.2.1 ab,Qs J a.1.2.2.2.2.2.1 H,Qn y.2.2.2.2.2.2,Qs a2 a.2 a3] 43:=by
  rw [<- O];have y0:=heap_setCell_same _ (w.heap.size) 7 _ 43 (Qn y.2.2.2.2.2.2) XB;exact y0
 have F:Qr wC (w.heap.size + 1) (Qh aq y.1 ap y.2.1.1 a7 y.2.1.2 a9 bp y.2.2.1 bk bl y.2.2.2.1 bn bo y.2.2.2.2.1 bq bc y.2.2.2.2.2.1 bf y.2.2.2.2.2.2) 33:=by rw [<- O];exact (Ae _ ⟨w,7,none⟩ (w.heap.size + 1) _ (show w.heap.size + 1≠w.heap.size by omega)).trans XY
 clear O Y7 B7 Z7 XB XY Z be
 have B0:=kE (b:=w.heap.size) o (j:=0) (v:=Qs Y a.1.1 aj) rfl
 have B1:=kE (b:=w.heap.size) o (j:=1) (v:=.int .i64 a.1.2.1.1) rfl
 have B2:=kE (b:=w.heap.size) o (j:=2) (v:=Qs ai a.1.2.1.2 af) rfl
 have B3:=kE (b:=w.heap.size) o (j:=3) (v:=Qs ae a.1.2.2.1 I) rfl
 have B4:=kE (b:=w.heap.size) o (j:=4) (v:=Qs ag a.1.2.2.2.1 ac) rfl
 have B5:=kE (b:=w.heap.size) o (j:=5) (v:=Qs V a.1.2.2.2.2.1 ab) rfl
 have B6:=kE (b:=w.heap.size) o (j:=6) (v:=Qs J a.1.2.2.2.2.2.1 H) rfl
 have B7:=kE (b:=w.heap.size) o (j:=7) (v:=.int .i64 y.2.2.2.2.2.2) rfl
 have B8:=kE (b:=w.heap.size) o (j:=8) (v:=Qs a2 a.2 a3) rfl
 obtain ⟨Y0,Y1,Y2,Y3,Y4,Y5,Y6,Y7⟩:=xM
 clear o F
 by_cases hl:a.2.length=0
 · have X:=yD (bb.out hl);have hz:((a.2.length:Int)==0)=true:=bC0;clear hl bb bm;have FX:=yD (λ(W:Aa) (hW:Qb wC W)=>cLs17 hW B0 B1 B2 B3 B4 B5 B6 B7 B8 Y0 Y1 Y2 Y3 Y4 Y5 Y6 Y7);refine kL (λW=>Qb wC W) [Tt,Tt,Tt,Tt,Tt,Tt,Tt,Tt,Ff,Tt,Tt] bR ?_;intro wS E;all_goals ((iterate 4 refine kS ?_);refine jT λb a1=>?_;cases b <;> try simp only [jS] at a1)
   all_goals ((iterate 3 refine kS ?_);(first | refine zi (kVn (kD.raw.below br.out (tQ EC E)) (kD.raw.below bj.out (tQ EC E))) (λwS1 E=>?_) | refine kS ?_);refine kS ?_;refine jT λb ar=>?_;cases b <;> try simp only [jS] at ar)
   all_goals (refine kM ?_;have D:=(tQ EC E))
   all_goals first
     | (have L:=yD (show silent a y=false by rw [X.out];simp only [Ak,Ag,Al,Am,Ah,Ai,Au,Av,Ap,Aq,Aw,a1,ar]);go_wp2;go_ret;exact ⟨kJ L.out.symm,D⟩)
     | (have L:=yD (show silent a y=true by rw [X.out];simp only [Ak,Ag,Al,Am,Ah,Ai,Au,Av,Ap,Aq,Aw,a1,ar]);go_wp2;go_ret;exact ⟨kJ L.out.symm,D⟩)
 have X:=yD (bm.out hl)
 have hz:((a.2.length:Int)==0)=false:=bC0
 clear hl bb bm
 have FX:=yD (λ(W:Aa) (hW:Qb wC W)=>cLs17 hW B0 B1 B2 B3 B4 B5 B6 B7 B8 Y0 Y1 Y2 Y3 Y4 Y5 Y6 Y7)
 refine kL (λW=>Qb wC W) [Tt,Tt,Tt,Tt,Tt,Tt,Tt,Tt,Ff,Tt,Tt] bR ?_
 intro wS E
 all_goals ((iterate 4 refine kS ?_);refine jT λb a1=>?_;cases b <;> try simp only [jS] at a1)
 all_goals ((iterate 3 refine kS ?_);(first|(refine kI rfl E ?_)|(fail));refine jH ?_;refine kS ?_;refine jT λb ar=>?_;cases b <;> try simp only [jS] at ar)
 all_goals (refine kM ?_;have D:=(tQ EC E))
 all_goals first
   | (go_wp2;go_ret;exact ⟨kJ X.out.symm,D⟩)
end Go.Proofs.YthocbplmdjkifaaGreat
