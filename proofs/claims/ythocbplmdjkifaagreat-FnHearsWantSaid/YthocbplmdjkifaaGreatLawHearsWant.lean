/-
  The law FnHearsWant: an interest is answered, aggregated, or forwarded with a lower hop limit, never through its own face; a loop is stopped.
-/
import Derived.Test.YthocbplmdjkifaaGreatProcM
set_option linter.unusedVariables false
set_option linter.unusedSimpArgs false
set_option linter.unnecessarySimpa false
set_option maxRecDepth 100000
set_option maxHeartbeats 40000000
open Go renaming frozen_of_row->Aa,World->Aj
open List renaming getElem?_cons_succ->Ab,getElem?_cons_zero->Ac,drop_succ_cons->Ad,map_cons->Ae,map_nil->Ag,length_cons->Ah,cons_append->Ai
namespace Go.Proofs.YthocbplmdjkifaaGreat
open Go.RowKit _root_.Go.Proofs.Tryz
def cntK (l:List ji):Nat->Int
  | 0=>0
  | k + 1=>if (l.getD k (0,false,([],0,0,0),([],[],[],0,0))).2.1 then cntK l k + 1 else cntK l k
def cntI (l:List ji):Int:=cntK l l.length
theorem cntK_yes {l:List ji} {k:Nat} (h:k < l.length) (q:l[k].2.1=true):cntK l (k + 1)=cntK l k + 1:=by
 show (if _ then cntK l k + 1 else cntK l k)=_;rw [jb h,q];rfl
theorem cntK_no {l:List ji} {k:Nat} (h:k < l.length) (q:l[k].2.1=false):cntK l (k + 1)=cntK l k:=by
 show (if _ then cntK l k + 1 else cntK l k)=_;rw [jb h,q];rfl
theorem kNz {w:Aj} {vl:Value} {l:List ji} (hl:(kD.slice 62 jO).raw w [vl] l) :
    Calls prog 22 #[vl] w (bQ w (.int .i64 (cntI l))):=by
 obtain ⟨aa,al,rfl,la⟩:=kD.sl hl
 go_enter func22,ntmps22
 go_wp2
 go_loopw [3,4] (λn i wr=>∃ (k:Nat) (m:Int),k<=l.length/\i=.int .i64 k/\n=.int .i64 m/\Hid (cntK l k=m)/\0<=m/\m<=k/\Qb w wr) (λ_ i _=>l.length - (intOf i).toNat)
 case atStart=>exact ⟨0,0,Nat.zero_le _,rfl,rfl,yD rfl,Int.le_refl _,Int.le_refl _,bR⟩
 obtain ⟨k,m,hk,rfl,rfl,HM,bc,U,o⟩:=hrel
 by_cases hlt:k < l.length
 · obtain ⟨qb,qo,rfl,ac,ae,af,bt,bu,b3,c9,ce,cg,cw,bv,qr,ap,aq,au,a7,ba,bi,b8,b1,b9,cc,a8⟩:=kD.kWw (hl.below o) (i:=k) bF2 rfl;have hy:=λq=>cntK_yes hlt q;have hn:=λq=>cntK_no hlt q;generalize l[k]=x at *;have HY:=yD hy;have HX:=yD hn;clear hy hn;obtain ⟨x0,x1,x2,x3⟩:=x;obtain ⟨rfl,rfl,rfl,rfl,rfl,rfl,rfl,ah,aj,ak,aw,bj,bd,bp,bz,b2,a6,a4,bo,Z,bk,bf⟩:=kAr qr;obtain ⟨ao,bx,rfl,bw,cz,c7,rfl,cl,c6,cv,rfl,co,c8,c5,rfl,ch⟩:=kD.sx aw (kD.sx a6 (kD.sx a4 (kD.sl Z)));cases x1
   · have L:=yD ((HX.out rfl).trans HM.out);clear HX HY;refine Qg ?_;exact ⟨k + 1,m,by omega,by go_num,rfl,L,by omega,by omega,o⟩
   have L:=yD ((HY.out rfl).trans (congrArg (λz=>z + 1) HM.out));clear HX HY;refine Qg ?_;exact ⟨k + 1,m + 1,by omega,by go_num,rfl,L,by omega,by omega,o⟩
 exact aL
theorem kOp {w:Aj} {vl:Value} {l:List ji} (hl:(kD.slice 62 jO).raw w [vl] l) :
    Calls prog 21 #[vl] w (bQ w (.int .i64 (cntI l))):=by
 obtain ⟨aa,al,rfl,la⟩:=kD.sl hl
 go_enter func21,ntmps21
 go_wp2
 go_loopw [3,8] (λn i wr=>∃ (k:Nat) (m:Int),k<=l.length/\i=.int .i64 k/\n=.int .i64 m/\Hid (cntK l k=m)/\0<=m/\m<=k/\Qb w wr) (λ_ i _=>l.length - (intOf i).toNat)
 case atStart=>exact ⟨0,0,Nat.zero_le _,rfl,rfl,yD rfl,Int.le_refl _,Int.le_refl _,bR⟩
 obtain ⟨k,m,hk,rfl,rfl,HM,bc,U,o⟩:=hrel
 by_cases hlt:k < l.length
 · obtain ⟨qb,qo,rfl,ac,ae,af,bt,bu,b3,c9,ce,cg,cw,bv,qr,ap,aq,au,a7,ba,bi,b8,b1,b9,cc,a8⟩:=kD.kWw (hl.below o) (i:=k) bF2 rfl;have hy:=λq=>cntK_yes hlt q;have hn:=λq=>cntK_no hlt q;generalize l[k]=x at *;have HY:=yD hy;have HX:=yD hn;clear hy hn;obtain ⟨x0,x1,x2,x3⟩:=x;obtain ⟨rfl,rfl,rfl,rfl,rfl,rfl,rfl,ah,aj,ak,aw,bj,bd,bp,bz,b2,a6,a4,bo,Z,bk,bf⟩:=kAr qr;obtain ⟨ao,bx,rfl,bw,cz,c7,rfl,cl,c6,cv,rfl,co,c8,c5,rfl,ch⟩:=kD.sx aw (kD.sx a6 (kD.sx a4 (kD.sl Z)));cases x1
   · have L:=yD ((HX.out rfl).trans HM.out);clear HX HY;refine Qg ?_;exact ⟨k + 1,m,by omega,by go_num,rfl,L,by omega,by omega,(o.alloc o.size _)⟩
   have L:=yD ((HY.out rfl).trans (congrArg (λz=>z + 1) HM.out));clear HX HY;refine Qg ?_;exact ⟨k + 1,m + 1,by omega,by go_num,rfl,L,by omega,by omega,(o.alloc o.size _)⟩
 exact aL
def kJz (f:Int) (x:ji):Bool:=x.1==f
theorem jCd {w:Aj} {cx:List Value} {x:ji} (hx:jO.rd w cx x):Calls prog 74 #[.agg cx.toArray] w (kAb jO x w):=by
 obtain ⟨q1,q2,q3,q4⟩:=hx.2;obtain ⟨f4,gb,ao,aq,rfl,V,a9,bl,bi,bg,bo,b1,cf,du,L,D,ac,o,J,F⟩:=kCw hx.1;obtain ⟨dx,dw,rfl,gf,en,ej,rfl,gv,ak,af,rfl,an,ae,al,rfl,ap⟩:=kD.sx bi (kD.sx L (kD.sx D (kD.sl o)));have HI:=yD V;have N:Hid (jM.rd w _ x.2.2.1):=yD ⟨a9,q3⟩;have RD:Hid (jF.rd w _ x.2.2.2):=yD ⟨cf,q4⟩;clear hx q1 q2 q3 q4 V a9 bl bi bg bo b1 cf du L D ac o J F;go_enter func74,ntmps74;go_upto_region 1 with fail;generalize R:World.alloc (World.alloc w _) _=U;have Z:Qb w U:=by rw [<- R];exact bI
 have K0:Qd U w 0 (Qn x.1):=vS;have K1:Qd U w 1 (.bool x.2.1):=vS;have K2:Qd U w 2 (Qs dx x.2.2.1.1 dw):=vS;have K3:Qd U w 3 (Qn x.2.2.1.2.1):=vS;have K4:Qd U w 4 (Qn x.2.2.1.2.2.1):=vS;have K5:Qd U w 5 (Qn x.2.2.1.2.2.2):=vS;have K6:Qd U w 6 (Qs en x.2.2.2.1 ej):=vS;have K7:Qd U w 7 (Qs ak x.2.2.2.2.1 af):=vS;have K8:Qd U w 8 (Qs ae x.2.2.2.2.2.1 al):=vS;have K9:Qd U w 9 (Qn x.2.2.2.2.2.2.1):=vS;have ah:Qd U w 10 (Qn x.2.2.2.2.2.2.2):=vS;have XR:Qr U (w.heap.size + 1) #[Qn 0,.bool false,.slice none 0 0,Qn 0,Qn 0,Qn 0,.slice none 0 0,.slice none 0 0,.slice none 0 0,Qn 0,Qn 0] 62:=by rw [<- R];exact jD bF3
 have bx:U.heap.size=w.heap.size + 2:=bD4;clear R;have FX:=yD (λ(W:Aj) (hW:Qb U W)=>cLs11 hW K0 K1 K2 K3 K4 K5 K6 K7 K8 K9 ah);refine je (λW=>Qb U W) [(0,true),(1,true),(2,true),(3,true),(4,true),(5,true),(7,true),(8,true),(6,false),(9,false),(10,true)] bE5 bE5 qW (bR.drew) ?_;intro wS E;simp only [jG,Ah,List.length_nil,Ab,Ac,Ae,Ag,Ai,List.nil_append,Ad,List.drop_zero];all_goals ((iterate 8 refine kS ?_);(first|(refine kI rfl E ?_)|(refine ku rfl (λK H=>?_);go_simp;refine (kMc (N.out.below (tQ Z E))).mono ?_;rintro e az ⟨tc,rfl,O,ai⟩;obtain ⟨b0,rfl,am,bb,c1,b5,b6⟩:=jY O.raw;obtain ⟨ad,Y,rfl,br⟩:=kD.sl bb;clear am bb c1 b5 b6;have aa:=yD O;have bn:=ai.size;have ck:=E.size;replace E:=(tQ E ai);refine H _ _ E ?_;clear H K ai O));refine jH ?_;(first|(refine kI rfl E ?_)|(refine ku rfl (λK H=>?_);go_simp;refine (kBb (RD.out.below (tQ Z E))).mono ?_;rintro e ag ⟨tc,rfl,O,ai⟩;obtain ⟨df,dg,di,rfl,b7,a2,a5,b4,a3,cm,cd⟩:=jf O.raw;obtain ⟨dc,c4,rfl,de⟩:=kD.sl a2;obtain ⟨c3,c2,rfl,dj⟩:=kD.sl a5;obtain ⟨db,da,rfl,dh⟩:=kD.sl a3;clear b7 a2 a5 b4 a3 cm cd;have ab:=yD O;replace aa:=yD (aa.out.below ai);have ax:=ai.size;have bq:=E.size;replace E:=(tQ E ai);refine H _ _ E ?_;clear H K ai O));refine jH ?_;refine kS ?_;refine yt ?_)
 have X:=kC XR E;have E1:=(tQ Z E);have M0:=kE (b:=w.heap.size + 1) X (j:=0) rfl;have F0:=Aa ag (w.heap.size + 1) 0 _ _ X;have M1:=kE (b:=w.heap.size + 1) X (j:=1) rfl;have F1:=Aa ag (w.heap.size + 1) 1 _ _ X;have M2:=kE (b:=w.heap.size + 1) X (j:=2) rfl;have F2:=Aa ag (w.heap.size + 1) 2 _ _ X;have M3:=kE (b:=w.heap.size + 1) X (j:=3) rfl;have F3:=Aa ag (w.heap.size + 1) 3 _ _ X;have M4:=kE (b:=w.heap.size + 1) X (j:=4) rfl;have F4:=Aa ag (w.heap.size + 1) 4 _ _ X;have M5:=kE (b:=w.heap.size + 1) X (j:=5) rfl;have F5:=Aa ag (w.heap.size + 1) 5 _ _ X;have M6:=kE (b:=w.heap.size + 1) X (j:=6) rfl;have F6:=Aa ag (w.heap.size + 1) 6 _ _ X;have M7:=kE (b:=w.heap.size + 1) X (j:=7) rfl;have F7:=Aa ag (w.heap.size + 1) 7 _ _ X;have M8:=kE (b:=w.heap.size + 1) X (j:=8) rfl;have F8:=Aa ag (w.heap.size + 1) 8 _ _ X;have M9:=kE (b:=w.heap.size + 1) X (j:=9) rfl;have F9:=Aa ag (w.heap.size + 1) 9 _ _ X;have dd:=kE (b:=w.heap.size + 1) X (j:=10) rfl;have aj:=Aa ag (w.heap.size + 1) 10 _ _ X;go_wp2;refine bodyPost_ret (v:=.agg #[Qn x.1,.bool x.2.1,Qs ad x.2.2.1.1 Y,Qn x.2.2.1.2.1,Qn x.2.2.1.2.2.1,Qn x.2.2.1.2.2.2,Qs dc x.2.2.2.1 c4,Qs c3 x.2.2.2.2.1 c2,Qs db x.2.2.2.2.2.1 da,Qn x.2.2.2.2.2.2.1,Qn x.2.2.2.2.2.2.2]) (by simp [results,results74,go_sem,M0,F0,M1,F1,M2,F2,M3,F3,M4,F4,M5,F5,M6,F6,M7,F7,M8,F8,M9,F9,dd,aj]) rfl ⟨[_,_,_,_,_,_,_,_,_,_,_],rfl,?_,?_⟩
 · refine kD.own.wide (S:=jg wS ag) ?_ fT;exact kD.kBg (r:=kD.int) (q:=kD.pair kD.bool (kD.pair jM jF)) (cs:=[.int .i64 x.1]) (x:=x.1) (y:=(x.2.1,x.2.2.1,x.2.2.2)) (kD.ky HI.out) (kD.kBg (r:=kD.bool) (q:=kD.pair jM jF) (cs:=[.bool x.2.1]) (x:=x.2.1) (y:=(x.2.2.1,x.2.2.2)) (kD.kPp x.2.1) (kD.jq (A:=jg wS az) (B:=jg az ag) (kD.own.out aa.out fE) (kD.own.out ab.out fE) sI sJ nT))
 repeat (first|(with_reducible exact E1) | refine Below.setCell ?_ sQ _)
theorem jFo {w:Aj} {vl:Value} {l:List ji} (hl:(kD.slice 62 jO).rd w [vl] l) {f:Int} :
    Calls prog 19 #[vl,.int .i64 f] w (kBu 62 jO (l.filter (kJz f)) w):=by
 have HL:=yD hl
 obtain ⟨la,lp,rfl,ll⟩:=kD.sl hl.1
 have bc:l.length<=16777216:=hl.2.1
 clear hl
 go_enter func19,ntmps19
 go_wp2
 go_loopw [5,6] (λv i wr=>∃ k:Nat,k<=l.length/\i=.int .i64 k/\Hid (kD.kY 62 jO wr v ((l.take k).filter (kJz f)) (jg w wr))/\Qb w wr) (λ_ i _=>l.length - (intOf i).toNat)
 case atStart=>exact ⟨0,Nat.zero_le _,rfl,yD kD.kY.void,bR.alloc nL _⟩
 obtain ⟨k,hk,rfl,J,o⟩:=hrel
 obtain ⟨oa,on,oc,ho,ay⟩:=J.out.parts;obtain rfl:=ho
 have f2:((l.take k).filter (kJz f)).length<=k:=by exact zf hk
 have ar:=o.size
 by_cases hlt:k < l.length
 · obtain ⟨qb,qo,rfl,ac,ae,af,bt,bu,b3,c9,ce,cg,cw,bv,qr,ap,aq,au,a7,ba,bi,b8,b1,b9,cc,a8⟩:=kD.kWw (HL.out.1.below o) hlt rfl;have av:=kD.yx HL.out hlt;have be:=λq=>kDj (p:=(kJz f)) hlt q;have bh:=λq=>kCc (p:=(kJz f)) hlt q;generalize l[k]=x at *;have a1:=yD be;have al:=yD bh;clear be bh;obtain ⟨x0,x1,x2,x3⟩:=x;obtain ⟨rfl,rfl,rfl,rfl,rfl,rfl,rfl,ah,aj,ak,aw,bj,bd,bp,bz,b2,a6,a4,bo,Z,bk,bf⟩:=kAr qr;obtain ⟨ao,bx,rfl,bw,cz,c7,rfl,cl,c6,cv,rfl,co,c8,c5,rfl,ch⟩:=kD.sx aw (kD.sx a6 (kD.sx a4 (kD.sl Z)));have px:jO.rd wr _ (x0,x1,x2,x3):=⟨qr,av⟩;cases hq:x0==f
   · have L:=yD (al.out hq);clear a1 al;refine Qg ?_;exact ⟨k + 1,by omega,by go_num,yD (J.out.cast L.out.symm),o⟩
   have bm:=yD (a1.out hq);clear a1 al;go_wp2_with fail;refine (jCd px).mono ?_;rintro e wT ⟨tc,rfl,OT,ai⟩;obtain ⟨c4,b4,bn,am,rfl,b7,dy,ed,e3,ei,cd,br,aa,ad,O,E,Y,H,X,W⟩:=kCw OT.raw;obtain ⟨bb,a3,rfl,c3,a2,an,rfl,bq,b0,b5,rfl,a5,a9,az,rfl,bg⟩:=kD.sx e3 (kD.sx O (kD.sx E (kD.sl H)));clear b7 dy ed e3 ei cd br aa ad O E Y H X W;have fx:=ai.size;go_upto_region 7 with fail;refine ja ?_;intro wD ED F _;have ag:=ED.size;obtain ⟨D0,D1,D2,D3,D4,D5,D6,D7,D8,D9,bl⟩:=kKf F;clear F;have V:=(tQ ai ED);obtain ⟨J,U⟩:=AL;go_wp2_with (at_builtin;refine kD.jR rfl _ _ 41 rfl (r:=jO) (e:=62) underlying41 kCg rfl bF1 bF1 (B:=w.heap.size) J.out bF4 bF4 rfl (kD.own.wide (T:=jg wr wT) (OT.below ED) nK) rfl nT sI nK bF2 bF2 ?_);exact aP
 exact aQ
theorem jGc {w:Aj} {vl:Value} {l:List ji} (hl:(kD.slice 62 jO).rd w [vl] l) {f:Int} :
    Calls prog 18 #[vl,.int .i64 f] w (kBu 62 jO (l.filter (kJz f)) w):=by
 have HL:=yD hl
 obtain ⟨la,lp,rfl,ll⟩:=kD.sl hl.1
 have bc:l.length<=16777216:=hl.2.1
 clear hl
 go_enter func18,ntmps18
 go_wp2
 go_loopw [5,11] (λv i wr=>∃ k:Nat,k<=l.length/\i=.int .i64 k/\Hid (kD.kY 62 jO wr v ((l.take k).filter (kJz f)) (jg w wr))/\Qb w wr) (λ_ i _=>l.length - (intOf i).toNat)
 case atStart=>exact ⟨0,Nat.zero_le _,rfl,yD kD.kY.void,bR.alloc nL _⟩
 obtain ⟨k,hk,rfl,J,o⟩:=hrel
 obtain ⟨oa,on,oc,ho,ay⟩:=J.out.parts;obtain rfl:=ho
 have f2:((l.take k).filter (kJz f)).length<=k:=by exact zf hk
 have ar:=o.size
 by_cases hlt:k < l.length
 · obtain ⟨qb,qo,rfl,ac,ae,af,bt,bu,b3,c9,ce,cg,cw,bv,qr,ap,aq,au,a7,ba,bi,b8,b1,b9,cc,a8⟩:=kD.kWw (HL.out.1.below o) hlt rfl;have av:=kD.yx HL.out hlt;have be:=λq=>kDj (p:=(kJz f)) hlt q;have bh:=λq=>kCc (p:=(kJz f)) hlt q;generalize l[k]=x at *;have a1:=yD be;have al:=yD bh;clear be bh;obtain ⟨x0,x1,x2,x3⟩:=x;obtain ⟨rfl,rfl,rfl,rfl,rfl,rfl,rfl,ah,aj,ak,aw,bj,bd,bp,bz,b2,a6,a4,bo,Z,bk,bf⟩:=kAr qr;obtain ⟨ao,bx,rfl,bw,cz,c7,rfl,cl,c6,cv,rfl,co,c8,c5,rfl,ch⟩:=kD.sx aw (kD.sx a6 (kD.sx a4 (kD.sl Z)));have px:jO.rd wr _ (x0,x1,x2,x3):=⟨qr,av⟩;go_upto_region 5 with fail;refine ja ?_;intro wC EC F _;have bg:=EC.size;obtain ⟨M0,M1,M2,M3,M4,M5,M6,M7,M8,M9,dd⟩:=kKf F;clear F;replace J:=yD ((J.out.below EC).wide (T:=jg w wC) sI);have an:=(tQ o EC);cases hq:x0==f
   · have L:=yD (al.out hq);clear a1 al;refine Qg ?_;exact ⟨k + 1,by omega,by go_num,yD (J.out.cast L.out.symm),an⟩
   have bm:=yD (a1.out hq);clear a1 al;go_upto_region 6 with fail;have pI:jM.rd wr _ x2:=⟨aj,av.2.2.1⟩;have X:jF.rd wr _ x3:=⟨bz,av.2.2.2⟩;have FX:=yD (λ(W:Aj) (hW:Qb wC W)=>cLs11 hW M0 M1 M2 M3 M4 M5 M6 M7 M8 M9 dd);refine je (λW=>Qb wC W) [(0,true),(1,true),(2,true),(3,true),(4,true),(5,true),(6,true),(8,true),(9,true),(7,false),(10,false),(11,true),(12,false)] bE5 bE5 qW (bR.drew) ?_;intro wS E;simp only [jG,Ah,List.length_nil,Ab,Ac,Ae,Ag,Ai,List.nil_append,Ad,List.drop_zero];all_goals ((iterate 9 refine kS ?_);(first|(refine kI rfl E ?_)|(refine ku rfl (λK H=>?_);go_simp;refine (kEn (pI.below (tQ EC E))).mono ?_;rintro e az ⟨tc,rfl,O,ai⟩;obtain ⟨b0,rfl,am,bb,c1,b5,b6⟩:=jY O.raw;obtain ⟨ad,Y,rfl,br⟩:=kD.sl bb;clear am bb c1 b5 b6;have aa:=yD O;have bn:=ai.size;have ck:=E.size;replace E:=(tQ E ai);refine H _ _ E ?_;clear H K ai O));refine jH ?_;(first|(refine kI rfl E ?_)|(refine ku rfl (λK H=>?_);go_simp;refine (kDi (X.below (tQ EC E))).mono ?_;rintro e ag ⟨tc,rfl,O,ai⟩;obtain ⟨df,dg,di,rfl,b7,a2,a5,b4,a3,cm,cd⟩:=jf O.raw;obtain ⟨dc,c4,rfl,de⟩:=kD.sl a2;obtain ⟨c3,c2,rfl,dj⟩:=kD.sl a5;obtain ⟨db,da,rfl,dh⟩:=kD.sl a3;clear b7 a2 a5 b4 a3 cm cd;have ab:=yD O;replace aa:=yD (aa.out.below ai);have ax:=ai.size;have bq:=E.size;replace E:=(tQ E ai);refine H _ _ E ?_;clear H K ai O));refine jH ?_;refine kS ?_;(first|(refine kI rfl E ?_)|(refine ku rfl (λK H=>?_);go_simp;refine H _ _ (E.alloc E.size _) ?_;clear H K));refine jH ?_;refine yt ?_)
   have V:Qb wC ag:=E;replace J:=yD (J.out.below E);have U:=(tQ an V);go_wp2_with (at_builtin;refine kD.jR rfl _ _ 41 rfl (r:=jO) (e:=62) underlying41 kCg rfl bF1 bF1 (B:=w.heap.size) J.out bF4 bF4 rfl (kD.own.wide (T:=jg wC ag) (kD.kBg (r:=kD.int) (q:=kD.pair kD.bool (kD.pair jM jF)) (cs:=[.int .i64 x0]) (x:=x0) (y:=(x1,x2,x3)) (kD.ky ah) (kD.kBg (r:=kD.bool) (q:=kD.pair jM jF) (cs:=[.bool x1]) (x:=x1) (y:=(x2,x3)) (kD.kPp x1) (kD.jq (S:=jg wS ag) (A:=jg wS az) (B:=jg az ag) aa.out ab.out sI sJ nT))) nK) rfl nT sI nK bF2 bF2 ?_);exact aP
 exact aQ
end Go.Proofs.YthocbplmdjkifaaGreat
namespace Go.Proofs.YthocbplmdjkifaaGreat
open Go.ChangeShapes Go.WideShapes Go.ChangeAt Go.RowKit _root_.Go.Proofs.Tryz
theorem kVc {w:Aj} {v:Value} {ah:List UInt8} (Y:(kD.slice 5 kD.byte).raw w [v] ah) :
    Calls prog 3 #[v] w (LawPost w):=by
 obtain ⟨ca,cc,rfl,_⟩:=kD.sl Y
 go_enter func3,ntmps3
 go_wp2_with fail
 refine (lawsbig_c Y).mono ?_
 rintro e w1 ⟨rfl,hb⟩
 have bj:=hb.size
 have U:=hb
 clear hb
 by_cases gw:(ah.length:Int) > 1048576
 · go_wp2;go_ret;exact ⟨rfl,U⟩
 go_wp2_with fail
 refine (kDq (Y.below U)).mono ?_
 rintro e w2 ⟨cs,x,f,cq,q,rfl,hO,hx,⟨ei,dr⟩,hq,es,⟨cg,ch⟩,hb⟩
 have bw:=hb.size
 replace U:=(tQ U hb)
 clear hb
 have ee:=yD hx.kOi
 have HX:=yD hx
 clear hx es
 obtain ⟨a0,c0,a1,c1,a2,c2,a3,c3,a4,c4,a5,c5,rfl⟩:=kCu hO.rd.1
 obtain ⟨x0,⟨kc,xe⟩,x2,x3,x4,x5,x6⟩:=x
 have XO:=yD (show jo.jr _ [Qs a0 x0 c0,Qn kc,Qs a1 xe c1,Qs a2 x2 c2,Qs a3 x3 c3,Qs a4 x4 c4,Qs a5 x5 c5,Qn x6] (x0,(kc,xe),x2,x3,x4,x5,x6) _ from hO)
 clear hO
 obtain ⟨qa,qc,rfl⟩:=int_form hq.rd.1
 obtain ⟨qn,qi,qh,qt⟩:=q
 replace cg:-1<=qh:=cg
 replace ch:qh<=17:=ch
 have QO:=yD (show jM.jr _ [Qs qa qn qc,Qn qi,Qn qh,Qn qt] (qn,qi,qh,qt) _ from hq)
 clear hq
 go_upto_region 4 with fail
 refine kAe ?_
 intro w3 hb BX BW bz
 obtain ⟨XO,QO⟩:=ES
 replace U:=(tQ U hb)
 clear hb
 obtain ⟨aa,ac,ae,ad,af,am,ao,ap⟩:=yu BX
 obtain ⟨al,aj,ai,aq⟩:=jW BW
 obtain ⟨J,os,nb,dd,ge,d5,hlen,cf,ec⟩:=want_plan (f:=f) (q:=(qn,qi,qh,qt)) HX.out cg ch
 have fr:=yD dd
 have gr:=yD ge
 have f0:=yD d5
 have b8:=yD hlen
 have f2:=yD cf
 have f7:=yD ec
 clear dd ge d5 hlen cf ec HX
 go_wp2_with fail
 refine (kFx (cx:=[.slice a0 x0.length c0,.int .i64 kc,.slice a1 xe.length c1,.slice a2 x2.length c2,.slice a3 x3.length c3,.slice a4 x4.length c4,.slice a5 x5.length c5,.int .i64 x6]) XO.out.rd (f:=f) bF2 (cq:=[.slice qa qn.length qc,.int .i64 qi,.int .i64 qh,.int .i64 qt]) QO.out.rd (t:=50) bF2 ee.out).mono ?_
 rintro e w4 ⟨cs,rfl,hO,hb⟩
 have b5:=hb.size
 replace BX:=kC BX hb
 replace BW:=kC BW hb
 obtain ⟨XO,QO⟩:=ES
 replace U:=(tQ U hb)
 clear aa ac ae ad af am ao ap al aj ai aq hb
 rw [fr.out] at hO
 obtain ⟨ce,bn,dn,cm,dt,co,dq,du,dw,dl,dp,dm,oa,oc,rfl,hN,hQ⟩:=jBw hO
 have AO:=yD (hO)
 have NO:=yD (hN)
 have OO:=yD (hQ)
 clear hO hN hQ
 go_upto_region 5 with fail
 refine ja ?_
 intro w5 ag BA b4
 replace BX:=kC BX ag
 replace BW:=kC BW ag
 replace XO:=yD (XO.out.below ag)
 replace QO:=yD (QO.out.below ag)
 replace AO:=yD (AO.out.below ag)
 replace NO:=yD (NO.out.below ag)
 replace OO:=yD (OO.out.below ag)
 replace U:=(tQ U ag)
 clear ag
 go_wp2_with fail
 refine (kIj (Y.below U)).mono ?_
 rintro e w6 ⟨la,lc,l,ra,rc,rn,rk,rfl,hL,hR,⟨gz,gv⟩,hb⟩
 have df:=hb.size
 obtain ⟨BX,BW,BA⟩:=y5
 obtain ⟨XO,QO⟩:=ES
 replace AO:=yD (AO.out.below hb)
 replace NO:=yD (NO.out.below hb)
 replace OO:=yD (OO.out.below hb)
 replace U:=(tQ U hb)
 clear hb
 have LO:=yD (hL)
 have RO:=yD (hR)
 clear hL hR
 go_upto_region 6 with fail
 refine ja ?_
 intro w7 aw B9 eo
 replace BX:=kC BX aw
 replace BW:=kC BW aw
 replace BA:=kC BA aw
 replace XO:=yD (XO.out.below aw)
 replace QO:=yD (QO.out.below aw)
 replace AO:=yD (AO.out.below aw)
 replace NO:=yD (NO.out.below aw)
 replace OO:=yD (OO.out.below aw)
 replace LO:=yD (LO.out.below aw)
 replace RO:=yD (RO.out.below aw)
 replace U:=(tQ U aw)
 clear aw
 go_wp2_with fail
 refine (kRo (Y.below U)).mono ?_
 rintro e w8 ⟨g3,sA,sx,sX,rfl,hA,hX,hb⟩
 have d9:=hb.size
 obtain ⟨BX,BW,BA⟩:=y5
 replace B9:=kC B9 hb
 obtain ⟨XO,QO,AO,NO,OO,LO,RO⟩:=xA
 replace U:=(tQ U hb)
 clear hb
 obtain ⟨el,fb,d6,d2,d7,d4,ff,eq,f8,ef,fh,ek,rfl⟩:=kCu hX.rd.1
 have SX:=yD (hX)
 clear hX
 obtain ⟨sN,sL⟩:=sA
 obtain ⟨fu,fv,fp,ft,gm,gg,fe,fm,f9,f1,fn,gp,fk,fi,rfl⟩:=act_formR hA.rd.1
 have SA:=yD (hA)
 clear hA
 go_upto_region 7 with fail
 refine kAe ?_
 intro w9 hb BS BT et
 obtain ⟨BX,BW,BA⟩:=y5
 replace B9:=kC B9 hb
 obtain ⟨XO,QO,AO,NO,OO,LO,RO⟩:=xA
 replace SX:=yD (SX.out.below hb)
 replace SA:=yD (SA.out.below hb)
 replace U:=(tQ U hb)
 clear hb
 go_wp2_with fail
 refine (kUt (Y.below U)).mono ?_
 rintro e cw ⟨ua,uc,ul,us,rfl,hU,g4,⟨gy,gx⟩,hb⟩
 have d8:=hb.size
 obtain ⟨BX,BW,BA⟩:=y5
 replace B9:=kC B9 hb
 replace BS:=kC BS hb
 replace BT:=kC BT hb
 obtain ⟨XO,QO,AO,NO,OO,LO,RO⟩:=xA
 replace SX:=yD (SX.out.below hb)
 replace SA:=yD (SA.out.below hb)
 replace U:=(tQ U hb)
 clear hb
 have UO:=yD (hU)
 clear hU
 go_wp2_with fail
 refine (kKx (Y.below U)).mono ?_
 rintro e c6 ⟨va,vc,vl,ya,yc,yl,rfl,hV,hY,hb⟩
 have e5:=hb.size
 obtain ⟨BX,BW,BA⟩:=y5
 replace B9:=kC B9 hb
 replace BS:=kC BS hb
 replace BT:=kC BT hb
 obtain ⟨XO,QO,AO,NO,OO,LO,RO⟩:=xA
 replace SX:=yD (SX.out.below hb)
 replace SA:=yD (SA.out.below hb)
 replace UO:=yD (UO.out.below hb)
 replace U:=(tQ U hb)
 clear hb
 have VO:=yD (hV)
 have YO:=yD (hY)
 clear hV hY
 go_upto_region 9 with fail
 obtain ⟨aa,ac,ae,ad,af,am,ao,ap⟩:=yu BX
 obtain ⟨al,aj,ai,aq⟩:=jW BW
 obtain ⟨av,L,bb,ba,ax,a9,ar,az,ay⟩:=zM BA
 have e0:Qd c6 w6 0 (Qs ra rn rc):=kE B9 rfl
 obtain ⟨er,eg,ew,ez,eu,ev,e7,e8,e6⟩:=zM BS
 obtain ⟨b7,bo,b2,bv,dx,db,em,e9⟩:=yu BT
 obtain ⟨br,fz⟩:∃ b,kTe l rn rk=b:=⟨_,rfl⟩
 obtain ⟨bl,au⟩:∃ b,silent (sN,sL) sX=b:=⟨_,rfl⟩
 obtain ⟨be,gq⟩:∃ b,decide (vl=yl)=b:=⟨_,rfl⟩
 obtain ⟨ci,bk⟩:∃ c,cntI ul=c:=⟨_,rfl⟩
 have bq:=yD fz;have ep:=yD au;have ed:=yD gq;have ey:=yD bk
 clear fz au gq bk
 have e1:(br != br)=false:=bF3
 have e2:(bl != bl)=false:=bF3
 have e3:(be != be)=false:=bF3
 have e4:(ci != ci)=false:=bF3
 have FX:=yD (λ(W:Aj) (hW:Qb c6 W)=>And.intro (cL hW aa) (And.intro (cL hW ac) (And.intro (cL hW ae) (And.intro (cL hW ad) (And.intro (cL hW af) (And.intro (cL hW am) (And.intro (cL hW ao) (And.intro (cL hW ap) (And.intro (cL hW al) (And.intro (cL hW aj) (And.intro (cL hW ai) (And.intro (cL hW aq) (And.intro (cL hW av) (And.intro (cL hW L) (And.intro (cL hW bb) (And.intro (cL hW ba) (And.intro (cL hW ax) (And.intro (cL hW a9) (And.intro (cL hW ar) (And.intro (cL hW az) (And.intro (cL hW ay) (And.intro (cL hW e0) (And.intro (cL hW er) (And.intro (cL hW eg) (And.intro (cL hW ew) (And.intro (cL hW ez) (And.intro (cL hW eu) (And.intro (cL hW ev) (And.intro (cL hW e7) (And.intro (cL hW e8) (And.intro (cL hW e6) (And.intro (cL hW b7) (And.intro (cL hW bo) (And.intro (cL hW b2) (And.intro (cL hW bv) (And.intro (cL hW dx) (And.intro (cL hW db) (And.intro (cL hW em) (cL hW e9)))))))))))))))))))))))))))))))))))))))
 refine yT (λW=>Qb c6 W) [(0,true),(1,true),(2,true),(3,true),(4,true),(5,false),(6,false),(7,true),(8,true),(9,true),(10,true),(11,true),(13,true),(14,true),(15,true),(12,false),(16,false),(17,true),(18,true),(19,true),(20,true),(21,true),(23,true),(24,true),(22,false),(25,false),(26,true),(27,true),(28,true),(29,true),(30,true),(32,true),(33,true),(31,false),(34,false),(35,false),(36,true),(37,true),(38,true),(39,true),(40,true),(42,true),(43,true),(41,false),(44,false),(45,true),(46,true),(47,true),(48,true),(50,true),(49,false),(51,false),(52,true),(53,true)] bE5 (softP_ok bE5) qW (bR.drew) ?_
 intro wS E
 simp only [jG,Ab,Ac,Ae,Ag]
 all_goals ((iterate 5 refine kS ?_);(first|(refine kI rfl E ?_)|(refine ku rfl (λK H=>?_);go_simp;refine (kFv (cx:=[.slice a0 x0.length c0,.int .i64 kc,.slice a1 xe.length c1,.slice a2 x2.length c2,.slice a3 x3.length c3,.slice a4 x4.length c4,.slice a5 x5.length c5,.int .i64 x6]) (XO.out.below E).rd (f:=f) bF2 (cq:=[.slice qa qn.length qc,.int .i64 qi,.int .i64 qh,.int .i64 qt]) (QO.out.below E).rd (t:=50) bF2 ee.out).mono ?_;rintro e wS1 ⟨en,rfl,bu,V⟩;rw [fr.out] at bu;have S2:=yD bu;clear bu;replace E:=(tQ E V);refine H _ _ E ?_;clear H K V));refine jH ?_;(first|(refine kI rfl E ?_)|(refine ku rfl (λK H=>?_);go_simp;refine (jCo (cx:=[.slice ce J.1.length bn,.int .i64 J.2.1.1,.slice dn J.2.1.2.length cm,.slice dt J.2.2.1.length co,.slice dq J.2.2.2.1.length du,.slice dw J.2.2.2.2.1.length dl,.slice dp J.2.2.2.2.2.1.length dm,.int .i64 J.2.2.2.2.2.2,.slice oa os.length oc]) (AO.out.below E).raw S2.out.raw).mono ?_;rintro e wS1 ⟨ab,V⟩;have D:e=.returned (.bool true):=ab.trans bF3;subst D;clear ab;replace E:=(tQ E V);clear S2;refine H _ _ E ?_;clear H K V));refine jH ?_;refine kS ?_;refine jT λb b6=>?_;cases b <;> try simp only [jS] at b6)
 all_goals ((iterate 6 refine kS ?_);(first|(refine kI rfl E ?_)|(refine ku rfl (λK H=>?_);go_simp;refine (kFp (LO.out.below E).rd.1 (cn:=[.slice ra rn.length rc]) (RO.out.below E).rd.1 (f:=rk)).mono ?_;rintro e wS1 ⟨ab,V⟩;have D:e=.returned (.bool br):=ab.trans (by rw [bq.out]);subst D;clear ab;replace E:=(tQ E V);refine H _ _ E ?_;clear H K V));refine jH ?_;(first|(refine kI rfl E ?_)|(refine ku rfl (λK H=>?_);go_simp;refine (kFe (LO.out.below E).rd.1 (cn:=[.slice ra rn.length rc]) (RO.out.below E).rd.1 (f:=rk)).mono ?_;rintro e wS1 ⟨ab,V⟩;have D:e=.returned (.bool br):=ab.trans (by rw [bq.out]);subst D;clear ab;replace E:=(tQ E V);refine H _ _ E ?_;clear H K V));refine jH ?_;refine kS ?_;refine kS ?_;refine jT λb O=>?_;cases b <;> try simp only [jS] at O)
 all_goals ((iterate 4 refine kS ?_);(first|(refine kI rfl E ?_)|(refine ku rfl (λK H=>?_);go_simp;refine (kIt (ca:=[.slice fu sN.1.length fv,.int .i64 sN.2.1.1,.slice fp sN.2.1.2.length ft,.slice gm sN.2.2.1.length gg,.slice fe sN.2.2.2.1.length fm,.slice f9 sN.2.2.2.2.1.length f1,.slice fn sN.2.2.2.2.2.1.length gp,.int .i64 sN.2.2.2.2.2.2,.slice fk sL.length fi]) (SA.out.below E).rd.1 (cy:=[.slice el sX.1.length fb,.int .i64 sX.2.1.1,.slice d6 sX.2.1.2.length d2,.slice d7 sX.2.2.1.length d4,.slice ff sX.2.2.2.1.length eq,.slice f8 sX.2.2.2.2.1.length ef,.slice fh sX.2.2.2.2.2.1.length ek,.int .i64 sX.2.2.2.2.2.2]) (SX.out.below E).rd.1).mono ?_;rintro e wS1 ⟨ab,V⟩;have D:e=.returned (.bool bl):=ab.trans (by rw [ep.out]);subst D;clear ab;replace E:=(tQ E V);refine H _ _ E ?_;clear H K V));refine jH ?_;(first|(refine kI rfl E ?_)|(refine ku rfl (λK H=>?_);go_simp;refine (kZm (ca:=[.slice fu sN.1.length fv,.int .i64 sN.2.1.1,.slice fp sN.2.1.2.length ft,.slice gm sN.2.2.1.length gg,.slice fe sN.2.2.2.1.length fm,.slice f9 sN.2.2.2.2.1.length f1,.slice fn sN.2.2.2.2.2.1.length gp,.int .i64 sN.2.2.2.2.2.2,.slice fk sL.length fi]) (SA.out.below E).rd.1 (cy:=[.slice el sX.1.length fb,.int .i64 sX.2.1.1,.slice d6 sX.2.1.2.length d2,.slice d7 sX.2.2.1.length d4,.slice ff sX.2.2.2.1.length eq,.slice f8 sX.2.2.2.2.1.length ef,.slice fh sX.2.2.2.2.2.1.length ek,.int .i64 sX.2.2.2.2.2.2]) (SX.out.below E).rd.1).mono ?_;rintro e wS1 ⟨ab,V⟩;have D:e=.returned (.bool bl):=ab.trans (by rw [ep.out]);subst D;clear ab;replace E:=(tQ E V);refine H _ _ E ?_;clear H K V));refine jH ?_;refine kS ?_;refine kS ?_;refine jT λb cd=>?_;cases b <;> try simp only [jS] at cd)
 all_goals ((iterate 4 refine kS ?_);(first|(refine kI rfl E ?_)|(refine ku rfl (λK H=>?_);go_simp;refine (jGc (l:=ul) (UO.out.below E).rd (f:=us)).mono ?_;rintro e wS1 ⟨v1,rfl,O1,V⟩;obtain ⟨d6,g2,d2,ho,_⟩:=O1.parts;obtain rfl:=ho;have P1:=yD O1;clear O1;replace E:=(tQ E V);refine H _ _ E ?_;clear H K V));refine jH ?_;(first|(refine kI rfl E ?_)|(refine ku rfl (λK H=>?_);go_simp;refine (jFo (l:=ul) (UO.out.below E).rd (f:=us)).mono ?_;rintro e wS1 ⟨v1,rfl,O1,V⟩;obtain ⟨d7,g6,d4,ho,_⟩:=O1.parts;obtain rfl:=ho;have P2:=yD O1;replace P1:=yD (P1.out.below V);clear O1;replace E:=(tQ E V);refine H _ _ E ?_;clear H K V));refine jH ?_;(first|(refine kI rfl E ?_)|(refine ku rfl (λK H=>?_);go_simp;refine (kIr P1.out.kKg P2.out.kKg).mono ?_;rintro e wS1 ⟨ab,V⟩;have D:e=.returned (.bool true):=ab.trans bF3;subst D;clear ab;replace E:=(tQ E V);clear P1 P2;refine H _ _ E ?_;clear H K V));refine jH ?_;refine kS ?_;refine kS ?_;refine jT λb ck=>?_;cases b <;> try simp only [jS] at ck)
 all_goals ((iterate 4 refine kS ?_);(first|(refine kI rfl E ?_)|(refine ku rfl (λK H=>?_);go_simp;refine (kQf (VO.out.below E).rd.1 (YO.out.below E).rd.1).mono ?_;rintro e wS1 ⟨ab,V⟩;have D:e=.returned (.bool be):=ab.trans (by rw [ed.out]);subst D;clear ab;replace E:=(tQ E V);refine H _ _ E ?_;clear H K V));refine jH ?_;(first|(refine kI rfl E ?_)|(refine ku rfl (λK H=>?_);go_simp;refine (kIr (VO.out.below E).rd.1 (YO.out.below E).rd.1).mono ?_;rintro e wS1 ⟨ab,V⟩;have D:e=.returned (.bool be):=ab.trans (by rw [ed.out]);subst D;clear ab;replace E:=(tQ E V);refine H _ _ E ?_;clear H K V));refine jH ?_;refine kS ?_;refine kS ?_;refine jT λb bg=>?_;cases b <;> try simp only [jS] at bg)
 all_goals (refine kS ?_;refine kS ?_;(first|(refine kI rfl E ?_)|(refine ku rfl (λK H=>?_);go_simp;refine (kOp (UO.out.below E).rd.1).mono ?_;rintro e wS1 ⟨ab,V⟩;have D:e=.returned (.int .i64 ci):=ab.trans (by rw [ey.out]);subst D;clear ab;replace E:=(tQ E V);refine H _ _ E ?_;clear H K V));refine jH ?_;(first|(refine kI rfl E ?_)|(refine ku rfl (λK H=>?_);go_simp;refine (kNz (UO.out.below E).rd.1).mono ?_;rintro e wS1 ⟨ab,V⟩;have D:e=.returned (.int .i64 ci):=ab.trans (by rw [ey.out]);subst D;clear ab;replace E:=(tQ E V);refine H _ _ E ?_;clear H K V));refine jH ?_;refine kS ?_;refine kS ?_;refine kM ?_)
 have f6:=E.size
 replace BX:=kC BX E
 replace BW:=kC BW E
 replace BA:=kC BA E
 replace B9:=kC B9 E
 replace BS:=kC BS E
 replace BT:=kC BT E
 replace XO:=yD (XO.out.below E)
 replace QO:=yD (QO.out.below E)
 replace AO:=yD (AO.out.below E)
 replace NO:=yD (NO.out.below E)
 replace OO:=yD (OO.out.below E)
 replace LO:=yD (LO.out.below E)
 replace RO:=yD (RO.out.below E)
 replace SX:=yD (SX.out.below E)
 replace SA:=yD (SA.out.below E)
 replace UO:=yD (UO.out.below E)
 replace VO:=yD (VO.out.below E)
 replace YO:=yD (YO.out.below E)
 replace U:=(tQ U E)
 clear E e1 e2 e3 e4 bq ep ed ey LO RO SX SA UO VO YO AO B9 BS BT
 obtain ⟨av,L,bb,ba,ax,a9,ar,az,ay⟩:=zM BA
 obtain ⟨al,aj,ai,aq⟩:=jW BW
 have fl:os.length<=16777216:=OO.out.2.1
 go_wp2
 go_loopw [17] (λi wr=>∃ (j:Nat),i=.int .i64 j/\j<=os.length/\Qb wS1 wr) (λi _=>os.length - (intOf i).toNat)
 case atStart=>exact ⟨0,rfl,Nat.zero_le _,bR⟩
 clear av L bb ba ax a9 ar az ay al aj ai aq
 obtain ⟨j,rfl,I,o⟩:=hrel
 have bi:=Int.natCast_nonneg j
 have zr:=o.size
 replace BX:=kC BX o
 replace BW:=kC BW o
 replace BA:=kC BA o
 replace XO:=yD (XO.out.below o)
 replace QO:=yD (QO.out.below o)
 replace NO:=yD (NO.out.below o)
 replace OO:=yD (OO.out.below o)
 replace U:=(tQ U o)
 have LB:=yD (show From wS1 wr from o)
 clear o
 by_cases hlt:j < os.length
 · have bt:(j:Int) < os.length:=bF2;have HJ:=yD (show j + 1<=os.length from hlt);obtain ⟨ob,oo,gu,g1,fo,OC⟩:=out_get OO.out hlt;subst gu;have f4:=f7.out _ (List.getElem_mem hlt);generalize os[j]=oj at *;obtain ⟨g0,gb,⟨gn,gi,gh,gt⟩,⟨hn,d3,hk,g7,g5⟩⟩:=oj;obtain ⟨ga,gc,d0,hc0,ej,dj,fd,eh,rfl,gl,dz,_⟩:=out_form fo.1;have C0:=OC 0 _ rfl;have C1:=OC 1 _ rfl;have C2:=OC 2 _ rfl;have C3:=OC 3 _ rfl;have C4:=OC 4 _ rfl;have C5:=OC 5 _ rfl;have C6:=OC 6 _ rfl;have C7:=OC 7 _ rfl;have C8:=OC 8 _ rfl;have C9:=OC 9 _ rfl;have fc:=OC 10 _ rfl;simp only [Nat.add_zero] at C0;have ea:=yD f4;have GN:=yD (gl);have DN:=yD (dz);clear OC f4 fo gl dz;obtain ⟨av,L,bb,ba,ax,a9,ar,az,ay⟩:=zM BA;obtain ⟨al,aj,ai,aq⟩:=jW BW;go_upto_region 15 with fail;refine ja ?_;intro dk F BO fg;replace BX:=kC BX F;replace BW:=kC BW F;replace BA:=kC BA F;replace C0:=cL F C0;replace C1:=cL F C1;replace C2:=cL F C2;replace C3:=cL F C3;replace C4:=cL F C4;replace C5:=cL F C5;replace C6:=cL F C6;replace C7:=cL F C7;replace C8:=cL F C8;replace C9:=cL F C9;replace fc:=cL F fc;replace XO:=yD (XO.out.below F);replace QO:=yD (QO.out.below F);replace NO:=yD (NO.out.below F);replace OO:=yD (OO.out.below F);replace LB:=yD (LB.out.below F);replace GN:=yD (GN.out.below F);replace DN:=yD (DN.out.below F);replace U:=(tQ U F);clear av L bb ba ax a9 ar az ay al aj ai aq F C0 C1 C2 C3 C4 C5 C6 C7 C8 C9 fc;obtain ⟨X,N,Z,R,ak,a6,an,a7,a8,da,b1⟩:=kKf BO;obtain ⟨al,aj,ai,aq⟩:=jW BW;cases gb
   · obtain ⟨d1,bm⟩:=ea.out.2 rfl;obtain rfl:g0=f:=d1;obtain rfl:hn=qn:=bm;clear ea;have q0:(g0 != g0)=false:=bF3;go_wp2_with fail;refine (zz (a:=hn) DN.out (int_nm QO.out).rd.1).mono ?_;rintro e f3 ⟨ab,hb⟩;have D:e=.returned (.bool true):=ab.trans (by simp [eqN]);subst D;clear ab;have gd:=hb.size;obtain ⟨BX,BW,BA⟩:=y5;replace BO:=kC BO hb;obtain ⟨XO,QO,NO,OO⟩:=xR;replace LB:=yD (LB.out.below hb);replace GN:=yD (GN.out.below hb);replace DN:=yD (DN.out.below hb);replace U:=(tQ U hb);clear X N Z R ak a6 an a7 a8 da b1 al aj ai aq hb;exact lQ
   obtain ⟨d1,bm⟩:=ea.out.1 rfl;replace d1:¬ g0=f:=d1;have dy:gn=qn/\gi=qi/\gh=qh - 1/\gt=qt:=by simpa using bm
   obtain ⟨rfl,rfl,rfl,rfl⟩:=dy;clear ea bm;have q0:(g0==f)=false:=by simpa using d1
   have hw:IntKind.i64.wrap (qh - 1)=qh - 1:=IntWalk.i64_in _ bF2;have q1:(qh - 1 != qh - 1)=false:=bF3;have q2:(gi != gi)=false:=bF3;go_wp2_with fail;refine (zz (a:=gn) GN.out (int_nm QO.out).rd.1).mono ?_;rintro e f3 ⟨ab,hb⟩;have D:e=.returned (.bool true):=ab.trans (by simp [eqN]);subst D;clear ab;have gd:=hb.size;obtain ⟨BX,BW,BA⟩:=y5;replace BO:=kC BO hb;obtain ⟨XO,QO,NO,OO⟩:=xR;replace LB:=yD (LB.out.below hb);replace GN:=yD (GN.out.below hb);replace DN:=yD (DN.out.below hb);replace U:=(tQ U hb);clear X N Z R ak a6 an a7 a8 da b1 al aj ai aq hb;obtain ⟨X,N,Z,R,ak,a6,an,a7,a8,da,b1⟩:=kKf BO;obtain ⟨al,aj,ai,aq⟩:=jW BW;exact lQ
 have bt:¬ (j:Int) < os.length:=bF2
 clear I LB
 obtain ⟨av,L,bb,ba,ax,a9,ar,az,ay⟩:=zM BA
 obtain ⟨al,aj,ai,aq⟩:=jW BW
 go_wp2_with fail
 refine (kFx (cx:=[.slice ce J.1.length bn,.int .i64 J.2.1.1,.slice dn J.2.1.2.length cm,.slice dt J.2.2.1.length co,.slice dq J.2.2.2.1.length du,.slice dw J.2.2.2.2.1.length dl,.slice dp J.2.2.2.2.2.1.length dm,.int .i64 J.2.2.2.2.2.2]) NO.out.rd (f:=f) bF2 (cq:=[.slice qa qn.length qc,.int .i64 qi,.int .i64 qh,.int .i64 qt]) QO.out.rd (t:=50) bF2 b8.out).mono ?_
 rintro e dk ⟨cs,rfl,hO,hb⟩
 have fg:=hb.size
 obtain ⟨BX,BW,BA⟩:=y5
 obtain ⟨XO,QO,NO,OO⟩:=xR
 replace U:=(tQ U hb)
 clear av L bb ba ax a9 ar az ay al aj ai aq hb
 rw [gr.out] at hO
 obtain ⟨dv,gf,b9,fy,b3,fw,bp,gj,bh,fq,bd,f5,fj,fx,rfl,_,_⟩:=jBw hO
 have b0:=yD (hO)
 clear hO
 go_upto_region 18 with fail
 refine ja ?_
 intro f3 bc BB gd
 replace BX:=kC BX bc
 replace BW:=kC BW bc
 replace BA:=kC BA bc
 replace XO:=yD (XO.out.below bc)
 replace QO:=yD (QO.out.below bc)
 replace NO:=yD (NO.out.below bc)
 replace OO:=yD (OO.out.below bc)
 replace b0:=yD (b0.out.below bc)
 replace U:=(tQ U bc)
 clear bc
 obtain ⟨aa,ac,ae,ad,af,am,ao,ap⟩:=yu BX
 obtain ⟨bx,bf⟩:∃ b,kAy (x0,(kc,xe),x2,x3,x4,x5,x6)=b:=⟨_,rfl⟩
 have dg:=yD bf
 clear bf
 go_wp2_with fail
 refine (kNk (cx:=[.slice a0 x0.length c0,.int .i64 kc,.slice a1 xe.length c1,.slice a2 x2.length c2,.slice a3 x3.length c3,.slice a4 x4.length c4,.slice a5 x5.length c5,.int .i64 x6]) XO.out.rd.1).mono ?_
 rintro e di ⟨ab,hb⟩
 have D:e=.returned (.bool bx):=ab.trans (by rw [dg.out])
 subst D
 clear ab
 have h5:=hb.size
 obtain ⟨BX,BW,BA⟩:=y5
 replace BB:=kC BB hb
 obtain ⟨XO,QO,NO,OO⟩:=xR
 replace b0:=yD (b0.out.below hb)
 replace U:=(tQ U hb)
 clear aa ac ae ad af am ao ap hb
 cases bx
 · have av:Qd di w4 0 (Qs ce J.1 bn):=kE BA rfl;obtain ⟨L,bb,ba,ax,a9,ar,az,ay⟩:=AJ;obtain ⟨c7,cl,c9,cv,c8,de,cz,dh,dc⟩:=zM BB;go_wp2_with fail;refine (kIt (ca:=[.slice dv nb.1.length gf,.int .i64 nb.2.1.1,.slice b9 nb.2.1.2.length fy,.slice b3 nb.2.2.1.length fw,.slice bp nb.2.2.2.1.length gj,.slice bh nb.2.2.2.2.1.length fq,.slice bd nb.2.2.2.2.2.1.length f5,.int .i64 nb.2.2.2.2.2.2,.slice fj 0 fx]) b0.out.raw (cy:=[.slice ce J.1.length bn,.int .i64 J.2.1.1,.slice dn J.2.1.2.length cm,.slice dt J.2.2.1.length co,.slice dq J.2.2.2.1.length du,.slice dw J.2.2.2.2.1.length dl,.slice dp J.2.2.2.2.2.1.length dm,.int .i64 J.2.2.2.2.2.2]) NO.out.raw).mono ?_;rintro e eb ⟨ab,hb⟩;have D:e=.returned (.bool true):=ab.trans (by rw [f0.out]);subst D;clear ab;have hl:=hb.size;exact lS
 have av:Qd di w4 0 (Qs ce J.1 bn):=kE BA rfl
 obtain ⟨L,bb,ba,ax,a9,ar,az,ay⟩:=AJ
 go_wp2_with fail
 refine (kNk (cx:=[.slice ce J.1.length bn,.int .i64 J.2.1.1,.slice dn J.2.1.2.length cm,.slice dt J.2.2.1.length co,.slice dq J.2.2.2.1.length du,.slice dw J.2.2.2.2.1.length dl,.slice dp J.2.2.2.2.2.1.length dm,.int .i64 J.2.2.2.2.2.2]) NO.out.raw).mono ?_
 rintro e eb ⟨ab,hb⟩
 have D:e=.returned (.bool true):=ab.trans (by rw [f2.out dg.out])
 subst D
 clear ab
 have hl:=hb.size
 obtain ⟨BX,BW,BA⟩:=y5
 replace BB:=kC BB hb
 obtain ⟨XO,QO,NO,OO⟩:=xR
 replace b0:=yD (b0.out.below hb)
 replace U:=(tQ U hb)
 clear av L bb ba ax a9 ar az ay hb
 obtain ⟨av,L,bb,ba,ax,a9,ar,az,ay⟩:=zM BA
 obtain ⟨c7,cl,c9,cv,c8,de,cz,dh,dc⟩:=zM BB
 go_wp2_with fail
 refine (kIt (ca:=[.slice dv nb.1.length gf,.int .i64 nb.2.1.1,.slice b9 nb.2.1.2.length fy,.slice b3 nb.2.2.1.length fw,.slice bp nb.2.2.2.1.length gj,.slice bh nb.2.2.2.2.1.length fq,.slice bd nb.2.2.2.2.2.1.length f5,.int .i64 nb.2.2.2.2.2.2,.slice fj 0 fx]) b0.out.raw (cy:=[.slice ce J.1.length bn,.int .i64 J.2.1.1,.slice dn J.2.1.2.length cm,.slice dt J.2.2.1.length co,.slice dq J.2.2.2.1.length du,.slice dw J.2.2.2.2.1.length dl,.slice dp J.2.2.2.2.2.1.length dm,.int .i64 J.2.2.2.2.2.2]) NO.out.raw).mono ?_
 rintro e g8 ⟨ab,hb⟩
 have D:e=.returned (.bool true):=ab.trans (by rw [f0.out])
 subst D
 clear ab
 have gs:=hb.size
 exact lS
end Go.Proofs.YthocbplmdjkifaaGreat
