/-
  Pending interests whose time has expired leave.
-/
import Derived.Test.YthocbplmdjkifabGreatRecS
set_option linter.unusedVariables false
set_option linter.defProp false
set_option linter.unusedSimpArgs false
set_option linter.unnecessarySimpa false
set_option maxRecDepth 100000
set_option maxHeartbeats 4000000
open Go.RowKit renaming frozen?_alloc_cells->Aa
open _root_ renaming List->Ab
open List renaming take_succ_eq_append_getElem->Ac,take_length->Ad,length_nil->Ag,length_filter_le->Ah,filter_append->Ak,getElem_mem->Am
open Int renaming natCast_nonneg->Ae,ofNat_lt->Al
open Go renaming World->Ai,Value->Aj
namespace Go.Proofs.YthocbplmdjkifabGreat
open Go.RowKit _root_.Go.Proofs.Tryz
variable {w:Ai} {now:Int} {l x2:Ab kF} {S:Nat->Prop} {vl:Aj} {k:Nat} {x0:Ab jK} {x3:Ab jI} {x4:Ab jH} {x5:Ab kM} {cn:Ab Aj} {x1:kr} {x:ja} {n:kU}
def wrap_rng (z:Int):-9223372036854775808<=wrap64 z/\wrap64 z<=9223372036854775807:=by unfold wrap64;omega
def zI:yw:=([],0,0,0)
def kLc (x:ja):ja:=jFt x (wrap64 (x.2.2.2.2.2.2 + 1))
def kVf {x6:Int}:kLc (x0,x1,x2,x3,x4,x5,x6)=(x0,x1,x2,x3,x4,x5,wrap64 (x6 + 1)):=rfl
def zI_own:zh.own w [.slice none 0 0,Qn 0,Qn 0,Qn 0] zI S :=
  kQo (kD.kCp (cs:=[.int .i64 0]) (kD.jB bJ5) (kD.kCp (cs:=[.int .i64 0]) (kD.jB bJ5) (kD.flat.own (kD.jB bJ5))))
def jCi {f:Int} {dc:Ab Aj} {D:jK} (hf:Qi f) (h:jC.own w dc D S) :
    yj.own w ([.int .i64 f,.bool false,.slice none 0 0,.int .i64 0,.int .i64 0,.int .i64 0]++dc) (f,false,zI,D) S :=
  kD.kCp (r:=kD.int) (q:=kD.pair kD.bool (kD.pair zh jC)) (cs:=[.int .i64 f]) (kD.jB hf) (kD.kCp (r:=kD.bool) (q:=kD.pair zh jC) (cs:=[.bool false]) (kD.jGx false)
    (kD.ji (r:=zh) (q:=jC) (cs:=[.slice none 0 0,.int .i64 0,.int .i64 0,.int .i64 0]) (A:=λ_=>False) (B:=S) zI_own h (λ_ h=>h.elim) (λ_ h=>h) (λ_ h _=>h)))
def kLz {c0 c1 c2 c3 c4 c5 O D v:Aj} {l:Ab jw} {A B:Nat->Prop} (h:jc.own w [c0,c1,c2,c3,c4,c5,O,D] x A) (k:Cq.own w [v] l B) (hA:∀ j,A j->S j) (hB:∀ j,B j->S j) (hd:∀ j,A j->B j->False) :
    kHh.own w [c0,c1,c2,c3,c4,c5,O,D,v] (x,l) S:=kD.ji (r:=jc) (q:=Cq) (cs:=[c0,c1,c2,c3,c4,c5,O,D]) (ds:=[v]) h k hA hB hd
def kUm {c0 c1 c2 c3 c4 c5 O D:Aj} {x6 y:Int} (h:jc.own w [c0,c1,c2,c3,c4,c5,O,D] (x0,x1,x2,x3,x4,x5,x6) S) (hy:Qi y) :
    jc.own w [c0,c1,c2,c3,c4,c5,O,Qn y] (x0,x1,x2,x3,x4,x5,y) S:=⟨RNode_set7 y hy h.1,h.2⟩
def jEn {cx:Ab Aj} (hx:jc.rd w cx x) :
    Calls prog 46 #[.agg cx.toArray] w (kAm kHh (kLc x,[]) w):=by
 obtain ⟨x0,⟨xc,xe⟩,x2,x3,x4,x5,x6⟩:=x;have HX:=yD hx;obtain ⟨el,e1,f3,f1,fw,fu,rfl,ac,bc,bl,bj,bf,bp,bt,c6,dp⟩:=yF hx.1;obtain ⟨dg,dd,rfl,en,dj,di,rfl,e4,d4,dz,rfl,fx,eb,d9,rfl,fz,d3,dy,rfl,f5,dx,dr,rfl,fy⟩:=kD.sx ac (kD.sx bj (kD.sx bf (kD.sx bp (kD.sx bt (kD.sl c6)))));clear hx ac bc bl bj bf bp bt c6 dp;go_enter func46,ntmps46;go_upto_region 1 with fail;refine kBz ?_;intro w1 H BX BR br;obtain ⟨V,Y,ab,Z,aa,aj,ak,al⟩:=jX BX;go_wp2_with fail;refine (kGw (HX.below H)).mono ?_;refine MI λw2 b8 BX BR H b9 cc h0 da dc h6 f4 gb im e6 e8 ir b2 ce ii d0 d1 id O=>?_;clear V Y ab Z aa aj ak al;go_upto_region 2 with fail;have F:=yD O;clear O;replace F:=yD (F.wide (T:=(λj=>w.heap.size + 2<=j/\j < w2.heap.size/\j≠w2.heap.size)) mD);refine SQ λw3 BO cv BX BR F H=>?_;refine iO BO λU N af X D ah ag ai ao ar ax a1 a2 a6 a5 a4=>?_;go_upto_region 3 with fail;generalize gw:wrap64 (x6 + 1)=y6;have iu:Hid (Qi y6):=yD (by rw [<- gw];exact wrap_rng _);refine I1 λHD=>?_;clear gw;generalize G:World.setCell w3 _ _=w4;have E:Touch (λk=>k=w2.heap.size) w3 w4:=bD0;replace BO:Qr w4 w2 (Qh b9 x0 cc xc da xe dc f4 x2 gb e6 x3 e8 b2 x4 ce d0 x5 d1 y6) 33:=by rw [<- G];exact kG BO 7
 have de:=E.size;clear G;refine aR E BX BR λBX BR=>?_;replace F:=yD (F.touch E rU);refine lY E λH=>?_;clear U N af X D ah ag ai ao ar ax a1 a2 a6 a5 a4 E;replace F:=yD (kUm F.out iu.out);obtain ⟨U,N,af,X,D,ah,ag,ai⟩:=jX BO;obtain ⟨a9,bb,b4,b3,b5,c8,c7,c9,du⟩:=zD BR;obtain ⟨be,bd,bv,bx,b0,cz,c5,c4,dn⟩:=kCf BR;have J:(World.alloc w4 (.cells #[] 70)).frozen? ⟨w.heap.size + 1,0,none⟩=false:=(Aa _ _ _ _).trans be;have a8:(World.alloc w4 (.cells #[] 70)).cell? ⟨w.heap.size + 1,0,none⟩=some (.slice none 0 0):=kE (kC BR (bR.alloc nL _)) rfl;have L:(World.alloc w4 (.cells #[] 70)).frozen? ⟨w.heap.size + 1,1,none⟩=false:=(Aa _ _ _ _).trans bd;have a7:(World.alloc w4 (.cells #[] 70)).cell? ⟨w.heap.size + 1,1,none⟩=some (.int .i64 0):=kE (kC BR (bR.alloc nL _)) rfl;have am:(World.alloc w4 (.cells #[] 70)).frozen? ⟨w.heap.size + 1,2,none⟩=false:=(Aa _ _ _ _).trans bv;have az:(World.alloc w4 (.cells #[] 70)).cell? ⟨w.heap.size + 1,2,none⟩=some (.slice none 0 0):=kE (kC BR (bR.alloc nL _)) rfl;have aw:(World.alloc w4 (.cells #[] 70)).frozen? ⟨w.heap.size + 1,3,none⟩=false:=(Aa _ _ _ _).trans bx;have au:(World.alloc w4 (.cells #[] 70)).cell? ⟨w.heap.size + 1,3,none⟩=some (.slice none 0 0):=kE (kC BR (bR.alloc nL _)) rfl;have aq:(World.alloc w4 (.cells #[] 70)).frozen? ⟨w.heap.size + 1,4,none⟩=false:=(Aa _ _ _ _).trans b0;have W:(World.alloc w4 (.cells #[] 70)).cell? ⟨w.heap.size + 1,4,none⟩=some (.slice none 0 0):=kE (kC BR (bR.alloc nL _)) rfl;have av:(World.alloc w4 (.cells #[] 70)).frozen? ⟨w.heap.size + 1,5,none⟩=false:=(Aa _ _ _ _).trans cz;have ap:(World.alloc w4 (.cells #[] 70)).cell? ⟨w.heap.size + 1,5,none⟩=some (.slice none 0 0):=kE (kC BR (bR.alloc nL _)) rfl;have I:(World.alloc w4 (.cells #[] 70)).frozen? ⟨w.heap.size + 1,6,none⟩=false:=(Aa _ _ _ _).trans c5;have ba:(World.alloc w4 (.cells #[] 70)).cell? ⟨w.heap.size + 1,6,none⟩=some (.slice none 0 0):=kE (kC BR (bR.alloc nL _)) rfl;have R:(World.alloc w4 (.cells #[] 70)).frozen? ⟨w.heap.size + 1,7,none⟩=false:=(Aa _ _ _ _).trans c4;have ay:(World.alloc w4 (.cells #[] 70)).cell? ⟨w.heap.size + 1,7,none⟩=some (.int .i64 0):=kE (kC BR (bR.alloc nL _)) rfl;have ae:(World.alloc w4 (.cells #[] 70)).frozen? ⟨w.heap.size + 1,8,none⟩=false:=(Aa _ _ _ _).trans dn;have a3:(World.alloc w4 (.cells #[] 70)).cell? ⟨w.heap.size + 1,8,none⟩=some (.slice none 0 0):=kE (kC BR (bR.alloc nL _)) rfl;go_wp2;refine bodyPost_ret (v:=.agg #[Qs b9 x0 cc,Qn xc,Qs da xe dc,Qs f4 x2 gb,Qs e6 x3 e8,Qs b2 x4 ce,Qs d0 x5 d1,Qn y6,.slice (Qa w4) 0 0]) (by simp [results,results46,go_sem,a8,J,a7,L,az,am,au,aw,W,aq,ap,av,ba,I,ay,R,a3,ae]) rfl ⟨[Qs b9 x0 cc,Qn xc,Qs da xe dc,Qs f4 x2 gb,Qs e6 x3 e8,Qs b2 x4 ce,Qs d0 x5 d1,Qn y6,.slice (Qa w4) 0 0],rfl,?_,?_⟩;rw [HD.out];exact kLz (A:=λj=>w.heap.size + 2<=j/\j < w4.heap.size/\j≠w2.heap.size) (B:=λ_=>False) (((F.wide (T:=λj=>w.heap.size + 2<=j/\j < w4.heap.size/\j≠w2.heap.size) rO).below (bR.alloc nL _)).touch sT9 vN) kD.jr gJ (λ_ h=>h.elim) (λ_ _ h=>h);exact H.trans (Below.trans (bR.alloc H.size _) (Touch.below sT9 (by simp;have:=H.size;omega) bF2))
def kMh (hl:Ce.raw w [vl] l) (hn:kQ.raw w cn n) :
    Calls prog 56 #[vl,.agg cn.toArray] w (bQ w (.bool (decide (0<=idxOf (jR n) l)))):=by
 refine NW λHL HN=>?_;obtain ⟨la,lp,rfl,ll⟩:=kD.sl hl;obtain ⟨av,rfl,ac⟩:=kT hn;obtain ⟨na,np,rfl,_⟩:=kD.sl ac;clear hl hn ac;go_enter func56,ntmps56;go_wp2_with fail;refine (kEd (HL.below bK) (HN.below bK)).mono ?_;exact QX
def kHs (hl:Ce.raw w [vl] l) (hn:kQ.raw w cn n) :
    Calls prog 30 #[vl,.agg cn.toArray] w (bQ w (.bool (decide (0<=idxOf (jR n) l)))):=by
 refine NW λHL HN=>?_;obtain ⟨la,lp,rfl,ll⟩:=kD.sl hl;obtain ⟨av,rfl,ac⟩:=kT hn;obtain ⟨na,np,rfl,_⟩:=kD.sl ac;clear hl hn ac;go_enter func30,ntmps30;go_wp2_with fail;refine (kFy (HL.below bK) (HN.below bK)).mono ?_;exact QX
def kMw (now:Int) (D:Ab kY):Ab kY:=D.filter (λr=>decide (now<=r.2.2))
def kKj (now:Int) (l:Ab kF):Ab kF:=(l.map (λp=>(p.1,kMw now p.2.1,p.2.2))).filter (λp=>decide (0 < p.2.1.length))
def expR_len (now:Int) (D:Ab kY):(kMw now D).length<=D.length:=Ah _ _
def jDt (now:Int) (l:Ab kF):(kKj now l).length<=l.length:=Nat.le_trans (Ah _ _) bJ6
def expP_yes (h:k < l.length) (q:0 < (kMw now l[k].2.1).length):kKj now (l.take (k + 1))=kKj now (l.take k)++[(l[k].1,kMw now l[k].2.1,l[k].2.2)]:=by
 unfold kKj;rw [Ac h,List.map_append,Ak];simp [q]
def expP_no (h:k < l.length) (q:¬ 0 < (kMw now l[k].2.1).length):kKj now (l.take (k + 1))=kKj now (l.take k):=by
 unfold kKj;rw [Ac h,List.map_append,Ak];have:decide (0 < (kMw now l[k].2.1).length)=false:=by simpa using q
 simp [this]
def expR_yes {l:Ab kY} (h:k < l.length) (q:now<=l[k].2.2):kMw now (l.take (k + 1))=kMw now (l.take k)++[l[k]]:=kDp (p:=λr:kY=>decide (now<=r.2.2)) h bI0
def expR_no {l:Ab kY} (h:k < l.length) (q:¬ now<=l[k].2.2):kMw now (l.take (k + 1))=kMw now (l.take k):=kCh (p:=λr:kY=>decide (now<=r.2.2)) h bI0
def jHa (now:Int) (l:Ab kY) (k:Nat):(kMw now (l.take k)).length<=l.length:=Nat.le_trans (expR_len _ _) wF
def jHb (now:Int) (l:Ab kF) (k:Nat):(kKj now (l.take k)).length<=l.length:=Nat.le_trans (jDt _ _) wF
def kQw (hl:Ce.rd w [vl] l) (bb:l.length<=2000000) (al:∀ x∈l,x.2.1.length<=2000000) :
    Calls prog 67 #[vl,.int .i64 now] w (kAj Ce (kKj now l) w):=by
 have HL:=yD hl;have ch:=yD al;obtain ⟨la,lp,rfl,ll⟩:=kD.sl hl.1;clear hl al;go_enter func67,ntmps67;go_wp2;go_loopw [5,6] (λv i wr=>∃ (k:Nat) (a:Option Addr) (n c:Nat),v=.slice a n c/\i=.int .i64 k/\k<=l.length/\Hid (n=(kKj now (l.take k)).length)/\Hid (Ce.own wr [.slice a n c] (kKj now (l.take k)) (jW w wr))/\Qb w wr) (λ_ i _=>l.length - (intOf i).toNat);case atStart=>exact ⟨0,_,0,0,rfl,rfl,Nat.zero_le _,yD rfl,yD kD.jr,bR.alloc nL _⟩
 obtain ⟨k,a,n,c,rfl,rfl,hk,HN,F,D⟩:=hrel;have dt:=Ae k;have a4:=D.size;have bj:=jHb now l k;by_cases hlt:k < l.length
 · have em:=Al.2 hlt;obtain ⟨qb,qo,rfl,c0,c1,c2,qr,A0,A1,A2⟩:=kD.zx (HL.1.below D) hlt rfl;have a3:=kD.zL HL.out hlt;have du:=ch.out _ (Am hlt);have hyes:=λq=>expP_yes (now:=now) hlt q;have hno:=λq=>expP_no (now:=now) hlt q;generalize l[k]=x at *;refine aN hyes hno λav ax=>?_;clear hyes hno;obtain ⟨x0,x1,x2⟩:=x;obtain ⟨rfl,au,az,aw,bi⟩:=jV qr;obtain ⟨na,np,rfl,_,ra,rp,rfl,aq⟩:=kD.sx az (kD.sl aw);have ae:=kD.kBx aw;have HQ:=yD aw;have a8:Hid (kQ.rd wr [Qs na x0 np] x0):=yD ⟨au,a3.1⟩;simp only at du A0 A1 A2 ae;clear qr au az aw;have cw:=yD bi;clear bi a3;go_upto_region 6 with fail;refine jZ ?_;intro wC EC _ _;have bl:=EC.size;refine aJ EC A0 A1 A2 λA0 A1 A2=>?_;refine aC HQ EC a8 F λHQ a8 F=>?_;replace D:=(tQ D EC);clear EC;go_wp2;go_loopw [7,8] (λv i wq=>∃ (m:Nat) (b:Option Addr) (bn X:Nat),v=.slice b bn X/\i=.int .i64 m/\m<=x1.length/\Hid (bn=(kMw now (x1.take m)).length)/\Hid (Ci.own wq [.slice b bn X] (kMw now (x1.take m)) (jW wC wq))/\Qb wC wq) (λ_ i _=>x1.length - (intOf i).toNat);case atStart=>exact ⟨0,_,0,0,rfl,rfl,Nat.zero_le _,yD rfl,yD kD.jr,bR⟩
   obtain ⟨m,b,bn,X,rfl,rfl,hm,ac,HA,J⟩:=hrel;have b1:=Ae m;have ak:=J.size;have B0:=cL J A0;have B1:=cL J A1;have B2:=cL J A2;have am:=jHa now x1 m;by_cases U:m < x1.length
   · have ck:=Al.2 U;obtain ⟨rb,ro,rfl,r0,r1,r2,rr,R0,R1,R2⟩:=kD.zx (HQ.below J) U rfl;have aj:=λq=>expR_yes (now:=now) U q;have V:=λq=>expR_no (now:=now) U q;generalize x1[m]=y at *;refine aN aj V λaf H=>?_;clear aj V;obtain ⟨y0,y1,y2⟩:=y;obtain ⟨rfl,rfl,rfl,dw,cl,d7⟩:=yJ rr;have HX:=yD (λW=>kD.flat.own (w:=W) (S:=λ_=>False) (kD.yh (kD.jB dw) (kD.yh (kD.jB cl) (kD.jB d7))));clear rr dw cl d7;by_cases ab:now<=y2
     · have L:=yD (af.out ab);clear af H;have an:ro=ro:=rfl;go_wp2_with (at_builtin;refine kD.zG rfl _ _ 79 rfl (r:=ky) (e:=83) underlying79 kAn rfl bJ4 bJ4 HA.out bR (HX.out wr) bJ7 bJ7 (λ_ _ h=>h.elim) (by have:=jHa now x1 m;omega) ?_);intro v5 w5 N Y;have a1:=Y.size;rw [<- L.out] at N;obtain ⟨R,c5,rfl,_⟩:=kD.sl N.raw;have ap:=yD (N.wide (T:=jW wC w5) (λj q=>q.elim (λq=>⟨q.1,by have:=q.2;omega⟩) (λq=>⟨by have:=q.1;omega,q.2⟩)));have E5:=J.trans (Y.below ak (λj q=>q.1.1));clear N Y;refine Qg ?_;exact ⟨m + 1,R,_,c5,rfl,by go_num,by omega,yD rfl,ap,E5⟩
     have L:=yD (H.out ab);clear af H;refine Qg ?_;exact ⟨m + 1,b,bn,X,rfl,by go_num,by omega,yD (by rw [L.out];exact ac.out),yD (by rw [L.out];exact HA.out),J⟩
   have ar:¬ ((m:Int) < x1.length):=bJ5;obtain rfl:m=x1.length:=bJ5;have ag:=yD (show bn=(kMw now x1).length by have:=ac.out;rwa [Ad] at this);replace HA:=yD (show Ci.own wr [.slice b bn X] (kMw now x1) (jW wC wr) by have:=HA.out;rwa [Ad] at this);clear ac am;by_cases Z:0 < bn
   · have L:=yD (av.out (by have h_:=ag.out;omega));have G:(0:Int) < bn:=bJ5;clear av ax;go_wp2_with fail;refine (zo (a8.below J)).mono ?_;refine ML λwT ba a7 b7 bh OT=>?_;clear bh;have ee:=ba.size;go_upto_region 13 with fail;generalize bf:World.alloc wT _=wD;have ED:Qb wT wD:=vS;have KD:Qd wD wT 0 (Qs a7 x0 b7):=bA8;clear bf;have ay:=ED.size;have ER:=(tQ ba ED);replace B2:=cL ER B2;have ai:=(tQ J ER);have FX:=yD (λ(W:Ai) (hW:Qb wD W)=>kNa hW KD B2);refine jU (λW=>Qb wD W) [true,true,true,true,true,true,true,true,true,false] bI9 bI9 sD (bR.drew) ?_;intro wS I;all_goals ((iterate 9 refine kZ ?_);(first|(refine kI rfl I ?_)|(refine ku rfl (λK E=>?_);go_simp;refine E _ _ (I.alloc I.size _) ?_;clear E K));refine jD ?_;refine jq ?_)
     have ao:=I.size;go_wp2_with (at_builtin;refine kD.zG rfl _ _ 28 rfl (r:=kH) (e:=106) underlying28 jl rfl bJ4 bJ4 F.out (tQ ai I) (kD.own.wide (T:=jW wC wS) (kD.ji (r:=kQ) (q:=kD.pair Ci kD.int) (cs:=[.slice a7 x0.length b7]) (ds:=[.slice b bn X,.int .i64 x2]) (x:=x0) (y:=(kMw now x1,x2)) (A:=jW wr wT) (B:=jW wC wr) (S:=jW wC wT) (OT.below (tQ ED I)) (kD.yR (HA.below (tQ ER I)) (kD.jB cw.out)) vH vI (λj q1 q2=>by have:=q1.1;have:=q2.2;omega)) vI) bJ7 bJ7 rD bJ5 ?_);intro v6 w6 ah aa;have bm:=aa.size;rw [<- L.out] at ah;obtain ⟨b6,O,rfl,_⟩:=kD.sl ah.raw;have be:=yD (ah.wide (T:=jW w w6) bN);have EB:=(tQ D ai);have E6:=EB.trans ((I.mono bJ5).trans (aa.below bJ5 (λj q=>q.1.1)));clear ah aa;refine Qg ?_;exact ⟨k + 1,b6,_,O,rfl,by go_num,by omega,yD rfl,be,E6⟩
   have L:=yD (ax.out (by have h_:=ag.out;omega));have G:¬ (0:Int) < bn:=bJ5;clear av ax;refine Qg ?_;exact ⟨k + 1,a,n,c,rfl,by go_num,by omega,yD (by rw [L.out];exact HN.out),yD (by rw [L.out];exact (F.below J).wide vI),(tQ D J)⟩
 have g4:¬ ((k:Int) < l.length):=bJ5;obtain rfl:k=l.length:=bJ5;go_wp2;go_ret;exact ⟨_,rfl,by have:=F.out;rwa [Ad] at this,D⟩
def pend0_open {cs:Ab Aj} {x:kF} {C:Nat->Prop} (h:kKg.own w cs x C):∃ (na:Option Addr) (np:Nat) (ra:Option Addr) (rp:Nat) (A B:Nat->Prop),
    cs=[.slice na x.1.length np,.slice ra x.2.1.length rp,.int .i64 x.2.2]/\kQ.own w [Qs na x.1 np] x.1 A/\kD.ko 83 ky w (Qs ra x.2.1 rp) x.2.1 B/\(∀ j,A j->C j)/\(∀ j,B j->C j)/\(∀ j,A j->B j->False)/\Qi x.2.2:=by
 obtain ⟨⟨c,d,A,B,rfl,h1,⟨c2,N,A2,B2,rfl,h2,h3,k1,k2,k3⟩,k4,k5,k6⟩,hb⟩:=h;have hn:kQ.own w c x.1 A:=⟨h1,hb.1⟩;obtain ⟨cn,rfl,n0⟩:=kT hn.raw;obtain ⟨na,np,rfl,_⟩:=kD.sl n0;obtain ⟨ra,ln,rp,rfl,rfl,D⟩:=h2.1;obtain ⟨rfl,hr⟩:=h3;exact ⟨na,np,ra,rp,A,A2,rfl,hn,kD.own0_of (e:=83) (r:=ky) (w:=w) (v:=Qs ra x.2.1 rp) (xs:=x.2.1) (S:=A2) ⟨h2,hb.2.1⟩,k4,λj J=>k5 j (k1 j J),λj a b=>k6 rfl j a (k1 j b),hr⟩
def oldR (now:Int) (r:kY):Bool:=decide (r.2.2 < now)
def oldR_filter (now:Int) (D:Ab kY):D.filter (λr=>!oldR now r)=kMw now D:=by
 unfold kMw oldR;congr 1;funext r;by_cases h:r.2.2 < now
 · have:¬ now<=r.2.2:=bJ5;simp [h,this]
 have:now<=r.2.2:=by omega
 simp [h,this]
def kPt {cr:Ab Aj} {r:kY} (hr:ky.raw w cr r) {E:Nat} (D:Qc w E 0 (Qn now)) :
    Calls prog 123 (#[.agg cr.toArray]++#[.pointer (Qa E)]) w (bQ w (.bool (oldR now r))):=by
 have Hr:=yD hr;obtain ⟨rfl,O,H,aa⟩:=kHf hr;show Calls prog 123 #[_,_] w _;go_enter func123,ntmps123;go_upto_region 1 with fail;refine P7 D λX EB ah J U D FX=>?_;refine kX (λW=>Qb X W) [true,true,true,true,true] bR ?_;refine q8 λwS I=>?_;all_goals (refine jo λb Z=>?_;cases b <;> try simp only [jm] at Z)
 all_goals (refine kR ?_;have G:=(tQ EB I))
 all_goals (obtain ⟨vq,qv⟩:∃ qc,(oldR now r)=qc:=⟨_,rfl⟩;have L:=yD qv;simp only [oldR,Q0,Z] at qv;subst qv;go_wp2;go_ret;exact ⟨kJ L.symm,G⟩)
def kIl:jL prog 123:=yK func123 bI9 bI9
def kRa (hl:Ce.rd w [vl] l) (bb:l.length<=2000000) (al:∀ x∈l,x.2.1.length<=2000000) :
    Calls prog 63 #[vl,.int .i64 now] w (kAj Ce (kKj now l) w):=by
 have HL:=yD hl;have ch:=yD al;obtain ⟨la,lp,rfl,ll⟩:=kD.sl hl.1;clear hl al;go_enter func63,ntmps63;go_upto_region 2 with fail;refine fK λX U EB=>?_;have cc:w.heap.size + 2<=X.heap.size:=bH6;have KN:Qd X w 0 (Qn now):=bA9;clear U;go_wp2_with fail;refine (kUt (HL.below EB)).mono ?_;refine eD λw2 v2 O2 V=>?_;have am:=V.size;replace KN:=cL V KN;have E2:=(tQ EB V);refine aH O2 λva vn vc a9 aw=>?_;obtain rfl:=a9;have HG:Hid (0 < l.length->∃ b,va=some ⟨b,0,none⟩/\kD.gap 106 kKg w2 b vc l.length [] 0 l (jW X w2)):=yD (λh=>by
   obtain ⟨b,cap,he,hg⟩:=kD.kCz O2 h;simp only [Value.slice.injEq] at he;obtain ⟨rfl,_,rfl⟩:=he;exact ⟨b,rfl,by simpa using hg⟩)
 have ar:=aw.out;subst ar;clear O2 aw V;go_wp2;go_loopw [5,12] (λv i wr=>∃ (k:Nat) (a:Option Addr) (n c:Nat) (SG T:Nat->Prop),v=.slice a n c/\i=.int .i64 k/\k<=l.length/\Hid (n=(kKj now (l.take k)).length)/\Hid (Ce.own wr [.slice a n c] (kKj now (l.take k)) T)/\Hid (k < l.length->∃ b,va=some ⟨b,0,none⟩/\kD.gap 106 kKg wr b vc l.length [] k (l.drop k) SG) /\
     Hid (∀ j,SG j->X.heap.size<=j/\j < w2.heap.size)/\Hid (∀ j,T j->w.heap.size + 1<=j/\j < wr.heap.size)/\Hid (∀ j,SG j->T j->False)/\Qd wr w 0 (Qn now)/\w2.heap.size<=wr.heap.size/\Qb w wr) (λ_ i _=>l.length - (intOf i).toNat)
 case atStart=>exact ⟨0,_,0,0,jW X w2,λ_=>False,rfl,rfl,Nat.zero_le _,yD rfl,yD kD.jr,yD (λh=>by rw [List.drop_zero];exact HG.out h),yD (λj q=>q),yD (λ_ q=>q.elim),yD (λ_ _ q=>q),KN,Nat.le_refl _,E2⟩
 clear HG KN E2;obtain ⟨k,a,n,c,SG,T,rfl,rfl,hk,HN,F,HG,E,L,HD,KN,a4,D⟩:=hrel;have dt:=Ae k;have bo:=D.size;have bj:=jHb now l k;by_cases hlt:k < l.length
 · have em:=Al.2 hlt;obtain ⟨b,rfl,hg⟩:=HG.out hlt;rw [List.drop_eq_getElem_cons hlt] at hg;obtain ⟨cs,C,hown,hC,ac,ai⟩:=hg.skip2;have a7:=yD ai;have du:=ch.out _ (Am hlt);have hyes:=λq=>expP_yes (now:=now) hlt q;have hno:=λq=>expP_no (now:=now) hlt q;generalize l[k]=x at *;refine aN hyes hno λav ax=>?_;clear hyes hno hg ai;obtain ⟨na,np,ra,rp,A,B,rfl,hA,hB,af,au,H,ae⟩:=pend0_open hown;obtain ⟨x0,x1,x2⟩:=x;simp only at du hA hB ae;have A0:Qc wr b (k * 3) (Qs na x0 np):=by have h:=ac 0 _ rfl;rw [Ag,Nat.zero_add,Nat.add_zero] at h;exact h
   have A1:Qc wr b (k * 3 + 1) (Qs ra x1 rp):=by have h:=ac 1 _ rfl;rw [Ag,Nat.zero_add] at h;exact h
   have A2:Qc wr b (k * 3 + 2) (Qn x2):=by have h:=ac 2 _ rfl;rw [Ag,Nat.zero_add] at h;exact h
   refine aN hA hB λHA HB=>?_;refine aN af au λaj bx=>?_;refine aN H ae λbh a1=>?_;have HC:=yD hC;clear hown hC ac hA hB af au H ae HG;go_upto_region 5 with fail;generalize R:World.alloc wr _=wC;have EC:Qb wr wC:=vT;have BX:Qr wC wr #[Qs na x0 np,Qs ra x1 rp,Qn x2] 106:=by rw [<- R];exact kg rfl
   have bl:wr.heap.size + 1<=wC.heap.size:=bI2;clear R A0 A1 A2;replace KN:=cL EC KN;refine aD HA EC HB λHA HB=>?_;have Y:Qd wC wr 1 (Qs ra x1 rp):=kE BX rfl;have I:=yD KN;go_wp2_with fail;refine (kNy (oldR now) kIl HB.out bJ5 (λW hW x cs hr=>kPt hr ?_)).mono ?_
   · have e1:W.heap[w.heap.size]?=wC.heap[w.heap.size]?:=hW.block _ bJ5 (λq=>by have:=(E.out _ (HC.out _ (bx.out _ q)).1).1;omega);rw [<- I.out];unfold World.cell?;simp only [e1]
   refine eD λw3 v3 O3 T3=>?_;rw [oldR_filter] at O3;have N:∀ j,B j->X.heap.size<=j/\j < w2.heap.size:=λj q=>E.out _ (HC.out _ (bx.out _ q)).1;have a3:=T3.kC BX (λq=>by have:=N _ q;omega);have cf:=T3.size;have e6:Qd w3 w 0 (Qn now):=by
    have e1:w3.heap[w.heap.size]?=wC.heap[w.heap.size]?:=T3.block _ bJ5 (λq=>by have:=N _ q;omega);rw [<- I.out];unfold World.cell?;simp only [e1]
   have hTB:∀ j,T j->¬ B j:=λj q1 q2=>HD.out j (HC.out _ (bx.out _ q2)).1 q1;have bd:=yD (HA.touch T3 (λj q1 q2=>bh.out j q1 q2));have ap:=yD ((F.below EC).touch T3 hTB);have bg:=yD (λh:k + 1 < l.length=>(show ∃ b',some (⟨b,0,none⟩:Addr)=some ⟨b',0,none⟩/\kD.gap 106 kKg w3 b' vc l.length [] (k + 1) (l.drop (k + 1)) (λj=>SG j/\¬ C j) from ⟨b,rfl,(a7.below EC).keep (λj q J=>T3.block j J (λq2=>q.2 (bx.out _ q2)))⟩));have E3:=(tQ D EC).trans (T3.below bJ5 (λj q=>by have:=N _ q;omega));refine aH O3 λpa pn pc hp bc=>?_;obtain rfl:=hp;refine aN O3 N λag bi=>?_;clear O3 T3 HA HB F a7 BX KN I Y EC hTB N;have K3:Qd w3 wr 1 (Qs ra x1 rp):=kE a3 rfl;have F3:w3.frozen? ⟨wr,1,none⟩=false:=frozen_of_row w3 wr 1 _ _ a3;go_upto_region 6 with fail;generalize bf:World.setCell w3 _ _=wD;have TD:Touch (λj=>j=wr.heap.size) w3 wD:=by rw [<- bf];exact sT1
   have ak:Qr wD wr #[Qs na x0 np,.slice pa pn pc,Qn x2] 106:=by rw [<- bf];exact kG a3 1
   clear bf K3 F3;have ay:=TD.size;have a5:=yD (bd.touch TD (λj q1 q2=>by have:=(E.out _ (HC.out _ (aj.out _ q1)).1).2;omega));have ab:=yD (ag.touch TD (λj q1 q2=>by have:=bi.out _ q1;omega));have aq:=yD (ap.touch TD (λj q1 q2=>by have:=L.out _ q1;omega));have a6:=yD (λh:k + 1 < l.length=>by
     obtain ⟨b',hb',a8⟩:=bg.out h;exact (show ∃ b',some (⟨b,0,none⟩:Addr)=some ⟨b',0,none⟩/\kD.gap 106 kKg wD b' vc l.length [] (k + 1) (l.drop (k + 1)) (λj=>SG j/\¬ C j) from ⟨b',hb',a8.keep (λj q J=>TD.block j J (λq2=>by have:=(E.out _ q.1).2;omega))⟩))
   have eq:Qd wD w 0 (Qn now):=by
    have e1:wD.heap[w.heap.size]?=w3.heap[w.heap.size]?:=TD.block _ bJ5 bI6;rw [<- e6];unfold World.cell?;simp only [e1]
   have E4:=E3.trans (TD.below bJ5 (λj q=>by omega));clear bd ag ap bg e6 TD E3 a3;have Y:Qd wD wr 0 (Qs na x0 np):=kE ak rfl;have K1:Qd wD wr 1 (.slice pa pn pc):=kE ak rfl;have K2:Qd wD wr 2 (Qn x2):=kE ak rfl;have b4:=expR_len now x1;by_cases Z:0 < pn
   · have ao:=yD (av.out (by have h_:=bc.out;omega));have G:(0:Int) < pn:=bJ5;clear av ax;have bk:=bc.out;subst bk;go_wp2_with (at_builtin;refine kD.zG rfl _ _ 28 rfl (r:=kH) (e:=106) underlying28 jl rfl bJ4 bJ4 aq.out bR (kD.ji (r:=kQ) (q:=kD.pair Ci kD.int) (cs:=[.slice na x0.length np]) (ds:=[.slice pa (kMw now x1).length pc,.int .i64 x2]) (x:=x0) (y:=(kMw now x1,x2)) (A:=A) (B:=B) (S:=C) a5.out (kD.yR (ab.own bE7) (kD.jB a1.out)) aj.out bx.out bh.out) bJ7 bJ7 (λj h1 h2=>HD.out j (HC.out _ h2).1 h1) bJ5 ?_);intro v6 w6 ah aa;have bm:=aa.size;rw [<- ao.out] at ah;obtain ⟨b6,O,rfl,_⟩:=kD.sl ah.raw;have be:=yD ah;have E6:=E4.trans (aa.below bJ5 (λj q=>by have:=L.out _ q.1;omega));have bn:=yD (λh:k + 1 < l.length=>by
       obtain ⟨b',hb',a8⟩:=a6.out h;exact (show ∃ b',some (⟨b,0,none⟩:Addr)=some ⟨b',0,none⟩/\kD.gap 106 kKg w6 b' vc l.length [] (k + 1) (l.drop (k + 1)) (λj=>SG j/\¬ C j) from ⟨b',hb',a8.keep (λj q J=>aa.block j J (λq2=>HD.out j q.1 q2.1))⟩))
     have e7:Qd w6 w 0 (Qn now):=by
      have e1:w6.heap[w.heap.size]?=wD.heap[w.heap.size]?:=aa.block _ bJ5 (λq=>by have:=L.out _ q.1;omega);rw [<- eq];unfold World.cell?;simp only [e1]
     have a2:=yD (show ∀ j,(T j\/C j\/(wD.heap.size<=j/\j < w6.heap.size))->w.heap.size + 1<=j/\j < w6.heap.size from λj q=>by
       rcases q with q | q | q;have:=L.out _ q;omega;have:=E.out _ (HC.out _ q).1;omega
       · omega)
     have ba:=yD (show ∀ j,(SG j/\¬ C j)->(T j\/C j\/(wD.heap.size<=j/\j < w6.heap.size))->False from λj q1 q=>by
       rcases q with q | q | q;exact HD.out j q1.1 q;exact q1.2 q
       · have:=E.out _ q1.1;omega)
     have an:=yD (show ∀ j,(SG j/\¬ C j)->X.heap.size<=j/\j < w2.heap.size from λj q=>E.out _ q.1);clear ah aa aq a6 eq a5 ab Y K1 K2 ak;refine Qg ?_;exact ⟨k + 1,b6,_,O,_,_,rfl,by go_num,by omega,yD rfl,be,bn,an,a2,ba,e7,by omega,E6⟩
   have ao:=yD (ax.out (by have h_:=bc.out;omega));have G:¬ (0:Int) < pn:=bJ5;clear av ax;have an:=yD (show ∀ j,(SG j/\¬ C j)->X.heap.size<=j/\j < w2.heap.size from λj q=>E.out _ q.1);have a2:=yD (show ∀ j,T j->w.heap.size + 1<=j/\j < wD.heap.size from λj q=>by have:=L.out _ q;omega);have ba:=yD (show ∀ j,(SG j/\¬ C j)->T j->False from λj q1 q=>HD.out j q1.1 q);have az:=yD (show n=(kKj now (l.take (k + 1))).length by rw [ao.out];exact HN.out);have be:=yD (show Ce.own wD [.slice a n c] (kKj now (l.take (k + 1))) T by rw [ao.out];exact aq.out);clear Y K2 ak a5 ab aq;refine Qg ?_;exact ⟨k + 1,a,n,c,_,T,rfl,by go_num,by omega,az,be,a6,an,a2,ba,eq,by omega,E4⟩
 have g4:¬ ((k:Int) < l.length):=bJ5;obtain rfl:k=l.length:=bJ5;go_wp2;go_ret;exact ⟨_,rfl,by have h_:=F.out;rw [Ad] at h_;exact h_.wide (λj q=>by have:=L.out _ q;exact ⟨by omega,this.2⟩),D⟩
end Go.Proofs.YthocbplmdjkifabGreat
