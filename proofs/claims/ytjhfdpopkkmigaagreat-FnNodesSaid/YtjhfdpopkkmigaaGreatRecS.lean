/-
  A success recorded.
-/
import Derived.Test.YtjhfdpopkkmigaaGreatRoute
set_option linter.unusedVariables false
set_option linter.defProp false
set_option linter.unusedSimpArgs false
set_option linter.unnecessarySimpa false
set_option maxRecDepth 100000
set_option maxHeartbeats 4000000
open Int renaming toNat_natCast->Aa,eq_ofNat_of_zero_le->Ad
open _root_ renaming List->Ab
open Go.Value.slice renaming injEq->Ac
open List renaming getElem?_cons_succ->Ae,getElem?_cons_zero->Ag,mem_append->Ah,mem_singleton->Ai
open Go.Proofs.Tryz renaming underlying30->Aj,underlying31->Ak
open Go renaming World->Al,Calls->Ap
open List.cons renaming injEq->Am
namespace Go.Proofs.YtjhfdpopkkmigaaGreat
open Go.RowKit _root_.Go.Proofs.Tryz
def kIr (r:kz) (l:Ab kz):Ab kz :=
  if idxOf (zo r.1 r.2.1) l < 0 then l++[r] else l.set (idxOf (zo r.1 r.2.1) l).toNat (kJa (l.getD (idxOf (zo r.1 r.2.1) l).toNat ([],0,0)) r.2.2)
def kWu (r:kz) (l:Ab kz):Bool:=kBc (kIr r l)
def addR (r:kz) (l:Ab kz):Ab kz:=if kWu r l then kIr r l else l
def kZg {r:kz} {l:List kz} (h:idxOf (zo r.1 r.2.1) l < 0):kIr r l=l++[r]:=by unfold kIr;rw [if_pos h]
def kZf {r:kz} {l:Ab kz} {k:Nat} (h:idxOf (zo r.1 r.2.1) l=k) (hk:k < l.length):kIr r l=l.set k (kJa l[k] r.2.2):=by
 unfold kIr;simp only [h,Aa,jZ hk];rw [if_neg bD1]
def jAv {r:kz} {l:List kz} (h:kBc (kIr r l)=false):addR r l=l/\kWu r l=false:=by unfold addR kWu;rw [h];exact ⟨rfl,rfl⟩
def kWs {r:kz} {l:List kz} (h:kBc (kIr r l)=true):addR r l=kIr r l/\kWu r l=true:=by unfold addR kWu;rw [h];exact ⟨rfl,rfl⟩
def kKh {l:List kz} (h:kBc l=true):l.length<=24:=by unfold kBc at h;simp at h;exact h.2
def kUx {w:Al} {vl:Value} {l:Ab kz} (hl:(kD.slice 131 kS).rd w [vl] l) {cr:Ab Value} {r:kz} (hr:kS.rd w cr r) :
    Ap prog 199 #[vl,.agg cr.toArray] w λe w'=>∃ v,e=.returned (.tuple #[v,.bool (kWu r l)])/\(kD.slice 131 kS).own w' [v] (addR r l) (jU w.heap.size w'.heap.size)/\Qb w w':=by
 have HL:=yD hl
 have bc:l.length<=16777216:=hl.2.1
 obtain ⟨nv,rfl,bl,ai,bf,bp⟩:=jJ hr.1
 obtain ⟨n,f,c⟩:=r
 have HN:Hid (kW.rd w [nv] n):=yD ⟨bl,hr.2.1⟩
 obtain ⟨na,np,rfl,_⟩:=kD.sl ai
 obtain ⟨va,vp,rfl,Z⟩:=kD.sl hl.1
 have HF:=yD bf
 have HC:=yD bp
 clear bl ai bf bp hl hr
 go_enter func199,ntmps199
 go_wp2_with fail
 generalize J:World.alloc w _=N
 have R:Qb w N:=rW
 have K0:Qd N w 0 (.slice na n.length np):=tT
 have K1:Qd N w 1 (.int .i64 f):=tT
 have K2:Qd N w 2 (.int .i64 c):=tT
 have bq:N.heap.size=w.heap.size + 1:=bB4
 clear J
 refine (kCc (HL.out.below R)).mono ?_
 rintro e w1 ⟨v1,rfl,O1,O⟩
 obtain ⟨K0,K1,K2⟩:=FL
 obtain ⟨E1,bj,L⟩:=IR
 obtain ⟨oa,on,oc,ho,bh⟩:=O1.parts;obtain rfl:=ho
 clear O1 O R
 go_wp2_with fail
 refine (kMo (HL.out.1.below E1) (HN.out.1.below E1)).mono ?_
 rintro e w4 ⟨rfl,aj⟩
 replace K0:=cL aj K0
 replace K1:=cL aj K1
 replace K2:=cL aj K2
 have E4:=(tQ E1 aj)
 obtain ⟨b3,L⟩:=H8
 clear aj E1
 by_cases hk:idxOf (zo n f) l < 0
 · have U:=yD (kZg (r:=(n,f,c)) hk);have co:¬ (0<=idxOf (zo n f) l):=bD1;generalize hq:idxOf (zo n f) l=q at *;clear hq hk;go_wp2_with fail;refine (zT (HN.out.below E4)).mono ?_;rintro e wT ⟨tc,rfl,OT,an⟩;obtain ⟨c7,rfl,a5⟩:=ko OT.raw;obtain ⟨a8,bm,rfl,_⟩:=kD.sl a5;clear a5;go_upto_region 6 with fail;generalize D:World.alloc wT _=wC;have EC:Qb wT wC:=rU;have KC:Qd wC wT 0 (.slice a8 n.length bm):=tV;clear D;have ER:=(tQ an EC);have bk:=an.size;have au:=EC.size;have W:=OT.below EC;replace K0:=cL ER K0;replace K1:=cL ER K1;replace K2:=cL ER K2;replace L:=yD (L.out.below ER);go_wp2_with (at_builtin;refine kD.jO rfl _ _ 30 rfl (r:=kS) (e:=131) Aj kCr rfl bD0 bD0 (B:=w.heap.size) L.out bD3 bD3 rfl (kD.own.wide (T:=jU w4.heap.size wT.heap.size) (kD.yN (r:=kW) (q:=kD.pair kD.int kD.int) (cs:=[.slice a8 n.length bm]) (ds:=[.int .i64 f,.int .i64 c]) (x:=n) (y:=(f,c)) (W) (kD.yJ (kD.jG HF.out) (kD.jG HC.out))) (λj I=>I)) rfl mZ rC mU bD1 vX ?_);intro v5 w5 F G ce;have az:=yD (F.cast U.out.symm);have E5:=(tQ E4 ER).trans G;clear F G L;go_wp2_with fail;refine (kDx az.out.kAz).mono ?_;rintro e w7 ⟨rfl,E⟩;have H:=(tQ E5 E);have ab:=E.size;have V:=E5.size;have al:=yD (az.out.below E);clear E;cases hv:kBc (kIr (n,f,c) l)
   · exact aB
   have HQ:=yD (kWs hv);have ay:=yD (kKh hv);clear hv;go_wp2;go_ret2;exact ⟨v5,by rw [HQ.out.2];rfl,((al.out.cast HQ.out.1.symm).own nM).wide mU,H⟩
 obtain ⟨k,am,ad⟩:=kGb hk
 have ar:=yD ad
 rw [ad]
 clear hk ad
 obtain ⟨b,cap,hv,X,aw,bw,bo⟩:=kD.kAr L.out am
 simp only [Ac] at hv
 obtain ⟨rfl,o,rfl⟩:=hv
 have a4:k < on:=bD1
 obtain ⟨bv,a3⟩:=GU
 have ba:=yD (L.out.own bc)
 obtain ⟨c0,c1,c2,hr,A0,A1,A2⟩:=kD.at3 ba.out.raw am rfl
 clear hr
 have ah:=kD.kHb L.out bD1 (k * 3 + 2)
 have U:=yD (kZf (r:=(n,f,c)) ar.out am)
 obtain ⟨s1,s2⟩:=kD.kFu (i:=k) (j:=2) (p:=k * 3 + 2) (u:=.int .i64 c) L.out bc am bD0 (λh=>RRoute_set2 _ HC.out h) (show kS.bdd Big (kJa l[k] c) from kD.yh ba.out.rd am) rfl
 have aa:=yD (s1.cast U.out.symm)
 have E5:Below w.heap.size w (w4.setCell ⟨b,k * 3 + 2,none⟩ (.int .i64 c)):=E4.setCell X.1 _
 have ce:(w4.setCell ⟨b,k * 3 + 2,none⟩ (.int .i64 c)).heap.size=w4.heap.size:=by simp [World.setCell]
 clear s1 s2 o ba
 go_upto_region 7 with fail
 generalize bi:w4.setCell ⟨b,k * 3 + 2,none⟩ (.int .i64 c)=w5 at *
 clear bi
 go_wp2_with fail
 refine (kDx aa.out.kAz).mono ?_
 rintro e w7 ⟨rfl,E⟩
 have H:=(tQ E5 E)
 have ab:=E.size
 have V:=E5.size
 have al:=yD (aa.out.below E)
 clear E
 cases hv:kBc (kIr (n,f,c) l)
 · exact aB
 have HQ:=yD (kWs hv)
 have ay:=yD (kKh hv)
 clear hv
 go_wp2
 go_ret2
 exact ⟨.slice (some ⟨b,0,none⟩) on oc,by rw [HQ.out.2];rfl,((al.out.cast HQ.out.1.symm).own nM).wide mU,H⟩
def sumL {α:Type} (f:α->Nat) (l:Ab α):Nat:=(l.map f).sum
def wN (n:kr):Nat:=n.length + sumL ByteArray.size n
def kAq (m:Nat) (l:Ab kz):Prop:=l.length<=m/\∀ r∈l,yu r.1/\r.1.length<=64
def kAq.addR {l:Ab kz} {r:kz} (h:kAq 24 l) (hr:yu r.1/\r.1.length<=64):kAq 24 (addR r l):=by
 have key:∀ x∈kIr r l,yu x.1/\x.1.length<=64:=by
  intro x hx;by_cases q:idxOf (zo r.1 r.2.1) l < 0
  · rw [kZg q] at hx;rcases Ah.1 hx with hx | hx
    · exact h.2 x hx
    rw [Ai.1 hx];exact hr
  obtain ⟨k,hk,e⟩:=kGb q;rw [kZf e hk] at hx;rcases List.mem_or_eq_of_mem_set hx with hx | hx
  · exact h.2 x hx
  rw [hx];exact h.2 l[k] (List.getElem_mem hk)
 cases q:kBc (kIr r l)
 · rw [(jAv q).1];exact h
 rw [(kWs q).1];exact ⟨kKh q,key⟩
def kAq.snoc {m:Nat} {l:Ab kz} {r:kz} (h:kAq m l) (hr:yu r.1/\r.1.length<=64):kAq (m + 1) (l++[r]):=by
 refine ⟨by have:=h.1;simp;omega,λx hx=>?_⟩;rcases Ah.1 hx with hx | hx
 · exact h.2 x hx
 rw [Ai.1 hx];exact hr
def kAq.twice {m:Nat} {l:Ab kz} (h:kAq m l):kAq (m + m) (l++l):=by
 refine ⟨by have:=h.1;simp;omega,λx hx=>?_⟩;rcases Ah.1 hx with hx | hx <;> exact h.2 x hx
def kAq.mono {m k:Nat} {l:Ab kz} (h:kAq m l) (hk:m<=k):kAq k l:=⟨Nat.le_trans h.1 hk,h.2⟩
def kAq.nil:kAq 24 []:=⟨by simp,λr hr=>by simp at hr⟩
def kYj {w:Al} {v:Value} {Y:kr} {f c:Int} {S:Nat->Prop} (k:kW.own w [v] Y S) (hf:Qi f) (hc:Qi c):kS.own w [v,Qn f,Qn c] (Y,f,c) S :=
  kD.yN (r:=kW) (cs:=[v]) (ds:=[.int .i64 f,.int .i64 c]) k (kD.yJ (cs:=[.int .i64 f]) (kD.jG hf) (kD.jG hc))
def kZv {w0 w:Al} {p:Nat} (hc:yT w0 w p) :
    Ap prog 200 #[.pointer (some ⟨p,0,none⟩)] w λe w'=>∃ a c Y f O,e=.returned (.agg #[Qs a Y c,Qn f,Qn O])/\kW.own w' [Qs a Y c] Y (jU w.heap.size w'.heap.size)/\yu Y/\Y.length<=64/\(1<=f/\f<=4)/\(0<=O/\O<=4)/\yT w0 w' p/\Touch (λk=>k=p) w w':=by
 go_enter func200,ntmps200
 obtain ⟨ay,bt⟩:=hc.lt
 go_upto_region 1 with fail
 generalize F:World.alloc w _=w1
 have ag:Qb w w1:=rT
 have R:Qr w1 w.heap.size #[.slice none 0 0,Qn 0,Qn 0] 131:=vD
 have bf:w.heap.size + 1<=w1.heap.size:=bB3
 clear F
 obtain ⟨hc,J⟩:=xO
 clear ag
 go_wp2_with fail
 refine (zx (hc.below (bR.alloc nL _)) (kD.kAw _ [{ data:=#[47] },{ data:=#[47,97] },{ data:=#[47,98] },{ data:=#[47,97,47,110,101,119,115] },{ data:=#[47,110,101,119,115] }] bD0 bD0) bD1 bD0 bD0).mono ?_
 rintro e V ⟨y,ar,bz,rfl,G,D⟩
 obtain ⟨D,bg⟩:=CQ
 obtain ⟨R,J⟩:=DX
 clear hc D
 have hc:=G
 clear G
 go_wp2_with fail
 refine (yV (kD.kCk bD0 ar)).mono ?_
 rintro e w3 ⟨a,c,Y,rfl,hr,hl,a6,hb⟩
 have bi:=hb.size
 replace R:=kC R hb
 obtain ⟨hc,J⟩:=xE
 clear hb
 have HR:=yD (hr)
 clear hr
 go_wp2_with fail
 refine (ku (n:=4) hc bD0).mono ?_
 rintro e w4 ⟨x,ao,U,a1,rfl,G,D⟩
 have bu:=D.size
 replace R:=D.kC R bD1
 replace HR:=yD (HR.out.touch D pX)
 replace J:=J.trans D
 clear hc D
 have hc:=G
 clear G
 replace U:=U bD0
 clear a1
 have hw:IntKind.i64.wrap (1 + x)=1 + x:=IntWalk.i64_in _ bD1
 go_wp2_with fail
 refine (ku (n:=5) hc bD0).mono ?_
 rintro e w5 ⟨y,db,bk,bm,rfl,G,D⟩
 have br:=D.size
 replace R:=D.kC R bD1
 replace HR:=yD (HR.out.touch D pX)
 replace J:=J.trans D
 clear hc D
 have hc:=G
 clear G
 replace bk:=bk bD0
 clear bm
 obtain ⟨ac,an,bd⟩:=rowC3 R
 obtain ⟨ak,al,ax⟩:=rowF3 R
 go_wp2
 refine bodyPost_ret (v:=.agg #[Qs a Y c,.int .i64 (1 + x),Qn y]) (by simp [results,results200,go_sem,ac,an,bd,ak,al,ax]) rfl ⟨_,_,Y,1 + x,y,rfl,?_,a6,hl,by omega,by omega,hc.touch sT3 bD1 wW,J.jP sT3 bD1⟩
 exact (HR.out.touch sT3 sM).wide fF
def kMp {w0 w:Al} {p:Nat} (hc:yT w0 w p) :
    Ap prog 169 #[.pointer (some ⟨p,0,none⟩)] w λe w'=>∃ a c l,e=.returned (.slice a l.length c)/\(kD.slice 131 kS).own w' [Qs a l c] l (jU w.heap.size w'.heap.size)/\kAq 24 l/\yT w0 w' p/\Touch (λk=>k=p) w w':=by
 go_enter func169,ntmps169
 obtain ⟨ay,bt⟩:=hc.lt
 go_upto_region 2 with fail
 generalize F:World.alloc w _=w1
 have ag:Qb w w1:=rT
 have bf:w.heap.size + 1<=w1.heap.size:=bB3
 clear F
 obtain ⟨hc,J⟩:=xO
 clear ag
 go_wp2_with fail
 refine (ku (n:=8) hc bD0).mono ?_
 rintro e V ⟨m,bc,ad,c8,rfl,G,D⟩
 have bg:=D.size
 replace J:=J.trans D
 clear hc D
 have hc:=G
 clear G
 replace ad:=ad bD0
 clear c8
 obtain ⟨m,rfl⟩:=Ad bc
 go_wp2
 go_loopw [3,4] (λv i wr=>∃ (j:Nat) (a:Option Addr) (n c:Nat) (l:Ab kz),v=.slice a n c/\i=.int .i64 j/\Hid (kAq 24 l)/\Hid (n=l.length)/\j < 8/\Hid ((kD.slice 131 kS).own wr [.slice a n c] l (jU w.heap.size wr.heap.size))/\V.heap.size<=wr.heap.size/\yT w0 wr p/\Touch (λk=>k=p) w wr) (λ_ i _=>(intOf i).toNat)
 case atStart=>exact ⟨m,_,0,0,[],rfl,rfl,yD kAq.nil,yD rfl,by omega,yD kD.jr,Nat.le_refl _,hc,J⟩
 clear hc J
 obtain ⟨j,a,n,c,l,rfl,rfl,ae,HN,I,L,dp,hc,J⟩:=hrel
 have bz:=J.size
 cases j with
 | zero =>
   go_wp2;go_ret;have hn:=HN.out;subst hn;exact ⟨_,_,l,rfl,L.out,ae.out,hc,J⟩
 | succ j =>
   have dn:(0:Int) < (j:Int) + 1:=bD1;go_wp2_with fail;refine (kZv hc).mono ?_;rintro e w4 ⟨na,nc,Y,f,O,rfl,hr,a6,d6,hf,o,G,D⟩;have bu:=D.size;obtain ⟨L,J⟩:=xK;clear hc D;have hc:=G;clear G;have HR:=yD (kYj hr (f:=f) (c:=O) bD1 bD1);clear hr;go_wp2_with fail;refine (kUx L.out.rd HR.out.rd).mono ?_;rintro e w5 ⟨v2,rfl,ca,hb⟩;have br:=hb.size;replace L:=yD (L.out.below hb);replace HR:=yD (HR.out.below hb);obtain ⟨hc,J⟩:=xE;clear hb;have af:=yD (ae.out.addR (r:=(Y,f,O)) ⟨a6,d6⟩);generalize addR (Y,f,O) l=l2 at *;generalize kWu (Y,f,O) l=ok at *;obtain ⟨a2,c2,rfl,_⟩:=kD.sl ca.raw;have Z:=yD (ca.wide (T:=jU w.heap.size w5.heap.size) qL);clear ca L HR;go_wp2;go_roundw;case rel=>exact ⟨j,a2,l2.length,c2,l2,rfl,by go_num,af,yD rfl,by omega,Z,by omega,hc,J⟩
   case measure=>simp [intOf]
def kZw {w0 w:Al} {p:Nat} (hc:yT w0 w p) :
    Ap prog 112 #[.pointer (some ⟨p,0,none⟩)] w λe w'=>∃ a c l,e=.returned (.slice a l.length c)/\(kD.slice 131 kS).own w' [Qs a l c] l (jU w.heap.size w'.heap.size)/\kAq 48 l/\yT w0 w' p/\Touch (λk=>k=p) w w':=by
 go_enter func112,ntmps112
 obtain ⟨ay,bt⟩:=hc.lt
 go_wp2_with fail
 refine (kMp hc).mono ?_
 rintro e w1 ⟨a,c,l,rfl,hO,a6,G,D⟩
 have bf:=D.size
 have J:=D
 clear hc D
 have hc:=G
 clear G
 have L:=yD (hO)
 clear hO
 have W:=a6.1
 have ae:=yD a6
 clear a6
 go_wp2_with fail
 refine (ku (n:=10) hc bD0).mono ?_
 rintro e V ⟨m,bc,ad,c8,rfl,G,D⟩
 have bg:=D.size
 obtain ⟨L,J⟩:=xK
 clear hc D
 have hc:=G
 clear G
 replace ad:=ad bD0
 clear c8
 obtain ⟨m,rfl⟩:=Ad bc
 by_cases cd:m=0
 · subst cd;go_wp2_with fail;refine (kFa hc).mono ?_;rintro e w3 ⟨na,nc,O,rfl,hr,bw,N,G,D⟩;have bi:=D.size;obtain ⟨L,J⟩:=xK;clear hc D;have hc:=G;clear G;have HR:=yD (hr);clear hr;go_wp2_with fail;refine (zy (hc.below (bR.alloc nL _)) (kD.kEf _ [0,1,6,7] bD0 bD0) bD1 bD0 bD0).mono ?_;rintro e w4 ⟨f,I,X,rfl,G,D⟩;obtain ⟨D,bu⟩:=IL;obtain ⟨L,HR,J⟩:=CG;clear hc D;have hc:=G;clear G;have hf:=kD.kHd (lo:=0) (hi:=7) bD0 I;clear I;go_wp2_with fail;refine (zy (hc.below (bR.alloc nL _)) (kD.kEf _ [-1,0,1000,1001] bD0 bD0) bD1 bD0 bD0).mono ?_;rintro e w5 ⟨y,ar,bz,rfl,G,D⟩;obtain ⟨D,br⟩:=DF;obtain ⟨L,HR,J⟩:=CG;clear hc D;have hc:=G;clear G;have hy:=kD.kHd (lo:=-1) (hi:=1001) bD0 ar;clear ar;go_wp2_with (at_builtin;refine kD.zR rfl _ _ 30 rfl (r:=kS) (e:=131) Aj kCr rfl bD0 bD0 L.out bR (kYj HR.out bD1 bD1) bD3 bD3 pF bD1 ?_);intro v9 w9 bv aa;have R:=aa.size;have b2:=yD ((ae.out.snoc (r:=(O,f,y)) ⟨N,by show O.length<=64;omega⟩).mono (k:=48) bD1);generalize l++[(O,f,y)]=q at *;obtain ⟨a9,c9,b7,_⟩:=kD.kAx bv.raw;obtain rfl:v9=_:=by simpa using b7
   have b6:=yD (bv.wide (T:=jU w.heap.size w9.heap.size) bI);have E:=hc.touch aa tK sQ;have o:=J.kBq aa (λk q=>q.1.1);clear bv aa b7;go_wp2;go_ret;exact ⟨_,_,q,rfl,b6.out,b2.out,E,o⟩
 have H:¬ (m:Int)=0:=bD1
 by_cases cf:m=1
 · subst cf;go_wp2_with fail;refine (kCc L.out.rd).mono ?_;rintro e w3 ⟨vc,rfl,hr,hb⟩;have bi:=hb.size;replace L:=yD (L.out.below hb);obtain ⟨hc,J⟩:=xE;clear hb;have HR:=yD (hr);clear hr;obtain ⟨ya,Y,yc,hv,U⟩:=HR.out.parts;obtain rfl:=hv;go_wp2_with (at_builtin;refine kD.kMg rfl _ _ 30 rfl (r:=kS) (e:=131) Aj kCr rfl bD0 bD0 L.out HR.out bD3 bD3 pF bD1 ?_);intro v9 w9 bv aa;have R:=aa.size;have b2:=yD (ae.out.twice);generalize l++l=q at *;obtain ⟨a9,c9,b7,_⟩:=kD.kAx bv.raw;obtain rfl:v9=_:=by simpa using b7
   have b6:=yD (bv.wide (T:=jU w.heap.size w9.heap.size) bI);have E:=hc.touch aa tY tC;have o:=J.kBq aa (λk q=>q.1);clear bv aa b7;go_wp2;go_ret;exact ⟨_,_,q,rfl,b6.out,b2.out,E,o⟩
 have F:¬ (m:Int)=1:=bD1
 go_wp2
 go_ret
 exact ⟨_,_,l,rfl,L.out.wide rG,ae.out.mono bD1,hc,J⟩
def kYc {w:Al} {a b:Int}:Ap prog 215 #[.int .i64 a,.int .i64 b] w λe w'=>e=.returned (.int .i64 (min a b))/\w'=w:=by
 go_enter func215,ntmps215;by_cases h:b < a
 · have hd:decide (b < a)=true:=bB5;have U:=yD (show min a b=b by omega);exact lQ
 have hd:decide (b < a)=false:=bB5;have U:=yD (show min a b=a by omega);exact lQ
def specMax_c {w:Al} {a b:Int}:Ap prog 214 #[.int .i64 a,.int .i64 b] w λe w'=>e=.returned (.int .i64 (max a b))/\w'=w:=by
 go_enter func214,ntmps214;by_cases h:b > a
 · have hd:decide (b > a)=true:=bB5;have U:=yD (show max a b=b by omega);exact lQ
 have hd:decide (b > a)=false:=bB5;have U:=yD (show max a b=a by omega);exact lQ
def upF (x:Int):Int:=min 50 (wrap64 (x + 1))
def upF_rng {x:Int}:-9223372036854775808<=upF x/\upF x<=9223372036854775807:=by
 unfold upF;unfold wrap64;omega
def recF (n:kr) (f:Int) (l:Ab kT):Ab kT :=
  if zf n && inR f 1 6 then
    (if idxOf (yX n f) l < 0 then (if l.length < 24 then l++[(n,f,1)] else l)
     else l.set (idxOf (yX n f) l).toNat (zg (l.getD (idxOf (yX n f) l).toNat ([],0,0)) (upF (l.getD (idxOf (yX n f) l).toNat ([],0,0)).2.2)))
  else l
def recF_no {n:kr} {f:Int} {l:List kT} (h:(zf n && inR f 1 6)=false):recF n f l=l:=by unfold recF;rw [h];rfl
def recF_new {n:kr} {f:Int} {l:List kT} (h:(zf n && inR f 1 6)=true) (h2:idxOf (yX n f) l < 0) (h3:l.length < 24):recF n f l=l++[(n,f,1)]:=by unfold recF;rw [if_pos h,if_pos h2,if_pos h3]
def recF_full {n:kr} {f:Int} {l:List kT} (h:(zf n && inR f 1 6)=true) (h2:idxOf (yX n f) l < 0) (h3:¬ l.length < 24):recF n f l=l:=by unfold recF;rw [if_pos h,if_pos h2,if_neg h3]
def recF_up {n:kr} {f:Int} {l:Ab kT} {k:Nat} (h:(zf n && inR f 1 6)=true) (h2:idxOf (yX n f) l=k) (hk:k < l.length):recF n f l=l.set k (zg l[k] (upF l[k].2.2)):=by
 unfold recF;simp only [h,h2,Aa,jZ hk];rw [if_pos trivial,if_neg bD1]
def kLz {w:Al} {vl:Value} {l:Ab kT} (hl:(kD.slice 149 kL).rd w [vl] l) {cn:Ab Value} {n:kr} (hn:kW.rd w cn n) {f:Int} (hf:Qi f) :
    Ap prog 202 #[vl,.agg cn.toArray,.int .i64 f] w (kBm (kD.slice 149 kL) (recF n f l) w):=by
 obtain ⟨HL,HN,bc⟩:=G7
 obtain ⟨nv,rfl,a9⟩:=ko hn.1
 obtain ⟨na,np,rfl,_⟩:=kD.sl a9
 obtain ⟨va,vp,rfl,Z⟩:=kD.sl hl.1
 clear a9 hl hn
 go_enter func202,ntmps202
 go_wp2_with fail
 generalize J:World.alloc w _=N
 obtain ⟨R,K0,bq⟩:=GL
 clear J
 refine (kEu (HL.out.below R)).mono ?_
 rintro e w1 ⟨v1,rfl,O1,O⟩
 replace K0:=cL O K0
 obtain ⟨E1,bj,L⟩:=IR
 obtain ⟨oa,on,oc,ho,bh⟩:=O1.parts;obtain rfl:=ho
 clear O1 O R
 have HF:=yD hf
 clear hf
 go_wp2_with fail
 refine (yZ (HN.out.1.below E1)).mono ?_
 rintro e V ⟨rfl,ab⟩
 replace K0:=cL ab K0
 have E2:=(tQ E1 ab)
 have a7:=ab.size
 replace L:=yD ((L.out.below ab).wide (T:=jU w.heap.size V.heap.size) rC)
 clear ab E1
 cases hv:zf n
 · have U:=yD (recF_no (f:=f) (l:=l) (by rw [hv];rfl));go_wp2;go_ret;exact ⟨_,rfl,(L.out.cast U.out.symm).own vO,E2⟩
 go_wp2_with fail
 refine jw.mono ?_
 rintro e w3 ⟨rfl,a2⟩
 obtain rfl:=a2.symm
 clear a2
 cases hi:inR f 1 6
 · have U:=yD (recF_no (f:=f) (l:=l) (by rw [hv,hi];rfl));go_wp2;go_ret;exact ⟨_,rfl,(L.out.cast U.out.symm).own vO,E2⟩
 have HB:Hid ((zf n && inR f 1 6)=true):=yD (by rw [hv,hi];rfl)
 clear hv hi
 go_wp2_with fail
 refine (kEt (HL.out.1.below E2) (HN.out.1.below E2)).mono ?_
 rintro e w4 ⟨rfl,aj⟩
 replace K0:=cL aj K0
 have E4:=(tQ E2 aj)
 obtain ⟨b3,L⟩:=H8
 clear aj E2
 by_cases hk:idxOf (yX n f) l < 0
 · have co:¬ (0<=idxOf (yX n f) l):=bD1;generalize hq:idxOf (yX n f) l=q at *;have HQ:=yD hq;clear hq;by_cases af:l.length < 24
   · have Y:(l.length:Int) < 24:=bD1;have U:=yD (recF_new HB.out (by rw [HQ.out];exact hk) af);go_wp2_with fail;refine (zT (HN.out.below E4)).mono ?_;rintro e wT ⟨tc,rfl,OT,an⟩;obtain ⟨c7,rfl,a5⟩:=ko OT.raw;obtain ⟨a8,bm,rfl,_⟩:=kD.sl a5;clear a5;go_upto_region 9 with fail;generalize D:World.alloc wT _=wC;have EC:Qb wT wC:=rU;have KC:Qd wC wT 0 (.slice a8 n.length bm):=tV;clear D;have ER:=(tQ an EC);have bk:=an.size;have au:=EC.size;have W:=OT.below EC;replace L:=yD (L.out.below ER);have aq:on<=24:=vX;go_wp2_with (at_builtin;refine kD.jO rfl _ _ 31 rfl (r:=kL) (e:=149) Ak kAo rfl bD0 bD0 (B:=w.heap.size) L.out bD3 bD3 rfl (kD.own.wide (T:=jU w4.heap.size wT.heap.size) (kD.yN (r:=kW) (q:=kD.pair kD.int kD.int) (cs:=[.slice a8 n.length bm]) (ds:=[.int .i64 f,.int .i64 1]) (x:=n) (y:=(f,1)) (W) (kD.yJ (kD.jG HF.out) (kD.jG (n:=1) bD1))) (λj I=>I)) rfl mZ rC mU bD1 vX ?_);intro v5 w5 F G ce;have az:=yD (F.cast U.out.symm);have E5:=(tQ E4 ER).trans G;clear F G;go_wp2;go_ret;exact ⟨_,rfl,az.out.own (by rw [U.out,List.length_append];unfold Big;simp;omega),E5⟩
   have Y:¬ (l.length:Int) < 24:=bD1;have U:=yD (recF_full HB.out (by rw [HQ.out];exact hk) af);go_wp2;go_ret;exact ⟨_,rfl,(L.out.cast U.out.symm).own vO,E4⟩
 obtain ⟨k,am,ad⟩:=kGb hk
 have ar:=yD ad
 rw [ad]
 clear hk ad
 obtain ⟨b,cap,hv,X,aw,bw,bo⟩:=kD.kAr L.out am
 simp only [Ac] at hv
 obtain ⟨rfl,o,rfl⟩:=hv
 have a4:k < on:=bD1
 obtain ⟨bv,a3⟩:=GU
 have ba:=yD (L.out.own bc)
 obtain ⟨c0,c1,c2,hr,A0,A1,A2⟩:=kD.at3 ba.out.raw am rfl
 obtain ⟨rv,ae,bl,ai,bf,bp⟩:=jh hr
 simp only [Am,and_true] at ae
 obtain ⟨rfl,rfl,rfl⟩:=ae
 have ah:=kD.kHb L.out bD1 (k * 3 + 2)
 have U:=yD (recF_up HB.out ar.out am)
 obtain ⟨s1,s2⟩:=kD.kFu (i:=k) (j:=2) (p:=k * 3 + 2) (u:=.int .i64 (upF l[k].2.2)) L.out bc am bD0 (λh=>kHe _ upF_rng h) (show kL.bdd Big (zg l[k] (upF l[k].2.2)) from kD.yh ba.out.rd am) rfl
 have aa:=yD (λv (hv:v=upF l[k].2.2)=>(show kD.kU 149 kL (w4.setCell ⟨b,k * 3 + 2,none⟩ (.int .i64 v)) _ _ _ from hv ▸ s1.cast U.out.symm));clear s1 s2 o hr bl ai bf
 go_wp2_with fail
 refine kYc.mono ?_
 rintro e w6 ⟨rfl,cc⟩
 obtain rfl:=cc.symm
 clear cc
 go_wp2
 all_goals go_ret
 all_goals exact ⟨_,rfl,((aa.out _ (by unfold upF;omega)).own qU).wide mP,E4.setCell X.1 _⟩
def recS (n:kr) (f:Int) (l:Ab kT):Ab kT :=
  if idxOf (yX n f) l < 0 then l
  else if (l.getD (idxOf (yX n f) l).toNat ([],0,0)).2.2 < 2 then l.take (idxOf (yX n f) l).toNat++l.drop ((idxOf (yX n f) l).toNat + 1)
  else l.set (idxOf (yX n f) l).toNat (zg (l.getD (idxOf (yX n f) l).toNat ([],0,0)) ((l.getD (idxOf (yX n f) l).toNat ([],0,0)).2.2 / 2))
def recS_none {n:kr} {f:Int} {l:List kT} (h:idxOf (yX n f) l < 0):recS n f l=l:=by unfold recS;rw [if_pos h]
def recS_cut {n:kr} {f:Int} {l:Ab kT} {k:Nat} (h:idxOf (yX n f) l=k) (hk:k < l.length) (h2:l[k].2.2 < 2):recS n f l=l.take k++l.drop (k + 1):=by
 unfold recS;simp only [h,Aa,jZ hk];rw [if_neg bD1,if_pos h2]
def recS_half {n:kr} {f:Int} {l:Ab kT} {k:Nat} (h:idxOf (yX n f) l=k) (hk:k < l.length) (h2:¬ l[k].2.2 < 2):recS n f l=l.set k (zg l[k] (l[k].2.2 / 2)):=by
 unfold recS;simp only [h,Aa,jZ hk];rw [if_neg bD1,if_neg h2]
def kLy {w:Al} {vl:Value} {l:Ab kT} (hl:(kD.slice 149 kL).rd w [vl] l) {cn:Ab Value} {n:kr} (hn:kW.rd w cn n) {f:Int} (hf:Qi f) :
    Ap prog 203 #[vl,.agg cn.toArray,.int .i64 f] w (kBm (kD.slice 149 kL) (recS n f l) w):=by
 obtain ⟨HL,HN,bc⟩:=G7
 obtain ⟨nv,rfl,a9⟩:=ko hn.1
 obtain ⟨na,np,rfl,_⟩:=kD.sl a9
 clear a9 hl hn hf
 go_enter func203,ntmps203
 go_wp2_with fail
 generalize J:World.alloc w _=N
 obtain ⟨R,K0,bq⟩:=GL
 clear J
 refine (kEu (HL.out.below R)).mono ?_
 rintro e w1 ⟨v1,rfl,O1,O⟩
 replace K0:=cL O K0
 have E1:=(tQ R O)
 have L:=yD O1
 obtain ⟨oa,on,oc,ho,bh⟩:=O1.parts;obtain rfl:=ho
 clear O1 O
 go_wp2_with fail
 refine (kEt (HL.out.1.below E1) (HN.out.1.below E1)).mono ?_
 rintro e V ⟨rfl,ab⟩
 have E2:=(tQ E1 ab)
 have bj:=E1.size
 have a7:=ab.size
 replace L:=yD ((L.out.below ab).wide (T:=jU w.heap.size V.heap.size) mU)
 clear ab E1 R
 by_cases hk:idxOf (yX n f) l < 0
 · have U:=yD (recS_none hk);go_wp2;go_ret;exact ⟨_,rfl,(L.out.cast U.out.symm).own (by rw [U.out];unfold Big;omega),E2⟩
 obtain ⟨k,am,ad⟩:=kGb hk
 have ar:=yD ad
 rw [ad]
 clear hk ad
 obtain ⟨b,cap,hv,F⟩:=kD.kLt L.out am
 simp only [Ac] at hv
 obtain ⟨rfl,o,rfl⟩:=hv
 have a4:k < on:=bD1
 rw [List.drop_eq_getElem_cons am] at F
 have Z:=F.len
 simp only [List.length_take,List.length_cons,List.length_drop] at Z
 have bw:on<=oc:=by have:=Z.2.1;omega
 have bo:oc<=9223372036854775807:=pO
 have X:=F.mem
 have ah:=F.frozen (k * 3 + 2)
 have G:Hid (kD.gap 149 kL V b oc l.length (l.take k) 1 (l.drop (k + 1)) (jU w.heap.size V.heap.size)):=yD F.skip
 clear F Z
 have ba:=yD (L.out.own bc)
 obtain ⟨c0,c1,c2,hr,A0,A1,A2⟩:=kD.at3 ba.out.raw am rfl
 obtain ⟨rv,ae,bl,ai,bf,bp⟩:=jh hr
 simp only [Am,and_true] at ae
 obtain ⟨rfl,rfl,rfl⟩:=ae
 have ak:=yD (recS_cut ar.out am)
 have Y:=yD (recS_half ar.out am)
 have al:=yD (λ(v:Int) (hv:Qi v)=>kD.kFu (i:=k) (j:=2) (p:=k * 3 + 2) (u:=.int .i64 v) L.out bc am bD0 (λh=>kHe v hv h) (show kL.bdd Big (zg l[k] v) from kD.yh ba.out.rd am) rfl)
 have bh:=yD o
 clear o hr bl ai bf
 obtain ⟨bv,a3⟩:=GU
 have cz:k<=oc:=bD1
 have av:=Go.IntWalk.i64_in ((k:Int) + 1) bD1
 by_cases h2:l[k].2.2 < 2
 · have U:=yD (ak.out h2);clear ak Y al;have HK:Hid ((l.take k).length=k):=yD bC6;have dy:k + 1<=oc:=bD1;have co:k + 1<=on:=bD1;have er:(k:Int) + 1<=on:=bD1;have ao:(0:Int)<=(k:Int) + 1:=bD1;by_cases an:oc=k + 1
   · have HR:Hid ((l.drop (k + 1)).length=0):=yD (by have:=bh.out;simp;omega);obtain rfl:on=k + 1:=bD1;subst an;have au:(k:Int)<=(k:Int) + 1:=bD1;go_upto_region 6 with fail;refine jo (λW=>Qb V W) [(1,true),(2,true),(3,true),(5,true),(6,true),(7,true),(8,true),(0,false),(4,false),(9,false),(10,true)] bC5 bC5 pY (bR.drew) ?_;intro wS E;simp only [jB,Ae,Ag,List.map_cons,List.map_nil];iterate 7
      all_goals refine kX ?_
     all_goals first|(refine kG rfl E ?_)|(refine kY rfl (λK H=>?_);go_simp;generalize az:World.alloc wS _=wU;replace E:Qb V wU:=(by rw [<- az];exact E.alloc E.size _);clear az;refine H _ _ E ?_;clear H K)
     all_goals refine jD ?_
     all_goals first|(refine kG rfl E ?_)|(refine kY rfl (λK H=>?_);obtain ⟨v3,u3,bd,ap,v4,u4,ag,aq,aj⟩:=kD.kHa (P:=prog) (t:=31) Ak kAo rfl bD0 bD0 G.out E (a0:=some ⟨wS.heap.size,0,none⟩) bD1 (k + 1) 0 31 31 (q:=0) (kl:=k) (rl:=0) (λhne=>absurd (List.eq_nil_of_length_eq_zero HR.out) hne) HK.out.symm HR.out.symm;have ac:=(tQ E ap);refine kD.kV _ _ _ rfl bD3 bD3 bd ?_;refine H _ _ ac ?_;clear H K)
     all_goals refine jD ?_
     all_goals first|(refine kG rfl E ?_)|(refine kY rfl (λK H=>?_);have D:=(tQ E aj);refine kD.kV _ _ _ rfl bD3 bD3 ag ?_;refine H _ _ D ?_;clear H K)
     all_goals refine jD ?_
     all_goals refine kX ?_
     all_goals refine kR ?_
     exact mV
   have HR:Hid ((l.drop (k + 1)).length=on - (k + 1)):=yD (by have:=bh.out;simp;omega);go_upto_region 6 with fail;refine jo (λW=>Qb V W) [(1,true),(2,true),(3,true),(5,true),(6,true),(7,true),(8,true),(0,false),(4,false),(9,false),(10,true)] bC5 bC5 pY (bR.drew) ?_;intro wS E;simp only [jB,Ae,Ag,List.map_cons,List.map_nil];iterate 7
    all_goals refine kX ?_
   all_goals first|(refine kG rfl E ?_)|(refine kY rfl (λK H=>?_);go_simp;generalize az:World.alloc wS _=wU;replace E:Qb V wU:=(by rw [<- az];exact E.alloc E.size _);clear az;refine H _ _ E ?_;clear H K)
   all_goals refine jD ?_
   all_goals first|(refine kG rfl E ?_)|(refine kY rfl (λK H=>?_);obtain ⟨v3,u3,bd,ap,v4,u4,ag,aq,aj⟩:=kD.kHa (P:=prog) (t:=31) Ak kAo rfl bD0 bD0 G.out E (a0:=some ⟨wS.heap.size,0,none⟩) bD1 oc (oc - (k + 1)) 31 31 (q:=((k + 1) * 3)) (kl:=k) (rl:=(on - (k + 1))) (λ_=>by rw [HK.out];rfl) HK.out.symm HR.out.symm;have ac:=(tQ E ap);refine kD.kV _ _ _ rfl bD3 bD3 bd ?_;refine H _ _ ac ?_;clear H K)
   all_goals refine jD ?_
   all_goals first|(refine kG rfl E ?_)|(refine kY rfl (λK H=>?_);have D:=(tQ E aj);refine kD.kV _ _ _ rfl bD3 bD3 ag ?_;refine H _ _ D ?_;clear H K)
   all_goals refine jD ?_
   all_goals refine kX ?_
   all_goals refine kR ?_
   exact mV
 have U:=yD (Y.out bD1)
 obtain ⟨s1,s2⟩:=al.out (l[k].2.2 / 2) bD1
 have aa:=yD s1;have af:=yD s2
 clear ak Y al s1 s2 G
 go_wp2
 go_ret
 exact ⟨_,rfl,((aa.out.cast U.out.symm).own qU).wide mP,E2.setCell X.1 _⟩
end Go.Proofs.YtjhfdpopkkmigaaGreat
