/-
  Data kept: the entries of the name go, the one least lately used goes if there is no room.
-/
import Derived.Test.YtonmjkmaadgceaaGreatWoC
set_option linter.unusedVariables false
set_option linter.unusedSimpArgs false
set_option linter.unnecessarySimpa false
set_option maxRecDepth 100000
set_option maxHeartbeats 4000000
namespace Go.Proofs.YtonmjkmaadgceaaGreat
open Go.RowKit _root_.Go.Proofs.Tryz
def lastU (l:List kr) (k:Nat):Int:=(l.map Prod.snd).getD k 0
theorem kKu {l:List kr} {k:Nat} (h:k < l.length):lastU l k=l[k].2:=by
 unfold lastU
 rw [List.getD_eq_getElem?_getD,List.getElem?_eq_getElem bA5]
 simp
def kDn (l:List kr):Nat→Nat
  | 0=>0
  | k + 1=>if lastU l k < lastU l (kDn l k) then k else kDn l k
theorem leastA_one (l:List kr):kDn l 1=0:=by simp [kDn]
theorem kTc {l:List kr} {k b:Nat} (hb:kDn l k=b) (hk:k < l.length) (bk:b < l.length) (h:l[k].2 < l[b].2):kDn l (k + 1)=k:=by
 unfold kDn;rw [hb,kKu hk,kKu bk,if_pos h]
theorem kVo {l:List kr} {k b:Nat} (hb:kDn l k=b) (hk:k < l.length) (bk:b < l.length) (h:¬ l[k].2 < l[b].2):kDn l (k + 1)=b:=by
 unfold kDn;rw [hb,kKu hk,kKu bk,if_neg h]
def kCi (y:jG) (x:kg):Bool:=decide (x.1 < 1) || !kBc y
def kCf (n:kQ) (l:List kr):List kr:=l.filter (fun e=>!isC n e)
def kFx (c:Int) (l:List kr):List kr:=if c≤l.length then l.take (kDn l l.length)++l.drop (kDn l l.length + 1) else l
def kAb (y:jG) (t:Int) (x:kg):kg:=if kCi y x then x else (x.1,kFx x.1 (kCf y.1 x.2)++[(y,t)])
theorem kOf {y:jG} {t:Int} {x:kg} (h:kCi y x=true):kAb y t x=x:=by unfold kAb;rw [h];rfl
theorem kGw {y:jG} {t:Int} {x:kg} (h:kCi y x=false):kAb y t x=(x.1,kFx x.1 (kCf y.1 x.2)++[(y,t)]):=by unfold kAb;rw [h];rfl
theorem kSq {c:Int} {l:List kr} {b:Nat} (hb:kDn l l.length=b) (h:c≤l.length):kFx c l=l.take b++l.drop (b + 1):=by unfold kFx;rw [if_pos h,hb]
theorem kSr {c:Int} {l:List kr} (h:¬ c≤l.length):kFx c l=l:=by unfold kFx;rw [if_neg h]
theorem kOv (c:Int) (l:List kr):(kFx c l).length≤l.length:=by
 unfold kFx
 split
 · simp;omega
 exact Nat.le_refl _
def lenAt (w:World) (b j:Nat):Nat:=match w.cell? ⟨b,j,none⟩ with
  | some (.slice _ n _)=>n
  | _=>0
theorem lenAt_eq {w:World} {b:Nat} {c:Value} {a:Option Addr} {n cap:Nat} {t:TypeId} (h:w.heap[b]?=some (.cells #[c,.slice a n cap] t (0,0))):lenAt w b 1=n:=by
 unfold lenAt
 rw [kF h (j:=1) (v:=.slice a n cap) rfl]
theorem kSu (n:kQ) (l:List kr):(kCf n l).length≤l.length:=List.length_filter_le _ _
theorem otherC_no {n:kQ} {l:List kr} (h:idxOf (isC n) l < 0):kCf n l=l:=by
 unfold kCf
 rw [List.filter_eq_self]
 intro a ha
 unfold idxOf at h
 cases hf:l.findIdx? (isC n) with
 | none=>rw [List.findIdx?_eq_none_iff.1 hf a ha];rfl
 | some j=>rw [hf] at h;simp only at h;omega
theorem otherC_step {n:kQ} {l:List kr} {k:Nat} (hk:k < l.length) (h:idxOf (isC n) l=k):kCf n (l.take k++l.drop (k + 1))=kCf n l:=by
 unfold idxOf at h
 cases hf:l.findIdx? (isC n) with
 | none=>rw [hf] at h;simp only at h;omega
 | some j =>
   rw [hf] at h
   simp only at h
   obtain rfl:j=k:=bB9
   have hp:=(List.findIdx?_eq_some_iff_getElem.1 hf).2.1
   unfold kCf
   conv=>rhs;rw [← List.take_append_drop j l,List.drop_eq_getElem_cons hk]
   rw [List.filter_append,List.filter_append,List.filter_cons,hp]
   simp
theorem kPk {w:World} {cc:List Value} {c:kr} (hc:kw.raw w cc c) {y:jG} {ay bd a9 am ar:Value} {O:Nat} (yr:jA.raw w [ay,bd,a9,am,ar] y) (ac:w.cell? ⟨O,0,none⟩=some ay) (aw:w.cell? ⟨O,1,none⟩=some bd) (ag:w.cell? ⟨O,2,none⟩=some a9) (D:w.cell? ⟨O,3,none⟩=some am) (I:w.cell? ⟨O,4,none⟩=some ar) :
    Calls prog 72 (#[.agg cc.toArray]++#[.pointer (some ⟨O,0,none⟩)]) w (bQ w (.bool (!isC y.1 c))):=by
 have Hc:=yD hc
 obtain ⟨ao,av,ax,rfl,a2,ae,ak,F,a1,L,a3,a4,au⟩:=jv hc
 obtain ⟨al,aj,rfl,aq⟩:=kE.sl ak
 obtain ⟨X,ah,rfl,ap⟩:=kE.sl F
 obtain ⟨ai,ab,rfl,an⟩:=kE.sl L
 obtain ⟨dp,ea,d9,b2,bj,bu,b1,ce,cq,cv,cw⟩:=jN yr
 simp only [List.cons.injEq,and_true] at b2
 obtain ⟨rfl,rfl,rfl,rfl,rfl⟩:=b2
 obtain ⟨bl,b0,rfl,ef⟩:=kE.sl bu
 obtain ⟨co,cl,rfl,ee⟩:=kE.sl b1
 obtain ⟨cj,b4,rfl,eh⟩:=kE.sl cq
 show Calls prog 72 #[_,_] w _
 go_enter func72,ntmps72
 go_upto_region 1 with fail
 generalize H:World.alloc w _=N
 have Z:Below w.heap.size w N:=by rw [← H];exact bI
 have R:N.cell? ⟨w.heap.size,0,none⟩=some (.slice al (c.1.1).length aj):=tN
 have V:N.cell? ⟨w.heap.size,1,none⟩=some (.slice X (c.1.2.1).length ah):=tN
 have J:N.cell? ⟨w.heap.size,2,none⟩=some (.slice ai (c.1.2.2.1).length ab):=tN
 have Y:N.cell? ⟨w.heap.size,3,none⟩=some (.int .i64 c.1.2.2.2.1):=tN
 have aa:N.cell? ⟨w.heap.size,4,none⟩=some (.int .i64 c.1.2.2.2.2):=tN
 have az:N.cell? ⟨w.heap.size,5,none⟩=some (.int .i64 c.2):=tN
 clear H
 replace ac:=cL Z ac
 replace aw:=cL Z aw
 replace ag:=cL Z ag
 replace D:=cL Z D
 replace I:=cL Z I
 have FX:=yD (fun (W:World) (hW:Below N.heap.size N W)=>cLs11 hW R V J Y aa az ac aw ag D I)
 refine kz (fun W=>Below N.heap.size N W) [true,true,true,true,true,false,true,true] bR ?_
 intro wS E
 iterate 5
  all_goals refine kS ?_
 all_goals first | refine wkB (ym (kE.raw.below ae (tQ Z E)) (kE.raw.below bj (tQ Z E))) (fun wS1 E=>?_) | refine kS ?_
 all_goals refine kS ?_
 all_goals (have af:=True.intro;first|(refine yT (fun b af=>?_);cases b;all_goals first | exact Bool.noConfusion af | simp only [zU,zV] at af | skip) | refine kS ?_)
 all_goals refine kX ?_
 all_goals refine kZ ?_
 all_goals have G:=(tQ Z E)
 all_goals first
   | (have U:=yD (show (!isC y.1 c)=false by simp only [isC,Bool.not_true,Bool.not_false,Bool.and_true,Bool.true_and,Bool.and_false,Bool.false_and,Bool.or_true,Bool.true_or,Bool.or_false,Bool.false_or,Bool.not_not,af]);go_wp2;go_ret;exact ⟨kR U.out.symm,G⟩)
   | (have U:=yD (show (!isC y.1 c)=true by simp only [isC,Bool.not_true,Bool.not_false,Bool.and_true,Bool.true_and,Bool.and_false,Bool.false_and,Bool.or_true,Bool.true_or,Bool.or_false,Bool.false_or,Bool.not_not,af]);go_wp2;go_ret;exact ⟨kR U.out.symm,G⟩)
theorem kGh:jb prog 72:=zY func72 bB4 bB4
theorem kJf {w:World} {cx:List Value} {x:kg} (hx:kN.rd w cx x) {cy:List Value} {y:jG} (hy:jA.rd w cy y) {t:Int} (ht:-9223372036854775808≤t∧t≤9223372036854775807) (hB:x.2.length≤16777215) :
    Calls prog 107 #[.agg cx.toArray,.agg cy.toArray,.int .i64 t] w (kAn kN (kAb y t x) w):=by
 obtain ⟨xc,xe⟩:=x
 obtain ⟨y0,y1,y2,y3,y4⟩:=y
 have HX:=yD hx
 have HY:=yD hy
 have HF:=yD ht
 have ci:xe.length≤16777215:=hB
 obtain ⟨d1,rfl,c6,cz⟩:=jQ hx.1
 obtain ⟨ay,bx,rfl,xl⟩:=kE.sl cz
 have am:-9223372036854775808≤xc∧xc≤9223372036854775807:=c6
 have eq:=am.1
 have ev:=am.2
 obtain ⟨dp,ea,d9,rfl,bj,bu,b1,ce,cq,cv,cw⟩:=jN hy.1
 obtain ⟨bl,b0,rfl,ef⟩:=kE.sl bu
 obtain ⟨co,cl,rfl,ee⟩:=kE.sl b1
 obtain ⟨cj,b4,rfl,eh⟩:=kE.sl cq
 obtain ⟨dd,fh⟩:=BJ
 clear hx hy ht hB c6 cz xl bj bu b1 ce cq cv cw
 go_enter func107,ntmps107
 go_upto_region 1 with fail
 generalize F:World.alloc (World.alloc (World.alloc w _) _) _=w1
 obtain ⟨X,BX,BY,BR,bn⟩:=uM
 clear F
 obtain ⟨aa,ab⟩:=jc BX
 go_wp2_with fail
 refine (kLr (HX.out.below X)).mono ?_
 rintro e V ⟨kv,rfl,O,hb⟩
 have bo:=hb.size
 obtain ⟨BX,BY⟩:=DX
 replace BR:=kD BR hb
 replace X:=(tQ X hb)
 clear aa ab
 clear hb
 replace O:=kE.ku.cast O (show _=xe from rfl)
 obtain ⟨oa,oc,rfl⟩:=O.zL
 have L:=yD (O.wide (T:=(fun j=>w.heap.size + 3≤j∧j < V.heap.size)) rJ)
 clear O
 go_upto_region 2 with fail
 generalize F:World.alloc V _=w3
 have ap:Below V.heap.size V w3:=rX
 have I:w3.heap[V.heap.size]?=some (.cells #[.int .i64 xc,.slice oa xe.length oc] 27 (0,0)):=tX
 have bp:V.heap.size + 1≤w3.heap.size:=bA3
 clear F
 replace BX:=kD BX ap
 replace BY:=kD BY ap
 obtain ⟨BR,L,X⟩:=D5
 clear ap
 obtain ⟨aa,ab⟩:=jc BX
 obtain ⟨be,bf,bc,bg,a9⟩:=jU BY
 go_upto_region 2 with fail
 have FX:=yD (fun (W:World) (hW:Below w3.heap.size w3 W)=>cLs6 hW aa be bf bc bg a9)
 refine kz (fun W=>Below w3.heap.size w3 W) [true,true,true,true,true,false,true,true] bR ?_
 intro wS E
 iterate 3
  all_goals refine kS ?_
 all_goals (have ag:=True.intro;first|(refine yT (fun b ag=>?_);cases b;all_goals first | exact Bool.noConfusion ag | simp only [zU,zV] at ag | skip) | refine kS ?_)
 all_goals refine kX ?_
 all_goals refine kS ?_
 all_goals first | refine wkB (kDa (dd.out.below (tQ X E))) (fun wS1 E=>?_) | refine kS ?_
 all_goals refine kS ?_
 all_goals (have af:=True.intro;first|(refine yT (fun b af=>?_);cases b;all_goals first | exact Bool.noConfusion af | simp only [zU,zV] at af | skip) | refine kS ?_)
 all_goals refine kX ?_
 all_goals refine kZ ?_
 all_goals rename World=>w4
 all_goals have b9:=E.size
 all_goals replace BX:=kD BX E
 all_goals replace BY:=kD BY E
 all_goals replace BR:=kD BR E
 all_goals replace I:=kD I E
 all_goals replace L:=yD (L.out.below E)
 all_goals replace X:=(tQ X E)
 all_goals clear aa ab be bf bc bg a9
 all_goals clear E
 all_goals first
   | (have U := yD (kOf (t := t) (show kCi (y0, y1, y2, y3, y4) (xc, xe) = true by simp only [kCi, Bool.not_true, Bool.not_false, Bool.and_true, Bool.true_and, Bool.and_false, Bool.false_and, Bool.or_true, Bool.true_or, Bool.or_false, Bool.false_or, Bool.not_not, ag, af]))
      obtain ⟨H,G⟩:=jc I
      obtain ⟨ax,a1⟩:=jc BR
      obtain ⟨ar,aq⟩:=kAo BR
      go_wp2
      refine bodyPost_ret (v:=.agg #[.int .i64 xc,.slice oa xe.length oc]) gW rfl ⟨[.int .i64 xc,.slice oa xe.length oc],rfl,?_,?_⟩
      · rw [U.out];exact ((show kN.own _ _ (xc,xe) _ from kE.kBe (r:=kE.int) (q:=(kE.slice 98 kw)) (cs:=[.int .i64 xc]) (kE.ky am) (L.out.own vV)).touch ((kC _ _ _ _).trans (kC _ _ _ _)) rR).wide fM
      · exact X.trans (Touch.below ((kC _ _ _ _).trans (kC _ _ _ _)) X.size wB))
   | skip
 all_goals
   (have dk:=yD (show kCi (y0,y1,y2,y3,y4) (xc,xe)=false by simp only [kCi,Bool.not_true,Bool.not_false,Bool.and_true,Bool.true_and,Bool.and_false,Bool.false_and,Bool.or_true,Bool.true_or,Bool.or_false,Bool.false_or,Bool.not_not,ag,af])
    have b8:¬ xc < 1:=by simpa using ag
    clear ag af
    obtain ⟨H,G⟩:=jc I
    obtain ⟨be,bf,bc,bg,a9⟩:=jU BY
    go_wp2_with fail
    refine (kEv (L.out.own vV).raw (cn:=[.slice bl y0.length b0]) (fh.out.below X)).mono ?_
    rintro e w5 ⟨rfl,hb⟩
    have cd:=hb.size
    obtain ⟨BX,BY⟩:=DX
    obtain ⟨BR,I,L,X⟩:=qW
    clear H G be bf bc bg a9
    clear hb
    go_wp2
    go_loopw [8] (fun i wr=>∃ (C:List kr) (ca:Option Addr) (cc:Nat),i=.int .i64 (idxOf (isC y0) C)∧Hid (kCf y0 C=kCf y0 xe)∧C.length≤xe.length∧Hid (kE.ku 98 kw wr (.slice ca C.length cc) C (fun j=>w.heap.size + 3≤j∧j < wr.heap.size∧j≠V.heap.size))∧wr.heap[w.heap.size]?=some (.cells #[.int .i64 xc,.slice ay xe.length bx] 27 (0,0))∧wr.heap[w.heap.size + 1]?=some (.cells #[.slice bl y0.length b0,.slice co y1.length cl,.slice cj y2.length b4,.int .i64 y3,.int .i64 y4] 43 (0,0))∧wr.heap[w.heap.size + 2]?=some (.cells #[.int .i64 0,.slice none 0 0] 27 (0,0))∧wr.heap[V.heap.size]?=some (.cells #[.int .i64 xc,.slice ca C.length cc] 27 (0,0))∧w5.heap.size≤wr.heap.size∧Below w.heap.size w wr) (fun _ wr=>lenAt wr (V.heap.size) 1)
    case atStart=>exact ⟨xe,oa,oc,rfl,yD rfl,Nat.le_refl _,yD (L.out.wide (fun j q=>⟨q.1,by have:=q.2;omega,by have:=q.2;omega⟩)),BX,BY,BR,I,Nat.le_refl _,X⟩
    case round =>
      rename World=>wq
      clear X BX BY BR I L
      obtain ⟨C,ca,cc,rfl,HA,hC,L,BX,BY,BR,I,hn,X⟩:=hrel
      have a5:=yD (lenAt_eq I)
      by_cases hf:idxOf (isC y0) C < 0
      · have d4:¬ (0≤idxOf (isC y0) C):=bB9
        have HK:=yD (HA.out.symm.trans (otherC_no hf))
        generalize idxOf (isC y0) C=ix at *
        have fv:=hC
        obtain ⟨K,a8⟩:∃ K,K=C:=⟨_,rfl⟩
        subst a8
        obtain ⟨ka,a3⟩:∃ k,k=ca:=⟨_,rfl⟩
        subst a3
        obtain ⟨kc,a7⟩:∃ k,k=cc:=⟨_,rfl⟩
        subst a7
        obtain ⟨aa,ab⟩:=jc BX
        obtain ⟨H,G⟩:=jc I
        by_cases bb:xc≤(K.length:Int)
        · have dt:0 < K.length:=bB9
          obtain ⟨kb,ft,hv,b2,ex,ao,a4⟩:=kE.kBu L.out dt
          simp only [Value.slice.injEq,true_and] at hv
          obtain ⟨rfl,rfl⟩:=hv
          clear b2
          clear aa ab H G
          obtain ⟨aa,ab⟩:=jc BX
          obtain ⟨H,G⟩:=jc I
          go_wp2
          go_loopw [9,10] (fun b i wr=>∃ (k m:Nat),i=.int .i64 k∧b=.int .i64 m∧1≤k∧k≤K.length∧m < K.length∧Hid (kDn K k=m)∧Hid (kE.ku 98 kw wr (.slice (some ⟨kb,0,none⟩) K.length kc) K (fun j=>w.heap.size + 3≤j∧j < wq.heap.size∧j≠V.heap.size))∧wr.heap[w.heap.size + 1]?=some (.cells #[.slice bl y0.length b0,.slice co y1.length cl,.slice cj y2.length b4,.int .i64 y3,.int .i64 y4] 43 (0,0))∧wr.heap[w.heap.size + 2]?=some (.cells #[.int .i64 0,.slice none 0 0] 27 (0,0))∧wr.heap[V.heap.size]?=some (.cells #[.int .i64 xc,.slice (some ⟨kb,0,none⟩) K.length kc] 27 (0,0))∧wq.heap.size≤wr.heap.size∧Below w.heap.size w wr) (fun _ i _=>K.length - (intOf i).toNat)
          case atStart=>exact ⟨1,0,rfl,rfl,by omega,by omega,dt,yD (leastA_one K),L,BY,BR,I,Nat.le_refl _,X⟩
          case round =>
            rename World=>b5
            clear X BX BY BR I L
            obtain ⟨k,m,rfl,rfl,du,hk,hm,HA,L,BY,BR,I,hn,X⟩:=hrel
            have di:=Int.natCast_nonneg k
            have bq:=Int.natCast_nonneg m
            have ck:=Int.ofNat_lt.2 hm
            by_cases hlt:k < K.length
            · have en:=Int.ofNat_lt.2 hlt
              have HR:=yD (L.out.own vV)
              obtain ⟨ep,e0,ei,fy,ez,f1,pr,e5,fu,fk,fd,fz,c9⟩:=kE.at6 HR.out.raw hlt rfl
              obtain ⟨py,ph⟩:∃ z,K[k]=z:=⟨_,rfl⟩
              rw [ph] at pr
              have pH:=yD ph
              clear ph
              obtain ⟨f4,fo,f2,pe,dw,dv,c5,de,dy,db,d6,d2,d8⟩:=jv pr
              simp only [List.cons.injEq,and_true] at pe
              obtain ⟨rfl,rfl,rfl,rfl,rfl,rfl⟩:=pe
              obtain ⟨ek,es,rfl,_⟩:=kE.sl c5
              obtain ⟨ew,e1,rfl,_⟩:=kE.sl de
              obtain ⟨ej,e3,rfl,_⟩:=kE.sl db
              clear pr dw dv c5 de dy db d6 d2 d8
              obtain ⟨f3,e4,fi,fm,e9,fc,sr,fx,fj,fw,ff,e7,b6⟩:=kE.at6 HR.out.raw hm rfl
              obtain ⟨sy,sh⟩:∃ z,K[m]=z:=⟨_,rfl⟩
              rw [sh] at sr
              have sH:=yD sh
              clear sh
              obtain ⟨fl,fg,fb,se,ec,eb,c4,df,d3,c7,d5,d7,dz⟩:=jv sr
              simp only [List.cons.injEq,and_true] at se
              obtain ⟨rfl,rfl,rfl,rfl,rfl,rfl⟩:=se
              obtain ⟨fe,fr,rfl,_⟩:=kE.sl c4
              obtain ⟨fn,fa,rfl,_⟩:=kE.sl df
              obtain ⟨fp,fq,rfl,_⟩:=kE.sl c7
              clear sr ec eb c4 df d3 c7 d5 d7 dz
              clear HR
              obtain ⟨H,G⟩:=jc I
              go_upto_region 13 with fail
              have FX:=yD (fun (W:World) (hW:Below b5.heap.size b5 W)=>kMs hW G c9 b6)
              refine kW (fun W=>Below b5.heap.size b5 W) [true,true,true,true,true,true,true,true,true,true,true,true,true] bB4 bB4 qD (bR.drew) ?_
              intro wS E
              iterate 12
               all_goals refine kS ?_
              all_goals (have al:=True.intro;first|(refine yT (fun b al=>?_);cases b;all_goals first | exact Bool.noConfusion al | simp only [zU,zV] at al | skip) | refine kS ?_)
              all_goals refine kX ?_
              all_goals refine kZ ?_
              all_goals rename World=>w8
              all_goals have eg:=E.size
              all_goals replace BY:=kD BY E
              all_goals replace BR:=kD BR E
              all_goals replace I:=kD I E
              all_goals replace c9:=cL E c9
              all_goals replace b6:=cL E b6
              all_goals replace L:=yD (L.out.below E)
              all_goals replace X:=(tQ X E)
              all_goals clear H G
              all_goals clear E
              all_goals first
                | (have an : K[k].2 < K[m].2 := by rw [pH.out, sH.out]; simpa using al
                   clear al
                   have HB:=yD (kTc HA.out hlt hm an)
                   go_wp2
                   go_roundw
                   case rel=>exact ⟨k + 1,k,by go_num,rfl,by omega,by omega,hlt,HB,L,BY,BR,I,by omega,X⟩
                   case measure=>simp [intOf];omega)
                | skip
              all_goals
                (have an:¬ K[k].2 < K[m].2:=by rw [pH.out,sH.out];simpa using al
                 clear al
                 have HB:=yD (kVo HA.out hlt hm an)
                 go_wp2
                 go_roundw
                 case rel=>exact ⟨k + 1,m,by go_num,rfl,by omega,by omega,hm,HB,L,BY,BR,I,by omega,X⟩
                 case measure=>simp [intOf];omega)
            · obtain rfl:k=K.length:=bB9
              have g8:¬ ((K.length:Int) < K.length):=bB9
              have c3:=yD (kSq HA.out bb)
              have hw:IntKind.i64.wrap ((m:Int) + 1)=(m:Int) + 1:=IntWalk.i64_in _ bB9
              obtain ⟨H,G⟩:=jc I
              go_wp2_with fail
              refine (kHq L.out hm bB9).mono ?_
              rintro e w8 ⟨v5,rfl,O5,hb⟩
              have eg:=hb.size
              replace BY:=kD BY hb
              replace BR:=kD BR hb
              replace I:=kD I hb
              replace X:=(tQ X hb)
              clear H G
              clear hb
              clear L
              obtain ⟨R,hR⟩:∃ R,kFx xc K=R:=⟨_,rfl⟩
              replace O5:=kE.ku.cast O5 (c3.out.symm.trans hR)
              have hd:R.length≤K.length:=by rw [← hR];exact kOv _ _
              have dn:=yD hR
              clear hR c3
              obtain ⟨ra,rc,rfl⟩:=O5.zL
              have L:=yD (O5.wide (T:=(fun j=>w.heap.size + 3≤j∧j < w8.heap.size∧j≠V.heap.size)) bX)
              clear O5
              obtain ⟨H,G⟩:=jc I
              obtain ⟨ah,ai⟩:=kAo I
              go_upto_region 16 with fail
              generalize F:World.setCell w8 _ _=w9
              have ak:Touch (fun k=>k=V.heap.size) w8 w9:=by rw [← F];exact kC w8 (V.heap.size) 1 _
              replace I:w9.heap[V.heap.size]?=some (.cells #[.int .i64 xc,.slice ra R.length rc] 27 (0,0)):=tY
              have dm:=ak.size
              clear F
              replace BY:=ak.kD BY bB9
              replace BR:=ak.kD BR bB9
              replace L:=yD (L.out.touch ak qB)
              replace X:=X.trans (ak.below X.size wB)
              clear H G ah ai
              clear ak
              obtain ⟨be,bf,bc,bg,a9⟩:=jU BY
              obtain ⟨H,G⟩:=jc I
              go_wp2_with fail
              refine (kCm (HY.out.below X)).mono ?_
              rintro e b3 ⟨tc,rfl,O,hb⟩
              have d0:=hb.size
              replace BY:=kD BY hb
              obtain ⟨BR,I,L,X⟩:=qW
              clear be bf bc bg a9 H G
              clear hb
              obtain ⟨dh,el,eu,rfl,a2,bk,bm,b7,c2,dl,dj⟩:=jN O.raw
              obtain ⟨av,bh,rfl,et⟩:=kE.sl bk
              obtain ⟨bd,cu,rfl,er⟩:=kE.sl bm
              obtain ⟨aw,bi,rfl,eo⟩:=kE.sl c2
              clear a2 bk bm b7 c2 dl dj
              have ed:=yD O
              clear O
              go_upto_region 17 with fail
              generalize F:World.alloc b3 _=cf
              have ac:Below b3.heap.size b3 cf:=rX
              have BD:cf.heap[b3.heap.size]?=some (.cells #[.slice av y0.length bh,.slice bd y1.length cu,.slice aw y2.length bi,.int .i64 y3,.int .i64 y4] 43 (0,0)):=tX
              have e6:b3.heap.size + 1≤cf.heap.size:=bA3
              clear F
              replace BY:=kD BY ac
              replace BR:=kD BR ac
              replace I:=kD I ac
              replace L:=yD (L.out.below ac)
              replace ed:=yD (ed.out.below ac)
              replace X:=(tQ X ac)
              clear ac
              obtain ⟨H,G⟩:=jc I
              obtain ⟨bt,br,bv,bz,bw⟩:=jU BD
              have dr:R.length + 1≤1000000000:=bB9
              go_wp2_with (at_builtin;refine kE.kAr rfl _ _ 25 rfl (r:=kw) (e:=98) underlying25 yL rfl bB8 bB8 (w:=cf) (L.out) bC1 bC1 rfl (kE.jw (r:=jA) (q:=kE.int) (cs:=[.slice av y0.length bh,.slice bd y1.length cu,.slice aw y2.length bi,.int .i64 y3,.int .i64 y4]) (ds:=[.int .i64 t]) (x:=(y0,y1,y2,y3,y4)) (y:=t) ed.out (kE.ky HF.out)) rfl nP dr ?_)
              intro v2 cg hQ ch
              have Y:Touch (fun j=>w.heap.size + 3≤j∧j < w8.heap.size∧j≠V.heap.size) cf cg:=(Touch.of_below (bR.alloc nL _)).trans (ch.wide (fun j q=>q.2))
              have e8:=Y.size
              have ey:=ch.size
              have f0:cf.heap.size + 1≤cg.heap.size:=wZ
              clear ch ey
              obtain ⟨Z,hZ⟩:∃ Z,R++[((y0,y1,y2,y3,y4),t)]=Z:=⟨_,rfl⟩
              have dq:=yD (show Z.length=R.length + 1 by rw [← hZ];simp)
              replace hQ:=kE.ku.cast hQ hZ
              have HZ:=yD hZ
              clear hZ
              obtain ⟨ga,gc,rfl⟩:=hQ.zL
              have HQ:=yD (kE.ku.wide (T:=fun j=>w.heap.size + 3≤j∧j < cg.heap.size∧j≠V.heap.size) hQ dC)
              clear hQ L
              obtain ⟨BY,BR,I⟩:=DK
              replace BD:=Y.kD BD bB9
              replace X:=X.trans (Y.below X.size wB)
              clear H G bt br bv bz bw
              clear Y
              obtain ⟨H,G⟩:=jc I
              obtain ⟨ah,ai⟩:=kAo I
              go_upto_region 18 with fail
              generalize F:World.setCell cg _ _=dx
              have J:Touch (fun k=>k=V.heap.size) cg dx:=by rw [← F];exact kC cg (V.heap.size) 1 _
              replace I:dx.heap[V.heap.size]?=some (.cells #[.int .i64 xc,.slice ga Z.length gc] 27 (0,0)):=tY
              have gg:=J.size
              clear F
              replace BY:=J.kD BY bB9
              replace BR:=J.kD BR bB9
              replace BD:=J.kD BD bB9
              replace HQ:=yD (HQ.out.touch J qB)
              replace X:=X.trans (J.below X.size wB)
              clear H G ah ai
              clear J
              exact aF
        · have dn:=yD (kSr bb)
          clear aa ab H G
          obtain ⟨aa,ab⟩:=jc BX
          obtain ⟨be,bf,bc,bg,a9⟩:=jU BY
          obtain ⟨H,G⟩:=jc I
          go_wp2_with fail
          refine (kCm (HY.out.below X)).mono ?_
          rintro e w7 ⟨tc,rfl,O,hb⟩
          have dg:=hb.size
          obtain ⟨BX,BY⟩:=DX
          obtain ⟨BR,I,L,X⟩:=qW
          clear aa ab be bf bc bg a9 H G
          clear hb
          obtain ⟨dh,el,eu,rfl,a2,bk,bm,b7,c2,dl,dj⟩:=jN O.raw
          obtain ⟨av,bh,rfl,et⟩:=kE.sl bk
          obtain ⟨bd,cu,rfl,er⟩:=kE.sl bm
          obtain ⟨aw,bi,rfl,eo⟩:=kE.sl c2
          clear a2 bk bm b7 c2 dl dj
          have ed:=yD O
          clear O
          go_upto_region 17 with fail
          generalize F:World.alloc w7 _=w8
          have c1:Below w7.heap.size w7 w8:=rX
          have BD:w8.heap[w7.heap.size]?=some (.cells #[.slice av y0.length bh,.slice bd y1.length cu,.slice aw y2.length bi,.int .i64 y3,.int .i64 y4] 43 (0,0)):=tX
          have eg:w7.heap.size + 1≤w8.heap.size:=bA3
          clear F
          replace BX:=kD BX c1
          replace BY:=kD BY c1
          replace BR:=kD BR c1
          replace I:=kD I c1
          replace L:=yD (L.out.below c1)
          replace ed:=yD (ed.out.below c1)
          replace X:=(tQ X c1)
          clear c1
          obtain ⟨H,G⟩:=jc I
          obtain ⟨bt,br,bv,bz,bw⟩:=jU BD
          have dr:K.length + 1≤1000000000:=bB9
          go_wp2_with (at_builtin;refine kE.kAr rfl _ _ 25 rfl (r:=kw) (e:=98) underlying25 yL rfl bB8 bB8 (w:=w8) (L.out) bC1 bC1 rfl (kE.jw (r:=jA) (q:=kE.int) (cs:=[.slice av y0.length bh,.slice bd y1.length cu,.slice aw y2.length bi,.int .i64 y3,.int .i64 y4]) (ds:=[.int .i64 t]) (x:=(y0,y1,y2,y3,y4)) (y:=t) ed.out (kE.ky HF.out)) rfl nP dr ?_)
          intro v2 w9 hQ ch
          have Y:Touch (fun j=>w.heap.size + 3≤j∧j < wq.heap.size∧j≠V.heap.size) w8 w9:=(Touch.of_below (bR.alloc nL _)).trans (ch.wide (fun j q=>q.2))
          have dm:=Y.size
          have ey:=ch.size
          have f0:w8.heap.size + 1≤w9.heap.size:=wZ
          clear ch ey
          obtain ⟨Z,hZ⟩:∃ Z,K++[((y0,y1,y2,y3,y4),t)]=Z:=⟨_,rfl⟩
          have dq:=yD (show Z.length=K.length + 1 by rw [← hZ];simp)
          replace hQ:=kE.ku.cast hQ hZ
          have HZ:=yD hZ
          clear hZ
          obtain ⟨ga,gc,rfl⟩:=hQ.zL
          have HQ:=yD (kE.ku.wide (T:=fun j=>w.heap.size + 3≤j∧j < w9.heap.size∧j≠V.heap.size) hQ dC)
          clear hQ L
          replace BX:=Y.kD BX bB9
          obtain ⟨BY,BR,I⟩:=DK
          replace BD:=Y.kD BD bB9
          replace X:=X.trans (Y.below X.size wB)
          clear H G bt br bv bz bw
          clear Y
          obtain ⟨H,G⟩:=jc I
          obtain ⟨ah,ai⟩:=kAo I
          go_upto_region 18 with fail
          generalize F:World.setCell w9 _ _=b3
          have ae:Touch (fun k=>k=V.heap.size) w9 b3:=by rw [← F];exact kC w9 (V.heap.size) 1 _
          replace I:b3.heap[V.heap.size]?=some (.cells #[.int .i64 xc,.slice ga Z.length gc] 27 (0,0)):=tY
          have d0:=ae.size
          clear F
          replace BX:=ae.kD BX bB9
          replace BY:=ae.kD BY bB9
          replace BR:=ae.kD BR bB9
          replace BD:=ae.kD BD bB9
          replace HQ:=yD (HQ.out.touch ae qB)
          replace X:=X.trans (ae.below X.size wB)
          clear H G ah ai
          clear ae
          exact aF
      · obtain ⟨k,hlt,aj⟩:=kEj hf
        rw [aj]
        have az:=yD ((otherC_step hlt aj).trans HA.out)
        clear hf
        have di:(0:Int)≤k:=bB9
        obtain ⟨H,G⟩:=jc I
        go_wp2_with fail
        refine (kHq L.out hlt bB9).mono ?_
        rintro e w7 ⟨v5,rfl,O5,hb⟩
        have dg:=hb.size
        obtain ⟨BX,BY⟩:=DX
        replace BR:=kD BR hb
        replace I:=kD I hb
        replace X:=(tQ X hb)
        clear H G
        clear hb
        have N:(C.take k++C.drop (k + 1)).length < C.length:=bB5
        clear L
        generalize C.take k++C.drop (k + 1)=D at *
        obtain ⟨da,dc,rfl⟩:=O5.zL
        have L:=yD (O5.wide (T:=(fun j=>w.heap.size + 3≤j∧j < w7.heap.size∧j≠V.heap.size)) bX)
        clear O5
        obtain ⟨H,G⟩:=jc I
        obtain ⟨ah,ai⟩:=kAo I
        go_upto_region 6 with fail
        generalize F:World.setCell w7 _ _=w8
        have au:Touch (fun k=>k=V.heap.size) w7 w8:=by rw [← F];exact kC w7 (V.heap.size) 1 _
        replace I:w8.heap[V.heap.size]?=some (.cells #[.int .i64 xc,.slice da D.length dc] 27 (0,0)):=tY
        have eg:=au.size
        clear F
        replace BX:=au.kD BX bB9
        replace BY:=au.kD BY bB9
        replace BR:=au.kD BR bB9
        replace L:=yD (L.out.touch au qB)
        replace X:=X.trans (au.below X.size wB)
        clear H G ah ai
        clear au
        obtain ⟨H,G⟩:=jc I
        obtain ⟨be,bf,bc,bg,a9⟩:=jU BY
        go_wp2_with fail
        refine (kEv (L.out.own vV).raw (cn:=[.slice bl y0.length b0]) (fh.out.below X)).mono ?_
        rintro e w9 ⟨rfl,hb⟩
        have dm:=hb.size
        obtain ⟨BX,BY⟩:=DX
        obtain ⟨BR,I,L,X⟩:=qW
        clear H G be bf bc bg a9
        clear hb
        have a6:=yD (lenAt_eq I)
        go_wp2
        go_roundw
        case rel=>exact ⟨D,da,dc,rfl,az,by omega,yD (L.out.wide pO),BX,BY,BR,I,by omega,X⟩
        case measure=>rw [a5.out,a6.out];exact N)
theorem kRh {w:World} {cx:List Value} {x:kg} (hx:kN.rd w cx x) {cy:List Value} {y:jG} (hy:jA.rd w cy y) {t:Int} (ht:-9223372036854775808≤t∧t≤9223372036854775807) (hB:x.2.length≤16777215) :
    Calls prog 34 #[.agg cx.toArray,.agg cy.toArray,.int .i64 t] w (kAn kN (kAb y t x) w):=by
 obtain ⟨xc,xe⟩:=x
 obtain ⟨y0,y1,y2,y3,y4⟩:=y
 have HX:=yD hx
 have HY:=yD hy
 have HF:=yD ht
 have ci:xe.length≤16777215:=hB
 obtain ⟨d1,rfl,c6,cz⟩:=jQ hx.1
 obtain ⟨ay,bx,rfl,xl⟩:=kE.sl cz
 have am:-9223372036854775808≤xc∧xc≤9223372036854775807:=c6
 have eq:=am.1
 have ev:=am.2
 obtain ⟨dp,ea,d9,rfl,bj,bu,b1,ce,cq,cv,cw⟩:=jN hy.1
 obtain ⟨bl,b0,rfl,ef⟩:=kE.sl bu
 obtain ⟨co,cl,rfl,ee⟩:=kE.sl b1
 obtain ⟨cj,b4,rfl,eh⟩:=kE.sl cq
 obtain ⟨dd,fh⟩:=BJ
 clear hx hy ht hB c6 cz xl bj bu b1 ce cq cv cw
 go_enter func34,ntmps34
 go_upto_region 1 with fail
 generalize F:World.alloc (World.alloc (World.alloc w _) _) _=w1
 obtain ⟨X,BX,BY,BR,bn⟩:=uM
 clear F
 obtain ⟨aa,ab⟩:=jc BX
 obtain ⟨be,bf,bc,bg,a9⟩:=jU BY
 go_upto_region 1 with fail
 have FX:=yD (fun (W:World) (hW:Below w1.heap.size w1 W)=>cLs6 hW aa be bf bc bg a9)
 refine kz (fun W=>Below w1.heap.size w1 W) [true,true,true,true,true,false,true,true] bR ?_
 intro wS E
 iterate 3
  all_goals refine kS ?_
 all_goals (have ag:=True.intro;first|(refine yT (fun b ag=>?_);cases b;all_goals first | exact Bool.noConfusion ag | simp only [zU,zV] at ag | skip) | refine kS ?_)
 all_goals refine kX ?_
 all_goals refine kS ?_
 all_goals first | refine wkB (kDf (dd.out.below (tQ X E))) (fun wS1 E=>?_) | refine kS ?_
 all_goals refine kS ?_
 all_goals (have af:=True.intro;first|(refine yT (fun b af=>?_);cases b;all_goals first | exact Bool.noConfusion af | simp only [zU,zV] at af | skip) | refine kS ?_)
 all_goals refine kX ?_
 all_goals refine kZ ?_
 all_goals rename World=>V
 all_goals have bo:=E.size
 all_goals replace BX:=kD BX E
 all_goals replace BY:=kD BY E
 all_goals replace BR:=kD BR E
 all_goals replace X:=(tQ X E)
 all_goals clear aa ab be bf bc bg a9
 all_goals clear E
 all_goals first
   | (have U := yD (kOf (t := t) (show kCi (y0, y1, y2, y3, y4) (xc, xe) = true by simp only [kCi, Bool.not_true, Bool.not_false, Bool.and_true, Bool.true_and, Bool.and_false, Bool.false_and, Bool.or_true, Bool.true_or, Bool.or_false, Bool.false_or, Bool.not_not, ag, af]))
      obtain ⟨aa,ab⟩:=jc BX
      go_wp2_with fail
      refine (kJj (HX.out.below X)).mono ?_
      rintro e w3 ⟨cs,rfl,O,hb⟩
      have bp:=hb.size
      obtain ⟨BX,BY⟩:=DX
      replace BR:=kD BR hb
      replace X:=(tQ X hb)
      clear aa ab
      clear hb
      obtain ⟨bt,rfl,ae,D⟩:=jQ O.raw
      obtain ⟨oa,op,rfl,_⟩:=kE.sl D
      clear ae D
      obtain ⟨ax,a1⟩:=jc BR
      obtain ⟨ar,aq⟩:=kAo BR
      go_wp2
      refine bodyPost_ret (v:=.agg #[.int .i64 xc,.slice oa xe.length op]) mG rfl ⟨[.int .i64 xc,.slice oa xe.length op],rfl,?_,?_⟩
      · rw [U.out];exact (O.touch ((kC _ _ _ _).trans (kC _ _ _ _)) rR).wide fM
      · exact X.trans (Touch.below ((kC _ _ _ _).trans (kC _ _ _ _)) X.size wB))
   | skip
 all_goals
   (have dk:=yD (show kCi (y0,y1,y2,y3,y4) (xc,xe)=false by simp only [kCi,Bool.not_true,Bool.not_false,Bool.and_true,Bool.true_and,Bool.and_false,Bool.false_and,Bool.or_true,Bool.true_or,Bool.or_false,Bool.false_or,Bool.not_not,ag,af])
    have b8:¬ xc < 1:=by simpa using ag
    clear ag af
    obtain ⟨aa,ab⟩:=jc BX
    obtain ⟨be,bf,bc,bg,a9⟩:=jU BY
    go_wp2_with fail
    refine (kJi (fun c=>!isC y0 c) kGh (HX.out.below X) (fun wr br c ds hc=>kPk (y:=(y0,y1,y2,y3,y4)) hc (dd.out.below (tQ X br)) (cL br be) (cL br bf) (cL br bc) (cL br bg) (cL br a9))).mono ?_
    rintro e w3 ⟨kv,rfl,O,hb⟩
    have bp:=hb.size
    obtain ⟨BX,BY⟩:=DX
    replace BR:=kD BR hb
    replace X:=(tQ X hb)
    clear aa ab be bf bc bg a9
    clear hb
    obtain ⟨K,J⟩:∃ K,kCf y0 xe=K:=⟨_,rfl⟩
    replace O:=kE.ku.cast O (show _=K from J)
    have fv:K.length≤xe.length:=by rw [← J];exact kSu _ _
    have HK:=yD J
    clear J
    obtain ⟨ka,kc,rfl⟩:=O.zL
    have L:=yD (O.wide (T:=(fun j=>w.heap.size + 3≤j∧j < w3.heap.size)) rJ)
    clear O
    go_upto_region 4 with fail
    generalize F:World.alloc w3 _=w4
    have a3:Below w3.heap.size w3 w4:=rX
    have I:w4.heap[w3.heap.size]?=some (.cells #[.int .i64 xc,.slice ka K.length kc] 27 (0,0)):=tX
    have b9:w3.heap.size + 1≤w4.heap.size:=bA3
    clear F
    replace BX:=kD BX a3
    replace BY:=kD BY a3
    replace BR:=kD BR a3
    replace L:=yD (L.out.below a3)
    replace X:=(tQ X a3)
    clear a3
    obtain ⟨aa,ab⟩:=jc BX
    obtain ⟨H,G⟩:=jc I
    by_cases bb:xc≤(K.length:Int)
    · have dt:0 < K.length:=bB9
      obtain ⟨kb,ft,hv,b2,ex,ao,a4⟩:=kE.kBu L.out dt
      simp only [Value.slice.injEq,true_and] at hv
      obtain ⟨rfl,rfl⟩:=hv
      clear b2
      clear aa ab H G
      obtain ⟨aa,ab⟩:=jc BX
      obtain ⟨H,G⟩:=jc I
      go_wp2
      go_loopw [8,33] (fun b i wr=>∃ (k m:Nat),i=.int .i64 k∧b=.int .i64 m∧0≤k∧k≤K.length∧m < K.length∧Hid (kDn K k=m)∧Hid (kE.ku 98 kw wr (.slice (some ⟨kb,0,none⟩) K.length kc) K (fun j=>w.heap.size + 3≤j∧j < w3.heap.size))∧wr.heap[w.heap.size + 1]?=some (.cells #[.slice bl y0.length b0,.slice co y1.length cl,.slice cj y2.length b4,.int .i64 y3,.int .i64 y4] 43 (0,0))∧wr.heap[w.heap.size + 2]?=some (.cells #[.int .i64 0,.slice none 0 0] 27 (0,0))∧wr.heap[w3.heap.size]?=some (.cells #[.int .i64 xc,.slice (some ⟨kb,0,none⟩) K.length kc] 27 (0,0))∧w4.heap.size≤wr.heap.size∧Below w.heap.size w wr) (fun _ i _=>K.length - (intOf i).toNat)
      case atStart=>exact ⟨0,0,rfl,rfl,by omega,by omega,dt,yD (rfl),L,BY,BR,I,Nat.le_refl _,X⟩
      case round =>
        rename World=>b5
        clear X BX BY BR I L
        obtain ⟨k,m,rfl,rfl,du,hk,hm,HA,L,BY,BR,I,hn,X⟩:=hrel
        have di:=Int.natCast_nonneg k
        have bq:=Int.natCast_nonneg m
        have ck:=Int.ofNat_lt.2 hm
        by_cases hlt:k < K.length
        · have en:=Int.ofNat_lt.2 hlt
          have HR:=yD (L.out.own vV)
          obtain ⟨ep,e0,ei,fy,ez,f1,pr,e5,fu,fk,fd,fz,c9⟩:=kE.at6 HR.out.raw hlt rfl
          obtain ⟨py,ph⟩:∃ z,K[k]=z:=⟨_,rfl⟩
          rw [ph] at pr
          have pH:=yD ph
          clear ph
          obtain ⟨f4,fo,f2,pe,dw,dv,c5,de,dy,db,d6,d2,d8⟩:=jv pr
          simp only [List.cons.injEq,and_true] at pe
          obtain ⟨rfl,rfl,rfl,rfl,rfl,rfl⟩:=pe
          obtain ⟨ek,es,rfl,_⟩:=kE.sl c5
          obtain ⟨ew,e1,rfl,_⟩:=kE.sl de
          obtain ⟨ej,e3,rfl,_⟩:=kE.sl db
          clear pr dw dv c5 de dy db d6 d2 d8
          obtain ⟨f3,e4,fi,fm,e9,fc,sr,fx,fj,fw,ff,e7,b6⟩:=kE.at6 HR.out.raw hm rfl
          obtain ⟨sy,sh⟩:∃ z,K[m]=z:=⟨_,rfl⟩
          rw [sh] at sr
          have sH:=yD sh
          clear sh
          obtain ⟨fl,fg,fb,se,ec,eb,c4,df,d3,c7,d5,d7,dz⟩:=jv sr
          simp only [List.cons.injEq,and_true] at se
          obtain ⟨rfl,rfl,rfl,rfl,rfl,rfl⟩:=se
          obtain ⟨fe,fr,rfl,_⟩:=kE.sl c4
          obtain ⟨fn,fa,rfl,_⟩:=kE.sl df
          obtain ⟨fp,fq,rfl,_⟩:=kE.sl c7
          clear sr ec eb c4 df d3 c7 d5 d7 dz
          clear HR
          go_upto_region 9 with fail
          generalize F:World.alloc b5 _=w6
          have ba:Below b5.heap.size b5 w6:=rX
          have BT:w6.heap[b5.heap.size]?=some (.cells #[.slice ek py.1.1.length es,.slice ew py.1.2.1.length e1,.slice ej py.1.2.2.1.length e3,.int .i64 py.1.2.2.2.1,.int .i64 py.1.2.2.2.2,.int .i64 py.2] 98 (0,0)):=tX
          have c8:b5.heap.size + 1≤w6.heap.size:=bA3
          clear F
          replace BY:=kD BY ba
          replace BR:=kD BR ba
          replace I:=kD I ba
          replace c9:=cL ba c9
          replace b6:=cL ba b6
          replace L:=yD (L.out.below ba)
          replace X:=(tQ X ba)
          clear ba
          obtain ⟨a8,az,a7,a6,al,aj⟩:=rowC6 BT
          obtain ⟨H,G⟩:=jc I
          go_upto_region 9 with fail
          have FX:=yD (fun (W:World) (hW:Below w6.heap.size w6 W)=>kMs hW G aj b6)
          refine kW (fun W=>Below w6.heap.size w6 W) [true,true,true,true,true,true,true,true,true] bB4 bB4 qD (bR.drew) ?_
          intro wS E
          iterate 8
           all_goals refine kS ?_
          all_goals (have ac:=True.intro;first|(refine yT (fun b ac=>?_);cases b;all_goals first | exact Bool.noConfusion ac | simp only [zU,zV] at ac | skip) | refine kS ?_)
          all_goals refine kX ?_
          all_goals refine kZ ?_
          all_goals rename World=>w7
          all_goals have dg:=E.size
          all_goals replace BY:=kD BY E
          all_goals replace BR:=kD BR E
          all_goals replace I:=kD I E
          all_goals replace BT:=kD BT E
          all_goals replace c9:=cL E c9
          all_goals replace b6:=cL E b6
          all_goals replace L:=yD (L.out.below E)
          all_goals replace X:=(tQ X E)
          all_goals clear a8 az a7 a6 al aj H G
          all_goals clear E
          all_goals first
            | (have an : K[k].2 < K[m].2 := by rw [pH.out, sH.out]; simpa using ac
               clear ac
               have HB:=yD (kTc HA.out hlt hm an)
               go_wp2
               go_roundw
               case rel=>exact ⟨k + 1,k,by go_num,rfl,by omega,by omega,hlt,HB,L,BY,BR,I,by omega,X⟩
               case measure=>simp [intOf];omega)
            | skip
          all_goals
            (have an:¬ K[k].2 < K[m].2:=by rw [pH.out,sH.out];simpa using ac
             clear ac
             have HB:=yD (kVo HA.out hlt hm an)
             go_wp2
             go_roundw
             case rel=>exact ⟨k + 1,m,by go_num,rfl,by omega,by omega,hm,HB,L,BY,BR,I,by omega,X⟩
             case measure=>simp [intOf];omega)
        · obtain rfl:k=K.length:=bB9
          have g8:¬ ((K.length:Int) < K.length):=bB9
          have c3:=yD (kSq HA.out bb)
          have hw:IntKind.i64.wrap ((m:Int) + 1)=(m:Int) + 1:=IntWalk.i64_in _ bB9
          obtain ⟨H,G⟩:=jc I
          go_wp2_with fail
          refine (kLf L.out bB9 hm).mono ?_
          rintro e w6 ⟨v5,rfl,O5,T5⟩
          have c8:=T5.size
          replace BY:=T5.kD BY bB9
          replace BR:=T5.kD BR bB9
          replace I:=T5.kD I bB9
          replace X:=X.trans (T5.below X.size wB)
          clear H G
          clear T5
          clear L
          obtain ⟨R,hR⟩:∃ R,kFx xc K=R:=⟨_,rfl⟩
          replace O5:=kE.ku.cast O5 (c3.out.symm.trans hR)
          have hd:R.length≤K.length:=by rw [← hR];exact kOv _ _
          have dn:=yD hR
          clear hR c3
          obtain ⟨ra,rc,rfl⟩:=O5.zL
          have L:=yD O5
          clear O5
          obtain ⟨H,G⟩:=jc I
          obtain ⟨ah,ai⟩:=kAo I
          go_upto_region 13 with fail
          generalize F:World.setCell w6 _ _=w7
          have a5:Touch (fun k=>k=w3.heap.size) w6 w7:=by rw [← F];exact kC w6 (w3.heap.size) 1 _
          replace I:w7.heap[w3.heap.size]?=some (.cells #[.int .i64 xc,.slice ra R.length rc] 27 (0,0)):=tY
          have dg:=a5.size
          clear F
          replace BY:=a5.kD BY bB9
          replace BR:=a5.kD BR bB9
          replace L:=yD (L.out.touch a5 qB)
          replace X:=X.trans (a5.below X.size wB)
          clear H G ah ai
          clear a5
          obtain ⟨H,G⟩:=jc I
          obtain ⟨be,bf,bc,bg,a9⟩:=jU BY
          go_upto_region 13 with fail
          have FX:=yD (fun (W:World) (hW:Below w7.heap.size w7 W)=>cLs6 hW G be bf bc bg a9)
          refine jO (fun W=>Below w7.heap.size w7 W) [(0,true),(1,true),(2,true),(4,true),(3,false),(5,true),(6,false)] bB4 bB4 qD (bR.drew) ?_
          intro wS E
          simp only [jD,List.length_cons,List.length_nil,List.getElem?_cons_succ,List.getElem?_cons_zero,List.map_cons,List.map_nil,List.cons_append,List.nil_append,List.drop_succ_cons,List.drop_zero]
          iterate 4
           all_goals refine kS ?_
          all_goals first|(refine kK rfl E ?_)|(refine ko rfl (fun K J=>?_);go_simp;refine (kAj (HY.out.below (tQ X E))).mono ?_;rintro e wT ⟨tc,rfl,O,au⟩;obtain ⟨dh,el,eu,rfl,a2,bk,bm,b7,c2,dl,dj⟩:=jN O.raw;obtain ⟨av,bh,rfl,et⟩:=kE.sl bk;skip;obtain ⟨bd,cu,rfl,er⟩:=kE.sl bm;skip;obtain ⟨aw,bi,rfl,eo⟩:=kE.sl c2;skip;clear a2 bk bm b7 c2 dl dj;have ed:=yD O;have ha:=au.size;have em:=E.size;replace E:=(tQ E au);refine J _ _ E ?_;clear J K au O)
          all_goals refine kX ?_
          all_goals refine kS ?_
          all_goals first|(refine kK rfl E ?_)|(refine ko rfl (fun K J=>?_);go_simp;refine J _ _ (E.alloc E.size _) ?_;clear J K)
          all_goals refine kX ?_
          all_goals refine jq ?_
          have dr:R.length + 1≤1000000000:=bB9
          go_wp2_with (at_builtin;refine kE.kAr rfl _ _ 25 rfl (r:=kw) (e:=98) underlying25 yL rfl bB8 bB8 (w:=wT) (L.out.below E) bC1 bC1 rfl (kE.jw (r:=jA) (q:=kE.int) (cs:=[.slice av y0.length bh,.slice bd y1.length cu,.slice aw y2.length bi,.int .i64 y3,.int .i64 y4]) (ds:=[.int .i64 t]) (x:=(y0,y1,y2,y3,y4)) (y:=t) ed.out (kE.ky HF.out)) rfl nZ dr ?_)
          intro v2 w8 hQ ch
          have Y:Touch (fun j=>w.heap.size + 3≤j∧j < w3.heap.size) w7 w8:=(Touch.of_below (E.alloc E.size _)).trans (ch.wide (fun j q=>q.2))
          have eg:=Y.size
          have ey:=ch.size
          have f0:wT.heap.size + 1≤w8.heap.size:=wZ
          clear ch ey
          obtain ⟨Z,hZ⟩:∃ Z,R++[((y0,y1,y2,y3,y4),t)]=Z:=⟨_,rfl⟩
          have dq:=yD (show Z.length=R.length + 1 by rw [← hZ];simp)
          replace hQ:=kE.ku.cast hQ hZ
          have HZ:=yD hZ
          clear hZ
          obtain ⟨ga,gc,rfl⟩:=hQ.zL
          have HQ:=yD (kE.ku.wide (T:=fun j=>w.heap.size + 3≤j∧j < w8.heap.size∧j≠w3.heap.size) hQ dC)
          clear hQ L
          obtain ⟨BY,BR,I⟩:=DK
          replace X:=X.trans (Y.below X.size wB)
          clear H G be bf bc bg a9
          clear Y
          obtain ⟨H,G⟩:=jc I
          obtain ⟨ah,ai⟩:=kAo I
          go_upto_region 14 with fail
          generalize F:World.setCell w8 _ _=w9
          have ak:Touch (fun k=>k=w3.heap.size) w8 w9:=by rw [← F];exact kC w8 (w3.heap.size) 1 _
          replace I:w9.heap[w3.heap.size]?=some (.cells #[.int .i64 xc,.slice ga Z.length gc] 27 (0,0)):=tY
          have dm:=ak.size
          clear F
          replace BY:=ak.kD BY bB9
          replace BR:=ak.kD BR bB9
          replace HQ:=yD (HQ.out.touch ak qB)
          replace X:=X.trans (ak.below X.size wB)
          clear H G ah ai
          clear ak
          have U:=yD (show kAb (y0,y1,y2,y3,y4) t (xc,xe)=(xc,Z) from (kGw dk.out).trans dL)
          obtain ⟨H,G⟩:=jc I
          obtain ⟨ax,a1⟩:=jc BR
          obtain ⟨ar,aq⟩:=kAo BR
          go_wp2
          refine bodyPost_ret (v:=.agg #[.int .i64 xc,.slice ga Z.length gc]) mG rfl ⟨[.int .i64 xc,.slice ga Z.length gc],rfl,?_,?_⟩
          · rw [U.out];exact ((show kN.own _ _ (xc,Z) _ from kE.kBe (r:=kE.int) (q:=(kE.slice 98 kw)) (cs:=[.int .i64 xc]) (kE.ky am) (HQ.out.own rV)).touch ((kC _ _ _ _).trans (kC _ _ _ _)) rR).wide fM
          · exact X.trans (Touch.below ((kC _ _ _ _).trans (kC _ _ _ _)) X.size wB)
    · have dn:=yD (kSr bb)
      clear aa ab H G
      obtain ⟨aa,ab⟩:=jc BX
      obtain ⟨H,G⟩:=jc I
      obtain ⟨be,bf,bc,bg,a9⟩:=jU BY
      go_upto_region 13 with fail
      have FX:=yD (fun (W:World) (hW:Below w4.heap.size w4 W)=>cLs6 hW G be bf bc bg a9)
      refine jO (fun W=>Below w4.heap.size w4 W) [(0,true),(1,true),(2,true),(4,true),(3,false),(5,true),(6,false)] bB4 bB4 qD (bR.drew) ?_
      intro wS E
      simp only [jD,List.length_cons,List.length_nil,List.getElem?_cons_succ,List.getElem?_cons_zero,List.map_cons,List.map_nil,List.cons_append,List.nil_append,List.drop_succ_cons,List.drop_zero]
      iterate 4
       all_goals refine kS ?_
      all_goals first|(refine kK rfl E ?_)|(refine ko rfl (fun K J=>?_);go_simp;refine (kAj (HY.out.below (tQ X E))).mono ?_;rintro e wT ⟨tc,rfl,O,au⟩;obtain ⟨dh,el,eu,rfl,a2,bk,bm,b7,c2,dl,dj⟩:=jN O.raw;obtain ⟨av,bh,rfl,et⟩:=kE.sl bk;skip;obtain ⟨bd,cu,rfl,er⟩:=kE.sl bm;skip;obtain ⟨aw,bi,rfl,eo⟩:=kE.sl c2;skip;clear a2 bk bm b7 c2 dl dj;have ed:=yD O;have ha:=au.size;have em:=E.size;replace E:=(tQ E au);refine J _ _ E ?_;clear J K au O)
      all_goals refine kX ?_
      all_goals refine kS ?_
      all_goals first|(refine kK rfl E ?_)|(refine ko rfl (fun K J=>?_);go_simp;refine J _ _ (E.alloc E.size _) ?_;clear J K)
      all_goals refine kX ?_
      all_goals refine jq ?_
      have dr:K.length + 1≤1000000000:=bB9
      go_wp2_with (at_builtin;refine kE.kAr rfl _ _ 25 rfl (r:=kw) (e:=98) underlying25 yL rfl bB8 bB8 (w:=wT) (L.out.below E) bC1 bC1 rfl (kE.jw (r:=jA) (q:=kE.int) (cs:=[.slice av y0.length bh,.slice bd y1.length cu,.slice aw y2.length bi,.int .i64 y3,.int .i64 y4]) (ds:=[.int .i64 t]) (x:=(y0,y1,y2,y3,y4)) (y:=t) ed.out (kE.ky HF.out)) rfl nZ dr ?_)
      intro v2 w5 hQ ch
      have Y:Touch (fun j=>w.heap.size + 3≤j∧j < w3.heap.size) w4 w5:=(Touch.of_below (E.alloc E.size _)).trans (ch.wide (fun j q=>q.2))
      have cd:=Y.size
      have ey:=ch.size
      have f0:wT.heap.size + 1≤w5.heap.size:=wZ
      clear ch ey
      obtain ⟨Z,hZ⟩:∃ Z,K++[((y0,y1,y2,y3,y4),t)]=Z:=⟨_,rfl⟩
      have dq:=yD (show Z.length=K.length + 1 by rw [← hZ];simp)
      replace hQ:=kE.ku.cast hQ hZ
      have HZ:=yD hZ
      clear hZ
      obtain ⟨ga,gc,rfl⟩:=hQ.zL
      have HQ:=yD (kE.ku.wide (T:=fun j=>w.heap.size + 3≤j∧j < w5.heap.size∧j≠w3.heap.size) hQ dC)
      clear hQ L
      replace BX:=Y.kD BX bB9
      obtain ⟨BY,BR,I⟩:=DK
      replace X:=X.trans (Y.below X.size wB)
      clear aa ab H G be bf bc bg a9
      clear Y
      obtain ⟨H,G⟩:=jc I
      obtain ⟨ah,ai⟩:=kAo I
      go_upto_region 14 with fail
      generalize F:World.setCell w5 _ _=w6
      have N:Touch (fun k=>k=w3.heap.size) w5 w6:=by rw [← F];exact kC w5 (w3.heap.size) 1 _
      replace I:w6.heap[w3.heap.size]?=some (.cells #[.int .i64 xc,.slice ga Z.length gc] 27 (0,0)):=tY
      have c8:=N.size
      clear F
      replace BX:=N.kD BX bB9
      replace BY:=N.kD BY bB9
      replace BR:=N.kD BR bB9
      replace HQ:=yD (HQ.out.touch N qB)
      replace X:=X.trans (N.below X.size wB)
      clear H G ah ai
      clear N
      have U:=yD (show kAb (y0,y1,y2,y3,y4) t (xc,xe)=(xc,Z) from (kGw dk.out).trans dL)
      obtain ⟨H,G⟩:=jc I
      obtain ⟨ax,a1⟩:=jc BR
      obtain ⟨ar,aq⟩:=kAo BR
      go_wp2
      refine bodyPost_ret (v:=.agg #[.int .i64 xc,.slice ga Z.length gc]) mG rfl ⟨[.int .i64 xc,.slice ga Z.length gc],rfl,?_,?_⟩
      · rw [U.out];exact ((show kN.own _ _ (xc,Z) _ from kE.kBe (r:=kE.int) (q:=(kE.slice 98 kw)) (cs:=[.int .i64 xc]) (kE.ky am) (HQ.out.own rV)).touch ((kC _ _ _ _).trans (kC _ _ _ _)) rR).wide fM
      · exact X.trans (Touch.below ((kC _ _ _ _).trans (kC _ _ _ _)) X.size wB))
end Go.Proofs.YtonmjkmaadgceaaGreat
