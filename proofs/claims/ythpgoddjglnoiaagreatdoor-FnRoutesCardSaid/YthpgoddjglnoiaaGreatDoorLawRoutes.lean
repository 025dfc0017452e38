/-
  The law FnRoutes: a name is forwarded by its longest prefix, through the nearest face first.
-/
import Derived.Test.YthpgoddjglnoiaaGreatDoorDrawO
import Derived.Test.YthpgoddjglnoiaaGreatDoorSameR
import Derived.Test.YthpgoddjglnoiaaGreatDoorRFace
import Derived.Test.YthpgoddjglnoiaaGreatDoorFmtR
import Derived.Test.YthpgoddjglnoiaaGreatDoorCards
import Derived.Test.YthpgoddjglnoiaaGreatDoorTie
import Derived.Deep.DeepHandedRow
import Derived.Lib.LaidTab
import Derived.Stop.LaidErr
import Derived.SevenTiedAt
set_option linter.unusedVariables false
set_option linter.unusedSimpArgs false
set_option linter.unnecessarySimpa false
set_option maxRecDepth 100000
set_option maxHeartbeats 40000000
namespace Go.Proofs.YthpgoddjglnoiaaGreatDoor
open Go.ChangeShapes Go.WideShapes Go.ChangeAt Go.RowKit
def From (W w:World):Prop:=Below W.heap.size W w
theorem From.below {W w w':World} (h:From W w) (b:Below w.heap.size w w'):From W w':=Below.trans h (b.mono (Below.size h))
theorem kId {w:World} {cs:List Value} {x:kR} (h:kV.raw w cs x):∃ a c,cs=[.slice a x.length c]:=by
 obtain ⟨v1,rfl,h1⟩:=kN h
 obtain ⟨a,c,hv,_⟩:=Rep.yj h1
 obtain rfl:v1=_:=by simpa using hv
 exact ⟨a,c,rfl⟩
theorem kHm {w:World} {v:Value} {code:List UInt8} (hcode:(Rep.slice 5 Rep.byte).raw w [v] code) (ht:TabW Tryz.prog w) :
    Calls Tryz.prog 3 #[v] w (LawPost w):=by
 obtain ⟨ca,cc,rfl,_⟩:=Rep.sl hcode
 have HT:=yD ht
 clear ht
 go_enter Tryz.func3,Tryz.ntmps3
 go_wp2_with fail
 refine (lawsbig_c hcode).mono ?_
 rintro e w1 ⟨rfl,hb⟩
 have z_w1:=hb.size
 replace HT:=yD (HT.out.below hb)
 have EE:=hb
 clear hb
 by_cases hbig:(code.length:Int) > 1048576
 · go_wp2
   go_ret
   exact ⟨rfl,EE⟩
 go_wp2_with fail
 refine (kCt (hcode.below EE)).mono ?_
 rintro e w2 ⟨a,c,l,na,nc,ps,f,co,rfl,hsm,hO,hr,hf,hco,hb⟩
 have z_w2:=hb.size
 replace HT:=yD (HT.out.below hb)
 replace EE:=(tQ EE hb)
 clear hb
 have LO:=yD (hO)
 have XO:=yD (kEl hr (f:=f) (c:=co) fV fV)
 clear hO hr
 go_upto_region 4 with fail
 generalize hw_:World.alloc w2 _=w3
 have E_w3:Below w2.heap.size w2 w3:=dC
 have BW:w3.heap[w2.heap.size]?=some (.cells #[.slice na ps.length nc,.int .i64 f,.int .i64 co] 29 (0,0)):=dN
 have z_w3:w2.heap.size + 1≤w3.heap.size:=fA
 clear hw_
 replace HT:=yD (HT.out.below E_w3)
 replace LO:=yD (LO.out.below E_w3)
 replace XO:=yD (XO.out.below E_w3)
 replace EE:=(tQ EE E_w3)
 clear E_w3
 obtain ⟨KBW_0,KBW_1,KBW_2⟩:=kFe BW
 go_wp2_with fail
 refine (kGy LO.out.rd XO.out.rd).mono ?_
 rintro e w4 ⟨v1,rfl,hO,hb⟩
 have z_w4:=hb.size
 replace BW:=kC BW hb
 replace HT:=yD (HT.out.below hb)
 replace LO:=yD (LO.out.below hb)
 replace XO:=yD (XO.out.below hb)
 replace EE:=(tQ EE hb)
 clear KBW_0 KBW_1 KBW_2
 clear hb
 have X1:=yD (hO)
 clear hO
 obtain ⟨KBW_0,KBW_1,KBW_2⟩:=kFe BW
 go_wp2_with fail
 refine (kBt LO.out.rd XO.out.rd).mono ?_
 rintro e w5 ⟨v2,rfl,hO,hb⟩
 have z_w5:=hb.size
 replace BW:=kC BW hb
 replace HT:=yD (HT.out.below hb)
 replace LO:=yD (LO.out.below hb)
 replace XO:=yD (XO.out.below hb)
 replace X1:=yD (X1.out.below hb)
 replace EE:=(tQ EE hb)
 clear KBW_0 KBW_1 KBW_2
 clear hb
 have X2:=yD (hO)
 clear hO
 obtain ⟨FA,FE⟩:=addR_said (r:=(ps,f,co)) (l:=l)
 generalize addR (ps,f,co) l=X at *
 generalize kBz (ps,f,co) l=K at *
 have FA:=yD FA;have FE:=yD FE
 obtain ⟨xa,xc,rfl,_⟩:=Rep.sl X1.out.raw
 obtain ⟨ya,yc,rfl,_⟩:=Rep.sl X2.out.raw
 go_wp2_with fail
 refine (kCs (hcode.below EE)).mono ?_
 rintro e w6 ⟨pa,pc,p,ma,mc,nm,rfl,hpsm,hO,hr,hb⟩
 have z_w6:=hb.size
 replace BW:=kC BW hb
 replace HT:=yD (HT.out.below hb)
 replace LO:=yD (LO.out.below hb)
 replace XO:=yD (XO.out.below hb)
 replace X1:=yD (X1.out.below hb)
 replace X2:=yD (X2.out.below hb)
 replace EE:=(tQ EE hb)
 clear hb
 have PO:=yD (hO)
 have NO:=yD (hr)
 clear hO hr
 go_upto_region 7 with fail
 generalize hw_:World.alloc w6 _=w7
 have E_w7:Below w6.heap.size w6 w7:=dC
 have BN:w7.heap[w6.heap.size]?=some (.cells #[.slice ma nm.length mc] 27 (0,0)):=dN
 have z_w7:w6.heap.size + 1≤w7.heap.size:=fA
 clear hw_
 replace BW:=kC BW E_w7
 replace HT:=yD (HT.out.below E_w7)
 replace LO:=yD (LO.out.below E_w7)
 replace XO:=yD (XO.out.below E_w7)
 replace X1:=yD (X1.out.below E_w7)
 replace X2:=yD (X2.out.below E_w7)
 replace PO:=yD (PO.out.below E_w7)
 replace NO:=yD (NO.out.below E_w7)
 replace EE:=(tQ EE E_w7)
 clear E_w7
 have KBN_0:w7.cell? ⟨w6.heap.size,0,none⟩=some (.slice ma nm.length mc):=kT BN rfl
 go_wp2_with fail
 refine (kGw PO.out.rd (cn:=[.slice ma nm.length mc]) NO.out.rd).mono ?_
 rintro e w8 ⟨v_,rfl,hO,hb⟩
 have z_w8:=hb.size
 replace BW:=kC BW hb
 replace BN:=kC BN hb
 replace HT:=yD (HT.out.below hb)
 replace LO:=yD (LO.out.below hb)
 replace XO:=yD (XO.out.below hb)
 replace X1:=yD (X1.out.below hb)
 replace X2:=yD (X2.out.below hb)
 replace PO:=yD (PO.out.below hb)
 replace NO:=yD (NO.out.below hb)
 replace EE:=(tQ EE hb)
 clear KBN_0
 clear hb
 have SO:=yD (hO)
 clear hO
 obtain ⟨sa,sc,rfl,_⟩:=Rep.sl SO.out.raw
 have KBN_0:w8.cell? ⟨w6.heap.size,0,none⟩=some (.slice ma nm.length mc):=kT BN rfl
 go_wp2_with fail
 refine (zH PO.out.rd (cn:=[.slice ma nm.length mc]) NO.out.rd).mono ?_
 rintro e w9 ⟨cs,rfl,hO,hb⟩
 have z_w9:=hb.size
 replace BW:=kC BW hb
 replace BN:=kC BN hb
 replace HT:=yD (HT.out.below hb)
 replace LO:=yD (LO.out.below hb)
 replace XO:=yD (XO.out.below hb)
 replace X1:=yD (X1.out.below hb)
 replace X2:=yD (X2.out.below hb)
 replace PO:=yD (PO.out.below hb)
 replace NO:=yD (NO.out.below hb)
 replace SO:=yD (SO.out.below hb)
 replace EE:=(tQ EE hb)
 clear KBN_0
 clear hb
 obtain ⟨qa,qc,rfl⟩:=kId hO.raw
 have QO:=yD (hO)
 clear hO
 go_upto_region 9 with fail
 generalize hw_:World.alloc w9 _=w10
 have E_w10:Below w9.heap.size w9 w10:=dC
 have BQ:w10.heap[w9.heap.size]?=some (.cells #[.slice qa (yM nm p).length qc] 27 (0,0)):=dN
 have z_w10:w9.heap.size + 1≤w10.heap.size:=fA
 clear hw_
 replace BW:=kC BW E_w10
 replace BN:=kC BN E_w10
 replace HT:=yD (HT.out.below E_w10)
 replace LO:=yD (LO.out.below E_w10)
 replace XO:=yD (XO.out.below E_w10)
 replace X1:=yD (X1.out.below E_w10)
 replace X2:=yD (X2.out.below E_w10)
 replace PO:=yD (PO.out.below E_w10)
 replace NO:=yD (NO.out.below E_w10)
 replace SO:=yD (SO.out.below E_w10)
 replace QO:=yD (QO.out.below E_w10)
 replace EE:=(tQ EE E_w10)
 clear E_w10
 have KBN_0:w10.cell? ⟨w6.heap.size,0,none⟩=some (.slice ma nm.length mc):=kT BN rfl
 go_wp2_with fail
 refine (yz PO.out.rd (cn:=[.slice ma nm.length mc]) NO.out.rd).mono ?_
 rintro e w11 ⟨cs,rfl,hO,hb⟩
 have z_w11:=hb.size
 replace BW:=kC BW hb
 replace BN:=kC BN hb
 replace BQ:=kC BQ hb
 replace HT:=yD (HT.out.below hb)
 replace LO:=yD (LO.out.below hb)
 replace XO:=yD (XO.out.below hb)
 replace X1:=yD (X1.out.below hb)
 replace X2:=yD (X2.out.below hb)
 replace PO:=yD (PO.out.below hb)
 replace NO:=yD (NO.out.below hb)
 replace SO:=yD (SO.out.below hb)
 replace QO:=yD (QO.out.below hb)
 replace EE:=(tQ EE hb)
 clear KBN_0
 clear hb
 obtain ⟨ra,rc_,rfl⟩:=kId hO.raw
 have RO:=yD (hO)
 clear hO
 go_upto_region 10 with fail
 generalize hw_:World.alloc w11 _=w12
 have E_w12:Below w11.heap.size w11 w12:=dC
 have BR:w12.heap[w11.heap.size]?=some (.cells #[.slice ra (yM nm p).length rc_] 27 (0,0)):=dN
 have z_w12:w11.heap.size + 1≤w12.heap.size:=fA
 clear hw_
 replace BW:=kC BW E_w12
 replace BN:=kC BN E_w12
 replace BQ:=kC BQ E_w12
 replace HT:=yD (HT.out.below E_w12)
 replace LO:=yD (LO.out.below E_w12)
 replace XO:=yD (XO.out.below E_w12)
 replace X1:=yD (X1.out.below E_w12)
 replace X2:=yD (X2.out.below E_w12)
 replace PO:=yD (PO.out.below E_w12)
 replace NO:=yD (NO.out.below E_w12)
 replace SO:=yD (SO.out.below E_w12)
 replace QO:=yD (QO.out.below E_w12)
 replace RO:=yD (RO.out.below E_w12)
 replace EE:=(tQ EE E_w12)
 clear E_w12
 have hp48:=hpsm.1
 have hT:=hopsF_pos (n:=nm) (l:=p)
 have FP:=fun h=>m_prefix (n:=nm) (l:=p) h
 have FC:=fun hv i (h:i < (jf p nm).length) r (hr:r∈p) hf hn=>costR_hit (n:=nm) (l:=p) hv h (r:=r) hr hf hn
 have FG:=fun hv i (h:i + 1 < (jf p nm).length)=>costR_asc (n:=nm) (l:=p) hv h
 have FZ:=fun hv i (h:i < (jf p nm).length)=>costR_pos (n:=nm) (l:=p) hv h
 have HL5:=kIh (l:=p) (n:=nm)
 generalize hH:jf p nm=H at *
 generalize mOk nm p=T at *
 generalize yM nm p=M at *
 generalize kFn nm p=C at *
 have FP:=yD FP;have FC:=yD FC;have FG:=yD FG;have FZ:=yD FZ;have HH:=yD hH;have HT2:=yD hT;clear hH hT
 go_wp2_with fail
 refine (kBs (hcode.below EE)).mono ?_
 rintro e w13 ⟨ga,gc,gl,gx,rfl,hgsm,hO,hgx,hb⟩
 have z_w13:=hb.size
 replace BW:=kC BW hb
 replace BN:=kC BN hb
 replace BQ:=kC BQ hb
 replace BR:=kC BR hb
 replace HT:=yD (HT.out.below hb)
 replace LO:=yD (LO.out.below hb)
 replace XO:=yD (XO.out.below hb)
 replace X1:=yD (X1.out.below hb)
 replace X2:=yD (X2.out.below hb)
 replace PO:=yD (PO.out.below hb)
 replace NO:=yD (NO.out.below hb)
 replace SO:=yD (SO.out.below hb)
 replace QO:=yD (QO.out.below hb)
 replace RO:=yD (RO.out.below hb)
 replace EE:=(tQ EE hb)
 clear hb
 have GO:=yD (hO)
 clear hO
 go_wp2_with fail
 refine (kBn (hcode.below EE)).mono ?_
 rintro e w14 ⟨ea,ec,el,ka,kc,kl,rfl,hesm,hO,hksm,hr,hb⟩
 have z_w14:=hb.size
 replace BW:=kC BW hb
 replace BN:=kC BN hb
 replace BQ:=kC BQ hb
 replace BR:=kC BR hb
 replace HT:=yD (HT.out.below hb)
 replace LO:=yD (LO.out.below hb)
 replace XO:=yD (XO.out.below hb)
 replace X1:=yD (X1.out.below hb)
 replace X2:=yD (X2.out.below hb)
 replace PO:=yD (PO.out.below hb)
 replace NO:=yD (NO.out.below hb)
 replace SO:=yD (SO.out.below hb)
 replace QO:=yD (QO.out.below hb)
 replace RO:=yD (RO.out.below hb)
 replace GO:=yD (GO.out.below hb)
 replace EE:=(tQ EE hb)
 clear hb
 have EO:=yD (hO)
 have KO:=yD (hr)
 clear hO hr
 go_wp2_with fail
 refine (kAz (hcode.below EE)).mono ?_
 rintro e w15 ⟨ta,tc,tl,rfl,htsm,hO,hb⟩
 have z_w15:=hb.size
 replace BW:=kC BW hb
 replace BN:=kC BN hb
 replace BQ:=kC BQ hb
 replace BR:=kC BR hb
 replace HT:=yD (HT.out.below hb)
 replace LO:=yD (LO.out.below hb)
 replace XO:=yD (XO.out.below hb)
 replace X1:=yD (X1.out.below hb)
 replace X2:=yD (X2.out.below hb)
 replace PO:=yD (PO.out.below hb)
 replace NO:=yD (NO.out.below hb)
 replace SO:=yD (SO.out.below hb)
 replace QO:=yD (QO.out.below hb)
 replace RO:=yD (RO.out.below hb)
 replace GO:=yD (GO.out.below hb)
 replace EO:=yD (EO.out.below hb)
 replace KO:=yD (KO.out.below hb)
 replace EE:=(tQ EE hb)
 clear hb
 have TO:=yD (hO)
 clear hO
 go_upto_region 13 with fail
 go_wp2_with fail
 refine (jJ X1.out.raw X2.out.raw).mono ?_
 rintro e w16 ⟨he_,hb⟩
 have he2_:e=.returned (.bool true):=he_.trans fZ
 subst he2_
 clear he_
 have z_w16:=hb.size
 replace BW:=kC BW hb
 replace BN:=kC BN hb
 replace BQ:=kC BQ hb
 replace BR:=kC BR hb
 replace HT:=yD (HT.out.below hb)
 replace LO:=yD (LO.out.below hb)
 replace XO:=yD (XO.out.below hb)
 replace X1:=yD (X1.out.below hb)
 replace X2:=yD (X2.out.below hb)
 replace PO:=yD (PO.out.below hb)
 replace NO:=yD (NO.out.below hb)
 replace SO:=yD (SO.out.below hb)
 replace QO:=yD (QO.out.below hb)
 replace RO:=yD (RO.out.below hb)
 replace GO:=yD (GO.out.below hb)
 replace EO:=yD (EO.out.below hb)
 replace KO:=yD (KO.out.below hb)
 replace TO:=yD (TO.out.below hb)
 replace EE:=(tQ EE hb)
 clear hb
 have KBN_0:w16.cell? ⟨w6.heap.size,0,none⟩=some (.slice ma nm.length mc):=kT BN rfl
 go_wp2_with fail
 refine (kGk PO.out.rd (cn:=[.slice ma nm.length mc]) NO.out.rd).mono ?_
 rintro e w17 ⟨v_,rfl,hO,hb⟩
 have z_w17:=hb.size
 replace BW:=kC BW hb
 replace BN:=kC BN hb
 replace BQ:=kC BQ hb
 replace BR:=kC BR hb
 replace HT:=yD (HT.out.below hb)
 replace LO:=yD (LO.out.below hb)
 replace XO:=yD (XO.out.below hb)
 replace X1:=yD (X1.out.below hb)
 replace X2:=yD (X2.out.below hb)
 replace PO:=yD (PO.out.below hb)
 replace NO:=yD (NO.out.below hb)
 replace SO:=yD (SO.out.below hb)
 replace QO:=yD (QO.out.below hb)
 replace RO:=yD (RO.out.below hb)
 replace GO:=yD (GO.out.below hb)
 replace EO:=yD (EO.out.below hb)
 replace KO:=yD (KO.out.below hb)
 replace TO:=yD (TO.out.below hb)
 replace EE:=(tQ EE hb)
 clear KBN_0
 clear hb
 rw [HH.out] at hO
 have S2:=yD (hO)
 clear hO
 obtain ⟨s2a,s2c,rfl,_⟩:=Rep.sl S2.out.raw
 go_wp2_with fail
 refine (kGt SO.out.raw S2.out.raw).mono ?_
 rintro e w18 ⟨he_,hb⟩
 have he2_:e=.returned (.bool true):=he_.trans fZ
 subst he2_
 clear he_
 have z_w18:=hb.size
 replace BW:=kC BW hb
 replace BN:=kC BN hb
 replace BQ:=kC BQ hb
 replace BR:=kC BR hb
 replace HT:=yD (HT.out.below hb)
 replace LO:=yD (LO.out.below hb)
 replace XO:=yD (XO.out.below hb)
 replace X1:=yD (X1.out.below hb)
 replace X2:=yD (X2.out.below hb)
 replace PO:=yD (PO.out.below hb)
 replace NO:=yD (NO.out.below hb)
 replace SO:=yD (SO.out.below hb)
 replace QO:=yD (QO.out.below hb)
 replace RO:=yD (RO.out.below hb)
 replace GO:=yD (GO.out.below hb)
 replace EO:=yD (EO.out.below hb)
 replace KO:=yD (KO.out.below hb)
 replace TO:=yD (TO.out.below hb)
 replace S2:=yD (S2.out.below hb)
 replace EE:=(tQ EE hb)
 clear hb
 have KBQ_0:w18.cell? ⟨w9.heap.size,0,none⟩=some (.slice qa M.length qc):=kT BQ rfl
 have KBR_0:w18.cell? ⟨w11.heap.size,0,none⟩=some (.slice ra M.length rc_):=kT BR rfl
 go_wp2_with fail
 refine (kBw (ca:=[.slice qa M.length qc]) (cb:=[.slice ra M.length rc_]) QO.out.raw RO.out.raw).mono ?_
 rintro e w19 ⟨he_,hb⟩
 have he2_:e=.returned (.bool true):=he_.trans (by simp [eqN])
 subst he2_
 clear he_
 have z_w19:=hb.size
 replace BW:=kC BW hb
 replace BN:=kC BN hb
 replace BQ:=kC BQ hb
 replace BR:=kC BR hb
 replace HT:=yD (HT.out.below hb)
 replace LO:=yD (LO.out.below hb)
 replace XO:=yD (XO.out.below hb)
 replace X1:=yD (X1.out.below hb)
 replace X2:=yD (X2.out.below hb)
 replace PO:=yD (PO.out.below hb)
 replace NO:=yD (NO.out.below hb)
 replace SO:=yD (SO.out.below hb)
 replace QO:=yD (QO.out.below hb)
 replace RO:=yD (RO.out.below hb)
 replace GO:=yD (GO.out.below hb)
 replace EO:=yD (EO.out.below hb)
 replace KO:=yD (KO.out.below hb)
 replace TO:=yD (TO.out.below hb)
 replace S2:=yD (S2.out.below hb)
 replace EE:=(tQ EE hb)
 clear KBQ_0 KBR_0
 clear hb
 go_wp2_with fail
 refine (kEs GO.out.rd (f:=gx) fV).mono ?_
 rintro e w20 ⟨v_,rfl,hO,hb⟩
 have z_w20:=hb.size
 replace BW:=kC BW hb
 replace BN:=kC BN hb
 replace BQ:=kC BQ hb
 replace BR:=kC BR hb
 replace HT:=yD (HT.out.below hb)
 replace LO:=yD (LO.out.below hb)
 replace XO:=yD (XO.out.below hb)
 replace X1:=yD (X1.out.below hb)
 replace X2:=yD (X2.out.below hb)
 replace PO:=yD (PO.out.below hb)
 replace NO:=yD (NO.out.below hb)
 replace SO:=yD (SO.out.below hb)
 replace QO:=yD (QO.out.below hb)
 replace RO:=yD (RO.out.below hb)
 replace GO:=yD (GO.out.below hb)
 replace EO:=yD (EO.out.below hb)
 replace KO:=yD (KO.out.below hb)
 replace TO:=yD (TO.out.below hb)
 replace S2:=yD (S2.out.below hb)
 replace EE:=(tQ EE hb)
 clear hb
 have G1:=yD (hO)
 clear hO
 obtain ⟨g1a2,g1c2,rfl,_⟩:=Rep.sl G1.out.raw
 go_wp2_with fail
 refine (kEg GO.out.rd (f:=gx) fV).mono ?_
 rintro e w21 ⟨v_,rfl,hO,hb⟩
 have z_w21:=hb.size
 replace BW:=kC BW hb
 replace BN:=kC BN hb
 replace BQ:=kC BQ hb
 replace BR:=kC BR hb
 replace HT:=yD (HT.out.below hb)
 replace LO:=yD (LO.out.below hb)
 replace XO:=yD (XO.out.below hb)
 replace X1:=yD (X1.out.below hb)
 replace X2:=yD (X2.out.below hb)
 replace PO:=yD (PO.out.below hb)
 replace NO:=yD (NO.out.below hb)
 replace SO:=yD (SO.out.below hb)
 replace QO:=yD (QO.out.below hb)
 replace RO:=yD (RO.out.below hb)
 replace GO:=yD (GO.out.below hb)
 replace EO:=yD (EO.out.below hb)
 replace KO:=yD (KO.out.below hb)
 replace TO:=yD (TO.out.below hb)
 replace S2:=yD (S2.out.below hb)
 replace G1:=yD (G1.out.below hb)
 replace EE:=(tQ EE hb)
 clear hb
 have G2:=yD (hO)
 clear hO
 obtain ⟨g2a2,g2c2,rfl,_⟩:=Rep.sl G2.out.raw
 go_wp2_with fail
 refine (jJ G1.out.raw G2.out.raw).mono ?_
 rintro e w22 ⟨he_,hb⟩
 have he2_:e=.returned (.bool true):=he_.trans fZ
 subst he2_
 clear he_
 have z_w22:=hb.size
 replace BW:=kC BW hb
 replace BN:=kC BN hb
 replace BQ:=kC BQ hb
 replace BR:=kC BR hb
 replace HT:=yD (HT.out.below hb)
 replace LO:=yD (LO.out.below hb)
 replace XO:=yD (XO.out.below hb)
 replace X1:=yD (X1.out.below hb)
 replace X2:=yD (X2.out.below hb)
 replace PO:=yD (PO.out.below hb)
 replace NO:=yD (NO.out.below hb)
 replace SO:=yD (SO.out.below hb)
 replace QO:=yD (QO.out.below hb)
 replace RO:=yD (RO.out.below hb)
 replace GO:=yD (GO.out.below hb)
 replace EO:=yD (EO.out.below hb)
 replace KO:=yD (KO.out.below hb)
 replace TO:=yD (TO.out.below hb)
 replace S2:=yD (S2.out.below hb)
 replace G1:=yD (G1.out.below hb)
 replace G2:=yD (G2.out.below hb)
 replace EE:=(tQ EE hb)
 clear hb
 obtain ⟨b1,hb1⟩:∃ b_,decide (el=kl)=b_:=⟨_,rfl⟩
 have Hb1:=yD hb1
 clear hb1
 go_wp2_with fail
 refine (kDx EO.out.raw KO.out.raw).mono ?_
 rintro e w23 ⟨he_,hb⟩
 have he2_:e=.returned (.bool b1):=he_.trans (by rw [Hb1.out])
 subst he2_
 clear he_
 have z_w23:=hb.size
 replace BW:=kC BW hb
 replace BN:=kC BN hb
 replace BQ:=kC BQ hb
 replace BR:=kC BR hb
 replace HT:=yD (HT.out.below hb)
 replace LO:=yD (LO.out.below hb)
 replace XO:=yD (XO.out.below hb)
 replace X1:=yD (X1.out.below hb)
 replace X2:=yD (X2.out.below hb)
 replace PO:=yD (PO.out.below hb)
 replace NO:=yD (NO.out.below hb)
 replace SO:=yD (SO.out.below hb)
 replace QO:=yD (QO.out.below hb)
 replace RO:=yD (RO.out.below hb)
 replace GO:=yD (GO.out.below hb)
 replace EO:=yD (EO.out.below hb)
 replace KO:=yD (KO.out.below hb)
 replace TO:=yD (TO.out.below hb)
 replace S2:=yD (S2.out.below hb)
 replace G1:=yD (G1.out.below hb)
 replace G2:=yD (G2.out.below hb)
 replace EE:=(tQ EE hb)
 clear hb
 go_wp2_with fail
 refine (jJ EO.out.raw KO.out.raw).mono ?_
 rintro e w24 ⟨he_,hb⟩
 have he2_:e=.returned (.bool b1):=he_.trans (by rw [Hb1.out])
 subst he2_
 clear he_
 have z_w24:=hb.size
 replace BW:=kC BW hb
 replace BN:=kC BN hb
 replace BQ:=kC BQ hb
 replace BR:=kC BR hb
 replace HT:=yD (HT.out.below hb)
 replace LO:=yD (LO.out.below hb)
 replace XO:=yD (XO.out.below hb)
 replace X1:=yD (X1.out.below hb)
 replace X2:=yD (X2.out.below hb)
 replace PO:=yD (PO.out.below hb)
 replace NO:=yD (NO.out.below hb)
 replace SO:=yD (SO.out.below hb)
 replace QO:=yD (QO.out.below hb)
 replace RO:=yD (RO.out.below hb)
 replace GO:=yD (GO.out.below hb)
 replace EO:=yD (EO.out.below hb)
 replace KO:=yD (KO.out.below hb)
 replace TO:=yD (TO.out.below hb)
 replace S2:=yD (S2.out.below hb)
 replace G1:=yD (G1.out.below hb)
 replace G2:=yD (G2.out.below hb)
 replace EE:=(tQ EE hb)
 clear hb
 obtain ⟨s1,hs1⟩:∃ b_,zw tl=b_:=⟨_,rfl⟩
 have Hs1:=yD hs1
 clear hs1
 go_wp2_with fail
 refine (kCx TO.out.rd htsm.wRs HT.out).mono ?_
 rintro e w25 ⟨he_,hb⟩
 have he2_:e=.returned (.string s1):=he_.trans (by rw [Hs1.out])
 subst he2_
 clear he_
 have z_w25:=hb.size
 replace BW:=kC BW hb
 replace BN:=kC BN hb
 replace BQ:=kC BQ hb
 replace BR:=kC BR hb
 replace HT:=yD (HT.out.below hb)
 replace LO:=yD (LO.out.below hb)
 replace XO:=yD (XO.out.below hb)
 replace X1:=yD (X1.out.below hb)
 replace X2:=yD (X2.out.below hb)
 replace PO:=yD (PO.out.below hb)
 replace NO:=yD (NO.out.below hb)
 replace SO:=yD (SO.out.below hb)
 replace QO:=yD (QO.out.below hb)
 replace RO:=yD (RO.out.below hb)
 replace GO:=yD (GO.out.below hb)
 replace EO:=yD (EO.out.below hb)
 replace KO:=yD (KO.out.below hb)
 replace TO:=yD (TO.out.below hb)
 replace S2:=yD (S2.out.below hb)
 replace G1:=yD (G1.out.below hb)
 replace G2:=yD (G2.out.below hb)
 replace EE:=(tQ EE hb)
 clear hb
 go_wp2_with fail
 refine (kCr TO.out.rd htsm.wRs).mono ?_
 rintro e w26 ⟨he_,hb⟩
 have he2_:e=.returned (.string s1):=he_.trans (by rw [Hs1.out])
 subst he2_
 clear he_
 have z_w26:=hb.size
 replace BW:=kC BW hb
 replace BN:=kC BN hb
 replace BQ:=kC BQ hb
 replace BR:=kC BR hb
 replace HT:=yD (HT.out.below hb)
 replace LO:=yD (LO.out.below hb)
 replace XO:=yD (XO.out.below hb)
 replace X1:=yD (X1.out.below hb)
 replace X2:=yD (X2.out.below hb)
 replace PO:=yD (PO.out.below hb)
 replace NO:=yD (NO.out.below hb)
 replace SO:=yD (SO.out.below hb)
 replace QO:=yD (QO.out.below hb)
 replace RO:=yD (RO.out.below hb)
 replace GO:=yD (GO.out.below hb)
 replace EO:=yD (EO.out.below hb)
 replace KO:=yD (KO.out.below hb)
 replace TO:=yD (TO.out.below hb)
 replace S2:=yD (S2.out.below hb)
 replace G1:=yD (G1.out.below hb)
 replace G2:=yD (G2.out.below hb)
 replace EE:=(tQ EE hb)
 clear hb
 obtain ⟨bv,hbv⟩:∃ b_,kr l=b_:=⟨_,rfl⟩
 have Hbv:=yD hbv
 clear hbv
 go_wp2_with fail
 refine (jA LO.out.raw).mono ?_
 rintro e w27 ⟨he_,hb⟩
 have he2_:e=.returned (.bool bv):=he_.trans (by rw [Hbv.out])
 subst he2_
 clear he_
 have z_w27:=hb.size
 replace BW:=kC BW hb
 replace BN:=kC BN hb
 replace BQ:=kC BQ hb
 replace BR:=kC BR hb
 replace HT:=yD (HT.out.below hb)
 replace LO:=yD (LO.out.below hb)
 replace XO:=yD (XO.out.below hb)
 replace X1:=yD (X1.out.below hb)
 replace X2:=yD (X2.out.below hb)
 replace PO:=yD (PO.out.below hb)
 replace NO:=yD (NO.out.below hb)
 replace SO:=yD (SO.out.below hb)
 replace QO:=yD (QO.out.below hb)
 replace RO:=yD (RO.out.below hb)
 replace GO:=yD (GO.out.below hb)
 replace EO:=yD (EO.out.below hb)
 replace KO:=yD (KO.out.below hb)
 replace TO:=yD (TO.out.below hb)
 replace S2:=yD (S2.out.below hb)
 replace G1:=yD (G1.out.below hb)
 replace G2:=yD (G2.out.below hb)
 replace EE:=(tQ EE hb)
 clear hb
 go_wp2_with fail
 refine (yR LO.out.raw).mono ?_
 rintro e w28 ⟨he_,hb⟩
 have he2_:e=.returned (.bool bv):=he_.trans (by rw [Hbv.out])
 subst he2_
 clear he_
 have z_w28:=hb.size
 replace BW:=kC BW hb
 replace BN:=kC BN hb
 replace BQ:=kC BQ hb
 replace BR:=kC BR hb
 replace HT:=yD (HT.out.below hb)
 replace LO:=yD (LO.out.below hb)
 replace XO:=yD (XO.out.below hb)
 replace X1:=yD (X1.out.below hb)
 replace X2:=yD (X2.out.below hb)
 replace PO:=yD (PO.out.below hb)
 replace NO:=yD (NO.out.below hb)
 replace SO:=yD (SO.out.below hb)
 replace QO:=yD (QO.out.below hb)
 replace RO:=yD (RO.out.below hb)
 replace GO:=yD (GO.out.below hb)
 replace EO:=yD (EO.out.below hb)
 replace KO:=yD (KO.out.below hb)
 replace TO:=yD (TO.out.below hb)
 replace S2:=yD (S2.out.below hb)
 replace G1:=yD (G1.out.below hb)
 replace G2:=yD (G2.out.below hb)
 replace EE:=(tQ EE hb)
 clear hb
 clear S2 G1 G2 GO EO KO TO RO BR X2 XO BW HT
 clear Hb1 Hs1 Hbv
 by_cases hH0:0 < H.length
 · obtain rfl:T=true:=by rw [HT2.out];exact decide_eq_true hH0
   have hHI:(0:Int) < H.length:=fV
   have KBN_0:w28.cell? ⟨w6.heap.size,0,none⟩=some (.slice ma nm.length mc):=kT BN rfl
   have KBQ_0:w28.cell? ⟨w9.heap.size,0,none⟩=some (.slice qa M.length qc):=kT BQ rfl
   go_wp2_with fail
   refine (yK (ca:=[.slice ma nm.length mc]) (cb:=[.slice qa M.length qc]) NO.out.rd QO.out.rd).mono ?_
   rintro e w29 ⟨he_,hb⟩
   have he2_:e=.returned (.bool true):=he_.trans (by rw [FP.out fT])
   subst he2_
   clear he_
   have z_w29:=hb.size
   replace BN:=kC BN hb
   replace BQ:=kC BQ hb
   replace LO:=yD (LO.out.below hb)
   replace X1:=yD (X1.out.below hb)
   replace PO:=yD (PO.out.below hb)
   replace NO:=yD (NO.out.below hb)
   replace SO:=yD (SO.out.below hb)
   replace QO:=yD (QO.out.below hb)
   replace EE:=(tQ EE hb)
   clear KBN_0 KBQ_0
   clear hb
   obtain ⟨bp,hbp⟩:∃ b_,kr p=b_:=⟨_,rfl⟩
   have Hbp:=yD hbp
   clear hbp
   clear FP
   go_wp2
   go_loopw [21,22] (fun a i wr=>∃ (j:Nat) (la:Int),a=.int .i64 la∧i=.int .i64 j∧j≤H.length∧(-9223372036854775808≤la∧la≤9223372036854775807)∧Hid (bp=true→j < H.length→la≤C j)∧Below w29.heap.size w29 wr) (fun _ i _=>H.length - (intOf i).toNat)
   case atStart=>exact ⟨0,-1,rfl,rfl,Nat.zero_le _,by omega,yD (fun h1 h2=>by have:=FZ.out (Hbp.out.trans h1) 0 h2;omega),bR⟩
   obtain ⟨j,la,rfl,rfl,hj,hla,HI,hbel⟩:=hrel
   have hj0:=Int.natCast_nonneg j
   replace BN:=kC BN hbel
   replace BQ:=kC BQ hbel
   replace LO:=yD (LO.out.below hbel)
   replace X1:=yD (X1.out.below hbel)
   replace PO:=yD (PO.out.below hbel)
   replace NO:=yD (NO.out.below hbel)
   replace SO:=yD (SO.out.below hbel)
   replace QO:=yD (QO.out.below hbel)
   replace EE:=(tQ EE hbel)
   have LB:=yD (show From w29 wr from hbel)
   clear hbel
   by_cases hlt:j < H.length
   · have hltI:(j:Int) < H.length:=fV
     go_wp2_with fail
     refine (jA PO.out.raw).mono ?_
     rintro e w30 ⟨he_,hb⟩
     have he2_:e=.returned (.bool bp):=he_.trans (by rw [Hbp.out])
     subst he2_
     clear he_
     have z_w30:=hb.size
     replace BN:=kC BN hb
     replace BQ:=kC BQ hb
     replace LO:=yD (LO.out.below hb)
     replace X1:=yD (X1.out.below hb)
     replace PO:=yD (PO.out.below hb)
     replace NO:=yD (NO.out.below hb)
     replace SO:=yD (SO.out.below hb)
     replace QO:=yD (QO.out.below hb)
     replace LB:=yD (LB.out.below hb)
     replace EE:=(tQ EE hb)
     clear hb
     cases bp
     · cases K
       · have hX:=FE.out fT
         subst hX
         go_wp2_with fail
         refine (jJ X1.out.raw LO.out.raw).mono ?_
         rintro e w31 ⟨he_,hb⟩
         have he2_:e=.returned (.bool true):=he_.trans fZ
         subst he2_
         clear he_
         have z_w31:=hb.size
         replace BN:=kC BN hb
         replace BQ:=kC BQ hb
         replace LO:=yD (LO.out.below hb)
         replace X1:=yD (X1.out.below hb)
         replace PO:=yD (PO.out.below hb)
         replace NO:=yD (NO.out.below hb)
         replace SO:=yD (SO.out.below hb)
         replace QO:=yD (QO.out.below hb)
         replace LB:=yD (LB.out.below hb)
         replace EE:=(tQ EE hb)
         clear hb
         go_wp2
         go_ret
         exact ⟨rfl,EE⟩
       go_wp2_with fail
       refine (jA X1.out.raw).mono ?_
       rintro e w31 ⟨he_,hb⟩
       have he2_:e=.returned (.bool true):=he_.trans (by rw [FA.out fT])
       subst he2_
       clear he_
       have z_w31:=hb.size
       replace BN:=kC BN hb
       replace BQ:=kC BQ hb
       replace LO:=yD (LO.out.below hb)
       replace X1:=yD (X1.out.below hb)
       replace PO:=yD (PO.out.below hb)
       replace NO:=yD (NO.out.below hb)
       replace SO:=yD (SO.out.below hb)
       replace QO:=yD (QO.out.below hb)
       replace LB:=yD (LB.out.below hb)
       replace EE:=(tQ EE hb)
       clear hb
       go_wp2
       go_ret
       exact ⟨rfl,EE⟩
     have HCj:=yD (FC.out Hbp.out j hlt)
     have hlaC:=HI.out fT hlt
     obtain ⟨hb_,ho_,rfl,c0,hcr,AC0⟩:=Rep.kAd SO.out.raw (i:=j) hlt rfl
     obtain ⟨e0,hr0⟩:=Rep.kBf hcr
     obtain rfl:c0=_:=by simpa using e0
     clear e0 hcr
     have hnext:=fun h=>FG.out Hbp.out j h
     generalize H[j]=hj_ at *
     generalize hCj:C j=cj at *
     have HNX:=yD hnext
     clear hnext hCj
     go_wp2
     go_loopw [21,23] (fun a i wq=>∃ (k:Nat) (la:Int),a=.int .i64 la∧i=.int .i64 k∧k≤p.length∧(-9223372036854775808≤la∧la≤9223372036854775807)∧la≤cj∧Below w30.heap.size w30 wq) (fun _ i _=>p.length - (intOf i).toNat)
     case atStart=>exact ⟨0,la,rfl,rfl,Nat.zero_le _,hla,hlaC,bR⟩
     clear hla hlaC HI
     obtain ⟨k,lb,rfl,rfl,hk,hlb,hlbC,hbq⟩:=hrel
     have hk0:=Int.natCast_nonneg k
     replace BN:=kC BN hbq
     replace BQ:=kC BQ hbq
     replace AC0:=cL hbq AC0
     replace LO:=yD (LO.out.below hbq)
     replace X1:=yD (X1.out.below hbq)
     replace PO:=yD (PO.out.below hbq)
     replace NO:=yD (NO.out.below hbq)
     replace SO:=yD (SO.out.below hbq)
     replace QO:=yD (QO.out.below hbq)
     replace LB:=yD (LB.out.below hbq)
     replace EE:=(tQ EE hbq)
     have LC:=yD (show From w30 wr from hbq)
     clear hbq
     by_cases hlk:k < p.length
     · have hlkI:(k:Int) < p.length:=fV
       have HK1:=yD (show k + 1≤p.length from hlk)
       obtain ⟨pb,po,rfl,c0,c1,c2,hcr,R0,R1,R2⟩:=Rep.yg PO.out.raw hlk rfl
       have hmem:=HCj.out _ (List.getElem_mem hlk)
       obtain ⟨v0,he,p0,p1,p2⟩:=kG hcr
       simp only [List.cons.injEq,and_true] at he
       obtain ⟨rfl,rfl,rfl⟩:=he
       obtain ⟨za,zc,rfl,_⟩:=Rep.sl p0
       clear hcr
       have HM:=yD hmem
       clear hmem
       generalize p[k]=y at *
       obtain ⟨y0,y1,y2⟩:=y
       simp only at *
       have HP0:=yD p0
       clear p0
       go_upto_region 24 with fail
       have KBQ_0:wr.cell? ⟨w9.heap.size,0,none⟩=some (.slice qa M.length qc):=kT BQ rfl
       have FX:=yD (fun (W:World) (hW:Below wr.heap.size wr W)=>cLs5 hW KBQ_0 AC0 R0 R1 R2)
       refine kI (fun W=>Below wr.heap.size wr W) [true,true,true,true,true,true,true,true,true,true,true,true,true,true,true,true,true,false,true] fP fP bW (bR.drew) ?_
       intro wS HS
       iterate 10
        all_goals refine wkR ?_
       all_goals (have hg10:=True.intro;first|(refine wkG (fun b hg10=>?_);cases b;all_goals first | exact Bool.noConfusion hg10 | simp only [zU,zV] at hg10 | skip) | refine wkR ?_)
       all_goals refine wkP ?_
       iterate 6
        all_goals refine wkR ?_
       all_goals first | refine wkB (yA (ca:=[.slice za y0.length zc]) (cb:=[.slice qa M.length qc]) (HP0.out.below HS) (QO.out.below HS).raw) (fun wS1 HS=>?_) | refine wkR ?_
       all_goals (have hg18:=True.intro;first|(refine wkG (fun b hg18=>?_);cases b;all_goals first | exact Bool.noConfusion hg18 | simp only [zU,zV] at hg18 | skip) | refine wkR ?_)
       all_goals refine wkP ?_
       all_goals refine kQ ?_
       all_goals have hgeq:(y1=hj_∧y0=M→y2=cj):=fun q=>HM.out q.1 q.2
       all_goals have hLC:=LC.out.below HS
       all_goals have R2b:=cL HS R2
       all_goals first
         | (have hq:y2=cj:=hgeq ⟨by simpa using hg10,by simpa [eqN] using hg18⟩;have hq1:¬ y2 < lb:=(by omega);have hq2:y2≤cj:=(by omega);clear hg10 hg18 hgeq hq HS;go_wp2;go_roundw;(case rel=>exact ⟨k + 1,y2,rfl,by go_num,HK1.out,p2.2,hq2,hLC⟩);(case measure=>have:=HK1.out;simp [intOf];omega))
         | ((try clear hg10);(try clear hg18);clear hgeq HS R2b;go_wp2;go_roundw;(case rel=>exact ⟨k + 1,lb,rfl,by go_num,HK1.out,hlb,hlbC,hLC⟩);(case measure=>have:=HK1.out;simp [intOf];omega))
     have hlkI:¬ (k:Int) < p.length:=fV
     go_wp2
     go_roundw
     case rel=>exact ⟨j + 1,lb,rfl,by go_num,by omega,hlb,yD (fun _ h=>by have:=HNX.out h;omega),LB.out⟩
     simp [intOf];omega
   have hltI:¬ (j:Int) < H.length:=fV
   cases K
   · have hX:=FE.out fT
     subst hX
     go_wp2_with fail
     refine (jJ X1.out.raw LO.out.raw).mono ?_
     rintro e w30 ⟨he_,hb⟩
     have he2_:e=.returned (.bool true):=he_.trans fZ
     subst he2_
     clear he_
     have z_w30:=hb.size
     replace BN:=kC BN hb
     replace BQ:=kC BQ hb
     replace LO:=yD (LO.out.below hb)
     replace X1:=yD (X1.out.below hb)
     replace PO:=yD (PO.out.below hb)
     replace NO:=yD (NO.out.below hb)
     replace SO:=yD (SO.out.below hb)
     replace QO:=yD (QO.out.below hb)
     replace LB:=yD (LB.out.below hb)
     replace EE:=(tQ EE hb)
     clear hb
     go_wp2
     go_ret
     exact ⟨rfl,EE⟩
   go_wp2_with fail
   refine (jA X1.out.raw).mono ?_
   rintro e w30 ⟨he_,hb⟩
   have he2_:e=.returned (.bool true):=he_.trans (by rw [FA.out fT])
   subst he2_
   clear he_
   have z_w30:=hb.size
   replace BN:=kC BN hb
   replace BQ:=kC BQ hb
   replace LO:=yD (LO.out.below hb)
   replace X1:=yD (X1.out.below hb)
   replace PO:=yD (PO.out.below hb)
   replace NO:=yD (NO.out.below hb)
   replace SO:=yD (SO.out.below hb)
   replace QO:=yD (QO.out.below hb)
   replace LB:=yD (LB.out.below hb)
   replace EE:=(tQ EE hb)
   clear hb
   go_wp2
   go_ret
   exact ⟨rfl,EE⟩
 obtain rfl:T=false:=by rw [HT2.out];exact decide_eq_false hH0
 have hHz:H.length=0:=fV
 obtain rfl:=List.eq_nil_of_length_eq_zero hHz
 clear hHz hH0
 go_wp2
 go_loopw [22] (fun i wr=>i=.int .i64 0∧Below w28.heap.size w28 wr) (fun _ _=>0)
 case atStart=>exact ⟨rfl,bR⟩
 obtain ⟨rfl,hbel⟩:=hrel
 replace BN:=kC BN hbel
 replace BQ:=kC BQ hbel
 replace LO:=yD (LO.out.below hbel)
 replace X1:=yD (X1.out.below hbel)
 replace PO:=yD (PO.out.below hbel)
 replace NO:=yD (NO.out.below hbel)
 replace SO:=yD (SO.out.below hbel)
 replace QO:=yD (QO.out.below hbel)
 replace EE:=(tQ EE hbel)
 cases K
 · have hX:=FE.out fT
   subst hX
   go_wp2_with fail
   refine (jJ X1.out.raw LO.out.raw).mono ?_
   rintro e w29 ⟨he_,hb⟩
   have he2_:e=.returned (.bool true):=he_.trans fZ
   subst he2_
   clear he_
   have z_w29:=hb.size
   replace BN:=kC BN hb
   replace BQ:=kC BQ hb
   replace LO:=yD (LO.out.below hb)
   replace X1:=yD (X1.out.below hb)
   replace PO:=yD (PO.out.below hb)
   replace NO:=yD (NO.out.below hb)
   replace SO:=yD (SO.out.below hb)
   replace QO:=yD (QO.out.below hb)
   replace EE:=(tQ EE hb)
   clear hb
   go_wp2
   go_ret
   exact ⟨rfl,EE⟩
 go_wp2_with fail
 refine (jA X1.out.raw).mono ?_
 rintro e w29 ⟨he_,hb⟩
 have he2_:e=.returned (.bool true):=he_.trans (by rw [FA.out fT])
 subst he2_
 clear he_
 have z_w29:=hb.size
 replace BN:=kC BN hb
 replace BQ:=kC BQ hb
 replace LO:=yD (LO.out.below hb)
 replace X1:=yD (X1.out.below hb)
 replace PO:=yD (PO.out.below hb)
 replace NO:=yD (NO.out.below hb)
 replace SO:=yD (SO.out.below hb)
 replace QO:=yD (QO.out.below hb)
 replace EE:=(tQ EE hb)
 clear hb
 go_wp2
 go_ret
 exact ⟨rfl,EE⟩
theorem gTab:Tryz.prog.globalNamed "internal/strconv.uint64pow10" = some 0:=by kernel_rfl
theorem gTabType:(Tryz.prog.globals[0]?).map (·.type)=some 121:=by kernel_rfl
theorem cellsArr:Tryz.prog.cellsOf 121=20:=by kernel_rfl
theorem cellsOne:Tryz.prog.cellsOf 111=1:=by kernel_rfl
theorem tab_datum:(Rows.laid_internal_strconv_uint64pow10:DataW Unit)=Lib.tabData .u64 Lib.pow10Tab:=by kernel_rfl
theorem tabW_of {W:World} (h:laidMetH Tryz.prog Rows.fnRoutesRow.laid W):TabW Tryz.prog W:=by
 have h2:laidMet Tryz.prog [("internal/strconv.uint64pow10",Rows.laid_internal_strconv_uint64pow10)] W:=(laidMet.tail (laidMet.tail h))
 rw [tab_datum] at h2
 exact Lib.tabIs_of_head (rest:=[]) gTab gTabType Tryz.underlying121 Tryz.underlying111 cellsOne cellsArr h2
noncomputable def laidWorld (os:Os):World :=
  { World.holding Tryz.prog os ⟨#[],#[],[]⟩ with heap:=((((World.holding Tryz.prog os ⟨#[],#[],[]⟩).heap.modify 2 fun
      | .cells _ t frozen=>.cells #[.int .u8 0,.int .u8 1,.int .u8 28,.int .u8 2,.int .u8 29,.int .u8 14,.int .u8 24,.int .u8 3,.int .u8 30,.int .u8 22,.int .u8 20,.int .u8 15,.int .u8 25,.int .u8 17,.int .u8 4,.int .u8 8,.int .u8 31,.int .u8 27,.int .u8 13,.int .u8 23,.int .u8 21,.int .u8 19,.int .u8 16,.int .u8 7,.int .u8 26,.int .u8 12,.int .u8 18,.int .u8 6,.int .u8 11,.int .u8 5,.int .u8 10,.int .u8 9] t frozen
      | o=>o).modify 3 fun
      | .cells _ t frozen=>.cells #[.int .u8 0,.int .u8 1,.int .u8 56,.int .u8 2,.int .u8 57,.int .u8 49,.int .u8 28,.int .u8 3,.int .u8 61,.int .u8 58,.int .u8 42,.int .u8 50,.int .u8 38,.int .u8 29,.int .u8 17,.int .u8 4,.int .u8 62,.int .u8 47,.int .u8 59,.int .u8 36,.int .u8 45,.int .u8 43,.int .u8 51,.int .u8 22,.int .u8 53,.int .u8 39,.int .u8 33,.int .u8 30,.int .u8 24,.int .u8 18,.int .u8 12,.int .u8 5,.int .u8 63,.int .u8 55,.int .u8 48,.int .u8 27,.int .u8 60,.int .u8 41,.int .u8 37,.int .u8 16,.int .u8 46,.int .u8 35,.int .u8 44,.int .u8 21,.int .u8 52,.int .u8 32,.int .u8 23,.int .u8 11,.int .u8 54,.int .u8 26,.int .u8 40,.int .u8 15,.int .u8 34,.int .u8 20,.int .u8 31,.int .u8 10,.int .u8 25,.int .u8 14,.int .u8 19,.int .u8 9,.int .u8 13,.int .u8 8,.int .u8 7,.int .u8 6] t frozen
      | o=>o).modify 0 fun
      | .cells _ t frozen=>.cells #[.int .u64 1,.int .u64 10,.int .u64 100,.int .u64 1000,.int .u64 10000,.int .u64 100000,.int .u64 1000000,.int .u64 10000000,.int .u64 100000000,.int .u64 1000000000,.int .u64 10000000000,.int .u64 100000000000,.int .u64 1000000000000,.int .u64 10000000000000,.int .u64 100000000000000,.int .u64 1000000000000000,.int .u64 10000000000000000,.int .u64 100000000000000000,.int .u64 1000000000000000000,.int .u64 10000000000000000000] t frozen
      | o=>o) }
theorem laid_met (os:Os):laidMet Tryz.prog Rows.fnRoutesRow.laid ((laidWorld os).forCall (fun _ _=>0) ⟨#[],#[.slice none 0 0],[]⟩).memory :=
  laidMet_of_run' 8 fP fP
theorem reads (os:Os) {H:Type} (enc:TypeId × Value→H):∃ ds gs places,DataW.whole enc Tryz.prog ((laidWorld os).forCall (fun _ _=>0) ⟨#[],#[.slice none 0 0],[]⟩).memory Tryz.f3.params.toList Rows.fnRoutesSpec.vars false (#[.slice none 0 0]:Array Value).toList 8=some (ds,gs,places):=by
 have h:(DataW.whole enc Tryz.prog ((laidWorld os).forCall (fun _ _=>0) ⟨#[],#[.slice none 0 0],[]⟩).memory Tryz.f3.params.toList Rows.fnRoutesSpec.vars false (#[.slice none 0 0]:Array Value).toList 8).isSome=true:=fP
 obtain ⟨r,hr⟩:=Option.isSome_iff_exists.1 h
 exact ⟨r.1,r.2.1,r.2.2,hr⟩
theorem lawFnRoutes_lifted (os:Os) (started:os.Started) (H:Type) (enc:TypeId × Value→H) (F:Stop.Interp) :
    ReturnsInHanded {} Tryz.checked os 3 .any ((OpenSpec.ofChange Rows.fnRoutesSpec).preRow enc Tryz.prog Tryz.f3 Rows.fnRoutesRow.domain false Rows.fnRoutesRow.laid) (((OpenSpec.ofChange Rows.fnRoutesSpec).at F).post enc Tryz.prog Tryz.f3 false true false false):=by
 obtain ⟨ds0,gs0,places,hx⟩:=reads os enc
 refine returnsInHanded_of_row (C:=Tryz.checked) (s:=OpenSpec.ofChange Rows.fnRoutesSpec) law_own started fP Tryz.func3
   (witness_row_at (enc:=enc) (C:=Tryz.checked) false (laidWorld os) #[.slice none 0 0] rfl fP fP fP
     (OpenSpec.preRow_of_cond 8 hx fP (fun k hk=>by cases hk) fP (laid_met os))) ?_
 intro W base args ds gs before hval0 hW _ _ _ hL _ _
 have hval:∀ (j:Nat) t v,Tryz.f3.params[j]?=some t→args[j]?=some v→Value.okWide Tryz.prog W .any base t v:=hval0
 have hW0:DataW.Whole enc Tryz.prog Tryz.f3.params.toList Rows.fnRoutesSpec.vars false W args.toList ds gs before:=hW
 obtain ⟨p,q,hA0,hV,rfl,hfz,hnd⟩:=hW
 have hA:DataW.TrodAll enc Tryz.prog W 0 (fun _=>true) true Tryz.f3.params.toList args.toList ds p:=hA0
 rw [Tryz.params3] at hA hval
 obtain ⟨v0,vs0,d0,ds0,p0,q0,hargs,rfl,rfl,g0,s0⟩:=trodAll_cons hA
 obtain ⟨rfl,rfl,rfl⟩:=trodAll_nil s0
 obtain rfl:args=#[v0]:=by cases args;simp_all
 obtain ⟨rfl,rfl⟩:=trodVars_none hV
 obtain ⟨a0,len0,cap0,rfl⟩:=okWide_slice Tryz.underlying22 (hval 0 22 v0 rfl rfl)
 obtain ⟨fu0,hf0⟩:=g0
 obtain ⟨x0,h0⟩:=kJj (w:=W) hf0
 have h0:(Rep.slice 5 Rep.byte).raw W [.slice a0 len0 cap0] x0:=by simpa [Value.cells] using h0
 refine (kHm h0 (tabW_of hL)).mono fun e W' ⟨he,hb⟩=>?_
 subst he
 refine ⟨_,rfl,law_post (tb:=4) hW0 rfl rfl Tryz.underlying4 ⟨rfl,rfl,rfl⟩ ?_ hb⟩
 rw [Tryz.params3]
 intro t ht
 have hall:([22].all fun t=>Tryz.prog.readableRec t && decide (t < Tryz.prog.types.size))=true:=fP
 have h1:=List.all_eq_true.1 hall t ht
 simpa using h1
theorem kEn:Rows.FnRoutesSaid :=
  OpenClaim.holds_of_cond 3 Tryz.f3 rfl rfl rfl rfl rfl rfl rfl ⟨rfl,rfl,rfl,rfl,rfl⟩ rfl rfl rfl rfl rfl fP Tryz.func3 fP
    (of_decide_eq_true fP) (by unfold Func.isWrapper;first|(rw [if_pos (by decide +kernel)];kernel_rfl)|(rw [if_neg (by decide +kernel)];exact ⟨rfl,rfl⟩))
    (fun os started H enc _ F=>by rw [OpenClaim.pre_eq_preRow];exact lawFnRoutes_lifted os started H enc F)
theorem plain_looks (f:FuncId) (fn:Func) (hf:Tryz.pinned.checked.prog.funcNamed "loop.example/g00507/laws.FnRoutes" = some f) (hfn:Tryz.pinned.checked.prog.funcs[f]?=some fn) :
    false=Tryz.pinned.checked.prog.looks []∧∀ (j:Nat) t,fn.params[j]?=some t→Tryz.pinned.checked.prog.wantsStandIn t=false:=by
 obtain rfl:f=3:=Option.some.inj ((show Tryz.prog.funcNamed "loop.example/g00507/laws.FnRoutes" = some 3 by kernel_rfl).symm.trans hf) |>.symm
 obtain rfl:fn=Tryz.f3:=(Option.some.inj (Tryz.func3.symm.trans hfn)).symm
 refine ⟨by kernel_rfl,fun j t ht=>?_⟩
 rw [Tryz.params3] at ht
 have hm:=Array.mem_of_getElem? ht
 have hall:((#[22]:Array TypeId).all fun t=>!Tryz.prog.wantsStandIn t)=true:=fP
 have h1:=Array.all_eq_true_iff_forall_mem.1 hall t hm
 show Tryz.prog.wantsStandIn t=false
 simpa using h1
theorem lawFnRoutes_holds : Rows.FnRoutesCardSaid :=
  Claim7.holds_tied_plain_at .later [] _ _ _ _ kEn (fun _ h => by cases h) fP (fun _ h => by cases h) fnRoutes_row_tie rfl ⟨rfl, rfl⟩ fP rfl plain_looks fP
end Go.Proofs.YthpgoddjglnoiaaGreatDoor
