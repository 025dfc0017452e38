/-
  Patterns that are valid.
  The bytes that an advertisement is written in: the plain law (no program).
  Numbers and bytes, written behind bytes.
  Names, written behind bytes.
-/
import Derived.Test.YtlfblpgkegeaeaaGreatPushT
import Derived.Laws.BitsLemmas
import Derived.Lib.ConvBytes
set_option linter.unusedVariables false
set_option linter.unusedSimpArgs false
set_option linter.unnecessarySimpa false
set_option maxRecDepth 100000
set_option maxHeartbeats 4000000
namespace Go.Proofs.YtlfblpgkegeaeaaGreat
open Go.RowKit
def isLet (s:ByteArray):Bool:=decide (s.size=2) && (decide (kBd s 0=63) && inR (kBd s 1) 97 122)
theorem isLet_no {s:ByteArray} (h:¬ s.size=2):isLet s=false:=by unfold isLet;rw [decide_eq_false h];rfl
theorem kUy {s:ByteArray} (h:¬ kBd s 0=63):isLet s=false:=by unfold isLet;rw [decide_eq_false h];simp
theorem kUx {s:ByteArray} (h:s.size=2) (h0:kBd s 0=63):isLet s=inR (kBd s 1) 97 122:=by unfold isLet;rw [decide_eq_true h,decide_eq_true h0];rfl
theorem kFb {w:World} {s:ByteArray} (hs:s.size≤maxLen):Calls Tryz.prog 254 #[.string s] w fun e w'=>e=.returned (.bool (isLet s))∧w'=w:=by
 go_enter Tryz.func254,Tryz.ntmps254
 by_cases h2:s.size=2
 case neg =>
  have HT:=yD (isLet_no h2)
  have hz:((s.size:Int)==2)=false:=rG
  go_wp2
  go_ret
  exact ⟨kG HT.out.symm,rfl⟩
 have hz:((s.size:Int)==2)=true:=rG
 have g0:=kEa (s:=s) (k:=0) rP
 have g1:=kEa (s:=s) (k:=1) rP
 have r1:=kHe s 1
 have hl0:0 < s.size:=rP
 have hl1:1 < s.size:=rP
 by_cases h0:kBd s 0=63
 case neg =>
  have HT:=yD (kUy h0)
  have h0':¬ ((s[0].toNat:Int)=63):=qD
  have h0b:((s[0].toNat:Int)==63)=false:=by simpa using h0'
  clear g1 r1
  go_wp2
  go_ret
  exact ⟨kG HT.out.symm,rfl⟩
 have HT:=yD (kUx h2 h0)
 have h0':((s[0].toNat:Int)=63):=qD
 have h0b:((s[0].toNat:Int)==63)=true:=by simpa using h0'
 have HG:=yD g1
 clear g1 g0 h0
 go_wp2_with fail
 refine kBf.mono ?_
 rintro e w1 ⟨rfl,hw⟩
 obtain rfl:=hw.symm
 go_wp2
 go_ret
 exact ⟨kG (by rw [HT.out,HG.out,show wrap64 (s[1].toNat:Int)=s[1].toNat from (by have:=s[1].toNat_lt;unfold wrap64;omega)]),rfl⟩
theorem kDy {w:World} {s:ByteArray} (hs:s.size≤maxLen):Calls Tryz.prog 263 #[.string s] w fun e w'=>e=.returned (.bool (isLet s))∧w'=w:=by
 go_enter Tryz.func263,Tryz.ntmps263
 by_cases h2:s.size=2
 case neg =>
  have HT:=yD (isLet_no h2)
  have hz:((s.size:Int)==2)=false:=rG
  go_wp2
  go_ret
  exact ⟨kG HT.out.symm,rfl⟩
 have hz:((s.size:Int)==2)=true:=rG
 have g0:=kEa (s:=s) (k:=0) rP
 have g1:=kEa (s:=s) (k:=1) rP
 have r1:=kHe s 1
 have hl0:0 < s.size:=rP
 have hl1:1 < s.size:=rP
 by_cases h0:kBd s 0=63
 case neg =>
  have HT:=yD (kUy h0)
  have h0':¬ ((s[0].toNat:Int)=63):=qD
  have h0b:((s[0].toNat:Int)==63)=false:=by simpa using h0'
  clear g1 r1
  go_wp2
  go_ret
  exact ⟨kG HT.out.symm,rfl⟩
 have HT:=yD (kUx h2 h0)
 have h0':((s[0].toNat:Int)=63):=qD
 have h0b:((s[0].toNat:Int)==63)=true:=by simpa using h0'
 have HG:=yD g1
 clear g1 g0 h0
 have HV:=yD (show inR (kBd s 1) 97 122=(decide ((s[1].toNat:Int) ≥ 97) && decide ((s[1].toNat:Int)≤122)) by rw [← HG.out];rfl)
 go_wp2
 all_goals
   go_ret
   refine ⟨kG ?_,rfl⟩
   rw [HT.out,HV.out,Bool.eq_iff_iff]
   simp
   try omega
def kFa (s:ByteArray):Bool:=s.toList==[42]
def kEg (s:ByteArray):Bool:=s.toList==[42,42]
def kDm (n k:Nat) (s:ByteArray):Bool:=((!kBu s && !kFa s) && !isLet s) && (!kEg s || decide ((k:Int) < (n:Int) - 1))
def kJb (n k:Nat) (s:ByteArray):Bool:=((!kBu s && !kFa s) && !isLet s) && (!kEg s || ((k:Int) != (n:Int) - 1))
def kCl (p:yV):Bool:=kCz (fun j=>!kDm p.length j (p.getD j ByteArray.empty)) p.length && decide (p.length≤6)
theorem kRp {n k:Nat} (h:k < n) (s:ByteArray):kJb n k s=kDm n k s:=by
 unfold kJb kDm
 have:((k:Int) != (n:Int) - 1)=decide ((k:Int) < (n:Int) - 1):=by rw [Bool.eq_iff_iff];simp;omega
 rw [this]
theorem vPat_bad {p:yV} {k:Nat} (h:k < p.length) (q:kDm p.length k p[k]=true):kCl p=false:=by
 unfold kCl;rw [kIw h mX];rfl
theorem kUe {p:yV} {k:Nat} (h:k < p.length) (q:kDm p.length k p[k]=false) (a:kCz (fun j=>!kDm p.length j (p.getD j ByteArray.empty)) k=true):kCz (fun j=>!kDm p.length j (p.getD j ByteArray.empty)) (k + 1)=true :=
  kEx a mX
theorem kUf {p:yV} {k:Nat} (q:kCz (fun j=>!kDm p.length j (p.getD j ByteArray.empty)) k=true) (h:¬ k < p.length) (hk:k≤p.length):kCl p=decide (p.length≤6):=by
 obtain rfl:k=p.length:=rP
 unfold kCl;rw [q];rfl
theorem kCr {w:World} {cp:List Value} {p:yV} (hp:yU.raw w cp p):Calls Tryz.prog 253 #[.agg cp.toArray] w fun e w'=>e=.returned (.bool (kCl p))∧Below w.heap.size w w':=by
 obtain ⟨av,rfl,a_0⟩:=yc hp
 obtain ⟨aa,capa,rfl,la⟩:=Rep.sl a_0
 clear hp
 go_enter Tryz.func253,Tryz.ntmps253
 go_wp2
 generalize hwB:World.alloc w _=wB
 have EB:Below w.heap.size w wB:=by rw [← hwB];exact bH
 have K0:wB.cell? ⟨w.heap.size,0,none⟩=some (.slice aa p.length capa):=nV
 clear hwB
 replace a_0:=a_0.below EB
 go_loopw [3] (fun i wr=>∃ k:Nat,k≤p.length∧i=.int .i64 k∧Hid (kCz (fun j=>!kDm p.length j (p.getD j ByteArray.empty)) k=true)∧Below wB.heap.size wB wr) (fun i _=>p.length - (intOf i).toNat)
 case atStart=>exact ⟨0,Nat.zero_le _,rfl,yD rfl,bR⟩
 obtain ⟨k,hk,rfl,HN,hbel⟩:=hrel
 replace K0:=cL hbel K0
 have EB2:=(tQ EB hbel)
 by_cases hlt:k < p.length
 · obtain ⟨ba,offa,rfl,c0,hr,A0⟩:=Rep.kAy (a_0.below hbel) hlt rfl
   obtain ⟨he,hsz⟩:=Rep.yQ hr
   obtain rfl:c0=_:=by simpa using he
   clear he hr
   have hb:=fun q=>vPat_bad hlt q
   have hx:=fun q=>kUe hlt q HN.out
   have hI:=kRp hlt p[k]
   generalize p[k]=s at *
   have HB:=yD hb;have HX:=yD hx;have HSZ:=yD hsz;have HI:=yD hI;clear hb hx hsz hI
   have hsub:IntKind.i64.wrap ((p.length:Int) - 1)=(p.length:Int) - 1:=IntWalk.i64_in _ rP
   go_upto_region 5 with fail
   have FX:=yD (fun (W:World) (hW:Below wr.heap.size wr W)=>cL hW K0)
   refine jE (fun W=>Below wr.heap.size wr W) [true,false,true,true,true,true,true,true,true,false,true,true,true,true,true,true,true,true,true,true,true,true,true,true] bR ?_
   intro wS HS
   all_goals refine wkR ?_
   all_goals first | refine wkC (kHh HSZ.out) ?_ | refine wkR ?_
   all_goals refine wkR ?_
   all_goals (have hg3:=True.intro;first|(refine wkG (fun b hg3=>?_);cases b;all_goals first | exact Bool.noConfusion hg3 | simp only [zU,zV] at hg3 | skip) | refine wkR ?_)
   all_goals refine wkP ?_
   iterate 3
    all_goals refine wkR ?_
   all_goals (have hg7:=True.intro;first|(refine wkG (fun b hg7=>?_);cases b;all_goals first | exact Bool.noConfusion hg7 | simp only [zU,zV] at hg7 | skip) | refine wkR ?_)
   all_goals refine wkP ?_
   all_goals refine wkR ?_
   all_goals first | refine wkC (kFb HSZ.out) ?_ | refine wkR ?_
   all_goals refine wkR ?_
   all_goals refine wkR ?_
   all_goals (have hg12:=True.intro;first|(refine wkG (fun b hg12=>?_);cases b;all_goals first | exact Bool.noConfusion hg12 | simp only [zU,zV] at hg12 | skip) | refine wkR ?_)
   all_goals refine wkP ?_
   all_goals refine wkR ?_
   all_goals refine wkR ?_
   all_goals (have hg15:=True.intro;first|(refine wkG (fun b hg15=>?_);cases b;all_goals first | exact Bool.noConfusion hg15 | simp only [zU,zV] at hg15 | skip) | refine wkR ?_)
   all_goals refine wkP ?_
   iterate 7
    all_goals refine wkR ?_
   all_goals (have hg23:=True.intro;first|(refine wkG (fun b hg23=>?_);cases b;all_goals first | exact Bool.noConfusion hg23 | simp only [zU,zV] at hg23 | skip) | refine wkR ?_)
   all_goals refine wkP ?_
   all_goals refine jA ?_
   all_goals have EG:=(tQ EB2 HS)
   all_goals have ER:=(tQ hbel HS)
   all_goals first
     | (have HT:=yD (HB.out (show kDm p.length k s=true by simp only [kDm,kFa,kEg,decide_not,Bool.not_true,Bool.not_false,Bool.and_true,Bool.true_and,Bool.and_false,Bool.false_and,Bool.or_true,Bool.true_or,Bool.or_false,Bool.false_or,Bool.not_not,hg3,hg7,hg12,hg15,hg23]));clear HB HX;go_wp2;go_ret;exact ⟨kG HT.out.symm,EG⟩)
     | (have HT:=yD (HX.out (show kDm p.length k s=false by simp only [kDm,kFa,kEg,decide_not,Bool.not_true,Bool.not_false,Bool.and_true,Bool.true_and,Bool.and_false,Bool.false_and,Bool.or_true,Bool.true_or,Bool.or_false,Bool.false_or,Bool.not_not,hg3,hg7,hg12,hg15,hg23]));clear HB HX;go_wp2;go_roundw;(case rel=>exact ⟨k + 1,by omega,by go_num,HT,ER⟩);(case measure=>simp [intOf];omega))
 have HT:=yD (kUf HN.out hlt hk)
 go_wp2
 go_ret
 exact ⟨kG (by rw [HT.out];simp;try omega),EB2⟩
theorem kCw {w:World} {cp:List Value} {p:yV} (hp:yU.raw w cp p):Calls Tryz.prog 260 #[.agg cp.toArray] w fun e w'=>e=.returned (.bool (kCl p))∧Below w.heap.size w w':=by
 obtain ⟨av,rfl,a_0⟩:=yc hp
 obtain ⟨aa,capa,rfl,la⟩:=Rep.sl a_0
 clear hp
 go_enter Tryz.func260,Tryz.ntmps260
 go_wp2
 generalize hwB:World.alloc w _=wB
 have EB:Below w.heap.size w wB:=by rw [← hwB];exact bH
 have K0:wB.cell? ⟨w.heap.size,0,none⟩=some (.slice aa p.length capa):=nV
 clear hwB
 replace a_0:=a_0.below EB
 go_loopw [8] (fun i wr=>∃ k:Nat,k≤p.length∧i=.int .i64 k∧Hid (kCz (fun j=>!kDm p.length j (p.getD j ByteArray.empty)) k=true)∧Below wB.heap.size wB wr) (fun i _=>p.length - (intOf i).toNat)
 case atStart=>exact ⟨0,Nat.zero_le _,rfl,yD rfl,bR⟩
 obtain ⟨k,hk,rfl,HN,hbel⟩:=hrel
 replace K0:=cL hbel K0
 have EB2:=(tQ EB hbel)
 by_cases hlt:k < p.length
 · obtain ⟨ba,offa,rfl,c0,hr,A0⟩:=Rep.kAy (a_0.below hbel) hlt rfl
   obtain ⟨he,hsz⟩:=Rep.yQ hr
   obtain rfl:c0=_:=by simpa using he
   clear he hr
   have hb:=fun q=>vPat_bad hlt q
   have hx:=fun q=>kUe hlt q HN.out
   have hI:=kRp hlt p[k]
   generalize p[k]=s at *
   have HB:=yD hb;have HX:=yD hx;have HSZ:=yD hsz;have HI:=yD hI;clear hb hx hsz hI
   have hsub:IntKind.i64.wrap ((p.length:Int) - 1)=(p.length:Int) - 1:=IntWalk.i64_in _ rP
   go_upto_region 4 with fail
   have FX:=yD (fun (W:World) (hW:Below wr.heap.size wr W)=>cL hW K0)
   refine jE (fun W=>Below wr.heap.size wr W) [true,false,true,true,true,true,true,true,true,false,true,true,true,true,true,true,true,true,true,true,true,true,true,true] bR ?_
   intro wS HS
   all_goals refine wkR ?_
   all_goals first | refine wkC (kHp HSZ.out) ?_ | refine wkR ?_
   all_goals refine wkR ?_
   all_goals (have hg3:=True.intro;first|(refine wkG (fun b hg3=>?_);cases b;all_goals first | exact Bool.noConfusion hg3 | simp only [zU,zV] at hg3 | skip) | refine wkR ?_)
   all_goals refine wkP ?_
   iterate 3
    all_goals refine wkR ?_
   all_goals (have hg7:=True.intro;first|(refine wkG (fun b hg7=>?_);cases b;all_goals first | exact Bool.noConfusion hg7 | simp only [zU,zV] at hg7 | skip) | refine wkR ?_)
   all_goals refine wkP ?_
   all_goals refine wkR ?_
   all_goals first | refine wkC (kDy HSZ.out) ?_ | refine wkR ?_
   all_goals refine wkR ?_
   all_goals refine wkR ?_
   all_goals (have hg12:=True.intro;first|(refine wkG (fun b hg12=>?_);cases b;all_goals first | exact Bool.noConfusion hg12 | simp only [zU,zV] at hg12 | skip) | refine wkR ?_)
   all_goals refine wkP ?_
   all_goals refine wkR ?_
   all_goals refine wkR ?_
   all_goals (have hg15:=True.intro;first|(refine wkG (fun b hg15=>?_);cases b;all_goals first | exact Bool.noConfusion hg15 | simp only [zU,zV] at hg15 | skip) | refine wkR ?_)
   all_goals refine wkP ?_
   iterate 7
    all_goals refine wkR ?_
   all_goals (have hg23:=True.intro;first|(refine wkG (fun b hg23=>?_);cases b;all_goals first | exact Bool.noConfusion hg23 | simp only [zU,zV] at hg23 | skip) | refine wkR ?_)
   all_goals refine wkP ?_
   all_goals refine jA ?_
   all_goals have EG:=(tQ EB2 HS)
   all_goals have ER:=(tQ hbel HS)
   all_goals first
     | (have HT:=yD (HB.out (HI.out.symm.trans (show kJb p.length k s=true by simp only [kJb,kFa,kEg,decide_not,Bool.not_true,Bool.not_false,Bool.and_true,Bool.true_and,Bool.and_false,Bool.false_and,Bool.or_true,Bool.true_or,Bool.or_false,Bool.false_or,Bool.not_not,hg3,hg7,hg12,hg15,hg23])));clear HB HX;go_wp2;go_ret;exact ⟨kG HT.out.symm,EG⟩)
     | (have HT:=yD (HX.out (HI.out.symm.trans (show kJb p.length k s=false by simp only [kJb,kFa,kEg,decide_not,Bool.not_true,Bool.not_false,Bool.and_true,Bool.true_and,Bool.and_false,Bool.false_and,Bool.or_true,Bool.true_or,Bool.or_false,Bool.false_or,Bool.not_not,hg3,hg7,hg12,hg15,hg23])));clear HB HX;go_wp2;go_roundw;(case rel=>exact ⟨k + 1,by omega,by go_num,HT,ER⟩);(case measure=>simp [intOf];omega))
 have HT:=yD (kUf HN.out hlt hk)
 go_wp2
 go_ret
 exact ⟨kG (by rw [HT.out];simp;try omega),EB2⟩
end Go.Proofs.YtlfblpgkegeaeaaGreat
namespace Go.Proofs.YtlfblpgkegeaeaaGreat
def vlo (n:Nat):UInt8:=UInt8.ofNat (n % 128 + 128)
def kLi (n:Nat):List UInt8:=if h:n < 128 then [UInt8.ofNat n] else vlo n :: kLi (n / 128)
termination_by n
decreasing_by omega
theorem kQk {n:Nat} (h:n < 128):kLi n=[UInt8.ofNat n]:=by rw [kLi,dif_pos h]
theorem kVk {n:Nat} (h:¬ n < 128):kLi n=vlo n :: kLi (n / 128):=by rw [kLi,dif_neg h]
theorem vint_len:∀ (k:Nat) {n:Nat},n < 128 ^ (k + 1)→(kLi n).length≤k + 1
  | 0,n,h=>by rw [kQk rD];simp
  | k + 1,n,h=>by
    by_cases c:n < 128
    · rw [kQk c];simp
    · rw [kVk c,List.length_cons]
      have:=vint_len k (n:=n / 128) (Nat.div_lt_of_lt_mul (by rw [Nat.mul_comm];rwa [Nat.pow_succ] at h))
      omega
theorem kQo {n:Nat} (h:n≤1000000000000):(kLi n).length≤6:=vint_len 5 rP
end Go.Proofs.YtlfblpgkegeaeaaGreat
namespace Go.Proofs.YtlfblpgkegeaeaaGreat
open Go.RowKit
def kBt (n:Int):List UInt8:=if inR n 0 1000000000000=true then kLi n.toNat else []
theorem vintI_no {n:Int} (h:inR n 0 1000000000000=false):kBt n=[]:=by unfold kBt;rw [h];rfl
theorem kUc {n:Nat} (h:inR (n:Int) 0 1000000000000=true):kBt n=kLi n:=by unfold kBt;rw [if_pos h];simp
theorem kDw (n:Int):(kBt n).length≤6:=by
 unfold kBt
 split
 · rename_i h
   have h':0≤n∧n≤1000000000000:=by simpa [inR] using h
   exact kQo rP
 simp
theorem or128:∀ x:Fin 128,bits BinOp.or IntKind.i64 (x.val:Int) 128=(x.val:Int) + 128:=by decide +kernel
theorem or128u:∀ x:Fin 256,bits BinOp.or IntKind.u8 (x.val:Int) 128=((x.val % 128:Nat):Int) + 128:=by decide +kernel
theorem vlo_int (m:Nat):((vlo m).toNat:Int)=((m % 128:Nat):Int) + 128:=by
 unfold vlo
 rw [UInt8.toNat_ofNat']
 omega
theorem lo_spec {m:Nat} (h:m≤1000000000000):IntKind.u8.wrap (bits BinOp.or IntKind.i64 (bits BinOp.and IntKind.i64 (m:Int) 127) 128)=((vlo m).toNat:Int):=by
 have e:=bits_mask IntKind.i64 63 rM (fun n h0 h1=>by rw [IntKind.wrap_i64];omega) 7 rM (m:Int) rP rP
 rw [show ((2:Int) ^ 7 - 1)=127 by decide,show ((2:Int) ^ 7)=128 by decide] at e
 rw [e,vlo_int]
 have e2:=or128 ⟨m % 128,by omega⟩
 simp only at e2
 rw [show (m:Int) % 128=((m % 128:Nat):Int) by omega,e2,IntKind.wrap_u8']
 omega
theorem lo_impl (m:Nat):bits BinOp.or IntKind.u8 (IntKind.u8.wrap (m:Int)) 128=((vlo m).toNat:Int):=by
 have e2:=or128u ⟨m % 256,by omega⟩
 simp only at e2
 rw [IntKind.wrap_u8',show (m:Int) % 256=((m % 256:Nat):Int) by omega,e2,vlo_int]
 omega
theorem hi_byte {m:Nat} (h:m < 128):IntKind.u8.wrap (m:Int)=((UInt8.ofNat m).toNat:Int):=by
 rw [IntKind.wrap_u8',UInt8.toNat_ofNat']
 omega
theorem hi_byte0 {m:Nat} (h:m < 128):(m:Int)=((UInt8.ofNat m).toNat:Int):=by
 rw [UInt8.toNat_ofNat']
 omega
theorem kMo {w:World} {z:Int} {x:UInt8} (h:z=(x.toNat:Int)):Rep.byte.own w [.int .u8 z] x (fun _=>False):=⟨by show [_]=[_];rw [h],trivial⟩
theorem kMv {w:World} {va:Value} {x:List UInt8} (ha:(Rep.slice 5 Rep.byte).rd w [va] x):Calls Tryz.prog 143 #[va] w (kAt 5 Rep.byte x w):=by
 obtain ⟨aa,capa,rfl,la⟩:=Rep.sl ha.1
 have HA:=yD ha
 have hnil:=fun (W:World) (a:Option Addr) (n c:Nat)=>Lib.run_eql_slice_nil (P:=Tryz.prog) W 40 5 a n c 0 0 Tryz.underlying40
 cases aa with
 | none =>
   have hx:x=[]:=by
     cases x with
     | nil=>rfl
     | cons y ys =>
       obtain ⟨b,off,h,_⟩:=Rep.kDo ha.1 (i:=0) rQ
       cases h
   subst hx
   clear ha
   go_enter Tryz.func143,Tryz.ntmps143
   go_wp2
   go_ret
   exact ⟨_,rfl,Rep.kg.nil,bR⟩
 | some a =>
   have hb:x.length≤16777216:=ha.2.1
   clear ha
   go_enter Tryz.func143,Tryz.ntmps143
   have O0:Rep.kg 5 Rep.byte (w.alloc (.cells #[] 5)) (.slice (some ⟨w.heap.size,0,none⟩) 0 0) [] (fun k=>k=w.heap.size):=Rep.yj (cs:=[]) (xs:=[]) (T:=fun _=>False) rQ rQ rfl (fun _ h=>h.elim) rfl
   go_wp2_with (at_builtin;refine Rep.je rfl _ _ 40 rfl (r:=Rep.byte) (e:=5) Tryz.underlying40 kCp rfl rM rM Rep.kCa (B:=w.heap.size) O0 rR rR (HA.out.alloc _) mQ rQ rG ?_)
   intro v2 w2 hown hbel hz
   have HO:=yD hown
   obtain ⟨a2,c2,hv⟩:=hown.ym
   obtain rfl:=hv
   have EG:Below w.heap.size w w2:=Below.trans bH hbel
   clear hown O0 hbel
   go_wp2
   go_ret
   exact ⟨_,rfl,by simpa using HO.out,EG⟩
theorem kCs {w:World} {va:Value} {b:List UInt8} {n:Int} (ha:(Rep.slice 5 Rep.byte).rd w [va] b) :
    Calls Tryz.prog 229 #[va,.int .i64 n] w (kAt 5 Rep.byte (b++kBt n) w):=by
 obtain ⟨aa,capa,rfl,la⟩:=Rep.sl ha.1
 have HA:=yD ha
 have hb:b.length≤16777216:=ha.2.1
 clear ha
 go_enter Tryz.func229,Tryz.ntmps229
 have O0:Rep.kg 5 Rep.byte (w.alloc (.cells #[] 5)) (.slice (some ⟨w.heap.size,0,none⟩) 0 0) [] (fun k=>k=w.heap.size):=Rep.yj (cs:=[]) (xs:=[]) (T:=fun _=>False) rQ rQ rfl (fun _ h=>h.elim) rfl
 go_wp2_with (at_builtin;refine Rep.je rfl _ _ 40 rfl (r:=Rep.byte) (e:=5) Tryz.underlying40 kCp rfl rM rM Rep.kCa (B:=w.heap.size) O0 rR rR (HA.out.alloc _) mQ rQ rG ?_)
 intro v2 w2 hown hbel hz
 have HO:Hid (Rep.kg 5 Rep.byte w2 v2 b (Btw w.heap.size w2.heap.size)):=yD (by simpa using hown)
 have EG:Below w.heap.size w w2:=Below.trans bH hbel
 clear hown O0 hbel
 obtain ⟨a2,n2,c2,hv,HN2⟩:=HO.out.parts
 obtain rfl:=hv
 go_wp2_with fail
 refine kBf.mono ?_
 rintro e w1 ⟨rfl,hw⟩
 obtain rfl:=hw.symm
 cases hin:inR n 0 1000000000000
 · have HT:=yD (vintI_no hin)
   go_wp2
   go_ret
   exact ⟨_,rfl,HO.out.cast (by rw [HT.out];simp),EG⟩
 obtain ⟨hn0,hn1⟩:0≤n∧n≤1000000000000:=by simpa [inR] using hin
 obtain ⟨N,rfl⟩:∃ N:Nat,n=N:=⟨n.toNat,by omega⟩
 have HT:=yD (kUc hin)
 clear hin
 go_wp2
 go_loopw [5,1] (fun v i wr=>∃ (m:Nat) (pre:List UInt8),m≤N∧i=.int .i64 m∧Hid (pre++kLi m=kLi N)∧Hid (Rep.kg 5 Rep.byte wr v (b++pre) (Btw w.heap.size wr.heap.size))∧Below w.heap.size w wr) (fun _ i _=>(intOf i).toNat)
 case atStart=>exact ⟨N,[],Nat.le_refl _,rfl,yD rfl,yD (by simpa using HO.out),EG⟩
 clear EG HO HN2
 obtain ⟨m,pre,hm,rfl,HP,HO,hbel⟩:=hrel
 obtain ⟨oa,on,oc,ho,HON⟩:=HO.out.parts;obtain rfl:=ho
 have hpl:pre.length≤6:=by
  have h1:=congrArg List.length HP.out
  have h2:=kQo (n:=N) rP
  simp only [List.length_append] at h1
  omega
 by_cases hlt:m < 128
 · have HB:=yD (hi_byte hlt)
   have HV:=yD (kQk hlt)
   go_wp2_with (at_builtin;refine Rep.jZ rfl _ _ 40 rfl (r:=Rep.byte) (e:=5) Tryz.underlying40 kCp rfl rM rM (B:=w.heap.size) HO.out rR rR rfl (kMo (x:=UInt8.ofNat m) (by first | exact HB.out | exact hi_byte0 rP)) rfl (fun _ _ h=>h) mH (fun _ h=>h.elim) pO rG ?_)
   intro v3 w3 hown3 hbel3 hz3
   have HO3:=yD hown3
   obtain ⟨a3,n3,c3,hv3,HN3⟩:=hown3.parts
   obtain rfl:=hv3
   have EG:=hbel.trans hbel3
   clear hown3 hbel3
   go_wp2
   go_ret
   exact ⟨_,rfl,HO3.out.cast (by rw [HT.out,← HP.out,HV.out];try simp only [List.append_assoc]),EG⟩
 have HB:=yD (lo_spec (show m≤1000000000000 by omega))
 have HV:=yD (kVk hlt)
 have hge:(127:Int) < m:=rP
 go_wp2_with (at_builtin;refine Rep.jZ rfl _ _ 40 rfl (r:=Rep.byte) (e:=5) Tryz.underlying40 kCp rfl rM rM (B:=w.heap.size) HO.out rR rR rfl (kMo (x:=vlo m) (by first | exact HB.out|(simp only [HB.out]))) rfl (fun _ _ h=>h) mH (fun _ h=>h.elim) pO rG ?_)
 intro v3 w3 hown3 hbel3 hz3
 have HO3:=yD hown3
 obtain ⟨a3,n3,c3,hv3,HN3⟩:=hown3.parts
 obtain rfl:=hv3
 have EG:=hbel.trans hbel3
 clear hown3 hbel3
 go_wp2
 go_roundw
 case rel=>exact ⟨m / 128,pre++[vlo m],by omega,by go_num,yD (by rw [← HP.out,HV.out,List.append_assoc];rfl),yD (HO3.out.cast nO),EG⟩
 simp [intOf];omega
theorem kCx {w:World} {va:Value} {b:List UInt8} {n:Int} (ha:(Rep.slice 5 Rep.byte).rd w [va] b) :
    Calls Tryz.prog 238 #[va,.int .i64 n] w (kAt 5 Rep.byte (b++kBt n) w):=by
 obtain ⟨aa,capa,rfl,la⟩:=Rep.sl ha.1
 have HA:=yD ha
 have hb:b.length≤16777216:=ha.2.1
 clear ha
 go_enter Tryz.func238,Tryz.ntmps238
 go_wp2_with fail
 refine (kMv HA.out).mono ?_
 rintro e w2 ⟨v2,rfl,hown,EG⟩
 have HO:Hid (Rep.kg 5 Rep.byte w2 v2 b (Btw w.heap.size w2.heap.size)):=yD hown
 clear hown
 obtain ⟨a2,n2,c2,hv,HN2⟩:=HO.out.parts
 obtain rfl:=hv
 go_wp2_with fail
 refine kBp.mono ?_
 rintro e w1 ⟨rfl,hw⟩
 obtain rfl:=hw.symm
 cases hin:inR n 0 1000000000000
 · have HT:=yD (vintI_no hin)
   go_wp2
   go_ret
   exact ⟨_,rfl,HO.out.cast (by rw [HT.out];simp),EG⟩
 obtain ⟨hn0,hn1⟩:0≤n∧n≤1000000000000:=by simpa [inR] using hin
 obtain ⟨N,rfl⟩:∃ N:Nat,n=N:=⟨n.toNat,by omega⟩
 have HT:=yD (kUc hin)
 clear hin
 go_wp2
 go_loopw [5,1] (fun v i wr=>∃ (m:Nat) (pre:List UInt8),m≤N∧i=.int .i64 m∧Hid (pre++kLi m=kLi N)∧Hid (Rep.kg 5 Rep.byte wr v (b++pre) (Btw w.heap.size wr.heap.size))∧Below w.heap.size w wr) (fun _ i _=>(intOf i).toNat)
 case atStart=>exact ⟨N,[],Nat.le_refl _,rfl,yD rfl,yD (by simpa using HO.out),EG⟩
 clear EG HO HN2
 obtain ⟨m,pre,hm,rfl,HP,HO,hbel⟩:=hrel
 obtain ⟨oa,on,oc,ho,HON⟩:=HO.out.parts;obtain rfl:=ho
 have hpl:pre.length≤6:=by
  have h1:=congrArg List.length HP.out
  have h2:=kQo (n:=N) rP
  simp only [List.length_append] at h1
  omega
 by_cases hlt:m < 128
 · have HB:=yD (hi_byte hlt)
   have HV:=yD (kQk hlt)
   go_wp2_with (at_builtin;refine Rep.jZ rfl _ _ 40 rfl (r:=Rep.byte) (e:=5) Tryz.underlying40 kCp rfl rM rM (B:=w.heap.size) HO.out rR rR rfl (kMo (x:=UInt8.ofNat m) (by first | exact HB.out | exact hi_byte0 rP)) rfl (fun _ _ h=>h) mH (fun _ h=>h.elim) pO rG ?_)
   intro v3 w3 hown3 hbel3 hz3
   have HO3:=yD hown3
   obtain ⟨a3,n3,c3,hv3,HN3⟩:=hown3.parts
   obtain rfl:=hv3
   have EG:=hbel.trans hbel3
   clear hown3 hbel3
   go_wp2
   go_ret
   exact ⟨_,rfl,HO3.out.cast (by rw [HT.out,← HP.out,HV.out];try simp only [List.append_assoc]),EG⟩
 have HB:=yD (lo_impl m)
 have HV:=yD (kVk hlt)
 have hge:(127:Int) < m:=rP
 go_wp2_with (at_builtin;refine Rep.jZ rfl _ _ 40 rfl (r:=Rep.byte) (e:=5) Tryz.underlying40 kCp rfl rM rM (B:=w.heap.size) HO.out rR rR rfl (kMo (x:=vlo m) (by first | exact HB.out|(simp only [HB.out]))) rfl (fun _ _ h=>h) mH (fun _ h=>h.elim) pO rG ?_)
 intro v3 w3 hown3 hbel3 hz3
 have HO3:=yD hown3
 obtain ⟨a3,n3,c3,hv3,HN3⟩:=hown3.parts
 obtain rfl:=hv3
 have EG:=hbel.trans hbel3
 clear hown3 hbel3
 go_wp2
 go_roundw
 case rel=>exact ⟨m / 128,pre++[vlo m],by omega,by go_num,yD (by rw [← HP.out,HV.out,List.append_assoc];rfl),yD (HO3.out.cast nO),EG⟩
 simp [intOf];omega
theorem kUo (w:World):∀ (l:List UInt8) (S:Nat→Prop),Rep.row Rep.byte false w (l.map (fun b=>Value.int .u8 b.toNat)) l S
  | [],_=>rfl
  | b :: l,S=>⟨[.int .u8 b.toNat],l.map (fun b=>Value.int .u8 b.toNat),S,S,rfl,rfl,kUo w l S,fun _ h=>h,fun _ h=>h,fun h=>by cases h⟩
theorem kKm {w:World} {e e2:TypeId} {s:ByteArray} (hs:s.size≤16777216):(Rep.slice e2 Rep.byte).rd (Lib.bytesWorld w e s) [.slice (some ⟨w.heap.size,0,none⟩) s.size (grownCap w s.size 0 e)] s.data.toList:=by
 have hl:s.data.toList.length=s.size:=rQ
 refine ⟨⟨_,_,_,rfl,hl.symm,grownCap_ge _ _ _ _,grownCap_le_maxLen _ _ _ _ pW,.inr ⟨_,_,rfl,_,_,_,[],s.data.toList.map (fun b=>Value.int .u8 b.toNat),List.replicate (grownCap w s.size 0 e - s.size) (.int .u8 0),Lib.bytesWorld_at_new w e s,?_,rfl,?_,(fun h=>Bool.noConfusion h),trivial,?_⟩⟩,by rw [hl];exact hs,fun _ _=>trivial⟩
 · simp [Lib.bytesCells]
 · have:=grownCap_ge w s.size 0 e
   have e1:(Lib.bytesCells w e s).size=s.size + (grownCap w s.size 0 e - s.size):=by simp [Lib.bytesCells]
   rw [e1];show 0 + _ * 1≤_;omega
 exact Rep.yS (kUo _ _ (fun _=>True)) (fun _ _=>⟨trivial,fun h=>by cases h⟩)
theorem bytesWorld_below' (w:World) (e:TypeId) (s:ByteArray):Below w.heap.size w (Lib.bytesWorld w e s) :=
  ⟨rfl,rfl,rfl,by rw [Lib.bytesWorld_size];omega,fun j hj=>Lib.bytesWorld_at_old w e s j hj⟩
def encS (s:ByteArray):List UInt8:=kBt s.data.toList.length++s.data.toList
def kFr (l:List ByteArray):List UInt8:=(l.map encS).flatten
theorem kKw {l:List ByteArray} {k:Nat} (h:k < l.length):kFr (l.take (k + 1))=kFr (l.take k)++encS l[k]:=by
 unfold kFr
 rw [List.take_succ_eq_append_getElem h,List.map_append,List.flatten_append]
 simp
def kMk (n:kW):List UInt8:=kBt n.length++kFr n
theorem kLp {w:World} {va vs:Value} {b s:List UInt8} (ha:(Rep.slice 5 Rep.byte).rd w [va] b) (hs:(Rep.slice 5 Rep.byte).rd w [vs] s) :
    Calls Tryz.prog 252 #[va,vs] w (kAt 5 Rep.byte (b++(kBt s.length++s)) w):=by
 obtain ⟨aa,capa,rfl,la⟩:=Rep.sl ha.1
 obtain ⟨ab,capb,rfl,ls⟩:=Rep.sl hs.1
 have HA:=yD ha
 have HS:=yD hs
 have hb:b.length≤16777216:=ha.2.1
 have hsl:s.length≤16777216:=hs.2.1
 clear ha hs
 go_enter Tryz.func252,Tryz.ntmps252
 go_wp2_with fail
 refine (kCs HA.out).mono ?_
 rintro e w2 ⟨v2,rfl,hown,EG⟩
 obtain ⟨a2,n2,c2,hv,HN2⟩:=hown.parts
 obtain rfl:=hv
 have HO:=yD hown
 have hln:(b++kBt s.length).length≤20000000:=by have:=kDw s.length;rw [List.length_append];omega
 clear hown
 go_wp2_with (at_builtin;refine Rep.je rfl _ _ 40 rfl (r:=Rep.byte) (e:=5) Tryz.underlying40 kCp rfl rM rM Rep.kCa (B:=w.heap.size) HO.out rR rR (HS.out.below EG) (fun k hk=>⟨hk.1,hk.2⟩) EG.size rP ?_)
 intro v3 w3 hown3 hbel3 hz3
 have HO3:=yD hown3
 obtain ⟨a3,n3,c3,hv3,HN3⟩:=hown3.parts
 obtain rfl:=hv3
 have EG2:=EG.trans hbel3
 clear hown3 hbel3
 go_wp2
 go_ret
 exact ⟨_,rfl,HO3.out.cast nO,EG2⟩
theorem kMf {w:World} {va vs:Value} {b s:List UInt8} (ha:(Rep.slice 5 Rep.byte).rd w [va] b) (hs:(Rep.slice 5 Rep.byte).rd w [vs] s) :
    Calls Tryz.prog 258 #[va,vs] w (kAt 5 Rep.byte (b++(kBt s.length++s)) w):=by
 obtain ⟨aa,capa,rfl,la⟩:=Rep.sl ha.1
 obtain ⟨ab,capb,rfl,ls⟩:=Rep.sl hs.1
 have HA:=yD ha
 have HS:=yD hs
 have hb:b.length≤16777216:=ha.2.1
 have hsl:s.length≤16777216:=hs.2.1
 clear ha hs
 go_enter Tryz.func258,Tryz.ntmps258
 go_wp2_with fail
 refine (kCx HA.out).mono ?_
 rintro e w2 ⟨v2,rfl,hown,EG⟩
 obtain ⟨a2,n2,c2,hv,HN2⟩:=hown.parts
 obtain rfl:=hv
 have HO:=yD hown
 have hln:(b++kBt s.length).length≤20000000:=by have:=kDw s.length;rw [List.length_append];omega
 clear hown
 go_wp2_with (at_builtin;refine Rep.je rfl _ _ 40 rfl (r:=Rep.byte) (e:=5) Tryz.underlying40 kCp rfl rM rM Rep.kCa (B:=w.heap.size) HO.out rR rR (HS.out.below EG) (fun k hk=>⟨hk.1,hk.2⟩) EG.size rP ?_)
 intro v3 w3 hown3 hbel3 hz3
 have HO3:=yD hown3
 obtain ⟨a3,n3,c3,hv3,HN3⟩:=hown3.parts
 obtain rfl:=hv3
 have EG2:=EG.trans hbel3
 clear hown3 hbel3
 go_wp2
 go_ret
 exact ⟨_,rfl,HO3.out.cast nO,EG2⟩
theorem vPart_size {s:ByteArray} (h:kBu s=true):s.size≤8:=by
 unfold kBu at h
 simp only [Bool.and_eq_true] at h
 have h2:(1:Int)≤s.size∧(s.size:Int)≤8:=by simpa [inR] using h.2
 omega
theorem kMx {n:kW} (h:kAu n=true):n.length≤6:=by
 unfold kAu at h
 simp only [Bool.and_eq_true,decide_eq_true_eq] at h
 exact h.2
theorem kEz {n:kW} (h:kAu n=true) {k:Nat} (hk:k < n.length):n[k].size≤8:=by
 by_cases q:kBu n[k]=true
 · exact vPart_size q
 have:=kUh hk (by simpa using q)
 rw [this] at h;cases h
theorem encS_len {s:ByteArray} (h:s.size≤8):(encS s).length≤14:=by
 have h1:=kDw s.data.toList.length
 have h2:s.data.toList.length=s.size:=rQ
 unfold encS;rw [List.length_append];omega
theorem kJg {n:kW} (h:kAu n=true):∀ {k:Nat},k≤n.length→(kFr (n.take k)).length≤14 * k
  | 0,_=>by simp [kFr]
  | k + 1,hk=>by
    have h1:=kJg h (k:=k) rP
    have h2:=encS_len (kEz h (k:=k) rP)
    rw [kKw rP,List.length_append];omega
theorem encNm_len {n:kW} (h:kAu n=true):(kMk n).length≤90:=by
 have h1:=kDw n.length
 have h2:=kJg h (k:=n.length) nL
 have h3:=kMx h
 rw [List.take_length] at h2
 unfold kMk;rw [List.length_append];omega
theorem kNj {w:World} {va:Value} {b:List UInt8} {cn:List Value} {n:kW} (ha:(Rep.slice 5 Rep.byte).rd w [va] b) (hn:kL.raw w cn n) (hv:kAu n=true) (hb:b.length≤1000000) :
    Calls Tryz.prog 242 #[va,.agg cn.toArray] w (kAt 5 Rep.byte (b++kMk n) w):=by
 obtain ⟨av,rfl,a_0⟩:=kM hn
 obtain ⟨an,capn,rfl,ln⟩:=Rep.sl a_0
 obtain ⟨aa,capa,rfl,la⟩:=Rep.sl ha.1
 have HA:=yD ha
 have HN:=yD a_0
 have HNR:=yD hn
 have HV:=yD hv
 have hnl:=kMx hv
 clear ha hn a_0 hv
 go_enter Tryz.func242,Tryz.ntmps242
 have O0:Rep.kg 5 Rep.byte ((w.alloc (.cells #[.slice an n.length capn] 64)).alloc (.cells #[] 5)) (.slice (some ⟨w.heap.size + 1,0,none⟩) 0 0) [] (fun k=>k=w.heap.size + 1):=by
  have h:=Rep.yj (e:=5) (r:=Rep.byte) (w:=w.alloc (.cells #[.slice an n.length capn] 64)) (cs:=[]) (xs:=[]) (T:=fun _=>False) (S:=fun k=>k=w.heap.size + 1) rQ rQ rfl (fun _ h=>h.elim) rQ
  simpa using h
 go_wp2_with (at_builtin;refine Rep.je rfl _ _ 40 rfl (r:=Rep.byte) (e:=5) Tryz.underlying40 kCp rfl rM rM Rep.kCa (B:=w.heap.size + 1) O0 rR rR (HA.out.below bH) mQ rQ rG ?_)
 intro v2 w2 hown hbel hz
 have HO:Hid (Rep.kg 5 Rep.byte w2 v2 b (Btw w.heap.size w2.heap.size)):=yD ((hown.cast rQ).wide mI)
 have K0:w2.cell? ⟨w.heap.size,0,none⟩=some (.slice an n.length capn):=(hbel.cell (p:=⟨w.heap.size,0,none⟩) rQ).trans rE
 have EG:Below w.heap.size w w2:=Below.trans bH (hbel.mono nE)
 obtain ⟨a2,n2,c2,hv2,HN2⟩:=HO.out.parts
 obtain rfl:=hv2
 have hgt:w.heap.size < w2.heap.size:=by have:=hbel.size;simp at this;omega
 clear hown O0 hbel hz
 go_wp2_with fail
 refine (kBi (HNR.out.below EG)).mono ?_
 rintro e w3 ⟨rfl,hb3⟩
 rw [HV.out]
 replace K0:=cL hb3 K0
 replace HO:=yD (((HO.out.below hb3).own qF).rd)
 have EG3:=(tQ EG hb3)
 have hgt3:w.heap.size < w3.heap.size:=by have:=hb3.size;omega
 clear EG hb3 hgt
 go_wp2_with fail
 refine (kCs HO.out).mono ?_
 rintro e w4 ⟨v4,rfl,hown4,EG4⟩
 obtain ⟨a4,n4,c4,hv4,HN4⟩:=hown4.parts
 obtain rfl:=hv4
 replace K0:=cL EG4 K0
 have EG:=(tQ EG3 EG4)
 have HO4:Hid (Rep.kg 5 Rep.byte w4 (.slice a4 n4 c4) (b++kBt n.length) (Btw (w.heap.size + 1) w4.heap.size)):=yD (hown4.wide mI)
 have hgt4:w.heap.size < w4.heap.size:=by have:=EG4.size;omega
 have HK0:=yD K0
 clear hown4 EG3 EG4 hgt3 K0
 have HL4:=yD (kDw n.length)
 have K0:=HK0.out
 go_wp2
 go_loopw [5,6] (fun v i wr=>∃ k:Nat,k≤n.length∧i=.int .i64 k∧Hid (Rep.kg 5 Rep.byte wr v (b++kBt n.length++kFr (n.take k)) (Btw (w.heap.size + 1) wr.heap.size))∧Below (w.heap.size + 1) w4 wr) (fun _ i _=>n.length - (intOf i).toNat)
 case atStart=>exact ⟨0,Nat.zero_le _,rfl,yD (by simpa [kFr] using HO4.out),bR⟩
 clear K0 HO4
 obtain ⟨k,hk,rfl,HO,hbel⟩:=hrel
 obtain ⟨oa,on,oc,ho,HON⟩:=HO.out.parts;obtain rfl:=ho
 have EW:Below w.heap.size w wr:=EG.trans (hbel.mono rP)
 have hgtr:w.heap.size < wr.heap.size:=pO
 have K0:wr.cell? ⟨w.heap.size,0,none⟩=some (.slice an n.length capn):=(hbel.cell (p:=⟨w.heap.size,0,none⟩) rQ).trans HK0.out
 by_cases hlt:k < n.length
 · obtain ⟨qb,qo,rfl,c0,hr,A0⟩:=Rep.kAy (HN.out.below EW) hlt rfl
   obtain ⟨he,hsz⟩:=Rep.yQ hr
   obtain rfl:c0=_:=by simpa using he
   clear he hr
   have HSN:=yD (kKw hlt)
   have hs8:=kEz HV.out hlt
   have hel:=kJg HV.out hk
   have HRD:Hid ((Rep.slice 5 Rep.byte).rd wr [.slice oa on oc] (b++kBt n.length++kFr (n.take k))):=yD ((HO.out.own (by have:=HL4.out;unfold Big;simp only [List.length_append];omega)).rd)
   generalize n[k]=s at *
   have hcv:=Lib.run_convert_string_bytes (P:=Tryz.prog) wr 9 40 5 s (u:=.string) Tryz.underlying9 Tryz.underlying40 Tryz.underlying5
   have HS:=yD (kKm (w:=wr) (e:=5) (e2:=5) (s:=s) rP)
   have hbw:=bytesWorld_below' wr 5 s
   obtain ⟨W1,hW1⟩:∃ W1,W1=Lib.bytesWorld wr 5 s:=⟨_,rfl⟩
   rw [← hW1] at hcv HS hbw
   clear hW1 hel hsz
   generalize grownCap wr s.size 0 5=gc at *
   go_wp2_with fail
   refine (kLp (HRD.out.below hbw) HS.out).mono ?_
   rintro e w5 ⟨v5,rfl,hown,EG5⟩
   obtain ⟨a5,n5,c5,hv5,HN5⟩:=hown.parts
   obtain rfl:=hv5
   have EW5:=hbel.trans ((hbw.mono rP).trans (EG5.mono (by have:=hbw.size;omega)))
   have HO2:Hid (Rep.kg 5 Rep.byte w5 (.slice a5 n5 c5) (b++kBt n.length++kFr (n.take (k + 1))) (Btw (w.heap.size + 1) w5.heap.size)):=yD ((hown.cast (by rw [HSN.out];simp only [encS,List.append_assoc])).wide (fun j hj=>⟨by have:=hj.1;have:=hbw.size;omega,hj.2⟩))
   clear hown EG5 HO HRD A0 hbel hcv hbw K0 EW
   go_wp2
   go_roundw
   case rel=>exact ⟨k + 1,by omega,by go_num,HO2,EW5⟩
   simp [intOf];omega
 obtain rfl:k=n.length:=rP
 go_wp2
 go_ret
 exact ⟨_,rfl,(HO.out.cast (by rw [List.take_length,kMk,List.append_assoc])).wide mI,EW⟩
theorem kOc {w:World} {va:Value} {b:List UInt8} {cn:List Value} {n:kW} (ha:(Rep.slice 5 Rep.byte).rd w [va] b) (hn:kL.raw w cn n) (hv:kAu n=true) (hb:b.length≤1000000) :
    Calls Tryz.prog 248 #[va,.agg cn.toArray] w (kAt 5 Rep.byte (b++kMk n) w):=by
 obtain ⟨av,rfl,a_0⟩:=kM hn
 obtain ⟨an,capn,rfl,ln⟩:=Rep.sl a_0
 obtain ⟨aa,capa,rfl,la⟩:=Rep.sl ha.1
 have HA:=yD ha
 have HN:=yD a_0
 have HNR:=yD hn
 have HV:=yD hv
 have hnl:=kMx hv
 clear ha hn a_0 hv
 go_enter Tryz.func248,Tryz.ntmps248
 go_wp2_with fail
 generalize hwB:World.alloc w _=wB
 have EB:Below w.heap.size w wB:=by rw [← hwB];exact bH
 have K0:wB.cell? ⟨w.heap.size,0,none⟩=some (.slice an n.length capn):=nV
 have hgt:w.heap.size < wB.heap.size:=qK
 clear hwB
 refine (kBl (HNR.out.below EB)).mono ?_
 rintro e w3 ⟨rfl,hb3⟩
 rw [HV.out]
 replace K0:=cL hb3 K0
 have EG3:=(tQ EB hb3)
 have hgt3:w.heap.size < w3.heap.size:=by have:=hb3.size;omega
 clear EB hb3 hgt
 go_wp2_with fail
 refine (kCx (HA.out.below EG3)).mono ?_
 rintro e w4 ⟨v4,rfl,hown4,EG4⟩
 obtain ⟨a4,n4,c4,hv4,HN4⟩:=hown4.parts
 obtain rfl:=hv4
 replace K0:=cL EG4 K0
 have EG:=(tQ EG3 EG4)
 have HO4:Hid (Rep.kg 5 Rep.byte w4 (.slice a4 n4 c4) (b++kBt n.length) (Btw (w.heap.size + 1) w4.heap.size)):=yD (hown4.wide mI)
 have hgt4:w.heap.size < w4.heap.size:=by have:=EG4.size;omega
 have HK0:=yD K0
 clear hown4 EG3 EG4 hgt3 K0
 have HL4:=yD (kDw n.length)
 have K0:=HK0.out
 go_wp2
 go_loopw [5,21] (fun v i wr=>∃ k:Nat,k≤n.length∧i=.int .i64 k∧Hid (Rep.kg 5 Rep.byte wr v (b++kBt n.length++kFr (n.take k)) (Btw (w.heap.size + 1) wr.heap.size))∧Below (w.heap.size + 1) w4 wr) (fun _ i _=>n.length - (intOf i).toNat)
 case atStart=>exact ⟨0,Nat.zero_le _,rfl,yD (by simpa [kFr] using HO4.out),bR⟩
 clear K0 HO4
 obtain ⟨k,hk,rfl,HO,hbel⟩:=hrel
 obtain ⟨oa,on,oc,ho,HON⟩:=HO.out.parts;obtain rfl:=ho
 have EW:Below w.heap.size w wr:=EG.trans (hbel.mono rP)
 have hgtr:w.heap.size < wr.heap.size:=pO
 have K0:wr.cell? ⟨w.heap.size,0,none⟩=some (.slice an n.length capn):=(hbel.cell (p:=⟨w.heap.size,0,none⟩) rQ).trans HK0.out
 by_cases hlt:k < n.length
 · obtain ⟨qb,qo,rfl,c0,hr,A0⟩:=Rep.kAy (HN.out.below EW) hlt rfl
   obtain ⟨he,hsz⟩:=Rep.yQ hr
   obtain rfl:c0=_:=by simpa using he
   clear he hr
   have HSN:=yD (kKw hlt)
   have hs8:=kEz HV.out hlt
   have hel:=kJg HV.out hk
   have HRD:Hid ((Rep.slice 5 Rep.byte).rd wr [.slice oa on oc] (b++kBt n.length++kFr (n.take k))):=yD ((HO.out.own (by have:=HL4.out;unfold Big;simp only [List.length_append];omega)).rd)
   generalize n[k]=s at *
   have hcv:=Lib.run_convert_string_bytes (P:=Tryz.prog) wr 9 40 5 s (u:=.string) Tryz.underlying9 Tryz.underlying40 Tryz.underlying5
   have HS:=yD (kKm (w:=wr) (e:=5) (e2:=5) (s:=s) rP)
   have hbw:=bytesWorld_below' wr 5 s
   obtain ⟨W1,hW1⟩:∃ W1,W1=Lib.bytesWorld wr 5 s:=⟨_,rfl⟩
   rw [← hW1] at hcv HS hbw
   clear hW1 hel hsz
   generalize grownCap wr s.size 0 5=gc at *
   go_wp2_with fail
   refine (kMf (HRD.out.below hbw) HS.out).mono ?_
   rintro e w5 ⟨v5,rfl,hown,EG5⟩
   obtain ⟨a5,n5,c5,hv5,HN5⟩:=hown.parts
   obtain rfl:=hv5
   have EW5:=hbel.trans ((hbw.mono rP).trans (EG5.mono (by have:=hbw.size;omega)))
   have HO2:Hid (Rep.kg 5 Rep.byte w5 (.slice a5 n5 c5) (b++kBt n.length++kFr (n.take (k + 1))) (Btw (w.heap.size + 1) w5.heap.size)):=yD ((hown.cast (by rw [HSN.out];simp only [encS,List.append_assoc])).wide (fun j hj=>⟨by have:=hj.1;have:=hbw.size;omega,hj.2⟩))
   clear hown EG5 HO HRD A0 hbel hcv hbw K0 EW
   go_wp2
   go_roundw
   case rel=>exact ⟨k + 1,by omega,by go_num,HO2,EW5⟩
   simp [intOf];omega
 obtain rfl:k=n.length:=rP
 go_wp2
 go_ret
 exact ⟨_,rfl,(HO.out.cast (by rw [List.take_length,kMk,List.append_assoc])).wide mI,EW⟩
end Go.Proofs.YtlfblpgkegeaeaaGreat
