/-
  Numbers, written in decimal.
  DERIVED: THE SHELF's CONTRACTS AT THIS DUMP, IN PLAIN WORDS (tools/lay-plain.mjs out of 'TryzShelf.lean', which tools/lay-shelf.mjs wrote): THE SAME DECLARATIONS UNDER THE SAME NAMES: 'import', 'namespace', 'open', 'def', 'theorem' AND NOTHING ELSE: no command of the shelf's: FOR A HAND-IN. Each laying: the table of numbers ('.._ren') and one theorem, a field a fact of the dump's own or the kernel's comparison; each contract: ONE APPLICATION.
  A topology, written as text.
-/
import Derived.Test.YthpgoddjglnoiaaGreatDoorNum
import Derived.Deep.Cut
import Derived.Lib.ItoaNum
import Derived.Laws.IdiomStrings
import Derived.Laws.Concat
import Derived.Shelf.Strings.Builder1
import Derived.Shelf.Strings.Builder2
import Derived.Shelf.Strings.OnBuilder
import Derived.Shelf.Strconv.Itoa0
import Derived.Shelf.Strconv.Itoa1
import Derived.Shelf.LaysM
import Derived.Shelf.Strconv.Itoa2
import Derived.Shelf.Strconv.Itoa3
import Derived.Test.YthpgoddjglnoiaaGreatDoorSoft2
import Derived.Lib.AppendIntMem
set_option linter.unusedVariables false
set_option linter.unusedSimpArgs false
set_option linter.unnecessarySimpa false
set_option maxRecDepth 100000
set_option maxHeartbeats 4000000
namespace Go.Proofs.YthpgoddjglnoiaaGreatDoor
open Go.RowKit
def kAe (u:Nat):List UInt8:=if h:u=0 then [] else kAe (u / 10)++[UInt8.ofNat (48 + u % 10)]
termination_by u
decreasing_by omega
theorem kHa:kAe 0=[]:=by rw [kAe,dif_pos rfl]
theorem kJf {u:Nat} (h:0 < u):kAe u=kAe (u / 10)++[UInt8.ofNat (48 + u % 10)]:=by rw [kAe,dif_neg fV]
theorem digs_dec (u:Nat) (h:0 < u):kAe u=Lib.decDigits u:=by
 induction u using Nat.strongRecOn with
 | _ u ih =>
   rw [kJf h,Lib.decDigits]
   by_cases q:u < 10
   · rw [dif_pos q,show u / 10=0 by omega,kHa,show u % 10=u by omega];rfl
   · rw [dif_neg q,ih (u / 10) fV fV]
theorem kBy:∀ (k:Nat) {u:Nat},u < 10 ^ k→(kAe u).length≤k
  | 0,u,h=>by
    obtain rfl:u=0:=fM
    rw [kHa];simp
  | k + 1,u,h=>by
    by_cases q:u=0
    · subst q;rw [kHa];simp
    · rw [kJf fV,List.length_append]
      have:=kBy k (u:=u / 10) (Nat.div_lt_of_lt_mul (by rw [Nat.mul_comm];rwa [Nat.pow_succ] at h))
      simp;omega
def zf (n:Int):ByteArray:=⟨(Lib.itoa n).toArray⟩
theorem kEo {n:Nat} (h:0 < n):zf (n:Int)=⟨(kAe n).toArray⟩:=by
 unfold zf Lib.itoa
 rw [if_neg fV,digs_dec n h,show (n:Int).toNat=n by omega]
theorem kEp {n:Nat} (h:0 < n):zf (-(n:Int))=⟨#[45]⟩++⟨(kAe n).toArray⟩:=by
 unfold zf Lib.itoa
 rw [if_pos fV,digs_dec n h,show (-(n:Int)).natAbs=n by omega]
 apply ByteArray.ext
 simp
theorem itoaB_0:zf 0=⟨#[48]⟩:=by
 unfold zf Lib.itoa
 rw [if_neg fV,show (0:Int).toNat=0 from rfl,Lib.decDigits,dif_pos fV]
 rfl
theorem kEa (l:List UInt8):(⟨l.toArray⟩:ByteArray).size=l.length:=by simp [ByteArray.size]
theorem yZ {n:Int} (h:-9223372036854775808≤n∧n≤9223372036854775807):(zf n).size≤20:=by
 rcases Int.lt_trichotomy n 0 with q | q | q
 · obtain ⟨m,rfl⟩:∃ m:Nat,n=-(m:Int):=⟨n.natAbs,by omega⟩
   have h1:=kBy 19 (u:=m) fV
   have h2:=kEa (kAe m)
   have h3:(⟨#[45]⟩:ByteArray).size=1:=rfl
   rw [kEp fV,ByteArray.size_append]
   omega
 · subst q;rw [itoaB_0];decide
 obtain ⟨m,rfl⟩:∃ m:Nat,n=m:=⟨n.toNat,by omega⟩
 have h1:=kBy 19 (u:=m) fV
 rw [kEo fV,kEa];omega
theorem dig_int {u:Nat}:(48:Int) + (u:Int) % 10=((UInt8.ofNat (48 + u % 10)).toNat:Int):=by
 rw [UInt8.toNat_ofNat']
 omega
theorem kDu {P:Program} {w:World} {src dst e:TypeId} {x:UInt8} {z:Int} (hz:z=(x.toNat:Int)) (hs:P.underlying src=some (.slice e)) (he:P.underlying e=some (.int .u8)) (hd:P.underlying dst=some .string) :
    (convert src dst (.slice (some ⟨w.heap.size,0,none⟩) 1 1)).run P (w.alloc (.cells #[.int .u8 z] e))=.ok (.string ⟨#[x]⟩) (w.alloc (.cells #[.int .u8 z] e)):=by
 have h:=run_convert_bytes_back (P:=P) (w.alloc (.cells #[.int .u8 z] e)) src dst e ⟨w.heap.size,0,none⟩ 1 [x] hs he hd (by
   intro j hj
   obtain rfl:j=0:=fD
   subst hz
   simp [go_sem])
 simpa using h
theorem yH {w:World} {n:Int} (hn:-9223372036854775808≤n∧n≤9223372036854775807) :
    Calls Tryz.prog 58 #[.int .i64 n] w fun e w'=>e=.returned (.string (zf n))∧Below w.heap.size w w':=by
 go_enter Tryz.func58,Tryz.ntmps58
 rcases Int.lt_trichotomy n 0 with q | q | q
 · obtain ⟨N,rfl⟩:∃ m:Nat,n=-(m:Int):=⟨n.natAbs,by omega⟩
   have hN:0 < N:=fV
   go_wp2
   go_loopw [3,4] (fun sv xv wr=>∃ (u:Nat) (s:ByteArray),u≤N∧xv=.int .i64 (-(u:Int))∧sv=.string s∧s.size≤20∧Hid (kAe u++s.data.toList=kAe N)∧Below w.heap.size w wr) (fun _ xv _=>(intOf xv).natAbs)
   case atStart=>exact ⟨N,ByteArray.empty,Nat.le_refl _,rfl,rfl,by decide,yD fZ,bR⟩
   obtain ⟨u,s,hu,rfl,rfl,hs,HP,hbel⟩:=hrel
   by_cases hz:u=0
   · subst hz
     have HS:=yD (show s=⟨(kAe N).toArray⟩ by
       have h:=HP.out
       rw [kHa,List.nil_append] at h
       apply ByteArray.ext
       rw [← h])
     go_wp2
     go_ret
     exact ⟨(by (first | rw [kEo hN] | rw [kEp hN]);first | rfl|(rw [HS.out];rfl)),hbel⟩
   have hpos:0 < u:=fV
   have HDG:=yD (kJf hpos)
   have hne:(((-(u:Int)):Int) != 0)=true:=fQ
   have hsz:s.size + 1≤20:=by
    have h1:=congrArg List.length HP.out
    have h2:=kBy 19 (u:=N) fV
    rw [HDG.out] at h1
    simp only [List.length_append,List.length_cons,List.length_nil] at h1
    have h3:s.data.toList.length=s.size:=fZ
    omega
   have hb:=dig_int (u:=u)
   have hcv:=kDu (P:=Tryz.prog) (w:=wr) (src:=22) (dst:=9) hb Tryz.underlying22 Tryz.underlying5 Tryz.underlying9
   clear hb
   have hcv0:=fun (q:u % 10=0)=>kDu (P:=Tryz.prog) (w:=wr) (src:=22) (dst:=9) (z:=48) (x:=UInt8.ofNat (48 + u % 10)) (by rw [q];rfl) Tryz.underlying22 Tryz.underlying5 Tryz.underlying9
   have hc1:(⟨#[UInt8.ofNat (48 + u % 10)]⟩:ByteArray).size=1:=rfl
   have HX:=yD (show kAe (u / 10)++((⟨#[UInt8.ofNat (48 + u % 10)]⟩:ByteArray)++s).data.toList=kAe N by
     rw [← HP.out,HDG.out];simp)
   generalize (⟨#[UInt8.ofNat (48 + u % 10)]⟩:ByteArray)=ch at hcv hcv0 hc1 HX
   by_cases hm:u % 10=0
   · have hmi:(u:Int) % 10=0:=fV
     have hcz:=hcv0 hm
     clear hcv0 hcv
     go_wp2_with fail
     go_roundw
     case rel=>exact ⟨u / 10,_,by omega,by go_num,rfl,bY,HX,(hbel.alloc hbel.size _)⟩
     simp [intOf];omega
   have hmi:(0:Int) < (u:Int) % 10:=fV
   clear hcv0
   go_wp2_with fail
   go_roundw
   case rel=>exact ⟨u / 10,_,by omega,by go_num,rfl,bY,HX,(hbel.alloc hbel.size _)⟩
   simp [intOf];omega
 · subst q
   go_wp2
   go_ret
   exact ⟨by rw [itoaB_0];rfl,bR⟩
 obtain ⟨N,rfl⟩:∃ m:Nat,n=m:=⟨n.toNat,by omega⟩
 have hN:0 < N:=fV
 go_wp2
 go_loopw [3,4] (fun sv xv wr=>∃ (u:Nat) (s:ByteArray),u≤N∧xv=.int .i64 (u:Int)∧sv=.string s∧s.size≤20∧Hid (kAe u++s.data.toList=kAe N)∧Below w.heap.size w wr) (fun _ xv _=>(intOf xv).natAbs)
 case atStart=>exact ⟨N,ByteArray.empty,Nat.le_refl _,rfl,rfl,by decide,yD fZ,bR⟩
 obtain ⟨u,s,hu,rfl,rfl,hs,HP,hbel⟩:=hrel
 by_cases hz:u=0
 · subst hz
   have HS:=yD (show s=⟨(kAe N).toArray⟩ by
     have h:=HP.out
     rw [kHa,List.nil_append] at h
     apply ByteArray.ext
     rw [← h])
   go_wp2
   go_ret
   exact ⟨(by (first | rw [kEo hN] | rw [kEp hN]);first | rfl|(rw [HS.out];rfl)),hbel⟩
 have hpos:0 < u:=fV
 have HDG:=yD (kJf hpos)
 have hne:(((u:Int):Int) != 0)=true:=fQ
 have hsz:s.size + 1≤20:=by
  have h1:=congrArg List.length HP.out
  have h2:=kBy 19 (u:=N) fV
  rw [HDG.out] at h1
  simp only [List.length_append,List.length_cons,List.length_nil] at h1
  have h3:s.data.toList.length=s.size:=fZ
  omega
 have hb:=dig_int (u:=u)
 have hcv:=kDu (P:=Tryz.prog) (w:=wr) (src:=22) (dst:=9) hb Tryz.underlying22 Tryz.underlying5 Tryz.underlying9
 clear hb
 have hcv0:=fun (q:u % 10=0)=>kDu (P:=Tryz.prog) (w:=wr) (src:=22) (dst:=9) (z:=48) (x:=UInt8.ofNat (48 + u % 10)) (by rw [q];rfl) Tryz.underlying22 Tryz.underlying5 Tryz.underlying9
 have hc1:(⟨#[UInt8.ofNat (48 + u % 10)]⟩:ByteArray).size=1:=rfl
 have HX:=yD (show kAe (u / 10)++((⟨#[UInt8.ofNat (48 + u % 10)]⟩:ByteArray)++s).data.toList=kAe N by
   rw [← HP.out,HDG.out];simp)
 generalize (⟨#[UInt8.ofNat (48 + u % 10)]⟩:ByteArray)=ch at hcv hcv0 hc1 HX
 go_wp2_with fail
 go_roundw
 case rel=>exact ⟨u / 10,_,by omega,by go_num,rfl,bY,HX,(hbel.alloc hbel.size _)⟩
 simp [intOf];omega
end Go.Proofs.YthpgoddjglnoiaaGreatDoor
namespace Go.Proofs
open Go.Shelf
def Tryz.kFj:Go.Shelf.Ren:=⟨fun | 156=>78 | 165=>91 | 166=>92 | 169=>93 | 240=>99 | 241=>100 | 276=>106 | 277=>107 | n=>n,fun | 31=>25 | 9=>9 | 3=>3 | 4=>4 | 0=>0 | 20=>20 | 72=>98 | 76=>102 | 70=>96 | 37=>22 | 75=>101 | 127=>109 | 164=>116 | 5=>5 | 80=>104 | n=>n,fun | n=>n⟩
theorem Tryz.lays156:Go.Proofs.Lays.n156 Tryz.prog Tryz.kFj:={
  mixed:=by kernel_rfl
  f156:=Tryz.func78.trans (congrArg some (by kernel_rfl))
  f165:=Tryz.func91.trans (congrArg some (by kernel_rfl))
  f166:=Tryz.func92.trans (congrArg some (by kernel_rfl))
  f169:=Tryz.func93.trans (congrArg some (by kernel_rfl))
  f240:=Tryz.func99.trans (congrArg some (by kernel_rfl))
  f241:=Tryz.func100.trans (congrArg some (by kernel_rfl))
  f276:=Tryz.func106.trans (congrArg some (by kernel_rfl))
  f277:=Tryz.func107.trans (congrArg some (by kernel_rfl))
  t0:=Tryz.underlying0
  a0:=Tryz.isAgg0
  z0:=Tryz.sizeOf0
  v0:=Tryz.zeroValue0
  t3:=Tryz.underlying3
  a3:=Tryz.isAgg3
  z3:=Tryz.sizeOf3
  v3:=Tryz.zeroValue3
  t4:=Tryz.underlying4
  a4:=Tryz.isAgg4
  z4:=Tryz.sizeOf4
  v4:=Tryz.zeroValue4
  t9:=Tryz.underlying9
  a9:=Tryz.isAgg9
  z9:=Tryz.sizeOf9
  v9:=Tryz.zeroValue9
  t20:=Tryz.underlying20
  a20:=Tryz.isAgg20
  z20:=Tryz.sizeOf20
  v20:=Tryz.zeroValue20
  t31:=Tryz.underlying25
  a31:=Tryz.isAgg25
  z31:=Tryz.sizeOf25
  v31:=Tryz.zeroValue25
  t37:=Tryz.underlying22
  a37:=Tryz.isAgg22
  z37:=Tryz.sizeOf22
  v37:=Tryz.zeroValue22
  t70:=Tryz.underlying96
  a70:=Tryz.isAgg96
  z70:=Tryz.sizeOf96
  v70:=Tryz.zeroValue96
  t72:=Tryz.underlying98
  a72:=Tryz.isAgg98
  z72:=Tryz.sizeOf98
  v72:=Tryz.zeroValue98
  t75:=Tryz.underlying101
  a75:=Tryz.isAgg101
  z75:=Tryz.sizeOf101
  v75:=Tryz.zeroValue101
  t76:=Tryz.underlying102
  a76:=Tryz.isAgg102
  z76:=Tryz.sizeOf102
  v76:=Tryz.zeroValue102
  t127:=Tryz.underlying109
  a127:=Tryz.isAgg109
  z127:=Tryz.sizeOf109
  v127:=Tryz.zeroValue109
  t164:=Tryz.underlying116
  a164:=Tryz.isAgg116
  z164:=Tryz.sizeOf116
  v164:=Tryz.zeroValue116 }
theorem Tryz.kEd:Builder.Extra Tryz.prog Tryz.kFj:={
  sizeBuilder:=by kernel_rfl
  liesBuilder:=by kernel_rfl
  t5:=Tryz.underlying5
  a5:=Tryz.isAgg5
  z5:=Tryz.sizeOf5
  v5:=Tryz.zeroValue5
  infoByte:=by kernel_rfl
  cellsByte:=by kernel_rfl
  sizeByte:=by kernel_rfl
  neB5:=by decide }
open Go.RowKit in
theorem Tryz.strings_Join (bk o c:Nat) (xs:List ByteArray) (sep:ByteArray) (w:World) (hcells:∀ (j:Nat) x,xs[j]?=some x→w.cell? ⟨bk,o + j,none⟩=some (.string x)) (hbk:bk < w.heap.size) (hN:xs.length≤140737488355328) (hcap:xs.length≤c) (hlen:(Lib.join (xs.map (·.data.toList)) sep.data.toList).length≤140737488355328) :
    Calls Tryz.prog 78 #[.slice (some ⟨bk,o,none⟩) xs.length c,.string sep] w fun e w'=>e=.returned (.string ⟨(Lib.join (xs.map (·.data.toList)) sep.data.toList).toArray⟩)∧Below w.heap.size w w':=Any.strings_Join Tryz.lays156 Tryz.kEd bk o c xs sep w hcells hbk hN hcap hlen
def Tryz.kJb:Go.Shelf.Ren:=⟨fun | 171=>77 | 243=>90 | 246=>98 | 283=>102 | 284=>103 | 285=>104 | 286=>105 | 129=>109 | 317=>108 | 318=>110 | 319=>111 | 320=>112 | 337=>113 | 338=>114 | n=>n,fun | 3=>3 | 9=>9 | 2=>2 | 4=>4 | 171=>110 | 0=>0 | 53=>111 | 37=>22 | 5=>5 | 173=>114 | 212=>121 | 51=>122 | 20=>20 | 213=>123 | 46=>94 | 232=>126 | 233=>127 | n=>n,fun | 17=>0 | 18=>2 | 19=>3 | n=>n⟩
theorem Tryz.laysM171:Go.Proofs.LaysM.n171 Tryz.prog Tryz.kJb:={
  mixed:=by kernel_rfl
  f129:=Tryz.func109.trans (congrArg some (by kernel_rfl))
  f171:=Tryz.func77.trans (congrArg some (by kernel_rfl))
  f243:=Tryz.func90.trans (congrArg some (by kernel_rfl))
  f246:=Tryz.func98.trans (congrArg some (by kernel_rfl))
  f283:=Tryz.func102.trans (congrArg some (by kernel_rfl))
  f284:=Tryz.func103.trans (congrArg some (by kernel_rfl))
  f285:=Tryz.func104.trans (congrArg some (by kernel_rfl))
  f286:=Tryz.func105.trans (congrArg some (by kernel_rfl))
  f317:=Tryz.func108.trans (congrArg some (by kernel_rfl))
  f318:=Tryz.func110.trans (congrArg some (by kernel_rfl))
  f319:=Tryz.func111.trans (congrArg some (by kernel_rfl))
  f320:=Tryz.func112.trans (congrArg some (by kernel_rfl))
  f337:=Tryz.func113.trans (congrArg some (by kernel_rfl))
  f338:=Tryz.func114.trans (congrArg some (by kernel_rfl))
  t0:=Tryz.underlying0
  a0:=Tryz.isAgg0
  z0:=Tryz.sizeOf0
  v0:=Tryz.zeroValue0
  t2:=Tryz.underlying2
  a2:=Tryz.isAgg2
  z2:=Tryz.sizeOf2
  v2:=Tryz.zeroValue2
  t3:=Tryz.underlying3
  a3:=Tryz.isAgg3
  z3:=Tryz.sizeOf3
  v3:=Tryz.zeroValue3
  t4:=Tryz.underlying4
  a4:=Tryz.isAgg4
  z4:=Tryz.sizeOf4
  v4:=Tryz.zeroValue4
  t5:=Tryz.underlying5
  a5:=Tryz.isAgg5
  z5:=Tryz.sizeOf5
  v5:=Tryz.zeroValue5
  t9:=Tryz.underlying9
  a9:=Tryz.isAgg9
  z9:=Tryz.sizeOf9
  v9:=Tryz.zeroValue9
  t20:=Tryz.underlying20
  a20:=Tryz.isAgg20
  z20:=Tryz.sizeOf20
  v20:=Tryz.zeroValue20
  t37:=Tryz.underlying22
  a37:=Tryz.isAgg22
  z37:=Tryz.sizeOf22
  v37:=Tryz.zeroValue22
  t46:=Tryz.underlying94
  a46:=Tryz.isAgg94
  z46:=Tryz.sizeOf94
  v46:=Tryz.zeroValue94
  t51:=Tryz.underlying122
  a51:=Tryz.isAgg122
  z51:=Tryz.sizeOf122
  v51:=Tryz.zeroValue122
  t53:=Tryz.underlying111
  a53:=Tryz.isAgg111
  z53:=Tryz.sizeOf111
  v53:=Tryz.zeroValue111
  t171:=Tryz.underlying110
  a171:=Tryz.isAgg110
  z171:=Tryz.sizeOf110
  v171:=Tryz.zeroValue110
  t173:=Tryz.underlying114
  a173:=Tryz.isAgg114
  z173:=Tryz.sizeOf114
  v173:=Tryz.zeroValue114
  t212:=Tryz.underlying121
  a212:=Tryz.isAgg121
  z212:=Tryz.sizeOf121
  v212:=Tryz.zeroValue121
  t213:=Tryz.underlying123
  a213:=Tryz.isAgg123
  z213:=Tryz.sizeOf123
  t232:=Tryz.underlying126
  a232:=Tryz.isAgg126
  z232:=Tryz.sizeOf126
  v232:=Tryz.zeroValue126
  t233:=Tryz.underlying127
  a233:=Tryz.isAgg127
  z233:=Tryz.sizeOf127
  v233:=Tryz.zeroValue127
  g17:=by kernel_rfl
  g18:=by kernel_rfl
  g19:=by kernel_rfl
  i0:=by kernel_rfl
  i2:=by kernel_rfl
  i3:=by kernel_rfl
  i4:=by kernel_rfl
  i5:=by kernel_rfl
  i9:=by kernel_rfl
  i20:=by kernel_rfl
  i37:=by kernel_rfl
  i46:=by kernel_rfl
  i51:=by kernel_rfl
  i53:=by kernel_rfl
  i171:=by kernel_rfl
  i173:=by kernel_rfl
  i212:=by kernel_rfl
  i232:=by kernel_rfl
  i233:=by kernel_rfl
  m17:=by kernel_rfl
  m18:=by kernel_rfl
  m19:=by kernel_rfl }
open Go.RowKit Go.Sort Go.Lib in
theorem Tryz.strconv_Itoa (n:Int) (h0:-9223372036854775808≤n) (h1:n≤9223372036854775807) (w:World) (htab:Lib.TabIs Tryz.prog w "internal/strconv.uint64pow10" .u64 Lib.pow10Tab) :
    Calls Tryz.prog 77 #[.int .i64 n] w fun e w'=>e=.returned (.string ⟨(Lib.itoa n).toArray⟩)∧∃ k os,w'=grow (w.drewN k) os:=Any.strconv_Itoa Tryz.laysM171 n h0 h1 w htab
end Go.Proofs
namespace Go.Proofs.YthpgoddjglnoiaaGreatDoor
open Go.RowKit
theorem grow_below (w:World) (q:Nat) (os:Array Obj):Below w.heap.size w (Sort.grow (w.drewN q) os) :=
  ⟨rfl,rfl,rfl,by simp [Sort.grow],fun k hk=>by simp [Sort.grow,Array.getElem?_append,hk]⟩
def TabW (P:Program) (w:World):Prop:=Lib.TabIs P w "internal/strconv.uint64pow10" .u64 Lib.pow10Tab
theorem TabW.below {P:Program} {w w':World} (h:TabW P w) (hb:Below w.heap.size w w'):TabW P w':=Lib.tabBelow_of_tabIs h w' hb
theorem kBm {w:World} {n:Int} (hn:-9223372036854775808≤n∧n≤9223372036854775807) (ht:TabW Tryz.prog w) :
    Calls Tryz.prog 55 #[.int .i64 n] w fun e w'=>e=.returned (.string (zf n))∧Below w.heap.size w w':=by
 have HT:=yD (Tryz.strconv_Itoa n hn.1 hn.2 w ht)
 clear ht
 go_enter Tryz.func55,Tryz.ntmps55
 go_wp2_with fail
 refine (HT.out).mono ?_
 rintro e w1 ⟨rfl,k,os,hw⟩
 have HB:Below w.heap.size w w1:=hw ▸ grow_below w k os
 clear hw
 go_wp2
 go_ret
 exact ⟨rfl,HB⟩
end Go.Proofs.YthpgoddjglnoiaaGreatDoor
