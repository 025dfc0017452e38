/-
  Numbers, written in decimal.
  The condition on the world while a draw's last region runs: the cursor may have moved, the result's cells may be filled.
-/
import Derived.Lib.ItoaNum
import Derived.Laws.IdiomStrings
import Derived.Laws.Concat
import Derived.Test.YtpgnbablhdknnaaDrawB
set_option linter.unusedVariables false
set_option linter.unusedSimpArgs false
set_option linter.unnecessarySimpa false
set_option maxRecDepth 100000
set_option maxHeartbeats 4000000
namespace Go.Proofs.Ytpgnbablhdknnaa
open Go.RowKit
def kAr (u:Nat):List UInt8:=if h:u=0 then [] else kAr (u / 10)++[UInt8.ofNat (48 + u % 10)]
termination_by u
decreasing_by omega
theorem kHo:kAr 0=[]:=by rw [kAr,dif_pos rfl]
theorem kJi {u:Nat} (h:0 < u):kAr u=kAr (u / 10)++[UInt8.ofNat (48 + u % 10)]:=by rw [kAr,dif_neg gV]
theorem digs_dec (u:Nat) (h:0 < u):kAr u=Lib.decDigits u:=by
 induction u using Nat.strongRecOn with
 | _ u ih =>
   rw [kJi h,Lib.decDigits]
   by_cases q:u < 10
   · rw [dif_pos q,show u / 10=0 by omega,kHo,show u % 10=u by omega];rfl
   · rw [dif_neg q,ih (u / 10) gV gV]
theorem kCq:∀ (k:Nat) {u:Nat},u < 10 ^ k→(kAr u).length≤k
  | 0,u,h=>by
    obtain rfl:u=0:=gL
    rw [kHo];simp
  | k + 1,u,h=>by
    by_cases q:u=0
    · subst q;rw [kHo];simp
    · rw [kJi gV,List.length_append]
      have:=kCq k (u:=u / 10) (Nat.div_lt_of_lt_mul (by rw [Nat.mul_comm];rwa [Nat.pow_succ] at h))
      simp;omega
def kEq (n:Int):ByteArray:=⟨(Lib.itoa n).toArray⟩
theorem kFi {n:Nat} (h:0 < n):kEq (n:Int)=⟨(kAr n).toArray⟩:=by
 unfold kEq Lib.itoa
 rw [if_neg gV,digs_dec n h,show (n:Int).toNat=n by omega]
theorem kFj {n:Nat} (h:0 < n):kEq (-(n:Int))=⟨#[45]⟩++⟨(kAr n).toArray⟩:=by
 unfold kEq Lib.itoa
 rw [if_pos gV,digs_dec n h,show (-(n:Int)).natAbs=n by omega]
 apply ByteArray.ext
 simp
theorem itoaB_0:kEq 0=⟨#[48]⟩:=by
 unfold kEq Lib.itoa
 rw [if_neg gV,show (0:Int).toNat=0 from rfl,Lib.decDigits,dif_pos gV]
 rfl
theorem ba_size (l:List UInt8):(⟨l.toArray⟩:ByteArray).size=l.length:=by simp [ByteArray.size]
theorem itoaB_size {n:Int} (h:-9223372036854775808≤n∧n≤9223372036854775807):(kEq n).size≤20:=by
 rcases Int.lt_trichotomy n 0 with q | q | q
 · obtain ⟨m,rfl⟩:∃ m:Nat,n=-(m:Int):=⟨n.natAbs,by omega⟩
   have h1:=kCq 19 (u:=m) gV
   have h2:=ba_size (kAr m)
   have h3:(⟨#[45]⟩:ByteArray).size=1:=rfl
   rw [kFj gV,ByteArray.size_append]
   omega
 · subst q;rw [itoaB_0];decide
 obtain ⟨m,rfl⟩:∃ m:Nat,n=m:=⟨n.toNat,by omega⟩
 have h1:=kCq 19 (u:=m) gV
 rw [kFi gV,ba_size];omega
theorem dig_int {u:Nat}:(48:Int) + (u:Int) % 10=((UInt8.ofNat (48 + u % 10)).toNat:Int):=by
 rw [UInt8.toNat_ofNat']
 omega
theorem kEm {P:Program} {w:World} {src dst e:TypeId} {x:UInt8} {z:Int} (hz:z=(x.toNat:Int)) (hs:P.underlying src=some (.slice e)) (he:P.underlying e=some (.int .u8)) (hd:P.underlying dst=some .string) :
    (convert src dst (.slice (some ⟨w.heap.size,0,none⟩) 1 1)).run P (w.alloc (.cells #[.int .u8 z] e))=.ok (.string ⟨#[x]⟩) (w.alloc (.cells #[.int .u8 z] e)):=by
 have h:=run_convert_bytes_back (P:=P) (w.alloc (.cells #[.int .u8 z] e)) src dst e ⟨w.heap.size,0,none⟩ 1 [x] hs he hd (by
   intro j hj
   obtain rfl:j=0:=gD
   subst hz
   simp [go_sem])
 simpa using h
theorem kGe {w:World} {n:Int} (hn:-9223372036854775808≤n∧n≤9223372036854775807) :
    Calls Try.prog 73 #[.int .i64 n] w fun e w'=>e=.returned (.string (kEq n))∧Below w.heap.size w w':=by
 go_enter Try.func73,Try.ntmps73
 rcases Int.lt_trichotomy n 0 with q | q | q
 · obtain ⟨N,rfl⟩:∃ m:Nat,n=-(m:Int):=⟨n.natAbs,by omega⟩
   have hN:0 < N:=gV
   go_wp2
   go_loopw [3,4] (fun sv xv wr=>∃ (u:Nat) (s:ByteArray),u≤N∧xv=.int .i64 (-(u:Int))∧sv=.string s∧s.size≤20∧Hid (kAr u++s.data.toList=kAr N)∧Below w.heap.size w wr) (fun _ xv _=>(intOf xv).natAbs)
   case atStart=>exact ⟨N,ByteArray.empty,Nat.le_refl _,rfl,rfl,by decide,yD gW,bR⟩
   obtain ⟨u,s,hu,rfl,rfl,hs,HP,hbel⟩:=hrel
   by_cases hz:u=0
   · subst hz
     have HS:=yD (show s=⟨(kAr N).toArray⟩ by
       have h:=HP.out
       rw [kHo,List.nil_append] at h
       apply ByteArray.ext
       rw [← h])
     go_wp2
     go_ret
     exact ⟨(by (first | rw [kFi hN] | rw [kFj hN]);first | rfl|(rw [HS.out];rfl)),hbel⟩
   have hpos:0 < u:=gV
   have HDG:=yD (kJi hpos)
   have hne:(((-(u:Int)):Int) != 0)=true:=gQ
   have hsz:s.size + 1≤20:=by
    have h1:=congrArg List.length HP.out
    have h2:=kCq 19 (u:=N) gV
    rw [HDG.out] at h1
    simp only [List.length_append,List.length_cons,List.length_nil] at h1
    have h3:s.data.toList.length=s.size:=gW
    omega
   have hb:=dig_int (u:=u)
   have hcv:=kEm (P:=Try.prog) (w:=wr) (src:=22) (dst:=9) hb Try.underlying22 Try.underlying5 Try.underlying9
   clear hb
   have hcv0:=fun (q:u % 10=0)=>kEm (P:=Try.prog) (w:=wr) (src:=22) (dst:=9) (z:=48) (x:=UInt8.ofNat (48 + u % 10)) (by rw [q];rfl) Try.underlying22 Try.underlying5 Try.underlying9
   have hc1:(⟨#[UInt8.ofNat (48 + u % 10)]⟩:ByteArray).size=1:=rfl
   have HX:=yD (show kAr (u / 10)++((⟨#[UInt8.ofNat (48 + u % 10)]⟩:ByteArray)++s).data.toList=kAr N by
     rw [← HP.out,HDG.out];simp)
   generalize (⟨#[UInt8.ofNat (48 + u % 10)]⟩:ByteArray)=ch at hcv hcv0 hc1 HX
   by_cases hm:u % 10=0
   · have hmi:(u:Int) % 10=0:=gV
     have hcz:=hcv0 hm
     clear hcv0 hcv
     go_wp2_with fail
     go_roundw
     case rel=>exact ⟨u / 10,_,by omega,by go_num,rfl,cB,HX,(hbel.alloc hbel.size _)⟩
     simp [intOf];omega
   have hmi:(0:Int) < (u:Int) % 10:=gV
   clear hcv0
   go_wp2_with fail
   go_roundw
   case rel=>exact ⟨u / 10,_,by omega,by go_num,rfl,cB,HX,(hbel.alloc hbel.size _)⟩
   simp [intOf];omega
 · subst q
   go_wp2
   go_ret
   exact ⟨by rw [itoaB_0];rfl,bR⟩
 obtain ⟨N,rfl⟩:∃ m:Nat,n=m:=⟨n.toNat,by omega⟩
 have hN:0 < N:=gV
 go_wp2
 go_loopw [3,4] (fun sv xv wr=>∃ (u:Nat) (s:ByteArray),u≤N∧xv=.int .i64 (u:Int)∧sv=.string s∧s.size≤20∧Hid (kAr u++s.data.toList=kAr N)∧Below w.heap.size w wr) (fun _ xv _=>(intOf xv).natAbs)
 case atStart=>exact ⟨N,ByteArray.empty,Nat.le_refl _,rfl,rfl,by decide,yD gW,bR⟩
 obtain ⟨u,s,hu,rfl,rfl,hs,HP,hbel⟩:=hrel
 by_cases hz:u=0
 · subst hz
   have HS:=yD (show s=⟨(kAr N).toArray⟩ by
     have h:=HP.out
     rw [kHo,List.nil_append] at h
     apply ByteArray.ext
     rw [← h])
   go_wp2
   go_ret
   exact ⟨(by (first | rw [kFi hN] | rw [kFj hN]);first | rfl|(rw [HS.out];rfl)),hbel⟩
 have hpos:0 < u:=gV
 have HDG:=yD (kJi hpos)
 have hne:(((u:Int):Int) != 0)=true:=gQ
 have hsz:s.size + 1≤20:=by
  have h1:=congrArg List.length HP.out
  have h2:=kCq 19 (u:=N) gV
  rw [HDG.out] at h1
  simp only [List.length_append,List.length_cons,List.length_nil] at h1
  have h3:s.data.toList.length=s.size:=gW
  omega
 have hb:=dig_int (u:=u)
 have hcv:=kEm (P:=Try.prog) (w:=wr) (src:=22) (dst:=9) hb Try.underlying22 Try.underlying5 Try.underlying9
 clear hb
 have hcv0:=fun (q:u % 10=0)=>kEm (P:=Try.prog) (w:=wr) (src:=22) (dst:=9) (z:=48) (x:=UInt8.ofNat (48 + u % 10)) (by rw [q];rfl) Try.underlying22 Try.underlying5 Try.underlying9
 have hc1:(⟨#[UInt8.ofNat (48 + u % 10)]⟩:ByteArray).size=1:=rfl
 have HX:=yD (show kAr (u / 10)++((⟨#[UInt8.ofNat (48 + u % 10)]⟩:ByteArray)++s).data.toList=kAr N by
   rw [← HP.out,HDG.out];simp)
 generalize (⟨#[UInt8.ofNat (48 + u % 10)]⟩:ByteArray)=ch at hcv hcv0 hc1 HX
 go_wp2_with fail
 go_roundw
 case rel=>exact ⟨u / 10,_,by omega,by go_num,rfl,cB,HX,(hbel.alloc hbel.size _)⟩
 simp [intOf];omega
structure SR (cw w:World) (p R:Nat) (t:TypeId) (n:Nat) (W:World):Prop where
  touch:Touch (fun k=>k=p∨k=R) w W
  cur:Cur cw W p
  row:∃ l:List Value,l.length=n∧W.heap[R]?=some (.cells l.toArray t (0,0))
section
variable {cw w W W':World} {p R n:Nat} {t:TypeId}
theorem SR.start {cs:Array Value} (hc:Cur cw w p) (hr:w.heap[R]?=some (.cells cs t (0,0))) (hn:cs.toList.length=n):SR cw w p R t n { w with drawn:=w.drawn + 1 } :=
  ⟨Touch.of_below bR.drew,hc.below bR.drew,cs.toList,hn,by simpa using hr⟩
theorem SR.go (h:SR cw w p R t n W) (ht:Touch (fun k=>k=p) W W') (hc:Cur cw W' p) (hne:¬ R=p):SR cw w p R t n W':=by
 obtain ⟨l,hl,hr⟩:=h.row
 exact ⟨h.touch.trans (ht.wide (fun k q=>.inl q)),hc,l,hl,ht.kI hr hne⟩
theorem SR.below (h:SR cw w p R t n W) (b:Below W.heap.size W W'):SR cw w p R t n W':=by
 obtain ⟨l,hl,hr⟩:=h.row
 exact ⟨h.touch.trans (Touch.of_below b),h.cur.below b,l,hl,kI hr b⟩
theorem SR.set (h:SR cw w p R t n W) (hne:¬ R=p) (h0:cw.heap.size≤R) (j:Nat) (v:Value):SR cw w p R t n (W.setCell ⟨R,j,none⟩ v):=by
 obtain ⟨l,hl,hr⟩:=h.row
 refine ⟨h.touch.trans ((kC W R j v).wide (fun k q=>.inr q)),h.cur.touch (kC W R j v) (fun q=>hne q.symm) (fun k q=>q ▸ h0),(l.toArray.setIfInBounds j v).toList,by simpa using hl,?_⟩
 have:=jJ (v:=v) hr j
 simpa using this
end
theorem list4 {α:Type} {l:List α} (h:l.length=4):∃ a b c d,l=[a,b,c,d]:=by match l,h with | [a,b,c,d],_=>exact ⟨a,b,c,d,rfl⟩
end Go.Proofs.Ytpgnbablhdknnaa
