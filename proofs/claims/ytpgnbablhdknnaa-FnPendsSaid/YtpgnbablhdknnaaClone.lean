/-
  Copies of slices whose elements have no memory of their own.
-/
import Derived.Test.YtpgnbablhdknnaaCopy
set_option linter.unusedVariables false
set_option linter.unusedSimpArgs false
set_option linter.unnecessarySimpa false
set_option maxRecDepth 100000
set_option maxHeartbeats 4000000
namespace Go.Proofs.Ytpgnbablhdknnaa
open Go.RowKit
theorem yB:kF.zY:=Rep.kFy (Rep.kDx) (Rep.kFy (Rep.kDx) (Rep.kDx))
theorem kEx {w:World} {va:Value} {x:List kH} (ha:(Rep.slice 56 kF).rd w [va] x):Calls Try.prog 76 #[va] w (zT (Rep.slice 56 kF) x w):=by
 obtain ⟨aa,capa,rfl,la⟩:=Rep.sl ha.1
 have HA:=yD ha
 have hnil:=fun (W:World) (a:Option Addr) (n c:Nat)=>Lib.run_eql_slice_nil (P:=Try.prog) W 36 56 a n c 0 0 Try.underlying36
 cases aa with
 | none =>
   have hx:x=[]:=by
     cases x with
     | nil=>rfl
     | cons y ys =>
       obtain ⟨b,off,h,_⟩:=Rep.kCx ha.1 (i:=0) gW
       cases h
   subst hx
   clear ha
   go_enter Try.func76,Try.ntmps76
   go_wp2
   go_ret
   exact ⟨_,rfl,Rep.jd,bR⟩
 | some a =>
   have hb:x.length≤16777216:=ha.2.1
   clear ha
   go_enter Try.func76,Try.ntmps76
   have O0:Rep.kT 56 kF (w.alloc (.cells #[] 56)) (.slice (some ⟨w.heap.size,0,none⟩) 0 0) [] (fun k=>k=w.heap.size):=Rep.jf (cs:=[]) (xs:=[]) (T:=fun _=>False) gW gW rfl (fun _ h=>h.elim) rfl
   go_wp2_with (at_builtin;refine Rep.jv rfl _ _ 36 rfl (r:=kF) (e:=56) Try.underlying36 jC rfl gU gU yB (B:=w.heap.size) O0 gX gX (HA.out.alloc _) dG gW gQ ?_)
   intro v2 w2 hown hbel hz
   have HO:=yD hown
   obtain ⟨a2,c2,hv⟩:=hown.zO
   obtain rfl:=hv
   have EG:Below w.heap.size w w2:=Below.trans bB hbel
   clear hown O0 hbel
   go_wp2
   go_ret
   exact ⟨_,rfl,by simpa using HO.out.own (by simpa [Big] using hb),EG⟩
end Go.Proofs.Ytpgnbablhdknnaa
