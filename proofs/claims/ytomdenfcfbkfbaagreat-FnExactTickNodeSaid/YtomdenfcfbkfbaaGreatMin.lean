/-
  The lesser and the greater of two numbers.
-/
import Derived.Test.YtomdenfcfbkfbaaGreatBase
import Derived.Test.YtomdenfcfbkfbaaGreatTake
import Derived.IntWalk
namespace Go.Proofs.YtomdenfcfbkfbaaGreat
open Go.RowKit
set_option linter.unusedVariables false
set_option linter.unusedSimpArgs false
set_option linter.unnecessarySimpa false
theorem specMin_c {w:World} {a b:Int}:Calls Tryz.prog 116 #[.int .i64 a,.int .i64 b] w fun e w'=>e=.returned (.int .i64 (min a b))∧w'=w:=by
 go_enter Tryz.func116,Tryz.ntmps116
 by_cases h:b < a
 · have hd:decide (b < a)=true:=by simpa using h
   have HT:=hD (show min a b=b by omega)
   go_wp2
   go_ret
   exact ⟨ret_int HT.out.symm,rfl⟩
 have hd:decide (b < a)=false:=by simpa using h
 have HT:=hD (show min a b=a by omega)
 go_wp2
 go_ret
 exact ⟨ret_int HT.out.symm,rfl⟩
theorem specMax_c {w:World} {a b:Int}:Calls Tryz.prog 224 #[.int .i64 a,.int .i64 b] w fun e w'=>e=.returned (.int .i64 (max a b))∧w'=w:=by
 go_enter Tryz.func224,Tryz.ntmps224
 by_cases h:b > a
 · have hd:decide (b > a)=true:=by simpa using h
   have HT:=hD (show max a b=b by omega)
   go_wp2
   go_ret
   exact ⟨ret_int HT.out.symm,rfl⟩
 have hd:decide (b > a)=false:=by simpa using h
 have HT:=hD (show max a b=a by omega)
 go_wp2
 go_ret
 exact ⟨ret_int HT.out.symm,rfl⟩
end Go.Proofs.YtomdenfcfbkfbaaGreat
