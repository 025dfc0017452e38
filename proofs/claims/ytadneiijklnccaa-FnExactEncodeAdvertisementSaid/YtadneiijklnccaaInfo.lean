/-
  The element types of slices: zero, size, bytes. Printed by geninfo.py.
-/
import Derived.Test.YtadneiijklnccaaProg
import Derived.Test.YtadneiijklnccaaTypes
import Derived.Test.YtadneiijklnccaaPush
namespace Go.Proofs.Ytadneiijklnccaa
theorem infInt : (Try.prog.info? 3).map (fun i => (i.zero, i.size, i.bytes)) = some (some (.int .i64 0), 1, 8) := by kernel_rfl
theorem infByte : (Try.prog.info? 5).map (fun i => (i.zero, i.size, i.bytes)) = some (some (.int .u8 0), 1, 1) := by kernel_rfl
end Go.Proofs.Ytadneiijklnccaa
