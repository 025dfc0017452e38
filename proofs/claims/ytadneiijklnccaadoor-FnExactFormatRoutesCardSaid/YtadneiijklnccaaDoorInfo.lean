/-
  The element types of slices: zero, size, bytes. Printed by geninfo.py.
-/
import Derived.Test.YtadneiijklnccaaDoorProg
import Derived.Test.YtadneiijklnccaaDoorTypes
import Derived.Test.YtadneiijklnccaaDoorPush
namespace Go.Proofs.YtadneiijklnccaaDoor
theorem infString : (Tryd.prog.info? 9).map (fun i => (i.zero, i.size, i.bytes)) = some (some (.string ByteArray.empty), 1, 16) := by kernel_rfl
end Go.Proofs.YtadneiijklnccaaDoor
