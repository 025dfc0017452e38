/-
  The element types of slices: zero, size, bytes. Printed by geninfo.py.
-/
import Derived.Test.YtaaobbbkfhggaaaProg
import Derived.Test.YtaaobbbkfhggaaaTypes
import Derived.Test.YtaaobbbkfhggaaaPush
namespace Go.Proofs.Ytaaobbbkfhggaaa
theorem infInt : (Try.prog.info? 3).map (fun i => (i.zero, i.size, i.bytes)) = some (some (.int .i64 0), 1, 8) := by kernel_rfl
theorem infString : (Try.prog.info? 9).map (fun i => (i.zero, i.size, i.bytes)) = some (some (.string ByteArray.empty), 1, 16) := by kernel_rfl
theorem infLink : (Try.prog.info? 55).map (fun i => (i.zero, i.size, i.bytes)) = some (some (.agg #[.int .i64 0, .int .i64 0]), 2, 16) := by kernel_rfl
theorem infMeasurement : (Try.prog.info? 72).map (fun i => (i.zero, i.size, i.bytes)) = some (some (.agg #[.slice none 0 0, .int .i64 0, .int .i64 0]), 3, 40) := by kernel_rfl
end Go.Proofs.Ytaaobbbkfhggaaa
