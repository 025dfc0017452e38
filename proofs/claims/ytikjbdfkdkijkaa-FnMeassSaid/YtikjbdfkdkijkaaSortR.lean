/-
  The stable sort: the merge in place.
-/
import Derived.Test.YtikjbdfkdkijkaaSortP
import Derived.IntWalk
import Derived.Deep.CutRange
import Derived.WalkSpells
import Derived.WalkLawsBesides
namespace Go.Proofs.Ytikjbdfkdkijkaa
open Go.RowKit
set_option linter.unusedVariables false
set_option linter.unusedSimpArgs false
set_option linter.unnecessarySimpa false
end Go.Proofs.Ytikjbdfkdkijkaa
