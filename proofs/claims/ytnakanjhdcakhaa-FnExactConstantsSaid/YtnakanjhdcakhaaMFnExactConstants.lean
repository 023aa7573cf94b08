/- The plain statement of FnExactConstants. -/
import Derived.Test.YtnakanjhdcakhaaQF3
namespace Go.Proofs.Ytnakanjhdcakhaa.Pure
open Q
theorem FnExactConstants : laws_FnExactConstants.f = some true := rfl
end Go.Proofs.Ytnakanjhdcakhaa.Pure
