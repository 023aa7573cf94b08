/- Words of the kit's print, those that FnNetTop uses: laid by print.sh for this seat, taken over by a program. No statement of its own. -/
import Derived.Test.YtnakanjhdcakhaaVInvxFnNetTop
import Derived.Test.YtnakanjhdcakhaaVFootNexFnNetTop
namespace Go.Proofs.YtnakanjhdcakhaaW.PrintWords
open Go.RowKit
end Go.Proofs.YtnakanjhdcakhaaW.PrintWords
namespace Go.Proofs.YtnakanjhdcakhaaW.PrintLast
end Go.Proofs.YtnakanjhdcakhaaW.PrintLast
