/- Words of the kit's print, those that FnNetPrefix uses: laid by print.sh for this seat, taken over by a program. No statement of its own. -/
import Derived.Test.YtnakanjhdcakhaaVInvxFnNetPrefix
import Derived.Test.YtnakanjhdcakhaaVFootNexFnNetPrefix
namespace Go.Proofs.YtnakanjhdcakhaaW.PrintWords
open Go.RowKit
end Go.Proofs.YtnakanjhdcakhaaW.PrintWords
namespace Go.Proofs.YtnakanjhdcakhaaW.PrintLast
end Go.Proofs.YtnakanjhdcakhaaW.PrintLast
