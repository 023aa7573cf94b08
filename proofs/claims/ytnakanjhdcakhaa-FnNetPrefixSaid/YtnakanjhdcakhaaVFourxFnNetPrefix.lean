/- Words of the kit's print, those that FnNetPrefix uses: laid by print.sh for this seat, taken over by a program. No statement of its own. -/
import Derived.Test.YtnakanjhdcakhaaVTabxFnNetPrefix
namespace Go.Proofs.YtnakanjhdcakhaaW.PrintLast
end Go.Proofs.YtnakanjhdcakhaaW.PrintLast
