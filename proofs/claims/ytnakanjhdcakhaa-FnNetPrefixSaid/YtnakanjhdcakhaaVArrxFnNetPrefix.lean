/- Words of the kit's print, those that FnNetPrefix uses: laid by print.sh for this seat, taken over by a program. No statement of its own. -/
import Derived.Test.YtnakanjhdcakhaaVWordsxFnNetPrefix
namespace Go.Proofs.YtnakanjhdcakhaaW.PrintWords
open Go.RowKit
namespace Kd
end Kd
end Go.Proofs.YtnakanjhdcakhaaW.PrintWords
