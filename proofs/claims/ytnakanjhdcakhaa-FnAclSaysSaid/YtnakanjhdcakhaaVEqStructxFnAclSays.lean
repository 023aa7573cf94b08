/- Words of the kit's print, those that FnAclSays uses: laid by print.sh for this seat, taken over by a program. No statement of its own. -/
import Derived.Test.YtnakanjhdcakhaaVWordsxFnAclSays
import Derived.Laws.StructEq
namespace Go.Proofs.YtnakanjhdcakhaaW.PrintWords
open Go.RowKit
section
variable {P : Program} {d : Nat} {xs ys : Array Value} {f : Field} {fs : List Field} {a b : Value} {r s : Bool} {w : World}
end
end Go.Proofs.YtnakanjhdcakhaaW.PrintWords
