/- Words of the kit's print, those that FnAclSays uses: laid by print.sh for this seat, taken over by a program. No statement of its own. -/
import Derived.Test.YtnakanjhdcakhaaVWordsxFnAclSays
namespace Go.Proofs.YtnakanjhdcakhaaW.PrintWords
open Go.RowKit
section
variable {P : Program} {ops : Array Oper} {rest : List Oper} {o : Oper} {a : Act} {Q : Exit → Act → World → Prop} {W : World}
end
end Go.Proofs.YtnakanjhdcakhaaW.PrintWords
