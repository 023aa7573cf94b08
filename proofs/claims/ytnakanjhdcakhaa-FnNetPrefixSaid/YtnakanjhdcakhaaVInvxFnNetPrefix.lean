/- Words of the kit's print, those that FnNetPrefix uses: laid by print.sh for this seat, taken over by a program. No statement of its own. -/
import Derived.Test.YtnakanjhdcakhaaVTabxFnNetPrefix
namespace Go.Proofs.YtnakanjhdcakhaaW.PrintLast
/-- Number i is listed too. -/
def up (b : Nat → Bool) (i : Nat) : Nat → Bool := fun j => if j = i then true else b j
end Go.Proofs.YtnakanjhdcakhaaW.PrintLast
