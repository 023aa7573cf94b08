/- Words of the kit's print, those that FnNetBest uses: laid by print.sh for this seat, taken over by a program. No statement of its own. -/
import Derived.Test.YtnakanjhdcakhaaVTabxFnNetBest
namespace Go.Proofs.YtnakanjhdcakhaaW.PrintLast
/-- Number i is listed too. -/
def up (b : Nat → Bool) (i : Nat) : Nat → Bool := fun j => if j = i then true else b j
section
variable {P : Program} {ops : Array Oper} {Q : Exit → Act → World → Prop} {md : Region.Mode} {T : Bool × List (List Nat × List Nat)} {B : List Nat} {O : List Nat} {b : Nat → Bool} {i j n : Nat}
end
end Go.Proofs.YtnakanjhdcakhaaW.PrintLast
