/- Words of the kit's print, those that FnNetTop uses: laid by print.sh for this seat, taken over by a program. No statement of its own. -/
import Derived.Test.YtnakanjhdcakhaaVNxFnNetTop
namespace Go.Proofs.YtnakanjhdcakhaaW.PrintWords
open Go.RowKit
namespace Kd
section
variable {α : Type} {d : Kd α} {e base n cap g : Nat} {ok ok' okp : Nat → Prop} {w w1 W : World} {v v1 : Value} {xs ys : List α}
end
section
variable {P : Program} {ops : Array Oper} {rest : List Oper} {o : Oper} {a : Act} {Q : Exit → Act → World → Prop} {Kc : Act → World → Prop} {α : Type}
end
end Kd
end Go.Proofs.YtnakanjhdcakhaaW.PrintWords
