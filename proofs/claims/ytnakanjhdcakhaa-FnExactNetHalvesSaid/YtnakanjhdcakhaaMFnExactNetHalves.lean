/- The plain statement of FnExactNetHalves: program and reference give the same halves of every prefix. -/
import Derived.Test.YtnakanjhdcakhaaQF8
import Derived.Test.YtnakanjhdcakhaaM1
namespace Go.Proofs.Ytnakanjhdcakhaa.Pure
open Q
theorem FnExactNetHalves (a n : Int) : ∃ k, laws_FnExactNetHalves.f k a n = some true := by
  refine ⟨20, ?_⟩
  unfold laws_FnExactNetHalves.f laws_toNetPrefix.f
  simp only [Option.bind_some, halves_s (Nat.le_refl 20), halves_i, bne_self_eq_false, laws_eqNetPrefix.f, if_true]
  rfl
end Go.Proofs.Ytnakanjhdcakhaa.Pure
