/- The plain statement of FnExactNetIn: program and reference say the same of every two prefixes. -/
import Derived.Test.YtnakanjhdcakhaaQF7
import Derived.Test.YtnakanjhdcakhaaM1
namespace Go.Proofs.Ytnakanjhdcakhaa.Pure
open Q
theorem FnExactNetIn (a n b m : Int) : ∃ k, laws_FnExactNetIn.f k a n b m = some true := by
  refine ⟨20, ?_⟩
  unfold laws_FnExactNetIn.f laws_toNetPrefix.f
  simp only [Option.bind_some, netin_s (Nat.le_refl 20), netin_i, bne_self_eq_false]
  rfl
end Go.Proofs.Ytnakanjhdcakhaa.Pure
