/- The plain statement of FnExactNetOk: program and reference say the same of every prefix. -/
import Derived.Test.YtnakanjhdcakhaaQF4
import Derived.Test.YtnakanjhdcakhaaM1
namespace Go.Proofs.Ytnakanjhdcakhaa.Pure
open Q
theorem FnExactNetOk (a n : Int) : ∃ k, laws_FnExactNetOk.f k a n = some true := by
  refine ⟨20, ?_⟩
  unfold laws_FnExactNetOk.f laws_toNetPrefix.f
  simp only [Option.bind_some, ok_s (Nat.le_refl 20), ok_i, bne_self_eq_false]
  rfl
end Go.Proofs.Ytnakanjhdcakhaa.Pure
