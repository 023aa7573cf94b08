/- The plain statement of FnExactNetHas: program and reference say the same of every prefix and number. -/
import Derived.Test.YtnakanjhdcakhaaQF6
import Derived.Test.YtnakanjhdcakhaaM1
namespace Go.Proofs.Ytnakanjhdcakhaa.Pure
open Q
theorem FnExactNetHas (a n x : Int) (_hx : (Lit.int .i64 x).wf = true) : ∃ k, laws_FnExactNetHas.f k a n x = some true := by
  refine ⟨20, ?_⟩
  unfold laws_FnExactNetHas.f laws_toNetPrefix.f
  simp only [Option.bind_some, nethas_s (Nat.le_refl 20), nethas_i, bne_self_eq_false]
  rfl
end Go.Proofs.Ytnakanjhdcakhaa.Pure
