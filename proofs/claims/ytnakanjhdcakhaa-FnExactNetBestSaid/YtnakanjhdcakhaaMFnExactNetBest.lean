/- The plain statement of FnExactNetBest: program and reference tell the same place, and the argument's copy stays as it was. -/
import Derived.Test.YtnakanjhdcakhaaQF10
import Derived.Test.YtnakanjhdcakhaaM2
namespace Go.Proofs.Ytnakanjhdcakhaa.Pure
open Q
theorem FnExactNetBest (l : List S24) (hl : l.length ≤ maxLen) (x : Int) (_hx : (Lit.int .i64 x).wf = true) : ∃ k, laws_FnExactNetBest.f k l x = some true := by
  unfold maxLen at hl
  by_cases h : l.length ≤ 1048576
  · obtain ⟨r, _, h1, h2⟩ := best_both (toS l) x (by rw [toS_length]; omega)
    rw [toS_length] at h1 h2
    refine ⟨l.length + 21, ?_⟩
    unfold laws_FnExactNetBest.f
    rw [left_s hl, if_pos h, toS_s h (by omega), Option.bind_some, if_neg (by omega)]
    simp only [Option.bind_some, h1 _ (show l.length + 20 < l.length + 21 by omega), h2 _ (show l.length < l.length + 21 by omega), if_true]
    rw [same_s _ _ (by rw [toS_length]; omega) (by rw [toS_length]; omega)]
    simp
  · refine ⟨0, ?_⟩
    unfold laws_FnExactNetBest.f
    rw [left_s hl, if_neg h, Option.bind_some, if_pos (by omega)]
end Go.Proofs.Ytnakanjhdcakhaa.Pure
