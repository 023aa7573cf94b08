/- The Go law FnExactNetOk answers true for every input, and each argument reads behind the call as it read before: the given statement FnExactNetOkSaid. It has no condition. The walk of the Go code was written by a program (wip/tools); the plain statement that it needs is Pure.FnExactNetOk. -/
import Derived.Test.YtnakanjhdcakhaaRows
import Derived.Test.YtnakanjhdcakhaaHead
import Derived.Test.YtnakanjhdcakhaaOpen
import Derived.Test.YtnakanjhdcakhaaQF4
import Derived.Test.YtnakanjhdcakhaaMFnExactNetOk
import Derived.WalkKit
import Derived.ProofKit
import Derived.OpenShut
import Derived.ShutString
import Derived.ChangeOld
import Derived.Below
import Derived.SizedLaws
namespace Go.Proofs.Ytnakanjhdcakhaa.fnExactNetOk
open Go.ChangeShapes Go.WideShapes Go.ChangeAt Go.RowKit
open Go.Proofs.YtnakanjhdcakhaaW.PrintWords
set_option linter.unusedVariables false
theorem own : ownKnob Try.prog.godebug = none := by kernel_rfl
theorem laidOut : laidOutB Try.prog = true := by kernel_rfl
set_option maxRecDepth 100000 in
theorem lifted (os : Os) (started : os.Started) (H : Type) (enc : TypeId × Value → H) :
    ReturnsInHanded {} Try.checked os 4 .any (Rows.fnExactNetOkSpec.pre6 enc Try.prog Try.f4 Rows.fnExactNetOkRow.domain false) (Rows.fnExactNetOkSpec.post enc Try.prog Try.f4 false true false false) := by
  refine returnsInHanded_of_change_sized (C := Try.checked) own started (by kernel_rfl) Try.func4
    (ChangeSpec.witness6 (enc := enc) (C := Try.checked) false ⟨#[], #[.agg #[.int .i64 0, .int .i64 0]], []⟩ 8 (by kernel_rfl) (by kernel_rfl) (by kernel_rfl) (by kernel_rfl)) ?_
  intro W base args ds gs before hval0 hW hcnd hsz0 _
  have hval : ∀ (j : Nat) t v, Try.f4.params[j]? = some t → args[j]? = some v → Value.okWide Try.prog W .any base t v := hval0
  have hW' := hW
  obtain ⟨p, q, hA0, hV, rfl, hfz, hnd⟩ := hW
  have hA : DataW.TrodAll enc Try.prog W 0 (fun _ => true) true Try.f4.params.toList args.toList ds p := hA0
  rw [Try.params4] at hA hval
  obtain ⟨v0, vs0, d0, ds0, p0, q0, hargs, rfl, rfl, h0, r0⟩ := trodAll_cons hA
  obtain ⟨rfl, rfl, rfl⟩ := trodAll_nil r0
  obtain rfl : args = #[v0] := by cases args; simp_all
  obtain ⟨rfl, rfl⟩ := trodVars_none hV
  have k0 := h0
  have lt0 : ∀ x ∈ p0, x.block < W.heap.size := by obtain ⟨m, hm⟩ := k0; exact DataW.trod_lt m _ _ _ hm
  obtain ⟨x0, rfl⟩ := open24 (hval 0 24 v0 rfl rfl) h0
  clear hA0 hval0 hsz0
  have P := Pure.FnExactNetOk x0.f0 x0.f1
  obtain ⟨k, P⟩ := P
  refine (Q.laws_FnExactNetOk.calls k x0.f0 x0.f1 true W  P).mono fun e W' ⟨he, hb⟩ => ?_
  have bel : Below W.heap.size W W' := hb
  subst he
  exact ⟨_, rfl, _, _, _, [], _, [], hW', trodAll_mk1 (shut_bool Try.underlying4 _), (trodAll_cons_mk (Below.trod laidOut (by kernel_rfl) (of_decide_eq_true (by kernel_rfl)) k0 bel lt0) trodAll_mk0), rfl, bel.frame _, fun h => by cases h⟩
theorem closed : joinedFacts Try.prog 4 Try.f4 Rows.fnExactNetOkSpec Rows.fnExactNetOkRow = true := by
  unfold joinedFacts
  refine and_of (and_of (and_of (and_of (and_of (and_of (and_of ?a may_enter) (beq_of lifts_no.symm)) (beq_make make_cut (by kernel_rfl))) ?k) ?p) ?v) ?f
  all_goals (as_aux_lemma => kernel_rfl)
theorem over : Rows.fnExactNetOkRow.holds Try.pinned (OpenSpec.ofChange Rows.fnExactNetOkSpec) :=
  OpenClaim.holds_of_wide 4 Try.f4 rfl rfl rfl rfl rfl rfl rfl ⟨rfl, rfl, rfl, rfl, rfl⟩ rfl rfl rfl rfl rfl (by kernel_rfl) Try.func4 closed
    (of_decide_eq_true (by kernel_rfl)) (by unfold Func.isWrapper; first | (rw [if_pos (by decide +kernel)]; kernel_rfl) | (rw [if_neg (by decide +kernel)]; exact ⟨rfl, rfl⟩))
    (fun os started H enc _ => lifted os started H enc)
end Go.Proofs.Ytnakanjhdcakhaa.fnExactNetOk
namespace Go.Proofs.Ytnakanjhdcakhaa
/-- FnExactNetOk holds. -/
theorem fnExactNetOk_holds : Rows.FnExactNetOkSaid := fnExactNetOk.over
#print axioms fnExactNetOk_holds
end Go.Proofs.Ytnakanjhdcakhaa
