/- The Go law FnNetTop answers true for every input, and each argument reads behind the call as it read before: the given statement FnNetTopSaid. It has no condition. The walk of the Go code was written by a program (wip/tools); the plain statement that it needs is Pure.FnNetTop. -/
import Derived.Test.YtnakanjhdcakhaaRows
import Derived.WalkKit
import Derived.ProofKit
import Derived.OpenShut
import Derived.ShutString
import Derived.ChangeOld
import Derived.Below
import Derived.SizedLaws
import Derived.Test.YtnakanjhdcakhaaC1xFnNetTop
import Derived.Test.YtnakanjhdcakhaaC2xFnNetTop
import Derived.Test.YtnakanjhdcakhaaC3xFnNetTop
import Derived.Test.YtnakanjhdcakhaaC4xFnNetTop
import Derived.Test.YtnakanjhdcakhaaC5xFnNetTop
namespace Go.Proofs.Ytnakanjhdcakhaa.fnNetTop
open Go.ChangeShapes Go.WideShapes Go.ChangeAt Go.RowKit
open Go.Proofs.YtnakanjhdcakhaaW.PrintWords
set_option linter.unusedVariables false
theorem own : ownKnob Try.prog.godebug = none := by kernel_rfl
theorem laidOut : laidOutB Try.prog = true := by kernel_rfl
set_option maxRecDepth 100000 in
theorem lifted (os : Os) (started : os.Started) (H : Type) (enc : TypeId × Value → H) :
    ReturnsInHanded {} Try.checked os 19 .any (Rows.fnNetTopSpec.pre6 enc Try.prog Try.f19 Rows.fnNetTopRow.domain false) (Rows.fnNetTopSpec.post enc Try.prog Try.f19 false true false false) := by
  refine returnsInHanded_of_change_sized (C := Try.checked) own started (by kernel_rfl) Try.func19
    (ChangeSpec.witness6 (enc := enc) (C := Try.checked) false ⟨#[], #[.slice none 0 0], []⟩ 8 (by kernel_rfl) (by kernel_rfl) (by kernel_rfl) (by kernel_rfl)) ?_
  intro W base args ds gs before hval0 hW hcnd hsz0 _
  have hval : ∀ (j : Nat) t v, Try.f19.params[j]? = some t → args[j]? = some v → Value.okWide Try.prog W .any base t v := hval0
  have hW' := hW
  obtain ⟨p, q, hA0, hV, rfl, hfz, hnd⟩ := hW
  have hA : DataW.TrodAll enc Try.prog W 0 (fun _ => true) true Try.f19.params.toList args.toList ds p := hA0
  rw [Try.params19] at hA hval
  obtain ⟨v0, vs0, d0, ds0, p0, q0, hargs, rfl, rfl, h0, r0⟩ := trodAll_cons hA
  obtain ⟨rfl, rfl, rfl⟩ := trodAll_nil r0
  obtain rfl : args = #[v0] := by cases args; simp_all
  obtain ⟨rfl, rfl⟩ := trodVars_none hV
  have k0 := h0
  have lt0 : ∀ x ∈ p0, x.block < W.heap.size := by obtain ⟨m, hm⟩ := k0; exact DataW.trod_lt m _ _ _ hm
  obtain ⟨a0, len0, cap0, rfl⟩ := okWide_slice Try.underlying29 (hval 0 29 v0 rfl rfl)
  obtain ⟨l0, rfl, hc0, hm0, hr0, hb0⟩ := open_bytes h0
  clear hA0 hval0 hsz0
  have P := Pure.FnNetTop l0 (Nat.le_trans hc0 hm0) hb0
  obtain ⟨k, P⟩ := P
  refine (Q.laws_FnNetTop.calls k _ _ l0 true W hr0 hc0 P).mono fun e W' ⟨he, hb⟩ => ?_
  have bel : Below W.heap.size W W' := hb
  subst he
  exact ⟨_, rfl, _, _, _, [], _, [], hW', trodAll_mk1 (shut_bool Try.underlying4 _), (trodAll_cons_mk (Below.trod laidOut (by kernel_rfl) (of_decide_eq_true (by kernel_rfl)) k0 bel lt0) trodAll_mk0), rfl, bel.frame _, fun h => by cases h⟩
theorem closed : joinedFacts Try.prog 19 Try.f19 Rows.fnNetTopSpec Rows.fnNetTopRow = true := by
  unfold joinedFacts
  refine and_of (and_of (and_of (and_of (and_of (and_of (and_of ?a may_enter) (beq_of lifts_no.symm)) (beq_make make_cut (by kernel_rfl))) ?k) ?p) ?v) ?f
  all_goals (as_aux_lemma => kernel_rfl)
theorem over : Rows.fnNetTopRow.holds Try.pinned (OpenSpec.ofChange Rows.fnNetTopSpec) :=
  OpenClaim.holds_of_wide 19 Try.f19 rfl rfl rfl rfl rfl rfl rfl ⟨rfl, rfl, rfl, rfl, rfl⟩ rfl rfl rfl rfl rfl (by kernel_rfl) Try.func19 closed
    (of_decide_eq_true (by kernel_rfl)) (by unfold Func.isWrapper; first | (rw [if_pos (by decide +kernel)]; kernel_rfl) | (rw [if_neg (by decide +kernel)]; exact ⟨rfl, rfl⟩))
    (fun os started H enc _ => lifted os started H enc)
end Go.Proofs.Ytnakanjhdcakhaa.fnNetTop
namespace Go.Proofs.Ytnakanjhdcakhaa
/-- FnNetTop holds. -/
theorem fnNetTop_holds : Rows.FnNetTopSaid := fnNetTop.over
#print axioms fnNetTop_holds
end Go.Proofs.Ytnakanjhdcakhaa
