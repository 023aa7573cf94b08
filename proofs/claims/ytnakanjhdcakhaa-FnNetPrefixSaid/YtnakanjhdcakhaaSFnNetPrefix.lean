/- The Go law FnNetPrefix answers true for every input, and each argument reads behind the call as it read before: the given statement FnNetPrefixSaid. It has no condition. The walk of the Go code was written by a program (wip/tools); the plain statement that it needs is Pure.FnNetPrefix. -/
import Derived.Test.YtnakanjhdcakhaaRows
import Derived.WalkKit
import Derived.ProofKit
import Derived.OpenShut
import Derived.ShutString
import Derived.ChangeOld
import Derived.Below
import Derived.SizedLaws
import Derived.Test.YtnakanjhdcakhaaC1xFnNetPrefix
import Derived.Test.YtnakanjhdcakhaaC2xFnNetPrefix
import Derived.Test.YtnakanjhdcakhaaC3xFnNetPrefix
import Derived.Test.YtnakanjhdcakhaaC4xFnNetPrefix
import Derived.Test.YtnakanjhdcakhaaC5xFnNetPrefix
namespace Go.Proofs.Ytnakanjhdcakhaa.fnNetPrefix
open Go.ChangeShapes Go.WideShapes Go.ChangeAt Go.RowKit
open Go.Proofs.YtnakanjhdcakhaaW.PrintWords
set_option linter.unusedVariables false
theorem own : ownKnob Try.prog.godebug = none := by kernel_rfl
theorem laidOut : laidOutB Try.prog = true := by kernel_rfl
set_option maxRecDepth 100000 in
theorem lifted (os : Os) (started : os.Started) (H : Type) (enc : TypeId × Value → H) :
    ReturnsInHanded {} Try.checked os 12 .any (Rows.fnNetPrefixSpec.pre6 enc Try.prog Try.f12 Rows.fnNetPrefixRow.domain false) (Rows.fnNetPrefixSpec.post enc Try.prog Try.f12 false true false false) := by
  refine returnsInHanded_of_change_sized (C := Try.checked) own started (by kernel_rfl) Try.func12
    (ChangeSpec.witness6 (enc := enc) (C := Try.checked) false ⟨#[], #[.slice none 0 0, .slice none 0 0], []⟩ 8 (by kernel_rfl) (by kernel_rfl) (by kernel_rfl) (by kernel_rfl)) ?_
  intro W base args ds gs before hval0 hW hcnd hsz0 _
  have hval : ∀ (j : Nat) t v, Try.f12.params[j]? = some t → args[j]? = some v → Value.okWide Try.prog W .any base t v := hval0
  have hW' := hW
  obtain ⟨p, q, hA0, hV, rfl, hfz, hnd⟩ := hW
  have hA : DataW.TrodAll enc Try.prog W 0 (fun _ => true) true Try.f12.params.toList args.toList ds p := hA0
  rw [Try.params12] at hA hval
  obtain ⟨v0, vs0, d0, ds0, p0, q0, hargs, rfl, rfl, h0, r0⟩ := trodAll_cons hA
  obtain ⟨v1, vs1, d1, ds1, p1, q1, rfl, rfl, rfl, h1, r1⟩ := trodAll_cons r0
  obtain ⟨rfl, rfl, rfl⟩ := trodAll_nil r1
  obtain rfl : args = #[v0, v1] := by cases args; simp_all
  obtain ⟨rfl, rfl⟩ := trodVars_none hV
  have k0 := h0
  have lt0 : ∀ x ∈ p0, x.block < W.heap.size := by obtain ⟨m, hm⟩ := k0; exact DataW.trod_lt m _ _ _ hm
  obtain ⟨a0, len0, cap0, rfl⟩ := okWide_slice Try.underlying29 (hval 0 29 v0 rfl rfl)
  obtain ⟨l0, rfl, hc0, hm0, hr0, hb0⟩ := open_bytes h0
  have k1 := h1
  have lt1 : ∀ x ∈ p1, x.block < W.heap.size := by obtain ⟨m, hm⟩ := k1; exact DataW.trod_lt m _ _ _ hm
  obtain ⟨a1, len1, cap1, rfl⟩ := okWide_slice Try.underlying29 (hval 1 29 v1 rfl rfl)
  obtain ⟨l1, rfl, hc1, hm1, hr1, hb1⟩ := open_bytes h1
  clear hA0 hval0 hsz0
  have P := Pure.FnNetPrefix l0 (Nat.le_trans hc0 hm0) hb0 l1 (Nat.le_trans hc1 hm1) hb1
  obtain ⟨k, P⟩ := P
  refine (Q.laws_FnNetPrefix.calls k _ _ l0 _ _ l1 true W hr0 hc0 hr1 hc1 P).mono fun e W' ⟨he, hb⟩ => ?_
  have bel : Below W.heap.size W W' := hb
  subst he
  exact ⟨_, rfl, _, _, _, [], _, [], hW', trodAll_mk1 (shut_bool Try.underlying4 _), (trodAll_cons_mk (Below.trod laidOut (by kernel_rfl) (of_decide_eq_true (by kernel_rfl)) k0 bel lt0) (trodAll_cons_mk (Below.trod laidOut (by kernel_rfl) (of_decide_eq_true (by kernel_rfl)) k1 bel lt1) trodAll_mk0)), rfl, bel.frame _, fun h => by cases h⟩
theorem closed : joinedFacts Try.prog 12 Try.f12 Rows.fnNetPrefixSpec Rows.fnNetPrefixRow = true := by
  unfold joinedFacts
  refine and_of (and_of (and_of (and_of (and_of (and_of (and_of ?a may_enter) (beq_of lifts_no.symm)) (beq_make make_cut (by kernel_rfl))) ?k) ?p) ?v) ?f
  all_goals (as_aux_lemma => kernel_rfl)
theorem over : Rows.fnNetPrefixRow.holds Try.pinned (OpenSpec.ofChange Rows.fnNetPrefixSpec) :=
  OpenClaim.holds_of_wide 12 Try.f12 rfl rfl rfl rfl rfl rfl rfl ⟨rfl, rfl, rfl, rfl, rfl⟩ rfl rfl rfl rfl rfl (by kernel_rfl) Try.func12 closed
    (of_decide_eq_true (by kernel_rfl)) (by unfold Func.isWrapper; first | (rw [if_pos (by decide +kernel)]; kernel_rfl) | (rw [if_neg (by decide +kernel)]; exact ⟨rfl, rfl⟩))
    (fun os started H enc _ => lifted os started H enc)
end Go.Proofs.Ytnakanjhdcakhaa.fnNetPrefix
namespace Go.Proofs.Ytnakanjhdcakhaa
/-- FnNetPrefix holds. -/
theorem fnNetPrefix_holds : Rows.FnNetPrefixSaid := fnNetPrefix.over
#print axioms fnNetPrefix_holds
end Go.Proofs.Ytnakanjhdcakhaa
