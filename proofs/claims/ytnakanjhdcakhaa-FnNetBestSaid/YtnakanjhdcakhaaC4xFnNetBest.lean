/- Lemmas for FnNetBest, part 4 of 4: the program's functions as Lean functions, what each Go function comes to, and plain lemmas on them. No statement of its own. -/
import Derived.Test.YtnakanjhdcakhaaC1xFnNetBest
import Derived.Test.YtnakanjhdcakhaaC2xFnNetBest
import Derived.Test.YtnakanjhdcakhaaC3xFnNetBest
namespace Go.Proofs.Ytnakanjhdcakhaa.Q
open Go.RowKit Go.Proofs.YtnakanjhdcakhaaW.PrintWords Go.Proofs.YtnakanjhdcakhaaW.PrintLast Go.Proofs.YtnakanjhdcakhaaW.PrintMore
attribute [local go_sem] max2_int min2_int max_two min_two max_three min_three max_four min_four   -- for this text's walks alone
set_option linter.unusedVariables false
set_option linter.unusedSimpArgs false
def spec_DrawNetBest.f (k : Nat) (l0 : List Int) : Option ((List (S26)) × Int) := (spec_l1Open.f l0).bind fun bt101 => ((spec_l5List.f k bt101.1 bt101.2 10).bind fun bt104 => (if (bt104.1.length : Int) > 0 then ((spec_l1Rd_pick.f k bt101.1 bt104.2 (bt104.1.length : Int)).bind fun bt108 => (if 0 ≤ bt108.1 then (if bt108.1 < (bt104.1.length : Int) then ((spec_l5Addr.f k bt101.1 bt108.2 ((rd_T26 bt104.1 bt108.1).f0) ((rd_T26 bt104.1 bt108.1).f1)).bind fun bt111 => (some (bt104.1, bt111.1))) else (none)) else (none))) else ((spec_l1Rd_pick.f k bt101.1 bt104.2 65536).bind fun bt113 => (some (bt104.1, bt113.1)))))
set_option maxHeartbeats 8000000 in
set_option maxRecDepth 100000 in
theorem spec_DrawNetBest.calls (k : Nat) (A0 : Option Addr) (c0 : Nat) (l0 : List Int) (r1 : List (S26)) (r2 : Int) (w : World) (hr0 : Kd.C (Kd.int .u8) w A0 l0.length l0) (hc0 : l0.length ≤ c0) (h : spec_DrawNetBest.f k l0 = some (r1, r2)) :
    Calls Try.prog 56 #[.slice A0 l0.length c0] w fun e w' => ∃ v0_ : Value, e = .returned (.tuple #[v0_, .int .i64 r2]) ∧ Kd.R k26 26 w' w.heap.size (fun _ => True) v0_ r1 ∧ Below w.heap.size w w' := by
  have hu26 := Try.underlying26
  have HR0 := Aside0.mk hr0
  have HC0 := Aside0.mk hc0
  clear hr0 hc0
  have HB := Aside0.mk (Below.refl w.heap.size w)
  have H : ((spec_l1Open.f l0).bind fun bt101 => ((spec_l5List.f k bt101.1 bt101.2 10).bind fun bt104 => (if (bt104.1.length : Int) > 0 then ((spec_l1Rd_pick.f k bt101.1 bt104.2 (bt104.1.length : Int)).bind fun bt108 => (if 0 ≤ bt108.1 then (if bt108.1 < (bt104.1.length : Int) then ((spec_l5Addr.f k bt101.1 bt108.2 ((rd_T26 bt104.1 bt108.1).f0) ((rd_T26 bt104.1 bt108.1).f1)).bind fun bt111 => (some (bt104.1, bt111.1))) else (none)) else (none))) else ((spec_l1Rd_pick.f k bt101.1 bt104.2 65536).bind fun bt113 => (some (bt104.1, bt113.1)))))) = some (r1, r2) := h
  clear h
  replace H := Option.bind_eq_some_iff.mp H
  obtain ⟨⟨t101, t102⟩, A20, H⟩ := H
  replace H : ((spec_l5List.f k t101 t102 10).bind fun bt104 => (if (bt104.1.length : Int) > 0 then ((spec_l1Rd_pick.f k t101 bt104.2 (bt104.1.length : Int)).bind fun bt108 => (if 0 ≤ bt108.1 then (if bt108.1 < (bt104.1.length : Int) then ((spec_l5Addr.f k t101 bt108.2 ((rd_T26 bt104.1 bt108.1).f0) ((rd_T26 bt104.1 bt108.1).f1)).bind fun bt111 => (some (bt104.1, bt111.1))) else (none)) else (none))) else ((spec_l1Rd_pick.f k t101 bt104.2 65536).bind fun bt113 => (some (bt104.1, bt113.1))))) = some (r1, r2) := H
  have A2 := Aside0.mk A20
  clear A20
  replace H := Option.bind_eq_some_iff.mp H
  obtain ⟨⟨t104, t107⟩, A30, H⟩ := H
  replace H : (if (t104.length : Int) > 0 then ((spec_l1Rd_pick.f k t101 t107 (t104.length : Int)).bind fun bt108 => (if 0 ≤ bt108.1 then (if bt108.1 < (t104.length : Int) then ((spec_l5Addr.f k t101 bt108.2 ((rd_T26 t104 bt108.1).f0) ((rd_T26 t104 bt108.1).f1)).bind fun bt111 => (some (t104, bt111.1))) else (none)) else (none))) else ((spec_l1Rd_pick.f k t101 t107 65536).bind fun bt113 => (some (t104, bt113.1)))) = some (r1, r2) := H
  have A3 := Aside0.mk A30
  clear A30
  by_cases c4 : (t104.length : Int) > 0
  · rw [if_pos c4] at H
    have c4b0 : decide (0 < (t104.length : Int)) = true := decide_eq_true c4
    have c4b1 : decide (0 < t104.length) = true := decide_eq_true (by omega)
    clear c4
    replace H := Option.bind_eq_some_iff.mp H
    obtain ⟨⟨t108, t109⟩, A50, H⟩ := H
    replace H : (if 0 ≤ t108 then (if t108 < (t104.length : Int) then ((spec_l5Addr.f k t101 t109 ((rd_T26 t104 t108).f0) ((rd_T26 t104 t108).f1)).bind fun bt111 => (some (t104, bt111.1))) else (none)) else (none)) = some (r1, r2) := H
    have A5 := Aside0.mk A50
    clear A50
    by_cases c6 : 0 ≤ t108
    · rw [if_pos c6] at H
      have c6b0 : decide (0 ≤ t108) = true := decide_eq_true c6
      clear c6
      by_cases c7 : t108 < (t104.length : Int)
      · rw [if_pos c7] at H
        have c7b0 : decide (t108 < (t104.length : Int)) = true := decide_eq_true c7
        clear c7
        replace H := Option.bind_eq_some_iff.mp H
        obtain ⟨⟨t111, t112⟩, A80, H⟩ := H
        replace H : (some (t104, t111)) = some (r1, r2) := H
        have A8 := Aside0.mk A80
        clear A80
        simp only [Option.some.injEq, Prod.mk.injEq] at H
        obtain ⟨rfl, rfl⟩ := H
        go_enter Try.func56, Try.ntmps56
        go_wp2_with (first | ((with_reducible refine gate_callee (f := 79) rfl ?_); refine goesL_ (some 7) rfl rfl Try.func79 (by kernel_rfl) rfl #[.slice A0 l0.length c0] rfl (by (try simp only [List.map_toArray, List.map_cons, List.map_nil]); first | done | rfl | (simp only [List.length_drop, List.length_take]; rfl)) ?_; (with_reducible refine (spec_l1Open.calls _ _ l0 t101 t102 w _ ?side1 ?side2 ?side3 A2.out).mono ?_); (case side1 => repeat (first | (with_reducible first | exact HB.out | apply below_alloc | apply pw_below_drewN | apply below_drew1) | exact HB.out)); (case side2 => exact HR0.out); (case side3 => exact HC0.out); rintro e w9 ⟨g103, rfl, hi, hb, hb2⟩; refine ⟨_, rfl, ?_⟩; have n0_ := Aside0.mk (hb); have n1_ := Aside0.mk (hi); clear HB; have HB := n0_; have HI103 := n1_; clear n0_ n1_; (try clear hb); (try clear hb2); (try clear hk); (try clear hi)) | ((with_reducible refine gate_callee (f := 101) rfl ?_); refine goesL_ (some 9) rfl rfl Try.func101 (by kernel_rfl) rfl #[.pointer (some ⟨g103, 0, none⟩), .int .i64 10] rfl (by (try simp only [List.map_toArray, List.map_cons, List.map_nil]); first | done | rfl | (simp only [List.length_drop, List.length_take]; rfl)) ?_; (with_reducible refine (spec_l5List.calls k g103 t101 t102 10 t104 t107 w _ ?side1 ?side2 A3.out).mono ?_); (case side1 => repeat (first | (with_reducible first | exact HI103.out | apply IsS117.alloc | apply IsS117.drewN | apply IsS117.drew | apply IsS117.set_1) | exact HI103.out)); (case side2 => repeat (first | (with_reducible first | exact HB.out | apply below_alloc | apply pw_below_drewN | apply below_drew1 | refine below_set ?_ (IsS117.ge HI103.out)) | exact HB.out)); rintro e w10 ⟨v105, rfl, ho0, hi, hb, hk⟩; refine ⟨_, rfl, ?_⟩; have n0_ := Aside0.mk (Kd.R_lower ho0 (below_size (by repeat (first | (with_reducible first | exact HB.out | apply below_alloc | apply pw_below_drewN | apply below_drew1 | refine below_set ?_ (IsS117.ge HI103.out)) | exact HB.out)))); have n1_ := Aside0.mk (hb); have n2_ := Aside0.mk (hi); clear HB; clear HI103; have HO106 := n0_; have HB := n1_; have HI103 := n2_; clear n0_ n1_ n2_; (try clear hb); (try clear hb2); (try clear hk); (try clear hi); (try clear ho0); obtain ⟨Ao11, co11, eo11⟩ := Kd.R_slice HO106.out; subst eo11) | ((with_reducible refine gate_callee (f := 81) rfl ?_); refine goesL_ (some 19) rfl rfl Try.func81 (by kernel_rfl) rfl #[.pointer (some ⟨g103, 0, none⟩), .int .i64 (t104.length : Int)] rfl (by (try simp only [List.map_toArray, List.map_cons, List.map_nil]); first | done | rfl | (simp only [List.length_drop, List.length_take]; rfl)) ?_; (with_reducible refine (spec_l1Rd_pick.calls k g103 t101 t107 (t104.length : Int) t108 t109 w _ ?side1 ?side2 A5.out).mono ?_); (case side1 => repeat (first | (with_reducible first | exact HI103.out | apply IsS117.alloc | apply IsS117.drewN | apply IsS117.drew | apply IsS117.set_1) | exact HI103.out)); (case side2 => repeat (first | (with_reducible first | exact HB.out | apply below_alloc | apply pw_below_drewN | apply below_drew1 | refine below_set ?_ (IsS117.ge HI103.out)) | exact HB.out)); rintro e w12 ⟨rfl, hi, hb, hk⟩; refine ⟨_, rfl, ?_⟩; have n0_ := Aside0.mk (Kd.R_mono (Kd.R_keep (IsS117.apart (show IsS117 w _ g103 t101 t107 from by repeat (first | (with_reducible first | exact HI103.out | apply IsS117.alloc | apply IsS117.drewN | apply IsS117.drew | apply IsS117.set_1) | exact HI103.out)) (by (with_reducible repeat (first | apply Kd.R_alloc | apply Kd.R_drewN | apply Kd.R_drew)); exact HO106.out) (by decide)) hk (fun _ h => h.2)) (fun _ h => h.1)); have n1_ := Aside0.mk (hb); have n2_ := Aside0.mk (hi); clear HO106; clear HB; clear HI103; have HO106 := n0_; have HB := n1_; have HI103 := n2_; clear n0_ n1_ n2_; (try clear hb); (try clear hb2); (try clear hk); (try clear hi); have p110 : 0 ≤ (t108 : Int) := of_decide_eq_true (by first | (with_reducible assumption) | assumption); have q110 : t108 < (t104.length : Int) := of_decide_eq_true (by first | (with_reducible assumption) | assumption); obtain ⟨ad110, e110, hx110_0, hx110_1⟩ := at_T26 (Kd.R_reads' HO106.out).2.2 t108 p110 q110; cases e110; replace p110 := eq_true p110; replace q110 := eq_true q110) | ((with_reducible refine gate_callee (f := 100) rfl ?_); refine goesL_ (some 22) rfl rfl Try.func100 (by kernel_rfl) rfl #[.pointer (some ⟨g103, 0, none⟩), .agg #[.int .i64 ((rd_T26 t104 t108).f0), .int .i64 ((rd_T26 t104 t108).f1)]] rfl (by (try simp only [List.map_toArray, List.map_cons, List.map_nil]); first | done | rfl | (simp only [List.length_drop, List.length_take]; rfl)) ?_; (with_reducible refine (spec_l5Addr.calls k g103 t101 t109 ((rd_T26 t104 t108).f0) ((rd_T26 t104 t108).f1) t111 t112 w _ ?side1 ?side2 A8.out).mono ?_); (case side1 => repeat (first | (with_reducible first | exact HI103.out | apply IsS117.alloc | apply IsS117.drewN | apply IsS117.drew | apply IsS117.set_1) | exact HI103.out)); (case side2 => repeat (first | (with_reducible first | exact HB.out | apply below_alloc | apply pw_below_drewN | apply below_drew1 | refine below_set ?_ (IsS117.ge HI103.out)) | exact HB.out)); rintro e w13 ⟨rfl, hi, hb, hk⟩; refine ⟨_, rfl, ?_⟩; have n0_ := Aside0.mk (Kd.R_mono (Kd.R_keep (IsS117.apart (show IsS117 w _ g103 t101 t109 from by repeat (first | (with_reducible first | exact HI103.out | apply IsS117.alloc | apply IsS117.drewN | apply IsS117.drew | apply IsS117.set_1) | exact HI103.out)) (by (with_reducible repeat (first | apply Kd.R_alloc | apply Kd.R_drewN | apply Kd.R_drew)); exact HO106.out) (by decide)) hk (fun _ h => h.2)) (fun _ h => h.1)); have n1_ := Aside0.mk (hb); have n2_ := Aside0.mk (hi); clear HO106; clear HB; clear HI103; have HO106 := n0_; have HB := n1_; have HI103 := n2_; clear n0_ n1_ n2_; (try clear hb); (try clear hb2); (try clear hk); (try clear hi)))
        go_ret2
        exact ⟨_, by first | rfl | (simp [errW_none, errW_some] <;> rfl) | (simp [*, errW_none, errW_some] <;> rfl), by (with_reducible repeat (first | apply Kd.R_alloc | apply Kd.R_drewN | apply Kd.R_drew)); exact HO106.out, by repeat (first | (with_reducible first | exact HB.out | apply below_alloc | apply pw_below_drewN | apply below_drew1 | refine below_set ?_ (IsS117.ge HI103.out)) | exact HB.out)⟩
      · rw [if_neg c7] at H
        exact absurd H (by simp)
    · rw [if_neg c6] at H
      exact absurd H (by simp)
  · rw [if_neg c4] at H
    have c4b0 : decide (0 < (t104.length : Int)) = false := decide_eq_false c4
    have c4b1 : decide (0 < t104.length) = false := decide_eq_false (by omega)
    clear c4
    replace H := Option.bind_eq_some_iff.mp H
    obtain ⟨⟨t113, t114⟩, A140, H⟩ := H
    replace H : (some (t104, t113)) = some (r1, r2) := H
    have A14 := Aside0.mk A140
    clear A140
    simp only [Option.some.injEq, Prod.mk.injEq] at H
    obtain ⟨rfl, rfl⟩ := H
    go_enter Try.func56, Try.ntmps56
    go_wp2_with (first | ((with_reducible refine gate_callee (f := 79) rfl ?_); refine goesL_ (some 7) rfl rfl Try.func79 (by kernel_rfl) rfl #[.slice A0 l0.length c0] rfl (by (try simp only [List.map_toArray, List.map_cons, List.map_nil]); first | done | rfl | (simp only [List.length_drop, List.length_take]; rfl)) ?_; (with_reducible refine (spec_l1Open.calls _ _ l0 t101 t102 w _ ?side1 ?side2 ?side3 A2.out).mono ?_); (case side1 => repeat (first | (with_reducible first | exact HB.out | apply below_alloc | apply pw_below_drewN | apply below_drew1) | exact HB.out)); (case side2 => exact HR0.out); (case side3 => exact HC0.out); rintro e w15 ⟨g103, rfl, hi, hb, hb2⟩; refine ⟨_, rfl, ?_⟩; have n0_ := Aside0.mk (hb); have n1_ := Aside0.mk (hi); clear HB; have HB := n0_; have HI103 := n1_; clear n0_ n1_; (try clear hb); (try clear hb2); (try clear hk); (try clear hi)) | ((with_reducible refine gate_callee (f := 101) rfl ?_); refine goesL_ (some 9) rfl rfl Try.func101 (by kernel_rfl) rfl #[.pointer (some ⟨g103, 0, none⟩), .int .i64 10] rfl (by (try simp only [List.map_toArray, List.map_cons, List.map_nil]); first | done | rfl | (simp only [List.length_drop, List.length_take]; rfl)) ?_; (with_reducible refine (spec_l5List.calls k g103 t101 t102 10 t104 t107 w _ ?side1 ?side2 A3.out).mono ?_); (case side1 => repeat (first | (with_reducible first | exact HI103.out | apply IsS117.alloc | apply IsS117.drewN | apply IsS117.drew | apply IsS117.set_1) | exact HI103.out)); (case side2 => repeat (first | (with_reducible first | exact HB.out | apply below_alloc | apply pw_below_drewN | apply below_drew1 | refine below_set ?_ (IsS117.ge HI103.out)) | exact HB.out)); rintro e w16 ⟨v105, rfl, ho0, hi, hb, hk⟩; refine ⟨_, rfl, ?_⟩; have n0_ := Aside0.mk (Kd.R_lower ho0 (below_size (by repeat (first | (with_reducible first | exact HB.out | apply below_alloc | apply pw_below_drewN | apply below_drew1 | refine below_set ?_ (IsS117.ge HI103.out)) | exact HB.out)))); have n1_ := Aside0.mk (hb); have n2_ := Aside0.mk (hi); clear HB; clear HI103; have HO106 := n0_; have HB := n1_; have HI103 := n2_; clear n0_ n1_ n2_; (try clear hb); (try clear hb2); (try clear hk); (try clear hi); (try clear ho0); obtain ⟨Ao17, co17, eo17⟩ := Kd.R_slice HO106.out; subst eo17) | ((with_reducible refine gate_callee (f := 81) rfl ?_); refine goesL_ (some 25) rfl rfl Try.func81 (by kernel_rfl) rfl #[.pointer (some ⟨g103, 0, none⟩), .int .i64 65536] rfl (by (try simp only [List.map_toArray, List.map_cons, List.map_nil]); first | done | rfl | (simp only [List.length_drop, List.length_take]; rfl)) ?_; (with_reducible refine (spec_l1Rd_pick.calls k g103 t101 t107 65536 t113 t114 w _ ?side1 ?side2 A14.out).mono ?_); (case side1 => repeat (first | (with_reducible first | exact HI103.out | apply IsS117.alloc | apply IsS117.drewN | apply IsS117.drew | apply IsS117.set_1) | exact HI103.out)); (case side2 => repeat (first | (with_reducible first | exact HB.out | apply below_alloc | apply pw_below_drewN | apply below_drew1 | refine below_set ?_ (IsS117.ge HI103.out)) | exact HB.out)); rintro e w18 ⟨rfl, hi, hb, hk⟩; refine ⟨_, rfl, ?_⟩; have n0_ := Aside0.mk (Kd.R_mono (Kd.R_keep (IsS117.apart (show IsS117 w _ g103 t101 t107 from by repeat (first | (with_reducible first | exact HI103.out | apply IsS117.alloc | apply IsS117.drewN | apply IsS117.drew | apply IsS117.set_1) | exact HI103.out)) (by (with_reducible repeat (first | apply Kd.R_alloc | apply Kd.R_drewN | apply Kd.R_drew)); exact HO106.out) (by decide)) hk (fun _ h => h.2)) (fun _ h => h.1)); have n1_ := Aside0.mk (hb); have n2_ := Aside0.mk (hi); clear HO106; clear HB; clear HI103; have HO106 := n0_; have HB := n1_; have HI103 := n2_; clear n0_ n1_ n2_; (try clear hb); (try clear hb2); (try clear hk); (try clear hi)))
    go_ret2
    exact ⟨_, by first | rfl | (simp [errW_none, errW_some] <;> rfl) | (simp [*, errW_none, errW_some] <;> rfl), by (with_reducible repeat (first | apply Kd.R_alloc | apply Kd.R_drewN | apply Kd.R_drew)); exact HO106.out, by repeat (first | (with_reducible first | exact HB.out | apply below_alloc | apply pw_below_drewN | apply below_drew1 | refine below_set ?_ (IsS117.ge HI103.out)) | exact HB.out)⟩
end Go.Proofs.Ytnakanjhdcakhaa.Q
namespace Go.Proofs.Ytnakanjhdcakhaa.Q
open Go.RowKit Go.Proofs.YtnakanjhdcakhaaW.PrintWords Go.Proofs.YtnakanjhdcakhaaW.PrintLast Go.Proofs.YtnakanjhdcakhaaW.PrintMore
attribute [local go_sem] max2_int min2_int max_two min_two max_three min_three max_four min_four   -- for this text's walks alone
set_option linter.unusedVariables false
set_option linter.unusedSimpArgs false
mutual
def laws_FnNetBest.j0 : Nat → List (S26) → Int → Int → Bool → Option (Bool)
  | 0, _, _, _, _ => none
  | k + 1, x3, x4, x5, x28 => if x28 = true then (some false) else (laws_FnNetBest.l0 k x3 x4 x5 0)
def laws_FnNetBest.l0 : Nat → List (S26) → Int → Int → Int → Option (Bool)
  | 0, _, _, _, _ => none
  | k + 1, x3, x4, x5, x6 => if x6 < (x3.length : Int) then (if 0 ≤ x6 then ((spec_NetHas.f k ((rd_T26 x3 x6).f0) ((rd_T26 x3 x6).f1) x4).bind fun t108 => (if t108 = true then (if x5 < 0 then (some false) else (if 0 ≤ x5 then (if x5 < (x3.length : Int) then (if ((rd_T26 x3 x6).f1) > ((rd_T26 x3 x5).f1) then (some false) else (if ((rd_T26 x3 x6).f1) = ((rd_T26 x3 x5).f1) then (if x6 < x5 then (some false) else (laws_FnNetBest.l0 k x3 x4 x5 (wrap64 (x6 + 1)))) else (laws_FnNetBest.l0 k x3 x4 x5 (wrap64 (x6 + 1))))) else (none)) else (none))) else (laws_FnNetBest.l0 k x3 x4 x5 (wrap64 (x6 + 1))))) else (none)) else (if x5 < 0 then (some true) else (if 0 ≤ x5 then (if x5 < (x3.length : Int) then ((spec_NetHas.f k ((rd_T26 x3 x5).f0) ((rd_T26 x3 x5).f1) x4).bind fun t114 => (some t114)) else (none)) else (none)))
end
def laws_FnNetBest.f (k : Nat) (l0 : List Int) : Option (Bool) := if (l0.length : Int) > 1048576 then (some true) else ((spec_DrawNetBest.f k l0).bind fun bt101 => ((impl_NetBest.f k bt101.1 bt101.2).bind fun t105 => ((spec_NetBest.f k bt101.1 bt101.2).bind fun t106 => (if t105 = t106 then (laws_FnNetBest.j0 k bt101.1 bt101.2 t105 (decide (t105 ≥ (bt101.1.length : Int)))) else (laws_FnNetBest.j0 k bt101.1 bt101.2 t105 true)))))
def laws_FnNetBest.T10 : Bool × List (List Nat × List Nat) := (true, [([], []), ([], []), ([0, 1], [0, 1]), ([2], [2]), ([], []), ([3, 4], [3, 4]), ([5, 5], [5]), ([6], [6]), ([7, 6], [6, 7]), ([8, 6, 6], [6, 8]), ([9], [9]), ([9], [9]), ([10, 11, 9], [9, 10, 11]), ([12, 9], [9, 12]), ([13, 9], [9, 13]), ([9], [9]), ([9], [9]), ([15, 16, 9], [9, 15, 16]), ([17, 9], [9, 17]), ([18, 9], [9, 18]), ([14, 19, 9], [9, 14, 19]), ([9, 20, 6], [6, 9, 20]), ([21, 9, 6], [6, 21]), ([22], [22]), ([22], [22]), ([23, 24, 22], [22, 23, 24]), ([25, 22], [22, 25]), ([26, 22], [22, 26]), ([22], [22]), ([22], [22]), ([28, 29, 22], [22, 28, 29]), ([30, 22], [22, 30]), ([31, 22], [22, 31]), ([27, 32, 22], [22, 27, 32]), ([33, 22, 22], [22, 33]), ([34], [34]), ([34], [34]), ([35, 36, 34], [34, 35, 36]), ([34, 37, 22], [22, 34, 37]), ([22, 38, 6], [6, 22, 38]), ([6, 39], [6, 39])])
def laws_FnNetBest.B10 : List Nat := [0, 0, 3, 7, 0, 31, 63, 127, 255, 511, 1023, 1023, 4095, 8191, 16383, 1023, 1023, 99327, 230399, 492543, 1048575, 2097151, 4194303, 8388607, 8388607, 33554431, 67108863, 134217727, 8388607, 8388607, 813694975, 1887436799, 4034920447, 8589934591, 17179869183, 34359738367, 34359738367, 137438953471, 274877906943, 549755813887, 1099511627775]
theorem laws_FnNetBest.tab10 : rtab .any (opsOf Try.f13 10) = laws_FnNetBest.T10 := by kernel_rfl
theorem laws_FnNetBest.bits10 : waitsOk laws_FnNetBest.T10.2 laws_FnNetBest.B10 = true := by kernel_rfl
theorem laws_FnNetBest.zHB {P : Prop} (h : P := by repeat (first | (with_reducible first | exact HB.out | apply below_alloc | apply pw_below_drewN | apply below_drew1) | exact HB.out)) : P := h
theorem laws_FnNetBest.zr {P Q : Prop} (x : Q) (h : Q → P := by intro x_; (with_reducible repeat (first | apply Kd.R_alloc | apply Kd.R_drewN | apply Kd.R_drew)); exact x_) : P := h x
theorem laws_FnNetBest.zk {P Q : Prop} (x : Q) (h : Q → P := by intro x_; (with_reducible repeat (first | apply Kd.R_alloc | apply Kd.R_drewN | apply Kd.R_drew)); exact x_) : P := h x
def laws_FnNetBest.zl (n k : Nat) : Array Bool := ((List.range n).map fun i => k.testBit i).toArray
theorem laws_FnNetBest.y1 {P : Prop} (h : P := by (try simp only [List.map_toArray, List.map_cons, List.map_nil]); first | done | rfl | (simp only [List.length_drop, List.length_take]; rfl)) : P := h
theorem laws_FnNetBest.y2 {P : Prop} (h : P := by first | (with_reducible assumption) | assumption) : P := h
theorem laws_FnNetBest.y3 {P : Prop} (h : P := by first | rfl | (simp; done) | (simp [*]; done)) : P := h
theorem laws_FnNetBest.zA {p : Prop} (h : p) : Aside0 p := ⟨h⟩
set_option maxHeartbeats 8000000 in
set_option maxRecDepth 100000 in
theorem laws_FnNetBest.calls (k : Nat) (A0 : Option Addr) (c0 : Nat) (l0 : List Int) (r : Bool) (w : World) (hr0 : Kd.C (Kd.int .u8) w A0 l0.length l0) (hc0 : l0.length ≤ c0) (h : laws_FnNetBest.f k l0 = some r) :
  Calls Try.prog 13 #[.slice A0 l0.length c0] w fun e w' => e = .returned (.bool r) ∧ Below w.heap.size w w' := by
 have hu26 := Try.underlying26
 have HR0 := zA hr0
 have HC0 := zA hc0
 clear hr0 hc0
 have HB := zA (Below.refl w.heap.size w)
 have H : (if (l0.length : Int) > 1048576 then (some true) else ((spec_DrawNetBest.f k l0).bind fun bt101 => ((impl_NetBest.f k bt101.1 bt101.2).bind fun t105 => ((spec_NetBest.f k bt101.1 bt101.2).bind fun t106 => (if t105 = t106 then (laws_FnNetBest.j0 k bt101.1 bt101.2 t105 (decide (t105 ≥ (bt101.1.length : Int)))) else (laws_FnNetBest.j0 k bt101.1 bt101.2 t105 true)))))) = some r := h
 clear h
 by_cases c2 : (l0.length : Int) > 1048576
 ·rw [if_pos c2] at H
  have c2b0 : decide (1048576 < (l0.length : Int)) = true := decide_eq_true c2
  have c2b1 : decide (1048576 < l0.length) = true := decide_eq_true (by omega)
  clear c2
  obtain rfl := Option.some.inj H
  go_enter Try.func13, Try.ntmps13
  go_wp2
  go_ret
  exact ⟨by first | rfl | (simp [errW_none, errW_some] <;> rfl) | (simp [*, errW_none, errW_some] <;> rfl), zHB⟩
 rw [if_neg c2] at H
 have c2b0 : decide (1048576 < (l0.length : Int)) = false := decide_eq_false c2
 have c2b1 : decide (1048576 < l0.length) = false := decide_eq_false (by omega)
 clear c2
 replace H := Option.bind_eq_some_iff.mp H
 obtain ⟨⟨t101, t102⟩, A30, H⟩ := H
 replace H : ((impl_NetBest.f k t101 t102).bind fun t105 => ((spec_NetBest.f k t101 t102).bind fun t106 => (if t105 = t106 then (laws_FnNetBest.j0 k t101 t102 t105 (decide (t105 ≥ (t101.length : Int)))) else (laws_FnNetBest.j0 k t101 t102 t105 true)))) = some r := H
 have A3 := zA A30
 clear A30
 replace H := Option.bind_eq_some_iff.mp H
 obtain ⟨t105, A40, H⟩ := H
 replace H : ((spec_NetBest.f k t101 t102).bind fun t106 => (if t105 = t106 then (laws_FnNetBest.j0 k t101 t102 t105 (decide (t105 ≥ (t101.length : Int)))) else (laws_FnNetBest.j0 k t101 t102 t105 true))) = some r := H
 have A4 := zA A40
 clear A40
 have HC5 := zA H
 clear H
 go_enter Try.func13, Try.ntmps13
 go_upto_region 5 with (first | ((with_reducible refine gate_callee (f := 56) rfl ?_); refine goesL_ (some 12) rfl rfl Try.func56 (by kernel_rfl) rfl #[.slice A0 l0.length c0] rfl y1  ?_; (with_reducible refine (spec_DrawNetBest.calls k _ _ l0 t101 t102 _ ?side1 ?side2 A3.out).mono ?_); (case side1 => repeat (first | exact HR0.out | (with_reducible refine Kd.C_alloc ?_ _) | (with_reducible refine Kd.C_drewN ?_ _) | (with_reducible refine Kd.C_drew ?_))); (case side2 => exact HC0.out); rintro e w6 ⟨v103, rfl, ho0, hb⟩; refine ⟨_, rfl, ?_⟩; have n0_ := zA (Kd.R_lower ho0 (below_size (zHB))); have n1_ := zA (below_step (zHB) hb); clear HB; have HO104 := n0_; have HB := n1_; clear n0_ n1_; (try clear hb); (try clear hb2); (try clear hk); (try clear hi); (try clear ho0); obtain ⟨Ao7, co7, eo7⟩ := Kd.R_slice HO104.out; subst eo7) | ((with_reducible refine gate_callee (f := 49) rfl ?_); refine goesL_ (some 17) rfl rfl Try.func49 (by kernel_rfl) rfl #[.slice Ao7 t101.length co7, .int .i64 t102] rfl y1  ?_; (with_reducible refine (impl_NetBest.calls k _ _ t101 t102 t105 _ ?side1 ?side2 A4.out).mono ?_); (case side1 => repeat (first | exact (Kd.R_reads' HO104.out).2.2 | (with_reducible refine Kd.C_alloc ?_ _) | (with_reducible refine Kd.C_drewN ?_ _) | (with_reducible refine Kd.C_drew ?_))); (case side2 => exact (Kd.R_reads' HO104.out).2.1); rintro e w8 ⟨rfl, hb⟩; refine ⟨_, rfl, ?_⟩; have n0_ := zA (Kd.R_below (zr HO104.out) hb); have n1_ := zA (below_step (zHB) hb); clear HO104; clear HB; have HO104 := n0_; have HB := n1_; clear n0_ n1_; (try clear hb); (try clear hb2); (try clear hk); (try clear hi)))
 (try simp only [Act.put, List.setIfInBounds_toArray, List.set_cons_zero, List.set_cons_succ])
 go_cut [28] (fun v28 wc => ∃ (kq : Nat) (x28_4 : Bool), v28 = .bool x28_4 ∧ Aside0 (laws_FnNetBest.j0 kq t101 t102 t105 x28_4 = some r) ∧ Aside0 (kq ≤ k) ∧ Aside0 (Kd.R k26 26 wc w.heap.size (fun _ => True) (.slice Ao7 t101.length co7) t101) ∧ Aside0 (Below w.heap.size w wc))
 case first =>
  have H := HC5.out
  clear HC5
  replace H := Option.bind_eq_some_iff.mp H
  obtain ⟨t106, A90, H⟩ := H
  replace H : (if t105 = t106 then (laws_FnNetBest.j0 k t101 t102 t105 (decide (t105 ≥ (t101.length : Int)))) else (laws_FnNetBest.j0 k t101 t102 t105 true)) = some r := H
  have A9 := zA A90
  clear A90
  by_cases c10 : t105 = t106
  ·rw [if_pos c10] at H
   have c10b0 : (t105 == t106) = true := beq_iff_eq.mpr c10
   have c10b1 : (t105 != t106) = false := bne_eq_false_iff_eq.mpr c10
   clear c10
   (first | rw [c10b0] | (simp only [i64_w, i32_w]; rw [c10b0]) | skip)
   have H' := zA H
   clear H
   go_wp2_with (first | ((with_reducible refine gate_callee (f := 47) rfl ?_); refine goesL_ (some 21) rfl rfl Try.func47 (by kernel_rfl) rfl #[.slice Ao7 t101.length co7, .int .i64 t102] rfl y1  ?_; (with_reducible refine (spec_NetBest.calls k _ _ t101 t102 t106 _ ?side1 ?side2 A9.out).mono ?_); (case side1 => repeat (first | exact (Kd.R_reads' HO104.out).2.2 | (with_reducible refine Kd.C_alloc ?_ _) | (with_reducible refine Kd.C_drewN ?_ _) | (with_reducible refine Kd.C_drew ?_))); (case side2 => exact (Kd.R_reads' HO104.out).2.1); rintro e w11 ⟨rfl, hb⟩; refine ⟨_, rfl, ?_⟩; have n0_ := zA (Kd.R_below (zr HO104.out) hb); have n1_ := zA (below_step (zHB) hb); clear HO104; clear HB; have HO104 := n0_; have HB := n1_; clear n0_ n1_; (try clear hb); (try clear hb2); (try clear hk); (try clear hi)))
   go_meet
   case rel => exact ⟨_, (decide (t105 ≥ (t101.length : Int))), y3 , H', ⟨by first | omega | exact Nat.le_refl _⟩, ⟨by refine zk ?_; exact HO104.out⟩, ⟨zHB⟩⟩
  rw [if_neg c10] at H
  have c10b0 : (t105 == t106) = false := beq_eq_false_iff_ne.mpr c10
  have c10b1 : (t105 != t106) = true := bne_iff_ne.mpr c10
  (first | rw [c10b0] | (simp only [i64_w, i32_w]; rw [c10b0]) | skip)
  have H' := zA H
  clear H
  go_wp2_with (first | ((with_reducible refine gate_callee (f := 47) rfl ?_); refine goesL_ (some 21) rfl rfl Try.func47 (by kernel_rfl) rfl #[.slice Ao7 t101.length co7, .int .i64 t102] rfl y1  ?_; (with_reducible refine (spec_NetBest.calls k _ _ t101 t102 t106 _ ?side1 ?side2 A9.out).mono ?_); (case side1 => repeat (first | exact (Kd.R_reads' HO104.out).2.2 | (with_reducible refine Kd.C_alloc ?_ _) | (with_reducible refine Kd.C_drewN ?_ _) | (with_reducible refine Kd.C_drew ?_))); (case side2 => exact (Kd.R_reads' HO104.out).2.1); rintro e w12 ⟨rfl, hb⟩; refine ⟨_, rfl, ?_⟩; have n0_ := zA (Kd.R_below (zr HO104.out) hb); have n1_ := zA (below_step (zHB) hb); clear HO104; clear HB; have HO104 := n0_; have HB := n1_; clear n0_ n1_; (try clear hb); (try clear hb2); (try clear hk); (try clear hi)))
  go_meet
  case rel => exact ⟨_, (true), y3 , H', ⟨by first | omega | exact Nat.le_refl _⟩, ⟨by refine zk ?_; exact HO104.out⟩, ⟨zHB⟩⟩
 case rest =>
  clear HC5
  try clear c1
  try clear c2
  try clear c2b0
  try clear c2b1
  try clear p2
  try clear c4
  try clear c5
  try clear c10
  try clear c10b0
  try clear c10b1
  obtain ⟨kq, x28_4, rfl, HA, HJ4, HO_3, HB⟩ := hcut
  cases kq with
  | zero => exact absurd HA.out (by simp [laws_FnNetBest.j0])
  | succ kj4 => ?_
  have H := HA.out
  clear HA
  simp only [laws_FnNetBest.j0] at H
  by_cases c13 : x28_4 = true
  ·subst c13
   have H1 : (some false) = some r := by rw [if_pos rfl] at H; exact H
   clear H
   have H := H1
   clear H1
   obtain rfl := Option.some.inj H
   go_wp2
   go_ret
   exact ⟨by first | rfl | (simp [errW_none, errW_some] <;> rfl) | (simp [*, errW_none, errW_some] <;> rfl), zHB⟩
  replace c13 := Bool.eq_false_iff.mpr c13
  subst c13
  have H1 : (laws_FnNetBest.l0 kj4 t101 t102 t105 0) = some r := by rw [if_neg (show ¬ (false = true) by decide)] at H; exact H
  clear H
  have H := H1
  clear H1
  have H' := zA H
  clear H
  go_wp2
  go_loopg [6] kj4 (fun kq v6 w' => ∃ (x6_2 : Int), v6 = .int .i64 x6_2 ∧ Aside0 (laws_FnNetBest.l0 kq t101 t102 t105 x6_2 = some r) ∧ Aside0 (kq ≤ kj4) ∧ Aside0 (Kd.R k26 26 w' w.heap.size (fun _ => True) (.slice Ao7 t101.length co7) t101) ∧ Aside0 (Below w.heap.size w w'))
  case atStart => exact ⟨(0), y3 , H', ⟨Nat.le_refl _⟩, ⟨by refine zk ?_; exact HO_3.out⟩, ⟨zHB⟩⟩
  case round =>
   clear H'
   try clear c1
   try clear c2
   try clear c2b0
   try clear c2b1
   try clear p2
   try clear c4
   try clear c5
   try clear c10
   try clear c10b0
   try clear c10b1
   try clear c13
   try clear p2
   obtain ⟨x6_2, rfl, HA, HK2, HO_3, HB⟩ := hrel
   cases gk with
   | zero => exact absurd HA.out (by simp [laws_FnNetBest.l0])
   | succ k2 => ?_
   have H := HA.out
   clear HA
   simp only [laws_FnNetBest.l0] at H
   by_cases c14 : x6_2 < (t101.length : Int)
   ·rw [if_pos c14] at H
    have c14b0 : decide (x6_2 < (t101.length : Int)) = true := decide_eq_true c14
    clear c14
    by_cases c15 : 0 ≤ x6_2
    ·rw [if_pos c15] at H
     have c15b0 : decide (0 ≤ x6_2) = true := decide_eq_true c15
     clear c15
     replace H := Option.bind_eq_some_iff.mp H
     obtain ⟨t108, A160, H⟩ := H
     replace H : (if t108 = true then (if t105 < 0 then (some false) else (if 0 ≤ t105 then (if t105 < (t101.length : Int) then (if ((rd_T26 t101 x6_2).f1) > ((rd_T26 t101 t105).f1) then (some false) else (if ((rd_T26 t101 x6_2).f1) = ((rd_T26 t101 t105).f1) then (if x6_2 < t105 then (some false) else (laws_FnNetBest.l0 k2 t101 t102 t105 (wrap64 (x6_2 + 1)))) else (laws_FnNetBest.l0 k2 t101 t102 t105 (wrap64 (x6_2 + 1))))) else (none)) else (none))) else (laws_FnNetBest.l0 k2 t101 t102 t105 (wrap64 (x6_2 + 1)))) = some r := H
     have A16 := zA A160
     clear A160
     by_cases c17 : t108 = true
     ·subst c17
      have H1 : (if t105 < 0 then (some false) else (if 0 ≤ t105 then (if t105 < (t101.length : Int) then (if ((rd_T26 t101 x6_2).f1) > ((rd_T26 t101 t105).f1) then (some false) else (if ((rd_T26 t101 x6_2).f1) = ((rd_T26 t101 t105).f1) then (if x6_2 < t105 then (some false) else (laws_FnNetBest.l0 k2 t101 t102 t105 (wrap64 (x6_2 + 1)))) else (laws_FnNetBest.l0 k2 t101 t102 t105 (wrap64 (x6_2 + 1))))) else (none)) else (none))) = some r := by rw [if_pos rfl] at H; exact H
      clear H
      have H := H1
      clear H1
      by_cases c18 : t105 < 0
      ·rw [if_pos c18] at H
       have c18b0 : decide (t105 < 0) = true := decide_eq_true c18
       clear c18
       obtain rfl := Option.some.inj H
       try go_wp2
       have n0_ := zA (Kd.R_drew HO_3.out)
       have n1_ := zA (below_drew1 HB.out)
       clear HO_3
       clear HB
       have HO_3 := n0_
       have HB := n1_
       clear n0_ n1_
       have p107 : 0 ≤ (x6_2 : Int) := of_decide_eq_true y2 
       have q107 : x6_2 < (t101.length : Int) := of_decide_eq_true y2 
       obtain ⟨ad107, e107, hx107_0, hx107_1⟩ := at_T26 (Kd.R_reads' HO_3.out).2.2 x6_2 p107 q107
       cases e107
       replace p107 := eq_true p107
       replace q107 := eq_true q107
       refine start_ (n := 41) (S := fun w' => w'.cell? (ad107.add ((x6_2).toNat * 2)) = some (.int .i64 ((rd_T26 t101 x6_2).f0)) ∧ w'.cell? ⟨(ad107.add ((x6_2).toNat * 2)).block, (ad107.add ((x6_2).toNat * 2)).off + 1, none⟩ = some (.int .i64 ((rd_T26 t101 x6_2).f1))) (ds := []) (zl 41 0) (by kernel_rfl) rfl rfl ⟨hx107_0, hx107_1⟩ (fun hHeld => ?_); refine with_tabW laws_FnNetBest.tab10 laws_FnNetBest.bits10 (fun HT_ HW_ => ?_)
       generalize wr.drew = w19 at HO_3 HB hx107_0 hx107_1 hHeld ⊢
       refine pure_ (i := 0) (N := some 35) (v := ?_) (a' := ?_) (zl 41 1) rfl rfl (any_of HT_.out (by kernel_rfl)) (fun _ _ _ h => h) (Or.inl ⟨by rfl, ?_⟩) ?_ ?_
       rotate_left
       ·intro w'
        go_simp
        with_reducible rfl
       rotate_left
       ·simp only [Act.put, List.setIfInBounds_toArray, List.set_cons_zero, List.set_cons_succ, i64_w, i32_w]
        rfl
       refine pure_ (i := 1) (N := some 36) (v := ?_) (a' := ?_) (zl 41 3) rfl rfl (any_of HT_.out (by kernel_rfl)) (fun _ _ _ h => h) (Or.inl ⟨by rfl, ?_⟩) ?_ ?_
       rotate_left
       ·intro w'
        go_simp
        with_reducible rfl
       rotate_left
       ·simp only [Act.put, List.setIfInBounds_toArray, List.set_cons_zero, List.set_cons_succ, i64_w, i32_w]
        rfl
       refine pure_ (i := 2) (N := some 37) (v := ?_) (a' := ?_) (zl 41 7) rfl rfl (any_of HT_.out (by kernel_rfl)) (fun _ _ _ h => h) (Or.inl ⟨by rfl, ?_⟩) ?_ ?_
       rotate_left
       ·intro w'
        go_simp
        with_reducible rfl
       rotate_left
       ·simp only [Act.put, List.setIfInBounds_toArray, List.set_cons_zero, List.set_cons_succ, i64_w, i32_w]
        rfl
       refine pure_ (i := 4) (N := some 39) (v := ?_) (a' := ?_) (zl 41 23) rfl rfl (any_of HT_.out (by kernel_rfl)) (fun _ _ _ h => h) (Or.inl ⟨by rfl, ?_⟩) ?_ ?_
       rotate_left
       ·intro w'
        go_simp
        with_reducible rfl
       rotate_left
       ·simp only [Act.put, List.setIfInBounds_toArray, List.set_cons_zero, List.set_cons_succ, i64_w, i32_w]
        rfl
       refine take_ (i := 3) (N := some 38) (v := ?_) (a' := ?_) (zl 41 31) rfl rfl (take_ofW HT_.out HW_.out (by kernel_rfl)) (fun _ _ _ h => h) (Or.inl ⟨by rfl, ?_⟩) hHeld ?_ ?_
       rotate_left
       ·rintro w' ⟨s0, s1⟩
        go_simp
        with_reducible rfl
       rotate_left
       ·simp only [Act.put, List.setIfInBounds_toArray, List.set_cons_zero, List.set_cons_succ, i64_w, i32_w]
        rfl
       refine one_ (i := 5) (N := some 40) (zl 41 63) rfl rfl (one_of HT_.out (by kernel_rfl)) (by decide) (fun K hK => ?_)
       refine goes_ Try.func33 (by kernel_rfl) rfl #[.agg #[.int .i64 ((rd_T26 t101 x6_2).f0), .int .i64 ((rd_T26 t101 x6_2).f1)], .int .i64 t102] (by rfl) rfl rfl y1  ?_
       with_reducible refine (spec_NetHas.calls k2 ((rd_T26 t101 x6_2).f0) ((rd_T26 t101 x6_2).f1) t102 true _ A16.out).mono ?_
       rintro e w20 ⟨rfl, hb⟩
       have HS0_ := (hb.cell (World.block_lt_of_cell? _ _ (hHeld.1))).trans (hHeld.1)
       have HS1_ := (hb.cell (World.block_lt_of_cell? _ _ (hHeld.2))).trans (hHeld.2)
       refine ⟨_, rfl, ?_⟩
       have n0_ := zA (Kd.R_below (zr HO_3.out) hb)
       have n1_ := zA (below_step (zHB) hb)
       clear HO_3
       clear HB
       have HO_3 := n0_
       have HB := n1_
       clear n0_ n1_
       (try clear hb)
       (try clear hb2)
       (try clear hk)
       (try clear hi)
       refine hK.out _ _ ⟨HS0_, HS1_⟩ (fun hHeld => ?_)
       clear hK K
       refine norm_ (a' := ?_) ?_ ?_
       rotate_left
       ·show Act.put _ (some 40) _ = _
        simp only [Act.put, List.setIfInBounds_toArray, List.set_cons_zero, List.set_cons_succ, i64_w, i32_w]
        rfl
       refine pure_ (i := 6) (N := some 41) (v := ?_) (a' := ?_) (zl 41 127) rfl rfl (any_of HT_.out (by kernel_rfl)) (fun _ _ _ h => h) (Or.inl ⟨by rfl, ?_⟩) ?_ ?_
       rotate_left
       ·intro w'
        go_simp
        with_reducible rfl
       rotate_left
       ·simp only [Act.put, List.setIfInBounds_toArray, List.set_cons_zero, List.set_cons_succ, i64_w, i32_w]
        rfl
       refine pure_ (i := 7) (N := some 42) (v := ?_) (a' := ?_) (zl 41 255) rfl rfl (any_of HT_.out (by kernel_rfl)) (fun _ _ _ h => h) (Or.inl ⟨by rfl, ?_⟩) ?_ ?_
       rotate_left
       ·intro w'
        go_simp
        with_reducible rfl
       rotate_left
       ·simp only [Act.put, List.setIfInBounds_toArray, List.set_cons_zero, List.set_cons_succ, i64_w, i32_w]
        rfl
       refine pure_ (i := 8) (N := some 43) (v := ?_) (a' := ?_) (zl 41 511) rfl rfl (any_of HT_.out (by kernel_rfl)) (fun _ _ _ h => h) (Or.inl ⟨by rfl, ?_⟩) ?_ ?_
       rotate_left
       ·intro w'
        go_simp
        with_reducible rfl
       rotate_left
       ·simp only [Act.put, List.setIfInBounds_toArray, List.set_cons_zero, List.set_cons_succ, i64_w, i32_w]
        rfl
       refine pure_ (i := 9) (N := some 44) (v := ?_) (a' := ?_) (zl 41 1023) rfl rfl (any_of HT_.out (by kernel_rfl)) (fun _ _ _ h => h) (Or.inl ⟨by rfl, ?_⟩) ?_ ?_
       rotate_left
       ·intro w'
        go_simp
        with_reducible rfl
       rotate_left
       ·simp only [Act.put, List.setIfInBounds_toArray, List.set_cons_zero, List.set_cons_succ, i64_w, i32_w]
        rfl
       refine pure_ (i := 10) (N := some 45) (v := undef) (a' := ?_) (zl 41 2047) rfl rfl (any_of HT_.out (by kernel_rfl)) (fun _ _ _ h => h) (Or.inr ⟨by rfl, rfl⟩) ?_ ?_
       rotate_left
       ·simp only [Act.put, List.setIfInBounds_toArray, List.set_cons_zero, List.set_cons_succ, i64_w, i32_w]
        rfl
       refine pure_ (i := 11) (N := some 46) (v := undef) (a' := ?_) (zl 41 4095) rfl rfl (any_of HT_.out (by kernel_rfl)) (fun _ _ _ h => h) (Or.inr ⟨by rfl, rfl⟩) ?_ ?_
       rotate_left
       ·simp only [Act.put, List.setIfInBounds_toArray, List.set_cons_zero, List.set_cons_succ, i64_w, i32_w]
        rfl
       refine pure_ (i := 12) (N := some 47) (v := undef) (a' := ?_) (zl 41 8191) rfl rfl (any_of HT_.out (by kernel_rfl)) (fun _ _ _ h => h) (Or.inr ⟨by rfl, rfl⟩) ?_ ?_
       rotate_left
       ·simp only [Act.put, List.setIfInBounds_toArray, List.set_cons_zero, List.set_cons_succ, i64_w, i32_w]
        rfl
       refine pure_ (i := 13) (N := some 48) (v := undef) (a' := ?_) (zl 41 16383) rfl rfl (any_of HT_.out (by kernel_rfl)) (fun _ _ _ h => h) (Or.inr ⟨by rfl, rfl⟩) ?_ ?_
       rotate_left
       ·simp only [Act.put, List.setIfInBounds_toArray, List.set_cons_zero, List.set_cons_succ, i64_w, i32_w]
        rfl
       refine pure_ (i := 14) (N := some 49) (v := undef) (a' := ?_) (zl 41 32767) rfl rfl (any_of HT_.out (by kernel_rfl)) (fun _ _ _ h => h) (Or.inr ⟨by rfl, rfl⟩) ?_ ?_
       rotate_left
       ·simp only [Act.put, List.setIfInBounds_toArray, List.set_cons_zero, List.set_cons_succ, i64_w, i32_w]
        rfl
       refine pure_ (i := 15) (N := some 50) (v := undef) (a' := ?_) (zl 41 65535) rfl rfl (any_of HT_.out (by kernel_rfl)) (fun _ _ _ h => h) (Or.inr ⟨by rfl, rfl⟩) ?_ ?_
       rotate_left
       ·simp only [Act.put, List.setIfInBounds_toArray, List.set_cons_zero, List.set_cons_succ, i64_w, i32_w]
        rfl
       refine pure_ (i := 16) (N := some 51) (v := undef) (a' := ?_) (zl 41 131071) rfl rfl (any_of HT_.out (by kernel_rfl)) (fun _ _ _ h => h) (Or.inr ⟨by rfl, rfl⟩) ?_ ?_
       rotate_left
       ·simp only [Act.put, List.setIfInBounds_toArray, List.set_cons_zero, List.set_cons_succ, i64_w, i32_w]
        rfl
       refine pure_ (i := 17) (N := some 52) (v := undef) (a' := ?_) (zl 41 262143) rfl rfl (any_of HT_.out (by kernel_rfl)) (fun _ _ _ h => h) (Or.inr ⟨by rfl, rfl⟩) ?_ ?_
       rotate_left
       ·simp only [Act.put, List.setIfInBounds_toArray, List.set_cons_zero, List.set_cons_succ, i64_w, i32_w]
        rfl
       refine pure_ (i := 18) (N := some 53) (v := undef) (a' := ?_) (zl 41 524287) rfl rfl (any_of HT_.out (by kernel_rfl)) (fun _ _ _ h => h) (Or.inr ⟨by rfl, rfl⟩) ?_ ?_
       rotate_left
       ·simp only [Act.put, List.setIfInBounds_toArray, List.set_cons_zero, List.set_cons_succ, i64_w, i32_w]
        rfl
       refine pure_ (i := 19) (N := some 54) (v := undef) (a' := ?_) (zl 41 1048575) rfl rfl (any_of HT_.out (by kernel_rfl)) (fun _ _ _ h => h) (Or.inr ⟨by rfl, rfl⟩) ?_ ?_
       rotate_left
       ·simp only [Act.put, List.setIfInBounds_toArray, List.set_cons_zero, List.set_cons_succ, i64_w, i32_w]
        rfl
       refine pure_ (i := 20) (N := some 55) (v := undef) (a' := ?_) (zl 41 2097151) rfl rfl (any_of HT_.out (by kernel_rfl)) (fun _ _ _ h => h) (Or.inr ⟨by rfl, rfl⟩) ?_ ?_
       rotate_left
       ·simp only [Act.put, List.setIfInBounds_toArray, List.set_cons_zero, List.set_cons_succ, i64_w, i32_w]
        rfl
       refine pure_ (i := 21) (N := some 56) (v := ?_) (a' := ?_) (zl 41 4194303) rfl rfl (any_of HT_.out (by kernel_rfl)) (fun _ _ _ h => h) (Or.inl ⟨by rfl, ?_⟩) ?_ ?_
       rotate_left
       ·intro w'
        go_simp
        with_reducible rfl
       rotate_left
       ·simp only [Act.put, List.setIfInBounds_toArray, List.set_cons_zero, List.set_cons_succ, i64_w, i32_w]
        rfl
       refine pure_ (i := 22) (N := some 57) (v := ?_) (a' := ?_) (zl 41 8388607) rfl rfl (any_of HT_.out (by kernel_rfl)) (fun _ _ _ h => h) (Or.inl ⟨by rfl, ?_⟩) ?_ ?_
       rotate_left
       ·intro w'
        go_simp
        with_reducible rfl
       rotate_left
       ·simp only [Act.put, List.setIfInBounds_toArray, List.set_cons_zero, List.set_cons_succ, i64_w, i32_w]
        rfl
       refine pure_ (i := 23) (N := some 58) (v := undef) (a' := ?_) (zl 41 16777215) rfl rfl (any_of HT_.out (by kernel_rfl)) (fun _ _ _ h => h) (Or.inr ⟨by rfl, rfl⟩) ?_ ?_
       rotate_left
       ·simp only [Act.put, List.setIfInBounds_toArray, List.set_cons_zero, List.set_cons_succ, i64_w, i32_w]
        rfl
       refine pure_ (i := 24) (N := some 59) (v := undef) (a' := ?_) (zl 41 33554431) rfl rfl (any_of HT_.out (by kernel_rfl)) (fun _ _ _ h => h) (Or.inr ⟨by rfl, rfl⟩) ?_ ?_
       rotate_left
       ·simp only [Act.put, List.setIfInBounds_toArray, List.set_cons_zero, List.set_cons_succ, i64_w, i32_w]
        rfl
       refine pure_ (i := 25) (N := some 60) (v := undef) (a' := ?_) (zl 41 67108863) rfl rfl (any_of HT_.out (by kernel_rfl)) (fun _ _ _ h => h) (Or.inr ⟨by rfl, rfl⟩) ?_ ?_
       rotate_left
       ·simp only [Act.put, List.setIfInBounds_toArray, List.set_cons_zero, List.set_cons_succ, i64_w, i32_w]
        rfl
       refine pure_ (i := 26) (N := some 61) (v := undef) (a' := ?_) (zl 41 134217727) rfl rfl (any_of HT_.out (by kernel_rfl)) (fun _ _ _ h => h) (Or.inr ⟨by rfl, rfl⟩) ?_ ?_
       rotate_left
       ·simp only [Act.put, List.setIfInBounds_toArray, List.set_cons_zero, List.set_cons_succ, i64_w, i32_w]
        rfl
       refine pure_ (i := 27) (N := some 62) (v := undef) (a' := ?_) (zl 41 268435455) rfl rfl (any_of HT_.out (by kernel_rfl)) (fun _ _ _ h => h) (Or.inr ⟨by rfl, rfl⟩) ?_ ?_
       rotate_left
       ·simp only [Act.put, List.setIfInBounds_toArray, List.set_cons_zero, List.set_cons_succ, i64_w, i32_w]
        rfl
       refine pure_ (i := 28) (N := some 63) (v := undef) (a' := ?_) (zl 41 536870911) rfl rfl (any_of HT_.out (by kernel_rfl)) (fun _ _ _ h => h) (Or.inr ⟨by rfl, rfl⟩) ?_ ?_
       rotate_left
       ·simp only [Act.put, List.setIfInBounds_toArray, List.set_cons_zero, List.set_cons_succ, i64_w, i32_w]
        rfl
       refine pure_ (i := 29) (N := some 64) (v := undef) (a' := ?_) (zl 41 1073741823) rfl rfl (any_of HT_.out (by kernel_rfl)) (fun _ _ _ h => h) (Or.inr ⟨by rfl, rfl⟩) ?_ ?_
       rotate_left
       ·simp only [Act.put, List.setIfInBounds_toArray, List.set_cons_zero, List.set_cons_succ, i64_w, i32_w]
        rfl
       refine pure_ (i := 30) (N := some 65) (v := undef) (a' := ?_) (zl 41 2147483647) rfl rfl (any_of HT_.out (by kernel_rfl)) (fun _ _ _ h => h) (Or.inr ⟨by rfl, rfl⟩) ?_ ?_
       rotate_left
       ·simp only [Act.put, List.setIfInBounds_toArray, List.set_cons_zero, List.set_cons_succ, i64_w, i32_w]
        rfl
       refine pure_ (i := 31) (N := some 66) (v := undef) (a' := ?_) (zl 41 4294967295) rfl rfl (any_of HT_.out (by kernel_rfl)) (fun _ _ _ h => h) (Or.inr ⟨by rfl, rfl⟩) ?_ ?_
       rotate_left
       ·simp only [Act.put, List.setIfInBounds_toArray, List.set_cons_zero, List.set_cons_succ, i64_w, i32_w]
        rfl
       refine pure_ (i := 32) (N := some 67) (v := undef) (a' := ?_) (zl 41 8589934591) rfl rfl (any_of HT_.out (by kernel_rfl)) (fun _ _ _ h => h) (Or.inr ⟨by rfl, rfl⟩) ?_ ?_
       rotate_left
       ·simp only [Act.put, List.setIfInBounds_toArray, List.set_cons_zero, List.set_cons_succ, i64_w, i32_w]
        rfl
       refine pure_ (i := 33) (N := some 68) (v := undef) (a' := ?_) (zl 41 17179869183) rfl rfl (any_of HT_.out (by kernel_rfl)) (fun _ _ _ h => h) (Or.inr ⟨by rfl, rfl⟩) ?_ ?_
       rotate_left
       ·simp only [Act.put, List.setIfInBounds_toArray, List.set_cons_zero, List.set_cons_succ, i64_w, i32_w]
        rfl
       refine pure_ (i := 34) (N := some 69) (v := undef) (a' := ?_) (zl 41 34359738367) rfl rfl (any_of HT_.out (by kernel_rfl)) (fun _ _ _ h => h) (Or.inr ⟨by rfl, rfl⟩) ?_ ?_
       rotate_left
       ·simp only [Act.put, List.setIfInBounds_toArray, List.set_cons_zero, List.set_cons_succ, i64_w, i32_w]
        rfl
       refine pure_ (i := 35) (N := some 70) (v := undef) (a' := ?_) (zl 41 68719476735) rfl rfl (any_of HT_.out (by kernel_rfl)) (fun _ _ _ h => h) (Or.inr ⟨by rfl, rfl⟩) ?_ ?_
       rotate_left
       ·simp only [Act.put, List.setIfInBounds_toArray, List.set_cons_zero, List.set_cons_succ, i64_w, i32_w]
        rfl
       refine pure_ (i := 36) (N := some 71) (v := undef) (a' := ?_) (zl 41 137438953471) rfl rfl (any_of HT_.out (by kernel_rfl)) (fun _ _ _ h => h) (Or.inr ⟨by rfl, rfl⟩) ?_ ?_
       rotate_left
       ·simp only [Act.put, List.setIfInBounds_toArray, List.set_cons_zero, List.set_cons_succ, i64_w, i32_w]
        rfl
       refine pure_ (i := 37) (N := some 72) (v := undef) (a' := ?_) (zl 41 274877906943) rfl rfl (any_of HT_.out (by kernel_rfl)) (fun _ _ _ h => h) (Or.inr ⟨by rfl, rfl⟩) ?_ ?_
       rotate_left
       ·simp only [Act.put, List.setIfInBounds_toArray, List.set_cons_zero, List.set_cons_succ, i64_w, i32_w]
        rfl
       refine pure_ (i := 38) (N := some 73) (v := undef) (a' := ?_) (zl 41 549755813887) rfl rfl (any_of HT_.out (by kernel_rfl)) (fun _ _ _ h => h) (Or.inr ⟨by rfl, rfl⟩) ?_ ?_
       rotate_left
       ·simp only [Act.put, List.setIfInBounds_toArray, List.set_cons_zero, List.set_cons_succ, i64_w, i32_w]
        rfl
       refine pure_ (i := 39) (N := some 74) (v := ?_) (a' := ?_) (zl 41 1099511627775) rfl rfl (any_of HT_.out (by kernel_rfl)) (fun _ _ _ h => h) (Or.inl ⟨by rfl, ?_⟩) ?_ ?_
       rotate_left
       ·intro w'
        go_simp
        with_reducible rfl
       rotate_left
       ·simp only [Act.put, List.setIfInBounds_toArray, List.set_cons_zero, List.set_cons_succ, i64_w, i32_w]
        rfl
       refine pure_ (i := 40) (N := some 75) (v := ?_) (a' := ?_) (zl 41 2199023255551) rfl rfl (any_of HT_.out (by kernel_rfl)) (fun _ _ _ h => h) (Or.inl ⟨by rfl, ?_⟩) ?_ ?_
       rotate_left
       ·intro w'
        go_simp
        with_reducible rfl
       rotate_left
       ·simp only [Act.put, List.setIfInBounds_toArray, List.set_cons_zero, List.set_cons_succ, i64_w, i32_w]
        rfl
       refine done_ (done_of HT_.out (by kernel_rfl)) ?_
       try go_wp2
       go_ret
       exact ⟨by first | rfl | (simp [errW_none, errW_some] <;> rfl) | (simp [*, errW_none, errW_some] <;> rfl), zHB⟩
      rw [if_neg c18] at H
      have c18b0 : decide (t105 < 0) = false := decide_eq_false c18
      clear c18
      by_cases c21 : 0 ≤ t105
      ·rw [if_pos c21] at H
       have c21b0 : decide (0 ≤ t105) = true := decide_eq_true c21
       clear c21
       by_cases c22 : t105 < (t101.length : Int)
       ·rw [if_pos c22] at H
        have c22b0 : decide (t105 < (t101.length : Int)) = true := decide_eq_true c22
        clear c22
        by_cases c23 : ((rd_T26 t101 x6_2).f1) > ((rd_T26 t101 t105).f1)
        ·rw [if_pos c23] at H
         have c23b0 : decide (((rd_T26 t101 t105).f1) < ((rd_T26 t101 x6_2).f1)) = true := decide_eq_true c23
         clear c23
         obtain rfl := Option.some.inj H
         try go_wp2
         have n0_ := zA (Kd.R_drew HO_3.out)
         have n1_ := zA (below_drew1 HB.out)
         clear HO_3
         clear HB
         have HO_3 := n0_
         have HB := n1_
         clear n0_ n1_
         have p107 : 0 ≤ (x6_2 : Int) := of_decide_eq_true y2 
         have q107 : x6_2 < (t101.length : Int) := of_decide_eq_true y2 
         obtain ⟨ad107, e107, hx107_0, hx107_1⟩ := at_T26 (Kd.R_reads' HO_3.out).2.2 x6_2 p107 q107
         cases e107
         replace p107 := eq_true p107
         replace q107 := eq_true q107
         have p109 : 0 ≤ (x6_2 : Int) := of_decide_eq_true y2 
         have q109 : x6_2 < (t101.length : Int) := of_decide_eq_true y2 
         obtain ⟨ad109, e109, hx109_0, hx109_1⟩ := at_T26 (Kd.R_reads' HO_3.out).2.2 x6_2 p109 q109
         obtain rfl : ad107 = ad109 := (by injection e109)
         replace p109 := eq_true p109
         replace q109 := eq_true q109
         have p110 : 0 ≤ (t105 : Int) := of_decide_eq_true y2 
         have q110 : t105 < (t101.length : Int) := of_decide_eq_true y2 
         obtain ⟨ad110, e110, hx110_0, hx110_1⟩ := at_T26 (Kd.R_reads' HO_3.out).2.2 t105 p110 q110
         obtain rfl : ad107 = ad110 := (by injection e110)
         replace p110 := eq_true p110
         replace q110 := eq_true q110
         refine start_ (n := 41) (S := fun w' => w'.cell? (ad107.add ((x6_2).toNat * 2)) = some (.int .i64 ((rd_T26 t101 x6_2).f0)) ∧ w'.cell? ⟨(ad107.add ((x6_2).toNat * 2)).block, (ad107.add ((x6_2).toNat * 2)).off + 1, none⟩ = some (.int .i64 ((rd_T26 t101 x6_2).f1)) ∧ w'.cell? (ad107.add ((x6_2).toNat * 2)) = some (.int .i64 ((rd_T26 t101 x6_2).f0)) ∧ w'.cell? ⟨(ad107.add ((x6_2).toNat * 2)).block, (ad107.add ((x6_2).toNat * 2)).off + 1, none⟩ = some (.int .i64 ((rd_T26 t101 x6_2).f1)) ∧ w'.cell? (ad107.add ((t105).toNat * 2)) = some (.int .i64 ((rd_T26 t101 t105).f0)) ∧ w'.cell? ⟨(ad107.add ((t105).toNat * 2)).block, (ad107.add ((t105).toNat * 2)).off + 1, none⟩ = some (.int .i64 ((rd_T26 t101 t105).f1))) (ds := []) (zl 41 0) (by kernel_rfl) rfl rfl ⟨hx107_0, hx107_1, hx109_0, hx109_1, hx110_0, hx110_1⟩ (fun hHeld => ?_); refine with_tabW laws_FnNetBest.tab10 laws_FnNetBest.bits10 (fun HT_ HW_ => ?_)
         generalize wr.drew = w24 at HO_3 HB hx107_0 hx107_1 hx109_0 hx109_1 hx110_0 hx110_1 hHeld ⊢
         refine pure_ (i := 0) (N := some 35) (v := ?_) (a' := ?_) (zl 41 1) rfl rfl (any_of HT_.out (by kernel_rfl)) (fun _ _ _ h => h) (Or.inl ⟨by rfl, ?_⟩) ?_ ?_
         rotate_left
         ·intro w'
          go_simp
          with_reducible rfl
         rotate_left
         ·simp only [Act.put, List.setIfInBounds_toArray, List.set_cons_zero, List.set_cons_succ, i64_w, i32_w]
          rfl
         refine pure_ (i := 1) (N := some 36) (v := ?_) (a' := ?_) (zl 41 3) rfl rfl (any_of HT_.out (by kernel_rfl)) (fun _ _ _ h => h) (Or.inl ⟨by rfl, ?_⟩) ?_ ?_
         rotate_left
         ·intro w'
          go_simp
          with_reducible rfl
         rotate_left
         ·simp only [Act.put, List.setIfInBounds_toArray, List.set_cons_zero, List.set_cons_succ, i64_w, i32_w]
          rfl
         refine pure_ (i := 2) (N := some 37) (v := ?_) (a' := ?_) (zl 41 7) rfl rfl (any_of HT_.out (by kernel_rfl)) (fun _ _ _ h => h) (Or.inl ⟨by rfl, ?_⟩) ?_ ?_
         rotate_left
         ·intro w'
          go_simp
          with_reducible rfl
         rotate_left
         ·simp only [Act.put, List.setIfInBounds_toArray, List.set_cons_zero, List.set_cons_succ, i64_w, i32_w]
          rfl
         refine pure_ (i := 4) (N := some 39) (v := ?_) (a' := ?_) (zl 41 23) rfl rfl (any_of HT_.out (by kernel_rfl)) (fun _ _ _ h => h) (Or.inl ⟨by rfl, ?_⟩) ?_ ?_
         rotate_left
         ·intro w'
          go_simp
          with_reducible rfl
         rotate_left
         ·simp only [Act.put, List.setIfInBounds_toArray, List.set_cons_zero, List.set_cons_succ, i64_w, i32_w]
          rfl
         refine take_ (i := 3) (N := some 38) (v := ?_) (a' := ?_) (zl 41 31) rfl rfl (take_ofW HT_.out HW_.out (by kernel_rfl)) (fun _ _ _ h => h) (Or.inl ⟨by rfl, ?_⟩) hHeld ?_ ?_
         rotate_left
         ·rintro w' ⟨s0, s1, s2, s3, s4, s5⟩
          go_simp
          with_reducible rfl
         rotate_left
         ·simp only [Act.put, List.setIfInBounds_toArray, List.set_cons_zero, List.set_cons_succ, i64_w, i32_w]
          rfl
         refine one_ (i := 5) (N := some 40) (zl 41 63) rfl rfl (one_of HT_.out (by kernel_rfl)) (by decide) (fun K hK => ?_)
         refine goes_ Try.func33 (by kernel_rfl) rfl #[.agg #[.int .i64 ((rd_T26 t101 x6_2).f0), .int .i64 ((rd_T26 t101 x6_2).f1)], .int .i64 t102] (by rfl) rfl rfl y1  ?_
         with_reducible refine (spec_NetHas.calls k2 ((rd_T26 t101 x6_2).f0) ((rd_T26 t101 x6_2).f1) t102 true _ A16.out).mono ?_
         rintro e w25 ⟨rfl, hb⟩
         have HS0_ := (hb.cell (World.block_lt_of_cell? _ _ (hHeld.1))).trans (hHeld.1)
         have HS1_ := (hb.cell (World.block_lt_of_cell? _ _ (hHeld.2.1))).trans (hHeld.2.1)
         have HS2_ := (hb.cell (World.block_lt_of_cell? _ _ (hHeld.2.2.1))).trans (hHeld.2.2.1)
         have HS3_ := (hb.cell (World.block_lt_of_cell? _ _ (hHeld.2.2.2.1))).trans (hHeld.2.2.2.1)
         have HS4_ := (hb.cell (World.block_lt_of_cell? _ _ (hHeld.2.2.2.2.1))).trans (hHeld.2.2.2.2.1)
         have HS5_ := (hb.cell (World.block_lt_of_cell? _ _ (hHeld.2.2.2.2.2))).trans (hHeld.2.2.2.2.2)
         refine ⟨_, rfl, ?_⟩
         have n0_ := zA (Kd.R_below (zr HO_3.out) hb)
         have n1_ := zA (below_step (zHB) hb)
         clear HO_3
         clear HB
         have HO_3 := n0_
         have HB := n1_
         clear n0_ n1_
         (try clear hb)
         (try clear hb2)
         (try clear hk)
         (try clear hi)
         refine hK.out _ _ ⟨HS0_, HS1_, HS2_, HS3_, HS4_, HS5_⟩ (fun hHeld => ?_)
         clear hK K
         refine norm_ (a' := ?_) ?_ ?_
         rotate_left
         ·show Act.put _ (some 40) _ = _
          simp only [Act.put, List.setIfInBounds_toArray, List.set_cons_zero, List.set_cons_succ, i64_w, i32_w]
          rfl
         refine pure_ (i := 6) (N := some 41) (v := ?_) (a' := ?_) (zl 41 127) rfl rfl (any_of HT_.out (by kernel_rfl)) (fun _ _ _ h => h) (Or.inl ⟨by rfl, ?_⟩) ?_ ?_
         rotate_left
         ·intro w'
          go_simp
          with_reducible rfl
         rotate_left
         ·simp only [Act.put, List.setIfInBounds_toArray, List.set_cons_zero, List.set_cons_succ, i64_w, i32_w]
          rfl
         refine pure_ (i := 7) (N := some 42) (v := ?_) (a' := ?_) (zl 41 255) rfl rfl (any_of HT_.out (by kernel_rfl)) (fun _ _ _ h => h) (Or.inl ⟨by rfl, ?_⟩) ?_ ?_
         rotate_left
         ·intro w'
          go_simp
          with_reducible rfl
         rotate_left
         ·simp only [Act.put, List.setIfInBounds_toArray, List.set_cons_zero, List.set_cons_succ, i64_w, i32_w]
          rfl
         refine pure_ (i := 8) (N := some 43) (v := ?_) (a' := ?_) (zl 41 511) rfl rfl (any_of HT_.out (by kernel_rfl)) (fun _ _ _ h => h) (Or.inl ⟨by rfl, ?_⟩) ?_ ?_
         rotate_left
         ·intro w'
          go_simp
          with_reducible rfl
         rotate_left
         ·simp only [Act.put, List.setIfInBounds_toArray, List.set_cons_zero, List.set_cons_succ, i64_w, i32_w]
          rfl
         refine pure_ (i := 9) (N := some 44) (v := ?_) (a' := ?_) (zl 41 1023) rfl rfl (any_of HT_.out (by kernel_rfl)) (fun _ _ _ h => h) (Or.inl ⟨by rfl, ?_⟩) ?_ ?_
         rotate_left
         ·intro w'
          go_simp
          with_reducible rfl
         rotate_left
         ·simp only [Act.put, List.setIfInBounds_toArray, List.set_cons_zero, List.set_cons_succ, i64_w, i32_w]
          rfl
         refine pure_ (i := 10) (N := some 45) (v := ?_) (a' := ?_) (zl 41 2047) rfl rfl (any_of HT_.out (by kernel_rfl)) (fun _ _ _ h => h) (Or.inl ⟨by rfl, ?_⟩) ?_ ?_
         rotate_left
         ·intro w'
          go_simp
          with_reducible rfl
         rotate_left
         ·simp only [Act.put, List.setIfInBounds_toArray, List.set_cons_zero, List.set_cons_succ, i64_w, i32_w]
          rfl
         refine pure_ (i := 11) (N := some 46) (v := ?_) (a' := ?_) (zl 41 4095) rfl rfl (any_of HT_.out (by kernel_rfl)) (fun _ _ _ h => h) (Or.inl ⟨by rfl, ?_⟩) ?_ ?_
         rotate_left
         ·intro w'
          go_simp
          with_reducible rfl
         rotate_left
         ·simp only [Act.put, List.setIfInBounds_toArray, List.set_cons_zero, List.set_cons_succ, i64_w, i32_w]
          rfl
         refine pure_ (i := 12) (N := some 47) (v := ?_) (a' := ?_) (zl 41 8191) rfl rfl (any_of HT_.out (by kernel_rfl)) (fun _ _ _ h => h) (Or.inl ⟨by rfl, ?_⟩) ?_ ?_
         rotate_left
         ·intro w'
          go_simp
          with_reducible rfl
         rotate_left
         ·simp only [Act.put, List.setIfInBounds_toArray, List.set_cons_zero, List.set_cons_succ, i64_w, i32_w]
          rfl
         refine pure_ (i := 13) (N := some 48) (v := ?_) (a' := ?_) (zl 41 16383) rfl rfl (any_of HT_.out (by kernel_rfl)) (fun _ _ _ h => h) (Or.inl ⟨by rfl, ?_⟩) ?_ ?_
         rotate_left
         ·intro w'
          go_simp
          with_reducible rfl
         rotate_left
         ·simp only [Act.put, List.setIfInBounds_toArray, List.set_cons_zero, List.set_cons_succ, i64_w, i32_w]
          rfl
         refine pure_ (i := 15) (N := some 50) (v := ?_) (a' := ?_) (zl 41 49151) rfl rfl (any_of HT_.out (by kernel_rfl)) (fun _ _ _ h => h) (Or.inl ⟨by rfl, ?_⟩) ?_ ?_
         rotate_left
         ·intro w'
          go_simp
          with_reducible rfl
         rotate_left
         ·simp only [Act.put, List.setIfInBounds_toArray, List.set_cons_zero, List.set_cons_succ, i64_w, i32_w]
          rfl
         refine pure_ (i := 16) (N := some 51) (v := ?_) (a' := ?_) (zl 41 114687) rfl rfl (any_of HT_.out (by kernel_rfl)) (fun _ _ _ h => h) (Or.inl ⟨by rfl, ?_⟩) ?_ ?_
         rotate_left
         ·intro w'
          go_simp
          with_reducible rfl
         rotate_left
         ·simp only [Act.put, List.setIfInBounds_toArray, List.set_cons_zero, List.set_cons_succ, i64_w, i32_w]
          rfl
         refine pure_ (i := 17) (N := some 52) (v := ?_) (a' := ?_) (zl 41 245759) rfl rfl (any_of HT_.out (by kernel_rfl)) (fun _ _ _ h => h) (Or.inl ⟨by rfl, ?_⟩) ?_ ?_
         rotate_left
         ·intro w'
          go_simp
          with_reducible rfl
         rotate_left
         ·simp only [Act.put, List.setIfInBounds_toArray, List.set_cons_zero, List.set_cons_succ, i64_w, i32_w]
          rfl
         refine pure_ (i := 18) (N := some 53) (v := ?_) (a' := ?_) (zl 41 507903) rfl rfl (any_of HT_.out (by kernel_rfl)) (fun _ _ _ h => h) (Or.inl ⟨by rfl, ?_⟩) ?_ ?_
         rotate_left
         ·intro w'
          go_simp
          with_reducible rfl
         rotate_left
         ·simp only [Act.put, List.setIfInBounds_toArray, List.set_cons_zero, List.set_cons_succ, i64_w, i32_w]
          rfl
         refine take_ (i := 14) (N := some 49) (v := ?_) (a' := ?_) (zl 41 524287) rfl rfl (take_ofW HT_.out HW_.out (by kernel_rfl)) (fun _ _ _ h => h) (Or.inl ⟨by rfl, ?_⟩) hHeld ?_ ?_
         rotate_left
         ·rintro w' ⟨s0, s1, s2, s3, s4, s5⟩
          go_simp
          with_reducible rfl
         rotate_left
         ·simp only [Act.put, List.setIfInBounds_toArray, List.set_cons_zero, List.set_cons_succ, i64_w, i32_w]
          rfl
         refine take_ (i := 19) (N := some 54) (v := ?_) (a' := ?_) (zl 41 1048575) rfl rfl (take_ofW HT_.out HW_.out (by kernel_rfl)) (fun _ _ _ h => h) (Or.inl ⟨by rfl, ?_⟩) hHeld ?_ ?_
         rotate_left
         ·rintro w' ⟨s0, s1, s2, s3, s4, s5⟩
          go_simp
          with_reducible rfl
         rotate_left
         ·simp only [Act.put, List.setIfInBounds_toArray, List.set_cons_zero, List.set_cons_succ, i64_w, i32_w]
          rfl
         refine pure_ (i := 20) (N := some 55) (v := ?_) (a' := ?_) (zl 41 2097151) rfl rfl (any_of HT_.out (by kernel_rfl)) (fun _ _ _ h => h) (Or.inl ⟨by rfl, ?_⟩) ?_ ?_
         rotate_left
         ·intro w'
          go_simp
          with_reducible rfl
         rotate_left
         ·simp only [Act.put, List.setIfInBounds_toArray, List.set_cons_zero, List.set_cons_succ, i64_w, i32_w]
          rfl
         refine pure_ (i := 21) (N := some 56) (v := ?_) (a' := ?_) (zl 41 4194303) rfl rfl (any_of HT_.out (by kernel_rfl)) (fun _ _ _ h => h) (Or.inl ⟨by rfl, ?_⟩) ?_ ?_
         rotate_left
         ·intro w'
          go_simp
          with_reducible rfl
         rotate_left
         ·simp only [Act.put, List.setIfInBounds_toArray, List.set_cons_zero, List.set_cons_succ, i64_w, i32_w]
          rfl
         refine pure_ (i := 22) (N := some 57) (v := ?_) (a' := ?_) (zl 41 8388607) rfl rfl (any_of HT_.out (by kernel_rfl)) (fun _ _ _ h => h) (Or.inl ⟨by rfl, ?_⟩) ?_ ?_
         rotate_left
         ·intro w'
          go_simp
          with_reducible rfl
         rotate_left
         ·simp only [Act.put, List.setIfInBounds_toArray, List.set_cons_zero, List.set_cons_succ, i64_w, i32_w]
          rfl
         refine pure_ (i := 23) (N := some 58) (v := undef) (a' := ?_) (zl 41 16777215) rfl rfl (any_of HT_.out (by kernel_rfl)) (fun _ _ _ h => h) (Or.inr ⟨by rfl, rfl⟩) ?_ ?_
         rotate_left
         ·simp only [Act.put, List.setIfInBounds_toArray, List.set_cons_zero, List.set_cons_succ, i64_w, i32_w]
          rfl
         refine pure_ (i := 24) (N := some 59) (v := undef) (a' := ?_) (zl 41 33554431) rfl rfl (any_of HT_.out (by kernel_rfl)) (fun _ _ _ h => h) (Or.inr ⟨by rfl, rfl⟩) ?_ ?_
         rotate_left
         ·simp only [Act.put, List.setIfInBounds_toArray, List.set_cons_zero, List.set_cons_succ, i64_w, i32_w]
          rfl
         refine pure_ (i := 25) (N := some 60) (v := undef) (a' := ?_) (zl 41 67108863) rfl rfl (any_of HT_.out (by kernel_rfl)) (fun _ _ _ h => h) (Or.inr ⟨by rfl, rfl⟩) ?_ ?_
         rotate_left
         ·simp only [Act.put, List.setIfInBounds_toArray, List.set_cons_zero, List.set_cons_succ, i64_w, i32_w]
          rfl
         refine pure_ (i := 26) (N := some 61) (v := undef) (a' := ?_) (zl 41 134217727) rfl rfl (any_of HT_.out (by kernel_rfl)) (fun _ _ _ h => h) (Or.inr ⟨by rfl, rfl⟩) ?_ ?_
         rotate_left
         ·simp only [Act.put, List.setIfInBounds_toArray, List.set_cons_zero, List.set_cons_succ, i64_w, i32_w]
          rfl
         refine pure_ (i := 27) (N := some 62) (v := undef) (a' := ?_) (zl 41 268435455) rfl rfl (any_of HT_.out (by kernel_rfl)) (fun _ _ _ h => h) (Or.inr ⟨by rfl, rfl⟩) ?_ ?_
         rotate_left
         ·simp only [Act.put, List.setIfInBounds_toArray, List.set_cons_zero, List.set_cons_succ, i64_w, i32_w]
          rfl
         refine pure_ (i := 28) (N := some 63) (v := undef) (a' := ?_) (zl 41 536870911) rfl rfl (any_of HT_.out (by kernel_rfl)) (fun _ _ _ h => h) (Or.inr ⟨by rfl, rfl⟩) ?_ ?_
         rotate_left
         ·simp only [Act.put, List.setIfInBounds_toArray, List.set_cons_zero, List.set_cons_succ, i64_w, i32_w]
          rfl
         refine pure_ (i := 29) (N := some 64) (v := undef) (a' := ?_) (zl 41 1073741823) rfl rfl (any_of HT_.out (by kernel_rfl)) (fun _ _ _ h => h) (Or.inr ⟨by rfl, rfl⟩) ?_ ?_
         rotate_left
         ·simp only [Act.put, List.setIfInBounds_toArray, List.set_cons_zero, List.set_cons_succ, i64_w, i32_w]
          rfl
         refine pure_ (i := 30) (N := some 65) (v := undef) (a' := ?_) (zl 41 2147483647) rfl rfl (any_of HT_.out (by kernel_rfl)) (fun _ _ _ h => h) (Or.inr ⟨by rfl, rfl⟩) ?_ ?_
         rotate_left
         ·simp only [Act.put, List.setIfInBounds_toArray, List.set_cons_zero, List.set_cons_succ, i64_w, i32_w]
          rfl
         refine pure_ (i := 31) (N := some 66) (v := undef) (a' := ?_) (zl 41 4294967295) rfl rfl (any_of HT_.out (by kernel_rfl)) (fun _ _ _ h => h) (Or.inr ⟨by rfl, rfl⟩) ?_ ?_
         rotate_left
         ·simp only [Act.put, List.setIfInBounds_toArray, List.set_cons_zero, List.set_cons_succ, i64_w, i32_w]
          rfl
         refine pure_ (i := 32) (N := some 67) (v := undef) (a' := ?_) (zl 41 8589934591) rfl rfl (any_of HT_.out (by kernel_rfl)) (fun _ _ _ h => h) (Or.inr ⟨by rfl, rfl⟩) ?_ ?_
         rotate_left
         ·simp only [Act.put, List.setIfInBounds_toArray, List.set_cons_zero, List.set_cons_succ, i64_w, i32_w]
          rfl
         refine pure_ (i := 33) (N := some 68) (v := undef) (a' := ?_) (zl 41 17179869183) rfl rfl (any_of HT_.out (by kernel_rfl)) (fun _ _ _ h => h) (Or.inr ⟨by rfl, rfl⟩) ?_ ?_
         rotate_left
         ·simp only [Act.put, List.setIfInBounds_toArray, List.set_cons_zero, List.set_cons_succ, i64_w, i32_w]
          rfl
         refine pure_ (i := 34) (N := some 69) (v := undef) (a' := ?_) (zl 41 34359738367) rfl rfl (any_of HT_.out (by kernel_rfl)) (fun _ _ _ h => h) (Or.inr ⟨by rfl, rfl⟩) ?_ ?_
         rotate_left
         ·simp only [Act.put, List.setIfInBounds_toArray, List.set_cons_zero, List.set_cons_succ, i64_w, i32_w]
          rfl
         refine pure_ (i := 35) (N := some 70) (v := undef) (a' := ?_) (zl 41 68719476735) rfl rfl (any_of HT_.out (by kernel_rfl)) (fun _ _ _ h => h) (Or.inr ⟨by rfl, rfl⟩) ?_ ?_
         rotate_left
         ·simp only [Act.put, List.setIfInBounds_toArray, List.set_cons_zero, List.set_cons_succ, i64_w, i32_w]
          rfl
         refine pure_ (i := 36) (N := some 71) (v := undef) (a' := ?_) (zl 41 137438953471) rfl rfl (any_of HT_.out (by kernel_rfl)) (fun _ _ _ h => h) (Or.inr ⟨by rfl, rfl⟩) ?_ ?_
         rotate_left
         ·simp only [Act.put, List.setIfInBounds_toArray, List.set_cons_zero, List.set_cons_succ, i64_w, i32_w]
          rfl
         refine pure_ (i := 37) (N := some 72) (v := undef) (a' := ?_) (zl 41 274877906943) rfl rfl (any_of HT_.out (by kernel_rfl)) (fun _ _ _ h => h) (Or.inr ⟨by rfl, rfl⟩) ?_ ?_
         rotate_left
         ·simp only [Act.put, List.setIfInBounds_toArray, List.set_cons_zero, List.set_cons_succ, i64_w, i32_w]
          rfl
         refine pure_ (i := 38) (N := some 73) (v := undef) (a' := ?_) (zl 41 549755813887) rfl rfl (any_of HT_.out (by kernel_rfl)) (fun _ _ _ h => h) (Or.inr ⟨by rfl, rfl⟩) ?_ ?_
         rotate_left
         ·simp only [Act.put, List.setIfInBounds_toArray, List.set_cons_zero, List.set_cons_succ, i64_w, i32_w]
          rfl
         refine pure_ (i := 39) (N := some 74) (v := ?_) (a' := ?_) (zl 41 1099511627775) rfl rfl (any_of HT_.out (by kernel_rfl)) (fun _ _ _ h => h) (Or.inl ⟨by rfl, ?_⟩) ?_ ?_
         rotate_left
         ·intro w'
          go_simp
          with_reducible rfl
         rotate_left
         ·simp only [Act.put, List.setIfInBounds_toArray, List.set_cons_zero, List.set_cons_succ, i64_w, i32_w]
          rfl
         refine pure_ (i := 40) (N := some 75) (v := ?_) (a' := ?_) (zl 41 2199023255551) rfl rfl (any_of HT_.out (by kernel_rfl)) (fun _ _ _ h => h) (Or.inl ⟨by rfl, ?_⟩) ?_ ?_
         rotate_left
         ·intro w'
          go_simp
          with_reducible rfl
         rotate_left
         ·simp only [Act.put, List.setIfInBounds_toArray, List.set_cons_zero, List.set_cons_succ, i64_w, i32_w]
          rfl
         refine done_ (done_of HT_.out (by kernel_rfl)) ?_
         try go_wp2
         go_ret
         exact ⟨by first | rfl | (simp [errW_none, errW_some] <;> rfl) | (simp [*, errW_none, errW_some] <;> rfl), zHB⟩
        rw [if_neg c23] at H
        have c23b0 : decide (((rd_T26 t101 t105).f1) < ((rd_T26 t101 x6_2).f1)) = false := decide_eq_false c23
        clear c23
        by_cases c26 : ((rd_T26 t101 x6_2).f1) = ((rd_T26 t101 t105).f1)
        ·rw [if_pos c26] at H
         have c26b0 : (((rd_T26 t101 x6_2).f1) == ((rd_T26 t101 t105).f1)) = true := beq_iff_eq.mpr c26
         have c26b1 : (((rd_T26 t101 x6_2).f1) != ((rd_T26 t101 t105).f1)) = false := bne_eq_false_iff_eq.mpr c26
         clear c26
         by_cases c27 : x6_2 < t105
         ·rw [if_pos c27] at H
          have c27b0 : decide (x6_2 < t105) = true := decide_eq_true c27
          clear c27
          obtain rfl := Option.some.inj H
          try go_wp2
          have n0_ := zA (Kd.R_drew HO_3.out)
          have n1_ := zA (below_drew1 HB.out)
          clear HO_3
          clear HB
          have HO_3 := n0_
          have HB := n1_
          clear n0_ n1_
          have p107 : 0 ≤ (x6_2 : Int) := of_decide_eq_true y2 
          have q107 : x6_2 < (t101.length : Int) := of_decide_eq_true y2 
          obtain ⟨ad107, e107, hx107_0, hx107_1⟩ := at_T26 (Kd.R_reads' HO_3.out).2.2 x6_2 p107 q107
          cases e107
          replace p107 := eq_true p107
          replace q107 := eq_true q107
          have p109 : 0 ≤ (x6_2 : Int) := of_decide_eq_true y2 
          have q109 : x6_2 < (t101.length : Int) := of_decide_eq_true y2 
          obtain ⟨ad109, e109, hx109_0, hx109_1⟩ := at_T26 (Kd.R_reads' HO_3.out).2.2 x6_2 p109 q109
          obtain rfl : ad107 = ad109 := (by injection e109)
          replace p109 := eq_true p109
          replace q109 := eq_true q109
          have p110 : 0 ≤ (t105 : Int) := of_decide_eq_true y2 
          have q110 : t105 < (t101.length : Int) := of_decide_eq_true y2 
          obtain ⟨ad110, e110, hx110_0, hx110_1⟩ := at_T26 (Kd.R_reads' HO_3.out).2.2 t105 p110 q110
          obtain rfl : ad107 = ad110 := (by injection e110)
          replace p110 := eq_true p110
          replace q110 := eq_true q110
          have p111 : 0 ≤ (x6_2 : Int) := of_decide_eq_true y2 
          have q111 : x6_2 < (t101.length : Int) := of_decide_eq_true y2 
          obtain ⟨ad111, e111, hx111_0, hx111_1⟩ := at_T26 (Kd.R_reads' HO_3.out).2.2 x6_2 p111 q111
          obtain rfl : ad107 = ad111 := (by injection e111)
          replace p111 := eq_true p111
          replace q111 := eq_true q111
          have p112 : 0 ≤ (t105 : Int) := of_decide_eq_true y2 
          have q112 : t105 < (t101.length : Int) := of_decide_eq_true y2 
          obtain ⟨ad112, e112, hx112_0, hx112_1⟩ := at_T26 (Kd.R_reads' HO_3.out).2.2 t105 p112 q112
          obtain rfl : ad107 = ad112 := (by injection e112)
          replace p112 := eq_true p112
          replace q112 := eq_true q112
          refine start_ (n := 41) (S := fun w' => w'.cell? (ad107.add ((x6_2).toNat * 2)) = some (.int .i64 ((rd_T26 t101 x6_2).f0)) ∧ w'.cell? ⟨(ad107.add ((x6_2).toNat * 2)).block, (ad107.add ((x6_2).toNat * 2)).off + 1, none⟩ = some (.int .i64 ((rd_T26 t101 x6_2).f1)) ∧ w'.cell? (ad107.add ((x6_2).toNat * 2)) = some (.int .i64 ((rd_T26 t101 x6_2).f0)) ∧ w'.cell? ⟨(ad107.add ((x6_2).toNat * 2)).block, (ad107.add ((x6_2).toNat * 2)).off + 1, none⟩ = some (.int .i64 ((rd_T26 t101 x6_2).f1)) ∧ w'.cell? (ad107.add ((t105).toNat * 2)) = some (.int .i64 ((rd_T26 t101 t105).f0)) ∧ w'.cell? ⟨(ad107.add ((t105).toNat * 2)).block, (ad107.add ((t105).toNat * 2)).off + 1, none⟩ = some (.int .i64 ((rd_T26 t101 t105).f1)) ∧ w'.cell? (ad107.add ((x6_2).toNat * 2)) = some (.int .i64 ((rd_T26 t101 x6_2).f0)) ∧ w'.cell? ⟨(ad107.add ((x6_2).toNat * 2)).block, (ad107.add ((x6_2).toNat * 2)).off + 1, none⟩ = some (.int .i64 ((rd_T26 t101 x6_2).f1)) ∧ w'.cell? (ad107.add ((t105).toNat * 2)) = some (.int .i64 ((rd_T26 t101 t105).f0)) ∧ w'.cell? ⟨(ad107.add ((t105).toNat * 2)).block, (ad107.add ((t105).toNat * 2)).off + 1, none⟩ = some (.int .i64 ((rd_T26 t101 t105).f1))) (ds := []) (zl 41 0) (by kernel_rfl) rfl rfl ⟨hx107_0, hx107_1, hx109_0, hx109_1, hx110_0, hx110_1, hx111_0, hx111_1, hx112_0, hx112_1⟩ (fun hHeld => ?_); refine with_tabW laws_FnNetBest.tab10 laws_FnNetBest.bits10 (fun HT_ HW_ => ?_)
          generalize wr.drew = w28 at HO_3 HB hx107_0 hx107_1 hx109_0 hx109_1 hx110_0 hx110_1 hx111_0 hx111_1 hx112_0 hx112_1 hHeld ⊢
          refine pure_ (i := 0) (N := some 35) (v := ?_) (a' := ?_) (zl 41 1) rfl rfl (any_of HT_.out (by kernel_rfl)) (fun _ _ _ h => h) (Or.inl ⟨by rfl, ?_⟩) ?_ ?_
          rotate_left
          ·intro w'
           go_simp
           with_reducible rfl
          rotate_left
          ·simp only [Act.put, List.setIfInBounds_toArray, List.set_cons_zero, List.set_cons_succ, i64_w, i32_w]
           rfl
          refine pure_ (i := 1) (N := some 36) (v := ?_) (a' := ?_) (zl 41 3) rfl rfl (any_of HT_.out (by kernel_rfl)) (fun _ _ _ h => h) (Or.inl ⟨by rfl, ?_⟩) ?_ ?_
          rotate_left
          ·intro w'
           go_simp
           with_reducible rfl
          rotate_left
          ·simp only [Act.put, List.setIfInBounds_toArray, List.set_cons_zero, List.set_cons_succ, i64_w, i32_w]
           rfl
          refine pure_ (i := 2) (N := some 37) (v := ?_) (a' := ?_) (zl 41 7) rfl rfl (any_of HT_.out (by kernel_rfl)) (fun _ _ _ h => h) (Or.inl ⟨by rfl, ?_⟩) ?_ ?_
          rotate_left
          ·intro w'
           go_simp
           with_reducible rfl
          rotate_left
          ·simp only [Act.put, List.setIfInBounds_toArray, List.set_cons_zero, List.set_cons_succ, i64_w, i32_w]
           rfl
          refine pure_ (i := 4) (N := some 39) (v := ?_) (a' := ?_) (zl 41 23) rfl rfl (any_of HT_.out (by kernel_rfl)) (fun _ _ _ h => h) (Or.inl ⟨by rfl, ?_⟩) ?_ ?_
          rotate_left
          ·intro w'
           go_simp
           with_reducible rfl
          rotate_left
          ·simp only [Act.put, List.setIfInBounds_toArray, List.set_cons_zero, List.set_cons_succ, i64_w, i32_w]
           rfl
          refine take_ (i := 3) (N := some 38) (v := ?_) (a' := ?_) (zl 41 31) rfl rfl (take_ofW HT_.out HW_.out (by kernel_rfl)) (fun _ _ _ h => h) (Or.inl ⟨by rfl, ?_⟩) hHeld ?_ ?_
          rotate_left
          ·rintro w' ⟨s0, s1, s2, s3, s4, s5, s6, s7, s8, s9⟩
           go_simp
           with_reducible rfl
          rotate_left
          ·simp only [Act.put, List.setIfInBounds_toArray, List.set_cons_zero, List.set_cons_succ, i64_w, i32_w]
           rfl
          refine one_ (i := 5) (N := some 40) (zl 41 63) rfl rfl (one_of HT_.out (by kernel_rfl)) (by decide) (fun K hK => ?_)
          refine goes_ Try.func33 (by kernel_rfl) rfl #[.agg #[.int .i64 ((rd_T26 t101 x6_2).f0), .int .i64 ((rd_T26 t101 x6_2).f1)], .int .i64 t102] (by rfl) rfl rfl y1  ?_
          with_reducible refine (spec_NetHas.calls k2 ((rd_T26 t101 x6_2).f0) ((rd_T26 t101 x6_2).f1) t102 true _ A16.out).mono ?_
          rintro e w29 ⟨rfl, hb⟩
          have HS0_ := (hb.cell (World.block_lt_of_cell? _ _ (hHeld.1))).trans (hHeld.1)
          have HS1_ := (hb.cell (World.block_lt_of_cell? _ _ (hHeld.2.1))).trans (hHeld.2.1)
          have HS2_ := (hb.cell (World.block_lt_of_cell? _ _ (hHeld.2.2.1))).trans (hHeld.2.2.1)
          have HS3_ := (hb.cell (World.block_lt_of_cell? _ _ (hHeld.2.2.2.1))).trans (hHeld.2.2.2.1)
          have HS4_ := (hb.cell (World.block_lt_of_cell? _ _ (hHeld.2.2.2.2.1))).trans (hHeld.2.2.2.2.1)
          have HS5_ := (hb.cell (World.block_lt_of_cell? _ _ (hHeld.2.2.2.2.2.1))).trans (hHeld.2.2.2.2.2.1)
          have HS6_ := (hb.cell (World.block_lt_of_cell? _ _ (hHeld.2.2.2.2.2.2.1))).trans (hHeld.2.2.2.2.2.2.1)
          have HS7_ := (hb.cell (World.block_lt_of_cell? _ _ (hHeld.2.2.2.2.2.2.2.1))).trans (hHeld.2.2.2.2.2.2.2.1)
          have HS8_ := (hb.cell (World.block_lt_of_cell? _ _ (hHeld.2.2.2.2.2.2.2.2.1))).trans (hHeld.2.2.2.2.2.2.2.2.1)
          have HS9_ := (hb.cell (World.block_lt_of_cell? _ _ (hHeld.2.2.2.2.2.2.2.2.2))).trans (hHeld.2.2.2.2.2.2.2.2.2)
          refine ⟨_, rfl, ?_⟩
          have n0_ := zA (Kd.R_below (zr HO_3.out) hb)
          have n1_ := zA (below_step (zHB) hb)
          clear HO_3
          clear HB
          have HO_3 := n0_
          have HB := n1_
          clear n0_ n1_
          (try clear hb)
          (try clear hb2)
          (try clear hk)
          (try clear hi)
          refine hK.out _ _ ⟨HS0_, HS1_, HS2_, HS3_, HS4_, HS5_, HS6_, HS7_, HS8_, HS9_⟩ (fun hHeld => ?_)
          clear hK K
          refine norm_ (a' := ?_) ?_ ?_
          rotate_left
          ·show Act.put _ (some 40) _ = _
           simp only [Act.put, List.setIfInBounds_toArray, List.set_cons_zero, List.set_cons_succ, i64_w, i32_w]
           rfl
          refine pure_ (i := 6) (N := some 41) (v := ?_) (a' := ?_) (zl 41 127) rfl rfl (any_of HT_.out (by kernel_rfl)) (fun _ _ _ h => h) (Or.inl ⟨by rfl, ?_⟩) ?_ ?_
          rotate_left
          ·intro w'
           go_simp
           with_reducible rfl
          rotate_left
          ·simp only [Act.put, List.setIfInBounds_toArray, List.set_cons_zero, List.set_cons_succ, i64_w, i32_w]
           rfl
          refine pure_ (i := 7) (N := some 42) (v := ?_) (a' := ?_) (zl 41 255) rfl rfl (any_of HT_.out (by kernel_rfl)) (fun _ _ _ h => h) (Or.inl ⟨by rfl, ?_⟩) ?_ ?_
          rotate_left
          ·intro w'
           go_simp
           with_reducible rfl
          rotate_left
          ·simp only [Act.put, List.setIfInBounds_toArray, List.set_cons_zero, List.set_cons_succ, i64_w, i32_w]
           rfl
          refine pure_ (i := 8) (N := some 43) (v := ?_) (a' := ?_) (zl 41 511) rfl rfl (any_of HT_.out (by kernel_rfl)) (fun _ _ _ h => h) (Or.inl ⟨by rfl, ?_⟩) ?_ ?_
          rotate_left
          ·intro w'
           go_simp
           with_reducible rfl
          rotate_left
          ·simp only [Act.put, List.setIfInBounds_toArray, List.set_cons_zero, List.set_cons_succ, i64_w, i32_w]
           rfl
          refine pure_ (i := 9) (N := some 44) (v := ?_) (a' := ?_) (zl 41 1023) rfl rfl (any_of HT_.out (by kernel_rfl)) (fun _ _ _ h => h) (Or.inl ⟨by rfl, ?_⟩) ?_ ?_
          rotate_left
          ·intro w'
           go_simp
           with_reducible rfl
          rotate_left
          ·simp only [Act.put, List.setIfInBounds_toArray, List.set_cons_zero, List.set_cons_succ, i64_w, i32_w]
           rfl
          refine pure_ (i := 10) (N := some 45) (v := ?_) (a' := ?_) (zl 41 2047) rfl rfl (any_of HT_.out (by kernel_rfl)) (fun _ _ _ h => h) (Or.inl ⟨by rfl, ?_⟩) ?_ ?_
          rotate_left
          ·intro w'
           go_simp
           with_reducible rfl
          rotate_left
          ·simp only [Act.put, List.setIfInBounds_toArray, List.set_cons_zero, List.set_cons_succ, i64_w, i32_w]
           rfl
          refine pure_ (i := 11) (N := some 46) (v := ?_) (a' := ?_) (zl 41 4095) rfl rfl (any_of HT_.out (by kernel_rfl)) (fun _ _ _ h => h) (Or.inl ⟨by rfl, ?_⟩) ?_ ?_
          rotate_left
          ·intro w'
           go_simp
           with_reducible rfl
          rotate_left
          ·simp only [Act.put, List.setIfInBounds_toArray, List.set_cons_zero, List.set_cons_succ, i64_w, i32_w]
           rfl
          refine pure_ (i := 12) (N := some 47) (v := ?_) (a' := ?_) (zl 41 8191) rfl rfl (any_of HT_.out (by kernel_rfl)) (fun _ _ _ h => h) (Or.inl ⟨by rfl, ?_⟩) ?_ ?_
          rotate_left
          ·intro w'
           go_simp
           with_reducible rfl
          rotate_left
          ·simp only [Act.put, List.setIfInBounds_toArray, List.set_cons_zero, List.set_cons_succ, i64_w, i32_w]
           rfl
          refine pure_ (i := 13) (N := some 48) (v := ?_) (a' := ?_) (zl 41 16383) rfl rfl (any_of HT_.out (by kernel_rfl)) (fun _ _ _ h => h) (Or.inl ⟨by rfl, ?_⟩) ?_ ?_
          rotate_left
          ·intro w'
           go_simp
           with_reducible rfl
          rotate_left
          ·simp only [Act.put, List.setIfInBounds_toArray, List.set_cons_zero, List.set_cons_succ, i64_w, i32_w]
           rfl
          refine pure_ (i := 15) (N := some 50) (v := ?_) (a' := ?_) (zl 41 49151) rfl rfl (any_of HT_.out (by kernel_rfl)) (fun _ _ _ h => h) (Or.inl ⟨by rfl, ?_⟩) ?_ ?_
          rotate_left
          ·intro w'
           go_simp
           with_reducible rfl
          rotate_left
          ·simp only [Act.put, List.setIfInBounds_toArray, List.set_cons_zero, List.set_cons_succ, i64_w, i32_w]
           rfl
          refine pure_ (i := 16) (N := some 51) (v := ?_) (a' := ?_) (zl 41 114687) rfl rfl (any_of HT_.out (by kernel_rfl)) (fun _ _ _ h => h) (Or.inl ⟨by rfl, ?_⟩) ?_ ?_
          rotate_left
          ·intro w'
           go_simp
           with_reducible rfl
          rotate_left
          ·simp only [Act.put, List.setIfInBounds_toArray, List.set_cons_zero, List.set_cons_succ, i64_w, i32_w]
           rfl
          refine pure_ (i := 17) (N := some 52) (v := ?_) (a' := ?_) (zl 41 245759) rfl rfl (any_of HT_.out (by kernel_rfl)) (fun _ _ _ h => h) (Or.inl ⟨by rfl, ?_⟩) ?_ ?_
          rotate_left
          ·intro w'
           go_simp
           with_reducible rfl
          rotate_left
          ·simp only [Act.put, List.setIfInBounds_toArray, List.set_cons_zero, List.set_cons_succ, i64_w, i32_w]
           rfl
          refine pure_ (i := 18) (N := some 53) (v := ?_) (a' := ?_) (zl 41 507903) rfl rfl (any_of HT_.out (by kernel_rfl)) (fun _ _ _ h => h) (Or.inl ⟨by rfl, ?_⟩) ?_ ?_
          rotate_left
          ·intro w'
           go_simp
           with_reducible rfl
          rotate_left
          ·simp only [Act.put, List.setIfInBounds_toArray, List.set_cons_zero, List.set_cons_succ, i64_w, i32_w]
           rfl
          refine take_ (i := 14) (N := some 49) (v := ?_) (a' := ?_) (zl 41 524287) rfl rfl (take_ofW HT_.out HW_.out (by kernel_rfl)) (fun _ _ _ h => h) (Or.inl ⟨by rfl, ?_⟩) hHeld ?_ ?_
          rotate_left
          ·rintro w' ⟨s0, s1, s2, s3, s4, s5, s6, s7, s8, s9⟩
           go_simp
           with_reducible rfl
          rotate_left
          ·simp only [Act.put, List.setIfInBounds_toArray, List.set_cons_zero, List.set_cons_succ, i64_w, i32_w]
           rfl
          refine take_ (i := 19) (N := some 54) (v := ?_) (a' := ?_) (zl 41 1048575) rfl rfl (take_ofW HT_.out HW_.out (by kernel_rfl)) (fun _ _ _ h => h) (Or.inl ⟨by rfl, ?_⟩) hHeld ?_ ?_
          rotate_left
          ·rintro w' ⟨s0, s1, s2, s3, s4, s5, s6, s7, s8, s9⟩
           go_simp
           with_reducible rfl
          rotate_left
          ·simp only [Act.put, List.setIfInBounds_toArray, List.set_cons_zero, List.set_cons_succ, i64_w, i32_w]
           rfl
          refine pure_ (i := 20) (N := some 55) (v := ?_) (a' := ?_) (zl 41 2097151) rfl rfl (any_of HT_.out (by kernel_rfl)) (fun _ _ _ h => h) (Or.inl ⟨by rfl, ?_⟩) ?_ ?_
          rotate_left
          ·intro w'
           go_simp
           with_reducible rfl
          rotate_left
          ·simp only [Act.put, List.setIfInBounds_toArray, List.set_cons_zero, List.set_cons_succ, i64_w, i32_w]
           rfl
          refine pure_ (i := 21) (N := some 56) (v := ?_) (a' := ?_) (zl 41 4194303) rfl rfl (any_of HT_.out (by kernel_rfl)) (fun _ _ _ h => h) (Or.inl ⟨by rfl, ?_⟩) ?_ ?_
          rotate_left
          ·intro w'
           go_simp
           with_reducible rfl
          rotate_left
          ·simp only [Act.put, List.setIfInBounds_toArray, List.set_cons_zero, List.set_cons_succ, i64_w, i32_w]
           rfl
          refine pure_ (i := 22) (N := some 57) (v := ?_) (a' := ?_) (zl 41 8388607) rfl rfl (any_of HT_.out (by kernel_rfl)) (fun _ _ _ h => h) (Or.inl ⟨by rfl, ?_⟩) ?_ ?_
          rotate_left
          ·intro w'
           go_simp
           with_reducible rfl
          rotate_left
          ·simp only [Act.put, List.setIfInBounds_toArray, List.set_cons_zero, List.set_cons_succ, i64_w, i32_w]
           rfl
          refine pure_ (i := 23) (N := some 58) (v := ?_) (a' := ?_) (zl 41 16777215) rfl rfl (any_of HT_.out (by kernel_rfl)) (fun _ _ _ h => h) (Or.inl ⟨by rfl, ?_⟩) ?_ ?_
          rotate_left
          ·intro w'
           go_simp
           with_reducible rfl
          rotate_left
          ·simp only [Act.put, List.setIfInBounds_toArray, List.set_cons_zero, List.set_cons_succ, i64_w, i32_w]
           rfl
          refine pure_ (i := 24) (N := some 59) (v := ?_) (a' := ?_) (zl 41 33554431) rfl rfl (any_of HT_.out (by kernel_rfl)) (fun _ _ _ h => h) (Or.inl ⟨by rfl, ?_⟩) ?_ ?_
          rotate_left
          ·intro w'
           go_simp
           with_reducible rfl
          rotate_left
          ·simp only [Act.put, List.setIfInBounds_toArray, List.set_cons_zero, List.set_cons_succ, i64_w, i32_w]
           rfl
          refine pure_ (i := 25) (N := some 60) (v := ?_) (a' := ?_) (zl 41 67108863) rfl rfl (any_of HT_.out (by kernel_rfl)) (fun _ _ _ h => h) (Or.inl ⟨by rfl, ?_⟩) ?_ ?_
          rotate_left
          ·intro w'
           go_simp
           with_reducible rfl
          rotate_left
          ·simp only [Act.put, List.setIfInBounds_toArray, List.set_cons_zero, List.set_cons_succ, i64_w, i32_w]
           rfl
          refine pure_ (i := 26) (N := some 61) (v := ?_) (a' := ?_) (zl 41 134217727) rfl rfl (any_of HT_.out (by kernel_rfl)) (fun _ _ _ h => h) (Or.inl ⟨by rfl, ?_⟩) ?_ ?_
          rotate_left
          ·intro w'
           go_simp
           with_reducible rfl
          rotate_left
          ·simp only [Act.put, List.setIfInBounds_toArray, List.set_cons_zero, List.set_cons_succ, i64_w, i32_w]
           rfl
          refine pure_ (i := 28) (N := some 63) (v := ?_) (a' := ?_) (zl 41 402653183) rfl rfl (any_of HT_.out (by kernel_rfl)) (fun _ _ _ h => h) (Or.inl ⟨by rfl, ?_⟩) ?_ ?_
          rotate_left
          ·intro w'
           go_simp
           with_reducible rfl
          rotate_left
          ·simp only [Act.put, List.setIfInBounds_toArray, List.set_cons_zero, List.set_cons_succ, i64_w, i32_w]
           rfl
          refine pure_ (i := 29) (N := some 64) (v := ?_) (a' := ?_) (zl 41 939524095) rfl rfl (any_of HT_.out (by kernel_rfl)) (fun _ _ _ h => h) (Or.inl ⟨by rfl, ?_⟩) ?_ ?_
          rotate_left
          ·intro w'
           go_simp
           with_reducible rfl
          rotate_left
          ·simp only [Act.put, List.setIfInBounds_toArray, List.set_cons_zero, List.set_cons_succ, i64_w, i32_w]
           rfl
          refine pure_ (i := 30) (N := some 65) (v := ?_) (a' := ?_) (zl 41 2013265919) rfl rfl (any_of HT_.out (by kernel_rfl)) (fun _ _ _ h => h) (Or.inl ⟨by rfl, ?_⟩) ?_ ?_
          rotate_left
          ·intro w'
           go_simp
           with_reducible rfl
          rotate_left
          ·simp only [Act.put, List.setIfInBounds_toArray, List.set_cons_zero, List.set_cons_succ, i64_w, i32_w]
           rfl
          refine pure_ (i := 31) (N := some 66) (v := ?_) (a' := ?_) (zl 41 4160749567) rfl rfl (any_of HT_.out (by kernel_rfl)) (fun _ _ _ h => h) (Or.inl ⟨by rfl, ?_⟩) ?_ ?_
          rotate_left
          ·intro w'
           go_simp
           with_reducible rfl
          rotate_left
          ·simp only [Act.put, List.setIfInBounds_toArray, List.set_cons_zero, List.set_cons_succ, i64_w, i32_w]
           rfl
          refine take_ (i := 27) (N := some 62) (v := ?_) (a' := ?_) (zl 41 4294967295) rfl rfl (take_ofW HT_.out HW_.out (by kernel_rfl)) (fun _ _ _ h => h) (Or.inl ⟨by rfl, ?_⟩) hHeld ?_ ?_
          rotate_left
          ·rintro w' ⟨s0, s1, s2, s3, s4, s5, s6, s7, s8, s9⟩
           go_simp
           with_reducible rfl
          rotate_left
          ·simp only [Act.put, List.setIfInBounds_toArray, List.set_cons_zero, List.set_cons_succ, i64_w, i32_w]
           rfl
          refine take_ (i := 32) (N := some 67) (v := ?_) (a' := ?_) (zl 41 8589934591) rfl rfl (take_ofW HT_.out HW_.out (by kernel_rfl)) (fun _ _ _ h => h) (Or.inl ⟨by rfl, ?_⟩) hHeld ?_ ?_
          rotate_left
          ·rintro w' ⟨s0, s1, s2, s3, s4, s5, s6, s7, s8, s9⟩
           go_simp
           with_reducible rfl
          rotate_left
          ·simp only [Act.put, List.setIfInBounds_toArray, List.set_cons_zero, List.set_cons_succ, i64_w, i32_w]
           rfl
          refine pure_ (i := 33) (N := some 68) (v := ?_) (a' := ?_) (zl 41 17179869183) rfl rfl (any_of HT_.out (by kernel_rfl)) (fun _ _ _ h => h) (Or.inl ⟨by rfl, ?_⟩) ?_ ?_
          rotate_left
          ·intro w'
           go_simp
           with_reducible rfl
          rotate_left
          ·simp only [Act.put, List.setIfInBounds_toArray, List.set_cons_zero, List.set_cons_succ, i64_w, i32_w]
           rfl
          refine pure_ (i := 34) (N := some 69) (v := ?_) (a' := ?_) (zl 41 34359738367) rfl rfl (any_of HT_.out (by kernel_rfl)) (fun _ _ _ h => h) (Or.inl ⟨by rfl, ?_⟩) ?_ ?_
          rotate_left
          ·intro w'
           go_simp
           with_reducible rfl
          rotate_left
          ·simp only [Act.put, List.setIfInBounds_toArray, List.set_cons_zero, List.set_cons_succ, i64_w, i32_w]
           rfl
          refine pure_ (i := 35) (N := some 70) (v := ?_) (a' := ?_) (zl 41 68719476735) rfl rfl (any_of HT_.out (by kernel_rfl)) (fun _ _ _ h => h) (Or.inl ⟨by rfl, ?_⟩) ?_ ?_
          rotate_left
          ·intro w'
           go_simp
           with_reducible rfl
          rotate_left
          ·simp only [Act.put, List.setIfInBounds_toArray, List.set_cons_zero, List.set_cons_succ, i64_w, i32_w]
           rfl
          refine pure_ (i := 36) (N := some 71) (v := ?_) (a' := ?_) (zl 41 137438953471) rfl rfl (any_of HT_.out (by kernel_rfl)) (fun _ _ _ h => h) (Or.inl ⟨by rfl, ?_⟩) ?_ ?_
          rotate_left
          ·intro w'
           go_simp
           with_reducible rfl
          rotate_left
          ·simp only [Act.put, List.setIfInBounds_toArray, List.set_cons_zero, List.set_cons_succ, i64_w, i32_w]
           rfl
          refine pure_ (i := 37) (N := some 72) (v := ?_) (a' := ?_) (zl 41 274877906943) rfl rfl (any_of HT_.out (by kernel_rfl)) (fun _ _ _ h => h) (Or.inl ⟨by rfl, ?_⟩) ?_ ?_
          rotate_left
          ·intro w'
           go_simp
           with_reducible rfl
          rotate_left
          ·simp only [Act.put, List.setIfInBounds_toArray, List.set_cons_zero, List.set_cons_succ, i64_w, i32_w]
           rfl
          refine pure_ (i := 38) (N := some 73) (v := ?_) (a' := ?_) (zl 41 549755813887) rfl rfl (any_of HT_.out (by kernel_rfl)) (fun _ _ _ h => h) (Or.inl ⟨by rfl, ?_⟩) ?_ ?_
          rotate_left
          ·intro w'
           go_simp
           with_reducible rfl
          rotate_left
          ·simp only [Act.put, List.setIfInBounds_toArray, List.set_cons_zero, List.set_cons_succ, i64_w, i32_w]
           rfl
          refine pure_ (i := 39) (N := some 74) (v := ?_) (a' := ?_) (zl 41 1099511627775) rfl rfl (any_of HT_.out (by kernel_rfl)) (fun _ _ _ h => h) (Or.inl ⟨by rfl, ?_⟩) ?_ ?_
          rotate_left
          ·intro w'
           go_simp
           with_reducible rfl
          rotate_left
          ·simp only [Act.put, List.setIfInBounds_toArray, List.set_cons_zero, List.set_cons_succ, i64_w, i32_w]
           rfl
          refine pure_ (i := 40) (N := some 75) (v := ?_) (a' := ?_) (zl 41 2199023255551) rfl rfl (any_of HT_.out (by kernel_rfl)) (fun _ _ _ h => h) (Or.inl ⟨by rfl, ?_⟩) ?_ ?_
          rotate_left
          ·intro w'
           go_simp
           with_reducible rfl
          rotate_left
          ·simp only [Act.put, List.setIfInBounds_toArray, List.set_cons_zero, List.set_cons_succ, i64_w, i32_w]
           rfl
          refine done_ (done_of HT_.out (by kernel_rfl)) ?_
          try go_wp2
          go_ret
          exact ⟨by first | rfl | (simp [errW_none, errW_some] <;> rfl) | (simp [*, errW_none, errW_some] <;> rfl), zHB⟩
         rw [if_neg c27] at H
         have c27b0 : decide (x6_2 < t105) = false := decide_eq_false c27
         clear c27
         have H' := zA H
         clear H
         try go_wp2
         have n0_ := zA (Kd.R_drew HO_3.out)
         have n1_ := zA (below_drew1 HB.out)
         clear HO_3
         clear HB
         have HO_3 := n0_
         have HB := n1_
         clear n0_ n1_
         have p107 : 0 ≤ (x6_2 : Int) := of_decide_eq_true y2 
         have q107 : x6_2 < (t101.length : Int) := of_decide_eq_true y2 
         obtain ⟨ad107, e107, hx107_0, hx107_1⟩ := at_T26 (Kd.R_reads' HO_3.out).2.2 x6_2 p107 q107
         cases e107
         replace p107 := eq_true p107
         replace q107 := eq_true q107
         have p109 : 0 ≤ (x6_2 : Int) := of_decide_eq_true y2 
         have q109 : x6_2 < (t101.length : Int) := of_decide_eq_true y2 
         obtain ⟨ad109, e109, hx109_0, hx109_1⟩ := at_T26 (Kd.R_reads' HO_3.out).2.2 x6_2 p109 q109
         obtain rfl : ad107 = ad109 := (by injection e109)
         replace p109 := eq_true p109
         replace q109 := eq_true q109
         have p110 : 0 ≤ (t105 : Int) := of_decide_eq_true y2 
         have q110 : t105 < (t101.length : Int) := of_decide_eq_true y2 
         obtain ⟨ad110, e110, hx110_0, hx110_1⟩ := at_T26 (Kd.R_reads' HO_3.out).2.2 t105 p110 q110
         obtain rfl : ad107 = ad110 := (by injection e110)
         replace p110 := eq_true p110
         replace q110 := eq_true q110
         have p111 : 0 ≤ (x6_2 : Int) := of_decide_eq_true y2 
         have q111 : x6_2 < (t101.length : Int) := of_decide_eq_true y2 
         obtain ⟨ad111, e111, hx111_0, hx111_1⟩ := at_T26 (Kd.R_reads' HO_3.out).2.2 x6_2 p111 q111
         obtain rfl : ad107 = ad111 := (by injection e111)
         replace p111 := eq_true p111
         replace q111 := eq_true q111
         have p112 : 0 ≤ (t105 : Int) := of_decide_eq_true y2 
         have q112 : t105 < (t101.length : Int) := of_decide_eq_true y2 
         obtain ⟨ad112, e112, hx112_0, hx112_1⟩ := at_T26 (Kd.R_reads' HO_3.out).2.2 t105 p112 q112
         obtain rfl : ad107 = ad112 := (by injection e112)
         replace p112 := eq_true p112
         replace q112 := eq_true q112
         refine start_ (n := 41) (S := fun w' => w'.cell? (ad107.add ((x6_2).toNat * 2)) = some (.int .i64 ((rd_T26 t101 x6_2).f0)) ∧ w'.cell? ⟨(ad107.add ((x6_2).toNat * 2)).block, (ad107.add ((x6_2).toNat * 2)).off + 1, none⟩ = some (.int .i64 ((rd_T26 t101 x6_2).f1)) ∧ w'.cell? (ad107.add ((x6_2).toNat * 2)) = some (.int .i64 ((rd_T26 t101 x6_2).f0)) ∧ w'.cell? ⟨(ad107.add ((x6_2).toNat * 2)).block, (ad107.add ((x6_2).toNat * 2)).off + 1, none⟩ = some (.int .i64 ((rd_T26 t101 x6_2).f1)) ∧ w'.cell? (ad107.add ((t105).toNat * 2)) = some (.int .i64 ((rd_T26 t101 t105).f0)) ∧ w'.cell? ⟨(ad107.add ((t105).toNat * 2)).block, (ad107.add ((t105).toNat * 2)).off + 1, none⟩ = some (.int .i64 ((rd_T26 t101 t105).f1)) ∧ w'.cell? (ad107.add ((x6_2).toNat * 2)) = some (.int .i64 ((rd_T26 t101 x6_2).f0)) ∧ w'.cell? ⟨(ad107.add ((x6_2).toNat * 2)).block, (ad107.add ((x6_2).toNat * 2)).off + 1, none⟩ = some (.int .i64 ((rd_T26 t101 x6_2).f1)) ∧ w'.cell? (ad107.add ((t105).toNat * 2)) = some (.int .i64 ((rd_T26 t101 t105).f0)) ∧ w'.cell? ⟨(ad107.add ((t105).toNat * 2)).block, (ad107.add ((t105).toNat * 2)).off + 1, none⟩ = some (.int .i64 ((rd_T26 t101 t105).f1))) (ds := []) (zl 41 0) (by kernel_rfl) rfl rfl ⟨hx107_0, hx107_1, hx109_0, hx109_1, hx110_0, hx110_1, hx111_0, hx111_1, hx112_0, hx112_1⟩ (fun hHeld => ?_); refine with_tabW laws_FnNetBest.tab10 laws_FnNetBest.bits10 (fun HT_ HW_ => ?_)
         generalize wr.drew = w30 at HO_3 HB hx107_0 hx107_1 hx109_0 hx109_1 hx110_0 hx110_1 hx111_0 hx111_1 hx112_0 hx112_1 hHeld ⊢
         refine pure_ (i := 0) (N := some 35) (v := ?_) (a' := ?_) (zl 41 1) rfl rfl (any_of HT_.out (by kernel_rfl)) (fun _ _ _ h => h) (Or.inl ⟨by rfl, ?_⟩) ?_ ?_
         rotate_left
         ·intro w'
          go_simp
          with_reducible rfl
         rotate_left
         ·simp only [Act.put, List.setIfInBounds_toArray, List.set_cons_zero, List.set_cons_succ, i64_w, i32_w]
          rfl
         refine pure_ (i := 1) (N := some 36) (v := ?_) (a' := ?_) (zl 41 3) rfl rfl (any_of HT_.out (by kernel_rfl)) (fun _ _ _ h => h) (Or.inl ⟨by rfl, ?_⟩) ?_ ?_
         rotate_left
         ·intro w'
          go_simp
          with_reducible rfl
         rotate_left
         ·simp only [Act.put, List.setIfInBounds_toArray, List.set_cons_zero, List.set_cons_succ, i64_w, i32_w]
          rfl
         refine pure_ (i := 2) (N := some 37) (v := ?_) (a' := ?_) (zl 41 7) rfl rfl (any_of HT_.out (by kernel_rfl)) (fun _ _ _ h => h) (Or.inl ⟨by rfl, ?_⟩) ?_ ?_
         rotate_left
         ·intro w'
          go_simp
          with_reducible rfl
         rotate_left
         ·simp only [Act.put, List.setIfInBounds_toArray, List.set_cons_zero, List.set_cons_succ, i64_w, i32_w]
          rfl
         refine pure_ (i := 4) (N := some 39) (v := ?_) (a' := ?_) (zl 41 23) rfl rfl (any_of HT_.out (by kernel_rfl)) (fun _ _ _ h => h) (Or.inl ⟨by rfl, ?_⟩) ?_ ?_
         rotate_left
         ·intro w'
          go_simp
          with_reducible rfl
         rotate_left
         ·simp only [Act.put, List.setIfInBounds_toArray, List.set_cons_zero, List.set_cons_succ, i64_w, i32_w]
          rfl
         refine take_ (i := 3) (N := some 38) (v := ?_) (a' := ?_) (zl 41 31) rfl rfl (take_ofW HT_.out HW_.out (by kernel_rfl)) (fun _ _ _ h => h) (Or.inl ⟨by rfl, ?_⟩) hHeld ?_ ?_
         rotate_left
         ·rintro w' ⟨s0, s1, s2, s3, s4, s5, s6, s7, s8, s9⟩
          go_simp
          with_reducible rfl
         rotate_left
         ·simp only [Act.put, List.setIfInBounds_toArray, List.set_cons_zero, List.set_cons_succ, i64_w, i32_w]
          rfl
         refine one_ (i := 5) (N := some 40) (zl 41 63) rfl rfl (one_of HT_.out (by kernel_rfl)) (by decide) (fun K hK => ?_)
         refine goes_ Try.func33 (by kernel_rfl) rfl #[.agg #[.int .i64 ((rd_T26 t101 x6_2).f0), .int .i64 ((rd_T26 t101 x6_2).f1)], .int .i64 t102] (by rfl) rfl rfl y1  ?_
         with_reducible refine (spec_NetHas.calls k2 ((rd_T26 t101 x6_2).f0) ((rd_T26 t101 x6_2).f1) t102 true _ A16.out).mono ?_
         rintro e w31 ⟨rfl, hb⟩
         have HS0_ := (hb.cell (World.block_lt_of_cell? _ _ (hHeld.1))).trans (hHeld.1)
         have HS1_ := (hb.cell (World.block_lt_of_cell? _ _ (hHeld.2.1))).trans (hHeld.2.1)
         have HS2_ := (hb.cell (World.block_lt_of_cell? _ _ (hHeld.2.2.1))).trans (hHeld.2.2.1)
         have HS3_ := (hb.cell (World.block_lt_of_cell? _ _ (hHeld.2.2.2.1))).trans (hHeld.2.2.2.1)
         have HS4_ := (hb.cell (World.block_lt_of_cell? _ _ (hHeld.2.2.2.2.1))).trans (hHeld.2.2.2.2.1)
         have HS5_ := (hb.cell (World.block_lt_of_cell? _ _ (hHeld.2.2.2.2.2.1))).trans (hHeld.2.2.2.2.2.1)
         have HS6_ := (hb.cell (World.block_lt_of_cell? _ _ (hHeld.2.2.2.2.2.2.1))).trans (hHeld.2.2.2.2.2.2.1)
         have HS7_ := (hb.cell (World.block_lt_of_cell? _ _ (hHeld.2.2.2.2.2.2.2.1))).trans (hHeld.2.2.2.2.2.2.2.1)
         have HS8_ := (hb.cell (World.block_lt_of_cell? _ _ (hHeld.2.2.2.2.2.2.2.2.1))).trans (hHeld.2.2.2.2.2.2.2.2.1)
         have HS9_ := (hb.cell (World.block_lt_of_cell? _ _ (hHeld.2.2.2.2.2.2.2.2.2))).trans (hHeld.2.2.2.2.2.2.2.2.2)
         refine ⟨_, rfl, ?_⟩
         have n0_ := zA (Kd.R_below (zr HO_3.out) hb)
         have n1_ := zA (below_step (zHB) hb)
         clear HO_3
         clear HB
         have HO_3 := n0_
         have HB := n1_
         clear n0_ n1_
         (try clear hb)
         (try clear hb2)
         (try clear hk)
         (try clear hi)
         refine hK.out _ _ ⟨HS0_, HS1_, HS2_, HS3_, HS4_, HS5_, HS6_, HS7_, HS8_, HS9_⟩ (fun hHeld => ?_)
         clear hK K
         refine norm_ (a' := ?_) ?_ ?_
         rotate_left
         ·show Act.put _ (some 40) _ = _
          simp only [Act.put, List.setIfInBounds_toArray, List.set_cons_zero, List.set_cons_succ, i64_w, i32_w]
          rfl
         refine pure_ (i := 6) (N := some 41) (v := ?_) (a' := ?_) (zl 41 127) rfl rfl (any_of HT_.out (by kernel_rfl)) (fun _ _ _ h => h) (Or.inl ⟨by rfl, ?_⟩) ?_ ?_
         rotate_left
         ·intro w'
          go_simp
          with_reducible rfl
         rotate_left
         ·simp only [Act.put, List.setIfInBounds_toArray, List.set_cons_zero, List.set_cons_succ, i64_w, i32_w]
          rfl
         refine pure_ (i := 7) (N := some 42) (v := ?_) (a' := ?_) (zl 41 255) rfl rfl (any_of HT_.out (by kernel_rfl)) (fun _ _ _ h => h) (Or.inl ⟨by rfl, ?_⟩) ?_ ?_
         rotate_left
         ·intro w'
          go_simp
          with_reducible rfl
         rotate_left
         ·simp only [Act.put, List.setIfInBounds_toArray, List.set_cons_zero, List.set_cons_succ, i64_w, i32_w]
          rfl
         refine pure_ (i := 8) (N := some 43) (v := ?_) (a' := ?_) (zl 41 511) rfl rfl (any_of HT_.out (by kernel_rfl)) (fun _ _ _ h => h) (Or.inl ⟨by rfl, ?_⟩) ?_ ?_
         rotate_left
         ·intro w'
          go_simp
          with_reducible rfl
         rotate_left
         ·simp only [Act.put, List.setIfInBounds_toArray, List.set_cons_zero, List.set_cons_succ, i64_w, i32_w]
          rfl
         refine pure_ (i := 9) (N := some 44) (v := ?_) (a' := ?_) (zl 41 1023) rfl rfl (any_of HT_.out (by kernel_rfl)) (fun _ _ _ h => h) (Or.inl ⟨by rfl, ?_⟩) ?_ ?_
         rotate_left
         ·intro w'
          go_simp
          with_reducible rfl
         rotate_left
         ·simp only [Act.put, List.setIfInBounds_toArray, List.set_cons_zero, List.set_cons_succ, i64_w, i32_w]
          rfl
         refine pure_ (i := 10) (N := some 45) (v := ?_) (a' := ?_) (zl 41 2047) rfl rfl (any_of HT_.out (by kernel_rfl)) (fun _ _ _ h => h) (Or.inl ⟨by rfl, ?_⟩) ?_ ?_
         rotate_left
         ·intro w'
          go_simp
          with_reducible rfl
         rotate_left
         ·simp only [Act.put, List.setIfInBounds_toArray, List.set_cons_zero, List.set_cons_succ, i64_w, i32_w]
          rfl
         refine pure_ (i := 11) (N := some 46) (v := ?_) (a' := ?_) (zl 41 4095) rfl rfl (any_of HT_.out (by kernel_rfl)) (fun _ _ _ h => h) (Or.inl ⟨by rfl, ?_⟩) ?_ ?_
         rotate_left
         ·intro w'
          go_simp
          with_reducible rfl
         rotate_left
         ·simp only [Act.put, List.setIfInBounds_toArray, List.set_cons_zero, List.set_cons_succ, i64_w, i32_w]
          rfl
         refine pure_ (i := 12) (N := some 47) (v := ?_) (a' := ?_) (zl 41 8191) rfl rfl (any_of HT_.out (by kernel_rfl)) (fun _ _ _ h => h) (Or.inl ⟨by rfl, ?_⟩) ?_ ?_
         rotate_left
         ·intro w'
          go_simp
          with_reducible rfl
         rotate_left
         ·simp only [Act.put, List.setIfInBounds_toArray, List.set_cons_zero, List.set_cons_succ, i64_w, i32_w]
          rfl
         refine pure_ (i := 13) (N := some 48) (v := ?_) (a' := ?_) (zl 41 16383) rfl rfl (any_of HT_.out (by kernel_rfl)) (fun _ _ _ h => h) (Or.inl ⟨by rfl, ?_⟩) ?_ ?_
         rotate_left
         ·intro w'
          go_simp
          with_reducible rfl
         rotate_left
         ·simp only [Act.put, List.setIfInBounds_toArray, List.set_cons_zero, List.set_cons_succ, i64_w, i32_w]
          rfl
         refine pure_ (i := 15) (N := some 50) (v := ?_) (a' := ?_) (zl 41 49151) rfl rfl (any_of HT_.out (by kernel_rfl)) (fun _ _ _ h => h) (Or.inl ⟨by rfl, ?_⟩) ?_ ?_
         rotate_left
         ·intro w'
          go_simp
          with_reducible rfl
         rotate_left
         ·simp only [Act.put, List.setIfInBounds_toArray, List.set_cons_zero, List.set_cons_succ, i64_w, i32_w]
          rfl
         refine pure_ (i := 16) (N := some 51) (v := ?_) (a' := ?_) (zl 41 114687) rfl rfl (any_of HT_.out (by kernel_rfl)) (fun _ _ _ h => h) (Or.inl ⟨by rfl, ?_⟩) ?_ ?_
         rotate_left
         ·intro w'
          go_simp
          with_reducible rfl
         rotate_left
         ·simp only [Act.put, List.setIfInBounds_toArray, List.set_cons_zero, List.set_cons_succ, i64_w, i32_w]
          rfl
         refine pure_ (i := 17) (N := some 52) (v := ?_) (a' := ?_) (zl 41 245759) rfl rfl (any_of HT_.out (by kernel_rfl)) (fun _ _ _ h => h) (Or.inl ⟨by rfl, ?_⟩) ?_ ?_
         rotate_left
         ·intro w'
          go_simp
          with_reducible rfl
         rotate_left
         ·simp only [Act.put, List.setIfInBounds_toArray, List.set_cons_zero, List.set_cons_succ, i64_w, i32_w]
          rfl
         refine pure_ (i := 18) (N := some 53) (v := ?_) (a' := ?_) (zl 41 507903) rfl rfl (any_of HT_.out (by kernel_rfl)) (fun _ _ _ h => h) (Or.inl ⟨by rfl, ?_⟩) ?_ ?_
         rotate_left
         ·intro w'
          go_simp
          with_reducible rfl
         rotate_left
         ·simp only [Act.put, List.setIfInBounds_toArray, List.set_cons_zero, List.set_cons_succ, i64_w, i32_w]
          rfl
         refine take_ (i := 14) (N := some 49) (v := ?_) (a' := ?_) (zl 41 524287) rfl rfl (take_ofW HT_.out HW_.out (by kernel_rfl)) (fun _ _ _ h => h) (Or.inl ⟨by rfl, ?_⟩) hHeld ?_ ?_
         rotate_left
         ·rintro w' ⟨s0, s1, s2, s3, s4, s5, s6, s7, s8, s9⟩
          go_simp
          with_reducible rfl
         rotate_left
         ·simp only [Act.put, List.setIfInBounds_toArray, List.set_cons_zero, List.set_cons_succ, i64_w, i32_w]
          rfl
         refine take_ (i := 19) (N := some 54) (v := ?_) (a' := ?_) (zl 41 1048575) rfl rfl (take_ofW HT_.out HW_.out (by kernel_rfl)) (fun _ _ _ h => h) (Or.inl ⟨by rfl, ?_⟩) hHeld ?_ ?_
         rotate_left
         ·rintro w' ⟨s0, s1, s2, s3, s4, s5, s6, s7, s8, s9⟩
          go_simp
          with_reducible rfl
         rotate_left
         ·simp only [Act.put, List.setIfInBounds_toArray, List.set_cons_zero, List.set_cons_succ, i64_w, i32_w]
          rfl
         refine pure_ (i := 20) (N := some 55) (v := ?_) (a' := ?_) (zl 41 2097151) rfl rfl (any_of HT_.out (by kernel_rfl)) (fun _ _ _ h => h) (Or.inl ⟨by rfl, ?_⟩) ?_ ?_
         rotate_left
         ·intro w'
          go_simp
          with_reducible rfl
         rotate_left
         ·simp only [Act.put, List.setIfInBounds_toArray, List.set_cons_zero, List.set_cons_succ, i64_w, i32_w]
          rfl
         refine pure_ (i := 21) (N := some 56) (v := ?_) (a' := ?_) (zl 41 4194303) rfl rfl (any_of HT_.out (by kernel_rfl)) (fun _ _ _ h => h) (Or.inl ⟨by rfl, ?_⟩) ?_ ?_
         rotate_left
         ·intro w'
          go_simp
          with_reducible rfl
         rotate_left
         ·simp only [Act.put, List.setIfInBounds_toArray, List.set_cons_zero, List.set_cons_succ, i64_w, i32_w]
          rfl
         refine pure_ (i := 22) (N := some 57) (v := ?_) (a' := ?_) (zl 41 8388607) rfl rfl (any_of HT_.out (by kernel_rfl)) (fun _ _ _ h => h) (Or.inl ⟨by rfl, ?_⟩) ?_ ?_
         rotate_left
         ·intro w'
          go_simp
          with_reducible rfl
         rotate_left
         ·simp only [Act.put, List.setIfInBounds_toArray, List.set_cons_zero, List.set_cons_succ, i64_w, i32_w]
          rfl
         refine pure_ (i := 23) (N := some 58) (v := ?_) (a' := ?_) (zl 41 16777215) rfl rfl (any_of HT_.out (by kernel_rfl)) (fun _ _ _ h => h) (Or.inl ⟨by rfl, ?_⟩) ?_ ?_
         rotate_left
         ·intro w'
          go_simp
          with_reducible rfl
         rotate_left
         ·simp only [Act.put, List.setIfInBounds_toArray, List.set_cons_zero, List.set_cons_succ, i64_w, i32_w]
          rfl
         refine pure_ (i := 24) (N := some 59) (v := ?_) (a' := ?_) (zl 41 33554431) rfl rfl (any_of HT_.out (by kernel_rfl)) (fun _ _ _ h => h) (Or.inl ⟨by rfl, ?_⟩) ?_ ?_
         rotate_left
         ·intro w'
          go_simp
          with_reducible rfl
         rotate_left
         ·simp only [Act.put, List.setIfInBounds_toArray, List.set_cons_zero, List.set_cons_succ, i64_w, i32_w]
          rfl
         refine pure_ (i := 25) (N := some 60) (v := ?_) (a' := ?_) (zl 41 67108863) rfl rfl (any_of HT_.out (by kernel_rfl)) (fun _ _ _ h => h) (Or.inl ⟨by rfl, ?_⟩) ?_ ?_
         rotate_left
         ·intro w'
          go_simp
          with_reducible rfl
         rotate_left
         ·simp only [Act.put, List.setIfInBounds_toArray, List.set_cons_zero, List.set_cons_succ, i64_w, i32_w]
          rfl
         refine pure_ (i := 26) (N := some 61) (v := ?_) (a' := ?_) (zl 41 134217727) rfl rfl (any_of HT_.out (by kernel_rfl)) (fun _ _ _ h => h) (Or.inl ⟨by rfl, ?_⟩) ?_ ?_
         rotate_left
         ·intro w'
          go_simp
          with_reducible rfl
         rotate_left
         ·simp only [Act.put, List.setIfInBounds_toArray, List.set_cons_zero, List.set_cons_succ, i64_w, i32_w]
          rfl
         refine pure_ (i := 28) (N := some 63) (v := ?_) (a' := ?_) (zl 41 402653183) rfl rfl (any_of HT_.out (by kernel_rfl)) (fun _ _ _ h => h) (Or.inl ⟨by rfl, ?_⟩) ?_ ?_
         rotate_left
         ·intro w'
          go_simp
          with_reducible rfl
         rotate_left
         ·simp only [Act.put, List.setIfInBounds_toArray, List.set_cons_zero, List.set_cons_succ, i64_w, i32_w]
          rfl
         refine pure_ (i := 29) (N := some 64) (v := ?_) (a' := ?_) (zl 41 939524095) rfl rfl (any_of HT_.out (by kernel_rfl)) (fun _ _ _ h => h) (Or.inl ⟨by rfl, ?_⟩) ?_ ?_
         rotate_left
         ·intro w'
          go_simp
          with_reducible rfl
         rotate_left
         ·simp only [Act.put, List.setIfInBounds_toArray, List.set_cons_zero, List.set_cons_succ, i64_w, i32_w]
          rfl
         refine pure_ (i := 30) (N := some 65) (v := ?_) (a' := ?_) (zl 41 2013265919) rfl rfl (any_of HT_.out (by kernel_rfl)) (fun _ _ _ h => h) (Or.inl ⟨by rfl, ?_⟩) ?_ ?_
         rotate_left
         ·intro w'
          go_simp
          with_reducible rfl
         rotate_left
         ·simp only [Act.put, List.setIfInBounds_toArray, List.set_cons_zero, List.set_cons_succ, i64_w, i32_w]
          rfl
         refine pure_ (i := 31) (N := some 66) (v := ?_) (a' := ?_) (zl 41 4160749567) rfl rfl (any_of HT_.out (by kernel_rfl)) (fun _ _ _ h => h) (Or.inl ⟨by rfl, ?_⟩) ?_ ?_
         rotate_left
         ·intro w'
          go_simp
          with_reducible rfl
         rotate_left
         ·simp only [Act.put, List.setIfInBounds_toArray, List.set_cons_zero, List.set_cons_succ, i64_w, i32_w]
          rfl
         refine take_ (i := 27) (N := some 62) (v := ?_) (a' := ?_) (zl 41 4294967295) rfl rfl (take_ofW HT_.out HW_.out (by kernel_rfl)) (fun _ _ _ h => h) (Or.inl ⟨by rfl, ?_⟩) hHeld ?_ ?_
         rotate_left
         ·rintro w' ⟨s0, s1, s2, s3, s4, s5, s6, s7, s8, s9⟩
          go_simp
          with_reducible rfl
         rotate_left
         ·simp only [Act.put, List.setIfInBounds_toArray, List.set_cons_zero, List.set_cons_succ, i64_w, i32_w]
          rfl
         refine take_ (i := 32) (N := some 67) (v := ?_) (a' := ?_) (zl 41 8589934591) rfl rfl (take_ofW HT_.out HW_.out (by kernel_rfl)) (fun _ _ _ h => h) (Or.inl ⟨by rfl, ?_⟩) hHeld ?_ ?_
         rotate_left
         ·rintro w' ⟨s0, s1, s2, s3, s4, s5, s6, s7, s8, s9⟩
          go_simp
          with_reducible rfl
         rotate_left
         ·simp only [Act.put, List.setIfInBounds_toArray, List.set_cons_zero, List.set_cons_succ, i64_w, i32_w]
          rfl
         refine pure_ (i := 33) (N := some 68) (v := ?_) (a' := ?_) (zl 41 17179869183) rfl rfl (any_of HT_.out (by kernel_rfl)) (fun _ _ _ h => h) (Or.inl ⟨by rfl, ?_⟩) ?_ ?_
         rotate_left
         ·intro w'
          go_simp
          with_reducible rfl
         rotate_left
         ·simp only [Act.put, List.setIfInBounds_toArray, List.set_cons_zero, List.set_cons_succ, i64_w, i32_w]
          rfl
         refine pure_ (i := 34) (N := some 69) (v := ?_) (a' := ?_) (zl 41 34359738367) rfl rfl (any_of HT_.out (by kernel_rfl)) (fun _ _ _ h => h) (Or.inl ⟨by rfl, ?_⟩) ?_ ?_
         rotate_left
         ·intro w'
          go_simp
          with_reducible rfl
         rotate_left
         ·simp only [Act.put, List.setIfInBounds_toArray, List.set_cons_zero, List.set_cons_succ, i64_w, i32_w]
          rfl
         refine pure_ (i := 35) (N := some 70) (v := ?_) (a' := ?_) (zl 41 68719476735) rfl rfl (any_of HT_.out (by kernel_rfl)) (fun _ _ _ h => h) (Or.inl ⟨by rfl, ?_⟩) ?_ ?_
         rotate_left
         ·intro w'
          go_simp
          with_reducible rfl
         rotate_left
         ·simp only [Act.put, List.setIfInBounds_toArray, List.set_cons_zero, List.set_cons_succ, i64_w, i32_w]
          rfl
         refine pure_ (i := 36) (N := some 71) (v := ?_) (a' := ?_) (zl 41 137438953471) rfl rfl (any_of HT_.out (by kernel_rfl)) (fun _ _ _ h => h) (Or.inl ⟨by rfl, ?_⟩) ?_ ?_
         rotate_left
         ·intro w'
          go_simp
          with_reducible rfl
         rotate_left
         ·simp only [Act.put, List.setIfInBounds_toArray, List.set_cons_zero, List.set_cons_succ, i64_w, i32_w]
          rfl
         refine pure_ (i := 37) (N := some 72) (v := ?_) (a' := ?_) (zl 41 274877906943) rfl rfl (any_of HT_.out (by kernel_rfl)) (fun _ _ _ h => h) (Or.inl ⟨by rfl, ?_⟩) ?_ ?_
         rotate_left
         ·intro w'
          go_simp
          with_reducible rfl
         rotate_left
         ·simp only [Act.put, List.setIfInBounds_toArray, List.set_cons_zero, List.set_cons_succ, i64_w, i32_w]
          rfl
         refine pure_ (i := 38) (N := some 73) (v := ?_) (a' := ?_) (zl 41 549755813887) rfl rfl (any_of HT_.out (by kernel_rfl)) (fun _ _ _ h => h) (Or.inl ⟨by rfl, ?_⟩) ?_ ?_
         rotate_left
         ·intro w'
          go_simp
          with_reducible rfl
         rotate_left
         ·simp only [Act.put, List.setIfInBounds_toArray, List.set_cons_zero, List.set_cons_succ, i64_w, i32_w]
          rfl
         refine pure_ (i := 39) (N := some 74) (v := ?_) (a' := ?_) (zl 41 1099511627775) rfl rfl (any_of HT_.out (by kernel_rfl)) (fun _ _ _ h => h) (Or.inl ⟨by rfl, ?_⟩) ?_ ?_
         rotate_left
         ·intro w'
          go_simp
          with_reducible rfl
         rotate_left
         ·simp only [Act.put, List.setIfInBounds_toArray, List.set_cons_zero, List.set_cons_succ, i64_w, i32_w]
          rfl
         refine pure_ (i := 40) (N := some 75) (v := ?_) (a' := ?_) (zl 41 2199023255551) rfl rfl (any_of HT_.out (by kernel_rfl)) (fun _ _ _ h => h) (Or.inl ⟨by rfl, ?_⟩) ?_ ?_
         rotate_left
         ·intro w'
          go_simp
          with_reducible rfl
         rotate_left
         ·simp only [Act.put, List.setIfInBounds_toArray, List.set_cons_zero, List.set_cons_succ, i64_w, i32_w]
          rfl
         refine done_ (done_of HT_.out (by kernel_rfl)) ?_
         try go_wp2
         go_roundg k2
         case measure => have := HJ4.out; have := HK2.out; omega
         case rel => exact ⟨(wrap64 (x6_2 + 1)), y3 , H', ⟨by have := HJ4.out; have := HK2.out; omega⟩, ⟨by refine zk ?_; exact HO_3.out⟩, ⟨zHB⟩⟩
        rw [if_neg c26] at H
        have c26b0 : (((rd_T26 t101 x6_2).f1) == ((rd_T26 t101 t105).f1)) = false := beq_eq_false_iff_ne.mpr c26
        have c26b1 : (((rd_T26 t101 x6_2).f1) != ((rd_T26 t101 t105).f1)) = true := bne_iff_ne.mpr c26
        have H' := zA H
        clear H
        try go_wp2
        have n0_ := zA (Kd.R_drew HO_3.out)
        have n1_ := zA (below_drew1 HB.out)
        clear HO_3
        clear HB
        have HO_3 := n0_
        have HB := n1_
        clear n0_ n1_
        have p107 : 0 ≤ (x6_2 : Int) := of_decide_eq_true y2 
        have q107 : x6_2 < (t101.length : Int) := of_decide_eq_true y2 
        obtain ⟨ad107, e107, hx107_0, hx107_1⟩ := at_T26 (Kd.R_reads' HO_3.out).2.2 x6_2 p107 q107
        cases e107
        replace p107 := eq_true p107
        replace q107 := eq_true q107
        have p109 : 0 ≤ (x6_2 : Int) := of_decide_eq_true y2 
        have q109 : x6_2 < (t101.length : Int) := of_decide_eq_true y2 
        obtain ⟨ad109, e109, hx109_0, hx109_1⟩ := at_T26 (Kd.R_reads' HO_3.out).2.2 x6_2 p109 q109
        obtain rfl : ad107 = ad109 := (by injection e109)
        replace p109 := eq_true p109
        replace q109 := eq_true q109
        have p110 : 0 ≤ (t105 : Int) := of_decide_eq_true y2 
        have q110 : t105 < (t101.length : Int) := of_decide_eq_true y2 
        obtain ⟨ad110, e110, hx110_0, hx110_1⟩ := at_T26 (Kd.R_reads' HO_3.out).2.2 t105 p110 q110
        obtain rfl : ad107 = ad110 := (by injection e110)
        replace p110 := eq_true p110
        replace q110 := eq_true q110
        have p111 : 0 ≤ (x6_2 : Int) := of_decide_eq_true y2 
        have q111 : x6_2 < (t101.length : Int) := of_decide_eq_true y2 
        obtain ⟨ad111, e111, hx111_0, hx111_1⟩ := at_T26 (Kd.R_reads' HO_3.out).2.2 x6_2 p111 q111
        obtain rfl : ad107 = ad111 := (by injection e111)
        replace p111 := eq_true p111
        replace q111 := eq_true q111
        have p112 : 0 ≤ (t105 : Int) := of_decide_eq_true y2 
        have q112 : t105 < (t101.length : Int) := of_decide_eq_true y2 
        obtain ⟨ad112, e112, hx112_0, hx112_1⟩ := at_T26 (Kd.R_reads' HO_3.out).2.2 t105 p112 q112
        obtain rfl : ad107 = ad112 := (by injection e112)
        replace p112 := eq_true p112
        replace q112 := eq_true q112
        refine start_ (n := 41) (S := fun w' => w'.cell? (ad107.add ((x6_2).toNat * 2)) = some (.int .i64 ((rd_T26 t101 x6_2).f0)) ∧ w'.cell? ⟨(ad107.add ((x6_2).toNat * 2)).block, (ad107.add ((x6_2).toNat * 2)).off + 1, none⟩ = some (.int .i64 ((rd_T26 t101 x6_2).f1)) ∧ w'.cell? (ad107.add ((x6_2).toNat * 2)) = some (.int .i64 ((rd_T26 t101 x6_2).f0)) ∧ w'.cell? ⟨(ad107.add ((x6_2).toNat * 2)).block, (ad107.add ((x6_2).toNat * 2)).off + 1, none⟩ = some (.int .i64 ((rd_T26 t101 x6_2).f1)) ∧ w'.cell? (ad107.add ((t105).toNat * 2)) = some (.int .i64 ((rd_T26 t101 t105).f0)) ∧ w'.cell? ⟨(ad107.add ((t105).toNat * 2)).block, (ad107.add ((t105).toNat * 2)).off + 1, none⟩ = some (.int .i64 ((rd_T26 t101 t105).f1)) ∧ w'.cell? (ad107.add ((x6_2).toNat * 2)) = some (.int .i64 ((rd_T26 t101 x6_2).f0)) ∧ w'.cell? ⟨(ad107.add ((x6_2).toNat * 2)).block, (ad107.add ((x6_2).toNat * 2)).off + 1, none⟩ = some (.int .i64 ((rd_T26 t101 x6_2).f1)) ∧ w'.cell? (ad107.add ((t105).toNat * 2)) = some (.int .i64 ((rd_T26 t101 t105).f0)) ∧ w'.cell? ⟨(ad107.add ((t105).toNat * 2)).block, (ad107.add ((t105).toNat * 2)).off + 1, none⟩ = some (.int .i64 ((rd_T26 t101 t105).f1))) (ds := []) (zl 41 0) (by kernel_rfl) rfl rfl ⟨hx107_0, hx107_1, hx109_0, hx109_1, hx110_0, hx110_1, hx111_0, hx111_1, hx112_0, hx112_1⟩ (fun hHeld => ?_); refine with_tabW laws_FnNetBest.tab10 laws_FnNetBest.bits10 (fun HT_ HW_ => ?_)
        generalize wr.drew = w32 at HO_3 HB hx107_0 hx107_1 hx109_0 hx109_1 hx110_0 hx110_1 hx111_0 hx111_1 hx112_0 hx112_1 hHeld ⊢
        refine pure_ (i := 0) (N := some 35) (v := ?_) (a' := ?_) (zl 41 1) rfl rfl (any_of HT_.out (by kernel_rfl)) (fun _ _ _ h => h) (Or.inl ⟨by rfl, ?_⟩) ?_ ?_
        rotate_left
        ·intro w'
         go_simp
         with_reducible rfl
        rotate_left
        ·simp only [Act.put, List.setIfInBounds_toArray, List.set_cons_zero, List.set_cons_succ, i64_w, i32_w]
         rfl
        refine pure_ (i := 1) (N := some 36) (v := ?_) (a' := ?_) (zl 41 3) rfl rfl (any_of HT_.out (by kernel_rfl)) (fun _ _ _ h => h) (Or.inl ⟨by rfl, ?_⟩) ?_ ?_
        rotate_left
        ·intro w'
         go_simp
         with_reducible rfl
        rotate_left
        ·simp only [Act.put, List.setIfInBounds_toArray, List.set_cons_zero, List.set_cons_succ, i64_w, i32_w]
         rfl
        refine pure_ (i := 2) (N := some 37) (v := ?_) (a' := ?_) (zl 41 7) rfl rfl (any_of HT_.out (by kernel_rfl)) (fun _ _ _ h => h) (Or.inl ⟨by rfl, ?_⟩) ?_ ?_
        rotate_left
        ·intro w'
         go_simp
         with_reducible rfl
        rotate_left
        ·simp only [Act.put, List.setIfInBounds_toArray, List.set_cons_zero, List.set_cons_succ, i64_w, i32_w]
         rfl
        refine pure_ (i := 4) (N := some 39) (v := ?_) (a' := ?_) (zl 41 23) rfl rfl (any_of HT_.out (by kernel_rfl)) (fun _ _ _ h => h) (Or.inl ⟨by rfl, ?_⟩) ?_ ?_
        rotate_left
        ·intro w'
         go_simp
         with_reducible rfl
        rotate_left
        ·simp only [Act.put, List.setIfInBounds_toArray, List.set_cons_zero, List.set_cons_succ, i64_w, i32_w]
         rfl
        refine take_ (i := 3) (N := some 38) (v := ?_) (a' := ?_) (zl 41 31) rfl rfl (take_ofW HT_.out HW_.out (by kernel_rfl)) (fun _ _ _ h => h) (Or.inl ⟨by rfl, ?_⟩) hHeld ?_ ?_
        rotate_left
        ·rintro w' ⟨s0, s1, s2, s3, s4, s5, s6, s7, s8, s9⟩
         go_simp
         with_reducible rfl
        rotate_left
        ·simp only [Act.put, List.setIfInBounds_toArray, List.set_cons_zero, List.set_cons_succ, i64_w, i32_w]
         rfl
        refine one_ (i := 5) (N := some 40) (zl 41 63) rfl rfl (one_of HT_.out (by kernel_rfl)) (by decide) (fun K hK => ?_)
        refine goes_ Try.func33 (by kernel_rfl) rfl #[.agg #[.int .i64 ((rd_T26 t101 x6_2).f0), .int .i64 ((rd_T26 t101 x6_2).f1)], .int .i64 t102] (by rfl) rfl rfl y1  ?_
        with_reducible refine (spec_NetHas.calls k2 ((rd_T26 t101 x6_2).f0) ((rd_T26 t101 x6_2).f1) t102 true _ A16.out).mono ?_
        rintro e w33 ⟨rfl, hb⟩
        have HS0_ := (hb.cell (World.block_lt_of_cell? _ _ (hHeld.1))).trans (hHeld.1)
        have HS1_ := (hb.cell (World.block_lt_of_cell? _ _ (hHeld.2.1))).trans (hHeld.2.1)
        have HS2_ := (hb.cell (World.block_lt_of_cell? _ _ (hHeld.2.2.1))).trans (hHeld.2.2.1)
        have HS3_ := (hb.cell (World.block_lt_of_cell? _ _ (hHeld.2.2.2.1))).trans (hHeld.2.2.2.1)
        have HS4_ := (hb.cell (World.block_lt_of_cell? _ _ (hHeld.2.2.2.2.1))).trans (hHeld.2.2.2.2.1)
        have HS5_ := (hb.cell (World.block_lt_of_cell? _ _ (hHeld.2.2.2.2.2.1))).trans (hHeld.2.2.2.2.2.1)
        have HS6_ := (hb.cell (World.block_lt_of_cell? _ _ (hHeld.2.2.2.2.2.2.1))).trans (hHeld.2.2.2.2.2.2.1)
        have HS7_ := (hb.cell (World.block_lt_of_cell? _ _ (hHeld.2.2.2.2.2.2.2.1))).trans (hHeld.2.2.2.2.2.2.2.1)
        have HS8_ := (hb.cell (World.block_lt_of_cell? _ _ (hHeld.2.2.2.2.2.2.2.2.1))).trans (hHeld.2.2.2.2.2.2.2.2.1)
        have HS9_ := (hb.cell (World.block_lt_of_cell? _ _ (hHeld.2.2.2.2.2.2.2.2.2))).trans (hHeld.2.2.2.2.2.2.2.2.2)
        refine ⟨_, rfl, ?_⟩
        have n0_ := zA (Kd.R_below (zr HO_3.out) hb)
        have n1_ := zA (below_step (zHB) hb)
        clear HO_3
        clear HB
        have HO_3 := n0_
        have HB := n1_
        clear n0_ n1_
        (try clear hb)
        (try clear hb2)
        (try clear hk)
        (try clear hi)
        refine hK.out _ _ ⟨HS0_, HS1_, HS2_, HS3_, HS4_, HS5_, HS6_, HS7_, HS8_, HS9_⟩ (fun hHeld => ?_)
        clear hK K
        refine norm_ (a' := ?_) ?_ ?_
        rotate_left
        ·show Act.put _ (some 40) _ = _
         simp only [Act.put, List.setIfInBounds_toArray, List.set_cons_zero, List.set_cons_succ, i64_w, i32_w]
         rfl
        refine pure_ (i := 6) (N := some 41) (v := ?_) (a' := ?_) (zl 41 127) rfl rfl (any_of HT_.out (by kernel_rfl)) (fun _ _ _ h => h) (Or.inl ⟨by rfl, ?_⟩) ?_ ?_
        rotate_left
        ·intro w'
         go_simp
         with_reducible rfl
        rotate_left
        ·simp only [Act.put, List.setIfInBounds_toArray, List.set_cons_zero, List.set_cons_succ, i64_w, i32_w]
         rfl
        refine pure_ (i := 7) (N := some 42) (v := ?_) (a' := ?_) (zl 41 255) rfl rfl (any_of HT_.out (by kernel_rfl)) (fun _ _ _ h => h) (Or.inl ⟨by rfl, ?_⟩) ?_ ?_
        rotate_left
        ·intro w'
         go_simp
         with_reducible rfl
        rotate_left
        ·simp only [Act.put, List.setIfInBounds_toArray, List.set_cons_zero, List.set_cons_succ, i64_w, i32_w]
         rfl
        refine pure_ (i := 8) (N := some 43) (v := ?_) (a' := ?_) (zl 41 511) rfl rfl (any_of HT_.out (by kernel_rfl)) (fun _ _ _ h => h) (Or.inl ⟨by rfl, ?_⟩) ?_ ?_
        rotate_left
        ·intro w'
         go_simp
         with_reducible rfl
        rotate_left
        ·simp only [Act.put, List.setIfInBounds_toArray, List.set_cons_zero, List.set_cons_succ, i64_w, i32_w]
         rfl
        refine pure_ (i := 9) (N := some 44) (v := ?_) (a' := ?_) (zl 41 1023) rfl rfl (any_of HT_.out (by kernel_rfl)) (fun _ _ _ h => h) (Or.inl ⟨by rfl, ?_⟩) ?_ ?_
        rotate_left
        ·intro w'
         go_simp
         with_reducible rfl
        rotate_left
        ·simp only [Act.put, List.setIfInBounds_toArray, List.set_cons_zero, List.set_cons_succ, i64_w, i32_w]
         rfl
        refine pure_ (i := 10) (N := some 45) (v := ?_) (a' := ?_) (zl 41 2047) rfl rfl (any_of HT_.out (by kernel_rfl)) (fun _ _ _ h => h) (Or.inl ⟨by rfl, ?_⟩) ?_ ?_
        rotate_left
        ·intro w'
         go_simp
         with_reducible rfl
        rotate_left
        ·simp only [Act.put, List.setIfInBounds_toArray, List.set_cons_zero, List.set_cons_succ, i64_w, i32_w]
         rfl
        refine pure_ (i := 11) (N := some 46) (v := ?_) (a' := ?_) (zl 41 4095) rfl rfl (any_of HT_.out (by kernel_rfl)) (fun _ _ _ h => h) (Or.inl ⟨by rfl, ?_⟩) ?_ ?_
        rotate_left
        ·intro w'
         go_simp
         with_reducible rfl
        rotate_left
        ·simp only [Act.put, List.setIfInBounds_toArray, List.set_cons_zero, List.set_cons_succ, i64_w, i32_w]
         rfl
        refine pure_ (i := 12) (N := some 47) (v := ?_) (a' := ?_) (zl 41 8191) rfl rfl (any_of HT_.out (by kernel_rfl)) (fun _ _ _ h => h) (Or.inl ⟨by rfl, ?_⟩) ?_ ?_
        rotate_left
        ·intro w'
         go_simp
         with_reducible rfl
        rotate_left
        ·simp only [Act.put, List.setIfInBounds_toArray, List.set_cons_zero, List.set_cons_succ, i64_w, i32_w]
         rfl
        refine pure_ (i := 13) (N := some 48) (v := ?_) (a' := ?_) (zl 41 16383) rfl rfl (any_of HT_.out (by kernel_rfl)) (fun _ _ _ h => h) (Or.inl ⟨by rfl, ?_⟩) ?_ ?_
        rotate_left
        ·intro w'
         go_simp
         with_reducible rfl
        rotate_left
        ·simp only [Act.put, List.setIfInBounds_toArray, List.set_cons_zero, List.set_cons_succ, i64_w, i32_w]
         rfl
        refine pure_ (i := 15) (N := some 50) (v := ?_) (a' := ?_) (zl 41 49151) rfl rfl (any_of HT_.out (by kernel_rfl)) (fun _ _ _ h => h) (Or.inl ⟨by rfl, ?_⟩) ?_ ?_
        rotate_left
        ·intro w'
         go_simp
         with_reducible rfl
        rotate_left
        ·simp only [Act.put, List.setIfInBounds_toArray, List.set_cons_zero, List.set_cons_succ, i64_w, i32_w]
         rfl
        refine pure_ (i := 16) (N := some 51) (v := ?_) (a' := ?_) (zl 41 114687) rfl rfl (any_of HT_.out (by kernel_rfl)) (fun _ _ _ h => h) (Or.inl ⟨by rfl, ?_⟩) ?_ ?_
        rotate_left
        ·intro w'
         go_simp
         with_reducible rfl
        rotate_left
        ·simp only [Act.put, List.setIfInBounds_toArray, List.set_cons_zero, List.set_cons_succ, i64_w, i32_w]
         rfl
        refine pure_ (i := 17) (N := some 52) (v := ?_) (a' := ?_) (zl 41 245759) rfl rfl (any_of HT_.out (by kernel_rfl)) (fun _ _ _ h => h) (Or.inl ⟨by rfl, ?_⟩) ?_ ?_
        rotate_left
        ·intro w'
         go_simp
         with_reducible rfl
        rotate_left
        ·simp only [Act.put, List.setIfInBounds_toArray, List.set_cons_zero, List.set_cons_succ, i64_w, i32_w]
         rfl
        refine pure_ (i := 18) (N := some 53) (v := ?_) (a' := ?_) (zl 41 507903) rfl rfl (any_of HT_.out (by kernel_rfl)) (fun _ _ _ h => h) (Or.inl ⟨by rfl, ?_⟩) ?_ ?_
        rotate_left
        ·intro w'
         go_simp
         with_reducible rfl
        rotate_left
        ·simp only [Act.put, List.setIfInBounds_toArray, List.set_cons_zero, List.set_cons_succ, i64_w, i32_w]
         rfl
        refine take_ (i := 14) (N := some 49) (v := ?_) (a' := ?_) (zl 41 524287) rfl rfl (take_ofW HT_.out HW_.out (by kernel_rfl)) (fun _ _ _ h => h) (Or.inl ⟨by rfl, ?_⟩) hHeld ?_ ?_
        rotate_left
        ·rintro w' ⟨s0, s1, s2, s3, s4, s5, s6, s7, s8, s9⟩
         go_simp
         with_reducible rfl
        rotate_left
        ·simp only [Act.put, List.setIfInBounds_toArray, List.set_cons_zero, List.set_cons_succ, i64_w, i32_w]
         rfl
        refine take_ (i := 19) (N := some 54) (v := ?_) (a' := ?_) (zl 41 1048575) rfl rfl (take_ofW HT_.out HW_.out (by kernel_rfl)) (fun _ _ _ h => h) (Or.inl ⟨by rfl, ?_⟩) hHeld ?_ ?_
        rotate_left
        ·rintro w' ⟨s0, s1, s2, s3, s4, s5, s6, s7, s8, s9⟩
         go_simp
         with_reducible rfl
        rotate_left
        ·simp only [Act.put, List.setIfInBounds_toArray, List.set_cons_zero, List.set_cons_succ, i64_w, i32_w]
         rfl
        refine pure_ (i := 20) (N := some 55) (v := ?_) (a' := ?_) (zl 41 2097151) rfl rfl (any_of HT_.out (by kernel_rfl)) (fun _ _ _ h => h) (Or.inl ⟨by rfl, ?_⟩) ?_ ?_
        rotate_left
        ·intro w'
         go_simp
         with_reducible rfl
        rotate_left
        ·simp only [Act.put, List.setIfInBounds_toArray, List.set_cons_zero, List.set_cons_succ, i64_w, i32_w]
         rfl
        refine pure_ (i := 21) (N := some 56) (v := ?_) (a' := ?_) (zl 41 4194303) rfl rfl (any_of HT_.out (by kernel_rfl)) (fun _ _ _ h => h) (Or.inl ⟨by rfl, ?_⟩) ?_ ?_
        rotate_left
        ·intro w'
         go_simp
         with_reducible rfl
        rotate_left
        ·simp only [Act.put, List.setIfInBounds_toArray, List.set_cons_zero, List.set_cons_succ, i64_w, i32_w]
         rfl
        refine pure_ (i := 22) (N := some 57) (v := ?_) (a' := ?_) (zl 41 8388607) rfl rfl (any_of HT_.out (by kernel_rfl)) (fun _ _ _ h => h) (Or.inl ⟨by rfl, ?_⟩) ?_ ?_
        rotate_left
        ·intro w'
         go_simp
         with_reducible rfl
        rotate_left
        ·simp only [Act.put, List.setIfInBounds_toArray, List.set_cons_zero, List.set_cons_succ, i64_w, i32_w]
         rfl
        refine pure_ (i := 23) (N := some 58) (v := ?_) (a' := ?_) (zl 41 16777215) rfl rfl (any_of HT_.out (by kernel_rfl)) (fun _ _ _ h => h) (Or.inl ⟨by rfl, ?_⟩) ?_ ?_
        rotate_left
        ·intro w'
         go_simp
         with_reducible rfl
        rotate_left
        ·simp only [Act.put, List.setIfInBounds_toArray, List.set_cons_zero, List.set_cons_succ, i64_w, i32_w]
         rfl
        refine pure_ (i := 24) (N := some 59) (v := ?_) (a' := ?_) (zl 41 33554431) rfl rfl (any_of HT_.out (by kernel_rfl)) (fun _ _ _ h => h) (Or.inl ⟨by rfl, ?_⟩) ?_ ?_
        rotate_left
        ·intro w'
         go_simp
         with_reducible rfl
        rotate_left
        ·simp only [Act.put, List.setIfInBounds_toArray, List.set_cons_zero, List.set_cons_succ, i64_w, i32_w]
         rfl
        refine pure_ (i := 25) (N := some 60) (v := ?_) (a' := ?_) (zl 41 67108863) rfl rfl (any_of HT_.out (by kernel_rfl)) (fun _ _ _ h => h) (Or.inl ⟨by rfl, ?_⟩) ?_ ?_
        rotate_left
        ·intro w'
         go_simp
         with_reducible rfl
        rotate_left
        ·simp only [Act.put, List.setIfInBounds_toArray, List.set_cons_zero, List.set_cons_succ, i64_w, i32_w]
         rfl
        refine pure_ (i := 26) (N := some 61) (v := ?_) (a' := ?_) (zl 41 134217727) rfl rfl (any_of HT_.out (by kernel_rfl)) (fun _ _ _ h => h) (Or.inl ⟨by rfl, ?_⟩) ?_ ?_
        rotate_left
        ·intro w'
         go_simp
         with_reducible rfl
        rotate_left
        ·simp only [Act.put, List.setIfInBounds_toArray, List.set_cons_zero, List.set_cons_succ, i64_w, i32_w]
         rfl
        refine pure_ (i := 28) (N := some 63) (v := ?_) (a' := ?_) (zl 41 402653183) rfl rfl (any_of HT_.out (by kernel_rfl)) (fun _ _ _ h => h) (Or.inl ⟨by rfl, ?_⟩) ?_ ?_
        rotate_left
        ·intro w'
         go_simp
         with_reducible rfl
        rotate_left
        ·simp only [Act.put, List.setIfInBounds_toArray, List.set_cons_zero, List.set_cons_succ, i64_w, i32_w]
         rfl
        refine pure_ (i := 29) (N := some 64) (v := ?_) (a' := ?_) (zl 41 939524095) rfl rfl (any_of HT_.out (by kernel_rfl)) (fun _ _ _ h => h) (Or.inl ⟨by rfl, ?_⟩) ?_ ?_
        rotate_left
        ·intro w'
         go_simp
         with_reducible rfl
        rotate_left
        ·simp only [Act.put, List.setIfInBounds_toArray, List.set_cons_zero, List.set_cons_succ, i64_w, i32_w]
         rfl
        refine pure_ (i := 30) (N := some 65) (v := ?_) (a' := ?_) (zl 41 2013265919) rfl rfl (any_of HT_.out (by kernel_rfl)) (fun _ _ _ h => h) (Or.inl ⟨by rfl, ?_⟩) ?_ ?_
        rotate_left
        ·intro w'
         go_simp
         with_reducible rfl
        rotate_left
        ·simp only [Act.put, List.setIfInBounds_toArray, List.set_cons_zero, List.set_cons_succ, i64_w, i32_w]
         rfl
        refine pure_ (i := 31) (N := some 66) (v := ?_) (a' := ?_) (zl 41 4160749567) rfl rfl (any_of HT_.out (by kernel_rfl)) (fun _ _ _ h => h) (Or.inl ⟨by rfl, ?_⟩) ?_ ?_
        rotate_left
        ·intro w'
         go_simp
         with_reducible rfl
        rotate_left
        ·simp only [Act.put, List.setIfInBounds_toArray, List.set_cons_zero, List.set_cons_succ, i64_w, i32_w]
         rfl
        refine take_ (i := 27) (N := some 62) (v := ?_) (a' := ?_) (zl 41 4294967295) rfl rfl (take_ofW HT_.out HW_.out (by kernel_rfl)) (fun _ _ _ h => h) (Or.inl ⟨by rfl, ?_⟩) hHeld ?_ ?_
        rotate_left
        ·rintro w' ⟨s0, s1, s2, s3, s4, s5, s6, s7, s8, s9⟩
         go_simp
         with_reducible rfl
        rotate_left
        ·simp only [Act.put, List.setIfInBounds_toArray, List.set_cons_zero, List.set_cons_succ, i64_w, i32_w]
         rfl
        refine take_ (i := 32) (N := some 67) (v := ?_) (a' := ?_) (zl 41 8589934591) rfl rfl (take_ofW HT_.out HW_.out (by kernel_rfl)) (fun _ _ _ h => h) (Or.inl ⟨by rfl, ?_⟩) hHeld ?_ ?_
        rotate_left
        ·rintro w' ⟨s0, s1, s2, s3, s4, s5, s6, s7, s8, s9⟩
         go_simp
         with_reducible rfl
        rotate_left
        ·simp only [Act.put, List.setIfInBounds_toArray, List.set_cons_zero, List.set_cons_succ, i64_w, i32_w]
         rfl
        refine pure_ (i := 33) (N := some 68) (v := ?_) (a' := ?_) (zl 41 17179869183) rfl rfl (any_of HT_.out (by kernel_rfl)) (fun _ _ _ h => h) (Or.inl ⟨by rfl, ?_⟩) ?_ ?_
        rotate_left
        ·intro w'
         go_simp
         with_reducible rfl
        rotate_left
        ·simp only [Act.put, List.setIfInBounds_toArray, List.set_cons_zero, List.set_cons_succ, i64_w, i32_w]
         rfl
        refine pure_ (i := 34) (N := some 69) (v := ?_) (a' := ?_) (zl 41 34359738367) rfl rfl (any_of HT_.out (by kernel_rfl)) (fun _ _ _ h => h) (Or.inl ⟨by rfl, ?_⟩) ?_ ?_
        rotate_left
        ·intro w'
         go_simp
         with_reducible rfl
        rotate_left
        ·simp only [Act.put, List.setIfInBounds_toArray, List.set_cons_zero, List.set_cons_succ, i64_w, i32_w]
         rfl
        refine pure_ (i := 35) (N := some 70) (v := undef) (a' := ?_) (zl 41 68719476735) rfl rfl (any_of HT_.out (by kernel_rfl)) (fun _ _ _ h => h) (Or.inr ⟨by rfl, rfl⟩) ?_ ?_
        rotate_left
        ·simp only [Act.put, List.setIfInBounds_toArray, List.set_cons_zero, List.set_cons_succ, i64_w, i32_w]
         rfl
        refine pure_ (i := 36) (N := some 71) (v := undef) (a' := ?_) (zl 41 137438953471) rfl rfl (any_of HT_.out (by kernel_rfl)) (fun _ _ _ h => h) (Or.inr ⟨by rfl, rfl⟩) ?_ ?_
        rotate_left
        ·simp only [Act.put, List.setIfInBounds_toArray, List.set_cons_zero, List.set_cons_succ, i64_w, i32_w]
         rfl
        refine pure_ (i := 37) (N := some 72) (v := undef) (a' := ?_) (zl 41 274877906943) rfl rfl (any_of HT_.out (by kernel_rfl)) (fun _ _ _ h => h) (Or.inr ⟨by rfl, rfl⟩) ?_ ?_
        rotate_left
        ·simp only [Act.put, List.setIfInBounds_toArray, List.set_cons_zero, List.set_cons_succ, i64_w, i32_w]
         rfl
        refine pure_ (i := 38) (N := some 73) (v := ?_) (a' := ?_) (zl 41 549755813887) rfl rfl (any_of HT_.out (by kernel_rfl)) (fun _ _ _ h => h) (Or.inl ⟨by rfl, ?_⟩) ?_ ?_
        rotate_left
        ·intro w'
         go_simp
         with_reducible rfl
        rotate_left
        ·simp only [Act.put, List.setIfInBounds_toArray, List.set_cons_zero, List.set_cons_succ, i64_w, i32_w]
         rfl
        refine pure_ (i := 39) (N := some 74) (v := ?_) (a' := ?_) (zl 41 1099511627775) rfl rfl (any_of HT_.out (by kernel_rfl)) (fun _ _ _ h => h) (Or.inl ⟨by rfl, ?_⟩) ?_ ?_
        rotate_left
        ·intro w'
         go_simp
         with_reducible rfl
        rotate_left
        ·simp only [Act.put, List.setIfInBounds_toArray, List.set_cons_zero, List.set_cons_succ, i64_w, i32_w]
         rfl
        refine pure_ (i := 40) (N := some 75) (v := ?_) (a' := ?_) (zl 41 2199023255551) rfl rfl (any_of HT_.out (by kernel_rfl)) (fun _ _ _ h => h) (Or.inl ⟨by rfl, ?_⟩) ?_ ?_
        rotate_left
        ·intro w'
         go_simp
         with_reducible rfl
        rotate_left
        ·simp only [Act.put, List.setIfInBounds_toArray, List.set_cons_zero, List.set_cons_succ, i64_w, i32_w]
         rfl
        refine done_ (done_of HT_.out (by kernel_rfl)) ?_
        try go_wp2
        go_roundg k2
        case measure => have := HJ4.out; have := HK2.out; omega
        case rel => exact ⟨(wrap64 (x6_2 + 1)), y3 , H', ⟨by have := HJ4.out; have := HK2.out; omega⟩, ⟨by refine zk ?_; exact HO_3.out⟩, ⟨zHB⟩⟩
       rw [if_neg c22] at H
       exact absurd H (by simp)
      rw [if_neg c21] at H
      exact absurd H (by simp)
     replace c17 := Bool.eq_false_iff.mpr c17
     subst c17
     have H1 : (laws_FnNetBest.l0 k2 t101 t102 t105 (wrap64 (x6_2 + 1))) = some r := by rw [if_neg (show ¬ (false = true) by decide)] at H; exact H
     clear H
     have H := H1
     clear H1
     have H' := zA H
     clear H
     try go_wp2
     have n0_ := zA (Kd.R_drew HO_3.out)
     have n1_ := zA (below_drew1 HB.out)
     clear HO_3
     clear HB
     have HO_3 := n0_
     have HB := n1_
     clear n0_ n1_
     have p107 : 0 ≤ (x6_2 : Int) := of_decide_eq_true y2 
     have q107 : x6_2 < (t101.length : Int) := of_decide_eq_true y2 
     obtain ⟨ad107, e107, hx107_0, hx107_1⟩ := at_T26 (Kd.R_reads' HO_3.out).2.2 x6_2 p107 q107
     cases e107
     replace p107 := eq_true p107
     replace q107 := eq_true q107
     refine start_ (n := 41) (S := fun w' => w'.cell? (ad107.add ((x6_2).toNat * 2)) = some (.int .i64 ((rd_T26 t101 x6_2).f0)) ∧ w'.cell? ⟨(ad107.add ((x6_2).toNat * 2)).block, (ad107.add ((x6_2).toNat * 2)).off + 1, none⟩ = some (.int .i64 ((rd_T26 t101 x6_2).f1))) (ds := []) (zl 41 0) (by kernel_rfl) rfl rfl ⟨hx107_0, hx107_1⟩ (fun hHeld => ?_); refine with_tabW laws_FnNetBest.tab10 laws_FnNetBest.bits10 (fun HT_ HW_ => ?_)
     generalize wr.drew = w34 at HO_3 HB hx107_0 hx107_1 hHeld ⊢
     refine pure_ (i := 0) (N := some 35) (v := ?_) (a' := ?_) (zl 41 1) rfl rfl (any_of HT_.out (by kernel_rfl)) (fun _ _ _ h => h) (Or.inl ⟨by rfl, ?_⟩) ?_ ?_
     rotate_left
     ·intro w'
      go_simp
      with_reducible rfl
     rotate_left
     ·simp only [Act.put, List.setIfInBounds_toArray, List.set_cons_zero, List.set_cons_succ, i64_w, i32_w]
      rfl
     refine pure_ (i := 1) (N := some 36) (v := ?_) (a' := ?_) (zl 41 3) rfl rfl (any_of HT_.out (by kernel_rfl)) (fun _ _ _ h => h) (Or.inl ⟨by rfl, ?_⟩) ?_ ?_
     rotate_left
     ·intro w'
      go_simp
      with_reducible rfl
     rotate_left
     ·simp only [Act.put, List.setIfInBounds_toArray, List.set_cons_zero, List.set_cons_succ, i64_w, i32_w]
      rfl
     refine pure_ (i := 2) (N := some 37) (v := ?_) (a' := ?_) (zl 41 7) rfl rfl (any_of HT_.out (by kernel_rfl)) (fun _ _ _ h => h) (Or.inl ⟨by rfl, ?_⟩) ?_ ?_
     rotate_left
     ·intro w'
      go_simp
      with_reducible rfl
     rotate_left
     ·simp only [Act.put, List.setIfInBounds_toArray, List.set_cons_zero, List.set_cons_succ, i64_w, i32_w]
      rfl
     refine pure_ (i := 4) (N := some 39) (v := ?_) (a' := ?_) (zl 41 23) rfl rfl (any_of HT_.out (by kernel_rfl)) (fun _ _ _ h => h) (Or.inl ⟨by rfl, ?_⟩) ?_ ?_
     rotate_left
     ·intro w'
      go_simp
      with_reducible rfl
     rotate_left
     ·simp only [Act.put, List.setIfInBounds_toArray, List.set_cons_zero, List.set_cons_succ, i64_w, i32_w]
      rfl
     refine take_ (i := 3) (N := some 38) (v := ?_) (a' := ?_) (zl 41 31) rfl rfl (take_ofW HT_.out HW_.out (by kernel_rfl)) (fun _ _ _ h => h) (Or.inl ⟨by rfl, ?_⟩) hHeld ?_ ?_
     rotate_left
     ·rintro w' ⟨s0, s1⟩
      go_simp
      with_reducible rfl
     rotate_left
     ·simp only [Act.put, List.setIfInBounds_toArray, List.set_cons_zero, List.set_cons_succ, i64_w, i32_w]
      rfl
     refine one_ (i := 5) (N := some 40) (zl 41 63) rfl rfl (one_of HT_.out (by kernel_rfl)) (by decide) (fun K hK => ?_)
     refine goes_ Try.func33 (by kernel_rfl) rfl #[.agg #[.int .i64 ((rd_T26 t101 x6_2).f0), .int .i64 ((rd_T26 t101 x6_2).f1)], .int .i64 t102] (by rfl) rfl rfl y1  ?_
     with_reducible refine (spec_NetHas.calls k2 ((rd_T26 t101 x6_2).f0) ((rd_T26 t101 x6_2).f1) t102 false _ A16.out).mono ?_
     rintro e w35 ⟨rfl, hb⟩
     have HS0_ := (hb.cell (World.block_lt_of_cell? _ _ (hHeld.1))).trans (hHeld.1)
     have HS1_ := (hb.cell (World.block_lt_of_cell? _ _ (hHeld.2))).trans (hHeld.2)
     refine ⟨_, rfl, ?_⟩
     have n0_ := zA (Kd.R_below (zr HO_3.out) hb)
     have n1_ := zA (below_step (zHB) hb)
     clear HO_3
     clear HB
     have HO_3 := n0_
     have HB := n1_
     clear n0_ n1_
     (try clear hb)
     (try clear hb2)
     (try clear hk)
     (try clear hi)
     refine hK.out _ _ ⟨HS0_, HS1_⟩ (fun hHeld => ?_)
     clear hK K
     refine norm_ (a' := ?_) ?_ ?_
     rotate_left
     ·show Act.put _ (some 40) _ = _
      simp only [Act.put, List.setIfInBounds_toArray, List.set_cons_zero, List.set_cons_succ, i64_w, i32_w]
      rfl
     refine pure_ (i := 6) (N := some 41) (v := ?_) (a' := ?_) (zl 41 127) rfl rfl (any_of HT_.out (by kernel_rfl)) (fun _ _ _ h => h) (Or.inl ⟨by rfl, ?_⟩) ?_ ?_
     rotate_left
     ·intro w'
      go_simp
      with_reducible rfl
     rotate_left
     ·simp only [Act.put, List.setIfInBounds_toArray, List.set_cons_zero, List.set_cons_succ, i64_w, i32_w]
      rfl
     refine pure_ (i := 7) (N := some 42) (v := undef) (a' := ?_) (zl 41 255) rfl rfl (any_of HT_.out (by kernel_rfl)) (fun _ _ _ h => h) (Or.inr ⟨by rfl, rfl⟩) ?_ ?_
     rotate_left
     ·simp only [Act.put, List.setIfInBounds_toArray, List.set_cons_zero, List.set_cons_succ, i64_w, i32_w]
      rfl
     refine pure_ (i := 8) (N := some 43) (v := undef) (a' := ?_) (zl 41 511) rfl rfl (any_of HT_.out (by kernel_rfl)) (fun _ _ _ h => h) (Or.inr ⟨by rfl, rfl⟩) ?_ ?_
     rotate_left
     ·simp only [Act.put, List.setIfInBounds_toArray, List.set_cons_zero, List.set_cons_succ, i64_w, i32_w]
      rfl
     refine pure_ (i := 9) (N := some 44) (v := undef) (a' := ?_) (zl 41 1023) rfl rfl (any_of HT_.out (by kernel_rfl)) (fun _ _ _ h => h) (Or.inr ⟨by rfl, rfl⟩) ?_ ?_
     rotate_left
     ·simp only [Act.put, List.setIfInBounds_toArray, List.set_cons_zero, List.set_cons_succ, i64_w, i32_w]
      rfl
     refine pure_ (i := 10) (N := some 45) (v := undef) (a' := ?_) (zl 41 2047) rfl rfl (any_of HT_.out (by kernel_rfl)) (fun _ _ _ h => h) (Or.inr ⟨by rfl, rfl⟩) ?_ ?_
     rotate_left
     ·simp only [Act.put, List.setIfInBounds_toArray, List.set_cons_zero, List.set_cons_succ, i64_w, i32_w]
      rfl
     refine pure_ (i := 11) (N := some 46) (v := undef) (a' := ?_) (zl 41 4095) rfl rfl (any_of HT_.out (by kernel_rfl)) (fun _ _ _ h => h) (Or.inr ⟨by rfl, rfl⟩) ?_ ?_
     rotate_left
     ·simp only [Act.put, List.setIfInBounds_toArray, List.set_cons_zero, List.set_cons_succ, i64_w, i32_w]
      rfl
     refine pure_ (i := 12) (N := some 47) (v := undef) (a' := ?_) (zl 41 8191) rfl rfl (any_of HT_.out (by kernel_rfl)) (fun _ _ _ h => h) (Or.inr ⟨by rfl, rfl⟩) ?_ ?_
     rotate_left
     ·simp only [Act.put, List.setIfInBounds_toArray, List.set_cons_zero, List.set_cons_succ, i64_w, i32_w]
      rfl
     refine pure_ (i := 13) (N := some 48) (v := undef) (a' := ?_) (zl 41 16383) rfl rfl (any_of HT_.out (by kernel_rfl)) (fun _ _ _ h => h) (Or.inr ⟨by rfl, rfl⟩) ?_ ?_
     rotate_left
     ·simp only [Act.put, List.setIfInBounds_toArray, List.set_cons_zero, List.set_cons_succ, i64_w, i32_w]
      rfl
     refine pure_ (i := 14) (N := some 49) (v := undef) (a' := ?_) (zl 41 32767) rfl rfl (any_of HT_.out (by kernel_rfl)) (fun _ _ _ h => h) (Or.inr ⟨by rfl, rfl⟩) ?_ ?_
     rotate_left
     ·simp only [Act.put, List.setIfInBounds_toArray, List.set_cons_zero, List.set_cons_succ, i64_w, i32_w]
      rfl
     refine pure_ (i := 15) (N := some 50) (v := undef) (a' := ?_) (zl 41 65535) rfl rfl (any_of HT_.out (by kernel_rfl)) (fun _ _ _ h => h) (Or.inr ⟨by rfl, rfl⟩) ?_ ?_
     rotate_left
     ·simp only [Act.put, List.setIfInBounds_toArray, List.set_cons_zero, List.set_cons_succ, i64_w, i32_w]
      rfl
     refine pure_ (i := 16) (N := some 51) (v := undef) (a' := ?_) (zl 41 131071) rfl rfl (any_of HT_.out (by kernel_rfl)) (fun _ _ _ h => h) (Or.inr ⟨by rfl, rfl⟩) ?_ ?_
     rotate_left
     ·simp only [Act.put, List.setIfInBounds_toArray, List.set_cons_zero, List.set_cons_succ, i64_w, i32_w]
      rfl
     refine pure_ (i := 17) (N := some 52) (v := undef) (a' := ?_) (zl 41 262143) rfl rfl (any_of HT_.out (by kernel_rfl)) (fun _ _ _ h => h) (Or.inr ⟨by rfl, rfl⟩) ?_ ?_
     rotate_left
     ·simp only [Act.put, List.setIfInBounds_toArray, List.set_cons_zero, List.set_cons_succ, i64_w, i32_w]
      rfl
     refine pure_ (i := 18) (N := some 53) (v := undef) (a' := ?_) (zl 41 524287) rfl rfl (any_of HT_.out (by kernel_rfl)) (fun _ _ _ h => h) (Or.inr ⟨by rfl, rfl⟩) ?_ ?_
     rotate_left
     ·simp only [Act.put, List.setIfInBounds_toArray, List.set_cons_zero, List.set_cons_succ, i64_w, i32_w]
      rfl
     refine pure_ (i := 19) (N := some 54) (v := undef) (a' := ?_) (zl 41 1048575) rfl rfl (any_of HT_.out (by kernel_rfl)) (fun _ _ _ h => h) (Or.inr ⟨by rfl, rfl⟩) ?_ ?_
     rotate_left
     ·simp only [Act.put, List.setIfInBounds_toArray, List.set_cons_zero, List.set_cons_succ, i64_w, i32_w]
      rfl
     refine pure_ (i := 20) (N := some 55) (v := undef) (a' := ?_) (zl 41 2097151) rfl rfl (any_of HT_.out (by kernel_rfl)) (fun _ _ _ h => h) (Or.inr ⟨by rfl, rfl⟩) ?_ ?_
     rotate_left
     ·simp only [Act.put, List.setIfInBounds_toArray, List.set_cons_zero, List.set_cons_succ, i64_w, i32_w]
      rfl
     refine pure_ (i := 21) (N := some 56) (v := undef) (a' := ?_) (zl 41 4194303) rfl rfl (any_of HT_.out (by kernel_rfl)) (fun _ _ _ h => h) (Or.inr ⟨by rfl, rfl⟩) ?_ ?_
     rotate_left
     ·simp only [Act.put, List.setIfInBounds_toArray, List.set_cons_zero, List.set_cons_succ, i64_w, i32_w]
      rfl
     refine pure_ (i := 22) (N := some 57) (v := undef) (a' := ?_) (zl 41 8388607) rfl rfl (any_of HT_.out (by kernel_rfl)) (fun _ _ _ h => h) (Or.inr ⟨by rfl, rfl⟩) ?_ ?_
     rotate_left
     ·simp only [Act.put, List.setIfInBounds_toArray, List.set_cons_zero, List.set_cons_succ, i64_w, i32_w]
      rfl
     refine pure_ (i := 23) (N := some 58) (v := undef) (a' := ?_) (zl 41 16777215) rfl rfl (any_of HT_.out (by kernel_rfl)) (fun _ _ _ h => h) (Or.inr ⟨by rfl, rfl⟩) ?_ ?_
     rotate_left
     ·simp only [Act.put, List.setIfInBounds_toArray, List.set_cons_zero, List.set_cons_succ, i64_w, i32_w]
      rfl
     refine pure_ (i := 24) (N := some 59) (v := undef) (a' := ?_) (zl 41 33554431) rfl rfl (any_of HT_.out (by kernel_rfl)) (fun _ _ _ h => h) (Or.inr ⟨by rfl, rfl⟩) ?_ ?_
     rotate_left
     ·simp only [Act.put, List.setIfInBounds_toArray, List.set_cons_zero, List.set_cons_succ, i64_w, i32_w]
      rfl
     refine pure_ (i := 25) (N := some 60) (v := undef) (a' := ?_) (zl 41 67108863) rfl rfl (any_of HT_.out (by kernel_rfl)) (fun _ _ _ h => h) (Or.inr ⟨by rfl, rfl⟩) ?_ ?_
     rotate_left
     ·simp only [Act.put, List.setIfInBounds_toArray, List.set_cons_zero, List.set_cons_succ, i64_w, i32_w]
      rfl
     refine pure_ (i := 26) (N := some 61) (v := undef) (a' := ?_) (zl 41 134217727) rfl rfl (any_of HT_.out (by kernel_rfl)) (fun _ _ _ h => h) (Or.inr ⟨by rfl, rfl⟩) ?_ ?_
     rotate_left
     ·simp only [Act.put, List.setIfInBounds_toArray, List.set_cons_zero, List.set_cons_succ, i64_w, i32_w]
      rfl
     refine pure_ (i := 27) (N := some 62) (v := undef) (a' := ?_) (zl 41 268435455) rfl rfl (any_of HT_.out (by kernel_rfl)) (fun _ _ _ h => h) (Or.inr ⟨by rfl, rfl⟩) ?_ ?_
     rotate_left
     ·simp only [Act.put, List.setIfInBounds_toArray, List.set_cons_zero, List.set_cons_succ, i64_w, i32_w]
      rfl
     refine pure_ (i := 28) (N := some 63) (v := undef) (a' := ?_) (zl 41 536870911) rfl rfl (any_of HT_.out (by kernel_rfl)) (fun _ _ _ h => h) (Or.inr ⟨by rfl, rfl⟩) ?_ ?_
     rotate_left
     ·simp only [Act.put, List.setIfInBounds_toArray, List.set_cons_zero, List.set_cons_succ, i64_w, i32_w]
      rfl
     refine pure_ (i := 29) (N := some 64) (v := undef) (a' := ?_) (zl 41 1073741823) rfl rfl (any_of HT_.out (by kernel_rfl)) (fun _ _ _ h => h) (Or.inr ⟨by rfl, rfl⟩) ?_ ?_
     rotate_left
     ·simp only [Act.put, List.setIfInBounds_toArray, List.set_cons_zero, List.set_cons_succ, i64_w, i32_w]
      rfl
     refine pure_ (i := 30) (N := some 65) (v := undef) (a' := ?_) (zl 41 2147483647) rfl rfl (any_of HT_.out (by kernel_rfl)) (fun _ _ _ h => h) (Or.inr ⟨by rfl, rfl⟩) ?_ ?_
     rotate_left
     ·simp only [Act.put, List.setIfInBounds_toArray, List.set_cons_zero, List.set_cons_succ, i64_w, i32_w]
      rfl
     refine pure_ (i := 31) (N := some 66) (v := undef) (a' := ?_) (zl 41 4294967295) rfl rfl (any_of HT_.out (by kernel_rfl)) (fun _ _ _ h => h) (Or.inr ⟨by rfl, rfl⟩) ?_ ?_
     rotate_left
     ·simp only [Act.put, List.setIfInBounds_toArray, List.set_cons_zero, List.set_cons_succ, i64_w, i32_w]
      rfl
     refine pure_ (i := 32) (N := some 67) (v := undef) (a' := ?_) (zl 41 8589934591) rfl rfl (any_of HT_.out (by kernel_rfl)) (fun _ _ _ h => h) (Or.inr ⟨by rfl, rfl⟩) ?_ ?_
     rotate_left
     ·simp only [Act.put, List.setIfInBounds_toArray, List.set_cons_zero, List.set_cons_succ, i64_w, i32_w]
      rfl
     refine pure_ (i := 33) (N := some 68) (v := undef) (a' := ?_) (zl 41 17179869183) rfl rfl (any_of HT_.out (by kernel_rfl)) (fun _ _ _ h => h) (Or.inr ⟨by rfl, rfl⟩) ?_ ?_
     rotate_left
     ·simp only [Act.put, List.setIfInBounds_toArray, List.set_cons_zero, List.set_cons_succ, i64_w, i32_w]
      rfl
     refine pure_ (i := 34) (N := some 69) (v := undef) (a' := ?_) (zl 41 34359738367) rfl rfl (any_of HT_.out (by kernel_rfl)) (fun _ _ _ h => h) (Or.inr ⟨by rfl, rfl⟩) ?_ ?_
     rotate_left
     ·simp only [Act.put, List.setIfInBounds_toArray, List.set_cons_zero, List.set_cons_succ, i64_w, i32_w]
      rfl
     refine pure_ (i := 35) (N := some 70) (v := undef) (a' := ?_) (zl 41 68719476735) rfl rfl (any_of HT_.out (by kernel_rfl)) (fun _ _ _ h => h) (Or.inr ⟨by rfl, rfl⟩) ?_ ?_
     rotate_left
     ·simp only [Act.put, List.setIfInBounds_toArray, List.set_cons_zero, List.set_cons_succ, i64_w, i32_w]
      rfl
     refine pure_ (i := 36) (N := some 71) (v := undef) (a' := ?_) (zl 41 137438953471) rfl rfl (any_of HT_.out (by kernel_rfl)) (fun _ _ _ h => h) (Or.inr ⟨by rfl, rfl⟩) ?_ ?_
     rotate_left
     ·simp only [Act.put, List.setIfInBounds_toArray, List.set_cons_zero, List.set_cons_succ, i64_w, i32_w]
      rfl
     refine pure_ (i := 37) (N := some 72) (v := undef) (a' := ?_) (zl 41 274877906943) rfl rfl (any_of HT_.out (by kernel_rfl)) (fun _ _ _ h => h) (Or.inr ⟨by rfl, rfl⟩) ?_ ?_
     rotate_left
     ·simp only [Act.put, List.setIfInBounds_toArray, List.set_cons_zero, List.set_cons_succ, i64_w, i32_w]
      rfl
     refine pure_ (i := 38) (N := some 73) (v := undef) (a' := ?_) (zl 41 549755813887) rfl rfl (any_of HT_.out (by kernel_rfl)) (fun _ _ _ h => h) (Or.inr ⟨by rfl, rfl⟩) ?_ ?_
     rotate_left
     ·simp only [Act.put, List.setIfInBounds_toArray, List.set_cons_zero, List.set_cons_succ, i64_w, i32_w]
      rfl
     refine pure_ (i := 39) (N := some 74) (v := undef) (a' := ?_) (zl 41 1099511627775) rfl rfl (any_of HT_.out (by kernel_rfl)) (fun _ _ _ h => h) (Or.inr ⟨by rfl, rfl⟩) ?_ ?_
     rotate_left
     ·simp only [Act.put, List.setIfInBounds_toArray, List.set_cons_zero, List.set_cons_succ, i64_w, i32_w]
      rfl
     refine pure_ (i := 40) (N := some 75) (v := ?_) (a' := ?_) (zl 41 2199023255551) rfl rfl (any_of HT_.out (by kernel_rfl)) (fun _ _ _ h => h) (Or.inl ⟨by rfl, ?_⟩) ?_ ?_
     rotate_left
     ·intro w'
      go_simp
      with_reducible rfl
     rotate_left
     ·simp only [Act.put, List.setIfInBounds_toArray, List.set_cons_zero, List.set_cons_succ, i64_w, i32_w]
      rfl
     refine done_ (done_of HT_.out (by kernel_rfl)) ?_
     try go_wp2
     go_roundg k2
     case measure => have := HJ4.out; have := HK2.out; omega
     case rel => exact ⟨(wrap64 (x6_2 + 1)), y3 , H', ⟨by have := HJ4.out; have := HK2.out; omega⟩, ⟨by refine zk ?_; exact HO_3.out⟩, ⟨zHB⟩⟩
    rw [if_neg c15] at H
    exact absurd H (by simp)
   rw [if_neg c14] at H
   have c14b0 : decide (x6_2 < (t101.length : Int)) = false := decide_eq_false c14
   clear c14
   by_cases c36 : t105 < 0
   ·rw [if_pos c36] at H
    have c36b0 : decide (t105 < 0) = true := decide_eq_true c36
    clear c36
    obtain rfl := Option.some.inj H
    go_wp2
    go_ret
    exact ⟨by first | rfl | (simp [errW_none, errW_some] <;> rfl) | (simp [*, errW_none, errW_some] <;> rfl), zHB⟩
   rw [if_neg c36] at H
   have c36b0 : decide (t105 < 0) = false := decide_eq_false c36
   clear c36
   by_cases c37 : 0 ≤ t105
   ·rw [if_pos c37] at H
    have c37b0 : decide (0 ≤ t105) = true := decide_eq_true c37
    clear c37
    by_cases c38 : t105 < (t101.length : Int)
    ·rw [if_pos c38] at H
     have c38b0 : decide (t105 < (t101.length : Int)) = true := decide_eq_true c38
     clear c38
     replace H := Option.bind_eq_some_iff.mp H
     obtain ⟨t114, A390, H⟩ := H
     replace H : (some t114) = some r := H
     have A39 := zA A390
     clear A390
     obtain rfl := Option.some.inj H
     have p113 : 0 ≤ (t105 : Int) := of_decide_eq_true y2 
     have q113 : t105 < (t101.length : Int) := of_decide_eq_true y2 
     obtain ⟨ad113, e113, hx113_0, hx113_1⟩ := at_T26 (Kd.R_reads' HO_3.out).2.2 t105 p113 q113
     cases e113
     replace p113 := eq_true p113
     replace q113 := eq_true q113
     go_wp2_with (first | (go_at_call 33; (with_reducible refine (spec_NetHas.calls k2 ((rd_T26 t101 t105).f0) ((rd_T26 t101 t105).f1) t102 t114 _ A39.out).mono ?_); rintro e w40 ⟨rfl, hb⟩; have n0_ := zA (Kd.R_below (zr HO_3.out) hb); have n1_ := zA (below_step (zHB) hb); clear HO_3; clear HB; have HO_3 := n0_; have HB := n1_; clear n0_ n1_; (try clear hb); (try clear hb2); (try clear hk); (try clear hi)))
     go_ret
     exact ⟨by first | rfl | (simp [errW_none, errW_some] <;> rfl) | (simp [*, errW_none, errW_some] <;> rfl), zHB⟩
    rw [if_neg c38] at H
    exact absurd H (by simp)
   rw [if_neg c37] at H
   exact absurd H (by simp)
end Go.Proofs.Ytnakanjhdcakhaa.Q
namespace Go.Proofs.Ytnakanjhdcakhaa.Pure
open Go.RowKit Go.Proofs.YtnakanjhdcakhaaW.PrintWords Go.Proofs.YtnakanjhdcakhaaW.PrintMore
open Q
/-- How many addresses a prefix of a length has. -/
def sz (n : Int) : Int := 2 ^ (16 - n).toNat
def okB (a n : Int) : Bool := decide (0 ≤ n ∧ n ≤ 16 ∧ 0 ≤ a ∧ a ≤ 65535 ∧ a % sz n = 0)
def hasB (a n x : Int) : Bool := decide (a ≤ x ∧ x < a + sz n)
theorem okB_iff {a n : Int} : okB a n = true ↔ 0 ≤ n ∧ n ≤ 16 ∧ 0 ≤ a ∧ a ≤ 65535 ∧ a % sz n = 0 := by unfold okB; simp
theorem len_cases {n : Int} (h0 : 0 ≤ n) (h1 : n ≤ 16) : n = 0 ∨ n = 1 ∨ n = 2 ∨ n = 3 ∨ n = 4 ∨ n = 5 ∨ n = 6 ∨ n = 7 ∨ n = 8 ∨ n = 9 ∨ n = 10 ∨ n = 11 ∨ n = 12 ∨ n = 13 ∨ n = 14 ∨ n = 15 ∨ n = 16 := by omega
theorem sz_pos (n : Int) : 1 ≤ sz n := by
  unfold sz
  have : (0 : Int) < 2 ^ (16 - n).toNat := Int.pow_pos (by decide)
  omega
theorem sz_le {n : Int} (h0 : 0 ≤ n) : sz n ≤ 65536 := by
  by_cases h : n ≤ 16
  · rcases len_cases h0 h with rfl | rfl | rfl | rfl | rfl | rfl | rfl | rfl | rfl | rfl | rfl | rfl | rfl | rfl | rfl | rfl | rfl <;> decide
  · unfold sz
    rw [show (16 - n).toNat = 0 by omega]
    decide
theorem sz_half {n : Int} (h1 : n < 16) : sz n = 2 * sz (n + 1) := by
  unfold sz
  rw [show (16 - n).toNat = (16 - (n + 1)).toNat + 1 by omega, Int.pow_succ]
  omega
theorem sz0 : sz 0 = 65536 := by decide
theorem sz_dvd {m n : Int} (h : m ≤ n) : sz n ∣ sz m := by
  unfold sz
  obtain ⟨d, hd⟩ : ∃ d, (16 - m).toNat = (16 - n).toNat + d := ⟨(16 - m).toNat - (16 - n).toNat, by omega⟩
  rw [hd, Int.pow_add]
  exact Int.dvd_mul_right _ _
theorem size_i (a : Int) {n : Int} (h0 : 0 ≤ n) (h1 : n ≤ 16) : impl_size.f a n = some (sz n) := by
  unfold impl_size.f
  rcases len_cases h0 h1 with rfl | rfl | rfl | rfl | rfl | rfl | rfl | rfl | rfl | rfl | rfl | rfl | rfl | rfl | rfl | rfl | rfl <;> decide +kernel
theorem size_s {k : Nat} {n : Int} (h0 : 0 ≤ n) (h1 : n ≤ 16) (hk : 20 ≤ k) : spec_l1Size.f k n = some (sz n) := by
  refine at_rounds (k := 20) (fun k => spec_l1Size.mono n k) hk ?_
  rcases len_cases h0 h1 with rfl | rfl | rfl | rfl | rfl | rfl | rfl | rfl | rfl | rfl | rfl | rfl | rfl | rfl | rfl | rfl | rfl <;> decide +kernel
theorem wrap_in {x : Int} (h0 : -9223372036854775808 ≤ x) (h1 : x ≤ 9223372036854775807) : wrap64 x = x := by unfold wrap64; omega
theorem ok_i (a n : Int) : impl_NetOk.f a n = some (okB a n) := by
  unfold impl_NetOk.f impl_isAddr.f okB
  by_cases h0 : n ≥ 0
  · by_cases h1 : n ≤ 16
    · by_cases h2 : a ≥ 0
      · by_cases h3 : a ≤ 65535
        · have hp := sz_pos n
          have hm : a.tmod (sz n) = a % sz n := Int.tmod_eq_emod_of_nonneg h2
          rw [if_pos h0, if_pos h1, if_pos h2]
          simp only [h3, decide_true, Option.bind_some, if_true, size_i a h0 h1, if_neg (show ¬ sz n = 0 by omega), hm]
          simp [h0, h1, h2]
          rfl
        · rw [if_pos h0, if_pos h1, if_pos h2]
          simp [h3]
      · rw [if_pos h0, if_pos h1, if_neg h2]
        simp [show ¬ 0 ≤ a by omega]
    · rw [if_pos h0, if_neg h1]
      simp [h1]
  · rw [if_neg h0]
    simp [show ¬ 0 ≤ n by omega]
theorem ok_s {k : Nat} (hk : 20 ≤ k) (a n : Int) : spec_NetOk.f k a n = some (okB a n) := by
  unfold spec_NetOk.f spec_l1In.f okB
  by_cases h0 : n ≥ 0
  · by_cases h1 : n ≤ 16
    · by_cases h2 : a ≥ 0
      · by_cases h3 : a ≤ 65535
        · have hp := sz_pos n
          have hm : a.tmod (sz n) = a % sz n := Int.tmod_eq_emod_of_nonneg h2
          rw [if_pos h0, if_pos h2]
          simp only [h1, h3, decide_true, Option.bind_some, if_true, size_s h0 h1 hk, if_neg (show ¬ sz n = 0 by omega), hm]
          simp [h0, h2]
          rfl
        · rw [if_pos h0, if_pos h2]
          simp [h1, h3]
      · rw [if_pos h0, if_neg h2]
        simp [h1, show ¬ 0 ≤ a by omega]
    · rw [if_pos h0]
      simp [h1]
  · rw [if_neg h0]
    simp [show ¬ 0 ≤ n by omega]
theorem has_i {a n : Int} (x : Int) (h : okB a n = true) : impl_has.f a n x = some (hasB a n x) := by
  obtain ⟨h0, h1, h2, h3, _⟩ := okB_iff.1 h
  have hp := sz_pos n
  have hl := sz_le h0
  unfold impl_has.f hasB
  by_cases hx : x ≥ a
  · rw [if_pos hx, size_i a h0 h1]
    simp only [Option.bind_some]
    rw [wrap_in (by omega) (by omega)]
    simp [hx]
  · rw [if_neg hx]
    simp [show ¬ a ≤ x by omega]
theorem has_s {k : Nat} (hk : 20 ≤ k) {a n : Int} (x : Int) (h : okB a n = true) : spec_l1Has.f k a n x = some (hasB a n x) := by
  obtain ⟨h0, h1, h2, h3, _⟩ := okB_iff.1 h
  have hp := sz_pos n
  have hl := sz_le h0
  unfold spec_l1Has.f hasB
  by_cases hx : x ≥ a
  · rw [if_pos hx, size_s h0 h1 hk]
    simp only [Option.bind_some]
    rw [wrap_in (by omega) (by omega)]
    simp [hx]
  · rw [if_neg hx]
    simp [show ¬ a ≤ x by omega]
theorem nethas_i (a n x : Int) : impl_NetHas.f a n x = some (okB a n && hasB a n x) := by
  unfold impl_NetHas.f
  rw [ok_i]
  cases h : okB a n with
  | false => rfl
  | true => simp only [Option.bind_some, if_true, has_i x h, Bool.true_and]
theorem nethas_s {k : Nat} (hk : 20 ≤ k) (a n x : Int) : spec_NetHas.f k a n x = some (okB a n && hasB a n x) := by
  unfold spec_NetHas.f
  rw [ok_s hk]
  cases h : okB a n with
  | false => rfl
  | true => simp only [Option.bind_some, if_true, has_s hk x h, Bool.true_and]
theorem l1halves_s {k : Nat} (hk : 20 ≤ k) {a n : Int} (h0 : 0 ≤ n) (h1 : n < 16) (h2 : 0 ≤ a) (h3 : a ≤ 65535) : spec_l1Halves.f k a n = some (a, n + 1, a + sz (n + 1), n + 1) := by
  have hp := sz_pos (n + 1)
  have hl := sz_le (n := n + 1) (by omega)
  unfold spec_l1Halves.f
  rw [wrap_in (x := n + 1) (by omega) (by omega), size_s (by omega) (by omega) hk]
  simp only [Option.bind_some]
  rw [wrap_in (by omega) (by omega)]
end Go.Proofs.Ytnakanjhdcakhaa.Pure
namespace Go.Proofs.Ytnakanjhdcakhaa.Pure
open Q Go.RowKit Go.Proofs.YtnakanjhdcakhaaW.PrintWords
set_option linter.unusedSimpArgs false
theorem xor_pos {x y : Int} (hx : 0 ≤ x) (hx1 : x < 4611686018427387904) (hy : 0 ≤ y) (hy1 : y < 4611686018427387904) : 0 ≤ Go.bits .xor .i64 x y ∧ Go.bits .xor .i64 x y < 4611686018427387904 := by
  obtain ⟨a, rfl⟩ := Int.eq_ofNat_of_zero_le hx
  obtain ⟨b, rfl⟩ := Int.eq_ofNat_of_zero_le hy
  have ha : a < 2 ^ 62 := by omega
  have hb : b < 2 ^ 62 := by omega
  have hxor : a ^^^ b < 2 ^ 62 := Nat.xor_lt_two_pow ha hb
  have e : ((BitVec.ofInt 64 (a : Int)) ^^^ (BitVec.ofInt 64 (b : Int))).toNat = a ^^^ b := by
    rw [BitVec.toNat_xor, BitVec.toNat_ofInt, BitVec.toNat_ofInt]
    congr 1 <;> omega
  have main : Go.bits .xor .i64 (a : Int) (b : Int) = IntKind.i64.wrap ((((BitVec.ofInt 64 (a : Int)) ^^^ (BitVec.ofInt 64 (b : Int))).toNat : Nat) : Int) := rfl
  rw [main, e]
  have : IntKind.i64.wrap ((a ^^^ b : Nat) : Int) = ((a ^^^ b : Nat) : Int) := by
    simp [IntKind.wrap, IntKind.bits, IntKind.signed]
    omega
  rw [this]
  omega
def Bytes (b : List Int) : Prop := b.length ≤ 2000 ∧ ∀ x ∈ b, 0 ≤ x ∧ x ≤ 255
theorem rd_byte {b : List Int} (h : Bytes b) (i : Int) : 0 ≤ rd b i ∧ rd b i ≤ 255 := by
  unfold rd
  rw [List.getD_eq_getElem?_getD]
  cases hq : b[i.toNat]? with
  | none => simp
  | some x => simpa using h.2 x (List.mem_of_getElem? hq)
theorem tmod_range {a n : Int} (ha : 0 ≤ a) (hn : 0 < n) : 0 ≤ Int.tmod a n ∧ Int.tmod a n < n := ⟨Int.tmod_nonneg _ ha, Int.tmod_lt_of_pos _ hn⟩
theorem pick_s {b : List Int} (h : Bytes b) {p n : Int} (hp : 0 ≤ p) (hp1 : p ≤ 1000000000000) (hn : 1 ≤ n) {k : Nat} (hk : 0 < k) : ∃ v, spec_l1Rd_pick.f k b p n = some (v, p + 1) ∧ 0 ≤ v ∧ v < n := by
  obtain ⟨k, rfl⟩ : ∃ m, k = m + 1 := ⟨k - 1, by omega⟩
  have hl := h.1
  unfold spec_l1Rd_pick.f
  rw [if_neg (by omega)]
  simp only [spec_l1Rd_pick.j0]
  rw [wrap_in (x := p + 1) (by omega) (by omega), wrap_in (x := p + 1 - 1) (by omega) (by omega), show p + 1 - 1 = p by omega]
  by_cases h0 : (b.length : Int) = 0
  · rw [if_pos (by simp [h0])]
    exact ⟨0, rfl, Int.le_refl _, by omega⟩
  · rw [if_neg (by simpa using h0)]
    by_cases hlt : p < (b.length : Int)
    · have hb := rd_byte h p
      rw [if_pos hlt, if_pos hp, if_neg (by omega), wrap_in (x := rd b p) (by omega) (by omega)]
      exact ⟨_, rfl, tmod_range hb.1 (by omega)⟩
    · rw [if_neg hlt, if_neg h0]
      have r1 := tmod_range hp (show 0 < (b.length : Int) by omega)
      have w7 : wrap64 (p * 7) = p * 7 := wrap_in (by omega) (by omega)
      have w73 : wrap64 (p * 7 + 3) = p * 7 + 3 := wrap_in (by omega) (by omega)
      have r2 := tmod_range (show 0 ≤ p * 7 + 3 by omega) (show 0 < (b.length : Int) by omega)
      rw [if_pos r1.1, if_pos r1.2, w7, w73, if_pos r2.1, if_pos r2.2, if_neg (by omega)]
      have b1 := rd_byte h (Int.tmod p (b.length : Int))
      have b2 := rd_byte h (Int.tmod (p * 7 + 3) (b.length : Int))
      generalize rd b (Int.tmod p (b.length : Int)) = x at b1 ⊢
      generalize rd b (Int.tmod (p * 7 + 3) (b.length : Int)) = y at b2 ⊢
      have hd : 0 ≤ Int.tdiv p (b.length : Int) ∧ Int.tdiv p (b.length : Int) ≤ p := ⟨Int.tdiv_nonneg hp (by omega), Int.tdiv_le_self _ hp⟩
      generalize Int.tdiv p (b.length : Int) = q at hd ⊢
      rw [wrap_in (x := x) (by omega) (by omega), wrap_in (x := y) (by omega) (by omega), wrap_in (x := x * 131) (by omega) (by omega), wrap_in (x := y * 1117) (by omega) (by omega), wrap_in (x := q) (by omega) (by omega), wrap_in (x := p * 29) (by omega) (by omega), wrap_in (x := q * 53) (by omega) (by omega), wrap_in (x := x * 131 + y * 1117) (by omega) (by omega), wrap_in (x := x * 131 + y * 1117 + p * 29) (by omega) (by omega), wrap_in (x := x * 131 + y * 1117 + p * 29 + q * 53) (by omega) (by omega)]
      have hz : 0 ≤ x * 131 + y * 1117 + p * 29 + q * 53 ∧ x * 131 + y * 1117 + p * 29 + q * 53 < 4611686018427387904 := by omega
      generalize x * 131 + y * 1117 + p * 29 + q * 53 = z at hz ⊢
      have h64 : 0 ≤ Int.tdiv z 64 ∧ Int.tdiv z 64 ≤ z := ⟨Int.tdiv_nonneg hz.1 (by omega), Int.tdiv_le_self _ hz.1⟩
      rw [wrap_in (x := Int.tdiv z 64) (by omega) (by omega)]
      have hx := xor_pos hz.1 hz.2 h64.1 (show Int.tdiv z 64 < 4611686018427387904 by omega)
      exact ⟨_, rfl, tmod_range hx.1 (by omega)⟩
end Go.Proofs.Ytnakanjhdcakhaa.Pure
namespace Go.Proofs.Ytnakanjhdcakhaa.Pure
open Q Go.RowKit Go.Proofs.YtnakanjhdcakhaaW.PrintWords
set_option linter.unusedSimpArgs false
theorem five {i : Int} (h0 : 0 ≤ i) (h1 : i < 5) (x0 x1 x2 x3 x4 : Int) (P : Int → Prop) (p0 : P x0) (p1 : P x1) (p2 : P x2) (p3 : P x3) (p4 : P x4) : P (rd [x0, x1, x2, x3, x4] i) := by
  have : i = 0 ∨ i = 1 ∨ i = 2 ∨ i = 3 ∨ i = 4 := by omega
  rcases this with rfl | rfl | rfl | rfl | rfl
  · exact p0
  · exact p1
  · exact p2
  · exact p3
  · exact p4
theorem prefix_j {b : List Int} (h : Bytes b) {p n : Int} (hp : 0 ≤ p) (hp1 : p ≤ 900000000000) (hn0 : 0 ≤ n) (hn1 : n ≤ 16) {k : Nat} (hk : 30 ≤ k) : ∃ a, spec_l5Prefix.j0 k n b p = some (a, n, p + 6) ∧ okB a n = true := by
  obtain ⟨k, rfl⟩ : ∃ m, k = m + 1 := ⟨k - 1, by omega⟩
  obtain ⟨v1, e1, l1, u1⟩ := pick_s h (p := p) (n := 65536) (by omega) (by omega) (by omega) (k := k) (by omega)
  obtain ⟨v2, e2, l2, u2⟩ := pick_s h (p := p + 1) (n := 4) (by omega) (by omega) (by omega) (k := k) (by omega)
  obtain ⟨v3, e3, l3, u3⟩ := pick_s h (p := p + 1 + 1) (n := 9) (by omega) (by omega) (by omega) (k := k) (by omega)
  obtain ⟨v4, e4, l4, u4⟩ := pick_s h (p := p + 1 + 1 + 1) (n := 16) (by omega) (by omega) (by omega) (k := k) (by omega)
  obtain ⟨v5, e5, l5, u5⟩ := pick_s h (p := p + 1 + 1 + 1 + 1) (n := 16) (by omega) (by omega) (by omega) (k := k) (by omega)
  obtain ⟨v6, e6, l6, u6⟩ := pick_s h (p := p + 1 + 1 + 1 + 1 + 1) (n := 5) (by omega) (by omega) (by omega) (k := k) (by omega)
  simp only [spec_l5Prefix.j0, e1, e2, e3, e4, e5, e6, Option.bind_some]
  have hz := sz_pos n
  have hr : 0 ≤ rd [v1, wrap64 (256 * v2), wrap64 (65535 - v3), v4, wrap64 (4656 + v5)] v6 ∧ rd [v1, wrap64 (256 * v2), wrap64 (65535 - v3), v4, wrap64 (4656 + v5)] v6 ≤ 65535 := by
    refine five (P := fun x => 0 ≤ x ∧ x ≤ 65535) l6 u6 _ _ _ _ _ (by omega) ?_ ?_ (by omega) ?_
    · rw [wrap_in (by omega) (by omega)]; omega
    · rw [wrap_in (by omega) (by omega)]; omega
    · rw [wrap_in (by omega) (by omega)]; omega
  rw [if_pos l6, if_pos (by simpa using u6), size_s hn0 hn1 (by omega)]
  simp only [Option.bind_some]
  rw [if_neg (by omega)]
  generalize rd [v1, wrap64 (256 * v2), wrap64 (65535 - v3), v4, wrap64 (4656 + v5)] v6 = a at hr ⊢
  have hm : Int.tmod a (sz n) = a % sz n := Int.tmod_eq_emod_of_nonneg hr.1
  have h0 := Int.emod_nonneg a (show sz n ≠ 0 by omega)
  have h1 := Int.emod_lt_of_pos a (show 0 < sz n by omega)
  have h2 : a % sz n ≤ a := by
    have := Int.mul_ediv_add_emod a (sz n)
    have := Int.mul_nonneg (show 0 ≤ sz n by omega) (Int.ediv_nonneg hr.1 (show 0 ≤ sz n by omega))
    omega
  rw [hm, wrap_in (by omega) (by omega)]
  refine ⟨a - a % sz n, by simp; omega, okB_iff.2 ⟨hn0, hn1, by omega, by omega, ?_⟩⟩
  have := Int.mul_ediv_add_emod a (sz n)
  rw [show a - a % sz n = sz n * (a / sz n) by omega]
  exact Int.mul_emod_right _ _
theorem six {i : Int} (h0 : 0 ≤ i) (h1 : i < 6) (x0 x1 x2 x3 x4 x5 : Int) (P : Int → Prop) (p0 : P x0) (p1 : P x1) (p2 : P x2) (p3 : P x3) (p4 : P x4) (p5 : P x5) : P (rd [x0, x1, x2, x3, x4, x5] i) := by
  have : i = 0 ∨ i = 1 ∨ i = 2 ∨ i = 3 ∨ i = 4 ∨ i = 5 := by omega
  rcases this with rfl | rfl | rfl | rfl | rfl | rfl
  · exact p0
  · exact p1
  · exact p2
  · exact p3
  · exact p4
  · exact p5
theorem prefix_s {b : List Int} (h : Bytes b) {p : Int} (hp : 0 ≤ p) (hp1 : p ≤ 800000000000) {k : Nat} (hk : 30 ≤ k) : ∃ a n q, spec_l5Prefix.f k b p = some (a, n, q) ∧ okB a n = true ∧ p ≤ q ∧ q ≤ p + 9 := by
  obtain ⟨v1, e1, l1, u1⟩ := pick_s h (p := p) (n := 17) (by omega) (by omega) (by omega) (k := k) (by omega)
  obtain ⟨v2, e2, l2, u2⟩ := pick_s h (p := p + 1) (n := 3) (by omega) (by omega) (by omega) (k := k) (by omega)
  obtain ⟨v3, e3, l3, u3⟩ := pick_s h (p := p + 1 + 1) (n := 6) (by omega) (by omega) (by omega) (k := k) (by omega)
  unfold spec_l5Prefix.f
  simp only [e1, e2, e3, Option.bind_some]
  by_cases h0 : v2 = 0
  · have hr : 0 ≤ rd [0, 1, 2, 8, 15, 16] v3 ∧ rd [0, 1, 2, 8, 15, 16] v3 ≤ 16 := six (P := fun x => 0 ≤ x ∧ x ≤ 16) l3 u3 _ _ _ _ _ _ (by omega) (by omega) (by omega) (by omega) (by omega) (by omega)
    rw [if_pos h0, if_pos l3, if_pos (by simpa using u3)]
    obtain ⟨a, e, ok⟩ := prefix_j h (p := p + 1 + 1 + 1) (by omega) (by omega) hr.1 hr.2 hk
    exact ⟨a, _, _, e, ok, by omega, by omega⟩
  · rw [if_neg h0]
    obtain ⟨a, e, ok⟩ := prefix_j h (p := p + 1 + 1) (by omega) (by omega) l1 (show v1 ≤ 16 by omega) hk
    exact ⟨a, _, _, e, ok, by omega, by omega⟩
end Go.Proofs.Ytnakanjhdcakhaa.Pure
namespace Go.Proofs.Ytnakanjhdcakhaa.Pure
open Q Go.RowKit Go.Proofs.YtnakanjhdcakhaaW.PrintWords
set_option linter.unusedSimpArgs false
theorem spoil_s {b : List Int} (h : Bytes b) {p : Int} (hp : 0 ≤ p) (hp1 : p ≤ 800000000000) (a n : Int) {k : Nat} (hk : 0 < k) : ∃ a' n' q, spec_l5Spoil.f k b p a n = some (a', n', q) ∧ p ≤ q ∧ q ≤ p + 2 := by
  obtain ⟨v1, e1, l1, u1⟩ := pick_s h (p := p) (n := 4) (by omega) (by omega) (by omega) (k := k) (by omega)
  obtain ⟨v2, e2, l2, u2⟩ := pick_s h (p := p + 1) (n := 4) (by omega) (by omega) (by omega) (k := k) (by omega)
  unfold spec_l5Spoil.f
  simp only [e1, e2, Option.bind_some]
  by_cases h0 : v1 = 0
  · rw [if_pos h0, if_pos l2, if_pos (by simpa using u2)]
    exact ⟨_, _, _, rfl, by omega, by omega⟩
  · rw [if_neg h0]
    by_cases h1 : v1 = 1
    · rw [if_pos h1]
      exact ⟨_, _, _, rfl, by omega, by omega⟩
    · rw [if_neg h1]
      by_cases h2 : v1 = 2
      · rw [if_pos h2, if_pos l2, if_pos (by simpa using u2)]
        exact ⟨_, _, _, rfl, by omega, by omega⟩
      · rw [if_neg h2]
        exact ⟨_, _, _, rfl, by omega, by omega⟩
theorem addr_j1 {b : List Int} (h : Bytes b) {p : Int} (hp : 0 ≤ p) (hp1 : p ≤ 800000000000) (a n : Int) {k : Nat} (hk : 1 < k) : ∃ x q, spec_l5Addr.j0 k true b p a n = some (x, q) ∧ p ≤ q ∧ q ≤ p + 2 := by
  obtain ⟨k, rfl⟩ : ∃ m, k = m + 1 := ⟨k - 1, by omega⟩
  obtain ⟨v1, e1, l1, u1⟩ := pick_s h (p := p) (n := 65536) (by omega) (by omega) (by omega) (k := k) (by omega)
  obtain ⟨v2, e2, l2, u2⟩ := pick_s h (p := p + 1) (n := 5) (by omega) (by omega) (by omega) (k := k) (by omega)
  simp only [spec_l5Addr.j0, if_true, e1, e2, Option.bind_some]
  rw [if_pos l2, if_pos (by simpa using u2)]
  exact ⟨_, _, rfl, by omega, by omega⟩
theorem addr_j2 {b : List Int} (h : Bytes b) {p : Int} (hp : 0 ≤ p) (hp1 : p ≤ 800000000000) {a n : Int} (hok : okB a n = true) {k : Nat} (hk : 30 < k) : ∃ x q, spec_l5Addr.j0 k false b p a n = some (x, q) ∧ p ≤ q ∧ q ≤ p + 2 := by
  obtain ⟨k, rfl⟩ : ∃ m, k = m + 1 := ⟨k - 1, by omega⟩
  have hz := okB_iff.1 hok
  have hs := sz_pos n
  obtain ⟨v1, e1, l1, u1⟩ := pick_s h (p := p) (n := sz n) (by omega) (by omega) (by omega) (k := k) (by omega)
  obtain ⟨v2, e2, l2, u2⟩ := pick_s h (p := p + 1) (n := 5) (by omega) (by omega) (by omega) (k := k) (by omega)
  simp only [spec_l5Addr.j0, Bool.false_eq_true, if_false, size_s hz.1 hz.2.1 (show 20 ≤ k by omega), e1, e2, Option.bind_some]
  rw [if_pos l2, if_pos (by simpa using u2)]
  exact ⟨_, _, rfl, by omega, by omega⟩
theorem addr_s {b : List Int} (h : Bytes b) {p : Int} (hp : 0 ≤ p) (hp1 : p ≤ 700000000000) (a n : Int) {k : Nat} (hk : 30 < k) : ∃ x q, spec_l5Addr.f k b p a n = some (x, q) ∧ p ≤ q ∧ q ≤ p + 3 := by
  unfold spec_l5Addr.f
  rw [ok_s (by omega), Option.bind_some]
  by_cases hok : okB a n = true
  · rw [if_pos hok]
    obtain ⟨v1, e1, l1, u1⟩ := pick_s h (p := p) (n := 4) (by omega) (by omega) (by omega) (k := k) (by omega)
    rw [e1, Option.bind_some]
    cases hv : v1 == 0 with
    | true =>
      obtain ⟨x, q, e, l, u⟩ := addr_j1 h (p := p + 1) (by omega) (by omega) a n (k := k) (by omega)
      exact ⟨x, q, e, by omega, by omega⟩
    | false =>
      obtain ⟨x, q, e, l, u⟩ := addr_j2 h (p := p + 1) (by omega) (by omega) hok (k := k) (by omega)
      exact ⟨x, q, e, by omega, by omega⟩
  · rw [if_neg hok]
    obtain ⟨x, q, e, l, u⟩ := addr_j1 h hp (by omega) a n (k := k) (by omega)
    exact ⟨x, q, e, by omega, by omega⟩
end Go.Proofs.Ytnakanjhdcakhaa.Pure
namespace Go.Proofs.Ytnakanjhdcakhaa.Pure
open Go.RowKit Go.Proofs.YtnakanjhdcakhaaW.PrintWords Go.Proofs.YtnakanjhdcakhaaW.PrintMore
open Q
set_option linter.unusedVariables false
set_option linter.unusedSimpArgs false
instance : DecidableEq S26 := fun a b => by
  cases a with
  | mk a0 a1 =>
    cases b with
    | mk b0 b1 =>
      rw [S26.mk.injEq]
      exact inferInstance
theorem wrap_succ {i : Int} (h0 : 0 ≤ i) (h1 : i < 9223372036854775807) : wrap64 (i + 1) = i + 1 := by unfold wrap64; omega
/-- Is the prefix at this place ok, and has it the address? -/
def hitB (l : List S26) (x : Int) (j : Int) : Bool := okB (rd_T26 l j).f0 (rd_T26 l j).f1 && hasB (rd_T26 l j).f0 (rd_T26 l j).f1 x
/-- Of the first i prefixes, b is the place of the longest that has x, the first of several; -1: none. -/
def Best (l : List S26) (x b i : Int) : Prop :=
  (b = -1 ∧ ∀ j, 0 ≤ j → j < i → hitB l x j = false) ∨
  (0 ≤ b ∧ b < i ∧ hitB l x b = true ∧ ∀ j, 0 ≤ j → j < i → hitB l x j = true → (rd_T26 l j).f1 ≤ (rd_T26 l b).f1 ∧ ((rd_T26 l j).f1 = (rd_T26 l b).f1 → b ≤ j))
theorem best_start (l : List S26) (x : Int) : Best l x (-1) 0 := .inl ⟨rfl, fun j h0 h1 => by omega⟩
theorem best_miss {l : List S26} {x b i : Int} (h : Best l x b i) (hm : hitB l x i = false) : Best l x b (i + 1) := by
  rcases h with ⟨rfl, h⟩ | ⟨h0, h1, h2, h⟩
  · exact .inl ⟨rfl, fun j j0 j1 => by
      by_cases e : j = i
      · rw [e]; exact hm
      · exact h j j0 (by omega)⟩
  · refine .inr ⟨h0, by omega, h2, fun j j0 j1 hj => ?_⟩
    by_cases e : j = i
    · rw [e, hm] at hj; cases hj
    · exact h j j0 (by omega) hj
theorem best_first {l : List S26} {x b i : Int} (h : Best l x b i) (hb : b < 0) (h0 : 0 ≤ i) (hh : hitB l x i = true) : Best l x i (i + 1) := by
  rcases h with ⟨rfl, h⟩ | ⟨b0, _, _, _⟩
  · refine .inr ⟨h0, by omega, hh, fun j j0 j1 hj => ?_⟩
    by_cases e : j = i
    · subst e; exact ⟨Int.le_refl _, fun _ => Int.le_refl _⟩
    · rw [h j j0 (by omega)] at hj; cases hj
  · omega
theorem best_more {l : List S26} {x b i : Int} (h : Best l x b i) (hb : 0 ≤ b) (hh : hitB l x i = true) (hm : (rd_T26 l b).f1 < (rd_T26 l i).f1) : Best l x i (i + 1) := by
  rcases h with ⟨rfl, h⟩ | ⟨b0, b1, b2, h⟩
  · omega
  · refine .inr ⟨by omega, by omega, hh, fun j j0 j1 hj => ?_⟩
    by_cases e : j = i
    · subst e; exact ⟨Int.le_refl _, fun _ => Int.le_refl _⟩
    · have := h j j0 (by omega) hj
      exact ⟨by omega, fun e => by omega⟩
theorem best_less {l : List S26} {x b i : Int} (h : Best l x b i) (hb : 0 ≤ b) (hm : ¬ (rd_T26 l b).f1 < (rd_T26 l i).f1) : Best l x b (i + 1) := by
  rcases h with ⟨rfl, h⟩ | ⟨b0, b1, b2, h⟩
  · omega
  · refine .inr ⟨b0, by omega, b2, fun j j0 j1 hj => ?_⟩
    by_cases e : j = i
    · subst e; exact ⟨by omega, fun _ => by omega⟩
    · exact h j j0 (by omega) hj
theorem best_range {l : List S26} {x b i : Int} (h : Best l x b i) : b < 0 ∨ 0 ≤ b ∧ b < i := by
  rcases h with ⟨rfl, _⟩ | ⟨b0, b1, _⟩
  · left; omega
  · right; exact ⟨b0, b1⟩
theorem best_loop (l : List S26) (x : Int) (hl : l.length < 9223372036854775807) (d : Nat) : ∀ (i : Nat) (b : Int), i + d = l.length → Best l x b i →
    ∃ r, Best l x r l.length ∧ (∀ k, d + 20 < k → spec_NetBest.l0 k l x b i = some r) ∧ (∀ k, d < k → impl_NetBest.l0 k l x b l l.length i = some r) := by
  induction d with
  | zero =>
    intro i b hi hB
    rw [show i = l.length by omega] at hB ⊢
    refine ⟨b, hB, fun k hk => ?_, fun k hk => ?_⟩
    · obtain ⟨k, rfl⟩ : ∃ m, k = m + 1 := ⟨k - 1, by omega⟩
      simp only [spec_NetBest.l0]
      rw [if_neg (by omega)]
    · obtain ⟨k, rfl⟩ : ∃ m, k = m + 1 := ⟨k - 1, by omega⟩
      simp only [impl_NetBest.l0]
      rw [if_neg (by omega)]
  | succ d ih =>
    intro i b hi hB
    have hr := best_range hB
    cases hh : hitB l x i with
    | false =>
      obtain ⟨r, h0, h1, h2⟩ := ih (i + 1) b (by omega) (best_miss hB hh)
      unfold hitB at hh
      refine ⟨r, h0, fun k hk => ?_, fun k hk => ?_⟩
      · obtain ⟨k, rfl⟩ : ∃ m, k = m + 1 := ⟨k - 1, by omega⟩
        simp only [spec_NetBest.l0]
        rw [if_pos (by omega), if_pos (by omega), nethas_s (by omega), hh]
        simp only [Option.bind_some]
        rw [if_neg (by simp), wrap_succ (by omega) (by omega)]
        exact h1 k (by omega)
      · obtain ⟨k, rfl⟩ : ∃ m, k = m + 1 := ⟨k - 1, by omega⟩
        simp only [impl_NetBest.l0]
        rw [if_pos (by omega), if_pos (by omega), if_pos (by omega), nethas_i, hh]
        simp only [Option.bind_some]
        rw [if_neg (by simp), wrap_succ (by omega) (by omega)]
        exact h2 k (by omega)
    | true =>
      have step : ∃ b', Best l x b' (i + 1) ∧ ((b < 0 ∧ b' = i) ∨ (0 ≤ b ∧ (rd_T26 l i).f1 > (rd_T26 l b).f1 ∧ b' = i) ∨ (0 ≤ b ∧ ¬ (rd_T26 l i).f1 > (rd_T26 l b).f1 ∧ b' = b)) := by
        by_cases hb : b < 0
        · exact ⟨i, best_first hB hb (by omega) hh, .inl ⟨hb, rfl⟩⟩
        · by_cases hm : (rd_T26 l i).f1 > (rd_T26 l b).f1
          · exact ⟨i, best_more hB (by omega) hh hm, .inr (.inl ⟨by omega, hm, rfl⟩)⟩
          · exact ⟨b, best_less hB (by omega) hm, .inr (.inr ⟨by omega, hm, rfl⟩)⟩
      obtain ⟨b', hB', hc⟩ := step
      obtain ⟨r, h0, h1, h2⟩ := ih (i + 1) b' (by omega) hB'
      unfold hitB at hh
      refine ⟨r, h0, fun k hk => ?_, fun k hk => ?_⟩
      · obtain ⟨k, rfl⟩ : ∃ m, k = m + 1 := ⟨k - 1, by omega⟩
        simp only [spec_NetBest.l0]
        rw [if_pos (by omega), if_pos (by omega), nethas_s (by omega), hh]
        simp only [Option.bind_some, if_true]
        rw [wrap_succ (by omega) (by omega)]
        rcases hc with ⟨hb, rfl⟩ | ⟨hb, hm, rfl⟩ | ⟨hb, hm, rfl⟩
        · rw [if_pos hb]; exact h1 k (by omega)
        · rw [if_neg (by omega), if_pos hb, if_pos (by omega), if_pos hm]; exact h1 k (by omega)
        · rw [if_neg (by omega), if_pos hb, if_pos (by omega), if_neg hm]; exact h1 k (by omega)
      · obtain ⟨k, rfl⟩ : ∃ m, k = m + 1 := ⟨k - 1, by omega⟩
        simp only [impl_NetBest.l0]
        rw [if_pos (by omega), if_pos (by omega), if_pos (by omega), nethas_i, hh]
        simp only [Option.bind_some, if_true]
        rw [wrap_succ (by omega) (by omega)]
        rcases hc with ⟨hb, rfl⟩ | ⟨hb, hm, rfl⟩ | ⟨hb, hm, rfl⟩
        · rw [if_pos hb]; exact h2 k (by omega)
        · rw [if_neg (by omega), if_pos hb, if_pos (by omega), if_pos hm]; exact h2 k (by omega)
        · rw [if_neg (by omega), if_pos hb, if_pos (by omega), if_neg hm]; exact h2 k (by omega)
/-- What both NetBests say. -/
theorem best_both (l : List S26) (x : Int) (hl : l.length < 9223372036854775807) :
    ∃ r, Best l x r l.length ∧ (∀ k, l.length + 20 < k → spec_NetBest.f k l x = some r) ∧ (∀ k, l.length < k → impl_NetBest.f k l x = some r) :=
  best_loop l x hl l.length 0 (-1) (by omega) (best_start l x)
end Go.Proofs.Ytnakanjhdcakhaa.Pure
namespace Go.Proofs.Ytnakanjhdcakhaa.Pure
open Go.RowKit Go.Proofs.YtnakanjhdcakhaaW.PrintWords Go.Proofs.YtnakanjhdcakhaaW.PrintMore
open Q
set_option linter.unusedVariables false
set_option linter.unusedSimpArgs false
def allOk (l : List S26) : Prop := ∀ q, q ∈ l → okB q.f0 q.f1 = true
theorem half_ok {a n : Int} (h : okB a n = true) (hn : n < 16) : okB a (n + 1) = true ∧ okB (a + sz (n + 1)) (n + 1) = true := by
  obtain ⟨h0, h1, h2, h3, h4⟩ := okB_iff.1 h
  have hh := sz_half hn
  have hp := sz_pos (n + 1)
  have hd : sz n ∣ a := Int.dvd_of_emod_eq_zero h4
  have hd1 : sz (n + 1) ∣ a := Int.dvd_trans (sz_dvd (by omega)) hd
  have htop : a + sz n ≤ 65536 := by
    have h5 : sz n ∣ 65536 := by rw [← sz0]; exact sz_dvd h0
    obtain ⟨x, hx⟩ := hd
    obtain ⟨y, hy⟩ := h5
    have hps := sz_pos n
    have : x < y := by
      rcases Int.lt_or_le x y with h | h
      · exact h
      · have := Int.mul_le_mul_of_nonneg_left h (show 0 ≤ sz n by omega)
        omega
    have := Int.mul_le_mul_of_nonneg_left (show x + 1 ≤ y by omega) (show 0 ≤ sz n by omega)
    rw [Int.mul_add] at this
    omega
  refine ⟨okB_iff.2 ⟨by omega, by omega, h2, h3, Int.emod_eq_zero_of_dvd hd1⟩, okB_iff.2 ⟨by omega, by omega, by omega, by omega, Int.emod_eq_zero_of_dvd (Int.dvd_add hd1 (Int.dvd_refl _))⟩⟩
end Go.Proofs.Ytnakanjhdcakhaa.Pure
namespace Go.Proofs.Ytnakanjhdcakhaa.Pure
open Q Go.RowKit Go.Proofs.YtnakanjhdcakhaaW.PrintWords
set_option linter.unusedSimpArgs false
theorem open_s {l : List Int} (h : ∀ x ∈ l, 0 ≤ x ∧ x ≤ 255) : ∃ b, spec_l1Open.f l = some (b, 0) ∧ Bytes b := by
  unfold spec_l1Open.f
  by_cases hc : (l.length : Int) > 2000
  · rw [if_pos hc, if_pos (by omega)]
    exact ⟨_, rfl, by rw [List.length_take]; omega, fun x hx => h x (List.mem_of_mem_take hx)⟩
  · rw [if_neg hc]
    exact ⟨_, rfl, by omega, h⟩
end Go.Proofs.Ytnakanjhdcakhaa.Pure
namespace Go.Proofs.Ytnakanjhdcakhaa.Pure
open Go.RowKit Go.Proofs.YtnakanjhdcakhaaW.PrintWords Go.Proofs.YtnakanjhdcakhaaW.PrintMore
open Q
set_option linter.unusedVariables false
set_option linter.unusedSimpArgs false
/-- The addresses that some of l have and none of o. -/
def anyB (l : List S26) (x : Int) : Bool := l.any fun q => hasB q.f0 q.f1 x
end Go.Proofs.Ytnakanjhdcakhaa.Pure
namespace Go.Proofs.Ytnakanjhdcakhaa.Pure
open Q Go.RowKit Go.Proofs.YtnakanjhdcakhaaW.PrintWords
set_option linter.unusedSimpArgs false
set_option linter.unusedVariables false
theorem align_ok {a m : Int} (h0 : 0 ≤ m) (h1 : m ≤ 16) (ha : 0 ≤ a) (hb : a ≤ 65535) : okB (a - a % sz m) m = true ∧ 0 ≤ a % sz m ∧ a % sz m ≤ a := by
  have hz := sz_pos m
  have e0 := Int.emod_nonneg a (show sz m ≠ 0 by omega)
  have e2 : a % sz m ≤ a := by
    have := Int.mul_ediv_add_emod a (sz m)
    have := Int.mul_nonneg (show 0 ≤ sz m by omega) (Int.ediv_nonneg ha (show 0 ≤ sz m by omega))
    omega
  refine ⟨okB_iff.2 ⟨h0, h1, by omega, by omega, ?_⟩, e0, e2⟩
  have := Int.mul_ediv_add_emod a (sz m)
  rw [show a - a % sz m = sz m * (a / sz m) by omega]
  exact Int.mul_emod_right _ _
theorem rd26_in {l : List S26} {i : Int} (h0 : 0 ≤ i) (h1 : i < (l.length : Int)) : rd_T26 l i ∈ l := by
  obtain ⟨n, rfl⟩ := Int.eq_ofNat_of_zero_le h0
  have hn : n < l.length := by omega
  have e : rd_T26 l (n : Int) = l[n] := by simp [rd_T26, List.getD_eq_getElem?_getD, hn]
  rw [e]
  exact List.getElem_mem hn
theorem allOk_snoc {l : List S26} (h : allOk l) (x : S26) (hx : okB x.f0 x.f1 = true) : allOk (l ++ [x]) := by
  intro y hy
  rcases List.mem_append.1 hy with hy | hy
  · exact h y hy
  · rw [List.mem_singleton.1 hy]
    exact hx
theorem allOk_two {a b : S26} (ha : okB a.f0 a.f1 = true) (hb : okB b.f0 b.f1 = true) : allOk [a, b] := by
  intro y hy
  simp at hy
  rcases hy with rfl | rfl
  · exact ha
  · exact hb
/-- A draw of prefixes that ends: how many at the most, and how far the reader has gone. -/
def DoneL (o : Option (List S26 × Int)) (m : Nat) (hi : Int) : Prop := ∃ r q, o = some (r, q) ∧ r.length ≤ m ∧ 0 ≤ q ∧ q ≤ hi
theorem list_j1 {b : List Int} (hb : Bytes b) {P hi : Int} (hP : P ≤ 600000000000) {m M k : Nat} (hM : M ≤ 100) (hm : m + 1 ≤ M) (hk : 33 ≤ k) {x6 : Int} (IH : ∀ (x5 : List S26) (p : Int), allOk x5 → x5.length ≤ m + 1 → 0 ≤ p → p ≤ P → DoneL (spec_l5List.l0 k x5 (wrap64 (x6 - 1)) b p) M hi)
    {x5 : List S26} (ok : allOk x5) (hl : x5.length ≤ m) (x30 : Bool) (hx : x30 = true → 0 < x5.length) {p : Int} (hp : 0 ≤ p) (hp1 : p + 5 ≤ P) {a n : Int} (ha : okB a n = true) : DoneL (spec_l5List.j1 (k + 1) x5 x6 x30 b p a n) M hi := by
  have h87 : x5.length < 8796093022208 := by omega
  simp only [spec_l5List.j1]
  by_cases h : x30 = true
  · have hx' := hx h
    obtain ⟨v1, e1, l1, u1⟩ := pick_s hb (p := p) (n := (x5.length : Int)) (by omega) (by omega) (by omega) (k := k) (by omega)
    obtain ⟨v2, e2, l2, u2⟩ := pick_s hb (p := p + 1) (n := 3) (by omega) (by omega) (by omega) (k := k) (by omega)
    obtain ⟨v3, e3, l3, u3⟩ := pick_s hb (p := p + 1 + 1) (n := 2) (by omega) (by omega) (by omega) (k := k) (by omega)
    have hq := ok _ (rd26_in l1 u1)
    have hq' := okB_iff.1 hq
    simp only [if_pos h, e1, e2, Option.bind_some]
    rw [if_pos l1, if_pos u1]
    generalize rd_T26 x5 v1 = q at hq hq' ⊢
    by_cases c0 : v2 = 0
    · rw [if_pos c0]
      by_cases c1 : q.f1 > 0
      · have w1 : wrap64 (q.f1 - 1) = q.f1 - 1 := wrap_in (by omega) (by omega)
        have hz := sz_pos (q.f1 - 1)
        obtain ⟨al, am, an⟩ := align_ok (a := q.f0) (m := q.f1 - 1) (by omega) (by omega) hq'.2.2.1 hq'.2.2.2.1
        have al' := okB_iff.1 al
        have hh := half_ok al (by omega)
        have hm : Int.tmod q.f0 (sz (q.f1 - 1)) = q.f0 % sz (q.f1 - 1) := Int.tmod_eq_emod_of_nonneg hq'.2.2.1
        rw [if_pos c1, w1, size_s (by omega) (by omega) (by omega), Option.bind_some, if_neg (by omega), hm, wrap_in (x := q.f0 - q.f0 % sz (q.f1 - 1)) (by omega) (by omega), l1halves_s (by omega) (by omega) (by omega) al'.2.2.1 al'.2.2.2.1]
        simp only [Option.bind_some, e3]
        have ok2 := rd26_in (l := [(⟨q.f0 - q.f0 % sz (q.f1 - 1), q.f1 - 1 + 1⟩ : S26), ⟨q.f0 - q.f0 % sz (q.f1 - 1) + sz (q.f1 - 1 + 1), q.f1 - 1 + 1⟩]) l3 (by simpa using u3)
        rw [if_pos l3, if_pos (by simpa using u3), if_pos h87]
        exact IH _ _ (allOk_snoc ok _ (allOk_two hh.1 hh.2 _ ok2)) (by simp; omega) (by omega) (by omega)
      · rw [if_neg c1, if_pos h87]
        exact IH _ _ (allOk_snoc ok _ ha) (by simp; omega) (by omega) (by omega)
    · rw [if_neg c0]
      by_cases c1 : v2 = 1
      · rw [if_pos c1]
        by_cases c2 : q.f1 < 16
        · have hh := half_ok hq c2
          rw [if_pos c2, l1halves_s (by omega) hq'.1 c2 hq'.2.2.1 hq'.2.2.2.1]
          simp only [Option.bind_some, e3]
          have ok2 := rd26_in (l := [(⟨q.f0, q.f1 + 1⟩ : S26), ⟨q.f0 + sz (q.f1 + 1), q.f1 + 1⟩]) l3 (by simpa using u3)
          rw [if_pos l3, if_pos (by simpa using u3), if_pos h87]
          exact IH _ _ (allOk_snoc ok _ (allOk_two hh.1 hh.2 _ ok2)) (by simp; omega) (by omega) (by omega)
        · rw [if_neg c2, if_pos h87]
          exact IH _ _ (allOk_snoc ok _ ha) (by simp; omega) (by omega) (by omega)
      · rw [if_neg c1, if_pos h87]
        exact IH _ _ (allOk_snoc ok _ hq) (by simp; omega) (by omega) (by omega)
  · simp only [if_neg h]
    rw [if_pos h87]
    exact IH _ _ (allOk_snoc ok _ ha) (by simp; omega) hp (by omega)
theorem list_l0 {b : List Int} (hb : Bytes b) {M : Nat} (hM : M ≤ 100) {B : Int} (hB : B ≤ 600000000000) (d : Nat) : ∀ (k : Nat) (x5 : List S26) (p : Int), allOk x5 → x5.length + d ≤ M → 0 ≤ p → p ≤ B - 20 * d - 10 → 2 * d + 50 ≤ k → DoneL (spec_l5List.l0 k x5 d b p) M B := by
  induction d with
  | zero =>
    intro k x5 p ok hl hp hp1 hk
    obtain ⟨k, rfl⟩ : ∃ m, k = m + 1 := ⟨k - 1, by omega⟩
    obtain ⟨v1, e1, l1, u1⟩ := pick_s hb (p := p) (n := 30) (by omega) (by omega) (by omega) (k := k) (by omega)
    simp only [spec_l5List.l0]
    rw [if_neg (by omega), e1, Option.bind_some]
    by_cases c0 : v1 = 0
    · rw [if_pos c0]
      by_cases c1 : (x5.length : Int) > 0
      · obtain ⟨a', n', q, e, g1, g2⟩ := spoil_s hb (p := p + 1) (by omega) (by omega) (rd_T26 x5 0).f0 (rd_T26 x5 0).f1 (k := k) (by omega)
        rw [if_pos c1, if_pos (by omega), e, Option.bind_some]
        exact ⟨_, _, rfl, by simp; omega, by (try dsimp only); omega, by (try dsimp only); omega⟩
      · rw [if_neg c1]
        exact ⟨_, _, rfl, by omega, by (try dsimp only); omega, by (try dsimp only); omega⟩
    · rw [if_neg c0]
      exact ⟨_, _, rfl, by omega, by (try dsimp only); omega, by (try dsimp only); omega⟩
  | succ d ih =>
    intro k x5 p ok hl hp hp1 hk
    obtain ⟨k, rfl⟩ : ∃ m, k = m + 2 := ⟨k - 2, by omega⟩
    have IH : ∀ (x5' : List S26) (p' : Int), allOk x5' → x5'.length ≤ x5.length + 1 → 0 ≤ p' → p' ≤ B - 20 * d - 10 → DoneL (spec_l5List.l0 k x5' (wrap64 (((d + 1 : Nat) : Int) - 1)) b p') M B := by
      intro x5' p' ok' hl' hp' hp1'
      rw [show wrap64 (((d + 1 : Nat) : Int) - 1) = (d : Int) by rw [wrap_in (by omega) (by omega)]; omega]
      exact ih k x5' p' ok' (by omega) hp' hp1' (by omega)
    obtain ⟨a1, n1, q1, f1, o1, g1, g1'⟩ := prefix_s hb (p := p) (by omega) (by omega) (k := k + 1) (by omega)
    obtain ⟨v1, e1, l1, u1⟩ := pick_s hb (p := q1) (n := 2) (by omega) (by omega) (by omega) (k := k + 1) (by omega)
    simp only [spec_l5List.l0]
    rw [if_pos (by omega), f1, Option.bind_some]
    by_cases h : (x5.length : Int) > 0
    · rw [if_pos h, e1, Option.bind_some]
      exact list_j1 hb (P := B - 20 * d - 10) (by omega) hM (by omega) (by omega) IH ok (Nat.le_refl _) _ (fun _ => by omega) (by omega) (by (try dsimp only); omega) o1
    · rw [if_neg h]
      exact list_j1 hb (P := B - 20 * d - 10) (by omega) hM (by omega) (by omega) IH ok (Nat.le_refl _) _ (fun hq => by simp at hq) (by (try dsimp only); omega) (by (try dsimp only); omega) o1
theorem list_s {b : List Int} (hb : Bytes b) {p : Int} (hp : 0 ≤ p) (hp1 : p ≤ 500000000000) {most : Nat} (hm : 1 ≤ most) (hm1 : most ≤ 20) {k : Nat} (hk : 100 ≤ k) : ∃ r q, spec_l5List.f k b p most = some (r, q) ∧ r.length < most ∧ 0 ≤ q ∧ q ≤ p + 500 := by
  obtain ⟨v1, e1, l1, u1⟩ := pick_s hb (p := p) (n := most) (by omega) (by omega) (by omega) (k := k) (by omega)
  obtain ⟨d, rfl⟩ := Int.eq_ofNat_of_zero_le l1
  obtain ⟨r, q, e, h1, h2, h3⟩ := list_l0 hb (M := d) (by omega) (B := p + 500) (by omega) d k [] (p + 1) (by intro x hx; simp at hx) (by simp) (by omega) (by omega) (by omega)
  unfold spec_l5List.f
  rw [e1, Option.bind_some]
  exact ⟨r, q, e, by omega, h2, h3⟩
theorem drawBest_s {l : List Int} (h : ∀ x ∈ l, 0 ≤ x ∧ x ≤ 255) {k : Nat} (hk : 100 ≤ k) : ∃ r a, spec_DrawNetBest.f k l = some (r, a) ∧ r.length ≤ 10 := by
  obtain ⟨b, e, hb⟩ := open_s h
  obtain ⟨r, q, e1, g1, g2, g3⟩ := list_s hb (p := 0) (by omega) (by omega) (most := 10) (by omega) (by omega) hk
  have h10 : ((10 : Nat) : Int) = 10 := rfl
  rw [h10] at e1
  unfold spec_DrawNetBest.f
  rw [e, Option.bind_some, e1, Option.bind_some]
  by_cases hc : (r.length : Int) > 0
  · obtain ⟨v1, e2, l1, u1⟩ := pick_s hb (p := q) (n := (r.length : Int)) (by omega) (by omega) (by omega) (k := k) (by omega)
    obtain ⟨x1, q1, f1, k1, k1'⟩ := addr_s hb (p := q + 1) (by omega) (by omega) (rd_T26 r v1).f0 (rd_T26 r v1).f1 (k := k) (by omega)
    rw [if_pos hc, e2, Option.bind_some, if_pos l1, if_pos u1, f1, Option.bind_some]
    exact ⟨_, _, rfl, by (try dsimp only); omega⟩
  · obtain ⟨v1, e2, l1, u1⟩ := pick_s hb (p := q) (n := 65536) (by omega) (by omega) (by omega) (k := k) (by omega)
    rw [if_neg hc, e2, Option.bind_some]
    exact ⟨_, _, rfl, by (try dsimp only); omega⟩
end Go.Proofs.Ytnakanjhdcakhaa.Pure
namespace Go.Proofs.Ytnakanjhdcakhaa.Q
open Go.RowKit Go.Proofs.YtnakanjhdcakhaaW.PrintWords Go.Proofs.YtnakanjhdcakhaaW.PrintLast Go.Proofs.YtnakanjhdcakhaaW.PrintMore
attribute [local go_sem] max2_int min2_int max_two min_two max_three min_three max_four min_four   -- for this text's walks alone
set_option linter.unusedVariables false
set_option linter.unusedSimpArgs false
theorem eqA26 (d : Nat) (w : World) (x0 y0 : Int) (x1 y1 : Int) :
    (Op.equalIn (d + 2) 26 (.agg #[.int .i64 x0, .int .i64 x1]) (.agg #[.int .i64 y0, .int .i64 y1])).run Try.prog w = .ok (x0 == y0 && (x1 == y1)) w := by
  refine eqA_of Try.underlying26 (by kernel_rfl) ?_
  refine eqf_cons (by rfl) (by go_simp; rfl) (by go_simp; rfl) (by go_simp) ?_
  exact eqf_last (by rfl) (by go_simp; rfl) (by go_simp; rfl) (by go_simp)
end Go.Proofs.Ytnakanjhdcakhaa.Q
namespace Go.Proofs.Ytnakanjhdcakhaa.Pure
open Q Go.RowKit Go.Proofs.YtnakanjhdcakhaaW.PrintWords
set_option linter.unusedSimpArgs false
set_option linter.unusedVariables false
theorem hit_def (l : List S26) (x j : Int) : hitB l x j = (okB (rd_T26 l j).f0 (rd_T26 l j).f1 && hasB (rd_T26 l j).f0 (rd_T26 l j).f1 x) := rfl
end Go.Proofs.Ytnakanjhdcakhaa.Pure
namespace Go.Proofs.Ytnakanjhdcakhaa.Pure
open Q Go.RowKit Go.Proofs.YtnakanjhdcakhaaW.PrintWords
set_option linter.unusedSimpArgs false
set_option linter.unusedVariables false
theorem bestlaw_loop {l : List S26} {x b : Int} (hl : l.length ≤ 1000) (hB : Best l x b l.length) (d : Nat) : ∀ (i k : Nat), i + d = l.length → d + 40 < k → laws_FnNetBest.l0 k l x b i = some true := by
  have hr := best_range hB
  induction d with
  | zero =>
    intro i k hi hk
    obtain ⟨k, rfl⟩ : ∃ m, k = m + 1 := ⟨k - 1, by omega⟩
    simp only [laws_FnNetBest.l0]
    rw [if_neg (by omega)]
    by_cases hb : b < 0
    · rw [if_pos hb]
    · rw [if_neg hb, if_pos (by omega), if_pos (by omega), nethas_s (by omega), Option.bind_some]
      rcases hB with ⟨h, _⟩ | ⟨_, _, h, _⟩
      · omega
      · rw [← hit_def, h]
  | succ d ih =>
    intro i k hi hk
    obtain ⟨k, rfl⟩ : ∃ m, k = m + 1 := ⟨k - 1, by omega⟩
    have hn := ih (i + 1) k (by omega) (by omega)
    simp only [laws_FnNetBest.l0]
    rw [if_pos (by omega), if_pos (by omega), nethas_s (by omega), Option.bind_some, ← hit_def, wrap_in (x := (i : Int) + 1) (by omega) (by omega)]
    cases h : hitB l x (i : Int) with
    | false =>
      rw [if_neg (by simp)]
      exact hn
    | true =>
      rw [if_pos rfl]
      rcases hB with ⟨_, h2⟩ | ⟨h0, h1, h2, h3⟩
      · rw [h2 (i : Int) (by omega) (by omega)] at h
        exact absurd h (by simp)
      · obtain ⟨g1, g2⟩ := h3 (i : Int) (by omega) (by omega) h
        rw [if_neg (by omega), if_pos h0, if_pos (by omega), if_neg (by omega)]
        by_cases he : (rd_T26 l (i : Int)).f1 = (rd_T26 l b).f1
        · have := g2 he
          rw [if_pos he, if_neg (by omega)]
          exact hn
        · rw [if_neg he]
          exact hn
theorem FnNetBest (l0 : List Int) (hl : l0.length ≤ maxLen) (hb : ∀ x ∈ l0, 0 ≤ x ∧ x ≤ 255) : ∃ k, laws_FnNetBest.f k l0 = some true := by
  obtain ⟨k, hk⟩ : ∃ k, k = 200000 := ⟨_, rfl⟩
  refine ⟨k + 1, ?_⟩
  unfold laws_FnNetBest.f
  by_cases hc : (l0.length : Int) > 1048576
  · rw [if_pos hc]
  · obtain ⟨r, x, e, hr⟩ := drawBest_s hb (k := k + 1) (by omega)
    obtain ⟨b, hB, h1, h2⟩ := best_both r x (by omega)
    have hg := best_range hB
    rw [if_neg hc, e, Option.bind_some]
    simp only []
    rw [h2 _ (by omega), Option.bind_some, h1 _ (by omega), Option.bind_some, if_pos rfl, decide_eq_false (by omega)]
    simp only [laws_FnNetBest.j0, Bool.false_eq_true, if_false]
    exact bestlaw_loop (by omega) hB r.length 0 k (by omega) (by omega)
end Go.Proofs.Ytnakanjhdcakhaa.Pure
