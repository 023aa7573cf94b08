/- Lemmas for FnNetCover, part 4 of 4: the program's functions as Lean functions, what each Go function comes to, and plain lemmas on them. No statement of its own. -/
import Derived.Test.YtnakanjhdcakhaaC1xFnNetCover
import Derived.Test.YtnakanjhdcakhaaC2xFnNetCover
import Derived.Test.YtnakanjhdcakhaaC3xFnNetCover
namespace Go.Proofs.Ytnakanjhdcakhaa.Q
open Go.RowKit Go.Proofs.YtnakanjhdcakhaaW.PrintWords Go.Proofs.YtnakanjhdcakhaaW.PrintLast Go.Proofs.YtnakanjhdcakhaaW.PrintMore
attribute [local go_sem] max2_int min2_int max_two min_two max_three min_three max_four min_four   -- for this text's walks alone
set_option linter.unusedVariables false
set_option linter.unusedSimpArgs false
def spec_DrawNetCover.l0 : Nat → List (S26) → Int → List Int → Int → Option ((List (S26)))
  | 0, _, _, _, _ => none
  | k + 1, x4, x5, x104000, x104001 => (spec_l1Rd_pick.f k x104000 x104001 2).bind fun bt109 => (if x5 < (wrap64 (40 + bt109.1)) then (if x4.length < 8796093022208 then (spec_DrawNetCover.l0 k (x4 ++ [(⟨x5, 16⟩ : S26)]) (wrap64 (x5 + 1)) x104000 bt109.2) else (none)) else (some x4))
def spec_DrawNetCover.f (k : Nat) (l0 : List Int) : Option ((List (S26))) := (spec_l1Open.f l0).bind fun bt101 => ((spec_l1Rd_pick.f k bt101.1 bt101.2 30).bind fun bt104 => (if bt104.1 = 0 then (spec_DrawNetCover.l0 k (([] : List (S26))) 0 bt101.1 bt104.2) else ((spec_l5List.f k bt101.1 bt104.2 12).bind fun bt114 => (some bt114.1))))
theorem spec_DrawNetCover.grown117 {w0 W W0 : World} {g : Nat} {f0 : List Int} {f1 : Int} {W1 : World} {row : Option Nat} (_ : IsS117 w0 W0 g f0 f1) (h : IsS117 w0 W g f0 f1) (hw : W.grownBy W1 row) (hne : some g ≠ row) : IsS117 w0 W1 g f0 f1 := IsS117.grown h hw hne
set_option maxHeartbeats 8000000 in
set_option maxRecDepth 100000 in
theorem spec_DrawNetCover.calls (k : Nat) (A0 : Option Addr) (c0 : Nat) (l0 : List Int) (r : List (S26)) (w : World) (hr0 : Kd.C (Kd.int .u8) w A0 l0.length l0) (hc0 : l0.length ≤ c0) (h : spec_DrawNetCover.f k l0 = some r) :
    Calls Try.prog 65 #[.slice A0 l0.length c0] w fun e w' => ∃ v0_ : Value, e = .returned (v0_) ∧ Kd.R k26 26 w' w.heap.size (fun _ => True) v0_ r ∧ Below w.heap.size w w' := by
  have hu26 := Try.underlying26
  have HR0 := Aside0.mk hr0
  have HC0 := Aside0.mk hc0
  clear hr0 hc0
  have HB := Aside0.mk (Below.refl w.heap.size w)
  have H : ((spec_l1Open.f l0).bind fun bt101 => ((spec_l1Rd_pick.f k bt101.1 bt101.2 30).bind fun bt104 => (if bt104.1 = 0 then (spec_DrawNetCover.l0 k (([] : List (S26))) 0 bt101.1 bt104.2) else ((spec_l5List.f k bt101.1 bt104.2 12).bind fun bt114 => (some bt114.1))))) = some r := h
  clear h
  replace H := Option.bind_eq_some_iff.mp H
  obtain ⟨⟨t101, t102⟩, A20, H⟩ := H
  replace H : ((spec_l1Rd_pick.f k t101 t102 30).bind fun bt104 => (if bt104.1 = 0 then (spec_DrawNetCover.l0 k (([] : List (S26))) 0 t101 bt104.2) else ((spec_l5List.f k t101 bt104.2 12).bind fun bt114 => (some bt114.1)))) = some r := H
  have A2 := Aside0.mk A20
  clear A20
  replace H := Option.bind_eq_some_iff.mp H
  obtain ⟨⟨t104, t105⟩, A30, H⟩ := H
  replace H : (if t104 = 0 then (spec_DrawNetCover.l0 k (([] : List (S26))) 0 t101 t105) else ((spec_l5List.f k t101 t105 12).bind fun bt114 => (some bt114.1))) = some r := H
  have A3 := Aside0.mk A30
  clear A30
  by_cases c4 : t104 = 0
  · rw [if_pos c4] at H
    have c4b0 : (t104 == 0) = true := beq_iff_eq.mpr c4
    have c4b1 : (t104 != 0) = false := bne_eq_false_iff_eq.mpr c4
    clear c4
    obtain ⟨y106, hy106⟩ : ∃ y_ : List (S26), y_ = (([] : List (S26))) := ⟨_, rfl⟩
    replace H : (spec_DrawNetCover.l0 k y106 0 t101 t105) = some r := by first | (rw [hy106]; with_reducible exact H) | (have H2_ := (Option.bind_some _ _).symm.trans H; rw [hy106]; with_reducible exact H2_) | (have H2_ := (Option.bind_some _ _).symm.trans H; with_reducible exact H2_) | with_reducible exact H | (rw [hy106]; exact H) | exact H
    have Ny106 := Aside0.mk hy106
    clear hy106
    have H' := Aside0.mk H
    clear H
    go_enter Try.func65, Try.ntmps65
    go_wp2_with (first | ((with_reducible refine gate_callee (f := 79) rfl ?_); refine goesL_ (some 7) rfl rfl Try.func79 (by kernel_rfl) rfl #[.slice A0 l0.length c0] rfl (by (try simp only [List.map_toArray, List.map_cons, List.map_nil]); first | done | rfl | (simp only [List.length_drop, List.length_take]; rfl)) ?_; (with_reducible refine (spec_l1Open.calls _ _ l0 t101 t102 w _ ?side1 ?side2 ?side3 A2.out).mono ?_); (case side1 => repeat (first | (with_reducible first | exact HB.out | apply below_alloc | apply pw_below_drewN | apply below_drew1) | exact HB.out)); (case side2 => exact HR0.out); (case side3 => exact HC0.out); rintro e w5 ⟨g103, rfl, hi, hb, hb2⟩; refine ⟨_, rfl, ?_⟩; have n0_ := Aside0.mk (hb); have n1_ := Aside0.mk (hi); clear HB; have HB := n0_; have HI103 := n1_; clear n0_ n1_; (try clear hb); (try clear hb2); (try clear hk); (try clear hi)) | ((with_reducible refine gate_callee (f := 81) rfl ?_); refine goesL_ (some 9) rfl rfl Try.func81 (by kernel_rfl) rfl #[.pointer (some ⟨g103, 0, none⟩), .int .i64 30] rfl (by (try simp only [List.map_toArray, List.map_cons, List.map_nil]); first | done | rfl | (simp only [List.length_drop, List.length_take]; rfl)) ?_; (with_reducible refine (spec_l1Rd_pick.calls k g103 t101 t102 30 t104 t105 w _ ?side1 ?side2 A3.out).mono ?_); (case side1 => repeat (first | (with_reducible first | exact HI103.out | apply IsS117.alloc | apply IsS117.drewN | apply IsS117.drew | apply IsS117.set_1) | exact HI103.out)); (case side2 => repeat (first | (with_reducible first | exact HB.out | apply below_alloc | apply pw_below_drewN | apply below_drew1 | refine below_set ?_ (IsS117.ge HI103.out)) | exact HB.out)); rintro e w6 ⟨rfl, hi, hb, hk⟩; refine ⟨_, rfl, ?_⟩; have n0_ := Aside0.mk (hb); have n1_ := Aside0.mk (hi); clear HB; clear HI103; have HB := n0_; have HI103 := n1_; clear n0_ n1_; (try clear hb); (try clear hb2); (try clear hk); (try clear hi)) | ((with_reducible refine gate_dst (N := 11) rfl ?_); refine Kd.R_lit k26 _ 26 ?hg (N := 11) ?hd (xs := ([] : List (S26))) (inner := []) (ok := fun _ => True) (okp := fun _ => True) ?hr ?hp (fun _ hk => hk) trivial (Below.refl _ _) (Nat.le_refl _) (by simp) ?_; (case hd => rfl); (case hg => rfl); (case hr => first | (go_simp; done) | (go_simp; rfl)); (case hp => exact (Reps.none _ _)); intro v107 w7 ho8 hb hg_ hnew_; clear hg_ hnew_; (first | rw [← Ny106.out] at ho8 | (simp only [Int.reduceToNat] at ho8; rw [← Ny106.out] at ho8)); have n0_ := Aside0.mk (Kd.R_lower ho8 (below_size (by repeat (first | (with_reducible first | exact HB.out | apply below_alloc | apply pw_below_drewN | apply below_drew1 | refine below_set ?_ (IsS117.ge HI103.out)) | exact HB.out)))); have n1_ := Aside0.mk (IsS117.below (by repeat (first | (with_reducible first | exact HI103.out | apply IsS117.alloc | apply IsS117.drewN | apply IsS117.drew | apply IsS117.set_1) | exact HI103.out)) hb); have n2_ := Aside0.mk (below_step (by repeat (first | (with_reducible first | exact HB.out | apply below_alloc | apply pw_below_drewN | apply below_drew1 | refine below_set ?_ (IsS117.ge HI103.out)) | exact HB.out)) hb); clear HI103; clear HB; have HO108 := n0_; have HI103 := n1_; have HB := n2_; clear n0_ n1_ n2_; clear hb ho8))
    go_loopg [4, 5] k (fun kq v4 v5 w' => ∃ (x4_1 : List (S26)) (x5_1 : Int) (x104001_1 : Int), v5 = .int .i64 x5_1 ∧ Aside0 (spec_DrawNetCover.l0 kq x4_1 x5_1 t101 x104001_1 = some r) ∧ Aside0 (kq ≤ k) ∧ Aside0 (Kd.R k26 26 w' w.heap.size (fun _ => True) v4 x4_1) ∧ Aside0 (IsS117 w w' g103 t101 x104001_1) ∧ Aside0 (Below w.heap.size w w'))
    case atStart => exact ⟨(y106), (0), (t105), (by first | rfl | (simp; done) | (simp [*]; done)), H', ⟨Nat.le_refl _⟩, ⟨by (with_reducible repeat (first | apply Kd.R_alloc | apply Kd.R_drewN | apply Kd.R_drew)); exact HO108.out⟩, ⟨by repeat (first | (with_reducible first | exact HI103.out | apply IsS117.alloc | apply IsS117.drewN | apply IsS117.drew | apply IsS117.set_1) | exact HI103.out)⟩, ⟨by repeat (first | (with_reducible first | exact HB.out | apply below_alloc | apply pw_below_drewN | apply below_drew1 | refine below_set ?_ (IsS117.ge HI103.out)) | exact HB.out)⟩⟩
    case round =>
      clear H'
      try clear p2
      try clear c4
      try clear c4b0
      try clear c4b1
      try clear c6
      try clear c7
      try clear c8
      obtain ⟨x4_1, x5_1, x104001_1, rfl, HA, HK1, HO_4, HI103, HB⟩ := hrel
      cases gk with
      | zero => exact absurd HA.out (by simp [spec_DrawNetCover.l0])
      | succ k1 =>
        have H := HA.out
        clear HA
        simp only [spec_DrawNetCover.l0] at H
        replace H := Option.bind_eq_some_iff.mp H
        obtain ⟨⟨t109, t110⟩, A90, H⟩ := H
        replace H : (if x5_1 < (wrap64 (40 + t109)) then (if x4_1.length < 8796093022208 then (spec_DrawNetCover.l0 k1 (x4_1 ++ [(⟨x5_1, 16⟩ : S26)]) (wrap64 (x5_1 + 1)) t101 t110) else (none)) else (some x4_1)) = some r := H
        have A9 := Aside0.mk A90
        clear A90
        by_cases c10 : x5_1 < (wrap64 (40 + t109))
        · rw [if_pos c10] at H
          have c10b0 : decide (x5_1 < (wrap64 (40 + t109))) = true := decide_eq_true c10
          clear c10
          by_cases c11 : x4_1.length < 8796093022208
          · rw [if_pos c11] at H
            have LMc11 := Aside0.mk c11
            clear c11
            obtain ⟨y111, hy111⟩ : ∃ y_ : List (S26), y_ = (x4_1 ++ [(⟨x5_1, 16⟩ : S26)]) := ⟨_, rfl⟩
            replace H : (spec_DrawNetCover.l0 k1 y111 (wrap64 (x5_1 + 1)) t101 t110) = some r := by first | (rw [hy111]; with_reducible exact H) | (have H2_ := (Option.bind_some _ _).symm.trans H; rw [hy111]; with_reducible exact H2_) | (have H2_ := (Option.bind_some _ _).symm.trans H; with_reducible exact H2_) | with_reducible exact H | (rw [hy111]; exact H) | exact H
            have Ny111 := Aside0.mk hy111
            clear hy111
            have H' := Aside0.mk H
            clear H
            go_wp2_with (first | ((with_reducible refine gate_callee (f := 81) rfl ?_); refine goesL_ (some 14) rfl rfl Try.func81 (by kernel_rfl) rfl #[.pointer (some ⟨g103, 0, none⟩), .int .i64 2] rfl (by (try simp only [List.map_toArray, List.map_cons, List.map_nil]); first | done | rfl | (simp only [List.length_drop, List.length_take]; rfl)) ?_; (with_reducible refine (spec_l1Rd_pick.calls k1 g103 t101 x104001_1 2 t109 t110 w _ ?side1 ?side2 A9.out).mono ?_); (case side1 => repeat (first | (with_reducible first | exact HI103.out | apply IsS117.alloc | apply IsS117.drewN | apply IsS117.drew | apply IsS117.set_1) | exact HI103.out)); (case side2 => repeat (first | (with_reducible first | exact HB.out | apply below_alloc | apply pw_below_drewN | apply below_drew1 | refine below_set ?_ (IsS117.ge HI103.out)) | exact HB.out)); rintro e w12 ⟨rfl, hi, hb, hk⟩; refine ⟨_, rfl, ?_⟩; have n0_ := Aside0.mk (Kd.R_mono (Kd.R_keep (IsS117.apart (show IsS117 w _ g103 t101 x104001_1 from by repeat (first | (with_reducible first | exact HI103.out | apply IsS117.alloc | apply IsS117.drewN | apply IsS117.drew | apply IsS117.set_1) | exact HI103.out)) (by (with_reducible repeat (first | apply Kd.R_alloc | apply Kd.R_drewN | apply Kd.R_drew)); exact HO_4.out) (by decide)) hk (fun _ h => h.2)) (fun _ h => h.1)); have n1_ := Aside0.mk (hb); have n2_ := Aside0.mk (hi); clear HO_4; clear HB; clear HI103; have HO_4 := n0_; have HB := n1_; have HI103 := n2_; clear n0_ n1_ n2_; (try clear hb); (try clear hb2); (try clear hk); (try clear hi)) | ((with_reducible refine gate_builtin (b := .append) (xs := #[.tmp 19, .tmp 22]) rfl ?_); at_builtin; refine Kd.R_append k26 (w0 := w) w.heap.size rfl (.tmp 19) (.tmp 22) 58 26 (.agg #[(.int .i64 0), (.int .i64 0)]) 16 rfl Try.underlying58 info26 rfl (by decide) (by omega) u4 x4_1 (⟨x5_1, 16⟩ : S26) [.int .i64 x5_1, .int .i64 16] (fun _ => True) (fun _ => False) rfl rfl ?aP (fun _ hk => hk.elim) ?aF ?aO ?aB ?aS ?aL ?_; (case aP => exact k26_mkM _ _ _ (⟨x5_1, 16⟩ : S26)); (case aB => exact (by repeat (first | (with_reducible first | exact HB.out | apply below_alloc | apply pw_below_drewN | apply below_drew1 | refine below_set ?_ (IsS117.ge HI103.out)) | exact HB.out))); (case aF => exact (fun _ _ => trivial)); (case aO => exact (by (with_reducible repeat (first | apply Kd.R_alloc | apply Kd.R_drewN | apply Kd.R_drew)); exact HO_4.out)); (case aS => exact (below_size (by repeat (first | (with_reducible first | exact HB.out | apply below_alloc | apply pw_below_drewN | apply below_drew1 | refine below_set ?_ (IsS117.ge HI103.out)) | exact HB.out)))); (case aL => have := LMc11.out; omega); intro v112 w13 ho hb hg hat; rw [← Ny111.out] at ho; have n0_ := Aside0.mk (spec_DrawNetCover.grown117 HI103.out (by repeat (first | (with_reducible first | exact HI103.out | apply IsS117.alloc | apply IsS117.drewN | apply IsS117.drew | apply IsS117.set_1) | exact HI103.out)) hg (IsS117.own_ne HI103.out HO_4.out (by decide))); have n1_ := Aside0.mk (hb); have n2_ := Aside0.mk (ho); clear HI103; clear HB; clear HO_4; have HI103 := n0_; have HB := n1_; have HO113 := n2_; clear n0_ n1_ n2_; clear ho hb hg hat))
            go_roundg k1
            case measure => have := HK1.out; omega
            case rel => exact ⟨(y111), (wrap64 (x5_1 + 1)), (t110), (by first | rfl | (simp; done) | (simp [*]; done)), H', ⟨by have := HK1.out; omega⟩, ⟨by (with_reducible repeat (first | apply Kd.R_alloc | apply Kd.R_drewN | apply Kd.R_drew)); exact HO113.out⟩, ⟨by repeat (first | (with_reducible first | exact HI103.out | apply IsS117.alloc | apply IsS117.drewN | apply IsS117.drew | apply IsS117.set_1) | exact HI103.out)⟩, ⟨by repeat (first | (with_reducible first | exact HB.out | apply below_alloc | apply pw_below_drewN | apply below_drew1 | refine below_set ?_ (IsS117.ge HI103.out)) | exact HB.out)⟩⟩
          · rw [if_neg c11] at H
            exact absurd H (by simp)
        · rw [if_neg c10] at H
          have c10b0 : decide (x5_1 < (wrap64 (40 + t109))) = false := decide_eq_false c10
          clear c10
          obtain rfl := Option.some.inj H
          go_wp2_with (first | ((with_reducible refine gate_callee (f := 81) rfl ?_); refine goesL_ (some 14) rfl rfl Try.func81 (by kernel_rfl) rfl #[.pointer (some ⟨g103, 0, none⟩), .int .i64 2] rfl (by (try simp only [List.map_toArray, List.map_cons, List.map_nil]); first | done | rfl | (simp only [List.length_drop, List.length_take]; rfl)) ?_; (with_reducible refine (spec_l1Rd_pick.calls k1 g103 t101 x104001_1 2 t109 t110 w _ ?side1 ?side2 A9.out).mono ?_); (case side1 => repeat (first | (with_reducible first | exact HI103.out | apply IsS117.alloc | apply IsS117.drewN | apply IsS117.drew | apply IsS117.set_1) | exact HI103.out)); (case side2 => repeat (first | (with_reducible first | exact HB.out | apply below_alloc | apply pw_below_drewN | apply below_drew1 | refine below_set ?_ (IsS117.ge HI103.out)) | exact HB.out)); rintro e w14 ⟨rfl, hi, hb, hk⟩; refine ⟨_, rfl, ?_⟩; have n0_ := Aside0.mk (Kd.R_mono (Kd.R_keep (IsS117.apart (show IsS117 w _ g103 t101 x104001_1 from by repeat (first | (with_reducible first | exact HI103.out | apply IsS117.alloc | apply IsS117.drewN | apply IsS117.drew | apply IsS117.set_1) | exact HI103.out)) (by (with_reducible repeat (first | apply Kd.R_alloc | apply Kd.R_drewN | apply Kd.R_drew)); exact HO_4.out) (by decide)) hk (fun _ h => h.2)) (fun _ h => h.1)); have n1_ := Aside0.mk (hb); have n2_ := Aside0.mk (hi); clear HO_4; clear HB; clear HI103; have HO_4 := n0_; have HB := n1_; have HI103 := n2_; clear n0_ n1_ n2_; (try clear hb); (try clear hb2); (try clear hk); (try clear hi)))
          go_ret
          exact ⟨_, by first | rfl | (simp [errW_none, errW_some] <;> rfl) | (simp [*, errW_none, errW_some] <;> rfl), by (with_reducible repeat (first | apply Kd.R_alloc | apply Kd.R_drewN | apply Kd.R_drew)); exact HO_4.out, by repeat (first | (with_reducible first | exact HB.out | apply below_alloc | apply pw_below_drewN | apply below_drew1 | refine below_set ?_ (IsS117.ge HI103.out)) | exact HB.out)⟩
  · rw [if_neg c4] at H
    have c4b0 : (t104 == 0) = false := beq_eq_false_iff_ne.mpr c4
    have c4b1 : (t104 != 0) = true := bne_iff_ne.mpr c4
    replace H := Option.bind_eq_some_iff.mp H
    obtain ⟨⟨t114, t117⟩, A150, H⟩ := H
    replace H : (some t114) = some r := H
    have A15 := Aside0.mk A150
    clear A150
    obtain rfl := Option.some.inj H
    go_enter Try.func65, Try.ntmps65
    go_wp2_with (first | ((with_reducible refine gate_callee (f := 79) rfl ?_); refine goesL_ (some 7) rfl rfl Try.func79 (by kernel_rfl) rfl #[.slice A0 l0.length c0] rfl (by (try simp only [List.map_toArray, List.map_cons, List.map_nil]); first | done | rfl | (simp only [List.length_drop, List.length_take]; rfl)) ?_; (with_reducible refine (spec_l1Open.calls _ _ l0 t101 t102 w _ ?side1 ?side2 ?side3 A2.out).mono ?_); (case side1 => repeat (first | (with_reducible first | exact HB.out | apply below_alloc | apply pw_below_drewN | apply below_drew1) | exact HB.out)); (case side2 => exact HR0.out); (case side3 => exact HC0.out); rintro e w16 ⟨g103, rfl, hi, hb, hb2⟩; refine ⟨_, rfl, ?_⟩; have n0_ := Aside0.mk (hb); have n1_ := Aside0.mk (hi); clear HB; have HB := n0_; have HI103 := n1_; clear n0_ n1_; (try clear hb); (try clear hb2); (try clear hk); (try clear hi)) | ((with_reducible refine gate_callee (f := 81) rfl ?_); refine goesL_ (some 9) rfl rfl Try.func81 (by kernel_rfl) rfl #[.pointer (some ⟨g103, 0, none⟩), .int .i64 30] rfl (by (try simp only [List.map_toArray, List.map_cons, List.map_nil]); first | done | rfl | (simp only [List.length_drop, List.length_take]; rfl)) ?_; (with_reducible refine (spec_l1Rd_pick.calls k g103 t101 t102 30 t104 t105 w _ ?side1 ?side2 A3.out).mono ?_); (case side1 => repeat (first | (with_reducible first | exact HI103.out | apply IsS117.alloc | apply IsS117.drewN | apply IsS117.drew | apply IsS117.set_1) | exact HI103.out)); (case side2 => repeat (first | (with_reducible first | exact HB.out | apply below_alloc | apply pw_below_drewN | apply below_drew1 | refine below_set ?_ (IsS117.ge HI103.out)) | exact HB.out)); rintro e w17 ⟨rfl, hi, hb, hk⟩; refine ⟨_, rfl, ?_⟩; have n0_ := Aside0.mk (hb); have n1_ := Aside0.mk (hi); clear HB; clear HI103; have HB := n0_; have HI103 := n1_; clear n0_ n1_; (try clear hb); (try clear hb2); (try clear hk); (try clear hi)) | ((with_reducible refine gate_callee (f := 101) rfl ?_); refine goesL_ (some 26) rfl rfl Try.func101 (by kernel_rfl) rfl #[.pointer (some ⟨g103, 0, none⟩), .int .i64 12] rfl (by (try simp only [List.map_toArray, List.map_cons, List.map_nil]); first | done | rfl | (simp only [List.length_drop, List.length_take]; rfl)) ?_; (with_reducible refine (spec_l5List.calls k g103 t101 t105 12 t114 t117 w _ ?side1 ?side2 A15.out).mono ?_); (case side1 => repeat (first | (with_reducible first | exact HI103.out | apply IsS117.alloc | apply IsS117.drewN | apply IsS117.drew | apply IsS117.set_1) | exact HI103.out)); (case side2 => repeat (first | (with_reducible first | exact HB.out | apply below_alloc | apply pw_below_drewN | apply below_drew1 | refine below_set ?_ (IsS117.ge HI103.out)) | exact HB.out)); rintro e w18 ⟨v115, rfl, ho0, hi, hb, hk⟩; refine ⟨_, rfl, ?_⟩; have n0_ := Aside0.mk (Kd.R_lower ho0 (below_size (by repeat (first | (with_reducible first | exact HB.out | apply below_alloc | apply pw_below_drewN | apply below_drew1 | refine below_set ?_ (IsS117.ge HI103.out)) | exact HB.out)))); have n1_ := Aside0.mk (hb); have n2_ := Aside0.mk (hi); clear HB; clear HI103; have HO116 := n0_; have HB := n1_; have HI103 := n2_; clear n0_ n1_ n2_; (try clear hb); (try clear hb2); (try clear hk); (try clear hi); (try clear ho0)))
    go_ret
    exact ⟨_, by first | rfl | (simp [errW_none, errW_some] <;> rfl) | (simp [*, errW_none, errW_some] <;> rfl), by (with_reducible repeat (first | apply Kd.R_alloc | apply Kd.R_drewN | apply Kd.R_drew)); exact HO116.out, by repeat (first | (with_reducible first | exact HB.out | apply below_alloc | apply pw_below_drewN | apply below_drew1 | refine below_set ?_ (IsS117.ge HI103.out)) | exact HB.out)⟩
end Go.Proofs.Ytnakanjhdcakhaa.Q
namespace Go.Proofs.Ytnakanjhdcakhaa.Q
open Go.RowKit Go.Proofs.YtnakanjhdcakhaaW.PrintWords Go.Proofs.YtnakanjhdcakhaaW.PrintLast Go.Proofs.YtnakanjhdcakhaaW.PrintMore
attribute [local go_sem] max2_int min2_int max_two min_two max_three min_three max_four min_four   -- for this text's walks alone
set_option linter.unusedVariables false
set_option linter.unusedSimpArgs false
attribute [local go_sem high] eqA26
def laws_wnSame.l0 : Nat → List (S26) → List (S26) → Int → Option (Bool)
  | 0, _, _, _ => none
  | k + 1, x0, x1, x5 => if x5 < (x0.length : Int) then (if 0 ≤ x5 then (if x5 < (x1.length : Int) then (if (!(((rd_T26 x0 x5).f0) == ((rd_T26 x1 x5).f0)) || (!(((rd_T26 x0 x5).f1) == ((rd_T26 x1 x5).f1)))) = true then (some false) else (laws_wnSame.l0 k x0 x1 (wrap64 (x5 + 1)))) else (none)) else (none)) else (some true)
def laws_wnSame.f (k : Nat) (l0 : List (S26)) (l1 : List (S26)) : Option (Bool) := if (l0.length : Int) = (l1.length : Int) then (laws_wnSame.l0 k l0 l1 0) else (some false)
set_option maxHeartbeats 8000000 in
set_option maxRecDepth 100000 in
theorem laws_wnSame.calls (k : Nat) (A0 : Option Addr) (c0 : Nat) (l0 : List (S26)) (A1 : Option Addr) (c1 : Nat) (l1 : List (S26)) (r : Bool) (w : World) (hr0 : Kd.C k26 w A0 l0.length l0) (hc0 : l0.length ≤ c0) (hr1 : Kd.C k26 w A1 l1.length l1) (hc1 : l1.length ≤ c1) (h : laws_wnSame.f k l0 l1 = some r) :
    Calls Try.prog 66 #[.slice A0 l0.length c0, .slice A1 l1.length c1] w fun e w' => e = .returned (.bool r) ∧ Drawn0 w w' := by
  have hu26 := Try.underlying26
  have HR0 := Aside0.mk hr0
  have HC0 := Aside0.mk hc0
  clear hr0 hc0
  have HR1 := Aside0.mk hr1
  have HC1 := Aside0.mk hc1
  clear hr1 hc1
  have H : (if (l0.length : Int) = (l1.length : Int) then (laws_wnSame.l0 k l0 l1 0) else (some false)) = some r := h
  clear h
  by_cases c3 : (l0.length : Int) = (l1.length : Int)
  · rw [if_pos c3] at H
    have c3b0 : ((l0.length : Int) == (l1.length : Int)) = true := beq_iff_eq.mpr c3
    have c3b1 : ((l0.length : Int) != (l1.length : Int)) = false := bne_eq_false_iff_eq.mpr c3
    have c3b2 : (l0.length == l1.length) = true := by first | simpa using c3 | (simp at c3 ⊢; omega)
    clear c3
    have H' := Aside0.mk H
    clear H
    go_enter Try.func66, Try.ntmps66
    go_wp2
    repeat (go_quiet (fail); try go_wp2)
    go_loopg [5] k (fun kq v5 w' => ∃ (x5_1 : Int), v5 = .int .i64 x5_1 ∧ Aside0 (laws_wnSame.l0 kq l0 l1 x5_1 = some r) ∧ Aside0 (kq ≤ k) ∧ Drawn0 w w')
    case atStart => exact ⟨(0), (by first | rfl | (simp; done) | (simp [*]; done)), H', ⟨Nat.le_refl _⟩, by repeat (first | exact Drawn0.refl _ | apply Drawn0.step)⟩
    case round =>
      clear H'
      try clear c1
      try clear p2
      try clear c3
      try clear c3b0
      try clear c3b1
      try clear c3b2
      obtain ⟨x5_1, rfl, HA, HK1, ⟨m1, rfl⟩⟩ := hrel
      cases gk with
      | zero => exact absurd HA.out (by simp [laws_wnSame.l0])
      | succ k1 =>
        have H := HA.out
        clear HA
        simp only [laws_wnSame.l0] at H
        by_cases c4 : x5_1 < (l0.length : Int)
        · rw [if_pos c4] at H
          have c4b0 : decide (x5_1 < (l0.length : Int)) = true := decide_eq_true c4
          clear c4
          by_cases c5 : 0 ≤ x5_1
          · rw [if_pos c5] at H
            have c5b0 : decide (0 ≤ x5_1) = true := decide_eq_true c5
            clear c5
            by_cases c6 : x5_1 < (l1.length : Int)
            · rw [if_pos c6] at H
              have c6b0 : decide (x5_1 < (l1.length : Int)) = true := decide_eq_true c6
              clear c6
              by_cases c7 : (!(((rd_T26 l0 x5_1).f0) == ((rd_T26 l1 x5_1).f0)) || (!(((rd_T26 l0 x5_1).f1) == ((rd_T26 l1 x5_1).f1)))) = true
              · rw [if_pos c7] at H
                have c7b0 : (!(((rd_T26 l0 x5_1).f0) == ((rd_T26 l1 x5_1).f0)) || (!(((rd_T26 l0 x5_1).f1) == ((rd_T26 l1 x5_1).f1)))) = true := c7
                clear c7
                obtain rfl := Option.some.inj H
                have p101 : 0 ≤ (x5_1 : Int) := of_decide_eq_true (by first | (with_reducible assumption) | assumption)
                have q101 : x5_1 < (l0.length : Int) := of_decide_eq_true (by first | (with_reducible assumption) | assumption)
                obtain ⟨ad101, e101, hx101_0, hx101_1⟩ := at_T26 HR0.out x5_1 p101 q101
                cases e101
                replace p101 := eq_true p101
                replace q101 := eq_true q101
                have p102 : 0 ≤ (x5_1 : Int) := of_decide_eq_true (by first | (with_reducible assumption) | assumption)
                have q102 : x5_1 < (l1.length : Int) := of_decide_eq_true (by first | (with_reducible assumption) | assumption)
                obtain ⟨ad102, e102, hx102_0, hx102_1⟩ := at_T26 HR1.out x5_1 p102 q102
                cases e102
                replace p102 := eq_true p102
                replace q102 := eq_true q102
                go_wp2
                repeat (go_quiet (fail); try go_wp2)
                go_ret
                exact ⟨by first | rfl | (simp; done) | (simp [*]; done), by repeat (first | exact Drawn0.refl _ | apply Drawn0.step)⟩
              · rw [if_neg c7] at H
                have c7b0 : (!(((rd_T26 l0 x5_1).f0) == ((rd_T26 l1 x5_1).f0)) || (!(((rd_T26 l0 x5_1).f1) == ((rd_T26 l1 x5_1).f1)))) = false := by simpa using c7
                clear c7
                have H' := Aside0.mk H
                clear H
                have p101 : 0 ≤ (x5_1 : Int) := of_decide_eq_true (by first | (with_reducible assumption) | assumption)
                have q101 : x5_1 < (l0.length : Int) := of_decide_eq_true (by first | (with_reducible assumption) | assumption)
                obtain ⟨ad101, e101, hx101_0, hx101_1⟩ := at_T26 HR0.out x5_1 p101 q101
                cases e101
                replace p101 := eq_true p101
                replace q101 := eq_true q101
                have p102 : 0 ≤ (x5_1 : Int) := of_decide_eq_true (by first | (with_reducible assumption) | assumption)
                have q102 : x5_1 < (l1.length : Int) := of_decide_eq_true (by first | (with_reducible assumption) | assumption)
                obtain ⟨ad102, e102, hx102_0, hx102_1⟩ := at_T26 HR1.out x5_1 p102 q102
                cases e102
                replace p102 := eq_true p102
                replace q102 := eq_true q102
                go_wp2
                repeat (go_quiet (fail); try go_wp2)
                go_roundg k1
                case measure => have := HK1.out; omega
                case rel => exact ⟨(wrap64 (x5_1 + 1)), (by first | rfl | (simp; done) | (simp [*]; done)), H', ⟨by have := HK1.out; omega⟩, by repeat (first | exact Drawn0.refl _ | apply Drawn0.step)⟩
            · rw [if_neg c6] at H
              exact absurd H (by simp)
          · rw [if_neg c5] at H
            exact absurd H (by simp)
        · rw [if_neg c4] at H
          have c4b0 : decide (x5_1 < (l0.length : Int)) = false := decide_eq_false c4
          clear c4
          obtain rfl := Option.some.inj H
          go_wp2
          repeat (go_quiet (fail); try go_wp2)
          go_ret
          exact ⟨by first | rfl | (simp; done) | (simp [*]; done), by repeat (first | exact Drawn0.refl _ | apply Drawn0.step)⟩
  · rw [if_neg c3] at H
    have c3b0 : ((l0.length : Int) == (l1.length : Int)) = false := beq_eq_false_iff_ne.mpr c3
    have c3b1 : ((l0.length : Int) != (l1.length : Int)) = true := bne_iff_ne.mpr c3
    have c3b2 : (l0.length == l1.length) = false := by first | simpa using c3 | (simp at c3 ⊢; omega)
    obtain rfl := Option.some.inj H
    go_enter Try.func66, Try.ntmps66
    go_wp2
    repeat (go_quiet (fail); try go_wp2)
    go_ret
    exact ⟨by first | rfl | (simp; done) | (simp [*]; done), by repeat (first | exact Drawn0.refl _ | apply Drawn0.step)⟩
end Go.Proofs.Ytnakanjhdcakhaa.Q
namespace Go.Proofs.Ytnakanjhdcakhaa.Q
open Go.RowKit Go.Proofs.YtnakanjhdcakhaaW.PrintWords Go.Proofs.YtnakanjhdcakhaaW.PrintLast Go.Proofs.YtnakanjhdcakhaaW.PrintMore
attribute [local go_sem] max2_int min2_int max_two min_two max_three min_three max_four min_four   -- for this text's walks alone
set_option linter.unusedVariables false
set_option linter.unusedSimpArgs false
def laws_wnOk.l0 : Nat → List (S26) → Int → Option (Bool)
  | 0, _, _ => none
  | k + 1, x0, x3 => if x3 < (x0.length : Int) then (if 0 ≤ x3 then ((spec_NetOk.f k ((rd_T26 x0 x3).f0) ((rd_T26 x0 x3).f1)).bind fun t102 => (if t102 = true then (laws_wnOk.l0 k x0 (wrap64 (x3 + 1))) else (some false))) else (none)) else (some (decide ((x0.length : Int) ≤ 40)))
def laws_wnOk.f (k : Nat) (l0 : List (S26)) : Option (Bool) := laws_wnOk.l0 k l0 0
set_option maxHeartbeats 8000000 in
set_option maxRecDepth 100000 in
theorem laws_wnOk.calls (k : Nat) (A0 : Option Addr) (c0 : Nat) (l0 : List (S26)) (r : Bool) (w : World) (hr0 : Kd.C k26 w A0 l0.length l0) (hc0 : l0.length ≤ c0) (h : laws_wnOk.f k l0 = some r) :
    Calls Try.prog 67 #[.slice A0 l0.length c0] w fun e w' => e = .returned (.bool r) ∧ Below w.heap.size w w' := by
  have hu26 := Try.underlying26
  have HR0 := Aside0.mk hr0
  have HC0 := Aside0.mk hc0
  clear hr0 hc0
  have HB := Aside0.mk (Below.refl w.heap.size w)
  have H : (laws_wnOk.l0 k l0 0) = some r := h
  clear h
  have H' := Aside0.mk H
  clear H
  go_enter Try.func67, Try.ntmps67
  go_wp2
  go_loopg [3] k (fun kq v3 w' => ∃ (x3_1 : Int), v3 = .int .i64 x3_1 ∧ Aside0 (laws_wnOk.l0 kq l0 x3_1 = some r) ∧ Aside0 (kq ≤ k) ∧ Aside0 (Below w.heap.size w w'))
  case atStart => exact ⟨(0), (by first | rfl | (simp; done) | (simp [*]; done)), H', ⟨Nat.le_refl _⟩, ⟨by repeat (first | (with_reducible first | exact HB.out | apply below_alloc | apply pw_below_drewN | apply below_drew1) | exact HB.out)⟩⟩
  case round =>
    clear H'
    obtain ⟨x3_1, rfl, HA, HK1, HB⟩ := hrel
    cases gk with
    | zero => exact absurd HA.out (by simp [laws_wnOk.l0])
    | succ k1 =>
      have H := HA.out
      clear HA
      simp only [laws_wnOk.l0] at H
      by_cases c2 : x3_1 < (l0.length : Int)
      · rw [if_pos c2] at H
        have c2b0 : decide (x3_1 < (l0.length : Int)) = true := decide_eq_true c2
        clear c2
        by_cases c3 : 0 ≤ x3_1
        · rw [if_pos c3] at H
          have c3b0 : decide (0 ≤ x3_1) = true := decide_eq_true c3
          clear c3
          replace H := Option.bind_eq_some_iff.mp H
          obtain ⟨t102, A40, H⟩ := H
          replace H : (if t102 = true then (laws_wnOk.l0 k1 l0 (wrap64 (x3_1 + 1))) else (some false)) = some r := H
          have A4 := Aside0.mk A40
          clear A40
          by_cases c5 : t102 = true
          · subst c5
            have H1 : (laws_wnOk.l0 k1 l0 (wrap64 (x3_1 + 1))) = some r := by rw [if_pos rfl] at H; exact H
            clear H
            have H := H1
            clear H1
            have H' := Aside0.mk H
            clear H
            have p101 : 0 ≤ (x3_1 : Int) := of_decide_eq_true (by first | (with_reducible assumption) | assumption)
            have q101 : x3_1 < (l0.length : Int) := of_decide_eq_true (by first | (with_reducible assumption) | assumption)
            obtain ⟨ad101, e101, hx101_0, hx101_1⟩ := at_T26 HR0.out x3_1 p101 q101
            cases e101
            replace hx101_0 := (HB.out.cell (World.block_lt_of_cell? w _ hx101_0)).trans hx101_0
            replace hx101_1 := (HB.out.cell (World.block_lt_of_cell? w _ hx101_1)).trans hx101_1
            replace p101 := eq_true p101
            replace q101 := eq_true q101
            go_wp2_with (first | ((with_reducible refine gate_callee (f := 24) rfl ?_); refine goesL_ (some 14) rfl rfl Try.func24 (by kernel_rfl) rfl #[.agg #[.int .i64 ((rd_T26 l0 x3_1).f0), .int .i64 ((rd_T26 l0 x3_1).f1)]] rfl (by (try simp only [List.map_toArray, List.map_cons, List.map_nil]); first | done | rfl | (simp only [List.length_drop, List.length_take]; rfl)) ?_; (with_reducible refine (spec_NetOk.calls k1 ((rd_T26 l0 x3_1).f0) ((rd_T26 l0 x3_1).f1) true _ A4.out).mono ?_); rintro e w6 ⟨rfl, hb⟩; refine ⟨_, rfl, ?_⟩; have n0_ := Aside0.mk (below_step (by repeat (first | (with_reducible first | exact HB.out | apply below_alloc | apply pw_below_drewN | apply below_drew1) | exact HB.out)) hb); clear HB; have HB := n0_; clear n0_; (try clear hb); (try clear hb2); (try clear hk); (try clear hi)))
            go_roundg k1
            case measure => have := HK1.out; omega
            case rel => exact ⟨(wrap64 (x3_1 + 1)), (by first | rfl | (simp; done) | (simp [*]; done)), H', ⟨by have := HK1.out; omega⟩, ⟨by repeat (first | (with_reducible first | exact HB.out | apply below_alloc | apply pw_below_drewN | apply below_drew1) | exact HB.out)⟩⟩
          · replace c5 := Bool.eq_false_iff.mpr c5
            subst c5
            have H1 : (some false) = some r := by rw [if_neg (show ¬ (false = true) by decide)] at H; exact H
            clear H
            have H := H1
            clear H1
            obtain rfl := Option.some.inj H
            have p101 : 0 ≤ (x3_1 : Int) := of_decide_eq_true (by first | (with_reducible assumption) | assumption)
            have q101 : x3_1 < (l0.length : Int) := of_decide_eq_true (by first | (with_reducible assumption) | assumption)
            obtain ⟨ad101, e101, hx101_0, hx101_1⟩ := at_T26 HR0.out x3_1 p101 q101
            cases e101
            replace hx101_0 := (HB.out.cell (World.block_lt_of_cell? w _ hx101_0)).trans hx101_0
            replace hx101_1 := (HB.out.cell (World.block_lt_of_cell? w _ hx101_1)).trans hx101_1
            replace p101 := eq_true p101
            replace q101 := eq_true q101
            go_wp2_with (first | ((with_reducible refine gate_callee (f := 24) rfl ?_); refine goesL_ (some 14) rfl rfl Try.func24 (by kernel_rfl) rfl #[.agg #[.int .i64 ((rd_T26 l0 x3_1).f0), .int .i64 ((rd_T26 l0 x3_1).f1)]] rfl (by (try simp only [List.map_toArray, List.map_cons, List.map_nil]); first | done | rfl | (simp only [List.length_drop, List.length_take]; rfl)) ?_; (with_reducible refine (spec_NetOk.calls k1 ((rd_T26 l0 x3_1).f0) ((rd_T26 l0 x3_1).f1) false _ A4.out).mono ?_); rintro e w7 ⟨rfl, hb⟩; refine ⟨_, rfl, ?_⟩; have n0_ := Aside0.mk (below_step (by repeat (first | (with_reducible first | exact HB.out | apply below_alloc | apply pw_below_drewN | apply below_drew1) | exact HB.out)) hb); clear HB; have HB := n0_; clear n0_; (try clear hb); (try clear hb2); (try clear hk); (try clear hi)))
            go_ret
            exact ⟨by first | rfl | (simp [errW_none, errW_some] <;> rfl) | (simp [*, errW_none, errW_some] <;> rfl), by repeat (first | (with_reducible first | exact HB.out | apply below_alloc | apply pw_below_drewN | apply below_drew1) | exact HB.out)⟩
        · rw [if_neg c3] at H
          exact absurd H (by simp)
      · rw [if_neg c2] at H
        have c2b0 : decide (x3_1 < (l0.length : Int)) = false := decide_eq_false c2
        clear c2
        obtain rfl := Option.some.inj H
        go_wp2
        go_ret
        exact ⟨by first | rfl | (simp [errW_none, errW_some] <;> rfl) | (simp [*, errW_none, errW_some] <;> rfl), by repeat (first | (with_reducible first | exact HB.out | apply below_alloc | apply pw_below_drewN | apply below_drew1) | exact HB.out)⟩
end Go.Proofs.Ytnakanjhdcakhaa.Q
namespace Go.Proofs.Ytnakanjhdcakhaa.Q
open Go.RowKit Go.Proofs.YtnakanjhdcakhaaW.PrintWords Go.Proofs.YtnakanjhdcakhaaW.PrintLast Go.Proofs.YtnakanjhdcakhaaW.PrintMore
attribute [local go_sem] max2_int min2_int max_two min_two max_three min_three max_four min_four   -- for this text's walks alone
set_option linter.unusedVariables false
set_option linter.unusedSimpArgs false
def laws_FnNetCover.j0 : Nat → List (S26) → List (S26) → Bool → Option (Bool)
  | 0, _, _, _ => none
  | k + 1, x3, x4, x48 => if x48 = true then (some false) else (if (x3.length : Int) = 0 then (some true) else (if (x3.length : Int) = 40 then (some true) else ((some (([] : List (S26)) : List (S26))).bind fun y123 => (if y123.length + x3.length < 8796093022208 then ((some (y123 ++ x3 : List (S26))).bind fun y126 => (if 0 < (x3.length : Int) then ((some (([(⟨(rd_T26 x3 0).f0, (rd_T26 x3 0).f1⟩ : S26)] : List (S26)) : List (S26))).bind fun y130 => (if y126.length + y130.length < 8796093022208 then ((impl_NetCover.f (y126 ++ y130)).bind fun t136 => ((laws_wnSame.f k t136 x4).bind fun t139 => (some t139))) else (none))) else (none))) else (none)))))
def laws_FnNetCover.f (k : Nat) (l0 : List Int) : Option (Bool) := if (l0.length : Int) > 1048576 then (some true) else ((spec_DrawNetCover.f k l0).bind fun t101 => ((impl_NetCover.f t101).bind fun t104 => ((spec_NetCover.f k t101).bind fun t107 => ((laws_wnSame.f k t104 t107).bind fun t110 => (if t110 = true then ((laws_wnOk.f k t101).bind fun t111 => (if t111 = true then (if (t104.length : Int) > (t101.length : Int) then (laws_FnNetCover.j0 k t101 t104 true) else ((impl_NetCover.f t104).bind fun t112 => ((laws_wnSame.f k t112 t104).bind fun t115 => (if t115 = true then ((impl_NetWithout.f t101 ([] : List (S26))).bind fun t116 => ((laws_wnSame.f k t116 t104).bind fun t119 => (if t119 = true then ((impl_NetWithout.f t101 t101).bind fun t120 => (laws_FnNetCover.j0 k t101 t104 ((t120.length : Int) != 0))) else (laws_FnNetCover.j0 k t101 t104 true)))) else (laws_FnNetCover.j0 k t101 t104 true))))) else (some ((t104.length : Int) == 0)))) else (some false))))))
def laws_FnNetCover.T11 : Bool × List (List Nat × List Nat) := (true, [([], []), ([0], [0]), ([1], [1]), ([2], [2]), ([3], [3]), ([4, 3], [3, 4]), ([5, 3], [3, 5]), ([3, 6], [3, 6]), ([7, 3], [7]), ([8], [8]), ([8], [8]), ([9, 10, 8, 8], [8, 9, 10]), ([8], [8]), ([12, 8], [8, 12]), ([13, 8], [8, 13]), ([14, 8], [8, 14]), ([11, 15, 11, 8], [8, 11, 15]), ([16, 16, 8], [8, 16]), ([8], [8]), ([17, 18, 17, 8], [8, 17, 18]), ([8, 19], [8, 19]), ([20, 19, 0, 1, 2, 3, 4, 5, 6, 7, 8, 9, 10, 11, 12, 13, 14, 15, 16, 17, 18, 19, 20], [20])])
def laws_FnNetCover.B11 : List Nat := [0, 1, 3, 7, 15, 31, 63, 127, 255, 511, 511, 2047, 511, 4607, 12799, 29183, 65535, 131071, 511, 524287, 1048575, 2097151]
theorem laws_FnNetCover.tab11 : rtab .any (opsOf Try.f18 11) = laws_FnNetCover.T11 := by kernel_rfl
theorem laws_FnNetCover.bits11 : waitsOk laws_FnNetCover.T11.2 laws_FnNetCover.B11 = true := by kernel_rfl
theorem laws_FnNetCover.zHB {P : Prop} (h : P := by repeat (first | (with_reducible first | exact HB.out | apply below_alloc | apply pw_below_drewN | apply below_drew1) | exact HB.out)) : P := h
theorem laws_FnNetCover.zr {P Q : Prop} (x : Q) (h : Q → P := by intro x_; (with_reducible repeat (first | apply Kd.R_alloc | apply Kd.R_drewN | apply Kd.R_drew)); exact x_) : P := h x
theorem laws_FnNetCover.zk {P Q : Prop} (x : Q) (h : Q → P := by intro x_; (with_reducible repeat (first | apply Kd.R_alloc | apply Kd.R_drewN | apply Kd.R_drew)); exact x_) : P := h x
def laws_FnNetCover.zl (n k : Nat) : Array Bool := ((List.range n).map fun i => k.testBit i).toArray
theorem laws_FnNetCover.y1 {P : Prop} (h : P := by intro e_; have h_ := HO125.out.1 _ e_.symm; first | exact h_ rfl | exact h_.1 rfl | exact h_.2 rfl | exact h_.1.1 rfl | exact h_.1.2 rfl | exact h_.2.1 rfl | exact h_.2.2 rfl | exact h_.1.1.1 rfl | exact h_.1.1.2 rfl | exact h_.1.2.1 rfl | exact h_.1.2.2 rfl | exact h_.2.1.1 rfl | exact h_.2.1.2 rfl | exact h_.2.2.1 rfl | exact h_.2.2.2 rfl | exact h_.1.1.1.1 rfl | exact h_.1.1.1.2 rfl | exact h_.1.1.2.1 rfl | exact h_.1.1.2.2 rfl | exact h_.1.2.1.1 rfl | exact h_.1.2.1.2 rfl | exact h_.1.2.2.1 rfl | exact h_.1.2.2.2 rfl | exact h_.2.1.1.1 rfl | exact h_.2.1.1.2 rfl | exact h_.2.1.2.1 rfl | exact h_.2.1.2.2 rfl | exact h_.2.2.1.1 rfl | exact h_.2.2.1.2 rfl | exact h_.2.2.2.1 rfl | exact h_.2.2.2.2 rfl) : P := h
theorem laws_FnNetCover.y2 {P : Prop} (h : P := by (try simp only [List.map_toArray, List.map_cons, List.map_nil]); first | done | rfl | (simp only [List.length_drop, List.length_take]; rfl)) : P := h
theorem laws_FnNetCover.y3 {P : Prop} (h : P := by simp only [putAll, Act.put, List.setIfInBounds_toArray, List.set_cons_zero, List.set_cons_succ]) : P := h
theorem laws_FnNetCover.y4 {P : Prop} (h : P := by first | rfl | (simp; done) | (simp [*]; done)) : P := h
theorem laws_FnNetCover.zA {p : Prop} (h : p) : Aside0 p := ⟨h⟩
set_option maxHeartbeats 8000000 in
set_option maxRecDepth 100000 in
theorem laws_FnNetCover.calls (k : Nat) (A0 : Option Addr) (c0 : Nat) (l0 : List Int) (r : Bool) (w : World) (hr0 : Kd.C (Kd.int .u8) w A0 l0.length l0) (hc0 : l0.length ≤ c0) (h : laws_FnNetCover.f k l0 = some r) :
  Calls Try.prog 18 #[.slice A0 l0.length c0] w fun e w' => e = .returned (.bool r) ∧ Below w.heap.size w w' := by
 have hu26 := Try.underlying26
 have HR0 := zA hr0
 have HC0 := zA hc0
 clear hr0 hc0
 have HB := zA (Below.refl w.heap.size w)
 have H : (if (l0.length : Int) > 1048576 then (some true) else ((spec_DrawNetCover.f k l0).bind fun t101 => ((impl_NetCover.f t101).bind fun t104 => ((spec_NetCover.f k t101).bind fun t107 => ((laws_wnSame.f k t104 t107).bind fun t110 => (if t110 = true then ((laws_wnOk.f k t101).bind fun t111 => (if t111 = true then (if (t104.length : Int) > (t101.length : Int) then (laws_FnNetCover.j0 k t101 t104 true) else ((impl_NetCover.f t104).bind fun t112 => ((laws_wnSame.f k t112 t104).bind fun t115 => (if t115 = true then ((impl_NetWithout.f t101 ([] : List (S26))).bind fun t116 => ((laws_wnSame.f k t116 t104).bind fun t119 => (if t119 = true then ((impl_NetWithout.f t101 t101).bind fun t120 => (laws_FnNetCover.j0 k t101 t104 ((t120.length : Int) != 0))) else (laws_FnNetCover.j0 k t101 t104 true)))) else (laws_FnNetCover.j0 k t101 t104 true))))) else (some ((t104.length : Int) == 0)))) else (some false))))))) = some r := h
 clear h
 by_cases c2 : (l0.length : Int) > 1048576
 ·rw [if_pos c2] at H
  have c2b0 : decide (1048576 < (l0.length : Int)) = true := decide_eq_true c2
  have c2b1 : decide (1048576 < l0.length) = true := decide_eq_true (by omega)
  clear c2
  obtain rfl := Option.some.inj H
  go_enter Try.func18, Try.ntmps18
  go_wp2
  go_ret
  exact ⟨by first | rfl | (simp [errW_none, errW_some] <;> rfl) | (simp [*, errW_none, errW_some] <;> rfl), zHB⟩
 rw [if_neg c2] at H
 have c2b0 : decide (1048576 < (l0.length : Int)) = false := decide_eq_false c2
 have c2b1 : decide (1048576 < l0.length) = false := decide_eq_false (by omega)
 clear c2
 replace H := Option.bind_eq_some_iff.mp H
 obtain ⟨t101, A30, H⟩ := H
 replace H : ((impl_NetCover.f t101).bind fun t104 => ((spec_NetCover.f k t101).bind fun t107 => ((laws_wnSame.f k t104 t107).bind fun t110 => (if t110 = true then ((laws_wnOk.f k t101).bind fun t111 => (if t111 = true then (if (t104.length : Int) > (t101.length : Int) then (laws_FnNetCover.j0 k t101 t104 true) else ((impl_NetCover.f t104).bind fun t112 => ((laws_wnSame.f k t112 t104).bind fun t115 => (if t115 = true then ((impl_NetWithout.f t101 ([] : List (S26))).bind fun t116 => ((laws_wnSame.f k t116 t104).bind fun t119 => (if t119 = true then ((impl_NetWithout.f t101 t101).bind fun t120 => (laws_FnNetCover.j0 k t101 t104 ((t120.length : Int) != 0))) else (laws_FnNetCover.j0 k t101 t104 true)))) else (laws_FnNetCover.j0 k t101 t104 true))))) else (some ((t104.length : Int) == 0)))) else (some false))))) = some r := H
 have A3 := zA A30
 clear A30
 replace H := Option.bind_eq_some_iff.mp H
 obtain ⟨t104, A40, H⟩ := H
 replace H : ((spec_NetCover.f k t101).bind fun t107 => ((laws_wnSame.f k t104 t107).bind fun t110 => (if t110 = true then ((laws_wnOk.f k t101).bind fun t111 => (if t111 = true then (if (t104.length : Int) > (t101.length : Int) then (laws_FnNetCover.j0 k t101 t104 true) else ((impl_NetCover.f t104).bind fun t112 => ((laws_wnSame.f k t112 t104).bind fun t115 => (if t115 = true then ((impl_NetWithout.f t101 ([] : List (S26))).bind fun t116 => ((laws_wnSame.f k t116 t104).bind fun t119 => (if t119 = true then ((impl_NetWithout.f t101 t101).bind fun t120 => (laws_FnNetCover.j0 k t101 t104 ((t120.length : Int) != 0))) else (laws_FnNetCover.j0 k t101 t104 true)))) else (laws_FnNetCover.j0 k t101 t104 true))))) else (some ((t104.length : Int) == 0)))) else (some false)))) = some r := H
 have A4 := zA A40
 clear A40
 replace H := Option.bind_eq_some_iff.mp H
 obtain ⟨t107, A50, H⟩ := H
 replace H : ((laws_wnSame.f k t104 t107).bind fun t110 => (if t110 = true then ((laws_wnOk.f k t101).bind fun t111 => (if t111 = true then (if (t104.length : Int) > (t101.length : Int) then (laws_FnNetCover.j0 k t101 t104 true) else ((impl_NetCover.f t104).bind fun t112 => ((laws_wnSame.f k t112 t104).bind fun t115 => (if t115 = true then ((impl_NetWithout.f t101 ([] : List (S26))).bind fun t116 => ((laws_wnSame.f k t116 t104).bind fun t119 => (if t119 = true then ((impl_NetWithout.f t101 t101).bind fun t120 => (laws_FnNetCover.j0 k t101 t104 ((t120.length : Int) != 0))) else (laws_FnNetCover.j0 k t101 t104 true)))) else (laws_FnNetCover.j0 k t101 t104 true))))) else (some ((t104.length : Int) == 0)))) else (some false))) = some r := H
 have A5 := zA A50
 clear A50
 replace H := Option.bind_eq_some_iff.mp H
 obtain ⟨t110, A60, H⟩ := H
 replace H : (if t110 = true then ((laws_wnOk.f k t101).bind fun t111 => (if t111 = true then (if (t104.length : Int) > (t101.length : Int) then (laws_FnNetCover.j0 k t101 t104 true) else ((impl_NetCover.f t104).bind fun t112 => ((laws_wnSame.f k t112 t104).bind fun t115 => (if t115 = true then ((impl_NetWithout.f t101 ([] : List (S26))).bind fun t116 => ((laws_wnSame.f k t116 t104).bind fun t119 => (if t119 = true then ((impl_NetWithout.f t101 t101).bind fun t120 => (laws_FnNetCover.j0 k t101 t104 ((t120.length : Int) != 0))) else (laws_FnNetCover.j0 k t101 t104 true)))) else (laws_FnNetCover.j0 k t101 t104 true))))) else (some ((t104.length : Int) == 0)))) else (some false)) = some r := H
 have A6 := zA A60
 clear A60
 by_cases c7 : t110 = true
 ·subst c7
  have H1 : ((laws_wnOk.f k t101).bind fun t111 => (if t111 = true then (if (t104.length : Int) > (t101.length : Int) then (laws_FnNetCover.j0 k t101 t104 true) else ((impl_NetCover.f t104).bind fun t112 => ((laws_wnSame.f k t112 t104).bind fun t115 => (if t115 = true then ((impl_NetWithout.f t101 ([] : List (S26))).bind fun t116 => ((laws_wnSame.f k t116 t104).bind fun t119 => (if t119 = true then ((impl_NetWithout.f t101 t101).bind fun t120 => (laws_FnNetCover.j0 k t101 t104 ((t120.length : Int) != 0))) else (laws_FnNetCover.j0 k t101 t104 true)))) else (laws_FnNetCover.j0 k t101 t104 true))))) else (some ((t104.length : Int) == 0)))) = some r := by rw [if_pos rfl] at H; exact H
  clear H
  have H := H1
  clear H1
  replace H := Option.bind_eq_some_iff.mp H
  obtain ⟨t111, A80, H⟩ := H
  replace H : (if t111 = true then (if (t104.length : Int) > (t101.length : Int) then (laws_FnNetCover.j0 k t101 t104 true) else ((impl_NetCover.f t104).bind fun t112 => ((laws_wnSame.f k t112 t104).bind fun t115 => (if t115 = true then ((impl_NetWithout.f t101 ([] : List (S26))).bind fun t116 => ((laws_wnSame.f k t116 t104).bind fun t119 => (if t119 = true then ((impl_NetWithout.f t101 t101).bind fun t120 => (laws_FnNetCover.j0 k t101 t104 ((t120.length : Int) != 0))) else (laws_FnNetCover.j0 k t101 t104 true)))) else (laws_FnNetCover.j0 k t101 t104 true))))) else (some ((t104.length : Int) == 0))) = some r := H
  have A8 := zA A80
  clear A80
  by_cases c9 : t111 = true
  ·subst c9
   have H1 : (if (t104.length : Int) > (t101.length : Int) then (laws_FnNetCover.j0 k t101 t104 true) else ((impl_NetCover.f t104).bind fun t112 => ((laws_wnSame.f k t112 t104).bind fun t115 => (if t115 = true then ((impl_NetWithout.f t101 ([] : List (S26))).bind fun t116 => ((laws_wnSame.f k t116 t104).bind fun t119 => (if t119 = true then ((impl_NetWithout.f t101 t101).bind fun t120 => (laws_FnNetCover.j0 k t101 t104 ((t120.length : Int) != 0))) else (laws_FnNetCover.j0 k t101 t104 true)))) else (laws_FnNetCover.j0 k t101 t104 true))))) = some r := by rw [if_pos rfl] at H; exact H
   clear H
   have H := H1
   clear H1
   have HC10 := zA H
   clear H
   go_enter Try.func18, Try.ntmps18
   go_upto_region 9 with (first | ((with_reducible refine gate_callee (f := 65) rfl ?_); refine goesL_ (some 9) rfl rfl Try.func65 (by kernel_rfl) rfl #[.slice A0 l0.length c0] rfl y2  ?_; (with_reducible refine (spec_DrawNetCover.calls k _ _ l0 t101 _ ?side1 ?side2 A3.out).mono ?_); (case side1 => repeat (first | exact HR0.out | (with_reducible refine Kd.C_alloc ?_ _) | (with_reducible refine Kd.C_drewN ?_ _) | (with_reducible refine Kd.C_drew ?_))); (case side2 => exact HC0.out); rintro e w11 ⟨v102, rfl, ho0, hb⟩; refine ⟨_, rfl, ?_⟩; have n0_ := zA (Kd.R_lower ho0 (below_size (zHB))); have n1_ := zA (below_step (zHB) hb); clear HB; have HO103 := n0_; have HB := n1_; clear n0_ n1_; (try clear hb); (try clear hb2); (try clear hk); (try clear hi); (try clear ho0); obtain ⟨Ao12, co12, eo12⟩ := Kd.R_slice HO103.out; subst eo12) | ((with_reducible refine gate_callee (f := 64) rfl ?_); refine goesL_ (some 11) rfl rfl Try.func64 (by kernel_rfl) rfl #[.slice Ao12 t101.length co12] rfl y2  ?_; (with_reducible refine (impl_NetCover.calls _ _ t101 t104 _ ?side1 ?side2 A4.out).mono ?_); (case side1 => repeat (first | exact (Kd.R_reads' HO103.out).2.2 | (with_reducible refine Kd.C_alloc ?_ _) | (with_reducible refine Kd.C_drewN ?_ _) | (with_reducible refine Kd.C_drew ?_))); (case side2 => exact (Kd.R_reads' HO103.out).2.1); rintro e w13 ⟨v105, rfl, ho0, hb⟩; refine ⟨_, rfl, ?_⟩; have n0_ := zA (Kd.R_elder' (zr HO103.out) (Kd.R_base ho0) hb); have n1_ := zA (Kd.R_lower (Kd.R_new' ho0 (Kd.R_lt (zr HO103.out))) (below_size (zHB))); have n2_ := zA (below_step (zHB) hb); clear HO103; clear HB; have HO103 := n0_; have HO106 := n1_; have HB := n2_; clear n0_ n1_ n2_; (try clear hb); (try clear hb2); (try clear hk); (try clear hi); (try clear ho0)) | ((with_reducible refine gate_callee (f := 63) rfl ?_); refine goesL_ (some 14) rfl rfl Try.func63 (by kernel_rfl) rfl #[.slice Ao12 t101.length co12] rfl y2  ?_; (with_reducible refine (spec_NetCover.calls k _ _ t101 t107 _ ?side1 ?side2 A5.out).mono ?_); (case side1 => repeat (first | exact (Kd.R_reads' HO103.out).2.2 | (with_reducible refine Kd.C_alloc ?_ _) | (with_reducible refine Kd.C_drewN ?_ _) | (with_reducible refine Kd.C_drew ?_))); (case side2 => exact (Kd.R_reads' HO103.out).2.1); rintro e w14 ⟨v108, rfl, ho0, hb⟩; refine ⟨_, rfl, ?_⟩; have n0_ := zA (Kd.R_elder' (zr HO103.out) (Kd.R_base ho0) hb); have n1_ := zA (Kd.R_elder' (zr HO106.out) (Kd.R_base ho0) hb); have n2_ := zA (Kd.R_lower (Kd.R_new' (Kd.R_new' ho0 (Kd.R_lt (zr HO103.out))) (Kd.R_lt (zr HO106.out))) (below_size (zHB))); have n3_ := zA (below_step (zHB) hb); clear HO103; clear HO106; clear HB; have HO103 := n0_; have HO106 := n1_; have HO109 := n2_; have HB := n3_; clear n0_ n1_ n2_ n3_; (try clear hb); (try clear hb2); (try clear hk); (try clear hi); (try clear ho0); obtain ⟨Ao15, co15, eo15⟩ := Kd.R_slice HO106.out; subst eo15; obtain ⟨Ao16, co16, eo16⟩ := Kd.R_slice HO109.out; subst eo16) | ((with_reducible refine gate_callee (f := 66) rfl ?_); refine goesL_ (some 15) rfl rfl Try.func66 (by kernel_rfl) rfl #[.slice Ao15 t104.length co15, .slice Ao16 t107.length co16] rfl y2  ?_; (with_reducible refine (laws_wnSame.calls k _ _ t104 _ _ t107 true _ ?side1 ?side2 ?side3 ?side4 A6.out).mono ?_); (case side1 => repeat (first | exact (Kd.R_reads' HO106.out).2.2 | (with_reducible refine Kd.C_alloc ?_ _) | (with_reducible refine Kd.C_drewN ?_ _) | (with_reducible refine Kd.C_drew ?_))); (case side2 => exact (Kd.R_reads' HO106.out).2.1); (case side3 => repeat (first | exact (Kd.R_reads' HO109.out).2.2 | (with_reducible refine Kd.C_alloc ?_ _) | (with_reducible refine Kd.C_drewN ?_ _) | (with_reducible refine Kd.C_drew ?_))); (case side4 => exact (Kd.R_reads' HO109.out).2.1); rintro e w' ⟨rfl, ⟨nd, rfl⟩⟩; refine ⟨_, rfl, ?_⟩) | ((with_reducible refine gate_callee (f := 67) rfl ?_); refine goesL_ (some 18) rfl rfl Try.func67 (by kernel_rfl) rfl #[.slice Ao12 t101.length co12] rfl y2  ?_; (with_reducible refine (laws_wnOk.calls k _ _ t101 true _ ?side1 ?side2 A8.out).mono ?_); (case side1 => repeat (first | exact (Kd.R_reads' HO103.out).2.2 | (with_reducible refine Kd.C_alloc ?_ _) | (with_reducible refine Kd.C_drewN ?_ _) | (with_reducible refine Kd.C_drew ?_))); (case side2 => exact (Kd.R_reads' HO103.out).2.1); rintro e w17 ⟨rfl, hb⟩; refine ⟨_, rfl, ?_⟩; have n0_ := zA (Kd.R_below (zr HO103.out) hb); have n1_ := zA (Kd.R_below (zr HO106.out) hb); have n2_ := zA (Kd.R_below (zr HO109.out) hb); have n3_ := zA (below_step (zHB) hb); clear HO103; clear HO106; clear HO109; clear HB; have HO103 := n0_; have HO106 := n1_; have HO109 := n2_; have HB := n3_; clear n0_ n1_ n2_ n3_; (try clear hb); (try clear hb2); (try clear hk); (try clear hi)))
   (try simp only [Act.put, List.setIfInBounds_toArray, List.set_cons_zero, List.set_cons_succ])
   go_cut [48] (fun v48 wc => ∃ (kq : Nat) (x48_9 : Bool), v48 = .bool x48_9 ∧ Aside0 (laws_FnNetCover.j0 kq t101 t104 x48_9 = some r) ∧ Aside0 (kq ≤ k) ∧ Aside0 (Kd.R k26 26 wc w.heap.size (fun k_ => some k_ ≠ ((.slice Ao15 t104.length co15) : Value).ownBlock) (.slice Ao12 t101.length co12) t101) ∧ Aside0 (Kd.R k26 26 wc w.heap.size (fun k_ => some k_ ≠ ((.slice Ao12 t101.length co12) : Value).ownBlock) (.slice Ao15 t104.length co15) t104) ∧ Aside0 (Below w.heap.size w wc))
   case first =>
    have H := HC10.out
    clear HC10
    by_cases c18 : (t104.length : Int) > (t101.length : Int)
    ·rw [if_pos c18] at H
     have c18b0 : decide ((t101.length : Int) < (t104.length : Int)) = true := decide_eq_true c18
     have c18b1 : decide (t101.length < t104.length) = true := decide_eq_true (Int.ofNat_lt.mp c18)
     clear c18
     (first | rw [c18b0] | (simp only [i64_w, i32_w]; rw [c18b0]) | skip)
     have H' := zA H
     clear H
     go_wp2
     go_meet
     case rel => exact ⟨_, (true), y4 , H', ⟨by first | omega | exact Nat.le_refl _⟩, ⟨by refine zk ?_; exact Kd.R_mono HO103.out (fun _ hk => hk.1.2)⟩, ⟨by refine zk ?_; exact Kd.R_mono HO106.out (fun _ hk => hk.1.2)⟩, ⟨zHB⟩⟩
    rw [if_neg c18] at H
    have c18b0 : decide ((t101.length : Int) < (t104.length : Int)) = false := decide_eq_false c18
    have c18b1 : decide (t101.length < t104.length) = false := decide_eq_false (fun h => c18 (Int.ofNat_lt.mpr h))
    clear c18
    (first | rw [c18b0] | (simp only [i64_w, i32_w]; rw [c18b0]) | skip)
    replace H := Option.bind_eq_some_iff.mp H
    obtain ⟨t112, A190, H⟩ := H
    replace H : ((laws_wnSame.f k t112 t104).bind fun t115 => (if t115 = true then ((impl_NetWithout.f t101 ([] : List (S26))).bind fun t116 => ((laws_wnSame.f k t116 t104).bind fun t119 => (if t119 = true then ((impl_NetWithout.f t101 t101).bind fun t120 => (laws_FnNetCover.j0 k t101 t104 ((t120.length : Int) != 0))) else (laws_FnNetCover.j0 k t101 t104 true)))) else (laws_FnNetCover.j0 k t101 t104 true))) = some r := H
    have A19 := zA A190
    clear A190
    replace H := Option.bind_eq_some_iff.mp H
    obtain ⟨t115, A200, H⟩ := H
    replace H : (if t115 = true then ((impl_NetWithout.f t101 ([] : List (S26))).bind fun t116 => ((laws_wnSame.f k t116 t104).bind fun t119 => (if t119 = true then ((impl_NetWithout.f t101 t101).bind fun t120 => (laws_FnNetCover.j0 k t101 t104 ((t120.length : Int) != 0))) else (laws_FnNetCover.j0 k t101 t104 true)))) else (laws_FnNetCover.j0 k t101 t104 true)) = some r := H
    have A20 := zA A200
    clear A200
    by_cases c21 : t115 = true
    ·subst c21
     have H1 : ((impl_NetWithout.f t101 ([] : List (S26))).bind fun t116 => ((laws_wnSame.f k t116 t104).bind fun t119 => (if t119 = true then ((impl_NetWithout.f t101 t101).bind fun t120 => (laws_FnNetCover.j0 k t101 t104 ((t120.length : Int) != 0))) else (laws_FnNetCover.j0 k t101 t104 true)))) = some r := by rw [if_pos rfl] at H; exact H
     clear H
     have H := H1
     clear H1
     replace H := Option.bind_eq_some_iff.mp H
     obtain ⟨t116, A220, H⟩ := H
     replace H : ((laws_wnSame.f k t116 t104).bind fun t119 => (if t119 = true then ((impl_NetWithout.f t101 t101).bind fun t120 => (laws_FnNetCover.j0 k t101 t104 ((t120.length : Int) != 0))) else (laws_FnNetCover.j0 k t101 t104 true))) = some r := H
     have A22 := zA A220
     clear A220
     replace H := Option.bind_eq_some_iff.mp H
     obtain ⟨t119, A230, H⟩ := H
     replace H : (if t119 = true then ((impl_NetWithout.f t101 t101).bind fun t120 => (laws_FnNetCover.j0 k t101 t104 ((t120.length : Int) != 0))) else (laws_FnNetCover.j0 k t101 t104 true)) = some r := H
     have A23 := zA A230
     clear A230
     by_cases c24 : t119 = true
     ·subst c24
      have H1 : ((impl_NetWithout.f t101 t101).bind fun t120 => (laws_FnNetCover.j0 k t101 t104 ((t120.length : Int) != 0))) = some r := by rw [if_pos rfl] at H; exact H
      clear H
      have H := H1
      clear H1
      replace H := Option.bind_eq_some_iff.mp H
      obtain ⟨t120, A250, H⟩ := H
      replace H : (laws_FnNetCover.j0 k t101 t104 ((t120.length : Int) != 0)) = some r := H
      have A25 := zA A250
      clear A250
      have H' := zA H
      clear H
      go_wp2_with (first | (go_at_call 64; (with_reducible refine (impl_NetCover.calls _ _ t104 t112 _ ?side1 ?side2 A19.out).mono ?_); (case side1 => repeat (first | exact (Kd.R_reads' HO106.out).2.2 | (with_reducible refine Kd.C_alloc ?_ _) | (with_reducible refine Kd.C_drewN ?_ _) | (with_reducible refine Kd.C_drew ?_))); (case side2 => exact (Kd.R_reads' HO106.out).2.1); rintro e w26 ⟨v113, rfl, ho0, hb⟩; have n0_ := zA (Kd.R_elder' (zr HO103.out) (Kd.R_base ho0) hb); have n1_ := zA (Kd.R_elder' (zr HO106.out) (Kd.R_base ho0) hb); have n2_ := zA (Kd.R_elder' (zr HO109.out) (Kd.R_base ho0) hb); have n3_ := zA (Kd.R_lower (Kd.R_new' (Kd.R_new' (Kd.R_new' ho0 (Kd.R_lt (zr HO103.out))) (Kd.R_lt (zr HO106.out))) (Kd.R_lt (zr HO109.out))) (below_size (zHB))); have n4_ := zA (below_step (zHB) hb); clear HO103; clear HO106; clear HO109; clear HB; have HO103 := n0_; have HO106 := n1_; have HO109 := n2_; have HO114 := n3_; have HB := n4_; clear n0_ n1_ n2_ n3_ n4_; (try clear hb); (try clear hb2); (try clear hk); (try clear hi); (try clear ho0); obtain ⟨Ao27, co27, eo27⟩ := Kd.R_slice HO114.out; subst eo27) | (go_at_call 66; (with_reducible refine (laws_wnSame.calls k _ _ t112 _ _ t104 true _ ?side1 ?side2 ?side3 ?side4 A20.out).mono ?_); (case side1 => repeat (first | exact (Kd.R_reads' HO114.out).2.2 | (with_reducible refine Kd.C_alloc ?_ _) | (with_reducible refine Kd.C_drewN ?_ _) | (with_reducible refine Kd.C_drew ?_))); (case side2 => exact (Kd.R_reads' HO114.out).2.1); (case side3 => repeat (first | exact (Kd.R_reads' HO106.out).2.2 | (with_reducible refine Kd.C_alloc ?_ _) | (with_reducible refine Kd.C_drewN ?_ _) | (with_reducible refine Kd.C_drew ?_))); (case side4 => exact (Kd.R_reads' HO106.out).2.1); rintro e w' ⟨rfl, ⟨nd, rfl⟩⟩) | (go_at_call 66; (with_reducible refine (laws_wnSame.calls k _ _ t116 _ _ t104 true _ ?side1 ?side2 ?side3 ?side4 A23.out).mono ?_); (case side1 => repeat (first | exact (Kd.R_reads' HO118.out).2.2 | (with_reducible refine Kd.C_alloc ?_ _) | (with_reducible refine Kd.C_drewN ?_ _) | (with_reducible refine Kd.C_drew ?_))); (case side2 => exact (Kd.R_reads' HO118.out).2.1); (case side3 => repeat (first | exact (Kd.R_reads' HO106.out).2.2 | (with_reducible refine Kd.C_alloc ?_ _) | (with_reducible refine Kd.C_drewN ?_ _) | (with_reducible refine Kd.C_drew ?_))); (case side4 => exact (Kd.R_reads' HO106.out).2.1); rintro e w' ⟨rfl, ⟨nd, rfl⟩⟩) | (go_at_call 60; (with_reducible refine (impl_NetWithout.calls _ _ t101 _ _ t101 t120 _ ?side1 ?side2 ?side3 ?side4 A25.out).mono ?_); (case side1 => repeat (first | exact (Kd.R_reads' HO103.out).2.2 | (with_reducible refine Kd.C_alloc ?_ _) | (with_reducible refine Kd.C_drewN ?_ _) | (with_reducible refine Kd.C_drew ?_))); (case side2 => exact (Kd.R_reads' HO103.out).2.1); (case side3 => repeat (first | exact (Kd.R_reads' HO103.out).2.2 | (with_reducible refine Kd.C_alloc ?_ _) | (with_reducible refine Kd.C_drewN ?_ _) | (with_reducible refine Kd.C_drew ?_))); (case side4 => exact (Kd.R_reads' HO103.out).2.1); rintro e w30 ⟨v121, rfl, ho0, hb⟩; have n0_ := zA (Kd.R_elder' (zr HO103.out) (Kd.R_base ho0) hb); have n1_ := zA (Kd.R_elder' (zr HO106.out) (Kd.R_base ho0) hb); have n2_ := zA (Kd.R_elder' (zr HO109.out) (Kd.R_base ho0) hb); have n3_ := zA (Kd.R_elder' (zr HO114.out) (Kd.R_base ho0) hb); have n4_ := zA (Kd.R_elder' (zr HO118.out) (Kd.R_base ho0) hb); have n5_ := zA (Kd.R_lower (Kd.R_new' (Kd.R_new' (Kd.R_new' (Kd.R_new' (Kd.R_new' ho0 (Kd.R_lt (zr HO103.out))) (Kd.R_lt (zr HO106.out))) (Kd.R_lt (zr HO109.out))) (Kd.R_lt (zr HO114.out))) (Kd.R_lt (zr HO118.out))) (below_size (zHB))); have n6_ := zA (below_step (zHB) hb); clear HO103; clear HO106; clear HO109; clear HO114; clear HO118; clear HB; have HO103 := n0_; have HO106 := n1_; have HO109 := n2_; have HO114 := n3_; have HO118 := n4_; have HO122 := n5_; have HB := n6_; clear n0_ n1_ n2_ n3_ n4_ n5_ n6_; (try clear hb); (try clear hb2); (try clear hk); (try clear hi); (try clear ho0); obtain ⟨Ao31, co31, eo31⟩ := Kd.R_slice HO122.out; subst eo31) | (go_at_call 60; (refine (impl_NetWithout.calls _ _ t101 _ _ ([] : List (S26)) t116 _ ?side1 ?side2 ?side3 ?side4 A22.out).mono ?_); (case side1 => repeat (first | exact (Kd.R_reads' HO103.out).2.2 | (with_reducible refine Kd.C_alloc ?_ _) | (with_reducible refine Kd.C_drewN ?_ _) | (with_reducible refine Kd.C_drew ?_))); (case side2 => exact (Kd.R_reads' HO103.out).2.1); (case side3 => exact Kd.C_nil _ _); (case side4 => exact Nat.le_refl _); rintro e w28 ⟨v117, rfl, ho0, hb⟩; have n0_ := zA (Kd.R_elder' (zr HO103.out) (Kd.R_base ho0) hb); have n1_ := zA (Kd.R_elder' (zr HO106.out) (Kd.R_base ho0) hb); have n2_ := zA (Kd.R_elder' (zr HO109.out) (Kd.R_base ho0) hb); have n3_ := zA (Kd.R_elder' (zr HO114.out) (Kd.R_base ho0) hb); have n4_ := zA (Kd.R_lower (Kd.R_new' (Kd.R_new' (Kd.R_new' (Kd.R_new' ho0 (Kd.R_lt (zr HO103.out))) (Kd.R_lt (zr HO106.out))) (Kd.R_lt (zr HO109.out))) (Kd.R_lt (zr HO114.out))) (below_size (zHB))); have n5_ := zA (below_step (zHB) hb); clear HO103; clear HO106; clear HO109; clear HO114; clear HB; have HO103 := n0_; have HO106 := n1_; have HO109 := n2_; have HO114 := n3_; have HO118 := n4_; have HB := n5_; clear n0_ n1_ n2_ n3_ n4_ n5_; (try clear hb); (try clear hb2); (try clear hk); (try clear hi); (try clear ho0); obtain ⟨Ao29, co29, eo29⟩ := Kd.R_slice HO118.out; subst eo29))
      go_meet
      case rel => exact ⟨_, (((t120.length : Int) != 0)), y4 , H', ⟨by first | omega | exact Nat.le_refl _⟩, ⟨by refine zk ?_; exact Kd.R_mono HO103.out (fun _ hk => hk.1.1.1.1.2)⟩, ⟨by refine zk ?_; exact Kd.R_mono HO106.out (fun _ hk => hk.1.1.1.1.2)⟩, ⟨zHB⟩⟩
     replace c24 := Bool.eq_false_iff.mpr c24
     subst c24
     have H1 : (laws_FnNetCover.j0 k t101 t104 true) = some r := by rw [if_neg (show ¬ (false = true) by decide)] at H; exact H
     clear H
     have H := H1
     clear H1
     have H' := zA H
     clear H
     go_wp2_with (first | (go_at_call 64; (with_reducible refine (impl_NetCover.calls _ _ t104 t112 _ ?side1 ?side2 A19.out).mono ?_); (case side1 => repeat (first | exact (Kd.R_reads' HO106.out).2.2 | (with_reducible refine Kd.C_alloc ?_ _) | (with_reducible refine Kd.C_drewN ?_ _) | (with_reducible refine Kd.C_drew ?_))); (case side2 => exact (Kd.R_reads' HO106.out).2.1); rintro e w32 ⟨v113, rfl, ho0, hb⟩; have n0_ := zA (Kd.R_elder' (zr HO103.out) (Kd.R_base ho0) hb); have n1_ := zA (Kd.R_elder' (zr HO106.out) (Kd.R_base ho0) hb); have n2_ := zA (Kd.R_elder' (zr HO109.out) (Kd.R_base ho0) hb); have n3_ := zA (Kd.R_lower (Kd.R_new' (Kd.R_new' (Kd.R_new' ho0 (Kd.R_lt (zr HO103.out))) (Kd.R_lt (zr HO106.out))) (Kd.R_lt (zr HO109.out))) (below_size (zHB))); have n4_ := zA (below_step (zHB) hb); clear HO103; clear HO106; clear HO109; clear HB; have HO103 := n0_; have HO106 := n1_; have HO109 := n2_; have HO114 := n3_; have HB := n4_; clear n0_ n1_ n2_ n3_ n4_; (try clear hb); (try clear hb2); (try clear hk); (try clear hi); (try clear ho0); obtain ⟨Ao33, co33, eo33⟩ := Kd.R_slice HO114.out; subst eo33) | (go_at_call 66; (with_reducible refine (laws_wnSame.calls k _ _ t112 _ _ t104 true _ ?side1 ?side2 ?side3 ?side4 A20.out).mono ?_); (case side1 => repeat (first | exact (Kd.R_reads' HO114.out).2.2 | (with_reducible refine Kd.C_alloc ?_ _) | (with_reducible refine Kd.C_drewN ?_ _) | (with_reducible refine Kd.C_drew ?_))); (case side2 => exact (Kd.R_reads' HO114.out).2.1); (case side3 => repeat (first | exact (Kd.R_reads' HO106.out).2.2 | (with_reducible refine Kd.C_alloc ?_ _) | (with_reducible refine Kd.C_drewN ?_ _) | (with_reducible refine Kd.C_drew ?_))); (case side4 => exact (Kd.R_reads' HO106.out).2.1); rintro e w' ⟨rfl, ⟨nd, rfl⟩⟩) | (go_at_call 66; (with_reducible refine (laws_wnSame.calls k _ _ t116 _ _ t104 false _ ?side1 ?side2 ?side3 ?side4 A23.out).mono ?_); (case side1 => repeat (first | exact (Kd.R_reads' HO118.out).2.2 | (with_reducible refine Kd.C_alloc ?_ _) | (with_reducible refine Kd.C_drewN ?_ _) | (with_reducible refine Kd.C_drew ?_))); (case side2 => exact (Kd.R_reads' HO118.out).2.1); (case side3 => repeat (first | exact (Kd.R_reads' HO106.out).2.2 | (with_reducible refine Kd.C_alloc ?_ _) | (with_reducible refine Kd.C_drewN ?_ _) | (with_reducible refine Kd.C_drew ?_))); (case side4 => exact (Kd.R_reads' HO106.out).2.1); rintro e w' ⟨rfl, ⟨nd, rfl⟩⟩) | (go_at_call 60; (refine (impl_NetWithout.calls _ _ t101 _ _ ([] : List (S26)) t116 _ ?side1 ?side2 ?side3 ?side4 A22.out).mono ?_); (case side1 => repeat (first | exact (Kd.R_reads' HO103.out).2.2 | (with_reducible refine Kd.C_alloc ?_ _) | (with_reducible refine Kd.C_drewN ?_ _) | (with_reducible refine Kd.C_drew ?_))); (case side2 => exact (Kd.R_reads' HO103.out).2.1); (case side3 => exact Kd.C_nil _ _); (case side4 => exact Nat.le_refl _); rintro e w34 ⟨v117, rfl, ho0, hb⟩; have n0_ := zA (Kd.R_elder' (zr HO103.out) (Kd.R_base ho0) hb); have n1_ := zA (Kd.R_elder' (zr HO106.out) (Kd.R_base ho0) hb); have n2_ := zA (Kd.R_elder' (zr HO109.out) (Kd.R_base ho0) hb); have n3_ := zA (Kd.R_elder' (zr HO114.out) (Kd.R_base ho0) hb); have n4_ := zA (Kd.R_lower (Kd.R_new' (Kd.R_new' (Kd.R_new' (Kd.R_new' ho0 (Kd.R_lt (zr HO103.out))) (Kd.R_lt (zr HO106.out))) (Kd.R_lt (zr HO109.out))) (Kd.R_lt (zr HO114.out))) (below_size (zHB))); have n5_ := zA (below_step (zHB) hb); clear HO103; clear HO106; clear HO109; clear HO114; clear HB; have HO103 := n0_; have HO106 := n1_; have HO109 := n2_; have HO114 := n3_; have HO118 := n4_; have HB := n5_; clear n0_ n1_ n2_ n3_ n4_ n5_; (try clear hb); (try clear hb2); (try clear hk); (try clear hi); (try clear ho0); obtain ⟨Ao35, co35, eo35⟩ := Kd.R_slice HO118.out; subst eo35))
     go_meet
     case rel => exact ⟨_, (true), y4 , H', ⟨by first | omega | exact Nat.le_refl _⟩, ⟨by refine zk ?_; exact Kd.R_mono HO103.out (fun _ hk => hk.1.1.1.2)⟩, ⟨by refine zk ?_; exact Kd.R_mono HO106.out (fun _ hk => hk.1.1.1.2)⟩, ⟨zHB⟩⟩
    replace c21 := Bool.eq_false_iff.mpr c21
    subst c21
    have H1 : (laws_FnNetCover.j0 k t101 t104 true) = some r := by rw [if_neg (show ¬ (false = true) by decide)] at H; exact H
    clear H
    have H := H1
    clear H1
    have H' := zA H
    clear H
    go_wp2_with (first | (go_at_call 64; (with_reducible refine (impl_NetCover.calls _ _ t104 t112 _ ?side1 ?side2 A19.out).mono ?_); (case side1 => repeat (first | exact (Kd.R_reads' HO106.out).2.2 | (with_reducible refine Kd.C_alloc ?_ _) | (with_reducible refine Kd.C_drewN ?_ _) | (with_reducible refine Kd.C_drew ?_))); (case side2 => exact (Kd.R_reads' HO106.out).2.1); rintro e w36 ⟨v113, rfl, ho0, hb⟩; have n0_ := zA (Kd.R_elder' (zr HO103.out) (Kd.R_base ho0) hb); have n1_ := zA (Kd.R_elder' (zr HO106.out) (Kd.R_base ho0) hb); have n2_ := zA (Kd.R_elder' (zr HO109.out) (Kd.R_base ho0) hb); have n3_ := zA (Kd.R_lower (Kd.R_new' (Kd.R_new' (Kd.R_new' ho0 (Kd.R_lt (zr HO103.out))) (Kd.R_lt (zr HO106.out))) (Kd.R_lt (zr HO109.out))) (below_size (zHB))); have n4_ := zA (below_step (zHB) hb); clear HO103; clear HO106; clear HO109; clear HB; have HO103 := n0_; have HO106 := n1_; have HO109 := n2_; have HO114 := n3_; have HB := n4_; clear n0_ n1_ n2_ n3_ n4_; (try clear hb); (try clear hb2); (try clear hk); (try clear hi); (try clear ho0); obtain ⟨Ao37, co37, eo37⟩ := Kd.R_slice HO114.out; subst eo37) | (go_at_call 66; (with_reducible refine (laws_wnSame.calls k _ _ t112 _ _ t104 false _ ?side1 ?side2 ?side3 ?side4 A20.out).mono ?_); (case side1 => repeat (first | exact (Kd.R_reads' HO114.out).2.2 | (with_reducible refine Kd.C_alloc ?_ _) | (with_reducible refine Kd.C_drewN ?_ _) | (with_reducible refine Kd.C_drew ?_))); (case side2 => exact (Kd.R_reads' HO114.out).2.1); (case side3 => repeat (first | exact (Kd.R_reads' HO106.out).2.2 | (with_reducible refine Kd.C_alloc ?_ _) | (with_reducible refine Kd.C_drewN ?_ _) | (with_reducible refine Kd.C_drew ?_))); (case side4 => exact (Kd.R_reads' HO106.out).2.1); rintro e w' ⟨rfl, ⟨nd, rfl⟩⟩))
    go_meet
    case rel => exact ⟨_, (true), y4 , H', ⟨by first | omega | exact Nat.le_refl _⟩, ⟨by refine zk ?_; exact Kd.R_mono HO103.out (fun _ hk => hk.1.1.2)⟩, ⟨by refine zk ?_; exact Kd.R_mono HO106.out (fun _ hk => hk.1.1.2)⟩, ⟨zHB⟩⟩
   case rest =>
    clear HC10
    try clear c1
    try clear c2
    try clear c2b0
    try clear c2b1
    try clear p2
    try clear c6
    try clear c7
    try clear c9
    try clear c18
    try clear c18b0
    try clear c18b1
    try clear c21
    try clear c24
    obtain ⟨kq, x48_9, rfl, HA, HJ9, HO_3, HO_4, HB⟩ := hcut
    cases kq with
    | zero => exact absurd HA.out (by simp [laws_FnNetCover.j0])
    | succ kj9 => ?_
    have H := HA.out
    clear HA
    simp only [laws_FnNetCover.j0] at H
    by_cases c38 : x48_9 = true
    ·subst c38
     have H1 : (some false) = some r := by rw [if_pos rfl] at H; exact H
     clear H
     have H := H1
     clear H1
     obtain rfl := Option.some.inj H
     go_wp2
     go_ret
     exact ⟨by first | rfl | (simp [errW_none, errW_some] <;> rfl) | (simp [*, errW_none, errW_some] <;> rfl), zHB⟩
    replace c38 := Bool.eq_false_iff.mpr c38
    subst c38
    have H1 : (if (t101.length : Int) = 0 then (some true) else (if (t101.length : Int) = 40 then (some true) else ((some (([] : List (S26)) : List (S26))).bind fun y123 => (if y123.length + t101.length < 8796093022208 then ((some (y123 ++ t101 : List (S26))).bind fun y126 => (if 0 < (t101.length : Int) then ((some (([(⟨(rd_T26 t101 0).f0, (rd_T26 t101 0).f1⟩ : S26)] : List (S26)) : List (S26))).bind fun y130 => (if y126.length + y130.length < 8796093022208 then ((impl_NetCover.f (y126 ++ y130)).bind fun t136 => ((laws_wnSame.f kj9 t136 t104).bind fun t139 => (some t139))) else (none))) else (none))) else (none))))) = some r := by rw [if_neg (show ¬ (false = true) by decide)] at H; exact H
    clear H
    have H := H1
    clear H1
    by_cases c39 : (t101.length : Int) = 0
    ·rw [if_pos c39] at H
     have c39b0 : ((t101.length : Int) == 0) = true := beq_iff_eq.mpr c39
     have c39b1 : ((t101.length : Int) != 0) = false := bne_eq_false_iff_eq.mpr c39
     clear c39
     obtain rfl := Option.some.inj H
     try go_wp2
     have n0_ := zA (Kd.R_drew HO_3.out)
     have n1_ := zA (Kd.R_drew HO_4.out)
     have n2_ := zA (below_drew1 HB.out)
     clear HO_3
     clear HO_4
     clear HB
     have HO_3 := n0_
     have HO_4 := n1_
     have HB := n2_
     clear n0_ n1_ n2_
     refine start_ (n := 22) (S := fun w' => True) (ds := []) (zl 22 0) (by kernel_rfl) rfl rfl trivial (fun hHeld => ?_); refine with_tabW laws_FnNetCover.tab11 laws_FnNetCover.bits11 (fun HT_ HW_ => ?_)
     generalize wc.drew = w40 at HO_3 HO_4 HB hHeld ⊢
     refine pure_ (i := 0) (N := some 49) (v := ?_) (a' := ?_) (zl 22 1) rfl rfl (any_of HT_.out (by kernel_rfl)) (fun _ _ _ h => h) (Or.inl ⟨by rfl, ?_⟩) ?_ ?_
     rotate_left
     ·intro w'
      go_simp
      with_reducible rfl
     rotate_left
     ·simp only [Act.put, List.setIfInBounds_toArray, List.set_cons_zero, List.set_cons_succ, i64_w, i32_w]
      rfl
     refine pure_ (i := 1) (N := some 50) (v := ?_) (a' := ?_) (zl 22 3) rfl rfl (any_of HT_.out (by kernel_rfl)) (fun _ _ _ h => h) (Or.inl ⟨by rfl, ?_⟩) ?_ ?_
     rotate_left
     ·intro w'
      go_simp
      with_reducible rfl
     rotate_left
     ·simp only [Act.put, List.setIfInBounds_toArray, List.set_cons_zero, List.set_cons_succ, i64_w, i32_w]
      rfl
     refine pure_ (i := 2) (N := some 51) (v := ?_) (a' := ?_) (zl 22 7) rfl rfl (any_of HT_.out (by kernel_rfl)) (fun _ _ _ h => h) (Or.inl ⟨by rfl, ?_⟩) ?_ ?_
     rotate_left
     ·intro w'
      go_simp
      with_reducible rfl
     rotate_left
     ·simp only [Act.put, List.setIfInBounds_toArray, List.set_cons_zero, List.set_cons_succ, i64_w, i32_w]
      rfl
     refine pure_ (i := 3) (N := some 52) (v := ?_) (a' := ?_) (zl 22 15) rfl rfl (any_of HT_.out (by kernel_rfl)) (fun _ _ _ h => h) (Or.inl ⟨by rfl, ?_⟩) ?_ ?_
     rotate_left
     ·intro w'
      go_simp
      with_reducible rfl
     rotate_left
     ·simp only [Act.put, List.setIfInBounds_toArray, List.set_cons_zero, List.set_cons_succ, i64_w, i32_w]
      rfl
     refine pure_ (i := 4) (N := some 53) (v := undef) (a' := ?_) (zl 22 31) rfl rfl (any_of HT_.out (by kernel_rfl)) (fun _ _ _ h => h) (Or.inr ⟨by rfl, rfl⟩) ?_ ?_
     rotate_left
     ·simp only [Act.put, List.setIfInBounds_toArray, List.set_cons_zero, List.set_cons_succ, i64_w, i32_w]
      rfl
     refine pure_ (i := 5) (N := some 54) (v := undef) (a' := ?_) (zl 22 63) rfl rfl (any_of HT_.out (by kernel_rfl)) (fun _ _ _ h => h) (Or.inr ⟨by rfl, rfl⟩) ?_ ?_
     rotate_left
     ·simp only [Act.put, List.setIfInBounds_toArray, List.set_cons_zero, List.set_cons_succ, i64_w, i32_w]
      rfl
     refine pure_ (i := 6) (N := some 55) (v := undef) (a' := ?_) (zl 22 127) rfl rfl (any_of HT_.out (by kernel_rfl)) (fun _ _ _ h => h) (Or.inr ⟨by rfl, rfl⟩) ?_ ?_
     rotate_left
     ·simp only [Act.put, List.setIfInBounds_toArray, List.set_cons_zero, List.set_cons_succ, i64_w, i32_w]
      rfl
     refine pure_ (i := 7) (N := some 56) (v := ?_) (a' := ?_) (zl 22 255) rfl rfl (any_of HT_.out (by kernel_rfl)) (fun _ _ _ h => h) (Or.inl ⟨by rfl, ?_⟩) ?_ ?_
     rotate_left
     ·intro w'
      go_simp
      with_reducible rfl
     rotate_left
     ·simp only [Act.put, List.setIfInBounds_toArray, List.set_cons_zero, List.set_cons_succ, i64_w, i32_w]
      rfl
     refine pure_ (i := 8) (N := some 57) (v := ?_) (a' := ?_) (zl 22 511) rfl rfl (any_of HT_.out (by kernel_rfl)) (fun _ _ _ h => h) (Or.inl ⟨by rfl, ?_⟩) ?_ ?_
     rotate_left
     ·intro w'
      go_simp
      with_reducible rfl
     rotate_left
     ·simp only [Act.put, List.setIfInBounds_toArray, List.set_cons_zero, List.set_cons_succ, i64_w, i32_w]
      rfl
     refine pure_ (i := 9) (N := some 58) (v := undef) (a' := ?_) (zl 22 1023) rfl rfl (any_of HT_.out (by kernel_rfl)) (fun _ _ _ h => h) (Or.inr ⟨by rfl, rfl⟩) ?_ ?_
     rotate_left
     ·simp only [Act.put, List.setIfInBounds_toArray, List.set_cons_zero, List.set_cons_succ, i64_w, i32_w]
      rfl
     refine pure_ (i := 10) (N := some 59) (v := undef) (a' := ?_) (zl 22 2047) rfl rfl (any_of HT_.out (by kernel_rfl)) (fun _ _ _ h => h) (Or.inr ⟨by rfl, rfl⟩) ?_ ?_
     rotate_left
     ·simp only [Act.put, List.setIfInBounds_toArray, List.set_cons_zero, List.set_cons_succ, i64_w, i32_w]
      rfl
     refine pure_ (i := 11) (N := some 60) (v := undef) (a' := ?_) (zl 22 4095) rfl rfl (any_of HT_.out (by kernel_rfl)) (fun _ _ _ h => h) (Or.inr ⟨by rfl, rfl⟩) ?_ ?_
     rotate_left
     ·simp only [Act.put, List.setIfInBounds_toArray, List.set_cons_zero, List.set_cons_succ, i64_w, i32_w]
      rfl
     refine pure_ (i := 12) (N := some 61) (v := undef) (a' := ?_) (zl 22 8191) rfl rfl (any_of HT_.out (by kernel_rfl)) (fun _ _ _ h => h) (Or.inr ⟨by rfl, rfl⟩) ?_ ?_
     rotate_left
     ·simp only [Act.put, List.setIfInBounds_toArray, List.set_cons_zero, List.set_cons_succ, i64_w, i32_w]
      rfl
     refine pure_ (i := 13) (N := some 62) (v := undef) (a' := ?_) (zl 22 16383) rfl rfl (any_of HT_.out (by kernel_rfl)) (fun _ _ _ h => h) (Or.inr ⟨by rfl, rfl⟩) ?_ ?_
     rotate_left
     ·simp only [Act.put, List.setIfInBounds_toArray, List.set_cons_zero, List.set_cons_succ, i64_w, i32_w]
      rfl
     refine pure_ (i := 14) (N := some 63) (v := undef) (a' := ?_) (zl 22 32767) rfl rfl (any_of HT_.out (by kernel_rfl)) (fun _ _ _ h => h) (Or.inr ⟨by rfl, rfl⟩) ?_ ?_
     rotate_left
     ·simp only [Act.put, List.setIfInBounds_toArray, List.set_cons_zero, List.set_cons_succ, i64_w, i32_w]
      rfl
     refine pure_ (i := 15) (N := some 64) (v := undef) (a' := ?_) (zl 22 65535) rfl rfl (any_of HT_.out (by kernel_rfl)) (fun _ _ _ h => h) (Or.inr ⟨by rfl, rfl⟩) ?_ ?_
     rotate_left
     ·simp only [Act.put, List.setIfInBounds_toArray, List.set_cons_zero, List.set_cons_succ, i64_w, i32_w]
      rfl
     refine pure_ (i := 16) (N := some 65) (v := undef) (a' := ?_) (zl 22 131071) rfl rfl (any_of HT_.out (by kernel_rfl)) (fun _ _ _ h => h) (Or.inr ⟨by rfl, rfl⟩) ?_ ?_
     rotate_left
     ·simp only [Act.put, List.setIfInBounds_toArray, List.set_cons_zero, List.set_cons_succ, i64_w, i32_w]
      rfl
     refine pure_ (i := 17) (N := some 66) (v := undef) (a' := ?_) (zl 22 262143) rfl rfl (any_of HT_.out (by kernel_rfl)) (fun _ _ _ h => h) (Or.inr ⟨by rfl, rfl⟩) ?_ ?_
     rotate_left
     ·simp only [Act.put, List.setIfInBounds_toArray, List.set_cons_zero, List.set_cons_succ, i64_w, i32_w]
      rfl
     refine pure_ (i := 18) (N := some 67) (v := undef) (a' := ?_) (zl 22 524287) rfl rfl (any_of HT_.out (by kernel_rfl)) (fun _ _ _ h => h) (Or.inr ⟨by rfl, rfl⟩) ?_ ?_
     rotate_left
     ·simp only [Act.put, List.setIfInBounds_toArray, List.set_cons_zero, List.set_cons_succ, i64_w, i32_w]
      rfl
     refine pure_ (i := 19) (N := some 68) (v := undef) (a' := ?_) (zl 22 1048575) rfl rfl (any_of HT_.out (by kernel_rfl)) (fun _ _ _ h => h) (Or.inr ⟨by rfl, rfl⟩) ?_ ?_
     rotate_left
     ·simp only [Act.put, List.setIfInBounds_toArray, List.set_cons_zero, List.set_cons_succ, i64_w, i32_w]
      rfl
     refine pure_ (i := 20) (N := some 69) (v := ?_) (a' := ?_) (zl 22 2097151) rfl rfl (any_of HT_.out (by kernel_rfl)) (fun _ _ _ h => h) (Or.inl ⟨by rfl, ?_⟩) ?_ ?_
     rotate_left
     ·intro w'
      go_simp
      with_reducible rfl
     rotate_left
     ·simp only [Act.put, List.setIfInBounds_toArray, List.set_cons_zero, List.set_cons_succ, i64_w, i32_w]
      rfl
     refine pure_ (i := 21) (N := some 2) (v := ?_) (a' := ?_) (zl 22 4194303) rfl rfl (any_of HT_.out (by kernel_rfl)) (fun _ _ _ h => h) (Or.inl ⟨by rfl, ?_⟩) ?_ ?_
     rotate_left
     ·intro w'
      go_simp
      with_reducible rfl
     rotate_left
     ·simp only [Act.put, List.setIfInBounds_toArray, List.set_cons_zero, List.set_cons_succ, i64_w, i32_w]
      rfl
     refine done_ (done_of HT_.out (by kernel_rfl)) ?_
     try go_wp2
     go_ret
     exact ⟨by first | rfl | (simp [errW_none, errW_some] <;> rfl) | (simp [*, errW_none, errW_some] <;> rfl), zHB⟩
    rw [if_neg c39] at H
    have c39b0 : ((t101.length : Int) == 0) = false := beq_eq_false_iff_ne.mpr c39
    have c39b1 : ((t101.length : Int) != 0) = true := bne_iff_ne.mpr c39
    have c39b2 : ¬ (t101 = []) := fun h_ => c39 (by rw [h_]; rfl)
    by_cases c41 : (t101.length : Int) = 40
    ·rw [if_pos c41] at H
     have c41b0 : ((t101.length : Int) == 40) = true := beq_iff_eq.mpr c41
     have c41b1 : ((t101.length : Int) != 40) = false := bne_eq_false_iff_eq.mpr c41
     clear c41
     obtain rfl := Option.some.inj H
     try go_wp2
     have n0_ := zA (Kd.R_drew HO_3.out)
     have n1_ := zA (Kd.R_drew HO_4.out)
     have n2_ := zA (below_drew1 HB.out)
     clear HO_3
     clear HO_4
     clear HB
     have HO_3 := n0_
     have HO_4 := n1_
     have HB := n2_
     clear n0_ n1_ n2_
     refine start_ (n := 22) (S := fun w' => True) (ds := []) (zl 22 0) (by kernel_rfl) rfl rfl trivial (fun hHeld => ?_); refine with_tabW laws_FnNetCover.tab11 laws_FnNetCover.bits11 (fun HT_ HW_ => ?_)
     generalize wc.drew = w42 at HO_3 HO_4 HB hHeld ⊢
     refine pure_ (i := 0) (N := some 49) (v := ?_) (a' := ?_) (zl 22 1) rfl rfl (any_of HT_.out (by kernel_rfl)) (fun _ _ _ h => h) (Or.inl ⟨by rfl, ?_⟩) ?_ ?_
     rotate_left
     ·intro w'
      go_simp
      with_reducible rfl
     rotate_left
     ·simp only [Act.put, List.setIfInBounds_toArray, List.set_cons_zero, List.set_cons_succ, i64_w, i32_w]
      rfl
     refine pure_ (i := 1) (N := some 50) (v := ?_) (a' := ?_) (zl 22 3) rfl rfl (any_of HT_.out (by kernel_rfl)) (fun _ _ _ h => h) (Or.inl ⟨by rfl, ?_⟩) ?_ ?_
     rotate_left
     ·intro w'
      go_simp
      with_reducible rfl
     rotate_left
     ·simp only [Act.put, List.setIfInBounds_toArray, List.set_cons_zero, List.set_cons_succ, i64_w, i32_w]
      rfl
     refine pure_ (i := 2) (N := some 51) (v := ?_) (a' := ?_) (zl 22 7) rfl rfl (any_of HT_.out (by kernel_rfl)) (fun _ _ _ h => h) (Or.inl ⟨by rfl, ?_⟩) ?_ ?_
     rotate_left
     ·intro w'
      go_simp
      with_reducible rfl
     rotate_left
     ·simp only [Act.put, List.setIfInBounds_toArray, List.set_cons_zero, List.set_cons_succ, i64_w, i32_w]
      rfl
     refine pure_ (i := 3) (N := some 52) (v := ?_) (a' := ?_) (zl 22 15) rfl rfl (any_of HT_.out (by kernel_rfl)) (fun _ _ _ h => h) (Or.inl ⟨by rfl, ?_⟩) ?_ ?_
     rotate_left
     ·intro w'
      go_simp
      with_reducible rfl
     rotate_left
     ·simp only [Act.put, List.setIfInBounds_toArray, List.set_cons_zero, List.set_cons_succ, i64_w, i32_w]
      rfl
     refine pure_ (i := 4) (N := some 53) (v := ?_) (a' := ?_) (zl 22 31) rfl rfl (any_of HT_.out (by kernel_rfl)) (fun _ _ _ h => h) (Or.inl ⟨by rfl, ?_⟩) ?_ ?_
     rotate_left
     ·intro w'
      go_simp
      with_reducible rfl
     rotate_left
     ·simp only [Act.put, List.setIfInBounds_toArray, List.set_cons_zero, List.set_cons_succ, i64_w, i32_w]
      rfl
     refine pure_ (i := 5) (N := some 54) (v := ?_) (a' := ?_) (zl 22 63) rfl rfl (any_of HT_.out (by kernel_rfl)) (fun _ _ _ h => h) (Or.inl ⟨by rfl, ?_⟩) ?_ ?_
     rotate_left
     ·intro w'
      go_simp
      with_reducible rfl
     rotate_left
     ·simp only [Act.put, List.setIfInBounds_toArray, List.set_cons_zero, List.set_cons_succ, i64_w, i32_w]
      rfl
     refine pure_ (i := 6) (N := some 55) (v := ?_) (a' := ?_) (zl 22 127) rfl rfl (any_of HT_.out (by kernel_rfl)) (fun _ _ _ h => h) (Or.inl ⟨by rfl, ?_⟩) ?_ ?_
     rotate_left
     ·intro w'
      go_simp
      with_reducible rfl
     rotate_left
     ·simp only [Act.put, List.setIfInBounds_toArray, List.set_cons_zero, List.set_cons_succ, i64_w, i32_w]
      rfl
     refine pure_ (i := 7) (N := some 56) (v := ?_) (a' := ?_) (zl 22 255) rfl rfl (any_of HT_.out (by kernel_rfl)) (fun _ _ _ h => h) (Or.inl ⟨by rfl, ?_⟩) ?_ ?_
     rotate_left
     ·intro w'
      go_simp
      with_reducible rfl
     rotate_left
     ·simp only [Act.put, List.setIfInBounds_toArray, List.set_cons_zero, List.set_cons_succ, i64_w, i32_w]
      rfl
     refine pure_ (i := 8) (N := some 57) (v := ?_) (a' := ?_) (zl 22 511) rfl rfl (any_of HT_.out (by kernel_rfl)) (fun _ _ _ h => h) (Or.inl ⟨by rfl, ?_⟩) ?_ ?_
     rotate_left
     ·intro w'
      go_simp
      with_reducible rfl
     rotate_left
     ·simp only [Act.put, List.setIfInBounds_toArray, List.set_cons_zero, List.set_cons_succ, i64_w, i32_w]
      rfl
     refine pure_ (i := 9) (N := some 58) (v := undef) (a' := ?_) (zl 22 1023) rfl rfl (any_of HT_.out (by kernel_rfl)) (fun _ _ _ h => h) (Or.inr ⟨by rfl, rfl⟩) ?_ ?_
     rotate_left
     ·simp only [Act.put, List.setIfInBounds_toArray, List.set_cons_zero, List.set_cons_succ, i64_w, i32_w]
      rfl
     refine pure_ (i := 10) (N := some 59) (v := undef) (a' := ?_) (zl 22 2047) rfl rfl (any_of HT_.out (by kernel_rfl)) (fun _ _ _ h => h) (Or.inr ⟨by rfl, rfl⟩) ?_ ?_
     rotate_left
     ·simp only [Act.put, List.setIfInBounds_toArray, List.set_cons_zero, List.set_cons_succ, i64_w, i32_w]
      rfl
     refine pure_ (i := 11) (N := some 60) (v := undef) (a' := ?_) (zl 22 4095) rfl rfl (any_of HT_.out (by kernel_rfl)) (fun _ _ _ h => h) (Or.inr ⟨by rfl, rfl⟩) ?_ ?_
     rotate_left
     ·simp only [Act.put, List.setIfInBounds_toArray, List.set_cons_zero, List.set_cons_succ, i64_w, i32_w]
      rfl
     refine pure_ (i := 12) (N := some 61) (v := undef) (a' := ?_) (zl 22 8191) rfl rfl (any_of HT_.out (by kernel_rfl)) (fun _ _ _ h => h) (Or.inr ⟨by rfl, rfl⟩) ?_ ?_
     rotate_left
     ·simp only [Act.put, List.setIfInBounds_toArray, List.set_cons_zero, List.set_cons_succ, i64_w, i32_w]
      rfl
     refine pure_ (i := 13) (N := some 62) (v := undef) (a' := ?_) (zl 22 16383) rfl rfl (any_of HT_.out (by kernel_rfl)) (fun _ _ _ h => h) (Or.inr ⟨by rfl, rfl⟩) ?_ ?_
     rotate_left
     ·simp only [Act.put, List.setIfInBounds_toArray, List.set_cons_zero, List.set_cons_succ, i64_w, i32_w]
      rfl
     refine pure_ (i := 14) (N := some 63) (v := undef) (a' := ?_) (zl 22 32767) rfl rfl (any_of HT_.out (by kernel_rfl)) (fun _ _ _ h => h) (Or.inr ⟨by rfl, rfl⟩) ?_ ?_
     rotate_left
     ·simp only [Act.put, List.setIfInBounds_toArray, List.set_cons_zero, List.set_cons_succ, i64_w, i32_w]
      rfl
     refine pure_ (i := 15) (N := some 64) (v := undef) (a' := ?_) (zl 22 65535) rfl rfl (any_of HT_.out (by kernel_rfl)) (fun _ _ _ h => h) (Or.inr ⟨by rfl, rfl⟩) ?_ ?_
     rotate_left
     ·simp only [Act.put, List.setIfInBounds_toArray, List.set_cons_zero, List.set_cons_succ, i64_w, i32_w]
      rfl
     refine pure_ (i := 16) (N := some 65) (v := undef) (a' := ?_) (zl 22 131071) rfl rfl (any_of HT_.out (by kernel_rfl)) (fun _ _ _ h => h) (Or.inr ⟨by rfl, rfl⟩) ?_ ?_
     rotate_left
     ·simp only [Act.put, List.setIfInBounds_toArray, List.set_cons_zero, List.set_cons_succ, i64_w, i32_w]
      rfl
     refine pure_ (i := 17) (N := some 66) (v := undef) (a' := ?_) (zl 22 262143) rfl rfl (any_of HT_.out (by kernel_rfl)) (fun _ _ _ h => h) (Or.inr ⟨by rfl, rfl⟩) ?_ ?_
     rotate_left
     ·simp only [Act.put, List.setIfInBounds_toArray, List.set_cons_zero, List.set_cons_succ, i64_w, i32_w]
      rfl
     refine pure_ (i := 18) (N := some 67) (v := undef) (a' := ?_) (zl 22 524287) rfl rfl (any_of HT_.out (by kernel_rfl)) (fun _ _ _ h => h) (Or.inr ⟨by rfl, rfl⟩) ?_ ?_
     rotate_left
     ·simp only [Act.put, List.setIfInBounds_toArray, List.set_cons_zero, List.set_cons_succ, i64_w, i32_w]
      rfl
     refine pure_ (i := 19) (N := some 68) (v := undef) (a' := ?_) (zl 22 1048575) rfl rfl (any_of HT_.out (by kernel_rfl)) (fun _ _ _ h => h) (Or.inr ⟨by rfl, rfl⟩) ?_ ?_
     rotate_left
     ·simp only [Act.put, List.setIfInBounds_toArray, List.set_cons_zero, List.set_cons_succ, i64_w, i32_w]
      rfl
     refine pure_ (i := 20) (N := some 69) (v := ?_) (a' := ?_) (zl 22 2097151) rfl rfl (any_of HT_.out (by kernel_rfl)) (fun _ _ _ h => h) (Or.inl ⟨by rfl, ?_⟩) ?_ ?_
     rotate_left
     ·intro w'
      go_simp
      with_reducible rfl
     rotate_left
     ·simp only [Act.put, List.setIfInBounds_toArray, List.set_cons_zero, List.set_cons_succ, i64_w, i32_w]
      rfl
     refine pure_ (i := 21) (N := some 2) (v := ?_) (a' := ?_) (zl 22 4194303) rfl rfl (any_of HT_.out (by kernel_rfl)) (fun _ _ _ h => h) (Or.inl ⟨by rfl, ?_⟩) ?_ ?_
     rotate_left
     ·intro w'
      go_simp
      with_reducible rfl
     rotate_left
     ·simp only [Act.put, List.setIfInBounds_toArray, List.set_cons_zero, List.set_cons_succ, i64_w, i32_w]
      rfl
     refine done_ (done_of HT_.out (by kernel_rfl)) ?_
     try go_wp2
     go_ret
     exact ⟨by first | rfl | (simp [errW_none, errW_some] <;> rfl) | (simp [*, errW_none, errW_some] <;> rfl), zHB⟩
    rw [if_neg c41] at H
    have c41b0 : ((t101.length : Int) == 40) = false := beq_eq_false_iff_ne.mpr c41
    have c41b1 : ((t101.length : Int) != 40) = true := bne_iff_ne.mpr c41
    obtain ⟨y123, hy123⟩ : ∃ y_ : List (S26), y_ = (([] : List (S26))) := ⟨_, rfl⟩
    replace H : (if y123.length + t101.length < 8796093022208 then ((some (y123 ++ t101 : List (S26))).bind fun y126 => (if 0 < (t101.length : Int) then ((some (([(⟨(rd_T26 t101 0).f0, (rd_T26 t101 0).f1⟩ : S26)] : List (S26)) : List (S26))).bind fun y130 => (if y126.length + y130.length < 8796093022208 then ((impl_NetCover.f (y126 ++ y130)).bind fun t136 => ((laws_wnSame.f kj9 t136 t104).bind fun t139 => (some t139))) else (none))) else (none))) else (none)) = some r := by first | (rw [hy123]; with_reducible exact H) | (have H2_ := (Option.bind_some _ _).symm.trans H; rw [hy123]; with_reducible exact H2_) | (have H2_ := (Option.bind_some _ _).symm.trans H; with_reducible exact H2_) | with_reducible exact H | (rw [hy123]; exact H) | exact H
    have Ny123 := zA hy123
    clear hy123
    by_cases c43 : y123.length + t101.length < 8796093022208
    ·rw [if_pos c43] at H
     have LMc43 := zA c43
     clear c43
     obtain ⟨y126, hy126⟩ : ∃ y_ : List (S26), y_ = (y123 ++ t101) := ⟨_, rfl⟩
     replace H : (if 0 < (t101.length : Int) then ((some (([(⟨(rd_T26 t101 0).f0, (rd_T26 t101 0).f1⟩ : S26)] : List (S26)) : List (S26))).bind fun y130 => (if y126.length + y130.length < 8796093022208 then ((impl_NetCover.f (y126 ++ y130)).bind fun t136 => ((laws_wnSame.f kj9 t136 t104).bind fun t139 => (some t139))) else (none))) else (none)) = some r := by first | (rw [hy126]; with_reducible exact H) | (have H2_ := (Option.bind_some _ _).symm.trans H; rw [hy126]; with_reducible exact H2_) | (have H2_ := (Option.bind_some _ _).symm.trans H; with_reducible exact H2_) | with_reducible exact H | (rw [hy126]; exact H) | exact H
     have Ny126 := zA hy126
     clear hy126
     by_cases c44 : 0 < (t101.length : Int)
     ·rw [if_pos c44] at H
      have c44b0 : decide (0 < (t101.length : Int)) = true := decide_eq_true c44
      have c44b1 : decide (0 < t101.length) = true := decide_eq_true (by omega)
      clear c44
      obtain ⟨y130, hy130⟩ : ∃ y_ : List (S26), y_ = (([(⟨(rd_T26 t101 0).f0, (rd_T26 t101 0).f1⟩ : S26)] : List (S26))) := ⟨_, rfl⟩
      replace H : (if y126.length + y130.length < 8796093022208 then ((impl_NetCover.f (y126 ++ y130)).bind fun t136 => ((laws_wnSame.f kj9 t136 t104).bind fun t139 => (some t139))) else (none)) = some r := by first | (rw [hy130]; with_reducible exact H) | (have H2_ := (Option.bind_some _ _).symm.trans H; rw [hy130]; with_reducible exact H2_) | (have H2_ := (Option.bind_some _ _).symm.trans H; with_reducible exact H2_) | with_reducible exact H | (rw [hy130]; exact H) | exact H
      have Ny130 := zA hy130
      clear hy130
      by_cases c45 : y126.length + y130.length < 8796093022208
      ·rw [if_pos c45] at H
       have LMc45 := zA c45
       clear c45
       obtain ⟨y133, hy133⟩ : ∃ y_ : List (S26), y_ = (y126 ++ y130) := ⟨_, rfl⟩
       replace H : ((impl_NetCover.f y133).bind fun t136 => ((laws_wnSame.f kj9 t136 t104).bind fun t139 => (some t139))) = some r := by first | (rw [hy133]; with_reducible exact H) | (have H2_ := (Option.bind_some _ _).symm.trans H; rw [hy133]; with_reducible exact H2_) | (have H2_ := (Option.bind_some _ _).symm.trans H; with_reducible exact H2_) | with_reducible exact H | (rw [hy133]; exact H) | exact H
       have Ny133 := zA hy133
       clear hy133
       replace H := Option.bind_eq_some_iff.mp H
       obtain ⟨t136, A460, H⟩ := H
       replace H : ((laws_wnSame.f kj9 t136 t104).bind fun t139 => (some t139)) = some r := H
       have A46 := zA A460
       clear A460
       replace H := Option.bind_eq_some_iff.mp H
       obtain ⟨t139, A470, H⟩ := H
       replace H : (some t139) = some r := H
       have A47 := zA A470
       clear A470
       obtain rfl := Option.some.inj H
       try go_wp2
       have n0_ := zA (Kd.R_drew HO_3.out)
       have n1_ := zA (Kd.R_drew HO_4.out)
       have n2_ := zA (below_drew1 HB.out)
       clear HO_3
       clear HO_4
       clear HB
       have HO_3 := n0_
       have HO_4 := n1_
       have HB := n2_
       clear n0_ n1_ n2_
       have p129 : 0 ≤ (0 : Int) := (by omega)
       have q129 : 0 < (t101.length : Int) := of_decide_eq_true (by first | (with_reducible assumption) | assumption)
       obtain ⟨ad129, e129, hx129_0, hx129_1⟩ := at_T26 (Kd.R_reads' HO_3.out).2.2 0 p129 q129
       cases e129
       have qi129 : (0 < t101.length) = True := eq_true (by omega)
       (try rw [show ((0 : Int)).toNat = 0 from rfl] at hx129_0)
       (try rw [show 0 * 2 = 0 from rfl] at hx129_0)
       (try rw [Addr.add_zero'] at hx129_0)
       (try rw [show ((0 : Int)).toNat = 0 from rfl] at hx129_1)
       (try rw [show 0 * 2 = 0 from rfl] at hx129_1)
       (try rw [Addr.add_zero'] at hx129_1)
       replace p129 := eq_true p129
       replace q129 := eq_true q129
       refine start_ (n := 22) (S := fun w' => w'.cell? ad129 = some (.int .i64 ((rd_T26 t101 0).f0)) ∧ w'.cell? ⟨ad129.block, ad129.off + 1, none⟩ = some (.int .i64 ((rd_T26 t101 0).f1))) (ds := []) (zl 22 0) (by kernel_rfl) rfl rfl ⟨hx129_0, hx129_1⟩ (fun hHeld => ?_); refine with_tabW laws_FnNetCover.tab11 laws_FnNetCover.bits11 (fun HT_ HW_ => ?_)
       generalize wc.drew = w48 at HO_3 HO_4 HB hx129_0 hx129_1 hHeld ⊢
       refine pure_ (i := 0) (N := some 49) (v := ?_) (a' := ?_) (zl 22 1) rfl rfl (any_of HT_.out (by kernel_rfl)) (fun _ _ _ h => h) (Or.inl ⟨by rfl, ?_⟩) ?_ ?_
       rotate_left
       ·intro w'
        go_simp
        with_reducible rfl
       rotate_left
       ·simp only [Act.put, List.setIfInBounds_toArray, List.set_cons_zero, List.set_cons_succ, i64_w, i32_w]
        rfl
       refine pure_ (i := 1) (N := some 50) (v := ?_) (a' := ?_) (zl 22 3) rfl rfl (any_of HT_.out (by kernel_rfl)) (fun _ _ _ h => h) (Or.inl ⟨by rfl, ?_⟩) ?_ ?_
       rotate_left
       ·intro w'
        go_simp
        with_reducible rfl
       rotate_left
       ·simp only [Act.put, List.setIfInBounds_toArray, List.set_cons_zero, List.set_cons_succ, i64_w, i32_w]
        rfl
       refine pure_ (i := 2) (N := some 51) (v := ?_) (a' := ?_) (zl 22 7) rfl rfl (any_of HT_.out (by kernel_rfl)) (fun _ _ _ h => h) (Or.inl ⟨by rfl, ?_⟩) ?_ ?_
       rotate_left
       ·intro w'
        go_simp
        with_reducible rfl
       rotate_left
       ·simp only [Act.put, List.setIfInBounds_toArray, List.set_cons_zero, List.set_cons_succ, i64_w, i32_w]
        rfl
       refine pure_ (i := 3) (N := some 52) (v := ?_) (a' := ?_) (zl 22 15) rfl rfl (any_of HT_.out (by kernel_rfl)) (fun _ _ _ h => h) (Or.inl ⟨by rfl, ?_⟩) ?_ ?_
       rotate_left
       ·intro w'
        go_simp
        with_reducible rfl
       rotate_left
       ·simp only [Act.put, List.setIfInBounds_toArray, List.set_cons_zero, List.set_cons_succ, i64_w, i32_w]
        rfl
       refine pure_ (i := 4) (N := some 53) (v := ?_) (a' := ?_) (zl 22 31) rfl rfl (any_of HT_.out (by kernel_rfl)) (fun _ _ _ h => h) (Or.inl ⟨by rfl, ?_⟩) ?_ ?_
       rotate_left
       ·intro w'
        go_simp
        with_reducible rfl
       rotate_left
       ·simp only [Act.put, List.setIfInBounds_toArray, List.set_cons_zero, List.set_cons_succ, i64_w, i32_w]
        rfl
       refine pure_ (i := 5) (N := some 54) (v := ?_) (a' := ?_) (zl 22 63) rfl rfl (any_of HT_.out (by kernel_rfl)) (fun _ _ _ h => h) (Or.inl ⟨by rfl, ?_⟩) ?_ ?_
       rotate_left
       ·intro w'
        go_simp
        with_reducible rfl
       rotate_left
       ·simp only [Act.put, List.setIfInBounds_toArray, List.set_cons_zero, List.set_cons_succ, i64_w, i32_w]
        rfl
       refine pure_ (i := 6) (N := some 55) (v := ?_) (a' := ?_) (zl 22 127) rfl rfl (any_of HT_.out (by kernel_rfl)) (fun _ _ _ h => h) (Or.inl ⟨by rfl, ?_⟩) ?_ ?_
       rotate_left
       ·intro w'
        go_simp
        with_reducible rfl
       rotate_left
       ·simp only [Act.put, List.setIfInBounds_toArray, List.set_cons_zero, List.set_cons_succ, i64_w, i32_w]
        rfl
       refine pure_ (i := 7) (N := some 56) (v := ?_) (a' := ?_) (zl 22 255) rfl rfl (any_of HT_.out (by kernel_rfl)) (fun _ _ _ h => h) (Or.inl ⟨by rfl, ?_⟩) ?_ ?_
       rotate_left
       ·intro w'
        go_simp
        with_reducible rfl
       rotate_left
       ·simp only [Act.put, List.setIfInBounds_toArray, List.set_cons_zero, List.set_cons_succ, i64_w, i32_w]
        rfl
       refine pure_ (i := 8) (N := some 57) (v := ?_) (a' := ?_) (zl 22 511) rfl rfl (any_of HT_.out (by kernel_rfl)) (fun _ _ _ h => h) (Or.inl ⟨by rfl, ?_⟩) ?_ ?_
       rotate_left
       ·intro w'
        go_simp
        with_reducible rfl
       rotate_left
       ·simp only [Act.put, List.setIfInBounds_toArray, List.set_cons_zero, List.set_cons_succ, i64_w, i32_w]
        rfl
       refine pure_ (i := 10) (N := some 59) (v := ?_) (a' := ?_) (zl 22 1535) rfl rfl (any_of HT_.out (by kernel_rfl)) (fun _ _ _ h => h) (Or.inl ⟨by rfl, ?_⟩) ?_ ?_
       rotate_left
       ·intro w'
        go_simp
        with_reducible rfl
       rotate_left
       ·simp only [Act.put, List.setIfInBounds_toArray, List.set_cons_zero, List.set_cons_succ, i64_w, i32_w]
        rfl
       refine pure_ (i := 12) (N := some 61) (v := ?_) (a' := ?_) (zl 22 5631) rfl rfl (any_of HT_.out (by kernel_rfl)) (fun _ _ _ h => h) (Or.inl ⟨by rfl, ?_⟩) ?_ ?_
       rotate_left
       ·intro w'
        go_simp
        with_reducible rfl
       rotate_left
       ·simp only [Act.put, List.setIfInBounds_toArray, List.set_cons_zero, List.set_cons_succ, i64_w, i32_w]
        rfl
       refine pure_ (i := 13) (N := some 62) (v := ?_) (a' := ?_) (zl 22 13823) rfl rfl (any_of HT_.out (by kernel_rfl)) (fun _ _ _ h => h) (Or.inl ⟨by rfl, ?_⟩) ?_ ?_
       rotate_left
       ·intro w'
        go_simp
        with_reducible rfl
       rotate_left
       ·simp only [Act.put, List.setIfInBounds_toArray, List.set_cons_zero, List.set_cons_succ, i64_w, i32_w]
        rfl
       refine pure_ (i := 18) (N := some 67) (v := ?_) (a' := ?_) (zl 22 275967) rfl rfl (any_of HT_.out (by kernel_rfl)) (fun _ _ _ h => h) (Or.inl ⟨by rfl, ?_⟩) ?_ ?_
       rotate_left
       ·intro w'
        go_simp
        with_reducible rfl
       rotate_left
       ·simp only [Act.put, List.setIfInBounds_toArray, List.set_cons_zero, List.set_cons_succ, i64_w, i32_w]
        rfl
       refine take_ (i := 14) (N := some 63) (v := ?_) (a' := ?_) (zl 22 292351) rfl rfl (take_ofW HT_.out HW_.out (by kernel_rfl)) (fun _ _ _ h => h) (Or.inl ⟨by rfl, ?_⟩) hHeld ?_ ?_
       rotate_left
       ·rintro w' ⟨s0, s1⟩
        go_simp
        with_reducible rfl
       rotate_left
       ·simp only [Act.put, List.setIfInBounds_toArray, List.set_cons_zero, List.set_cons_succ, i64_w, i32_w]
        rfl
       refine join_ (σ := Value × Value × Value) 5 (zl 22 327679) (fun s_ => [(58, s_.1), (60, s_.2.1), (64, s_.2.2)]) (fun s_ w' => (w'.cell? ad129 = some (.int .i64 ((rd_T26 t101 0).f0)) ∧ w'.cell? ⟨ad129.block, ad129.off + 1, none⟩ = some (.int .i64 ((rd_T26 t101 0).f1))) ∧ (Kd.R k26 26 w' w.heap.size (fun k_ => some k_ ≠ (s_.2.2 : Value).ownBlock ∧ some k_ ≠ (.slice (some ad129) t101.length co12 : Value).ownBlock ∧ some k_ ≠ (.slice Ao15 t104.length co15 : Value).ownBlock) s_.2.1 y126) ∧ (Kd.R k26 26 w' w.heap.size (fun k_ => some k_ ≠ (s_.2.1 : Value).ownBlock ∧ some k_ ≠ (.slice (some ad129) t101.length co12 : Value).ownBlock ∧ some k_ ≠ (.slice Ao15 t104.length co15 : Value).ownBlock) s_.2.2 y130) ∧ (Kd.R k26 26 w' w.heap.size (fun k_ => some k_ ≠ (s_.2.1 : Value).ownBlock ∧ some k_ ≠ (s_.2.2 : Value).ownBlock ∧ some k_ ≠ (.slice Ao15 t104.length co15 : Value).ownBlock) (.slice (some ad129) t101.length co12) t101) ∧ (Kd.R k26 26 w' w.heap.size (fun k_ => some k_ ≠ (s_.2.1 : Value).ownBlock ∧ some k_ ≠ (s_.2.2 : Value).ownBlock ∧ some k_ ≠ (.slice (some ad129) t101.length co12 : Value).ownBlock) (.slice Ao15 t104.length co15) t104) ∧ (Below w.heap.size w w')) ?_ ?_
       rotate_left
       ·intro hCont
        refine two_ (i := 9) (j := 15) (Ni := some 58) (Nj := some 64) (zl 22 292863) (zl 22 325119) rfl rfl rfl rfl (two_of HT_.out (by kernel_rfl)) (by decide) (by decide) (fun K hK => ?_) (fun K hK => ?_)
        ·skip
         refine Kd.R_lit_step k26 _ 26 ?hg (N := 58) ?hd (xs := ([] : List (S26))) (inner := []) (ok := fun _ => True) (okp := fun _ => True) ?hr ?hp (fun _ hk => hk) trivial (Below.refl _ _) (Nat.le_refl _) (by simp) ?_; (case hd => rfl); (case hg => rfl); (case hr => first | (go_simp; done) | (go_simp; rfl)); (case hp => exact (Reps.none _ _))
         intro v124 w49 ho50 hb hg_ hnew_
         have HS0_ := (hb.cell (World.block_lt_of_cell? _ _ (hHeld.1))).trans (hHeld.1)
         have HS1_ := (hb.cell (World.block_lt_of_cell? _ _ (hHeld.2))).trans (hHeld.2)
         clear hg_ hnew_
         (first | rw [← Ny123.out] at ho50 | (simp only [Int.reduceToNat] at ho50; rw [← Ny123.out] at ho50))
         have n0_ := zA (Kd.R_elder' (zr HO_3.out) (Kd.R_base ho50) hb)
         have n1_ := zA (Kd.R_elder' (zr HO_4.out) (Kd.R_base ho50) hb)
         have n2_ := zA (Kd.R_lower (Kd.R_new' (Kd.R_new' ho50 (Kd.R_lt (zr HO_3.out))) (Kd.R_lt (zr HO_4.out))) (below_size (zHB)))
         have n3_ := zA (below_step (zHB) hb)
         clear HO_3
         clear HO_4
         clear HB
         have HO_3 := n0_
         have HO_4 := n1_
         have HO125 := n2_
         have HB := n3_
         clear n0_ n1_ n2_ n3_
         clear hb ho50
         refine hK.out _ _ ⟨HS0_, HS1_⟩ (fun hHeld => ?_)
         clear hK K
         refine norm_ (a' := ?_) ?_ ?_
         rotate_left
         ·show Act.put _ (some 58) _ = _
          simp only [Act.put, List.setIfInBounds_toArray, List.set_cons_zero, List.set_cons_succ, i64_w, i32_w]
          rfl
         refine two_ (i := 11) (j := 15) (Ni := some 60) (Nj := some 64) (zl 22 294911) (zl 22 325631) rfl rfl rfl rfl (two_of HT_.out (by kernel_rfl)) (by decide) (by decide) (fun K hK => ?_) (fun K hK => ?_)
         ·skip
          refine Kd.R_append_rows_step k26 (w0 := w) w.heap.size (by rfl) (.tmp 58) (.tmp 59) 58 26 (.agg #[(.int .i64 0), (.int .i64 0)]) 16 rfl Try.underlying58 info26 rfl (by decide) (by omega) v124 y123 t101 _ _ _ (fun k_ => some k_ ≠ (.slice (some ad129) t101.length co12 : Value).ownBlock ∧ some k_ ≠ (.slice Ao15 t104.length co15 : Value).ownBlock) (fun _ => False) rfl rfl ?aO ?aR (fun _ _ h => h) (fun _ h => h.elim) ?aF ?aB ?aS ?aL ?_
          (case aR => repeat (first | exact (Kd.R_reads' HO_3.out).2.2 | (with_reducible refine Kd.C_alloc ?_ _) | (with_reducible refine Kd.C_drewN ?_ _) | (with_reducible refine Kd.C_drew ?_)))
          (case aB => exact (zHB))
          (case aF => exact (fun k_ hk => ⟨Kd.fresh' (Kd.R_lt (zr HO_3.out)) k_ hk, Kd.fresh' (Kd.R_lt (zr HO_4.out)) k_ hk⟩))
          (case aO => exact (by refine zk ?_; exact Kd.R_mono HO125.out (fun _ hk => ⟨hk.1.2, hk.2⟩)))
          (case aS => exact (below_size (zHB)))
          (case aL => have := LMc43.out; omega)
          intro v127 w51 ho hb hg hat
          have HS0_ := cell_grown hg (hHeld.1) y1 
          have HS1_ := cell_grown hg (hHeld.2) y1 
          rw [← Ny126.out] at ho
          have n0_ := zA (Kd.R_after (ok := (fun k_ => some k_ ≠ (.slice Ao15 t104.length co15 : Value).ownBlock)) (zr HO_3.out) hg hat)
          have n1_ := zA (Kd.R_after (ok := (fun k_ => some k_ ≠ (.slice (some ad129) t101.length co12 : Value).ownBlock)) (zr HO_4.out) hg hat)
          have n2_ := zA (hb)
          have n3_ := zA (ho)
          clear HO_3
          clear HO_4
          clear HB
          clear HO125
          have HO_3 := n0_
          have HO_4 := n1_
          have HB := n2_
          have HO128 := n3_
          clear n0_ n1_ n2_ n3_
          clear ho hb hg hat
          refine hK.out _ _ ⟨HS0_, HS1_⟩ (fun hHeld => ?_)
          clear hK K
          refine norm_ (a' := ?_) ?_ ?_
          rotate_left
          ·show Act.put _ (some 60) _ = _
           simp only [Act.put, List.setIfInBounds_toArray, List.set_cons_zero, List.set_cons_succ, i64_w, i32_w]
           rfl
          refine one_ (i := 15) (N := some 64) (zl 22 327679) rfl rfl (one_of HT_.out (by kernel_rfl)) (by decide) (fun K hK => ?_)
          refine Kd.R_lit_step k26 _ 26 ?hg (N := 64) ?hd (xs := ([(⟨(rd_T26 t101 0).f0, (rd_T26 t101 0).f1⟩ : S26)] : List (S26))) (inner := [.int .i64 ((rd_T26 t101 0).f0), .int .i64 ((rd_T26 t101 0).f1)]) (ok := fun _ => True) (okp := fun _ => True) ?hr ?hp (fun _ hk => hk) trivial (Below.refl _ _) (Nat.le_refl _) (by simp) ?_; (case hd => rfl); (case hg => rfl); (case hr => first | (go_simp; done) | (go_simp; rfl)); (case hp => exact (Reps.c2 (show Kd.M k26 _ _ _ (⟨(rd_T26 t101 0).f0, (rd_T26 t101 0).f1⟩ : S26) [.int .i64 ((rd_T26 t101 0).f0), .int .i64 ((rd_T26 t101 0).f1)] from (k26_mkM _ _ _ (⟨(rd_T26 t101 0).f0, (rd_T26 t101 0).f1⟩ : S26) )) (Reps.none _ _)))
          intro v131 w52 ho53 hb hg_ hnew_
          have HS0_ := (hb.cell (World.block_lt_of_cell? _ _ (hHeld.1))).trans (hHeld.1)
          have HS1_ := (hb.cell (World.block_lt_of_cell? _ _ (hHeld.2))).trans (hHeld.2)
          clear hg_ hnew_
          (first | rw [← Ny130.out] at ho53 | (simp only [Int.reduceToNat] at ho53; rw [← Ny130.out] at ho53))
          have n0_ := zA (Kd.R_elder' (zr HO_3.out) (Kd.R_base ho53) hb)
          have n1_ := zA (Kd.R_elder' (zr HO_4.out) (Kd.R_base ho53) hb)
          have n2_ := zA (Kd.R_elder' (zr HO128.out) (Kd.R_base ho53) hb)
          have n3_ := zA (Kd.R_lower (Kd.R_new' (Kd.R_new' (Kd.R_new' ho53 (Kd.R_lt (zr HO_3.out))) (Kd.R_lt (zr HO_4.out))) (Kd.R_lt (zr HO128.out))) (below_size (zHB)))
          have n4_ := zA (below_step (zHB) hb)
          clear HO_3
          clear HO_4
          clear HO128
          clear HB
          have HO_3 := n0_
          have HO_4 := n1_
          have HO128 := n2_
          have HO132 := n3_
          have HB := n4_
          clear n0_ n1_ n2_ n3_ n4_
          clear hb ho53
          refine hK.out _ _ ⟨HS0_, HS1_⟩ (fun hHeld => ?_)
          clear hK K
          refine norm_ (a' := ?_) ?_ ?_
          rotate_left
          ·show Act.put _ (some 64) _ = _
           simp only [Act.put, List.setIfInBounds_toArray, List.set_cons_zero, List.set_cons_succ, i64_w, i32_w]
           rfl
          exact norm_ y3  (hCont (v124, v127, v131) _ ⟨hHeld, (by refine zk ?_; exact Kd.R_mono HO128.out (fun _ hk => ⟨hk.2, ⟨hk.1.1, hk.1.2⟩⟩)), (by refine zk ?_; exact Kd.R_mono HO132.out (fun _ hk => ⟨hk.2, ⟨hk.1.1.2, hk.1.2⟩⟩)), (by refine zk ?_; exact Kd.R_mono HO_3.out (fun _ hk => ⟨hk.1.2, ⟨hk.2, hk.1.1⟩⟩)), (by refine zk ?_; exact Kd.R_mono HO_4.out (fun _ hk => ⟨hk.1.2, ⟨hk.2, hk.1.1⟩⟩)), (zHB)⟩)
         skip
         refine Kd.R_lit_step k26 _ 26 ?hg (N := 64) ?hd (xs := ([(⟨(rd_T26 t101 0).f0, (rd_T26 t101 0).f1⟩ : S26)] : List (S26))) (inner := [.int .i64 ((rd_T26 t101 0).f0), .int .i64 ((rd_T26 t101 0).f1)]) (ok := fun _ => True) (okp := fun _ => True) ?hr ?hp (fun _ hk => hk) trivial (Below.refl _ _) (Nat.le_refl _) (by simp) ?_; (case hd => rfl); (case hg => rfl); (case hr => first | (go_simp; done) | (go_simp; rfl)); (case hp => exact (Reps.c2 (show Kd.M k26 _ _ _ (⟨(rd_T26 t101 0).f0, (rd_T26 t101 0).f1⟩ : S26) [.int .i64 ((rd_T26 t101 0).f0), .int .i64 ((rd_T26 t101 0).f1)] from (k26_mkM _ _ _ (⟨(rd_T26 t101 0).f0, (rd_T26 t101 0).f1⟩ : S26) )) (Reps.none _ _)))
         intro v131 w51 ho52 hb hg_ hnew_
         have HS0_ := (hb.cell (World.block_lt_of_cell? _ _ (hHeld.1))).trans (hHeld.1)
         have HS1_ := (hb.cell (World.block_lt_of_cell? _ _ (hHeld.2))).trans (hHeld.2)
         clear hg_ hnew_
         (first | rw [← Ny130.out] at ho52 | (simp only [Int.reduceToNat] at ho52; rw [← Ny130.out] at ho52))
         have n0_ := zA (Kd.R_elder' (zr HO_3.out) (Kd.R_base ho52) hb)
         have n1_ := zA (Kd.R_elder' (zr HO_4.out) (Kd.R_base ho52) hb)
         have n2_ := zA (Kd.R_elder' (zr HO125.out) (Kd.R_base ho52) hb)
         have n3_ := zA (Kd.R_lower (Kd.R_new' (Kd.R_new' (Kd.R_new' ho52 (Kd.R_lt (zr HO_3.out))) (Kd.R_lt (zr HO_4.out))) (Kd.R_lt (zr HO125.out))) (below_size (zHB)))
         have n4_ := zA (below_step (zHB) hb)
         clear HO_3
         clear HO_4
         clear HO125
         clear HB
         have HO_3 := n0_
         have HO_4 := n1_
         have HO125 := n2_
         have HO132 := n3_
         have HB := n4_
         clear n0_ n1_ n2_ n3_ n4_
         clear hb ho52
         refine hK.out _ _ ⟨HS0_, HS1_⟩ (fun hHeld => ?_)
         clear hK K
         refine norm_ (a' := ?_) ?_ ?_
         rotate_left
         ·show Act.put _ (some 64) _ = _
          simp only [Act.put, List.setIfInBounds_toArray, List.set_cons_zero, List.set_cons_succ, i64_w, i32_w]
          rfl
         refine one_ (i := 11) (N := some 60) (zl 22 327679) rfl rfl (one_of HT_.out (by kernel_rfl)) (by decide) (fun K hK => ?_)
         refine Kd.R_append_rows_step k26 (w0 := w) w.heap.size (by rfl) (.tmp 58) (.tmp 59) 58 26 (.agg #[(.int .i64 0), (.int .i64 0)]) 16 rfl Try.underlying58 info26 rfl (by decide) (by omega) v124 y123 t101 _ _ _ (fun k_ => some k_ ≠ (.slice (some ad129) t101.length co12 : Value).ownBlock ∧ some k_ ≠ (.slice Ao15 t104.length co15 : Value).ownBlock ∧ some k_ ≠ (v131 : Value).ownBlock) (fun _ => False) rfl rfl ?aO ?aR (fun _ _ h => h) (fun _ h => h.elim) ?aF ?aB ?aS ?aL ?_
         (case aR => repeat (first | exact (Kd.R_reads' HO_3.out).2.2 | (with_reducible refine Kd.C_alloc ?_ _) | (with_reducible refine Kd.C_drewN ?_ _) | (with_reducible refine Kd.C_drew ?_)))
         (case aB => exact (zHB))
         (case aF => exact (fun k_ hk => ⟨Kd.fresh' (Kd.R_lt (zr HO_3.out)) k_ hk, Kd.fresh' (Kd.R_lt (zr HO_4.out)) k_ hk, Kd.fresh' (Kd.R_lt (zr HO132.out)) k_ hk⟩))
         (case aO => exact (by refine zk ?_; exact Kd.R_mono HO125.out (fun _ hk => ⟨hk.1.1.2, ⟨hk.1.2, hk.2⟩⟩)))
         (case aS => exact (below_size (zHB)))
         (case aL => have := LMc43.out; omega)
         intro v127 w53 ho hb hg hat
         have HS0_ := cell_grown hg (hHeld.1) y1 
         have HS1_ := cell_grown hg (hHeld.2) y1 
         rw [← Ny126.out] at ho
         have n0_ := zA (Kd.R_after (ok := (fun k_ => some k_ ≠ (.slice Ao15 t104.length co15 : Value).ownBlock ∧ some k_ ≠ (v131 : Value).ownBlock)) (by refine zk ?_; exact Kd.R_mono HO_3.out (fun _ hk => ⟨⟨hk.1.1, hk.2⟩, hk.1.2⟩)) hg hat)
         have n1_ := zA (Kd.R_after (ok := (fun k_ => some k_ ≠ (.slice (some ad129) t101.length co12 : Value).ownBlock ∧ some k_ ≠ (v131 : Value).ownBlock)) (by refine zk ?_; exact Kd.R_mono HO_4.out (fun _ hk => ⟨⟨hk.1.1, hk.2⟩, hk.1.2⟩)) hg hat)
         have n2_ := zA (Kd.R_after (ok := (fun k_ => some k_ ≠ (.slice (some ad129) t101.length co12 : Value).ownBlock ∧ some k_ ≠ (.slice Ao15 t104.length co15 : Value).ownBlock)) (by refine zk ?_; exact Kd.R_mono HO132.out (fun _ hk => ⟨⟨hk.1.1.2, hk.1.2⟩, hk.2⟩)) hg hat)
         have n3_ := zA (hb)
         have n4_ := zA (ho)
         clear HO_3
         clear HO_4
         clear HO132
         clear HB
         clear HO125
         have HO_3 := n0_
         have HO_4 := n1_
         have HO132 := n2_
         have HB := n3_
         have HO128 := n4_
         clear n0_ n1_ n2_ n3_ n4_
         clear ho hb hg hat
         refine hK.out _ _ ⟨HS0_, HS1_⟩ (fun hHeld => ?_)
         clear hK K
         refine norm_ (a' := ?_) ?_ ?_
         rotate_left
         ·show Act.put _ (some 60) _ = _
          simp only [Act.put, List.setIfInBounds_toArray, List.set_cons_zero, List.set_cons_succ, i64_w, i32_w]
          rfl
         exact norm_ y3  (hCont (v124, v127, v131) _ ⟨hHeld, (by refine zk ?_; exact Kd.R_mono HO128.out (fun _ hk => ⟨hk.2.2, ⟨hk.1, hk.2.1⟩⟩)), (by refine zk ?_; exact Kd.R_mono HO132.out (fun _ hk => ⟨hk.2, ⟨hk.1.1, hk.1.2⟩⟩)), (by refine zk ?_; exact Kd.R_mono HO_3.out (fun _ hk => ⟨hk.2, ⟨hk.1.2, hk.1.1⟩⟩)), (by refine zk ?_; exact Kd.R_mono HO_4.out (fun _ hk => ⟨hk.2, ⟨hk.1.2, hk.1.1⟩⟩)), (zHB)⟩)
        skip
        refine Kd.R_lit_step k26 _ 26 ?hg (N := 64) ?hd (xs := ([(⟨(rd_T26 t101 0).f0, (rd_T26 t101 0).f1⟩ : S26)] : List (S26))) (inner := [.int .i64 ((rd_T26 t101 0).f0), .int .i64 ((rd_T26 t101 0).f1)]) (ok := fun _ => True) (okp := fun _ => True) ?hr ?hp (fun _ hk => hk) trivial (Below.refl _ _) (Nat.le_refl _) (by simp) ?_; (case hd => rfl); (case hg => rfl); (case hr => first | (go_simp; done) | (go_simp; rfl)); (case hp => exact (Reps.c2 (show Kd.M k26 _ _ _ (⟨(rd_T26 t101 0).f0, (rd_T26 t101 0).f1⟩ : S26) [.int .i64 ((rd_T26 t101 0).f0), .int .i64 ((rd_T26 t101 0).f1)] from (k26_mkM _ _ _ (⟨(rd_T26 t101 0).f0, (rd_T26 t101 0).f1⟩ : S26) )) (Reps.none _ _)))
        intro v131 w49 ho50 hb hg_ hnew_
        have HS0_ := (hb.cell (World.block_lt_of_cell? _ _ (hHeld.1))).trans (hHeld.1)
        have HS1_ := (hb.cell (World.block_lt_of_cell? _ _ (hHeld.2))).trans (hHeld.2)
        clear hg_ hnew_
        (first | rw [← Ny130.out] at ho50 | (simp only [Int.reduceToNat] at ho50; rw [← Ny130.out] at ho50))
        have n0_ := zA (Kd.R_elder' (zr HO_3.out) (Kd.R_base ho50) hb)
        have n1_ := zA (Kd.R_elder' (zr HO_4.out) (Kd.R_base ho50) hb)
        have n2_ := zA (Kd.R_lower (Kd.R_new' (Kd.R_new' ho50 (Kd.R_lt (zr HO_3.out))) (Kd.R_lt (zr HO_4.out))) (below_size (zHB)))
        have n3_ := zA (below_step (zHB) hb)
        clear HO_3
        clear HO_4
        clear HB
        have HO_3 := n0_
        have HO_4 := n1_
        have HO132 := n2_
        have HB := n3_
        clear n0_ n1_ n2_ n3_
        clear hb ho50
        refine hK.out _ _ ⟨HS0_, HS1_⟩ (fun hHeld => ?_)
        clear hK K
        refine norm_ (a' := ?_) ?_ ?_
        rotate_left
        ·show Act.put _ (some 64) _ = _
         simp only [Act.put, List.setIfInBounds_toArray, List.set_cons_zero, List.set_cons_succ, i64_w, i32_w]
         rfl
        refine one_ (i := 9) (N := some 58) (zl 22 325631) rfl rfl (one_of HT_.out (by kernel_rfl)) (by decide) (fun K hK => ?_)
        refine Kd.R_lit_step k26 _ 26 ?hg (N := 58) ?hd (xs := ([] : List (S26))) (inner := []) (ok := fun _ => True) (okp := fun _ => True) ?hr ?hp (fun _ hk => hk) trivial (Below.refl _ _) (Nat.le_refl _) (by simp) ?_; (case hd => rfl); (case hg => rfl); (case hr => first | (go_simp; done) | (go_simp; rfl)); (case hp => exact (Reps.none _ _))
        intro v124 w51 ho52 hb hg_ hnew_
        have HS0_ := (hb.cell (World.block_lt_of_cell? _ _ (hHeld.1))).trans (hHeld.1)
        have HS1_ := (hb.cell (World.block_lt_of_cell? _ _ (hHeld.2))).trans (hHeld.2)
        clear hg_ hnew_
        (first | rw [← Ny123.out] at ho52 | (simp only [Int.reduceToNat] at ho52; rw [← Ny123.out] at ho52))
        have n0_ := zA (Kd.R_elder' (zr HO_3.out) (Kd.R_base ho52) hb)
        have n1_ := zA (Kd.R_elder' (zr HO_4.out) (Kd.R_base ho52) hb)
        have n2_ := zA (Kd.R_elder' (zr HO132.out) (Kd.R_base ho52) hb)
        have n3_ := zA (Kd.R_lower (Kd.R_new' (Kd.R_new' (Kd.R_new' ho52 (Kd.R_lt (zr HO_3.out))) (Kd.R_lt (zr HO_4.out))) (Kd.R_lt (zr HO132.out))) (below_size (zHB)))
        have n4_ := zA (below_step (zHB) hb)
        clear HO_3
        clear HO_4
        clear HO132
        clear HB
        have HO_3 := n0_
        have HO_4 := n1_
        have HO132 := n2_
        have HO125 := n3_
        have HB := n4_
        clear n0_ n1_ n2_ n3_ n4_
        clear hb ho52
        refine hK.out _ _ ⟨HS0_, HS1_⟩ (fun hHeld => ?_)
        clear hK K
        refine norm_ (a' := ?_) ?_ ?_
        rotate_left
        ·show Act.put _ (some 58) _ = _
         simp only [Act.put, List.setIfInBounds_toArray, List.set_cons_zero, List.set_cons_succ, i64_w, i32_w]
         rfl
        refine one_ (i := 11) (N := some 60) (zl 22 327679) rfl rfl (one_of HT_.out (by kernel_rfl)) (by decide) (fun K hK => ?_)
        refine Kd.R_append_rows_step k26 (w0 := w) w.heap.size (by rfl) (.tmp 58) (.tmp 59) 58 26 (.agg #[(.int .i64 0), (.int .i64 0)]) 16 rfl Try.underlying58 info26 rfl (by decide) (by omega) v124 y123 t101 _ _ _ (fun k_ => some k_ ≠ (.slice (some ad129) t101.length co12 : Value).ownBlock ∧ some k_ ≠ (.slice Ao15 t104.length co15 : Value).ownBlock ∧ some k_ ≠ (v131 : Value).ownBlock) (fun _ => False) rfl rfl ?aO ?aR (fun _ _ h => h) (fun _ h => h.elim) ?aF ?aB ?aS ?aL ?_
        (case aR => repeat (first | exact (Kd.R_reads' HO_3.out).2.2 | (with_reducible refine Kd.C_alloc ?_ _) | (with_reducible refine Kd.C_drewN ?_ _) | (with_reducible refine Kd.C_drew ?_)))
        (case aB => exact (zHB))
        (case aF => exact (fun k_ hk => ⟨Kd.fresh' (Kd.R_lt (zr HO_3.out)) k_ hk, Kd.fresh' (Kd.R_lt (zr HO_4.out)) k_ hk, Kd.fresh' (Kd.R_lt (zr HO132.out)) k_ hk⟩))
        (case aO => exact (by refine zk ?_; exact Kd.R_mono HO125.out (fun _ hk => ⟨hk.1.1.2, ⟨hk.1.2, hk.2⟩⟩)))
        (case aS => exact (below_size (zHB)))
        (case aL => have := LMc43.out; omega)
        intro v127 w53 ho hb hg hat
        have HS0_ := cell_grown hg (hHeld.1) y1 
        have HS1_ := cell_grown hg (hHeld.2) y1 
        rw [← Ny126.out] at ho
        have n0_ := zA (Kd.R_after (ok := (fun k_ => some k_ ≠ (.slice Ao15 t104.length co15 : Value).ownBlock ∧ some k_ ≠ (v131 : Value).ownBlock)) (zr HO_3.out) hg hat)
        have n1_ := zA (Kd.R_after (ok := (fun k_ => some k_ ≠ (.slice (some ad129) t101.length co12 : Value).ownBlock ∧ some k_ ≠ (v131 : Value).ownBlock)) (zr HO_4.out) hg hat)
        have n2_ := zA (Kd.R_after (ok := (fun k_ => some k_ ≠ (.slice (some ad129) t101.length co12 : Value).ownBlock ∧ some k_ ≠ (.slice Ao15 t104.length co15 : Value).ownBlock)) (by refine zk ?_; exact Kd.R_mono HO132.out (fun _ hk => ⟨⟨hk.1.1.2, hk.1.2⟩, hk.2⟩)) hg hat)
        have n3_ := zA (hb)
        have n4_ := zA (ho)
        clear HO_3
        clear HO_4
        clear HO132
        clear HB
        clear HO125
        have HO_3 := n0_
        have HO_4 := n1_
        have HO132 := n2_
        have HB := n3_
        have HO128 := n4_
        clear n0_ n1_ n2_ n3_ n4_
        clear ho hb hg hat
        refine hK.out _ _ ⟨HS0_, HS1_⟩ (fun hHeld => ?_)
        clear hK K
        refine norm_ (a' := ?_) ?_ ?_
        rotate_left
        ·show Act.put _ (some 60) _ = _
         simp only [Act.put, List.setIfInBounds_toArray, List.set_cons_zero, List.set_cons_succ, i64_w, i32_w]
         rfl
        exact norm_ y3  (hCont (v124, v127, v131) _ ⟨hHeld, (by refine zk ?_; exact Kd.R_mono HO128.out (fun _ hk => ⟨hk.2.2, ⟨hk.1, hk.2.1⟩⟩)), (by refine zk ?_; exact Kd.R_mono HO132.out (fun _ hk => ⟨hk.2, ⟨hk.1.1, hk.1.2⟩⟩)), (by refine zk ?_; exact Kd.R_mono HO_3.out (fun _ hk => ⟨hk.2, ⟨hk.1.2, hk.1.1⟩⟩)), (by refine zk ?_; exact Kd.R_mono HO_4.out (fun _ hk => ⟨hk.2, ⟨hk.1.2, hk.1.1⟩⟩)), (zHB)⟩)
       rintro ⟨v124, v127, v131⟩ w54 ⟨hS_, h0_, h1_, h2_, h3_, h4_⟩
       have n0_ : Aside0 (Kd.R k26 26 w54 w.heap.size (fun k_ => some k_ ≠ (v131 : Value).ownBlock ∧ some k_ ≠ (.slice (some ad129) t101.length co12 : Value).ownBlock ∧ some k_ ≠ (.slice Ao15 t104.length co15 : Value).ownBlock) v127 y126) := ⟨h0_⟩
       have n1_ : Aside0 (Kd.R k26 26 w54 w.heap.size (fun k_ => some k_ ≠ (v127 : Value).ownBlock ∧ some k_ ≠ (.slice (some ad129) t101.length co12 : Value).ownBlock ∧ some k_ ≠ (.slice Ao15 t104.length co15 : Value).ownBlock) v131 y130) := ⟨h1_⟩
       have n2_ : Aside0 (Kd.R k26 26 w54 w.heap.size (fun k_ => some k_ ≠ (v127 : Value).ownBlock ∧ some k_ ≠ (v131 : Value).ownBlock ∧ some k_ ≠ (.slice Ao15 t104.length co15 : Value).ownBlock) (.slice (some ad129) t101.length co12) t101) := ⟨h2_⟩
       have n3_ : Aside0 (Kd.R k26 26 w54 w.heap.size (fun k_ => some k_ ≠ (v127 : Value).ownBlock ∧ some k_ ≠ (v131 : Value).ownBlock ∧ some k_ ≠ (.slice (some ad129) t101.length co12 : Value).ownBlock) (.slice Ao15 t104.length co15) t104) := ⟨h3_⟩
       have n4_ : Aside0 (Below w.heap.size w w54) := ⟨h4_⟩
       clear HO_3
       clear HO_4
       clear HB
       clear h0_ h1_ h2_ h3_ h4_
       have HO128 := n0_
       have HO132 := n1_
       have HO_3 := n2_
       have HO_4 := n3_
       have HB := n4_
       clear n0_ n1_ n2_ n3_ n4_
       have hHeld : w54.cell? ad129 = some (.int .i64 ((rd_T26 t101 0).f0)) ∧ w54.cell? ⟨ad129.block, ad129.off + 1, none⟩ = some (.int .i64 ((rd_T26 t101 0).f1)) := hS_
       obtain ⟨Ao56, co56, eo56⟩ := Kd.R_slice HO132.out
       (first | subst eo56 | (injection eo56 with f1_ f2_ f3_; have f4_ := f1_.symm; have f5_ := f3_.symm; clear f1_ f2_ f3_; subst f4_; subst f5_))
       refine norm_ (a' := ?_) ?_ ?_
       rotate_left
       ·simp only [putAll, Act.put, List.setIfInBounds_toArray, List.set_cons_zero, List.set_cons_succ]
        rfl
       refine one_ (i := 16) (N := some 65) (zl 22 393215) rfl rfl (one_of HT_.out (by kernel_rfl)) (by decide) (fun K hK => ?_)
       refine Kd.R_append_rows_step k26 (w0 := w) w.heap.size (by rfl) (.tmp 60) (.tmp 64) 58 26 (.agg #[(.int .i64 0), (.int .i64 0)]) 16 rfl Try.underlying58 info26 rfl (by decide) (by omega) v127 y126 y130 _ _ _ (fun k_ => some k_ ≠ (.slice (some ad129) t101.length co12 : Value).ownBlock ∧ some k_ ≠ (.slice Ao15 t104.length co15 : Value).ownBlock ∧ some k_ ≠ (.slice Ao56 y130.length co56 : Value).ownBlock) (fun _ => False) rfl rfl ?aO ?aR (fun _ _ h => h) (fun _ h => h.elim) ?aF ?aB ?aS ?aL ?_
       (case aR => repeat (first | exact (Kd.R_reads' HO132.out).2.2 | (with_reducible refine Kd.C_alloc ?_ _) | (with_reducible refine Kd.C_drewN ?_ _) | (with_reducible refine Kd.C_drew ?_)))
       (case aB => exact (zHB))
       (case aF => exact (fun k_ hk => ⟨Kd.fresh' (Kd.R_lt (zr HO_3.out)) k_ hk, Kd.fresh' (Kd.R_lt (zr HO_4.out)) k_ hk, Kd.fresh' (Kd.R_lt (zr HO132.out)) k_ hk⟩))
       (case aO => exact (by refine zk ?_; exact Kd.R_mono HO128.out (fun _ hk => ⟨hk.2.1, ⟨hk.2.2, hk.1⟩⟩)))
       (case aS => exact (below_size (zHB)))
       (case aL => have := LMc45.out; omega)
       intro v134 w55 ho hb hg hat
       have HS0_ := cell_grown hg (hHeld.1) (by intro e_; have h_ := HO128.out.1 _ e_.symm; first | exact h_ rfl | exact h_.1 rfl | exact h_.2 rfl | exact h_.1.1 rfl | exact h_.1.2 rfl | exact h_.2.1 rfl | exact h_.2.2 rfl | exact h_.1.1.1 rfl | exact h_.1.1.2 rfl | exact h_.1.2.1 rfl | exact h_.1.2.2 rfl | exact h_.2.1.1 rfl | exact h_.2.1.2 rfl | exact h_.2.2.1 rfl | exact h_.2.2.2 rfl | exact h_.1.1.1.1 rfl | exact h_.1.1.1.2 rfl | exact h_.1.1.2.1 rfl | exact h_.1.1.2.2 rfl | exact h_.1.2.1.1 rfl | exact h_.1.2.1.2 rfl | exact h_.1.2.2.1 rfl | exact h_.1.2.2.2 rfl | exact h_.2.1.1.1 rfl | exact h_.2.1.1.2 rfl | exact h_.2.1.2.1 rfl | exact h_.2.1.2.2 rfl | exact h_.2.2.1.1 rfl | exact h_.2.2.1.2 rfl | exact h_.2.2.2.1 rfl | exact h_.2.2.2.2 rfl)
       have HS1_ := cell_grown hg (hHeld.2) (by intro e_; have h_ := HO128.out.1 _ e_.symm; first | exact h_ rfl | exact h_.1 rfl | exact h_.2 rfl | exact h_.1.1 rfl | exact h_.1.2 rfl | exact h_.2.1 rfl | exact h_.2.2 rfl | exact h_.1.1.1 rfl | exact h_.1.1.2 rfl | exact h_.1.2.1 rfl | exact h_.1.2.2 rfl | exact h_.2.1.1 rfl | exact h_.2.1.2 rfl | exact h_.2.2.1 rfl | exact h_.2.2.2 rfl | exact h_.1.1.1.1 rfl | exact h_.1.1.1.2 rfl | exact h_.1.1.2.1 rfl | exact h_.1.1.2.2 rfl | exact h_.1.2.1.1 rfl | exact h_.1.2.1.2 rfl | exact h_.1.2.2.1 rfl | exact h_.1.2.2.2 rfl | exact h_.2.1.1.1 rfl | exact h_.2.1.1.2 rfl | exact h_.2.1.2.1 rfl | exact h_.2.1.2.2 rfl | exact h_.2.2.1.1 rfl | exact h_.2.2.1.2 rfl | exact h_.2.2.2.1 rfl | exact h_.2.2.2.2 rfl)
       rw [← Ny133.out] at ho
       have n0_ := zA (Kd.R_after (ok := (fun k_ => some k_ ≠ (.slice Ao15 t104.length co15 : Value).ownBlock ∧ some k_ ≠ (.slice Ao56 y130.length co56 : Value).ownBlock)) (by refine zk ?_; exact Kd.R_mono HO_3.out (fun _ hk => ⟨⟨hk.2.2, hk.2.1⟩, hk.1⟩)) hg hat)
       have n1_ := zA (Kd.R_after (ok := (fun k_ => some k_ ≠ (.slice (some ad129) t101.length co12 : Value).ownBlock ∧ some k_ ≠ (.slice Ao56 y130.length co56 : Value).ownBlock)) (by refine zk ?_; exact Kd.R_mono HO_4.out (fun _ hk => ⟨⟨hk.2.2, hk.2.1⟩, hk.1⟩)) hg hat)
       have n2_ := zA (Kd.R_after (ok := (fun k_ => some k_ ≠ (.slice (some ad129) t101.length co12 : Value).ownBlock ∧ some k_ ≠ (.slice Ao15 t104.length co15 : Value).ownBlock)) (by refine zk ?_; exact Kd.R_mono HO132.out (fun _ hk => ⟨⟨hk.2.1, hk.2.2⟩, hk.1⟩)) hg hat)
       have n3_ := zA (hb)
       have n4_ := zA (ho)
       clear HO_3
       clear HO_4
       clear HO132
       clear HB
       clear HO128
       have HO_3 := n0_
       have HO_4 := n1_
       have HO132 := n2_
       have HB := n3_
       have HO135 := n4_
       clear n0_ n1_ n2_ n3_ n4_
       clear ho hb hg hat
       obtain ⟨Ao57, co57, eo57⟩ := Kd.R_slice HO135.out
       (first | subst eo57 | (injection eo57 with f1_ f2_ f3_; have f4_ := f1_.symm; have f5_ := f3_.symm; clear f1_ f2_ f3_; subst f4_; subst f5_))
       refine hK.out _ _ ⟨HS0_, HS1_⟩ (fun hHeld => ?_)
       clear hK K
       refine norm_ (a' := ?_) ?_ ?_
       rotate_left
       ·show Act.put _ (some 65) _ = _
        simp only [Act.put, List.setIfInBounds_toArray, List.set_cons_zero, List.set_cons_succ, i64_w, i32_w]
        rfl
       refine one_ (i := 17) (N := some 66) (zl 22 524287) rfl rfl (one_of HT_.out (by kernel_rfl)) (by decide) (fun K hK => ?_)
       refine goes_ Try.func64 (by kernel_rfl) rfl #[.slice Ao57 y133.length co57] (by rfl) rfl rfl y2  ?_
       with_reducible refine (impl_NetCover.calls _ _ y133 t136 _ ?side1 ?side2 A46.out).mono ?_
       (case side1 => repeat (first | exact (Kd.R_reads' HO135.out).2.2 | (with_reducible refine Kd.C_alloc ?_ _) | (with_reducible refine Kd.C_drewN ?_ _) | (with_reducible refine Kd.C_drew ?_)))
       (case side2 => exact (Kd.R_reads' HO135.out).2.1)
       rintro e w58 ⟨v137, rfl, ho0, hb⟩
       have HS0_ := (hb.cell (World.block_lt_of_cell? _ _ (hHeld.1))).trans (hHeld.1)
       have HS1_ := (hb.cell (World.block_lt_of_cell? _ _ (hHeld.2))).trans (hHeld.2)
       refine ⟨_, rfl, ?_⟩
       have n0_ := zA (Kd.R_elder' (zr HO_3.out) (Kd.R_base ho0) hb)
       have n1_ := zA (Kd.R_elder' (zr HO_4.out) (Kd.R_base ho0) hb)
       have n2_ := zA (Kd.R_elder' (zr HO132.out) (Kd.R_base ho0) hb)
       have n3_ := zA (Kd.R_elder' (zr HO135.out) (Kd.R_base ho0) hb)
       have n4_ := zA (Kd.R_lower (Kd.R_new' (Kd.R_new' (Kd.R_new' (Kd.R_new' ho0 (Kd.R_lt (zr HO_3.out))) (Kd.R_lt (zr HO_4.out))) (Kd.R_lt (zr HO132.out))) (Kd.R_lt (zr HO135.out))) (below_size (zHB)))
       have n5_ := zA (below_step (zHB) hb)
       clear HO_3
       clear HO_4
       clear HO132
       clear HO135
       clear HB
       have HO_3 := n0_
       have HO_4 := n1_
       have HO132 := n2_
       have HO135 := n3_
       have HO138 := n4_
       have HB := n5_
       clear n0_ n1_ n2_ n3_ n4_ n5_
       (try clear hb)
       (try clear hb2)
       (try clear hk)
       (try clear hi)
       (try clear ho0)
       obtain ⟨Ao59, co59, eo59⟩ := Kd.R_slice HO138.out
       (first | subst eo59 | (injection eo59 with f1_ f2_ f3_; have f4_ := f1_.symm; have f5_ := f3_.symm; clear f1_ f2_ f3_; subst f4_; subst f5_))
       refine hK.out _ _ ⟨HS0_, HS1_⟩ (fun hHeld => ?_)
       clear hK K
       refine norm_ (a' := ?_) ?_ ?_
       rotate_left
       ·show Act.put _ (some 66) _ = _
        simp only [Act.put, List.setIfInBounds_toArray, List.set_cons_zero, List.set_cons_succ, i64_w, i32_w]
        rfl
       refine one_ (i := 19) (N := some 68) (zl 22 1048575) rfl rfl (one_of HT_.out (by kernel_rfl)) (by decide) (fun K hK => ?_)
       refine goes_ Try.func66 (by kernel_rfl) rfl #[.slice Ao59 t136.length co59, .slice Ao15 t104.length co15] (by rfl) rfl rfl y2  ?_
       with_reducible refine (laws_wnSame.calls kj9 _ _ t136 _ _ t104 t139 _ ?side1 ?side2 ?side3 ?side4 A47.out).mono ?_
       (case side1 => repeat (first | exact (Kd.R_reads' HO138.out).2.2 | (with_reducible refine Kd.C_alloc ?_ _) | (with_reducible refine Kd.C_drewN ?_ _) | (with_reducible refine Kd.C_drew ?_)))
       (case side2 => exact (Kd.R_reads' HO138.out).2.1)
       (case side3 => repeat (first | exact (Kd.R_reads' HO_4.out).2.2 | (with_reducible refine Kd.C_alloc ?_ _) | (with_reducible refine Kd.C_drewN ?_ _) | (with_reducible refine Kd.C_drew ?_)))
       (case side4 => exact (Kd.R_reads' HO_4.out).2.1)
       rintro e w' ⟨rfl, ⟨nd, rfl⟩⟩
       refine ⟨_, rfl, ?_⟩
       refine hK.out _ _ ⟨hHeld.1, hHeld.2⟩ (fun hHeld => ?_)
       clear hK K
       refine norm_ (a' := ?_) ?_ ?_
       rotate_left
       ·show Act.put _ (some 68) _ = _
        simp only [Act.put, List.setIfInBounds_toArray, List.set_cons_zero, List.set_cons_succ, i64_w, i32_w]
        rfl
       refine pure_ (i := 20) (N := some 69) (v := ?_) (a' := ?_) (zl 22 2097151) rfl rfl (any_of HT_.out (by kernel_rfl)) (fun _ _ _ h => h) (Or.inl ⟨by rfl, ?_⟩) ?_ ?_
       rotate_left
       ·intro w'
        go_simp
        with_reducible rfl
       rotate_left
       ·simp only [Act.put, List.setIfInBounds_toArray, List.set_cons_zero, List.set_cons_succ, i64_w, i32_w]
        rfl
       refine pure_ (i := 21) (N := some 2) (v := ?_) (a' := ?_) (zl 22 4194303) rfl rfl (any_of HT_.out (by kernel_rfl)) (fun _ _ _ h => h) (Or.inl ⟨by rfl, ?_⟩) ?_ ?_
       rotate_left
       ·intro w'
        go_simp
        with_reducible rfl
       rotate_left
       ·simp only [Act.put, List.setIfInBounds_toArray, List.set_cons_zero, List.set_cons_succ, i64_w, i32_w]
        rfl
       refine done_ (done_of HT_.out (by kernel_rfl)) ?_
       try go_wp2
       go_ret
       exact ⟨by first | rfl | (simp [errW_none, errW_some] <;> rfl) | (simp [*, errW_none, errW_some] <;> rfl), zHB⟩
      rw [if_neg c45] at H
      exact absurd H (by simp)
     rw [if_neg c44] at H
     exact absurd H (by simp)
    rw [if_neg c43] at H
    exact absurd H (by simp)
  replace c9 := Bool.eq_false_iff.mpr c9
  subst c9
  have H1 : (some ((t104.length : Int) == 0)) = some r := by rw [if_neg (show ¬ (false = true) by decide)] at H; exact H
  clear H
  have H := H1
  clear H1
  obtain rfl := Option.some.inj H
  go_enter Try.func18, Try.ntmps18
  go_wp2_with (first | ((with_reducible refine gate_callee (f := 65) rfl ?_); refine goesL_ (some 9) rfl rfl Try.func65 (by kernel_rfl) rfl #[.slice A0 l0.length c0] rfl y2  ?_; (with_reducible refine (spec_DrawNetCover.calls k _ _ l0 t101 _ ?side1 ?side2 A3.out).mono ?_); (case side1 => repeat (first | exact HR0.out | (with_reducible refine Kd.C_alloc ?_ _) | (with_reducible refine Kd.C_drewN ?_ _) | (with_reducible refine Kd.C_drew ?_))); (case side2 => exact HC0.out); rintro e w60 ⟨v102, rfl, ho0, hb⟩; refine ⟨_, rfl, ?_⟩; have n0_ := zA (Kd.R_lower ho0 (below_size (zHB))); have n1_ := zA (below_step (zHB) hb); clear HB; have HO103 := n0_; have HB := n1_; clear n0_ n1_; (try clear hb); (try clear hb2); (try clear hk); (try clear hi); (try clear ho0); obtain ⟨Ao61, co61, eo61⟩ := Kd.R_slice HO103.out; subst eo61) | ((with_reducible refine gate_callee (f := 64) rfl ?_); refine goesL_ (some 11) rfl rfl Try.func64 (by kernel_rfl) rfl #[.slice Ao61 t101.length co61] rfl y2  ?_; (with_reducible refine (impl_NetCover.calls _ _ t101 t104 _ ?side1 ?side2 A4.out).mono ?_); (case side1 => repeat (first | exact (Kd.R_reads' HO103.out).2.2 | (with_reducible refine Kd.C_alloc ?_ _) | (with_reducible refine Kd.C_drewN ?_ _) | (with_reducible refine Kd.C_drew ?_))); (case side2 => exact (Kd.R_reads' HO103.out).2.1); rintro e w62 ⟨v105, rfl, ho0, hb⟩; refine ⟨_, rfl, ?_⟩; have n0_ := zA (Kd.R_elder' (zr HO103.out) (Kd.R_base ho0) hb); have n1_ := zA (Kd.R_lower (Kd.R_new' ho0 (Kd.R_lt (zr HO103.out))) (below_size (zHB))); have n2_ := zA (below_step (zHB) hb); clear HO103; clear HB; have HO103 := n0_; have HO106 := n1_; have HB := n2_; clear n0_ n1_ n2_; (try clear hb); (try clear hb2); (try clear hk); (try clear hi); (try clear ho0)) | ((with_reducible refine gate_callee (f := 63) rfl ?_); refine goesL_ (some 14) rfl rfl Try.func63 (by kernel_rfl) rfl #[.slice Ao61 t101.length co61] rfl y2  ?_; (with_reducible refine (spec_NetCover.calls k _ _ t101 t107 _ ?side1 ?side2 A5.out).mono ?_); (case side1 => repeat (first | exact (Kd.R_reads' HO103.out).2.2 | (with_reducible refine Kd.C_alloc ?_ _) | (with_reducible refine Kd.C_drewN ?_ _) | (with_reducible refine Kd.C_drew ?_))); (case side2 => exact (Kd.R_reads' HO103.out).2.1); rintro e w63 ⟨v108, rfl, ho0, hb⟩; refine ⟨_, rfl, ?_⟩; have n0_ := zA (Kd.R_elder' (zr HO103.out) (Kd.R_base ho0) hb); have n1_ := zA (Kd.R_elder' (zr HO106.out) (Kd.R_base ho0) hb); have n2_ := zA (Kd.R_lower (Kd.R_new' (Kd.R_new' ho0 (Kd.R_lt (zr HO103.out))) (Kd.R_lt (zr HO106.out))) (below_size (zHB))); have n3_ := zA (below_step (zHB) hb); clear HO103; clear HO106; clear HB; have HO103 := n0_; have HO106 := n1_; have HO109 := n2_; have HB := n3_; clear n0_ n1_ n2_ n3_; (try clear hb); (try clear hb2); (try clear hk); (try clear hi); (try clear ho0); obtain ⟨Ao64, co64, eo64⟩ := Kd.R_slice HO106.out; subst eo64; obtain ⟨Ao65, co65, eo65⟩ := Kd.R_slice HO109.out; subst eo65) | ((with_reducible refine gate_callee (f := 66) rfl ?_); refine goesL_ (some 15) rfl rfl Try.func66 (by kernel_rfl) rfl #[.slice Ao64 t104.length co64, .slice Ao65 t107.length co65] rfl y2  ?_; (with_reducible refine (laws_wnSame.calls k _ _ t104 _ _ t107 true _ ?side1 ?side2 ?side3 ?side4 A6.out).mono ?_); (case side1 => repeat (first | exact (Kd.R_reads' HO106.out).2.2 | (with_reducible refine Kd.C_alloc ?_ _) | (with_reducible refine Kd.C_drewN ?_ _) | (with_reducible refine Kd.C_drew ?_))); (case side2 => exact (Kd.R_reads' HO106.out).2.1); (case side3 => repeat (first | exact (Kd.R_reads' HO109.out).2.2 | (with_reducible refine Kd.C_alloc ?_ _) | (with_reducible refine Kd.C_drewN ?_ _) | (with_reducible refine Kd.C_drew ?_))); (case side4 => exact (Kd.R_reads' HO109.out).2.1); rintro e w' ⟨rfl, ⟨nd, rfl⟩⟩; refine ⟨_, rfl, ?_⟩) | ((with_reducible refine gate_callee (f := 67) rfl ?_); refine goesL_ (some 18) rfl rfl Try.func67 (by kernel_rfl) rfl #[.slice Ao61 t101.length co61] rfl y2  ?_; (with_reducible refine (laws_wnOk.calls k _ _ t101 false _ ?side1 ?side2 A8.out).mono ?_); (case side1 => repeat (first | exact (Kd.R_reads' HO103.out).2.2 | (with_reducible refine Kd.C_alloc ?_ _) | (with_reducible refine Kd.C_drewN ?_ _) | (with_reducible refine Kd.C_drew ?_))); (case side2 => exact (Kd.R_reads' HO103.out).2.1); rintro e w66 ⟨rfl, hb⟩; refine ⟨_, rfl, ?_⟩; have n0_ := zA (Kd.R_below (zr HO103.out) hb); have n1_ := zA (Kd.R_below (zr HO106.out) hb); have n2_ := zA (Kd.R_below (zr HO109.out) hb); have n3_ := zA (below_step (zHB) hb); clear HO103; clear HO106; clear HO109; clear HB; have HO103 := n0_; have HO106 := n1_; have HO109 := n2_; have HB := n3_; clear n0_ n1_ n2_ n3_; (try clear hb); (try clear hb2); (try clear hk); (try clear hi)))
  go_ret
  exact ⟨by first | rfl | (simp [errW_none, errW_some] <;> rfl) | (simp [*, errW_none, errW_some] <;> rfl), zHB⟩
 replace c7 := Bool.eq_false_iff.mpr c7
 subst c7
 have H1 : (some false) = some r := by rw [if_neg (show ¬ (false = true) by decide)] at H; exact H
 clear H
 have H := H1
 clear H1
 obtain rfl := Option.some.inj H
 go_enter Try.func18, Try.ntmps18
 go_wp2_with (first | ((with_reducible refine gate_callee (f := 65) rfl ?_); refine goesL_ (some 9) rfl rfl Try.func65 (by kernel_rfl) rfl #[.slice A0 l0.length c0] rfl y2  ?_; (with_reducible refine (spec_DrawNetCover.calls k _ _ l0 t101 _ ?side1 ?side2 A3.out).mono ?_); (case side1 => repeat (first | exact HR0.out | (with_reducible refine Kd.C_alloc ?_ _) | (with_reducible refine Kd.C_drewN ?_ _) | (with_reducible refine Kd.C_drew ?_))); (case side2 => exact HC0.out); rintro e w67 ⟨v102, rfl, ho0, hb⟩; refine ⟨_, rfl, ?_⟩; have n0_ := zA (Kd.R_lower ho0 (below_size (zHB))); have n1_ := zA (below_step (zHB) hb); clear HB; have HO103 := n0_; have HB := n1_; clear n0_ n1_; (try clear hb); (try clear hb2); (try clear hk); (try clear hi); (try clear ho0); obtain ⟨Ao68, co68, eo68⟩ := Kd.R_slice HO103.out; subst eo68) | ((with_reducible refine gate_callee (f := 64) rfl ?_); refine goesL_ (some 11) rfl rfl Try.func64 (by kernel_rfl) rfl #[.slice Ao68 t101.length co68] rfl y2  ?_; (with_reducible refine (impl_NetCover.calls _ _ t101 t104 _ ?side1 ?side2 A4.out).mono ?_); (case side1 => repeat (first | exact (Kd.R_reads' HO103.out).2.2 | (with_reducible refine Kd.C_alloc ?_ _) | (with_reducible refine Kd.C_drewN ?_ _) | (with_reducible refine Kd.C_drew ?_))); (case side2 => exact (Kd.R_reads' HO103.out).2.1); rintro e w69 ⟨v105, rfl, ho0, hb⟩; refine ⟨_, rfl, ?_⟩; have n0_ := zA (Kd.R_elder' (zr HO103.out) (Kd.R_base ho0) hb); have n1_ := zA (Kd.R_lower (Kd.R_new' ho0 (Kd.R_lt (zr HO103.out))) (below_size (zHB))); have n2_ := zA (below_step (zHB) hb); clear HO103; clear HB; have HO103 := n0_; have HO106 := n1_; have HB := n2_; clear n0_ n1_ n2_; (try clear hb); (try clear hb2); (try clear hk); (try clear hi); (try clear ho0)) | ((with_reducible refine gate_callee (f := 63) rfl ?_); refine goesL_ (some 14) rfl rfl Try.func63 (by kernel_rfl) rfl #[.slice Ao68 t101.length co68] rfl y2  ?_; (with_reducible refine (spec_NetCover.calls k _ _ t101 t107 _ ?side1 ?side2 A5.out).mono ?_); (case side1 => repeat (first | exact (Kd.R_reads' HO103.out).2.2 | (with_reducible refine Kd.C_alloc ?_ _) | (with_reducible refine Kd.C_drewN ?_ _) | (with_reducible refine Kd.C_drew ?_))); (case side2 => exact (Kd.R_reads' HO103.out).2.1); rintro e w70 ⟨v108, rfl, ho0, hb⟩; refine ⟨_, rfl, ?_⟩; have n0_ := zA (Kd.R_elder' (zr HO103.out) (Kd.R_base ho0) hb); have n1_ := zA (Kd.R_elder' (zr HO106.out) (Kd.R_base ho0) hb); have n2_ := zA (Kd.R_lower (Kd.R_new' (Kd.R_new' ho0 (Kd.R_lt (zr HO103.out))) (Kd.R_lt (zr HO106.out))) (below_size (zHB))); have n3_ := zA (below_step (zHB) hb); clear HO103; clear HO106; clear HB; have HO103 := n0_; have HO106 := n1_; have HO109 := n2_; have HB := n3_; clear n0_ n1_ n2_ n3_; (try clear hb); (try clear hb2); (try clear hk); (try clear hi); (try clear ho0); obtain ⟨Ao71, co71, eo71⟩ := Kd.R_slice HO106.out; subst eo71; obtain ⟨Ao72, co72, eo72⟩ := Kd.R_slice HO109.out; subst eo72) | ((with_reducible refine gate_callee (f := 66) rfl ?_); refine goesL_ (some 15) rfl rfl Try.func66 (by kernel_rfl) rfl #[.slice Ao71 t104.length co71, .slice Ao72 t107.length co72] rfl y2  ?_; (with_reducible refine (laws_wnSame.calls k _ _ t104 _ _ t107 false _ ?side1 ?side2 ?side3 ?side4 A6.out).mono ?_); (case side1 => repeat (first | exact (Kd.R_reads' HO106.out).2.2 | (with_reducible refine Kd.C_alloc ?_ _) | (with_reducible refine Kd.C_drewN ?_ _) | (with_reducible refine Kd.C_drew ?_))); (case side2 => exact (Kd.R_reads' HO106.out).2.1); (case side3 => repeat (first | exact (Kd.R_reads' HO109.out).2.2 | (with_reducible refine Kd.C_alloc ?_ _) | (with_reducible refine Kd.C_drewN ?_ _) | (with_reducible refine Kd.C_drew ?_))); (case side4 => exact (Kd.R_reads' HO109.out).2.1); rintro e w' ⟨rfl, ⟨nd, rfl⟩⟩; refine ⟨_, rfl, ?_⟩))
 go_ret
 exact ⟨by first | rfl | (simp [errW_none, errW_some] <;> rfl) | (simp [*, errW_none, errW_some] <;> rfl), zHB⟩
end Go.Proofs.Ytnakanjhdcakhaa.Q
namespace Go.Proofs.Ytnakanjhdcakhaa.Pure
open Q Go.RowKit Go.Proofs.YtnakanjhdcakhaaW.PrintWords
set_option linter.unusedSimpArgs false
theorem xor_pos {x y : Int} (hx : 0 ≤ x) (hx1 : x < 4611686018427387904) (hy : 0 ≤ y) (hy1 : y < 4611686018427387904) : 0 ≤ Go.bits .xor .i64 x y ∧ Go.bits .xor .i64 x y < 4611686018427387904 := by
  obtain ⟨a, rfl⟩ := Int.eq_ofNat_of_zero_le hx
  obtain ⟨b, rfl⟩ := Int.eq_ofNat_of_zero_le hy
  have ha : a < 2 ^ 62 := by omega
  have hb : b < 2 ^ 62 := by omega
  have hxor : a ^^^ b < 2 ^ 62 := Nat.xor_lt_two_pow ha hb
  have e : ((BitVec.ofInt 64 (a : Int)) ^^^ (BitVec.ofInt 64 (b : Int))).toNat = a ^^^ b := by
    rw [BitVec.toNat_xor, BitVec.toNat_ofInt, BitVec.toNat_ofInt]
    congr 1 <;> omega
  have main : Go.bits .xor .i64 (a : Int) (b : Int) = IntKind.i64.wrap ((((BitVec.ofInt 64 (a : Int)) ^^^ (BitVec.ofInt 64 (b : Int))).toNat : Nat) : Int) := rfl
  rw [main, e]
  have : IntKind.i64.wrap ((a ^^^ b : Nat) : Int) = ((a ^^^ b : Nat) : Int) := by
    simp [IntKind.wrap, IntKind.bits, IntKind.signed]
    omega
  rw [this]
  omega
def Bytes (b : List Int) : Prop := b.length ≤ 2000 ∧ ∀ x ∈ b, 0 ≤ x ∧ x ≤ 255
theorem rd_byte {b : List Int} (h : Bytes b) (i : Int) : 0 ≤ rd b i ∧ rd b i ≤ 255 := by
  unfold rd
  rw [List.getD_eq_getElem?_getD]
  cases hq : b[i.toNat]? with
  | none => simp
  | some x => simpa using h.2 x (List.mem_of_getElem? hq)
theorem tmod_range {a n : Int} (ha : 0 ≤ a) (hn : 0 < n) : 0 ≤ Int.tmod a n ∧ Int.tmod a n < n := ⟨Int.tmod_nonneg _ ha, Int.tmod_lt_of_pos _ hn⟩
theorem pick_s {b : List Int} (h : Bytes b) {p n : Int} (hp : 0 ≤ p) (hp1 : p ≤ 1000000000000) (hn : 1 ≤ n) {k : Nat} (hk : 0 < k) : ∃ v, spec_l1Rd_pick.f k b p n = some (v, p + 1) ∧ 0 ≤ v ∧ v < n := by
  obtain ⟨k, rfl⟩ : ∃ m, k = m + 1 := ⟨k - 1, by omega⟩
  have hl := h.1
  unfold spec_l1Rd_pick.f
  rw [if_neg (by omega)]
  simp only [spec_l1Rd_pick.j0]
  rw [wrap_in (x := p + 1) (by omega) (by omega), wrap_in (x := p + 1 - 1) (by omega) (by omega), show p + 1 - 1 = p by omega]
  by_cases h0 : (b.length : Int) = 0
  · rw [if_pos (by simp [h0])]
    exact ⟨0, rfl, Int.le_refl _, by omega⟩
  · rw [if_neg (by simpa using h0)]
    by_cases hlt : p < (b.length : Int)
    · have hb := rd_byte h p
      rw [if_pos hlt, if_pos hp, if_neg (by omega), wrap_in (x := rd b p) (by omega) (by omega)]
      exact ⟨_, rfl, tmod_range hb.1 (by omega)⟩
    · rw [if_neg hlt, if_neg h0]
      have r1 := tmod_range hp (show 0 < (b.length : Int) by omega)
      have w7 : wrap64 (p * 7) = p * 7 := wrap_in (by omega) (by omega)
      have w73 : wrap64 (p * 7 + 3) = p * 7 + 3 := wrap_in (by omega) (by omega)
      have r2 := tmod_range (show 0 ≤ p * 7 + 3 by omega) (show 0 < (b.length : Int) by omega)
      rw [if_pos r1.1, if_pos r1.2, w7, w73, if_pos r2.1, if_pos r2.2, if_neg (by omega)]
      have b1 := rd_byte h (Int.tmod p (b.length : Int))
      have b2 := rd_byte h (Int.tmod (p * 7 + 3) (b.length : Int))
      generalize rd b (Int.tmod p (b.length : Int)) = x at b1 ⊢
      generalize rd b (Int.tmod (p * 7 + 3) (b.length : Int)) = y at b2 ⊢
      have hd : 0 ≤ Int.tdiv p (b.length : Int) ∧ Int.tdiv p (b.length : Int) ≤ p := ⟨Int.tdiv_nonneg hp (by omega), Int.tdiv_le_self _ hp⟩
      generalize Int.tdiv p (b.length : Int) = q at hd ⊢
      rw [wrap_in (x := x) (by omega) (by omega), wrap_in (x := y) (by omega) (by omega), wrap_in (x := x * 131) (by omega) (by omega), wrap_in (x := y * 1117) (by omega) (by omega), wrap_in (x := q) (by omega) (by omega), wrap_in (x := p * 29) (by omega) (by omega), wrap_in (x := q * 53) (by omega) (by omega), wrap_in (x := x * 131 + y * 1117) (by omega) (by omega), wrap_in (x := x * 131 + y * 1117 + p * 29) (by omega) (by omega), wrap_in (x := x * 131 + y * 1117 + p * 29 + q * 53) (by omega) (by omega)]
      have hz : 0 ≤ x * 131 + y * 1117 + p * 29 + q * 53 ∧ x * 131 + y * 1117 + p * 29 + q * 53 < 4611686018427387904 := by omega
      generalize x * 131 + y * 1117 + p * 29 + q * 53 = z at hz ⊢
      have h64 : 0 ≤ Int.tdiv z 64 ∧ Int.tdiv z 64 ≤ z := ⟨Int.tdiv_nonneg hz.1 (by omega), Int.tdiv_le_self _ hz.1⟩
      rw [wrap_in (x := Int.tdiv z 64) (by omega) (by omega)]
      have hx := xor_pos hz.1 hz.2 h64.1 (show Int.tdiv z 64 < 4611686018427387904 by omega)
      exact ⟨_, rfl, tmod_range hx.1 (by omega)⟩
end Go.Proofs.Ytnakanjhdcakhaa.Pure
namespace Go.Proofs.Ytnakanjhdcakhaa.Pure
open Q Go.RowKit Go.Proofs.YtnakanjhdcakhaaW.PrintWords
set_option linter.unusedSimpArgs false
theorem five {i : Int} (h0 : 0 ≤ i) (h1 : i < 5) (x0 x1 x2 x3 x4 : Int) (P : Int → Prop) (p0 : P x0) (p1 : P x1) (p2 : P x2) (p3 : P x3) (p4 : P x4) : P (rd [x0, x1, x2, x3, x4] i) := by
  have : i = 0 ∨ i = 1 ∨ i = 2 ∨ i = 3 ∨ i = 4 := by omega
  rcases this with rfl | rfl | rfl | rfl | rfl
  · exact p0
  · exact p1
  · exact p2
  · exact p3
  · exact p4
theorem prefix_j {b : List Int} (h : Bytes b) {p n : Int} (hp : 0 ≤ p) (hp1 : p ≤ 900000000000) (hn0 : 0 ≤ n) (hn1 : n ≤ 16) {k : Nat} (hk : 30 ≤ k) : ∃ a, spec_l5Prefix.j0 k n b p = some (a, n, p + 6) ∧ okB a n = true := by
  obtain ⟨k, rfl⟩ : ∃ m, k = m + 1 := ⟨k - 1, by omega⟩
  obtain ⟨v1, e1, l1, u1⟩ := pick_s h (p := p) (n := 65536) (by omega) (by omega) (by omega) (k := k) (by omega)
  obtain ⟨v2, e2, l2, u2⟩ := pick_s h (p := p + 1) (n := 4) (by omega) (by omega) (by omega) (k := k) (by omega)
  obtain ⟨v3, e3, l3, u3⟩ := pick_s h (p := p + 1 + 1) (n := 9) (by omega) (by omega) (by omega) (k := k) (by omega)
  obtain ⟨v4, e4, l4, u4⟩ := pick_s h (p := p + 1 + 1 + 1) (n := 16) (by omega) (by omega) (by omega) (k := k) (by omega)
  obtain ⟨v5, e5, l5, u5⟩ := pick_s h (p := p + 1 + 1 + 1 + 1) (n := 16) (by omega) (by omega) (by omega) (k := k) (by omega)
  obtain ⟨v6, e6, l6, u6⟩ := pick_s h (p := p + 1 + 1 + 1 + 1 + 1) (n := 5) (by omega) (by omega) (by omega) (k := k) (by omega)
  simp only [spec_l5Prefix.j0, e1, e2, e3, e4, e5, e6, Option.bind_some]
  have hz := sz_pos n
  have hr : 0 ≤ rd [v1, wrap64 (256 * v2), wrap64 (65535 - v3), v4, wrap64 (4656 + v5)] v6 ∧ rd [v1, wrap64 (256 * v2), wrap64 (65535 - v3), v4, wrap64 (4656 + v5)] v6 ≤ 65535 := by
    refine five (P := fun x => 0 ≤ x ∧ x ≤ 65535) l6 u6 _ _ _ _ _ (by omega) ?_ ?_ (by omega) ?_
    · rw [wrap_in (by omega) (by omega)]; omega
    · rw [wrap_in (by omega) (by omega)]; omega
    · rw [wrap_in (by omega) (by omega)]; omega
  rw [if_pos l6, if_pos (by simpa using u6), size_s hn0 hn1 (by omega)]
  simp only [Option.bind_some]
  rw [if_neg (by omega)]
  generalize rd [v1, wrap64 (256 * v2), wrap64 (65535 - v3), v4, wrap64 (4656 + v5)] v6 = a at hr ⊢
  have hm : Int.tmod a (sz n) = a % sz n := Int.tmod_eq_emod_of_nonneg hr.1
  have h0 := Int.emod_nonneg a (show sz n ≠ 0 by omega)
  have h1 := Int.emod_lt_of_pos a (show 0 < sz n by omega)
  have h2 : a % sz n ≤ a := by
    have := Int.mul_ediv_add_emod a (sz n)
    have := Int.mul_nonneg (show 0 ≤ sz n by omega) (Int.ediv_nonneg hr.1 (show 0 ≤ sz n by omega))
    omega
  rw [hm, wrap_in (by omega) (by omega)]
  refine ⟨a - a % sz n, by simp; omega, okB_iff.2 ⟨hn0, hn1, by omega, by omega, ?_⟩⟩
  have := Int.mul_ediv_add_emod a (sz n)
  rw [show a - a % sz n = sz n * (a / sz n) by omega]
  exact Int.mul_emod_right _ _
theorem six {i : Int} (h0 : 0 ≤ i) (h1 : i < 6) (x0 x1 x2 x3 x4 x5 : Int) (P : Int → Prop) (p0 : P x0) (p1 : P x1) (p2 : P x2) (p3 : P x3) (p4 : P x4) (p5 : P x5) : P (rd [x0, x1, x2, x3, x4, x5] i) := by
  have : i = 0 ∨ i = 1 ∨ i = 2 ∨ i = 3 ∨ i = 4 ∨ i = 5 := by omega
  rcases this with rfl | rfl | rfl | rfl | rfl | rfl
  · exact p0
  · exact p1
  · exact p2
  · exact p3
  · exact p4
  · exact p5
theorem prefix_s {b : List Int} (h : Bytes b) {p : Int} (hp : 0 ≤ p) (hp1 : p ≤ 800000000000) {k : Nat} (hk : 30 ≤ k) : ∃ a n q, spec_l5Prefix.f k b p = some (a, n, q) ∧ okB a n = true ∧ p ≤ q ∧ q ≤ p + 9 := by
  obtain ⟨v1, e1, l1, u1⟩ := pick_s h (p := p) (n := 17) (by omega) (by omega) (by omega) (k := k) (by omega)
  obtain ⟨v2, e2, l2, u2⟩ := pick_s h (p := p + 1) (n := 3) (by omega) (by omega) (by omega) (k := k) (by omega)
  obtain ⟨v3, e3, l3, u3⟩ := pick_s h (p := p + 1 + 1) (n := 6) (by omega) (by omega) (by omega) (k := k) (by omega)
  unfold spec_l5Prefix.f
  simp only [e1, e2, e3, Option.bind_some]
  by_cases h0 : v2 = 0
  · have hr : 0 ≤ rd [0, 1, 2, 8, 15, 16] v3 ∧ rd [0, 1, 2, 8, 15, 16] v3 ≤ 16 := six (P := fun x => 0 ≤ x ∧ x ≤ 16) l3 u3 _ _ _ _ _ _ (by omega) (by omega) (by omega) (by omega) (by omega) (by omega)
    rw [if_pos h0, if_pos l3, if_pos (by simpa using u3)]
    obtain ⟨a, e, ok⟩ := prefix_j h (p := p + 1 + 1 + 1) (by omega) (by omega) hr.1 hr.2 hk
    exact ⟨a, _, _, e, ok, by omega, by omega⟩
  · rw [if_neg h0]
    obtain ⟨a, e, ok⟩ := prefix_j h (p := p + 1 + 1) (by omega) (by omega) l1 (show v1 ≤ 16 by omega) hk
    exact ⟨a, _, _, e, ok, by omega, by omega⟩
end Go.Proofs.Ytnakanjhdcakhaa.Pure
namespace Go.Proofs.Ytnakanjhdcakhaa.Pure
open Q Go.RowKit Go.Proofs.YtnakanjhdcakhaaW.PrintWords
set_option linter.unusedSimpArgs false
theorem spoil_s {b : List Int} (h : Bytes b) {p : Int} (hp : 0 ≤ p) (hp1 : p ≤ 800000000000) (a n : Int) {k : Nat} (hk : 0 < k) : ∃ a' n' q, spec_l5Spoil.f k b p a n = some (a', n', q) ∧ p ≤ q ∧ q ≤ p + 2 := by
  obtain ⟨v1, e1, l1, u1⟩ := pick_s h (p := p) (n := 4) (by omega) (by omega) (by omega) (k := k) (by omega)
  obtain ⟨v2, e2, l2, u2⟩ := pick_s h (p := p + 1) (n := 4) (by omega) (by omega) (by omega) (k := k) (by omega)
  unfold spec_l5Spoil.f
  simp only [e1, e2, Option.bind_some]
  by_cases h0 : v1 = 0
  · rw [if_pos h0, if_pos l2, if_pos (by simpa using u2)]
    exact ⟨_, _, _, rfl, by omega, by omega⟩
  · rw [if_neg h0]
    by_cases h1 : v1 = 1
    · rw [if_pos h1]
      exact ⟨_, _, _, rfl, by omega, by omega⟩
    · rw [if_neg h1]
      by_cases h2 : v1 = 2
      · rw [if_pos h2, if_pos l2, if_pos (by simpa using u2)]
        exact ⟨_, _, _, rfl, by omega, by omega⟩
      · rw [if_neg h2]
        exact ⟨_, _, _, rfl, by omega, by omega⟩
end Go.Proofs.Ytnakanjhdcakhaa.Pure
namespace Go.Proofs.Ytnakanjhdcakhaa.Pure
open Q Go.RowKit Go.Proofs.YtnakanjhdcakhaaW.PrintWords
set_option linter.unusedSimpArgs false
theorem open_s {l : List Int} (h : ∀ x ∈ l, 0 ≤ x ∧ x ≤ 255) : ∃ b, spec_l1Open.f l = some (b, 0) ∧ Bytes b := by
  unfold spec_l1Open.f
  by_cases hc : (l.length : Int) > 2000
  · rw [if_pos hc, if_pos (by omega)]
    exact ⟨_, rfl, by rw [List.length_take]; omega, fun x hx => h x (List.mem_of_mem_take hx)⟩
  · rw [if_neg hc]
    exact ⟨_, rfl, by omega, h⟩
end Go.Proofs.Ytnakanjhdcakhaa.Pure
namespace Go.Proofs.Ytnakanjhdcakhaa.Pure
open Go.RowKit Go.Proofs.YtnakanjhdcakhaaW.PrintWords Go.Proofs.YtnakanjhdcakhaaW.PrintMore
open Q
set_option linter.unusedVariables false
set_option linter.unusedSimpArgs false
/-- The addresses that some of l have and none of o. -/
def anyB (l : List S26) (x : Int) : Bool := l.any fun q => hasB q.f0 q.f1 x
def inS (l o : List S26) (x : Int) : Bool := anyB l x && !anyB o x
def canon (S : Int → Bool) : Nat → Int → Int → List S26
  | 0, a, n => if S a = true then [⟨a, n⟩] else []
  | d + 1, a, n => mergeP a n (canon S d a (n + 1)) (canon S d (a + sz (n + 1)) (n + 1))
theorem nest {a n b m x : Int} (hp : okB a n = true) (hq : okB b m = true) (hmn : m ≤ n) (h1 : hasB a n x = true) (h2 : hasB b m x = true) : b ≤ a ∧ a + sz n ≤ b + sz m := by
  obtain ⟨p0, p1, p2, p3, p4⟩ := okB_iff.1 hp
  obtain ⟨q0, q1, q2, q3, q4⟩ := okB_iff.1 hq
  rw [hasB_iff] at h1 h2
  have hs := sz_pos n
  obtain ⟨i, hi⟩ := Int.dvd_of_emod_eq_zero p4
  obtain ⟨k, hk⟩ := sz_dvd hmn
  obtain ⟨j, hj⟩ := Int.dvd_trans (sz_dvd hmn) (Int.dvd_of_emod_eq_zero q4)
  generalize sz n = s at *
  generalize sz m = r at *
  subst hi hk hj
  have g1 : j < i + 1 := Int.lt_of_mul_lt_mul_left (a := s) (by rw [Int.mul_add]; omega) (by omega)
  have g2 : i < j + k := Int.lt_of_mul_lt_mul_left (a := s) (by rw [Int.mul_add]; omega) (by omega)
  have g3 := Int.mul_le_mul_of_nonneg_left (show j ≤ i by omega) (show 0 ≤ s by omega)
  have g4 := Int.mul_le_mul_of_nonneg_left (show i + 1 ≤ j + k by omega) (show 0 ≤ s by omega)
  rw [Int.mul_add, Int.mul_add] at g4
  omega
theorem has_first {a n : Int} : hasB a n a = true := by
  have := sz_pos n
  exact hasB_iff.2 ⟨by omega, by omega⟩
theorem over_has {a n x : Int} {l : List S26} (hp : okB a n = true) (hl : allOk l) (hx : hasB a n x = true) (h : overB a n l = true) : anyB l x = true := by
  obtain ⟨q, hq, hi⟩ := List.any_eq_true.1 h
  obtain ⟨i1, i2, i3⟩ := insB_iff.1 hi
  have := nest hp (hl q hq) i1 has_first (hasB_iff.2 ⟨i2, i3⟩)
  rw [hasB_iff] at hx
  exact List.any_eq_true.2 ⟨q, hq, hasB_iff.2 ⟨by omega, by omega⟩⟩
theorem has_near {a n x : Int} {l : List S26} (hp : okB a n = true) (hl : allOk l) (hx : hasB a n x = true) (h : anyB l x = true) : overB a n l = true ∨ withB a n l = true := by
  obtain ⟨q, hq, hi⟩ := List.any_eq_true.1 h
  rcases Int.le_total q.f1 n with hc | hc
  · have h1 := nest hp (hl q hq) hc hx hi
    have := sz_pos n
    exact .inl (List.any_eq_true.2 ⟨q, hq, insB_iff.2 ⟨hc, h1.1, by omega⟩⟩)
  · have h1 := nest (hl q hq) hp hc hi hx
    have := sz_pos q.f1
    exact .inr (List.any_eq_true.2 ⟨q, hq, insB_iff.2 ⟨hc, h1.1, by omega⟩⟩)
theorem has_half {a n x : Int} (hn : n < 16) : hasB a n x = true ↔ hasB a (n + 1) x = true ∨ hasB (a + sz (n + 1)) (n + 1) x = true := by
  have h1 := sz_half hn
  have h2 := sz_pos (n + 1)
  rw [hasB_iff, hasB_iff, hasB_iff]
  omega
theorem canon_congr {S T : Int → Bool} : ∀ (d : Nat) (a n : Int), n = 16 - (d : Int) → (∀ x, hasB a n x = true → S x = T x) → canon S d a n = canon T d a n
  | 0, a, n, hn, h => by unfold canon; rw [h a has_first]
  | d + 1, a, n, hn, h => by
    unfold canon
    rw [canon_congr d a (n + 1) (by omega) (fun x hx => h x ((has_half (by omega)).2 (.inl hx))), canon_congr d (a + sz (n + 1)) (n + 1) (by omega) (fun x hx => h x ((has_half (by omega)).2 (.inr hx)))]
theorem canon_all {S : Int → Bool} : ∀ (d : Nat) (a n : Int), n = 16 - (d : Int) → (∀ x, hasB a n x = true → S x = true) → canon S d a n = [⟨a, n⟩]
  | 0, a, n, hn, h => by unfold canon; rw [if_pos (h a has_first)]
  | d + 1, a, n, hn, h => by
    unfold canon
    rw [canon_all d a (n + 1) (by omega) (fun x hx => h x ((has_half (by omega)).2 (.inl hx))), canon_all d (a + sz (n + 1)) (n + 1) (by omega) (fun x hx => h x ((has_half (by omega)).2 (.inr hx)))]
    unfold mergeP
    rw [if_pos ⟨rfl, rfl⟩]
theorem canon_nil {S : Int → Bool} : ∀ (d : Nat) (a n : Int), n = 16 - (d : Int) → (∀ x, hasB a n x = true → S x = false) → canon S d a n = []
  | 0, a, n, hn, h => by unfold canon; rw [if_neg (by rw [h a has_first]; simp)]
  | d + 1, a, n, hn, h => by
    unfold canon
    rw [canon_nil d a (n + 1) (by omega) (fun x hx => h x ((has_half (by omega)).2 (.inl hx))), canon_nil d (a + sz (n + 1)) (n + 1) (by omega) (fun x hx => h x ((has_half (by omega)).2 (.inr hx)))]
    unfold mergeP
    rw [if_neg (by simp)]
    rfl
theorem left_canon {l o : List S26} (hl : allOk l) (ho : allOk o) : ∀ (d : Nat) (a n : Int), n = 16 - (d : Int) → okB a n = true → leftP l o d a n = canon (inS l o) d a n
  | 0, a, n, hn, hp => by
    have e16 : n = 16 := by omega
    subst e16
    have ov : ∀ {z : List S26}, allOk z → (anyB z a = true ↔ overB a 16 z = true) := fun {z} hz => ⟨fun h => by
      rcases has_near hp hz has_first h with h | h
      · exact h
      · exact with_over hp hz h, fun h => over_has hp hz has_first h⟩
    unfold leftP canon inS
    by_cases h1 : overB a 16 o = true
    · rw [if_pos h1, if_neg (by rw [(ov ho).2 h1]; simp)]
    · have h1' : anyB o a = false := by
        cases hq : anyB o a with
        | false => rfl
        | true => exact absurd ((ov ho).1 hq) h1
      rw [if_neg h1]
      by_cases h2 : overB a 16 l = true
      · rw [if_pos h2, if_pos (by rw [(ov hl).2 h2, h1']; rfl)]
      · rw [if_neg h2, if_neg]
        intro hq
        simp only [Bool.and_eq_true] at hq
        exact h2 ((ov hl).1 hq.1)
  | d + 1, a, n, hn, hp => by
    have hh := half_ok hp (show n < 16 by omega)
    unfold leftP
    by_cases h1 : overB a n o = true
    · rw [if_pos h1, canon_nil (d + 1) a n hn]
      intro x hx
      unfold inS
      rw [over_has hp ho hx h1]
      simp
    · rw [if_neg h1]
      by_cases h2 : (overB a n l && !withB a n o) = true
      · rw [if_pos h2, canon_all (d + 1) a n hn]
        intro x hx
        simp only [Bool.and_eq_true, Bool.not_eq_true'] at h2
        unfold inS
        rw [over_has hp hl hx h2.1]
        cases hq : anyB o x with
        | false => rfl
        | true =>
          rcases has_near hp ho hx hq with h | h
          · exact absurd h h1
          · rw [h] at h2; simp at h2
      · rw [if_neg h2]
        by_cases h3 : (!overB a n l && !withB a n l) = true
        · rw [if_pos h3, canon_nil (d + 1) a n hn]
          intro x hx
          simp only [Bool.and_eq_true, Bool.not_eq_true'] at h3
          unfold inS
          cases hq : anyB l x with
          | false => rfl
          | true =>
            rcases has_near hp hl hx hq with h | h
            · rw [h] at h3; simp at h3
            · rw [h] at h3; simp at h3
        · rw [if_neg h3, left_canon hl ho d a (n + 1) (by omega) hh.1, left_canon hl ho d (a + sz (n + 1)) (n + 1) (by omega) hh.2]
          rfl
/-- What is in the canonical list lies in the prefix, and all its addresses are in the set. -/
theorem canon_in {S : Int → Bool} : ∀ (d : Nat) (a n : Int), n = 16 - (d : Int) → okB a n = true → ∀ w ∈ canon S d a n, okB w.f0 w.f1 = true ∧ a ≤ w.f0 ∧ w.f0 + sz w.f1 ≤ a + sz n ∧ n ≤ w.f1 ∧ ∀ x, hasB w.f0 w.f1 x = true → S x = true
  | 0, a, n, hn, hp, w, hw => by
    unfold canon at hw
    split at hw
    · rename_i hs
      rw [List.mem_singleton] at hw
      subst hw
      refine ⟨hp, Int.le_refl _, Int.le_refl _, Int.le_refl _, fun x hx => ?_⟩
      have e16 : n = 16 := by omega
      subst e16
      rw [hasB_iff, sz16] at hx
      obtain rfl : x = a := by simp only at hx; omega
      exact hs
    · simp at hw
  | d + 1, a, n, hn, hp, w, hw => by
    have hh := half_ok hp (show n < 16 by omega)
    have hs := sz_half (show n < 16 by omega)
    have hz := sz_pos (n + 1)
    have i1 := canon_in (S := S) d a (n + 1) (by omega) hh.1
    have i2 := canon_in (S := S) d (a + sz (n + 1)) (n + 1) (by omega) hh.2
    unfold canon mergeP at hw
    split at hw
    · rename_i hc
      rw [List.mem_singleton] at hw
      subst hw
      refine ⟨hp, Int.le_refl _, Int.le_refl _, Int.le_refl _, fun x hx => ?_⟩
      rcases (has_half (show n < 16 by omega)).1 hx with h | h
      · exact (i1 ⟨a, n + 1⟩ (by rw [hc.1]; simp)).2.2.2.2 x h
      · exact (i2 ⟨a + sz (n + 1), n + 1⟩ (by rw [hc.2]; simp)).2.2.2.2 x h
    · rcases List.mem_append.1 hw with hw | hw
      · obtain ⟨g1, g2, g3, g4, g5⟩ := i1 w hw
        exact ⟨g1, g2, by omega, by omega, g5⟩
      · obtain ⟨g1, g2, g3, g4, g5⟩ := i2 w hw
        exact ⟨g1, by omega, by omega, by omega, g5⟩
theorem canon_has {S : Int → Bool} : ∀ (d : Nat) (a n : Int), n = 16 - (d : Int) → okB a n = true → ∀ x, hasB a n x = true → S x = true → anyB (canon S d a n) x = true
  | 0, a, n, hn, hp, x, hx, hS => by
    have e16 : n = 16 := by omega
    subst e16
    have hx' := hx
    rw [hasB_iff, sz16] at hx'
    obtain rfl : x = a := by omega
    unfold canon
    rw [if_pos hS]
    unfold anyB
    simp [hx]
  | d + 1, a, n, hn, hp, x, hx, hS => by
    have hh := half_ok hp (show n < 16 by omega)
    have i1 := canon_has (S := S) d a (n + 1) (by omega) hh.1 x
    have i2 := canon_has (S := S) d (a + sz (n + 1)) (n + 1) (by omega) hh.2 x
    unfold canon mergeP
    split
    · unfold anyB
      simp [hx]
    · unfold anyB at *
      rw [List.any_append, Bool.or_eq_true]
      rcases (has_half (show n < 16 by omega)).1 hx with h | h
      · exact .inl (i1 h hS)
      · exact .inr (i2 h hS)
/-- Not more than there were. -/
theorem canon_few {l : List S26} (hl : allOk l) : ∀ (d : Nat) (a n : Int), n = 16 - (d : Int) → okB a n = true → (∀ q ∈ l, n ≤ q.f1 ∨ hasB q.f0 q.f1 a = false) → (canon (inS l []) d a n).length ≤ l.countP fun q => insB q.f0 q.f1 a n
  | 0, a, n, hn, hp, hs => by
    unfold canon
    split
    · rename_i hS
      unfold inS anyB at hS
      simp only [Bool.and_eq_true] at hS
      obtain ⟨q, hq, hh⟩ := List.any_eq_true.1 hS.1
      have hqo := okB_iff.1 (hl q hq)
      have hq1 : q.f1 = n := by
        rcases hs q hq with h | h
        · omega
        · rw [h] at hh; simp at hh
      have hpos : 0 < l.countP fun q => insB q.f0 q.f1 a n := by
        rw [List.countP_pos_iff]
        refine ⟨q, hq, ?_⟩
        rw [hasB_iff] at hh
        have e16 : n = 16 := by omega
        rw [hq1, e16, sz16] at hh
        exact insB_iff.2 ⟨by omega, by omega, by have := sz_pos n; omega⟩
      simp only [List.length_singleton]
      omega
    · simp
  | d + 1, a, n, hn, hp, hs => by
    have hh := half_ok hp (show n < 16 by omega)
    have hz := sz_half (show n < 16 by omega)
    have hzp := sz_pos (n + 1)
    by_cases hov : overB a n l = true
    · rw [canon_all (d + 1) a n hn (fun x hx => by unfold inS; rw [over_has hp hl hx hov]; rfl)]
      have hpos : 0 < l.countP fun q => insB q.f0 q.f1 a n := by
        rw [List.countP_pos_iff]
        obtain ⟨q, hq, hi⟩ := List.any_eq_true.1 hov
        obtain ⟨i1, i2, i3⟩ := insB_iff.1 hi
        have hq1 : q.f1 = n := by
          rcases hs q hq with h | h
          · omega
          · have := hasB_iff.2 ⟨i2, i3⟩
            rw [h] at this; simp at this
        refine ⟨q, hq, insB_iff.2 ⟨by omega, ?_, ?_⟩⟩
        · have := (nest (hl q hq) hp (by omega) (hasB_iff.2 ⟨i2, i3⟩) has_first).1
          omega
        · have := sz_pos n
          omega
      simp only [List.length_singleton]
      omega
    · have hno : ∀ x, hasB a n x = true → ∀ q ∈ l, n + 1 ≤ q.f1 ∨ hasB q.f0 q.f1 x = false := by
        intro x hx q hq
        by_cases hqn : q.f1 ≤ n
        · right
          cases hb : hasB q.f0 q.f1 x with
          | false => rfl
          | true =>
            have := nest hp (hl q hq) hqn hx hb
            refine absurd (List.any_eq_true.2 ⟨q, hq, insB_iff.2 ⟨hqn, this.1, ?_⟩⟩) hov
            have := sz_pos n
            omega
        · exact .inl (by omega)
      have i1 := canon_few hl d a (n + 1) (by omega) hh.1 (hno a has_first)
      have i2 := canon_few hl d (a + sz (n + 1)) (n + 1) (by omega) hh.2 (hno _ (hasB_iff.2 ⟨by omega, by omega⟩))
      have hc : (l.countP fun q => insB q.f0 q.f1 a (n + 1)) + (l.countP fun q => insB q.f0 q.f1 (a + sz (n + 1)) (n + 1)) ≤ l.countP fun q => insB q.f0 q.f1 a n := by
        clear i1 i2 hno hov hs hl
        induction l with
        | nil => simp
        | cons q l ih =>
          simp only [List.countP_cons]
          have : (if insB q.f0 q.f1 a (n + 1) = true then 1 else 0) + (if insB q.f0 q.f1 (a + sz (n + 1)) (n + 1) = true then 1 else 0) ≤ (if insB q.f0 q.f1 a n = true then 1 else 0) := by
            simp only [insB_iff]
            split <;> split <;> split <;> omega
          omega
      unfold canon mergeP
      split
      · rename_i hm
        rw [hm.1] at i1
        rw [hm.2] at i2
        simp only [List.length_singleton] at *
        omega
      · rw [List.length_append]
        omega
end Go.Proofs.Ytnakanjhdcakhaa.Pure
namespace Go.Proofs.Ytnakanjhdcakhaa.Pure
open Q Go.RowKit Go.Proofs.YtnakanjhdcakhaaW.PrintWords
set_option linter.unusedSimpArgs false
set_option linter.unusedVariables false
theorem align_ok {a m : Int} (h0 : 0 ≤ m) (h1 : m ≤ 16) (ha : 0 ≤ a) (hb : a ≤ 65535) : okB (a - a % sz m) m = true ∧ 0 ≤ a % sz m ∧ a % sz m ≤ a := by
  have hz := sz_pos m
  have e0 := Int.emod_nonneg a (show sz m ≠ 0 by omega)
  have e2 : a % sz m ≤ a := by
    have := Int.mul_ediv_add_emod a (sz m)
    have := Int.mul_nonneg (show 0 ≤ sz m by omega) (Int.ediv_nonneg ha (show 0 ≤ sz m by omega))
    omega
  refine ⟨okB_iff.2 ⟨h0, h1, by omega, by omega, ?_⟩, e0, e2⟩
  have := Int.mul_ediv_add_emod a (sz m)
  rw [show a - a % sz m = sz m * (a / sz m) by omega]
  exact Int.mul_emod_right _ _
theorem rd26_in {l : List S26} {i : Int} (h0 : 0 ≤ i) (h1 : i < (l.length : Int)) : rd_T26 l i ∈ l := by
  obtain ⟨n, rfl⟩ := Int.eq_ofNat_of_zero_le h0
  have hn : n < l.length := by omega
  have e : rd_T26 l (n : Int) = l[n] := by simp [rd_T26, List.getD_eq_getElem?_getD, hn]
  rw [e]
  exact List.getElem_mem hn
theorem allOk_snoc {l : List S26} (h : allOk l) (x : S26) (hx : okB x.f0 x.f1 = true) : allOk (l ++ [x]) := by
  intro y hy
  rcases List.mem_append.1 hy with hy | hy
  · exact h y hy
  · rw [List.mem_singleton.1 hy]
    exact hx
theorem allOk_two {a b : S26} (ha : okB a.f0 a.f1 = true) (hb : okB b.f0 b.f1 = true) : allOk [a, b] := by
  intro y hy
  simp at hy
  rcases hy with rfl | rfl
  · exact ha
  · exact hb
/-- A draw of prefixes that ends: how many at the most, and how far the reader has gone. -/
def DoneL (o : Option (List S26 × Int)) (m : Nat) (hi : Int) : Prop := ∃ r q, o = some (r, q) ∧ r.length ≤ m ∧ 0 ≤ q ∧ q ≤ hi
theorem list_j1 {b : List Int} (hb : Bytes b) {P hi : Int} (hP : P ≤ 600000000000) {m M k : Nat} (hM : M ≤ 100) (hm : m + 1 ≤ M) (hk : 33 ≤ k) {x6 : Int} (IH : ∀ (x5 : List S26) (p : Int), allOk x5 → x5.length ≤ m + 1 → 0 ≤ p → p ≤ P → DoneL (spec_l5List.l0 k x5 (wrap64 (x6 - 1)) b p) M hi)
    {x5 : List S26} (ok : allOk x5) (hl : x5.length ≤ m) (x30 : Bool) (hx : x30 = true → 0 < x5.length) {p : Int} (hp : 0 ≤ p) (hp1 : p + 5 ≤ P) {a n : Int} (ha : okB a n = true) : DoneL (spec_l5List.j1 (k + 1) x5 x6 x30 b p a n) M hi := by
  have h87 : x5.length < 8796093022208 := by omega
  simp only [spec_l5List.j1]
  by_cases h : x30 = true
  · have hx' := hx h
    obtain ⟨v1, e1, l1, u1⟩ := pick_s hb (p := p) (n := (x5.length : Int)) (by omega) (by omega) (by omega) (k := k) (by omega)
    obtain ⟨v2, e2, l2, u2⟩ := pick_s hb (p := p + 1) (n := 3) (by omega) (by omega) (by omega) (k := k) (by omega)
    obtain ⟨v3, e3, l3, u3⟩ := pick_s hb (p := p + 1 + 1) (n := 2) (by omega) (by omega) (by omega) (k := k) (by omega)
    have hq := ok _ (rd26_in l1 u1)
    have hq' := okB_iff.1 hq
    simp only [if_pos h, e1, e2, Option.bind_some]
    rw [if_pos l1, if_pos u1]
    generalize rd_T26 x5 v1 = q at hq hq' ⊢
    by_cases c0 : v2 = 0
    · rw [if_pos c0]
      by_cases c1 : q.f1 > 0
      · have w1 : wrap64 (q.f1 - 1) = q.f1 - 1 := wrap_in (by omega) (by omega)
        have hz := sz_pos (q.f1 - 1)
        obtain ⟨al, am, an⟩ := align_ok (a := q.f0) (m := q.f1 - 1) (by omega) (by omega) hq'.2.2.1 hq'.2.2.2.1
        have al' := okB_iff.1 al
        have hh := half_ok al (by omega)
        have hm : Int.tmod q.f0 (sz (q.f1 - 1)) = q.f0 % sz (q.f1 - 1) := Int.tmod_eq_emod_of_nonneg hq'.2.2.1
        rw [if_pos c1, w1, size_s (by omega) (by omega) (by omega), Option.bind_some, if_neg (by omega), hm, wrap_in (x := q.f0 - q.f0 % sz (q.f1 - 1)) (by omega) (by omega), l1halves_s (by omega) (by omega) (by omega) al'.2.2.1 al'.2.2.2.1]
        simp only [Option.bind_some, e3]
        have ok2 := rd26_in (l := [(⟨q.f0 - q.f0 % sz (q.f1 - 1), q.f1 - 1 + 1⟩ : S26), ⟨q.f0 - q.f0 % sz (q.f1 - 1) + sz (q.f1 - 1 + 1), q.f1 - 1 + 1⟩]) l3 (by simpa using u3)
        rw [if_pos l3, if_pos (by simpa using u3), if_pos h87]
        exact IH _ _ (allOk_snoc ok _ (allOk_two hh.1 hh.2 _ ok2)) (by simp; omega) (by omega) (by omega)
      · rw [if_neg c1, if_pos h87]
        exact IH _ _ (allOk_snoc ok _ ha) (by simp; omega) (by omega) (by omega)
    · rw [if_neg c0]
      by_cases c1 : v2 = 1
      · rw [if_pos c1]
        by_cases c2 : q.f1 < 16
        · have hh := half_ok hq c2
          rw [if_pos c2, l1halves_s (by omega) hq'.1 c2 hq'.2.2.1 hq'.2.2.2.1]
          simp only [Option.bind_some, e3]
          have ok2 := rd26_in (l := [(⟨q.f0, q.f1 + 1⟩ : S26), ⟨q.f0 + sz (q.f1 + 1), q.f1 + 1⟩]) l3 (by simpa using u3)
          rw [if_pos l3, if_pos (by simpa using u3), if_pos h87]
          exact IH _ _ (allOk_snoc ok _ (allOk_two hh.1 hh.2 _ ok2)) (by simp; omega) (by omega) (by omega)
        · rw [if_neg c2, if_pos h87]
          exact IH _ _ (allOk_snoc ok _ ha) (by simp; omega) (by omega) (by omega)
      · rw [if_neg c1, if_pos h87]
        exact IH _ _ (allOk_snoc ok _ hq) (by simp; omega) (by omega) (by omega)
  · simp only [if_neg h]
    rw [if_pos h87]
    exact IH _ _ (allOk_snoc ok _ ha) (by simp; omega) hp (by omega)
theorem list_l0 {b : List Int} (hb : Bytes b) {M : Nat} (hM : M ≤ 100) {B : Int} (hB : B ≤ 600000000000) (d : Nat) : ∀ (k : Nat) (x5 : List S26) (p : Int), allOk x5 → x5.length + d ≤ M → 0 ≤ p → p ≤ B - 20 * d - 10 → 2 * d + 50 ≤ k → DoneL (spec_l5List.l0 k x5 d b p) M B := by
  induction d with
  | zero =>
    intro k x5 p ok hl hp hp1 hk
    obtain ⟨k, rfl⟩ : ∃ m, k = m + 1 := ⟨k - 1, by omega⟩
    obtain ⟨v1, e1, l1, u1⟩ := pick_s hb (p := p) (n := 30) (by omega) (by omega) (by omega) (k := k) (by omega)
    simp only [spec_l5List.l0]
    rw [if_neg (by omega), e1, Option.bind_some]
    by_cases c0 : v1 = 0
    · rw [if_pos c0]
      by_cases c1 : (x5.length : Int) > 0
      · obtain ⟨a', n', q, e, g1, g2⟩ := spoil_s hb (p := p + 1) (by omega) (by omega) (rd_T26 x5 0).f0 (rd_T26 x5 0).f1 (k := k) (by omega)
        rw [if_pos c1, if_pos (by omega), e, Option.bind_some]
        exact ⟨_, _, rfl, by simp; omega, by (try dsimp only); omega, by (try dsimp only); omega⟩
      · rw [if_neg c1]
        exact ⟨_, _, rfl, by omega, by (try dsimp only); omega, by (try dsimp only); omega⟩
    · rw [if_neg c0]
      exact ⟨_, _, rfl, by omega, by (try dsimp only); omega, by (try dsimp only); omega⟩
  | succ d ih =>
    intro k x5 p ok hl hp hp1 hk
    obtain ⟨k, rfl⟩ : ∃ m, k = m + 2 := ⟨k - 2, by omega⟩
    have IH : ∀ (x5' : List S26) (p' : Int), allOk x5' → x5'.length ≤ x5.length + 1 → 0 ≤ p' → p' ≤ B - 20 * d - 10 → DoneL (spec_l5List.l0 k x5' (wrap64 (((d + 1 : Nat) : Int) - 1)) b p') M B := by
      intro x5' p' ok' hl' hp' hp1'
      rw [show wrap64 (((d + 1 : Nat) : Int) - 1) = (d : Int) by rw [wrap_in (by omega) (by omega)]; omega]
      exact ih k x5' p' ok' (by omega) hp' hp1' (by omega)
    obtain ⟨a1, n1, q1, f1, o1, g1, g1'⟩ := prefix_s hb (p := p) (by omega) (by omega) (k := k + 1) (by omega)
    obtain ⟨v1, e1, l1, u1⟩ := pick_s hb (p := q1) (n := 2) (by omega) (by omega) (by omega) (k := k + 1) (by omega)
    simp only [spec_l5List.l0]
    rw [if_pos (by omega), f1, Option.bind_some]
    by_cases h : (x5.length : Int) > 0
    · rw [if_pos h, e1, Option.bind_some]
      exact list_j1 hb (P := B - 20 * d - 10) (by omega) hM (by omega) (by omega) IH ok (Nat.le_refl _) _ (fun _ => by omega) (by omega) (by (try dsimp only); omega) o1
    · rw [if_neg h]
      exact list_j1 hb (P := B - 20 * d - 10) (by omega) hM (by omega) (by omega) IH ok (Nat.le_refl _) _ (fun hq => by simp at hq) (by (try dsimp only); omega) (by (try dsimp only); omega) o1
theorem list_s {b : List Int} (hb : Bytes b) {p : Int} (hp : 0 ≤ p) (hp1 : p ≤ 500000000000) {most : Nat} (hm : 1 ≤ most) (hm1 : most ≤ 20) {k : Nat} (hk : 100 ≤ k) : ∃ r q, spec_l5List.f k b p most = some (r, q) ∧ r.length < most ∧ 0 ≤ q ∧ q ≤ p + 500 := by
  obtain ⟨v1, e1, l1, u1⟩ := pick_s hb (p := p) (n := most) (by omega) (by omega) (by omega) (k := k) (by omega)
  obtain ⟨d, rfl⟩ := Int.eq_ofNat_of_zero_le l1
  obtain ⟨r, q, e, h1, h2, h3⟩ := list_l0 hb (M := d) (by omega) (B := p + 500) (by omega) d k [] (p + 1) (by intro x hx; simp at hx) (by simp) (by omega) (by omega) (by omega)
  unfold spec_l5List.f
  rw [e1, Option.bind_some]
  exact ⟨r, q, e, by omega, h2, h3⟩
theorem drawCover_l0 {b : List Int} (hb : Bytes b) (d : Nat) : ∀ (k i : Nat) (x4 : List S26) (p : Int), i + d = 41 → x4.length = i → 0 ≤ p → p ≤ 1000 + i → d + 5 ≤ k → ∃ r, spec_DrawNetCover.l0 k x4 i b p = some r ∧ r.length ≤ 41 := by
  induction d with
  | zero =>
    intro k i x4 p hi hl hp hp1 hk
    obtain ⟨k, rfl⟩ : ∃ m, k = m + 1 := ⟨k - 1, by omega⟩
    obtain ⟨v1, e1, l1, u1⟩ := pick_s hb (p := p) (n := 2) (by omega) (by omega) (by omega) (k := k) (by omega)
    simp only [spec_DrawNetCover.l0]
    rw [e1, Option.bind_some, wrap_in (x := 40 + v1) (by omega) (by omega), if_neg (by (try dsimp only); omega)]
    exact ⟨_, rfl, by omega⟩
  | succ d ih =>
    intro k i x4 p hi hl hp hp1 hk
    obtain ⟨k, rfl⟩ : ∃ m, k = m + 1 := ⟨k - 1, by omega⟩
    obtain ⟨v1, e1, l1, u1⟩ := pick_s hb (p := p) (n := 2) (by omega) (by omega) (by omega) (k := k) (by omega)
    simp only [spec_DrawNetCover.l0]
    rw [e1, Option.bind_some, wrap_in (x := 40 + v1) (by omega) (by omega)]
    by_cases hc : (i : Int) < 40 + v1
    · rw [if_pos hc, if_pos (by omega), wrap_in (x := (i : Int) + 1) (by omega) (by omega)]
      exact ih k (i + 1) _ _ (by omega) (by simp; omega) (by (try dsimp only); omega) (by (try dsimp only); omega) (by omega)
    · rw [if_neg hc]
      exact ⟨_, rfl, by omega⟩
theorem drawCover_s {l : List Int} (h : ∀ x ∈ l, 0 ≤ x ∧ x ≤ 255) {k : Nat} (hk : 100 ≤ k) : ∃ r, spec_DrawNetCover.f k l = some r ∧ r.length ≤ 41 := by
  obtain ⟨b, e, hb⟩ := open_s h
  obtain ⟨v1, e1, l1, u1⟩ := pick_s hb (p := 0) (n := 30) (by omega) (by omega) (by omega) (k := k) (by omega)
  unfold spec_DrawNetCover.f
  rw [e, Option.bind_some, e1, Option.bind_some]
  by_cases hc : v1 = 0
  · rw [if_pos hc]
    exact drawCover_l0 hb 41 k 0 [] _ (by omega) rfl (by (try dsimp only); omega) (by (try dsimp only); omega) (by omega)
  · obtain ⟨r, q, e1, g1, g2, g3⟩ := list_s hb (p := 0 + 1) (by omega) (by omega) (most := 12) (by omega) (by omega) hk
    have h12 : ((12 : Nat) : Int) = 12 := rfl
    rw [h12] at e1
    rw [if_neg hc, e1, Option.bind_some]
    exact ⟨_, rfl, by (try dsimp only); omega⟩
end Go.Proofs.Ytnakanjhdcakhaa.Pure
namespace Go.Proofs.Ytnakanjhdcakhaa.Pure
open Q Go.RowKit Go.Proofs.YtnakanjhdcakhaaW.PrintWords
set_option linter.unusedSimpArgs false
set_option linter.unusedVariables false
theorem rd26_drop {l : List S26} {i : Nat} (h : i < l.length) : l.drop i = rd_T26 l (i : Int) :: l.drop (i + 1) := by
  rw [List.drop_eq_getElem_cons h, rd26_at l i h]
theorem wnOk_loop (l : List S26) (hl : l.length ≤ 1000000) (d : Nat) : ∀ (i k : Nat), i + d = l.length → d + 20 < k → laws_wnOk.l0 k l i = some (((l.drop i).all fun q => okB q.f0 q.f1) && decide (l.length ≤ 40)) := by
  induction d with
  | zero =>
    intro i k hi hk
    obtain ⟨k, rfl⟩ : ∃ m, k = m + 1 := ⟨k - 1, by omega⟩
    simp only [laws_wnOk.l0]
    rw [if_neg (by omega), List.drop_eq_nil_of_le (by omega)]
    simp
    omega
  | succ d ih =>
    intro i k hi hk
    obtain ⟨k, rfl⟩ : ∃ m, k = m + 1 := ⟨k - 1, by omega⟩
    simp only [laws_wnOk.l0]
    rw [if_pos (by omega), if_pos (by omega), ok_s (by omega), Option.bind_some, rd26_drop (by omega), List.all_cons, wrap_in (x := (i : Int) + 1) (by omega) (by omega)]
    cases h : okB (rd_T26 l (i : Int)).f0 (rd_T26 l (i : Int)).f1 with
    | false => simp
    | true =>
      rw [if_pos rfl, Bool.true_and]
      exact ih (i + 1) k (by omega) (by omega)
theorem wnOk_s {l : List S26} (hl : l.length ≤ 1000000) {k : Nat} (hk : l.length + 20 < k) : laws_wnOk.f k l = some (okL l) := by
  have := wnOk_loop l hl l.length 0 k (by omega) hk
  unfold laws_wnOk.f okL
  rw [Bool.and_comm]
  exact this
theorem wnSame_loop (a : List S26) (hl : a.length ≤ 1000000) (d : Nat) : ∀ (i k : Nat), i + d = a.length → d < k → laws_wnSame.l0 k a a i = some true := by
  induction d with
  | zero =>
    intro i k hi hk
    obtain ⟨k, rfl⟩ : ∃ m, k = m + 1 := ⟨k - 1, by omega⟩
    simp only [laws_wnSame.l0]
    rw [if_neg (by omega)]
  | succ d ih =>
    intro i k hi hk
    obtain ⟨k, rfl⟩ : ∃ m, k = m + 1 := ⟨k - 1, by omega⟩
    simp only [laws_wnSame.l0, beq_self_eq_true, Bool.not_true, Bool.or_self, Bool.false_eq_true, if_false]
    rw [if_pos (by omega), if_pos (by omega), if_pos (by omega), wrap_in (x := (i : Int) + 1) (by omega) (by omega)]
    exact ih (i + 1) k (by omega) (by omega)
theorem wnSame_s {a : List S26} (hl : a.length ≤ 1000000) {k : Nat} (hk : a.length < k) : laws_wnSame.f k a a = some true := by
  unfold laws_wnSame.f
  rw [if_pos rfl]
  exact wnSame_loop a hl a.length 0 k (by omega) hk
end Go.Proofs.Ytnakanjhdcakhaa.Pure
namespace Go.Proofs.Ytnakanjhdcakhaa.Pure
open Go.RowKit Go.Proofs.YtnakanjhdcakhaaW.PrintWords Go.Proofs.YtnakanjhdcakhaaW.PrintMore
open Q
set_option linter.unusedVariables false
set_option linter.unusedSimpArgs false
theorem l3ok_loop (l : List S26) (hl : l.length ≤ 9223372036854775807) (d : Nat) : ∀ (i k : Nat), i + d = l.length → d + 20 < k → spec_l3Ok.l0 k l i = some ((l.drop i).all fun q => okB q.f0 q.f1) := by
  induction d with
  | zero =>
    intro i k hi hk
    obtain ⟨k, rfl⟩ : ∃ m, k = m + 1 := ⟨k - 1, by omega⟩
    simp only [spec_l3Ok.l0]
    rw [if_neg (by omega), List.drop_of_length_le (by omega)]
    rfl
  | succ d ih =>
    intro i k hi hk
    obtain ⟨k, rfl⟩ : ∃ m, k = m + 1 := ⟨k - 1, by omega⟩
    have hlt : i < l.length := by omega
    simp only [spec_l3Ok.l0]
    rw [if_pos (by omega), if_pos (by omega), rd26_at l i hlt, ok_s (by omega)]
    simp only [Option.bind_some]
    rw [List.drop_eq_getElem_cons hlt, List.all_cons, wrap_succ (by omega) (by omega), show ((i : Int) + 1) = ((i + 1 : Nat) : Int) by omega, ih (i + 1) k (by omega) (by omega)]
    cases okB l[i].f0 l[i].f1 <;> simp
theorem l3ok_s {l : List S26} {k : Nat} (hl : l.length ≤ 9223372036854775807) (hk : 60 < k) : spec_l3Ok.f k l = some (okL l) := by
  unfold spec_l3Ok.f okL
  by_cases h : l.length ≤ 40
  · rw [if_neg (by omega)]
    have := l3ok_loop l hl l.length 0 k (by omega) (by omega)
    simpa [h] using this
  · rw [if_pos (by omega)]
    simp [h]
theorem some_loop (l : List S26) (hl : l.length ≤ 9223372036854775807) (ho : allOk l) {a n : Int} (h : okB a n = true) (d : Nat) : ∀ (i k : Nat) (x y : Bool), i + d = l.length → d + 20 < k →
    spec_l3Some.l0 k l x y i a n = some (x || overB a n (l.drop i), y || withB a n (l.drop i)) := by
  induction d with
  | zero =>
    intro i k x y hi hk
    obtain ⟨k, rfl⟩ : ∃ m, k = m + 1 := ⟨k - 1, by omega⟩
    simp only [spec_l3Some.l0]
    rw [if_neg (by omega), List.drop_of_length_le (by omega)]
    simp [overB, withB]
  | succ d ih =>
    intro i k x y hi hk
    obtain ⟨k, rfl⟩ : ∃ m, k = m + 1 := ⟨k - 1, by omega⟩
    have hlt : i < l.length := by omega
    have hq := ho l[i] (List.getElem_mem hlt)
    simp only [spec_l3Some.l0]
    rw [if_pos (by omega), if_pos (show (0 : Int) ≤ i by omega), rd26_at l i hlt, ins_s (by omega) _ _ hq, ins_s (by omega) _ _ h, wrap_succ (by omega) (by omega), show ((i : Int) + 1) = ((i + 1 : Nat) : Int) by omega]
    simp only [Option.bind_some]
    unfold overB withB at ih ⊢
    rw [List.drop_eq_getElem_cons hlt, List.any_cons, List.any_cons]
    cases x <;> cases y <;> (try simp only [if_true, Bool.false_eq_true, if_false]) <;> first | (rw [ih (i + 1) k _ _ (by omega) (by omega)]; simp; done) | (rw [if_neg (by simp), ih (i + 1) k _ _ (by omega) (by omega)]; simp; done) | (rw [if_neg (by simp), if_neg (by simp), ih (i + 1) k _ _ (by omega) (by omega)]; simp; done)
theorem some_s {l : List S26} {k : Nat} (hl : l.length ≤ 40) (ho : allOk l) {a n : Int} (h : okB a n = true) (hk : 60 < k) : spec_l3Some.f k l a n = some (overB a n l, withB a n l) := by
  have := some_loop l (by omega) ho h l.length 0 k false false (by omega) (by omega)
  simpa [spec_l3Some.f] using this
theorem one_or {xs : List S26} (h : ¬ xs.length = 1) (x : S26) : ¬ xs = [x] := by
  rintro rfl
  exact h rfl
theorem part_s (l o : List S26) (hl : l.length ≤ 40) (ho : o.length ≤ 40) (al : allOk l) (ao : allOk o) (d : Nat) : ∀ (a n : Int) (k : Nat), n = 16 - (d : Int) → okB a n = true → 64 + 4 * d < k → spec_l3Part.f k a n l o = some (leftP l o d a n) := by
  induction d with
  | zero =>
    intro a n k hn hok hk
    obtain ⟨k, rfl⟩ : ∃ m, k = m + 2 := ⟨k - 2, by omega⟩
    have h16 : n = 16 := by omega
    have w1 : withB a n l = true → overB a n l = true := fun h => by rw [h16] at h hok ⊢; exact with_over hok al h
    have w2 : withB a n o = true → overB a n o = true := fun h => by rw [h16] at h hok ⊢; exact with_over hok ao h
    simp only [spec_l3Part.f]
    rw [some_s hl al hok (by omega), some_s ho ao hok (by omega)]
    simp only [Option.bind_some, spec_l3Part.j0]
    unfold leftP
    cases h1 : overB a n o with
    | true => simp
    | false =>
      have h2 : withB a n o = false := by
        cases h : withB a n o with
        | true => rw [w2 h] at h1; cases h1
        | false => rfl
      cases h3 : overB a n l with
      | true => simp [h2]
      | false =>
        have h4 : withB a n l = false := by
          cases h : withB a n l with
          | true => rw [w1 h] at h3; cases h3
          | false => rfl
        simp [h2, h4]
  | succ d ih =>
    intro a n k hn hok hk
    obtain ⟨k, rfl⟩ : ∃ m, k = m + 4 := ⟨k - 4, by omega⟩
    have hn0 : 0 ≤ n := (okB_iff.1 hok).1
    have hn16 : n < 16 := by omega
    have hd16 : d ≤ 15 := by omega
    obtain ⟨hoa, hob⟩ := half_ok hok hn16
    have hx := ih a (n + 1) (k + 1) (by omega) hoa (by omega)
    have hy := ih (a + sz (n + 1)) (n + 1) (k + 1) (by omega) hob (by omega)
    have lx := leftP_len l o d a (n + 1)
    have ly := leftP_len l o d (a + sz (n + 1)) (n + 1)
    have hp : 2 ^ d ≤ 2 ^ 15 := Nat.pow_le_pow_right (by decide) hd16
    have hj1 : spec_l3Part.j1 (k + 2) l o a n = some (mergeP a n (leftP l o d a (n + 1)) (leftP l o d (a + sz (n + 1)) (n + 1))) := by
      obtain ⟨_, _, a0, a1, _⟩ := okB_iff.1 hok
      simp only [spec_l3Part.j1]
      rw [l1halves_s (by omega) hn0 hn16 a0 a1]
      simp only [Option.bind_some, hx, hy]
      generalize leftP l o d a (n + 1) = xs at lx ⊢
      generalize leftP l o d (a + sz (n + 1)) (n + 1) = ys at ly ⊢
      have hj2 : ∀ b, spec_l3Part.j2 (k + 1) xs ys b a n = some (if b = true then [(⟨a, n⟩ : S26)] else xs ++ ys) := by
        intro b
        simp only [spec_l3Part.j2]
        cases b
        · simp only [Bool.false_eq_true, if_false]
          rw [if_pos (by omega)]
        · simp
      unfold mergeP
      by_cases h1 : xs.length = 1
      · by_cases h2 : ys.length = 1
        · obtain ⟨x, rfl⟩ := List.length_eq_one_iff.1 h1
          obtain ⟨y, rfl⟩ := List.length_eq_one_iff.1 h2
          rw [if_pos (by simp), if_pos (by simp), if_pos (by simp), show rd_T26 [x] 0 = x from rfl, show rd_T26 [y] 0 = y from rfl]
          by_cases e1 : x = ⟨a, n + 1⟩
          · rw [if_pos (by rw [e1]; simp), if_pos (by simp), hj2]
            by_cases e2 : y = ⟨a + sz (n + 1), n + 1⟩
            · rw [if_pos (by rw [e2]; simp), if_pos (by rw [e1, e2]; exact ⟨rfl, rfl⟩)]
            · have : ¬ (y.f0 == a + sz (n + 1) && y.f1 == n + 1) = true := by
                intro h
                simp only [Bool.and_eq_true, beq_iff_eq] at h
                exact e2 (by cases y; simp only at h; rw [h.1, h.2])
              rw [if_neg this, if_neg (by simp [e2])]
          · have : ¬ (x.f0 == a && x.f1 == n + 1) = true := by
              intro h
              simp only [Bool.and_eq_true, beq_iff_eq] at h
              exact e1 (by cases x; simp only at h; rw [h.1, h.2])
            rw [if_neg this, hj2, if_neg (by simp), if_neg (by simp [e1])]
        · rw [if_pos (by omega), if_neg (by omega), hj2, if_neg (by simp), if_neg (fun h => one_or h2 _ h.2)]
      · rw [if_neg (by omega), hj2, if_neg (by simp), if_neg (fun h => one_or h1 _ h.1)]
    simp only [spec_l3Part.f]
    rw [some_s hl al hok (by omega), some_s ho ao hok (by omega)]
    simp only [Option.bind_some, spec_l3Part.j0]
    unfold leftP
    cases h1 : overB a n o <;> cases h2 : overB a n l <;> cases h3 : withB a n o <;> cases h4 : withB a n l <;> simp [hj1]
theorem cover_s {l : List S26} {k : Nat} (hl : l.length ≤ 9223372036854775807) (hk : 140 < k) : spec_NetCover.f k l = some (withoutP l []) := by
  unfold spec_NetCover.f withoutP
  rw [l3ok_s hl (by omega)]
  simp only [Option.bind_some]
  cases h1 : okL l with
  | false => simp
  | true =>
    have e1 : l.length ≤ 40 := by unfold okL at h1; simp only [Bool.and_eq_true, decide_eq_true_eq] at h1; exact h1.1
    rw [if_pos rfl, part_s l [] e1 (by decide) (okL_all h1) (fun q hq => by cases hq) 16 0 0 k (by decide) root_ok (by omega)]
    simp [okL]
theorem without_len (l o : List S26) : (withoutP l o).length ≤ 65536 := by
  unfold withoutP
  split
  · exact leftP_len l o 16 0 0
  · simp
end Go.Proofs.Ytnakanjhdcakhaa.Pure
namespace Go.Proofs.Ytnakanjhdcakhaa.Pure
open Q Go.RowKit Go.Proofs.YtnakanjhdcakhaaW.PrintWords
set_option linter.unusedSimpArgs false
set_option linter.unusedVariables false
theorem anyB_iff {l : List S26} {x : Int} : anyB l x = true ↔ ∃ q ∈ l, hasB q.f0 q.f1 x = true := by unfold anyB; rw [List.any_eq_true]
theorem inS_nil (l : List S26) (x : Int) : inS l [] x = anyB l x := by unfold inS anyB; simp
theorem okL_of {l : List S26} (h : allOk l) (hl : l.length ≤ 40) : okL l = true := by
  unfold okL
  rw [Bool.and_eq_true, List.all_eq_true]
  exact ⟨by simpa using hl, fun q hq => h q hq⟩
theorem okL_nil : okL ([] : List S26) = true := by rfl
theorem withoutP_ok {l o : List S26} (h1 : okL l = true) (h2 : okL o = true) : withoutP l o = canon (inS l o) 16 0 0 := by
  unfold withoutP
  rw [if_pos (by rw [h1, h2]; rfl), left_canon (okL_all h1) (okL_all h2) 16 0 0 (by decide) root_ok]
theorem cover_ok {l : List S26} (h : okL l = true) : allOk (withoutP l []) := by
  intro q hq
  rw [withoutP_ok h okL_nil] at hq
  exact (canon_in 16 0 0 (by decide) root_ok q hq).1
theorem cover_few {l : List S26} (h : okL l = true) : (withoutP l []).length ≤ l.length := by
  rw [withoutP_ok h okL_nil]
  exact Nat.le_trans (canon_few (okL_all h) 16 0 0 (by decide) root_ok fun q hq => .inl (okB_iff.1 (okL_all h q hq)).1) List.countP_le_length
theorem okL_len {l : List S26} (h : okL l = true) : l.length ≤ 40 := by
  unfold okL at h
  simp only [Bool.and_eq_true, decide_eq_true_eq] at h
  exact h.1
/-- Lists with the same addresses have the same cover. -/
theorem cover_same {l m : List S26} (h1 : okL l = true) (h2 : okL m = true) (h : ∀ x, hasB 0 0 x = true → anyB l x = anyB m x) : withoutP l [] = withoutP m [] := by
  rw [withoutP_ok h1 okL_nil, withoutP_ok h2 okL_nil]
  exact canon_congr 16 0 0 (by decide) fun x hx => by rw [inS_nil, inS_nil, h x hx]
theorem cover_any {l : List S26} (h : okL l = true) (x : Int) (hx : hasB 0 0 x = true) : anyB (withoutP l []) x = anyB l x := by
  rw [withoutP_ok h okL_nil]
  cases hq : anyB l x with
  | true => exact canon_has 16 0 0 (by decide) root_ok x hx (by rw [inS_nil, hq])
  | false =>
    cases hc : anyB (canon (inS l []) 16 0 0) x with
    | false => rfl
    | true =>
      obtain ⟨q, hm, hh⟩ := anyB_iff.1 hc
      have := (canon_in 16 0 0 (by decide) root_ok q hm).2.2.2.2 x hh
      rw [inS_nil, hq] at this
      exact this.symm
theorem cover_twice {l : List S26} (h : okL l = true) : withoutP (withoutP l []) [] = withoutP l [] :=
  cover_same (okL_of (cover_ok h) (Nat.le_trans (cover_few h) (okL_len h))) h (cover_any h)
theorem without_self {l : List S26} (h : okL l = true) : withoutP l l = [] := by
  rw [withoutP_ok h h]
  exact canon_nil 16 0 0 (by decide) fun x _ => by unfold inS; cases anyB l x <;> rfl
theorem cover_again {l : List S26} (h : okL l = true) (h0 : 0 < l.length) (h1 : l.length < 40) : withoutP (l ++ [rd_T26 l 0]) [] = withoutP l [] := by
  have hm := rd26_in (l := l) (i := 0) (by omega) (by omega)
  have ha := okL_all h
  refine cover_same (okL_of (allOk_snoc ha _ (ha _ hm)) (by simp; omega)) h fun x _ => ?_
  unfold anyB
  rw [List.any_append]
  cases hq : l.any fun q => hasB q.f0 q.f1 x with
  | true => rfl
  | false =>
    rw [List.any_eq_false] at hq
    have := hq _ hm
    simpa using this
theorem FnNetCover (l0 : List Int) (hl : l0.length ≤ maxLen) (hb : ∀ x ∈ l0, 0 ≤ x ∧ x ≤ 255) : ∃ k, laws_FnNetCover.f k l0 = some true := by
  obtain ⟨k, hk⟩ : ∃ k, k = 200000 := ⟨_, rfl⟩
  refine ⟨k + 1, ?_⟩
  unfold laws_FnNetCover.f
  by_cases hc : (l0.length : Int) > 1048576
  · rw [if_pos hc]
  · obtain ⟨r, e, hr⟩ := drawCover_s hb (k := k + 1) (by omega)
    have hwl := without_len r []
    have cf : ∀ z : List S26, impl_NetCover.f z = some (withoutP z []) := fun _ => rfl
    have wf : ∀ z o : List S26, impl_NetWithout.f z o = some (withoutP z o) := fun _ _ => rfl
    rw [if_neg hc, e, Option.bind_some, cf, Option.bind_some, cover_s (by omega) (by omega), Option.bind_some, wnSame_s (by omega) (by omega), Option.bind_some, if_pos rfl, wnOk_s (by omega) (by omega), Option.bind_some]
    by_cases h : okL r = true
    · have h40 := okL_len h
      have hf := cover_few h
      rw [if_pos h, if_neg (by omega), cf, Option.bind_some, cover_twice h, wnSame_s (by omega) (by omega), Option.bind_some, if_pos rfl, wf, Option.bind_some, wnSame_s (by omega) (by omega), Option.bind_some, if_pos rfl, wf, Option.bind_some, without_self h]
      simp only [laws_FnNetCover.j0]
      rw [if_neg (by decide)]
      by_cases e0 : (r.length : Int) = 0
      · rw [if_pos e0]
      · rw [if_neg e0]
        by_cases e1 : (r.length : Int) = 40
        · rw [if_pos e1]
        · rw [if_neg e1, Option.bind_some, if_pos (by simp only [List.length_nil]; omega), Option.bind_some, if_pos (by omega), Option.bind_some, if_pos (by simp only [List.nil_append, List.length_cons, List.length_nil]; omega), cf, Option.bind_some, List.nil_append]
          rw [show (⟨(rd_T26 r 0).f0, (rd_T26 r 0).f1⟩ : S26) = rd_T26 r 0 from rfl, cover_again h (by omega) (by omega), wnSame_s (by omega) (by omega), Option.bind_some]
    · rw [if_neg h]
      have e1 : okL r = false := by simpa using h
      unfold withoutP
      rw [if_neg (by rw [e1]; simp)]
      rfl
end Go.Proofs.Ytnakanjhdcakhaa.Pure
