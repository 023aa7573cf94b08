/- Lemmas for FnNetTop, part 5 of 5: the program's functions as Lean functions, what each Go function comes to, and plain lemmas on them. No statement of its own. -/
import Derived.Test.YtnakanjhdcakhaaC1xFnNetTop
import Derived.Test.YtnakanjhdcakhaaC2xFnNetTop
import Derived.Test.YtnakanjhdcakhaaC3xFnNetTop
import Derived.Test.YtnakanjhdcakhaaC4xFnNetTop
namespace Go.Proofs.Ytnakanjhdcakhaa.Q
open Go.RowKit Go.Proofs.YtnakanjhdcakhaaW.PrintWords Go.Proofs.YtnakanjhdcakhaaW.PrintLast Go.Proofs.YtnakanjhdcakhaaW.PrintMore
attribute [local go_sem] max2_int min2_int max_two min_two max_three min_three max_four min_four   -- for this text's walks alone
set_option linter.unusedVariables false
set_option linter.unusedSimpArgs false
mutual
def spec_DrawNetWithout.l0 : Nat → List (S26) → List (S26) → Int → List Int → Int → Option ((List (S26)) × (List (S26)))
  | 0, _, _, _, _, _ => none
  | k + 1, x5, x6, x7, x104000, x104001 => if x7 < (x5.length : Int) then ((spec_l1Rd_pick.f k x104000 x104001 2).bind fun bt112 => (spec_DrawNetWithout.j1 k x5 x6 x7 (bt112.1 == 0) x104000 bt112.2)) else (spec_DrawNetWithout.j1 k x5 x6 x7 false x104000 x104001)
def spec_DrawNetWithout.j1 : Nat → List (S26) → List (S26) → Int → Bool → List Int → Int → Option ((List (S26)) × (List (S26)))
  | 0, _, _, _, _, _, _ => none
  | k + 1, x5, x6, x7, x24, x104000, x104001 => if x24 = true then (if 0 ≤ x7 then (if x7 < (x5.length : Int) then ((spec_NetOk.f k ((rd_T26 x5 x7).f0) ((rd_T26 x5 x7).f1)).bind fun t115 => (if t115 = true then (if ((rd_T26 x5 x7).f1) < 16 then ((spec_l1Halves.f k ((rd_T26 x5 x7).f0) ((rd_T26 x5 x7).f1)).bind fun bt118 => (if x6.length < 8796093022208 then (spec_DrawNetWithout.l0 k x5 (x6 ++ [(⟨bt118.1, bt118.2.1⟩ : S26)]) (wrap64 (x7 + 1)) x104000 x104001) else (none))) else (spec_DrawNetWithout.l0 k x5 x6 (wrap64 (x7 + 1)) x104000 x104001)) else (spec_DrawNetWithout.l0 k x5 x6 (wrap64 (x7 + 1)) x104000 x104001))) else (none)) else (none)) else (some (x5, x6))
end
def spec_DrawNetWithout.f (k : Nat) (l0 : List Int) : Option ((List (S26)) × (List (S26))) := (spec_l1Open.f l0).bind fun bt101 => ((spec_l5List.f k bt101.1 bt101.2 8).bind fun bt104 => ((spec_l5List.f k bt101.1 bt104.2 6).bind fun bt108 => (spec_DrawNetWithout.l0 k bt104.1 bt108.1 0 bt101.1 bt108.2)))
theorem spec_DrawNetWithout.grown117 {w0 W W0 : World} {g : Nat} {f0 : List Int} {f1 : Int} {W1 : World} {row : Option Nat} (_ : IsS117 w0 W0 g f0 f1) (h : IsS117 w0 W g f0 f1) (hw : W.grownBy W1 row) (hne : some g ≠ row) : IsS117 w0 W1 g f0 f1 := IsS117.grown h hw hne
theorem spec_DrawNetWithout.zHB {P : Prop} (h : P := by repeat (first | (with_reducible first | exact HB.out | apply below_alloc | apply pw_below_drewN | apply below_drew1 | refine below_set ?_ (IsS117.ge HI103.out) | refine below_set ?_ GE122.out | refine below_set ?_ GE123.out) | exact HB.out)) : P := h
theorem spec_DrawNetWithout.zHI103 {P : Prop} (h : P := by repeat (first | (with_reducible first | exact HI103.out | apply IsS117.alloc | apply IsS117.drewN | apply IsS117.drew | apply IsS117.set_1 | refine IsS117.far ?_ NB103_122.out _ | refine IsS117.far ?_ NB103_123.out _) | exact HI103.out)) : P := h
theorem spec_DrawNetWithout.zr {P Q : Prop} (x : Q) (h : Q → P := by intro x_; (with_reducible repeat (first | apply Kd.R_alloc | apply Kd.R_drewN | apply Kd.R_drew)); exact x_) : P := h x
theorem spec_DrawNetWithout.zq {P Q : Prop} (x : Q) (h : Q → P := by intro x_; (with_reducible repeat (first | refine blk_drewN ?_ _ | refine blk_drew ?_ | refine blk_alloc ?_ _)); exact x_) : P := h x
theorem spec_DrawNetWithout.zk {P Q : Prop} (x : Q) (h : Q → P := by intro x_; (with_reducible repeat (first | apply Kd.R_alloc | apply Kd.R_drewN | apply Kd.R_drew)); exact x_) : P := h x
theorem spec_DrawNetWithout.y1 {P : Prop} (h : P := by (try simp only [List.map_toArray, List.map_cons, List.map_nil]); first | done | rfl | (simp only [List.length_drop, List.length_take]; rfl)) : P := h
theorem spec_DrawNetWithout.y2 {P : Prop} (h : P := by first | (with_reducible assumption) | assumption) : P := h
theorem spec_DrawNetWithout.y3 {P : Prop} (h : P := by first | rfl | (simp; done) | (simp [*]; done)) : P := h
theorem spec_DrawNetWithout.zA {p : Prop} (h : p) : Aside0 p := ⟨h⟩
set_option maxHeartbeats 8000000 in
set_option maxRecDepth 100000 in
theorem spec_DrawNetWithout.calls (k : Nat) (A0 : Option Addr) (c0 : Nat) (l0 : List Int) (r1 : List (S26)) (r2 : List (S26)) (w : World) (hr0 : Kd.C (Kd.int .u8) w A0 l0.length l0) (hc0 : l0.length ≤ c0) (h : spec_DrawNetWithout.f k l0 = some (r1, r2)) :
  Calls Try.prog 68 #[.slice A0 l0.length c0] w fun e w' => ∃ v0_ v1_ : Value, e = .returned (.tuple #[v0_, v1_]) ∧ Kd.R k26 26 w' w.heap.size (fun k_ => some k_ ≠ (v1_ : Value).ownBlock) v0_ r1 ∧ Kd.R k26 26 w' w.heap.size (fun k_ => some k_ ≠ (v0_ : Value).ownBlock) v1_ r2 ∧ Below w.heap.size w w' := by
 have hu26 := Try.underlying26
 have HR0 := zA hr0
 have HC0 := zA hc0
 clear hr0 hc0
 have HB := zA (Below.refl w.heap.size w)
 have H : ((spec_l1Open.f l0).bind fun bt101 => ((spec_l5List.f k bt101.1 bt101.2 8).bind fun bt104 => ((spec_l5List.f k bt101.1 bt104.2 6).bind fun bt108 => (spec_DrawNetWithout.l0 k bt104.1 bt108.1 0 bt101.1 bt108.2)))) = some (r1, r2) := h
 clear h
 replace H := Option.bind_eq_some_iff.mp H
 obtain ⟨⟨t101, t102⟩, A20, H⟩ := H
 replace H : ((spec_l5List.f k t101 t102 8).bind fun bt104 => ((spec_l5List.f k t101 bt104.2 6).bind fun bt108 => (spec_DrawNetWithout.l0 k bt104.1 bt108.1 0 t101 bt108.2))) = some (r1, r2) := H
 have A2 := zA A20
 clear A20
 replace H := Option.bind_eq_some_iff.mp H
 obtain ⟨⟨t104, t107⟩, A30, H⟩ := H
 replace H : ((spec_l5List.f k t101 t107 6).bind fun bt108 => (spec_DrawNetWithout.l0 k t104 bt108.1 0 t101 bt108.2)) = some (r1, r2) := H
 have A3 := zA A30
 clear A30
 replace H := Option.bind_eq_some_iff.mp H
 obtain ⟨⟨t108, t111⟩, A40, H⟩ := H
 replace H : (spec_DrawNetWithout.l0 k t104 t108 0 t101 t111) = some (r1, r2) := H
 have A4 := zA A40
 clear A40
 have H' := zA H
 clear H
 go_enter Try.func68, Try.ntmps68
 go_wp2_with (first | ((with_reducible refine gate_callee (f := 79) rfl ?_); refine goesL_ (some 11) rfl rfl Try.func79 (by kernel_rfl) rfl #[.slice A0 l0.length c0] rfl y1  ?_; (with_reducible refine (spec_l1Open.calls _ _ l0 t101 t102 w _ ?side1 ?side2 ?side3 A2.out).mono ?_); (case side1 => exact zHB); (case side2 => exact HR0.out); (case side3 => exact HC0.out); rintro e w5 ⟨g103, rfl, hi, hb, hb2⟩; refine ⟨_, rfl, ?_⟩; have n0_ := zA (hb); have n1_ := zA (hi); clear HB; have HB := n0_; have HI103 := n1_; clear n0_ n1_; (try clear hb); (try clear hb2); (try clear hk); (try clear hi)) | ((with_reducible refine gate_callee (f := 101) rfl ?_); refine goesL_ (some 13) rfl rfl Try.func101 (by kernel_rfl) rfl #[.pointer (some ⟨g103, 0, none⟩), .int .i64 8] rfl y1  ?_; (with_reducible refine (spec_l5List.calls k g103 t101 t102 8 t104 t107 w _ ?side1 ?side2 A3.out).mono ?_); (case side1 => exact zHI103); (case side2 => exact zHB); rintro e w6 ⟨v105, rfl, ho0, hi, hb, hk⟩; refine ⟨_, rfl, ?_⟩; have n0_ := zA (Kd.R_lower ho0 (below_size (zHB))); have n1_ := zA (hb); have n2_ := zA (hi); clear HB; clear HI103; have HO106 := n0_; have HB := n1_; have HI103 := n2_; clear n0_ n1_ n2_; (try clear hb); (try clear hb2); (try clear hk); (try clear hi); (try clear ho0)) | ((with_reducible refine gate_callee (f := 101) rfl ?_); refine goesL_ (some 15) rfl rfl Try.func101 (by kernel_rfl) rfl #[.pointer (some ⟨g103, 0, none⟩), .int .i64 6] rfl y1  ?_; (with_reducible refine (spec_l5List.calls k g103 t101 t107 6 t108 t111 w _ ?side1 ?side2 A4.out).mono ?_); (case side1 => exact zHI103); (case side2 => exact zHB); rintro e w7 ⟨v109, rfl, ho0, hi, hb, hk⟩; refine ⟨_, rfl, ?_⟩; have n0_ := zA (Kd.R_mono (Kd.R_told (Kd.R_oldK (IsS117.apart (show IsS117 w _ g103 t101 t107 from zHI103) (zr HO106.out) (by decide)) hk) (Kd.R_base ho0)) (fun _ h_ => h_.1)); have n1_ := zA (Kd.R_lower (Kd.R_new' ho0 (Kd.R_lt (zr HO106.out))) (below_size (zHB))); have n2_ := zA (hb); have n3_ := zA (hi); clear HO106; clear HB; clear HI103; have HO106 := n0_; have HO110 := n1_; have HB := n2_; have HI103 := n3_; clear n0_ n1_ n2_ n3_; (try clear hb); (try clear hb2); (try clear hk); (try clear hi); (try clear ho0)))
 go_loopg [6, 7] k (fun kq v6 v7 w' => ∃ (x6_1 : List (S26)) (x7_1 : Int) (x104001_1 : Int), v7 = .int .i64 x7_1 ∧ Aside0 (spec_DrawNetWithout.l0 kq t104 x6_1 x7_1 t101 x104001_1 = some (r1, r2)) ∧ Aside0 (kq ≤ k) ∧ Aside0 (Kd.R k26 26 w' w.heap.size (fun k_ => some k_ ≠ (v6 : Value).ownBlock) v105 t104) ∧ Aside0 (Kd.R k26 26 w' w.heap.size (fun k_ => some k_ ≠ (v105 : Value).ownBlock) v6 x6_1) ∧ Aside0 (IsS117 w w' g103 t101 x104001_1) ∧ Aside0 (Below w.heap.size w w'))
 case atStart => exact ⟨(t108), (0), (t111), y3 , H', ⟨Nat.le_refl _⟩, ⟨by refine zk ?_; exact Kd.R_mono HO106.out (fun _ hk => hk.2)⟩, ⟨by refine zk ?_; exact Kd.R_mono HO110.out (fun _ hk => hk.2)⟩, ⟨zHI103⟩, ⟨zHB⟩⟩
 case round =>
  clear H'
  try clear c1
  try clear p2
  try clear c6
  try clear c7
  obtain ⟨x6_1, x7_1, x104001_1, rfl, HA, HK1, HO_5, HO_6, HI103, HB⟩ := hrel
  cases gk with
  | zero => exact absurd HA.out (by simp [spec_DrawNetWithout.l0])
  | succ k1 => ?_
  have H := HA.out
  clear HA
  simp only [spec_DrawNetWithout.l0] at H
  have HC8 := zA H
  clear H
  go_upto_region 5 with (fail)
  go_cut [24] (fun v24 wc => ∃ (kq : Nat) (x24_7 : Bool) (x104001_7 : Int), v24 = .bool x24_7 ∧ Aside0 (spec_DrawNetWithout.j1 kq t104 x6_1 x7_1 x24_7 t101 x104001_7 = some (r1, r2)) ∧ Aside0 (kq ≤ k1) ∧ Aside0 (Kd.R k26 26 wc w.heap.size (fun k_ => some k_ ≠ (u6 : Value).ownBlock) v105 t104) ∧ Aside0 (Kd.R k26 26 wc w.heap.size (fun k_ => some k_ ≠ (v105 : Value).ownBlock) u6 x6_1) ∧ Aside0 (IsS117 w wc g103 t101 x104001_7) ∧ Aside0 (Below w.heap.size w wc))
  case first =>
   have H := HC8.out
   clear HC8
   by_cases c9 : x7_1 < (t104.length : Int)
   ·rw [if_pos c9] at H
    have c9b0 : decide (x7_1 < (t104.length : Int)) = true := decide_eq_true c9
    clear c9
    (first | rw [c9b0] | (simp only [i64_w, i32_w]; rw [c9b0]) | skip)
    replace H := Option.bind_eq_some_iff.mp H
    obtain ⟨⟨t112, t113⟩, A100, H⟩ := H
    replace H : (spec_DrawNetWithout.j1 k1 t104 x6_1 x7_1 (t112 == 0) t101 t113) = some (r1, r2) := H
    have A10 := zA A100
    clear A100
    have H' := zA H
    clear H
    obtain ⟨Ao11, co11, eo11⟩ := Kd.R_slice HO_5.out
    subst eo11
    go_wp2_with (first | (go_at_call 81; (with_reducible refine (spec_l1Rd_pick.calls k1 g103 t101 x104001_1 2 t112 t113 w _ ?side1 ?side2 A10.out).mono ?_); (case side1 => exact zHI103); (case side2 => exact zHB); rintro e w12 ⟨rfl, hi, hb, hk⟩; have n0_ := zA (Kd.R_mono (Kd.R_keep (IsS117.apart (show IsS117 w _ g103 t101 x104001_1 from zHI103) (zr HO_5.out) (by decide)) hk (fun _ h => h.2)) (fun _ h => h.1)); have n1_ := zA (Kd.R_mono (Kd.R_keep (IsS117.apart (show IsS117 w _ g103 t101 x104001_1 from zHI103) (zr HO_6.out) (by decide)) hk (fun _ h => h.2)) (fun _ h => h.1)); have n2_ := zA (hb); have n3_ := zA (hi); clear HO_5; clear HO_6; clear HB; clear HI103; have HO_5 := n0_; have HO_6 := n1_; have HB := n2_; have HI103 := n3_; clear n0_ n1_ n2_ n3_; (try clear hb); (try clear hb2); (try clear hk); (try clear hi)))
    go_meet
    case rel => exact ⟨_, ((t112 == 0)), (t113), y3 , H', ⟨by have := HK1.out; first | omega | exact Nat.le_refl _⟩, ⟨by refine zk ?_; exact HO_5.out⟩, ⟨by refine zk ?_; exact HO_6.out⟩, ⟨zHI103⟩, ⟨zHB⟩⟩
   rw [if_neg c9] at H
   have c9b0 : decide (x7_1 < (t104.length : Int)) = false := decide_eq_false c9
   clear c9
   (first | rw [c9b0] | (simp only [i64_w, i32_w]; rw [c9b0]) | skip)
   have H' := zA H
   clear H
   obtain ⟨Ao13, co13, eo13⟩ := Kd.R_slice HO_5.out
   subst eo13
   go_wp2
   go_meet
   case rel => exact ⟨_, (false), (x104001_1), y3 , H', ⟨by have := HK1.out; first | omega | exact Nat.le_refl _⟩, ⟨by refine zk ?_; exact HO_5.out⟩, ⟨by refine zk ?_; exact HO_6.out⟩, ⟨zHI103⟩, ⟨zHB⟩⟩
  case rest =>
   clear HC8
   try clear c1
   try clear p2
   try clear c6
   try clear c7
   try clear c9
   try clear c9b0
   try clear c10
   try clear p2
   obtain ⟨kq, x24_7, x104001_7, rfl, HA, HJ7, HO_5, HO_6, HI103, HB⟩ := hcut
   cases kq with
   | zero => exact absurd HA.out (by simp [spec_DrawNetWithout.j1])
   | succ kj7 => ?_
   have H := HA.out
   clear HA
   simp only [spec_DrawNetWithout.j1] at H
   by_cases c14 : x24_7 = true
   ·subst c14
    have H1 : (if 0 ≤ x7_1 then (if x7_1 < (t104.length : Int) then ((spec_NetOk.f kj7 ((rd_T26 t104 x7_1).f0) ((rd_T26 t104 x7_1).f1)).bind fun t115 => (if t115 = true then (if ((rd_T26 t104 x7_1).f1) < 16 then ((spec_l1Halves.f kj7 ((rd_T26 t104 x7_1).f0) ((rd_T26 t104 x7_1).f1)).bind fun bt118 => (if x6_1.length < 8796093022208 then (spec_DrawNetWithout.l0 kj7 t104 (x6_1 ++ [(⟨bt118.1, bt118.2.1⟩ : S26)]) (wrap64 (x7_1 + 1)) t101 x104001_7) else (none))) else (spec_DrawNetWithout.l0 kj7 t104 x6_1 (wrap64 (x7_1 + 1)) t101 x104001_7)) else (spec_DrawNetWithout.l0 kj7 t104 x6_1 (wrap64 (x7_1 + 1)) t101 x104001_7))) else (none)) else (none)) = some (r1, r2) := by rw [if_pos rfl] at H; exact H
    clear H
    have H := H1
    clear H1
    by_cases c15 : 0 ≤ x7_1
    ·rw [if_pos c15] at H
     have c15b0 : decide (0 ≤ x7_1) = true := decide_eq_true c15
     clear c15
     by_cases c16 : x7_1 < (t104.length : Int)
     ·rw [if_pos c16] at H
      have c16b0 : decide (x7_1 < (t104.length : Int)) = true := decide_eq_true c16
      clear c16
      replace H := Option.bind_eq_some_iff.mp H
      obtain ⟨t115, A170, H⟩ := H
      replace H : (if t115 = true then (if ((rd_T26 t104 x7_1).f1) < 16 then ((spec_l1Halves.f kj7 ((rd_T26 t104 x7_1).f0) ((rd_T26 t104 x7_1).f1)).bind fun bt118 => (if x6_1.length < 8796093022208 then (spec_DrawNetWithout.l0 kj7 t104 (x6_1 ++ [(⟨bt118.1, bt118.2.1⟩ : S26)]) (wrap64 (x7_1 + 1)) t101 x104001_7) else (none))) else (spec_DrawNetWithout.l0 kj7 t104 x6_1 (wrap64 (x7_1 + 1)) t101 x104001_7)) else (spec_DrawNetWithout.l0 kj7 t104 x6_1 (wrap64 (x7_1 + 1)) t101 x104001_7)) = some (r1, r2) := H
      have A17 := zA A170
      clear A170
      by_cases c18 : t115 = true
      ·subst c18
       have H1 : (if ((rd_T26 t104 x7_1).f1) < 16 then ((spec_l1Halves.f kj7 ((rd_T26 t104 x7_1).f0) ((rd_T26 t104 x7_1).f1)).bind fun bt118 => (if x6_1.length < 8796093022208 then (spec_DrawNetWithout.l0 kj7 t104 (x6_1 ++ [(⟨bt118.1, bt118.2.1⟩ : S26)]) (wrap64 (x7_1 + 1)) t101 x104001_7) else (none))) else (spec_DrawNetWithout.l0 kj7 t104 x6_1 (wrap64 (x7_1 + 1)) t101 x104001_7)) = some (r1, r2) := by rw [if_pos rfl] at H; exact H
       clear H
       have H := H1
       clear H1
       by_cases c19 : ((rd_T26 t104 x7_1).f1) < 16
       ·rw [if_pos c19] at H
        have c19b0 : decide (((rd_T26 t104 x7_1).f1) < 16) = true := decide_eq_true c19
        clear c19
        replace H := Option.bind_eq_some_iff.mp H
        obtain ⟨⟨t118, t119, t120, t121⟩, A200, H⟩ := H
        replace H : (if x6_1.length < 8796093022208 then (spec_DrawNetWithout.l0 kj7 t104 (x6_1 ++ [(⟨t118, t119⟩ : S26)]) (wrap64 (x7_1 + 1)) t101 x104001_7) else (none)) = some (r1, r2) := H
        have A20 := zA A200
        clear A200
        by_cases c21 : x6_1.length < 8796093022208
        ·rw [if_pos c21] at H
         have LMc21 := zA c21
         clear c21
         obtain ⟨y124, hy124⟩ : ∃ y_ : List (S26), y_ = (x6_1 ++ [(⟨t118, t119⟩ : S26)]) := ⟨_, rfl⟩
         replace H : (spec_DrawNetWithout.l0 kj7 t104 y124 (wrap64 (x7_1 + 1)) t101 x104001_7) = some (r1, r2) := by first | (rw [hy124]; with_reducible exact H) | (have H2_ := (Option.bind_some _ _).symm.trans H; rw [hy124]; with_reducible exact H2_) | (have H2_ := (Option.bind_some _ _).symm.trans H; with_reducible exact H2_) | with_reducible exact H | (rw [hy124]; exact H) | exact H
         have Ny124 := zA hy124
         clear hy124
         have H' := zA H
         clear H
         obtain ⟨Ao22, co22, eo22⟩ := Kd.R_slice HO_5.out
         subst eo22
         have p114 : 0 ≤ (x7_1 : Int) := of_decide_eq_true y2 
         have q114 : x7_1 < (t104.length : Int) := of_decide_eq_true y2 
         obtain ⟨ad114, e114, hx114_0, hx114_1⟩ := at_T26 (Kd.R_reads' HO_5.out).2.2 x7_1 p114 q114
         cases e114
         replace p114 := eq_true p114
         replace q114 := eq_true q114
         go_wp2_with (first | ((with_reducible refine gate_callee (f := 24) rfl ?_); refine goesL_ (some 31) rfl rfl Try.func24 (by kernel_rfl) rfl #[.agg #[.int .i64 ((rd_T26 t104 x7_1).f0), .int .i64 ((rd_T26 t104 x7_1).f1)]] rfl y1  ?_; (with_reducible refine (spec_NetOk.calls kj7 ((rd_T26 t104 x7_1).f0) ((rd_T26 t104 x7_1).f1) true _ A17.out).mono ?_); rintro e w23 ⟨rfl, hb⟩; refine ⟨_, rfl, ?_⟩; have n0_ := zA (Kd.R_below (zr HO_5.out) hb); have n1_ := zA (Kd.R_below (zr HO_6.out) hb); have n2_ := zA (IsS117.below (zHI103) hb); have n3_ := zA (below_step (zHB) hb); clear HO_5; clear HO_6; clear HI103; clear HB; have HO_5 := n0_; have HO_6 := n1_; have HI103 := n2_; have HB := n3_; clear n0_ n1_ n2_ n3_; (try clear hb); (try clear hb2); (try clear hk); (try clear hi); have p116 : 0 ≤ (x7_1 : Int) := of_decide_eq_true y2 ; have q116 : x7_1 < (t104.length : Int) := of_decide_eq_true y2 ; obtain ⟨ad116, e116, hx116_0, hx116_1⟩ := at_T26 (Kd.R_reads' HO_5.out).2.2 x7_1 p116 q116; obtain rfl : ad114 = ad116 := (by injection e116); replace p116 := eq_true p116; replace q116 := eq_true q116; have p117 : 0 ≤ (x7_1 : Int) := of_decide_eq_true y2 ; have q117 : x7_1 < (t104.length : Int) := of_decide_eq_true y2 ; obtain ⟨ad117, e117, hx117_0, hx117_1⟩ := at_T26 (Kd.R_reads' HO_5.out).2.2 x7_1 p117 q117; obtain rfl : ad114 = ad117 := (by injection e117); replace p117 := eq_true p117; replace q117 := eq_true q117) | ((with_reducible refine gate_callee (f := 93) rfl ?_); refine goesL_ (some 45) rfl rfl Try.func93 (by kernel_rfl) rfl #[.agg #[.int .i64 ((rd_T26 t104 x7_1).f0), .int .i64 ((rd_T26 t104 x7_1).f1)]] rfl y1  ?_; (with_reducible refine (spec_l1Halves.calls kj7 ((rd_T26 t104 x7_1).f0) ((rd_T26 t104 x7_1).f1) t118 t119 t120 t121 _ A20.out).mono ?_); rintro e w24 ⟨rfl, hb⟩; refine ⟨_, rfl, ?_⟩; have n0_ := zA (Kd.R_below (zr HO_5.out) hb); have n1_ := zA (Kd.R_below (zr HO_6.out) hb); have n2_ := zA (IsS117.below (zHI103) hb); have n3_ := zA (below_step (zHB) hb); clear HO_5; clear HO_6; clear HI103; clear HB; have HO_5 := n0_; have HO_6 := n1_; have HI103 := n2_; have HB := n3_; clear n0_ n1_ n2_ n3_; (try clear hb); (try clear hb2); (try clear hk); (try clear hi)) | ((with_reducible refine gate_dst (N := 8) rfl ?_); refine box_event ?hg (N := 8) ?hd (cs := #[.int .i64 0, .int .i64 0]) (t := 26) ?hr ?_; (case hd => rfl); (case hg => rfl); (case hr => first | (go_simp; done) | (go_simp; rfl)); intro gb122 hg w25 hbox hb; have n0_ := zA (Kd.R_below (Kd.R_elderB (zr HO_5.out) gb122 (Nat.le_of_eq hg.symm)) hb); have n1_ := zA (Kd.R_below (Kd.R_elderB (zr HO_6.out) gb122 (Nat.le_of_eq hg.symm)) hb); have n2_ := zA (IsS117.below (zHI103) hb); have n3_ := zA (below_step (zHB) hb); have n4_ := zA (hbox); have n5_ := zA ((by rw [hg]; exact (below_size (zHB)) : w.heap.size ≤ gb122)); have n6_ := zA ((by rw [hg]; exact (below_size (zHB)) : w.heap.size ≤ gb122)); have n7_ := zA ((by rw [hg]; exact Nat.ne_of_lt (IsS117.lt (show IsS117 w _ g103 t101 x104001_7 from zHI103)) : g103 ≠ gb122)); have n8_ := zA ((by rw [hg]; exact Nat.ne_of_gt (IsS117.lt (show IsS117 w _ g103 t101 x104001_7 from zHI103)) : gb122 ≠ g103)); clear HO_5; clear HO_6; clear HI103; clear HB; have HO_5 := n0_; have HO_6 := n1_; have HI103 := n2_; have HB := n3_; have BK122 := n4_; have GW122 := n5_; have GE122 := n6_; have NB103_122 := n7_; have NB122_103 := n8_; clear n0_ n1_ n2_ n3_ n4_ n5_ n6_ n7_ n8_; clear hb hbox hg) | ((with_reducible refine gate_dst (N := 9) rfl ?_); refine box_event ?hg (N := 9) ?hd (cs := #[.int .i64 0, .int .i64 0]) (t := 26) ?hr ?_; (case hd => rfl); (case hg => rfl); (case hr => first | (go_simp; done) | (go_simp; rfl)); intro gb123 hg w26 hbox hb; have n0_ := zA (Kd.R_below (Kd.R_elderB (zr HO_5.out) gb123 (Nat.le_of_eq hg.symm)) hb); have n1_ := zA (Kd.R_below (Kd.R_elderB (zr HO_6.out) gb123 (Nat.le_of_eq hg.symm)) hb); have n2_ := zA (IsS117.below (zHI103) hb); have n3_ := zA (blk_below (g := gb122) (o := .cells #[.int .i64 0, .int .i64 0] 26 (0, 0)) (by refine zq ?_; exact BK122.out) hb); have n4_ := zA (below_step (zHB) hb); have n5_ := zA (hbox); have n6_ := zA ((by rw [hg]; exact (below_size (zHB)) : w.heap.size ≤ gb123)); have n7_ := zA ((by rw [hg]; exact (below_size (zHB)) : w.heap.size ≤ gb123)); have n8_ := zA ((by rw [hg]; exact Nat.ne_of_lt (blk_lt (g := gb122) (o := .cells #[.int .i64 0, .int .i64 0] 26 (0, 0)) (by refine zq ?_; exact BK122.out)) : gb122 ≠ gb123)); have n9_ := zA ((by rw [hg]; exact Nat.ne_of_gt (blk_lt (g := gb122) (o := .cells #[.int .i64 0, .int .i64 0] 26 (0, 0)) (by refine zq ?_; exact BK122.out)) : gb123 ≠ gb122)); have n10_ := zA ((by rw [hg]; exact Nat.ne_of_lt (IsS117.lt (show IsS117 w _ g103 t101 x104001_7 from zHI103)) : g103 ≠ gb123)); have n11_ := zA ((by rw [hg]; exact Nat.ne_of_gt (IsS117.lt (show IsS117 w _ g103 t101 x104001_7 from zHI103)) : gb123 ≠ g103)); clear HO_5; clear HO_6; clear HI103; clear BK122; clear HB; have HO_5 := n0_; have HO_6 := n1_; have HI103 := n2_; have BK122 := n3_; have HB := n4_; have BK123 := n5_; have GW123 := n6_; have GE123 := n7_; have NB122_123 := n8_; have NB123_122 := n9_; have NB103_123 := n10_; have NB123_103 := n11_; clear n0_ n1_ n2_ n3_ n4_ n5_ n6_ n7_ n8_ n9_ n10_ n11_; clear hb hbox hg; have hnb27 := NB122_123.out; have hnc27 := NB123_122.out; have hnb28 := NB122_103.out; have hnc28 := NB103_122.out; have hcz29_0 : w26.cell? ⟨gb122, 0, none⟩ = some (.int .i64 0) := (blk_cell BK122.out 0).trans rfl; have hcz29_1 : w26.cell? ⟨gb122, 1, none⟩ = some (.int .i64 0) := (blk_cell BK122.out 1).trans rfl; have hfz29_0 := blk_frozen BK122.out 0; have hfz29_1 := blk_frozen BK122.out 1; have hnb30 := NB123_103.out; have hnc30 := NB103_123.out; have hcz31_0 : w26.cell? ⟨gb123, 0, none⟩ = some (.int .i64 0) := (blk_cell BK123.out 0).trans rfl; have hcz31_1 : w26.cell? ⟨gb123, 1, none⟩ = some (.int .i64 0) := (blk_cell BK123.out 1).trans rfl; have hfz31_0 := blk_frozen BK123.out 0; have hfz31_1 := blk_frozen BK123.out 1) | ((with_reducible refine gate_builtin (b := .append) (xs := #[.tmp 48, .tmp 50]) rfl ?_); at_builtin; refine Kd.R_append k26 (w0 := w) w.heap.size rfl (.tmp 48) (.tmp 50) 58 26 (.agg #[(.int .i64 0), (.int .i64 0)]) 16 rfl Try.underlying58 info26 rfl (by decide) (by omega) u6 x6_1 (⟨t118, t119⟩ : S26) [.int .i64 t118, .int .i64 t119] (fun k_ => some k_ ≠ (.slice (some ad114) t104.length co22 : Value).ownBlock ∧ k_ ≠ gb122 ∧ k_ ≠ gb123) (fun _ => False) rfl (by first | (go_simp; done) | (go_simp; rfl)) ?aP (fun _ hk => hk.elim) ?aF ?aO ?aB ?aS ?aL ?_; (case aP => exact k26_mkM _ _ _ (⟨t118, t119⟩ : S26)); (case aB => exact (zHB)); (case aF => exact (fun k_ hk => ⟨Kd.fresh' (Kd.R_lt (by refine zk ?_; exact (Kd.R_mono (Kd.R_mono (Kd.R_far (p := ⟨gb123, 1, none⟩) (Kd.R_far (p := ⟨gb123, 0, none⟩) (Kd.R_far (p := ⟨gb122, 1, none⟩) (Kd.R_far (p := ⟨gb122, 0, none⟩) (Kd.R_mono (Kd.R_mono HO_5.out (fun k_ hk => (⟨hk, hk.1.2⟩ : _ ∧ k_ ≠ gb122))) (fun k_ hk => (⟨hk, hk.1.2⟩ : _ ∧ k_ ≠ gb123))) (fun _ hk => hk.1.2) (.int .i64 t118)) (fun _ hk => hk.1.2) (.int .i64 t119)) (fun _ hk => hk.2) (.int .i64 t120)) (fun _ hk => hk.2) (.int .i64 t121)) (fun _ h_ => h_.1)) (fun _ h_ => h_.1)))) k_ hk, Kd.freshB (g := gb122) (o := .cells #[.int .i64 t118, .int .i64 t119] 26 (0, 0)) (by refine zq ?_; refine blk_far ?_ NB122_123.out _; refine zq ?_; refine blk_far ?_ NB122_123.out _; refine zq ?_; refine blk_put (cs := #[.int .i64 t118, .int .i64 0]) ?_ 1 _ rfl; refine zq ?_; refine blk_put (cs := #[.int .i64 0, .int .i64 0]) ?_ 0 _ rfl; refine zq ?_; exact BK122.out) k_ hk, Kd.freshB (g := gb123) (o := .cells #[.int .i64 t120, .int .i64 t121] 26 (0, 0)) (by refine zq ?_; refine blk_put (cs := #[.int .i64 t120, .int .i64 0]) ?_ 1 _ rfl; refine zq ?_; refine blk_put (cs := #[.int .i64 0, .int .i64 0]) ?_ 0 _ rfl; refine zq ?_; refine blk_far ?_ NB123_122.out _; refine zq ?_; refine blk_far ?_ NB123_122.out _; refine zq ?_; exact BK123.out) k_ hk⟩)); (case aO => exact (by refine zk ?_; exact Kd.R_mono (Kd.R_far (p := ⟨gb123, 1, none⟩) (Kd.R_far (p := ⟨gb123, 0, none⟩) (Kd.R_far (p := ⟨gb122, 1, none⟩) (Kd.R_far (p := ⟨gb122, 0, none⟩) (Kd.R_mono (Kd.R_mono HO_6.out (fun k_ hk => (⟨hk, hk.1.2⟩ : _ ∧ k_ ≠ gb122))) (fun k_ hk => (⟨hk, hk.1.2⟩ : _ ∧ k_ ≠ gb123))) (fun _ hk => hk.1.2) (.int .i64 t118)) (fun _ hk => hk.1.2) (.int .i64 t119)) (fun _ hk => hk.2) (.int .i64 t120)) (fun _ hk => hk.2) (.int .i64 t121)) (fun _ hk => ⟨hk.1.1.1.1, ⟨hk.1.1.1.2, hk.1.1.2⟩⟩))); (case aS => exact (below_size (zHB))); (case aL => have := LMc21.out; omega); intro v125 w32 ho hb hg hat; rw [← Ny124.out] at ho; have n0_ := zA (Kd.R_after (ok := (fun k_ => k_ ≠ gb122 ∧ k_ ≠ gb123)) (by refine zk ?_; exact Kd.R_mono (Kd.R_far (p := ⟨gb123, 1, none⟩) (Kd.R_far (p := ⟨gb123, 0, none⟩) (Kd.R_far (p := ⟨gb122, 1, none⟩) (Kd.R_far (p := ⟨gb122, 0, none⟩) (Kd.R_mono (Kd.R_mono HO_5.out (fun k_ hk => (⟨hk, hk.1.2⟩ : _ ∧ k_ ≠ gb122))) (fun k_ hk => (⟨hk, hk.1.2⟩ : _ ∧ k_ ≠ gb123))) (fun _ hk => hk.1.2) (.int .i64 t118)) (fun _ hk => hk.1.2) (.int .i64 t119)) (fun _ hk => hk.2) (.int .i64 t120)) (fun _ hk => hk.2) (.int .i64 t121)) (fun _ hk => ⟨⟨hk.1.1.1.2, hk.1.1.2⟩, hk.1.1.1.1⟩)) hg hat); have n1_ := zA (spec_DrawNetWithout.grown117 HI103.out (zHI103) hg (IsS117.own_ne HI103.out HO_6.out (by decide))); have n2_ := zA (blk_grown (g := gb122) (o := .cells #[.int .i64 t118, .int .i64 t119] 26 (0, 0)) (by refine zq ?_; refine blk_far ?_ NB122_123.out _; refine zq ?_; refine blk_far ?_ NB122_123.out _; refine zq ?_; refine blk_put (cs := #[.int .i64 t118, .int .i64 0]) ?_ 1 _ rfl; refine zq ?_; refine blk_put (cs := #[.int .i64 0, .int .i64 0]) ?_ 0 _ rfl; refine zq ?_; exact BK122.out) hg (Kd.R_away HO_6.out (fun _ hk => hk.1.2))); have n3_ := zA (blk_grown (g := gb123) (o := .cells #[.int .i64 t120, .int .i64 t121] 26 (0, 0)) (by refine zq ?_; refine blk_put (cs := #[.int .i64 t120, .int .i64 0]) ?_ 1 _ rfl; refine zq ?_; refine blk_put (cs := #[.int .i64 0, .int .i64 0]) ?_ 0 _ rfl; refine zq ?_; refine blk_far ?_ NB123_122.out _; refine zq ?_; refine blk_far ?_ NB123_122.out _; refine zq ?_; exact BK123.out) hg (Kd.R_away HO_6.out (fun _ hk => hk.2))); have n4_ := zA (hb); have n5_ := zA (ho); clear HO_5; clear HI103; clear BK122; clear BK123; clear HB; clear HO_6; have HO_5 := n0_; have HI103 := n1_; have BK122 := n2_; have BK123 := n3_; have HB := n4_; have HO126 := n5_; clear n0_ n1_ n2_ n3_ n4_ n5_; clear ho hb hg hat))
         go_roundg kj7
         case measure => have := HK1.out; have := HJ7.out; omega
         case rel => exact ⟨(y124), (wrap64 (x7_1 + 1)), (x104001_7), y3 , H', ⟨by have := HK1.out; have := HJ7.out; omega⟩, ⟨by refine zk ?_; exact Kd.R_mono HO_5.out (fun _ hk => hk.2)⟩, ⟨by refine zk ?_; exact Kd.R_mono HO126.out (fun _ hk => hk.1)⟩, ⟨zHI103⟩, ⟨zHB⟩⟩
        rw [if_neg c21] at H
        exact absurd H (by simp)
       rw [if_neg c19] at H
       have c19b0 : decide (((rd_T26 t104 x7_1).f1) < 16) = false := decide_eq_false c19
       clear c19
       have H' := zA H
       clear H
       obtain ⟨Ao33, co33, eo33⟩ := Kd.R_slice HO_5.out
       subst eo33
       have p114 : 0 ≤ (x7_1 : Int) := of_decide_eq_true y2 
       have q114 : x7_1 < (t104.length : Int) := of_decide_eq_true y2 
       obtain ⟨ad114, e114, hx114_0, hx114_1⟩ := at_T26 (Kd.R_reads' HO_5.out).2.2 x7_1 p114 q114
       cases e114
       replace p114 := eq_true p114
       replace q114 := eq_true q114
       go_wp2_with (first | ((with_reducible refine gate_callee (f := 24) rfl ?_); refine goesL_ (some 31) rfl rfl Try.func24 (by kernel_rfl) rfl #[.agg #[.int .i64 ((rd_T26 t104 x7_1).f0), .int .i64 ((rd_T26 t104 x7_1).f1)]] rfl y1  ?_; (with_reducible refine (spec_NetOk.calls kj7 ((rd_T26 t104 x7_1).f0) ((rd_T26 t104 x7_1).f1) true _ A17.out).mono ?_); rintro e w34 ⟨rfl, hb⟩; refine ⟨_, rfl, ?_⟩; have n0_ := zA (Kd.R_below (zr HO_5.out) hb); have n1_ := zA (Kd.R_below (zr HO_6.out) hb); have n2_ := zA (IsS117.below (zHI103) hb); have n3_ := zA (below_step (zHB) hb); clear HO_5; clear HO_6; clear HI103; clear HB; have HO_5 := n0_; have HO_6 := n1_; have HI103 := n2_; have HB := n3_; clear n0_ n1_ n2_ n3_; (try clear hb); (try clear hb2); (try clear hk); (try clear hi); have p116 : 0 ≤ (x7_1 : Int) := of_decide_eq_true y2 ; have q116 : x7_1 < (t104.length : Int) := of_decide_eq_true y2 ; obtain ⟨ad116, e116, hx116_0, hx116_1⟩ := at_T26 (Kd.R_reads' HO_5.out).2.2 x7_1 p116 q116; obtain rfl : ad114 = ad116 := (by injection e116); replace p116 := eq_true p116; replace q116 := eq_true q116))
       go_roundg kj7
       case measure => have := HK1.out; have := HJ7.out; omega
       case rel => exact ⟨(x6_1), (wrap64 (x7_1 + 1)), (x104001_7), y3 , H', ⟨by have := HK1.out; have := HJ7.out; omega⟩, ⟨by refine zk ?_; exact HO_5.out⟩, ⟨by refine zk ?_; exact HO_6.out⟩, ⟨zHI103⟩, ⟨zHB⟩⟩
      replace c18 := Bool.eq_false_iff.mpr c18
      subst c18
      have H1 : (spec_DrawNetWithout.l0 kj7 t104 x6_1 (wrap64 (x7_1 + 1)) t101 x104001_7) = some (r1, r2) := by rw [if_neg (show ¬ (false = true) by decide)] at H; exact H
      clear H
      have H := H1
      clear H1
      have H' := zA H
      clear H
      obtain ⟨Ao35, co35, eo35⟩ := Kd.R_slice HO_5.out
      subst eo35
      have p114 : 0 ≤ (x7_1 : Int) := of_decide_eq_true y2 
      have q114 : x7_1 < (t104.length : Int) := of_decide_eq_true y2 
      obtain ⟨ad114, e114, hx114_0, hx114_1⟩ := at_T26 (Kd.R_reads' HO_5.out).2.2 x7_1 p114 q114
      cases e114
      replace p114 := eq_true p114
      replace q114 := eq_true q114
      go_wp2_with (first | ((with_reducible refine gate_callee (f := 24) rfl ?_); refine goesL_ (some 31) rfl rfl Try.func24 (by kernel_rfl) rfl #[.agg #[.int .i64 ((rd_T26 t104 x7_1).f0), .int .i64 ((rd_T26 t104 x7_1).f1)]] rfl y1  ?_; (with_reducible refine (spec_NetOk.calls kj7 ((rd_T26 t104 x7_1).f0) ((rd_T26 t104 x7_1).f1) false _ A17.out).mono ?_); rintro e w36 ⟨rfl, hb⟩; refine ⟨_, rfl, ?_⟩; have n0_ := zA (Kd.R_below (zr HO_5.out) hb); have n1_ := zA (Kd.R_below (zr HO_6.out) hb); have n2_ := zA (IsS117.below (zHI103) hb); have n3_ := zA (below_step (zHB) hb); clear HO_5; clear HO_6; clear HI103; clear HB; have HO_5 := n0_; have HO_6 := n1_; have HI103 := n2_; have HB := n3_; clear n0_ n1_ n2_ n3_; (try clear hb); (try clear hb2); (try clear hk); (try clear hi)))
      go_roundg kj7
      case measure => have := HK1.out; have := HJ7.out; omega
      case rel => exact ⟨(x6_1), (wrap64 (x7_1 + 1)), (x104001_7), y3 , H', ⟨by have := HK1.out; have := HJ7.out; omega⟩, ⟨by refine zk ?_; exact HO_5.out⟩, ⟨by refine zk ?_; exact HO_6.out⟩, ⟨zHI103⟩, ⟨zHB⟩⟩
     rw [if_neg c16] at H
     exact absurd H (by simp)
    rw [if_neg c15] at H
    exact absurd H (by simp)
   replace c14 := Bool.eq_false_iff.mpr c14
   subst c14
   have H1 : (some (t104, x6_1)) = some (r1, r2) := by rw [if_neg (show ¬ (false = true) by decide)] at H; exact H
   clear H
   have H := H1
   clear H1
   simp only [Option.some.injEq, Prod.mk.injEq] at H
   obtain ⟨rfl, rfl⟩ := H
   go_wp2
   go_ret2
   exact ⟨_, _, by first | rfl | (simp [errW_none, errW_some] <;> rfl) | (simp [*, errW_none, errW_some] <;> rfl), by refine zk ?_; exact HO_5.out, by refine zk ?_; exact HO_6.out, zHB⟩
end Go.Proofs.Ytnakanjhdcakhaa.Q
namespace Go.Proofs.Ytnakanjhdcakhaa.Q
open Go.RowKit Go.Proofs.YtnakanjhdcakhaaW.PrintWords Go.Proofs.YtnakanjhdcakhaaW.PrintLast Go.Proofs.YtnakanjhdcakhaaW.PrintMore
attribute [local go_sem] max2_int min2_int max_two min_two max_three min_three max_four min_four   -- for this text's walks alone
set_option linter.unusedVariables false
set_option linter.unusedSimpArgs false
def laws_wnHas.l0 : Nat → List (S26) → Int → Int → Option (Bool)
  | 0, _, _, _ => none
  | k + 1, x0, x1, x5 => if x5 < (x0.length : Int) then (if 0 ≤ x5 then ((spec_NetHas.f k ((rd_T26 x0 x5).f0) ((rd_T26 x0 x5).f1) x1).bind fun t102 => (if t102 = true then (some true) else (laws_wnHas.l0 k x0 x1 (wrap64 (x5 + 1))))) else (none)) else (some false)
def laws_wnHas.f (k : Nat) (l0 : List (S26)) (a1 : Int) : Option (Bool) := laws_wnHas.l0 k l0 a1 0
set_option maxHeartbeats 8000000 in
set_option maxRecDepth 100000 in
theorem laws_wnHas.calls (k : Nat) (A0 : Option Addr) (c0 : Nat) (l0 : List (S26)) (a1 : Int) (r : Bool) (w : World) (hr0 : Kd.C k26 w A0 l0.length l0) (hc0 : l0.length ≤ c0) (h : laws_wnHas.f k l0 a1 = some r) :
    Calls Try.prog 69 #[.slice A0 l0.length c0, .int .i64 a1] w fun e w' => e = .returned (.bool r) ∧ Below w.heap.size w w' := by
  have hu26 := Try.underlying26
  have HR0 := Aside0.mk hr0
  have HC0 := Aside0.mk hc0
  clear hr0 hc0
  have HB := Aside0.mk (Below.refl w.heap.size w)
  have H : (laws_wnHas.l0 k l0 a1 0) = some r := h
  clear h
  have H' := Aside0.mk H
  clear H
  go_enter Try.func69, Try.ntmps69
  go_wp2
  go_loopg [5] k (fun kq v5 w' => ∃ (x5_1 : Int), v5 = .int .i64 x5_1 ∧ Aside0 (laws_wnHas.l0 kq l0 a1 x5_1 = some r) ∧ Aside0 (kq ≤ k) ∧ Aside0 (Below w.heap.size w w'))
  case atStart => exact ⟨(0), (by first | rfl | (simp; done) | (simp [*]; done)), H', ⟨Nat.le_refl _⟩, ⟨by repeat (first | (with_reducible first | exact HB.out | apply below_alloc | apply pw_below_drewN | apply below_drew1) | exact HB.out)⟩⟩
  case round =>
    clear H'
    try clear p2
    obtain ⟨x5_1, rfl, HA, HK1, HB⟩ := hrel
    cases gk with
    | zero => exact absurd HA.out (by simp [laws_wnHas.l0])
    | succ k1 =>
      have H := HA.out
      clear HA
      simp only [laws_wnHas.l0] at H
      by_cases c3 : x5_1 < (l0.length : Int)
      · rw [if_pos c3] at H
        have c3b0 : decide (x5_1 < (l0.length : Int)) = true := decide_eq_true c3
        clear c3
        by_cases c4 : 0 ≤ x5_1
        · rw [if_pos c4] at H
          have c4b0 : decide (0 ≤ x5_1) = true := decide_eq_true c4
          clear c4
          replace H := Option.bind_eq_some_iff.mp H
          obtain ⟨t102, A50, H⟩ := H
          replace H : (if t102 = true then (some true) else (laws_wnHas.l0 k1 l0 a1 (wrap64 (x5_1 + 1)))) = some r := H
          have A5 := Aside0.mk A50
          clear A50
          by_cases c6 : t102 = true
          · subst c6
            have H1 : (some true) = some r := by rw [if_pos rfl] at H; exact H
            clear H
            have H := H1
            clear H1
            obtain rfl := Option.some.inj H
            have p101 : 0 ≤ (x5_1 : Int) := of_decide_eq_true (by first | (with_reducible assumption) | assumption)
            have q101 : x5_1 < (l0.length : Int) := of_decide_eq_true (by first | (with_reducible assumption) | assumption)
            obtain ⟨ad101, e101, hx101_0, hx101_1⟩ := at_T26 HR0.out x5_1 p101 q101
            cases e101
            replace hx101_0 := (HB.out.cell (World.block_lt_of_cell? w _ hx101_0)).trans hx101_0
            replace hx101_1 := (HB.out.cell (World.block_lt_of_cell? w _ hx101_1)).trans hx101_1
            replace p101 := eq_true p101
            replace q101 := eq_true q101
            go_wp2_with (first | ((with_reducible refine gate_callee (f := 33) rfl ?_); refine goesL_ (some 17) rfl rfl Try.func33 (by kernel_rfl) rfl #[.agg #[.int .i64 ((rd_T26 l0 x5_1).f0), .int .i64 ((rd_T26 l0 x5_1).f1)], .int .i64 a1] rfl (by (try simp only [List.map_toArray, List.map_cons, List.map_nil]); first | done | rfl | (simp only [List.length_drop, List.length_take]; rfl)) ?_; (with_reducible refine (spec_NetHas.calls k1 ((rd_T26 l0 x5_1).f0) ((rd_T26 l0 x5_1).f1) a1 true _ A5.out).mono ?_); rintro e w7 ⟨rfl, hb⟩; refine ⟨_, rfl, ?_⟩; have n0_ := Aside0.mk (below_step (by repeat (first | (with_reducible first | exact HB.out | apply below_alloc | apply pw_below_drewN | apply below_drew1) | exact HB.out)) hb); clear HB; have HB := n0_; clear n0_; (try clear hb); (try clear hb2); (try clear hk); (try clear hi)))
            go_ret
            exact ⟨by first | rfl | (simp [errW_none, errW_some] <;> rfl) | (simp [*, errW_none, errW_some] <;> rfl), by repeat (first | (with_reducible first | exact HB.out | apply below_alloc | apply pw_below_drewN | apply below_drew1) | exact HB.out)⟩
          · replace c6 := Bool.eq_false_iff.mpr c6
            subst c6
            have H1 : (laws_wnHas.l0 k1 l0 a1 (wrap64 (x5_1 + 1))) = some r := by rw [if_neg (show ¬ (false = true) by decide)] at H; exact H
            clear H
            have H := H1
            clear H1
            have H' := Aside0.mk H
            clear H
            have p101 : 0 ≤ (x5_1 : Int) := of_decide_eq_true (by first | (with_reducible assumption) | assumption)
            have q101 : x5_1 < (l0.length : Int) := of_decide_eq_true (by first | (with_reducible assumption) | assumption)
            obtain ⟨ad101, e101, hx101_0, hx101_1⟩ := at_T26 HR0.out x5_1 p101 q101
            cases e101
            replace hx101_0 := (HB.out.cell (World.block_lt_of_cell? w _ hx101_0)).trans hx101_0
            replace hx101_1 := (HB.out.cell (World.block_lt_of_cell? w _ hx101_1)).trans hx101_1
            replace p101 := eq_true p101
            replace q101 := eq_true q101
            go_wp2_with (first | ((with_reducible refine gate_callee (f := 33) rfl ?_); refine goesL_ (some 17) rfl rfl Try.func33 (by kernel_rfl) rfl #[.agg #[.int .i64 ((rd_T26 l0 x5_1).f0), .int .i64 ((rd_T26 l0 x5_1).f1)], .int .i64 a1] rfl (by (try simp only [List.map_toArray, List.map_cons, List.map_nil]); first | done | rfl | (simp only [List.length_drop, List.length_take]; rfl)) ?_; (with_reducible refine (spec_NetHas.calls k1 ((rd_T26 l0 x5_1).f0) ((rd_T26 l0 x5_1).f1) a1 false _ A5.out).mono ?_); rintro e w8 ⟨rfl, hb⟩; refine ⟨_, rfl, ?_⟩; have n0_ := Aside0.mk (below_step (by repeat (first | (with_reducible first | exact HB.out | apply below_alloc | apply pw_below_drewN | apply below_drew1) | exact HB.out)) hb); clear HB; have HB := n0_; clear n0_; (try clear hb); (try clear hb2); (try clear hk); (try clear hi)))
            go_roundg k1
            case measure => have := HK1.out; omega
            case rel => exact ⟨(wrap64 (x5_1 + 1)), (by first | rfl | (simp; done) | (simp [*]; done)), H', ⟨by have := HK1.out; omega⟩, ⟨by repeat (first | (with_reducible first | exact HB.out | apply below_alloc | apply pw_below_drewN | apply below_drew1) | exact HB.out)⟩⟩
        · rw [if_neg c4] at H
          exact absurd H (by simp)
      · rw [if_neg c3] at H
        have c3b0 : decide (x5_1 < (l0.length : Int)) = false := decide_eq_false c3
        clear c3
        obtain rfl := Option.some.inj H
        go_wp2
        go_ret
        exact ⟨by first | rfl | (simp [errW_none, errW_some] <;> rfl) | (simp [*, errW_none, errW_some] <;> rfl), by repeat (first | (with_reducible first | exact HB.out | apply below_alloc | apply pw_below_drewN | apply below_drew1) | exact HB.out)⟩
end Go.Proofs.Ytnakanjhdcakhaa.Q
namespace Go.Proofs.Ytnakanjhdcakhaa.Q
open Go.RowKit Go.Proofs.YtnakanjhdcakhaaW.PrintWords Go.Proofs.YtnakanjhdcakhaaW.PrintLast Go.Proofs.YtnakanjhdcakhaaW.PrintMore
attribute [local go_sem] max2_int min2_int max_two min_two max_three min_three max_four min_four   -- for this text's walks alone
set_option linter.unusedVariables false
set_option linter.unusedSimpArgs false
mutual
def laws_FnNetTop.j0 : Nat → List (S26) → List (S26) → List (S26) → Bool → Option (Bool)
  | 0, _, _, _, _ => none
  | k + 1, x3, x4, x5, x36 => if x36 = true then (some ((x5.length : Int) == 0)) else (laws_FnNetTop.l0 k x3 x4 x5 0 0)
def laws_FnNetTop.l0 : Nat → List (S26) → List (S26) → List (S26) → Int → Int → Option (Bool)
  | 0, _, _, _, _, _ => none
  | k + 1, x3, x4, x5, x6, x7 => if x7 < (x5.length : Int) then (if 0 ≤ x7 then ((spec_NetOk.f k ((rd_T26 x5 x7).f0) ((rd_T26 x5 x7).f1)).bind fun t117 => (if t117 = true then (laws_FnNetTop.j2 k x3 x4 x5 x6 x7 (decide (((rd_T26 x5 x7).f0) < x6))) else (laws_FnNetTop.j2 k x3 x4 x5 x6 x7 true))) else (none)) else (laws_FnNetTop.l3 k x3 x4 x6)
def laws_FnNetTop.j2 : Nat → List (S26) → List (S26) → List (S26) → Int → Int → Bool → Option (Bool)
  | 0, _, _, _, _, _, _ => none
  | k + 1, x3, x4, x5, x6, x7, x60 => if x60 = true then (some false) else (if 0 ≤ x7 then (if x7 < (x5.length : Int) then (if 0 ≤ (wrap64 (16 - ((rd_T26 x5 x7).f1))) then (if x7 > 0 then (if 0 ≤ (wrap64 (x7 - 1)) then (if (wrap64 (x7 - 1)) < (x5.length : Int) then (if ((rd_T26 x5 (wrap64 (x7 - 1))).f1) = ((rd_T26 x5 x7).f1) then (if (wrap64 (((rd_T26 x5 (wrap64 (x7 - 1))).f0) + (shl .i64 1 (wrap64 (16 - ((rd_T26 x5 x7).f1)))))) = ((rd_T26 x5 x7).f0) then (if (wrap64 (2 * (shl .i64 1 (wrap64 (16 - ((rd_T26 x5 x7).f1)))))) = 0 then (none) else (laws_FnNetTop.j3 k x3 x4 x5 x6 x7 (shl .i64 1 (wrap64 (16 - ((rd_T26 x5 x7).f1)))) ((Int.tmod ((rd_T26 x5 (wrap64 (x7 - 1))).f0) (wrap64 (2 * (shl .i64 1 (wrap64 (16 - ((rd_T26 x5 x7).f1))))))) == 0))) else (laws_FnNetTop.j3 k x3 x4 x5 x6 x7 (shl .i64 1 (wrap64 (16 - ((rd_T26 x5 x7).f1)))) false)) else (laws_FnNetTop.j3 k x3 x4 x5 x6 x7 (shl .i64 1 (wrap64 (16 - ((rd_T26 x5 x7).f1)))) false)) else (none)) else (none)) else (laws_FnNetTop.j3 k x3 x4 x5 x6 x7 (shl .i64 1 (wrap64 (16 - ((rd_T26 x5 x7).f1)))) false)) else (none)) else (none)) else (none))
def laws_FnNetTop.j3 : Nat → List (S26) → List (S26) → List (S26) → Int → Int → Int → Bool → Option (Bool)
  | 0, _, _, _, _, _, _, _ => none
  | k + 1, x3, x4, x5, x6, x7, x8, x111 => if x111 = true then (some false) else (laws_FnNetTop.l1 k x3 x4 x5 x7 x8 x6)
def laws_FnNetTop.l1 : Nat → List (S26) → List (S26) → List (S26) → Int → Int → Int → Option (Bool)
  | 0, _, _, _, _, _, _ => none
  | k + 1, x3, x4, x5, x7, x8, x9 => if 0 ≤ x7 then (if x7 < (x5.length : Int) then (if x9 < ((rd_T26 x5 x7).f0) then ((laws_wnHas.f k x3 x9).bind fun t126 => (if t126 = true then ((laws_wnHas.f k x4 x9).bind fun t127 => (if t127 = true then (laws_FnNetTop.l1 k x3 x4 x5 x7 x8 (wrap64 (x9 + 1))) else (some false))) else (laws_FnNetTop.l1 k x3 x4 x5 x7 x8 (wrap64 (x9 + 1))))) else (laws_FnNetTop.l2 k x3 x4 x5 x7 x8 ((rd_T26 x5 x7).f0))) else (none)) else (none)
def laws_FnNetTop.l2 : Nat → List (S26) → List (S26) → List (S26) → Int → Int → Int → Option (Bool)
  | 0, _, _, _, _, _, _ => none
  | k + 1, x3, x4, x5, x7, x8, x10 => if 0 ≤ x7 then (if x7 < (x5.length : Int) then (if x10 < (wrap64 (((rd_T26 x5 x7).f0) + x8)) then ((laws_wnHas.f k x3 x10).bind fun t131 => (if t131 = true then ((laws_wnHas.f k x4 x10).bind fun t132 => (if t132 = true then (some false) else (laws_FnNetTop.l2 k x3 x4 x5 x7 x8 (wrap64 (x10 + 1))))) else (some false))) else (laws_FnNetTop.l0 k x3 x4 x5 (wrap64 (((rd_T26 x5 x7).f0) + x8)) (wrap64 (x7 + 1)))) else (none)) else (none)
def laws_FnNetTop.l3 : Nat → List (S26) → List (S26) → Int → Option (Bool)
  | 0, _, _, _ => none
  | k + 1, x3, x4, x11 => if x11 ≤ 65535 then ((laws_wnHas.f k x3 x11).bind fun t133 => (if t133 = true then ((laws_wnHas.f k x4 x11).bind fun t134 => (if t134 = true then (laws_FnNetTop.l3 k x3 x4 (wrap64 (x11 + 1))) else (some false))) else (laws_FnNetTop.l3 k x3 x4 (wrap64 (x11 + 1))))) else (some true)
end
def laws_FnNetTop.f (k : Nat) (l0 : List Int) : Option (Bool) := if (l0.length : Int) > 1048576 then (some true) else ((spec_DrawNetWithout.f k l0).bind fun bt101 => ((impl_NetWithout.f bt101.1 bt101.2).bind fun t107 => ((spec_NetWithout.f k bt101.1 bt101.2).bind fun t110 => ((laws_wnSame.f k t107 t110).bind fun t113 => (if t113 = true then ((laws_wnOk.f k bt101.1).bind fun t114 => (if t114 = true then ((laws_wnOk.f k bt101.2).bind fun t115 => (laws_FnNetTop.j0 k bt101.1 bt101.2 t107 (!t115))) else (laws_FnNetTop.j0 k bt101.1 bt101.2 t107 true))) else (some false))))))
theorem laws_FnNetTop.zHB {P : Prop} (h : P := by repeat (first | (with_reducible first | exact HB.out | apply below_alloc | apply pw_below_drewN | apply below_drew1) | exact HB.out)) : P := h
theorem laws_FnNetTop.zr {P Q : Prop} (x : Q) (h : Q → P := by intro x_; (with_reducible repeat (first | apply Kd.R_alloc | apply Kd.R_drewN | apply Kd.R_drew)); exact x_) : P := h x
theorem laws_FnNetTop.zk {P Q : Prop} (x : Q) (h : Q → P := by intro x_; (with_reducible repeat (first | apply Kd.R_alloc | apply Kd.R_drewN | apply Kd.R_drew)); exact x_) : P := h x
theorem laws_FnNetTop.y1 {P : Prop} (h : P := by first | (with_reducible assumption) | assumption) : P := h
theorem laws_FnNetTop.y2 {P : Prop} (h : P := by first | rfl | (simp; done) | (simp [*]; done)) : P := h
theorem laws_FnNetTop.zA {p : Prop} (h : p) : Aside0 p := ⟨h⟩
set_option maxHeartbeats 8000000 in
set_option maxRecDepth 100000 in
theorem laws_FnNetTop.calls (k : Nat) (A0 : Option Addr) (c0 : Nat) (l0 : List Int) (r : Bool) (w : World) (hr0 : Kd.C (Kd.int .u8) w A0 l0.length l0) (hc0 : l0.length ≤ c0) (h : laws_FnNetTop.f k l0 = some r) :
  Calls Try.prog 19 #[.slice A0 l0.length c0] w fun e w' => e = .returned (.bool r) ∧ Below w.heap.size w w' := by
 have hu26 := Try.underlying26
 have HR0 := zA hr0
 have HC0 := zA hc0
 clear hr0 hc0
 have HB := zA (Below.refl w.heap.size w)
 have H : (if (l0.length : Int) > 1048576 then (some true) else ((spec_DrawNetWithout.f k l0).bind fun bt101 => ((impl_NetWithout.f bt101.1 bt101.2).bind fun t107 => ((spec_NetWithout.f k bt101.1 bt101.2).bind fun t110 => ((laws_wnSame.f k t107 t110).bind fun t113 => (if t113 = true then ((laws_wnOk.f k bt101.1).bind fun t114 => (if t114 = true then ((laws_wnOk.f k bt101.2).bind fun t115 => (laws_FnNetTop.j0 k bt101.1 bt101.2 t107 (!t115))) else (laws_FnNetTop.j0 k bt101.1 bt101.2 t107 true))) else (some false))))))) = some r := h
 clear h
 by_cases c2 : (l0.length : Int) > 1048576
 ·rw [if_pos c2] at H
  have c2b0 : decide (1048576 < (l0.length : Int)) = true := decide_eq_true c2
  have c2b1 : decide (1048576 < l0.length) = true := decide_eq_true (by omega)
  clear c2
  obtain rfl := Option.some.inj H
  go_enter Try.func19, Try.ntmps19
  go_wp2
  repeat (go_quiet (fail); try go_wp2)
  go_ret
  exact ⟨by first | rfl | (simp [errW_none, errW_some] <;> rfl) | (simp [*, errW_none, errW_some] <;> rfl), zHB⟩
 rw [if_neg c2] at H
 have c2b0 : decide (1048576 < (l0.length : Int)) = false := decide_eq_false c2
 have c2b1 : decide (1048576 < l0.length) = false := decide_eq_false (by omega)
 clear c2
 replace H := Option.bind_eq_some_iff.mp H
 obtain ⟨⟨t101, t102⟩, A30, H⟩ := H
 replace H : ((impl_NetWithout.f t101 t102).bind fun t107 => ((spec_NetWithout.f k t101 t102).bind fun t110 => ((laws_wnSame.f k t107 t110).bind fun t113 => (if t113 = true then ((laws_wnOk.f k t101).bind fun t114 => (if t114 = true then ((laws_wnOk.f k t102).bind fun t115 => (laws_FnNetTop.j0 k t101 t102 t107 (!t115))) else (laws_FnNetTop.j0 k t101 t102 t107 true))) else (some false))))) = some r := H
 have A3 := zA A30
 clear A30
 replace H := Option.bind_eq_some_iff.mp H
 obtain ⟨t107, A40, H⟩ := H
 replace H : ((spec_NetWithout.f k t101 t102).bind fun t110 => ((laws_wnSame.f k t107 t110).bind fun t113 => (if t113 = true then ((laws_wnOk.f k t101).bind fun t114 => (if t114 = true then ((laws_wnOk.f k t102).bind fun t115 => (laws_FnNetTop.j0 k t101 t102 t107 (!t115))) else (laws_FnNetTop.j0 k t101 t102 t107 true))) else (some false)))) = some r := H
 have A4 := zA A40
 clear A40
 replace H := Option.bind_eq_some_iff.mp H
 obtain ⟨t110, A50, H⟩ := H
 replace H : ((laws_wnSame.f k t107 t110).bind fun t113 => (if t113 = true then ((laws_wnOk.f k t101).bind fun t114 => (if t114 = true then ((laws_wnOk.f k t102).bind fun t115 => (laws_FnNetTop.j0 k t101 t102 t107 (!t115))) else (laws_FnNetTop.j0 k t101 t102 t107 true))) else (some false))) = some r := H
 have A5 := zA A50
 clear A50
 replace H := Option.bind_eq_some_iff.mp H
 obtain ⟨t113, A60, H⟩ := H
 replace H : (if t113 = true then ((laws_wnOk.f k t101).bind fun t114 => (if t114 = true then ((laws_wnOk.f k t102).bind fun t115 => (laws_FnNetTop.j0 k t101 t102 t107 (!t115))) else (laws_FnNetTop.j0 k t101 t102 t107 true))) else (some false)) = some r := H
 have A6 := zA A60
 clear A60
 by_cases c7 : t113 = true
 ·subst c7
  have H1 : ((laws_wnOk.f k t101).bind fun t114 => (if t114 = true then ((laws_wnOk.f k t102).bind fun t115 => (laws_FnNetTop.j0 k t101 t102 t107 (!t115))) else (laws_FnNetTop.j0 k t101 t102 t107 true))) = some r := by rw [if_pos rfl] at H; exact H
  clear H
  have H := H1
  clear H1
  have HC8 := zA H
  clear H
  go_enter Try.func19, Try.ntmps19
  go_upto_region 7 with (first | (go_at_call 68; (with_reducible refine (spec_DrawNetWithout.calls k _ _ l0 t101 t102 _ ?side1 ?side2 A3.out).mono ?_); (case side1 => repeat (first | exact HR0.out | (with_reducible refine Kd.C_alloc ?_ _) | (with_reducible refine Kd.C_drewN ?_ _) | (with_reducible refine Kd.C_drew ?_))); (case side2 => exact HC0.out); rintro e w9 ⟨v103, v105, rfl, ho0, ho1, hb⟩; have n0_ := zA (Kd.R_lower ho0 (below_size (zHB))); have n1_ := zA (Kd.R_lower ho1 (below_size (zHB))); have n2_ := zA (below_step (zHB) hb); clear HB; have HO104 := n0_; have HO106 := n1_; have HB := n2_; clear n0_ n1_ n2_; (try clear hb); (try clear hb2); (try clear hk); (try clear hi); (try clear ho0); (try clear ho1); obtain ⟨Ao10, co10, eo10⟩ := Kd.R_slice HO104.out; subst eo10; obtain ⟨Ao11, co11, eo11⟩ := Kd.R_slice HO106.out; subst eo11) | (go_at_call 60; (with_reducible refine (impl_NetWithout.calls _ _ t101 _ _ t102 t107 _ ?side1 ?side2 ?side3 ?side4 A4.out).mono ?_); (case side1 => repeat (first | exact (Kd.R_reads' HO104.out).2.2 | (with_reducible refine Kd.C_alloc ?_ _) | (with_reducible refine Kd.C_drewN ?_ _) | (with_reducible refine Kd.C_drew ?_))); (case side2 => exact (Kd.R_reads' HO104.out).2.1); (case side3 => repeat (first | exact (Kd.R_reads' HO106.out).2.2 | (with_reducible refine Kd.C_alloc ?_ _) | (with_reducible refine Kd.C_drewN ?_ _) | (with_reducible refine Kd.C_drew ?_))); (case side4 => exact (Kd.R_reads' HO106.out).2.1); rintro e w12 ⟨v108, rfl, ho0, hb⟩; have n0_ := zA (Kd.R_elder' (zr HO104.out) (Kd.R_base ho0) hb); have n1_ := zA (Kd.R_elder' (zr HO106.out) (Kd.R_base ho0) hb); have n2_ := zA (Kd.R_lower (Kd.R_new' (Kd.R_new' ho0 (Kd.R_lt (zr HO104.out))) (Kd.R_lt (zr HO106.out))) (below_size (zHB))); have n3_ := zA (below_step (zHB) hb); clear HO104; clear HO106; clear HB; have HO104 := n0_; have HO106 := n1_; have HO109 := n2_; have HB := n3_; clear n0_ n1_ n2_ n3_; (try clear hb); (try clear hb2); (try clear hk); (try clear hi); (try clear ho0)) | (go_at_call 59; (with_reducible refine (spec_NetWithout.calls k _ _ t101 _ _ t102 t110 _ ?side1 ?side2 ?side3 ?side4 A5.out).mono ?_); (case side1 => repeat (first | exact (Kd.R_reads' HO104.out).2.2 | (with_reducible refine Kd.C_alloc ?_ _) | (with_reducible refine Kd.C_drewN ?_ _) | (with_reducible refine Kd.C_drew ?_))); (case side2 => exact (Kd.R_reads' HO104.out).2.1); (case side3 => repeat (first | exact (Kd.R_reads' HO106.out).2.2 | (with_reducible refine Kd.C_alloc ?_ _) | (with_reducible refine Kd.C_drewN ?_ _) | (with_reducible refine Kd.C_drew ?_))); (case side4 => exact (Kd.R_reads' HO106.out).2.1); rintro e w13 ⟨v111, rfl, ho0, hb⟩; have n0_ := zA (Kd.R_elder' (zr HO104.out) (Kd.R_base ho0) hb); have n1_ := zA (Kd.R_elder' (zr HO106.out) (Kd.R_base ho0) hb); have n2_ := zA (Kd.R_elder' (zr HO109.out) (Kd.R_base ho0) hb); have n3_ := zA (Kd.R_lower (Kd.R_new' (Kd.R_new' (Kd.R_new' ho0 (Kd.R_lt (zr HO104.out))) (Kd.R_lt (zr HO106.out))) (Kd.R_lt (zr HO109.out))) (below_size (zHB))); have n4_ := zA (below_step (zHB) hb); clear HO104; clear HO106; clear HO109; clear HB; have HO104 := n0_; have HO106 := n1_; have HO109 := n2_; have HO112 := n3_; have HB := n4_; clear n0_ n1_ n2_ n3_ n4_; (try clear hb); (try clear hb2); (try clear hk); (try clear hi); (try clear ho0); obtain ⟨Ao14, co14, eo14⟩ := Kd.R_slice HO109.out; subst eo14; obtain ⟨Ao15, co15, eo15⟩ := Kd.R_slice HO112.out; subst eo15) | (go_at_call 66; (with_reducible refine (laws_wnSame.calls k _ _ t107 _ _ t110 true _ ?side1 ?side2 ?side3 ?side4 A6.out).mono ?_); (case side1 => repeat (first | exact (Kd.R_reads' HO109.out).2.2 | (with_reducible refine Kd.C_alloc ?_ _) | (with_reducible refine Kd.C_drewN ?_ _) | (with_reducible refine Kd.C_drew ?_))); (case side2 => exact (Kd.R_reads' HO109.out).2.1); (case side3 => repeat (first | exact (Kd.R_reads' HO112.out).2.2 | (with_reducible refine Kd.C_alloc ?_ _) | (with_reducible refine Kd.C_drewN ?_ _) | (with_reducible refine Kd.C_drew ?_))); (case side4 => exact (Kd.R_reads' HO112.out).2.1); rintro e w' ⟨rfl, ⟨nd, rfl⟩⟩; (try first | exact ⟨rfl, _, World.drewN_drewN _ _ _⟩ | exact ⟨rfl, _, Eq.trans (World.drewN_drewN _ _ _) (congrArg (World.drewN _) (Nat.add_assoc _ _ _))⟩)))
  repeat (go_quiet (first | (go_at_call 68; (with_reducible refine (spec_DrawNetWithout.calls k _ _ l0 t101 t102 _ ?side1 ?side2 A3.out).mono ?_); (case side1 => repeat (first | exact HR0.out | (with_reducible refine Kd.C_alloc ?_ _) | (with_reducible refine Kd.C_drewN ?_ _) | (with_reducible refine Kd.C_drew ?_))); (case side2 => exact HC0.out); rintro e w9 ⟨v103, v105, rfl, ho0, ho1, hb⟩; have n0_ := zA (Kd.R_lower ho0 (below_size (zHB))); have n1_ := zA (Kd.R_lower ho1 (below_size (zHB))); have n2_ := zA (below_step (zHB) hb); clear HB; have HO104 := n0_; have HO106 := n1_; have HB := n2_; clear n0_ n1_ n2_; (try clear hb); (try clear hb2); (try clear hk); (try clear hi); (try clear ho0); (try clear ho1); obtain ⟨Ao10, co10, eo10⟩ := Kd.R_slice HO104.out; subst eo10; obtain ⟨Ao11, co11, eo11⟩ := Kd.R_slice HO106.out; subst eo11) | (go_at_call 60; (with_reducible refine (impl_NetWithout.calls _ _ t101 _ _ t102 t107 _ ?side1 ?side2 ?side3 ?side4 A4.out).mono ?_); (case side1 => repeat (first | exact (Kd.R_reads' HO104.out).2.2 | (with_reducible refine Kd.C_alloc ?_ _) | (with_reducible refine Kd.C_drewN ?_ _) | (with_reducible refine Kd.C_drew ?_))); (case side2 => exact (Kd.R_reads' HO104.out).2.1); (case side3 => repeat (first | exact (Kd.R_reads' HO106.out).2.2 | (with_reducible refine Kd.C_alloc ?_ _) | (with_reducible refine Kd.C_drewN ?_ _) | (with_reducible refine Kd.C_drew ?_))); (case side4 => exact (Kd.R_reads' HO106.out).2.1); rintro e w12 ⟨v108, rfl, ho0, hb⟩; have n0_ := zA (Kd.R_elder' (zr HO104.out) (Kd.R_base ho0) hb); have n1_ := zA (Kd.R_elder' (zr HO106.out) (Kd.R_base ho0) hb); have n2_ := zA (Kd.R_lower (Kd.R_new' (Kd.R_new' ho0 (Kd.R_lt (zr HO104.out))) (Kd.R_lt (zr HO106.out))) (below_size (zHB))); have n3_ := zA (below_step (zHB) hb); clear HO104; clear HO106; clear HB; have HO104 := n0_; have HO106 := n1_; have HO109 := n2_; have HB := n3_; clear n0_ n1_ n2_ n3_; (try clear hb); (try clear hb2); (try clear hk); (try clear hi); (try clear ho0)) | (go_at_call 59; (with_reducible refine (spec_NetWithout.calls k _ _ t101 _ _ t102 t110 _ ?side1 ?side2 ?side3 ?side4 A5.out).mono ?_); (case side1 => repeat (first | exact (Kd.R_reads' HO104.out).2.2 | (with_reducible refine Kd.C_alloc ?_ _) | (with_reducible refine Kd.C_drewN ?_ _) | (with_reducible refine Kd.C_drew ?_))); (case side2 => exact (Kd.R_reads' HO104.out).2.1); (case side3 => repeat (first | exact (Kd.R_reads' HO106.out).2.2 | (with_reducible refine Kd.C_alloc ?_ _) | (with_reducible refine Kd.C_drewN ?_ _) | (with_reducible refine Kd.C_drew ?_))); (case side4 => exact (Kd.R_reads' HO106.out).2.1); rintro e w13 ⟨v111, rfl, ho0, hb⟩; have n0_ := zA (Kd.R_elder' (zr HO104.out) (Kd.R_base ho0) hb); have n1_ := zA (Kd.R_elder' (zr HO106.out) (Kd.R_base ho0) hb); have n2_ := zA (Kd.R_elder' (zr HO109.out) (Kd.R_base ho0) hb); have n3_ := zA (Kd.R_lower (Kd.R_new' (Kd.R_new' (Kd.R_new' ho0 (Kd.R_lt (zr HO104.out))) (Kd.R_lt (zr HO106.out))) (Kd.R_lt (zr HO109.out))) (below_size (zHB))); have n4_ := zA (below_step (zHB) hb); clear HO104; clear HO106; clear HO109; clear HB; have HO104 := n0_; have HO106 := n1_; have HO109 := n2_; have HO112 := n3_; have HB := n4_; clear n0_ n1_ n2_ n3_ n4_; (try clear hb); (try clear hb2); (try clear hk); (try clear hi); (try clear ho0); obtain ⟨Ao14, co14, eo14⟩ := Kd.R_slice HO109.out; subst eo14; obtain ⟨Ao15, co15, eo15⟩ := Kd.R_slice HO112.out; subst eo15) | (go_at_call 66; (with_reducible refine (laws_wnSame.calls k _ _ t107 _ _ t110 true _ ?side1 ?side2 ?side3 ?side4 A6.out).mono ?_); (case side1 => repeat (first | exact (Kd.R_reads' HO109.out).2.2 | (with_reducible refine Kd.C_alloc ?_ _) | (with_reducible refine Kd.C_drewN ?_ _) | (with_reducible refine Kd.C_drew ?_))); (case side2 => exact (Kd.R_reads' HO109.out).2.1); (case side3 => repeat (first | exact (Kd.R_reads' HO112.out).2.2 | (with_reducible refine Kd.C_alloc ?_ _) | (with_reducible refine Kd.C_drewN ?_ _) | (with_reducible refine Kd.C_drew ?_))); (case side4 => exact (Kd.R_reads' HO112.out).2.1); rintro e w' ⟨rfl, ⟨nd, rfl⟩⟩; (try first | exact ⟨rfl, _, World.drewN_drewN _ _ _⟩ | exact ⟨rfl, _, Eq.trans (World.drewN_drewN _ _ _) (congrArg (World.drewN _) (Nat.add_assoc _ _ _))⟩))); go_upto_region 7 with (first | (go_at_call 68; (with_reducible refine (spec_DrawNetWithout.calls k _ _ l0 t101 t102 _ ?side1 ?side2 A3.out).mono ?_); (case side1 => repeat (first | exact HR0.out | (with_reducible refine Kd.C_alloc ?_ _) | (with_reducible refine Kd.C_drewN ?_ _) | (with_reducible refine Kd.C_drew ?_))); (case side2 => exact HC0.out); rintro e w9 ⟨v103, v105, rfl, ho0, ho1, hb⟩; have n0_ := zA (Kd.R_lower ho0 (below_size (zHB))); have n1_ := zA (Kd.R_lower ho1 (below_size (zHB))); have n2_ := zA (below_step (zHB) hb); clear HB; have HO104 := n0_; have HO106 := n1_; have HB := n2_; clear n0_ n1_ n2_; (try clear hb); (try clear hb2); (try clear hk); (try clear hi); (try clear ho0); (try clear ho1); obtain ⟨Ao10, co10, eo10⟩ := Kd.R_slice HO104.out; subst eo10; obtain ⟨Ao11, co11, eo11⟩ := Kd.R_slice HO106.out; subst eo11) | (go_at_call 60; (with_reducible refine (impl_NetWithout.calls _ _ t101 _ _ t102 t107 _ ?side1 ?side2 ?side3 ?side4 A4.out).mono ?_); (case side1 => repeat (first | exact (Kd.R_reads' HO104.out).2.2 | (with_reducible refine Kd.C_alloc ?_ _) | (with_reducible refine Kd.C_drewN ?_ _) | (with_reducible refine Kd.C_drew ?_))); (case side2 => exact (Kd.R_reads' HO104.out).2.1); (case side3 => repeat (first | exact (Kd.R_reads' HO106.out).2.2 | (with_reducible refine Kd.C_alloc ?_ _) | (with_reducible refine Kd.C_drewN ?_ _) | (with_reducible refine Kd.C_drew ?_))); (case side4 => exact (Kd.R_reads' HO106.out).2.1); rintro e w12 ⟨v108, rfl, ho0, hb⟩; have n0_ := zA (Kd.R_elder' (zr HO104.out) (Kd.R_base ho0) hb); have n1_ := zA (Kd.R_elder' (zr HO106.out) (Kd.R_base ho0) hb); have n2_ := zA (Kd.R_lower (Kd.R_new' (Kd.R_new' ho0 (Kd.R_lt (zr HO104.out))) (Kd.R_lt (zr HO106.out))) (below_size (zHB))); have n3_ := zA (below_step (zHB) hb); clear HO104; clear HO106; clear HB; have HO104 := n0_; have HO106 := n1_; have HO109 := n2_; have HB := n3_; clear n0_ n1_ n2_ n3_; (try clear hb); (try clear hb2); (try clear hk); (try clear hi); (try clear ho0)) | (go_at_call 59; (with_reducible refine (spec_NetWithout.calls k _ _ t101 _ _ t102 t110 _ ?side1 ?side2 ?side3 ?side4 A5.out).mono ?_); (case side1 => repeat (first | exact (Kd.R_reads' HO104.out).2.2 | (with_reducible refine Kd.C_alloc ?_ _) | (with_reducible refine Kd.C_drewN ?_ _) | (with_reducible refine Kd.C_drew ?_))); (case side2 => exact (Kd.R_reads' HO104.out).2.1); (case side3 => repeat (first | exact (Kd.R_reads' HO106.out).2.2 | (with_reducible refine Kd.C_alloc ?_ _) | (with_reducible refine Kd.C_drewN ?_ _) | (with_reducible refine Kd.C_drew ?_))); (case side4 => exact (Kd.R_reads' HO106.out).2.1); rintro e w13 ⟨v111, rfl, ho0, hb⟩; have n0_ := zA (Kd.R_elder' (zr HO104.out) (Kd.R_base ho0) hb); have n1_ := zA (Kd.R_elder' (zr HO106.out) (Kd.R_base ho0) hb); have n2_ := zA (Kd.R_elder' (zr HO109.out) (Kd.R_base ho0) hb); have n3_ := zA (Kd.R_lower (Kd.R_new' (Kd.R_new' (Kd.R_new' ho0 (Kd.R_lt (zr HO104.out))) (Kd.R_lt (zr HO106.out))) (Kd.R_lt (zr HO109.out))) (below_size (zHB))); have n4_ := zA (below_step (zHB) hb); clear HO104; clear HO106; clear HO109; clear HB; have HO104 := n0_; have HO106 := n1_; have HO109 := n2_; have HO112 := n3_; have HB := n4_; clear n0_ n1_ n2_ n3_ n4_; (try clear hb); (try clear hb2); (try clear hk); (try clear hi); (try clear ho0); obtain ⟨Ao14, co14, eo14⟩ := Kd.R_slice HO109.out; subst eo14; obtain ⟨Ao15, co15, eo15⟩ := Kd.R_slice HO112.out; subst eo15) | (go_at_call 66; (with_reducible refine (laws_wnSame.calls k _ _ t107 _ _ t110 true _ ?side1 ?side2 ?side3 ?side4 A6.out).mono ?_); (case side1 => repeat (first | exact (Kd.R_reads' HO109.out).2.2 | (with_reducible refine Kd.C_alloc ?_ _) | (with_reducible refine Kd.C_drewN ?_ _) | (with_reducible refine Kd.C_drew ?_))); (case side2 => exact (Kd.R_reads' HO109.out).2.1); (case side3 => repeat (first | exact (Kd.R_reads' HO112.out).2.2 | (with_reducible refine Kd.C_alloc ?_ _) | (with_reducible refine Kd.C_drewN ?_ _) | (with_reducible refine Kd.C_drew ?_))); (case side4 => exact (Kd.R_reads' HO112.out).2.1); rintro e w' ⟨rfl, ⟨nd, rfl⟩⟩; (try first | exact ⟨rfl, _, World.drewN_drewN _ _ _⟩ | exact ⟨rfl, _, Eq.trans (World.drewN_drewN _ _ _) (congrArg (World.drewN _) (Nat.add_assoc _ _ _))⟩))))
  (try simp only [Act.put, List.setIfInBounds_toArray, List.set_cons_zero, List.set_cons_succ])
  go_cut [36] (fun v36 wc => ∃ (kq : Nat) (x36_7 : Bool), v36 = .bool x36_7 ∧ Aside0 (laws_FnNetTop.j0 kq t101 t102 t107 x36_7 = some r) ∧ Aside0 (kq ≤ k) ∧ Aside0 (Kd.R k26 26 wc w.heap.size (fun k_ => some k_ ≠ ((.slice Ao11 t102.length co11) : Value).ownBlock ∧ some k_ ≠ ((.slice Ao14 t107.length co14) : Value).ownBlock) (.slice Ao10 t101.length co10) t101) ∧ Aside0 (Kd.R k26 26 wc w.heap.size (fun k_ => some k_ ≠ ((.slice Ao10 t101.length co10) : Value).ownBlock ∧ some k_ ≠ ((.slice Ao14 t107.length co14) : Value).ownBlock) (.slice Ao11 t102.length co11) t102) ∧ Aside0 (Kd.R k26 26 wc w.heap.size (fun k_ => some k_ ≠ ((.slice Ao10 t101.length co10) : Value).ownBlock ∧ some k_ ≠ ((.slice Ao11 t102.length co11) : Value).ownBlock) (.slice Ao14 t107.length co14) t107) ∧ Aside0 (Below w.heap.size w wc))
  case first =>
   have H := HC8.out
   clear HC8
   replace H := Option.bind_eq_some_iff.mp H
   obtain ⟨t114, A160, H⟩ := H
   replace H : (if t114 = true then ((laws_wnOk.f k t102).bind fun t115 => (laws_FnNetTop.j0 k t101 t102 t107 (!t115))) else (laws_FnNetTop.j0 k t101 t102 t107 true)) = some r := H
   have A16 := zA A160
   clear A160
   by_cases c17 : t114 = true
   ·subst c17
    have H1 : ((laws_wnOk.f k t102).bind fun t115 => (laws_FnNetTop.j0 k t101 t102 t107 (!t115))) = some r := by rw [if_pos rfl] at H; exact H
    clear H
    have H := H1
    clear H1
    replace H := Option.bind_eq_some_iff.mp H
    obtain ⟨t115, A180, H⟩ := H
    replace H : (laws_FnNetTop.j0 k t101 t102 t107 (!t115)) = some r := H
    have A18 := zA A180
    clear A180
    have H' := zA H
    clear H
    go_wp2_with (first | (go_at_call 67; (with_reducible refine (laws_wnOk.calls k _ _ t101 true _ ?side1 ?side2 A16.out).mono ?_); (case side1 => repeat (first | exact (Kd.R_reads' HO104.out).2.2 | (with_reducible refine Kd.C_alloc ?_ _) | (with_reducible refine Kd.C_drewN ?_ _) | (with_reducible refine Kd.C_drew ?_))); (case side2 => exact (Kd.R_reads' HO104.out).2.1); rintro e w19 ⟨rfl, hb⟩; have n0_ := zA (Kd.R_below (zr HO104.out) hb); have n1_ := zA (Kd.R_below (zr HO106.out) hb); have n2_ := zA (Kd.R_below (zr HO109.out) hb); have n3_ := zA (Kd.R_below (zr HO112.out) hb); have n4_ := zA (below_step (zHB) hb); clear HO104; clear HO106; clear HO109; clear HO112; clear HB; have HO104 := n0_; have HO106 := n1_; have HO109 := n2_; have HO112 := n3_; have HB := n4_; clear n0_ n1_ n2_ n3_ n4_; (try clear hb); (try clear hb2); (try clear hk); (try clear hi)) | (go_at_call 67; (with_reducible refine (laws_wnOk.calls k _ _ t102 t115 _ ?side1 ?side2 A18.out).mono ?_); (case side1 => repeat (first | exact (Kd.R_reads' HO106.out).2.2 | (with_reducible refine Kd.C_alloc ?_ _) | (with_reducible refine Kd.C_drewN ?_ _) | (with_reducible refine Kd.C_drew ?_))); (case side2 => exact (Kd.R_reads' HO106.out).2.1); rintro e w20 ⟨rfl, hb⟩; have n0_ := zA (Kd.R_below (zr HO104.out) hb); have n1_ := zA (Kd.R_below (zr HO106.out) hb); have n2_ := zA (Kd.R_below (zr HO109.out) hb); have n3_ := zA (Kd.R_below (zr HO112.out) hb); have n4_ := zA (below_step (zHB) hb); clear HO104; clear HO106; clear HO109; clear HO112; clear HB; have HO104 := n0_; have HO106 := n1_; have HO109 := n2_; have HO112 := n3_; have HB := n4_; clear n0_ n1_ n2_ n3_ n4_; (try clear hb); (try clear hb2); (try clear hk); (try clear hi)))
    repeat (go_quiet (first | (go_at_call 67; (with_reducible refine (laws_wnOk.calls k _ _ t101 true _ ?side1 ?side2 A16.out).mono ?_); (case side1 => repeat (first | exact (Kd.R_reads' HO104.out).2.2 | (with_reducible refine Kd.C_alloc ?_ _) | (with_reducible refine Kd.C_drewN ?_ _) | (with_reducible refine Kd.C_drew ?_))); (case side2 => exact (Kd.R_reads' HO104.out).2.1); rintro e w19 ⟨rfl, hb⟩; have n0_ := zA (Kd.R_below (zr HO104.out) hb); have n1_ := zA (Kd.R_below (zr HO106.out) hb); have n2_ := zA (Kd.R_below (zr HO109.out) hb); have n3_ := zA (Kd.R_below (zr HO112.out) hb); have n4_ := zA (below_step (zHB) hb); clear HO104; clear HO106; clear HO109; clear HO112; clear HB; have HO104 := n0_; have HO106 := n1_; have HO109 := n2_; have HO112 := n3_; have HB := n4_; clear n0_ n1_ n2_ n3_ n4_; (try clear hb); (try clear hb2); (try clear hk); (try clear hi)) | (go_at_call 67; (with_reducible refine (laws_wnOk.calls k _ _ t102 t115 _ ?side1 ?side2 A18.out).mono ?_); (case side1 => repeat (first | exact (Kd.R_reads' HO106.out).2.2 | (with_reducible refine Kd.C_alloc ?_ _) | (with_reducible refine Kd.C_drewN ?_ _) | (with_reducible refine Kd.C_drew ?_))); (case side2 => exact (Kd.R_reads' HO106.out).2.1); rintro e w20 ⟨rfl, hb⟩; have n0_ := zA (Kd.R_below (zr HO104.out) hb); have n1_ := zA (Kd.R_below (zr HO106.out) hb); have n2_ := zA (Kd.R_below (zr HO109.out) hb); have n3_ := zA (Kd.R_below (zr HO112.out) hb); have n4_ := zA (below_step (zHB) hb); clear HO104; clear HO106; clear HO109; clear HO112; clear HB; have HO104 := n0_; have HO106 := n1_; have HO109 := n2_; have HO112 := n3_; have HB := n4_; clear n0_ n1_ n2_ n3_ n4_; (try clear hb); (try clear hb2); (try clear hk); (try clear hi))); try go_wp2_with (first | (go_at_call 67; (with_reducible refine (laws_wnOk.calls k _ _ t101 true _ ?side1 ?side2 A16.out).mono ?_); (case side1 => repeat (first | exact (Kd.R_reads' HO104.out).2.2 | (with_reducible refine Kd.C_alloc ?_ _) | (with_reducible refine Kd.C_drewN ?_ _) | (with_reducible refine Kd.C_drew ?_))); (case side2 => exact (Kd.R_reads' HO104.out).2.1); rintro e w19 ⟨rfl, hb⟩; have n0_ := zA (Kd.R_below (zr HO104.out) hb); have n1_ := zA (Kd.R_below (zr HO106.out) hb); have n2_ := zA (Kd.R_below (zr HO109.out) hb); have n3_ := zA (Kd.R_below (zr HO112.out) hb); have n4_ := zA (below_step (zHB) hb); clear HO104; clear HO106; clear HO109; clear HO112; clear HB; have HO104 := n0_; have HO106 := n1_; have HO109 := n2_; have HO112 := n3_; have HB := n4_; clear n0_ n1_ n2_ n3_ n4_; (try clear hb); (try clear hb2); (try clear hk); (try clear hi)) | (go_at_call 67; (with_reducible refine (laws_wnOk.calls k _ _ t102 t115 _ ?side1 ?side2 A18.out).mono ?_); (case side1 => repeat (first | exact (Kd.R_reads' HO106.out).2.2 | (with_reducible refine Kd.C_alloc ?_ _) | (with_reducible refine Kd.C_drewN ?_ _) | (with_reducible refine Kd.C_drew ?_))); (case side2 => exact (Kd.R_reads' HO106.out).2.1); rintro e w20 ⟨rfl, hb⟩; have n0_ := zA (Kd.R_below (zr HO104.out) hb); have n1_ := zA (Kd.R_below (zr HO106.out) hb); have n2_ := zA (Kd.R_below (zr HO109.out) hb); have n3_ := zA (Kd.R_below (zr HO112.out) hb); have n4_ := zA (below_step (zHB) hb); clear HO104; clear HO106; clear HO109; clear HO112; clear HB; have HO104 := n0_; have HO106 := n1_; have HO109 := n2_; have HO112 := n3_; have HB := n4_; clear n0_ n1_ n2_ n3_ n4_; (try clear hb); (try clear hb2); (try clear hk); (try clear hi))))
    go_meet
    case rel => exact ⟨_, (!t115), y2 , H', ⟨by first | omega | exact Nat.le_refl _⟩, ⟨by refine zk ?_; exact Kd.R_mono HO104.out (fun _ hk => ⟨hk.1.1, hk.1.2⟩)⟩, ⟨by refine zk ?_; exact Kd.R_mono HO106.out (fun _ hk => ⟨hk.1.1, hk.1.2⟩)⟩, ⟨by refine zk ?_; exact Kd.R_mono HO109.out (fun _ hk => ⟨hk.1.1.2, hk.1.2⟩)⟩, ⟨zHB⟩⟩
   replace c17 := Bool.eq_false_iff.mpr c17
   subst c17
   have H1 : (laws_FnNetTop.j0 k t101 t102 t107 true) = some r := by rw [if_neg (show ¬ (false = true) by decide)] at H; exact H
   clear H
   have H := H1
   clear H1
   have H' := zA H
   clear H
   go_wp2_with (first | (go_at_call 67; (with_reducible refine (laws_wnOk.calls k _ _ t101 false _ ?side1 ?side2 A16.out).mono ?_); (case side1 => repeat (first | exact (Kd.R_reads' HO104.out).2.2 | (with_reducible refine Kd.C_alloc ?_ _) | (with_reducible refine Kd.C_drewN ?_ _) | (with_reducible refine Kd.C_drew ?_))); (case side2 => exact (Kd.R_reads' HO104.out).2.1); rintro e w21 ⟨rfl, hb⟩; have n0_ := zA (Kd.R_below (zr HO104.out) hb); have n1_ := zA (Kd.R_below (zr HO106.out) hb); have n2_ := zA (Kd.R_below (zr HO109.out) hb); have n3_ := zA (Kd.R_below (zr HO112.out) hb); have n4_ := zA (below_step (zHB) hb); clear HO104; clear HO106; clear HO109; clear HO112; clear HB; have HO104 := n0_; have HO106 := n1_; have HO109 := n2_; have HO112 := n3_; have HB := n4_; clear n0_ n1_ n2_ n3_ n4_; (try clear hb); (try clear hb2); (try clear hk); (try clear hi)))
   repeat (go_quiet (first | (go_at_call 67; (with_reducible refine (laws_wnOk.calls k _ _ t101 false _ ?side1 ?side2 A16.out).mono ?_); (case side1 => repeat (first | exact (Kd.R_reads' HO104.out).2.2 | (with_reducible refine Kd.C_alloc ?_ _) | (with_reducible refine Kd.C_drewN ?_ _) | (with_reducible refine Kd.C_drew ?_))); (case side2 => exact (Kd.R_reads' HO104.out).2.1); rintro e w21 ⟨rfl, hb⟩; have n0_ := zA (Kd.R_below (zr HO104.out) hb); have n1_ := zA (Kd.R_below (zr HO106.out) hb); have n2_ := zA (Kd.R_below (zr HO109.out) hb); have n3_ := zA (Kd.R_below (zr HO112.out) hb); have n4_ := zA (below_step (zHB) hb); clear HO104; clear HO106; clear HO109; clear HO112; clear HB; have HO104 := n0_; have HO106 := n1_; have HO109 := n2_; have HO112 := n3_; have HB := n4_; clear n0_ n1_ n2_ n3_ n4_; (try clear hb); (try clear hb2); (try clear hk); (try clear hi))); try go_wp2_with (first | (go_at_call 67; (with_reducible refine (laws_wnOk.calls k _ _ t101 false _ ?side1 ?side2 A16.out).mono ?_); (case side1 => repeat (first | exact (Kd.R_reads' HO104.out).2.2 | (with_reducible refine Kd.C_alloc ?_ _) | (with_reducible refine Kd.C_drewN ?_ _) | (with_reducible refine Kd.C_drew ?_))); (case side2 => exact (Kd.R_reads' HO104.out).2.1); rintro e w21 ⟨rfl, hb⟩; have n0_ := zA (Kd.R_below (zr HO104.out) hb); have n1_ := zA (Kd.R_below (zr HO106.out) hb); have n2_ := zA (Kd.R_below (zr HO109.out) hb); have n3_ := zA (Kd.R_below (zr HO112.out) hb); have n4_ := zA (below_step (zHB) hb); clear HO104; clear HO106; clear HO109; clear HO112; clear HB; have HO104 := n0_; have HO106 := n1_; have HO109 := n2_; have HO112 := n3_; have HB := n4_; clear n0_ n1_ n2_ n3_ n4_; (try clear hb); (try clear hb2); (try clear hk); (try clear hi))))
   go_meet
   case rel => exact ⟨_, (true), y2 , H', ⟨by first | omega | exact Nat.le_refl _⟩, ⟨by refine zk ?_; exact Kd.R_mono HO104.out (fun _ hk => ⟨hk.1.1, hk.1.2⟩)⟩, ⟨by refine zk ?_; exact Kd.R_mono HO106.out (fun _ hk => ⟨hk.1.1, hk.1.2⟩)⟩, ⟨by refine zk ?_; exact Kd.R_mono HO109.out (fun _ hk => ⟨hk.1.1.2, hk.1.2⟩)⟩, ⟨zHB⟩⟩
  case rest =>
   clear HC8
   try clear c1
   try clear c2
   try clear c2b0
   try clear c2b1
   try clear p2
   try clear c7
   try clear c17
   try clear c19
   obtain ⟨kq, x36_7, rfl, HA, HJ7, HO_3, HO_4, HO_5, HB⟩ := hcut
   cases kq with
   | zero => exact absurd HA.out (by simp [laws_FnNetTop.j0])
   | succ kj7 => ?_
   have H := HA.out
   clear HA
   simp only [laws_FnNetTop.j0] at H
   by_cases c22 : x36_7 = true
   ·subst c22
    have H1 : (some ((t107.length : Int) == 0)) = some r := by rw [if_pos rfl] at H; exact H
    clear H
    have H := H1
    clear H1
    obtain rfl := Option.some.inj H
    go_wp2
    repeat (go_quiet (fail); try go_wp2)
    go_ret
    exact ⟨by first | rfl | (simp [errW_none, errW_some] <;> rfl) | (simp [*, errW_none, errW_some] <;> rfl), zHB⟩
   replace c22 := Bool.eq_false_iff.mpr c22
   subst c22
   have H1 : (laws_FnNetTop.l0 kj7 t101 t102 t107 0 0) = some r := by rw [if_neg (show ¬ (false = true) by decide)] at H; exact H
   clear H
   have H := H1
   clear H1
   have H' := zA H
   clear H
   go_wp2
   repeat (go_quiet (fail); try go_wp2)
   go_loopg [6, 7] kj7 (fun kq v6 v7 w' => ∃ (x6_2 : Int) (x7_2 : Int), v6 = .int .i64 x6_2 ∧ v7 = .int .i64 x7_2 ∧ Aside0 (laws_FnNetTop.l0 kq t101 t102 t107 x6_2 x7_2 = some r) ∧ Aside0 (kq ≤ kj7) ∧ Aside0 (Kd.R k26 26 w' w.heap.size (fun k_ => some k_ ≠ ((.slice Ao11 t102.length co11) : Value).ownBlock ∧ some k_ ≠ ((.slice Ao14 t107.length co14) : Value).ownBlock) (.slice Ao10 t101.length co10) t101) ∧ Aside0 (Kd.R k26 26 w' w.heap.size (fun k_ => some k_ ≠ ((.slice Ao10 t101.length co10) : Value).ownBlock ∧ some k_ ≠ ((.slice Ao14 t107.length co14) : Value).ownBlock) (.slice Ao11 t102.length co11) t102) ∧ Aside0 (Kd.R k26 26 w' w.heap.size (fun k_ => some k_ ≠ ((.slice Ao10 t101.length co10) : Value).ownBlock ∧ some k_ ≠ ((.slice Ao11 t102.length co11) : Value).ownBlock) (.slice Ao14 t107.length co14) t107) ∧ Aside0 (Below w.heap.size w w'))
   case atStart => exact ⟨(0), (0), y2 , y2 , H', ⟨Nat.le_refl _⟩, ⟨by refine zk ?_; exact HO_3.out⟩, ⟨by refine zk ?_; exact HO_4.out⟩, ⟨by refine zk ?_; exact HO_5.out⟩, ⟨zHB⟩⟩
   case round =>
    clear H'
    try clear c1
    try clear c2
    try clear c2b0
    try clear c2b1
    try clear p2
    try clear c7
    try clear c17
    try clear c19
    try clear c22
    try clear p2
    obtain ⟨x6_2, x7_2, rfl, rfl, HA, HK2, HO_3, HO_4, HO_5, HB⟩ := hrel
    cases gk with
    | zero => exact absurd HA.out (by simp [laws_FnNetTop.l0])
    | succ k2 => ?_
    have H := HA.out
    clear HA
    simp only [laws_FnNetTop.l0] at H
    by_cases c23 : x7_2 < (t107.length : Int)
    ·rw [if_pos c23] at H
     have c23b0 : decide (x7_2 < (t107.length : Int)) = true := decide_eq_true c23
     clear c23
     have HC24 := zA H
     clear H
     go_upto_region 13 with (fail)
     repeat (go_quiet (fail); go_upto_region 13 with (fail))
     go_cut [60] (fun v60 wc => ∃ (kq : Nat) (x60_23 : Bool), v60 = .bool x60_23 ∧ Aside0 (laws_FnNetTop.j2 kq t101 t102 t107 x6_2 x7_2 x60_23 = some r) ∧ Aside0 (kq ≤ k2) ∧ Aside0 (Kd.R k26 26 wc w.heap.size (fun k_ => some k_ ≠ ((.slice Ao11 t102.length co11) : Value).ownBlock ∧ some k_ ≠ ((.slice Ao14 t107.length co14) : Value).ownBlock) (.slice Ao10 t101.length co10) t101) ∧ Aside0 (Kd.R k26 26 wc w.heap.size (fun k_ => some k_ ≠ ((.slice Ao10 t101.length co10) : Value).ownBlock ∧ some k_ ≠ ((.slice Ao14 t107.length co14) : Value).ownBlock) (.slice Ao11 t102.length co11) t102) ∧ Aside0 (Kd.R k26 26 wc w.heap.size (fun k_ => some k_ ≠ ((.slice Ao10 t101.length co10) : Value).ownBlock ∧ some k_ ≠ ((.slice Ao11 t102.length co11) : Value).ownBlock) (.slice Ao14 t107.length co14) t107) ∧ Aside0 (Below w.heap.size w wc))
     case first =>
      have H := HC24.out
      clear HC24
      by_cases c25 : 0 ≤ x7_2
      ·rw [if_pos c25] at H
       have c25b0 : decide (0 ≤ x7_2) = true := decide_eq_true c25
       clear c25
       (first | rw [c25b0] | (simp only [i64_w, i32_w]; rw [c25b0]) | skip)
       replace H := Option.bind_eq_some_iff.mp H
       obtain ⟨t117, A260, H⟩ := H
       replace H : (if t117 = true then (laws_FnNetTop.j2 k2 t101 t102 t107 x6_2 x7_2 (decide (((rd_T26 t107 x7_2).f0) < x6_2))) else (laws_FnNetTop.j2 k2 t101 t102 t107 x6_2 x7_2 true)) = some r := H
       have A26 := zA A260
       clear A260
       by_cases c27 : t117 = true
       ·subst c27
        have H1 : (laws_FnNetTop.j2 k2 t101 t102 t107 x6_2 x7_2 (decide (((rd_T26 t107 x7_2).f0) < x6_2))) = some r := by rw [if_pos rfl] at H; exact H
        clear H
        have H := H1
        clear H1
        have H' := zA H
        clear H
        have p116 : 0 ≤ (x7_2 : Int) := of_decide_eq_true y1 
        have q116 : x7_2 < (t107.length : Int) := of_decide_eq_true y1 
        obtain ⟨ad116, e116, hx116_0, hx116_1⟩ := at_T26 (Kd.R_reads' HO_5.out).2.2 x7_2 p116 q116
        cases e116
        replace p116 := eq_true p116
        replace q116 := eq_true q116
        go_wp2_with (first | (go_at_call 24; (with_reducible refine (spec_NetOk.calls k2 ((rd_T26 t107 x7_2).f0) ((rd_T26 t107 x7_2).f1) true _ A26.out).mono ?_); rintro e w28 ⟨rfl, hb⟩; have n0_ := zA (Kd.R_below (zr HO_3.out) hb); have n1_ := zA (Kd.R_below (zr HO_4.out) hb); have n2_ := zA (Kd.R_below (zr HO_5.out) hb); have n3_ := zA (below_step (zHB) hb); clear HO_3; clear HO_4; clear HO_5; clear HB; have HO_3 := n0_; have HO_4 := n1_; have HO_5 := n2_; have HB := n3_; clear n0_ n1_ n2_ n3_; (try clear hb); (try clear hb2); (try clear hk); (try clear hi); have p118 : 0 ≤ (x7_2 : Int) := of_decide_eq_true y1 ; have q118 : x7_2 < (t107.length : Int) := of_decide_eq_true y1 ; obtain ⟨ad118, e118, hx118_0, hx118_1⟩ := at_T26 (Kd.R_reads' HO_5.out).2.2 x7_2 p118 q118; obtain rfl : ad116 = ad118 := (by injection e118); replace p118 := eq_true p118; replace q118 := eq_true q118))
        repeat (go_quiet (first | (go_at_call 24; (with_reducible refine (spec_NetOk.calls k2 ((rd_T26 t107 x7_2).f0) ((rd_T26 t107 x7_2).f1) true _ A26.out).mono ?_); rintro e w28 ⟨rfl, hb⟩; have n0_ := zA (Kd.R_below (zr HO_3.out) hb); have n1_ := zA (Kd.R_below (zr HO_4.out) hb); have n2_ := zA (Kd.R_below (zr HO_5.out) hb); have n3_ := zA (below_step (zHB) hb); clear HO_3; clear HO_4; clear HO_5; clear HB; have HO_3 := n0_; have HO_4 := n1_; have HO_5 := n2_; have HB := n3_; clear n0_ n1_ n2_ n3_; (try clear hb); (try clear hb2); (try clear hk); (try clear hi); have p118 : 0 ≤ (x7_2 : Int) := of_decide_eq_true y1 ; have q118 : x7_2 < (t107.length : Int) := of_decide_eq_true y1 ; obtain ⟨ad118, e118, hx118_0, hx118_1⟩ := at_T26 (Kd.R_reads' HO_5.out).2.2 x7_2 p118 q118; obtain rfl : ad116 = ad118 := (by injection e118); replace p118 := eq_true p118; replace q118 := eq_true q118)); try go_wp2_with (first | (go_at_call 24; (with_reducible refine (spec_NetOk.calls k2 ((rd_T26 t107 x7_2).f0) ((rd_T26 t107 x7_2).f1) true _ A26.out).mono ?_); rintro e w28 ⟨rfl, hb⟩; have n0_ := zA (Kd.R_below (zr HO_3.out) hb); have n1_ := zA (Kd.R_below (zr HO_4.out) hb); have n2_ := zA (Kd.R_below (zr HO_5.out) hb); have n3_ := zA (below_step (zHB) hb); clear HO_3; clear HO_4; clear HO_5; clear HB; have HO_3 := n0_; have HO_4 := n1_; have HO_5 := n2_; have HB := n3_; clear n0_ n1_ n2_ n3_; (try clear hb); (try clear hb2); (try clear hk); (try clear hi); have p118 : 0 ≤ (x7_2 : Int) := of_decide_eq_true y1 ; have q118 : x7_2 < (t107.length : Int) := of_decide_eq_true y1 ; obtain ⟨ad118, e118, hx118_0, hx118_1⟩ := at_T26 (Kd.R_reads' HO_5.out).2.2 x7_2 p118 q118; obtain rfl : ad116 = ad118 := (by injection e118); replace p118 := eq_true p118; replace q118 := eq_true q118)))
        go_meet
        case rel => exact ⟨_, (decide (((rd_T26 t107 x7_2).f0) < x6_2)), y2 , H', ⟨by have := HJ7.out; have := HK2.out; first | omega | exact Nat.le_refl _⟩, ⟨by refine zk ?_; exact HO_3.out⟩, ⟨by refine zk ?_; exact HO_4.out⟩, ⟨by refine zk ?_; exact HO_5.out⟩, ⟨zHB⟩⟩
       replace c27 := Bool.eq_false_iff.mpr c27
       subst c27
       have H1 : (laws_FnNetTop.j2 k2 t101 t102 t107 x6_2 x7_2 true) = some r := by rw [if_neg (show ¬ (false = true) by decide)] at H; exact H
       clear H
       have H := H1
       clear H1
       have H' := zA H
       clear H
       have p116 : 0 ≤ (x7_2 : Int) := of_decide_eq_true y1 
       have q116 : x7_2 < (t107.length : Int) := of_decide_eq_true y1 
       obtain ⟨ad116, e116, hx116_0, hx116_1⟩ := at_T26 (Kd.R_reads' HO_5.out).2.2 x7_2 p116 q116
       cases e116
       replace p116 := eq_true p116
       replace q116 := eq_true q116
       go_wp2_with (first | (go_at_call 24; (with_reducible refine (spec_NetOk.calls k2 ((rd_T26 t107 x7_2).f0) ((rd_T26 t107 x7_2).f1) false _ A26.out).mono ?_); rintro e w29 ⟨rfl, hb⟩; have n0_ := zA (Kd.R_below (zr HO_3.out) hb); have n1_ := zA (Kd.R_below (zr HO_4.out) hb); have n2_ := zA (Kd.R_below (zr HO_5.out) hb); have n3_ := zA (below_step (zHB) hb); clear HO_3; clear HO_4; clear HO_5; clear HB; have HO_3 := n0_; have HO_4 := n1_; have HO_5 := n2_; have HB := n3_; clear n0_ n1_ n2_ n3_; (try clear hb); (try clear hb2); (try clear hk); (try clear hi)))
       repeat (go_quiet (first | (go_at_call 24; (with_reducible refine (spec_NetOk.calls k2 ((rd_T26 t107 x7_2).f0) ((rd_T26 t107 x7_2).f1) false _ A26.out).mono ?_); rintro e w29 ⟨rfl, hb⟩; have n0_ := zA (Kd.R_below (zr HO_3.out) hb); have n1_ := zA (Kd.R_below (zr HO_4.out) hb); have n2_ := zA (Kd.R_below (zr HO_5.out) hb); have n3_ := zA (below_step (zHB) hb); clear HO_3; clear HO_4; clear HO_5; clear HB; have HO_3 := n0_; have HO_4 := n1_; have HO_5 := n2_; have HB := n3_; clear n0_ n1_ n2_ n3_; (try clear hb); (try clear hb2); (try clear hk); (try clear hi))); try go_wp2_with (first | (go_at_call 24; (with_reducible refine (spec_NetOk.calls k2 ((rd_T26 t107 x7_2).f0) ((rd_T26 t107 x7_2).f1) false _ A26.out).mono ?_); rintro e w29 ⟨rfl, hb⟩; have n0_ := zA (Kd.R_below (zr HO_3.out) hb); have n1_ := zA (Kd.R_below (zr HO_4.out) hb); have n2_ := zA (Kd.R_below (zr HO_5.out) hb); have n3_ := zA (below_step (zHB) hb); clear HO_3; clear HO_4; clear HO_5; clear HB; have HO_3 := n0_; have HO_4 := n1_; have HO_5 := n2_; have HB := n3_; clear n0_ n1_ n2_ n3_; (try clear hb); (try clear hb2); (try clear hk); (try clear hi))))
       go_meet
       case rel => exact ⟨_, (true), y2 , H', ⟨by have := HJ7.out; have := HK2.out; first | omega | exact Nat.le_refl _⟩, ⟨by refine zk ?_; exact HO_3.out⟩, ⟨by refine zk ?_; exact HO_4.out⟩, ⟨by refine zk ?_; exact HO_5.out⟩, ⟨zHB⟩⟩
      rw [if_neg c25] at H
      exact absurd H (by simp)
     case rest =>
      clear HC24
      try clear c1
      try clear p1
      try clear q1
      try clear hx1
      try clear c2
      try clear c2b0
      try clear c2b1
      try clear p2
      try clear c7
      try clear p11
      try clear q11
      try clear hx11
      try clear c17
      try clear c19
      try clear c22
      try clear c23
      try clear c23b0
      try clear c25
      try clear c25b0
      try clear c27
      try clear hx116_0
      try clear hx116_1
      try clear hx118_0
      try clear hx118_1
      try clear p116
      try clear p118
      try clear p2
      try clear q116
      try clear q118
      obtain ⟨kq, x60_23, rfl, HA, HJ23, HO_3, HO_4, HO_5, HB⟩ := hcut
      cases kq with
      | zero => exact absurd HA.out (by simp [laws_FnNetTop.j2])
      | succ kj23 => ?_
      have H := HA.out
      clear HA
      simp only [laws_FnNetTop.j2] at H
      by_cases c30 : x60_23 = true
      ·subst c30
       have H1 : (some false) = some r := by rw [if_pos rfl] at H; exact H
       clear H
       have H := H1
       clear H1
       obtain rfl := Option.some.inj H
       go_wp2
       repeat (go_quiet (fail); try go_wp2)
       go_ret
       exact ⟨by first | rfl | (simp [errW_none, errW_some] <;> rfl) | (simp [*, errW_none, errW_some] <;> rfl), zHB⟩
      replace c30 := Bool.eq_false_iff.mpr c30
      subst c30
      have H1 : (if 0 ≤ x7_2 then (if x7_2 < (t107.length : Int) then (if 0 ≤ (wrap64 (16 - ((rd_T26 t107 x7_2).f1))) then (if x7_2 > 0 then (if 0 ≤ (wrap64 (x7_2 - 1)) then (if (wrap64 (x7_2 - 1)) < (t107.length : Int) then (if ((rd_T26 t107 (wrap64 (x7_2 - 1))).f1) = ((rd_T26 t107 x7_2).f1) then (if (wrap64 (((rd_T26 t107 (wrap64 (x7_2 - 1))).f0) + (shl .i64 1 (wrap64 (16 - ((rd_T26 t107 x7_2).f1)))))) = ((rd_T26 t107 x7_2).f0) then (if (wrap64 (2 * (shl .i64 1 (wrap64 (16 - ((rd_T26 t107 x7_2).f1)))))) = 0 then (none) else (laws_FnNetTop.j3 kj23 t101 t102 t107 x6_2 x7_2 (shl .i64 1 (wrap64 (16 - ((rd_T26 t107 x7_2).f1)))) ((Int.tmod ((rd_T26 t107 (wrap64 (x7_2 - 1))).f0) (wrap64 (2 * (shl .i64 1 (wrap64 (16 - ((rd_T26 t107 x7_2).f1))))))) == 0))) else (laws_FnNetTop.j3 kj23 t101 t102 t107 x6_2 x7_2 (shl .i64 1 (wrap64 (16 - ((rd_T26 t107 x7_2).f1)))) false)) else (laws_FnNetTop.j3 kj23 t101 t102 t107 x6_2 x7_2 (shl .i64 1 (wrap64 (16 - ((rd_T26 t107 x7_2).f1)))) false)) else (none)) else (none)) else (laws_FnNetTop.j3 kj23 t101 t102 t107 x6_2 x7_2 (shl .i64 1 (wrap64 (16 - ((rd_T26 t107 x7_2).f1)))) false)) else (none)) else (none)) else (none)) = some r := by rw [if_neg (show ¬ (false = true) by decide)] at H; exact H
      clear H
      have H := H1
      clear H1
      by_cases c31 : 0 ≤ x7_2
      ·rw [if_pos c31] at H
       have c31b0 : decide (0 ≤ x7_2) = true := decide_eq_true c31
       clear c31
       by_cases c32 : x7_2 < (t107.length : Int)
       ·rw [if_pos c32] at H
        have c32b0 : decide (x7_2 < (t107.length : Int)) = true := decide_eq_true c32
        clear c32
        obtain ⟨ji33, hji33⟩ : ∃ j_ : Int, (wrap64 (16 - ((rd_T26 t107 x7_2).f1))) = j_ := ⟨_, rfl⟩
        replace H : (if 0 ≤ (ji33) then (if x7_2 > 0 then (if 0 ≤ (wrap64 (x7_2 - 1)) then (if (wrap64 (x7_2 - 1)) < (t107.length : Int) then (if ((rd_T26 t107 (wrap64 (x7_2 - 1))).f1) = ((rd_T26 t107 x7_2).f1) then (if (wrap64 (((rd_T26 t107 (wrap64 (x7_2 - 1))).f0) + (shl .i64 1 (ji33)))) = ((rd_T26 t107 x7_2).f0) then (if (wrap64 (2 * (shl .i64 1 (ji33)))) = 0 then (none) else (laws_FnNetTop.j3 kj23 t101 t102 t107 x6_2 x7_2 (shl .i64 1 (ji33)) ((Int.tmod ((rd_T26 t107 (wrap64 (x7_2 - 1))).f0) (wrap64 (2 * (shl .i64 1 (ji33))))) == 0))) else (laws_FnNetTop.j3 kj23 t101 t102 t107 x6_2 x7_2 (shl .i64 1 (ji33)) false)) else (laws_FnNetTop.j3 kj23 t101 t102 t107 x6_2 x7_2 (shl .i64 1 (ji33)) false)) else (none)) else (none)) else (laws_FnNetTop.j3 kj23 t101 t102 t107 x6_2 x7_2 (shl .i64 1 (ji33)) false)) else (none)) = some r := by first | (rw [hji33] at H; exact H) | (simp only [hji33] at H ⊢; exact H)
        have hji33w : (IntKind.i64.wrap (16 - ((rd_T26 t107 x7_2).f1))) = ji33 := (i64_w _).trans hji33
        by_cases c34 : 0 ≤ (ji33)
        ·rw [if_pos c34] at H
         have c34b0 := eq_true c34
         have c34b1 : decide (0 ≤ (ji33)) = true := decide_eq_true c34
         clear c34
         obtain ⟨ji35, hji35⟩ : ∃ j_ : Int, (shl .i64 1 (ji33)) = j_ := ⟨_, rfl⟩
         replace H : (if x7_2 > 0 then (if 0 ≤ (wrap64 (x7_2 - 1)) then (if (wrap64 (x7_2 - 1)) < (t107.length : Int) then (if ((rd_T26 t107 (wrap64 (x7_2 - 1))).f1) = ((rd_T26 t107 x7_2).f1) then (if (wrap64 (((rd_T26 t107 (wrap64 (x7_2 - 1))).f0) + (ji35))) = ((rd_T26 t107 x7_2).f0) then (if (wrap64 (2 * (ji35))) = 0 then (none) else (laws_FnNetTop.j3 kj23 t101 t102 t107 x6_2 x7_2 ji35 ((Int.tmod ((rd_T26 t107 (wrap64 (x7_2 - 1))).f0) (wrap64 (2 * (ji35)))) == 0))) else (laws_FnNetTop.j3 kj23 t101 t102 t107 x6_2 x7_2 ji35 false)) else (laws_FnNetTop.j3 kj23 t101 t102 t107 x6_2 x7_2 ji35 false)) else (none)) else (none)) else (laws_FnNetTop.j3 kj23 t101 t102 t107 x6_2 x7_2 ji35 false)) = some r := by first | (rw [hji35] at H; exact H) | (simp only [hji35] at H ⊢; exact H)
         have hji35_ : (IntKind.i64.wrap (1 * 2 ^ min (ji33).toNat 64)) = ji35 := hji35
         have hji35z : (ji33) ≤ 64 → (IntKind.i64.wrap (1 * 2 ^ (ji33).toNat)) = ji35 := shl_small hji35
         have hji35u : (IntKind.i64.wrap (2 ^ min (ji33).toNat 64)) = ji35 := by have h_ := hji35_; rw [Int.one_mul] at h_; exact h_
         have hji35v : (ji33) ≤ 64 → (IntKind.i64.wrap (2 ^ (ji33).toNat)) = ji35 := fun hle_ => by have h_ := hji35z hle_; rw [Int.one_mul] at h_; exact h_
         have hji35y : (wrap64 (1 * 2 ^ min (ji33).toNat 64)) = ji35 := (i64_w _).symm.trans hji35_
         have hji35x : (ji33) ≤ 64 → (wrap64 (1 * 2 ^ (ji33).toNat)) = ji35 := fun h_ => (i64_w _).symm.trans (hji35z h_)
         have HC36 := zA H
         clear H
         have p119 : 0 ≤ (x7_2 : Int) := of_decide_eq_true y1 
         have q119 : x7_2 < (t107.length : Int) := of_decide_eq_true y1 
         obtain ⟨ad119, e119, hx119_0, hx119_1⟩ := at_T26 (Kd.R_reads' HO_5.out).2.2 x7_2 p119 q119
         cases e119
         replace p119 := eq_true p119
         replace q119 := eq_true q119
         go_upto_region 16 with (fail)
         repeat (go_quiet (fail); go_upto_region 16 with (fail))
         go_cut [111] (fun v111 wc => ∃ (kq : Nat) (x111_35 : Bool), v111 = .bool x111_35 ∧ Aside0 (laws_FnNetTop.j3 kq t101 t102 t107 x6_2 x7_2 ji35 x111_35 = some r) ∧ Aside0 (kq ≤ kj23) ∧ Aside0 (Kd.R k26 26 wc w.heap.size (fun k_ => some k_ ≠ ((.slice Ao11 t102.length co11) : Value).ownBlock ∧ some k_ ≠ ((.slice (some ad119) t107.length co14) : Value).ownBlock) (.slice Ao10 t101.length co10) t101) ∧ Aside0 (Kd.R k26 26 wc w.heap.size (fun k_ => some k_ ≠ ((.slice Ao10 t101.length co10) : Value).ownBlock ∧ some k_ ≠ ((.slice (some ad119) t107.length co14) : Value).ownBlock) (.slice Ao11 t102.length co11) t102) ∧ Aside0 (Kd.R k26 26 wc w.heap.size (fun k_ => some k_ ≠ ((.slice Ao10 t101.length co10) : Value).ownBlock ∧ some k_ ≠ ((.slice Ao11 t102.length co11) : Value).ownBlock) (.slice (some ad119) t107.length co14) t107) ∧ Aside0 (Below w.heap.size w wc))
         case first =>
          have H := HC36.out
          clear HC36
          by_cases c37 : x7_2 > 0
          ·rw [if_pos c37] at H
           have c37b0 : decide (0 < x7_2) = true := decide_eq_true c37
           clear c37
           (first | rw [c37b0] | (simp only [i64_w, i32_w]; rw [c37b0]) | skip)
           obtain ⟨ji38, hji38⟩ : ∃ j_ : Int, (wrap64 (x7_2 - 1)) = j_ := ⟨_, rfl⟩
           replace H : (if 0 ≤ (ji38) then (if (ji38) < (t107.length : Int) then (if ((rd_T26 t107 (ji38)).f1) = ((rd_T26 t107 x7_2).f1) then (if (wrap64 (((rd_T26 t107 (ji38)).f0) + (ji35))) = ((rd_T26 t107 x7_2).f0) then (if (wrap64 (2 * (ji35))) = 0 then (none) else (laws_FnNetTop.j3 kj23 t101 t102 t107 x6_2 x7_2 ji35 ((Int.tmod ((rd_T26 t107 (ji38)).f0) (wrap64 (2 * (ji35)))) == 0))) else (laws_FnNetTop.j3 kj23 t101 t102 t107 x6_2 x7_2 ji35 false)) else (laws_FnNetTop.j3 kj23 t101 t102 t107 x6_2 x7_2 ji35 false)) else (none)) else (none)) = some r := by first | (rw [hji38] at H; exact H) | (simp only [hji38] at H ⊢; exact H)
           have hji38w : (IntKind.i64.wrap (x7_2 - 1)) = ji38 := (i64_w _).trans hji38
           by_cases c39 : 0 ≤ (ji38)
           ·rw [if_pos c39] at H
            have c39b0 : decide (0 ≤ (ji38)) = true := decide_eq_true c39
            clear c39
            by_cases c40 : (ji38) < (t107.length : Int)
            ·rw [if_pos c40] at H
             have c40b0 : decide ((ji38) < (t107.length : Int)) = true := decide_eq_true c40
             clear c40
             by_cases c41 : ((rd_T26 t107 (ji38)).f1) = ((rd_T26 t107 x7_2).f1)
             ·rw [if_pos c41] at H
              have c41b0 : (((rd_T26 t107 (ji38)).f1) == ((rd_T26 t107 x7_2).f1)) = true := beq_iff_eq.mpr c41
              have c41b1 : (((rd_T26 t107 (ji38)).f1) != ((rd_T26 t107 x7_2).f1)) = false := bne_eq_false_iff_eq.mpr c41
              clear c41
              by_cases c42 : (wrap64 (((rd_T26 t107 (ji38)).f0) + (ji35))) = ((rd_T26 t107 x7_2).f0)
              ·rw [if_pos c42] at H
               have c42b0 : ((wrap64 (((rd_T26 t107 (ji38)).f0) + (ji35))) == ((rd_T26 t107 x7_2).f0)) = true := beq_iff_eq.mpr c42
               have c42b1 : ((wrap64 (((rd_T26 t107 (ji38)).f0) + (ji35))) != ((rd_T26 t107 x7_2).f0)) = false := bne_eq_false_iff_eq.mpr c42
               clear c42
               by_cases c43 : (wrap64 (2 * (ji35))) = 0
               ·rw [if_pos c43] at H
                exact absurd H (by simp)
               rw [if_neg c43] at H
               have c43b0 : ((wrap64 (2 * (ji35))) == 0) = false := beq_eq_false_iff_ne.mpr c43
               have c43b1 : ((wrap64 (2 * (ji35))) != 0) = true := bne_iff_ne.mpr c43
               have H' := zA H
               clear H
               have p120 : 0 ≤ ((ji38) : Int) := of_decide_eq_true y1 
               have q120 : (ji38) < (t107.length : Int) := of_decide_eq_true y1 
               obtain ⟨ad120, e120, hx120_0, hx120_1⟩ := at_T26 (Kd.R_reads' HO_5.out).2.2 (ji38) p120 q120
               obtain rfl : ad119 = ad120 := (by injection e120)
               replace p120 := eq_true p120
               replace q120 := eq_true q120
               have p121 : 0 ≤ (x7_2 : Int) := of_decide_eq_true y1 
               have q121 : x7_2 < (t107.length : Int) := of_decide_eq_true y1 
               obtain ⟨ad121, e121, hx121_0, hx121_1⟩ := at_T26 (Kd.R_reads' HO_5.out).2.2 x7_2 p121 q121
               obtain rfl : ad119 = ad121 := (by injection e121)
               replace p121 := eq_true p121
               replace q121 := eq_true q121
               have p122 : 0 ≤ ((ji38) : Int) := of_decide_eq_true y1 
               have q122 : (ji38) < (t107.length : Int) := of_decide_eq_true y1 
               obtain ⟨ad122, e122, hx122_0, hx122_1⟩ := at_T26 (Kd.R_reads' HO_5.out).2.2 (ji38) p122 q122
               obtain rfl : ad119 = ad122 := (by injection e122)
               replace p122 := eq_true p122
               replace q122 := eq_true q122
               have p123 : 0 ≤ (x7_2 : Int) := of_decide_eq_true y1 
               have q123 : x7_2 < (t107.length : Int) := of_decide_eq_true y1 
               obtain ⟨ad123, e123, hx123_0, hx123_1⟩ := at_T26 (Kd.R_reads' HO_5.out).2.2 x7_2 p123 q123
               obtain rfl : ad119 = ad123 := (by injection e123)
               replace p123 := eq_true p123
               replace q123 := eq_true q123
               have p124 : 0 ≤ ((ji38) : Int) := of_decide_eq_true y1 
               have q124 : (ji38) < (t107.length : Int) := of_decide_eq_true y1 
               obtain ⟨ad124, e124, hx124_0, hx124_1⟩ := at_T26 (Kd.R_reads' HO_5.out).2.2 (ji38) p124 q124
               obtain rfl : ad119 = ad124 := (by injection e124)
               replace p124 := eq_true p124
               replace q124 := eq_true q124
               go_wp2
               repeat (go_quiet (fail); try go_wp2)
               go_meet
               case rel => exact ⟨_, (((Int.tmod ((rd_T26 t107 (ji38)).f0) (wrap64 (2 * (ji35)))) == 0)), (by first | rfl | (simp; done) | (simp only [← hji35, ← hji38] <;> (first | rfl | simp)) | (simp [*]; done)), H', ⟨by have := HJ7.out; have := HK2.out; have := HJ23.out; first | omega | exact Nat.le_refl _⟩, ⟨by refine zk ?_; exact HO_3.out⟩, ⟨by refine zk ?_; exact HO_4.out⟩, ⟨by refine zk ?_; exact HO_5.out⟩, ⟨zHB⟩⟩
              rw [if_neg c42] at H
              have c42b0 : ((wrap64 (((rd_T26 t107 (ji38)).f0) + (ji35))) == ((rd_T26 t107 x7_2).f0)) = false := beq_eq_false_iff_ne.mpr c42
              have c42b1 : ((wrap64 (((rd_T26 t107 (ji38)).f0) + (ji35))) != ((rd_T26 t107 x7_2).f0)) = true := bne_iff_ne.mpr c42
              have H' := zA H
              clear H
              have p120 : 0 ≤ ((ji38) : Int) := of_decide_eq_true y1 
              have q120 : (ji38) < (t107.length : Int) := of_decide_eq_true y1 
              obtain ⟨ad120, e120, hx120_0, hx120_1⟩ := at_T26 (Kd.R_reads' HO_5.out).2.2 (ji38) p120 q120
              obtain rfl : ad119 = ad120 := (by injection e120)
              replace p120 := eq_true p120
              replace q120 := eq_true q120
              have p121 : 0 ≤ (x7_2 : Int) := of_decide_eq_true y1 
              have q121 : x7_2 < (t107.length : Int) := of_decide_eq_true y1 
              obtain ⟨ad121, e121, hx121_0, hx121_1⟩ := at_T26 (Kd.R_reads' HO_5.out).2.2 x7_2 p121 q121
              obtain rfl : ad119 = ad121 := (by injection e121)
              replace p121 := eq_true p121
              replace q121 := eq_true q121
              have p122 : 0 ≤ ((ji38) : Int) := of_decide_eq_true y1 
              have q122 : (ji38) < (t107.length : Int) := of_decide_eq_true y1 
              obtain ⟨ad122, e122, hx122_0, hx122_1⟩ := at_T26 (Kd.R_reads' HO_5.out).2.2 (ji38) p122 q122
              obtain rfl : ad119 = ad122 := (by injection e122)
              replace p122 := eq_true p122
              replace q122 := eq_true q122
              have p123 : 0 ≤ (x7_2 : Int) := of_decide_eq_true y1 
              have q123 : x7_2 < (t107.length : Int) := of_decide_eq_true y1 
              obtain ⟨ad123, e123, hx123_0, hx123_1⟩ := at_T26 (Kd.R_reads' HO_5.out).2.2 x7_2 p123 q123
              obtain rfl : ad119 = ad123 := (by injection e123)
              replace p123 := eq_true p123
              replace q123 := eq_true q123
              go_wp2
              repeat (go_quiet (fail); try go_wp2)
              go_meet
              case rel => exact ⟨_, (false), y2 , H', ⟨by have := HJ7.out; have := HK2.out; have := HJ23.out; first | omega | exact Nat.le_refl _⟩, ⟨by refine zk ?_; exact HO_3.out⟩, ⟨by refine zk ?_; exact HO_4.out⟩, ⟨by refine zk ?_; exact HO_5.out⟩, ⟨zHB⟩⟩
             rw [if_neg c41] at H
             have c41b0 : (((rd_T26 t107 (ji38)).f1) == ((rd_T26 t107 x7_2).f1)) = false := beq_eq_false_iff_ne.mpr c41
             have c41b1 : (((rd_T26 t107 (ji38)).f1) != ((rd_T26 t107 x7_2).f1)) = true := bne_iff_ne.mpr c41
             have H' := zA H
             clear H
             have p120 : 0 ≤ ((ji38) : Int) := of_decide_eq_true y1 
             have q120 : (ji38) < (t107.length : Int) := of_decide_eq_true y1 
             obtain ⟨ad120, e120, hx120_0, hx120_1⟩ := at_T26 (Kd.R_reads' HO_5.out).2.2 (ji38) p120 q120
             obtain rfl : ad119 = ad120 := (by injection e120)
             replace p120 := eq_true p120
             replace q120 := eq_true q120
             have p121 : 0 ≤ (x7_2 : Int) := of_decide_eq_true y1 
             have q121 : x7_2 < (t107.length : Int) := of_decide_eq_true y1 
             obtain ⟨ad121, e121, hx121_0, hx121_1⟩ := at_T26 (Kd.R_reads' HO_5.out).2.2 x7_2 p121 q121
             obtain rfl : ad119 = ad121 := (by injection e121)
             replace p121 := eq_true p121
             replace q121 := eq_true q121
             go_wp2
             repeat (go_quiet (fail); try go_wp2)
             go_meet
             case rel => exact ⟨_, (false), y2 , H', ⟨by have := HJ7.out; have := HK2.out; have := HJ23.out; first | omega | exact Nat.le_refl _⟩, ⟨by refine zk ?_; exact HO_3.out⟩, ⟨by refine zk ?_; exact HO_4.out⟩, ⟨by refine zk ?_; exact HO_5.out⟩, ⟨zHB⟩⟩
            rw [if_neg c40] at H
            exact absurd H (by simp)
           rw [if_neg c39] at H
           exact absurd H (by simp)
          rw [if_neg c37] at H
          have c37b0 : decide (0 < x7_2) = false := decide_eq_false c37
          clear c37
          (first | rw [c37b0] | (simp only [i64_w, i32_w]; rw [c37b0]) | skip)
          have H' := zA H
          clear H
          go_wp2
          repeat (go_quiet (fail); try go_wp2)
          go_meet
          case rel => exact ⟨_, (false), y2 , H', ⟨by have := HJ7.out; have := HK2.out; have := HJ23.out; first | omega | exact Nat.le_refl _⟩, ⟨by refine zk ?_; exact HO_3.out⟩, ⟨by refine zk ?_; exact HO_4.out⟩, ⟨by refine zk ?_; exact HO_5.out⟩, ⟨zHB⟩⟩
         case rest =>
          clear HC36
          try clear c1
          try clear p1
          try clear q1
          try clear hx1
          try clear c2
          try clear c2b0
          try clear c2b1
          try clear p2
          try clear c3
          try clear c4
          try clear p6
          try clear c7
          try clear p11
          try clear q11
          try clear hx11
          try clear p12
          try clear q12
          try clear hx12
          try clear c17
          try clear c19
          try clear c22
          try clear c23
          try clear c23b0
          try clear c25
          try clear c25b0
          try clear c27
          try clear c30
          try clear c31
          try clear c31b0
          try clear c32
          try clear c32b0
          try clear c34
          try clear c34b0
          try clear c34b1
          try clear c37
          try clear c37b0
          try clear c39
          try clear c39b0
          try clear c40
          try clear c40b0
          try clear c41
          try clear c41b0
          try clear c41b1
          try clear c42
          try clear c42b0
          try clear c42b1
          try clear c43
          try clear c43b0
          try clear c43b1
          try clear hx116_0
          try clear hx116_1
          try clear hx118_0
          try clear hx118_1
          try clear hx119_0
          try clear hx119_1
          try clear hx120_0
          try clear hx120_1
          try clear hx121_0
          try clear hx121_1
          try clear hx122_0
          try clear hx122_1
          try clear hx123_0
          try clear hx123_1
          try clear hx124_0
          try clear hx124_1
          try clear p1
          try clear p11
          try clear p116
          try clear p118
          try clear p119
          try clear p120
          try clear p121
          try clear p122
          try clear p123
          try clear p124
          try clear p2
          try clear q1
          try clear q11
          try clear q116
          try clear q118
          try clear q119
          try clear q120
          try clear q121
          try clear q122
          try clear q123
          try clear q124
          obtain ⟨kq, x111_35, rfl, HA, HJ35, HO_3, HO_4, HO_5, HB⟩ := hcut
          cases kq with
          | zero => exact absurd HA.out (by simp [laws_FnNetTop.j3])
          | succ kj35 => ?_
          have H := HA.out
          clear HA
          simp only [laws_FnNetTop.j3] at H
          by_cases c44 : x111_35 = true
          ·subst c44
           have H1 : (some false) = some r := by rw [if_pos rfl] at H; exact H
           clear H
           have H := H1
           clear H1
           obtain rfl := Option.some.inj H
           go_wp2
           repeat (go_quiet (fail); try go_wp2)
           go_ret
           exact ⟨by first | rfl | (simp [errW_none, errW_some] <;> rfl) | (simp only [← hji33, ← hji35]; first | rfl | (simp [errW_none, errW_some] <;> rfl)) | (simp [*, errW_none, errW_some] <;> rfl), zHB⟩
          replace c44 := Bool.eq_false_iff.mpr c44
          subst c44
          have H1 : (laws_FnNetTop.l1 kj35 t101 t102 t107 x7_2 ji35 x6_2) = some r := by rw [if_neg (show ¬ (false = true) by decide)] at H; exact H
          clear H
          have H := H1
          clear H1
          have H' := zA H
          clear H
          go_wp2
          repeat (go_quiet (fail); try go_wp2)
          go_loopg [9] kj35 (fun kq v9 w' => ∃ (x9_5 : Int), v9 = .int .i64 x9_5 ∧ Aside0 (laws_FnNetTop.l1 kq t101 t102 t107 x7_2 ji35 x9_5 = some r) ∧ Aside0 (kq ≤ kj35) ∧ Aside0 (Kd.R k26 26 w' w.heap.size (fun k_ => some k_ ≠ ((.slice Ao11 t102.length co11) : Value).ownBlock ∧ some k_ ≠ ((.slice (some ad119) t107.length co14) : Value).ownBlock) (.slice Ao10 t101.length co10) t101) ∧ Aside0 (Kd.R k26 26 w' w.heap.size (fun k_ => some k_ ≠ ((.slice Ao10 t101.length co10) : Value).ownBlock ∧ some k_ ≠ ((.slice (some ad119) t107.length co14) : Value).ownBlock) (.slice Ao11 t102.length co11) t102) ∧ Aside0 (Kd.R k26 26 w' w.heap.size (fun k_ => some k_ ≠ ((.slice Ao10 t101.length co10) : Value).ownBlock ∧ some k_ ≠ ((.slice Ao11 t102.length co11) : Value).ownBlock) (.slice (some ad119) t107.length co14) t107) ∧ Aside0 (Below w.heap.size w w'))
          case atStart => exact ⟨(x6_2), y2 , H', ⟨Nat.le_refl _⟩, ⟨by refine zk ?_; exact HO_3.out⟩, ⟨by refine zk ?_; exact HO_4.out⟩, ⟨by refine zk ?_; exact HO_5.out⟩, ⟨zHB⟩⟩
          case round =>
           clear H'
           try clear c1
           try clear p1
           try clear q1
           try clear hx1
           try clear c2
           try clear c2b0
           try clear c2b1
           try clear p2
           try clear c3
           try clear c4
           try clear p6
           try clear c7
           try clear p11
           try clear q11
           try clear hx11
           try clear p12
           try clear q12
           try clear hx12
           try clear c17
           try clear c19
           try clear c22
           try clear c23
           try clear c23b0
           try clear c25
           try clear c25b0
           try clear c27
           try clear c30
           try clear c31
           try clear c31b0
           try clear c32
           try clear c32b0
           try clear c34
           try clear c34b0
           try clear c34b1
           try clear c37
           try clear c37b0
           try clear c39
           try clear c39b0
           try clear c40
           try clear c40b0
           try clear c41
           try clear c41b0
           try clear c41b1
           try clear c42
           try clear c42b0
           try clear c42b1
           try clear c43
           try clear c43b0
           try clear c43b1
           try clear c44
           try clear hx116_0
           try clear hx116_1
           try clear hx118_0
           try clear hx118_1
           try clear hx119_0
           try clear hx119_1
           try clear hx120_0
           try clear hx120_1
           try clear hx121_0
           try clear hx121_1
           try clear hx122_0
           try clear hx122_1
           try clear hx123_0
           try clear hx123_1
           try clear hx124_0
           try clear hx124_1
           try clear p1
           try clear p11
           try clear p116
           try clear p118
           try clear p119
           try clear p12
           try clear p120
           try clear p121
           try clear p122
           try clear p123
           try clear p124
           try clear p2
           try clear p6
           try clear q1
           try clear q11
           try clear q116
           try clear q118
           try clear q119
           try clear q12
           try clear q120
           try clear q121
           try clear q122
           try clear q123
           try clear q124
           obtain ⟨x9_5, rfl, HA, HK5, HO_3, HO_4, HO_5, HB⟩ := hrel
           cases gk with
           | zero => exact absurd HA.out (by simp [laws_FnNetTop.l1])
           | succ k5 => ?_
           have H := HA.out
           clear HA
           simp only [laws_FnNetTop.l1] at H
           by_cases c45 : 0 ≤ x7_2
           ·rw [if_pos c45] at H
            have c45b0 : decide (0 ≤ x7_2) = true := decide_eq_true c45
            clear c45
            by_cases c46 : x7_2 < (t107.length : Int)
            ·rw [if_pos c46] at H
             have c46b0 : decide (x7_2 < (t107.length : Int)) = true := decide_eq_true c46
             clear c46
             by_cases c47 : x9_5 < ((rd_T26 t107 x7_2).f0)
             ·rw [if_pos c47] at H
              have c47b0 : decide (x9_5 < ((rd_T26 t107 x7_2).f0)) = true := decide_eq_true c47
              clear c47
              replace H := Option.bind_eq_some_iff.mp H
              obtain ⟨t126, A480, H⟩ := H
              replace H : (if t126 = true then ((laws_wnHas.f k5 t102 x9_5).bind fun t127 => (if t127 = true then (laws_FnNetTop.l1 k5 t101 t102 t107 x7_2 ji35 (wrap64 (x9_5 + 1))) else (some false))) else (laws_FnNetTop.l1 k5 t101 t102 t107 x7_2 ji35 (wrap64 (x9_5 + 1)))) = some r := H
              have A48 := zA A480
              clear A480
              by_cases c49 : t126 = true
              ·subst c49
               have H1 : ((laws_wnHas.f k5 t102 x9_5).bind fun t127 => (if t127 = true then (laws_FnNetTop.l1 k5 t101 t102 t107 x7_2 ji35 (wrap64 (x9_5 + 1))) else (some false))) = some r := by rw [if_pos rfl] at H; exact H
               clear H
               have H := H1
               clear H1
               replace H := Option.bind_eq_some_iff.mp H
               obtain ⟨t127, A500, H⟩ := H
               replace H : (if t127 = true then (laws_FnNetTop.l1 k5 t101 t102 t107 x7_2 ji35 (wrap64 (x9_5 + 1))) else (some false)) = some r := H
               have A50 := zA A500
               clear A500
               by_cases c51 : t127 = true
               ·subst c51
                have H1 : (laws_FnNetTop.l1 k5 t101 t102 t107 x7_2 ji35 (wrap64 (x9_5 + 1))) = some r := by rw [if_pos rfl] at H; exact H
                clear H
                have H := H1
                clear H1
                have H' := zA H
                clear H
                have p125 : 0 ≤ (x7_2 : Int) := of_decide_eq_true y1 
                have q125 : x7_2 < (t107.length : Int) := of_decide_eq_true y1 
                obtain ⟨ad125, e125, hx125_0, hx125_1⟩ := at_T26 (Kd.R_reads' HO_5.out).2.2 x7_2 p125 q125
                obtain rfl : ad119 = ad125 := (by injection e125)
                replace p125 := eq_true p125
                replace q125 := eq_true q125
                go_wp2_with (first | (go_at_call 69; (with_reducible refine (laws_wnHas.calls k5 _ _ t101 x9_5 true _ ?side1 ?side2 A48.out).mono ?_); (case side1 => repeat (first | exact (Kd.R_reads' HO_3.out).2.2 | (with_reducible refine Kd.C_alloc ?_ _) | (with_reducible refine Kd.C_drewN ?_ _) | (with_reducible refine Kd.C_drew ?_))); (case side2 => exact (Kd.R_reads' HO_3.out).2.1); rintro e w52 ⟨rfl, hb⟩; have n0_ := zA (Kd.R_below (zr HO_3.out) hb); have n1_ := zA (Kd.R_below (zr HO_4.out) hb); have n2_ := zA (Kd.R_below (zr HO_5.out) hb); have n3_ := zA (below_step (zHB) hb); clear HO_3; clear HO_4; clear HO_5; clear HB; have HO_3 := n0_; have HO_4 := n1_; have HO_5 := n2_; have HB := n3_; clear n0_ n1_ n2_ n3_; (try clear hb); (try clear hb2); (try clear hk); (try clear hi)) | (go_at_call 69; (with_reducible refine (laws_wnHas.calls k5 _ _ t102 x9_5 true _ ?side1 ?side2 A50.out).mono ?_); (case side1 => repeat (first | exact (Kd.R_reads' HO_4.out).2.2 | (with_reducible refine Kd.C_alloc ?_ _) | (with_reducible refine Kd.C_drewN ?_ _) | (with_reducible refine Kd.C_drew ?_))); (case side2 => exact (Kd.R_reads' HO_4.out).2.1); rintro e w53 ⟨rfl, hb⟩; have n0_ := zA (Kd.R_below (zr HO_3.out) hb); have n1_ := zA (Kd.R_below (zr HO_4.out) hb); have n2_ := zA (Kd.R_below (zr HO_5.out) hb); have n3_ := zA (below_step (zHB) hb); clear HO_3; clear HO_4; clear HO_5; clear HB; have HO_3 := n0_; have HO_4 := n1_; have HO_5 := n2_; have HB := n3_; clear n0_ n1_ n2_ n3_; (try clear hb); (try clear hb2); (try clear hk); (try clear hi)))
                repeat (go_quiet (first | (go_at_call 69; (with_reducible refine (laws_wnHas.calls k5 _ _ t101 x9_5 true _ ?side1 ?side2 A48.out).mono ?_); (case side1 => repeat (first | exact (Kd.R_reads' HO_3.out).2.2 | (with_reducible refine Kd.C_alloc ?_ _) | (with_reducible refine Kd.C_drewN ?_ _) | (with_reducible refine Kd.C_drew ?_))); (case side2 => exact (Kd.R_reads' HO_3.out).2.1); rintro e w52 ⟨rfl, hb⟩; have n0_ := zA (Kd.R_below (zr HO_3.out) hb); have n1_ := zA (Kd.R_below (zr HO_4.out) hb); have n2_ := zA (Kd.R_below (zr HO_5.out) hb); have n3_ := zA (below_step (zHB) hb); clear HO_3; clear HO_4; clear HO_5; clear HB; have HO_3 := n0_; have HO_4 := n1_; have HO_5 := n2_; have HB := n3_; clear n0_ n1_ n2_ n3_; (try clear hb); (try clear hb2); (try clear hk); (try clear hi)) | (go_at_call 69; (with_reducible refine (laws_wnHas.calls k5 _ _ t102 x9_5 true _ ?side1 ?side2 A50.out).mono ?_); (case side1 => repeat (first | exact (Kd.R_reads' HO_4.out).2.2 | (with_reducible refine Kd.C_alloc ?_ _) | (with_reducible refine Kd.C_drewN ?_ _) | (with_reducible refine Kd.C_drew ?_))); (case side2 => exact (Kd.R_reads' HO_4.out).2.1); rintro e w53 ⟨rfl, hb⟩; have n0_ := zA (Kd.R_below (zr HO_3.out) hb); have n1_ := zA (Kd.R_below (zr HO_4.out) hb); have n2_ := zA (Kd.R_below (zr HO_5.out) hb); have n3_ := zA (below_step (zHB) hb); clear HO_3; clear HO_4; clear HO_5; clear HB; have HO_3 := n0_; have HO_4 := n1_; have HO_5 := n2_; have HB := n3_; clear n0_ n1_ n2_ n3_; (try clear hb); (try clear hb2); (try clear hk); (try clear hi))); try go_wp2_with (first | (go_at_call 69; (with_reducible refine (laws_wnHas.calls k5 _ _ t101 x9_5 true _ ?side1 ?side2 A48.out).mono ?_); (case side1 => repeat (first | exact (Kd.R_reads' HO_3.out).2.2 | (with_reducible refine Kd.C_alloc ?_ _) | (with_reducible refine Kd.C_drewN ?_ _) | (with_reducible refine Kd.C_drew ?_))); (case side2 => exact (Kd.R_reads' HO_3.out).2.1); rintro e w52 ⟨rfl, hb⟩; have n0_ := zA (Kd.R_below (zr HO_3.out) hb); have n1_ := zA (Kd.R_below (zr HO_4.out) hb); have n2_ := zA (Kd.R_below (zr HO_5.out) hb); have n3_ := zA (below_step (zHB) hb); clear HO_3; clear HO_4; clear HO_5; clear HB; have HO_3 := n0_; have HO_4 := n1_; have HO_5 := n2_; have HB := n3_; clear n0_ n1_ n2_ n3_; (try clear hb); (try clear hb2); (try clear hk); (try clear hi)) | (go_at_call 69; (with_reducible refine (laws_wnHas.calls k5 _ _ t102 x9_5 true _ ?side1 ?side2 A50.out).mono ?_); (case side1 => repeat (first | exact (Kd.R_reads' HO_4.out).2.2 | (with_reducible refine Kd.C_alloc ?_ _) | (with_reducible refine Kd.C_drewN ?_ _) | (with_reducible refine Kd.C_drew ?_))); (case side2 => exact (Kd.R_reads' HO_4.out).2.1); rintro e w53 ⟨rfl, hb⟩; have n0_ := zA (Kd.R_below (zr HO_3.out) hb); have n1_ := zA (Kd.R_below (zr HO_4.out) hb); have n2_ := zA (Kd.R_below (zr HO_5.out) hb); have n3_ := zA (below_step (zHB) hb); clear HO_3; clear HO_4; clear HO_5; clear HB; have HO_3 := n0_; have HO_4 := n1_; have HO_5 := n2_; have HB := n3_; clear n0_ n1_ n2_ n3_; (try clear hb); (try clear hb2); (try clear hk); (try clear hi))))
                go_roundg k5
                case measure => have := HJ7.out; have := HK2.out; have := HJ23.out; have := HJ35.out; have := HK5.out; omega
                case rel => exact ⟨(wrap64 (x9_5 + 1)), y2 , H', ⟨by have := HJ7.out; have := HK2.out; have := HJ23.out; have := HJ35.out; have := HK5.out; omega⟩, ⟨by refine zk ?_; exact HO_3.out⟩, ⟨by refine zk ?_; exact HO_4.out⟩, ⟨by refine zk ?_; exact HO_5.out⟩, ⟨zHB⟩⟩
               replace c51 := Bool.eq_false_iff.mpr c51
               subst c51
               have H1 : (some false) = some r := by rw [if_neg (show ¬ (false = true) by decide)] at H; exact H
               clear H
               have H := H1
               clear H1
               obtain rfl := Option.some.inj H
               have p125 : 0 ≤ (x7_2 : Int) := of_decide_eq_true y1 
               have q125 : x7_2 < (t107.length : Int) := of_decide_eq_true y1 
               obtain ⟨ad125, e125, hx125_0, hx125_1⟩ := at_T26 (Kd.R_reads' HO_5.out).2.2 x7_2 p125 q125
               obtain rfl : ad119 = ad125 := (by injection e125)
               replace p125 := eq_true p125
               replace q125 := eq_true q125
               go_wp2_with (first | (go_at_call 69; (with_reducible refine (laws_wnHas.calls k5 _ _ t101 x9_5 true _ ?side1 ?side2 A48.out).mono ?_); (case side1 => repeat (first | exact (Kd.R_reads' HO_3.out).2.2 | (with_reducible refine Kd.C_alloc ?_ _) | (with_reducible refine Kd.C_drewN ?_ _) | (with_reducible refine Kd.C_drew ?_))); (case side2 => exact (Kd.R_reads' HO_3.out).2.1); rintro e w54 ⟨rfl, hb⟩; have n0_ := zA (Kd.R_below (zr HO_3.out) hb); have n1_ := zA (Kd.R_below (zr HO_4.out) hb); have n2_ := zA (Kd.R_below (zr HO_5.out) hb); have n3_ := zA (below_step (zHB) hb); clear HO_3; clear HO_4; clear HO_5; clear HB; have HO_3 := n0_; have HO_4 := n1_; have HO_5 := n2_; have HB := n3_; clear n0_ n1_ n2_ n3_; (try clear hb); (try clear hb2); (try clear hk); (try clear hi)) | (go_at_call 69; (with_reducible refine (laws_wnHas.calls k5 _ _ t102 x9_5 false _ ?side1 ?side2 A50.out).mono ?_); (case side1 => repeat (first | exact (Kd.R_reads' HO_4.out).2.2 | (with_reducible refine Kd.C_alloc ?_ _) | (with_reducible refine Kd.C_drewN ?_ _) | (with_reducible refine Kd.C_drew ?_))); (case side2 => exact (Kd.R_reads' HO_4.out).2.1); rintro e w55 ⟨rfl, hb⟩; have n0_ := zA (Kd.R_below (zr HO_3.out) hb); have n1_ := zA (Kd.R_below (zr HO_4.out) hb); have n2_ := zA (Kd.R_below (zr HO_5.out) hb); have n3_ := zA (below_step (zHB) hb); clear HO_3; clear HO_4; clear HO_5; clear HB; have HO_3 := n0_; have HO_4 := n1_; have HO_5 := n2_; have HB := n3_; clear n0_ n1_ n2_ n3_; (try clear hb); (try clear hb2); (try clear hk); (try clear hi)))
               repeat (go_quiet (first | (go_at_call 69; (with_reducible refine (laws_wnHas.calls k5 _ _ t101 x9_5 true _ ?side1 ?side2 A48.out).mono ?_); (case side1 => repeat (first | exact (Kd.R_reads' HO_3.out).2.2 | (with_reducible refine Kd.C_alloc ?_ _) | (with_reducible refine Kd.C_drewN ?_ _) | (with_reducible refine Kd.C_drew ?_))); (case side2 => exact (Kd.R_reads' HO_3.out).2.1); rintro e w54 ⟨rfl, hb⟩; have n0_ := zA (Kd.R_below (zr HO_3.out) hb); have n1_ := zA (Kd.R_below (zr HO_4.out) hb); have n2_ := zA (Kd.R_below (zr HO_5.out) hb); have n3_ := zA (below_step (zHB) hb); clear HO_3; clear HO_4; clear HO_5; clear HB; have HO_3 := n0_; have HO_4 := n1_; have HO_5 := n2_; have HB := n3_; clear n0_ n1_ n2_ n3_; (try clear hb); (try clear hb2); (try clear hk); (try clear hi)) | (go_at_call 69; (with_reducible refine (laws_wnHas.calls k5 _ _ t102 x9_5 false _ ?side1 ?side2 A50.out).mono ?_); (case side1 => repeat (first | exact (Kd.R_reads' HO_4.out).2.2 | (with_reducible refine Kd.C_alloc ?_ _) | (with_reducible refine Kd.C_drewN ?_ _) | (with_reducible refine Kd.C_drew ?_))); (case side2 => exact (Kd.R_reads' HO_4.out).2.1); rintro e w55 ⟨rfl, hb⟩; have n0_ := zA (Kd.R_below (zr HO_3.out) hb); have n1_ := zA (Kd.R_below (zr HO_4.out) hb); have n2_ := zA (Kd.R_below (zr HO_5.out) hb); have n3_ := zA (below_step (zHB) hb); clear HO_3; clear HO_4; clear HO_5; clear HB; have HO_3 := n0_; have HO_4 := n1_; have HO_5 := n2_; have HB := n3_; clear n0_ n1_ n2_ n3_; (try clear hb); (try clear hb2); (try clear hk); (try clear hi))); try go_wp2_with (first | (go_at_call 69; (with_reducible refine (laws_wnHas.calls k5 _ _ t101 x9_5 true _ ?side1 ?side2 A48.out).mono ?_); (case side1 => repeat (first | exact (Kd.R_reads' HO_3.out).2.2 | (with_reducible refine Kd.C_alloc ?_ _) | (with_reducible refine Kd.C_drewN ?_ _) | (with_reducible refine Kd.C_drew ?_))); (case side2 => exact (Kd.R_reads' HO_3.out).2.1); rintro e w54 ⟨rfl, hb⟩; have n0_ := zA (Kd.R_below (zr HO_3.out) hb); have n1_ := zA (Kd.R_below (zr HO_4.out) hb); have n2_ := zA (Kd.R_below (zr HO_5.out) hb); have n3_ := zA (below_step (zHB) hb); clear HO_3; clear HO_4; clear HO_5; clear HB; have HO_3 := n0_; have HO_4 := n1_; have HO_5 := n2_; have HB := n3_; clear n0_ n1_ n2_ n3_; (try clear hb); (try clear hb2); (try clear hk); (try clear hi)) | (go_at_call 69; (with_reducible refine (laws_wnHas.calls k5 _ _ t102 x9_5 false _ ?side1 ?side2 A50.out).mono ?_); (case side1 => repeat (first | exact (Kd.R_reads' HO_4.out).2.2 | (with_reducible refine Kd.C_alloc ?_ _) | (with_reducible refine Kd.C_drewN ?_ _) | (with_reducible refine Kd.C_drew ?_))); (case side2 => exact (Kd.R_reads' HO_4.out).2.1); rintro e w55 ⟨rfl, hb⟩; have n0_ := zA (Kd.R_below (zr HO_3.out) hb); have n1_ := zA (Kd.R_below (zr HO_4.out) hb); have n2_ := zA (Kd.R_below (zr HO_5.out) hb); have n3_ := zA (below_step (zHB) hb); clear HO_3; clear HO_4; clear HO_5; clear HB; have HO_3 := n0_; have HO_4 := n1_; have HO_5 := n2_; have HB := n3_; clear n0_ n1_ n2_ n3_; (try clear hb); (try clear hb2); (try clear hk); (try clear hi))))
               go_ret
               exact ⟨by first | rfl | (simp [errW_none, errW_some] <;> rfl) | (simp only [← hji33, ← hji35]; first | rfl | (simp [errW_none, errW_some] <;> rfl)) | (simp [*, errW_none, errW_some] <;> rfl), zHB⟩
              replace c49 := Bool.eq_false_iff.mpr c49
              subst c49
              have H1 : (laws_FnNetTop.l1 k5 t101 t102 t107 x7_2 ji35 (wrap64 (x9_5 + 1))) = some r := by rw [if_neg (show ¬ (false = true) by decide)] at H; exact H
              clear H
              have H := H1
              clear H1
              have H' := zA H
              clear H
              have p125 : 0 ≤ (x7_2 : Int) := of_decide_eq_true y1 
              have q125 : x7_2 < (t107.length : Int) := of_decide_eq_true y1 
              obtain ⟨ad125, e125, hx125_0, hx125_1⟩ := at_T26 (Kd.R_reads' HO_5.out).2.2 x7_2 p125 q125
              obtain rfl : ad119 = ad125 := (by injection e125)
              replace p125 := eq_true p125
              replace q125 := eq_true q125
              go_wp2_with (first | (go_at_call 69; (with_reducible refine (laws_wnHas.calls k5 _ _ t101 x9_5 false _ ?side1 ?side2 A48.out).mono ?_); (case side1 => repeat (first | exact (Kd.R_reads' HO_3.out).2.2 | (with_reducible refine Kd.C_alloc ?_ _) | (with_reducible refine Kd.C_drewN ?_ _) | (with_reducible refine Kd.C_drew ?_))); (case side2 => exact (Kd.R_reads' HO_3.out).2.1); rintro e w56 ⟨rfl, hb⟩; have n0_ := zA (Kd.R_below (zr HO_3.out) hb); have n1_ := zA (Kd.R_below (zr HO_4.out) hb); have n2_ := zA (Kd.R_below (zr HO_5.out) hb); have n3_ := zA (below_step (zHB) hb); clear HO_3; clear HO_4; clear HO_5; clear HB; have HO_3 := n0_; have HO_4 := n1_; have HO_5 := n2_; have HB := n3_; clear n0_ n1_ n2_ n3_; (try clear hb); (try clear hb2); (try clear hk); (try clear hi)))
              repeat (go_quiet (first | (go_at_call 69; (with_reducible refine (laws_wnHas.calls k5 _ _ t101 x9_5 false _ ?side1 ?side2 A48.out).mono ?_); (case side1 => repeat (first | exact (Kd.R_reads' HO_3.out).2.2 | (with_reducible refine Kd.C_alloc ?_ _) | (with_reducible refine Kd.C_drewN ?_ _) | (with_reducible refine Kd.C_drew ?_))); (case side2 => exact (Kd.R_reads' HO_3.out).2.1); rintro e w56 ⟨rfl, hb⟩; have n0_ := zA (Kd.R_below (zr HO_3.out) hb); have n1_ := zA (Kd.R_below (zr HO_4.out) hb); have n2_ := zA (Kd.R_below (zr HO_5.out) hb); have n3_ := zA (below_step (zHB) hb); clear HO_3; clear HO_4; clear HO_5; clear HB; have HO_3 := n0_; have HO_4 := n1_; have HO_5 := n2_; have HB := n3_; clear n0_ n1_ n2_ n3_; (try clear hb); (try clear hb2); (try clear hk); (try clear hi))); try go_wp2_with (first | (go_at_call 69; (with_reducible refine (laws_wnHas.calls k5 _ _ t101 x9_5 false _ ?side1 ?side2 A48.out).mono ?_); (case side1 => repeat (first | exact (Kd.R_reads' HO_3.out).2.2 | (with_reducible refine Kd.C_alloc ?_ _) | (with_reducible refine Kd.C_drewN ?_ _) | (with_reducible refine Kd.C_drew ?_))); (case side2 => exact (Kd.R_reads' HO_3.out).2.1); rintro e w56 ⟨rfl, hb⟩; have n0_ := zA (Kd.R_below (zr HO_3.out) hb); have n1_ := zA (Kd.R_below (zr HO_4.out) hb); have n2_ := zA (Kd.R_below (zr HO_5.out) hb); have n3_ := zA (below_step (zHB) hb); clear HO_3; clear HO_4; clear HO_5; clear HB; have HO_3 := n0_; have HO_4 := n1_; have HO_5 := n2_; have HB := n3_; clear n0_ n1_ n2_ n3_; (try clear hb); (try clear hb2); (try clear hk); (try clear hi))))
              go_roundg k5
              case measure => have := HJ7.out; have := HK2.out; have := HJ23.out; have := HJ35.out; have := HK5.out; omega
              case rel => exact ⟨(wrap64 (x9_5 + 1)), y2 , H', ⟨by have := HJ7.out; have := HK2.out; have := HJ23.out; have := HJ35.out; have := HK5.out; omega⟩, ⟨by refine zk ?_; exact HO_3.out⟩, ⟨by refine zk ?_; exact HO_4.out⟩, ⟨by refine zk ?_; exact HO_5.out⟩, ⟨zHB⟩⟩
             rw [if_neg c47] at H
             have c47b0 : decide (x9_5 < ((rd_T26 t107 x7_2).f0)) = false := decide_eq_false c47
             clear c47
             have H' := zA H
             clear H
             have p125 : 0 ≤ (x7_2 : Int) := of_decide_eq_true y1 
             have q125 : x7_2 < (t107.length : Int) := of_decide_eq_true y1 
             obtain ⟨ad125, e125, hx125_0, hx125_1⟩ := at_T26 (Kd.R_reads' HO_5.out).2.2 x7_2 p125 q125
             obtain rfl : ad119 = ad125 := (by injection e125)
             replace p125 := eq_true p125
             replace q125 := eq_true q125
             have p128 : 0 ≤ (x7_2 : Int) := of_decide_eq_true y1 
             have q128 : x7_2 < (t107.length : Int) := of_decide_eq_true y1 
             obtain ⟨ad128, e128, hx128_0, hx128_1⟩ := at_T26 (Kd.R_reads' HO_5.out).2.2 x7_2 p128 q128
             obtain rfl : ad119 = ad128 := (by injection e128)
             replace p128 := eq_true p128
             replace q128 := eq_true q128
             go_wp2
             repeat (go_quiet (fail); try go_wp2)
             go_loopg [10] k5 (fun kq v10 w' => ∃ (x10_6 : Int), v10 = .int .i64 x10_6 ∧ Aside0 (laws_FnNetTop.l2 kq t101 t102 t107 x7_2 ji35 x10_6 = some r) ∧ Aside0 (kq ≤ k5) ∧ Aside0 (Kd.R k26 26 w' w.heap.size (fun k_ => some k_ ≠ ((.slice Ao11 t102.length co11) : Value).ownBlock ∧ some k_ ≠ ((.slice (some ad119) t107.length co14) : Value).ownBlock) (.slice Ao10 t101.length co10) t101) ∧ Aside0 (Kd.R k26 26 w' w.heap.size (fun k_ => some k_ ≠ ((.slice Ao10 t101.length co10) : Value).ownBlock ∧ some k_ ≠ ((.slice (some ad119) t107.length co14) : Value).ownBlock) (.slice Ao11 t102.length co11) t102) ∧ Aside0 (Kd.R k26 26 w' w.heap.size (fun k_ => some k_ ≠ ((.slice Ao10 t101.length co10) : Value).ownBlock ∧ some k_ ≠ ((.slice Ao11 t102.length co11) : Value).ownBlock) (.slice (some ad119) t107.length co14) t107) ∧ Aside0 (Below w.heap.size w w'))
             case atStart => exact ⟨((rd_T26 t107 x7_2).f0), y2 , H', ⟨Nat.le_refl _⟩, ⟨by refine zk ?_; exact HO_3.out⟩, ⟨by refine zk ?_; exact HO_4.out⟩, ⟨by refine zk ?_; exact HO_5.out⟩, ⟨zHB⟩⟩
             case round =>
              clear H'
              try clear c1
              try clear p1
              try clear q1
              try clear hx1
              try clear c2
              try clear c2b0
              try clear c2b1
              try clear p2
              try clear c3
              try clear c4
              try clear c5
              try clear p6
              try clear c7
              try clear p11
              try clear q11
              try clear hx11
              try clear p12
              try clear q12
              try clear hx12
              try clear c17
              try clear c19
              try clear c22
              try clear c23
              try clear c23b0
              try clear c25
              try clear c25b0
              try clear c27
              try clear c30
              try clear c31
              try clear c31b0
              try clear c32
              try clear c32b0
              try clear c34
              try clear c34b0
              try clear c34b1
              try clear c37
              try clear c37b0
              try clear c39
              try clear c39b0
              try clear c40
              try clear c40b0
              try clear c41
              try clear c41b0
              try clear c41b1
              try clear c42
              try clear c42b0
              try clear c42b1
              try clear c43
              try clear c43b0
              try clear c43b1
              try clear c44
              try clear c45
              try clear c45b0
              try clear c46
              try clear c46b0
              try clear c47
              try clear c47b0
              try clear c49
              try clear c51
              try clear hx116_0
              try clear hx116_1
              try clear hx118_0
              try clear hx118_1
              try clear hx119_0
              try clear hx119_1
              try clear hx120_0
              try clear hx120_1
              try clear hx121_0
              try clear hx121_1
              try clear hx122_0
              try clear hx122_1
              try clear hx123_0
              try clear hx123_1
              try clear hx124_0
              try clear hx124_1
              try clear hx125_0
              try clear hx125_1
              try clear hx128_0
              try clear hx128_1
              try clear p1
              try clear p11
              try clear p116
              try clear p118
              try clear p119
              try clear p12
              try clear p120
              try clear p121
              try clear p122
              try clear p123
              try clear p124
              try clear p125
              try clear p128
              try clear p2
              try clear p6
              try clear q1
              try clear q11
              try clear q116
              try clear q118
              try clear q119
              try clear q12
              try clear q120
              try clear q121
              try clear q122
              try clear q123
              try clear q124
              try clear q125
              try clear q128
              obtain ⟨x10_6, rfl, HA, HK6, HO_3, HO_4, HO_5, HB⟩ := hrel
              cases gk with
              | zero => exact absurd HA.out (by simp [laws_FnNetTop.l2])
              | succ k6 => ?_
              have H := HA.out
              clear HA
              simp only [laws_FnNetTop.l2] at H
              by_cases c57 : 0 ≤ x7_2
              ·rw [if_pos c57] at H
               have c57b0 : decide (0 ≤ x7_2) = true := decide_eq_true c57
               clear c57
               by_cases c58 : x7_2 < (t107.length : Int)
               ·rw [if_pos c58] at H
                have c58b0 : decide (x7_2 < (t107.length : Int)) = true := decide_eq_true c58
                clear c58
                by_cases c59 : x10_6 < (wrap64 (((rd_T26 t107 x7_2).f0) + ji35))
                ·rw [if_pos c59] at H
                 have c59b0 : decide (x10_6 < (wrap64 (((rd_T26 t107 x7_2).f0) + ji35))) = true := decide_eq_true c59
                 clear c59
                 replace H := Option.bind_eq_some_iff.mp H
                 obtain ⟨t131, A600, H⟩ := H
                 replace H : (if t131 = true then ((laws_wnHas.f k6 t102 x10_6).bind fun t132 => (if t132 = true then (some false) else (laws_FnNetTop.l2 k6 t101 t102 t107 x7_2 ji35 (wrap64 (x10_6 + 1))))) else (some false)) = some r := H
                 have A60 := zA A600
                 clear A600
                 by_cases c61 : t131 = true
                 ·subst c61
                  have H1 : ((laws_wnHas.f k6 t102 x10_6).bind fun t132 => (if t132 = true then (some false) else (laws_FnNetTop.l2 k6 t101 t102 t107 x7_2 ji35 (wrap64 (x10_6 + 1))))) = some r := by rw [if_pos rfl] at H; exact H
                  clear H
                  have H := H1
                  clear H1
                  replace H := Option.bind_eq_some_iff.mp H
                  obtain ⟨t132, A620, H⟩ := H
                  replace H : (if t132 = true then (some false) else (laws_FnNetTop.l2 k6 t101 t102 t107 x7_2 ji35 (wrap64 (x10_6 + 1)))) = some r := H
                  have A62 := zA A620
                  clear A620
                  by_cases c63 : t132 = true
                  ·subst c63
                   have H1 : (some false) = some r := by rw [if_pos rfl] at H; exact H
                   clear H
                   have H := H1
                   clear H1
                   obtain rfl := Option.some.inj H
                   have p129 : 0 ≤ (x7_2 : Int) := of_decide_eq_true y1 
                   have q129 : x7_2 < (t107.length : Int) := of_decide_eq_true y1 
                   obtain ⟨ad129, e129, hx129_0, hx129_1⟩ := at_T26 (Kd.R_reads' HO_5.out).2.2 x7_2 p129 q129
                   obtain rfl : ad119 = ad129 := (by injection e129)
                   replace p129 := eq_true p129
                   replace q129 := eq_true q129
                   go_wp2_with (first | (go_at_call 69; (with_reducible refine (laws_wnHas.calls k6 _ _ t101 x10_6 true _ ?side1 ?side2 A60.out).mono ?_); (case side1 => repeat (first | exact (Kd.R_reads' HO_3.out).2.2 | (with_reducible refine Kd.C_alloc ?_ _) | (with_reducible refine Kd.C_drewN ?_ _) | (with_reducible refine Kd.C_drew ?_))); (case side2 => exact (Kd.R_reads' HO_3.out).2.1); rintro e w64 ⟨rfl, hb⟩; have n0_ := zA (Kd.R_below (zr HO_3.out) hb); have n1_ := zA (Kd.R_below (zr HO_4.out) hb); have n2_ := zA (Kd.R_below (zr HO_5.out) hb); have n3_ := zA (below_step (zHB) hb); clear HO_3; clear HO_4; clear HO_5; clear HB; have HO_3 := n0_; have HO_4 := n1_; have HO_5 := n2_; have HB := n3_; clear n0_ n1_ n2_ n3_; (try clear hb); (try clear hb2); (try clear hk); (try clear hi)) | (go_at_call 69; (with_reducible refine (laws_wnHas.calls k6 _ _ t102 x10_6 true _ ?side1 ?side2 A62.out).mono ?_); (case side1 => repeat (first | exact (Kd.R_reads' HO_4.out).2.2 | (with_reducible refine Kd.C_alloc ?_ _) | (with_reducible refine Kd.C_drewN ?_ _) | (with_reducible refine Kd.C_drew ?_))); (case side2 => exact (Kd.R_reads' HO_4.out).2.1); rintro e w65 ⟨rfl, hb⟩; have n0_ := zA (Kd.R_below (zr HO_3.out) hb); have n1_ := zA (Kd.R_below (zr HO_4.out) hb); have n2_ := zA (Kd.R_below (zr HO_5.out) hb); have n3_ := zA (below_step (zHB) hb); clear HO_3; clear HO_4; clear HO_5; clear HB; have HO_3 := n0_; have HO_4 := n1_; have HO_5 := n2_; have HB := n3_; clear n0_ n1_ n2_ n3_; (try clear hb); (try clear hb2); (try clear hk); (try clear hi)))
                   repeat (go_quiet (first | (go_at_call 69; (with_reducible refine (laws_wnHas.calls k6 _ _ t101 x10_6 true _ ?side1 ?side2 A60.out).mono ?_); (case side1 => repeat (first | exact (Kd.R_reads' HO_3.out).2.2 | (with_reducible refine Kd.C_alloc ?_ _) | (with_reducible refine Kd.C_drewN ?_ _) | (with_reducible refine Kd.C_drew ?_))); (case side2 => exact (Kd.R_reads' HO_3.out).2.1); rintro e w64 ⟨rfl, hb⟩; have n0_ := zA (Kd.R_below (zr HO_3.out) hb); have n1_ := zA (Kd.R_below (zr HO_4.out) hb); have n2_ := zA (Kd.R_below (zr HO_5.out) hb); have n3_ := zA (below_step (zHB) hb); clear HO_3; clear HO_4; clear HO_5; clear HB; have HO_3 := n0_; have HO_4 := n1_; have HO_5 := n2_; have HB := n3_; clear n0_ n1_ n2_ n3_; (try clear hb); (try clear hb2); (try clear hk); (try clear hi)) | (go_at_call 69; (with_reducible refine (laws_wnHas.calls k6 _ _ t102 x10_6 true _ ?side1 ?side2 A62.out).mono ?_); (case side1 => repeat (first | exact (Kd.R_reads' HO_4.out).2.2 | (with_reducible refine Kd.C_alloc ?_ _) | (with_reducible refine Kd.C_drewN ?_ _) | (with_reducible refine Kd.C_drew ?_))); (case side2 => exact (Kd.R_reads' HO_4.out).2.1); rintro e w65 ⟨rfl, hb⟩; have n0_ := zA (Kd.R_below (zr HO_3.out) hb); have n1_ := zA (Kd.R_below (zr HO_4.out) hb); have n2_ := zA (Kd.R_below (zr HO_5.out) hb); have n3_ := zA (below_step (zHB) hb); clear HO_3; clear HO_4; clear HO_5; clear HB; have HO_3 := n0_; have HO_4 := n1_; have HO_5 := n2_; have HB := n3_; clear n0_ n1_ n2_ n3_; (try clear hb); (try clear hb2); (try clear hk); (try clear hi))); try go_wp2_with (first | (go_at_call 69; (with_reducible refine (laws_wnHas.calls k6 _ _ t101 x10_6 true _ ?side1 ?side2 A60.out).mono ?_); (case side1 => repeat (first | exact (Kd.R_reads' HO_3.out).2.2 | (with_reducible refine Kd.C_alloc ?_ _) | (with_reducible refine Kd.C_drewN ?_ _) | (with_reducible refine Kd.C_drew ?_))); (case side2 => exact (Kd.R_reads' HO_3.out).2.1); rintro e w64 ⟨rfl, hb⟩; have n0_ := zA (Kd.R_below (zr HO_3.out) hb); have n1_ := zA (Kd.R_below (zr HO_4.out) hb); have n2_ := zA (Kd.R_below (zr HO_5.out) hb); have n3_ := zA (below_step (zHB) hb); clear HO_3; clear HO_4; clear HO_5; clear HB; have HO_3 := n0_; have HO_4 := n1_; have HO_5 := n2_; have HB := n3_; clear n0_ n1_ n2_ n3_; (try clear hb); (try clear hb2); (try clear hk); (try clear hi)) | (go_at_call 69; (with_reducible refine (laws_wnHas.calls k6 _ _ t102 x10_6 true _ ?side1 ?side2 A62.out).mono ?_); (case side1 => repeat (first | exact (Kd.R_reads' HO_4.out).2.2 | (with_reducible refine Kd.C_alloc ?_ _) | (with_reducible refine Kd.C_drewN ?_ _) | (with_reducible refine Kd.C_drew ?_))); (case side2 => exact (Kd.R_reads' HO_4.out).2.1); rintro e w65 ⟨rfl, hb⟩; have n0_ := zA (Kd.R_below (zr HO_3.out) hb); have n1_ := zA (Kd.R_below (zr HO_4.out) hb); have n2_ := zA (Kd.R_below (zr HO_5.out) hb); have n3_ := zA (below_step (zHB) hb); clear HO_3; clear HO_4; clear HO_5; clear HB; have HO_3 := n0_; have HO_4 := n1_; have HO_5 := n2_; have HB := n3_; clear n0_ n1_ n2_ n3_; (try clear hb); (try clear hb2); (try clear hk); (try clear hi))))
                   go_ret
                   exact ⟨by first | rfl | (simp [errW_none, errW_some] <;> rfl) | (simp only [← hji33, ← hji35]; first | rfl | (simp [errW_none, errW_some] <;> rfl)) | (simp [*, errW_none, errW_some] <;> rfl), zHB⟩
                  replace c63 := Bool.eq_false_iff.mpr c63
                  subst c63
                  have H1 : (laws_FnNetTop.l2 k6 t101 t102 t107 x7_2 ji35 (wrap64 (x10_6 + 1))) = some r := by rw [if_neg (show ¬ (false = true) by decide)] at H; exact H
                  clear H
                  have H := H1
                  clear H1
                  have H' := zA H
                  clear H
                  have p129 : 0 ≤ (x7_2 : Int) := of_decide_eq_true y1 
                  have q129 : x7_2 < (t107.length : Int) := of_decide_eq_true y1 
                  obtain ⟨ad129, e129, hx129_0, hx129_1⟩ := at_T26 (Kd.R_reads' HO_5.out).2.2 x7_2 p129 q129
                  obtain rfl : ad119 = ad129 := (by injection e129)
                  replace p129 := eq_true p129
                  replace q129 := eq_true q129
                  go_wp2_with (first | (go_at_call 69; (with_reducible refine (laws_wnHas.calls k6 _ _ t101 x10_6 true _ ?side1 ?side2 A60.out).mono ?_); (case side1 => repeat (first | exact (Kd.R_reads' HO_3.out).2.2 | (with_reducible refine Kd.C_alloc ?_ _) | (with_reducible refine Kd.C_drewN ?_ _) | (with_reducible refine Kd.C_drew ?_))); (case side2 => exact (Kd.R_reads' HO_3.out).2.1); rintro e w66 ⟨rfl, hb⟩; have n0_ := zA (Kd.R_below (zr HO_3.out) hb); have n1_ := zA (Kd.R_below (zr HO_4.out) hb); have n2_ := zA (Kd.R_below (zr HO_5.out) hb); have n3_ := zA (below_step (zHB) hb); clear HO_3; clear HO_4; clear HO_5; clear HB; have HO_3 := n0_; have HO_4 := n1_; have HO_5 := n2_; have HB := n3_; clear n0_ n1_ n2_ n3_; (try clear hb); (try clear hb2); (try clear hk); (try clear hi)) | (go_at_call 69; (with_reducible refine (laws_wnHas.calls k6 _ _ t102 x10_6 false _ ?side1 ?side2 A62.out).mono ?_); (case side1 => repeat (first | exact (Kd.R_reads' HO_4.out).2.2 | (with_reducible refine Kd.C_alloc ?_ _) | (with_reducible refine Kd.C_drewN ?_ _) | (with_reducible refine Kd.C_drew ?_))); (case side2 => exact (Kd.R_reads' HO_4.out).2.1); rintro e w67 ⟨rfl, hb⟩; have n0_ := zA (Kd.R_below (zr HO_3.out) hb); have n1_ := zA (Kd.R_below (zr HO_4.out) hb); have n2_ := zA (Kd.R_below (zr HO_5.out) hb); have n3_ := zA (below_step (zHB) hb); clear HO_3; clear HO_4; clear HO_5; clear HB; have HO_3 := n0_; have HO_4 := n1_; have HO_5 := n2_; have HB := n3_; clear n0_ n1_ n2_ n3_; (try clear hb); (try clear hb2); (try clear hk); (try clear hi)))
                  repeat (go_quiet (first | (go_at_call 69; (with_reducible refine (laws_wnHas.calls k6 _ _ t101 x10_6 true _ ?side1 ?side2 A60.out).mono ?_); (case side1 => repeat (first | exact (Kd.R_reads' HO_3.out).2.2 | (with_reducible refine Kd.C_alloc ?_ _) | (with_reducible refine Kd.C_drewN ?_ _) | (with_reducible refine Kd.C_drew ?_))); (case side2 => exact (Kd.R_reads' HO_3.out).2.1); rintro e w66 ⟨rfl, hb⟩; have n0_ := zA (Kd.R_below (zr HO_3.out) hb); have n1_ := zA (Kd.R_below (zr HO_4.out) hb); have n2_ := zA (Kd.R_below (zr HO_5.out) hb); have n3_ := zA (below_step (zHB) hb); clear HO_3; clear HO_4; clear HO_5; clear HB; have HO_3 := n0_; have HO_4 := n1_; have HO_5 := n2_; have HB := n3_; clear n0_ n1_ n2_ n3_; (try clear hb); (try clear hb2); (try clear hk); (try clear hi)) | (go_at_call 69; (with_reducible refine (laws_wnHas.calls k6 _ _ t102 x10_6 false _ ?side1 ?side2 A62.out).mono ?_); (case side1 => repeat (first | exact (Kd.R_reads' HO_4.out).2.2 | (with_reducible refine Kd.C_alloc ?_ _) | (with_reducible refine Kd.C_drewN ?_ _) | (with_reducible refine Kd.C_drew ?_))); (case side2 => exact (Kd.R_reads' HO_4.out).2.1); rintro e w67 ⟨rfl, hb⟩; have n0_ := zA (Kd.R_below (zr HO_3.out) hb); have n1_ := zA (Kd.R_below (zr HO_4.out) hb); have n2_ := zA (Kd.R_below (zr HO_5.out) hb); have n3_ := zA (below_step (zHB) hb); clear HO_3; clear HO_4; clear HO_5; clear HB; have HO_3 := n0_; have HO_4 := n1_; have HO_5 := n2_; have HB := n3_; clear n0_ n1_ n2_ n3_; (try clear hb); (try clear hb2); (try clear hk); (try clear hi))); try go_wp2_with (first | (go_at_call 69; (with_reducible refine (laws_wnHas.calls k6 _ _ t101 x10_6 true _ ?side1 ?side2 A60.out).mono ?_); (case side1 => repeat (first | exact (Kd.R_reads' HO_3.out).2.2 | (with_reducible refine Kd.C_alloc ?_ _) | (with_reducible refine Kd.C_drewN ?_ _) | (with_reducible refine Kd.C_drew ?_))); (case side2 => exact (Kd.R_reads' HO_3.out).2.1); rintro e w66 ⟨rfl, hb⟩; have n0_ := zA (Kd.R_below (zr HO_3.out) hb); have n1_ := zA (Kd.R_below (zr HO_4.out) hb); have n2_ := zA (Kd.R_below (zr HO_5.out) hb); have n3_ := zA (below_step (zHB) hb); clear HO_3; clear HO_4; clear HO_5; clear HB; have HO_3 := n0_; have HO_4 := n1_; have HO_5 := n2_; have HB := n3_; clear n0_ n1_ n2_ n3_; (try clear hb); (try clear hb2); (try clear hk); (try clear hi)) | (go_at_call 69; (with_reducible refine (laws_wnHas.calls k6 _ _ t102 x10_6 false _ ?side1 ?side2 A62.out).mono ?_); (case side1 => repeat (first | exact (Kd.R_reads' HO_4.out).2.2 | (with_reducible refine Kd.C_alloc ?_ _) | (with_reducible refine Kd.C_drewN ?_ _) | (with_reducible refine Kd.C_drew ?_))); (case side2 => exact (Kd.R_reads' HO_4.out).2.1); rintro e w67 ⟨rfl, hb⟩; have n0_ := zA (Kd.R_below (zr HO_3.out) hb); have n1_ := zA (Kd.R_below (zr HO_4.out) hb); have n2_ := zA (Kd.R_below (zr HO_5.out) hb); have n3_ := zA (below_step (zHB) hb); clear HO_3; clear HO_4; clear HO_5; clear HB; have HO_3 := n0_; have HO_4 := n1_; have HO_5 := n2_; have HB := n3_; clear n0_ n1_ n2_ n3_; (try clear hb); (try clear hb2); (try clear hk); (try clear hi))))
                  go_roundg k6
                  case measure => have := HJ7.out; have := HK2.out; have := HJ23.out; have := HJ35.out; have := HK5.out; have := HK6.out; omega
                  case rel => exact ⟨(wrap64 (x10_6 + 1)), y2 , H', ⟨by have := HJ7.out; have := HK2.out; have := HJ23.out; have := HJ35.out; have := HK5.out; have := HK6.out; omega⟩, ⟨by refine zk ?_; exact HO_3.out⟩, ⟨by refine zk ?_; exact HO_4.out⟩, ⟨by refine zk ?_; exact HO_5.out⟩, ⟨zHB⟩⟩
                 replace c61 := Bool.eq_false_iff.mpr c61
                 subst c61
                 have H1 : (some false) = some r := by rw [if_neg (show ¬ (false = true) by decide)] at H; exact H
                 clear H
                 have H := H1
                 clear H1
                 obtain rfl := Option.some.inj H
                 have p129 : 0 ≤ (x7_2 : Int) := of_decide_eq_true y1 
                 have q129 : x7_2 < (t107.length : Int) := of_decide_eq_true y1 
                 obtain ⟨ad129, e129, hx129_0, hx129_1⟩ := at_T26 (Kd.R_reads' HO_5.out).2.2 x7_2 p129 q129
                 obtain rfl : ad119 = ad129 := (by injection e129)
                 replace p129 := eq_true p129
                 replace q129 := eq_true q129
                 go_wp2_with (first | (go_at_call 69; (with_reducible refine (laws_wnHas.calls k6 _ _ t101 x10_6 false _ ?side1 ?side2 A60.out).mono ?_); (case side1 => repeat (first | exact (Kd.R_reads' HO_3.out).2.2 | (with_reducible refine Kd.C_alloc ?_ _) | (with_reducible refine Kd.C_drewN ?_ _) | (with_reducible refine Kd.C_drew ?_))); (case side2 => exact (Kd.R_reads' HO_3.out).2.1); rintro e w68 ⟨rfl, hb⟩; have n0_ := zA (Kd.R_below (zr HO_3.out) hb); have n1_ := zA (Kd.R_below (zr HO_4.out) hb); have n2_ := zA (Kd.R_below (zr HO_5.out) hb); have n3_ := zA (below_step (zHB) hb); clear HO_3; clear HO_4; clear HO_5; clear HB; have HO_3 := n0_; have HO_4 := n1_; have HO_5 := n2_; have HB := n3_; clear n0_ n1_ n2_ n3_; (try clear hb); (try clear hb2); (try clear hk); (try clear hi)))
                 repeat (go_quiet (first | (go_at_call 69; (with_reducible refine (laws_wnHas.calls k6 _ _ t101 x10_6 false _ ?side1 ?side2 A60.out).mono ?_); (case side1 => repeat (first | exact (Kd.R_reads' HO_3.out).2.2 | (with_reducible refine Kd.C_alloc ?_ _) | (with_reducible refine Kd.C_drewN ?_ _) | (with_reducible refine Kd.C_drew ?_))); (case side2 => exact (Kd.R_reads' HO_3.out).2.1); rintro e w68 ⟨rfl, hb⟩; have n0_ := zA (Kd.R_below (zr HO_3.out) hb); have n1_ := zA (Kd.R_below (zr HO_4.out) hb); have n2_ := zA (Kd.R_below (zr HO_5.out) hb); have n3_ := zA (below_step (zHB) hb); clear HO_3; clear HO_4; clear HO_5; clear HB; have HO_3 := n0_; have HO_4 := n1_; have HO_5 := n2_; have HB := n3_; clear n0_ n1_ n2_ n3_; (try clear hb); (try clear hb2); (try clear hk); (try clear hi))); try go_wp2_with (first | (go_at_call 69; (with_reducible refine (laws_wnHas.calls k6 _ _ t101 x10_6 false _ ?side1 ?side2 A60.out).mono ?_); (case side1 => repeat (first | exact (Kd.R_reads' HO_3.out).2.2 | (with_reducible refine Kd.C_alloc ?_ _) | (with_reducible refine Kd.C_drewN ?_ _) | (with_reducible refine Kd.C_drew ?_))); (case side2 => exact (Kd.R_reads' HO_3.out).2.1); rintro e w68 ⟨rfl, hb⟩; have n0_ := zA (Kd.R_below (zr HO_3.out) hb); have n1_ := zA (Kd.R_below (zr HO_4.out) hb); have n2_ := zA (Kd.R_below (zr HO_5.out) hb); have n3_ := zA (below_step (zHB) hb); clear HO_3; clear HO_4; clear HO_5; clear HB; have HO_3 := n0_; have HO_4 := n1_; have HO_5 := n2_; have HB := n3_; clear n0_ n1_ n2_ n3_; (try clear hb); (try clear hb2); (try clear hk); (try clear hi))))
                 go_ret
                 exact ⟨by first | rfl | (simp [errW_none, errW_some] <;> rfl) | (simp only [← hji33, ← hji35]; first | rfl | (simp [errW_none, errW_some] <;> rfl)) | (simp [*, errW_none, errW_some] <;> rfl), zHB⟩
                rw [if_neg c59] at H
                have c59b0 : decide (x10_6 < (wrap64 (((rd_T26 t107 x7_2).f0) + ji35))) = false := decide_eq_false c59
                clear c59
                have H' := zA H
                clear H
                have p129 : 0 ≤ (x7_2 : Int) := of_decide_eq_true y1 
                have q129 : x7_2 < (t107.length : Int) := of_decide_eq_true y1 
                obtain ⟨ad129, e129, hx129_0, hx129_1⟩ := at_T26 (Kd.R_reads' HO_5.out).2.2 x7_2 p129 q129
                obtain rfl : ad119 = ad129 := (by injection e129)
                replace p129 := eq_true p129
                replace q129 := eq_true q129
                have p130 : 0 ≤ (x7_2 : Int) := of_decide_eq_true y1 
                have q130 : x7_2 < (t107.length : Int) := of_decide_eq_true y1 
                obtain ⟨ad130, e130, hx130_0, hx130_1⟩ := at_T26 (Kd.R_reads' HO_5.out).2.2 x7_2 p130 q130
                obtain rfl : ad119 = ad130 := (by injection e130)
                replace p130 := eq_true p130
                replace q130 := eq_true q130
                go_wp2
                repeat (go_quiet (fail); try go_wp2)
                go_roundg k6
                case measure => have := HJ7.out; have := HK2.out; have := HJ23.out; have := HJ35.out; have := HK5.out; have := HK6.out; omega
                case rel => exact ⟨(wrap64 (((rd_T26 t107 x7_2).f0) + ji35)), (wrap64 (x7_2 + 1)), (by first | rfl | (simp; done) | (simp only [← hji35] <;> (first | rfl | simp)) | (simp [*]; done)), y2 , H', ⟨by have := HJ7.out; have := HK2.out; have := HJ23.out; have := HJ35.out; have := HK5.out; have := HK6.out; omega⟩, ⟨by refine zk ?_; exact HO_3.out⟩, ⟨by refine zk ?_; exact HO_4.out⟩, ⟨by refine zk ?_; exact HO_5.out⟩, ⟨zHB⟩⟩
               rw [if_neg c58] at H
               exact absurd H (by simp)
              rw [if_neg c57] at H
              exact absurd H (by simp)
            rw [if_neg c46] at H
            exact absurd H (by simp)
           rw [if_neg c45] at H
           exact absurd H (by simp)
        rw [if_neg c34] at H
        exact absurd H (by simp)
       rw [if_neg c32] at H
       exact absurd H (by simp)
      rw [if_neg c31] at H
      exact absurd H (by simp)
    rw [if_neg c23] at H
    have c23b0 : decide (x7_2 < (t107.length : Int)) = false := decide_eq_false c23
    clear c23
    have H' := zA H
    clear H
    go_wp2
    repeat (go_quiet (fail); try go_wp2)
    go_loopg [11] k2 (fun kq v11 w' => ∃ (x11_3 : Int), v11 = .int .i64 x11_3 ∧ Aside0 (laws_FnNetTop.l3 kq t101 t102 x11_3 = some r) ∧ Aside0 (kq ≤ k2) ∧ Aside0 (Kd.R k26 26 w' w.heap.size (fun k_ => some k_ ≠ ((.slice Ao11 t102.length co11) : Value).ownBlock) (.slice Ao10 t101.length co10) t101) ∧ Aside0 (Kd.R k26 26 w' w.heap.size (fun k_ => some k_ ≠ ((.slice Ao10 t101.length co10) : Value).ownBlock) (.slice Ao11 t102.length co11) t102) ∧ Aside0 (Below w.heap.size w w'))
    case atStart => exact ⟨(x6_2), y2 , H', ⟨Nat.le_refl _⟩, ⟨by refine zk ?_; exact Kd.R_mono HO_3.out (fun _ hk => hk.1)⟩, ⟨by refine zk ?_; exact Kd.R_mono HO_4.out (fun _ hk => hk.1)⟩, ⟨zHB⟩⟩
    case round =>
     clear H'
     try clear c1
     try clear p1
     try clear q1
     try clear hx1
     try clear c2
     try clear c2b0
     try clear c2b1
     try clear p2
     try clear c3
     try clear c4
     try clear c5
     try clear c6
     try clear p6
     try clear c7
     try clear p11
     try clear q11
     try clear hx11
     try clear p12
     try clear q12
     try clear hx12
     try clear p13
     try clear q13
     try clear hx13
     try clear c17
     try clear c19
     try clear c22
     try clear c23
     try clear c23b0
     try clear c25
     try clear c25b0
     try clear c27
     try clear c30
     try clear c31
     try clear c31b0
     try clear c32
     try clear c32b0
     try clear c34
     try clear c34b0
     try clear c34b1
     try clear c37
     try clear c37b0
     try clear c39
     try clear c39b0
     try clear c40
     try clear c40b0
     try clear c41
     try clear c41b0
     try clear c41b1
     try clear c42
     try clear c42b0
     try clear c42b1
     try clear c43
     try clear c43b0
     try clear c43b1
     try clear c44
     try clear c45
     try clear c45b0
     try clear c46
     try clear c46b0
     try clear c47
     try clear c47b0
     try clear c49
     try clear c51
     try clear c57
     try clear c57b0
     try clear c58
     try clear c58b0
     try clear c59
     try clear c59b0
     try clear c61
     try clear c63
     try clear p64
     try clear hx116_0
     try clear hx116_1
     try clear hx118_0
     try clear hx118_1
     try clear hx119_0
     try clear hx119_1
     try clear hx120_0
     try clear hx120_1
     try clear hx121_0
     try clear hx121_1
     try clear hx122_0
     try clear hx122_1
     try clear hx123_0
     try clear hx123_1
     try clear hx124_0
     try clear hx124_1
     try clear hx125_0
     try clear hx125_1
     try clear hx128_0
     try clear hx128_1
     try clear hx129_0
     try clear hx129_1
     try clear hx130_0
     try clear hx130_1
     try clear p1
     try clear p11
     try clear p116
     try clear p118
     try clear p119
     try clear p12
     try clear p120
     try clear p121
     try clear p122
     try clear p123
     try clear p124
     try clear p125
     try clear p128
     try clear p129
     try clear p130
     try clear p2
     try clear p6
     try clear q1
     try clear q11
     try clear q116
     try clear q118
     try clear q119
     try clear q12
     try clear q120
     try clear q121
     try clear q122
     try clear q123
     try clear q124
     try clear q125
     try clear q128
     try clear q129
     try clear q130
     obtain ⟨x11_3, rfl, HA, HK3, HO_3, HO_4, HB⟩ := hrel
     cases gk with
     | zero => exact absurd HA.out (by simp [laws_FnNetTop.l3])
     | succ k3 => ?_
     have H := HA.out
     clear HA
     simp only [laws_FnNetTop.l3] at H
     by_cases c69 : x11_3 ≤ 65535
     ·rw [if_pos c69] at H
      have c69b0 : decide (x11_3 ≤ 65535) = true := decide_eq_true c69
      clear c69
      replace H := Option.bind_eq_some_iff.mp H
      obtain ⟨t133, A700, H⟩ := H
      replace H : (if t133 = true then ((laws_wnHas.f k3 t102 x11_3).bind fun t134 => (if t134 = true then (laws_FnNetTop.l3 k3 t101 t102 (wrap64 (x11_3 + 1))) else (some false))) else (laws_FnNetTop.l3 k3 t101 t102 (wrap64 (x11_3 + 1)))) = some r := H
      have A70 := zA A700
      clear A700
      by_cases c71 : t133 = true
      ·subst c71
       have H1 : ((laws_wnHas.f k3 t102 x11_3).bind fun t134 => (if t134 = true then (laws_FnNetTop.l3 k3 t101 t102 (wrap64 (x11_3 + 1))) else (some false))) = some r := by rw [if_pos rfl] at H; exact H
       clear H
       have H := H1
       clear H1
       replace H := Option.bind_eq_some_iff.mp H
       obtain ⟨t134, A720, H⟩ := H
       replace H : (if t134 = true then (laws_FnNetTop.l3 k3 t101 t102 (wrap64 (x11_3 + 1))) else (some false)) = some r := H
       have A72 := zA A720
       clear A720
       by_cases c73 : t134 = true
       ·subst c73
        have H1 : (laws_FnNetTop.l3 k3 t101 t102 (wrap64 (x11_3 + 1))) = some r := by rw [if_pos rfl] at H; exact H
        clear H
        have H := H1
        clear H1
        have H' := zA H
        clear H
        go_wp2_with (first | (go_at_call 69; (with_reducible refine (laws_wnHas.calls k3 _ _ t101 x11_3 true _ ?side1 ?side2 A70.out).mono ?_); (case side1 => repeat (first | exact (Kd.R_reads' HO_3.out).2.2 | (with_reducible refine Kd.C_alloc ?_ _) | (with_reducible refine Kd.C_drewN ?_ _) | (with_reducible refine Kd.C_drew ?_))); (case side2 => exact (Kd.R_reads' HO_3.out).2.1); rintro e w74 ⟨rfl, hb⟩; have n0_ := zA (Kd.R_below (zr HO_3.out) hb); have n1_ := zA (Kd.R_below (zr HO_4.out) hb); have n2_ := zA (below_step (zHB) hb); clear HO_3; clear HO_4; clear HB; have HO_3 := n0_; have HO_4 := n1_; have HB := n2_; clear n0_ n1_ n2_; (try clear hb); (try clear hb2); (try clear hk); (try clear hi)) | (go_at_call 69; (with_reducible refine (laws_wnHas.calls k3 _ _ t102 x11_3 true _ ?side1 ?side2 A72.out).mono ?_); (case side1 => repeat (first | exact (Kd.R_reads' HO_4.out).2.2 | (with_reducible refine Kd.C_alloc ?_ _) | (with_reducible refine Kd.C_drewN ?_ _) | (with_reducible refine Kd.C_drew ?_))); (case side2 => exact (Kd.R_reads' HO_4.out).2.1); rintro e w75 ⟨rfl, hb⟩; have n0_ := zA (Kd.R_below (zr HO_3.out) hb); have n1_ := zA (Kd.R_below (zr HO_4.out) hb); have n2_ := zA (below_step (zHB) hb); clear HO_3; clear HO_4; clear HB; have HO_3 := n0_; have HO_4 := n1_; have HB := n2_; clear n0_ n1_ n2_; (try clear hb); (try clear hb2); (try clear hk); (try clear hi)))
        repeat (go_quiet (first | (go_at_call 69; (with_reducible refine (laws_wnHas.calls k3 _ _ t101 x11_3 true _ ?side1 ?side2 A70.out).mono ?_); (case side1 => repeat (first | exact (Kd.R_reads' HO_3.out).2.2 | (with_reducible refine Kd.C_alloc ?_ _) | (with_reducible refine Kd.C_drewN ?_ _) | (with_reducible refine Kd.C_drew ?_))); (case side2 => exact (Kd.R_reads' HO_3.out).2.1); rintro e w74 ⟨rfl, hb⟩; have n0_ := zA (Kd.R_below (zr HO_3.out) hb); have n1_ := zA (Kd.R_below (zr HO_4.out) hb); have n2_ := zA (below_step (zHB) hb); clear HO_3; clear HO_4; clear HB; have HO_3 := n0_; have HO_4 := n1_; have HB := n2_; clear n0_ n1_ n2_; (try clear hb); (try clear hb2); (try clear hk); (try clear hi)) | (go_at_call 69; (with_reducible refine (laws_wnHas.calls k3 _ _ t102 x11_3 true _ ?side1 ?side2 A72.out).mono ?_); (case side1 => repeat (first | exact (Kd.R_reads' HO_4.out).2.2 | (with_reducible refine Kd.C_alloc ?_ _) | (with_reducible refine Kd.C_drewN ?_ _) | (with_reducible refine Kd.C_drew ?_))); (case side2 => exact (Kd.R_reads' HO_4.out).2.1); rintro e w75 ⟨rfl, hb⟩; have n0_ := zA (Kd.R_below (zr HO_3.out) hb); have n1_ := zA (Kd.R_below (zr HO_4.out) hb); have n2_ := zA (below_step (zHB) hb); clear HO_3; clear HO_4; clear HB; have HO_3 := n0_; have HO_4 := n1_; have HB := n2_; clear n0_ n1_ n2_; (try clear hb); (try clear hb2); (try clear hk); (try clear hi))); try go_wp2_with (first | (go_at_call 69; (with_reducible refine (laws_wnHas.calls k3 _ _ t101 x11_3 true _ ?side1 ?side2 A70.out).mono ?_); (case side1 => repeat (first | exact (Kd.R_reads' HO_3.out).2.2 | (with_reducible refine Kd.C_alloc ?_ _) | (with_reducible refine Kd.C_drewN ?_ _) | (with_reducible refine Kd.C_drew ?_))); (case side2 => exact (Kd.R_reads' HO_3.out).2.1); rintro e w74 ⟨rfl, hb⟩; have n0_ := zA (Kd.R_below (zr HO_3.out) hb); have n1_ := zA (Kd.R_below (zr HO_4.out) hb); have n2_ := zA (below_step (zHB) hb); clear HO_3; clear HO_4; clear HB; have HO_3 := n0_; have HO_4 := n1_; have HB := n2_; clear n0_ n1_ n2_; (try clear hb); (try clear hb2); (try clear hk); (try clear hi)) | (go_at_call 69; (with_reducible refine (laws_wnHas.calls k3 _ _ t102 x11_3 true _ ?side1 ?side2 A72.out).mono ?_); (case side1 => repeat (first | exact (Kd.R_reads' HO_4.out).2.2 | (with_reducible refine Kd.C_alloc ?_ _) | (with_reducible refine Kd.C_drewN ?_ _) | (with_reducible refine Kd.C_drew ?_))); (case side2 => exact (Kd.R_reads' HO_4.out).2.1); rintro e w75 ⟨rfl, hb⟩; have n0_ := zA (Kd.R_below (zr HO_3.out) hb); have n1_ := zA (Kd.R_below (zr HO_4.out) hb); have n2_ := zA (below_step (zHB) hb); clear HO_3; clear HO_4; clear HB; have HO_3 := n0_; have HO_4 := n1_; have HB := n2_; clear n0_ n1_ n2_; (try clear hb); (try clear hb2); (try clear hk); (try clear hi))))
        go_roundg k3
        case measure => have := HJ7.out; have := HK2.out; have := HK3.out; omega
        case rel => exact ⟨(wrap64 (x11_3 + 1)), y2 , H', ⟨by have := HJ7.out; have := HK2.out; have := HK3.out; omega⟩, ⟨by refine zk ?_; exact HO_3.out⟩, ⟨by refine zk ?_; exact HO_4.out⟩, ⟨zHB⟩⟩
       replace c73 := Bool.eq_false_iff.mpr c73
       subst c73
       have H1 : (some false) = some r := by rw [if_neg (show ¬ (false = true) by decide)] at H; exact H
       clear H
       have H := H1
       clear H1
       obtain rfl := Option.some.inj H
       go_wp2_with (first | (go_at_call 69; (with_reducible refine (laws_wnHas.calls k3 _ _ t101 x11_3 true _ ?side1 ?side2 A70.out).mono ?_); (case side1 => repeat (first | exact (Kd.R_reads' HO_3.out).2.2 | (with_reducible refine Kd.C_alloc ?_ _) | (with_reducible refine Kd.C_drewN ?_ _) | (with_reducible refine Kd.C_drew ?_))); (case side2 => exact (Kd.R_reads' HO_3.out).2.1); rintro e w76 ⟨rfl, hb⟩; have n0_ := zA (Kd.R_below (zr HO_3.out) hb); have n1_ := zA (Kd.R_below (zr HO_4.out) hb); have n2_ := zA (below_step (zHB) hb); clear HO_3; clear HO_4; clear HB; have HO_3 := n0_; have HO_4 := n1_; have HB := n2_; clear n0_ n1_ n2_; (try clear hb); (try clear hb2); (try clear hk); (try clear hi)) | (go_at_call 69; (with_reducible refine (laws_wnHas.calls k3 _ _ t102 x11_3 false _ ?side1 ?side2 A72.out).mono ?_); (case side1 => repeat (first | exact (Kd.R_reads' HO_4.out).2.2 | (with_reducible refine Kd.C_alloc ?_ _) | (with_reducible refine Kd.C_drewN ?_ _) | (with_reducible refine Kd.C_drew ?_))); (case side2 => exact (Kd.R_reads' HO_4.out).2.1); rintro e w77 ⟨rfl, hb⟩; have n0_ := zA (Kd.R_below (zr HO_3.out) hb); have n1_ := zA (Kd.R_below (zr HO_4.out) hb); have n2_ := zA (below_step (zHB) hb); clear HO_3; clear HO_4; clear HB; have HO_3 := n0_; have HO_4 := n1_; have HB := n2_; clear n0_ n1_ n2_; (try clear hb); (try clear hb2); (try clear hk); (try clear hi)))
       repeat (go_quiet (first | (go_at_call 69; (with_reducible refine (laws_wnHas.calls k3 _ _ t101 x11_3 true _ ?side1 ?side2 A70.out).mono ?_); (case side1 => repeat (first | exact (Kd.R_reads' HO_3.out).2.2 | (with_reducible refine Kd.C_alloc ?_ _) | (with_reducible refine Kd.C_drewN ?_ _) | (with_reducible refine Kd.C_drew ?_))); (case side2 => exact (Kd.R_reads' HO_3.out).2.1); rintro e w76 ⟨rfl, hb⟩; have n0_ := zA (Kd.R_below (zr HO_3.out) hb); have n1_ := zA (Kd.R_below (zr HO_4.out) hb); have n2_ := zA (below_step (zHB) hb); clear HO_3; clear HO_4; clear HB; have HO_3 := n0_; have HO_4 := n1_; have HB := n2_; clear n0_ n1_ n2_; (try clear hb); (try clear hb2); (try clear hk); (try clear hi)) | (go_at_call 69; (with_reducible refine (laws_wnHas.calls k3 _ _ t102 x11_3 false _ ?side1 ?side2 A72.out).mono ?_); (case side1 => repeat (first | exact (Kd.R_reads' HO_4.out).2.2 | (with_reducible refine Kd.C_alloc ?_ _) | (with_reducible refine Kd.C_drewN ?_ _) | (with_reducible refine Kd.C_drew ?_))); (case side2 => exact (Kd.R_reads' HO_4.out).2.1); rintro e w77 ⟨rfl, hb⟩; have n0_ := zA (Kd.R_below (zr HO_3.out) hb); have n1_ := zA (Kd.R_below (zr HO_4.out) hb); have n2_ := zA (below_step (zHB) hb); clear HO_3; clear HO_4; clear HB; have HO_3 := n0_; have HO_4 := n1_; have HB := n2_; clear n0_ n1_ n2_; (try clear hb); (try clear hb2); (try clear hk); (try clear hi))); try go_wp2_with (first | (go_at_call 69; (with_reducible refine (laws_wnHas.calls k3 _ _ t101 x11_3 true _ ?side1 ?side2 A70.out).mono ?_); (case side1 => repeat (first | exact (Kd.R_reads' HO_3.out).2.2 | (with_reducible refine Kd.C_alloc ?_ _) | (with_reducible refine Kd.C_drewN ?_ _) | (with_reducible refine Kd.C_drew ?_))); (case side2 => exact (Kd.R_reads' HO_3.out).2.1); rintro e w76 ⟨rfl, hb⟩; have n0_ := zA (Kd.R_below (zr HO_3.out) hb); have n1_ := zA (Kd.R_below (zr HO_4.out) hb); have n2_ := zA (below_step (zHB) hb); clear HO_3; clear HO_4; clear HB; have HO_3 := n0_; have HO_4 := n1_; have HB := n2_; clear n0_ n1_ n2_; (try clear hb); (try clear hb2); (try clear hk); (try clear hi)) | (go_at_call 69; (with_reducible refine (laws_wnHas.calls k3 _ _ t102 x11_3 false _ ?side1 ?side2 A72.out).mono ?_); (case side1 => repeat (first | exact (Kd.R_reads' HO_4.out).2.2 | (with_reducible refine Kd.C_alloc ?_ _) | (with_reducible refine Kd.C_drewN ?_ _) | (with_reducible refine Kd.C_drew ?_))); (case side2 => exact (Kd.R_reads' HO_4.out).2.1); rintro e w77 ⟨rfl, hb⟩; have n0_ := zA (Kd.R_below (zr HO_3.out) hb); have n1_ := zA (Kd.R_below (zr HO_4.out) hb); have n2_ := zA (below_step (zHB) hb); clear HO_3; clear HO_4; clear HB; have HO_3 := n0_; have HO_4 := n1_; have HB := n2_; clear n0_ n1_ n2_; (try clear hb); (try clear hb2); (try clear hk); (try clear hi))))
       go_ret
       exact ⟨by first | rfl | (simp [errW_none, errW_some] <;> rfl) | (simp [*, errW_none, errW_some] <;> rfl), zHB⟩
      replace c71 := Bool.eq_false_iff.mpr c71
      subst c71
      have H1 : (laws_FnNetTop.l3 k3 t101 t102 (wrap64 (x11_3 + 1))) = some r := by rw [if_neg (show ¬ (false = true) by decide)] at H; exact H
      clear H
      have H := H1
      clear H1
      have H' := zA H
      clear H
      go_wp2_with (first | (go_at_call 69; (with_reducible refine (laws_wnHas.calls k3 _ _ t101 x11_3 false _ ?side1 ?side2 A70.out).mono ?_); (case side1 => repeat (first | exact (Kd.R_reads' HO_3.out).2.2 | (with_reducible refine Kd.C_alloc ?_ _) | (with_reducible refine Kd.C_drewN ?_ _) | (with_reducible refine Kd.C_drew ?_))); (case side2 => exact (Kd.R_reads' HO_3.out).2.1); rintro e w78 ⟨rfl, hb⟩; have n0_ := zA (Kd.R_below (zr HO_3.out) hb); have n1_ := zA (Kd.R_below (zr HO_4.out) hb); have n2_ := zA (below_step (zHB) hb); clear HO_3; clear HO_4; clear HB; have HO_3 := n0_; have HO_4 := n1_; have HB := n2_; clear n0_ n1_ n2_; (try clear hb); (try clear hb2); (try clear hk); (try clear hi)))
      repeat (go_quiet (first | (go_at_call 69; (with_reducible refine (laws_wnHas.calls k3 _ _ t101 x11_3 false _ ?side1 ?side2 A70.out).mono ?_); (case side1 => repeat (first | exact (Kd.R_reads' HO_3.out).2.2 | (with_reducible refine Kd.C_alloc ?_ _) | (with_reducible refine Kd.C_drewN ?_ _) | (with_reducible refine Kd.C_drew ?_))); (case side2 => exact (Kd.R_reads' HO_3.out).2.1); rintro e w78 ⟨rfl, hb⟩; have n0_ := zA (Kd.R_below (zr HO_3.out) hb); have n1_ := zA (Kd.R_below (zr HO_4.out) hb); have n2_ := zA (below_step (zHB) hb); clear HO_3; clear HO_4; clear HB; have HO_3 := n0_; have HO_4 := n1_; have HB := n2_; clear n0_ n1_ n2_; (try clear hb); (try clear hb2); (try clear hk); (try clear hi))); try go_wp2_with (first | (go_at_call 69; (with_reducible refine (laws_wnHas.calls k3 _ _ t101 x11_3 false _ ?side1 ?side2 A70.out).mono ?_); (case side1 => repeat (first | exact (Kd.R_reads' HO_3.out).2.2 | (with_reducible refine Kd.C_alloc ?_ _) | (with_reducible refine Kd.C_drewN ?_ _) | (with_reducible refine Kd.C_drew ?_))); (case side2 => exact (Kd.R_reads' HO_3.out).2.1); rintro e w78 ⟨rfl, hb⟩; have n0_ := zA (Kd.R_below (zr HO_3.out) hb); have n1_ := zA (Kd.R_below (zr HO_4.out) hb); have n2_ := zA (below_step (zHB) hb); clear HO_3; clear HO_4; clear HB; have HO_3 := n0_; have HO_4 := n1_; have HB := n2_; clear n0_ n1_ n2_; (try clear hb); (try clear hb2); (try clear hk); (try clear hi))))
      go_roundg k3
      case measure => have := HJ7.out; have := HK2.out; have := HK3.out; omega
      case rel => exact ⟨(wrap64 (x11_3 + 1)), y2 , H', ⟨by have := HJ7.out; have := HK2.out; have := HK3.out; omega⟩, ⟨by refine zk ?_; exact HO_3.out⟩, ⟨by refine zk ?_; exact HO_4.out⟩, ⟨zHB⟩⟩
     rw [if_neg c69] at H
     have c69b0 : decide (x11_3 ≤ 65535) = false := decide_eq_false c69
     clear c69
     obtain rfl := Option.some.inj H
     go_wp2
     repeat (go_quiet (fail); try go_wp2)
     go_ret
     exact ⟨by first | rfl | (simp [errW_none, errW_some] <;> rfl) | (simp [*, errW_none, errW_some] <;> rfl), zHB⟩
 replace c7 := Bool.eq_false_iff.mpr c7
 subst c7
 have H1 : (some false) = some r := by rw [if_neg (show ¬ (false = true) by decide)] at H; exact H
 clear H
 have H := H1
 clear H1
 obtain rfl := Option.some.inj H
 go_enter Try.func19, Try.ntmps19
 go_wp2_with (first | (go_at_call 68; (with_reducible refine (spec_DrawNetWithout.calls k _ _ l0 t101 t102 _ ?side1 ?side2 A3.out).mono ?_); (case side1 => repeat (first | exact HR0.out | (with_reducible refine Kd.C_alloc ?_ _) | (with_reducible refine Kd.C_drewN ?_ _) | (with_reducible refine Kd.C_drew ?_))); (case side2 => exact HC0.out); rintro e w79 ⟨v103, v105, rfl, ho0, ho1, hb⟩; have n0_ := zA (Kd.R_lower ho0 (below_size (zHB))); have n1_ := zA (Kd.R_lower ho1 (below_size (zHB))); have n2_ := zA (below_step (zHB) hb); clear HB; have HO104 := n0_; have HO106 := n1_; have HB := n2_; clear n0_ n1_ n2_; (try clear hb); (try clear hb2); (try clear hk); (try clear hi); (try clear ho0); (try clear ho1); obtain ⟨Ao80, co80, eo80⟩ := Kd.R_slice HO104.out; subst eo80; obtain ⟨Ao81, co81, eo81⟩ := Kd.R_slice HO106.out; subst eo81) | (go_at_call 60; (with_reducible refine (impl_NetWithout.calls _ _ t101 _ _ t102 t107 _ ?side1 ?side2 ?side3 ?side4 A4.out).mono ?_); (case side1 => repeat (first | exact (Kd.R_reads' HO104.out).2.2 | (with_reducible refine Kd.C_alloc ?_ _) | (with_reducible refine Kd.C_drewN ?_ _) | (with_reducible refine Kd.C_drew ?_))); (case side2 => exact (Kd.R_reads' HO104.out).2.1); (case side3 => repeat (first | exact (Kd.R_reads' HO106.out).2.2 | (with_reducible refine Kd.C_alloc ?_ _) | (with_reducible refine Kd.C_drewN ?_ _) | (with_reducible refine Kd.C_drew ?_))); (case side4 => exact (Kd.R_reads' HO106.out).2.1); rintro e w82 ⟨v108, rfl, ho0, hb⟩; have n0_ := zA (Kd.R_elder' (zr HO104.out) (Kd.R_base ho0) hb); have n1_ := zA (Kd.R_elder' (zr HO106.out) (Kd.R_base ho0) hb); have n2_ := zA (Kd.R_lower (Kd.R_new' (Kd.R_new' ho0 (Kd.R_lt (zr HO104.out))) (Kd.R_lt (zr HO106.out))) (below_size (zHB))); have n3_ := zA (below_step (zHB) hb); clear HO104; clear HO106; clear HB; have HO104 := n0_; have HO106 := n1_; have HO109 := n2_; have HB := n3_; clear n0_ n1_ n2_ n3_; (try clear hb); (try clear hb2); (try clear hk); (try clear hi); (try clear ho0)) | (go_at_call 59; (with_reducible refine (spec_NetWithout.calls k _ _ t101 _ _ t102 t110 _ ?side1 ?side2 ?side3 ?side4 A5.out).mono ?_); (case side1 => repeat (first | exact (Kd.R_reads' HO104.out).2.2 | (with_reducible refine Kd.C_alloc ?_ _) | (with_reducible refine Kd.C_drewN ?_ _) | (with_reducible refine Kd.C_drew ?_))); (case side2 => exact (Kd.R_reads' HO104.out).2.1); (case side3 => repeat (first | exact (Kd.R_reads' HO106.out).2.2 | (with_reducible refine Kd.C_alloc ?_ _) | (with_reducible refine Kd.C_drewN ?_ _) | (with_reducible refine Kd.C_drew ?_))); (case side4 => exact (Kd.R_reads' HO106.out).2.1); rintro e w83 ⟨v111, rfl, ho0, hb⟩; have n0_ := zA (Kd.R_elder' (zr HO104.out) (Kd.R_base ho0) hb); have n1_ := zA (Kd.R_elder' (zr HO106.out) (Kd.R_base ho0) hb); have n2_ := zA (Kd.R_elder' (zr HO109.out) (Kd.R_base ho0) hb); have n3_ := zA (Kd.R_lower (Kd.R_new' (Kd.R_new' (Kd.R_new' ho0 (Kd.R_lt (zr HO104.out))) (Kd.R_lt (zr HO106.out))) (Kd.R_lt (zr HO109.out))) (below_size (zHB))); have n4_ := zA (below_step (zHB) hb); clear HO104; clear HO106; clear HO109; clear HB; have HO104 := n0_; have HO106 := n1_; have HO109 := n2_; have HO112 := n3_; have HB := n4_; clear n0_ n1_ n2_ n3_ n4_; (try clear hb); (try clear hb2); (try clear hk); (try clear hi); (try clear ho0); obtain ⟨Ao84, co84, eo84⟩ := Kd.R_slice HO109.out; subst eo84; obtain ⟨Ao85, co85, eo85⟩ := Kd.R_slice HO112.out; subst eo85) | (go_at_call 66; (with_reducible refine (laws_wnSame.calls k _ _ t107 _ _ t110 false _ ?side1 ?side2 ?side3 ?side4 A6.out).mono ?_); (case side1 => repeat (first | exact (Kd.R_reads' HO109.out).2.2 | (with_reducible refine Kd.C_alloc ?_ _) | (with_reducible refine Kd.C_drewN ?_ _) | (with_reducible refine Kd.C_drew ?_))); (case side2 => exact (Kd.R_reads' HO109.out).2.1); (case side3 => repeat (first | exact (Kd.R_reads' HO112.out).2.2 | (with_reducible refine Kd.C_alloc ?_ _) | (with_reducible refine Kd.C_drewN ?_ _) | (with_reducible refine Kd.C_drew ?_))); (case side4 => exact (Kd.R_reads' HO112.out).2.1); rintro e w' ⟨rfl, ⟨nd, rfl⟩⟩; (try first | exact ⟨rfl, _, World.drewN_drewN _ _ _⟩ | exact ⟨rfl, _, Eq.trans (World.drewN_drewN _ _ _) (congrArg (World.drewN _) (Nat.add_assoc _ _ _))⟩)))
 repeat (go_quiet (first | (go_at_call 68; (with_reducible refine (spec_DrawNetWithout.calls k _ _ l0 t101 t102 _ ?side1 ?side2 A3.out).mono ?_); (case side1 => repeat (first | exact HR0.out | (with_reducible refine Kd.C_alloc ?_ _) | (with_reducible refine Kd.C_drewN ?_ _) | (with_reducible refine Kd.C_drew ?_))); (case side2 => exact HC0.out); rintro e w79 ⟨v103, v105, rfl, ho0, ho1, hb⟩; have n0_ := zA (Kd.R_lower ho0 (below_size (zHB))); have n1_ := zA (Kd.R_lower ho1 (below_size (zHB))); have n2_ := zA (below_step (zHB) hb); clear HB; have HO104 := n0_; have HO106 := n1_; have HB := n2_; clear n0_ n1_ n2_; (try clear hb); (try clear hb2); (try clear hk); (try clear hi); (try clear ho0); (try clear ho1); obtain ⟨Ao80, co80, eo80⟩ := Kd.R_slice HO104.out; subst eo80; obtain ⟨Ao81, co81, eo81⟩ := Kd.R_slice HO106.out; subst eo81) | (go_at_call 60; (with_reducible refine (impl_NetWithout.calls _ _ t101 _ _ t102 t107 _ ?side1 ?side2 ?side3 ?side4 A4.out).mono ?_); (case side1 => repeat (first | exact (Kd.R_reads' HO104.out).2.2 | (with_reducible refine Kd.C_alloc ?_ _) | (with_reducible refine Kd.C_drewN ?_ _) | (with_reducible refine Kd.C_drew ?_))); (case side2 => exact (Kd.R_reads' HO104.out).2.1); (case side3 => repeat (first | exact (Kd.R_reads' HO106.out).2.2 | (with_reducible refine Kd.C_alloc ?_ _) | (with_reducible refine Kd.C_drewN ?_ _) | (with_reducible refine Kd.C_drew ?_))); (case side4 => exact (Kd.R_reads' HO106.out).2.1); rintro e w82 ⟨v108, rfl, ho0, hb⟩; have n0_ := zA (Kd.R_elder' (zr HO104.out) (Kd.R_base ho0) hb); have n1_ := zA (Kd.R_elder' (zr HO106.out) (Kd.R_base ho0) hb); have n2_ := zA (Kd.R_lower (Kd.R_new' (Kd.R_new' ho0 (Kd.R_lt (zr HO104.out))) (Kd.R_lt (zr HO106.out))) (below_size (zHB))); have n3_ := zA (below_step (zHB) hb); clear HO104; clear HO106; clear HB; have HO104 := n0_; have HO106 := n1_; have HO109 := n2_; have HB := n3_; clear n0_ n1_ n2_ n3_; (try clear hb); (try clear hb2); (try clear hk); (try clear hi); (try clear ho0)) | (go_at_call 59; (with_reducible refine (spec_NetWithout.calls k _ _ t101 _ _ t102 t110 _ ?side1 ?side2 ?side3 ?side4 A5.out).mono ?_); (case side1 => repeat (first | exact (Kd.R_reads' HO104.out).2.2 | (with_reducible refine Kd.C_alloc ?_ _) | (with_reducible refine Kd.C_drewN ?_ _) | (with_reducible refine Kd.C_drew ?_))); (case side2 => exact (Kd.R_reads' HO104.out).2.1); (case side3 => repeat (first | exact (Kd.R_reads' HO106.out).2.2 | (with_reducible refine Kd.C_alloc ?_ _) | (with_reducible refine Kd.C_drewN ?_ _) | (with_reducible refine Kd.C_drew ?_))); (case side4 => exact (Kd.R_reads' HO106.out).2.1); rintro e w83 ⟨v111, rfl, ho0, hb⟩; have n0_ := zA (Kd.R_elder' (zr HO104.out) (Kd.R_base ho0) hb); have n1_ := zA (Kd.R_elder' (zr HO106.out) (Kd.R_base ho0) hb); have n2_ := zA (Kd.R_elder' (zr HO109.out) (Kd.R_base ho0) hb); have n3_ := zA (Kd.R_lower (Kd.R_new' (Kd.R_new' (Kd.R_new' ho0 (Kd.R_lt (zr HO104.out))) (Kd.R_lt (zr HO106.out))) (Kd.R_lt (zr HO109.out))) (below_size (zHB))); have n4_ := zA (below_step (zHB) hb); clear HO104; clear HO106; clear HO109; clear HB; have HO104 := n0_; have HO106 := n1_; have HO109 := n2_; have HO112 := n3_; have HB := n4_; clear n0_ n1_ n2_ n3_ n4_; (try clear hb); (try clear hb2); (try clear hk); (try clear hi); (try clear ho0); obtain ⟨Ao84, co84, eo84⟩ := Kd.R_slice HO109.out; subst eo84; obtain ⟨Ao85, co85, eo85⟩ := Kd.R_slice HO112.out; subst eo85) | (go_at_call 66; (with_reducible refine (laws_wnSame.calls k _ _ t107 _ _ t110 false _ ?side1 ?side2 ?side3 ?side4 A6.out).mono ?_); (case side1 => repeat (first | exact (Kd.R_reads' HO109.out).2.2 | (with_reducible refine Kd.C_alloc ?_ _) | (with_reducible refine Kd.C_drewN ?_ _) | (with_reducible refine Kd.C_drew ?_))); (case side2 => exact (Kd.R_reads' HO109.out).2.1); (case side3 => repeat (first | exact (Kd.R_reads' HO112.out).2.2 | (with_reducible refine Kd.C_alloc ?_ _) | (with_reducible refine Kd.C_drewN ?_ _) | (with_reducible refine Kd.C_drew ?_))); (case side4 => exact (Kd.R_reads' HO112.out).2.1); rintro e w' ⟨rfl, ⟨nd, rfl⟩⟩; (try first | exact ⟨rfl, _, World.drewN_drewN _ _ _⟩ | exact ⟨rfl, _, Eq.trans (World.drewN_drewN _ _ _) (congrArg (World.drewN _) (Nat.add_assoc _ _ _))⟩))); try go_wp2_with (first | (go_at_call 68; (with_reducible refine (spec_DrawNetWithout.calls k _ _ l0 t101 t102 _ ?side1 ?side2 A3.out).mono ?_); (case side1 => repeat (first | exact HR0.out | (with_reducible refine Kd.C_alloc ?_ _) | (with_reducible refine Kd.C_drewN ?_ _) | (with_reducible refine Kd.C_drew ?_))); (case side2 => exact HC0.out); rintro e w79 ⟨v103, v105, rfl, ho0, ho1, hb⟩; have n0_ := zA (Kd.R_lower ho0 (below_size (zHB))); have n1_ := zA (Kd.R_lower ho1 (below_size (zHB))); have n2_ := zA (below_step (zHB) hb); clear HB; have HO104 := n0_; have HO106 := n1_; have HB := n2_; clear n0_ n1_ n2_; (try clear hb); (try clear hb2); (try clear hk); (try clear hi); (try clear ho0); (try clear ho1); obtain ⟨Ao80, co80, eo80⟩ := Kd.R_slice HO104.out; subst eo80; obtain ⟨Ao81, co81, eo81⟩ := Kd.R_slice HO106.out; subst eo81) | (go_at_call 60; (with_reducible refine (impl_NetWithout.calls _ _ t101 _ _ t102 t107 _ ?side1 ?side2 ?side3 ?side4 A4.out).mono ?_); (case side1 => repeat (first | exact (Kd.R_reads' HO104.out).2.2 | (with_reducible refine Kd.C_alloc ?_ _) | (with_reducible refine Kd.C_drewN ?_ _) | (with_reducible refine Kd.C_drew ?_))); (case side2 => exact (Kd.R_reads' HO104.out).2.1); (case side3 => repeat (first | exact (Kd.R_reads' HO106.out).2.2 | (with_reducible refine Kd.C_alloc ?_ _) | (with_reducible refine Kd.C_drewN ?_ _) | (with_reducible refine Kd.C_drew ?_))); (case side4 => exact (Kd.R_reads' HO106.out).2.1); rintro e w82 ⟨v108, rfl, ho0, hb⟩; have n0_ := zA (Kd.R_elder' (zr HO104.out) (Kd.R_base ho0) hb); have n1_ := zA (Kd.R_elder' (zr HO106.out) (Kd.R_base ho0) hb); have n2_ := zA (Kd.R_lower (Kd.R_new' (Kd.R_new' ho0 (Kd.R_lt (zr HO104.out))) (Kd.R_lt (zr HO106.out))) (below_size (zHB))); have n3_ := zA (below_step (zHB) hb); clear HO104; clear HO106; clear HB; have HO104 := n0_; have HO106 := n1_; have HO109 := n2_; have HB := n3_; clear n0_ n1_ n2_ n3_; (try clear hb); (try clear hb2); (try clear hk); (try clear hi); (try clear ho0)) | (go_at_call 59; (with_reducible refine (spec_NetWithout.calls k _ _ t101 _ _ t102 t110 _ ?side1 ?side2 ?side3 ?side4 A5.out).mono ?_); (case side1 => repeat (first | exact (Kd.R_reads' HO104.out).2.2 | (with_reducible refine Kd.C_alloc ?_ _) | (with_reducible refine Kd.C_drewN ?_ _) | (with_reducible refine Kd.C_drew ?_))); (case side2 => exact (Kd.R_reads' HO104.out).2.1); (case side3 => repeat (first | exact (Kd.R_reads' HO106.out).2.2 | (with_reducible refine Kd.C_alloc ?_ _) | (with_reducible refine Kd.C_drewN ?_ _) | (with_reducible refine Kd.C_drew ?_))); (case side4 => exact (Kd.R_reads' HO106.out).2.1); rintro e w83 ⟨v111, rfl, ho0, hb⟩; have n0_ := zA (Kd.R_elder' (zr HO104.out) (Kd.R_base ho0) hb); have n1_ := zA (Kd.R_elder' (zr HO106.out) (Kd.R_base ho0) hb); have n2_ := zA (Kd.R_elder' (zr HO109.out) (Kd.R_base ho0) hb); have n3_ := zA (Kd.R_lower (Kd.R_new' (Kd.R_new' (Kd.R_new' ho0 (Kd.R_lt (zr HO104.out))) (Kd.R_lt (zr HO106.out))) (Kd.R_lt (zr HO109.out))) (below_size (zHB))); have n4_ := zA (below_step (zHB) hb); clear HO104; clear HO106; clear HO109; clear HB; have HO104 := n0_; have HO106 := n1_; have HO109 := n2_; have HO112 := n3_; have HB := n4_; clear n0_ n1_ n2_ n3_ n4_; (try clear hb); (try clear hb2); (try clear hk); (try clear hi); (try clear ho0); obtain ⟨Ao84, co84, eo84⟩ := Kd.R_slice HO109.out; subst eo84; obtain ⟨Ao85, co85, eo85⟩ := Kd.R_slice HO112.out; subst eo85) | (go_at_call 66; (with_reducible refine (laws_wnSame.calls k _ _ t107 _ _ t110 false _ ?side1 ?side2 ?side3 ?side4 A6.out).mono ?_); (case side1 => repeat (first | exact (Kd.R_reads' HO109.out).2.2 | (with_reducible refine Kd.C_alloc ?_ _) | (with_reducible refine Kd.C_drewN ?_ _) | (with_reducible refine Kd.C_drew ?_))); (case side2 => exact (Kd.R_reads' HO109.out).2.1); (case side3 => repeat (first | exact (Kd.R_reads' HO112.out).2.2 | (with_reducible refine Kd.C_alloc ?_ _) | (with_reducible refine Kd.C_drewN ?_ _) | (with_reducible refine Kd.C_drew ?_))); (case side4 => exact (Kd.R_reads' HO112.out).2.1); rintro e w' ⟨rfl, ⟨nd, rfl⟩⟩; (try first | exact ⟨rfl, _, World.drewN_drewN _ _ _⟩ | exact ⟨rfl, _, Eq.trans (World.drewN_drewN _ _ _) (congrArg (World.drewN _) (Nat.add_assoc _ _ _))⟩))))
 go_ret
 exact ⟨by first | rfl | (simp [errW_none, errW_some] <;> rfl) | (simp [*, errW_none, errW_some] <;> rfl), zHB⟩
end Go.Proofs.Ytnakanjhdcakhaa.Q
namespace Go.Proofs.Ytnakanjhdcakhaa.Pure
open Q Go.RowKit Go.Proofs.YtnakanjhdcakhaaW.PrintWords
set_option linter.unusedSimpArgs false
theorem xor_pos {x y : Int} (hx : 0 ≤ x) (hx1 : x < 4611686018427387904) (hy : 0 ≤ y) (hy1 : y < 4611686018427387904) : 0 ≤ Go.bits .xor .i64 x y ∧ Go.bits .xor .i64 x y < 4611686018427387904 := by
  obtain ⟨a, rfl⟩ := Int.eq_ofNat_of_zero_le hx
  obtain ⟨b, rfl⟩ := Int.eq_ofNat_of_zero_le hy
  have ha : a < 2 ^ 62 := by omega
  have hb : b < 2 ^ 62 := by omega
  have hxor : a ^^^ b < 2 ^ 62 := Nat.xor_lt_two_pow ha hb
  have e : ((BitVec.ofInt 64 (a : Int)) ^^^ (BitVec.ofInt 64 (b : Int))).toNat = a ^^^ b := by
    rw [BitVec.toNat_xor, BitVec.toNat_ofInt, BitVec.toNat_ofInt]
    congr 1 <;> omega
  have main : Go.bits .xor .i64 (a : Int) (b : Int) = IntKind.i64.wrap ((((BitVec.ofInt 64 (a : Int)) ^^^ (BitVec.ofInt 64 (b : Int))).toNat : Nat) : Int) := rfl
  rw [main, e]
  have : IntKind.i64.wrap ((a ^^^ b : Nat) : Int) = ((a ^^^ b : Nat) : Int) := by
    simp [IntKind.wrap, IntKind.bits, IntKind.signed]
    omega
  rw [this]
  omega
def Bytes (b : List Int) : Prop := b.length ≤ 2000 ∧ ∀ x ∈ b, 0 ≤ x ∧ x ≤ 255
theorem rd_byte {b : List Int} (h : Bytes b) (i : Int) : 0 ≤ rd b i ∧ rd b i ≤ 255 := by
  unfold rd
  rw [List.getD_eq_getElem?_getD]
  cases hq : b[i.toNat]? with
  | none => simp
  | some x => simpa using h.2 x (List.mem_of_getElem? hq)
theorem tmod_range {a n : Int} (ha : 0 ≤ a) (hn : 0 < n) : 0 ≤ Int.tmod a n ∧ Int.tmod a n < n := ⟨Int.tmod_nonneg _ ha, Int.tmod_lt_of_pos _ hn⟩
theorem pick_s {b : List Int} (h : Bytes b) {p n : Int} (hp : 0 ≤ p) (hp1 : p ≤ 1000000000000) (hn : 1 ≤ n) {k : Nat} (hk : 0 < k) : ∃ v, spec_l1Rd_pick.f k b p n = some (v, p + 1) ∧ 0 ≤ v ∧ v < n := by
  obtain ⟨k, rfl⟩ : ∃ m, k = m + 1 := ⟨k - 1, by omega⟩
  have hl := h.1
  unfold spec_l1Rd_pick.f
  rw [if_neg (by omega)]
  simp only [spec_l1Rd_pick.j0]
  rw [wrap_in (x := p + 1) (by omega) (by omega), wrap_in (x := p + 1 - 1) (by omega) (by omega), show p + 1 - 1 = p by omega]
  by_cases h0 : (b.length : Int) = 0
  · rw [if_pos (by simp [h0])]
    exact ⟨0, rfl, Int.le_refl _, by omega⟩
  · rw [if_neg (by simpa using h0)]
    by_cases hlt : p < (b.length : Int)
    · have hb := rd_byte h p
      rw [if_pos hlt, if_pos hp, if_neg (by omega), wrap_in (x := rd b p) (by omega) (by omega)]
      exact ⟨_, rfl, tmod_range hb.1 (by omega)⟩
    · rw [if_neg hlt, if_neg h0]
      have r1 := tmod_range hp (show 0 < (b.length : Int) by omega)
      have w7 : wrap64 (p * 7) = p * 7 := wrap_in (by omega) (by omega)
      have w73 : wrap64 (p * 7 + 3) = p * 7 + 3 := wrap_in (by omega) (by omega)
      have r2 := tmod_range (show 0 ≤ p * 7 + 3 by omega) (show 0 < (b.length : Int) by omega)
      rw [if_pos r1.1, if_pos r1.2, w7, w73, if_pos r2.1, if_pos r2.2, if_neg (by omega)]
      have b1 := rd_byte h (Int.tmod p (b.length : Int))
      have b2 := rd_byte h (Int.tmod (p * 7 + 3) (b.length : Int))
      generalize rd b (Int.tmod p (b.length : Int)) = x at b1 ⊢
      generalize rd b (Int.tmod (p * 7 + 3) (b.length : Int)) = y at b2 ⊢
      have hd : 0 ≤ Int.tdiv p (b.length : Int) ∧ Int.tdiv p (b.length : Int) ≤ p := ⟨Int.tdiv_nonneg hp (by omega), Int.tdiv_le_self _ hp⟩
      generalize Int.tdiv p (b.length : Int) = q at hd ⊢
      rw [wrap_in (x := x) (by omega) (by omega), wrap_in (x := y) (by omega) (by omega), wrap_in (x := x * 131) (by omega) (by omega), wrap_in (x := y * 1117) (by omega) (by omega), wrap_in (x := q) (by omega) (by omega), wrap_in (x := p * 29) (by omega) (by omega), wrap_in (x := q * 53) (by omega) (by omega), wrap_in (x := x * 131 + y * 1117) (by omega) (by omega), wrap_in (x := x * 131 + y * 1117 + p * 29) (by omega) (by omega), wrap_in (x := x * 131 + y * 1117 + p * 29 + q * 53) (by omega) (by omega)]
      have hz : 0 ≤ x * 131 + y * 1117 + p * 29 + q * 53 ∧ x * 131 + y * 1117 + p * 29 + q * 53 < 4611686018427387904 := by omega
      generalize x * 131 + y * 1117 + p * 29 + q * 53 = z at hz ⊢
      have h64 : 0 ≤ Int.tdiv z 64 ∧ Int.tdiv z 64 ≤ z := ⟨Int.tdiv_nonneg hz.1 (by omega), Int.tdiv_le_self _ hz.1⟩
      rw [wrap_in (x := Int.tdiv z 64) (by omega) (by omega)]
      have hx := xor_pos hz.1 hz.2 h64.1 (show Int.tdiv z 64 < 4611686018427387904 by omega)
      exact ⟨_, rfl, tmod_range hx.1 (by omega)⟩
end Go.Proofs.Ytnakanjhdcakhaa.Pure
namespace Go.Proofs.Ytnakanjhdcakhaa.Pure
open Q Go.RowKit Go.Proofs.YtnakanjhdcakhaaW.PrintWords
set_option linter.unusedSimpArgs false
theorem five {i : Int} (h0 : 0 ≤ i) (h1 : i < 5) (x0 x1 x2 x3 x4 : Int) (P : Int → Prop) (p0 : P x0) (p1 : P x1) (p2 : P x2) (p3 : P x3) (p4 : P x4) : P (rd [x0, x1, x2, x3, x4] i) := by
  have : i = 0 ∨ i = 1 ∨ i = 2 ∨ i = 3 ∨ i = 4 := by omega
  rcases this with rfl | rfl | rfl | rfl | rfl
  · exact p0
  · exact p1
  · exact p2
  · exact p3
  · exact p4
theorem prefix_j {b : List Int} (h : Bytes b) {p n : Int} (hp : 0 ≤ p) (hp1 : p ≤ 900000000000) (hn0 : 0 ≤ n) (hn1 : n ≤ 16) {k : Nat} (hk : 30 ≤ k) : ∃ a, spec_l5Prefix.j0 k n b p = some (a, n, p + 6) ∧ okB a n = true := by
  obtain ⟨k, rfl⟩ : ∃ m, k = m + 1 := ⟨k - 1, by omega⟩
  obtain ⟨v1, e1, l1, u1⟩ := pick_s h (p := p) (n := 65536) (by omega) (by omega) (by omega) (k := k) (by omega)
  obtain ⟨v2, e2, l2, u2⟩ := pick_s h (p := p + 1) (n := 4) (by omega) (by omega) (by omega) (k := k) (by omega)
  obtain ⟨v3, e3, l3, u3⟩ := pick_s h (p := p + 1 + 1) (n := 9) (by omega) (by omega) (by omega) (k := k) (by omega)
  obtain ⟨v4, e4, l4, u4⟩ := pick_s h (p := p + 1 + 1 + 1) (n := 16) (by omega) (by omega) (by omega) (k := k) (by omega)
  obtain ⟨v5, e5, l5, u5⟩ := pick_s h (p := p + 1 + 1 + 1 + 1) (n := 16) (by omega) (by omega) (by omega) (k := k) (by omega)
  obtain ⟨v6, e6, l6, u6⟩ := pick_s h (p := p + 1 + 1 + 1 + 1 + 1) (n := 5) (by omega) (by omega) (by omega) (k := k) (by omega)
  simp only [spec_l5Prefix.j0, e1, e2, e3, e4, e5, e6, Option.bind_some]
  have hz := sz_pos n
  have hr : 0 ≤ rd [v1, wrap64 (256 * v2), wrap64 (65535 - v3), v4, wrap64 (4656 + v5)] v6 ∧ rd [v1, wrap64 (256 * v2), wrap64 (65535 - v3), v4, wrap64 (4656 + v5)] v6 ≤ 65535 := by
    refine five (P := fun x => 0 ≤ x ∧ x ≤ 65535) l6 u6 _ _ _ _ _ (by omega) ?_ ?_ (by omega) ?_
    · rw [wrap_in (by omega) (by omega)]; omega
    · rw [wrap_in (by omega) (by omega)]; omega
    · rw [wrap_in (by omega) (by omega)]; omega
  rw [if_pos l6, if_pos (by simpa using u6), size_s hn0 hn1 (by omega)]
  simp only [Option.bind_some]
  rw [if_neg (by omega)]
  generalize rd [v1, wrap64 (256 * v2), wrap64 (65535 - v3), v4, wrap64 (4656 + v5)] v6 = a at hr ⊢
  have hm : Int.tmod a (sz n) = a % sz n := Int.tmod_eq_emod_of_nonneg hr.1
  have h0 := Int.emod_nonneg a (show sz n ≠ 0 by omega)
  have h1 := Int.emod_lt_of_pos a (show 0 < sz n by omega)
  have h2 : a % sz n ≤ a := by
    have := Int.mul_ediv_add_emod a (sz n)
    have := Int.mul_nonneg (show 0 ≤ sz n by omega) (Int.ediv_nonneg hr.1 (show 0 ≤ sz n by omega))
    omega
  rw [hm, wrap_in (by omega) (by omega)]
  refine ⟨a - a % sz n, by simp; omega, okB_iff.2 ⟨hn0, hn1, by omega, by omega, ?_⟩⟩
  have := Int.mul_ediv_add_emod a (sz n)
  rw [show a - a % sz n = sz n * (a / sz n) by omega]
  exact Int.mul_emod_right _ _
theorem six {i : Int} (h0 : 0 ≤ i) (h1 : i < 6) (x0 x1 x2 x3 x4 x5 : Int) (P : Int → Prop) (p0 : P x0) (p1 : P x1) (p2 : P x2) (p3 : P x3) (p4 : P x4) (p5 : P x5) : P (rd [x0, x1, x2, x3, x4, x5] i) := by
  have : i = 0 ∨ i = 1 ∨ i = 2 ∨ i = 3 ∨ i = 4 ∨ i = 5 := by omega
  rcases this with rfl | rfl | rfl | rfl | rfl | rfl
  · exact p0
  · exact p1
  · exact p2
  · exact p3
  · exact p4
  · exact p5
theorem prefix_s {b : List Int} (h : Bytes b) {p : Int} (hp : 0 ≤ p) (hp1 : p ≤ 800000000000) {k : Nat} (hk : 30 ≤ k) : ∃ a n q, spec_l5Prefix.f k b p = some (a, n, q) ∧ okB a n = true ∧ p ≤ q ∧ q ≤ p + 9 := by
  obtain ⟨v1, e1, l1, u1⟩ := pick_s h (p := p) (n := 17) (by omega) (by omega) (by omega) (k := k) (by omega)
  obtain ⟨v2, e2, l2, u2⟩ := pick_s h (p := p + 1) (n := 3) (by omega) (by omega) (by omega) (k := k) (by omega)
  obtain ⟨v3, e3, l3, u3⟩ := pick_s h (p := p + 1 + 1) (n := 6) (by omega) (by omega) (by omega) (k := k) (by omega)
  unfold spec_l5Prefix.f
  simp only [e1, e2, e3, Option.bind_some]
  by_cases h0 : v2 = 0
  · have hr : 0 ≤ rd [0, 1, 2, 8, 15, 16] v3 ∧ rd [0, 1, 2, 8, 15, 16] v3 ≤ 16 := six (P := fun x => 0 ≤ x ∧ x ≤ 16) l3 u3 _ _ _ _ _ _ (by omega) (by omega) (by omega) (by omega) (by omega) (by omega)
    rw [if_pos h0, if_pos l3, if_pos (by simpa using u3)]
    obtain ⟨a, e, ok⟩ := prefix_j h (p := p + 1 + 1 + 1) (by omega) (by omega) hr.1 hr.2 hk
    exact ⟨a, _, _, e, ok, by omega, by omega⟩
  · rw [if_neg h0]
    obtain ⟨a, e, ok⟩ := prefix_j h (p := p + 1 + 1) (by omega) (by omega) l1 (show v1 ≤ 16 by omega) hk
    exact ⟨a, _, _, e, ok, by omega, by omega⟩
end Go.Proofs.Ytnakanjhdcakhaa.Pure
namespace Go.Proofs.Ytnakanjhdcakhaa.Pure
open Q Go.RowKit Go.Proofs.YtnakanjhdcakhaaW.PrintWords
set_option linter.unusedSimpArgs false
theorem spoil_s {b : List Int} (h : Bytes b) {p : Int} (hp : 0 ≤ p) (hp1 : p ≤ 800000000000) (a n : Int) {k : Nat} (hk : 0 < k) : ∃ a' n' q, spec_l5Spoil.f k b p a n = some (a', n', q) ∧ p ≤ q ∧ q ≤ p + 2 := by
  obtain ⟨v1, e1, l1, u1⟩ := pick_s h (p := p) (n := 4) (by omega) (by omega) (by omega) (k := k) (by omega)
  obtain ⟨v2, e2, l2, u2⟩ := pick_s h (p := p + 1) (n := 4) (by omega) (by omega) (by omega) (k := k) (by omega)
  unfold spec_l5Spoil.f
  simp only [e1, e2, Option.bind_some]
  by_cases h0 : v1 = 0
  · rw [if_pos h0, if_pos l2, if_pos (by simpa using u2)]
    exact ⟨_, _, _, rfl, by omega, by omega⟩
  · rw [if_neg h0]
    by_cases h1 : v1 = 1
    · rw [if_pos h1]
      exact ⟨_, _, _, rfl, by omega, by omega⟩
    · rw [if_neg h1]
      by_cases h2 : v1 = 2
      · rw [if_pos h2, if_pos l2, if_pos (by simpa using u2)]
        exact ⟨_, _, _, rfl, by omega, by omega⟩
      · rw [if_neg h2]
        exact ⟨_, _, _, rfl, by omega, by omega⟩
end Go.Proofs.Ytnakanjhdcakhaa.Pure
namespace Go.Proofs.Ytnakanjhdcakhaa.Pure
open Q Go.RowKit Go.Proofs.YtnakanjhdcakhaaW.PrintWords
set_option linter.unusedSimpArgs false
theorem open_s {l : List Int} (h : ∀ x ∈ l, 0 ≤ x ∧ x ≤ 255) : ∃ b, spec_l1Open.f l = some (b, 0) ∧ Bytes b := by
  unfold spec_l1Open.f
  by_cases hc : (l.length : Int) > 2000
  · rw [if_pos hc, if_pos (by omega)]
    exact ⟨_, rfl, by rw [List.length_take]; omega, fun x hx => h x (List.mem_of_mem_take hx)⟩
  · rw [if_neg hc]
    exact ⟨_, rfl, by omega, h⟩
end Go.Proofs.Ytnakanjhdcakhaa.Pure
namespace Go.Proofs.Ytnakanjhdcakhaa.Pure
open Go.RowKit Go.Proofs.YtnakanjhdcakhaaW.PrintWords Go.Proofs.YtnakanjhdcakhaaW.PrintMore
open Q
set_option linter.unusedVariables false
set_option linter.unusedSimpArgs false
/-- The addresses that some of l have and none of o. -/
def anyB (l : List S26) (x : Int) : Bool := l.any fun q => hasB q.f0 q.f1 x
def inS (l o : List S26) (x : Int) : Bool := anyB l x && !anyB o x
def canon (S : Int → Bool) : Nat → Int → Int → List S26
  | 0, a, n => if S a = true then [⟨a, n⟩] else []
  | d + 1, a, n => mergeP a n (canon S d a (n + 1)) (canon S d (a + sz (n + 1)) (n + 1))
theorem nest {a n b m x : Int} (hp : okB a n = true) (hq : okB b m = true) (hmn : m ≤ n) (h1 : hasB a n x = true) (h2 : hasB b m x = true) : b ≤ a ∧ a + sz n ≤ b + sz m := by
  obtain ⟨p0, p1, p2, p3, p4⟩ := okB_iff.1 hp
  obtain ⟨q0, q1, q2, q3, q4⟩ := okB_iff.1 hq
  rw [hasB_iff] at h1 h2
  have hs := sz_pos n
  obtain ⟨i, hi⟩ := Int.dvd_of_emod_eq_zero p4
  obtain ⟨k, hk⟩ := sz_dvd hmn
  obtain ⟨j, hj⟩ := Int.dvd_trans (sz_dvd hmn) (Int.dvd_of_emod_eq_zero q4)
  generalize sz n = s at *
  generalize sz m = r at *
  subst hi hk hj
  have g1 : j < i + 1 := Int.lt_of_mul_lt_mul_left (a := s) (by rw [Int.mul_add]; omega) (by omega)
  have g2 : i < j + k := Int.lt_of_mul_lt_mul_left (a := s) (by rw [Int.mul_add]; omega) (by omega)
  have g3 := Int.mul_le_mul_of_nonneg_left (show j ≤ i by omega) (show 0 ≤ s by omega)
  have g4 := Int.mul_le_mul_of_nonneg_left (show i + 1 ≤ j + k by omega) (show 0 ≤ s by omega)
  rw [Int.mul_add, Int.mul_add] at g4
  omega
theorem has_first {a n : Int} : hasB a n a = true := by
  have := sz_pos n
  exact hasB_iff.2 ⟨by omega, by omega⟩
theorem over_has {a n x : Int} {l : List S26} (hp : okB a n = true) (hl : allOk l) (hx : hasB a n x = true) (h : overB a n l = true) : anyB l x = true := by
  obtain ⟨q, hq, hi⟩ := List.any_eq_true.1 h
  obtain ⟨i1, i2, i3⟩ := insB_iff.1 hi
  have := nest hp (hl q hq) i1 has_first (hasB_iff.2 ⟨i2, i3⟩)
  rw [hasB_iff] at hx
  exact List.any_eq_true.2 ⟨q, hq, hasB_iff.2 ⟨by omega, by omega⟩⟩
theorem has_near {a n x : Int} {l : List S26} (hp : okB a n = true) (hl : allOk l) (hx : hasB a n x = true) (h : anyB l x = true) : overB a n l = true ∨ withB a n l = true := by
  obtain ⟨q, hq, hi⟩ := List.any_eq_true.1 h
  rcases Int.le_total q.f1 n with hc | hc
  · have h1 := nest hp (hl q hq) hc hx hi
    have := sz_pos n
    exact .inl (List.any_eq_true.2 ⟨q, hq, insB_iff.2 ⟨hc, h1.1, by omega⟩⟩)
  · have h1 := nest (hl q hq) hp hc hi hx
    have := sz_pos q.f1
    exact .inr (List.any_eq_true.2 ⟨q, hq, insB_iff.2 ⟨hc, h1.1, by omega⟩⟩)
theorem has_half {a n x : Int} (hn : n < 16) : hasB a n x = true ↔ hasB a (n + 1) x = true ∨ hasB (a + sz (n + 1)) (n + 1) x = true := by
  have h1 := sz_half hn
  have h2 := sz_pos (n + 1)
  rw [hasB_iff, hasB_iff, hasB_iff]
  omega
theorem canon_all {S : Int → Bool} : ∀ (d : Nat) (a n : Int), n = 16 - (d : Int) → (∀ x, hasB a n x = true → S x = true) → canon S d a n = [⟨a, n⟩]
  | 0, a, n, hn, h => by unfold canon; rw [if_pos (h a has_first)]
  | d + 1, a, n, hn, h => by
    unfold canon
    rw [canon_all d a (n + 1) (by omega) (fun x hx => h x ((has_half (by omega)).2 (.inl hx))), canon_all d (a + sz (n + 1)) (n + 1) (by omega) (fun x hx => h x ((has_half (by omega)).2 (.inr hx)))]
    unfold mergeP
    rw [if_pos ⟨rfl, rfl⟩]
theorem canon_nil {S : Int → Bool} : ∀ (d : Nat) (a n : Int), n = 16 - (d : Int) → (∀ x, hasB a n x = true → S x = false) → canon S d a n = []
  | 0, a, n, hn, h => by unfold canon; rw [if_neg (by rw [h a has_first]; simp)]
  | d + 1, a, n, hn, h => by
    unfold canon
    rw [canon_nil d a (n + 1) (by omega) (fun x hx => h x ((has_half (by omega)).2 (.inl hx))), canon_nil d (a + sz (n + 1)) (n + 1) (by omega) (fun x hx => h x ((has_half (by omega)).2 (.inr hx)))]
    unfold mergeP
    rw [if_neg (by simp)]
    rfl
theorem left_canon {l o : List S26} (hl : allOk l) (ho : allOk o) : ∀ (d : Nat) (a n : Int), n = 16 - (d : Int) → okB a n = true → leftP l o d a n = canon (inS l o) d a n
  | 0, a, n, hn, hp => by
    have e16 : n = 16 := by omega
    subst e16
    have ov : ∀ {z : List S26}, allOk z → (anyB z a = true ↔ overB a 16 z = true) := fun {z} hz => ⟨fun h => by
      rcases has_near hp hz has_first h with h | h
      · exact h
      · exact with_over hp hz h, fun h => over_has hp hz has_first h⟩
    unfold leftP canon inS
    by_cases h1 : overB a 16 o = true
    · rw [if_pos h1, if_neg (by rw [(ov ho).2 h1]; simp)]
    · have h1' : anyB o a = false := by
        cases hq : anyB o a with
        | false => rfl
        | true => exact absurd ((ov ho).1 hq) h1
      rw [if_neg h1]
      by_cases h2 : overB a 16 l = true
      · rw [if_pos h2, if_pos (by rw [(ov hl).2 h2, h1']; rfl)]
      · rw [if_neg h2, if_neg]
        intro hq
        simp only [Bool.and_eq_true] at hq
        exact h2 ((ov hl).1 hq.1)
  | d + 1, a, n, hn, hp => by
    have hh := half_ok hp (show n < 16 by omega)
    unfold leftP
    by_cases h1 : overB a n o = true
    · rw [if_pos h1, canon_nil (d + 1) a n hn]
      intro x hx
      unfold inS
      rw [over_has hp ho hx h1]
      simp
    · rw [if_neg h1]
      by_cases h2 : (overB a n l && !withB a n o) = true
      · rw [if_pos h2, canon_all (d + 1) a n hn]
        intro x hx
        simp only [Bool.and_eq_true, Bool.not_eq_true'] at h2
        unfold inS
        rw [over_has hp hl hx h2.1]
        cases hq : anyB o x with
        | false => rfl
        | true =>
          rcases has_near hp ho hx hq with h | h
          · exact absurd h h1
          · rw [h] at h2; simp at h2
      · rw [if_neg h2]
        by_cases h3 : (!overB a n l && !withB a n l) = true
        · rw [if_pos h3, canon_nil (d + 1) a n hn]
          intro x hx
          simp only [Bool.and_eq_true, Bool.not_eq_true'] at h3
          unfold inS
          cases hq : anyB l x with
          | false => rfl
          | true =>
            rcases has_near hp hl hx hq with h | h
            · rw [h] at h3; simp at h3
            · rw [h] at h3; simp at h3
        · rw [if_neg h3, left_canon hl ho d a (n + 1) (by omega) hh.1, left_canon hl ho d (a + sz (n + 1)) (n + 1) (by omega) hh.2]
          rfl
/-- What is in the canonical list lies in the prefix, and all its addresses are in the set. -/
theorem canon_in {S : Int → Bool} : ∀ (d : Nat) (a n : Int), n = 16 - (d : Int) → okB a n = true → ∀ w ∈ canon S d a n, okB w.f0 w.f1 = true ∧ a ≤ w.f0 ∧ w.f0 + sz w.f1 ≤ a + sz n ∧ n ≤ w.f1 ∧ ∀ x, hasB w.f0 w.f1 x = true → S x = true
  | 0, a, n, hn, hp, w, hw => by
    unfold canon at hw
    split at hw
    · rename_i hs
      rw [List.mem_singleton] at hw
      subst hw
      refine ⟨hp, Int.le_refl _, Int.le_refl _, Int.le_refl _, fun x hx => ?_⟩
      have e16 : n = 16 := by omega
      subst e16
      rw [hasB_iff, sz16] at hx
      obtain rfl : x = a := by simp only at hx; omega
      exact hs
    · simp at hw
  | d + 1, a, n, hn, hp, w, hw => by
    have hh := half_ok hp (show n < 16 by omega)
    have hs := sz_half (show n < 16 by omega)
    have hz := sz_pos (n + 1)
    have i1 := canon_in (S := S) d a (n + 1) (by omega) hh.1
    have i2 := canon_in (S := S) d (a + sz (n + 1)) (n + 1) (by omega) hh.2
    unfold canon mergeP at hw
    split at hw
    · rename_i hc
      rw [List.mem_singleton] at hw
      subst hw
      refine ⟨hp, Int.le_refl _, Int.le_refl _, Int.le_refl _, fun x hx => ?_⟩
      rcases (has_half (show n < 16 by omega)).1 hx with h | h
      · exact (i1 ⟨a, n + 1⟩ (by rw [hc.1]; simp)).2.2.2.2 x h
      · exact (i2 ⟨a + sz (n + 1), n + 1⟩ (by rw [hc.2]; simp)).2.2.2.2 x h
    · rcases List.mem_append.1 hw with hw | hw
      · obtain ⟨g1, g2, g3, g4, g5⟩ := i1 w hw
        exact ⟨g1, g2, by omega, by omega, g5⟩
      · obtain ⟨g1, g2, g3, g4, g5⟩ := i2 w hw
        exact ⟨g1, by omega, by omega, by omega, g5⟩
theorem canon_has {S : Int → Bool} : ∀ (d : Nat) (a n : Int), n = 16 - (d : Int) → okB a n = true → ∀ x, hasB a n x = true → S x = true → anyB (canon S d a n) x = true
  | 0, a, n, hn, hp, x, hx, hS => by
    have e16 : n = 16 := by omega
    subst e16
    have hx' := hx
    rw [hasB_iff, sz16] at hx'
    obtain rfl : x = a := by omega
    unfold canon
    rw [if_pos hS]
    unfold anyB
    simp [hx]
  | d + 1, a, n, hn, hp, x, hx, hS => by
    have hh := half_ok hp (show n < 16 by omega)
    have i1 := canon_has (S := S) d a (n + 1) (by omega) hh.1 x
    have i2 := canon_has (S := S) d (a + sz (n + 1)) (n + 1) (by omega) hh.2 x
    unfold canon mergeP
    split
    · unfold anyB
      simp [hx]
    · unfold anyB at *
      rw [List.any_append, Bool.or_eq_true]
      rcases (has_half (show n < 16 by omega)).1 hx with h | h
      · exact .inl (i1 h hS)
      · exact .inr (i2 h hS)
theorem canon_up {S : Int → Bool} : ∀ (d : Nat) (a n : Int), n = 16 - (d : Int) → okB a n = true → (canon S d a n).Pairwise fun u v => u.f0 + sz u.f1 ≤ v.f0
  | 0, a, n, hn, hp => by
    unfold canon
    split <;> simp
  | d + 1, a, n, hn, hp => by
    have hh := half_ok hp (show n < 16 by omega)
    have i1 := canon_in (S := S) d a (n + 1) (by omega) hh.1
    have i2 := canon_in (S := S) d (a + sz (n + 1)) (n + 1) (by omega) hh.2
    have j1 := canon_up (S := S) d a (n + 1) (by omega) hh.1
    have j2 := canon_up (S := S) d (a + sz (n + 1)) (n + 1) (by omega) hh.2
    unfold canon mergeP
    split
    · simp
    · rw [List.pairwise_append]
      refine ⟨j1, j2, fun u hu v hv => ?_⟩
      have := (i1 u hu).2.2.1
      have := (i2 v hv).2.1
      omega
theorem sz_two {m k : Int} (hm : k < m) (h1 : m ≤ 16) : 2 * sz m ∣ sz k := by
  have e := sz_half (n := m - 1) (by omega)
  rw [show m - 1 + 1 = m by omega] at e
  rw [← e]
  exact sz_dvd (by omega)
/-- No two of the canonical list are the halves of one. -/
theorem canon_sib {S : Int → Bool} : ∀ (d : Nat) (a n : Int), n = 16 - (d : Int) → okB a n = true → ∀ u ∈ canon S d a n, ∀ v ∈ canon S d a n, ¬ (u.f1 = v.f1 ∧ u.f0 + sz u.f1 = v.f0 ∧ u.f0 % (2 * sz u.f1) = 0)
  | 0, a, n, hn, hp, u, hu, v, hv => by
    unfold canon at hu hv
    split at hu
    · rw [if_pos (by assumption)] at hv
      rw [List.mem_singleton] at hu hv
      subst hu hv
      rintro ⟨_, h, _⟩
      have := sz_pos n
      simp only at h
      omega
    · simp at hu
  | d + 1, a, n, hn, hp, u, hu, v, hv => by
    have hh := half_ok hp (show n < 16 by omega)
    have hs := sz_half (show n < 16 by omega)
    have i1 := canon_in (S := S) d a (n + 1) (by omega) hh.1
    have i2 := canon_in (S := S) d (a + sz (n + 1)) (n + 1) (by omega) hh.2
    have j1 := canon_sib (S := S) d a (n + 1) (by omega) hh.1
    have j2 := canon_sib (S := S) d (a + sz (n + 1)) (n + 1) (by omega) hh.2
    unfold canon mergeP at hu hv
    split at hu
    · rw [if_pos (by assumption)] at hv
      rw [List.mem_singleton] at hu hv
      subst hu hv
      rintro ⟨_, h, _⟩
      have := sz_pos n
      simp only at h
      omega
    · rename_i hc
      rw [if_neg hc] at hv
      rcases List.mem_append.1 hu with hu | hu <;> rcases List.mem_append.1 hv with hv | hv
      · exact j1 u hu v hv
      · rintro ⟨e1, e2, e3⟩
        obtain ⟨g1, g2, g3, g4, g5⟩ := i1 u hu
        obtain ⟨k1, k2, k3, k4, k5⟩ := i2 v hv
        have hm := (okB_iff.1 g1).2.1
        have hz := sz_pos u.f1
        by_cases hnm : u.f1 = n + 1
        · apply hc
          have eu : u.f0 = a := by rw [hnm] at e2 g3; omega
          have ev : v.f0 = a + sz (n + 1) := by rw [hnm] at e2; omega
          constructor
          · refine canon_all d a (n + 1) (by omega) (fun x hx => g5 x ?_)
            rw [eu, hnm]
            exact hx
          · refine canon_all d _ (n + 1) (by omega) (fun x hx => k5 x ?_)
            rw [ev, ← e1, hnm]
            exact hx
        · have d1 : 2 * sz u.f1 ∣ sz (n + 1) := sz_two (by omega) hm
          have d2 : 2 * sz u.f1 ∣ a := Int.dvd_trans (sz_two (by omega) hm) (Int.dvd_of_emod_eq_zero (okB_iff.1 hp).2.2.2.2)
          have d3 : 2 * sz u.f1 ∣ u.f0 := Int.dvd_of_emod_eq_zero e3
          have ev : v.f0 = a + sz (n + 1) := by omega
          have d4 : 2 * sz u.f1 ∣ a + sz (n + 1) - u.f0 := Int.dvd_sub (Int.dvd_add d2 d1) d3
          rw [show a + sz (n + 1) - u.f0 = sz u.f1 by omega] at d4
          have := Int.le_of_dvd (by omega) d4
          omega
      · rintro ⟨e1, e2, e3⟩
        have g2 := (i2 u hu).2.1
        have k2 := (i1 v hv).2.2.1
        have hz := sz_pos u.f1
        have hz2 := sz_pos v.f1
        omega
      · exact j2 u hu v hv
end Go.Proofs.Ytnakanjhdcakhaa.Pure
namespace Go.Proofs.Ytnakanjhdcakhaa.Pure
open Q Go.RowKit Go.Proofs.YtnakanjhdcakhaaW.PrintWords
set_option linter.unusedSimpArgs false
set_option linter.unusedVariables false
theorem align_ok {a m : Int} (h0 : 0 ≤ m) (h1 : m ≤ 16) (ha : 0 ≤ a) (hb : a ≤ 65535) : okB (a - a % sz m) m = true ∧ 0 ≤ a % sz m ∧ a % sz m ≤ a := by
  have hz := sz_pos m
  have e0 := Int.emod_nonneg a (show sz m ≠ 0 by omega)
  have e2 : a % sz m ≤ a := by
    have := Int.mul_ediv_add_emod a (sz m)
    have := Int.mul_nonneg (show 0 ≤ sz m by omega) (Int.ediv_nonneg ha (show 0 ≤ sz m by omega))
    omega
  refine ⟨okB_iff.2 ⟨h0, h1, by omega, by omega, ?_⟩, e0, e2⟩
  have := Int.mul_ediv_add_emod a (sz m)
  rw [show a - a % sz m = sz m * (a / sz m) by omega]
  exact Int.mul_emod_right _ _
theorem rd26_in {l : List S26} {i : Int} (h0 : 0 ≤ i) (h1 : i < (l.length : Int)) : rd_T26 l i ∈ l := by
  obtain ⟨n, rfl⟩ := Int.eq_ofNat_of_zero_le h0
  have hn : n < l.length := by omega
  have e : rd_T26 l (n : Int) = l[n] := by simp [rd_T26, List.getD_eq_getElem?_getD, hn]
  rw [e]
  exact List.getElem_mem hn
theorem allOk_snoc {l : List S26} (h : allOk l) (x : S26) (hx : okB x.f0 x.f1 = true) : allOk (l ++ [x]) := by
  intro y hy
  rcases List.mem_append.1 hy with hy | hy
  · exact h y hy
  · rw [List.mem_singleton.1 hy]
    exact hx
theorem allOk_two {a b : S26} (ha : okB a.f0 a.f1 = true) (hb : okB b.f0 b.f1 = true) : allOk [a, b] := by
  intro y hy
  simp at hy
  rcases hy with rfl | rfl
  · exact ha
  · exact hb
/-- A draw of prefixes that ends: how many at the most, and how far the reader has gone. -/
def DoneL (o : Option (List S26 × Int)) (m : Nat) (hi : Int) : Prop := ∃ r q, o = some (r, q) ∧ r.length ≤ m ∧ 0 ≤ q ∧ q ≤ hi
theorem list_j1 {b : List Int} (hb : Bytes b) {P hi : Int} (hP : P ≤ 600000000000) {m M k : Nat} (hM : M ≤ 100) (hm : m + 1 ≤ M) (hk : 33 ≤ k) {x6 : Int} (IH : ∀ (x5 : List S26) (p : Int), allOk x5 → x5.length ≤ m + 1 → 0 ≤ p → p ≤ P → DoneL (spec_l5List.l0 k x5 (wrap64 (x6 - 1)) b p) M hi)
    {x5 : List S26} (ok : allOk x5) (hl : x5.length ≤ m) (x30 : Bool) (hx : x30 = true → 0 < x5.length) {p : Int} (hp : 0 ≤ p) (hp1 : p + 5 ≤ P) {a n : Int} (ha : okB a n = true) : DoneL (spec_l5List.j1 (k + 1) x5 x6 x30 b p a n) M hi := by
  have h87 : x5.length < 8796093022208 := by omega
  simp only [spec_l5List.j1]
  by_cases h : x30 = true
  · have hx' := hx h
    obtain ⟨v1, e1, l1, u1⟩ := pick_s hb (p := p) (n := (x5.length : Int)) (by omega) (by omega) (by omega) (k := k) (by omega)
    obtain ⟨v2, e2, l2, u2⟩ := pick_s hb (p := p + 1) (n := 3) (by omega) (by omega) (by omega) (k := k) (by omega)
    obtain ⟨v3, e3, l3, u3⟩ := pick_s hb (p := p + 1 + 1) (n := 2) (by omega) (by omega) (by omega) (k := k) (by omega)
    have hq := ok _ (rd26_in l1 u1)
    have hq' := okB_iff.1 hq
    simp only [if_pos h, e1, e2, Option.bind_some]
    rw [if_pos l1, if_pos u1]
    generalize rd_T26 x5 v1 = q at hq hq' ⊢
    by_cases c0 : v2 = 0
    · rw [if_pos c0]
      by_cases c1 : q.f1 > 0
      · have w1 : wrap64 (q.f1 - 1) = q.f1 - 1 := wrap_in (by omega) (by omega)
        have hz := sz_pos (q.f1 - 1)
        obtain ⟨al, am, an⟩ := align_ok (a := q.f0) (m := q.f1 - 1) (by omega) (by omega) hq'.2.2.1 hq'.2.2.2.1
        have al' := okB_iff.1 al
        have hh := half_ok al (by omega)
        have hm : Int.tmod q.f0 (sz (q.f1 - 1)) = q.f0 % sz (q.f1 - 1) := Int.tmod_eq_emod_of_nonneg hq'.2.2.1
        rw [if_pos c1, w1, size_s (by omega) (by omega) (by omega), Option.bind_some, if_neg (by omega), hm, wrap_in (x := q.f0 - q.f0 % sz (q.f1 - 1)) (by omega) (by omega), l1halves_s (by omega) (by omega) (by omega) al'.2.2.1 al'.2.2.2.1]
        simp only [Option.bind_some, e3]
        have ok2 := rd26_in (l := [(⟨q.f0 - q.f0 % sz (q.f1 - 1), q.f1 - 1 + 1⟩ : S26), ⟨q.f0 - q.f0 % sz (q.f1 - 1) + sz (q.f1 - 1 + 1), q.f1 - 1 + 1⟩]) l3 (by simpa using u3)
        rw [if_pos l3, if_pos (by simpa using u3), if_pos h87]
        exact IH _ _ (allOk_snoc ok _ (allOk_two hh.1 hh.2 _ ok2)) (by simp; omega) (by omega) (by omega)
      · rw [if_neg c1, if_pos h87]
        exact IH _ _ (allOk_snoc ok _ ha) (by simp; omega) (by omega) (by omega)
    · rw [if_neg c0]
      by_cases c1 : v2 = 1
      · rw [if_pos c1]
        by_cases c2 : q.f1 < 16
        · have hh := half_ok hq c2
          rw [if_pos c2, l1halves_s (by omega) hq'.1 c2 hq'.2.2.1 hq'.2.2.2.1]
          simp only [Option.bind_some, e3]
          have ok2 := rd26_in (l := [(⟨q.f0, q.f1 + 1⟩ : S26), ⟨q.f0 + sz (q.f1 + 1), q.f1 + 1⟩]) l3 (by simpa using u3)
          rw [if_pos l3, if_pos (by simpa using u3), if_pos h87]
          exact IH _ _ (allOk_snoc ok _ (allOk_two hh.1 hh.2 _ ok2)) (by simp; omega) (by omega) (by omega)
        · rw [if_neg c2, if_pos h87]
          exact IH _ _ (allOk_snoc ok _ ha) (by simp; omega) (by omega) (by omega)
      · rw [if_neg c1, if_pos h87]
        exact IH _ _ (allOk_snoc ok _ hq) (by simp; omega) (by omega) (by omega)
  · simp only [if_neg h]
    rw [if_pos h87]
    exact IH _ _ (allOk_snoc ok _ ha) (by simp; omega) hp (by omega)
theorem list_l0 {b : List Int} (hb : Bytes b) {M : Nat} (hM : M ≤ 100) {B : Int} (hB : B ≤ 600000000000) (d : Nat) : ∀ (k : Nat) (x5 : List S26) (p : Int), allOk x5 → x5.length + d ≤ M → 0 ≤ p → p ≤ B - 20 * d - 10 → 2 * d + 50 ≤ k → DoneL (spec_l5List.l0 k x5 d b p) M B := by
  induction d with
  | zero =>
    intro k x5 p ok hl hp hp1 hk
    obtain ⟨k, rfl⟩ : ∃ m, k = m + 1 := ⟨k - 1, by omega⟩
    obtain ⟨v1, e1, l1, u1⟩ := pick_s hb (p := p) (n := 30) (by omega) (by omega) (by omega) (k := k) (by omega)
    simp only [spec_l5List.l0]
    rw [if_neg (by omega), e1, Option.bind_some]
    by_cases c0 : v1 = 0
    · rw [if_pos c0]
      by_cases c1 : (x5.length : Int) > 0
      · obtain ⟨a', n', q, e, g1, g2⟩ := spoil_s hb (p := p + 1) (by omega) (by omega) (rd_T26 x5 0).f0 (rd_T26 x5 0).f1 (k := k) (by omega)
        rw [if_pos c1, if_pos (by omega), e, Option.bind_some]
        exact ⟨_, _, rfl, by simp; omega, by (try dsimp only); omega, by (try dsimp only); omega⟩
      · rw [if_neg c1]
        exact ⟨_, _, rfl, by omega, by (try dsimp only); omega, by (try dsimp only); omega⟩
    · rw [if_neg c0]
      exact ⟨_, _, rfl, by omega, by (try dsimp only); omega, by (try dsimp only); omega⟩
  | succ d ih =>
    intro k x5 p ok hl hp hp1 hk
    obtain ⟨k, rfl⟩ : ∃ m, k = m + 2 := ⟨k - 2, by omega⟩
    have IH : ∀ (x5' : List S26) (p' : Int), allOk x5' → x5'.length ≤ x5.length + 1 → 0 ≤ p' → p' ≤ B - 20 * d - 10 → DoneL (spec_l5List.l0 k x5' (wrap64 (((d + 1 : Nat) : Int) - 1)) b p') M B := by
      intro x5' p' ok' hl' hp' hp1'
      rw [show wrap64 (((d + 1 : Nat) : Int) - 1) = (d : Int) by rw [wrap_in (by omega) (by omega)]; omega]
      exact ih k x5' p' ok' (by omega) hp' hp1' (by omega)
    obtain ⟨a1, n1, q1, f1, o1, g1, g1'⟩ := prefix_s hb (p := p) (by omega) (by omega) (k := k + 1) (by omega)
    obtain ⟨v1, e1, l1, u1⟩ := pick_s hb (p := q1) (n := 2) (by omega) (by omega) (by omega) (k := k + 1) (by omega)
    simp only [spec_l5List.l0]
    rw [if_pos (by omega), f1, Option.bind_some]
    by_cases h : (x5.length : Int) > 0
    · rw [if_pos h, e1, Option.bind_some]
      exact list_j1 hb (P := B - 20 * d - 10) (by omega) hM (by omega) (by omega) IH ok (Nat.le_refl _) _ (fun _ => by omega) (by omega) (by (try dsimp only); omega) o1
    · rw [if_neg h]
      exact list_j1 hb (P := B - 20 * d - 10) (by omega) hM (by omega) (by omega) IH ok (Nat.le_refl _) _ (fun hq => by simp at hq) (by (try dsimp only); omega) (by (try dsimp only); omega) o1
theorem list_s {b : List Int} (hb : Bytes b) {p : Int} (hp : 0 ≤ p) (hp1 : p ≤ 500000000000) {most : Nat} (hm : 1 ≤ most) (hm1 : most ≤ 20) {k : Nat} (hk : 100 ≤ k) : ∃ r q, spec_l5List.f k b p most = some (r, q) ∧ r.length < most ∧ 0 ≤ q ∧ q ≤ p + 500 := by
  obtain ⟨v1, e1, l1, u1⟩ := pick_s hb (p := p) (n := most) (by omega) (by omega) (by omega) (k := k) (by omega)
  obtain ⟨d, rfl⟩ := Int.eq_ofNat_of_zero_le l1
  obtain ⟨r, q, e, h1, h2, h3⟩ := list_l0 hb (M := d) (by omega) (B := p + 500) (by omega) d k [] (p + 1) (by intro x hx; simp at hx) (by simp) (by omega) (by omega) (by omega)
  unfold spec_l5List.f
  rw [e1, Option.bind_some]
  exact ⟨r, q, e, by omega, h2, h3⟩
theorem drawWithout_l0 {b : List Int} (hb : Bytes b) (x5 : List S26) (h5 : x5.length ≤ 10) (d : Nat) : ∀ (k i : Nat) (x6 : List S26) (p : Int), i + d = x5.length → x6.length ≤ 10 + i → 0 ≤ p → p ≤ 2000 + i → 2 * d + 50 ≤ k → ∃ r s, spec_DrawNetWithout.l0 k x5 x6 i b p = some (r, s) ∧ r.length ≤ 20 ∧ s.length ≤ 20 := by
  induction d with
  | zero =>
    intro k i x6 p hi hl hp hp1 hk
    obtain ⟨k, rfl⟩ : ∃ m, k = m + 2 := ⟨k - 2, by omega⟩
    simp only [spec_DrawNetWithout.l0]
    rw [if_neg (by omega)]
    simp only [spec_DrawNetWithout.j1, Bool.false_eq_true, if_false]
    exact ⟨_, _, rfl, by omega, by omega⟩
  | succ d ih =>
    intro k i x6 p hi hl hp hp1 hk
    obtain ⟨k, rfl⟩ : ∃ m, k = m + 2 := ⟨k - 2, by omega⟩
    obtain ⟨v1, e1, l1, u1⟩ := pick_s hb (p := p) (n := 2) (by omega) (by omega) (by omega) (k := k + 1) (by omega)
    simp only [spec_DrawNetWithout.l0]
    rw [if_pos (by omega), e1, Option.bind_some]
    simp only [spec_DrawNetWithout.j1]
    by_cases hv : (v1 == 0) = true
    · rw [if_pos hv, if_pos (by omega), if_pos (by omega), ok_s (by omega), Option.bind_some, wrap_in (x := (i : Int) + 1) (by omega) (by omega)]
      by_cases hok : okB (rd_T26 x5 i).f0 (rd_T26 x5 i).f1 = true
      · have ho := okB_iff.1 hok
        rw [if_pos hok]
        by_cases h16 : (rd_T26 x5 i).f1 < 16
        · rw [if_pos h16, l1halves_s (by omega) ho.1 h16 ho.2.2.1 ho.2.2.2.1, Option.bind_some, if_pos (by omega)]
          exact ih k (i + 1) _ _ (by omega) (by simp; omega) (by omega) (by omega) (by omega)
        · rw [if_neg h16]
          exact ih k (i + 1) _ _ (by omega) (by omega) (by omega) (by omega) (by omega)
      · rw [if_neg hok]
        exact ih k (i + 1) _ _ (by omega) (by omega) (by omega) (by omega) (by omega)
    · rw [if_neg hv]
      exact ⟨_, _, rfl, by omega, by omega⟩
theorem drawWithout_s {l : List Int} (h : ∀ x ∈ l, 0 ≤ x ∧ x ≤ 255) {k : Nat} (hk : 100 ≤ k) : ∃ r s, spec_DrawNetWithout.f k l = some (r, s) ∧ r.length ≤ 20 ∧ s.length ≤ 20 := by
  obtain ⟨b, e, hb⟩ := open_s h
  obtain ⟨r, q, e1, g1, g2, g3⟩ := list_s hb (p := 0) (by omega) (by omega) (most := 8) (by omega) (by omega) hk
  obtain ⟨s, q', e2, k1, k2, k3⟩ := list_s hb (p := q) (by omega) (by omega) (most := 6) (by omega) (by omega) hk
  have h8 : ((8 : Nat) : Int) = 8 := rfl
  have h6 : ((6 : Nat) : Int) = 6 := rfl
  rw [h8] at e1
  rw [h6] at e2
  unfold spec_DrawNetWithout.f
  rw [e, Option.bind_some, e1, Option.bind_some, e2, Option.bind_some]
  exact drawWithout_l0 hb r (by omega) r.length k 0 s q' (by omega) (by omega) k2 (by omega) (by omega)
end Go.Proofs.Ytnakanjhdcakhaa.Pure
namespace Go.Proofs.Ytnakanjhdcakhaa.Pure
open Q Go.RowKit Go.Proofs.YtnakanjhdcakhaaW.PrintWords
set_option linter.unusedSimpArgs false
set_option linter.unusedVariables false
theorem rd26_drop {l : List S26} {i : Nat} (h : i < l.length) : l.drop i = rd_T26 l (i : Int) :: l.drop (i + 1) := by
  rw [List.drop_eq_getElem_cons h, rd26_at l i h]
theorem wnOk_loop (l : List S26) (hl : l.length ≤ 1000000) (d : Nat) : ∀ (i k : Nat), i + d = l.length → d + 20 < k → laws_wnOk.l0 k l i = some (((l.drop i).all fun q => okB q.f0 q.f1) && decide (l.length ≤ 40)) := by
  induction d with
  | zero =>
    intro i k hi hk
    obtain ⟨k, rfl⟩ : ∃ m, k = m + 1 := ⟨k - 1, by omega⟩
    simp only [laws_wnOk.l0]
    rw [if_neg (by omega), List.drop_eq_nil_of_le (by omega)]
    simp
    omega
  | succ d ih =>
    intro i k hi hk
    obtain ⟨k, rfl⟩ : ∃ m, k = m + 1 := ⟨k - 1, by omega⟩
    simp only [laws_wnOk.l0]
    rw [if_pos (by omega), if_pos (by omega), ok_s (by omega), Option.bind_some, rd26_drop (by omega), List.all_cons, wrap_in (x := (i : Int) + 1) (by omega) (by omega)]
    cases h : okB (rd_T26 l (i : Int)).f0 (rd_T26 l (i : Int)).f1 with
    | false => simp
    | true =>
      rw [if_pos rfl, Bool.true_and]
      exact ih (i + 1) k (by omega) (by omega)
theorem wnOk_s {l : List S26} (hl : l.length ≤ 1000000) {k : Nat} (hk : l.length + 20 < k) : laws_wnOk.f k l = some (okL l) := by
  have := wnOk_loop l hl l.length 0 k (by omega) hk
  unfold laws_wnOk.f okL
  rw [Bool.and_comm]
  exact this
theorem wnSame_loop (a : List S26) (hl : a.length ≤ 1000000) (d : Nat) : ∀ (i k : Nat), i + d = a.length → d < k → laws_wnSame.l0 k a a i = some true := by
  induction d with
  | zero =>
    intro i k hi hk
    obtain ⟨k, rfl⟩ : ∃ m, k = m + 1 := ⟨k - 1, by omega⟩
    simp only [laws_wnSame.l0]
    rw [if_neg (by omega)]
  | succ d ih =>
    intro i k hi hk
    obtain ⟨k, rfl⟩ : ∃ m, k = m + 1 := ⟨k - 1, by omega⟩
    simp only [laws_wnSame.l0, beq_self_eq_true, Bool.not_true, Bool.or_self, Bool.false_eq_true, if_false]
    rw [if_pos (by omega), if_pos (by omega), if_pos (by omega), wrap_in (x := (i : Int) + 1) (by omega) (by omega)]
    exact ih (i + 1) k (by omega) (by omega)
theorem wnSame_s {a : List S26} (hl : a.length ≤ 1000000) {k : Nat} (hk : a.length < k) : laws_wnSame.f k a a = some true := by
  unfold laws_wnSame.f
  rw [if_pos rfl]
  exact wnSame_loop a hl a.length 0 k (by omega) hk
theorem wnHas_loop (l : List S26) (hl : l.length ≤ 1000000) (ho : allOk l) (x : Int) (d : Nat) : ∀ (i k : Nat), i + d = l.length → d + 20 < k → laws_wnHas.l0 k l x i = some (anyB (l.drop i) x) := by
  induction d with
  | zero =>
    intro i k hi hk
    obtain ⟨k, rfl⟩ : ∃ m, k = m + 1 := ⟨k - 1, by omega⟩
    simp only [laws_wnHas.l0]
    rw [if_neg (by omega), List.drop_eq_nil_of_le (by omega)]
    rfl
  | succ d ih =>
    intro i k hi hk
    obtain ⟨k, rfl⟩ : ∃ m, k = m + 1 := ⟨k - 1, by omega⟩
    have hok := ho _ (rd26_in (l := l) (i := (i : Int)) (by omega) (by omega))
    have hn := ih (i + 1) k (by omega) (by omega)
    simp only [laws_wnHas.l0]
    rw [if_pos (by omega), if_pos (by omega), nethas_s (by omega), hok, Option.bind_some, rd26_drop (by omega), wrap_in (x := (i : Int) + 1) (by omega) (by omega)]
    unfold anyB at hn ⊢
    rw [List.any_cons]
    cases h : hasB (rd_T26 l (i : Int)).f0 (rd_T26 l (i : Int)).f1 x with
    | true => simp
    | false =>
      simp only [Bool.and_false, Bool.false_eq_true, if_false, Bool.false_or]
      exact hn
theorem wnHas_s {l : List S26} (hl : l.length ≤ 1000000) (ho : allOk l) (x : Int) {k : Nat} (hk : l.length + 20 < k) : laws_wnHas.f k l x = some (anyB l x) := wnHas_loop l hl ho x l.length 0 k (by omega) hk
end Go.Proofs.Ytnakanjhdcakhaa.Pure
namespace Go.Proofs.Ytnakanjhdcakhaa.Pure
open Go.RowKit Go.Proofs.YtnakanjhdcakhaaW.PrintWords Go.Proofs.YtnakanjhdcakhaaW.PrintMore
open Q
set_option linter.unusedVariables false
set_option linter.unusedSimpArgs false
theorem l3ok_loop (l : List S26) (hl : l.length ≤ 9223372036854775807) (d : Nat) : ∀ (i k : Nat), i + d = l.length → d + 20 < k → spec_l3Ok.l0 k l i = some ((l.drop i).all fun q => okB q.f0 q.f1) := by
  induction d with
  | zero =>
    intro i k hi hk
    obtain ⟨k, rfl⟩ : ∃ m, k = m + 1 := ⟨k - 1, by omega⟩
    simp only [spec_l3Ok.l0]
    rw [if_neg (by omega), List.drop_of_length_le (by omega)]
    rfl
  | succ d ih =>
    intro i k hi hk
    obtain ⟨k, rfl⟩ : ∃ m, k = m + 1 := ⟨k - 1, by omega⟩
    have hlt : i < l.length := by omega
    simp only [spec_l3Ok.l0]
    rw [if_pos (by omega), if_pos (by omega), rd26_at l i hlt, ok_s (by omega)]
    simp only [Option.bind_some]
    rw [List.drop_eq_getElem_cons hlt, List.all_cons, wrap_succ (by omega) (by omega), show ((i : Int) + 1) = ((i + 1 : Nat) : Int) by omega, ih (i + 1) k (by omega) (by omega)]
    cases okB l[i].f0 l[i].f1 <;> simp
theorem l3ok_s {l : List S26} {k : Nat} (hl : l.length ≤ 9223372036854775807) (hk : 60 < k) : spec_l3Ok.f k l = some (okL l) := by
  unfold spec_l3Ok.f okL
  by_cases h : l.length ≤ 40
  · rw [if_neg (by omega)]
    have := l3ok_loop l hl l.length 0 k (by omega) (by omega)
    simpa [h] using this
  · rw [if_pos (by omega)]
    simp [h]
theorem some_loop (l : List S26) (hl : l.length ≤ 9223372036854775807) (ho : allOk l) {a n : Int} (h : okB a n = true) (d : Nat) : ∀ (i k : Nat) (x y : Bool), i + d = l.length → d + 20 < k →
    spec_l3Some.l0 k l x y i a n = some (x || overB a n (l.drop i), y || withB a n (l.drop i)) := by
  induction d with
  | zero =>
    intro i k x y hi hk
    obtain ⟨k, rfl⟩ : ∃ m, k = m + 1 := ⟨k - 1, by omega⟩
    simp only [spec_l3Some.l0]
    rw [if_neg (by omega), List.drop_of_length_le (by omega)]
    simp [overB, withB]
  | succ d ih =>
    intro i k x y hi hk
    obtain ⟨k, rfl⟩ : ∃ m, k = m + 1 := ⟨k - 1, by omega⟩
    have hlt : i < l.length := by omega
    have hq := ho l[i] (List.getElem_mem hlt)
    simp only [spec_l3Some.l0]
    rw [if_pos (by omega), if_pos (show (0 : Int) ≤ i by omega), rd26_at l i hlt, ins_s (by omega) _ _ hq, ins_s (by omega) _ _ h, wrap_succ (by omega) (by omega), show ((i : Int) + 1) = ((i + 1 : Nat) : Int) by omega]
    simp only [Option.bind_some]
    unfold overB withB at ih ⊢
    rw [List.drop_eq_getElem_cons hlt, List.any_cons, List.any_cons]
    cases x <;> cases y <;> (try simp only [if_true, Bool.false_eq_true, if_false]) <;> first | (rw [ih (i + 1) k _ _ (by omega) (by omega)]; simp; done) | (rw [if_neg (by simp), ih (i + 1) k _ _ (by omega) (by omega)]; simp; done) | (rw [if_neg (by simp), if_neg (by simp), ih (i + 1) k _ _ (by omega) (by omega)]; simp; done)
theorem some_s {l : List S26} {k : Nat} (hl : l.length ≤ 40) (ho : allOk l) {a n : Int} (h : okB a n = true) (hk : 60 < k) : spec_l3Some.f k l a n = some (overB a n l, withB a n l) := by
  have := some_loop l (by omega) ho h l.length 0 k false false (by omega) (by omega)
  simpa [spec_l3Some.f] using this
theorem one_or {xs : List S26} (h : ¬ xs.length = 1) (x : S26) : ¬ xs = [x] := by
  rintro rfl
  exact h rfl
theorem part_s (l o : List S26) (hl : l.length ≤ 40) (ho : o.length ≤ 40) (al : allOk l) (ao : allOk o) (d : Nat) : ∀ (a n : Int) (k : Nat), n = 16 - (d : Int) → okB a n = true → 64 + 4 * d < k → spec_l3Part.f k a n l o = some (leftP l o d a n) := by
  induction d with
  | zero =>
    intro a n k hn hok hk
    obtain ⟨k, rfl⟩ : ∃ m, k = m + 2 := ⟨k - 2, by omega⟩
    have h16 : n = 16 := by omega
    have w1 : withB a n l = true → overB a n l = true := fun h => by rw [h16] at h hok ⊢; exact with_over hok al h
    have w2 : withB a n o = true → overB a n o = true := fun h => by rw [h16] at h hok ⊢; exact with_over hok ao h
    simp only [spec_l3Part.f]
    rw [some_s hl al hok (by omega), some_s ho ao hok (by omega)]
    simp only [Option.bind_some, spec_l3Part.j0]
    unfold leftP
    cases h1 : overB a n o with
    | true => simp
    | false =>
      have h2 : withB a n o = false := by
        cases h : withB a n o with
        | true => rw [w2 h] at h1; cases h1
        | false => rfl
      cases h3 : overB a n l with
      | true => simp [h2]
      | false =>
        have h4 : withB a n l = false := by
          cases h : withB a n l with
          | true => rw [w1 h] at h3; cases h3
          | false => rfl
        simp [h2, h4]
  | succ d ih =>
    intro a n k hn hok hk
    obtain ⟨k, rfl⟩ : ∃ m, k = m + 4 := ⟨k - 4, by omega⟩
    have hn0 : 0 ≤ n := (okB_iff.1 hok).1
    have hn16 : n < 16 := by omega
    have hd16 : d ≤ 15 := by omega
    obtain ⟨hoa, hob⟩ := half_ok hok hn16
    have hx := ih a (n + 1) (k + 1) (by omega) hoa (by omega)
    have hy := ih (a + sz (n + 1)) (n + 1) (k + 1) (by omega) hob (by omega)
    have lx := leftP_len l o d a (n + 1)
    have ly := leftP_len l o d (a + sz (n + 1)) (n + 1)
    have hp : 2 ^ d ≤ 2 ^ 15 := Nat.pow_le_pow_right (by decide) hd16
    have hj1 : spec_l3Part.j1 (k + 2) l o a n = some (mergeP a n (leftP l o d a (n + 1)) (leftP l o d (a + sz (n + 1)) (n + 1))) := by
      obtain ⟨_, _, a0, a1, _⟩ := okB_iff.1 hok
      simp only [spec_l3Part.j1]
      rw [l1halves_s (by omega) hn0 hn16 a0 a1]
      simp only [Option.bind_some, hx, hy]
      generalize leftP l o d a (n + 1) = xs at lx ⊢
      generalize leftP l o d (a + sz (n + 1)) (n + 1) = ys at ly ⊢
      have hj2 : ∀ b, spec_l3Part.j2 (k + 1) xs ys b a n = some (if b = true then [(⟨a, n⟩ : S26)] else xs ++ ys) := by
        intro b
        simp only [spec_l3Part.j2]
        cases b
        · simp only [Bool.false_eq_true, if_false]
          rw [if_pos (by omega)]
        · simp
      unfold mergeP
      by_cases h1 : xs.length = 1
      · by_cases h2 : ys.length = 1
        · obtain ⟨x, rfl⟩ := List.length_eq_one_iff.1 h1
          obtain ⟨y, rfl⟩ := List.length_eq_one_iff.1 h2
          rw [if_pos (by simp), if_pos (by simp), if_pos (by simp), show rd_T26 [x] 0 = x from rfl, show rd_T26 [y] 0 = y from rfl]
          by_cases e1 : x = ⟨a, n + 1⟩
          · rw [if_pos (by rw [e1]; simp), if_pos (by simp), hj2]
            by_cases e2 : y = ⟨a + sz (n + 1), n + 1⟩
            · rw [if_pos (by rw [e2]; simp), if_pos (by rw [e1, e2]; exact ⟨rfl, rfl⟩)]
            · have : ¬ (y.f0 == a + sz (n + 1) && y.f1 == n + 1) = true := by
                intro h
                simp only [Bool.and_eq_true, beq_iff_eq] at h
                exact e2 (by cases y; simp only at h; rw [h.1, h.2])
              rw [if_neg this, if_neg (by simp [e2])]
          · have : ¬ (x.f0 == a && x.f1 == n + 1) = true := by
              intro h
              simp only [Bool.and_eq_true, beq_iff_eq] at h
              exact e1 (by cases x; simp only at h; rw [h.1, h.2])
            rw [if_neg this, hj2, if_neg (by simp), if_neg (by simp [e1])]
        · rw [if_pos (by omega), if_neg (by omega), hj2, if_neg (by simp), if_neg (fun h => one_or h2 _ h.2)]
      · rw [if_neg (by omega), hj2, if_neg (by simp), if_neg (fun h => one_or h1 _ h.1)]
    simp only [spec_l3Part.f]
    rw [some_s hl al hok (by omega), some_s ho ao hok (by omega)]
    simp only [Option.bind_some, spec_l3Part.j0]
    unfold leftP
    cases h1 : overB a n o <;> cases h2 : overB a n l <;> cases h3 : withB a n o <;> cases h4 : withB a n l <;> simp [hj1]
theorem without_s {l o : List S26} {k : Nat} (hl : l.length ≤ 9223372036854775807) (ho : o.length ≤ 9223372036854775807) (hk : 140 < k) : spec_NetWithout.f k l o = some (withoutP l o) := by
  unfold spec_NetWithout.f withoutP
  rw [l3ok_s hl (by omega)]
  simp only [Option.bind_some]
  cases h1 : okL l with
  | false => simp
  | true =>
    simp only [if_true, l3ok_s ho (show 60 < k by omega), Option.bind_some]
    cases h2 : okL o with
    | false => simp
    | true =>
      have e1 : l.length ≤ 40 := by unfold okL at h1; simp only [Bool.and_eq_true, decide_eq_true_eq] at h1; exact h1.1
      have e2 : o.length ≤ 40 := by unfold okL at h2; simp only [Bool.and_eq_true, decide_eq_true_eq] at h2; exact h2.1
      rw [part_s l o e1 e2 (okL_all h1) (okL_all h2) 16 0 0 k (by decide) root_ok (by omega)]
      simp
theorem without_len (l o : List S26) : (withoutP l o).length ≤ 65536 := by
  unfold withoutP
  split
  · exact leftP_len l o 16 0 0
  · simp
end Go.Proofs.Ytnakanjhdcakhaa.Pure
namespace Go.Proofs.Ytnakanjhdcakhaa.Pure
open Q Go.RowKit Go.Proofs.YtnakanjhdcakhaaW.PrintWords
set_option linter.unusedSimpArgs false
set_option linter.unusedVariables false
theorem shl_sz {n : Int} (h0 : 0 ≤ n) (h1 : n ≤ 16) : shl .i64 1 (wrap64 (16 - n)) = sz n := by
  rcases len_cases h0 h1 with rfl | rfl | rfl | rfl | rfl | rfl | rfl | rfl | rfl | rfl | rfl | rfl | rfl | rfl | rfl | rfl | rfl <;> decide +kernel
section
variable {l o w : List S26} (C2 : ∀ x, 0 ≤ x → x ≤ 65535 → inS l o x = true → anyB w x = true) (C3 : w.Pairwise fun u v => u.f0 + sz u.f1 ≤ v.f0)
include C2 C3
theorem top_gap {i : Nat} {next x : Int} (hA : ∀ j : Nat, j < i → j < w.length → (rd_T26 w (j : Int)).f0 + sz (rd_T26 w (j : Int)).f1 ≤ next) (h0 : 0 ≤ x) (h1 : x ≤ 65535) (hn : next ≤ x) (hx : ∀ (h : i < w.length), x < (rd_T26 w (i : Int)).f0) : inS l o x = false := by
  cases hq : inS l o x with
  | false => rfl
  | true =>
    obtain ⟨u, hu, hh⟩ := List.any_eq_true.1 (C2 x h0 h1 hq)
    obtain ⟨j, hj, rfl⟩ := List.getElem_of_mem hu
    rw [hasB_iff] at hh
    have ej := rd26_at w j hj
    rcases Nat.lt_or_ge j i with h | h
    · have := hA j h hj
      rw [ej] at this
      omega
    · have hi : i < w.length := by omega
      have := hx hi
      rw [rd26_at w i hi] at this
      rcases Nat.lt_or_ge i j with h2 | h2
      · have := List.pairwise_iff_getElem.1 C3 i j hi hj h2
        have := sz_pos w[i].f1
        omega
      · obtain rfl : i = j := by omega
        omega
end
section
variable {l o w : List S26} (hl : l.length ≤ 40) (ho : o.length ≤ 40) (al : allOk l) (ao : allOk o) (C2 : ∀ x, 0 ≤ x → x ≤ 65535 → inS l o x = true → anyB w x = true) (C3 : w.Pairwise fun u v => u.f0 + sz u.f1 ≤ v.f0)
include hl ho al ao C2 C3
theorem top_l3 (d : Nat) : ∀ (x : Int) (k : Nat), 0 ≤ x → x + d = 65536 → (∀ j : Nat, j < w.length → (rd_T26 w (j : Int)).f0 + sz (rd_T26 w (j : Int)).f1 ≤ x) → d + 70 ≤ k → laws_FnNetTop.l3 k l o x = some true := by
  induction d with
  | zero =>
    intro x k h0 hx hA hk
    obtain ⟨k, rfl⟩ : ∃ m, k = m + 1 := ⟨k - 1, by omega⟩
    simp only [laws_FnNetTop.l3]
    rw [if_neg (by omega)]
  | succ d ih =>
    intro x k h0 hx hA hk
    obtain ⟨k, rfl⟩ : ∃ m, k = m + 1 := ⟨k - 1, by omega⟩
    have hn := ih (x + 1) k (by omega) (by omega) (fun j hj => by have := hA j hj; omega) (by omega)
    have hg := top_gap C2 C3 (i := w.length) (next := x) (x := x) (fun j _ hj => hA j hj) h0 (by omega) (Int.le_refl _) (fun h => by omega)
    simp only [laws_FnNetTop.l3]
    rw [if_pos (by omega), wnHas_s (by omega) al x (by omega), wnHas_s (by omega) ao x (by omega), Option.bind_some, Option.bind_some, wrap_in (x := x + 1) (by omega) (by omega), hn]
    unfold inS at hg
    cases h1 : anyB l x <;> cases h2 : anyB o x <;> simp_all
end
section
variable {l o w : List S26} (hl : l.length ≤ 40) (ho : o.length ≤ 40) (al : allOk l) (ao : allOk o) (hw : w.length ≤ 65536) (C1 : ∀ u ∈ w, okB u.f0 u.f1 = true ∧ u.f0 + sz u.f1 ≤ 65536 ∧ ∀ x, hasB u.f0 u.f1 x = true → inS l o x = true)
include hl ho al ao hw C1
theorem top_l2 {i : Nat} (hi : i < w.length) {R : Nat} (hR : ∀ k, R ≤ k → laws_FnNetTop.l0 k l o w ((rd_T26 w (i : Int)).f0 + sz (rd_T26 w (i : Int)).f1) ((i : Int) + 1) = some true) (d : Nat) :
    ∀ (x : Int) (k : Nat), (rd_T26 w (i : Int)).f0 ≤ x → x + d = (rd_T26 w (i : Int)).f0 + sz (rd_T26 w (i : Int)).f1 → d + 70 + R ≤ k → laws_FnNetTop.l2 k l o w i (sz (rd_T26 w (i : Int)).f1) x = some true := by
  obtain ⟨c1, c2, c3⟩ := C1 _ (rd26_in (l := w) (i := (i : Int)) (by omega) (by omega))
  have c1' := okB_iff.1 c1
  have hz := sz_pos (rd_T26 w (i : Int)).f1
  induction d with
  | zero =>
    intro x k h0 hx hk
    obtain ⟨k, rfl⟩ : ∃ m, k = m + 1 := ⟨k - 1, by omega⟩
    simp only [laws_FnNetTop.l2]
    rw [if_pos (by omega), if_pos (by omega), wrap_in (x := (rd_T26 w (i : Int)).f0 + sz (rd_T26 w (i : Int)).f1) (by omega) (by omega), if_neg (by omega), wrap_in (x := (i : Int) + 1) (by omega) (by omega)]
    exact hR k (by omega)
  | succ d ih =>
    intro x k h0 hx hk
    obtain ⟨k, rfl⟩ : ∃ m, k = m + 1 := ⟨k - 1, by omega⟩
    have hn := ih (x + 1) k (by omega) (by omega) (by omega)
    have hg := c3 x (hasB_iff.2 ⟨h0, by omega⟩)
    simp only [laws_FnNetTop.l2]
    rw [if_pos (by omega), if_pos (by omega), wrap_in (x := (rd_T26 w (i : Int)).f0 + sz (rd_T26 w (i : Int)).f1) (by omega) (by omega), if_pos (by omega), wnHas_s (by omega) al x (by omega), wnHas_s (by omega) ao x (by omega), Option.bind_some, Option.bind_some, wrap_in (x := x + 1) (by omega) (by omega), hn]
    unfold inS at hg
    cases h1 : anyB l x <;> cases h2 : anyB o x <;> simp_all
end
section
variable {l o w : List S26} (hl : l.length ≤ 40) (ho : o.length ≤ 40) (al : allOk l) (ao : allOk o) (C1 : ∀ u ∈ w, okB u.f0 u.f1 = true ∧ u.f0 + sz u.f1 ≤ 65536 ∧ ∀ x, hasB u.f0 u.f1 x = true → inS l o x = true) (C2 : ∀ x, 0 ≤ x → x ≤ 65535 → inS l o x = true → anyB w x = true) (C3 : w.Pairwise fun u v => u.f0 + sz u.f1 ≤ v.f0)
include hl ho al ao C1 C2 C3
theorem top_l1 {i : Nat} (hi : i < w.length) {next : Int} (hA : ∀ j : Nat, j < i → j < w.length → (rd_T26 w (j : Int)).f0 + sz (rd_T26 w (j : Int)).f1 ≤ next) {R : Nat} (hR : ∀ k, R ≤ k → laws_FnNetTop.l2 k l o w i (sz (rd_T26 w (i : Int)).f1) (rd_T26 w (i : Int)).f0 = some true) (d : Nat) :
    ∀ (x : Int) (k : Nat), 0 ≤ x → next ≤ x → x + d = (rd_T26 w (i : Int)).f0 → d + 70 + R ≤ k → laws_FnNetTop.l1 k l o w i (sz (rd_T26 w (i : Int)).f1) x = some true := by
  obtain ⟨c1, c2, c3⟩ := C1 _ (rd26_in (l := w) (i := (i : Int)) (by omega) (by omega))
  have c1' := okB_iff.1 c1
  induction d with
  | zero =>
    intro x k h0 hnx hx hk
    obtain ⟨k, rfl⟩ : ∃ m, k = m + 1 := ⟨k - 1, by omega⟩
    simp only [laws_FnNetTop.l1]
    rw [if_pos (by omega), if_pos (by omega), if_neg (by omega)]
    exact hR k (by omega)
  | succ d ih =>
    intro x k h0 hnx hx hk
    obtain ⟨k, rfl⟩ : ∃ m, k = m + 1 := ⟨k - 1, by omega⟩
    have hn := ih (x + 1) k (by omega) (by omega) (by omega) (by omega)
    have hg := top_gap C2 C3 (i := i) (next := next) (x := x) hA h0 (by omega) hnx (fun h => by omega)
    simp only [laws_FnNetTop.l1]
    rw [if_pos (by omega), if_pos (by omega), if_pos (by omega), wnHas_s (by omega) al x (by omega), wnHas_s (by omega) ao x (by omega), Option.bind_some, Option.bind_some, wrap_in (x := x + 1) (by omega) (by omega), hn]
    unfold inS at hg
    cases h1 : anyB l x <;> cases h2 : anyB o x <;> simp_all
end
section
variable {l o w : List S26} (hl : l.length ≤ 40) (ho : o.length ≤ 40) (al : allOk l) (ao : allOk o) (hw : w.length ≤ 65536) (C1 : ∀ u ∈ w, okB u.f0 u.f1 = true ∧ u.f0 + sz u.f1 ≤ 65536 ∧ ∀ x, hasB u.f0 u.f1 x = true → inS l o x = true) (C2 : ∀ x, 0 ≤ x → x ≤ 65535 → inS l o x = true → anyB w x = true) (C3 : w.Pairwise fun u v => u.f0 + sz u.f1 ≤ v.f0) (C4 : ∀ u ∈ w, ∀ v ∈ w, ¬ (u.f1 = v.f1 ∧ u.f0 + sz u.f1 = v.f0 ∧ u.f0 % (2 * sz u.f1) = 0))
include hl ho al ao hw C1 C2 C3 C4
theorem top_l0 (d : Nat) : ∀ (i k : Nat) (next : Int), i + d = w.length → 0 ≤ next → next ≤ 65536 → (∀ j : Nat, j < i → j < w.length → (rd_T26 w (j : Int)).f0 + sz (rd_T26 w (j : Int)).f1 ≤ next) → (∀ h : i < w.length, next ≤ (rd_T26 w (i : Int)).f0) → (65536 - next).toNat + 200 * d + 100 ≤ k → laws_FnNetTop.l0 k l o w next i = some true := by
  induction d with
  | zero =>
    intro i k next hi h0 h1 hA hB hk
    obtain ⟨k, rfl⟩ : ∃ m, k = m + 1 := ⟨k - 1, by omega⟩
    simp only [laws_FnNetTop.l0]
    rw [if_neg (by omega)]
    exact top_l3 hl ho al ao C2 C3 (65536 - next).toNat next k h0 (by omega) (fun j hj => hA j (by omega) hj) (by omega)
  | succ d ih =>
    intro i k next hi h0 h1 hA hB hk
    obtain ⟨k, rfl⟩ : ∃ m, k = m + 3 := ⟨k - 3, by omega⟩
    have hiw : i < w.length := by omega
    have hmem := rd26_in (l := w) (i := (i : Int)) (by omega) (by omega)
    obtain ⟨c1, c2, c3⟩ := C1 _ hmem
    have c1' := okB_iff.1 c1
    have hz := sz_pos (rd_T26 w (i : Int)).f1
    have hzl := sz_le c1'.1
    have hB' := hB hiw
    have g0 : ∀ k, (65536 - ((rd_T26 w (i : Int)).f0 + sz (rd_T26 w (i : Int)).f1)).toNat + 200 * d + 100 ≤ k → laws_FnNetTop.l0 k l o w ((rd_T26 w (i : Int)).f0 + sz (rd_T26 w (i : Int)).f1) ((i : Int) + 1) = some true := by
      intro k hk
      refine ih (i + 1) k _ (by omega) (by omega) c2 (fun j hj hjw => ?_) (fun h => ?_) hk
      · rcases Nat.lt_or_ge j i with hji | hji
        · have := hA j hji hjw
          omega
        · obtain rfl : j = i := by omega
          exact Int.le_refl _
      · have := List.pairwise_iff_getElem.1 C3 i (i + 1) hiw h (by omega)
        have e1 := rd26_at w i hiw
        have e2 := rd26_at w (i + 1) h
        rw [e1, e2]
        exact this
    have g1 : ∀ k, ((65536 - ((rd_T26 w (i : Int)).f0 + sz (rd_T26 w (i : Int)).f1)).toNat + 200 * d + 100) + (sz (rd_T26 w (i : Int)).f1).toNat + 70 ≤ k → laws_FnNetTop.l2 k l o w i (sz (rd_T26 w (i : Int)).f1) (rd_T26 w (i : Int)).f0 = some true := fun k hk =>
      top_l2 hl ho al ao hw C1 hiw (R := (65536 - ((rd_T26 w (i : Int)).f0 + sz (rd_T26 w (i : Int)).f1)).toNat + 200 * d + 100) g0 (sz (rd_T26 w (i : Int)).f1).toNat _ k (Int.le_refl _) (by omega) (by omega)
    have g2 : laws_FnNetTop.l1 k l o w i (sz (rd_T26 w (i : Int)).f1) next = some true :=
      top_l1 hl ho al ao C1 C2 C3 hiw hA (R := ((65536 - ((rd_T26 w (i : Int)).f0 + sz (rd_T26 w (i : Int)).f1)).toNat + 200 * d + 100) + (sz (rd_T26 w (i : Int)).f1).toNat + 70) g1 ((rd_T26 w (i : Int)).f0 - next).toNat next k h0 (Int.le_refl _) (by omega) (by omega)
    have g3 : laws_FnNetTop.j3 (k + 1) l o w next i (sz (rd_T26 w (i : Int)).f1) false = some true := by
      simp only [laws_FnNetTop.j3, Bool.false_eq_true, if_false]
      exact g2
    simp only [laws_FnNetTop.l0]
    rw [if_pos (by omega), if_pos (by omega), ok_s (by omega), c1, Option.bind_some, if_pos rfl, decide_eq_false (by omega)]
    simp only [laws_FnNetTop.j2, Bool.false_eq_true, if_false]
    rw [shl_sz c1'.1 c1'.2.1, if_pos (by omega), if_pos (by omega), wrap_in (x := 16 - (rd_T26 w (i : Int)).f1) (by omega) (by omega), if_pos (by omega)]
    by_cases hi0 : (i : Int) > 0
    · obtain ⟨m, rfl⟩ : ∃ m, i = m + 1 := ⟨i - 1, by omega⟩
      have em : wrap64 (((m + 1 : Nat) : Int) - 1) = (m : Int) := by rw [wrap_in (by omega) (by omega)]; omega
      have hmm := rd26_in (l := w) (i := (m : Int)) (by omega) (by omega)
      obtain ⟨d1, d2, d3⟩ := C1 _ hmm
      have d1' := okB_iff.1 d1
      rw [if_pos hi0, em, if_pos (by omega), if_pos (by omega)]
      by_cases hq1 : (rd_T26 w (m : Int)).f1 = (rd_T26 w ((m + 1 : Nat) : Int)).f1
      · rw [if_pos hq1, wrap_in (x := (rd_T26 w (m : Int)).f0 + sz (rd_T26 w ((m + 1 : Nat) : Int)).f1) (by omega) (by omega)]
        by_cases hq2 : (rd_T26 w (m : Int)).f0 + sz (rd_T26 w ((m + 1 : Nat) : Int)).f1 = (rd_T26 w ((m + 1 : Nat) : Int)).f0
        · rw [if_pos hq2, wrap_in (x := 2 * sz (rd_T26 w ((m + 1 : Nat) : Int)).f1) (by omega) (by omega), if_neg (by omega)]
          have hs := C4 _ hmm _ hmem
          rw [hq1] at hs
          have hne : ¬ (rd_T26 w (m : Int)).f0 % (2 * sz (rd_T26 w ((m + 1 : Nat) : Int)).f1) = 0 := fun h => hs ⟨rfl, hq2, h⟩
          have ht : (Int.tmod (rd_T26 w (m : Int)).f0 (2 * sz (rd_T26 w ((m + 1 : Nat) : Int)).f1) == 0) = false := by
            rw [Int.tmod_eq_emod_of_nonneg d1'.2.2.1]
            simpa using hne
          rw [ht]
          exact g3
        · rw [if_neg hq2]
          exact g3
      · rw [if_neg hq1]
        exact g3
    · rw [if_neg hi0]
      exact g3
end
theorem FnNetTop (l0 : List Int) (hl : l0.length ≤ maxLen) (hb : ∀ x ∈ l0, 0 ≤ x ∧ x ≤ 255) : ∃ k, laws_FnNetTop.f k l0 = some true := by
  obtain ⟨k, hk⟩ : ∃ k, k = 20000000 := ⟨_, rfl⟩
  refine ⟨k + 1, ?_⟩
  unfold laws_FnNetTop.f
  by_cases hc : (l0.length : Int) > 1048576
  · rw [if_pos hc]
  · obtain ⟨r, s, e, hr, hs⟩ := drawWithout_s hb (k := k + 1) (by omega)
    have hwl := without_len r s
    rw [if_neg hc, e, Option.bind_some]
    simp only []
    rw [show impl_NetWithout.f r s = some (withoutP r s) from rfl, Option.bind_some, without_s (by omega) (by omega) (by omega), Option.bind_some, wnSame_s (by omega) (by omega), Option.bind_some, if_pos rfl, wnOk_s (by omega) (by omega), Option.bind_some, wnOk_s (by omega) (by omega), Option.bind_some]
    by_cases h1 : okL r = true
    · rw [if_pos h1]
      by_cases h2 : okL s = true
      · rw [h2]
        simp only [laws_FnNetTop.j0, Bool.not_true, Bool.false_eq_true, if_false]
        have ew : withoutP r s = canon (inS r s) 16 0 0 := by
          unfold withoutP
          rw [if_pos (by rw [h1, h2]; rfl), left_canon (okL_all h1) (okL_all h2) 16 0 0 (by decide) root_ok]
        have hin : ∀ x, 0 ≤ x → x ≤ 65535 → hasB 0 0 x = true := fun x a b => hasB_iff.2 ⟨a, by rw [sz0]; omega⟩
        refine top_l0 (by omega) (by omega) (okL_all h1) (okL_all h2) hwl ?_ ?_ ?_ ?_ (withoutP r s).length 0 k 0 (by omega) (by omega) (by omega) (fun j hj => by omega) (fun h => ?_) (by omega)
        · intro u hu
          rw [ew] at hu
          obtain ⟨q1, q2, q3, q4, q5⟩ := canon_in 16 0 0 (by decide) root_ok u hu
          rw [sz0] at q3
          exact ⟨q1, by omega, q5⟩
        · intro x hx0 hx1 hS
          rw [ew]
          exact canon_has 16 0 0 (by decide) root_ok x (hin x hx0 hx1) hS
        · rw [ew]
          exact canon_up 16 0 0 (by decide) root_ok
        · rw [ew]
          exact canon_sib 16 0 0 (by decide) root_ok
        · have hm := rd26_in (l := withoutP r s) (i := ((0 : Nat) : Int)) (by omega) (by omega)
          have : okB (rd_T26 (withoutP r s) ((0 : Nat) : Int)).f0 (rd_T26 (withoutP r s) ((0 : Nat) : Int)).f1 = true := by
            rw [ew] at hm ⊢
            exact (canon_in 16 0 0 (by decide) root_ok _ hm).1
          exact (okB_iff.1 this).2.2.1
      · have e2 : okL s = false := by simpa using h2
        rw [e2]
        simp only [laws_FnNetTop.j0, Bool.not_false, if_true]
        unfold withoutP
        rw [if_neg (by rw [e2]; simp)]
        rfl
    · rw [if_neg h1]
      have e1 : okL r = false := by simpa using h1
      simp only [laws_FnNetTop.j0, if_true]
      unfold withoutP
      rw [if_neg (by rw [e1]; simp)]
      rfl
end Go.Proofs.Ytnakanjhdcakhaa.Pure
