/- Lemmas for FnNetCover, part 3 of 4: the program's functions as Lean functions, what each Go function comes to, and plain lemmas on them. No statement of its own. -/
import Derived.Test.YtnakanjhdcakhaaC1xFnNetCover
import Derived.Test.YtnakanjhdcakhaaC2xFnNetCover
namespace Go.Proofs.Ytnakanjhdcakhaa.Q
open Go.RowKit Go.Proofs.YtnakanjhdcakhaaW.PrintWords Go.Proofs.YtnakanjhdcakhaaW.PrintLast Go.Proofs.YtnakanjhdcakhaaW.PrintMore
attribute [local go_sem] max2_int min2_int max_two min_two max_three min_three max_four min_four   -- for this text's walks alone
set_option linter.unusedVariables false
set_option linter.unusedSimpArgs false
theorem spec_l5List.grown117 {w0 W W0 : World} {g : Nat} {f0 : List Int} {f1 : Int} {W1 : World} {row : Option Nat} (_ : IsS117 w0 W0 g f0 f1) (h : IsS117 w0 W g f0 f1) (hw : W.grownBy W1 row) (hne : some g ≠ row) : IsS117 w0 W1 g f0 f1 := IsS117.grown h hw hne
theorem spec_l5List.zHK {P : Prop} (h : P := by repeat (first | (with_reducible first | exact HK.out | apply KeepBut.set_ | apply keep_drewN | apply keep_drew | apply keep_alloc | refine keep_far ?_ GW109.out _ | refine keep_far ?_ GW115.out _ | refine keep_far ?_ GW123.out _ | refine keep_far ?_ GW124.out _ | refine keep_far ?_ GW141.out _ | refine keep_far ?_ GW142.out _) | exact HK.out)) : P := h
theorem spec_l5List.zHI0 {P : Prop} (h : P := by repeat (first | (with_reducible first | exact HI0.out | apply IsS117.alloc | apply IsS117.drewN | apply IsS117.drew | apply IsS117.set_1 | refine IsS117.far ?_ NB0_109.out _ | refine IsS117.far ?_ NB0_115.out _ | refine IsS117.far ?_ NB0_123.out _ | refine IsS117.far ?_ NB0_124.out _ | refine IsS117.far ?_ NB0_141.out _ | refine IsS117.far ?_ NB0_142.out _) | exact HI0.out)) : P := h
theorem spec_l5List.zHB {P : Prop} (h : P := by repeat (first | (with_reducible first | exact HB.out | apply below_alloc | apply pw_below_drewN | apply below_drew1 | refine below_set ?_ (IsS117.ge HI0.out) | refine below_set ?_ GE109.out | refine below_set ?_ GE115.out | refine below_set ?_ GE123.out | refine below_set ?_ GE124.out | refine below_set ?_ GE141.out | refine below_set ?_ GE142.out) | exact HB.out)) : P := h
theorem spec_l5List.zb {P Q : Prop} (x : Q) (h : Q → P := by intro x_; (with_reducible repeat (first | refine blk_drewN ?_ _ | refine blk_drew ?_ | refine blk_alloc ?_ _)); exact x_) : P := h x
theorem spec_l5List.zr {P Q : Prop} (x : Q) (h : Q → P := by intro x_; (with_reducible repeat (first | apply Kd.R_alloc | apply Kd.R_drewN | apply Kd.R_drew)); exact x_) : P := h x
theorem spec_l5List.zq {P Q : Prop} (x : Q) (h : Q → P := by intro x_; (with_reducible repeat (first | refine blk_drewN ?_ _ | refine blk_drew ?_ | refine blk_alloc ?_ _)); exact x_) : P := h x
theorem spec_l5List.zk {P Q : Prop} (x : Q) (h : Q → P := by intro x_; (with_reducible repeat (first | apply Kd.R_alloc | apply Kd.R_drewN | apply Kd.R_drew)); exact x_) : P := h x
def spec_l5List.zl (n k : Nat) : Array Bool := ((List.range n).map fun i => k.testBit i).toArray
theorem spec_l5List.y1 {P : Prop} (h : P := by refine zk ?_; exact (Kd.R_mono (Kd.R_far (p := ⟨gb115, 1, none⟩) (Kd.R_far (p := ⟨gb115, 0, none⟩) (Kd.R_mono HO_5.out (fun k_ hk => (⟨hk, hk.2⟩ : _ ∧ k_ ≠ gb115))) (fun _ hk => hk.2) (.int .i64 ((rd_T26 x5_1 t112).f0))) (fun _ hk => hk.2) (.int .i64 ((rd_T26 x5_1 t112).f1))) (fun _ h_ => h_.1))) : P := h
theorem spec_l5List.y2 {P : Prop} (h : P := by first | (simp only [putAll, Act.put, List.setIfInBounds_toArray, List.set_cons_zero, List.set_cons_succ]; done) | (simp only [putAll, Act.put, List.setIfInBounds_toArray, List.set_cons_zero, List.set_cons_succ]; rfl)) : P := h
theorem spec_l5List.y3 {P : Prop} (h : P := by refine zq ?_; refine blk_put (cs := #[.int .i64 ((rd_T26 x5_1 t112).f0), .int .i64 0]) ?_ 1 _ rfl; refine zq ?_; refine blk_put (cs := #[.int .i64 0, .int .i64 0]) ?_ 0 _ rfl; refine zq ?_; exact BK115.out) : P := h
theorem spec_l5List.y4 {P : Prop} (h : P := by rw [hg]; exact Nat.ne_of_lt (blk_lt (g := gb115) (o := .cells #[.int .i64 ((rd_T26 x5_1 t112).f0), .int .i64 ((rd_T26 x5_1 t112).f1)] 26 (0, 0)) (zb BK115.out))) : P := h
theorem spec_l5List.y5 {P : Prop} (h : P := by rw [hg]; exact Nat.ne_of_gt (blk_lt (g := gb115) (o := .cells #[.int .i64 ((rd_T26 x5_1 t112).f0), .int .i64 ((rd_T26 x5_1 t112).f1)] 26 (0, 0)) (zb BK115.out))) : P := h
theorem spec_l5List.y6 {P : Prop} (h : P := by rw [hg]; exact Nat.ne_of_lt (blk_lt (g := gb115) (o := .cells #[.int .i64 ((rd_T26 x5_1 t112).f0), .int .i64 ((rd_T26 x5_1 t112).f1)] 26 (0, 0)) (zb BK115.out))) : P := h
theorem spec_l5List.y7 {P : Prop} (h : P := by rw [hg]; exact Nat.ne_of_gt (blk_lt (g := gb115) (o := .cells #[.int .i64 ((rd_T26 x5_1 t112).f0), .int .i64 ((rd_T26 x5_1 t112).f1)] 26 (0, 0)) (zb BK115.out))) : P := h
theorem spec_l5List.y8 {P : Prop} (h : P := by (try simp only [List.map_toArray, List.map_cons, List.map_nil]); first | done | rfl | (simp only [List.length_drop, List.length_take]; rfl)) : P := h
theorem spec_l5List.y9 {P : Prop} (h : P := by rw [hg]; exact Nat.ne_of_lt (blk_lt (g := gb109) (o := .cells #[.int .i64 t106, .int .i64 t107] 26 (0, 0)) (zb BK109.out))) : P := h
theorem spec_l5List.y10 {P : Prop} (h : P := by rw [hg]; exact Nat.ne_of_gt (blk_lt (g := gb109) (o := .cells #[.int .i64 t106, .int .i64 t107] 26 (0, 0)) (zb BK109.out))) : P := h
theorem spec_l5List.y11 {P : Prop} (h : P := by rw [hg]; exact Nat.ne_of_lt (blk_lt (g := gb109) (o := .cells #[.int .i64 t106, .int .i64 t107] 26 (0, 0)) (zb BK109.out))) : P := h
theorem spec_l5List.y12 {P : Prop} (h : P := by rw [hg]; exact Nat.ne_of_gt (blk_lt (g := gb109) (o := .cells #[.int .i64 t106, .int .i64 t107] 26 (0, 0)) (zb BK109.out))) : P := h
theorem spec_l5List.y13 {P : Prop} (h : P := by rw [hg]; exact Nat.ne_of_lt (blk_lt (g := gb109) (o := .cells #[.int .i64 t106, .int .i64 t107] 26 (0, 0)) (zb BK109.out))) : P := h
theorem spec_l5List.y14 {P : Prop} (h : P := by rw [hg]; exact Nat.ne_of_gt (blk_lt (g := gb109) (o := .cells #[.int .i64 t106, .int .i64 t107] 26 (0, 0)) (zb BK109.out))) : P := h
theorem spec_l5List.y15 {P : Prop} (h : P := by rw [hg]; exact Nat.ne_of_lt (blk_lt (g := gb124) (o := .cells #[.int .i64 0, .int .i64 0] 26 (0, 0)) (zb BK124.out))) : P := h
theorem spec_l5List.y16 {P : Prop} (h : P := by rw [hg]; exact Nat.ne_of_gt (blk_lt (g := gb124) (o := .cells #[.int .i64 0, .int .i64 0] 26 (0, 0)) (zb BK124.out))) : P := h
theorem spec_l5List.y17 {P : Prop} (h : P := by rw [hg]; exact Nat.ne_of_lt (blk_lt (g := gb123) (o := .cells #[.int .i64 0, .int .i64 0] 26 (0, 0)) (zb BK123.out))) : P := h
theorem spec_l5List.y18 {P : Prop} (h : P := by rw [hg]; exact Nat.ne_of_gt (blk_lt (g := gb123) (o := .cells #[.int .i64 0, .int .i64 0] 26 (0, 0)) (zb BK123.out))) : P := h
theorem spec_l5List.y19 {P : Prop} (h : P := by refine zq ?_; refine blk_far ?_ NB109_115.out _; refine zq ?_; refine blk_far ?_ NB109_115.out _; refine zq ?_; exact BK109.out) : P := h
theorem spec_l5List.y20 {P : Prop} (h : P := by refine zq ?_; refine blk_far ?_ NB115_109.out _; refine zq ?_; refine blk_far ?_ NB115_109.out _; refine zq ?_; exact BK115.out) : P := h
theorem spec_l5List.y21 {P : Prop} (h : P := by refine zk ?_; exact Kd.R_mono HO_5.out (fun _ hk => ⟨hk.2, ⟨hk.1.1, ⟨hk.1.2.1, ⟨hk.1.2.2.1, hk.1.2.2.2⟩⟩⟩⟩)) : P := h
theorem spec_l5List.y22 {P : Prop} (h : P := by simp only [putAll, Act.put, List.setIfInBounds_toArray, List.set_cons_zero, List.set_cons_succ]) : P := h
theorem spec_l5List.y23 {P : Prop} (h : P := by rw [hg]; exact Nat.ne_of_lt (IsS117.lt (show IsS117 w0 _ g s0_0 t113 from zHI0))) : P := h
theorem spec_l5List.y24 {P : Prop} (h : P := by rw [hg]; exact Nat.ne_of_gt (IsS117.lt (show IsS117 w0 _ g s0_0 t113 from zHI0))) : P := h
theorem spec_l5List.y25 {P : Prop} (h : P := by rw [hg]; exact Nat.ne_of_lt (IsS117.lt (show IsS117 w0 _ g s0_0 t117 from zHI0))) : P := h
theorem spec_l5List.y26 {P : Prop} (h : P := by rw [hg]; exact Nat.ne_of_gt (IsS117.lt (show IsS117 w0 _ g s0_0 t117 from zHI0))) : P := h
theorem spec_l5List.y27 {P : Prop} (h : P := by rw [hg]; exact Nat.ne_of_lt (IsS117.lt (show IsS117 w0 _ g s0_0 t117 from zHI0))) : P := h
theorem spec_l5List.y28 {P : Prop} (h : P := by rw [hg]; exact Nat.ne_of_gt (IsS117.lt (show IsS117 w0 _ g s0_0 t117 from zHI0))) : P := h
theorem spec_l5List.y29 {P : Prop} (h : P := by refine zk ?_; exact Kd.R_mono HO_5.out (fun _ hk => ⟨hk.1.1, ⟨hk.1.2.1, ⟨hk.2, hk.1.2.2⟩⟩⟩)) : P := h
theorem spec_l5List.y30 {P : Prop} (h : P := by refine zk ?_; exact Kd.R_mono HO_5.out (fun _ hk => ⟨hk.1.1, ⟨hk.1.2.1, ⟨hk.1.2.2, hk.2⟩⟩⟩)) : P := h
theorem spec_l5List.y31 {P : Prop} (h : P := by rw [hg]; exact (keep_size (w := w) (g := g) (row := none) (zHK))) : P := h
theorem spec_l5List.y32 {P : Prop} (h : P := by rw [hg]; exact (keep_size (w := w) (g := g) (row := none) (zHK))) : P := h
theorem spec_l5List.y33 {P : Prop} (h : P := by rw [hg]; exact (keep_size (w := w) (g := g) (row := none) (zHK))) : P := h
theorem spec_l5List.y34 {P : Prop} (h : P := by refine zk ?_; exact Kd.R_mono HO_5.out (fun _ hk => ⟨hk.1.1, ⟨hk.1.2, hk.2⟩⟩)) : P := h
theorem spec_l5List.y35 {P : Prop} (h : P := by first | (with_reducible assumption) | assumption) : P := h
theorem spec_l5List.y36 {P : Prop} (h : P := by first | rfl | (simp; done) | (simp [*]; done)) : P := h
theorem spec_l5List.zA {p : Prop} (h : p) : Aside0 p := ⟨h⟩
set_option maxHeartbeats 8000000 in
set_option maxRecDepth 100000 in
theorem spec_l5List.calls (k : Nat) (g : Nat) (s0_0 : List Int) (s0_1 : Int) (a1 : Int) (r1 : List (S26)) (r2 : Int) (w0 w : World) (hI : IsS117 w0 w g s0_0 s0_1) (hB : Below w0.heap.size w0 w) (h : spec_l5List.f k s0_0 s0_1 a1 = some (r1, r2)) :
  Calls Try.prog 101 #[.pointer (some ⟨g, 0, none⟩), .int .i64 a1] w fun e w' => ∃ v0_ : Value, e = .returned (v0_) ∧ Kd.R k26 26 w' w.heap.size (fun _ => True) v0_ r1 ∧ IsS117 w0 w' g s0_0 r2 ∧ Below w0.heap.size w0 w' ∧ KeepBut w w' g none := by
 have hu26 := Try.underlying26
 have HI0 := zA hI
 have HK := zA (KeepBut.refl w g none)
 have HL := zA hB.size
 clear hI
 have HW0 := zA hB.size
 have HB := zA hB
 clear hB
 have H : ((spec_l1Rd_pick.f k s0_0 s0_1 a1).bind fun bt104 => (spec_l5List.l0 k (([] : List (S26))) bt104.1 s0_0 bt104.2)) = some (r1, r2) := h
 clear h
 obtain ⟨y101, hy101⟩ : ∃ y_ : List (S26), y_ = (([] : List (S26))) := ⟨_, rfl⟩
 replace H : ((spec_l1Rd_pick.f k s0_0 s0_1 a1).bind fun bt104 => (spec_l5List.l0 k y101 bt104.1 s0_0 bt104.2)) = some (r1, r2) := by first | (rw [hy101]; with_reducible exact H) | (have H2_ := (Option.bind_some _ _).symm.trans H; rw [hy101]; with_reducible exact H2_) | (have H2_ := (Option.bind_some _ _).symm.trans H; with_reducible exact H2_) | with_reducible exact H | (rw [hy101]; exact H) | exact H
 have Ny101 := zA hy101
 clear hy101
 replace H := Option.bind_eq_some_iff.mp H
 obtain ⟨⟨t104, t105⟩, A30, H⟩ := H
 replace H : (spec_l5List.l0 k y101 t104 s0_0 t105) = some (r1, r2) := H
 have A3 := zA A30
 clear A30
 have H' := zA H
 clear H
 go_enter Try.func101, Try.ntmps101
 go_wp2_with (first | ((with_reducible refine gate_dst (N := 13) rfl ?_); (try (refine gate_guard (by rfl) ?_; dsimp only)); refine Kd.R_lit k26 _ 26 ?hg (N := 13) ?hd (xs := ([] : List (S26))) (inner := []) (ok := fun _ => True) (okp := fun _ => True) ?hr ?hp (fun _ hk => hk) trivial (Below.refl _ _) (Nat.le_refl _) (by simp) ?_; (case hd => rfl); (case hg => rfl); (case hr => first | (go_simp; done) | (go_simp; rfl)); (case hp => exact (Reps.none _ _)); intro v102 w4 ho5 hb hg_ hnew_; clear hg_ hnew_; (first | rw [← Ny101.out] at ho5 | (simp only [Int.reduceToNat] at ho5; rw [← Ny101.out] at ho5)); have n0_ := zA (Kd.R_lower ho5 (keep_size (w := w) (g := g) (row := none) (zHK))); have n1_ := zA (IsS117.below (zHI0) hb); have n2_ := zA (KeepBut.trans (zHK) (KeepBut.of_below hb g none) (.inl rfl)); have n3_ := zA (below_step (zHB) hb); clear HI0; clear HK; clear HB; have HO103 := n0_; have HI0 := n1_; have HK := n2_; have HB := n3_; clear n0_ n1_ n2_ n3_; clear hb ho5) | ((with_reducible refine gate_callee (f := 81) rfl ?_); refine goesL_ (some 16) rfl rfl Try.func81 (by kernel_rfl) rfl #[.pointer (some ⟨g, 0, none⟩), .int .i64 a1] rfl y8  ?_; (with_reducible refine (spec_l1Rd_pick.calls k g s0_0 s0_1 a1 t104 t105 w0 _ ?side1 ?side2 A3.out).mono ?_); (case side1 => exact zHI0); (case side2 => exact zHB); rintro e w6 ⟨rfl, hi, hb, hk⟩; refine ⟨_, rfl, ?_⟩; have n0_ := zA (Kd.R_mono (Kd.R_keep (IsS117.apart (show IsS117 w0 _ g s0_0 s0_1 from zHI0) (zr HO103.out) (by decide)) hk (fun _ h => h.2)) (fun _ h => h.1)); have n1_ := zA (KeepBut.trans (zHK) hk (.inl rfl)); have n2_ := zA (hb); have n3_ := zA (hi); clear HO103; clear HK; clear HB; clear HI0; have HO103 := n0_; have HK := n1_; have HB := n2_; have HI0 := n3_; clear n0_ n1_ n2_ n3_; (try clear hb); (try clear hb2); (try clear hk); (try clear hi)))
 go_loopg [5, 6] k (fun kq v5 v6 w' => ∃ (x5_1 : List (S26)) (x6_1 : Int) (x1001_1 : Int), v6 = .int .i64 x6_1 ∧ Aside0 (spec_l5List.l0 kq x5_1 x6_1 s0_0 x1001_1 = some (r1, r2)) ∧ Aside0 (kq ≤ k) ∧ Aside0 (Kd.R k26 26 w' w.heap.size (fun _ => True) v5 x5_1) ∧ Aside0 (IsS117 w0 w' g s0_0 x1001_1) ∧ Aside0 (KeepBut w w' g none) ∧ Aside0 (Below w0.heap.size w0 w'))
 case atStart => exact ⟨(y101), (t104), (t105), y36 , H', ⟨Nat.le_refl _⟩, ⟨by refine zk ?_; exact HO103.out⟩, ⟨zHI0⟩, ⟨zHK⟩, ⟨zHB⟩⟩
 case round =>
  clear H'
  try clear c1
  try clear p2
  obtain ⟨x5_1, x6_1, x1001_1, rfl, HA, HK1, HO_5, HI0, HK, HB⟩ := hrel
  cases gk with
  | zero => exact absurd HA.out (by simp [spec_l5List.l0])
  | succ k1 => ?_
  have H := HA.out
  clear HA
  simp only [spec_l5List.l0] at H
  by_cases c7 : x6_1 > 0
  ·rw [if_pos c7] at H
   have c7b0 : decide (0 < x6_1) = true := decide_eq_true c7
   clear c7
   replace H := Option.bind_eq_some_iff.mp H
   obtain ⟨⟨t106, t107, t108⟩, A80, H⟩ := H
   replace H : (if (x5_1.length : Int) > 0 then ((spec_l1Rd_pick.f k1 s0_0 t108 2).bind fun bt110 => (spec_l5List.j1 k1 x5_1 x6_1 (bt110.1 == 0) s0_0 bt110.2 t106 t107)) else (spec_l5List.j1 k1 x5_1 x6_1 false s0_0 t108 t106 t107)) = some (r1, r2) := H
   have A8 := zA A80
   clear A80
   have HC9 := zA H
   clear H
   go_upto_region 6 with (first | ((with_reducible refine gate_callee (f := 121) rfl ?_); refine goesL_ (some 22) rfl rfl Try.func121 (by kernel_rfl) rfl #[.pointer (some ⟨g, 0, none⟩)] rfl y8  ?_; (with_reducible refine (spec_l5Prefix.calls k1 g s0_0 x1001_1 t106 t107 t108 w0 _ ?side1 ?side2 A8.out).mono ?_); (case side1 => exact zHI0); (case side2 => exact zHB); rintro e w10 ⟨rfl, hi, hb, hk⟩; refine ⟨_, rfl, ?_⟩; have n0_ := zA (Kd.R_mono (Kd.R_keep (IsS117.apart (show IsS117 w0 _ g s0_0 x1001_1 from zHI0) (zr HO_5.out) (by decide)) hk (fun _ h => h.2)) (fun _ h => h.1)); have n1_ := zA (KeepBut.trans (zHK) hk (.inl rfl)); have n2_ := zA (hb); have n3_ := zA (hi); clear HO_5; clear HK; clear HB; clear HI0; have HO_5 := n0_; have HK := n1_; have HB := n2_; have HI0 := n3_; clear n0_ n1_ n2_ n3_; (try clear hb); (try clear hb2); (try clear hk); (try clear hi)) | ((with_reducible refine gate_dst (N := 7) rfl ?_); (try (refine gate_guard (by rfl) ?_; dsimp only)); refine box_event ?hg (N := 7) ?hd (cs := #[.int .i64 0, .int .i64 0]) (t := 26) ?hr ?_; (case hd => rfl); (case hg => rfl); (case hr => first | (go_simp; done) | (go_simp; rfl)); intro gb109 hg w11 hbox hb; have n0_ := zA (Kd.R_below (Kd.R_elderB (zr HO_5.out) gb109 (Nat.le_of_eq hg.symm)) hb); have n1_ := zA (IsS117.below (zHI0) hb); have n2_ := zA (KeepBut.trans (zHK) (KeepBut.of_below hb g none) (.inl rfl)); have n3_ := zA (below_step (zHB) hb); have n4_ := zA (hbox); have n5_ := zA ((by rw [hg]; exact (keep_size (w := w) (g := g) (row := none) (zHK)) : w.heap.size ≤ gb109)); have n6_ := zA ((Nat.le_trans HW0.out (by rw [hg]; exact (keep_size (w := w) (g := g) (row := none) (zHK)) : w.heap.size ≤ gb109) : w0.heap.size ≤ gb109)); have n7_ := zA ((by rw [hg]; exact Nat.ne_of_lt (IsS117.lt (show IsS117 w0 _ g s0_0 t108 from zHI0)) : g ≠ gb109)); have n8_ := zA ((by rw [hg]; exact Nat.ne_of_gt (IsS117.lt (show IsS117 w0 _ g s0_0 t108 from zHI0)) : gb109 ≠ g)); clear HO_5; clear HI0; clear HK; clear HB; have HO_5 := n0_; have HI0 := n1_; have HK := n2_; have HB := n3_; have BK109 := n4_; have GW109 := n5_; have GE109 := n6_; have NB0_109 := n7_; have NB109_0 := n8_; clear n0_ n1_ n2_ n3_ n4_ n5_ n6_ n7_ n8_; clear hb hbox hg; have hnb12 := NB109_0.out; have hnc12 := NB0_109.out; have hcz13_0 : w11.cell? ⟨gb109, 0, none⟩ = some (.int .i64 0) := (blk_cell BK109.out 0).trans rfl; have hcz13_1 : w11.cell? ⟨gb109, 1, none⟩ = some (.int .i64 0) := (blk_cell BK109.out 1).trans rfl; have hfz13_0 := blk_frozen BK109.out 0; have hfz13_1 := blk_frozen BK109.out 1))
   (try simp only [Act.put, List.setIfInBounds_toArray, List.set_cons_zero, List.set_cons_succ])
   go_cut [30] (fun v30 wc => ∃ (kq : Nat) (x30_8 : Bool) (x1001_8 : Int), v30 = .bool x30_8 ∧ Aside0 (spec_l5List.j1 kq x5_1 x6_1 x30_8 s0_0 x1001_8 t106 t107 = some (r1, r2)) ∧ Aside0 (kq ≤ k1) ∧ Aside0 (Kd.R k26 26 wc w.heap.size (fun k_ => k_ ≠ gb109) u5 x5_1) ∧ Aside0 (wc.heap[gb109]? = some (.cells #[.int .i64 t106, .int .i64 t107] 26 (0, 0))) ∧ Aside0 (IsS117 w0 wc g s0_0 x1001_8) ∧ Aside0 (KeepBut w wc g none) ∧ Aside0 (Below w0.heap.size w0 wc))
   case first =>
    have H := HC9.out
    clear HC9
    by_cases c14 : (x5_1.length : Int) > 0
    ·rw [if_pos c14] at H
     have c14b0 : decide (0 < (x5_1.length : Int)) = true := decide_eq_true c14
     have c14b1 : decide (0 < x5_1.length) = true := decide_eq_true (by omega)
     clear c14
     (first | rw [c14b0] | (simp only [i64_w, i32_w]; rw [c14b0]) | skip)
     replace H := Option.bind_eq_some_iff.mp H
     obtain ⟨⟨t110, t111⟩, A150, H⟩ := H
     replace H : (spec_l5List.j1 k1 x5_1 x6_1 (t110 == 0) s0_0 t111 t106 t107) = some (r1, r2) := H
     have A15 := zA A150
     clear A150
     have H' := zA H
     clear H
     obtain ⟨Ao16, co16, eo16⟩ := Kd.R_slice HO_5.out
     subst eo16
     go_wp2_with (first | (go_at_call 81; (with_reducible refine (spec_l1Rd_pick.calls k1 g s0_0 t108 2 t110 t111 w0 _ ?side1 ?side2 A15.out).mono ?_); (case side1 => exact zHI0); (case side2 => exact zHB); rintro e w17 ⟨rfl, hi, hb, hk⟩; have n0_ := zA (Kd.R_mono (Kd.R_keep (IsS117.apart (show IsS117 w0 _ g s0_0 t108 from zHI0) (by refine zk ?_; exact (Kd.R_mono (Kd.R_far (p := ⟨gb109, 1, none⟩) (Kd.R_far (p := ⟨gb109, 0, none⟩) (Kd.R_mono HO_5.out (fun k_ hk => (⟨hk, hk.2⟩ : _ ∧ k_ ≠ gb109))) (fun _ hk => hk.2) (.int .i64 t106)) (fun _ hk => hk.2) (.int .i64 t107)) (fun _ h_ => h_.1))) (by decide)) hk (fun _ h => h.2)) (fun _ h => h.1)); have n1_ := zA (KeepBut.blk hk (g' := gb109) (o := .cells #[.int .i64 t106, .int .i64 t107] 26 (0, 0)) (by refine zq ?_; refine blk_put (cs := #[.int .i64 t106, .int .i64 0]) ?_ 1 _ rfl; refine zq ?_; refine blk_put (cs := #[.int .i64 0, .int .i64 0]) ?_ 0 _ rfl; refine zq ?_; exact BK109.out) NB109_0.out (by simp)); have n2_ := zA (KeepBut.trans (zHK) hk (.inl rfl)); have n3_ := zA (hb); have n4_ := zA (hi); clear HO_5; clear BK109; clear HK; clear HB; clear HI0; have HO_5 := n0_; have BK109 := n1_; have HK := n2_; have HB := n3_; have HI0 := n4_; clear n0_ n1_ n2_ n3_ n4_; (try clear hb); (try clear hb2); (try clear hk); (try clear hi)))
     go_meet
     case rel => exact ⟨_, ((t110 == 0)), (t111), y36 , H', ⟨by have := HK1.out; first | omega | exact Nat.le_refl _⟩, ⟨by refine zk ?_; exact Kd.R_mono HO_5.out (fun _ hk => hk.2)⟩, ⟨by refine zq ?_; exact BK109.out⟩, ⟨zHI0⟩, ⟨zHK⟩, ⟨zHB⟩⟩
    rw [if_neg c14] at H
    have c14b0 : decide (0 < (x5_1.length : Int)) = false := decide_eq_false c14
    have c14b1 : decide (0 < x5_1.length) = false := decide_eq_false (by omega)
    clear c14
    (first | rw [c14b0] | (simp only [i64_w, i32_w]; rw [c14b0]) | skip)
    have H' := zA H
    clear H
    obtain ⟨Ao18, co18, eo18⟩ := Kd.R_slice HO_5.out
    subst eo18
    go_wp2
    go_meet
    case rel => exact ⟨_, (false), (t108), y36 , H', ⟨by have := HK1.out; first | omega | exact Nat.le_refl _⟩, ⟨by refine zk ?_; exact Kd.R_mono (Kd.R_far (p := ⟨gb109, 1, none⟩) (Kd.R_far (p := ⟨gb109, 0, none⟩) (Kd.R_mono HO_5.out (fun k_ hk => (⟨hk, hk.2⟩ : _ ∧ k_ ≠ gb109))) (fun _ hk => hk.2) (.int .i64 t106)) (fun _ hk => hk.2) (.int .i64 t107)) (fun _ hk => hk.1.2)⟩, ⟨by refine zq ?_; refine blk_put (cs := #[.int .i64 t106, .int .i64 0]) ?_ 1 _ rfl; refine zq ?_; refine blk_put (cs := #[.int .i64 0, .int .i64 0]) ?_ 0 _ rfl; refine zq ?_; exact BK109.out⟩, ⟨zHI0⟩, ⟨zHK⟩, ⟨zHB⟩⟩
   case rest =>
    clear HC9
    try clear c1
    try clear p2
    try clear c7
    try clear c7b0
    try clear c8
    try clear c10
    try clear c12
    try clear c14
    try clear c14b0
    try clear c14b1
    try clear hcz13_0
    try clear hcz13_1
    try clear hfz13_0
    try clear hfz13_1
    try clear p2
    obtain ⟨kq, x30_8, x1001_8, rfl, HA, HJ8, HO_5, BK109, HI0, HK, HB⟩ := hcut
    cases kq with
    | zero => exact absurd HA.out (by simp [spec_l5List.j1])
    | succ kj8 => ?_
    have H := HA.out
    clear HA
    simp only [spec_l5List.j1] at H
    by_cases c19 : x30_8 = true
    ·subst c19
     have H1 : ((spec_l1Rd_pick.f kj8 s0_0 x1001_8 (x5_1.length : Int)).bind fun bt112 => (if 0 ≤ bt112.1 then (if bt112.1 < (x5_1.length : Int) then ((spec_l1Rd_pick.f kj8 s0_0 bt112.2 3).bind fun bt116 => (if bt116.1 = 0 then (if ((rd_T26 x5_1 bt112.1).f1) > 0 then ((spec_l1Size.f kj8 (wrap64 (((rd_T26 x5_1 bt112.1).f1) - 1))).bind fun t118 => (if t118 = 0 then (none) else ((spec_l1Halves.f kj8 (wrap64 (((rd_T26 x5_1 bt112.1).f0) - (Int.tmod ((rd_T26 x5_1 bt112.1).f0) t118))) (wrap64 (((rd_T26 x5_1 bt112.1).f1) - 1))).bind fun bt119 => ((some (([(⟨bt119.1, bt119.2.1⟩ : S26), (⟨bt119.2.2.1, bt119.2.2.2⟩ : S26)] : List (S26)) : List (S26))).bind fun y125 => ((spec_l1Rd_pick.f kj8 s0_0 bt116.2 2).bind fun bt128 => (if 0 ≤ bt128.1 then (if bt128.1 < (y125.length : Int) then (if x5_1.length < 8796093022208 then (spec_l5List.l0 kj8 (x5_1 ++ [(⟨(rd_T26 y125 bt128.1).f0, (rd_T26 y125 bt128.1).f1⟩ : S26)]) (wrap64 (x6_1 - 1)) s0_0 bt128.2) else (none)) else (none)) else (none))))))) else (if x5_1.length < 8796093022208 then (spec_l5List.l0 kj8 (x5_1 ++ [(⟨t106, t107⟩ : S26)]) (wrap64 (x6_1 - 1)) s0_0 bt116.2) else (none))) else (if bt116.1 = 1 then (if ((rd_T26 x5_1 bt112.1).f1) < 16 then ((spec_l1Halves.f kj8 ((rd_T26 x5_1 bt112.1).f0) ((rd_T26 x5_1 bt112.1).f1)).bind fun bt137 => ((some (([(⟨bt137.1, bt137.2.1⟩ : S26), (⟨bt137.2.2.1, bt137.2.2.2⟩ : S26)] : List (S26)) : List (S26))).bind fun y143 => ((spec_l1Rd_pick.f kj8 s0_0 bt116.2 2).bind fun bt146 => (if 0 ≤ bt146.1 then (if bt146.1 < (y143.length : Int) then (if x5_1.length < 8796093022208 then (spec_l5List.l0 kj8 (x5_1 ++ [(⟨(rd_T26 y143 bt146.1).f0, (rd_T26 y143 bt146.1).f1⟩ : S26)]) (wrap64 (x6_1 - 1)) s0_0 bt146.2) else (none)) else (none)) else (none))))) else (if x5_1.length < 8796093022208 then (spec_l5List.l0 kj8 (x5_1 ++ [(⟨t106, t107⟩ : S26)]) (wrap64 (x6_1 - 1)) s0_0 bt116.2) else (none))) else (if x5_1.length < 8796093022208 then (spec_l5List.l0 kj8 (x5_1 ++ [(⟨(rd_T26 x5_1 bt112.1).f0, (rd_T26 x5_1 bt112.1).f1⟩ : S26)]) (wrap64 (x6_1 - 1)) s0_0 bt116.2) else (none))))) else (none)) else (none))) = some (r1, r2) := by rw [if_pos rfl] at H; exact H
     clear H
     have H := H1
     clear H1
     replace H := Option.bind_eq_some_iff.mp H
     obtain ⟨⟨t112, t113⟩, A200, H⟩ := H
     replace H : (if 0 ≤ t112 then (if t112 < (x5_1.length : Int) then ((spec_l1Rd_pick.f kj8 s0_0 t113 3).bind fun bt116 => (if bt116.1 = 0 then (if ((rd_T26 x5_1 t112).f1) > 0 then ((spec_l1Size.f kj8 (wrap64 (((rd_T26 x5_1 t112).f1) - 1))).bind fun t118 => (if t118 = 0 then (none) else ((spec_l1Halves.f kj8 (wrap64 (((rd_T26 x5_1 t112).f0) - (Int.tmod ((rd_T26 x5_1 t112).f0) t118))) (wrap64 (((rd_T26 x5_1 t112).f1) - 1))).bind fun bt119 => ((some (([(⟨bt119.1, bt119.2.1⟩ : S26), (⟨bt119.2.2.1, bt119.2.2.2⟩ : S26)] : List (S26)) : List (S26))).bind fun y125 => ((spec_l1Rd_pick.f kj8 s0_0 bt116.2 2).bind fun bt128 => (if 0 ≤ bt128.1 then (if bt128.1 < (y125.length : Int) then (if x5_1.length < 8796093022208 then (spec_l5List.l0 kj8 (x5_1 ++ [(⟨(rd_T26 y125 bt128.1).f0, (rd_T26 y125 bt128.1).f1⟩ : S26)]) (wrap64 (x6_1 - 1)) s0_0 bt128.2) else (none)) else (none)) else (none))))))) else (if x5_1.length < 8796093022208 then (spec_l5List.l0 kj8 (x5_1 ++ [(⟨t106, t107⟩ : S26)]) (wrap64 (x6_1 - 1)) s0_0 bt116.2) else (none))) else (if bt116.1 = 1 then (if ((rd_T26 x5_1 t112).f1) < 16 then ((spec_l1Halves.f kj8 ((rd_T26 x5_1 t112).f0) ((rd_T26 x5_1 t112).f1)).bind fun bt137 => ((some (([(⟨bt137.1, bt137.2.1⟩ : S26), (⟨bt137.2.2.1, bt137.2.2.2⟩ : S26)] : List (S26)) : List (S26))).bind fun y143 => ((spec_l1Rd_pick.f kj8 s0_0 bt116.2 2).bind fun bt146 => (if 0 ≤ bt146.1 then (if bt146.1 < (y143.length : Int) then (if x5_1.length < 8796093022208 then (spec_l5List.l0 kj8 (x5_1 ++ [(⟨(rd_T26 y143 bt146.1).f0, (rd_T26 y143 bt146.1).f1⟩ : S26)]) (wrap64 (x6_1 - 1)) s0_0 bt146.2) else (none)) else (none)) else (none))))) else (if x5_1.length < 8796093022208 then (spec_l5List.l0 kj8 (x5_1 ++ [(⟨t106, t107⟩ : S26)]) (wrap64 (x6_1 - 1)) s0_0 bt116.2) else (none))) else (if x5_1.length < 8796093022208 then (spec_l5List.l0 kj8 (x5_1 ++ [(⟨(rd_T26 x5_1 t112).f0, (rd_T26 x5_1 t112).f1⟩ : S26)]) (wrap64 (x6_1 - 1)) s0_0 bt116.2) else (none))))) else (none)) else (none)) = some (r1, r2) := H
     have A20 := zA A200
     clear A200
     by_cases c21 : 0 ≤ t112
     ·rw [if_pos c21] at H
      have c21b0 : decide (0 ≤ t112) = true := decide_eq_true c21
      clear c21
      by_cases c22 : t112 < (x5_1.length : Int)
      ·rw [if_pos c22] at H
       have c22b0 : decide (t112 < (x5_1.length : Int)) = true := decide_eq_true c22
       clear c22
       replace H := Option.bind_eq_some_iff.mp H
       obtain ⟨⟨t116, t117⟩, A230, H⟩ := H
       replace H : (if t116 = 0 then (if ((rd_T26 x5_1 t112).f1) > 0 then ((spec_l1Size.f kj8 (wrap64 (((rd_T26 x5_1 t112).f1) - 1))).bind fun t118 => (if t118 = 0 then (none) else ((spec_l1Halves.f kj8 (wrap64 (((rd_T26 x5_1 t112).f0) - (Int.tmod ((rd_T26 x5_1 t112).f0) t118))) (wrap64 (((rd_T26 x5_1 t112).f1) - 1))).bind fun bt119 => ((some (([(⟨bt119.1, bt119.2.1⟩ : S26), (⟨bt119.2.2.1, bt119.2.2.2⟩ : S26)] : List (S26)) : List (S26))).bind fun y125 => ((spec_l1Rd_pick.f kj8 s0_0 t117 2).bind fun bt128 => (if 0 ≤ bt128.1 then (if bt128.1 < (y125.length : Int) then (if x5_1.length < 8796093022208 then (spec_l5List.l0 kj8 (x5_1 ++ [(⟨(rd_T26 y125 bt128.1).f0, (rd_T26 y125 bt128.1).f1⟩ : S26)]) (wrap64 (x6_1 - 1)) s0_0 bt128.2) else (none)) else (none)) else (none))))))) else (if x5_1.length < 8796093022208 then (spec_l5List.l0 kj8 (x5_1 ++ [(⟨t106, t107⟩ : S26)]) (wrap64 (x6_1 - 1)) s0_0 t117) else (none))) else (if t116 = 1 then (if ((rd_T26 x5_1 t112).f1) < 16 then ((spec_l1Halves.f kj8 ((rd_T26 x5_1 t112).f0) ((rd_T26 x5_1 t112).f1)).bind fun bt137 => ((some (([(⟨bt137.1, bt137.2.1⟩ : S26), (⟨bt137.2.2.1, bt137.2.2.2⟩ : S26)] : List (S26)) : List (S26))).bind fun y143 => ((spec_l1Rd_pick.f kj8 s0_0 t117 2).bind fun bt146 => (if 0 ≤ bt146.1 then (if bt146.1 < (y143.length : Int) then (if x5_1.length < 8796093022208 then (spec_l5List.l0 kj8 (x5_1 ++ [(⟨(rd_T26 y143 bt146.1).f0, (rd_T26 y143 bt146.1).f1⟩ : S26)]) (wrap64 (x6_1 - 1)) s0_0 bt146.2) else (none)) else (none)) else (none))))) else (if x5_1.length < 8796093022208 then (spec_l5List.l0 kj8 (x5_1 ++ [(⟨t106, t107⟩ : S26)]) (wrap64 (x6_1 - 1)) s0_0 t117) else (none))) else (if x5_1.length < 8796093022208 then (spec_l5List.l0 kj8 (x5_1 ++ [(⟨(rd_T26 x5_1 t112).f0, (rd_T26 x5_1 t112).f1⟩ : S26)]) (wrap64 (x6_1 - 1)) s0_0 t117) else (none)))) = some (r1, r2) := H
       have A23 := zA A230
       clear A230
       by_cases c24 : t116 = 0
       ·rw [if_pos c24] at H
        have c24b0 : (t116 == 0) = true := beq_iff_eq.mpr c24
        have c24b1 : (t116 != 0) = false := bne_eq_false_iff_eq.mpr c24
        clear c24
        by_cases c25 : ((rd_T26 x5_1 t112).f1) > 0
        ·rw [if_pos c25] at H
         have c25b0 : decide (0 < ((rd_T26 x5_1 t112).f1)) = true := decide_eq_true c25
         clear c25
         replace H := Option.bind_eq_some_iff.mp H
         obtain ⟨t118, A260, H⟩ := H
         replace H : (if t118 = 0 then (none) else ((spec_l1Halves.f kj8 (wrap64 (((rd_T26 x5_1 t112).f0) - (Int.tmod ((rd_T26 x5_1 t112).f0) t118))) (wrap64 (((rd_T26 x5_1 t112).f1) - 1))).bind fun bt119 => ((some (([(⟨bt119.1, bt119.2.1⟩ : S26), (⟨bt119.2.2.1, bt119.2.2.2⟩ : S26)] : List (S26)) : List (S26))).bind fun y125 => ((spec_l1Rd_pick.f kj8 s0_0 t117 2).bind fun bt128 => (if 0 ≤ bt128.1 then (if bt128.1 < (y125.length : Int) then (if x5_1.length < 8796093022208 then (spec_l5List.l0 kj8 (x5_1 ++ [(⟨(rd_T26 y125 bt128.1).f0, (rd_T26 y125 bt128.1).f1⟩ : S26)]) (wrap64 (x6_1 - 1)) s0_0 bt128.2) else (none)) else (none)) else (none)))))) = some (r1, r2) := H
         have A26 := zA A260
         clear A260
         by_cases c27 : t118 = 0
         ·rw [if_pos c27] at H
          exact absurd H (by simp)
         rw [if_neg c27] at H
         have c27b0 : (t118 == 0) = false := beq_eq_false_iff_ne.mpr c27
         have c27b1 : (t118 != 0) = true := bne_iff_ne.mpr c27
         replace H := Option.bind_eq_some_iff.mp H
         obtain ⟨⟨t119, t120, t121, t122⟩, A280, H⟩ := H
         replace H : ((some (([(⟨t119, t120⟩ : S26), (⟨t121, t122⟩ : S26)] : List (S26)) : List (S26))).bind fun y125 => ((spec_l1Rd_pick.f kj8 s0_0 t117 2).bind fun bt128 => (if 0 ≤ bt128.1 then (if bt128.1 < (y125.length : Int) then (if x5_1.length < 8796093022208 then (spec_l5List.l0 kj8 (x5_1 ++ [(⟨(rd_T26 y125 bt128.1).f0, (rd_T26 y125 bt128.1).f1⟩ : S26)]) (wrap64 (x6_1 - 1)) s0_0 bt128.2) else (none)) else (none)) else (none)))) = some (r1, r2) := H
         have A28 := zA A280
         clear A280
         obtain ⟨y125, hy125⟩ : ∃ y_ : List (S26), y_ = (([(⟨t119, t120⟩ : S26), (⟨t121, t122⟩ : S26)] : List (S26))) := ⟨_, rfl⟩
         replace H : ((spec_l1Rd_pick.f kj8 s0_0 t117 2).bind fun bt128 => (if 0 ≤ bt128.1 then (if bt128.1 < (y125.length : Int) then (if x5_1.length < 8796093022208 then (spec_l5List.l0 kj8 (x5_1 ++ [(⟨(rd_T26 y125 bt128.1).f0, (rd_T26 y125 bt128.1).f1⟩ : S26)]) (wrap64 (x6_1 - 1)) s0_0 bt128.2) else (none)) else (none)) else (none))) = some (r1, r2) := by first | (rw [hy125]; with_reducible exact H) | (have H2_ := (Option.bind_some _ _).symm.trans H; rw [hy125]; with_reducible exact H2_) | (have H2_ := (Option.bind_some _ _).symm.trans H; with_reducible exact H2_) | with_reducible exact H | (rw [hy125]; exact H) | exact H
         have Ny125 := zA hy125
         clear hy125
         replace H := Option.bind_eq_some_iff.mp H
         obtain ⟨⟨t128, t129⟩, A290, H⟩ := H
         replace H : (if 0 ≤ t128 then (if t128 < (y125.length : Int) then (if x5_1.length < 8796093022208 then (spec_l5List.l0 kj8 (x5_1 ++ [(⟨(rd_T26 y125 t128).f0, (rd_T26 y125 t128).f1⟩ : S26)]) (wrap64 (x6_1 - 1)) s0_0 t129) else (none)) else (none)) else (none)) = some (r1, r2) := H
         have A29 := zA A290
         clear A290
         by_cases c30 : 0 ≤ t128
         ·rw [if_pos c30] at H
          have c30b0 : decide (0 ≤ t128) = true := decide_eq_true c30
          clear c30
          by_cases c31 : t128 < (y125.length : Int)
          ·rw [if_pos c31] at H
           have c31b0 : decide (t128 < (y125.length : Int)) = true := decide_eq_true c31
           clear c31
           by_cases c32 : x5_1.length < 8796093022208
           ·rw [if_pos c32] at H
            have LMc32 := zA c32
            clear c32
            obtain ⟨y131, hy131⟩ : ∃ y_ : List (S26), y_ = (x5_1 ++ [(⟨(rd_T26 y125 t128).f0, (rd_T26 y125 t128).f1⟩ : S26)]) := ⟨_, rfl⟩
            replace H : (spec_l5List.l0 kj8 y131 (wrap64 (x6_1 - 1)) s0_0 t129) = some (r1, r2) := by first | (rw [hy131]; with_reducible exact H) | (have H2_ := (Option.bind_some _ _).symm.trans H; rw [hy131]; with_reducible exact H2_) | (have H2_ := (Option.bind_some _ _).symm.trans H; with_reducible exact H2_) | with_reducible exact H | (rw [hy131]; exact H) | exact H
            have Ny131 := zA hy131
            clear hy131
            have H' := zA H
            clear H
            obtain ⟨Ao33, co33, eo33⟩ := Kd.R_slice HO_5.out
            subst eo33
            try go_wp2_with (first | ((with_reducible refine gate_callee (f := 81) rfl ?_); refine goesL_ (some 35) rfl rfl Try.func81 (by kernel_rfl) rfl #[.pointer (some ⟨g, 0, none⟩), .int .i64 (x5_1.length : Int)] rfl y8  ?_; (with_reducible refine (spec_l1Rd_pick.calls kj8 g s0_0 x1001_8 (x5_1.length : Int) t112 t113 w0 _ ?side1 ?side2 A20.out).mono ?_); (case side1 => exact zHI0); (case side2 => exact zHB); rintro e w34 ⟨rfl, hi, hb, hk⟩; refine ⟨_, rfl, ?_⟩; have n0_ := zA (Kd.R_mono (Kd.R_keep (IsS117.apart (show IsS117 w0 _ g s0_0 x1001_8 from zHI0) (zr HO_5.out) (by decide)) hk (fun _ h => h.2)) (fun _ h => h.1)); have n1_ := zA (KeepBut.blk hk (g' := gb109) (o := .cells #[.int .i64 t106, .int .i64 t107] 26 (0, 0)) (zb BK109.out) NB109_0.out (by simp)); have n2_ := zA (KeepBut.trans (zHK) hk (.inl rfl)); have n3_ := zA (hb); have n4_ := zA (hi); clear HO_5; clear BK109; clear HK; clear HB; clear HI0; have HO_5 := n0_; have BK109 := n1_; have HK := n2_; have HB := n3_; have HI0 := n4_; clear n0_ n1_ n2_ n3_ n4_; (try clear hb); (try clear hb2); (try clear hk); (try clear hi); have p114 : 0 ≤ (t112 : Int) := of_decide_eq_true y35 ; have q114 : t112 < (x5_1.length : Int) := of_decide_eq_true y35 ; obtain ⟨ad114, e114, hx114_0, hx114_1⟩ := at_T26 (Kd.R_reads' HO_5.out).2.2 t112 p114 q114; cases e114; replace p114 := eq_true p114; replace q114 := eq_true q114) | ((with_reducible refine gate_dst (N := 8) rfl ?_); (try (refine gate_guard (by rfl) ?_; dsimp only)); refine box_event ?hg (N := 8) ?hd (cs := #[.int .i64 0, .int .i64 0]) (t := 26) ?hr ?_; (case hd => rfl); (case hg => rfl); (case hr => first | (go_simp; done) | (go_simp; rfl)); intro gb115 hg w35 hbox hb; have n0_ := zA (Kd.R_below (Kd.R_elderB (zr HO_5.out) gb115 (Nat.le_of_eq hg.symm)) hb); have n1_ := zA (blk_below (g := gb109) (o := .cells #[.int .i64 t106, .int .i64 t107] 26 (0, 0)) (zb BK109.out) hb); have n2_ := zA (IsS117.below (zHI0) hb); have n3_ := zA (KeepBut.trans (zHK) (KeepBut.of_below hb g none) (.inl rfl)); have n4_ := zA (below_step (zHB) hb); have n5_ := zA (hbox); have n6_ := zA ((show w.heap.size ≤ gb115 from y31)); have n7_ := zA ((Nat.le_trans HW0.out (show w.heap.size ≤ gb115 from y31) : w0.heap.size ≤ gb115)); have n8_ := zA ((show gb109 ≠ gb115 from y9)); have n9_ := zA ((show gb115 ≠ gb109 from y10)); have n10_ := zA ((show g ≠ gb115 from y23)); have n11_ := zA ((show gb115 ≠ g from y24)); clear HO_5; clear BK109; clear HI0; clear HK; clear HB; have HO_5 := n0_; have BK109 := n1_; have HI0 := n2_; have HK := n3_; have HB := n4_; have BK115 := n5_; have GW115 := n6_; have GE115 := n7_; have NB109_115 := n8_; have NB115_109 := n9_; have NB0_115 := n10_; have NB115_0 := n11_; clear n0_ n1_ n2_ n3_ n4_ n5_ n6_ n7_ n8_ n9_ n10_ n11_; clear hb hbox hg; have hnb36 := NB115_109.out; have hnc36 := NB109_115.out; have hnb37 := NB115_0.out; have hnc37 := NB0_115.out; have hcz38_0 : w35.cell? ⟨gb115, 0, none⟩ = some (.int .i64 0) := (blk_cell BK115.out 0).trans rfl; have hcz38_1 : w35.cell? ⟨gb115, 1, none⟩ = some (.int .i64 0) := (blk_cell BK115.out 1).trans rfl; have hfz38_0 := blk_frozen BK115.out 0; have hfz38_1 := blk_frozen BK115.out 1) | ((with_reducible refine gate_callee (f := 81) rfl ?_); refine goesL_ (some 39) rfl rfl Try.func81 (by kernel_rfl) rfl #[.pointer (some ⟨g, 0, none⟩), .int .i64 3] rfl y8  ?_; (with_reducible refine (spec_l1Rd_pick.calls kj8 g s0_0 t113 3 t116 t117 w0 _ ?side1 ?side2 A23.out).mono ?_); (case side1 => exact zHI0); (case side2 => exact zHB); rintro e w39 ⟨rfl, hi, hb, hk⟩; refine ⟨_, rfl, ?_⟩; have n0_ := zA (Kd.R_mono (Kd.R_keep (IsS117.apart (show IsS117 w0 _ g s0_0 t113 from zHI0) y1  (by decide)) hk (fun _ h => h.2)) (fun _ h => h.1)); have n1_ := zA (KeepBut.blk hk (g' := gb109) (o := .cells #[.int .i64 t106, .int .i64 t107] 26 (0, 0)) y19  NB109_0.out (by simp)); have n2_ := zA (KeepBut.blk hk (g' := gb115) (o := .cells #[.int .i64 ((rd_T26 x5_1 t112).f0), .int .i64 ((rd_T26 x5_1 t112).f1)] 26 (0, 0)) y3  NB115_0.out (by simp)); have n3_ := zA (KeepBut.trans (zHK) hk (.inl rfl)); have n4_ := zA (hb); have n5_ := zA (hi); clear HO_5; clear BK109; clear BK115; clear HK; clear HB; clear HI0; have HO_5 := n0_; have BK109 := n1_; have BK115 := n2_; have HK := n3_; have HB := n4_; have HI0 := n5_; clear n0_ n1_ n2_ n3_ n4_ n5_; (try clear hb); (try clear hb2); (try clear hk); (try clear hi); have hcz40_0 : w39.cell? ⟨gb115, 0, none⟩ = some (.int .i64 ((rd_T26 x5_1 t112).f0)) := (blk_cell BK115.out 0).trans rfl; have hcz40_1 : w39.cell? ⟨gb115, 1, none⟩ = some (.int .i64 ((rd_T26 x5_1 t112).f1)) := (blk_cell BK115.out 1).trans rfl; have hfz40_0 := blk_frozen BK115.out 0; have hfz40_1 := blk_frozen BK115.out 1))
            have n0_ := zA (Kd.R_drew HO_5.out)
            have n1_ := zA (blk_drew BK109.out)
            have n2_ := zA (blk_drew BK115.out)
            have n3_ := zA (IsS117.drew HI0.out)
            have n4_ := zA (keep_drew HK.out)
            have n5_ := zA (below_drew1 HB.out)
            clear HO_5
            clear BK109
            clear BK115
            clear HI0
            clear HK
            clear HB
            have HO_5 := n0_
            have BK109 := n1_
            have BK115 := n2_
            have HI0 := n3_
            have HK := n4_
            have HB := n5_
            clear n0_ n1_ n2_ n3_ n4_ n5_
            refine start_ (n := 22) (S := fun w' => w'.cell? ⟨gb115, 0, none⟩ = some (.int .i64 ((rd_T26 x5_1 t112).f0)) ∧ w'.cell? ⟨gb115, 1, none⟩ = some (.int .i64 ((rd_T26 x5_1 t112).f1))) (ds := []) (zl 22 0) (by kernel_rfl) rfl rfl ⟨(blk_cell BK115.out 0).trans rfl, (blk_cell BK115.out 1).trans rfl⟩ (fun hHeld => ?_); refine with_tabW spec_l5List.tab12 spec_l5List.bits12 (fun HT_ HW_ => ?_)
            generalize w39.drew = w41 at HO_5 BK109 BK115 HI0 HK HB hHeld ⊢
            refine pure_ (i := 0) (N := some 47) (v := ?_) (a' := ?_) (zl 22 1) rfl rfl (any_of HT_.out (by kernel_rfl)) (fun _ _ _ h => h) (Or.inl ⟨by rfl, ?_⟩) ?_ ?_
            rotate_left
            ·intro w'
             go_simp
             with_reducible rfl
            rotate_left
            ·simp only [Act.put, List.setIfInBounds_toArray, List.set_cons_zero, List.set_cons_succ, i64_w, i32_w]
             rfl
            refine pure_ (i := 2) (N := some 49) (v := ?_) (a' := ?_) (zl 22 5) rfl rfl (any_of HT_.out (by kernel_rfl)) (fun _ _ _ h => h) (Or.inl ⟨by rfl, ?_⟩) ?_ ?_
            rotate_left
            ·intro w'
             go_simp
             with_reducible rfl
            rotate_left
            ·simp only [Act.put, List.setIfInBounds_toArray, List.set_cons_zero, List.set_cons_succ, i64_w, i32_w]
             rfl
            refine pure_ (i := 4) (N := some 51) (v := ?_) (a' := ?_) (zl 22 21) rfl rfl (any_of HT_.out (by kernel_rfl)) (fun _ _ _ h => h) (Or.inl ⟨by rfl, ?_⟩) ?_ ?_
            rotate_left
            ·intro w'
             go_simp
             with_reducible rfl
            rotate_left
            ·simp only [Act.put, List.setIfInBounds_toArray, List.set_cons_zero, List.set_cons_succ, i64_w, i32_w]
             rfl
            refine pure_ (i := 10) (N := some 57) (v := ?_) (a' := ?_) (zl 22 1045) rfl rfl (any_of HT_.out (by kernel_rfl)) (fun _ _ _ h => h) (Or.inl ⟨by rfl, ?_⟩) ?_ ?_
            rotate_left
            ·intro w'
             go_simp
             with_reducible rfl
            rotate_left
            ·simp only [Act.put, List.setIfInBounds_toArray, List.set_cons_zero, List.set_cons_succ, i64_w, i32_w]
             rfl
            refine take_ (i := 1) (N := some 48) (v := ?_) (a' := ?_) (zl 22 1047) rfl rfl (take_ofW HT_.out HW_.out (by kernel_rfl)) (fun _ _ _ h => h) (Or.inl ⟨by rfl, ?_⟩) hHeld ?_ ?_
            rotate_left
            ·rintro w' ⟨s0, s1⟩
             go_simp
             with_reducible rfl
            rotate_left
            ·simp only [Act.put, List.setIfInBounds_toArray, List.set_cons_zero, List.set_cons_succ, i64_w, i32_w]
             rfl
            refine take_ (i := 3) (N := some 50) (v := ?_) (a' := ?_) (zl 22 1055) rfl rfl (take_ofW HT_.out HW_.out (by kernel_rfl)) (fun _ _ _ h => h) (Or.inl ⟨by rfl, ?_⟩) hHeld ?_ ?_
            rotate_left
            ·rintro w' ⟨s0, s1⟩
             go_simp
             with_reducible rfl
            rotate_left
            ·simp only [Act.put, List.setIfInBounds_toArray, List.set_cons_zero, List.set_cons_succ, i64_w, i32_w]
             rfl
            refine take_ (i := 5) (N := some 52) (v := ?_) (a' := ?_) (zl 22 1087) rfl rfl (take_ofW HT_.out HW_.out (by kernel_rfl)) (fun _ _ _ h => h) (Or.inl ⟨by rfl, ?_⟩) hHeld ?_ ?_
            rotate_left
            ·rintro w' ⟨s0, s1⟩
             go_simp
             with_reducible rfl
            rotate_left
            ·simp only [Act.put, List.setIfInBounds_toArray, List.set_cons_zero, List.set_cons_succ, i64_w, i32_w]
             rfl
            refine pure_ (i := 6) (N := some 53) (v := ?_) (a' := ?_) (zl 22 1151) rfl rfl (any_of HT_.out (by kernel_rfl)) (fun _ _ _ h => h) (Or.inl ⟨by rfl, ?_⟩) ?_ ?_
            rotate_left
            ·intro w'
             go_simp
             with_reducible rfl
            rotate_left
            ·simp only [Act.put, List.setIfInBounds_toArray, List.set_cons_zero, List.set_cons_succ, i64_w, i32_w]
             rfl
            refine take_ (i := 11) (N := some 58) (v := ?_) (a' := ?_) (zl 22 3199) rfl rfl (take_ofW HT_.out HW_.out (by kernel_rfl)) (fun _ _ _ h => h) (Or.inl ⟨by rfl, ?_⟩) hHeld ?_ ?_
            rotate_left
            ·rintro w' ⟨s0, s1⟩
             go_simp
             with_reducible rfl
            rotate_left
            ·simp only [Act.put, List.setIfInBounds_toArray, List.set_cons_zero, List.set_cons_succ, i64_w, i32_w]
             rfl
            refine pure_ (i := 12) (N := some 59) (v := ?_) (a' := ?_) (zl 22 7295) rfl rfl (any_of HT_.out (by kernel_rfl)) (fun _ _ _ h => h) (Or.inl ⟨by rfl, ?_⟩) ?_ ?_
            rotate_left
            ·intro w'
             go_simp
             with_reducible rfl
            rotate_left
            ·simp only [Act.put, List.setIfInBounds_toArray, List.set_cons_zero, List.set_cons_succ, i64_w, i32_w]
             rfl
            refine join_ (σ := Nat × Nat) 2 (zl 22 1048575) (fun s_ => [(54, .int .i64 t118), (61, .tuple #[.agg #[.int .i64 t119, .int .i64 t120], .agg #[.int .i64 t121, .int .i64 t122]]), (9, .pointer (some ⟨s_.1, 0, none⟩)), (10, .pointer (some ⟨s_.2, 0, none⟩)), (55, .int .i64 (Int.tmod ((rd_T26 x5_1 t112).f0) t118)), (56, .int .i64 (wrap64 (((rd_T26 x5_1 t112).f0) - (Int.tmod ((rd_T26 x5_1 t112).f0) t118)))), (60, .agg #[.int .i64 (wrap64 (((rd_T26 x5_1 t112).f0) - (Int.tmod ((rd_T26 x5_1 t112).f0) t118))), .int .i64 (wrap64 (((rd_T26 x5_1 t112).f1) - 1))]), (46, .tuple #[.agg #[.int .i64 t119, .int .i64 t120], .agg #[.int .i64 t121, .int .i64 t122]]), (62, .agg #[.int .i64 t119, .int .i64 t120]), (63, .agg #[.int .i64 t121, .int .i64 t122])]) (fun s_ w' => (w'.cell? ⟨gb115, 0, none⟩ = some (.int .i64 ((rd_T26 x5_1 t112).f0)) ∧ w'.cell? ⟨gb115, 1, none⟩ = some (.int .i64 ((rd_T26 x5_1 t112).f1))) ∧ (Kd.R k26 26 w' w.heap.size (fun k_ => k_ ≠ gb109 ∧ k_ ≠ gb115 ∧ k_ ≠ s_.1 ∧ k_ ≠ s_.2) (.slice (some ad114) x5_1.length co33) x5_1) ∧ (w'.heap[gb109]? = some (.cells #[.int .i64 t106, .int .i64 t107] 26 (0, 0))) ∧ (w'.heap[gb115]? = some (.cells #[.int .i64 ((rd_T26 x5_1 t112).f0), .int .i64 ((rd_T26 x5_1 t112).f1)] 26 (0, 0))) ∧ (w'.heap[s_.1]? = some (.cells #[.int .i64 0, .int .i64 0] 26 (0, 0))) ∧ (w'.heap[s_.2]? = some (.cells #[.int .i64 0, .int .i64 0] 26 (0, 0))) ∧ (w.heap.size ≤ s_.1) ∧ (w0.heap.size ≤ s_.1) ∧ (g ≠ s_.1) ∧ (s_.1 ≠ g) ∧ (gb109 ≠ s_.1) ∧ (s_.1 ≠ gb109) ∧ (gb115 ≠ s_.1) ∧ (s_.1 ≠ gb115) ∧ (s_.2 ≠ s_.1) ∧ (s_.1 ≠ s_.2) ∧ (w.heap.size ≤ s_.2) ∧ (w0.heap.size ≤ s_.2) ∧ (g ≠ s_.2) ∧ (s_.2 ≠ g) ∧ (gb109 ≠ s_.2) ∧ (s_.2 ≠ gb109) ∧ (gb115 ≠ s_.2) ∧ (s_.2 ≠ gb115) ∧ (IsS117 w0 w' g s0_0 t117) ∧ (KeepBut w w' g none) ∧ (Below w0.heap.size w0 w')) ?_ ?_
            rotate_left
            ·intro hJ7_14_18_19
             refine join_ (σ := Nat) 3 (zl 22 524287) (fun s_ => [(54, .int .i64 t118), (61, .tuple #[.agg #[.int .i64 t119, .int .i64 t120], .agg #[.int .i64 t121, .int .i64 t122]]), (9, .pointer (some ⟨s_, 0, none⟩)), (55, .int .i64 (Int.tmod ((rd_T26 x5_1 t112).f0) t118)), (56, .int .i64 (wrap64 (((rd_T26 x5_1 t112).f0) - (Int.tmod ((rd_T26 x5_1 t112).f0) t118)))), (60, .agg #[.int .i64 (wrap64 (((rd_T26 x5_1 t112).f0) - (Int.tmod ((rd_T26 x5_1 t112).f0) t118))), .int .i64 (wrap64 (((rd_T26 x5_1 t112).f1) - 1))]), (46, .tuple #[.agg #[.int .i64 t119, .int .i64 t120], .agg #[.int .i64 t121, .int .i64 t122]]), (62, .agg #[.int .i64 t119, .int .i64 t120]), (63, .agg #[.int .i64 t121, .int .i64 t122])]) (fun s_ w' => (w'.cell? ⟨gb115, 0, none⟩ = some (.int .i64 ((rd_T26 x5_1 t112).f0)) ∧ w'.cell? ⟨gb115, 1, none⟩ = some (.int .i64 ((rd_T26 x5_1 t112).f1))) ∧ (Kd.R k26 26 w' w.heap.size (fun k_ => k_ ≠ gb109 ∧ k_ ≠ gb115 ∧ k_ ≠ s_) (.slice (some ad114) x5_1.length co33) x5_1) ∧ (w'.heap[gb109]? = some (.cells #[.int .i64 t106, .int .i64 t107] 26 (0, 0))) ∧ (w'.heap[gb115]? = some (.cells #[.int .i64 ((rd_T26 x5_1 t112).f0), .int .i64 ((rd_T26 x5_1 t112).f1)] 26 (0, 0))) ∧ (w'.heap[s_]? = some (.cells #[.int .i64 0, .int .i64 0] 26 (0, 0))) ∧ (w.heap.size ≤ s_) ∧ (w0.heap.size ≤ s_) ∧ (g ≠ s_) ∧ (s_ ≠ g) ∧ (gb109 ≠ s_) ∧ (s_ ≠ gb109) ∧ (gb115 ≠ s_) ∧ (s_ ≠ gb115) ∧ (IsS117 w0 w' g s0_0 t117) ∧ (KeepBut w w' g none) ∧ (Below w0.heap.size w0 w')) ?_ ?_
             rotate_left
             ·intro hJ7_14_18
              refine join_ (σ := Nat) 3 (zl 22 786431) (fun s_ => [(54, .int .i64 t118), (61, .tuple #[.agg #[.int .i64 t119, .int .i64 t120], .agg #[.int .i64 t121, .int .i64 t122]]), (10, .pointer (some ⟨s_, 0, none⟩)), (55, .int .i64 (Int.tmod ((rd_T26 x5_1 t112).f0) t118)), (56, .int .i64 (wrap64 (((rd_T26 x5_1 t112).f0) - (Int.tmod ((rd_T26 x5_1 t112).f0) t118)))), (60, .agg #[.int .i64 (wrap64 (((rd_T26 x5_1 t112).f0) - (Int.tmod ((rd_T26 x5_1 t112).f0) t118))), .int .i64 (wrap64 (((rd_T26 x5_1 t112).f1) - 1))]), (46, .tuple #[.agg #[.int .i64 t119, .int .i64 t120], .agg #[.int .i64 t121, .int .i64 t122]]), (62, .agg #[.int .i64 t119, .int .i64 t120]), (63, .agg #[.int .i64 t121, .int .i64 t122])]) (fun s_ w' => (w'.cell? ⟨gb115, 0, none⟩ = some (.int .i64 ((rd_T26 x5_1 t112).f0)) ∧ w'.cell? ⟨gb115, 1, none⟩ = some (.int .i64 ((rd_T26 x5_1 t112).f1))) ∧ (Kd.R k26 26 w' w.heap.size (fun k_ => k_ ≠ gb109 ∧ k_ ≠ gb115 ∧ k_ ≠ s_) (.slice (some ad114) x5_1.length co33) x5_1) ∧ (w'.heap[gb109]? = some (.cells #[.int .i64 t106, .int .i64 t107] 26 (0, 0))) ∧ (w'.heap[gb115]? = some (.cells #[.int .i64 ((rd_T26 x5_1 t112).f0), .int .i64 ((rd_T26 x5_1 t112).f1)] 26 (0, 0))) ∧ (w'.heap[s_]? = some (.cells #[.int .i64 0, .int .i64 0] 26 (0, 0))) ∧ (w.heap.size ≤ s_) ∧ (w0.heap.size ≤ s_) ∧ (g ≠ s_) ∧ (s_ ≠ g) ∧ (gb109 ≠ s_) ∧ (s_ ≠ gb109) ∧ (gb115 ≠ s_) ∧ (s_ ≠ gb115) ∧ (IsS117 w0 w' g s0_0 t117) ∧ (KeepBut w w' g none) ∧ (Below w0.heap.size w0 w')) ?_ ?_
              rotate_left
              ·intro hJ7_14_19
               refine join_ (σ := Nat × Nat) 6 (zl 22 802815) (fun s_ => [(54, .int .i64 t118), (9, .pointer (some ⟨s_.1, 0, none⟩)), (10, .pointer (some ⟨s_.2, 0, none⟩)), (55, .int .i64 (Int.tmod ((rd_T26 x5_1 t112).f0) t118)), (56, .int .i64 (wrap64 (((rd_T26 x5_1 t112).f0) - (Int.tmod ((rd_T26 x5_1 t112).f0) t118)))), (60, .agg #[.int .i64 (wrap64 (((rd_T26 x5_1 t112).f0) - (Int.tmod ((rd_T26 x5_1 t112).f0) t118))), .int .i64 (wrap64 (((rd_T26 x5_1 t112).f1) - 1))])]) (fun s_ w' => (w'.cell? ⟨gb115, 0, none⟩ = some (.int .i64 ((rd_T26 x5_1 t112).f0)) ∧ w'.cell? ⟨gb115, 1, none⟩ = some (.int .i64 ((rd_T26 x5_1 t112).f1))) ∧ (Kd.R k26 26 w' w.heap.size (fun k_ => k_ ≠ gb109 ∧ k_ ≠ gb115 ∧ k_ ≠ s_.1 ∧ k_ ≠ s_.2) (.slice (some ad114) x5_1.length co33) x5_1) ∧ (w'.heap[gb109]? = some (.cells #[.int .i64 t106, .int .i64 t107] 26 (0, 0))) ∧ (w'.heap[gb115]? = some (.cells #[.int .i64 ((rd_T26 x5_1 t112).f0), .int .i64 ((rd_T26 x5_1 t112).f1)] 26 (0, 0))) ∧ (w'.heap[s_.1]? = some (.cells #[.int .i64 0, .int .i64 0] 26 (0, 0))) ∧ (w'.heap[s_.2]? = some (.cells #[.int .i64 0, .int .i64 0] 26 (0, 0))) ∧ (w.heap.size ≤ s_.1) ∧ (w0.heap.size ≤ s_.1) ∧ (g ≠ s_.1) ∧ (s_.1 ≠ g) ∧ (gb109 ≠ s_.1) ∧ (s_.1 ≠ gb109) ∧ (gb115 ≠ s_.1) ∧ (s_.1 ≠ gb115) ∧ (s_.2 ≠ s_.1) ∧ (s_.1 ≠ s_.2) ∧ (w.heap.size ≤ s_.2) ∧ (w0.heap.size ≤ s_.2) ∧ (g ≠ s_.2) ∧ (s_.2 ≠ g) ∧ (gb109 ≠ s_.2) ∧ (s_.2 ≠ gb109) ∧ (gb115 ≠ s_.2) ∧ (s_.2 ≠ gb115) ∧ (IsS117 w0 w' g s0_0 t117) ∧ (KeepBut w w' g none) ∧ (Below w0.heap.size w0 w')) ?_ ?_
               rotate_left
               ·intro hJ7_18_19
                refine join_ (σ := Unit) 4 (zl 22 262143) (fun s_ => [(54, .int .i64 t118), (61, .tuple #[.agg #[.int .i64 t119, .int .i64 t120], .agg #[.int .i64 t121, .int .i64 t122]]), (55, .int .i64 (Int.tmod ((rd_T26 x5_1 t112).f0) t118)), (56, .int .i64 (wrap64 (((rd_T26 x5_1 t112).f0) - (Int.tmod ((rd_T26 x5_1 t112).f0) t118)))), (60, .agg #[.int .i64 (wrap64 (((rd_T26 x5_1 t112).f0) - (Int.tmod ((rd_T26 x5_1 t112).f0) t118))), .int .i64 (wrap64 (((rd_T26 x5_1 t112).f1) - 1))]), (46, .tuple #[.agg #[.int .i64 t119, .int .i64 t120], .agg #[.int .i64 t121, .int .i64 t122]]), (62, .agg #[.int .i64 t119, .int .i64 t120]), (63, .agg #[.int .i64 t121, .int .i64 t122])]) (fun s_ w' => (w'.cell? ⟨gb115, 0, none⟩ = some (.int .i64 ((rd_T26 x5_1 t112).f0)) ∧ w'.cell? ⟨gb115, 1, none⟩ = some (.int .i64 ((rd_T26 x5_1 t112).f1))) ∧ (Kd.R k26 26 w' w.heap.size (fun k_ => k_ ≠ gb109 ∧ k_ ≠ gb115) (.slice (some ad114) x5_1.length co33) x5_1) ∧ (w'.heap[gb109]? = some (.cells #[.int .i64 t106, .int .i64 t107] 26 (0, 0))) ∧ (w'.heap[gb115]? = some (.cells #[.int .i64 ((rd_T26 x5_1 t112).f0), .int .i64 ((rd_T26 x5_1 t112).f1)] 26 (0, 0))) ∧ (IsS117 w0 w' g s0_0 t117) ∧ (KeepBut w w' g none) ∧ (Below w0.heap.size w0 w')) ?_ ?_
                rotate_left
                ·intro hJ7_14
                 refine join_ (σ := Nat) 7 (zl 22 278527) (fun s_ => [(54, .int .i64 t118), (9, .pointer (some ⟨s_, 0, none⟩)), (55, .int .i64 (Int.tmod ((rd_T26 x5_1 t112).f0) t118)), (56, .int .i64 (wrap64 (((rd_T26 x5_1 t112).f0) - (Int.tmod ((rd_T26 x5_1 t112).f0) t118)))), (60, .agg #[.int .i64 (wrap64 (((rd_T26 x5_1 t112).f0) - (Int.tmod ((rd_T26 x5_1 t112).f0) t118))), .int .i64 (wrap64 (((rd_T26 x5_1 t112).f1) - 1))])]) (fun s_ w' => (w'.cell? ⟨gb115, 0, none⟩ = some (.int .i64 ((rd_T26 x5_1 t112).f0)) ∧ w'.cell? ⟨gb115, 1, none⟩ = some (.int .i64 ((rd_T26 x5_1 t112).f1))) ∧ (Kd.R k26 26 w' w.heap.size (fun k_ => k_ ≠ gb109 ∧ k_ ≠ gb115 ∧ k_ ≠ s_) (.slice (some ad114) x5_1.length co33) x5_1) ∧ (w'.heap[gb109]? = some (.cells #[.int .i64 t106, .int .i64 t107] 26 (0, 0))) ∧ (w'.heap[gb115]? = some (.cells #[.int .i64 ((rd_T26 x5_1 t112).f0), .int .i64 ((rd_T26 x5_1 t112).f1)] 26 (0, 0))) ∧ (w'.heap[s_]? = some (.cells #[.int .i64 0, .int .i64 0] 26 (0, 0))) ∧ (w.heap.size ≤ s_) ∧ (w0.heap.size ≤ s_) ∧ (g ≠ s_) ∧ (s_ ≠ g) ∧ (gb109 ≠ s_) ∧ (s_ ≠ gb109) ∧ (gb115 ≠ s_) ∧ (s_ ≠ gb115) ∧ (IsS117 w0 w' g s0_0 t117) ∧ (KeepBut w w' g none) ∧ (Below w0.heap.size w0 w')) ?_ ?_
                 rotate_left
                 ·intro hJ7_18
                  refine join_ (σ := Nat) 7 (zl 22 540671) (fun s_ => [(54, .int .i64 t118), (10, .pointer (some ⟨s_, 0, none⟩)), (55, .int .i64 (Int.tmod ((rd_T26 x5_1 t112).f0) t118)), (56, .int .i64 (wrap64 (((rd_T26 x5_1 t112).f0) - (Int.tmod ((rd_T26 x5_1 t112).f0) t118)))), (60, .agg #[.int .i64 (wrap64 (((rd_T26 x5_1 t112).f0) - (Int.tmod ((rd_T26 x5_1 t112).f0) t118))), .int .i64 (wrap64 (((rd_T26 x5_1 t112).f1) - 1))])]) (fun s_ w' => (w'.cell? ⟨gb115, 0, none⟩ = some (.int .i64 ((rd_T26 x5_1 t112).f0)) ∧ w'.cell? ⟨gb115, 1, none⟩ = some (.int .i64 ((rd_T26 x5_1 t112).f1))) ∧ (Kd.R k26 26 w' w.heap.size (fun k_ => k_ ≠ gb109 ∧ k_ ≠ gb115 ∧ k_ ≠ s_) (.slice (some ad114) x5_1.length co33) x5_1) ∧ (w'.heap[gb109]? = some (.cells #[.int .i64 t106, .int .i64 t107] 26 (0, 0))) ∧ (w'.heap[gb115]? = some (.cells #[.int .i64 ((rd_T26 x5_1 t112).f0), .int .i64 ((rd_T26 x5_1 t112).f1)] 26 (0, 0))) ∧ (w'.heap[s_]? = some (.cells #[.int .i64 0, .int .i64 0] 26 (0, 0))) ∧ (w.heap.size ≤ s_) ∧ (w0.heap.size ≤ s_) ∧ (g ≠ s_) ∧ (s_ ≠ g) ∧ (gb109 ≠ s_) ∧ (s_ ≠ gb109) ∧ (gb115 ≠ s_) ∧ (s_ ≠ gb115) ∧ (IsS117 w0 w' g s0_0 t117) ∧ (KeepBut w w' g none) ∧ (Below w0.heap.size w0 w')) ?_ ?_
                  rotate_left
                  ·intro hJ7_19
                   refine join_ (σ := Nat × Nat) 10 (zl 22 793727) (fun s_ => [(9, .pointer (some ⟨s_.1, 0, none⟩)), (10, .pointer (some ⟨s_.2, 0, none⟩))]) (fun s_ w' => (w'.cell? ⟨gb115, 0, none⟩ = some (.int .i64 ((rd_T26 x5_1 t112).f0)) ∧ w'.cell? ⟨gb115, 1, none⟩ = some (.int .i64 ((rd_T26 x5_1 t112).f1))) ∧ (Kd.R k26 26 w' w.heap.size (fun k_ => k_ ≠ gb109 ∧ k_ ≠ gb115 ∧ k_ ≠ s_.1 ∧ k_ ≠ s_.2) (.slice (some ad114) x5_1.length co33) x5_1) ∧ (w'.heap[gb109]? = some (.cells #[.int .i64 t106, .int .i64 t107] 26 (0, 0))) ∧ (w'.heap[gb115]? = some (.cells #[.int .i64 ((rd_T26 x5_1 t112).f0), .int .i64 ((rd_T26 x5_1 t112).f1)] 26 (0, 0))) ∧ (w'.heap[s_.1]? = some (.cells #[.int .i64 0, .int .i64 0] 26 (0, 0))) ∧ (w'.heap[s_.2]? = some (.cells #[.int .i64 0, .int .i64 0] 26 (0, 0))) ∧ (w.heap.size ≤ s_.1) ∧ (w0.heap.size ≤ s_.1) ∧ (g ≠ s_.1) ∧ (s_.1 ≠ g) ∧ (gb109 ≠ s_.1) ∧ (s_.1 ≠ gb109) ∧ (gb115 ≠ s_.1) ∧ (s_.1 ≠ gb115) ∧ (s_.2 ≠ s_.1) ∧ (s_.1 ≠ s_.2) ∧ (w.heap.size ≤ s_.2) ∧ (w0.heap.size ≤ s_.2) ∧ (g ≠ s_.2) ∧ (s_.2 ≠ g) ∧ (gb109 ≠ s_.2) ∧ (s_.2 ≠ gb109) ∧ (gb115 ≠ s_.2) ∧ (s_.2 ≠ gb115) ∧ (IsS117 w0 w' g s0_0 t117) ∧ (KeepBut w w' g none) ∧ (Below w0.heap.size w0 w')) ?_ ?_
                   rotate_left
                   ·intro hJ18_19
                    refine join_ (σ := Unit) 8 (zl 22 16383) (fun s_ => [(54, .int .i64 t118), (55, .int .i64 (Int.tmod ((rd_T26 x5_1 t112).f0) t118)), (56, .int .i64 (wrap64 (((rd_T26 x5_1 t112).f0) - (Int.tmod ((rd_T26 x5_1 t112).f0) t118)))), (60, .agg #[.int .i64 (wrap64 (((rd_T26 x5_1 t112).f0) - (Int.tmod ((rd_T26 x5_1 t112).f0) t118))), .int .i64 (wrap64 (((rd_T26 x5_1 t112).f1) - 1))])]) (fun s_ w' => (w'.cell? ⟨gb115, 0, none⟩ = some (.int .i64 ((rd_T26 x5_1 t112).f0)) ∧ w'.cell? ⟨gb115, 1, none⟩ = some (.int .i64 ((rd_T26 x5_1 t112).f1))) ∧ (Kd.R k26 26 w' w.heap.size (fun k_ => k_ ≠ gb109 ∧ k_ ≠ gb115) (.slice (some ad114) x5_1.length co33) x5_1) ∧ (w'.heap[gb109]? = some (.cells #[.int .i64 t106, .int .i64 t107] 26 (0, 0))) ∧ (w'.heap[gb115]? = some (.cells #[.int .i64 ((rd_T26 x5_1 t112).f0), .int .i64 ((rd_T26 x5_1 t112).f1)] 26 (0, 0))) ∧ (IsS117 w0 w' g s0_0 t117) ∧ (KeepBut w w' g none) ∧ (Below w0.heap.size w0 w')) ?_ ?_
                    rotate_left
                    ·intro hJ7
                     refine join_ (σ := Nat) 11 (zl 22 269439) (fun s_ => [(9, .pointer (some ⟨s_, 0, none⟩))]) (fun s_ w' => (w'.cell? ⟨gb115, 0, none⟩ = some (.int .i64 ((rd_T26 x5_1 t112).f0)) ∧ w'.cell? ⟨gb115, 1, none⟩ = some (.int .i64 ((rd_T26 x5_1 t112).f1))) ∧ (Kd.R k26 26 w' w.heap.size (fun k_ => k_ ≠ gb109 ∧ k_ ≠ gb115 ∧ k_ ≠ s_) (.slice (some ad114) x5_1.length co33) x5_1) ∧ (w'.heap[gb109]? = some (.cells #[.int .i64 t106, .int .i64 t107] 26 (0, 0))) ∧ (w'.heap[gb115]? = some (.cells #[.int .i64 ((rd_T26 x5_1 t112).f0), .int .i64 ((rd_T26 x5_1 t112).f1)] 26 (0, 0))) ∧ (w'.heap[s_]? = some (.cells #[.int .i64 0, .int .i64 0] 26 (0, 0))) ∧ (w.heap.size ≤ s_) ∧ (w0.heap.size ≤ s_) ∧ (g ≠ s_) ∧ (s_ ≠ g) ∧ (gb109 ≠ s_) ∧ (s_ ≠ gb109) ∧ (gb115 ≠ s_) ∧ (s_ ≠ gb115) ∧ (IsS117 w0 w' g s0_0 t117) ∧ (KeepBut w w' g none) ∧ (Below w0.heap.size w0 w')) ?_ ?_
                     rotate_left
                     ·intro hJ18
                      refine join_ (σ := Nat) 11 (zl 22 531583) (fun s_ => [(10, .pointer (some ⟨s_, 0, none⟩))]) (fun s_ w' => (w'.cell? ⟨gb115, 0, none⟩ = some (.int .i64 ((rd_T26 x5_1 t112).f0)) ∧ w'.cell? ⟨gb115, 1, none⟩ = some (.int .i64 ((rd_T26 x5_1 t112).f1))) ∧ (Kd.R k26 26 w' w.heap.size (fun k_ => k_ ≠ gb109 ∧ k_ ≠ gb115 ∧ k_ ≠ s_) (.slice (some ad114) x5_1.length co33) x5_1) ∧ (w'.heap[gb109]? = some (.cells #[.int .i64 t106, .int .i64 t107] 26 (0, 0))) ∧ (w'.heap[gb115]? = some (.cells #[.int .i64 ((rd_T26 x5_1 t112).f0), .int .i64 ((rd_T26 x5_1 t112).f1)] 26 (0, 0))) ∧ (w'.heap[s_]? = some (.cells #[.int .i64 0, .int .i64 0] 26 (0, 0))) ∧ (w.heap.size ≤ s_) ∧ (w0.heap.size ≤ s_) ∧ (g ≠ s_) ∧ (s_ ≠ g) ∧ (gb109 ≠ s_) ∧ (s_ ≠ gb109) ∧ (gb115 ≠ s_) ∧ (s_ ≠ gb115) ∧ (IsS117 w0 w' g s0_0 t117) ∧ (KeepBut w w' g none) ∧ (Below w0.heap.size w0 w')) ?_ ?_
                      rotate_left
                      ·intro hJ19
                       refine three_ (i := 7) (j := 18) (k := 19) (Ni := some 54) (Nj := some 9) (Nk := some 10) (zl 22 7423) (zl 22 269439) (zl 22 531583) rfl rfl rfl rfl rfl rfl (three_of HT_.out (by kernel_rfl)) (by decide) (by decide) (by decide) (fun K hK => ?_) (fun K hK => ?_) (fun K hK => ?_)
                       ·skip
                        refine goes_ Try.func76 (by kernel_rfl) rfl #[.int .i64 (wrap64 (((rd_T26 x5_1 t112).f1) - 1))] (by rfl) rfl rfl y8  ?_
                        with_reducible refine (spec_l1Size.calls kj8 (wrap64 (((rd_T26 x5_1 t112).f1) - 1)) t118 _ A26.out).mono ?_
                        rintro e w' ⟨rfl, ⟨nd, rfl⟩⟩
                        refine ⟨_, rfl, ?_⟩
                        refine hK.out _ _ ⟨(blk_cell BK115.out 0).trans rfl, (blk_cell BK115.out 1).trans rfl⟩ (fun hHeld => ?_)
                        clear hK K
                        refine norm_ (a' := ?_) ?_ ?_
                        rotate_left
                        ·show Act.put _ (some 54) _ = _
                         simp only [Act.put, List.setIfInBounds_toArray, List.set_cons_zero, List.set_cons_succ, i64_w, i32_w]
                         rfl
                        refine pure_ (i := 8) (N := some 55) (v := ?_) (a' := ?_) (zl 22 7679) rfl rfl (any_of HT_.out (by kernel_rfl)) (fun _ _ _ h => h) (Or.inl ⟨by rfl, ?_⟩) ?_ ?_
                        rotate_left
                        ·intro w'
                         go_simp
                         with_reducible rfl
                        rotate_left
                        ·simp only [Act.put, List.setIfInBounds_toArray, List.set_cons_zero, List.set_cons_succ, i64_w, i32_w]
                         rfl
                        refine pure_ (i := 9) (N := some 56) (v := ?_) (a' := ?_) (zl 22 8191) rfl rfl (any_of HT_.out (by kernel_rfl)) (fun _ _ _ h => h) (Or.inl ⟨by rfl, ?_⟩) ?_ ?_
                        rotate_left
                        ·intro w'
                         go_simp
                         with_reducible rfl
                        rotate_left
                        ·simp only [Act.put, List.setIfInBounds_toArray, List.set_cons_zero, List.set_cons_succ, i64_w, i32_w]
                         rfl
                        refine pure_ (i := 13) (N := some 60) (v := ?_) (a' := ?_) (zl 22 16383) rfl rfl (any_of HT_.out (by kernel_rfl)) (fun _ _ _ h => h) (Or.inl ⟨by rfl, ?_⟩) ?_ ?_
                        rotate_left
                        ·intro w'
                         go_simp
                         with_reducible rfl
                        rotate_left
                        ·simp only [Act.put, List.setIfInBounds_toArray, List.set_cons_zero, List.set_cons_succ, i64_w, i32_w]
                         rfl
                        exact norm_ y2  (hJ7 () _ ⟨hHeld, (zr HO_5.out), (zb BK109.out), (zb BK115.out), (zHI0), (zHK), (zHB)⟩)
                       ·skip
                        refine box_step ?hg (N := 9) ?hd (cs := #[.int .i64 0, .int .i64 0]) (t := 26) ?hr ?_; (case hd => rfl); (case hg => rfl); (case hr => first | (go_simp; done) | (go_simp; rfl))
                        intro gb123 hg w42 hbox hb
                        have n0_ := zA (Kd.R_below (Kd.R_elderB (zr HO_5.out) gb123 (Nat.le_of_eq hg.symm)) hb)
                        have n1_ := zA (blk_below (g := gb109) (o := .cells #[.int .i64 t106, .int .i64 t107] 26 (0, 0)) (zb BK109.out) hb)
                        have n2_ := zA (IsS117.below (zHI0) hb)
                        have n3_ := zA (blk_below (g := gb115) (o := .cells #[.int .i64 ((rd_T26 x5_1 t112).f0), .int .i64 ((rd_T26 x5_1 t112).f1)] 26 (0, 0)) (zb BK115.out) hb)
                        have n4_ := zA (KeepBut.trans (zHK) (KeepBut.of_below hb g none) (.inl rfl))
                        have n5_ := zA (below_step (zHB) hb)
                        have n6_ := zA (hbox)
                        have n7_ := zA ((show w.heap.size ≤ gb123 from y32))
                        have n8_ := zA ((Nat.le_trans HW0.out (show w.heap.size ≤ gb123 from y32) : w0.heap.size ≤ gb123))
                        have n9_ := zA ((show gb109 ≠ gb123 from y11))
                        have n10_ := zA ((show gb123 ≠ gb109 from y12))
                        have n11_ := zA ((show gb115 ≠ gb123 from y4))
                        have n12_ := zA ((show gb123 ≠ gb115 from y5))
                        have n13_ := zA ((show g ≠ gb123 from y25))
                        have n14_ := zA ((show gb123 ≠ g from y26))
                        clear HO_5
                        clear BK109
                        clear HI0
                        clear BK115
                        clear HK
                        clear HB
                        have HO_5 := n0_
                        have BK109 := n1_
                        have HI0 := n2_
                        have BK115 := n3_
                        have HK := n4_
                        have HB := n5_
                        have BK123 := n6_
                        have GW123 := n7_
                        have GE123 := n8_
                        have NB109_123 := n9_
                        have NB123_109 := n10_
                        have NB115_123 := n11_
                        have NB123_115 := n12_
                        have NB0_123 := n13_
                        have NB123_0 := n14_
                        clear n0_ n1_ n2_ n3_ n4_ n5_ n6_ n7_ n8_ n9_ n10_ n11_ n12_ n13_ n14_
                        clear hb hbox hg
                        refine hK.out _ _ ⟨(blk_cell BK115.out 0).trans rfl, (blk_cell BK115.out 1).trans rfl⟩ (fun hHeld => ?_)
                        clear hK K
                        refine norm_ (a' := ?_) ?_ ?_
                        rotate_left
                        ·show Act.put _ (some 9) _ = _
                         simp only [Act.put, List.setIfInBounds_toArray, List.set_cons_zero, List.set_cons_succ, i64_w, i32_w]
                         rfl
                        exact norm_ y2  (hJ18 (gb123) _ ⟨hHeld, y34 , (zb BK109.out), (zb BK115.out), (zb BK123.out), GW123.out, GE123.out, NB0_123.out, NB123_0.out, NB109_123.out, NB123_109.out, NB115_123.out, NB123_115.out, (zHI0), (zHK), (zHB)⟩)
                       skip
                       refine box_step ?hg (N := 10) ?hd (cs := #[.int .i64 0, .int .i64 0]) (t := 26) ?hr ?_; (case hd => rfl); (case hg => rfl); (case hr => first | (go_simp; done) | (go_simp; rfl))
                       intro gb124 hg w42 hbox hb
                       have n0_ := zA (Kd.R_below (Kd.R_elderB (zr HO_5.out) gb124 (Nat.le_of_eq hg.symm)) hb)
                       have n1_ := zA (blk_below (g := gb109) (o := .cells #[.int .i64 t106, .int .i64 t107] 26 (0, 0)) (zb BK109.out) hb)
                       have n2_ := zA (IsS117.below (zHI0) hb)
                       have n3_ := zA (blk_below (g := gb115) (o := .cells #[.int .i64 ((rd_T26 x5_1 t112).f0), .int .i64 ((rd_T26 x5_1 t112).f1)] 26 (0, 0)) (zb BK115.out) hb)
                       have n4_ := zA (KeepBut.trans (zHK) (KeepBut.of_below hb g none) (.inl rfl))
                       have n5_ := zA (below_step (zHB) hb)
                       have n6_ := zA (hbox)
                       have n7_ := zA ((show w.heap.size ≤ gb124 from y33))
                       have n8_ := zA ((Nat.le_trans HW0.out (show w.heap.size ≤ gb124 from y33) : w0.heap.size ≤ gb124))
                       have n9_ := zA ((show gb109 ≠ gb124 from y13))
                       have n10_ := zA ((show gb124 ≠ gb109 from y14))
                       have n11_ := zA ((show gb115 ≠ gb124 from y6))
                       have n12_ := zA ((show gb124 ≠ gb115 from y7))
                       have n13_ := zA ((show g ≠ gb124 from y27))
                       have n14_ := zA ((show gb124 ≠ g from y28))
                       clear HO_5
                       clear BK109
                       clear HI0
                       clear BK115
                       clear HK
                       clear HB
                       have HO_5 := n0_
                       have BK109 := n1_
                       have HI0 := n2_
                       have BK115 := n3_
                       have HK := n4_
                       have HB := n5_
                       have BK124 := n6_
                       have GW124 := n7_
                       have GE124 := n8_
                       have NB109_124 := n9_
                       have NB124_109 := n10_
                       have NB115_124 := n11_
                       have NB124_115 := n12_
                       have NB0_124 := n13_
                       have NB124_0 := n14_
                       clear n0_ n1_ n2_ n3_ n4_ n5_ n6_ n7_ n8_ n9_ n10_ n11_ n12_ n13_ n14_
                       clear hb hbox hg
                       refine hK.out _ _ ⟨(blk_cell BK115.out 0).trans rfl, (blk_cell BK115.out 1).trans rfl⟩ (fun hHeld => ?_)
                       clear hK K
                       refine norm_ (a' := ?_) ?_ ?_
                       rotate_left
                       ·show Act.put _ (some 10) _ = _
                        simp only [Act.put, List.setIfInBounds_toArray, List.set_cons_zero, List.set_cons_succ, i64_w, i32_w]
                        rfl
                       exact norm_ y2  (hJ19 (gb124) _ ⟨hHeld, y34 , (zb BK109.out), (zb BK115.out), (zb BK124.out), GW124.out, GE124.out, NB0_124.out, NB124_0.out, NB109_124.out, NB124_109.out, NB115_124.out, NB124_115.out, (zHI0), (zHK), (zHB)⟩)
                      skip
                      rintro gb124 w43 ⟨hS_, h0_, h1_, h2_, h3_, h4_, h5_, h6_, h7_, h8_, h9_, h10_, h11_, h12_, h13_, h14_⟩
                      have n0_ : Aside0 (Kd.R k26 26 w43 w.heap.size (fun k_ => k_ ≠ gb109 ∧ k_ ≠ gb115 ∧ k_ ≠ gb124) (.slice (some ad114) x5_1.length co33) x5_1) := ⟨h0_⟩
                      have n1_ : Aside0 (w43.heap[gb109]? = some (.cells #[.int .i64 t106, .int .i64 t107] 26 (0, 0))) := ⟨h1_⟩
                      have n2_ : Aside0 (w43.heap[gb115]? = some (.cells #[.int .i64 ((rd_T26 x5_1 t112).f0), .int .i64 ((rd_T26 x5_1 t112).f1)] 26 (0, 0))) := ⟨h2_⟩
                      have n3_ : Aside0 (w43.heap[gb124]? = some (.cells #[.int .i64 0, .int .i64 0] 26 (0, 0))) := ⟨h3_⟩
                      have n4_ : Aside0 (w.heap.size ≤ gb124) := ⟨h4_⟩
                      have n5_ : Aside0 (w0.heap.size ≤ gb124) := ⟨h5_⟩
                      have n6_ : Aside0 (g ≠ gb124) := ⟨h6_⟩
                      have n7_ : Aside0 (gb124 ≠ g) := ⟨h7_⟩
                      have n8_ : Aside0 (gb109 ≠ gb124) := ⟨h8_⟩
                      have n9_ : Aside0 (gb124 ≠ gb109) := ⟨h9_⟩
                      have n10_ : Aside0 (gb115 ≠ gb124) := ⟨h10_⟩
                      have n11_ : Aside0 (gb124 ≠ gb115) := ⟨h11_⟩
                      have n12_ : Aside0 (IsS117 w0 w43 g s0_0 t117) := ⟨h12_⟩
                      have n13_ : Aside0 (KeepBut w w43 g none) := ⟨h13_⟩
                      have n14_ : Aside0 (Below w0.heap.size w0 w43) := ⟨h14_⟩
                      clear HO_5
                      clear BK109
                      clear BK115
                      clear HI0
                      clear HK
                      clear HB
                      clear h0_ h1_ h2_ h3_ h4_ h5_ h6_ h7_ h8_ h9_ h10_ h11_ h12_ h13_ h14_
                      have HO_5 := n0_
                      have BK109 := n1_
                      have BK115 := n2_
                      have BK124 := n3_
                      have GW124 := n4_
                      have GE124 := n5_
                      have NB0_124 := n6_
                      have NB124_0 := n7_
                      have NB109_124 := n8_
                      have NB124_109 := n9_
                      have NB115_124 := n10_
                      have NB124_115 := n11_
                      have HI0 := n12_
                      have HK := n13_
                      have HB := n14_
                      clear n0_ n1_ n2_ n3_ n4_ n5_ n6_ n7_ n8_ n9_ n10_ n11_ n12_ n13_ n14_
                      have hHeld : w43.cell? ⟨gb115, 0, none⟩ = some (.int .i64 ((rd_T26 x5_1 t112).f0)) ∧ w43.cell? ⟨gb115, 1, none⟩ = some (.int .i64 ((rd_T26 x5_1 t112).f1)) := hS_
                      refine norm_ (a' := ?_) ?_ ?_
                      rotate_left
                      ·simp only [putAll, Act.put, List.setIfInBounds_toArray, List.set_cons_zero, List.set_cons_succ]
                       rfl
                      refine two_ (i := 7) (j := 18) (Ni := some 54) (Nj := some 9) (zl 22 531711) (zl 22 793727) rfl rfl rfl rfl (two_of HT_.out (by kernel_rfl)) (by decide) (by decide) (fun K hK => ?_) (fun K hK => ?_)
                      ·skip
                       refine goes_ Try.func76 (by kernel_rfl) rfl #[.int .i64 (wrap64 (((rd_T26 x5_1 t112).f1) - 1))] (by rfl) rfl rfl y8  ?_
                       with_reducible refine (spec_l1Size.calls kj8 (wrap64 (((rd_T26 x5_1 t112).f1) - 1)) t118 _ A26.out).mono ?_
                       rintro e w' ⟨rfl, ⟨nd, rfl⟩⟩
                       refine ⟨_, rfl, ?_⟩
                       refine hK.out _ _ ⟨(blk_cell BK115.out 0).trans rfl, (blk_cell BK115.out 1).trans rfl⟩ (fun hHeld => ?_)
                       clear hK K
                       refine norm_ (a' := ?_) ?_ ?_
                       rotate_left
                       ·show Act.put _ (some 54) _ = _
                        simp only [Act.put, List.setIfInBounds_toArray, List.set_cons_zero, List.set_cons_succ, i64_w, i32_w]
                        rfl
                       refine pure_ (i := 8) (N := some 55) (v := ?_) (a' := ?_) (zl 22 531967) rfl rfl (any_of HT_.out (by kernel_rfl)) (fun _ _ _ h => h) (Or.inl ⟨by rfl, ?_⟩) ?_ ?_
                       rotate_left
                       ·intro w'
                        go_simp
                        with_reducible rfl
                       rotate_left
                       ·simp only [Act.put, List.setIfInBounds_toArray, List.set_cons_zero, List.set_cons_succ, i64_w, i32_w]
                        rfl
                       refine pure_ (i := 9) (N := some 56) (v := ?_) (a' := ?_) (zl 22 532479) rfl rfl (any_of HT_.out (by kernel_rfl)) (fun _ _ _ h => h) (Or.inl ⟨by rfl, ?_⟩) ?_ ?_
                       rotate_left
                       ·intro w'
                        go_simp
                        with_reducible rfl
                       rotate_left
                       ·simp only [Act.put, List.setIfInBounds_toArray, List.set_cons_zero, List.set_cons_succ, i64_w, i32_w]
                        rfl
                       refine pure_ (i := 13) (N := some 60) (v := ?_) (a' := ?_) (zl 22 540671) rfl rfl (any_of HT_.out (by kernel_rfl)) (fun _ _ _ h => h) (Or.inl ⟨by rfl, ?_⟩) ?_ ?_
                       rotate_left
                       ·intro w'
                        go_simp
                        with_reducible rfl
                       rotate_left
                       ·simp only [Act.put, List.setIfInBounds_toArray, List.set_cons_zero, List.set_cons_succ, i64_w, i32_w]
                        rfl
                       exact norm_ y2  (hJ7_19 (gb124) _ ⟨hHeld, (zr HO_5.out), (zb BK109.out), (zb BK115.out), (zb BK124.out), GW124.out, GE124.out, NB0_124.out, NB124_0.out, NB109_124.out, NB124_109.out, NB115_124.out, NB124_115.out, (zHI0), (zHK), (zHB)⟩)
                      skip
                      refine box_step ?hg (N := 9) ?hd (cs := #[.int .i64 0, .int .i64 0]) (t := 26) ?hr ?_; (case hd => rfl); (case hg => rfl); (case hr => first | (go_simp; done) | (go_simp; rfl))
                      intro gb123 hg w44 hbox hb
                      have n0_ := zA (Kd.R_below (Kd.R_elderB (zr HO_5.out) gb123 (Nat.le_of_eq hg.symm)) hb)
                      have n1_ := zA (blk_below (g := gb109) (o := .cells #[.int .i64 t106, .int .i64 t107] 26 (0, 0)) (zb BK109.out) hb)
                      have n2_ := zA (IsS117.below (zHI0) hb)
                      have n3_ := zA (blk_below (g := gb115) (o := .cells #[.int .i64 ((rd_T26 x5_1 t112).f0), .int .i64 ((rd_T26 x5_1 t112).f1)] 26 (0, 0)) (zb BK115.out) hb)
                      have n4_ := zA (blk_below (g := gb124) (o := .cells #[.int .i64 0, .int .i64 0] 26 (0, 0)) (zb BK124.out) hb)
                      have n5_ := zA (KeepBut.trans (zHK) (KeepBut.of_below hb g none) (.inl rfl))
                      have n6_ := zA (below_step (zHB) hb)
                      have n7_ := zA (hbox)
                      have n8_ := zA ((show w.heap.size ≤ gb123 from y32))
                      have n9_ := zA ((Nat.le_trans HW0.out (show w.heap.size ≤ gb123 from y32) : w0.heap.size ≤ gb123))
                      have n10_ := zA ((show gb109 ≠ gb123 from y11))
                      have n11_ := zA ((show gb123 ≠ gb109 from y12))
                      have n12_ := zA ((show gb115 ≠ gb123 from y4))
                      have n13_ := zA ((show gb123 ≠ gb115 from y5))
                      have n14_ := zA ((show gb124 ≠ gb123 from y15))
                      have n15_ := zA ((show gb123 ≠ gb124 from y16))
                      have n16_ := zA ((show g ≠ gb123 from y25))
                      have n17_ := zA ((show gb123 ≠ g from y26))
                      clear HO_5
                      clear BK109
                      clear HI0
                      clear BK115
                      clear BK124
                      clear HK
                      clear HB
                      have HO_5 := n0_
                      have BK109 := n1_
                      have HI0 := n2_
                      have BK115 := n3_
                      have BK124 := n4_
                      have HK := n5_
                      have HB := n6_
                      have BK123 := n7_
                      have GW123 := n8_
                      have GE123 := n9_
                      have NB109_123 := n10_
                      have NB123_109 := n11_
                      have NB115_123 := n12_
                      have NB123_115 := n13_
                      have NB124_123 := n14_
                      have NB123_124 := n15_
                      have NB0_123 := n16_
                      have NB123_0 := n17_
                      clear n0_ n1_ n2_ n3_ n4_ n5_ n6_ n7_ n8_ n9_ n10_ n11_ n12_ n13_ n14_ n15_ n16_ n17_
                      clear hb hbox hg
                      refine hK.out _ _ ⟨(blk_cell BK115.out 0).trans rfl, (blk_cell BK115.out 1).trans rfl⟩ (fun hHeld => ?_)
                      clear hK K
                      refine norm_ (a' := ?_) ?_ ?_
                      rotate_left
                      ·show Act.put _ (some 9) _ = _
                       simp only [Act.put, List.setIfInBounds_toArray, List.set_cons_zero, List.set_cons_succ, i64_w, i32_w]
                       rfl
                      exact norm_ y2  (hJ18_19 (gb123, gb124) _ ⟨hHeld, y29 , (zb BK109.out), (zb BK115.out), (zb BK123.out), (zb BK124.out), GW123.out, GE123.out, NB0_123.out, NB123_0.out, NB109_123.out, NB123_109.out, NB115_123.out, NB123_115.out, NB124_123.out, NB123_124.out, GW124.out, GE124.out, NB0_124.out, NB124_0.out, NB109_124.out, NB124_109.out, NB115_124.out, NB124_115.out, (zHI0), (zHK), (zHB)⟩)
                     skip
                     rintro gb123 w43 ⟨hS_, h0_, h1_, h2_, h3_, h4_, h5_, h6_, h7_, h8_, h9_, h10_, h11_, h12_, h13_, h14_⟩
                     have n0_ : Aside0 (Kd.R k26 26 w43 w.heap.size (fun k_ => k_ ≠ gb109 ∧ k_ ≠ gb115 ∧ k_ ≠ gb123) (.slice (some ad114) x5_1.length co33) x5_1) := ⟨h0_⟩
                     have n1_ : Aside0 (w43.heap[gb109]? = some (.cells #[.int .i64 t106, .int .i64 t107] 26 (0, 0))) := ⟨h1_⟩
                     have n2_ : Aside0 (w43.heap[gb115]? = some (.cells #[.int .i64 ((rd_T26 x5_1 t112).f0), .int .i64 ((rd_T26 x5_1 t112).f1)] 26 (0, 0))) := ⟨h2_⟩
                     have n3_ : Aside0 (w43.heap[gb123]? = some (.cells #[.int .i64 0, .int .i64 0] 26 (0, 0))) := ⟨h3_⟩
                     have n4_ : Aside0 (w.heap.size ≤ gb123) := ⟨h4_⟩
                     have n5_ : Aside0 (w0.heap.size ≤ gb123) := ⟨h5_⟩
                     have n6_ : Aside0 (g ≠ gb123) := ⟨h6_⟩
                     have n7_ : Aside0 (gb123 ≠ g) := ⟨h7_⟩
                     have n8_ : Aside0 (gb109 ≠ gb123) := ⟨h8_⟩
                     have n9_ : Aside0 (gb123 ≠ gb109) := ⟨h9_⟩
                     have n10_ : Aside0 (gb115 ≠ gb123) := ⟨h10_⟩
                     have n11_ : Aside0 (gb123 ≠ gb115) := ⟨h11_⟩
                     have n12_ : Aside0 (IsS117 w0 w43 g s0_0 t117) := ⟨h12_⟩
                     have n13_ : Aside0 (KeepBut w w43 g none) := ⟨h13_⟩
                     have n14_ : Aside0 (Below w0.heap.size w0 w43) := ⟨h14_⟩
                     clear HO_5
                     clear BK109
                     clear BK115
                     clear HI0
                     clear HK
                     clear HB
                     clear h0_ h1_ h2_ h3_ h4_ h5_ h6_ h7_ h8_ h9_ h10_ h11_ h12_ h13_ h14_
                     have HO_5 := n0_
                     have BK109 := n1_
                     have BK115 := n2_
                     have BK123 := n3_
                     have GW123 := n4_
                     have GE123 := n5_
                     have NB0_123 := n6_
                     have NB123_0 := n7_
                     have NB109_123 := n8_
                     have NB123_109 := n9_
                     have NB115_123 := n10_
                     have NB123_115 := n11_
                     have HI0 := n12_
                     have HK := n13_
                     have HB := n14_
                     clear n0_ n1_ n2_ n3_ n4_ n5_ n6_ n7_ n8_ n9_ n10_ n11_ n12_ n13_ n14_
                     have hHeld : w43.cell? ⟨gb115, 0, none⟩ = some (.int .i64 ((rd_T26 x5_1 t112).f0)) ∧ w43.cell? ⟨gb115, 1, none⟩ = some (.int .i64 ((rd_T26 x5_1 t112).f1)) := hS_
                     refine norm_ (a' := ?_) ?_ ?_
                     rotate_left
                     ·simp only [putAll, Act.put, List.setIfInBounds_toArray, List.set_cons_zero, List.set_cons_succ]
                      rfl
                     refine two_ (i := 7) (j := 19) (Ni := some 54) (Nj := some 10) (zl 22 269567) (zl 22 793727) rfl rfl rfl rfl (two_of HT_.out (by kernel_rfl)) (by decide) (by decide) (fun K hK => ?_) (fun K hK => ?_)
                     ·skip
                      refine goes_ Try.func76 (by kernel_rfl) rfl #[.int .i64 (wrap64 (((rd_T26 x5_1 t112).f1) - 1))] (by rfl) rfl rfl y8  ?_
                      with_reducible refine (spec_l1Size.calls kj8 (wrap64 (((rd_T26 x5_1 t112).f1) - 1)) t118 _ A26.out).mono ?_
                      rintro e w' ⟨rfl, ⟨nd, rfl⟩⟩
                      refine ⟨_, rfl, ?_⟩
                      refine hK.out _ _ ⟨(blk_cell BK115.out 0).trans rfl, (blk_cell BK115.out 1).trans rfl⟩ (fun hHeld => ?_)
                      clear hK K
                      refine norm_ (a' := ?_) ?_ ?_
                      rotate_left
                      ·show Act.put _ (some 54) _ = _
                       simp only [Act.put, List.setIfInBounds_toArray, List.set_cons_zero, List.set_cons_succ, i64_w, i32_w]
                       rfl
                      refine pure_ (i := 8) (N := some 55) (v := ?_) (a' := ?_) (zl 22 269823) rfl rfl (any_of HT_.out (by kernel_rfl)) (fun _ _ _ h => h) (Or.inl ⟨by rfl, ?_⟩) ?_ ?_
                      rotate_left
                      ·intro w'
                       go_simp
                       with_reducible rfl
                      rotate_left
                      ·simp only [Act.put, List.setIfInBounds_toArray, List.set_cons_zero, List.set_cons_succ, i64_w, i32_w]
                       rfl
                      refine pure_ (i := 9) (N := some 56) (v := ?_) (a' := ?_) (zl 22 270335) rfl rfl (any_of HT_.out (by kernel_rfl)) (fun _ _ _ h => h) (Or.inl ⟨by rfl, ?_⟩) ?_ ?_
                      rotate_left
                      ·intro w'
                       go_simp
                       with_reducible rfl
                      rotate_left
                      ·simp only [Act.put, List.setIfInBounds_toArray, List.set_cons_zero, List.set_cons_succ, i64_w, i32_w]
                       rfl
                      refine pure_ (i := 13) (N := some 60) (v := ?_) (a' := ?_) (zl 22 278527) rfl rfl (any_of HT_.out (by kernel_rfl)) (fun _ _ _ h => h) (Or.inl ⟨by rfl, ?_⟩) ?_ ?_
                      rotate_left
                      ·intro w'
                       go_simp
                       with_reducible rfl
                      rotate_left
                      ·simp only [Act.put, List.setIfInBounds_toArray, List.set_cons_zero, List.set_cons_succ, i64_w, i32_w]
                       rfl
                      exact norm_ y2  (hJ7_18 (gb123) _ ⟨hHeld, (zr HO_5.out), (zb BK109.out), (zb BK115.out), (zb BK123.out), GW123.out, GE123.out, NB0_123.out, NB123_0.out, NB109_123.out, NB123_109.out, NB115_123.out, NB123_115.out, (zHI0), (zHK), (zHB)⟩)
                     skip
                     refine box_step ?hg (N := 10) ?hd (cs := #[.int .i64 0, .int .i64 0]) (t := 26) ?hr ?_; (case hd => rfl); (case hg => rfl); (case hr => first | (go_simp; done) | (go_simp; rfl))
                     intro gb124 hg w44 hbox hb
                     have n0_ := zA (Kd.R_below (Kd.R_elderB (zr HO_5.out) gb124 (Nat.le_of_eq hg.symm)) hb)
                     have n1_ := zA (blk_below (g := gb109) (o := .cells #[.int .i64 t106, .int .i64 t107] 26 (0, 0)) (zb BK109.out) hb)
                     have n2_ := zA (IsS117.below (zHI0) hb)
                     have n3_ := zA (blk_below (g := gb115) (o := .cells #[.int .i64 ((rd_T26 x5_1 t112).f0), .int .i64 ((rd_T26 x5_1 t112).f1)] 26 (0, 0)) (zb BK115.out) hb)
                     have n4_ := zA (blk_below (g := gb123) (o := .cells #[.int .i64 0, .int .i64 0] 26 (0, 0)) (zb BK123.out) hb)
                     have n5_ := zA (KeepBut.trans (zHK) (KeepBut.of_below hb g none) (.inl rfl))
                     have n6_ := zA (below_step (zHB) hb)
                     have n7_ := zA (hbox)
                     have n8_ := zA ((show w.heap.size ≤ gb124 from y33))
                     have n9_ := zA ((Nat.le_trans HW0.out (show w.heap.size ≤ gb124 from y33) : w0.heap.size ≤ gb124))
                     have n10_ := zA ((show gb109 ≠ gb124 from y13))
                     have n11_ := zA ((show gb124 ≠ gb109 from y14))
                     have n12_ := zA ((show gb115 ≠ gb124 from y6))
                     have n13_ := zA ((show gb124 ≠ gb115 from y7))
                     have n14_ := zA ((show gb123 ≠ gb124 from y17))
                     have n15_ := zA ((show gb124 ≠ gb123 from y18))
                     have n16_ := zA ((show g ≠ gb124 from y27))
                     have n17_ := zA ((show gb124 ≠ g from y28))
                     clear HO_5
                     clear BK109
                     clear HI0
                     clear BK115
                     clear BK123
                     clear HK
                     clear HB
                     have HO_5 := n0_
                     have BK109 := n1_
                     have HI0 := n2_
                     have BK115 := n3_
                     have BK123 := n4_
                     have HK := n5_
                     have HB := n6_
                     have BK124 := n7_
                     have GW124 := n8_
                     have GE124 := n9_
                     have NB109_124 := n10_
                     have NB124_109 := n11_
                     have NB115_124 := n12_
                     have NB124_115 := n13_
                     have NB123_124 := n14_
                     have NB124_123 := n15_
                     have NB0_124 := n16_
                     have NB124_0 := n17_
                     clear n0_ n1_ n2_ n3_ n4_ n5_ n6_ n7_ n8_ n9_ n10_ n11_ n12_ n13_ n14_ n15_ n16_ n17_
                     clear hb hbox hg
                     refine hK.out _ _ ⟨(blk_cell BK115.out 0).trans rfl, (blk_cell BK115.out 1).trans rfl⟩ (fun hHeld => ?_)
                     clear hK K
                     refine norm_ (a' := ?_) ?_ ?_
                     rotate_left
                     ·show Act.put _ (some 10) _ = _
                      simp only [Act.put, List.setIfInBounds_toArray, List.set_cons_zero, List.set_cons_succ, i64_w, i32_w]
                      rfl
                     exact norm_ y2  (hJ18_19 (gb123, gb124) _ ⟨hHeld, y30 , (zb BK109.out), (zb BK115.out), (zb BK123.out), (zb BK124.out), GW123.out, GE123.out, NB0_123.out, NB123_0.out, NB109_123.out, NB123_109.out, NB115_123.out, NB123_115.out, NB124_123.out, NB123_124.out, GW124.out, GE124.out, NB0_124.out, NB124_0.out, NB109_124.out, NB124_109.out, NB115_124.out, NB124_115.out, (zHI0), (zHK), (zHB)⟩)
                    skip
                    rintro _ w42 ⟨hS_, h0_, h1_, h2_, h3_, h4_, h5_⟩
                    have n0_ : Aside0 (Kd.R k26 26 w42 w.heap.size (fun k_ => k_ ≠ gb109 ∧ k_ ≠ gb115) (.slice (some ad114) x5_1.length co33) x5_1) := ⟨h0_⟩
                    have n1_ : Aside0 (w42.heap[gb109]? = some (.cells #[.int .i64 t106, .int .i64 t107] 26 (0, 0))) := ⟨h1_⟩
                    have n2_ : Aside0 (w42.heap[gb115]? = some (.cells #[.int .i64 ((rd_T26 x5_1 t112).f0), .int .i64 ((rd_T26 x5_1 t112).f1)] 26 (0, 0))) := ⟨h2_⟩
                    have n3_ : Aside0 (IsS117 w0 w42 g s0_0 t117) := ⟨h3_⟩
                    have n4_ : Aside0 (KeepBut w w42 g none) := ⟨h4_⟩
                    have n5_ : Aside0 (Below w0.heap.size w0 w42) := ⟨h5_⟩
                    clear HO_5
                    clear BK109
                    clear BK115
                    clear HI0
                    clear HK
                    clear HB
                    clear h0_ h1_ h2_ h3_ h4_ h5_
                    have HO_5 := n0_
                    have BK109 := n1_
                    have BK115 := n2_
                    have HI0 := n3_
                    have HK := n4_
                    have HB := n5_
                    clear n0_ n1_ n2_ n3_ n4_ n5_
                    have hHeld : w42.cell? ⟨gb115, 0, none⟩ = some (.int .i64 ((rd_T26 x5_1 t112).f0)) ∧ w42.cell? ⟨gb115, 1, none⟩ = some (.int .i64 ((rd_T26 x5_1 t112).f1)) := hS_
                    refine norm_ (a' := ?_) ?_ ?_
                    rotate_left
                    ·simp only [putAll, Act.put, List.setIfInBounds_toArray, List.set_cons_zero, List.set_cons_succ]
                     rfl
                    refine three_ (i := 14) (j := 18) (k := 19) (Ni := some 61) (Nj := some 9) (Nk := some 10) (zl 22 32767) (zl 22 278527) (zl 22 540671) rfl rfl rfl rfl rfl rfl (three_of HT_.out (by kernel_rfl)) (by decide) (by decide) (by decide) (fun K hK => ?_) (fun K hK => ?_) (fun K hK => ?_)
                    ·skip
                     refine goes_ Try.func93 (by kernel_rfl) rfl #[.agg #[.int .i64 (wrap64 (((rd_T26 x5_1 t112).f0) - (Int.tmod ((rd_T26 x5_1 t112).f0) t118))), .int .i64 (wrap64 (((rd_T26 x5_1 t112).f1) - 1))]] (by rfl) rfl rfl y8  ?_
                     with_reducible refine (spec_l1Halves.calls kj8 (wrap64 (((rd_T26 x5_1 t112).f0) - (Int.tmod ((rd_T26 x5_1 t112).f0) t118))) (wrap64 (((rd_T26 x5_1 t112).f1) - 1)) t119 t120 t121 t122 _ A28.out).mono ?_
                     rintro e w43 ⟨rfl, hb⟩
                     refine ⟨_, rfl, ?_⟩
                     have n0_ := zA (Kd.R_below (zr HO_5.out) hb)
                     have n1_ := zA (blk_below (g := gb109) (o := .cells #[.int .i64 t106, .int .i64 t107] 26 (0, 0)) (zb BK109.out) hb)
                     have n2_ := zA (IsS117.below (zHI0) hb)
                     have n3_ := zA (blk_below (g := gb115) (o := .cells #[.int .i64 ((rd_T26 x5_1 t112).f0), .int .i64 ((rd_T26 x5_1 t112).f1)] 26 (0, 0)) (zb BK115.out) hb)
                     have n4_ := zA (KeepBut.trans (zHK) (KeepBut.of_below hb g none) (.inl rfl))
                     have n5_ := zA (below_step (zHB) hb)
                     clear HO_5
                     clear BK109
                     clear HI0
                     clear BK115
                     clear HK
                     clear HB
                     have HO_5 := n0_
                     have BK109 := n1_
                     have HI0 := n2_
                     have BK115 := n3_
                     have HK := n4_
                     have HB := n5_
                     clear n0_ n1_ n2_ n3_ n4_ n5_
                     (try clear hb)
                     (try clear hb2)
                     (try clear hk)
                     (try clear hi)
                     refine hK.out _ _ ⟨(blk_cell BK115.out 0).trans rfl, (blk_cell BK115.out 1).trans rfl⟩ (fun hHeld => ?_)
                     clear hK K
                     refine norm_ (a' := ?_) ?_ ?_
                     rotate_left
                     ·show Act.put _ (some 61) _ = _
                      simp only [Act.put, List.setIfInBounds_toArray, List.set_cons_zero, List.set_cons_succ, i64_w, i32_w]
                      rfl
                     refine pure_ (i := 15) (N := some 46) (v := ?_) (a' := ?_) (zl 22 65535) rfl rfl (any_of HT_.out (by kernel_rfl)) (fun _ _ _ h => h) (Or.inl ⟨by rfl, ?_⟩) ?_ ?_
                     rotate_left
                     ·intro w'
                      go_simp
                      with_reducible rfl
                     rotate_left
                     ·simp only [Act.put, List.setIfInBounds_toArray, List.set_cons_zero, List.set_cons_succ, i64_w, i32_w]
                      rfl
                     refine pure_ (i := 16) (N := some 62) (v := ?_) (a' := ?_) (zl 22 131071) rfl rfl (any_of HT_.out (by kernel_rfl)) (fun _ _ _ h => h) (Or.inl ⟨by rfl, ?_⟩) ?_ ?_
                     rotate_left
                     ·intro w'
                      go_simp
                      with_reducible rfl
                     rotate_left
                     ·simp only [Act.put, List.setIfInBounds_toArray, List.set_cons_zero, List.set_cons_succ, i64_w, i32_w]
                      rfl
                     refine pure_ (i := 17) (N := some 63) (v := ?_) (a' := ?_) (zl 22 262143) rfl rfl (any_of HT_.out (by kernel_rfl)) (fun _ _ _ h => h) (Or.inl ⟨by rfl, ?_⟩) ?_ ?_
                     rotate_left
                     ·intro w'
                      go_simp
                      with_reducible rfl
                     rotate_left
                     ·simp only [Act.put, List.setIfInBounds_toArray, List.set_cons_zero, List.set_cons_succ, i64_w, i32_w]
                      rfl
                     exact norm_ y2  (hJ7_14 () _ ⟨hHeld, (zr HO_5.out), (zb BK109.out), (zb BK115.out), (zHI0), (zHK), (zHB)⟩)
                    ·skip
                     refine box_step ?hg (N := 9) ?hd (cs := #[.int .i64 0, .int .i64 0]) (t := 26) ?hr ?_; (case hd => rfl); (case hg => rfl); (case hr => first | (go_simp; done) | (go_simp; rfl))
                     intro gb123 hg w43 hbox hb
                     have n0_ := zA (Kd.R_below (Kd.R_elderB (zr HO_5.out) gb123 (Nat.le_of_eq hg.symm)) hb)
                     have n1_ := zA (blk_below (g := gb109) (o := .cells #[.int .i64 t106, .int .i64 t107] 26 (0, 0)) (zb BK109.out) hb)
                     have n2_ := zA (IsS117.below (zHI0) hb)
                     have n3_ := zA (blk_below (g := gb115) (o := .cells #[.int .i64 ((rd_T26 x5_1 t112).f0), .int .i64 ((rd_T26 x5_1 t112).f1)] 26 (0, 0)) (zb BK115.out) hb)
                     have n4_ := zA (KeepBut.trans (zHK) (KeepBut.of_below hb g none) (.inl rfl))
                     have n5_ := zA (below_step (zHB) hb)
                     have n6_ := zA (hbox)
                     have n7_ := zA ((show w.heap.size ≤ gb123 from y32))
                     have n8_ := zA ((Nat.le_trans HW0.out (show w.heap.size ≤ gb123 from y32) : w0.heap.size ≤ gb123))
                     have n9_ := zA ((show gb109 ≠ gb123 from y11))
                     have n10_ := zA ((show gb123 ≠ gb109 from y12))
                     have n11_ := zA ((show gb115 ≠ gb123 from y4))
                     have n12_ := zA ((show gb123 ≠ gb115 from y5))
                     have n13_ := zA ((show g ≠ gb123 from y25))
                     have n14_ := zA ((show gb123 ≠ g from y26))
                     clear HO_5
                     clear BK109
                     clear HI0
                     clear BK115
                     clear HK
                     clear HB
                     have HO_5 := n0_
                     have BK109 := n1_
                     have HI0 := n2_
                     have BK115 := n3_
                     have HK := n4_
                     have HB := n5_
                     have BK123 := n6_
                     have GW123 := n7_
                     have GE123 := n8_
                     have NB109_123 := n9_
                     have NB123_109 := n10_
                     have NB115_123 := n11_
                     have NB123_115 := n12_
                     have NB0_123 := n13_
                     have NB123_0 := n14_
                     clear n0_ n1_ n2_ n3_ n4_ n5_ n6_ n7_ n8_ n9_ n10_ n11_ n12_ n13_ n14_
                     clear hb hbox hg
                     refine hK.out _ _ ⟨(blk_cell BK115.out 0).trans rfl, (blk_cell BK115.out 1).trans rfl⟩ (fun hHeld => ?_)
                     clear hK K
                     refine norm_ (a' := ?_) ?_ ?_
                     rotate_left
                     ·show Act.put _ (some 9) _ = _
                      simp only [Act.put, List.setIfInBounds_toArray, List.set_cons_zero, List.set_cons_succ, i64_w, i32_w]
                      rfl
                     exact norm_ y2  (hJ7_18 (gb123) _ ⟨hHeld, y34 , (zb BK109.out), (zb BK115.out), (zb BK123.out), GW123.out, GE123.out, NB0_123.out, NB123_0.out, NB109_123.out, NB123_109.out, NB115_123.out, NB123_115.out, (zHI0), (zHK), (zHB)⟩)
                    skip
                    refine box_step ?hg (N := 10) ?hd (cs := #[.int .i64 0, .int .i64 0]) (t := 26) ?hr ?_; (case hd => rfl); (case hg => rfl); (case hr => first | (go_simp; done) | (go_simp; rfl))
                    intro gb124 hg w43 hbox hb
                    have n0_ := zA (Kd.R_below (Kd.R_elderB (zr HO_5.out) gb124 (Nat.le_of_eq hg.symm)) hb)
                    have n1_ := zA (blk_below (g := gb109) (o := .cells #[.int .i64 t106, .int .i64 t107] 26 (0, 0)) (zb BK109.out) hb)
                    have n2_ := zA (IsS117.below (zHI0) hb)
                    have n3_ := zA (blk_below (g := gb115) (o := .cells #[.int .i64 ((rd_T26 x5_1 t112).f0), .int .i64 ((rd_T26 x5_1 t112).f1)] 26 (0, 0)) (zb BK115.out) hb)
                    have n4_ := zA (KeepBut.trans (zHK) (KeepBut.of_below hb g none) (.inl rfl))
                    have n5_ := zA (below_step (zHB) hb)
                    have n6_ := zA (hbox)
                    have n7_ := zA ((show w.heap.size ≤ gb124 from y33))
                    have n8_ := zA ((Nat.le_trans HW0.out (show w.heap.size ≤ gb124 from y33) : w0.heap.size ≤ gb124))
                    have n9_ := zA ((show gb109 ≠ gb124 from y13))
                    have n10_ := zA ((show gb124 ≠ gb109 from y14))
                    have n11_ := zA ((show gb115 ≠ gb124 from y6))
                    have n12_ := zA ((show gb124 ≠ gb115 from y7))
                    have n13_ := zA ((show g ≠ gb124 from y27))
                    have n14_ := zA ((show gb124 ≠ g from y28))
                    clear HO_5
                    clear BK109
                    clear HI0
                    clear BK115
                    clear HK
                    clear HB
                    have HO_5 := n0_
                    have BK109 := n1_
                    have HI0 := n2_
                    have BK115 := n3_
                    have HK := n4_
                    have HB := n5_
                    have BK124 := n6_
                    have GW124 := n7_
                    have GE124 := n8_
                    have NB109_124 := n9_
                    have NB124_109 := n10_
                    have NB115_124 := n11_
                    have NB124_115 := n12_
                    have NB0_124 := n13_
                    have NB124_0 := n14_
                    clear n0_ n1_ n2_ n3_ n4_ n5_ n6_ n7_ n8_ n9_ n10_ n11_ n12_ n13_ n14_
                    clear hb hbox hg
                    refine hK.out _ _ ⟨(blk_cell BK115.out 0).trans rfl, (blk_cell BK115.out 1).trans rfl⟩ (fun hHeld => ?_)
                    clear hK K
                    refine norm_ (a' := ?_) ?_ ?_
                    rotate_left
                    ·show Act.put _ (some 10) _ = _
                     simp only [Act.put, List.setIfInBounds_toArray, List.set_cons_zero, List.set_cons_succ, i64_w, i32_w]
                     rfl
                    exact norm_ y2  (hJ7_19 (gb124) _ ⟨hHeld, y34 , (zb BK109.out), (zb BK115.out), (zb BK124.out), GW124.out, GE124.out, NB0_124.out, NB124_0.out, NB109_124.out, NB124_109.out, NB115_124.out, NB124_115.out, (zHI0), (zHK), (zHB)⟩)
                   skip
                   rintro ⟨gb123, gb124⟩ w44 ⟨hS_, h0_, h1_, h2_, h3_, h4_, h5_, h6_, h7_, h8_, h9_, h10_, h11_, h12_, h13_, h14_, h15_, h16_, h17_, h18_, h19_, h20_, h21_, h22_, h23_, h24_, h25_⟩
                   have n0_ : Aside0 (Kd.R k26 26 w44 w.heap.size (fun k_ => k_ ≠ gb109 ∧ k_ ≠ gb115 ∧ k_ ≠ gb123 ∧ k_ ≠ gb124) (.slice (some ad114) x5_1.length co33) x5_1) := ⟨h0_⟩
                   have n1_ : Aside0 (w44.heap[gb109]? = some (.cells #[.int .i64 t106, .int .i64 t107] 26 (0, 0))) := ⟨h1_⟩
                   have n2_ : Aside0 (w44.heap[gb115]? = some (.cells #[.int .i64 ((rd_T26 x5_1 t112).f0), .int .i64 ((rd_T26 x5_1 t112).f1)] 26 (0, 0))) := ⟨h2_⟩
                   have n3_ : Aside0 (w44.heap[gb123]? = some (.cells #[.int .i64 0, .int .i64 0] 26 (0, 0))) := ⟨h3_⟩
                   have n4_ : Aside0 (w44.heap[gb124]? = some (.cells #[.int .i64 0, .int .i64 0] 26 (0, 0))) := ⟨h4_⟩
                   have n5_ : Aside0 (w.heap.size ≤ gb123) := ⟨h5_⟩
                   have n6_ : Aside0 (w0.heap.size ≤ gb123) := ⟨h6_⟩
                   have n7_ : Aside0 (g ≠ gb123) := ⟨h7_⟩
                   have n8_ : Aside0 (gb123 ≠ g) := ⟨h8_⟩
                   have n9_ : Aside0 (gb109 ≠ gb123) := ⟨h9_⟩
                   have n10_ : Aside0 (gb123 ≠ gb109) := ⟨h10_⟩
                   have n11_ : Aside0 (gb115 ≠ gb123) := ⟨h11_⟩
                   have n12_ : Aside0 (gb123 ≠ gb115) := ⟨h12_⟩
                   have n13_ : Aside0 (gb124 ≠ gb123) := ⟨h13_⟩
                   have n14_ : Aside0 (gb123 ≠ gb124) := ⟨h14_⟩
                   have n15_ : Aside0 (w.heap.size ≤ gb124) := ⟨h15_⟩
                   have n16_ : Aside0 (w0.heap.size ≤ gb124) := ⟨h16_⟩
                   have n17_ : Aside0 (g ≠ gb124) := ⟨h17_⟩
                   have n18_ : Aside0 (gb124 ≠ g) := ⟨h18_⟩
                   have n19_ : Aside0 (gb109 ≠ gb124) := ⟨h19_⟩
                   have n20_ : Aside0 (gb124 ≠ gb109) := ⟨h20_⟩
                   have n21_ : Aside0 (gb115 ≠ gb124) := ⟨h21_⟩
                   have n22_ : Aside0 (gb124 ≠ gb115) := ⟨h22_⟩
                   have n23_ : Aside0 (IsS117 w0 w44 g s0_0 t117) := ⟨h23_⟩
                   have n24_ : Aside0 (KeepBut w w44 g none) := ⟨h24_⟩
                   have n25_ : Aside0 (Below w0.heap.size w0 w44) := ⟨h25_⟩
                   clear HO_5
                   clear BK109
                   clear BK115
                   clear HI0
                   clear HK
                   clear HB
                   clear h0_ h1_ h2_ h3_ h4_ h5_ h6_ h7_ h8_ h9_ h10_ h11_ h12_ h13_ h14_ h15_ h16_ h17_ h18_ h19_ h20_ h21_ h22_ h23_ h24_ h25_
                   have HO_5 := n0_
                   have BK109 := n1_
                   have BK115 := n2_
                   have BK123 := n3_
                   have BK124 := n4_
                   have GW123 := n5_
                   have GE123 := n6_
                   have NB0_123 := n7_
                   have NB123_0 := n8_
                   have NB109_123 := n9_
                   have NB123_109 := n10_
                   have NB115_123 := n11_
                   have NB123_115 := n12_
                   have NB124_123 := n13_
                   have NB123_124 := n14_
                   have GW124 := n15_
                   have GE124 := n16_
                   have NB0_124 := n17_
                   have NB124_0 := n18_
                   have NB109_124 := n19_
                   have NB124_109 := n20_
                   have NB115_124 := n21_
                   have NB124_115 := n22_
                   have HI0 := n23_
                   have HK := n24_
                   have HB := n25_
                   clear n0_ n1_ n2_ n3_ n4_ n5_ n6_ n7_ n8_ n9_ n10_ n11_ n12_ n13_ n14_ n15_ n16_ n17_ n18_ n19_ n20_ n21_ n22_ n23_ n24_ n25_
                   have hHeld : w44.cell? ⟨gb115, 0, none⟩ = some (.int .i64 ((rd_T26 x5_1 t112).f0)) ∧ w44.cell? ⟨gb115, 1, none⟩ = some (.int .i64 ((rd_T26 x5_1 t112).f1)) := hS_
                   refine norm_ (a' := ?_) ?_ ?_
                   rotate_left
                   ·simp only [putAll, Act.put, List.setIfInBounds_toArray, List.set_cons_zero, List.set_cons_succ]
                    rfl
                   refine one_ (i := 7) (N := some 54) (zl 22 793855) rfl rfl (one_of HT_.out (by kernel_rfl)) (by decide) (fun K hK => ?_)
                   refine goes_ Try.func76 (by kernel_rfl) rfl #[.int .i64 (wrap64 (((rd_T26 x5_1 t112).f1) - 1))] (by rfl) rfl rfl y8  ?_
                   with_reducible refine (spec_l1Size.calls kj8 (wrap64 (((rd_T26 x5_1 t112).f1) - 1)) t118 _ A26.out).mono ?_
                   rintro e w' ⟨rfl, ⟨nd, rfl⟩⟩
                   refine ⟨_, rfl, ?_⟩
                   refine hK.out _ _ ⟨(blk_cell BK115.out 0).trans rfl, (blk_cell BK115.out 1).trans rfl⟩ (fun hHeld => ?_)
                   clear hK K
                   refine norm_ (a' := ?_) ?_ ?_
                   rotate_left
                   ·show Act.put _ (some 54) _ = _
                    simp only [Act.put, List.setIfInBounds_toArray, List.set_cons_zero, List.set_cons_succ, i64_w, i32_w]
                    rfl
                   refine pure_ (i := 8) (N := some 55) (v := ?_) (a' := ?_) (zl 22 794111) rfl rfl (any_of HT_.out (by kernel_rfl)) (fun _ _ _ h => h) (Or.inl ⟨by rfl, ?_⟩) ?_ ?_
                   rotate_left
                   ·intro w'
                    go_simp
                    with_reducible rfl
                   rotate_left
                   ·simp only [Act.put, List.setIfInBounds_toArray, List.set_cons_zero, List.set_cons_succ, i64_w, i32_w]
                    rfl
                   refine pure_ (i := 9) (N := some 56) (v := ?_) (a' := ?_) (zl 22 794623) rfl rfl (any_of HT_.out (by kernel_rfl)) (fun _ _ _ h => h) (Or.inl ⟨by rfl, ?_⟩) ?_ ?_
                   rotate_left
                   ·intro w'
                    go_simp
                    with_reducible rfl
                   rotate_left
                   ·simp only [Act.put, List.setIfInBounds_toArray, List.set_cons_zero, List.set_cons_succ, i64_w, i32_w]
                    rfl
                   refine pure_ (i := 13) (N := some 60) (v := ?_) (a' := ?_) (zl 22 802815) rfl rfl (any_of HT_.out (by kernel_rfl)) (fun _ _ _ h => h) (Or.inl ⟨by rfl, ?_⟩) ?_ ?_
                   rotate_left
                   ·intro w'
                    go_simp
                    with_reducible rfl
                   rotate_left
                   ·simp only [Act.put, List.setIfInBounds_toArray, List.set_cons_zero, List.set_cons_succ, i64_w, i32_w]
                    rfl
                   exact norm_ y2  (hJ7_18_19 (gb123, gb124) _ ⟨hHeld, (zr HO_5.out), (zb BK109.out), (zb BK115.out), (zb BK123.out), (zb BK124.out), GW123.out, GE123.out, NB0_123.out, NB123_0.out, NB109_123.out, NB123_109.out, NB115_123.out, NB123_115.out, NB124_123.out, NB123_124.out, GW124.out, GE124.out, NB0_124.out, NB124_0.out, NB109_124.out, NB124_109.out, NB115_124.out, NB124_115.out, (zHI0), (zHK), (zHB)⟩)
                  skip
                  rintro gb124 w43 ⟨hS_, h0_, h1_, h2_, h3_, h4_, h5_, h6_, h7_, h8_, h9_, h10_, h11_, h12_, h13_, h14_⟩
                  have n0_ : Aside0 (Kd.R k26 26 w43 w.heap.size (fun k_ => k_ ≠ gb109 ∧ k_ ≠ gb115 ∧ k_ ≠ gb124) (.slice (some ad114) x5_1.length co33) x5_1) := ⟨h0_⟩
                  have n1_ : Aside0 (w43.heap[gb109]? = some (.cells #[.int .i64 t106, .int .i64 t107] 26 (0, 0))) := ⟨h1_⟩
                  have n2_ : Aside0 (w43.heap[gb115]? = some (.cells #[.int .i64 ((rd_T26 x5_1 t112).f0), .int .i64 ((rd_T26 x5_1 t112).f1)] 26 (0, 0))) := ⟨h2_⟩
                  have n3_ : Aside0 (w43.heap[gb124]? = some (.cells #[.int .i64 0, .int .i64 0] 26 (0, 0))) := ⟨h3_⟩
                  have n4_ : Aside0 (w.heap.size ≤ gb124) := ⟨h4_⟩
                  have n5_ : Aside0 (w0.heap.size ≤ gb124) := ⟨h5_⟩
                  have n6_ : Aside0 (g ≠ gb124) := ⟨h6_⟩
                  have n7_ : Aside0 (gb124 ≠ g) := ⟨h7_⟩
                  have n8_ : Aside0 (gb109 ≠ gb124) := ⟨h8_⟩
                  have n9_ : Aside0 (gb124 ≠ gb109) := ⟨h9_⟩
                  have n10_ : Aside0 (gb115 ≠ gb124) := ⟨h10_⟩
                  have n11_ : Aside0 (gb124 ≠ gb115) := ⟨h11_⟩
                  have n12_ : Aside0 (IsS117 w0 w43 g s0_0 t117) := ⟨h12_⟩
                  have n13_ : Aside0 (KeepBut w w43 g none) := ⟨h13_⟩
                  have n14_ : Aside0 (Below w0.heap.size w0 w43) := ⟨h14_⟩
                  clear HO_5
                  clear BK109
                  clear BK115
                  clear HI0
                  clear HK
                  clear HB
                  clear h0_ h1_ h2_ h3_ h4_ h5_ h6_ h7_ h8_ h9_ h10_ h11_ h12_ h13_ h14_
                  have HO_5 := n0_
                  have BK109 := n1_
                  have BK115 := n2_
                  have BK124 := n3_
                  have GW124 := n4_
                  have GE124 := n5_
                  have NB0_124 := n6_
                  have NB124_0 := n7_
                  have NB109_124 := n8_
                  have NB124_109 := n9_
                  have NB115_124 := n10_
                  have NB124_115 := n11_
                  have HI0 := n12_
                  have HK := n13_
                  have HB := n14_
                  clear n0_ n1_ n2_ n3_ n4_ n5_ n6_ n7_ n8_ n9_ n10_ n11_ n12_ n13_ n14_
                  have hHeld : w43.cell? ⟨gb115, 0, none⟩ = some (.int .i64 ((rd_T26 x5_1 t112).f0)) ∧ w43.cell? ⟨gb115, 1, none⟩ = some (.int .i64 ((rd_T26 x5_1 t112).f1)) := hS_
                  refine norm_ (a' := ?_) ?_ ?_
                  rotate_left
                  ·simp only [putAll, Act.put, List.setIfInBounds_toArray, List.set_cons_zero, List.set_cons_succ]
                   rfl
                  refine two_ (i := 14) (j := 18) (Ni := some 61) (Nj := some 9) (zl 22 557055) (zl 22 802815) rfl rfl rfl rfl (two_of HT_.out (by kernel_rfl)) (by decide) (by decide) (fun K hK => ?_) (fun K hK => ?_)
                  ·skip
                   refine goes_ Try.func93 (by kernel_rfl) rfl #[.agg #[.int .i64 (wrap64 (((rd_T26 x5_1 t112).f0) - (Int.tmod ((rd_T26 x5_1 t112).f0) t118))), .int .i64 (wrap64 (((rd_T26 x5_1 t112).f1) - 1))]] (by rfl) rfl rfl y8  ?_
                   with_reducible refine (spec_l1Halves.calls kj8 (wrap64 (((rd_T26 x5_1 t112).f0) - (Int.tmod ((rd_T26 x5_1 t112).f0) t118))) (wrap64 (((rd_T26 x5_1 t112).f1) - 1)) t119 t120 t121 t122 _ A28.out).mono ?_
                   rintro e w44 ⟨rfl, hb⟩
                   refine ⟨_, rfl, ?_⟩
                   have n0_ := zA (Kd.R_below (zr HO_5.out) hb)
                   have n1_ := zA (blk_below (g := gb109) (o := .cells #[.int .i64 t106, .int .i64 t107] 26 (0, 0)) (zb BK109.out) hb)
                   have n2_ := zA (IsS117.below (zHI0) hb)
                   have n3_ := zA (blk_below (g := gb115) (o := .cells #[.int .i64 ((rd_T26 x5_1 t112).f0), .int .i64 ((rd_T26 x5_1 t112).f1)] 26 (0, 0)) (zb BK115.out) hb)
                   have n4_ := zA (blk_below (g := gb124) (o := .cells #[.int .i64 0, .int .i64 0] 26 (0, 0)) (zb BK124.out) hb)
                   have n5_ := zA (KeepBut.trans (zHK) (KeepBut.of_below hb g none) (.inl rfl))
                   have n6_ := zA (below_step (zHB) hb)
                   clear HO_5
                   clear BK109
                   clear HI0
                   clear BK115
                   clear BK124
                   clear HK
                   clear HB
                   have HO_5 := n0_
                   have BK109 := n1_
                   have HI0 := n2_
                   have BK115 := n3_
                   have BK124 := n4_
                   have HK := n5_
                   have HB := n6_
                   clear n0_ n1_ n2_ n3_ n4_ n5_ n6_
                   (try clear hb)
                   (try clear hb2)
                   (try clear hk)
                   (try clear hi)
                   refine hK.out _ _ ⟨(blk_cell BK115.out 0).trans rfl, (blk_cell BK115.out 1).trans rfl⟩ (fun hHeld => ?_)
                   clear hK K
                   refine norm_ (a' := ?_) ?_ ?_
                   rotate_left
                   ·show Act.put _ (some 61) _ = _
                    simp only [Act.put, List.setIfInBounds_toArray, List.set_cons_zero, List.set_cons_succ, i64_w, i32_w]
                    rfl
                   refine pure_ (i := 15) (N := some 46) (v := ?_) (a' := ?_) (zl 22 589823) rfl rfl (any_of HT_.out (by kernel_rfl)) (fun _ _ _ h => h) (Or.inl ⟨by rfl, ?_⟩) ?_ ?_
                   rotate_left
                   ·intro w'
                    go_simp
                    with_reducible rfl
                   rotate_left
                   ·simp only [Act.put, List.setIfInBounds_toArray, List.set_cons_zero, List.set_cons_succ, i64_w, i32_w]
                    rfl
                   refine pure_ (i := 16) (N := some 62) (v := ?_) (a' := ?_) (zl 22 655359) rfl rfl (any_of HT_.out (by kernel_rfl)) (fun _ _ _ h => h) (Or.inl ⟨by rfl, ?_⟩) ?_ ?_
                   rotate_left
                   ·intro w'
                    go_simp
                    with_reducible rfl
                   rotate_left
                   ·simp only [Act.put, List.setIfInBounds_toArray, List.set_cons_zero, List.set_cons_succ, i64_w, i32_w]
                    rfl
                   refine pure_ (i := 17) (N := some 63) (v := ?_) (a' := ?_) (zl 22 786431) rfl rfl (any_of HT_.out (by kernel_rfl)) (fun _ _ _ h => h) (Or.inl ⟨by rfl, ?_⟩) ?_ ?_
                   rotate_left
                   ·intro w'
                    go_simp
                    with_reducible rfl
                   rotate_left
                   ·simp only [Act.put, List.setIfInBounds_toArray, List.set_cons_zero, List.set_cons_succ, i64_w, i32_w]
                    rfl
                   exact norm_ y2  (hJ7_14_19 (gb124) _ ⟨hHeld, (zr HO_5.out), (zb BK109.out), (zb BK115.out), (zb BK124.out), GW124.out, GE124.out, NB0_124.out, NB124_0.out, NB109_124.out, NB124_109.out, NB115_124.out, NB124_115.out, (zHI0), (zHK), (zHB)⟩)
                  skip
                  refine box_step ?hg (N := 9) ?hd (cs := #[.int .i64 0, .int .i64 0]) (t := 26) ?hr ?_; (case hd => rfl); (case hg => rfl); (case hr => first | (go_simp; done) | (go_simp; rfl))
                  intro gb123 hg w44 hbox hb
                  have n0_ := zA (Kd.R_below (Kd.R_elderB (zr HO_5.out) gb123 (Nat.le_of_eq hg.symm)) hb)
                  have n1_ := zA (blk_below (g := gb109) (o := .cells #[.int .i64 t106, .int .i64 t107] 26 (0, 0)) (zb BK109.out) hb)
                  have n2_ := zA (IsS117.below (zHI0) hb)
                  have n3_ := zA (blk_below (g := gb115) (o := .cells #[.int .i64 ((rd_T26 x5_1 t112).f0), .int .i64 ((rd_T26 x5_1 t112).f1)] 26 (0, 0)) (zb BK115.out) hb)
                  have n4_ := zA (blk_below (g := gb124) (o := .cells #[.int .i64 0, .int .i64 0] 26 (0, 0)) (zb BK124.out) hb)
                  have n5_ := zA (KeepBut.trans (zHK) (KeepBut.of_below hb g none) (.inl rfl))
                  have n6_ := zA (below_step (zHB) hb)
                  have n7_ := zA (hbox)
                  have n8_ := zA ((show w.heap.size ≤ gb123 from y32))
                  have n9_ := zA ((Nat.le_trans HW0.out (show w.heap.size ≤ gb123 from y32) : w0.heap.size ≤ gb123))
                  have n10_ := zA ((show gb109 ≠ gb123 from y11))
                  have n11_ := zA ((show gb123 ≠ gb109 from y12))
                  have n12_ := zA ((show gb115 ≠ gb123 from y4))
                  have n13_ := zA ((show gb123 ≠ gb115 from y5))
                  have n14_ := zA ((show gb124 ≠ gb123 from y15))
                  have n15_ := zA ((show gb123 ≠ gb124 from y16))
                  have n16_ := zA ((show g ≠ gb123 from y25))
                  have n17_ := zA ((show gb123 ≠ g from y26))
                  clear HO_5
                  clear BK109
                  clear HI0
                  clear BK115
                  clear BK124
                  clear HK
                  clear HB
                  have HO_5 := n0_
                  have BK109 := n1_
                  have HI0 := n2_
                  have BK115 := n3_
                  have BK124 := n4_
                  have HK := n5_
                  have HB := n6_
                  have BK123 := n7_
                  have GW123 := n8_
                  have GE123 := n9_
                  have NB109_123 := n10_
                  have NB123_109 := n11_
                  have NB115_123 := n12_
                  have NB123_115 := n13_
                  have NB124_123 := n14_
                  have NB123_124 := n15_
                  have NB0_123 := n16_
                  have NB123_0 := n17_
                  clear n0_ n1_ n2_ n3_ n4_ n5_ n6_ n7_ n8_ n9_ n10_ n11_ n12_ n13_ n14_ n15_ n16_ n17_
                  clear hb hbox hg
                  refine hK.out _ _ ⟨(blk_cell BK115.out 0).trans rfl, (blk_cell BK115.out 1).trans rfl⟩ (fun hHeld => ?_)
                  clear hK K
                  refine norm_ (a' := ?_) ?_ ?_
                  rotate_left
                  ·show Act.put _ (some 9) _ = _
                   simp only [Act.put, List.setIfInBounds_toArray, List.set_cons_zero, List.set_cons_succ, i64_w, i32_w]
                   rfl
                  exact norm_ y2  (hJ7_18_19 (gb123, gb124) _ ⟨hHeld, y29 , (zb BK109.out), (zb BK115.out), (zb BK123.out), (zb BK124.out), GW123.out, GE123.out, NB0_123.out, NB123_0.out, NB109_123.out, NB123_109.out, NB115_123.out, NB123_115.out, NB124_123.out, NB123_124.out, GW124.out, GE124.out, NB0_124.out, NB124_0.out, NB109_124.out, NB124_109.out, NB115_124.out, NB124_115.out, (zHI0), (zHK), (zHB)⟩)
                 skip
                 rintro gb123 w43 ⟨hS_, h0_, h1_, h2_, h3_, h4_, h5_, h6_, h7_, h8_, h9_, h10_, h11_, h12_, h13_, h14_⟩
                 have n0_ : Aside0 (Kd.R k26 26 w43 w.heap.size (fun k_ => k_ ≠ gb109 ∧ k_ ≠ gb115 ∧ k_ ≠ gb123) (.slice (some ad114) x5_1.length co33) x5_1) := ⟨h0_⟩
                 have n1_ : Aside0 (w43.heap[gb109]? = some (.cells #[.int .i64 t106, .int .i64 t107] 26 (0, 0))) := ⟨h1_⟩
                 have n2_ : Aside0 (w43.heap[gb115]? = some (.cells #[.int .i64 ((rd_T26 x5_1 t112).f0), .int .i64 ((rd_T26 x5_1 t112).f1)] 26 (0, 0))) := ⟨h2_⟩
                 have n3_ : Aside0 (w43.heap[gb123]? = some (.cells #[.int .i64 0, .int .i64 0] 26 (0, 0))) := ⟨h3_⟩
                 have n4_ : Aside0 (w.heap.size ≤ gb123) := ⟨h4_⟩
                 have n5_ : Aside0 (w0.heap.size ≤ gb123) := ⟨h5_⟩
                 have n6_ : Aside0 (g ≠ gb123) := ⟨h6_⟩
                 have n7_ : Aside0 (gb123 ≠ g) := ⟨h7_⟩
                 have n8_ : Aside0 (gb109 ≠ gb123) := ⟨h8_⟩
                 have n9_ : Aside0 (gb123 ≠ gb109) := ⟨h9_⟩
                 have n10_ : Aside0 (gb115 ≠ gb123) := ⟨h10_⟩
                 have n11_ : Aside0 (gb123 ≠ gb115) := ⟨h11_⟩
                 have n12_ : Aside0 (IsS117 w0 w43 g s0_0 t117) := ⟨h12_⟩
                 have n13_ : Aside0 (KeepBut w w43 g none) := ⟨h13_⟩
                 have n14_ : Aside0 (Below w0.heap.size w0 w43) := ⟨h14_⟩
                 clear HO_5
                 clear BK109
                 clear BK115
                 clear HI0
                 clear HK
                 clear HB
                 clear h0_ h1_ h2_ h3_ h4_ h5_ h6_ h7_ h8_ h9_ h10_ h11_ h12_ h13_ h14_
                 have HO_5 := n0_
                 have BK109 := n1_
                 have BK115 := n2_
                 have BK123 := n3_
                 have GW123 := n4_
                 have GE123 := n5_
                 have NB0_123 := n6_
                 have NB123_0 := n7_
                 have NB109_123 := n8_
                 have NB123_109 := n9_
                 have NB115_123 := n10_
                 have NB123_115 := n11_
                 have HI0 := n12_
                 have HK := n13_
                 have HB := n14_
                 clear n0_ n1_ n2_ n3_ n4_ n5_ n6_ n7_ n8_ n9_ n10_ n11_ n12_ n13_ n14_
                 have hHeld : w43.cell? ⟨gb115, 0, none⟩ = some (.int .i64 ((rd_T26 x5_1 t112).f0)) ∧ w43.cell? ⟨gb115, 1, none⟩ = some (.int .i64 ((rd_T26 x5_1 t112).f1)) := hS_
                 refine norm_ (a' := ?_) ?_ ?_
                 rotate_left
                 ·simp only [putAll, Act.put, List.setIfInBounds_toArray, List.set_cons_zero, List.set_cons_succ]
                  rfl
                 refine two_ (i := 14) (j := 19) (Ni := some 61) (Nj := some 10) (zl 22 294911) (zl 22 802815) rfl rfl rfl rfl (two_of HT_.out (by kernel_rfl)) (by decide) (by decide) (fun K hK => ?_) (fun K hK => ?_)
                 ·skip
                  refine goes_ Try.func93 (by kernel_rfl) rfl #[.agg #[.int .i64 (wrap64 (((rd_T26 x5_1 t112).f0) - (Int.tmod ((rd_T26 x5_1 t112).f0) t118))), .int .i64 (wrap64 (((rd_T26 x5_1 t112).f1) - 1))]] (by rfl) rfl rfl y8  ?_
                  with_reducible refine (spec_l1Halves.calls kj8 (wrap64 (((rd_T26 x5_1 t112).f0) - (Int.tmod ((rd_T26 x5_1 t112).f0) t118))) (wrap64 (((rd_T26 x5_1 t112).f1) - 1)) t119 t120 t121 t122 _ A28.out).mono ?_
                  rintro e w44 ⟨rfl, hb⟩
                  refine ⟨_, rfl, ?_⟩
                  have n0_ := zA (Kd.R_below (zr HO_5.out) hb)
                  have n1_ := zA (blk_below (g := gb109) (o := .cells #[.int .i64 t106, .int .i64 t107] 26 (0, 0)) (zb BK109.out) hb)
                  have n2_ := zA (IsS117.below (zHI0) hb)
                  have n3_ := zA (blk_below (g := gb115) (o := .cells #[.int .i64 ((rd_T26 x5_1 t112).f0), .int .i64 ((rd_T26 x5_1 t112).f1)] 26 (0, 0)) (zb BK115.out) hb)
                  have n4_ := zA (blk_below (g := gb123) (o := .cells #[.int .i64 0, .int .i64 0] 26 (0, 0)) (zb BK123.out) hb)
                  have n5_ := zA (KeepBut.trans (zHK) (KeepBut.of_below hb g none) (.inl rfl))
                  have n6_ := zA (below_step (zHB) hb)
                  clear HO_5
                  clear BK109
                  clear HI0
                  clear BK115
                  clear BK123
                  clear HK
                  clear HB
                  have HO_5 := n0_
                  have BK109 := n1_
                  have HI0 := n2_
                  have BK115 := n3_
                  have BK123 := n4_
                  have HK := n5_
                  have HB := n6_
                  clear n0_ n1_ n2_ n3_ n4_ n5_ n6_
                  (try clear hb)
                  (try clear hb2)
                  (try clear hk)
                  (try clear hi)
                  refine hK.out _ _ ⟨(blk_cell BK115.out 0).trans rfl, (blk_cell BK115.out 1).trans rfl⟩ (fun hHeld => ?_)
                  clear hK K
                  refine norm_ (a' := ?_) ?_ ?_
                  rotate_left
                  ·show Act.put _ (some 61) _ = _
                   simp only [Act.put, List.setIfInBounds_toArray, List.set_cons_zero, List.set_cons_succ, i64_w, i32_w]
                   rfl
                  refine pure_ (i := 15) (N := some 46) (v := ?_) (a' := ?_) (zl 22 327679) rfl rfl (any_of HT_.out (by kernel_rfl)) (fun _ _ _ h => h) (Or.inl ⟨by rfl, ?_⟩) ?_ ?_
                  rotate_left
                  ·intro w'
                   go_simp
                   with_reducible rfl
                  rotate_left
                  ·simp only [Act.put, List.setIfInBounds_toArray, List.set_cons_zero, List.set_cons_succ, i64_w, i32_w]
                   rfl
                  refine pure_ (i := 16) (N := some 62) (v := ?_) (a' := ?_) (zl 22 393215) rfl rfl (any_of HT_.out (by kernel_rfl)) (fun _ _ _ h => h) (Or.inl ⟨by rfl, ?_⟩) ?_ ?_
                  rotate_left
                  ·intro w'
                   go_simp
                   with_reducible rfl
                  rotate_left
                  ·simp only [Act.put, List.setIfInBounds_toArray, List.set_cons_zero, List.set_cons_succ, i64_w, i32_w]
                   rfl
                  refine pure_ (i := 17) (N := some 63) (v := ?_) (a' := ?_) (zl 22 524287) rfl rfl (any_of HT_.out (by kernel_rfl)) (fun _ _ _ h => h) (Or.inl ⟨by rfl, ?_⟩) ?_ ?_
                  rotate_left
                  ·intro w'
                   go_simp
                   with_reducible rfl
                  rotate_left
                  ·simp only [Act.put, List.setIfInBounds_toArray, List.set_cons_zero, List.set_cons_succ, i64_w, i32_w]
                   rfl
                  exact norm_ y2  (hJ7_14_18 (gb123) _ ⟨hHeld, (zr HO_5.out), (zb BK109.out), (zb BK115.out), (zb BK123.out), GW123.out, GE123.out, NB0_123.out, NB123_0.out, NB109_123.out, NB123_109.out, NB115_123.out, NB123_115.out, (zHI0), (zHK), (zHB)⟩)
                 skip
                 refine box_step ?hg (N := 10) ?hd (cs := #[.int .i64 0, .int .i64 0]) (t := 26) ?hr ?_; (case hd => rfl); (case hg => rfl); (case hr => first | (go_simp; done) | (go_simp; rfl))
                 intro gb124 hg w44 hbox hb
                 have n0_ := zA (Kd.R_below (Kd.R_elderB (zr HO_5.out) gb124 (Nat.le_of_eq hg.symm)) hb)
                 have n1_ := zA (blk_below (g := gb109) (o := .cells #[.int .i64 t106, .int .i64 t107] 26 (0, 0)) (zb BK109.out) hb)
                 have n2_ := zA (IsS117.below (zHI0) hb)
                 have n3_ := zA (blk_below (g := gb115) (o := .cells #[.int .i64 ((rd_T26 x5_1 t112).f0), .int .i64 ((rd_T26 x5_1 t112).f1)] 26 (0, 0)) (zb BK115.out) hb)
                 have n4_ := zA (blk_below (g := gb123) (o := .cells #[.int .i64 0, .int .i64 0] 26 (0, 0)) (zb BK123.out) hb)
                 have n5_ := zA (KeepBut.trans (zHK) (KeepBut.of_below hb g none) (.inl rfl))
                 have n6_ := zA (below_step (zHB) hb)
                 have n7_ := zA (hbox)
                 have n8_ := zA ((show w.heap.size ≤ gb124 from y33))
                 have n9_ := zA ((Nat.le_trans HW0.out (show w.heap.size ≤ gb124 from y33) : w0.heap.size ≤ gb124))
                 have n10_ := zA ((show gb109 ≠ gb124 from y13))
                 have n11_ := zA ((show gb124 ≠ gb109 from y14))
                 have n12_ := zA ((show gb115 ≠ gb124 from y6))
                 have n13_ := zA ((show gb124 ≠ gb115 from y7))
                 have n14_ := zA ((show gb123 ≠ gb124 from y17))
                 have n15_ := zA ((show gb124 ≠ gb123 from y18))
                 have n16_ := zA ((show g ≠ gb124 from y27))
                 have n17_ := zA ((show gb124 ≠ g from y28))
                 clear HO_5
                 clear BK109
                 clear HI0
                 clear BK115
                 clear BK123
                 clear HK
                 clear HB
                 have HO_5 := n0_
                 have BK109 := n1_
                 have HI0 := n2_
                 have BK115 := n3_
                 have BK123 := n4_
                 have HK := n5_
                 have HB := n6_
                 have BK124 := n7_
                 have GW124 := n8_
                 have GE124 := n9_
                 have NB109_124 := n10_
                 have NB124_109 := n11_
                 have NB115_124 := n12_
                 have NB124_115 := n13_
                 have NB123_124 := n14_
                 have NB124_123 := n15_
                 have NB0_124 := n16_
                 have NB124_0 := n17_
                 clear n0_ n1_ n2_ n3_ n4_ n5_ n6_ n7_ n8_ n9_ n10_ n11_ n12_ n13_ n14_ n15_ n16_ n17_
                 clear hb hbox hg
                 refine hK.out _ _ ⟨(blk_cell BK115.out 0).trans rfl, (blk_cell BK115.out 1).trans rfl⟩ (fun hHeld => ?_)
                 clear hK K
                 refine norm_ (a' := ?_) ?_ ?_
                 rotate_left
                 ·show Act.put _ (some 10) _ = _
                  simp only [Act.put, List.setIfInBounds_toArray, List.set_cons_zero, List.set_cons_succ, i64_w, i32_w]
                  rfl
                 exact norm_ y2  (hJ7_18_19 (gb123, gb124) _ ⟨hHeld, y30 , (zb BK109.out), (zb BK115.out), (zb BK123.out), (zb BK124.out), GW123.out, GE123.out, NB0_123.out, NB123_0.out, NB109_123.out, NB123_109.out, NB115_123.out, NB123_115.out, NB124_123.out, NB123_124.out, GW124.out, GE124.out, NB0_124.out, NB124_0.out, NB109_124.out, NB124_109.out, NB115_124.out, NB124_115.out, (zHI0), (zHK), (zHB)⟩)
                skip
                rintro _ w43 ⟨hS_, h0_, h1_, h2_, h3_, h4_, h5_⟩
                have n0_ : Aside0 (Kd.R k26 26 w43 w.heap.size (fun k_ => k_ ≠ gb109 ∧ k_ ≠ gb115) (.slice (some ad114) x5_1.length co33) x5_1) := ⟨h0_⟩
                have n1_ : Aside0 (w43.heap[gb109]? = some (.cells #[.int .i64 t106, .int .i64 t107] 26 (0, 0))) := ⟨h1_⟩
                have n2_ : Aside0 (w43.heap[gb115]? = some (.cells #[.int .i64 ((rd_T26 x5_1 t112).f0), .int .i64 ((rd_T26 x5_1 t112).f1)] 26 (0, 0))) := ⟨h2_⟩
                have n3_ : Aside0 (IsS117 w0 w43 g s0_0 t117) := ⟨h3_⟩
                have n4_ : Aside0 (KeepBut w w43 g none) := ⟨h4_⟩
                have n5_ : Aside0 (Below w0.heap.size w0 w43) := ⟨h5_⟩
                clear HO_5
                clear BK109
                clear BK115
                clear HI0
                clear HK
                clear HB
                clear h0_ h1_ h2_ h3_ h4_ h5_
                have HO_5 := n0_
                have BK109 := n1_
                have BK115 := n2_
                have HI0 := n3_
                have HK := n4_
                have HB := n5_
                clear n0_ n1_ n2_ n3_ n4_ n5_
                have hHeld : w43.cell? ⟨gb115, 0, none⟩ = some (.int .i64 ((rd_T26 x5_1 t112).f0)) ∧ w43.cell? ⟨gb115, 1, none⟩ = some (.int .i64 ((rd_T26 x5_1 t112).f1)) := hS_
                refine norm_ (a' := ?_) ?_ ?_
                rotate_left
                ·simp only [putAll, Act.put, List.setIfInBounds_toArray, List.set_cons_zero, List.set_cons_succ]
                 rfl
                refine two_ (i := 18) (j := 19) (Ni := some 9) (Nj := some 10) (zl 22 524287) (zl 22 786431) rfl rfl rfl rfl (two_of HT_.out (by kernel_rfl)) (by decide) (by decide) (fun K hK => ?_) (fun K hK => ?_)
                ·skip
                 refine box_step ?hg (N := 9) ?hd (cs := #[.int .i64 0, .int .i64 0]) (t := 26) ?hr ?_; (case hd => rfl); (case hg => rfl); (case hr => first | (go_simp; done) | (go_simp; rfl))
                 intro gb123 hg w44 hbox hb
                 have n0_ := zA (Kd.R_below (Kd.R_elderB (zr HO_5.out) gb123 (Nat.le_of_eq hg.symm)) hb)
                 have n1_ := zA (blk_below (g := gb109) (o := .cells #[.int .i64 t106, .int .i64 t107] 26 (0, 0)) (zb BK109.out) hb)
                 have n2_ := zA (IsS117.below (zHI0) hb)
                 have n3_ := zA (blk_below (g := gb115) (o := .cells #[.int .i64 ((rd_T26 x5_1 t112).f0), .int .i64 ((rd_T26 x5_1 t112).f1)] 26 (0, 0)) (zb BK115.out) hb)
                 have n4_ := zA (KeepBut.trans (zHK) (KeepBut.of_below hb g none) (.inl rfl))
                 have n5_ := zA (below_step (zHB) hb)
                 have n6_ := zA (hbox)
                 have n7_ := zA ((show w.heap.size ≤ gb123 from y32))
                 have n8_ := zA ((Nat.le_trans HW0.out (show w.heap.size ≤ gb123 from y32) : w0.heap.size ≤ gb123))
                 have n9_ := zA ((show gb109 ≠ gb123 from y11))
                 have n10_ := zA ((show gb123 ≠ gb109 from y12))
                 have n11_ := zA ((show gb115 ≠ gb123 from y4))
                 have n12_ := zA ((show gb123 ≠ gb115 from y5))
                 have n13_ := zA ((show g ≠ gb123 from y25))
                 have n14_ := zA ((show gb123 ≠ g from y26))
                 clear HO_5
                 clear BK109
                 clear HI0
                 clear BK115
                 clear HK
                 clear HB
                 have HO_5 := n0_
                 have BK109 := n1_
                 have HI0 := n2_
                 have BK115 := n3_
                 have HK := n4_
                 have HB := n5_
                 have BK123 := n6_
                 have GW123 := n7_
                 have GE123 := n8_
                 have NB109_123 := n9_
                 have NB123_109 := n10_
                 have NB115_123 := n11_
                 have NB123_115 := n12_
                 have NB0_123 := n13_
                 have NB123_0 := n14_
                 clear n0_ n1_ n2_ n3_ n4_ n5_ n6_ n7_ n8_ n9_ n10_ n11_ n12_ n13_ n14_
                 clear hb hbox hg
                 refine hK.out _ _ ⟨(blk_cell BK115.out 0).trans rfl, (blk_cell BK115.out 1).trans rfl⟩ (fun hHeld => ?_)
                 clear hK K
                 refine norm_ (a' := ?_) ?_ ?_
                 rotate_left
                 ·show Act.put _ (some 9) _ = _
                  simp only [Act.put, List.setIfInBounds_toArray, List.set_cons_zero, List.set_cons_succ, i64_w, i32_w]
                  rfl
                 exact norm_ y2  (hJ7_14_18 (gb123) _ ⟨hHeld, y34 , (zb BK109.out), (zb BK115.out), (zb BK123.out), GW123.out, GE123.out, NB0_123.out, NB123_0.out, NB109_123.out, NB123_109.out, NB115_123.out, NB123_115.out, (zHI0), (zHK), (zHB)⟩)
                skip
                refine box_step ?hg (N := 10) ?hd (cs := #[.int .i64 0, .int .i64 0]) (t := 26) ?hr ?_; (case hd => rfl); (case hg => rfl); (case hr => first | (go_simp; done) | (go_simp; rfl))
                intro gb124 hg w44 hbox hb
                have n0_ := zA (Kd.R_below (Kd.R_elderB (zr HO_5.out) gb124 (Nat.le_of_eq hg.symm)) hb)
                have n1_ := zA (blk_below (g := gb109) (o := .cells #[.int .i64 t106, .int .i64 t107] 26 (0, 0)) (zb BK109.out) hb)
                have n2_ := zA (IsS117.below (zHI0) hb)
                have n3_ := zA (blk_below (g := gb115) (o := .cells #[.int .i64 ((rd_T26 x5_1 t112).f0), .int .i64 ((rd_T26 x5_1 t112).f1)] 26 (0, 0)) (zb BK115.out) hb)
                have n4_ := zA (KeepBut.trans (zHK) (KeepBut.of_below hb g none) (.inl rfl))
                have n5_ := zA (below_step (zHB) hb)
                have n6_ := zA (hbox)
                have n7_ := zA ((show w.heap.size ≤ gb124 from y33))
                have n8_ := zA ((Nat.le_trans HW0.out (show w.heap.size ≤ gb124 from y33) : w0.heap.size ≤ gb124))
                have n9_ := zA ((show gb109 ≠ gb124 from y13))
                have n10_ := zA ((show gb124 ≠ gb109 from y14))
                have n11_ := zA ((show gb115 ≠ gb124 from y6))
                have n12_ := zA ((show gb124 ≠ gb115 from y7))
                have n13_ := zA ((show g ≠ gb124 from y27))
                have n14_ := zA ((show gb124 ≠ g from y28))
                clear HO_5
                clear BK109
                clear HI0
                clear BK115
                clear HK
                clear HB
                have HO_5 := n0_
                have BK109 := n1_
                have HI0 := n2_
                have BK115 := n3_
                have HK := n4_
                have HB := n5_
                have BK124 := n6_
                have GW124 := n7_
                have GE124 := n8_
                have NB109_124 := n9_
                have NB124_109 := n10_
                have NB115_124 := n11_
                have NB124_115 := n12_
                have NB0_124 := n13_
                have NB124_0 := n14_
                clear n0_ n1_ n2_ n3_ n4_ n5_ n6_ n7_ n8_ n9_ n10_ n11_ n12_ n13_ n14_
                clear hb hbox hg
                refine hK.out _ _ ⟨(blk_cell BK115.out 0).trans rfl, (blk_cell BK115.out 1).trans rfl⟩ (fun hHeld => ?_)
                clear hK K
                refine norm_ (a' := ?_) ?_ ?_
                rotate_left
                ·show Act.put _ (some 10) _ = _
                 simp only [Act.put, List.setIfInBounds_toArray, List.set_cons_zero, List.set_cons_succ, i64_w, i32_w]
                 rfl
                exact norm_ y2  (hJ7_14_19 (gb124) _ ⟨hHeld, y34 , (zb BK109.out), (zb BK115.out), (zb BK124.out), GW124.out, GE124.out, NB0_124.out, NB124_0.out, NB109_124.out, NB124_109.out, NB115_124.out, NB124_115.out, (zHI0), (zHK), (zHB)⟩)
               skip
               rintro ⟨gb123, gb124⟩ w44 ⟨hS_, h0_, h1_, h2_, h3_, h4_, h5_, h6_, h7_, h8_, h9_, h10_, h11_, h12_, h13_, h14_, h15_, h16_, h17_, h18_, h19_, h20_, h21_, h22_, h23_, h24_, h25_⟩
               have n0_ : Aside0 (Kd.R k26 26 w44 w.heap.size (fun k_ => k_ ≠ gb109 ∧ k_ ≠ gb115 ∧ k_ ≠ gb123 ∧ k_ ≠ gb124) (.slice (some ad114) x5_1.length co33) x5_1) := ⟨h0_⟩
               have n1_ : Aside0 (w44.heap[gb109]? = some (.cells #[.int .i64 t106, .int .i64 t107] 26 (0, 0))) := ⟨h1_⟩
               have n2_ : Aside0 (w44.heap[gb115]? = some (.cells #[.int .i64 ((rd_T26 x5_1 t112).f0), .int .i64 ((rd_T26 x5_1 t112).f1)] 26 (0, 0))) := ⟨h2_⟩
               have n3_ : Aside0 (w44.heap[gb123]? = some (.cells #[.int .i64 0, .int .i64 0] 26 (0, 0))) := ⟨h3_⟩
               have n4_ : Aside0 (w44.heap[gb124]? = some (.cells #[.int .i64 0, .int .i64 0] 26 (0, 0))) := ⟨h4_⟩
               have n5_ : Aside0 (w.heap.size ≤ gb123) := ⟨h5_⟩
               have n6_ : Aside0 (w0.heap.size ≤ gb123) := ⟨h6_⟩
               have n7_ : Aside0 (g ≠ gb123) := ⟨h7_⟩
               have n8_ : Aside0 (gb123 ≠ g) := ⟨h8_⟩
               have n9_ : Aside0 (gb109 ≠ gb123) := ⟨h9_⟩
               have n10_ : Aside0 (gb123 ≠ gb109) := ⟨h10_⟩
               have n11_ : Aside0 (gb115 ≠ gb123) := ⟨h11_⟩
               have n12_ : Aside0 (gb123 ≠ gb115) := ⟨h12_⟩
               have n13_ : Aside0 (gb124 ≠ gb123) := ⟨h13_⟩
               have n14_ : Aside0 (gb123 ≠ gb124) := ⟨h14_⟩
               have n15_ : Aside0 (w.heap.size ≤ gb124) := ⟨h15_⟩
               have n16_ : Aside0 (w0.heap.size ≤ gb124) := ⟨h16_⟩
               have n17_ : Aside0 (g ≠ gb124) := ⟨h17_⟩
               have n18_ : Aside0 (gb124 ≠ g) := ⟨h18_⟩
               have n19_ : Aside0 (gb109 ≠ gb124) := ⟨h19_⟩
               have n20_ : Aside0 (gb124 ≠ gb109) := ⟨h20_⟩
               have n21_ : Aside0 (gb115 ≠ gb124) := ⟨h21_⟩
               have n22_ : Aside0 (gb124 ≠ gb115) := ⟨h22_⟩
               have n23_ : Aside0 (IsS117 w0 w44 g s0_0 t117) := ⟨h23_⟩
               have n24_ : Aside0 (KeepBut w w44 g none) := ⟨h24_⟩
               have n25_ : Aside0 (Below w0.heap.size w0 w44) := ⟨h25_⟩
               clear HO_5
               clear BK109
               clear BK115
               clear HI0
               clear HK
               clear HB
               clear h0_ h1_ h2_ h3_ h4_ h5_ h6_ h7_ h8_ h9_ h10_ h11_ h12_ h13_ h14_ h15_ h16_ h17_ h18_ h19_ h20_ h21_ h22_ h23_ h24_ h25_
               have HO_5 := n0_
               have BK109 := n1_
               have BK115 := n2_
               have BK123 := n3_
               have BK124 := n4_
               have GW123 := n5_
               have GE123 := n6_
               have NB0_123 := n7_
               have NB123_0 := n8_
               have NB109_123 := n9_
               have NB123_109 := n10_
               have NB115_123 := n11_
               have NB123_115 := n12_
               have NB124_123 := n13_
               have NB123_124 := n14_
               have GW124 := n15_
               have GE124 := n16_
               have NB0_124 := n17_
               have NB124_0 := n18_
               have NB109_124 := n19_
               have NB124_109 := n20_
               have NB115_124 := n21_
               have NB124_115 := n22_
               have HI0 := n23_
               have HK := n24_
               have HB := n25_
               clear n0_ n1_ n2_ n3_ n4_ n5_ n6_ n7_ n8_ n9_ n10_ n11_ n12_ n13_ n14_ n15_ n16_ n17_ n18_ n19_ n20_ n21_ n22_ n23_ n24_ n25_
               have hHeld : w44.cell? ⟨gb115, 0, none⟩ = some (.int .i64 ((rd_T26 x5_1 t112).f0)) ∧ w44.cell? ⟨gb115, 1, none⟩ = some (.int .i64 ((rd_T26 x5_1 t112).f1)) := hS_
               refine norm_ (a' := ?_) ?_ ?_
               rotate_left
               ·simp only [putAll, Act.put, List.setIfInBounds_toArray, List.set_cons_zero, List.set_cons_succ]
                rfl
               refine one_ (i := 14) (N := some 61) (zl 22 819199) rfl rfl (one_of HT_.out (by kernel_rfl)) (by decide) (fun K hK => ?_)
               refine goes_ Try.func93 (by kernel_rfl) rfl #[.agg #[.int .i64 (wrap64 (((rd_T26 x5_1 t112).f0) - (Int.tmod ((rd_T26 x5_1 t112).f0) t118))), .int .i64 (wrap64 (((rd_T26 x5_1 t112).f1) - 1))]] (by rfl) rfl rfl y8  ?_
               with_reducible refine (spec_l1Halves.calls kj8 (wrap64 (((rd_T26 x5_1 t112).f0) - (Int.tmod ((rd_T26 x5_1 t112).f0) t118))) (wrap64 (((rd_T26 x5_1 t112).f1) - 1)) t119 t120 t121 t122 _ A28.out).mono ?_
               rintro e w45 ⟨rfl, hb⟩
               refine ⟨_, rfl, ?_⟩
               have n0_ := zA (Kd.R_below (zr HO_5.out) hb)
               have n1_ := zA (blk_below (g := gb109) (o := .cells #[.int .i64 t106, .int .i64 t107] 26 (0, 0)) (zb BK109.out) hb)
               have n2_ := zA (IsS117.below (zHI0) hb)
               have n3_ := zA (blk_below (g := gb115) (o := .cells #[.int .i64 ((rd_T26 x5_1 t112).f0), .int .i64 ((rd_T26 x5_1 t112).f1)] 26 (0, 0)) (zb BK115.out) hb)
               have n4_ := zA (blk_below (g := gb123) (o := .cells #[.int .i64 0, .int .i64 0] 26 (0, 0)) (zb BK123.out) hb)
               have n5_ := zA (blk_below (g := gb124) (o := .cells #[.int .i64 0, .int .i64 0] 26 (0, 0)) (zb BK124.out) hb)
               have n6_ := zA (KeepBut.trans (zHK) (KeepBut.of_below hb g none) (.inl rfl))
               have n7_ := zA (below_step (zHB) hb)
               clear HO_5
               clear BK109
               clear HI0
               clear BK115
               clear BK123
               clear BK124
               clear HK
               clear HB
               have HO_5 := n0_
               have BK109 := n1_
               have HI0 := n2_
               have BK115 := n3_
               have BK123 := n4_
               have BK124 := n5_
               have HK := n6_
               have HB := n7_
               clear n0_ n1_ n2_ n3_ n4_ n5_ n6_ n7_
               (try clear hb)
               (try clear hb2)
               (try clear hk)
               (try clear hi)
               refine hK.out _ _ ⟨(blk_cell BK115.out 0).trans rfl, (blk_cell BK115.out 1).trans rfl⟩ (fun hHeld => ?_)
               clear hK K
               refine norm_ (a' := ?_) ?_ ?_
               rotate_left
               ·show Act.put _ (some 61) _ = _
                simp only [Act.put, List.setIfInBounds_toArray, List.set_cons_zero, List.set_cons_succ, i64_w, i32_w]
                rfl
               refine pure_ (i := 15) (N := some 46) (v := ?_) (a' := ?_) (zl 22 851967) rfl rfl (any_of HT_.out (by kernel_rfl)) (fun _ _ _ h => h) (Or.inl ⟨by rfl, ?_⟩) ?_ ?_
               rotate_left
               ·intro w'
                go_simp
                with_reducible rfl
               rotate_left
               ·simp only [Act.put, List.setIfInBounds_toArray, List.set_cons_zero, List.set_cons_succ, i64_w, i32_w]
                rfl
               refine pure_ (i := 16) (N := some 62) (v := ?_) (a' := ?_) (zl 22 917503) rfl rfl (any_of HT_.out (by kernel_rfl)) (fun _ _ _ h => h) (Or.inl ⟨by rfl, ?_⟩) ?_ ?_
               rotate_left
               ·intro w'
                go_simp
                with_reducible rfl
               rotate_left
               ·simp only [Act.put, List.setIfInBounds_toArray, List.set_cons_zero, List.set_cons_succ, i64_w, i32_w]
                rfl
               refine pure_ (i := 17) (N := some 63) (v := ?_) (a' := ?_) (zl 22 1048575) rfl rfl (any_of HT_.out (by kernel_rfl)) (fun _ _ _ h => h) (Or.inl ⟨by rfl, ?_⟩) ?_ ?_
               rotate_left
               ·intro w'
                go_simp
                with_reducible rfl
               rotate_left
               ·simp only [Act.put, List.setIfInBounds_toArray, List.set_cons_zero, List.set_cons_succ, i64_w, i32_w]
                rfl
               exact norm_ y2  (hJ7_14_18_19 (gb123, gb124) _ ⟨hHeld, (zr HO_5.out), (zb BK109.out), (zb BK115.out), (zb BK123.out), (zb BK124.out), GW123.out, GE123.out, NB0_123.out, NB123_0.out, NB109_123.out, NB123_109.out, NB115_123.out, NB123_115.out, NB124_123.out, NB123_124.out, GW124.out, GE124.out, NB0_124.out, NB124_0.out, NB109_124.out, NB124_109.out, NB115_124.out, NB124_115.out, (zHI0), (zHK), (zHB)⟩)
              skip
              rintro gb124 w44 ⟨hS_, h0_, h1_, h2_, h3_, h4_, h5_, h6_, h7_, h8_, h9_, h10_, h11_, h12_, h13_, h14_⟩
              have n0_ : Aside0 (Kd.R k26 26 w44 w.heap.size (fun k_ => k_ ≠ gb109 ∧ k_ ≠ gb115 ∧ k_ ≠ gb124) (.slice (some ad114) x5_1.length co33) x5_1) := ⟨h0_⟩
              have n1_ : Aside0 (w44.heap[gb109]? = some (.cells #[.int .i64 t106, .int .i64 t107] 26 (0, 0))) := ⟨h1_⟩
              have n2_ : Aside0 (w44.heap[gb115]? = some (.cells #[.int .i64 ((rd_T26 x5_1 t112).f0), .int .i64 ((rd_T26 x5_1 t112).f1)] 26 (0, 0))) := ⟨h2_⟩
              have n3_ : Aside0 (w44.heap[gb124]? = some (.cells #[.int .i64 0, .int .i64 0] 26 (0, 0))) := ⟨h3_⟩
              have n4_ : Aside0 (w.heap.size ≤ gb124) := ⟨h4_⟩
              have n5_ : Aside0 (w0.heap.size ≤ gb124) := ⟨h5_⟩
              have n6_ : Aside0 (g ≠ gb124) := ⟨h6_⟩
              have n7_ : Aside0 (gb124 ≠ g) := ⟨h7_⟩
              have n8_ : Aside0 (gb109 ≠ gb124) := ⟨h8_⟩
              have n9_ : Aside0 (gb124 ≠ gb109) := ⟨h9_⟩
              have n10_ : Aside0 (gb115 ≠ gb124) := ⟨h10_⟩
              have n11_ : Aside0 (gb124 ≠ gb115) := ⟨h11_⟩
              have n12_ : Aside0 (IsS117 w0 w44 g s0_0 t117) := ⟨h12_⟩
              have n13_ : Aside0 (KeepBut w w44 g none) := ⟨h13_⟩
              have n14_ : Aside0 (Below w0.heap.size w0 w44) := ⟨h14_⟩
              clear HO_5
              clear BK109
              clear BK115
              clear HI0
              clear HK
              clear HB
              clear h0_ h1_ h2_ h3_ h4_ h5_ h6_ h7_ h8_ h9_ h10_ h11_ h12_ h13_ h14_
              have HO_5 := n0_
              have BK109 := n1_
              have BK115 := n2_
              have BK124 := n3_
              have GW124 := n4_
              have GE124 := n5_
              have NB0_124 := n6_
              have NB124_0 := n7_
              have NB109_124 := n8_
              have NB124_109 := n9_
              have NB115_124 := n10_
              have NB124_115 := n11_
              have HI0 := n12_
              have HK := n13_
              have HB := n14_
              clear n0_ n1_ n2_ n3_ n4_ n5_ n6_ n7_ n8_ n9_ n10_ n11_ n12_ n13_ n14_
              have hHeld : w44.cell? ⟨gb115, 0, none⟩ = some (.int .i64 ((rd_T26 x5_1 t112).f0)) ∧ w44.cell? ⟨gb115, 1, none⟩ = some (.int .i64 ((rd_T26 x5_1 t112).f1)) := hS_
              refine norm_ (a' := ?_) ?_ ?_
              rotate_left
              ·simp only [putAll, Act.put, List.setIfInBounds_toArray, List.set_cons_zero, List.set_cons_succ]
               rfl
              refine one_ (i := 18) (N := some 9) (zl 22 1048575) rfl rfl (one_of HT_.out (by kernel_rfl)) (by decide) (fun K hK => ?_)
              refine box_step ?hg (N := 9) ?hd (cs := #[.int .i64 0, .int .i64 0]) (t := 26) ?hr ?_; (case hd => rfl); (case hg => rfl); (case hr => first | (go_simp; done) | (go_simp; rfl))
              intro gb123 hg w45 hbox hb
              have n0_ := zA (Kd.R_below (Kd.R_elderB (zr HO_5.out) gb123 (Nat.le_of_eq hg.symm)) hb)
              have n1_ := zA (blk_below (g := gb109) (o := .cells #[.int .i64 t106, .int .i64 t107] 26 (0, 0)) (zb BK109.out) hb)
              have n2_ := zA (IsS117.below (zHI0) hb)
              have n3_ := zA (blk_below (g := gb115) (o := .cells #[.int .i64 ((rd_T26 x5_1 t112).f0), .int .i64 ((rd_T26 x5_1 t112).f1)] 26 (0, 0)) (zb BK115.out) hb)
              have n4_ := zA (blk_below (g := gb124) (o := .cells #[.int .i64 0, .int .i64 0] 26 (0, 0)) (zb BK124.out) hb)
              have n5_ := zA (KeepBut.trans (zHK) (KeepBut.of_below hb g none) (.inl rfl))
              have n6_ := zA (below_step (zHB) hb)
              have n7_ := zA (hbox)
              have n8_ := zA ((show w.heap.size ≤ gb123 from y32))
              have n9_ := zA ((Nat.le_trans HW0.out (show w.heap.size ≤ gb123 from y32) : w0.heap.size ≤ gb123))
              have n10_ := zA ((show gb109 ≠ gb123 from y11))
              have n11_ := zA ((show gb123 ≠ gb109 from y12))
              have n12_ := zA ((show gb115 ≠ gb123 from y4))
              have n13_ := zA ((show gb123 ≠ gb115 from y5))
              have n14_ := zA ((show gb124 ≠ gb123 from y15))
              have n15_ := zA ((show gb123 ≠ gb124 from y16))
              have n16_ := zA ((show g ≠ gb123 from y25))
              have n17_ := zA ((show gb123 ≠ g from y26))
              clear HO_5
              clear BK109
              clear HI0
              clear BK115
              clear BK124
              clear HK
              clear HB
              have HO_5 := n0_
              have BK109 := n1_
              have HI0 := n2_
              have BK115 := n3_
              have BK124 := n4_
              have HK := n5_
              have HB := n6_
              have BK123 := n7_
              have GW123 := n8_
              have GE123 := n9_
              have NB109_123 := n10_
              have NB123_109 := n11_
              have NB115_123 := n12_
              have NB123_115 := n13_
              have NB124_123 := n14_
              have NB123_124 := n15_
              have NB0_123 := n16_
              have NB123_0 := n17_
              clear n0_ n1_ n2_ n3_ n4_ n5_ n6_ n7_ n8_ n9_ n10_ n11_ n12_ n13_ n14_ n15_ n16_ n17_
              clear hb hbox hg
              refine hK.out _ _ ⟨(blk_cell BK115.out 0).trans rfl, (blk_cell BK115.out 1).trans rfl⟩ (fun hHeld => ?_)
              clear hK K
              refine norm_ (a' := ?_) ?_ ?_
              rotate_left
              ·show Act.put _ (some 9) _ = _
               simp only [Act.put, List.setIfInBounds_toArray, List.set_cons_zero, List.set_cons_succ, i64_w, i32_w]
               rfl
              exact norm_ y2  (hJ7_14_18_19 (gb123, gb124) _ ⟨hHeld, y29 , (zb BK109.out), (zb BK115.out), (zb BK123.out), (zb BK124.out), GW123.out, GE123.out, NB0_123.out, NB123_0.out, NB109_123.out, NB123_109.out, NB115_123.out, NB123_115.out, NB124_123.out, NB123_124.out, GW124.out, GE124.out, NB0_124.out, NB124_0.out, NB109_124.out, NB124_109.out, NB115_124.out, NB124_115.out, (zHI0), (zHK), (zHB)⟩)
             skip
             rintro gb123 w44 ⟨hS_, h0_, h1_, h2_, h3_, h4_, h5_, h6_, h7_, h8_, h9_, h10_, h11_, h12_, h13_, h14_⟩
             have n0_ : Aside0 (Kd.R k26 26 w44 w.heap.size (fun k_ => k_ ≠ gb109 ∧ k_ ≠ gb115 ∧ k_ ≠ gb123) (.slice (some ad114) x5_1.length co33) x5_1) := ⟨h0_⟩
             have n1_ : Aside0 (w44.heap[gb109]? = some (.cells #[.int .i64 t106, .int .i64 t107] 26 (0, 0))) := ⟨h1_⟩
             have n2_ : Aside0 (w44.heap[gb115]? = some (.cells #[.int .i64 ((rd_T26 x5_1 t112).f0), .int .i64 ((rd_T26 x5_1 t112).f1)] 26 (0, 0))) := ⟨h2_⟩
             have n3_ : Aside0 (w44.heap[gb123]? = some (.cells #[.int .i64 0, .int .i64 0] 26 (0, 0))) := ⟨h3_⟩
             have n4_ : Aside0 (w.heap.size ≤ gb123) := ⟨h4_⟩
             have n5_ : Aside0 (w0.heap.size ≤ gb123) := ⟨h5_⟩
             have n6_ : Aside0 (g ≠ gb123) := ⟨h6_⟩
             have n7_ : Aside0 (gb123 ≠ g) := ⟨h7_⟩
             have n8_ : Aside0 (gb109 ≠ gb123) := ⟨h8_⟩
             have n9_ : Aside0 (gb123 ≠ gb109) := ⟨h9_⟩
             have n10_ : Aside0 (gb115 ≠ gb123) := ⟨h10_⟩
             have n11_ : Aside0 (gb123 ≠ gb115) := ⟨h11_⟩
             have n12_ : Aside0 (IsS117 w0 w44 g s0_0 t117) := ⟨h12_⟩
             have n13_ : Aside0 (KeepBut w w44 g none) := ⟨h13_⟩
             have n14_ : Aside0 (Below w0.heap.size w0 w44) := ⟨h14_⟩
             clear HO_5
             clear BK109
             clear BK115
             clear HI0
             clear HK
             clear HB
             clear h0_ h1_ h2_ h3_ h4_ h5_ h6_ h7_ h8_ h9_ h10_ h11_ h12_ h13_ h14_
             have HO_5 := n0_
             have BK109 := n1_
             have BK115 := n2_
             have BK123 := n3_
             have GW123 := n4_
             have GE123 := n5_
             have NB0_123 := n6_
             have NB123_0 := n7_
             have NB109_123 := n8_
             have NB123_109 := n9_
             have NB115_123 := n10_
             have NB123_115 := n11_
             have HI0 := n12_
             have HK := n13_
             have HB := n14_
             clear n0_ n1_ n2_ n3_ n4_ n5_ n6_ n7_ n8_ n9_ n10_ n11_ n12_ n13_ n14_
             have hHeld : w44.cell? ⟨gb115, 0, none⟩ = some (.int .i64 ((rd_T26 x5_1 t112).f0)) ∧ w44.cell? ⟨gb115, 1, none⟩ = some (.int .i64 ((rd_T26 x5_1 t112).f1)) := hS_
             refine norm_ (a' := ?_) ?_ ?_
             rotate_left
             ·simp only [putAll, Act.put, List.setIfInBounds_toArray, List.set_cons_zero, List.set_cons_succ]
              rfl
             refine one_ (i := 19) (N := some 10) (zl 22 1048575) rfl rfl (one_of HT_.out (by kernel_rfl)) (by decide) (fun K hK => ?_)
             refine box_step ?hg (N := 10) ?hd (cs := #[.int .i64 0, .int .i64 0]) (t := 26) ?hr ?_; (case hd => rfl); (case hg => rfl); (case hr => first | (go_simp; done) | (go_simp; rfl))
             intro gb124 hg w45 hbox hb
             have n0_ := zA (Kd.R_below (Kd.R_elderB (zr HO_5.out) gb124 (Nat.le_of_eq hg.symm)) hb)
             have n1_ := zA (blk_below (g := gb109) (o := .cells #[.int .i64 t106, .int .i64 t107] 26 (0, 0)) (zb BK109.out) hb)
             have n2_ := zA (IsS117.below (zHI0) hb)
             have n3_ := zA (blk_below (g := gb115) (o := .cells #[.int .i64 ((rd_T26 x5_1 t112).f0), .int .i64 ((rd_T26 x5_1 t112).f1)] 26 (0, 0)) (zb BK115.out) hb)
             have n4_ := zA (blk_below (g := gb123) (o := .cells #[.int .i64 0, .int .i64 0] 26 (0, 0)) (zb BK123.out) hb)
             have n5_ := zA (KeepBut.trans (zHK) (KeepBut.of_below hb g none) (.inl rfl))
             have n6_ := zA (below_step (zHB) hb)
             have n7_ := zA (hbox)
             have n8_ := zA ((show w.heap.size ≤ gb124 from y33))
             have n9_ := zA ((Nat.le_trans HW0.out (show w.heap.size ≤ gb124 from y33) : w0.heap.size ≤ gb124))
             have n10_ := zA ((show gb109 ≠ gb124 from y13))
             have n11_ := zA ((show gb124 ≠ gb109 from y14))
             have n12_ := zA ((show gb115 ≠ gb124 from y6))
             have n13_ := zA ((show gb124 ≠ gb115 from y7))
             have n14_ := zA ((show gb123 ≠ gb124 from y17))
             have n15_ := zA ((show gb124 ≠ gb123 from y18))
             have n16_ := zA ((show g ≠ gb124 from y27))
             have n17_ := zA ((show gb124 ≠ g from y28))
             clear HO_5
             clear BK109
             clear HI0
             clear BK115
             clear BK123
             clear HK
             clear HB
             have HO_5 := n0_
             have BK109 := n1_
             have HI0 := n2_
             have BK115 := n3_
             have BK123 := n4_
             have HK := n5_
             have HB := n6_
             have BK124 := n7_
             have GW124 := n8_
             have GE124 := n9_
             have NB109_124 := n10_
             have NB124_109 := n11_
             have NB115_124 := n12_
             have NB124_115 := n13_
             have NB123_124 := n14_
             have NB124_123 := n15_
             have NB0_124 := n16_
             have NB124_0 := n17_
             clear n0_ n1_ n2_ n3_ n4_ n5_ n6_ n7_ n8_ n9_ n10_ n11_ n12_ n13_ n14_ n15_ n16_ n17_
             clear hb hbox hg
             refine hK.out _ _ ⟨(blk_cell BK115.out 0).trans rfl, (blk_cell BK115.out 1).trans rfl⟩ (fun hHeld => ?_)
             clear hK K
             refine norm_ (a' := ?_) ?_ ?_
             rotate_left
             ·show Act.put _ (some 10) _ = _
              simp only [Act.put, List.setIfInBounds_toArray, List.set_cons_zero, List.set_cons_succ, i64_w, i32_w]
              rfl
             exact norm_ y2  (hJ7_14_18_19 (gb123, gb124) _ ⟨hHeld, y30 , (zb BK109.out), (zb BK115.out), (zb BK123.out), (zb BK124.out), GW123.out, GE123.out, NB0_123.out, NB123_0.out, NB109_123.out, NB123_109.out, NB115_123.out, NB123_115.out, NB124_123.out, NB123_124.out, GW124.out, GE124.out, NB0_124.out, NB124_0.out, NB109_124.out, NB124_109.out, NB115_124.out, NB124_115.out, (zHI0), (zHK), (zHB)⟩)
            rintro ⟨gb123, gb124⟩ w45 ⟨hS_, h0_, h1_, h2_, h3_, h4_, h5_, h6_, h7_, h8_, h9_, h10_, h11_, h12_, h13_, h14_, h15_, h16_, h17_, h18_, h19_, h20_, h21_, h22_, h23_, h24_, h25_⟩
            have n0_ : Aside0 (Kd.R k26 26 w45 w.heap.size (fun k_ => k_ ≠ gb109 ∧ k_ ≠ gb115 ∧ k_ ≠ gb123 ∧ k_ ≠ gb124) (.slice (some ad114) x5_1.length co33) x5_1) := ⟨h0_⟩
            have n1_ : Aside0 (w45.heap[gb109]? = some (.cells #[.int .i64 t106, .int .i64 t107] 26 (0, 0))) := ⟨h1_⟩
            have n2_ : Aside0 (w45.heap[gb115]? = some (.cells #[.int .i64 ((rd_T26 x5_1 t112).f0), .int .i64 ((rd_T26 x5_1 t112).f1)] 26 (0, 0))) := ⟨h2_⟩
            have n3_ : Aside0 (w45.heap[gb123]? = some (.cells #[.int .i64 0, .int .i64 0] 26 (0, 0))) := ⟨h3_⟩
            have n4_ : Aside0 (w45.heap[gb124]? = some (.cells #[.int .i64 0, .int .i64 0] 26 (0, 0))) := ⟨h4_⟩
            have n5_ : Aside0 (w.heap.size ≤ gb123) := ⟨h5_⟩
            have n6_ : Aside0 (w0.heap.size ≤ gb123) := ⟨h6_⟩
            have n7_ : Aside0 (g ≠ gb123) := ⟨h7_⟩
            have n8_ : Aside0 (gb123 ≠ g) := ⟨h8_⟩
            have n9_ : Aside0 (gb109 ≠ gb123) := ⟨h9_⟩
            have n10_ : Aside0 (gb123 ≠ gb109) := ⟨h10_⟩
            have n11_ : Aside0 (gb115 ≠ gb123) := ⟨h11_⟩
            have n12_ : Aside0 (gb123 ≠ gb115) := ⟨h12_⟩
            have n13_ : Aside0 (gb124 ≠ gb123) := ⟨h13_⟩
            have n14_ : Aside0 (gb123 ≠ gb124) := ⟨h14_⟩
            have n15_ : Aside0 (w.heap.size ≤ gb124) := ⟨h15_⟩
            have n16_ : Aside0 (w0.heap.size ≤ gb124) := ⟨h16_⟩
            have n17_ : Aside0 (g ≠ gb124) := ⟨h17_⟩
            have n18_ : Aside0 (gb124 ≠ g) := ⟨h18_⟩
            have n19_ : Aside0 (gb109 ≠ gb124) := ⟨h19_⟩
            have n20_ : Aside0 (gb124 ≠ gb109) := ⟨h20_⟩
            have n21_ : Aside0 (gb115 ≠ gb124) := ⟨h21_⟩
            have n22_ : Aside0 (gb124 ≠ gb115) := ⟨h22_⟩
            have n23_ : Aside0 (IsS117 w0 w45 g s0_0 t117) := ⟨h23_⟩
            have n24_ : Aside0 (KeepBut w w45 g none) := ⟨h24_⟩
            have n25_ : Aside0 (Below w0.heap.size w0 w45) := ⟨h25_⟩
            clear HO_5
            clear BK109
            clear BK115
            clear HI0
            clear HK
            clear HB
            clear h0_ h1_ h2_ h3_ h4_ h5_ h6_ h7_ h8_ h9_ h10_ h11_ h12_ h13_ h14_ h15_ h16_ h17_ h18_ h19_ h20_ h21_ h22_ h23_ h24_ h25_
            have HO_5 := n0_
            have BK109 := n1_
            have BK115 := n2_
            have BK123 := n3_
            have BK124 := n4_
            have GW123 := n5_
            have GE123 := n6_
            have NB0_123 := n7_
            have NB123_0 := n8_
            have NB109_123 := n9_
            have NB123_109 := n10_
            have NB115_123 := n11_
            have NB123_115 := n12_
            have NB124_123 := n13_
            have NB123_124 := n14_
            have GW124 := n15_
            have GE124 := n16_
            have NB0_124 := n17_
            have NB124_0 := n18_
            have NB109_124 := n19_
            have NB124_109 := n20_
            have NB115_124 := n21_
            have NB124_115 := n22_
            have HI0 := n23_
            have HK := n24_
            have HB := n25_
            clear n0_ n1_ n2_ n3_ n4_ n5_ n6_ n7_ n8_ n9_ n10_ n11_ n12_ n13_ n14_ n15_ n16_ n17_ n18_ n19_ n20_ n21_ n22_ n23_ n24_ n25_
            have hHeld : w45.cell? ⟨gb115, 0, none⟩ = some (.int .i64 ((rd_T26 x5_1 t112).f0)) ∧ w45.cell? ⟨gb115, 1, none⟩ = some (.int .i64 ((rd_T26 x5_1 t112).f1)) := hS_
            refine norm_ (a' := ?_) ?_ ?_
            rotate_left
            ·simp only [putAll, Act.put, List.setIfInBounds_toArray, List.set_cons_zero, List.set_cons_succ]
             rfl
            refine one_ (i := 20) (N := none) (zl 22 2097151) rfl rfl (one_of HT_.out (by kernel_rfl)) (by decide) (fun K hK => ?_)
            have hs46 : w45.cell? ⟨gb123, 0, none⟩ = some (.int .i64 0) := (blk_cell BK123.out 0).trans rfl
            have hfs46 := blk_frozen BK123.out 0
            have hns46_0 := NB109_123.out
            have hns46_1 := NB115_123.out
            have hns46_3 := NB124_123.out
            have hms46_0 := NB123_109.out
            have hms46_1 := NB123_115.out
            have hms46_3 := NB123_124.out
            have hs47 : w45.cell? ⟨gb123, 1, none⟩ = some (.int .i64 0) := (blk_cell BK123.out 1).trans rfl
            have hfs47 := blk_frozen BK123.out 1
            have hns47_0 := NB109_123.out
            have hns47_1 := NB115_123.out
            have hns47_3 := NB124_123.out
            have hms47_0 := NB123_109.out
            have hms47_1 := NB123_115.out
            have hms47_3 := NB123_124.out
            refine skip_ (w1 := ?_) (by rfl) rfl ?_ ?_
            rotate_left
            ·go_simp
             rfl
            refine hK.out _ _ ⟨((cell_far (p := ⟨gb123, _, none⟩) NB115_123.out _).trans (((cell_far (p := ⟨gb123, _, none⟩) NB115_123.out _).trans (hHeld.1)))), ((cell_far (p := ⟨gb123, _, none⟩) NB115_123.out _).trans (((cell_far (p := ⟨gb123, _, none⟩) NB115_123.out _).trans (hHeld.2))))⟩ (fun hHeld => ?_)
            clear hK K
            refine one_ (i := 21) (N := none) (zl 22 4194303) rfl rfl (one_of HT_.out (by kernel_rfl)) (by decide) (fun K hK => ?_)
            have hs48 : w45.cell? ⟨gb124, 0, none⟩ = some (.int .i64 0) := (blk_cell BK124.out 0).trans rfl
            have hfs48 := blk_frozen BK124.out 0
            have hns48_0 := NB109_124.out
            have hns48_1 := NB115_124.out
            have hns48_2 := NB123_124.out
            have hms48_0 := NB124_109.out
            have hms48_1 := NB124_115.out
            have hms48_2 := NB124_123.out
            have hs49 : w45.cell? ⟨gb124, 1, none⟩ = some (.int .i64 0) := (blk_cell BK124.out 1).trans rfl
            have hfs49 := blk_frozen BK124.out 1
            have hns49_0 := NB109_124.out
            have hns49_1 := NB115_124.out
            have hns49_2 := NB123_124.out
            have hms49_0 := NB124_109.out
            have hms49_1 := NB124_115.out
            have hms49_2 := NB124_123.out
            refine skip_ (w1 := ?_) (by rfl) rfl ?_ ?_
            rotate_left
            ·go_simp
             rfl
            refine hK.out _ _ ⟨((cell_far (p := ⟨gb124, _, none⟩) NB115_124.out _).trans (((cell_far (p := ⟨gb124, _, none⟩) NB115_124.out _).trans (hHeld.1)))), ((cell_far (p := ⟨gb124, _, none⟩) NB115_124.out _).trans (((cell_far (p := ⟨gb124, _, none⟩) NB115_124.out _).trans (hHeld.2))))⟩ (fun hHeld => ?_)
            clear hK K
            refine done_ (done_of HT_.out (by kernel_rfl)) ?_
            try go_wp2
            have pi130 : (0 ≤ (t128 : Int)) = True := eq_true (of_decide_eq_true y35 )
            have qi130 : (t128 < (y125.length : Int)) = True := eq_true (of_decide_eq_true y35 )
            have n0_ : Aside0 (Kd.R k26 26 ((((w45.setCell ⟨gb123, 0, none⟩ (.int .i64 t119)).setCell ⟨gb123, 1, none⟩ (.int .i64 t120)).setCell ⟨gb124, 0, none⟩ (.int .i64 t121)).setCell ⟨gb124, 1, none⟩ (.int .i64 t122)) w.heap.size (fun k_ => k_ ≠ gb109 ∧ k_ ≠ gb115 ∧ k_ ≠ gb123 ∧ k_ ≠ gb124) (.slice (some ad114) x5_1.length co33) x5_1) := ⟨by refine zk ?_; exact Kd.R_mono (Kd.R_far (p := ⟨gb124, 1, none⟩) (Kd.R_far (p := ⟨gb124, 0, none⟩) (Kd.R_far (p := ⟨gb123, 1, none⟩) (Kd.R_far (p := ⟨gb123, 0, none⟩) (Kd.R_mono (Kd.R_mono HO_5.out (fun k_ hk => (⟨hk, hk.2.2.1⟩ : _ ∧ k_ ≠ gb123))) (fun k_ hk => (⟨hk, hk.1.2.2.2⟩ : _ ∧ k_ ≠ gb124))) (fun _ hk => hk.1.2) (.int .i64 t119)) (fun _ hk => hk.1.2) (.int .i64 t120)) (fun _ hk => hk.2) (.int .i64 t121)) (fun _ hk => hk.2) (.int .i64 t122)) (fun _ hk => ⟨hk.1.1.1, ⟨hk.1.1.2.1, ⟨hk.1.1.2.2.1, hk.1.1.2.2.2⟩⟩⟩)⟩
            have n1_ : Aside0 (((((w45.setCell ⟨gb123, 0, none⟩ (.int .i64 t119)).setCell ⟨gb123, 1, none⟩ (.int .i64 t120)).setCell ⟨gb124, 0, none⟩ (.int .i64 t121)).setCell ⟨gb124, 1, none⟩ (.int .i64 t122)).heap[gb109]? = some (.cells #[.int .i64 t106, .int .i64 t107] 26 (0, 0))) := ⟨by refine zq ?_; refine blk_far ?_ NB109_124.out _; refine zq ?_; refine blk_far ?_ NB109_124.out _; refine zq ?_; refine blk_far ?_ NB109_123.out _; refine zq ?_; refine blk_far ?_ NB109_123.out _; refine zq ?_; exact BK109.out⟩
            have n2_ : Aside0 (((((w45.setCell ⟨gb123, 0, none⟩ (.int .i64 t119)).setCell ⟨gb123, 1, none⟩ (.int .i64 t120)).setCell ⟨gb124, 0, none⟩ (.int .i64 t121)).setCell ⟨gb124, 1, none⟩ (.int .i64 t122)).heap[gb115]? = some (.cells #[.int .i64 ((rd_T26 x5_1 t112).f0), .int .i64 ((rd_T26 x5_1 t112).f1)] 26 (0, 0))) := ⟨by refine zq ?_; refine blk_far ?_ NB115_124.out _; refine zq ?_; refine blk_far ?_ NB115_124.out _; refine zq ?_; refine blk_far ?_ NB115_123.out _; refine zq ?_; refine blk_far ?_ NB115_123.out _; refine zq ?_; exact BK115.out⟩
            have n3_ : Aside0 (((((w45.setCell ⟨gb123, 0, none⟩ (.int .i64 t119)).setCell ⟨gb123, 1, none⟩ (.int .i64 t120)).setCell ⟨gb124, 0, none⟩ (.int .i64 t121)).setCell ⟨gb124, 1, none⟩ (.int .i64 t122)).heap[gb123]? = some (.cells #[.int .i64 t119, .int .i64 t120] 26 (0, 0))) := ⟨by refine zq ?_; refine blk_far ?_ NB123_124.out _; refine zq ?_; refine blk_far ?_ NB123_124.out _; refine zq ?_; refine blk_put (cs := #[.int .i64 t119, .int .i64 0]) ?_ 1 _ rfl; refine zq ?_; refine blk_put (cs := #[.int .i64 0, .int .i64 0]) ?_ 0 _ rfl; refine zq ?_; exact BK123.out⟩
            have n4_ : Aside0 (((((w45.setCell ⟨gb123, 0, none⟩ (.int .i64 t119)).setCell ⟨gb123, 1, none⟩ (.int .i64 t120)).setCell ⟨gb124, 0, none⟩ (.int .i64 t121)).setCell ⟨gb124, 1, none⟩ (.int .i64 t122)).heap[gb124]? = some (.cells #[.int .i64 t121, .int .i64 t122] 26 (0, 0))) := ⟨by refine zq ?_; refine blk_put (cs := #[.int .i64 t121, .int .i64 0]) ?_ 1 _ rfl; refine zq ?_; refine blk_put (cs := #[.int .i64 0, .int .i64 0]) ?_ 0 _ rfl; refine zq ?_; refine blk_far ?_ NB124_123.out _; refine zq ?_; refine blk_far ?_ NB124_123.out _; refine zq ?_; exact BK124.out⟩
            have n5_ : Aside0 (IsS117 w0 ((((w45.setCell ⟨gb123, 0, none⟩ (.int .i64 t119)).setCell ⟨gb123, 1, none⟩ (.int .i64 t120)).setCell ⟨gb124, 0, none⟩ (.int .i64 t121)).setCell ⟨gb124, 1, none⟩ (.int .i64 t122)) g s0_0 t117) := ⟨zHI0⟩
            have n6_ : Aside0 (KeepBut w ((((w45.setCell ⟨gb123, 0, none⟩ (.int .i64 t119)).setCell ⟨gb123, 1, none⟩ (.int .i64 t120)).setCell ⟨gb124, 0, none⟩ (.int .i64 t121)).setCell ⟨gb124, 1, none⟩ (.int .i64 t122)) g none) := ⟨zHK⟩
            have n7_ : Aside0 (Below w0.heap.size w0 ((((w45.setCell ⟨gb123, 0, none⟩ (.int .i64 t119)).setCell ⟨gb123, 1, none⟩ (.int .i64 t120)).setCell ⟨gb124, 0, none⟩ (.int .i64 t121)).setCell ⟨gb124, 1, none⟩ (.int .i64 t122))) := ⟨zHB⟩
            (try clear HO_5)
            (try clear BK109)
            (try clear BK115)
            (try clear BK123)
            (try clear BK124)
            (try clear HI0)
            (try clear HK)
            (try clear HB)
            generalize ((((w45.setCell ⟨gb123, 0, none⟩ (.int .i64 t119)).setCell ⟨gb123, 1, none⟩ (.int .i64 t120)).setCell ⟨gb124, 0, none⟩ (.int .i64 t121)).setCell ⟨gb124, 1, none⟩ (.int .i64 t122)) = w50 at n0_ n1_ n2_ n3_ n4_ n5_ n6_ n7_ ⊢
            have HO_5 := n0_
            have BK109 := n1_
            have BK115 := n2_
            have BK123 := n3_
            have BK124 := n4_
            have HI0 := n5_
            have HK := n6_
            have HB := n7_
            clear n0_ n1_ n2_ n3_ n4_ n5_ n6_ n7_
            have n0_ := zA (Kd.R_drew HO_5.out)
            have n1_ := zA (blk_drew BK109.out)
            have n2_ := zA (blk_drew BK115.out)
            have n3_ := zA (blk_drew BK123.out)
            have n4_ := zA (blk_drew BK124.out)
            have n5_ := zA (IsS117.drew HI0.out)
            have n6_ := zA (keep_drew HK.out)
            have n7_ := zA (below_drew1 HB.out)
            clear HO_5
            clear BK109
            clear BK115
            clear BK123
            clear BK124
            clear HI0
            clear HK
            clear HB
            have HO_5 := n0_
            have BK109 := n1_
            have BK115 := n2_
            have BK123 := n3_
            have BK124 := n4_
            have HI0 := n5_
            have HK := n6_
            have HB := n7_
            clear n0_ n1_ n2_ n3_ n4_ n5_ n6_ n7_
            refine start_ (n := 8) (S := fun w' => w'.cell? ⟨gb123, 0, none⟩ = some (.int .i64 t119) ∧ w'.cell? ⟨gb123, 1, none⟩ = some (.int .i64 t120) ∧ w'.cell? ⟨gb124, 0, none⟩ = some (.int .i64 t121) ∧ w'.cell? ⟨gb124, 1, none⟩ = some (.int .i64 t122)) (ds := []) (zl 8 0) (by kernel_rfl) rfl rfl ⟨(blk_cell BK123.out 0).trans rfl, (blk_cell BK123.out 1).trans rfl, (blk_cell BK124.out 0).trans rfl, (blk_cell BK124.out 1).trans rfl⟩ (fun hHeld => ?_); refine with_tabW spec_l5List.tab13 spec_l5List.bits13 (fun HT_ HW_ => ?_)
            generalize w50.drew = w51 at HO_5 BK109 BK115 BK123 BK124 HI0 HK HB hHeld ⊢
            refine pure_ (i := 3) (N := some 67) (v := ?_) (a' := ?_) (zl 8 8) rfl rfl (any_of HT_.out (by kernel_rfl)) (fun _ _ _ h => h) (Or.inl ⟨by rfl, ?_⟩) ?_ ?_
            rotate_left
            ·intro w'
             go_simp
             with_reducible rfl
            rotate_left
            ·simp only [Act.put, List.setIfInBounds_toArray, List.set_cons_zero, List.set_cons_succ, i64_w, i32_w]
             rfl
            refine take_ (i := 0) (N := some 64) (v := ?_) (a' := ?_) (zl 8 9) rfl rfl (take_ofW HT_.out HW_.out (by kernel_rfl)) (fun _ _ _ h => h) (Or.inl ⟨by rfl, ?_⟩) hHeld ?_ ?_
            rotate_left
            ·rintro w' ⟨s0, s1, s2, s3⟩
             go_simp
             with_reducible rfl
            rotate_left
            ·simp only [Act.put, List.setIfInBounds_toArray, List.set_cons_zero, List.set_cons_succ, i64_w, i32_w]
             rfl
            refine take_ (i := 1) (N := some 65) (v := ?_) (a' := ?_) (zl 8 11) rfl rfl (take_ofW HT_.out HW_.out (by kernel_rfl)) (fun _ _ _ h => h) (Or.inl ⟨by rfl, ?_⟩) hHeld ?_ ?_
            rotate_left
            ·rintro w' ⟨s0, s1, s2, s3⟩
             go_simp
             with_reducible rfl
            rotate_left
            ·simp only [Act.put, List.setIfInBounds_toArray, List.set_cons_zero, List.set_cons_succ, i64_w, i32_w]
             rfl
            refine join_ (σ := Value × Addr) 3 (zl 8 31) (fun s_ => [(66, s_.1), (68, .int .i64 t128)]) (fun s_ w' => (w'.cell? ⟨gb123, 0, none⟩ = some (.int .i64 t119) ∧ w'.cell? ⟨gb123, 1, none⟩ = some (.int .i64 t120) ∧ w'.cell? ⟨gb124, 0, none⟩ = some (.int .i64 t121) ∧ w'.cell? ⟨gb124, 1, none⟩ = some (.int .i64 t122)) ∧ (Kd.R k26 26 w' w.heap.size (fun k_ => some k_ ≠ (.slice (some ad114) x5_1.length co33 : Value).ownBlock ∧ k_ ≠ gb109 ∧ k_ ≠ gb115 ∧ k_ ≠ gb123 ∧ k_ ≠ gb124) s_.1 y125) ∧ (Kd.R k26 26 w' w.heap.size (fun k_ => some k_ ≠ (s_.1 : Value).ownBlock ∧ k_ ≠ gb109 ∧ k_ ≠ gb115 ∧ k_ ≠ gb123 ∧ k_ ≠ gb124) (.slice (some ad114) x5_1.length co33) x5_1) ∧ (∃ c_, (s_.1 : Value) = .slice (some s_.2) y125.length c_) ∧ (w'.heap[gb109]? = some (.cells #[.int .i64 t106, .int .i64 t107] 26 (0, 0))) ∧ (w'.heap[gb115]? = some (.cells #[.int .i64 ((rd_T26 x5_1 t112).f0), .int .i64 ((rd_T26 x5_1 t112).f1)] 26 (0, 0))) ∧ (w'.heap[gb123]? = some (.cells #[.int .i64 t119, .int .i64 t120] 26 (0, 0))) ∧ (w'.heap[gb124]? = some (.cells #[.int .i64 t121, .int .i64 t122] 26 (0, 0))) ∧ (IsS117 w0 w' g s0_0 t129) ∧ (KeepBut w w' g none) ∧ (Below w0.heap.size w0 w')) ?_ ?_
            rotate_left
            ·intro hCont
             refine two_ (i := 2) (j := 4) (Ni := some 66) (Nj := some 68) (zl 8 15) (zl 8 27) rfl rfl rfl rfl (two_of HT_.out (by kernel_rfl)) (by decide) (by decide) (fun K hK => ?_) (fun K hK => ?_)
             ·skip
              refine Kd.R_lit_step k26 _ 26 ?hg (N := 66) ?hd (xs := ([(⟨t119, t120⟩ : S26), (⟨t121, t122⟩ : S26)] : List (S26))) (inner := [.int .i64 t119, .int .i64 t120, .int .i64 t121, .int .i64 t122]) (ok := fun _ => True) (okp := fun _ => True) ?hr ?hp (fun _ hk => hk) trivial (Below.refl _ _) (Nat.le_refl _) (by simp) ?_; (case hd => rfl); (case hg => rfl); (case hr => first | (go_simp; done) | (go_simp; rfl)); (case hp => exact (Reps.c2 (show Kd.M k26 _ _ _ (⟨t119, t120⟩ : S26) [.int .i64 t119, .int .i64 t120] from (k26_mkM _ _ _ (⟨t119, t120⟩ : S26) )) (Reps.c2 (show Kd.M k26 _ _ _ (⟨t121, t122⟩ : S26) [.int .i64 t121, .int .i64 t122] from (k26_mkM _ _ _ (⟨t121, t122⟩ : S26) )) (Reps.none _ _))))
              intro v126 w52 ho53 hb hg_ hnew_
              clear hg_ hnew_
              (first | rw [← Ny125.out] at ho53 | (simp only [Int.reduceToNat] at ho53; rw [← Ny125.out] at ho53))
              have n0_ := zA (Kd.R_elder' (zr HO_5.out) (Kd.R_base ho53) hb)
              have n1_ := zA (Kd.R_lower (Kd.R_newB (Kd.R_newB (Kd.R_newB (Kd.R_newB (Kd.R_new' ho53 (Kd.R_lt (zr HO_5.out))) (g := gb109) (o := .cells #[.int .i64 t106, .int .i64 t107] 26 (0, 0)) (zb BK109.out)) (g := gb115) (o := .cells #[.int .i64 ((rd_T26 x5_1 t112).f0), .int .i64 ((rd_T26 x5_1 t112).f1)] 26 (0, 0)) (zb BK115.out)) (g := gb123) (o := .cells #[.int .i64 t119, .int .i64 t120] 26 (0, 0)) (zb BK123.out)) (g := gb124) (o := .cells #[.int .i64 t121, .int .i64 t122] 26 (0, 0)) (zb BK124.out)) (keep_size (w := w) (g := g) (row := none) (zHK)))
              have n2_ := zA (blk_below (g := gb109) (o := .cells #[.int .i64 t106, .int .i64 t107] 26 (0, 0)) (zb BK109.out) hb)
              have n3_ := zA (IsS117.below (zHI0) hb)
              have n4_ := zA (blk_below (g := gb115) (o := .cells #[.int .i64 ((rd_T26 x5_1 t112).f0), .int .i64 ((rd_T26 x5_1 t112).f1)] 26 (0, 0)) (zb BK115.out) hb)
              have n5_ := zA (blk_below (g := gb123) (o := .cells #[.int .i64 t119, .int .i64 t120] 26 (0, 0)) (zb BK123.out) hb)
              have n6_ := zA (blk_below (g := gb124) (o := .cells #[.int .i64 t121, .int .i64 t122] 26 (0, 0)) (zb BK124.out) hb)
              have n7_ := zA (KeepBut.trans (zHK) (KeepBut.of_below hb g none) (.inl rfl))
              have n8_ := zA (below_step (zHB) hb)
              clear HO_5
              clear BK109
              clear HI0
              clear BK115
              clear BK123
              clear BK124
              clear HK
              clear HB
              have HO_5 := n0_
              have HO127 := n1_
              have BK109 := n2_
              have HI0 := n3_
              have BK115 := n4_
              have BK123 := n5_
              have BK124 := n6_
              have HK := n7_
              have HB := n8_
              clear n0_ n1_ n2_ n3_ n4_ n5_ n6_ n7_ n8_
              clear hb ho53
              obtain ⟨Ao54, co54, eo54⟩ := Kd.R_slice HO127.out
              subst eo54
              obtain ⟨ado54, fo54, _⟩ := at_T26 (Kd.R_reads' HO127.out).2.2 0 (by decide) (by rw [Ny125.out]; simp)
              cases fo54
              refine hK.out _ _ ⟨(blk_cell BK123.out 0).trans rfl, (blk_cell BK123.out 1).trans rfl, (blk_cell BK124.out 0).trans rfl, (blk_cell BK124.out 1).trans rfl⟩ (fun hHeld => ?_)
              clear hK K
              refine norm_ (a' := ?_) ?_ ?_
              rotate_left
              ·show Act.put _ (some 66) _ = _
               simp only [Act.put, List.setIfInBounds_toArray, List.set_cons_zero, List.set_cons_succ, i64_w, i32_w]
               rfl
              refine one_ (i := 4) (N := some 68) (zl 8 31) rfl rfl (one_of HT_.out (by kernel_rfl)) (by decide) (fun K hK => ?_)
              refine goes_ Try.func81 (by kernel_rfl) rfl #[.pointer (some ⟨g, 0, none⟩), .int .i64 2] (by rfl) rfl rfl y8  ?_
              with_reducible refine (spec_l1Rd_pick.calls kj8 g s0_0 t117 2 t128 t129 w0 _ ?side1 ?side2 A29.out).mono ?_
              (case side1 => exact zHI0)
              (case side2 => exact zHB)
              rintro e w55 ⟨rfl, hi, hb, hk⟩
              refine ⟨_, rfl, ?_⟩
              have n0_ := zA (Kd.R_mono (Kd.R_keep (IsS117.apart (show IsS117 w0 _ g s0_0 t117 from zHI0) (zr HO_5.out) (by decide)) hk (fun _ h => h.2)) (fun _ h => h.1))
              have n1_ := zA (KeepBut.blk hk (g' := gb109) (o := .cells #[.int .i64 t106, .int .i64 t107] 26 (0, 0)) (zb BK109.out) NB109_0.out (by simp))
              have n2_ := zA (KeepBut.blk hk (g' := gb115) (o := .cells #[.int .i64 ((rd_T26 x5_1 t112).f0), .int .i64 ((rd_T26 x5_1 t112).f1)] 26 (0, 0)) (zb BK115.out) NB115_0.out (by simp))
              have n3_ := zA (KeepBut.blk hk (g' := gb123) (o := .cells #[.int .i64 t119, .int .i64 t120] 26 (0, 0)) (zb BK123.out) NB123_0.out (by simp))
              have n4_ := zA (KeepBut.blk hk (g' := gb124) (o := .cells #[.int .i64 t121, .int .i64 t122] 26 (0, 0)) (zb BK124.out) NB124_0.out (by simp))
              have n5_ := zA (Kd.R_mono (Kd.R_keep (IsS117.apart (show IsS117 w0 _ g s0_0 t117 from zHI0) (zr HO127.out) (by decide)) hk (fun _ h => h.2)) (fun _ h => h.1))
              have n6_ := zA (KeepBut.trans (zHK) hk (.inl rfl))
              have n7_ := zA (hb)
              have n8_ := zA (hi)
              clear HO_5
              clear BK109
              clear BK115
              clear BK123
              clear BK124
              clear HO127
              clear HK
              clear HB
              clear HI0
              have HO_5 := n0_
              have BK109 := n1_
              have BK115 := n2_
              have BK123 := n3_
              have BK124 := n4_
              have HO127 := n5_
              have HK := n6_
              have HB := n7_
              have HI0 := n8_
              clear n0_ n1_ n2_ n3_ n4_ n5_ n6_ n7_ n8_
              (try clear hb)
              (try clear hb2)
              (try clear hk)
              (try clear hi)
              refine hK.out _ _ ⟨(blk_cell BK123.out 0).trans rfl, (blk_cell BK123.out 1).trans rfl, (blk_cell BK124.out 0).trans rfl, (blk_cell BK124.out 1).trans rfl⟩ (fun hHeld => ?_)
              clear hK K
              refine norm_ (a' := ?_) ?_ ?_
              rotate_left
              ·show Act.put _ (some 68) _ = _
               simp only [Act.put, List.setIfInBounds_toArray, List.set_cons_zero, List.set_cons_succ, i64_w, i32_w]
               rfl
              exact norm_ y22  (hCont (.slice (some ado54) y125.length co54, ado54) _ ⟨hHeld, (by refine zk ?_; exact Kd.R_mono HO127.out (fun _ hk => ⟨hk.1.1.1.1.2, ⟨hk.1.1.1.2, ⟨hk.1.1.2, ⟨hk.1.2, hk.2⟩⟩⟩⟩)), y21 , ⟨_, rfl⟩, (zb BK109.out), (zb BK115.out), (zb BK123.out), (zb BK124.out), (zHI0), (zHK), (zHB)⟩)
             skip
             refine goes_ Try.func81 (by kernel_rfl) rfl #[.pointer (some ⟨g, 0, none⟩), .int .i64 2] (by rfl) rfl rfl y8  ?_
             with_reducible refine (spec_l1Rd_pick.calls kj8 g s0_0 t117 2 t128 t129 w0 _ ?side1 ?side2 A29.out).mono ?_
             (case side1 => exact zHI0)
             (case side2 => exact zHB)
             rintro e w52 ⟨rfl, hi, hb, hk⟩
             refine ⟨_, rfl, ?_⟩
             have n0_ := zA (Kd.R_mono (Kd.R_keep (IsS117.apart (show IsS117 w0 _ g s0_0 t117 from zHI0) (zr HO_5.out) (by decide)) hk (fun _ h => h.2)) (fun _ h => h.1))
             have n1_ := zA (KeepBut.blk hk (g' := gb109) (o := .cells #[.int .i64 t106, .int .i64 t107] 26 (0, 0)) (zb BK109.out) NB109_0.out (by simp))
             have n2_ := zA (KeepBut.blk hk (g' := gb115) (o := .cells #[.int .i64 ((rd_T26 x5_1 t112).f0), .int .i64 ((rd_T26 x5_1 t112).f1)] 26 (0, 0)) (zb BK115.out) NB115_0.out (by simp))
             have n3_ := zA (KeepBut.blk hk (g' := gb123) (o := .cells #[.int .i64 t119, .int .i64 t120] 26 (0, 0)) (zb BK123.out) NB123_0.out (by simp))
             have n4_ := zA (KeepBut.blk hk (g' := gb124) (o := .cells #[.int .i64 t121, .int .i64 t122] 26 (0, 0)) (zb BK124.out) NB124_0.out (by simp))
             have n5_ := zA (KeepBut.trans (zHK) hk (.inl rfl))
             have n6_ := zA (hb)
             have n7_ := zA (hi)
             clear HO_5
             clear BK109
             clear BK115
             clear BK123
             clear BK124
             clear HK
             clear HB
             clear HI0
             have HO_5 := n0_
             have BK109 := n1_
             have BK115 := n2_
             have BK123 := n3_
             have BK124 := n4_
             have HK := n5_
             have HB := n6_
             have HI0 := n7_
             clear n0_ n1_ n2_ n3_ n4_ n5_ n6_ n7_
             (try clear hb)
             (try clear hb2)
             (try clear hk)
             (try clear hi)
             refine hK.out _ _ ⟨(blk_cell BK123.out 0).trans rfl, (blk_cell BK123.out 1).trans rfl, (blk_cell BK124.out 0).trans rfl, (blk_cell BK124.out 1).trans rfl⟩ (fun hHeld => ?_)
             clear hK K
             refine norm_ (a' := ?_) ?_ ?_
             rotate_left
             ·show Act.put _ (some 68) _ = _
              simp only [Act.put, List.setIfInBounds_toArray, List.set_cons_zero, List.set_cons_succ, i64_w, i32_w]
              rfl
             refine one_ (i := 2) (N := some 66) (zl 8 31) rfl rfl (one_of HT_.out (by kernel_rfl)) (by decide) (fun K hK => ?_)
             refine Kd.R_lit_step k26 _ 26 ?hg (N := 66) ?hd (xs := ([(⟨t119, t120⟩ : S26), (⟨t121, t122⟩ : S26)] : List (S26))) (inner := [.int .i64 t119, .int .i64 t120, .int .i64 t121, .int .i64 t122]) (ok := fun _ => True) (okp := fun _ => True) ?hr ?hp (fun _ hk => hk) trivial (Below.refl _ _) (Nat.le_refl _) (by simp) ?_; (case hd => rfl); (case hg => rfl); (case hr => first | (go_simp; done) | (go_simp; rfl)); (case hp => exact (Reps.c2 (show Kd.M k26 _ _ _ (⟨t119, t120⟩ : S26) [.int .i64 t119, .int .i64 t120] from (k26_mkM _ _ _ (⟨t119, t120⟩ : S26) )) (Reps.c2 (show Kd.M k26 _ _ _ (⟨t121, t122⟩ : S26) [.int .i64 t121, .int .i64 t122] from (k26_mkM _ _ _ (⟨t121, t122⟩ : S26) )) (Reps.none _ _))))
             intro v126 w53 ho54 hb hg_ hnew_
             clear hg_ hnew_
             (first | rw [← Ny125.out] at ho54 | (simp only [Int.reduceToNat] at ho54; rw [← Ny125.out] at ho54))
             have n0_ := zA (Kd.R_elder' (zr HO_5.out) (Kd.R_base ho54) hb)
             have n1_ := zA (Kd.R_lower (Kd.R_newB (Kd.R_newB (Kd.R_newB (Kd.R_newB (Kd.R_new' ho54 (Kd.R_lt (zr HO_5.out))) (g := gb109) (o := .cells #[.int .i64 t106, .int .i64 t107] 26 (0, 0)) (zb BK109.out)) (g := gb115) (o := .cells #[.int .i64 ((rd_T26 x5_1 t112).f0), .int .i64 ((rd_T26 x5_1 t112).f1)] 26 (0, 0)) (zb BK115.out)) (g := gb123) (o := .cells #[.int .i64 t119, .int .i64 t120] 26 (0, 0)) (zb BK123.out)) (g := gb124) (o := .cells #[.int .i64 t121, .int .i64 t122] 26 (0, 0)) (zb BK124.out)) (keep_size (w := w) (g := g) (row := none) (zHK)))
             have n2_ := zA (blk_below (g := gb109) (o := .cells #[.int .i64 t106, .int .i64 t107] 26 (0, 0)) (zb BK109.out) hb)
             have n3_ := zA (IsS117.below (zHI0) hb)
             have n4_ := zA (blk_below (g := gb115) (o := .cells #[.int .i64 ((rd_T26 x5_1 t112).f0), .int .i64 ((rd_T26 x5_1 t112).f1)] 26 (0, 0)) (zb BK115.out) hb)
             have n5_ := zA (blk_below (g := gb123) (o := .cells #[.int .i64 t119, .int .i64 t120] 26 (0, 0)) (zb BK123.out) hb)
             have n6_ := zA (blk_below (g := gb124) (o := .cells #[.int .i64 t121, .int .i64 t122] 26 (0, 0)) (zb BK124.out) hb)
             have n7_ := zA (KeepBut.trans (zHK) (KeepBut.of_below hb g none) (.inl rfl))
             have n8_ := zA (below_step (zHB) hb)
             clear HO_5
             clear BK109
             clear HI0
             clear BK115
             clear BK123
             clear BK124
             clear HK
             clear HB
             have HO_5 := n0_
             have HO127 := n1_
             have BK109 := n2_
             have HI0 := n3_
             have BK115 := n4_
             have BK123 := n5_
             have BK124 := n6_
             have HK := n7_
             have HB := n8_
             clear n0_ n1_ n2_ n3_ n4_ n5_ n6_ n7_ n8_
             clear hb ho54
             obtain ⟨Ao55, co55, eo55⟩ := Kd.R_slice HO127.out
             subst eo55
             obtain ⟨ado55, fo55, _⟩ := at_T26 (Kd.R_reads' HO127.out).2.2 0 (by decide) (by rw [Ny125.out]; simp)
             cases fo55
             refine hK.out _ _ ⟨(blk_cell BK123.out 0).trans rfl, (blk_cell BK123.out 1).trans rfl, (blk_cell BK124.out 0).trans rfl, (blk_cell BK124.out 1).trans rfl⟩ (fun hHeld => ?_)
             clear hK K
             refine norm_ (a' := ?_) ?_ ?_
             rotate_left
             ·show Act.put _ (some 66) _ = _
              simp only [Act.put, List.setIfInBounds_toArray, List.set_cons_zero, List.set_cons_succ, i64_w, i32_w]
              rfl
             exact norm_ y22  (hCont (.slice (some ado55) y125.length co55, ado55) _ ⟨hHeld, (by refine zk ?_; exact Kd.R_mono HO127.out (fun _ hk => ⟨hk.1.1.1.1.2, ⟨hk.1.1.1.2, ⟨hk.1.1.2, ⟨hk.1.2, hk.2⟩⟩⟩⟩)), y21 , ⟨_, rfl⟩, (zb BK109.out), (zb BK115.out), (zb BK123.out), (zb BK124.out), (zHI0), (zHK), (zHB)⟩)
            rintro ⟨v126, adz_v126⟩ w56 ⟨hS_, h0_, h1_, h2_, h3_, h4_, h5_, h6_, h7_, h8_, h9_⟩
            have n0_ : Aside0 (Kd.R k26 26 w56 w.heap.size (fun k_ => some k_ ≠ (.slice (some ad114) x5_1.length co33 : Value).ownBlock ∧ k_ ≠ gb109 ∧ k_ ≠ gb115 ∧ k_ ≠ gb123 ∧ k_ ≠ gb124) v126 y125) := ⟨h0_⟩
            have n1_ : Aside0 (Kd.R k26 26 w56 w.heap.size (fun k_ => some k_ ≠ (v126 : Value).ownBlock ∧ k_ ≠ gb109 ∧ k_ ≠ gb115 ∧ k_ ≠ gb123 ∧ k_ ≠ gb124) (.slice (some ad114) x5_1.length co33) x5_1) := ⟨h1_⟩
            have n2_ : Aside0 (∃ c_, (v126 : Value) = .slice (some adz_v126) y125.length c_) := ⟨h2_⟩
            have n3_ : Aside0 (w56.heap[gb109]? = some (.cells #[.int .i64 t106, .int .i64 t107] 26 (0, 0))) := ⟨h3_⟩
            have n4_ : Aside0 (w56.heap[gb115]? = some (.cells #[.int .i64 ((rd_T26 x5_1 t112).f0), .int .i64 ((rd_T26 x5_1 t112).f1)] 26 (0, 0))) := ⟨h4_⟩
            have n5_ : Aside0 (w56.heap[gb123]? = some (.cells #[.int .i64 t119, .int .i64 t120] 26 (0, 0))) := ⟨h5_⟩
            have n6_ : Aside0 (w56.heap[gb124]? = some (.cells #[.int .i64 t121, .int .i64 t122] 26 (0, 0))) := ⟨h6_⟩
            have n7_ : Aside0 (IsS117 w0 w56 g s0_0 t129) := ⟨h7_⟩
            have n8_ : Aside0 (KeepBut w w56 g none) := ⟨h8_⟩
            have n9_ : Aside0 (Below w0.heap.size w0 w56) := ⟨h9_⟩
            clear HO_5
            clear BK109
            clear BK115
            clear BK123
            clear BK124
            clear HI0
            clear HK
            clear HB
            clear h0_ h1_ h2_ h3_ h4_ h5_ h6_ h7_ h8_ h9_
            have HO127 := n0_
            have HO_5 := n1_
            have HA_HO127 := n2_
            have BK109 := n3_
            have BK115 := n4_
            have BK123 := n5_
            have BK124 := n6_
            have HI0 := n7_
            have HK := n8_
            have HB := n9_
            clear n0_ n1_ n2_ n3_ n4_ n5_ n6_ n7_ n8_ n9_
            have hHeld : w56.cell? ⟨gb123, 0, none⟩ = some (.int .i64 t119) ∧ w56.cell? ⟨gb123, 1, none⟩ = some (.int .i64 t120) ∧ w56.cell? ⟨gb124, 0, none⟩ = some (.int .i64 t121) ∧ w56.cell? ⟨gb124, 1, none⟩ = some (.int .i64 t122) := hS_
            obtain ⟨co57, eo57⟩ := HA_HO127.out
            clear HA_HO127
            subst eo57
            refine norm_ (a' := ?_) ?_ ?_
            rotate_left
            ·simp only [putAll, Act.put, List.setIfInBounds_toArray, List.set_cons_zero, List.set_cons_succ]
             rfl
            refine pure_ (i := 5) (N := some 69) (v := ?_) (a' := ?_) (zl 8 63) rfl rfl (any_of HT_.out (by kernel_rfl)) (fun _ _ _ h => h) (Or.inl ⟨by rfl, ?_⟩) ?_ ?_
            rotate_left
            ·intro w'
             go_simp
             with_reducible rfl
            rotate_left
            ·simp only [Act.put, List.setIfInBounds_toArray, List.set_cons_zero, List.set_cons_succ, i64_w, i32_w]
             rfl
            refine one_ (i := 6) (N := some 70) (zl 8 127) rfl rfl (one_of HT_.out (by kernel_rfl)) (by decide) (fun K hK => ?_)
            (have p130 : 0 ≤ (t128 : Int) := of_decide_eq_true y35 ; have q130 : t128 < (y125.length : Int) := of_decide_eq_true y35 ; obtain ⟨ad130, e130, hx130_0, hx130_1⟩ := at_T26 (Kd.R_reads' HO127.out).2.2 t128 p130 q130; obtain rfl : adz_v126 = ad130 := (by injection e130))
            refine value_ (w1 := ?_) (v := ?_) (by rfl) rfl ?_ ?_
            rotate_left 2
            ·go_simp
             constructor
             ·rfl
             rfl
            clear hx130_0 hx130_1
            refine hK.out _ _ ⟨(blk_cell BK123.out 0).trans rfl, (blk_cell BK123.out 1).trans rfl, (blk_cell BK124.out 0).trans rfl, (blk_cell BK124.out 1).trans rfl⟩ (fun hHeld => ?_)
            clear hK K
            refine norm_ (a' := ?_) ?_ ?_
            rotate_left
            ·show Act.put _ (some 70) _ = _
             simp only [Act.put, List.setIfInBounds_toArray, List.set_cons_zero, List.set_cons_succ, i64_w, i32_w]
             rfl
            refine one_ (i := 7) (N := none) (zl 8 255) rfl rfl (one_of HT_.out (by kernel_rfl)) (by decide) (fun K hK => ?_)
            have hs58 : w56.cell? ⟨gb109, 0, none⟩ = some (.int .i64 t106) := (blk_cell BK109.out 0).trans rfl
            have hfs58 := blk_frozen BK109.out 0
            have hns58_1 := NB115_109.out
            have hns58_2 := NB123_109.out
            have hns58_3 := NB124_109.out
            have hms58_1 := NB109_115.out
            have hms58_2 := NB109_123.out
            have hms58_3 := NB109_124.out
            have hs59 : w56.cell? ⟨gb109, 1, none⟩ = some (.int .i64 t107) := (blk_cell BK109.out 1).trans rfl
            have hfs59 := blk_frozen BK109.out 1
            have hns59_1 := NB115_109.out
            have hns59_2 := NB123_109.out
            have hns59_3 := NB124_109.out
            have hms59_1 := NB109_115.out
            have hms59_2 := NB109_123.out
            have hms59_3 := NB109_124.out
            refine skip_ (w1 := ?_) (by rfl) rfl ?_ ?_
            rotate_left
            ·go_simp
             rfl
            refine hK.out _ _ ⟨((cell_far (p := ⟨gb109, _, none⟩) NB123_109.out _).trans (((cell_far (p := ⟨gb109, _, none⟩) NB123_109.out _).trans (hHeld.1)))), ((cell_far (p := ⟨gb109, _, none⟩) NB123_109.out _).trans (((cell_far (p := ⟨gb109, _, none⟩) NB123_109.out _).trans (hHeld.2.1)))), ((cell_far (p := ⟨gb109, _, none⟩) NB124_109.out _).trans (((cell_far (p := ⟨gb109, _, none⟩) NB124_109.out _).trans (hHeld.2.2.1)))), ((cell_far (p := ⟨gb109, _, none⟩) NB124_109.out _).trans (((cell_far (p := ⟨gb109, _, none⟩) NB124_109.out _).trans (hHeld.2.2.2))))⟩ (fun hHeld => ?_)
            clear hK K
            refine done_ (done_of HT_.out (by kernel_rfl)) ?_
            have hnb60 := NB109_123.out
            have hnc60 := NB123_109.out
            have hnb61 := NB109_124.out
            have hnc61 := NB124_109.out
            have hnb62 := NB109_0.out
            have hnc62 := NB0_109.out
            have hcz63_0 : w56.cell? ⟨gb109, 0, none⟩ = some (.int .i64 t106) := (blk_cell BK109.out 0).trans rfl
            have hcz63_1 : w56.cell? ⟨gb109, 1, none⟩ = some (.int .i64 t107) := (blk_cell BK109.out 1).trans rfl
            have hfz63_0 := blk_frozen BK109.out 0
            have hfz63_1 := blk_frozen BK109.out 1
            try go_wp2_with (first | ((with_reducible refine gate_builtin (b := .append) (xs := #[.tmp 88, .tmp 90]) rfl ?_); (try (refine gate_guard (by rfl) ?_; dsimp only)); at_builtin; refine Kd.R_append k26 w.heap.size rfl (.tmp 88) (.tmp 90) 58 26 (.agg #[(.int .i64 0), (.int .i64 0)]) 16 rfl Try.underlying58 info26 rfl (by decide) (by omega) (.slice (some ad114) x5_1.length co33) x5_1 (⟨(rd_T26 y125 t128).f0, (rd_T26 y125 t128).f1⟩ : S26) [.int .i64 ((rd_T26 y125 t128).f0), .int .i64 ((rd_T26 y125 t128).f1)] (fun k_ => some k_ ≠ (.slice (some adz_v126) y125.length co57 : Value).ownBlock ∧ k_ ≠ gb109 ∧ k_ ≠ gb115 ∧ k_ ≠ gb123 ∧ k_ ≠ gb124) (fun _ => False) rfl (by first | (go_simp; done) | (go_simp; rfl)) ?aP (fun _ hk => hk.elim) ?aF ?aO (Below.refl _ _) ?aS ?aL ?_; (case aP => exact k26_mkM _ _ _ (⟨(rd_T26 y125 t128).f0, (rd_T26 y125 t128).f1⟩ : S26)); (case aF => exact (fun k_ hk => ⟨Kd.fresh' (Kd.R_lt (by refine zk ?_; exact (Kd.R_mono (Kd.R_far (p := ⟨gb109, 1, none⟩) (Kd.R_far (p := ⟨gb109, 0, none⟩) (Kd.R_mono HO127.out (fun k_ hk => (⟨hk, hk.2.1⟩ : _ ∧ k_ ≠ gb109))) (fun _ hk => hk.2) (.int .i64 ((rd_T26 y125 t128).f0))) (fun _ hk => hk.2) (.int .i64 ((rd_T26 y125 t128).f1))) (fun _ h_ => h_.1)))) k_ hk, Kd.freshB (g := gb109) (o := .cells #[.int .i64 ((rd_T26 y125 t128).f0), .int .i64 ((rd_T26 y125 t128).f1)] 26 (0, 0)) (by refine zq ?_; refine blk_put (cs := #[.int .i64 ((rd_T26 y125 t128).f0), .int .i64 t107]) ?_ 1 _ rfl; refine zq ?_; refine blk_put (cs := #[.int .i64 t106, .int .i64 t107]) ?_ 0 _ rfl; refine zq ?_; exact BK109.out) k_ hk, Kd.freshB (g := gb115) (o := .cells #[.int .i64 ((rd_T26 x5_1 t112).f0), .int .i64 ((rd_T26 x5_1 t112).f1)] 26 (0, 0)) y20  k_ hk, Kd.freshB (g := gb123) (o := .cells #[.int .i64 t119, .int .i64 t120] 26 (0, 0)) (by refine zq ?_; refine blk_far ?_ NB123_109.out _; refine zq ?_; refine blk_far ?_ NB123_109.out _; refine zq ?_; exact BK123.out) k_ hk, Kd.freshB (g := gb124) (o := .cells #[.int .i64 t121, .int .i64 t122] 26 (0, 0)) (by refine zq ?_; refine blk_far ?_ NB124_109.out _; refine zq ?_; refine blk_far ?_ NB124_109.out _; refine zq ?_; exact BK124.out) k_ hk⟩)); (case aO => exact (by refine zk ?_; exact Kd.R_mono (Kd.R_far (p := ⟨gb109, 1, none⟩) (Kd.R_far (p := ⟨gb109, 0, none⟩) (Kd.R_mono HO_5.out (fun k_ hk => (⟨hk, hk.2.1⟩ : _ ∧ k_ ≠ gb109))) (fun _ hk => hk.2) (.int .i64 ((rd_T26 y125 t128).f0))) (fun _ hk => hk.2) (.int .i64 ((rd_T26 y125 t128).f1))) (fun _ hk => ⟨hk.1.1, ⟨hk.1.2.1, ⟨hk.1.2.2.1, ⟨hk.1.2.2.2.1, hk.1.2.2.2.2⟩⟩⟩⟩))); (case aS => exact (keep_size (w := w) (g := g) (row := none) (zHK))); (case aL => have := LMc32.out; omega); intro v132 w64 ho hb hg hat; rw [← Ny131.out] at ho; have n0_ := zA (blk_grown (g := gb109) (o := .cells #[.int .i64 ((rd_T26 y125 t128).f0), .int .i64 ((rd_T26 y125 t128).f1)] 26 (0, 0)) (by refine zq ?_; refine blk_put (cs := #[.int .i64 ((rd_T26 y125 t128).f0), .int .i64 t107]) ?_ 1 _ rfl; refine zq ?_; refine blk_put (cs := #[.int .i64 t106, .int .i64 t107]) ?_ 0 _ rfl; refine zq ?_; exact BK109.out) hg (Kd.R_away HO_5.out (fun _ hk => hk.2.1))); have n1_ := zA (spec_l5List.grown117 HI0.out (zHI0) hg (IsS117.own_ne HI0.out HO_5.out (by decide))); have n2_ := zA (blk_grown (g := gb115) (o := .cells #[.int .i64 ((rd_T26 x5_1 t112).f0), .int .i64 ((rd_T26 x5_1 t112).f1)] 26 (0, 0)) y20  hg (Kd.R_away HO_5.out (fun _ hk => hk.2.2.1))); have n3_ := zA (blk_grown (g := gb123) (o := .cells #[.int .i64 t119, .int .i64 t120] 26 (0, 0)) (by refine zq ?_; refine blk_far ?_ NB123_109.out _; refine zq ?_; refine blk_far ?_ NB123_109.out _; refine zq ?_; exact BK123.out) hg (Kd.R_away HO_5.out (fun _ hk => hk.2.2.2.1))); have n4_ := zA (blk_grown (g := gb124) (o := .cells #[.int .i64 t121, .int .i64 t122] 26 (0, 0)) (by refine zq ?_; refine blk_far ?_ NB124_109.out _; refine zq ?_; refine blk_far ?_ NB124_109.out _; refine zq ?_; exact BK124.out) hg (Kd.R_away HO_5.out (fun _ hk => hk.2.2.2.2))); have n5_ := zA (Kd.R_after (ok := (fun k_ => k_ ≠ gb109 ∧ k_ ≠ gb115 ∧ k_ ≠ gb123 ∧ k_ ≠ gb124)) (by refine zk ?_; exact Kd.R_mono (Kd.R_far (p := ⟨gb109, 1, none⟩) (Kd.R_far (p := ⟨gb109, 0, none⟩) (Kd.R_mono HO127.out (fun k_ hk => (⟨hk, hk.2.1⟩ : _ ∧ k_ ≠ gb109))) (fun _ hk => hk.2) (.int .i64 ((rd_T26 y125 t128).f0))) (fun _ hk => hk.2) (.int .i64 ((rd_T26 y125 t128).f1))) (fun _ hk => ⟨⟨hk.1.2.1, ⟨hk.1.2.2.1, ⟨hk.1.2.2.2.1, hk.1.2.2.2.2⟩⟩⟩, hk.1.1⟩)) hg hat); have n6_ := zA (below_weaken (zHB) HL.out hb); have n7_ := zA (KeepBut.trans (zHK) (KeepBut.of_grown hg g) (Kd.R_base2 HO_5.out)); have n8_ := zA (ho); clear BK109; clear HI0; clear BK115; clear BK123; clear BK124; clear HO127; clear HB; clear HK; clear HO_5; have BK109 := n0_; have HI0 := n1_; have BK115 := n2_; have BK123 := n3_; have BK124 := n4_; have HO127 := n5_; have HB := n6_; have HK := n7_; have HO133 := n8_; clear n0_ n1_ n2_ n3_ n4_ n5_ n6_ n7_ n8_; clear ho hb hg hat))
            go_roundg kj8
            case measure => have := HK1.out; have := HJ8.out; omega
            case rel => exact ⟨(y131), (wrap64 (x6_1 - 1)), (t129), y36 , H', ⟨by have := HK1.out; have := HJ8.out; omega⟩, ⟨by refine zk ?_; exact Kd.R_mono HO133.out (fun _ hk => trivial)⟩, ⟨zHI0⟩, ⟨zHK⟩, ⟨zHB⟩⟩
           rw [if_neg c32] at H
           exact absurd H (by simp)
          rw [if_neg c31] at H
          exact absurd H (by simp)
         rw [if_neg c30] at H
         exact absurd H (by simp)
        rw [if_neg c25] at H
        have c25b0 : decide (0 < ((rd_T26 x5_1 t112).f1)) = false := decide_eq_false c25
        clear c25
        by_cases c65 : x5_1.length < 8796093022208
        ·rw [if_pos c65] at H
         have LMc65 := zA c65
         clear c65
         obtain ⟨y134, hy134⟩ : ∃ y_ : List (S26), y_ = (x5_1 ++ [(⟨t106, t107⟩ : S26)]) := ⟨_, rfl⟩
         replace H : (spec_l5List.l0 kj8 y134 (wrap64 (x6_1 - 1)) s0_0 t117) = some (r1, r2) := by first | (rw [hy134]; with_reducible exact H) | (have H2_ := (Option.bind_some _ _).symm.trans H; rw [hy134]; with_reducible exact H2_) | (have H2_ := (Option.bind_some _ _).symm.trans H; with_reducible exact H2_) | with_reducible exact H | (rw [hy134]; exact H) | exact H
         have Ny134 := zA hy134
         clear hy134
         have H' := zA H
         clear H
         obtain ⟨Ao66, co66, eo66⟩ := Kd.R_slice HO_5.out
         subst eo66
         go_wp2_with (first | ((with_reducible refine gate_callee (f := 81) rfl ?_); refine goesL_ (some 35) rfl rfl Try.func81 (by kernel_rfl) rfl #[.pointer (some ⟨g, 0, none⟩), .int .i64 (x5_1.length : Int)] rfl y8  ?_; (with_reducible refine (spec_l1Rd_pick.calls kj8 g s0_0 x1001_8 (x5_1.length : Int) t112 t113 w0 _ ?side1 ?side2 A20.out).mono ?_); (case side1 => exact zHI0); (case side2 => exact zHB); rintro e w67 ⟨rfl, hi, hb, hk⟩; refine ⟨_, rfl, ?_⟩; have n0_ := zA (Kd.R_mono (Kd.R_keep (IsS117.apart (show IsS117 w0 _ g s0_0 x1001_8 from zHI0) (zr HO_5.out) (by decide)) hk (fun _ h => h.2)) (fun _ h => h.1)); have n1_ := zA (KeepBut.blk hk (g' := gb109) (o := .cells #[.int .i64 t106, .int .i64 t107] 26 (0, 0)) (zb BK109.out) NB109_0.out (by simp)); have n2_ := zA (KeepBut.trans (zHK) hk (.inl rfl)); have n3_ := zA (hb); have n4_ := zA (hi); clear HO_5; clear BK109; clear HK; clear HB; clear HI0; have HO_5 := n0_; have BK109 := n1_; have HK := n2_; have HB := n3_; have HI0 := n4_; clear n0_ n1_ n2_ n3_ n4_; (try clear hb); (try clear hb2); (try clear hk); (try clear hi); have p114 : 0 ≤ (t112 : Int) := of_decide_eq_true y35 ; have q114 : t112 < (x5_1.length : Int) := of_decide_eq_true y35 ; obtain ⟨ad114, e114, hx114_0, hx114_1⟩ := at_T26 (Kd.R_reads' HO_5.out).2.2 t112 p114 q114; cases e114; replace p114 := eq_true p114; replace q114 := eq_true q114) | ((with_reducible refine gate_dst (N := 8) rfl ?_); (try (refine gate_guard (by rfl) ?_; dsimp only)); refine box_event ?hg (N := 8) ?hd (cs := #[.int .i64 0, .int .i64 0]) (t := 26) ?hr ?_; (case hd => rfl); (case hg => rfl); (case hr => first | (go_simp; done) | (go_simp; rfl)); intro gb115 hg w68 hbox hb; have n0_ := zA (Kd.R_below (Kd.R_elderB (zr HO_5.out) gb115 (Nat.le_of_eq hg.symm)) hb); have n1_ := zA (blk_below (g := gb109) (o := .cells #[.int .i64 t106, .int .i64 t107] 26 (0, 0)) (zb BK109.out) hb); have n2_ := zA (IsS117.below (zHI0) hb); have n3_ := zA (KeepBut.trans (zHK) (KeepBut.of_below hb g none) (.inl rfl)); have n4_ := zA (below_step (zHB) hb); have n5_ := zA (hbox); have n6_ := zA ((show w.heap.size ≤ gb115 from y31)); have n7_ := zA ((Nat.le_trans HW0.out (show w.heap.size ≤ gb115 from y31) : w0.heap.size ≤ gb115)); have n8_ := zA ((show gb109 ≠ gb115 from y9)); have n9_ := zA ((show gb115 ≠ gb109 from y10)); have n10_ := zA ((show g ≠ gb115 from y23)); have n11_ := zA ((show gb115 ≠ g from y24)); clear HO_5; clear BK109; clear HI0; clear HK; clear HB; have HO_5 := n0_; have BK109 := n1_; have HI0 := n2_; have HK := n3_; have HB := n4_; have BK115 := n5_; have GW115 := n6_; have GE115 := n7_; have NB109_115 := n8_; have NB115_109 := n9_; have NB0_115 := n10_; have NB115_0 := n11_; clear n0_ n1_ n2_ n3_ n4_ n5_ n6_ n7_ n8_ n9_ n10_ n11_; clear hb hbox hg; have hnb69 := NB115_109.out; have hnc69 := NB109_115.out; have hnb70 := NB115_0.out; have hnc70 := NB0_115.out; have hcz71_0 : w68.cell? ⟨gb115, 0, none⟩ = some (.int .i64 0) := (blk_cell BK115.out 0).trans rfl; have hcz71_1 : w68.cell? ⟨gb115, 1, none⟩ = some (.int .i64 0) := (blk_cell BK115.out 1).trans rfl; have hfz71_0 := blk_frozen BK115.out 0; have hfz71_1 := blk_frozen BK115.out 1) | ((with_reducible refine gate_callee (f := 81) rfl ?_); refine goesL_ (some 39) rfl rfl Try.func81 (by kernel_rfl) rfl #[.pointer (some ⟨g, 0, none⟩), .int .i64 3] rfl y8  ?_; (with_reducible refine (spec_l1Rd_pick.calls kj8 g s0_0 t113 3 t116 t117 w0 _ ?side1 ?side2 A23.out).mono ?_); (case side1 => exact zHI0); (case side2 => exact zHB); rintro e w72 ⟨rfl, hi, hb, hk⟩; refine ⟨_, rfl, ?_⟩; have n0_ := zA (Kd.R_mono (Kd.R_keep (IsS117.apart (show IsS117 w0 _ g s0_0 t113 from zHI0) y1  (by decide)) hk (fun _ h => h.2)) (fun _ h => h.1)); have n1_ := zA (KeepBut.blk hk (g' := gb109) (o := .cells #[.int .i64 t106, .int .i64 t107] 26 (0, 0)) y19  NB109_0.out (by simp)); have n2_ := zA (KeepBut.blk hk (g' := gb115) (o := .cells #[.int .i64 ((rd_T26 x5_1 t112).f0), .int .i64 ((rd_T26 x5_1 t112).f1)] 26 (0, 0)) y3  NB115_0.out (by simp)); have n3_ := zA (KeepBut.trans (zHK) hk (.inl rfl)); have n4_ := zA (hb); have n5_ := zA (hi); clear HO_5; clear BK109; clear BK115; clear HK; clear HB; clear HI0; have HO_5 := n0_; have BK109 := n1_; have BK115 := n2_; have HK := n3_; have HB := n4_; have HI0 := n5_; clear n0_ n1_ n2_ n3_ n4_ n5_; (try clear hb); (try clear hb2); (try clear hk); (try clear hi); have hcz73_0 : w72.cell? ⟨gb115, 0, none⟩ = some (.int .i64 ((rd_T26 x5_1 t112).f0)) := (blk_cell BK115.out 0).trans rfl; have hcz73_1 : w72.cell? ⟨gb115, 1, none⟩ = some (.int .i64 ((rd_T26 x5_1 t112).f1)) := (blk_cell BK115.out 1).trans rfl; have hfz73_0 := blk_frozen BK115.out 0; have hfz73_1 := blk_frozen BK115.out 1; have hnb74 := NB109_0.out; have hnc74 := NB0_109.out; have hcz75_0 : w72.cell? ⟨gb109, 0, none⟩ = some (.int .i64 t106) := (blk_cell BK109.out 0).trans rfl; have hcz75_1 : w72.cell? ⟨gb109, 1, none⟩ = some (.int .i64 t107) := (blk_cell BK109.out 1).trans rfl; have hfz75_0 := blk_frozen BK109.out 0; have hfz75_1 := blk_frozen BK109.out 1) | ((with_reducible refine gate_builtin (b := .append) (xs := #[.tmp 88, .tmp 90]) rfl ?_); (try (refine gate_guard (by rfl) ?_; dsimp only)); at_builtin; refine Kd.R_append k26 w.heap.size rfl (.tmp 88) (.tmp 90) 58 26 (.agg #[(.int .i64 0), (.int .i64 0)]) 16 rfl Try.underlying58 info26 rfl (by decide) (by omega) (.slice (some ad114) x5_1.length co66) x5_1 (⟨t106, t107⟩ : S26) [.int .i64 t106, .int .i64 t107] (fun k_ => k_ ≠ gb109 ∧ k_ ≠ gb115) (fun _ => False) rfl rfl ?aP (fun _ hk => hk.elim) ?aF ?aO (Below.refl _ _) ?aS ?aL ?_; (case aP => exact k26_mkM _ _ _ (⟨t106, t107⟩ : S26)); (case aF => exact (fun k_ hk => ⟨Kd.freshB (g := gb109) (o := .cells #[.int .i64 t106, .int .i64 t107] 26 (0, 0)) (zb BK109.out) k_ hk, Kd.freshB (g := gb115) (o := .cells #[.int .i64 ((rd_T26 x5_1 t112).f0), .int .i64 ((rd_T26 x5_1 t112).f1)] 26 (0, 0)) (zb BK115.out) k_ hk⟩)); (case aO => exact (zr HO_5.out)); (case aS => exact (keep_size (w := w) (g := g) (row := none) (zHK))); (case aL => have := LMc65.out; omega); intro v135 w76 ho hb hg hat; rw [← Ny134.out] at ho; have n0_ := zA (blk_grown (g := gb109) (o := .cells #[.int .i64 t106, .int .i64 t107] 26 (0, 0)) (zb BK109.out) hg (Kd.R_away HO_5.out (fun _ hk => hk.1))); have n1_ := zA (spec_l5List.grown117 HI0.out (zHI0) hg (IsS117.own_ne HI0.out HO_5.out (by decide))); have n2_ := zA (blk_grown (g := gb115) (o := .cells #[.int .i64 ((rd_T26 x5_1 t112).f0), .int .i64 ((rd_T26 x5_1 t112).f1)] 26 (0, 0)) (zb BK115.out) hg (Kd.R_away HO_5.out (fun _ hk => hk.2))); have n3_ := zA (below_weaken (zHB) HL.out hb); have n4_ := zA (KeepBut.trans (zHK) (KeepBut.of_grown hg g) (Kd.R_base2 HO_5.out)); have n5_ := zA (ho); clear BK109; clear HI0; clear BK115; clear HB; clear HK; clear HO_5; have BK109 := n0_; have HI0 := n1_; have BK115 := n2_; have HB := n3_; have HK := n4_; have HO136 := n5_; clear n0_ n1_ n2_ n3_ n4_ n5_; clear ho hb hg hat))
         go_roundg kj8
         case measure => have := HK1.out; have := HJ8.out; omega
         case rel => exact ⟨(y134), (wrap64 (x6_1 - 1)), (t117), y36 , H', ⟨by have := HK1.out; have := HJ8.out; omega⟩, ⟨by refine zk ?_; exact Kd.R_mono HO136.out (fun _ hk => trivial)⟩, ⟨zHI0⟩, ⟨zHK⟩, ⟨zHB⟩⟩
        rw [if_neg c65] at H
        exact absurd H (by simp)
       rw [if_neg c24] at H
       have c24b0 : (t116 == 0) = false := beq_eq_false_iff_ne.mpr c24
       have c24b1 : (t116 != 0) = true := bne_iff_ne.mpr c24
       by_cases c77 : t116 = 1
       ·rw [if_pos c77] at H
        have c77b0 : (t116 == 1) = true := beq_iff_eq.mpr c77
        have c77b1 : (t116 != 1) = false := bne_eq_false_iff_eq.mpr c77
        clear c77
        by_cases c78 : ((rd_T26 x5_1 t112).f1) < 16
        ·rw [if_pos c78] at H
         have c78b0 : decide (((rd_T26 x5_1 t112).f1) < 16) = true := decide_eq_true c78
         clear c78
         replace H := Option.bind_eq_some_iff.mp H
         obtain ⟨⟨t137, t138, t139, t140⟩, A790, H⟩ := H
         replace H : ((some (([(⟨t137, t138⟩ : S26), (⟨t139, t140⟩ : S26)] : List (S26)) : List (S26))).bind fun y143 => ((spec_l1Rd_pick.f kj8 s0_0 t117 2).bind fun bt146 => (if 0 ≤ bt146.1 then (if bt146.1 < (y143.length : Int) then (if x5_1.length < 8796093022208 then (spec_l5List.l0 kj8 (x5_1 ++ [(⟨(rd_T26 y143 bt146.1).f0, (rd_T26 y143 bt146.1).f1⟩ : S26)]) (wrap64 (x6_1 - 1)) s0_0 bt146.2) else (none)) else (none)) else (none)))) = some (r1, r2) := H
         have A79 := zA A790
         clear A790
         obtain ⟨y143, hy143⟩ : ∃ y_ : List (S26), y_ = (([(⟨t137, t138⟩ : S26), (⟨t139, t140⟩ : S26)] : List (S26))) := ⟨_, rfl⟩
         replace H : ((spec_l1Rd_pick.f kj8 s0_0 t117 2).bind fun bt146 => (if 0 ≤ bt146.1 then (if bt146.1 < (y143.length : Int) then (if x5_1.length < 8796093022208 then (spec_l5List.l0 kj8 (x5_1 ++ [(⟨(rd_T26 y143 bt146.1).f0, (rd_T26 y143 bt146.1).f1⟩ : S26)]) (wrap64 (x6_1 - 1)) s0_0 bt146.2) else (none)) else (none)) else (none))) = some (r1, r2) := by first | (rw [hy143]; with_reducible exact H) | (have H2_ := (Option.bind_some _ _).symm.trans H; rw [hy143]; with_reducible exact H2_) | (have H2_ := (Option.bind_some _ _).symm.trans H; with_reducible exact H2_) | with_reducible exact H | (rw [hy143]; exact H) | exact H
         have Ny143 := zA hy143
         clear hy143
         replace H := Option.bind_eq_some_iff.mp H
         obtain ⟨⟨t146, t147⟩, A800, H⟩ := H
         replace H : (if 0 ≤ t146 then (if t146 < (y143.length : Int) then (if x5_1.length < 8796093022208 then (spec_l5List.l0 kj8 (x5_1 ++ [(⟨(rd_T26 y143 t146).f0, (rd_T26 y143 t146).f1⟩ : S26)]) (wrap64 (x6_1 - 1)) s0_0 t147) else (none)) else (none)) else (none)) = some (r1, r2) := H
         have A80 := zA A800
         clear A800
         by_cases c81 : 0 ≤ t146
         ·rw [if_pos c81] at H
          have c81b0 : decide (0 ≤ t146) = true := decide_eq_true c81
          clear c81
          by_cases c82 : t146 < (y143.length : Int)
          ·rw [if_pos c82] at H
           have c82b0 : decide (t146 < (y143.length : Int)) = true := decide_eq_true c82
           clear c82
           by_cases c83 : x5_1.length < 8796093022208
           ·rw [if_pos c83] at H
            have LMc83 := zA c83
            clear c83
            obtain ⟨y149, hy149⟩ : ∃ y_ : List (S26), y_ = (x5_1 ++ [(⟨(rd_T26 y143 t146).f0, (rd_T26 y143 t146).f1⟩ : S26)]) := ⟨_, rfl⟩
            replace H : (spec_l5List.l0 kj8 y149 (wrap64 (x6_1 - 1)) s0_0 t147) = some (r1, r2) := by first | (rw [hy149]; with_reducible exact H) | (have H2_ := (Option.bind_some _ _).symm.trans H; rw [hy149]; with_reducible exact H2_) | (have H2_ := (Option.bind_some _ _).symm.trans H; with_reducible exact H2_) | with_reducible exact H | (rw [hy149]; exact H) | exact H
            have Ny149 := zA hy149
            clear hy149
            have H' := zA H
            clear H
            obtain ⟨Ao84, co84, eo84⟩ := Kd.R_slice HO_5.out
            subst eo84
            try go_wp2_with (first | ((with_reducible refine gate_callee (f := 81) rfl ?_); refine goesL_ (some 35) rfl rfl Try.func81 (by kernel_rfl) rfl #[.pointer (some ⟨g, 0, none⟩), .int .i64 (x5_1.length : Int)] rfl y8  ?_; (with_reducible refine (spec_l1Rd_pick.calls kj8 g s0_0 x1001_8 (x5_1.length : Int) t112 t113 w0 _ ?side1 ?side2 A20.out).mono ?_); (case side1 => exact zHI0); (case side2 => exact zHB); rintro e w85 ⟨rfl, hi, hb, hk⟩; refine ⟨_, rfl, ?_⟩; have n0_ := zA (Kd.R_mono (Kd.R_keep (IsS117.apart (show IsS117 w0 _ g s0_0 x1001_8 from zHI0) (zr HO_5.out) (by decide)) hk (fun _ h => h.2)) (fun _ h => h.1)); have n1_ := zA (KeepBut.blk hk (g' := gb109) (o := .cells #[.int .i64 t106, .int .i64 t107] 26 (0, 0)) (zb BK109.out) NB109_0.out (by simp)); have n2_ := zA (KeepBut.trans (zHK) hk (.inl rfl)); have n3_ := zA (hb); have n4_ := zA (hi); clear HO_5; clear BK109; clear HK; clear HB; clear HI0; have HO_5 := n0_; have BK109 := n1_; have HK := n2_; have HB := n3_; have HI0 := n4_; clear n0_ n1_ n2_ n3_ n4_; (try clear hb); (try clear hb2); (try clear hk); (try clear hi); have p114 : 0 ≤ (t112 : Int) := of_decide_eq_true y35 ; have q114 : t112 < (x5_1.length : Int) := of_decide_eq_true y35 ; obtain ⟨ad114, e114, hx114_0, hx114_1⟩ := at_T26 (Kd.R_reads' HO_5.out).2.2 t112 p114 q114; cases e114; replace p114 := eq_true p114; replace q114 := eq_true q114) | ((with_reducible refine gate_dst (N := 8) rfl ?_); (try (refine gate_guard (by rfl) ?_; dsimp only)); refine box_event ?hg (N := 8) ?hd (cs := #[.int .i64 0, .int .i64 0]) (t := 26) ?hr ?_; (case hd => rfl); (case hg => rfl); (case hr => first | (go_simp; done) | (go_simp; rfl)); intro gb115 hg w86 hbox hb; have n0_ := zA (Kd.R_below (Kd.R_elderB (zr HO_5.out) gb115 (Nat.le_of_eq hg.symm)) hb); have n1_ := zA (blk_below (g := gb109) (o := .cells #[.int .i64 t106, .int .i64 t107] 26 (0, 0)) (zb BK109.out) hb); have n2_ := zA (IsS117.below (zHI0) hb); have n3_ := zA (KeepBut.trans (zHK) (KeepBut.of_below hb g none) (.inl rfl)); have n4_ := zA (below_step (zHB) hb); have n5_ := zA (hbox); have n6_ := zA ((show w.heap.size ≤ gb115 from y31)); have n7_ := zA ((Nat.le_trans HW0.out (show w.heap.size ≤ gb115 from y31) : w0.heap.size ≤ gb115)); have n8_ := zA ((show gb109 ≠ gb115 from y9)); have n9_ := zA ((show gb115 ≠ gb109 from y10)); have n10_ := zA ((show g ≠ gb115 from y23)); have n11_ := zA ((show gb115 ≠ g from y24)); clear HO_5; clear BK109; clear HI0; clear HK; clear HB; have HO_5 := n0_; have BK109 := n1_; have HI0 := n2_; have HK := n3_; have HB := n4_; have BK115 := n5_; have GW115 := n6_; have GE115 := n7_; have NB109_115 := n8_; have NB115_109 := n9_; have NB0_115 := n10_; have NB115_0 := n11_; clear n0_ n1_ n2_ n3_ n4_ n5_ n6_ n7_ n8_ n9_ n10_ n11_; clear hb hbox hg; have hnb87 := NB115_109.out; have hnc87 := NB109_115.out; have hnb88 := NB115_0.out; have hnc88 := NB0_115.out; have hcz89_0 : w86.cell? ⟨gb115, 0, none⟩ = some (.int .i64 0) := (blk_cell BK115.out 0).trans rfl; have hcz89_1 : w86.cell? ⟨gb115, 1, none⟩ = some (.int .i64 0) := (blk_cell BK115.out 1).trans rfl; have hfz89_0 := blk_frozen BK115.out 0; have hfz89_1 := blk_frozen BK115.out 1) | ((with_reducible refine gate_callee (f := 81) rfl ?_); refine goesL_ (some 39) rfl rfl Try.func81 (by kernel_rfl) rfl #[.pointer (some ⟨g, 0, none⟩), .int .i64 3] rfl y8  ?_; (with_reducible refine (spec_l1Rd_pick.calls kj8 g s0_0 t113 3 t116 t117 w0 _ ?side1 ?side2 A23.out).mono ?_); (case side1 => exact zHI0); (case side2 => exact zHB); rintro e w90 ⟨rfl, hi, hb, hk⟩; refine ⟨_, rfl, ?_⟩; have n0_ := zA (Kd.R_mono (Kd.R_keep (IsS117.apart (show IsS117 w0 _ g s0_0 t113 from zHI0) y1  (by decide)) hk (fun _ h => h.2)) (fun _ h => h.1)); have n1_ := zA (KeepBut.blk hk (g' := gb109) (o := .cells #[.int .i64 t106, .int .i64 t107] 26 (0, 0)) y19  NB109_0.out (by simp)); have n2_ := zA (KeepBut.blk hk (g' := gb115) (o := .cells #[.int .i64 ((rd_T26 x5_1 t112).f0), .int .i64 ((rd_T26 x5_1 t112).f1)] 26 (0, 0)) y3  NB115_0.out (by simp)); have n3_ := zA (KeepBut.trans (zHK) hk (.inl rfl)); have n4_ := zA (hb); have n5_ := zA (hi); clear HO_5; clear BK109; clear BK115; clear HK; clear HB; clear HI0; have HO_5 := n0_; have BK109 := n1_; have BK115 := n2_; have HK := n3_; have HB := n4_; have HI0 := n5_; clear n0_ n1_ n2_ n3_ n4_ n5_; (try clear hb); (try clear hb2); (try clear hk); (try clear hi); have hcz91_0 : w90.cell? ⟨gb115, 0, none⟩ = some (.int .i64 ((rd_T26 x5_1 t112).f0)) := (blk_cell BK115.out 0).trans rfl; have hcz91_1 : w90.cell? ⟨gb115, 1, none⟩ = some (.int .i64 ((rd_T26 x5_1 t112).f1)) := (blk_cell BK115.out 1).trans rfl; have hfz91_0 := blk_frozen BK115.out 0; have hfz91_1 := blk_frozen BK115.out 1) | ((with_reducible refine gate_callee (f := 93) rfl ?_); refine goesL_ (some 78) rfl rfl Try.func93 (by kernel_rfl) rfl #[.agg #[.int .i64 ((rd_T26 x5_1 t112).f0), .int .i64 ((rd_T26 x5_1 t112).f1)]] rfl y8  ?_; (with_reducible refine (spec_l1Halves.calls kj8 ((rd_T26 x5_1 t112).f0) ((rd_T26 x5_1 t112).f1) t137 t138 t139 t140 _ A79.out).mono ?_); rintro e w92 ⟨rfl, hb⟩; refine ⟨_, rfl, ?_⟩; have n0_ := zA (Kd.R_below (zr HO_5.out) hb); have n1_ := zA (blk_below (g := gb109) (o := .cells #[.int .i64 t106, .int .i64 t107] 26 (0, 0)) (zb BK109.out) hb); have n2_ := zA (IsS117.below (zHI0) hb); have n3_ := zA (blk_below (g := gb115) (o := .cells #[.int .i64 ((rd_T26 x5_1 t112).f0), .int .i64 ((rd_T26 x5_1 t112).f1)] 26 (0, 0)) (zb BK115.out) hb); have n4_ := zA (KeepBut.trans (zHK) (KeepBut.of_below hb g none) (.inl rfl)); have n5_ := zA (below_step (zHB) hb); clear HO_5; clear BK109; clear HI0; clear BK115; clear HK; clear HB; have HO_5 := n0_; have BK109 := n1_; have HI0 := n2_; have BK115 := n3_; have HK := n4_; have HB := n5_; clear n0_ n1_ n2_ n3_ n4_ n5_; (try clear hb); (try clear hb2); (try clear hk); (try clear hi)) | ((with_reducible refine gate_dst (N := 11) rfl ?_); (try (refine gate_guard (by rfl) ?_; dsimp only)); refine box_event ?hg (N := 11) ?hd (cs := #[.int .i64 0, .int .i64 0]) (t := 26) ?hr ?_; (case hd => rfl); (case hg => rfl); (case hr => first | (go_simp; done) | (go_simp; rfl)); intro gb141 hg w93 hbox hb; have n0_ := zA (Kd.R_below (Kd.R_elderB (zr HO_5.out) gb141 (Nat.le_of_eq hg.symm)) hb); have n1_ := zA (blk_below (g := gb109) (o := .cells #[.int .i64 t106, .int .i64 t107] 26 (0, 0)) (zb BK109.out) hb); have n2_ := zA (IsS117.below (zHI0) hb); have n3_ := zA (blk_below (g := gb115) (o := .cells #[.int .i64 ((rd_T26 x5_1 t112).f0), .int .i64 ((rd_T26 x5_1 t112).f1)] 26 (0, 0)) (zb BK115.out) hb); have n4_ := zA (KeepBut.trans (zHK) (KeepBut.of_below hb g none) (.inl rfl)); have n5_ := zA (below_step (zHB) hb); have n6_ := zA (hbox); have n7_ := zA ((by rw [hg]; exact (keep_size (w := w) (g := g) (row := none) (zHK)) : w.heap.size ≤ gb141)); have n8_ := zA ((Nat.le_trans HW0.out (by rw [hg]; exact (keep_size (w := w) (g := g) (row := none) (zHK)) : w.heap.size ≤ gb141) : w0.heap.size ≤ gb141)); have n9_ := zA ((by rw [hg]; exact Nat.ne_of_lt (blk_lt (g := gb109) (o := .cells #[.int .i64 t106, .int .i64 t107] 26 (0, 0)) (zb BK109.out)) : gb109 ≠ gb141)); have n10_ := zA ((by rw [hg]; exact Nat.ne_of_gt (blk_lt (g := gb109) (o := .cells #[.int .i64 t106, .int .i64 t107] 26 (0, 0)) (zb BK109.out)) : gb141 ≠ gb109)); have n11_ := zA ((by rw [hg]; exact Nat.ne_of_lt (blk_lt (g := gb115) (o := .cells #[.int .i64 ((rd_T26 x5_1 t112).f0), .int .i64 ((rd_T26 x5_1 t112).f1)] 26 (0, 0)) (zb BK115.out)) : gb115 ≠ gb141)); have n12_ := zA ((by rw [hg]; exact Nat.ne_of_gt (blk_lt (g := gb115) (o := .cells #[.int .i64 ((rd_T26 x5_1 t112).f0), .int .i64 ((rd_T26 x5_1 t112).f1)] 26 (0, 0)) (zb BK115.out)) : gb141 ≠ gb115)); have n13_ := zA ((by rw [hg]; exact Nat.ne_of_lt (IsS117.lt (show IsS117 w0 _ g s0_0 t117 from zHI0)) : g ≠ gb141)); have n14_ := zA ((by rw [hg]; exact Nat.ne_of_gt (IsS117.lt (show IsS117 w0 _ g s0_0 t117 from zHI0)) : gb141 ≠ g)); clear HO_5; clear BK109; clear HI0; clear BK115; clear HK; clear HB; have HO_5 := n0_; have BK109 := n1_; have HI0 := n2_; have BK115 := n3_; have HK := n4_; have HB := n5_; have BK141 := n6_; have GW141 := n7_; have GE141 := n8_; have NB109_141 := n9_; have NB141_109 := n10_; have NB115_141 := n11_; have NB141_115 := n12_; have NB0_141 := n13_; have NB141_0 := n14_; clear n0_ n1_ n2_ n3_ n4_ n5_ n6_ n7_ n8_ n9_ n10_ n11_ n12_ n13_ n14_; clear hb hbox hg) | ((with_reducible refine gate_dst (N := 12) rfl ?_); (try (refine gate_guard (by rfl) ?_; dsimp only)); refine box_event ?hg (N := 12) ?hd (cs := #[.int .i64 0, .int .i64 0]) (t := 26) ?hr ?_; (case hd => rfl); (case hg => rfl); (case hr => first | (go_simp; done) | (go_simp; rfl)); intro gb142 hg w94 hbox hb; have n0_ := zA (Kd.R_below (Kd.R_elderB (zr HO_5.out) gb142 (Nat.le_of_eq hg.symm)) hb); have n1_ := zA (blk_below (g := gb109) (o := .cells #[.int .i64 t106, .int .i64 t107] 26 (0, 0)) (zb BK109.out) hb); have n2_ := zA (IsS117.below (zHI0) hb); have n3_ := zA (blk_below (g := gb115) (o := .cells #[.int .i64 ((rd_T26 x5_1 t112).f0), .int .i64 ((rd_T26 x5_1 t112).f1)] 26 (0, 0)) (zb BK115.out) hb); have n4_ := zA (blk_below (g := gb141) (o := .cells #[.int .i64 0, .int .i64 0] 26 (0, 0)) (zb BK141.out) hb); have n5_ := zA (KeepBut.trans (zHK) (KeepBut.of_below hb g none) (.inl rfl)); have n6_ := zA (below_step (zHB) hb); have n7_ := zA (hbox); have n8_ := zA ((by rw [hg]; exact (keep_size (w := w) (g := g) (row := none) (zHK)) : w.heap.size ≤ gb142)); have n9_ := zA ((Nat.le_trans HW0.out (by rw [hg]; exact (keep_size (w := w) (g := g) (row := none) (zHK)) : w.heap.size ≤ gb142) : w0.heap.size ≤ gb142)); have n10_ := zA ((by rw [hg]; exact Nat.ne_of_lt (blk_lt (g := gb109) (o := .cells #[.int .i64 t106, .int .i64 t107] 26 (0, 0)) (zb BK109.out)) : gb109 ≠ gb142)); have n11_ := zA ((by rw [hg]; exact Nat.ne_of_gt (blk_lt (g := gb109) (o := .cells #[.int .i64 t106, .int .i64 t107] 26 (0, 0)) (zb BK109.out)) : gb142 ≠ gb109)); have n12_ := zA ((by rw [hg]; exact Nat.ne_of_lt (blk_lt (g := gb115) (o := .cells #[.int .i64 ((rd_T26 x5_1 t112).f0), .int .i64 ((rd_T26 x5_1 t112).f1)] 26 (0, 0)) (zb BK115.out)) : gb115 ≠ gb142)); have n13_ := zA ((by rw [hg]; exact Nat.ne_of_gt (blk_lt (g := gb115) (o := .cells #[.int .i64 ((rd_T26 x5_1 t112).f0), .int .i64 ((rd_T26 x5_1 t112).f1)] 26 (0, 0)) (zb BK115.out)) : gb142 ≠ gb115)); have n14_ := zA ((by rw [hg]; exact Nat.ne_of_lt (blk_lt (g := gb141) (o := .cells #[.int .i64 0, .int .i64 0] 26 (0, 0)) (zb BK141.out)) : gb141 ≠ gb142)); have n15_ := zA ((by rw [hg]; exact Nat.ne_of_gt (blk_lt (g := gb141) (o := .cells #[.int .i64 0, .int .i64 0] 26 (0, 0)) (zb BK141.out)) : gb142 ≠ gb141)); have n16_ := zA ((by rw [hg]; exact Nat.ne_of_lt (IsS117.lt (show IsS117 w0 _ g s0_0 t117 from zHI0)) : g ≠ gb142)); have n17_ := zA ((by rw [hg]; exact Nat.ne_of_gt (IsS117.lt (show IsS117 w0 _ g s0_0 t117 from zHI0)) : gb142 ≠ g)); clear HO_5; clear BK109; clear HI0; clear BK115; clear BK141; clear HK; clear HB; have HO_5 := n0_; have BK109 := n1_; have HI0 := n2_; have BK115 := n3_; have BK141 := n4_; have HK := n5_; have HB := n6_; have BK142 := n7_; have GW142 := n8_; have GE142 := n9_; have NB109_142 := n10_; have NB142_109 := n11_; have NB115_142 := n12_; have NB142_115 := n13_; have NB141_142 := n14_; have NB142_141 := n15_; have NB0_142 := n16_; have NB142_0 := n17_; clear n0_ n1_ n2_ n3_ n4_ n5_ n6_ n7_ n8_ n9_ n10_ n11_ n12_ n13_ n14_ n15_ n16_ n17_; clear hb hbox hg; have hnb95 := NB141_109.out; have hnc95 := NB109_141.out; have hnb96 := NB141_115.out; have hnc96 := NB115_141.out; have hnb97 := NB141_142.out; have hnc97 := NB142_141.out; have hnb98 := NB141_0.out; have hnc98 := NB0_141.out; have hcz99_0 : w94.cell? ⟨gb141, 0, none⟩ = some (.int .i64 0) := (blk_cell BK141.out 0).trans rfl; have hcz99_1 : w94.cell? ⟨gb141, 1, none⟩ = some (.int .i64 0) := (blk_cell BK141.out 1).trans rfl; have hfz99_0 := blk_frozen BK141.out 0; have hfz99_1 := blk_frozen BK141.out 1; have hnb100 := NB142_109.out; have hnc100 := NB109_142.out; have hnb101 := NB142_115.out; have hnc101 := NB115_142.out; have hnb102 := NB142_0.out; have hnc102 := NB0_142.out; have hcz103_0 : w94.cell? ⟨gb142, 0, none⟩ = some (.int .i64 0) := (blk_cell BK142.out 0).trans rfl; have hcz103_1 : w94.cell? ⟨gb142, 1, none⟩ = some (.int .i64 0) := (blk_cell BK142.out 1).trans rfl; have hfz103_0 := blk_frozen BK142.out 0; have hfz103_1 := blk_frozen BK142.out 1))
            have pi148 : (0 ≤ (t146 : Int)) = True := eq_true (of_decide_eq_true y35 )
            have qi148 : (t146 < (y143.length : Int)) = True := eq_true (of_decide_eq_true y35 )
            have n0_ : Aside0 (Kd.R k26 26 ((((w94.setCell ⟨gb141, 0, none⟩ (.int .i64 t137)).setCell ⟨gb141, 1, none⟩ (.int .i64 t138)).setCell ⟨gb142, 0, none⟩ (.int .i64 t139)).setCell ⟨gb142, 1, none⟩ (.int .i64 t140)) w.heap.size (fun k_ => k_ ≠ gb109 ∧ k_ ≠ gb115 ∧ k_ ≠ gb141 ∧ k_ ≠ gb142) (.slice (some ad114) x5_1.length co84) x5_1) := ⟨by refine zk ?_; exact Kd.R_mono (Kd.R_far (p := ⟨gb142, 1, none⟩) (Kd.R_far (p := ⟨gb142, 0, none⟩) (Kd.R_far (p := ⟨gb141, 1, none⟩) (Kd.R_far (p := ⟨gb141, 0, none⟩) (Kd.R_mono (Kd.R_mono HO_5.out (fun k_ hk => (⟨hk, hk.1.2⟩ : _ ∧ k_ ≠ gb141))) (fun k_ hk => (⟨hk, hk.1.2⟩ : _ ∧ k_ ≠ gb142))) (fun _ hk => hk.1.2) (.int .i64 t137)) (fun _ hk => hk.1.2) (.int .i64 t138)) (fun _ hk => hk.2) (.int .i64 t139)) (fun _ hk => hk.2) (.int .i64 t140)) (fun _ hk => ⟨hk.1.1.1.1.1, ⟨hk.1.1.1.1.2, ⟨hk.1.1.1.2, hk.1.1.2⟩⟩⟩)⟩
            have n1_ : Aside0 (((((w94.setCell ⟨gb141, 0, none⟩ (.int .i64 t137)).setCell ⟨gb141, 1, none⟩ (.int .i64 t138)).setCell ⟨gb142, 0, none⟩ (.int .i64 t139)).setCell ⟨gb142, 1, none⟩ (.int .i64 t140)).heap[gb109]? = some (.cells #[.int .i64 t106, .int .i64 t107] 26 (0, 0))) := ⟨by refine zq ?_; refine blk_far ?_ NB109_142.out _; refine zq ?_; refine blk_far ?_ NB109_142.out _; refine zq ?_; refine blk_far ?_ NB109_141.out _; refine zq ?_; refine blk_far ?_ NB109_141.out _; refine zq ?_; exact BK109.out⟩
            have n2_ : Aside0 (((((w94.setCell ⟨gb141, 0, none⟩ (.int .i64 t137)).setCell ⟨gb141, 1, none⟩ (.int .i64 t138)).setCell ⟨gb142, 0, none⟩ (.int .i64 t139)).setCell ⟨gb142, 1, none⟩ (.int .i64 t140)).heap[gb115]? = some (.cells #[.int .i64 ((rd_T26 x5_1 t112).f0), .int .i64 ((rd_T26 x5_1 t112).f1)] 26 (0, 0))) := ⟨by refine zq ?_; refine blk_far ?_ NB115_142.out _; refine zq ?_; refine blk_far ?_ NB115_142.out _; refine zq ?_; refine blk_far ?_ NB115_141.out _; refine zq ?_; refine blk_far ?_ NB115_141.out _; refine zq ?_; exact BK115.out⟩
            have n3_ : Aside0 (((((w94.setCell ⟨gb141, 0, none⟩ (.int .i64 t137)).setCell ⟨gb141, 1, none⟩ (.int .i64 t138)).setCell ⟨gb142, 0, none⟩ (.int .i64 t139)).setCell ⟨gb142, 1, none⟩ (.int .i64 t140)).heap[gb141]? = some (.cells #[.int .i64 t137, .int .i64 t138] 26 (0, 0))) := ⟨by refine zq ?_; refine blk_far ?_ NB141_142.out _; refine zq ?_; refine blk_far ?_ NB141_142.out _; refine zq ?_; refine blk_put (cs := #[.int .i64 t137, .int .i64 0]) ?_ 1 _ rfl; refine zq ?_; refine blk_put (cs := #[.int .i64 0, .int .i64 0]) ?_ 0 _ rfl; refine zq ?_; exact BK141.out⟩
            have n4_ : Aside0 (((((w94.setCell ⟨gb141, 0, none⟩ (.int .i64 t137)).setCell ⟨gb141, 1, none⟩ (.int .i64 t138)).setCell ⟨gb142, 0, none⟩ (.int .i64 t139)).setCell ⟨gb142, 1, none⟩ (.int .i64 t140)).heap[gb142]? = some (.cells #[.int .i64 t139, .int .i64 t140] 26 (0, 0))) := ⟨by refine zq ?_; refine blk_put (cs := #[.int .i64 t139, .int .i64 0]) ?_ 1 _ rfl; refine zq ?_; refine blk_put (cs := #[.int .i64 0, .int .i64 0]) ?_ 0 _ rfl; refine zq ?_; refine blk_far ?_ NB142_141.out _; refine zq ?_; refine blk_far ?_ NB142_141.out _; refine zq ?_; exact BK142.out⟩
            have n5_ : Aside0 (IsS117 w0 ((((w94.setCell ⟨gb141, 0, none⟩ (.int .i64 t137)).setCell ⟨gb141, 1, none⟩ (.int .i64 t138)).setCell ⟨gb142, 0, none⟩ (.int .i64 t139)).setCell ⟨gb142, 1, none⟩ (.int .i64 t140)) g s0_0 t117) := ⟨zHI0⟩
            have n6_ : Aside0 (KeepBut w ((((w94.setCell ⟨gb141, 0, none⟩ (.int .i64 t137)).setCell ⟨gb141, 1, none⟩ (.int .i64 t138)).setCell ⟨gb142, 0, none⟩ (.int .i64 t139)).setCell ⟨gb142, 1, none⟩ (.int .i64 t140)) g none) := ⟨zHK⟩
            have n7_ : Aside0 (Below w0.heap.size w0 ((((w94.setCell ⟨gb141, 0, none⟩ (.int .i64 t137)).setCell ⟨gb141, 1, none⟩ (.int .i64 t138)).setCell ⟨gb142, 0, none⟩ (.int .i64 t139)).setCell ⟨gb142, 1, none⟩ (.int .i64 t140))) := ⟨zHB⟩
            (try clear HO_5)
            (try clear BK109)
            (try clear BK115)
            (try clear BK141)
            (try clear BK142)
            (try clear HI0)
            (try clear HK)
            (try clear HB)
            generalize ((((w94.setCell ⟨gb141, 0, none⟩ (.int .i64 t137)).setCell ⟨gb141, 1, none⟩ (.int .i64 t138)).setCell ⟨gb142, 0, none⟩ (.int .i64 t139)).setCell ⟨gb142, 1, none⟩ (.int .i64 t140)) = w104 at n0_ n1_ n2_ n3_ n4_ n5_ n6_ n7_ ⊢
            have HO_5 := n0_
            have BK109 := n1_
            have BK115 := n2_
            have BK141 := n3_
            have BK142 := n4_
            have HI0 := n5_
            have HK := n6_
            have HB := n7_
            clear n0_ n1_ n2_ n3_ n4_ n5_ n6_ n7_
            have n0_ := zA (Kd.R_drew HO_5.out)
            have n1_ := zA (blk_drew BK109.out)
            have n2_ := zA (blk_drew BK115.out)
            have n3_ := zA (blk_drew BK141.out)
            have n4_ := zA (blk_drew BK142.out)
            have n5_ := zA (IsS117.drew HI0.out)
            have n6_ := zA (keep_drew HK.out)
            have n7_ := zA (below_drew1 HB.out)
            clear HO_5
            clear BK109
            clear BK115
            clear BK141
            clear BK142
            clear HI0
            clear HK
            clear HB
            have HO_5 := n0_
            have BK109 := n1_
            have BK115 := n2_
            have BK141 := n3_
            have BK142 := n4_
            have HI0 := n5_
            have HK := n6_
            have HB := n7_
            clear n0_ n1_ n2_ n3_ n4_ n5_ n6_ n7_
            refine start_ (n := 8) (S := fun w' => w'.cell? ⟨gb141, 0, none⟩ = some (.int .i64 t137) ∧ w'.cell? ⟨gb141, 1, none⟩ = some (.int .i64 t138) ∧ w'.cell? ⟨gb142, 0, none⟩ = some (.int .i64 t139) ∧ w'.cell? ⟨gb142, 1, none⟩ = some (.int .i64 t140)) (ds := []) (zl 8 0) (by kernel_rfl) rfl rfl ⟨(blk_cell BK141.out 0).trans rfl, (blk_cell BK141.out 1).trans rfl, (blk_cell BK142.out 0).trans rfl, (blk_cell BK142.out 1).trans rfl⟩ (fun hHeld => ?_); refine with_tabW spec_l5List.tab17 spec_l5List.bits17 (fun HT_ HW_ => ?_)
            generalize w104.drew = w105 at HO_5 BK109 BK115 BK141 BK142 HI0 HK HB hHeld ⊢
            refine pure_ (i := 3) (N := some 84) (v := ?_) (a' := ?_) (zl 8 8) rfl rfl (any_of HT_.out (by kernel_rfl)) (fun _ _ _ h => h) (Or.inl ⟨by rfl, ?_⟩) ?_ ?_
            rotate_left
            ·intro w'
             go_simp
             with_reducible rfl
            rotate_left
            ·simp only [Act.put, List.setIfInBounds_toArray, List.set_cons_zero, List.set_cons_succ, i64_w, i32_w]
             rfl
            refine take_ (i := 0) (N := some 81) (v := ?_) (a' := ?_) (zl 8 9) rfl rfl (take_ofW HT_.out HW_.out (by kernel_rfl)) (fun _ _ _ h => h) (Or.inl ⟨by rfl, ?_⟩) hHeld ?_ ?_
            rotate_left
            ·rintro w' ⟨s0, s1, s2, s3⟩
             go_simp
             with_reducible rfl
            rotate_left
            ·simp only [Act.put, List.setIfInBounds_toArray, List.set_cons_zero, List.set_cons_succ, i64_w, i32_w]
             rfl
            refine take_ (i := 1) (N := some 82) (v := ?_) (a' := ?_) (zl 8 11) rfl rfl (take_ofW HT_.out HW_.out (by kernel_rfl)) (fun _ _ _ h => h) (Or.inl ⟨by rfl, ?_⟩) hHeld ?_ ?_
            rotate_left
            ·rintro w' ⟨s0, s1, s2, s3⟩
             go_simp
             with_reducible rfl
            rotate_left
            ·simp only [Act.put, List.setIfInBounds_toArray, List.set_cons_zero, List.set_cons_succ, i64_w, i32_w]
             rfl
            refine join_ (σ := Value × Addr) 3 (zl 8 31) (fun s_ => [(83, s_.1), (85, .int .i64 t146)]) (fun s_ w' => (w'.cell? ⟨gb141, 0, none⟩ = some (.int .i64 t137) ∧ w'.cell? ⟨gb141, 1, none⟩ = some (.int .i64 t138) ∧ w'.cell? ⟨gb142, 0, none⟩ = some (.int .i64 t139) ∧ w'.cell? ⟨gb142, 1, none⟩ = some (.int .i64 t140)) ∧ (Kd.R k26 26 w' w.heap.size (fun k_ => some k_ ≠ (.slice (some ad114) x5_1.length co84 : Value).ownBlock ∧ k_ ≠ gb109 ∧ k_ ≠ gb115 ∧ k_ ≠ gb141 ∧ k_ ≠ gb142) s_.1 y143) ∧ (Kd.R k26 26 w' w.heap.size (fun k_ => some k_ ≠ (s_.1 : Value).ownBlock ∧ k_ ≠ gb109 ∧ k_ ≠ gb115 ∧ k_ ≠ gb141 ∧ k_ ≠ gb142) (.slice (some ad114) x5_1.length co84) x5_1) ∧ (∃ c_, (s_.1 : Value) = .slice (some s_.2) y143.length c_) ∧ (w'.heap[gb109]? = some (.cells #[.int .i64 t106, .int .i64 t107] 26 (0, 0))) ∧ (w'.heap[gb115]? = some (.cells #[.int .i64 ((rd_T26 x5_1 t112).f0), .int .i64 ((rd_T26 x5_1 t112).f1)] 26 (0, 0))) ∧ (w'.heap[gb141]? = some (.cells #[.int .i64 t137, .int .i64 t138] 26 (0, 0))) ∧ (w'.heap[gb142]? = some (.cells #[.int .i64 t139, .int .i64 t140] 26 (0, 0))) ∧ (IsS117 w0 w' g s0_0 t147) ∧ (KeepBut w w' g none) ∧ (Below w0.heap.size w0 w')) ?_ ?_
            rotate_left
            ·intro hCont
             refine two_ (i := 2) (j := 4) (Ni := some 83) (Nj := some 85) (zl 8 15) (zl 8 27) rfl rfl rfl rfl (two_of HT_.out (by kernel_rfl)) (by decide) (by decide) (fun K hK => ?_) (fun K hK => ?_)
             ·skip
              refine Kd.R_lit_step k26 _ 26 ?hg (N := 83) ?hd (xs := ([(⟨t137, t138⟩ : S26), (⟨t139, t140⟩ : S26)] : List (S26))) (inner := [.int .i64 t137, .int .i64 t138, .int .i64 t139, .int .i64 t140]) (ok := fun _ => True) (okp := fun _ => True) ?hr ?hp (fun _ hk => hk) trivial (Below.refl _ _) (Nat.le_refl _) (by simp) ?_; (case hd => rfl); (case hg => rfl); (case hr => first | (go_simp; done) | (go_simp; rfl)); (case hp => exact (Reps.c2 (show Kd.M k26 _ _ _ (⟨t137, t138⟩ : S26) [.int .i64 t137, .int .i64 t138] from (k26_mkM _ _ _ (⟨t137, t138⟩ : S26) )) (Reps.c2 (show Kd.M k26 _ _ _ (⟨t139, t140⟩ : S26) [.int .i64 t139, .int .i64 t140] from (k26_mkM _ _ _ (⟨t139, t140⟩ : S26) )) (Reps.none _ _))))
              intro v144 w106 ho107 hb hg_ hnew_
              clear hg_ hnew_
              (first | rw [← Ny143.out] at ho107 | (simp only [Int.reduceToNat] at ho107; rw [← Ny143.out] at ho107))
              have n0_ := zA (Kd.R_elder' (zr HO_5.out) (Kd.R_base ho107) hb)
              have n1_ := zA (Kd.R_lower (Kd.R_newB (Kd.R_newB (Kd.R_newB (Kd.R_newB (Kd.R_new' ho107 (Kd.R_lt (zr HO_5.out))) (g := gb109) (o := .cells #[.int .i64 t106, .int .i64 t107] 26 (0, 0)) (zb BK109.out)) (g := gb115) (o := .cells #[.int .i64 ((rd_T26 x5_1 t112).f0), .int .i64 ((rd_T26 x5_1 t112).f1)] 26 (0, 0)) (zb BK115.out)) (g := gb141) (o := .cells #[.int .i64 t137, .int .i64 t138] 26 (0, 0)) (zb BK141.out)) (g := gb142) (o := .cells #[.int .i64 t139, .int .i64 t140] 26 (0, 0)) (zb BK142.out)) (keep_size (w := w) (g := g) (row := none) (zHK)))
              have n2_ := zA (blk_below (g := gb109) (o := .cells #[.int .i64 t106, .int .i64 t107] 26 (0, 0)) (zb BK109.out) hb)
              have n3_ := zA (IsS117.below (zHI0) hb)
              have n4_ := zA (blk_below (g := gb115) (o := .cells #[.int .i64 ((rd_T26 x5_1 t112).f0), .int .i64 ((rd_T26 x5_1 t112).f1)] 26 (0, 0)) (zb BK115.out) hb)
              have n5_ := zA (blk_below (g := gb141) (o := .cells #[.int .i64 t137, .int .i64 t138] 26 (0, 0)) (zb BK141.out) hb)
              have n6_ := zA (blk_below (g := gb142) (o := .cells #[.int .i64 t139, .int .i64 t140] 26 (0, 0)) (zb BK142.out) hb)
              have n7_ := zA (KeepBut.trans (zHK) (KeepBut.of_below hb g none) (.inl rfl))
              have n8_ := zA (below_step (zHB) hb)
              clear HO_5
              clear BK109
              clear HI0
              clear BK115
              clear BK141
              clear BK142
              clear HK
              clear HB
              have HO_5 := n0_
              have HO145 := n1_
              have BK109 := n2_
              have HI0 := n3_
              have BK115 := n4_
              have BK141 := n5_
              have BK142 := n6_
              have HK := n7_
              have HB := n8_
              clear n0_ n1_ n2_ n3_ n4_ n5_ n6_ n7_ n8_
              clear hb ho107
              obtain ⟨Ao108, co108, eo108⟩ := Kd.R_slice HO145.out
              subst eo108
              obtain ⟨ado108, fo108, _⟩ := at_T26 (Kd.R_reads' HO145.out).2.2 0 (by decide) (by rw [Ny143.out]; simp)
              cases fo108
              refine hK.out _ _ ⟨(blk_cell BK141.out 0).trans rfl, (blk_cell BK141.out 1).trans rfl, (blk_cell BK142.out 0).trans rfl, (blk_cell BK142.out 1).trans rfl⟩ (fun hHeld => ?_)
              clear hK K
              refine norm_ (a' := ?_) ?_ ?_
              rotate_left
              ·show Act.put _ (some 83) _ = _
               simp only [Act.put, List.setIfInBounds_toArray, List.set_cons_zero, List.set_cons_succ, i64_w, i32_w]
               rfl
              refine one_ (i := 4) (N := some 85) (zl 8 31) rfl rfl (one_of HT_.out (by kernel_rfl)) (by decide) (fun K hK => ?_)
              refine goes_ Try.func81 (by kernel_rfl) rfl #[.pointer (some ⟨g, 0, none⟩), .int .i64 2] (by rfl) rfl rfl y8  ?_
              with_reducible refine (spec_l1Rd_pick.calls kj8 g s0_0 t117 2 t146 t147 w0 _ ?side1 ?side2 A80.out).mono ?_
              (case side1 => exact zHI0)
              (case side2 => exact zHB)
              rintro e w109 ⟨rfl, hi, hb, hk⟩
              refine ⟨_, rfl, ?_⟩
              have n0_ := zA (Kd.R_mono (Kd.R_keep (IsS117.apart (show IsS117 w0 _ g s0_0 t117 from zHI0) (zr HO_5.out) (by decide)) hk (fun _ h => h.2)) (fun _ h => h.1))
              have n1_ := zA (KeepBut.blk hk (g' := gb109) (o := .cells #[.int .i64 t106, .int .i64 t107] 26 (0, 0)) (zb BK109.out) NB109_0.out (by simp))
              have n2_ := zA (KeepBut.blk hk (g' := gb115) (o := .cells #[.int .i64 ((rd_T26 x5_1 t112).f0), .int .i64 ((rd_T26 x5_1 t112).f1)] 26 (0, 0)) (zb BK115.out) NB115_0.out (by simp))
              have n3_ := zA (KeepBut.blk hk (g' := gb141) (o := .cells #[.int .i64 t137, .int .i64 t138] 26 (0, 0)) (zb BK141.out) NB141_0.out (by simp))
              have n4_ := zA (KeepBut.blk hk (g' := gb142) (o := .cells #[.int .i64 t139, .int .i64 t140] 26 (0, 0)) (zb BK142.out) NB142_0.out (by simp))
              have n5_ := zA (Kd.R_mono (Kd.R_keep (IsS117.apart (show IsS117 w0 _ g s0_0 t117 from zHI0) (zr HO145.out) (by decide)) hk (fun _ h => h.2)) (fun _ h => h.1))
              have n6_ := zA (KeepBut.trans (zHK) hk (.inl rfl))
              have n7_ := zA (hb)
              have n8_ := zA (hi)
              clear HO_5
              clear BK109
              clear BK115
              clear BK141
              clear BK142
              clear HO145
              clear HK
              clear HB
              clear HI0
              have HO_5 := n0_
              have BK109 := n1_
              have BK115 := n2_
              have BK141 := n3_
              have BK142 := n4_
              have HO145 := n5_
              have HK := n6_
              have HB := n7_
              have HI0 := n8_
              clear n0_ n1_ n2_ n3_ n4_ n5_ n6_ n7_ n8_
              (try clear hb)
              (try clear hb2)
              (try clear hk)
              (try clear hi)
              refine hK.out _ _ ⟨(blk_cell BK141.out 0).trans rfl, (blk_cell BK141.out 1).trans rfl, (blk_cell BK142.out 0).trans rfl, (blk_cell BK142.out 1).trans rfl⟩ (fun hHeld => ?_)
              clear hK K
              refine norm_ (a' := ?_) ?_ ?_
              rotate_left
              ·show Act.put _ (some 85) _ = _
               simp only [Act.put, List.setIfInBounds_toArray, List.set_cons_zero, List.set_cons_succ, i64_w, i32_w]
               rfl
              exact norm_ y22  (hCont (.slice (some ado108) y143.length co108, ado108) _ ⟨hHeld, (by refine zk ?_; exact Kd.R_mono HO145.out (fun _ hk => ⟨hk.1.1.1.1.2, ⟨hk.1.1.1.2, ⟨hk.1.1.2, ⟨hk.1.2, hk.2⟩⟩⟩⟩)), y21 , ⟨_, rfl⟩, (zb BK109.out), (zb BK115.out), (zb BK141.out), (zb BK142.out), (zHI0), (zHK), (zHB)⟩)
             skip
             refine goes_ Try.func81 (by kernel_rfl) rfl #[.pointer (some ⟨g, 0, none⟩), .int .i64 2] (by rfl) rfl rfl y8  ?_
             with_reducible refine (spec_l1Rd_pick.calls kj8 g s0_0 t117 2 t146 t147 w0 _ ?side1 ?side2 A80.out).mono ?_
             (case side1 => exact zHI0)
             (case side2 => exact zHB)
             rintro e w106 ⟨rfl, hi, hb, hk⟩
             refine ⟨_, rfl, ?_⟩
             have n0_ := zA (Kd.R_mono (Kd.R_keep (IsS117.apart (show IsS117 w0 _ g s0_0 t117 from zHI0) (zr HO_5.out) (by decide)) hk (fun _ h => h.2)) (fun _ h => h.1))
             have n1_ := zA (KeepBut.blk hk (g' := gb109) (o := .cells #[.int .i64 t106, .int .i64 t107] 26 (0, 0)) (zb BK109.out) NB109_0.out (by simp))
             have n2_ := zA (KeepBut.blk hk (g' := gb115) (o := .cells #[.int .i64 ((rd_T26 x5_1 t112).f0), .int .i64 ((rd_T26 x5_1 t112).f1)] 26 (0, 0)) (zb BK115.out) NB115_0.out (by simp))
             have n3_ := zA (KeepBut.blk hk (g' := gb141) (o := .cells #[.int .i64 t137, .int .i64 t138] 26 (0, 0)) (zb BK141.out) NB141_0.out (by simp))
             have n4_ := zA (KeepBut.blk hk (g' := gb142) (o := .cells #[.int .i64 t139, .int .i64 t140] 26 (0, 0)) (zb BK142.out) NB142_0.out (by simp))
             have n5_ := zA (KeepBut.trans (zHK) hk (.inl rfl))
             have n6_ := zA (hb)
             have n7_ := zA (hi)
             clear HO_5
             clear BK109
             clear BK115
             clear BK141
             clear BK142
             clear HK
             clear HB
             clear HI0
             have HO_5 := n0_
             have BK109 := n1_
             have BK115 := n2_
             have BK141 := n3_
             have BK142 := n4_
             have HK := n5_
             have HB := n6_
             have HI0 := n7_
             clear n0_ n1_ n2_ n3_ n4_ n5_ n6_ n7_
             (try clear hb)
             (try clear hb2)
             (try clear hk)
             (try clear hi)
             refine hK.out _ _ ⟨(blk_cell BK141.out 0).trans rfl, (blk_cell BK141.out 1).trans rfl, (blk_cell BK142.out 0).trans rfl, (blk_cell BK142.out 1).trans rfl⟩ (fun hHeld => ?_)
             clear hK K
             refine norm_ (a' := ?_) ?_ ?_
             rotate_left
             ·show Act.put _ (some 85) _ = _
              simp only [Act.put, List.setIfInBounds_toArray, List.set_cons_zero, List.set_cons_succ, i64_w, i32_w]
              rfl
             refine one_ (i := 2) (N := some 83) (zl 8 31) rfl rfl (one_of HT_.out (by kernel_rfl)) (by decide) (fun K hK => ?_)
             refine Kd.R_lit_step k26 _ 26 ?hg (N := 83) ?hd (xs := ([(⟨t137, t138⟩ : S26), (⟨t139, t140⟩ : S26)] : List (S26))) (inner := [.int .i64 t137, .int .i64 t138, .int .i64 t139, .int .i64 t140]) (ok := fun _ => True) (okp := fun _ => True) ?hr ?hp (fun _ hk => hk) trivial (Below.refl _ _) (Nat.le_refl _) (by simp) ?_; (case hd => rfl); (case hg => rfl); (case hr => first | (go_simp; done) | (go_simp; rfl)); (case hp => exact (Reps.c2 (show Kd.M k26 _ _ _ (⟨t137, t138⟩ : S26) [.int .i64 t137, .int .i64 t138] from (k26_mkM _ _ _ (⟨t137, t138⟩ : S26) )) (Reps.c2 (show Kd.M k26 _ _ _ (⟨t139, t140⟩ : S26) [.int .i64 t139, .int .i64 t140] from (k26_mkM _ _ _ (⟨t139, t140⟩ : S26) )) (Reps.none _ _))))
             intro v144 w107 ho108 hb hg_ hnew_
             clear hg_ hnew_
             (first | rw [← Ny143.out] at ho108 | (simp only [Int.reduceToNat] at ho108; rw [← Ny143.out] at ho108))
             have n0_ := zA (Kd.R_elder' (zr HO_5.out) (Kd.R_base ho108) hb)
             have n1_ := zA (Kd.R_lower (Kd.R_newB (Kd.R_newB (Kd.R_newB (Kd.R_newB (Kd.R_new' ho108 (Kd.R_lt (zr HO_5.out))) (g := gb109) (o := .cells #[.int .i64 t106, .int .i64 t107] 26 (0, 0)) (zb BK109.out)) (g := gb115) (o := .cells #[.int .i64 ((rd_T26 x5_1 t112).f0), .int .i64 ((rd_T26 x5_1 t112).f1)] 26 (0, 0)) (zb BK115.out)) (g := gb141) (o := .cells #[.int .i64 t137, .int .i64 t138] 26 (0, 0)) (zb BK141.out)) (g := gb142) (o := .cells #[.int .i64 t139, .int .i64 t140] 26 (0, 0)) (zb BK142.out)) (keep_size (w := w) (g := g) (row := none) (zHK)))
             have n2_ := zA (blk_below (g := gb109) (o := .cells #[.int .i64 t106, .int .i64 t107] 26 (0, 0)) (zb BK109.out) hb)
             have n3_ := zA (IsS117.below (zHI0) hb)
             have n4_ := zA (blk_below (g := gb115) (o := .cells #[.int .i64 ((rd_T26 x5_1 t112).f0), .int .i64 ((rd_T26 x5_1 t112).f1)] 26 (0, 0)) (zb BK115.out) hb)
             have n5_ := zA (blk_below (g := gb141) (o := .cells #[.int .i64 t137, .int .i64 t138] 26 (0, 0)) (zb BK141.out) hb)
             have n6_ := zA (blk_below (g := gb142) (o := .cells #[.int .i64 t139, .int .i64 t140] 26 (0, 0)) (zb BK142.out) hb)
             have n7_ := zA (KeepBut.trans (zHK) (KeepBut.of_below hb g none) (.inl rfl))
             have n8_ := zA (below_step (zHB) hb)
             clear HO_5
             clear BK109
             clear HI0
             clear BK115
             clear BK141
             clear BK142
             clear HK
             clear HB
             have HO_5 := n0_
             have HO145 := n1_
             have BK109 := n2_
             have HI0 := n3_
             have BK115 := n4_
             have BK141 := n5_
             have BK142 := n6_
             have HK := n7_
             have HB := n8_
             clear n0_ n1_ n2_ n3_ n4_ n5_ n6_ n7_ n8_
             clear hb ho108
             obtain ⟨Ao109, co109, eo109⟩ := Kd.R_slice HO145.out
             subst eo109
             obtain ⟨ado109, fo109, _⟩ := at_T26 (Kd.R_reads' HO145.out).2.2 0 (by decide) (by rw [Ny143.out]; simp)
             cases fo109
             refine hK.out _ _ ⟨(blk_cell BK141.out 0).trans rfl, (blk_cell BK141.out 1).trans rfl, (blk_cell BK142.out 0).trans rfl, (blk_cell BK142.out 1).trans rfl⟩ (fun hHeld => ?_)
             clear hK K
             refine norm_ (a' := ?_) ?_ ?_
             rotate_left
             ·show Act.put _ (some 83) _ = _
              simp only [Act.put, List.setIfInBounds_toArray, List.set_cons_zero, List.set_cons_succ, i64_w, i32_w]
              rfl
             exact norm_ y22  (hCont (.slice (some ado109) y143.length co109, ado109) _ ⟨hHeld, (by refine zk ?_; exact Kd.R_mono HO145.out (fun _ hk => ⟨hk.1.1.1.1.2, ⟨hk.1.1.1.2, ⟨hk.1.1.2, ⟨hk.1.2, hk.2⟩⟩⟩⟩)), y21 , ⟨_, rfl⟩, (zb BK109.out), (zb BK115.out), (zb BK141.out), (zb BK142.out), (zHI0), (zHK), (zHB)⟩)
            rintro ⟨v144, adz_v144⟩ w110 ⟨hS_, h0_, h1_, h2_, h3_, h4_, h5_, h6_, h7_, h8_, h9_⟩
            have n0_ : Aside0 (Kd.R k26 26 w110 w.heap.size (fun k_ => some k_ ≠ (.slice (some ad114) x5_1.length co84 : Value).ownBlock ∧ k_ ≠ gb109 ∧ k_ ≠ gb115 ∧ k_ ≠ gb141 ∧ k_ ≠ gb142) v144 y143) := ⟨h0_⟩
            have n1_ : Aside0 (Kd.R k26 26 w110 w.heap.size (fun k_ => some k_ ≠ (v144 : Value).ownBlock ∧ k_ ≠ gb109 ∧ k_ ≠ gb115 ∧ k_ ≠ gb141 ∧ k_ ≠ gb142) (.slice (some ad114) x5_1.length co84) x5_1) := ⟨h1_⟩
            have n2_ : Aside0 (∃ c_, (v144 : Value) = .slice (some adz_v144) y143.length c_) := ⟨h2_⟩
            have n3_ : Aside0 (w110.heap[gb109]? = some (.cells #[.int .i64 t106, .int .i64 t107] 26 (0, 0))) := ⟨h3_⟩
            have n4_ : Aside0 (w110.heap[gb115]? = some (.cells #[.int .i64 ((rd_T26 x5_1 t112).f0), .int .i64 ((rd_T26 x5_1 t112).f1)] 26 (0, 0))) := ⟨h4_⟩
            have n5_ : Aside0 (w110.heap[gb141]? = some (.cells #[.int .i64 t137, .int .i64 t138] 26 (0, 0))) := ⟨h5_⟩
            have n6_ : Aside0 (w110.heap[gb142]? = some (.cells #[.int .i64 t139, .int .i64 t140] 26 (0, 0))) := ⟨h6_⟩
            have n7_ : Aside0 (IsS117 w0 w110 g s0_0 t147) := ⟨h7_⟩
            have n8_ : Aside0 (KeepBut w w110 g none) := ⟨h8_⟩
            have n9_ : Aside0 (Below w0.heap.size w0 w110) := ⟨h9_⟩
            clear HO_5
            clear BK109
            clear BK115
            clear BK141
            clear BK142
            clear HI0
            clear HK
            clear HB
            clear h0_ h1_ h2_ h3_ h4_ h5_ h6_ h7_ h8_ h9_
            have HO145 := n0_
            have HO_5 := n1_
            have HA_HO145 := n2_
            have BK109 := n3_
            have BK115 := n4_
            have BK141 := n5_
            have BK142 := n6_
            have HI0 := n7_
            have HK := n8_
            have HB := n9_
            clear n0_ n1_ n2_ n3_ n4_ n5_ n6_ n7_ n8_ n9_
            have hHeld : w110.cell? ⟨gb141, 0, none⟩ = some (.int .i64 t137) ∧ w110.cell? ⟨gb141, 1, none⟩ = some (.int .i64 t138) ∧ w110.cell? ⟨gb142, 0, none⟩ = some (.int .i64 t139) ∧ w110.cell? ⟨gb142, 1, none⟩ = some (.int .i64 t140) := hS_
            obtain ⟨co111, eo111⟩ := HA_HO145.out
            clear HA_HO145
            subst eo111
            refine norm_ (a' := ?_) ?_ ?_
            rotate_left
            ·simp only [putAll, Act.put, List.setIfInBounds_toArray, List.set_cons_zero, List.set_cons_succ]
             rfl
            refine pure_ (i := 5) (N := some 86) (v := ?_) (a' := ?_) (zl 8 63) rfl rfl (any_of HT_.out (by kernel_rfl)) (fun _ _ _ h => h) (Or.inl ⟨by rfl, ?_⟩) ?_ ?_
            rotate_left
            ·intro w'
             go_simp
             with_reducible rfl
            rotate_left
            ·simp only [Act.put, List.setIfInBounds_toArray, List.set_cons_zero, List.set_cons_succ, i64_w, i32_w]
             rfl
            refine one_ (i := 6) (N := some 87) (zl 8 127) rfl rfl (one_of HT_.out (by kernel_rfl)) (by decide) (fun K hK => ?_)
            (have p148 : 0 ≤ (t146 : Int) := of_decide_eq_true y35 ; have q148 : t146 < (y143.length : Int) := of_decide_eq_true y35 ; obtain ⟨ad148, e148, hx148_0, hx148_1⟩ := at_T26 (Kd.R_reads' HO145.out).2.2 t146 p148 q148; obtain rfl : adz_v144 = ad148 := (by injection e148))
            refine value_ (w1 := ?_) (v := ?_) (by rfl) rfl ?_ ?_
            rotate_left 2
            ·go_simp
             constructor
             ·rfl
             rfl
            clear hx148_0 hx148_1
            refine hK.out _ _ ⟨(blk_cell BK141.out 0).trans rfl, (blk_cell BK141.out 1).trans rfl, (blk_cell BK142.out 0).trans rfl, (blk_cell BK142.out 1).trans rfl⟩ (fun hHeld => ?_)
            clear hK K
            refine norm_ (a' := ?_) ?_ ?_
            rotate_left
            ·show Act.put _ (some 87) _ = _
             simp only [Act.put, List.setIfInBounds_toArray, List.set_cons_zero, List.set_cons_succ, i64_w, i32_w]
             rfl
            refine one_ (i := 7) (N := none) (zl 8 255) rfl rfl (one_of HT_.out (by kernel_rfl)) (by decide) (fun K hK => ?_)
            have hs112 : w110.cell? ⟨gb109, 0, none⟩ = some (.int .i64 t106) := (blk_cell BK109.out 0).trans rfl
            have hfs112 := blk_frozen BK109.out 0
            have hns112_1 := NB115_109.out
            have hns112_2 := NB141_109.out
            have hns112_3 := NB142_109.out
            have hms112_1 := NB109_115.out
            have hms112_2 := NB109_141.out
            have hms112_3 := NB109_142.out
            have hs113 : w110.cell? ⟨gb109, 1, none⟩ = some (.int .i64 t107) := (blk_cell BK109.out 1).trans rfl
            have hfs113 := blk_frozen BK109.out 1
            have hns113_1 := NB115_109.out
            have hns113_2 := NB141_109.out
            have hns113_3 := NB142_109.out
            have hms113_1 := NB109_115.out
            have hms113_2 := NB109_141.out
            have hms113_3 := NB109_142.out
            refine skip_ (w1 := ?_) (by rfl) rfl ?_ ?_
            rotate_left
            ·go_simp
             rfl
            refine hK.out _ _ ⟨((cell_far (p := ⟨gb109, _, none⟩) NB141_109.out _).trans (((cell_far (p := ⟨gb109, _, none⟩) NB141_109.out _).trans (hHeld.1)))), ((cell_far (p := ⟨gb109, _, none⟩) NB141_109.out _).trans (((cell_far (p := ⟨gb109, _, none⟩) NB141_109.out _).trans (hHeld.2.1)))), ((cell_far (p := ⟨gb109, _, none⟩) NB142_109.out _).trans (((cell_far (p := ⟨gb109, _, none⟩) NB142_109.out _).trans (hHeld.2.2.1)))), ((cell_far (p := ⟨gb109, _, none⟩) NB142_109.out _).trans (((cell_far (p := ⟨gb109, _, none⟩) NB142_109.out _).trans (hHeld.2.2.2))))⟩ (fun hHeld => ?_)
            clear hK K
            refine done_ (done_of HT_.out (by kernel_rfl)) ?_
            have hnb114 := NB109_0.out
            have hnc114 := NB0_109.out
            have hcz115_0 : w110.cell? ⟨gb109, 0, none⟩ = some (.int .i64 t106) := (blk_cell BK109.out 0).trans rfl
            have hcz115_1 : w110.cell? ⟨gb109, 1, none⟩ = some (.int .i64 t107) := (blk_cell BK109.out 1).trans rfl
            have hfz115_0 := blk_frozen BK109.out 0
            have hfz115_1 := blk_frozen BK109.out 1
            try go_wp2_with (first | ((with_reducible refine gate_builtin (b := .append) (xs := #[.tmp 88, .tmp 90]) rfl ?_); (try (refine gate_guard (by rfl) ?_; dsimp only)); at_builtin; refine Kd.R_append k26 w.heap.size rfl (.tmp 88) (.tmp 90) 58 26 (.agg #[(.int .i64 0), (.int .i64 0)]) 16 rfl Try.underlying58 info26 rfl (by decide) (by omega) (.slice (some ad114) x5_1.length co84) x5_1 (⟨(rd_T26 y143 t146).f0, (rd_T26 y143 t146).f1⟩ : S26) [.int .i64 ((rd_T26 y143 t146).f0), .int .i64 ((rd_T26 y143 t146).f1)] (fun k_ => some k_ ≠ (.slice (some adz_v144) y143.length co111 : Value).ownBlock ∧ k_ ≠ gb109 ∧ k_ ≠ gb115 ∧ k_ ≠ gb141 ∧ k_ ≠ gb142) (fun _ => False) rfl (by first | (go_simp; done) | (go_simp; rfl)) ?aP (fun _ hk => hk.elim) ?aF ?aO (Below.refl _ _) ?aS ?aL ?_; (case aP => exact k26_mkM _ _ _ (⟨(rd_T26 y143 t146).f0, (rd_T26 y143 t146).f1⟩ : S26)); (case aF => exact (fun k_ hk => ⟨Kd.fresh' (Kd.R_lt (by refine zk ?_; exact (Kd.R_mono (Kd.R_far (p := ⟨gb109, 1, none⟩) (Kd.R_far (p := ⟨gb109, 0, none⟩) (Kd.R_mono HO145.out (fun k_ hk => (⟨hk, hk.2.1⟩ : _ ∧ k_ ≠ gb109))) (fun _ hk => hk.2) (.int .i64 ((rd_T26 y143 t146).f0))) (fun _ hk => hk.2) (.int .i64 ((rd_T26 y143 t146).f1))) (fun _ h_ => h_.1)))) k_ hk, Kd.freshB (g := gb109) (o := .cells #[.int .i64 ((rd_T26 y143 t146).f0), .int .i64 ((rd_T26 y143 t146).f1)] 26 (0, 0)) (by refine zq ?_; refine blk_put (cs := #[.int .i64 ((rd_T26 y143 t146).f0), .int .i64 t107]) ?_ 1 _ rfl; refine zq ?_; refine blk_put (cs := #[.int .i64 t106, .int .i64 t107]) ?_ 0 _ rfl; refine zq ?_; exact BK109.out) k_ hk, Kd.freshB (g := gb115) (o := .cells #[.int .i64 ((rd_T26 x5_1 t112).f0), .int .i64 ((rd_T26 x5_1 t112).f1)] 26 (0, 0)) y20  k_ hk, Kd.freshB (g := gb141) (o := .cells #[.int .i64 t137, .int .i64 t138] 26 (0, 0)) (by refine zq ?_; refine blk_far ?_ NB141_109.out _; refine zq ?_; refine blk_far ?_ NB141_109.out _; refine zq ?_; exact BK141.out) k_ hk, Kd.freshB (g := gb142) (o := .cells #[.int .i64 t139, .int .i64 t140] 26 (0, 0)) (by refine zq ?_; refine blk_far ?_ NB142_109.out _; refine zq ?_; refine blk_far ?_ NB142_109.out _; refine zq ?_; exact BK142.out) k_ hk⟩)); (case aO => exact (by refine zk ?_; exact Kd.R_mono (Kd.R_far (p := ⟨gb109, 1, none⟩) (Kd.R_far (p := ⟨gb109, 0, none⟩) (Kd.R_mono HO_5.out (fun k_ hk => (⟨hk, hk.2.1⟩ : _ ∧ k_ ≠ gb109))) (fun _ hk => hk.2) (.int .i64 ((rd_T26 y143 t146).f0))) (fun _ hk => hk.2) (.int .i64 ((rd_T26 y143 t146).f1))) (fun _ hk => ⟨hk.1.1, ⟨hk.1.2.1, ⟨hk.1.2.2.1, ⟨hk.1.2.2.2.1, hk.1.2.2.2.2⟩⟩⟩⟩))); (case aS => exact (keep_size (w := w) (g := g) (row := none) (zHK))); (case aL => have := LMc83.out; omega); intro v150 w116 ho hb hg hat; rw [← Ny149.out] at ho; have n0_ := zA (blk_grown (g := gb109) (o := .cells #[.int .i64 ((rd_T26 y143 t146).f0), .int .i64 ((rd_T26 y143 t146).f1)] 26 (0, 0)) (by refine zq ?_; refine blk_put (cs := #[.int .i64 ((rd_T26 y143 t146).f0), .int .i64 t107]) ?_ 1 _ rfl; refine zq ?_; refine blk_put (cs := #[.int .i64 t106, .int .i64 t107]) ?_ 0 _ rfl; refine zq ?_; exact BK109.out) hg (Kd.R_away HO_5.out (fun _ hk => hk.2.1))); have n1_ := zA (spec_l5List.grown117 HI0.out (zHI0) hg (IsS117.own_ne HI0.out HO_5.out (by decide))); have n2_ := zA (blk_grown (g := gb115) (o := .cells #[.int .i64 ((rd_T26 x5_1 t112).f0), .int .i64 ((rd_T26 x5_1 t112).f1)] 26 (0, 0)) y20  hg (Kd.R_away HO_5.out (fun _ hk => hk.2.2.1))); have n3_ := zA (blk_grown (g := gb141) (o := .cells #[.int .i64 t137, .int .i64 t138] 26 (0, 0)) (by refine zq ?_; refine blk_far ?_ NB141_109.out _; refine zq ?_; refine blk_far ?_ NB141_109.out _; refine zq ?_; exact BK141.out) hg (Kd.R_away HO_5.out (fun _ hk => hk.2.2.2.1))); have n4_ := zA (blk_grown (g := gb142) (o := .cells #[.int .i64 t139, .int .i64 t140] 26 (0, 0)) (by refine zq ?_; refine blk_far ?_ NB142_109.out _; refine zq ?_; refine blk_far ?_ NB142_109.out _; refine zq ?_; exact BK142.out) hg (Kd.R_away HO_5.out (fun _ hk => hk.2.2.2.2))); have n5_ := zA (Kd.R_after (ok := (fun k_ => k_ ≠ gb109 ∧ k_ ≠ gb115 ∧ k_ ≠ gb141 ∧ k_ ≠ gb142)) (by refine zk ?_; exact Kd.R_mono (Kd.R_far (p := ⟨gb109, 1, none⟩) (Kd.R_far (p := ⟨gb109, 0, none⟩) (Kd.R_mono HO145.out (fun k_ hk => (⟨hk, hk.2.1⟩ : _ ∧ k_ ≠ gb109))) (fun _ hk => hk.2) (.int .i64 ((rd_T26 y143 t146).f0))) (fun _ hk => hk.2) (.int .i64 ((rd_T26 y143 t146).f1))) (fun _ hk => ⟨⟨hk.1.2.1, ⟨hk.1.2.2.1, ⟨hk.1.2.2.2.1, hk.1.2.2.2.2⟩⟩⟩, hk.1.1⟩)) hg hat); have n6_ := zA (below_weaken (zHB) HL.out hb); have n7_ := zA (KeepBut.trans (zHK) (KeepBut.of_grown hg g) (Kd.R_base2 HO_5.out)); have n8_ := zA (ho); clear BK109; clear HI0; clear BK115; clear BK141; clear BK142; clear HO145; clear HB; clear HK; clear HO_5; have BK109 := n0_; have HI0 := n1_; have BK115 := n2_; have BK141 := n3_; have BK142 := n4_; have HO145 := n5_; have HB := n6_; have HK := n7_; have HO151 := n8_; clear n0_ n1_ n2_ n3_ n4_ n5_ n6_ n7_ n8_; clear ho hb hg hat))
            go_roundg kj8
            case measure => have := HK1.out; have := HJ8.out; omega
            case rel => exact ⟨(y149), (wrap64 (x6_1 - 1)), (t147), y36 , H', ⟨by have := HK1.out; have := HJ8.out; omega⟩, ⟨by refine zk ?_; exact Kd.R_mono HO151.out (fun _ hk => trivial)⟩, ⟨zHI0⟩, ⟨zHK⟩, ⟨zHB⟩⟩
           rw [if_neg c83] at H
           exact absurd H (by simp)
          rw [if_neg c82] at H
          exact absurd H (by simp)
         rw [if_neg c81] at H
         exact absurd H (by simp)
        rw [if_neg c78] at H
        have c78b0 : decide (((rd_T26 x5_1 t112).f1) < 16) = false := decide_eq_false c78
        clear c78
        by_cases c117 : x5_1.length < 8796093022208
        ·rw [if_pos c117] at H
         have LMc117 := zA c117
         clear c117
         obtain ⟨y152, hy152⟩ : ∃ y_ : List (S26), y_ = (x5_1 ++ [(⟨t106, t107⟩ : S26)]) := ⟨_, rfl⟩
         replace H : (spec_l5List.l0 kj8 y152 (wrap64 (x6_1 - 1)) s0_0 t117) = some (r1, r2) := by first | (rw [hy152]; with_reducible exact H) | (have H2_ := (Option.bind_some _ _).symm.trans H; rw [hy152]; with_reducible exact H2_) | (have H2_ := (Option.bind_some _ _).symm.trans H; with_reducible exact H2_) | with_reducible exact H | (rw [hy152]; exact H) | exact H
         have Ny152 := zA hy152
         clear hy152
         have H' := zA H
         clear H
         obtain ⟨Ao118, co118, eo118⟩ := Kd.R_slice HO_5.out
         subst eo118
         go_wp2_with (first | ((with_reducible refine gate_callee (f := 81) rfl ?_); refine goesL_ (some 35) rfl rfl Try.func81 (by kernel_rfl) rfl #[.pointer (some ⟨g, 0, none⟩), .int .i64 (x5_1.length : Int)] rfl y8  ?_; (with_reducible refine (spec_l1Rd_pick.calls kj8 g s0_0 x1001_8 (x5_1.length : Int) t112 t113 w0 _ ?side1 ?side2 A20.out).mono ?_); (case side1 => exact zHI0); (case side2 => exact zHB); rintro e w119 ⟨rfl, hi, hb, hk⟩; refine ⟨_, rfl, ?_⟩; have n0_ := zA (Kd.R_mono (Kd.R_keep (IsS117.apart (show IsS117 w0 _ g s0_0 x1001_8 from zHI0) (zr HO_5.out) (by decide)) hk (fun _ h => h.2)) (fun _ h => h.1)); have n1_ := zA (KeepBut.blk hk (g' := gb109) (o := .cells #[.int .i64 t106, .int .i64 t107] 26 (0, 0)) (zb BK109.out) NB109_0.out (by simp)); have n2_ := zA (KeepBut.trans (zHK) hk (.inl rfl)); have n3_ := zA (hb); have n4_ := zA (hi); clear HO_5; clear BK109; clear HK; clear HB; clear HI0; have HO_5 := n0_; have BK109 := n1_; have HK := n2_; have HB := n3_; have HI0 := n4_; clear n0_ n1_ n2_ n3_ n4_; (try clear hb); (try clear hb2); (try clear hk); (try clear hi); have p114 : 0 ≤ (t112 : Int) := of_decide_eq_true y35 ; have q114 : t112 < (x5_1.length : Int) := of_decide_eq_true y35 ; obtain ⟨ad114, e114, hx114_0, hx114_1⟩ := at_T26 (Kd.R_reads' HO_5.out).2.2 t112 p114 q114; cases e114; replace p114 := eq_true p114; replace q114 := eq_true q114) | ((with_reducible refine gate_dst (N := 8) rfl ?_); (try (refine gate_guard (by rfl) ?_; dsimp only)); refine box_event ?hg (N := 8) ?hd (cs := #[.int .i64 0, .int .i64 0]) (t := 26) ?hr ?_; (case hd => rfl); (case hg => rfl); (case hr => first | (go_simp; done) | (go_simp; rfl)); intro gb115 hg w120 hbox hb; have n0_ := zA (Kd.R_below (Kd.R_elderB (zr HO_5.out) gb115 (Nat.le_of_eq hg.symm)) hb); have n1_ := zA (blk_below (g := gb109) (o := .cells #[.int .i64 t106, .int .i64 t107] 26 (0, 0)) (zb BK109.out) hb); have n2_ := zA (IsS117.below (zHI0) hb); have n3_ := zA (KeepBut.trans (zHK) (KeepBut.of_below hb g none) (.inl rfl)); have n4_ := zA (below_step (zHB) hb); have n5_ := zA (hbox); have n6_ := zA ((show w.heap.size ≤ gb115 from y31)); have n7_ := zA ((Nat.le_trans HW0.out (show w.heap.size ≤ gb115 from y31) : w0.heap.size ≤ gb115)); have n8_ := zA ((show gb109 ≠ gb115 from y9)); have n9_ := zA ((show gb115 ≠ gb109 from y10)); have n10_ := zA ((show g ≠ gb115 from y23)); have n11_ := zA ((show gb115 ≠ g from y24)); clear HO_5; clear BK109; clear HI0; clear HK; clear HB; have HO_5 := n0_; have BK109 := n1_; have HI0 := n2_; have HK := n3_; have HB := n4_; have BK115 := n5_; have GW115 := n6_; have GE115 := n7_; have NB109_115 := n8_; have NB115_109 := n9_; have NB0_115 := n10_; have NB115_0 := n11_; clear n0_ n1_ n2_ n3_ n4_ n5_ n6_ n7_ n8_ n9_ n10_ n11_; clear hb hbox hg; have hnb121 := NB115_109.out; have hnc121 := NB109_115.out; have hnb122 := NB115_0.out; have hnc122 := NB0_115.out; have hcz123_0 : w120.cell? ⟨gb115, 0, none⟩ = some (.int .i64 0) := (blk_cell BK115.out 0).trans rfl; have hcz123_1 : w120.cell? ⟨gb115, 1, none⟩ = some (.int .i64 0) := (blk_cell BK115.out 1).trans rfl; have hfz123_0 := blk_frozen BK115.out 0; have hfz123_1 := blk_frozen BK115.out 1) | ((with_reducible refine gate_callee (f := 81) rfl ?_); refine goesL_ (some 39) rfl rfl Try.func81 (by kernel_rfl) rfl #[.pointer (some ⟨g, 0, none⟩), .int .i64 3] rfl y8  ?_; (with_reducible refine (spec_l1Rd_pick.calls kj8 g s0_0 t113 3 t116 t117 w0 _ ?side1 ?side2 A23.out).mono ?_); (case side1 => exact zHI0); (case side2 => exact zHB); rintro e w124 ⟨rfl, hi, hb, hk⟩; refine ⟨_, rfl, ?_⟩; have n0_ := zA (Kd.R_mono (Kd.R_keep (IsS117.apart (show IsS117 w0 _ g s0_0 t113 from zHI0) y1  (by decide)) hk (fun _ h => h.2)) (fun _ h => h.1)); have n1_ := zA (KeepBut.blk hk (g' := gb109) (o := .cells #[.int .i64 t106, .int .i64 t107] 26 (0, 0)) y19  NB109_0.out (by simp)); have n2_ := zA (KeepBut.blk hk (g' := gb115) (o := .cells #[.int .i64 ((rd_T26 x5_1 t112).f0), .int .i64 ((rd_T26 x5_1 t112).f1)] 26 (0, 0)) y3  NB115_0.out (by simp)); have n3_ := zA (KeepBut.trans (zHK) hk (.inl rfl)); have n4_ := zA (hb); have n5_ := zA (hi); clear HO_5; clear BK109; clear BK115; clear HK; clear HB; clear HI0; have HO_5 := n0_; have BK109 := n1_; have BK115 := n2_; have HK := n3_; have HB := n4_; have HI0 := n5_; clear n0_ n1_ n2_ n3_ n4_ n5_; (try clear hb); (try clear hb2); (try clear hk); (try clear hi); have hcz125_0 : w124.cell? ⟨gb115, 0, none⟩ = some (.int .i64 ((rd_T26 x5_1 t112).f0)) := (blk_cell BK115.out 0).trans rfl; have hcz125_1 : w124.cell? ⟨gb115, 1, none⟩ = some (.int .i64 ((rd_T26 x5_1 t112).f1)) := (blk_cell BK115.out 1).trans rfl; have hfz125_0 := blk_frozen BK115.out 0; have hfz125_1 := blk_frozen BK115.out 1; have hnb126 := NB109_0.out; have hnc126 := NB0_109.out; have hcz127_0 : w124.cell? ⟨gb109, 0, none⟩ = some (.int .i64 t106) := (blk_cell BK109.out 0).trans rfl; have hcz127_1 : w124.cell? ⟨gb109, 1, none⟩ = some (.int .i64 t107) := (blk_cell BK109.out 1).trans rfl; have hfz127_0 := blk_frozen BK109.out 0; have hfz127_1 := blk_frozen BK109.out 1) | ((with_reducible refine gate_builtin (b := .append) (xs := #[.tmp 88, .tmp 90]) rfl ?_); (try (refine gate_guard (by rfl) ?_; dsimp only)); at_builtin; refine Kd.R_append k26 w.heap.size rfl (.tmp 88) (.tmp 90) 58 26 (.agg #[(.int .i64 0), (.int .i64 0)]) 16 rfl Try.underlying58 info26 rfl (by decide) (by omega) (.slice (some ad114) x5_1.length co118) x5_1 (⟨t106, t107⟩ : S26) [.int .i64 t106, .int .i64 t107] (fun k_ => k_ ≠ gb109 ∧ k_ ≠ gb115) (fun _ => False) rfl rfl ?aP (fun _ hk => hk.elim) ?aF ?aO (Below.refl _ _) ?aS ?aL ?_; (case aP => exact k26_mkM _ _ _ (⟨t106, t107⟩ : S26)); (case aF => exact (fun k_ hk => ⟨Kd.freshB (g := gb109) (o := .cells #[.int .i64 t106, .int .i64 t107] 26 (0, 0)) (zb BK109.out) k_ hk, Kd.freshB (g := gb115) (o := .cells #[.int .i64 ((rd_T26 x5_1 t112).f0), .int .i64 ((rd_T26 x5_1 t112).f1)] 26 (0, 0)) (zb BK115.out) k_ hk⟩)); (case aO => exact (zr HO_5.out)); (case aS => exact (keep_size (w := w) (g := g) (row := none) (zHK))); (case aL => have := LMc117.out; omega); intro v153 w128 ho hb hg hat; rw [← Ny152.out] at ho; have n0_ := zA (blk_grown (g := gb109) (o := .cells #[.int .i64 t106, .int .i64 t107] 26 (0, 0)) (zb BK109.out) hg (Kd.R_away HO_5.out (fun _ hk => hk.1))); have n1_ := zA (spec_l5List.grown117 HI0.out (zHI0) hg (IsS117.own_ne HI0.out HO_5.out (by decide))); have n2_ := zA (blk_grown (g := gb115) (o := .cells #[.int .i64 ((rd_T26 x5_1 t112).f0), .int .i64 ((rd_T26 x5_1 t112).f1)] 26 (0, 0)) (zb BK115.out) hg (Kd.R_away HO_5.out (fun _ hk => hk.2))); have n3_ := zA (below_weaken (zHB) HL.out hb); have n4_ := zA (KeepBut.trans (zHK) (KeepBut.of_grown hg g) (Kd.R_base2 HO_5.out)); have n5_ := zA (ho); clear BK109; clear HI0; clear BK115; clear HB; clear HK; clear HO_5; have BK109 := n0_; have HI0 := n1_; have BK115 := n2_; have HB := n3_; have HK := n4_; have HO154 := n5_; clear n0_ n1_ n2_ n3_ n4_ n5_; clear ho hb hg hat))
         go_roundg kj8
         case measure => have := HK1.out; have := HJ8.out; omega
         case rel => exact ⟨(y152), (wrap64 (x6_1 - 1)), (t117), y36 , H', ⟨by have := HK1.out; have := HJ8.out; omega⟩, ⟨by refine zk ?_; exact Kd.R_mono HO154.out (fun _ hk => trivial)⟩, ⟨zHI0⟩, ⟨zHK⟩, ⟨zHB⟩⟩
        rw [if_neg c117] at H
        exact absurd H (by simp)
       rw [if_neg c77] at H
       have c77b0 : (t116 == 1) = false := beq_eq_false_iff_ne.mpr c77
       have c77b1 : (t116 != 1) = true := bne_iff_ne.mpr c77
       by_cases c129 : x5_1.length < 8796093022208
       ·rw [if_pos c129] at H
        have LMc129 := zA c129
        clear c129
        obtain ⟨y155, hy155⟩ : ∃ y_ : List (S26), y_ = (x5_1 ++ [(⟨(rd_T26 x5_1 t112).f0, (rd_T26 x5_1 t112).f1⟩ : S26)]) := ⟨_, rfl⟩
        replace H : (spec_l5List.l0 kj8 y155 (wrap64 (x6_1 - 1)) s0_0 t117) = some (r1, r2) := by first | (rw [hy155]; with_reducible exact H) | (have H2_ := (Option.bind_some _ _).symm.trans H; rw [hy155]; with_reducible exact H2_) | (have H2_ := (Option.bind_some _ _).symm.trans H; with_reducible exact H2_) | with_reducible exact H | (rw [hy155]; exact H) | exact H
        have Ny155 := zA hy155
        clear hy155
        have H' := zA H
        clear H
        obtain ⟨Ao130, co130, eo130⟩ := Kd.R_slice HO_5.out
        subst eo130
        go_wp2_with (first | ((with_reducible refine gate_callee (f := 81) rfl ?_); refine goesL_ (some 35) rfl rfl Try.func81 (by kernel_rfl) rfl #[.pointer (some ⟨g, 0, none⟩), .int .i64 (x5_1.length : Int)] rfl y8  ?_; (with_reducible refine (spec_l1Rd_pick.calls kj8 g s0_0 x1001_8 (x5_1.length : Int) t112 t113 w0 _ ?side1 ?side2 A20.out).mono ?_); (case side1 => exact zHI0); (case side2 => exact zHB); rintro e w131 ⟨rfl, hi, hb, hk⟩; refine ⟨_, rfl, ?_⟩; have n0_ := zA (Kd.R_mono (Kd.R_keep (IsS117.apart (show IsS117 w0 _ g s0_0 x1001_8 from zHI0) (zr HO_5.out) (by decide)) hk (fun _ h => h.2)) (fun _ h => h.1)); have n1_ := zA (KeepBut.blk hk (g' := gb109) (o := .cells #[.int .i64 t106, .int .i64 t107] 26 (0, 0)) (zb BK109.out) NB109_0.out (by simp)); have n2_ := zA (KeepBut.trans (zHK) hk (.inl rfl)); have n3_ := zA (hb); have n4_ := zA (hi); clear HO_5; clear BK109; clear HK; clear HB; clear HI0; have HO_5 := n0_; have BK109 := n1_; have HK := n2_; have HB := n3_; have HI0 := n4_; clear n0_ n1_ n2_ n3_ n4_; (try clear hb); (try clear hb2); (try clear hk); (try clear hi); have p114 : 0 ≤ (t112 : Int) := of_decide_eq_true y35 ; have q114 : t112 < (x5_1.length : Int) := of_decide_eq_true y35 ; obtain ⟨ad114, e114, hx114_0, hx114_1⟩ := at_T26 (Kd.R_reads' HO_5.out).2.2 t112 p114 q114; cases e114; replace p114 := eq_true p114; replace q114 := eq_true q114) | ((with_reducible refine gate_dst (N := 8) rfl ?_); (try (refine gate_guard (by rfl) ?_; dsimp only)); refine box_event ?hg (N := 8) ?hd (cs := #[.int .i64 0, .int .i64 0]) (t := 26) ?hr ?_; (case hd => rfl); (case hg => rfl); (case hr => first | (go_simp; done) | (go_simp; rfl)); intro gb115 hg w132 hbox hb; have n0_ := zA (Kd.R_below (Kd.R_elderB (zr HO_5.out) gb115 (Nat.le_of_eq hg.symm)) hb); have n1_ := zA (blk_below (g := gb109) (o := .cells #[.int .i64 t106, .int .i64 t107] 26 (0, 0)) (zb BK109.out) hb); have n2_ := zA (IsS117.below (zHI0) hb); have n3_ := zA (KeepBut.trans (zHK) (KeepBut.of_below hb g none) (.inl rfl)); have n4_ := zA (below_step (zHB) hb); have n5_ := zA (hbox); have n6_ := zA ((show w.heap.size ≤ gb115 from y31)); have n7_ := zA ((Nat.le_trans HW0.out (show w.heap.size ≤ gb115 from y31) : w0.heap.size ≤ gb115)); have n8_ := zA ((show gb109 ≠ gb115 from y9)); have n9_ := zA ((show gb115 ≠ gb109 from y10)); have n10_ := zA ((show g ≠ gb115 from y23)); have n11_ := zA ((show gb115 ≠ g from y24)); clear HO_5; clear BK109; clear HI0; clear HK; clear HB; have HO_5 := n0_; have BK109 := n1_; have HI0 := n2_; have HK := n3_; have HB := n4_; have BK115 := n5_; have GW115 := n6_; have GE115 := n7_; have NB109_115 := n8_; have NB115_109 := n9_; have NB0_115 := n10_; have NB115_0 := n11_; clear n0_ n1_ n2_ n3_ n4_ n5_ n6_ n7_ n8_ n9_ n10_ n11_; clear hb hbox hg; have hnb133 := NB115_109.out; have hnc133 := NB109_115.out; have hnb134 := NB115_0.out; have hnc134 := NB0_115.out; have hcz135_0 : w132.cell? ⟨gb115, 0, none⟩ = some (.int .i64 0) := (blk_cell BK115.out 0).trans rfl; have hcz135_1 : w132.cell? ⟨gb115, 1, none⟩ = some (.int .i64 0) := (blk_cell BK115.out 1).trans rfl; have hfz135_0 := blk_frozen BK115.out 0; have hfz135_1 := blk_frozen BK115.out 1) | ((with_reducible refine gate_callee (f := 81) rfl ?_); refine goesL_ (some 39) rfl rfl Try.func81 (by kernel_rfl) rfl #[.pointer (some ⟨g, 0, none⟩), .int .i64 3] rfl y8  ?_; (with_reducible refine (spec_l1Rd_pick.calls kj8 g s0_0 t113 3 t116 t117 w0 _ ?side1 ?side2 A23.out).mono ?_); (case side1 => exact zHI0); (case side2 => exact zHB); rintro e w136 ⟨rfl, hi, hb, hk⟩; refine ⟨_, rfl, ?_⟩; have n0_ := zA (Kd.R_mono (Kd.R_keep (IsS117.apart (show IsS117 w0 _ g s0_0 t113 from zHI0) y1  (by decide)) hk (fun _ h => h.2)) (fun _ h => h.1)); have n1_ := zA (KeepBut.blk hk (g' := gb109) (o := .cells #[.int .i64 t106, .int .i64 t107] 26 (0, 0)) y19  NB109_0.out (by simp)); have n2_ := zA (KeepBut.blk hk (g' := gb115) (o := .cells #[.int .i64 ((rd_T26 x5_1 t112).f0), .int .i64 ((rd_T26 x5_1 t112).f1)] 26 (0, 0)) y3  NB115_0.out (by simp)); have n3_ := zA (KeepBut.trans (zHK) hk (.inl rfl)); have n4_ := zA (hb); have n5_ := zA (hi); clear HO_5; clear BK109; clear BK115; clear HK; clear HB; clear HI0; have HO_5 := n0_; have BK109 := n1_; have BK115 := n2_; have HK := n3_; have HB := n4_; have HI0 := n5_; clear n0_ n1_ n2_ n3_ n4_ n5_; (try clear hb); (try clear hb2); (try clear hk); (try clear hi); have hcz137_0 : w136.cell? ⟨gb115, 0, none⟩ = some (.int .i64 ((rd_T26 x5_1 t112).f0)) := (blk_cell BK115.out 0).trans rfl; have hcz137_1 : w136.cell? ⟨gb115, 1, none⟩ = some (.int .i64 ((rd_T26 x5_1 t112).f1)) := (blk_cell BK115.out 1).trans rfl; have hfz137_0 := blk_frozen BK115.out 0; have hfz137_1 := blk_frozen BK115.out 1; have hnb138 := NB109_0.out; have hnc138 := NB0_109.out; have hcz139_0 : w136.cell? ⟨gb109, 0, none⟩ = some (.int .i64 t106) := (blk_cell BK109.out 0).trans rfl; have hcz139_1 : w136.cell? ⟨gb109, 1, none⟩ = some (.int .i64 t107) := (blk_cell BK109.out 1).trans rfl; have hfz139_0 := blk_frozen BK109.out 0; have hfz139_1 := blk_frozen BK109.out 1) | ((with_reducible refine gate_builtin (b := .append) (xs := #[.tmp 88, .tmp 90]) rfl ?_); (try (refine gate_guard (by rfl) ?_; dsimp only)); at_builtin; refine Kd.R_append k26 w.heap.size rfl (.tmp 88) (.tmp 90) 58 26 (.agg #[(.int .i64 0), (.int .i64 0)]) 16 rfl Try.underlying58 info26 rfl (by decide) (by omega) (.slice (some ad114) x5_1.length co130) x5_1 (⟨(rd_T26 x5_1 t112).f0, (rd_T26 x5_1 t112).f1⟩ : S26) [.int .i64 ((rd_T26 x5_1 t112).f0), .int .i64 ((rd_T26 x5_1 t112).f1)] (fun k_ => k_ ≠ gb109 ∧ k_ ≠ gb115) (fun _ => False) rfl (by first | (go_simp; done) | (go_simp; rfl)) ?aP (fun _ hk => hk.elim) ?aF ?aO (Below.refl _ _) ?aS ?aL ?_; (case aP => exact k26_mkM _ _ _ (⟨(rd_T26 x5_1 t112).f0, (rd_T26 x5_1 t112).f1⟩ : S26)); (case aF => exact (fun k_ hk => ⟨Kd.freshB (g := gb109) (o := .cells #[.int .i64 ((rd_T26 x5_1 t112).f0), .int .i64 ((rd_T26 x5_1 t112).f1)] 26 (0, 0)) (by refine zq ?_; refine blk_put (cs := #[.int .i64 ((rd_T26 x5_1 t112).f0), .int .i64 t107]) ?_ 1 _ rfl; refine zq ?_; refine blk_put (cs := #[.int .i64 t106, .int .i64 t107]) ?_ 0 _ rfl; refine zq ?_; exact BK109.out) k_ hk, Kd.freshB (g := gb115) (o := .cells #[.int .i64 ((rd_T26 x5_1 t112).f0), .int .i64 ((rd_T26 x5_1 t112).f1)] 26 (0, 0)) y20  k_ hk⟩)); (case aO => exact (by refine zk ?_; exact Kd.R_mono (Kd.R_far (p := ⟨gb109, 1, none⟩) (Kd.R_far (p := ⟨gb109, 0, none⟩) (Kd.R_mono HO_5.out (fun k_ hk => (⟨hk, hk.1⟩ : _ ∧ k_ ≠ gb109))) (fun _ hk => hk.2) (.int .i64 ((rd_T26 x5_1 t112).f0))) (fun _ hk => hk.2) (.int .i64 ((rd_T26 x5_1 t112).f1))) (fun _ hk => ⟨hk.1.1, hk.1.2⟩))); (case aS => exact (keep_size (w := w) (g := g) (row := none) (zHK))); (case aL => have := LMc129.out; omega); intro v156 w140 ho hb hg hat; rw [← Ny155.out] at ho; have n0_ := zA (blk_grown (g := gb109) (o := .cells #[.int .i64 ((rd_T26 x5_1 t112).f0), .int .i64 ((rd_T26 x5_1 t112).f1)] 26 (0, 0)) (by refine zq ?_; refine blk_put (cs := #[.int .i64 ((rd_T26 x5_1 t112).f0), .int .i64 t107]) ?_ 1 _ rfl; refine zq ?_; refine blk_put (cs := #[.int .i64 t106, .int .i64 t107]) ?_ 0 _ rfl; refine zq ?_; exact BK109.out) hg (Kd.R_away HO_5.out (fun _ hk => hk.1))); have n1_ := zA (spec_l5List.grown117 HI0.out (zHI0) hg (IsS117.own_ne HI0.out HO_5.out (by decide))); have n2_ := zA (blk_grown (g := gb115) (o := .cells #[.int .i64 ((rd_T26 x5_1 t112).f0), .int .i64 ((rd_T26 x5_1 t112).f1)] 26 (0, 0)) y20  hg (Kd.R_away HO_5.out (fun _ hk => hk.2))); have n3_ := zA (below_weaken (zHB) HL.out hb); have n4_ := zA (KeepBut.trans (zHK) (KeepBut.of_grown hg g) (Kd.R_base2 HO_5.out)); have n5_ := zA (ho); clear BK109; clear HI0; clear BK115; clear HB; clear HK; clear HO_5; have BK109 := n0_; have HI0 := n1_; have BK115 := n2_; have HB := n3_; have HK := n4_; have HO157 := n5_; clear n0_ n1_ n2_ n3_ n4_ n5_; clear ho hb hg hat))
        go_roundg kj8
        case measure => have := HK1.out; have := HJ8.out; omega
        case rel => exact ⟨(y155), (wrap64 (x6_1 - 1)), (t117), y36 , H', ⟨by have := HK1.out; have := HJ8.out; omega⟩, ⟨by refine zk ?_; exact Kd.R_mono HO157.out (fun _ hk => trivial)⟩, ⟨zHI0⟩, ⟨zHK⟩, ⟨zHB⟩⟩
       rw [if_neg c129] at H
       exact absurd H (by simp)
      rw [if_neg c22] at H
      exact absurd H (by simp)
     rw [if_neg c21] at H
     exact absurd H (by simp)
    replace c19 := Bool.eq_false_iff.mpr c19
    subst c19
    have H1 : (if x5_1.length < 8796093022208 then (spec_l5List.l0 kj8 (x5_1 ++ [(⟨t106, t107⟩ : S26)]) (wrap64 (x6_1 - 1)) s0_0 x1001_8) else (none)) = some (r1, r2) := by rw [if_neg (show ¬ (false = true) by decide)] at H; exact H
    clear H
    have H := H1
    clear H1
    by_cases c141 : x5_1.length < 8796093022208
    ·rw [if_pos c141] at H
     have LMc141 := zA c141
     clear c141
     obtain ⟨y158, hy158⟩ : ∃ y_ : List (S26), y_ = (x5_1 ++ [(⟨t106, t107⟩ : S26)]) := ⟨_, rfl⟩
     replace H : (spec_l5List.l0 kj8 y158 (wrap64 (x6_1 - 1)) s0_0 x1001_8) = some (r1, r2) := by first | (rw [hy158]; with_reducible exact H) | (have H2_ := (Option.bind_some _ _).symm.trans H; rw [hy158]; with_reducible exact H2_) | (have H2_ := (Option.bind_some _ _).symm.trans H; with_reducible exact H2_) | with_reducible exact H | (rw [hy158]; exact H) | exact H
     have Ny158 := zA hy158
     clear hy158
     have H' := zA H
     clear H
     have hnb142 := NB109_0.out
     have hnc142 := NB0_109.out
     have hcz143_0 : wc.cell? ⟨gb109, 0, none⟩ = some (.int .i64 t106) := (blk_cell BK109.out 0).trans rfl
     have hcz143_1 : wc.cell? ⟨gb109, 1, none⟩ = some (.int .i64 t107) := (blk_cell BK109.out 1).trans rfl
     have hfz143_0 := blk_frozen BK109.out 0
     have hfz143_1 := blk_frozen BK109.out 1
     go_wp2_with (first | ((with_reducible refine gate_builtin (b := .append) (xs := #[.tmp 88, .tmp 90]) rfl ?_); (try (refine gate_guard (by rfl) ?_; dsimp only)); at_builtin; refine Kd.R_append k26 w.heap.size rfl (.tmp 88) (.tmp 90) 58 26 (.agg #[(.int .i64 0), (.int .i64 0)]) 16 rfl Try.underlying58 info26 rfl (by decide) (by omega) u5 x5_1 (⟨t106, t107⟩ : S26) [.int .i64 t106, .int .i64 t107] (fun k_ => k_ ≠ gb109) (fun _ => False) rfl rfl ?aP (fun _ hk => hk.elim) ?aF ?aO (Below.refl _ _) ?aS ?aL ?_; (case aP => exact k26_mkM _ _ _ (⟨t106, t107⟩ : S26)); (case aF => exact (fun k_ hk => Kd.freshB (g := gb109) (o := .cells #[.int .i64 t106, .int .i64 t107] 26 (0, 0)) (zb BK109.out) k_ hk)); (case aO => exact (zr HO_5.out)); (case aS => exact (keep_size (w := w) (g := g) (row := none) (zHK))); (case aL => have := LMc141.out; omega); intro v159 w144 ho hb hg hat; rw [← Ny158.out] at ho; have n0_ := zA (blk_grown (g := gb109) (o := .cells #[.int .i64 t106, .int .i64 t107] 26 (0, 0)) (zb BK109.out) hg (Kd.R_away HO_5.out (fun _ hk => hk))); have n1_ := zA (spec_l5List.grown117 HI0.out (zHI0) hg (IsS117.own_ne HI0.out HO_5.out (by decide))); have n2_ := zA (below_weaken (zHB) HL.out hb); have n3_ := zA (KeepBut.trans (zHK) (KeepBut.of_grown hg g) (Kd.R_base2 HO_5.out)); have n4_ := zA (ho); clear BK109; clear HI0; clear HB; clear HK; clear HO_5; have BK109 := n0_; have HI0 := n1_; have HB := n2_; have HK := n3_; have HO160 := n4_; clear n0_ n1_ n2_ n3_ n4_; clear ho hb hg hat))
     go_roundg kj8
     case measure => have := HK1.out; have := HJ8.out; omega
     case rel => exact ⟨(y158), (wrap64 (x6_1 - 1)), (x1001_8), y36 , H', ⟨by have := HK1.out; have := HJ8.out; omega⟩, ⟨by refine zk ?_; exact Kd.R_mono HO160.out (fun _ hk => trivial)⟩, ⟨zHI0⟩, ⟨zHK⟩, ⟨zHB⟩⟩
    rw [if_neg c141] at H
    exact absurd H (by simp)
  rw [if_neg c7] at H
  have c7b0 : decide (0 < x6_1) = false := decide_eq_false c7
  clear c7
  replace H := Option.bind_eq_some_iff.mp H
  obtain ⟨⟨t161, t162⟩, A1450, H⟩ := H
  replace H : (if t161 = 0 then (if (x5_1.length : Int) > 0 then (if 0 < (x5_1.length : Int) then ((spec_l5Spoil.f k1 s0_0 t162 ((rd_T26 x5_1 0).f0) ((rd_T26 x5_1 0).f1)).bind fun bt164 => (some ((x5_1.set (0 : Int).toNat (⟨bt164.1, bt164.2.1⟩ : S26)), bt164.2.2))) else (none)) else (some (x5_1, t162))) else (some (x5_1, t162))) = some (r1, r2) := H
  have A145 := zA A1450
  clear A1450
  by_cases c146 : t161 = 0
  ·rw [if_pos c146] at H
   have c146b0 : (t161 == 0) = true := beq_iff_eq.mpr c146
   have c146b1 : (t161 != 0) = false := bne_eq_false_iff_eq.mpr c146
   clear c146
   by_cases c147 : (x5_1.length : Int) > 0
   ·rw [if_pos c147] at H
    have c147b0 : decide (0 < (x5_1.length : Int)) = true := decide_eq_true c147
    have c147b1 : decide (0 < x5_1.length) = true := decide_eq_true (by omega)
    clear c147
    by_cases c148 : 0 < (x5_1.length : Int)
    ·rw [if_pos c148] at H
     have c148b0 : decide (0 < (x5_1.length : Int)) = true := decide_eq_true c148
     have c148b1 : decide (0 < x5_1.length) = true := decide_eq_true (by omega)
     clear c148
     replace H := Option.bind_eq_some_iff.mp H
     obtain ⟨⟨t164, t165, t166⟩, A1490, H⟩ := H
     replace H : (some ((x5_1.set (0 : Int).toNat (⟨t164, t165⟩ : S26)), t166)) = some (r1, r2) := H
     have A149 := zA A1490
     clear A1490
     obtain ⟨y167, hy167⟩ : ∃ y_ : List (S26), y_ = (x5_1.set (0 : Int).toNat (⟨t164, t165⟩ : S26)) := ⟨_, rfl⟩
     replace H : (some (y167, t166)) = some (r1, r2) := by first | (rw [hy167]; with_reducible exact H) | (have H2_ := (Option.bind_some _ _).symm.trans H; rw [hy167]; with_reducible exact H2_) | (have H2_ := (Option.bind_some _ _).symm.trans H; with_reducible exact H2_) | with_reducible exact H | (rw [hy167]; exact H) | exact H
     have Ny167 := zA hy167
     clear hy167
     simp only [Option.some.injEq, Prod.mk.injEq] at H
     obtain ⟨rfl, rfl⟩ := H
     go_wp2_with (first | ((with_reducible refine gate_callee (f := 81) rfl ?_); refine goesL_ (some 93) rfl rfl Try.func81 (by kernel_rfl) rfl #[.pointer (some ⟨g, 0, none⟩), .int .i64 30] rfl y8  ?_; (with_reducible refine (spec_l1Rd_pick.calls k1 g s0_0 x1001_1 30 t161 t162 w0 _ ?side1 ?side2 A145.out).mono ?_); (case side1 => exact zHI0); (case side2 => exact zHB); rintro e w151 ⟨rfl, hi, hb, hk⟩; refine ⟨_, rfl, ?_⟩; have n0_ := zA (Kd.R_mono (Kd.R_keep (IsS117.apart (show IsS117 w0 _ g s0_0 x1001_1 from zHI0) (zr HO_5.out) (by decide)) hk (fun _ h => h.2)) (fun _ h => h.1)); have n1_ := zA (KeepBut.trans (zHK) hk (.inl rfl)); have n2_ := zA (hb); have n3_ := zA (hi); clear HO_5; clear HK; clear HB; clear HI0; have HO_5 := n0_; have HK := n1_; have HB := n2_; have HI0 := n3_; clear n0_ n1_ n2_ n3_; (try clear hb); (try clear hb2); (try clear hk); (try clear hi); obtain ⟨Ao152, co152, eo152⟩ := Kd.R_slice HO_5.out; subst eo152; have p163 : 0 ≤ (0 : Int) := (by omega); have q163 : 0 < (x5_1.length : Int) := of_decide_eq_true y35 ; obtain ⟨ad163, e163, hx163_0, hx163_1⟩ := at_T26 (Kd.R_reads' HO_5.out).2.2 0 p163 q163; cases e163; have qi163 : (0 < x5_1.length) = True := eq_true (by omega); (try rw [show ((0 : Int)).toNat = 0 from rfl] at hx163_0); (try rw [show 0 * 2 = 0 from rfl] at hx163_0); (try rw [Addr.add_zero'] at hx163_0); (try rw [show ((0 : Int)).toNat = 0 from rfl] at hx163_1); (try rw [show 0 * 2 = 0 from rfl] at hx163_1); (try rw [Addr.add_zero'] at hx163_1); replace p163 := eq_true p163; replace q163 := eq_true q163) | ((with_reducible refine gate_callee (f := 122) rfl ?_); refine goesL_ (some 105) rfl rfl Try.func122 (by kernel_rfl) rfl #[.pointer (some ⟨g, 0, none⟩), .agg #[.int .i64 ((rd_T26 x5_1 0).f0), .int .i64 ((rd_T26 x5_1 0).f1)]] rfl y8  ?_; (with_reducible refine (spec_l5Spoil.calls k1 g s0_0 t162 ((rd_T26 x5_1 0).f0) ((rd_T26 x5_1 0).f1) t164 t165 t166 w0 _ ?side1 ?side2 A149.out).mono ?_); (case side1 => exact zHI0); (case side2 => exact zHB); rintro e w153 ⟨rfl, hi, hb, hk⟩; refine ⟨_, rfl, ?_⟩; have n0_ := zA (Kd.R_mono (Kd.R_keep (IsS117.apart (show IsS117 w0 _ g s0_0 t162 from zHI0) (zr HO_5.out) (by decide)) hk (fun _ h => h.2)) (fun _ h => h.1)); have n1_ := zA (KeepBut.trans (zHK) hk (.inl rfl)); have n2_ := zA (hb); have n3_ := zA (hi); clear HO_5; clear HK; clear HB; clear HI0; have HO_5 := n0_; have HK := n1_; have HB := n2_; have HI0 := n3_; clear n0_ n1_ n2_ n3_; (try clear hb); (try clear hb2); (try clear hk); (try clear hi); have p150 : 0 ≤ (0 : Int) := (by omega); have q150 : (0 : Int) < ((x5_1.length : Int) : Int) := of_decide_eq_true y35 ; have qi150 : (0 < x5_1.length) = True := eq_true (by omega); obtain ⟨go150, co150, eo150, gb150, gl150, cl150, HG150⟩ := Kd.R_form HO_5.out (by omega); (first | cases eo150 | (injection eo150 with ea_ en_ ec_; (first | subst ea_ | (injection ea_ with ea_; subst ea_)); subst ec_; clear en_)); have GB150 := zA gb150; have GG150 := zA HG150; clear gb150 gl150 HG150; (first | simp only [add_plain] at hx163_0 | skip); (first | simp only [add_plain] at hx163_1 | skip); obtain ⟨ce150, hcl150, hM150, hcc150, hfr150⟩ := Kd.R_elem HO_5.out z26 (0 : Int) p150 q150; obtain rfl := k26_openM hM150; have hx150_0 : w153.cell? ⟨go150, (0 : Int).toNat * 2, none⟩ = some (.int .i64 ((rd_T26 x5_1 0).f0)) := hcc150 0 _ rfl; have hx150_1 : w153.cell? ⟨go150, (0 : Int).toNat * 2 + 1, none⟩ = some (.int .i64 ((rd_T26 x5_1 0).f1)) := hcc150 1 _ rfl; have hf150_0 : w153.frozen? ⟨go150, (0 : Int).toNat * 2, none⟩ = false := hfr150 0; have hf150_1 : w153.frozen? ⟨go150, (0 : Int).toNat * 2 + 1, none⟩ = false := hfr150 1; clear hcl150 hcc150 hfr150 hM150; (try rw [show ((0 : Int)).toNat = 0 from rfl] at hx150_0); (try simp only [Nat.reduceMul, Nat.zero_mul, Nat.zero_add, Nat.reduceAdd] at hx150_0); (try rw [show ((0 : Int)).toNat = 0 from rfl] at hf150_0); (try simp only [Nat.reduceMul, Nat.zero_mul, Nat.zero_add, Nat.reduceAdd] at hf150_0); (try rw [show ((0 : Int)).toNat = 0 from rfl] at hx150_1); (try simp only [Nat.reduceMul, Nat.zero_mul, Nat.zero_add, Nat.reduceAdd] at hx150_1); (try rw [show ((0 : Int)).toNat = 0 from rfl] at hf150_1); (try simp only [Nat.reduceMul, Nat.zero_mul, Nat.zero_add, Nat.reduceAdd] at hf150_1); replace p150 := eq_true p150; replace q150 := eq_true q150; have HX154 := zA (show Kd.R k26 26 w153 w.heap.size (fun _ => True) (.slice (some ⟨go150, 0, none⟩) x5_1.length co152) x5_1 from (zr HO_5.out)); obtain ⟨ce154, hcl154, hM154, hcc154, hfr154⟩ := Kd.R_elem HX154.out z26 (0 : Int) (by omega) (by have h_ : (0 : Int) < ((x5_1.length : Int) : Int) := of_decide_eq_true y35 ; first | exact h_ | (have e_ := (Kd.R_reads' HO_5.out).1; omega) | simpa using h_); obtain rfl := k26_openM hM154; have HP154 := Kd.R_seg HX154.out (0 : Int) (by omega) (by have h_ : (0 : Int) < ((x5_1.length : Int) : Int) := of_decide_eq_true y35 ; first | exact h_ | (have e_ := (Kd.R_reads' HO_5.out).1; omega) | simpa using h_) (seg := [.int .i64 t164, .int .i64 t165]) (j := 0) hcl154 hcc154 (show 2 ≤ 2 from by decide) (x' := (⟨t164, t165⟩ : S26)) (k26_mkM _ _ _ (⟨t164, t165⟩ : S26) ) (fun _ hk => hk); have hx154_0 := hcc154 0 _ rfl; (try simp only [show (k26).sz = 2 from rfl, Nat.mul_one, Nat.add_zero] at hx154_0); (try rw [show ((0 : Int)).toNat = 0 from rfl] at hx154_0); (try simp only [Nat.reduceMul, Nat.zero_mul, Nat.zero_add, Nat.reduceAdd] at hx154_0); have hf154_0 := hfr154 0; (try simp only [show (k26).sz = 2 from rfl, Nat.mul_one, Nat.add_zero] at hf154_0); (try rw [show ((0 : Int)).toNat = 0 from rfl] at hf154_0); (try simp only [Nat.reduceMul, Nat.zero_mul, Nat.zero_add, Nat.reduceAdd] at hf154_0); have hx154_1 := hcc154 1 _ rfl; (try simp only [show (k26).sz = 2 from rfl, Nat.mul_one, Nat.add_zero] at hx154_1); (try rw [show ((0 : Int)).toNat = 0 from rfl] at hx154_1); (try simp only [Nat.reduceMul, Nat.zero_mul, Nat.zero_add, Nat.reduceAdd] at hx154_1); have hf154_1 := hfr154 1; (try simp only [show (k26).sz = 2 from rfl, Nat.mul_one, Nat.add_zero] at hf154_1); (try rw [show ((0 : Int)).toNat = 0 from rfl] at hf154_1); (try simp only [Nat.reduceMul, Nat.zero_mul, Nat.zero_add, Nat.reduceAdd] at hf154_1); clear hcl154 hcc154 hfr154 hM154) | ((with_reducible refine gate_store (t := 26) (p := 106) rfl ?_); refine store_event (t := 26) (p := 106) (v := ?vo_w155) (w1 := ((w153.setCell ⟨go150, 0, none⟩ (.int .i64 t164)).setCell ⟨go150, 1, none⟩ (.int .i64 t165))) ?hg ?ho ?hn ?hr ?_; (case ho => rfl); (case hg => rfl); (case hn => rfl); (case hr => first | (go_simp; done) | (go_simp; rfl)); intro w155 hw; have hg : w153.grownBy w155 (some go150) := (by rw [hw]; exact HP154.2); have hp_ : Kd.R k26 26 w155 w.heap.size (fun _ => True) (.slice (some ⟨go150, 0, none⟩) x5_1.length co152) y167 := (by rw [hw, Ny167.out]; exact HP154.1); clear HP154; have n0_ := zA (hp_); have n1_ := zA (spec_l5List.grown117 HI0.out (zHI0) hg (IsS117.own_ne HI0.out HO_5.out (by decide))); have n2_ := zA ((by rw [hw]; exact below_set (below_set (HB.out) (Nat.le_trans HL.out GB150.out)) (Nat.le_trans HL.out GB150.out) : Below w0.heap.size w0 w155)); have n3_ := zA (KeepBut.trans (zHK) (KeepBut.of_grown hg g) (Kd.R_base2 HO_5.out)); clear HO_5; clear HI0; clear HB; clear HK; have HO_5 := n0_; have HI0 := n1_; have HB := n2_; have HK := n3_; clear n0_ n1_ n2_ n3_; clear hg hw hp_))
     go_ret
     exact ⟨_, by first | rfl | (simp [errW_none, errW_some] <;> rfl) | (simp [*, errW_none, errW_some] <;> rfl), by refine zk ?_; exact HO_5.out, zHI0, zHB, zHK⟩
    rw [if_neg c148] at H
    exact absurd H (by simp)
   rw [if_neg c147] at H
   have c147b0 : decide (0 < (x5_1.length : Int)) = false := decide_eq_false c147
   have c147b1 : decide (0 < x5_1.length) = false := decide_eq_false (by omega)
   clear c147
   simp only [Option.some.injEq, Prod.mk.injEq] at H
   obtain ⟨rfl, rfl⟩ := H
   go_wp2_with (first | ((with_reducible refine gate_callee (f := 81) rfl ?_); refine goesL_ (some 93) rfl rfl Try.func81 (by kernel_rfl) rfl #[.pointer (some ⟨g, 0, none⟩), .int .i64 30] rfl y8  ?_; (with_reducible refine (spec_l1Rd_pick.calls k1 g s0_0 x1001_1 30 t161 t162 w0 _ ?side1 ?side2 A145.out).mono ?_); (case side1 => exact zHI0); (case side2 => exact zHB); rintro e w156 ⟨rfl, hi, hb, hk⟩; refine ⟨_, rfl, ?_⟩; have n0_ := zA (Kd.R_mono (Kd.R_keep (IsS117.apart (show IsS117 w0 _ g s0_0 x1001_1 from zHI0) (zr HO_5.out) (by decide)) hk (fun _ h => h.2)) (fun _ h => h.1)); have n1_ := zA (KeepBut.trans (zHK) hk (.inl rfl)); have n2_ := zA (hb); have n3_ := zA (hi); clear HO_5; clear HK; clear HB; clear HI0; have HO_5 := n0_; have HK := n1_; have HB := n2_; have HI0 := n3_; clear n0_ n1_ n2_ n3_; (try clear hb); (try clear hb2); (try clear hk); (try clear hi); obtain ⟨Ao157, co157, eo157⟩ := Kd.R_slice HO_5.out; subst eo157))
   go_ret
   exact ⟨_, by first | rfl | (simp [errW_none, errW_some] <;> rfl) | (simp [*, errW_none, errW_some] <;> rfl), by refine zk ?_; exact HO_5.out, zHI0, zHB, zHK⟩
  rw [if_neg c146] at H
  have c146b0 : (t161 == 0) = false := beq_eq_false_iff_ne.mpr c146
  have c146b1 : (t161 != 0) = true := bne_iff_ne.mpr c146
  simp only [Option.some.injEq, Prod.mk.injEq] at H
  obtain ⟨rfl, rfl⟩ := H
  go_wp2_with (first | ((with_reducible refine gate_callee (f := 81) rfl ?_); refine goesL_ (some 93) rfl rfl Try.func81 (by kernel_rfl) rfl #[.pointer (some ⟨g, 0, none⟩), .int .i64 30] rfl y8  ?_; (with_reducible refine (spec_l1Rd_pick.calls k1 g s0_0 x1001_1 30 t161 t162 w0 _ ?side1 ?side2 A145.out).mono ?_); (case side1 => exact zHI0); (case side2 => exact zHB); rintro e w158 ⟨rfl, hi, hb, hk⟩; refine ⟨_, rfl, ?_⟩; have n0_ := zA (Kd.R_mono (Kd.R_keep (IsS117.apart (show IsS117 w0 _ g s0_0 x1001_1 from zHI0) (zr HO_5.out) (by decide)) hk (fun _ h => h.2)) (fun _ h => h.1)); have n1_ := zA (KeepBut.trans (zHK) hk (.inl rfl)); have n2_ := zA (hb); have n3_ := zA (hi); clear HO_5; clear HK; clear HB; clear HI0; have HO_5 := n0_; have HK := n1_; have HB := n2_; have HI0 := n3_; clear n0_ n1_ n2_ n3_; (try clear hb); (try clear hb2); (try clear hk); (try clear hi)))
  go_ret
  exact ⟨_, by first | rfl | (simp [errW_none, errW_some] <;> rfl) | (simp [*, errW_none, errW_some] <;> rfl), by refine zk ?_; exact HO_5.out, zHI0, zHB, zHK⟩
end Go.Proofs.Ytnakanjhdcakhaa.Q
