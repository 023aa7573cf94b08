/- Lemmas for FnAclDiffer, part 2 of 5: the program's functions as Lean functions, what each Go function comes to, and plain lemmas on them. No statement of its own. -/
import Derived.Shelf.Abstract
import Derived.Test.YtnakanjhdcakhaaC1xFnAclDiffer
namespace Go.Proofs.Ytnakanjhdcakhaa.Q
open Go.RowKit Go.Proofs.YtnakanjhdcakhaaW.PrintWords Go.Proofs.YtnakanjhdcakhaaW.PrintLast Go.Proofs.YtnakanjhdcakhaaW.PrintMore
attribute [local go_sem] max2_int min2_int max_two min_two max_three min_three max_four min_four   -- for this text's walks alone
set_option linter.unusedVariables false
set_option linter.unusedSimpArgs false
mutual
def spec_l5SpoilRules.j0 : Nat → List (S54) → Bool → List Int → Int → Option ((List (S54)) × Int)
  | 0, _, _, _, _ => none
  | k + 1, x5, x18, x1000, x1001 => if x18 = true then ((spec_l1Rd_pick.f k x1000 x1001 2).bind fun bt109 => (spec_l5SpoilRules.l0 k x5 (wrap64 (12 + bt109.1)) x1000 bt109.2)) else ((spec_l1Rd_pick.f k x1000 x1001 (x5.length : Int)).bind fun bt114 => ((spec_l1Rd_pick.f k x1000 bt114.2 3).bind fun bt116 => (if bt116.1 = 0 then (if 0 ≤ bt114.1 then (if bt114.1 < (x5.length : Int) then ((spec_l5Spoil.f k x1000 bt116.2 ((rd_T54 x5 bt114.1).f1.f0) ((rd_T54 x5 bt114.1).f1.f1)).bind fun bt119 => (some ((x5.set (bt114.1 : Int).toNat (⟨(rd_T54 x5 bt114.1).f0, (⟨bt119.1, bt119.2.1⟩ : S26), (⟨(rd_T54 x5 bt114.1).f2.f0, (rd_T54 x5 bt114.1).f2.f1⟩ : S26), (rd_T54 x5 bt114.1).f3⟩ : S54)), bt119.2.2))) else (none)) else (none)) else (if bt116.1 = 1 then (if 0 ≤ bt114.1 then (if bt114.1 < (x5.length : Int) then ((spec_l5Spoil.f k x1000 bt116.2 ((rd_T54 x5 bt114.1).f2.f0) ((rd_T54 x5 bt114.1).f2.f1)).bind fun bt124 => (some ((x5.set (bt114.1 : Int).toNat (⟨(rd_T54 x5 bt114.1).f0, (⟨(rd_T54 x5 bt114.1).f1.f0, (rd_T54 x5 bt114.1).f1.f1⟩ : S26), (⟨bt124.1, bt124.2.1⟩ : S26), (rd_T54 x5 bt114.1).f3⟩ : S54)), bt124.2.2))) else (none)) else (none)) else ((some (([(-1), 7, 8] : List Int) : List Int)).bind fun y128 => ((spec_l1Rd_pick.f k x1000 bt116.2 3).bind fun bt131 => (if 0 ≤ bt131.1 then (if bt131.1 < (y128.length : Int) then (if 0 ≤ bt114.1 then (if bt114.1 < (x5.length : Int) then (some ((x5.set (bt114.1 : Int).toNat (⟨(rd_T54 x5 bt114.1).f0, (⟨(rd_T54 x5 bt114.1).f1.f0, (rd_T54 x5 bt114.1).f1.f1⟩ : S26), (⟨(rd_T54 x5 bt114.1).f2.f0, (rd_T54 x5 bt114.1).f2.f1⟩ : S26), rd y128 bt131.1⟩ : S54)), bt131.2)) else (none)) else (none)) else (none)) else (none))))))))
def spec_l5SpoilRules.l0 : Nat → List (S54) → Int → List Int → Int → Option ((List (S54)) × Int)
  | 0, _, _, _, _ => none
  | k + 1, x5, x6, x1000, x1001 => if (x5.length : Int) < x6 then (if x5.length < 2932031007402 then (spec_l5SpoilRules.l0 k (x5 ++ [(⟨false, (⟨0, 0⟩ : S26), (⟨0, 0⟩ : S26), 1⟩ : S54)]) x6 x1000 x1001) else (none)) else (some (x5, x1001))
end
def spec_l5SpoilRules.f (k : Nat) (s0_0 : List Int) (s0_1 : Int) (l1 : List (S54)) : Option ((List (S54)) × Int) := (some (([] : List (S54)) : List (S54))).bind fun y101 => (if y101.length + l1.length < 2932031007402 then ((some (y101 ++ l1 : List (S54))).bind fun y104 => (if (y104.length : Int) = 0 then (spec_l5SpoilRules.j0 k y104 true s0_0 s0_1) else ((spec_l1Rd_pick.f k s0_0 s0_1 4).bind fun bt107 => (spec_l5SpoilRules.j0 k y104 (bt107.1 == 0) s0_0 bt107.2)))) else (none))
theorem spec_l5SpoilRules.zHK {P : Prop} (h : P := by repeat (first | (with_reducible first | exact HK.out | apply KeepBut.set_ | apply keep_drewN | apply keep_drew | apply keep_alloc) | exact HK.out)) : P := h
theorem spec_l5SpoilRules.zHI0 {P : Prop} (h : P := by repeat (first | (with_reducible first | exact HI0.out | apply IsS117.alloc | apply IsS117.drewN | apply IsS117.drew | apply IsS117.set_1) | exact HI0.out)) : P := h
theorem spec_l5SpoilRules.zHB {P : Prop} (h : P := by repeat (first | (with_reducible first | exact HB.out | apply below_alloc | apply pw_below_drewN | apply below_drew1 | refine below_set ?_ (IsS117.ge HI0.out)) | exact HB.out)) : P := h
theorem spec_l5SpoilRules.zr {P Q : Prop} (x : Q) (h : Q → P := by intro x_; (with_reducible repeat (first | apply Kd.R_alloc | apply Kd.R_drewN | apply Kd.R_drew)); exact x_) : P := h x
theorem spec_l5SpoilRules.zk {P Q : Prop} (x : Q) (h : Q → P := by intro x_; (with_reducible repeat (first | apply Kd.R_alloc | apply Kd.R_drewN | apply Kd.R_drew)); exact x_) : P := h x
theorem spec_l5SpoilRules.y1 {P : Prop} (h : P := by have h_ : (t114 : Int) < ((y104.length : Int) : Int) := of_decide_eq_true (by first | (with_reducible assumption) | assumption); first | exact h_ | (have e_ := (Kd.R_reads' HO_5.out).1; omega) | simpa using h_) : P := h
theorem spec_l5SpoilRules.y2 {P : Prop} (h : P := by (try simp only [List.map_toArray, List.map_cons, List.map_nil]); first | done | rfl | (simp only [List.length_drop, List.length_take]; rfl)) : P := h
theorem spec_l5SpoilRules.y3 {P : Prop} (h : P := by first | (with_reducible assumption) | assumption) : P := h
theorem spec_l5SpoilRules.zA {p : Prop} (h : p) : Aside0 p := ⟨h⟩
set_option maxHeartbeats 8000000 in
set_option maxRecDepth 100000 in
theorem spec_l5SpoilRules.calls (k : Nat) (g : Nat) (s0_0 : List Int) (s0_1 : Int) (A1 : Option Addr) (c1 : Nat) (l1 : List (S54)) (r1 : List (S54)) (r2 : Int) (w0 w : World) (hI : IsS117 w0 w g s0_0 s0_1) (hB : Below w0.heap.size w0 w) (hr1 : ∀ W_, KeepBut w W_ g none → Kd.C k54 W_ A1 l1.length l1) (hc1 : l1.length ≤ c1) (h : spec_l5SpoilRules.f k s0_0 s0_1 l1 = some (r1, r2)) :
  Calls Try.prog 111 #[.pointer (some ⟨g, 0, none⟩), .slice A1 l1.length c1] w fun e w' => ∃ v0_ : Value, e = .returned (v0_) ∧ Kd.R k54 54 w' w.heap.size (fun _ => True) v0_ r1 ∧ IsS117 w0 w' g s0_0 r2 ∧ Below w0.heap.size w0 w' ∧ KeepBut w w' g none := by
 have hu54 := Try.underlying54
 have hu26 := Try.underlying26
 have HR1 := zA hr1
 have HC1 := zA hc1
 clear hr1 hc1
 have HI0 := zA hI
 have HK := zA (KeepBut.refl w g none)
 have HL := zA hB.size
 clear hI
 have HW0 := zA hB.size
 have HB := zA hB
 clear hB
 have H : ((some (([] : List (S54)) : List (S54))).bind fun y101 => (if y101.length + l1.length < 2932031007402 then ((some (y101 ++ l1 : List (S54))).bind fun y104 => (if (y104.length : Int) = 0 then (spec_l5SpoilRules.j0 k y104 true s0_0 s0_1) else ((spec_l1Rd_pick.f k s0_0 s0_1 4).bind fun bt107 => (spec_l5SpoilRules.j0 k y104 (bt107.1 == 0) s0_0 bt107.2)))) else (none))) = some (r1, r2) := h
 clear h
 obtain ⟨y101, hy101⟩ : ∃ y_ : List (S54), y_ = (([] : List (S54))) := ⟨_, rfl⟩
 replace H : (if y101.length + l1.length < 2932031007402 then ((some (y101 ++ l1 : List (S54))).bind fun y104 => (if (y104.length : Int) = 0 then (spec_l5SpoilRules.j0 k y104 true s0_0 s0_1) else ((spec_l1Rd_pick.f k s0_0 s0_1 4).bind fun bt107 => (spec_l5SpoilRules.j0 k y104 (bt107.1 == 0) s0_0 bt107.2)))) else (none)) = some (r1, r2) := by first | (rw [hy101]; with_reducible exact H) | (have H2_ := (Option.bind_some _ _).symm.trans H; rw [hy101]; with_reducible exact H2_) | (have H2_ := (Option.bind_some _ _).symm.trans H; with_reducible exact H2_) | with_reducible exact H | (rw [hy101]; exact H) | exact H
 have Ny101 := zA hy101
 clear hy101
 by_cases c3 : y101.length + l1.length < 2932031007402
 ·rw [if_pos c3] at H
  have LMc3 := zA c3
  clear c3
  obtain ⟨y104, hy104⟩ : ∃ y_ : List (S54), y_ = (y101 ++ l1) := ⟨_, rfl⟩
  replace H : (if (y104.length : Int) = 0 then (spec_l5SpoilRules.j0 k y104 true s0_0 s0_1) else ((spec_l1Rd_pick.f k s0_0 s0_1 4).bind fun bt107 => (spec_l5SpoilRules.j0 k y104 (bt107.1 == 0) s0_0 bt107.2))) = some (r1, r2) := by first | (rw [hy104]; with_reducible exact H) | (have H2_ := (Option.bind_some _ _).symm.trans H; rw [hy104]; with_reducible exact H2_) | (have H2_ := (Option.bind_some _ _).symm.trans H; with_reducible exact H2_) | with_reducible exact H | (rw [hy104]; exact H) | exact H
  have Ny104 := zA hy104
  clear hy104
  have HC4 := zA H
  clear H
  go_enter Try.func111, Try.ntmps111
  go_upto_region 2 with (first | ((with_reducible refine gate_dst (N := 8) rfl ?_); refine Kd.R_lit k54 _ 54 ?hg (N := 8) ?hd (xs := ([] : List (S54))) (inner := []) (ok := fun _ => True) (okp := fun _ => True) ?hr ?hp (fun _ hk => hk) trivial (Below.refl _ _) (Nat.le_refl _) (by simp) ?_; (case hd => rfl); (case hg => rfl); (case hr => first | (go_simp; done) | (go_simp; rfl)); (case hp => exact (Reps.none _ _)); intro v102 w5 ho6 hb hg_ hnew_; clear hg_ hnew_; (first | rw [← Ny101.out] at ho6 | (simp only [Int.reduceToNat] at ho6; rw [← Ny101.out] at ho6)); have n0_ := zA (Kd.R_lower ho6 (keep_size (w := w) (g := g) (row := none) (zHK))); have n1_ := zA (IsS117.below (zHI0) hb); have n2_ := zA (KeepBut.trans (zHK) (KeepBut.of_below hb g none) (.inl rfl)); have n3_ := zA (below_step (zHB) hb); clear HI0; clear HK; clear HB; have HO103 := n0_; have HI0 := n1_; have HK := n2_; have HB := n3_; clear n0_ n1_ n2_ n3_; clear hb ho6) | ((with_reducible refine gate_builtin (b := .append) (xs := #[.tmp 8, .tmp 9]) rfl ?_); at_builtin; refine Kd.R_append_rows k54 w.heap.size rfl (.tmp 8) (.tmp 9) 30 54 (.agg #[(.bool false), (.int .i64 0), (.int .i64 0), (.int .i64 0), (.int .i64 0), (.int .i64 0)]) 48 rfl Try.underlying30 info54 rfl (by decide) (by omega) v102 y101 l1 _ _ _ (fun _ => True) (fun _ => False) rfl rfl ?aO ?aR (fun _ _ h => h) (fun _ h => h.elim) ?aF (Below.refl _ _) ?aS ?aL ?_; (case aR => exact Kd.C_foot_now HR1.out (zHK)); (case aF => exact (fun _ _ => trivial)); (case aO => exact (zr HO103.out)); (case aS => exact (keep_size (w := w) (g := g) (row := none) (zHK))); (case aL => have := LMc3.out; omega); intro v105 w7 ho hb hg hat; rw [← Ny104.out] at ho; have n0_ := zA (IsS117.grown (zHI0) hg (IsS117.own_ne HI0.out HO103.out (by decide))); have n1_ := zA (below_weaken (zHB) HL.out hb); have n2_ := zA (KeepBut.trans (zHK) (KeepBut.of_grown hg g) (Kd.R_base2 HO103.out)); have n3_ := zA (ho); clear HI0; clear HB; clear HK; clear HO103; have HI0 := n0_; have HB := n1_; have HK := n2_; have HO106 := n3_; clear n0_ n1_ n2_ n3_; clear ho hb hg hat))
  (try simp only [Act.put, List.setIfInBounds_toArray, List.set_cons_zero, List.set_cons_succ])
  go_cut [18] (fun v18 wc => ∃ (kq : Nat) (x18_3 : Bool) (x1001_3 : Int), v18 = .bool x18_3 ∧ Aside0 (spec_l5SpoilRules.j0 kq y104 x18_3 s0_0 x1001_3 = some (r1, r2)) ∧ Aside0 (kq ≤ k) ∧ Aside0 (Kd.R k54 54 wc w.heap.size (fun _ => True) v105 y104) ∧ Aside0 (IsS117 w0 wc g s0_0 x1001_3) ∧ Aside0 (KeepBut w wc g none) ∧ Aside0 (Below w0.heap.size w0 wc))
  case first =>
   have H := HC4.out
   clear HC4
   by_cases c8 : (y104.length : Int) = 0
   ·rw [if_pos c8] at H
    have c8b0 : ((y104.length : Int) == 0) = true := beq_iff_eq.mpr c8
    have c8b1 : ((y104.length : Int) != 0) = false := bne_eq_false_iff_eq.mpr c8
    clear c8
    (first | rw [c8b0] | (simp only [i64_w, i32_w]; rw [c8b0]) | skip)
    have H' := zA H
    clear H
    obtain ⟨Ao9, co9, eo9⟩ := Kd.R_slice HO106.out
    subst eo9
    go_wp2
    go_meet
    case rel => exact ⟨_, (true), (s0_1), (by first | rfl | (simp; done) | (simp [*]; done)), H', ⟨by first | omega | exact Nat.le_refl _⟩, ⟨by refine zk ?_; exact HO106.out⟩, ⟨zHI0⟩, ⟨zHK⟩, ⟨zHB⟩⟩
   rw [if_neg c8] at H
   have c8b0 : ((y104.length : Int) == 0) = false := beq_eq_false_iff_ne.mpr c8
   have c8b1 : ((y104.length : Int) != 0) = true := bne_iff_ne.mpr c8
   have c8b2 : ¬ (y104 = []) := fun h_ => c8 (by rw [h_]; rfl)
   (first | rw [c8b0] | (simp only [i64_w, i32_w]; rw [c8b0]) | skip)
   replace H := Option.bind_eq_some_iff.mp H
   obtain ⟨⟨t107, t108⟩, A100, H⟩ := H
   replace H : (spec_l5SpoilRules.j0 k y104 (t107 == 0) s0_0 t108) = some (r1, r2) := H
   have A10 := zA A100
   clear A100
   have H' := zA H
   clear H
   obtain ⟨Ao11, co11, eo11⟩ := Kd.R_slice HO106.out
   subst eo11
   go_wp2_with (first | (go_at_call 81; (with_reducible refine (spec_l1Rd_pick.calls k g s0_0 s0_1 4 t107 t108 w0 _ ?side1 ?side2 A10.out).mono ?_); (case side1 => exact zHI0); (case side2 => exact zHB); rintro e w12 ⟨rfl, hi, hb, hk⟩; have n0_ := zA (Kd.R_mono (Kd.R_keep (IsS117.apart (show IsS117 w0 _ g s0_0 s0_1 from zHI0) (zr HO106.out) (by decide)) hk (fun _ h => h.2)) (fun _ h => h.1)); have n1_ := zA (KeepBut.trans (zHK) hk (.inl rfl)); have n2_ := zA (hb); have n3_ := zA (hi); clear HO106; clear HK; clear HB; clear HI0; have HO106 := n0_; have HK := n1_; have HB := n2_; have HI0 := n3_; clear n0_ n1_ n2_ n3_; (try clear hb); (try clear hb2); (try clear hk); (try clear hi)))
   go_meet
   case rel => exact ⟨_, ((t107 == 0)), (t108), (by first | rfl | (simp; done) | (simp [*]; done)), H', ⟨by first | omega | exact Nat.le_refl _⟩, ⟨by refine zk ?_; exact HO106.out⟩, ⟨zHI0⟩, ⟨zHK⟩, ⟨zHB⟩⟩
  case rest =>
   clear HC4
   try clear c1
   try clear p2
   try clear c3
   try clear c8
   try clear c8b0
   try clear c8b1
   try clear c8b2
   try clear c11
   obtain ⟨kq, x18_3, x1001_3, rfl, HA, HJ3, HO_5, HI0, HK, HB⟩ := hcut
   cases kq with
   | zero => exact absurd HA.out (by simp [spec_l5SpoilRules.j0])
   | succ kj3 => ?_
   have H := HA.out
   clear HA
   simp only [spec_l5SpoilRules.j0] at H
   by_cases c13 : x18_3 = true
   ·subst c13
    have H1 : ((spec_l1Rd_pick.f kj3 s0_0 x1001_3 2).bind fun bt109 => (spec_l5SpoilRules.l0 kj3 y104 (wrap64 (12 + bt109.1)) s0_0 bt109.2)) = some (r1, r2) := by rw [if_pos rfl] at H; exact H
    clear H
    have H := H1
    clear H1
    replace H := Option.bind_eq_some_iff.mp H
    obtain ⟨⟨t109, t110⟩, A140, H⟩ := H
    replace H : (spec_l5SpoilRules.l0 kj3 y104 (wrap64 (12 + t109)) s0_0 t110) = some (r1, r2) := H
    have A14 := zA A140
    clear A140
    have H' := zA H
    clear H
    go_wp2_with (first | ((with_reducible refine gate_callee (f := 81) rfl ?_); refine goesL_ (some 20) rfl rfl Try.func81 (by kernel_rfl) rfl #[.pointer (some ⟨g, 0, none⟩), .int .i64 2] rfl y2  ?_; (with_reducible refine (spec_l1Rd_pick.calls kj3 g s0_0 x1001_3 2 t109 t110 w0 _ ?side1 ?side2 A14.out).mono ?_); (case side1 => exact zHI0); (case side2 => exact zHB); rintro e w15 ⟨rfl, hi, hb, hk⟩; refine ⟨_, rfl, ?_⟩; have n0_ := zA (Kd.R_mono (Kd.R_keep (IsS117.apart (show IsS117 w0 _ g s0_0 x1001_3 from zHI0) (zr HO_5.out) (by decide)) hk (fun _ h => h.2)) (fun _ h => h.1)); have n1_ := zA (KeepBut.trans (zHK) hk (.inl rfl)); have n2_ := zA (hb); have n3_ := zA (hi); clear HO_5; clear HK; clear HB; clear HI0; have HO_5 := n0_; have HK := n1_; have HB := n2_; have HI0 := n3_; clear n0_ n1_ n2_ n3_; (try clear hb); (try clear hb2); (try clear hk); (try clear hi)))
    go_loopg [5] kj3 (fun kq v5 w' => ∃ (x5_2 : List (S54)), Aside0 (spec_l5SpoilRules.l0 kq x5_2 (wrap64 (12 + t109)) s0_0 t110 = some (r1, r2)) ∧ Aside0 (kq ≤ kj3) ∧ Aside0 (Kd.R k54 54 w' w.heap.size (fun _ => True) v5 x5_2) ∧ Aside0 (IsS117 w0 w' g s0_0 t110) ∧ Aside0 (KeepBut w w' g none) ∧ Aside0 (Below w0.heap.size w0 w'))
    case atStart => exact ⟨(y104), H', ⟨Nat.le_refl _⟩, ⟨by refine zk ?_; exact HO_5.out⟩, ⟨zHI0⟩, ⟨zHK⟩, ⟨zHB⟩⟩
    case round =>
     clear H'
     try clear c1
     try clear p2
     try clear c3
     try clear p6
     try clear c8
     try clear c8b0
     try clear c8b1
     try clear c8b2
     try clear c11
     try clear c13
     try clear p2
     obtain ⟨x5_2, HA, HK2, HO_5, HI0, HK, HB⟩ := hrel
     cases gk with
     | zero => exact absurd HA.out (by simp [spec_l5SpoilRules.l0])
     | succ k2 => ?_
     have H := HA.out
     clear HA
     simp only [spec_l5SpoilRules.l0] at H
     by_cases c16 : (x5_2.length : Int) < (wrap64 (12 + t109))
     ·rw [if_pos c16] at H
      have c16b0 : decide ((x5_2.length : Int) < (wrap64 (12 + t109))) = true := decide_eq_true c16
      clear c16
      by_cases c17 : x5_2.length < 2932031007402
      ·rw [if_pos c17] at H
       have LMc17 := zA c17
       clear c17
       obtain ⟨y111, hy111⟩ : ∃ y_ : List (S54), y_ = (x5_2 ++ [(⟨false, (⟨0, 0⟩ : S26), (⟨0, 0⟩ : S26), 1⟩ : S54)]) := ⟨_, rfl⟩
       replace H : (spec_l5SpoilRules.l0 k2 y111 (wrap64 (12 + t109)) s0_0 t110) = some (r1, r2) := by first | (rw [hy111]; with_reducible exact H) | (have H2_ := (Option.bind_some _ _).symm.trans H; rw [hy111]; with_reducible exact H2_) | (have H2_ := (Option.bind_some _ _).symm.trans H; with_reducible exact H2_) | with_reducible exact H | (rw [hy111]; exact H) | exact H
       have Ny111 := zA hy111
       clear hy111
       have H' := zA H
       clear H
       obtain ⟨Ao18, co18, eo18⟩ := Kd.R_slice HO_5.out
       subst eo18
       go_wp2_with (first | ((with_reducible refine gate_builtin (b := .append) (xs := #[.tmp 26, .tmp 28]) rfl ?_); at_builtin; refine Kd.R_append k54 w.heap.size rfl (.tmp 26) (.tmp 28) 30 54 (.agg #[(.bool false), (.int .i64 0), (.int .i64 0), (.int .i64 0), (.int .i64 0), (.int .i64 0)]) 48 rfl Try.underlying30 info54 rfl (by decide) (by omega) (.slice Ao18 x5_2.length co18) x5_2 (⟨false, (⟨0, 0⟩ : S26), (⟨0, 0⟩ : S26), 1⟩ : S54) [.bool false, .int .i64 0, .int .i64 0, .int .i64 0, .int .i64 0, .int .i64 1] (fun _ => True) (fun _ => False) rfl rfl ?aP (fun _ hk => hk.elim) ?aF ?aO (Below.refl _ _) ?aS ?aL ?_; (case aP => exact k54_mkM _ _ _ (⟨false, (⟨0, 0⟩ : S26), (⟨0, 0⟩ : S26), 1⟩ : S54)); (case aF => exact (fun _ _ => trivial)); (case aO => exact (zr HO_5.out)); (case aS => exact (keep_size (w := w) (g := g) (row := none) (zHK))); (case aL => have := LMc17.out; omega); intro v112 w19 ho hb hg hat; rw [← Ny111.out] at ho; have n0_ := zA (IsS117.grown (zHI0) hg (IsS117.own_ne HI0.out HO_5.out (by decide))); have n1_ := zA (below_weaken (zHB) HL.out hb); have n2_ := zA (KeepBut.trans (zHK) (KeepBut.of_grown hg g) (Kd.R_base2 HO_5.out)); have n3_ := zA (ho); clear HI0; clear HB; clear HK; clear HO_5; have HI0 := n0_; have HB := n1_; have HK := n2_; have HO113 := n3_; clear n0_ n1_ n2_ n3_; clear ho hb hg hat))
       go_roundg k2
       case measure => have := HJ3.out; have := HK2.out; omega
       case rel => exact ⟨(y111), H', ⟨by have := HJ3.out; have := HK2.out; omega⟩, ⟨by refine zk ?_; exact HO113.out⟩, ⟨zHI0⟩, ⟨zHK⟩, ⟨zHB⟩⟩
      rw [if_neg c17] at H
      exact absurd H (by simp)
     rw [if_neg c16] at H
     have c16b0 : decide ((x5_2.length : Int) < (wrap64 (12 + t109))) = false := decide_eq_false c16
     clear c16
     simp only [Option.some.injEq, Prod.mk.injEq] at H
     obtain ⟨rfl, rfl⟩ := H
     obtain ⟨Ao20, co20, eo20⟩ := Kd.R_slice HO_5.out
     subst eo20
     go_wp2
     go_ret
     exact ⟨_, by first | rfl | (simp [errW_none, errW_some] <;> rfl) | (simp [*, errW_none, errW_some] <;> rfl), by refine zk ?_; exact HO_5.out, zHI0, zHB, zHK⟩
   replace c13 := Bool.eq_false_iff.mpr c13
   subst c13
   have H1 : ((spec_l1Rd_pick.f kj3 s0_0 x1001_3 (y104.length : Int)).bind fun bt114 => ((spec_l1Rd_pick.f kj3 s0_0 bt114.2 3).bind fun bt116 => (if bt116.1 = 0 then (if 0 ≤ bt114.1 then (if bt114.1 < (y104.length : Int) then ((spec_l5Spoil.f kj3 s0_0 bt116.2 ((rd_T54 y104 bt114.1).f1.f0) ((rd_T54 y104 bt114.1).f1.f1)).bind fun bt119 => (some ((y104.set (bt114.1 : Int).toNat (⟨(rd_T54 y104 bt114.1).f0, (⟨bt119.1, bt119.2.1⟩ : S26), (⟨(rd_T54 y104 bt114.1).f2.f0, (rd_T54 y104 bt114.1).f2.f1⟩ : S26), (rd_T54 y104 bt114.1).f3⟩ : S54)), bt119.2.2))) else (none)) else (none)) else (if bt116.1 = 1 then (if 0 ≤ bt114.1 then (if bt114.1 < (y104.length : Int) then ((spec_l5Spoil.f kj3 s0_0 bt116.2 ((rd_T54 y104 bt114.1).f2.f0) ((rd_T54 y104 bt114.1).f2.f1)).bind fun bt124 => (some ((y104.set (bt114.1 : Int).toNat (⟨(rd_T54 y104 bt114.1).f0, (⟨(rd_T54 y104 bt114.1).f1.f0, (rd_T54 y104 bt114.1).f1.f1⟩ : S26), (⟨bt124.1, bt124.2.1⟩ : S26), (rd_T54 y104 bt114.1).f3⟩ : S54)), bt124.2.2))) else (none)) else (none)) else ((some (([(-1), 7, 8] : List Int) : List Int)).bind fun y128 => ((spec_l1Rd_pick.f kj3 s0_0 bt116.2 3).bind fun bt131 => (if 0 ≤ bt131.1 then (if bt131.1 < (y128.length : Int) then (if 0 ≤ bt114.1 then (if bt114.1 < (y104.length : Int) then (some ((y104.set (bt114.1 : Int).toNat (⟨(rd_T54 y104 bt114.1).f0, (⟨(rd_T54 y104 bt114.1).f1.f0, (rd_T54 y104 bt114.1).f1.f1⟩ : S26), (⟨(rd_T54 y104 bt114.1).f2.f0, (rd_T54 y104 bt114.1).f2.f1⟩ : S26), rd y128 bt131.1⟩ : S54)), bt131.2)) else (none)) else (none)) else (none)) else (none)))))))) = some (r1, r2) := by rw [if_neg (show ¬ (false = true) by decide)] at H; exact H
   clear H
   have H := H1
   clear H1
   replace H := Option.bind_eq_some_iff.mp H
   obtain ⟨⟨t114, t115⟩, A210, H⟩ := H
   replace H : ((spec_l1Rd_pick.f kj3 s0_0 t115 3).bind fun bt116 => (if bt116.1 = 0 then (if 0 ≤ t114 then (if t114 < (y104.length : Int) then ((spec_l5Spoil.f kj3 s0_0 bt116.2 ((rd_T54 y104 t114).f1.f0) ((rd_T54 y104 t114).f1.f1)).bind fun bt119 => (some ((y104.set (t114 : Int).toNat (⟨(rd_T54 y104 t114).f0, (⟨bt119.1, bt119.2.1⟩ : S26), (⟨(rd_T54 y104 t114).f2.f0, (rd_T54 y104 t114).f2.f1⟩ : S26), (rd_T54 y104 t114).f3⟩ : S54)), bt119.2.2))) else (none)) else (none)) else (if bt116.1 = 1 then (if 0 ≤ t114 then (if t114 < (y104.length : Int) then ((spec_l5Spoil.f kj3 s0_0 bt116.2 ((rd_T54 y104 t114).f2.f0) ((rd_T54 y104 t114).f2.f1)).bind fun bt124 => (some ((y104.set (t114 : Int).toNat (⟨(rd_T54 y104 t114).f0, (⟨(rd_T54 y104 t114).f1.f0, (rd_T54 y104 t114).f1.f1⟩ : S26), (⟨bt124.1, bt124.2.1⟩ : S26), (rd_T54 y104 t114).f3⟩ : S54)), bt124.2.2))) else (none)) else (none)) else ((some (([(-1), 7, 8] : List Int) : List Int)).bind fun y128 => ((spec_l1Rd_pick.f kj3 s0_0 bt116.2 3).bind fun bt131 => (if 0 ≤ bt131.1 then (if bt131.1 < (y128.length : Int) then (if 0 ≤ t114 then (if t114 < (y104.length : Int) then (some ((y104.set (t114 : Int).toNat (⟨(rd_T54 y104 t114).f0, (⟨(rd_T54 y104 t114).f1.f0, (rd_T54 y104 t114).f1.f1⟩ : S26), (⟨(rd_T54 y104 t114).f2.f0, (rd_T54 y104 t114).f2.f1⟩ : S26), rd y128 bt131.1⟩ : S54)), bt131.2)) else (none)) else (none)) else (none)) else (none))))))) = some (r1, r2) := H
   have A21 := zA A210
   clear A210
   replace H := Option.bind_eq_some_iff.mp H
   obtain ⟨⟨t116, t117⟩, A220, H⟩ := H
   replace H : (if t116 = 0 then (if 0 ≤ t114 then (if t114 < (y104.length : Int) then ((spec_l5Spoil.f kj3 s0_0 t117 ((rd_T54 y104 t114).f1.f0) ((rd_T54 y104 t114).f1.f1)).bind fun bt119 => (some ((y104.set (t114 : Int).toNat (⟨(rd_T54 y104 t114).f0, (⟨bt119.1, bt119.2.1⟩ : S26), (⟨(rd_T54 y104 t114).f2.f0, (rd_T54 y104 t114).f2.f1⟩ : S26), (rd_T54 y104 t114).f3⟩ : S54)), bt119.2.2))) else (none)) else (none)) else (if t116 = 1 then (if 0 ≤ t114 then (if t114 < (y104.length : Int) then ((spec_l5Spoil.f kj3 s0_0 t117 ((rd_T54 y104 t114).f2.f0) ((rd_T54 y104 t114).f2.f1)).bind fun bt124 => (some ((y104.set (t114 : Int).toNat (⟨(rd_T54 y104 t114).f0, (⟨(rd_T54 y104 t114).f1.f0, (rd_T54 y104 t114).f1.f1⟩ : S26), (⟨bt124.1, bt124.2.1⟩ : S26), (rd_T54 y104 t114).f3⟩ : S54)), bt124.2.2))) else (none)) else (none)) else ((some (([(-1), 7, 8] : List Int) : List Int)).bind fun y128 => ((spec_l1Rd_pick.f kj3 s0_0 t117 3).bind fun bt131 => (if 0 ≤ bt131.1 then (if bt131.1 < (y128.length : Int) then (if 0 ≤ t114 then (if t114 < (y104.length : Int) then (some ((y104.set (t114 : Int).toNat (⟨(rd_T54 y104 t114).f0, (⟨(rd_T54 y104 t114).f1.f0, (rd_T54 y104 t114).f1.f1⟩ : S26), (⟨(rd_T54 y104 t114).f2.f0, (rd_T54 y104 t114).f2.f1⟩ : S26), rd y128 bt131.1⟩ : S54)), bt131.2)) else (none)) else (none)) else (none)) else (none)))))) = some (r1, r2) := H
   have A22 := zA A220
   clear A220
   by_cases c23 : t116 = 0
   ·rw [if_pos c23] at H
    have c23b0 : (t116 == 0) = true := beq_iff_eq.mpr c23
    have c23b1 : (t116 != 0) = false := bne_eq_false_iff_eq.mpr c23
    clear c23
    by_cases c24 : 0 ≤ t114
    ·rw [if_pos c24] at H
     have c24b0 : decide (0 ≤ t114) = true := decide_eq_true c24
     clear c24
     by_cases c25 : t114 < (y104.length : Int)
     ·rw [if_pos c25] at H
      have c25b0 : decide (t114 < (y104.length : Int)) = true := decide_eq_true c25
      clear c25
      replace H := Option.bind_eq_some_iff.mp H
      obtain ⟨⟨t119, t120, t121⟩, A260, H⟩ := H
      replace H : (some ((y104.set (t114 : Int).toNat (⟨(rd_T54 y104 t114).f0, (⟨t119, t120⟩ : S26), (⟨(rd_T54 y104 t114).f2.f0, (rd_T54 y104 t114).f2.f1⟩ : S26), (rd_T54 y104 t114).f3⟩ : S54)), t121)) = some (r1, r2) := H
      have A26 := zA A260
      clear A260
      obtain ⟨y122, hy122⟩ : ∃ y_ : List (S54), y_ = (y104.set (t114 : Int).toNat (⟨(rd_T54 y104 t114).f0, (⟨t119, t120⟩ : S26), (⟨(rd_T54 y104 t114).f2.f0, (rd_T54 y104 t114).f2.f1⟩ : S26), (rd_T54 y104 t114).f3⟩ : S54)) := ⟨_, rfl⟩
      replace H : (some (y122, t121)) = some (r1, r2) := by first | (rw [hy122]; with_reducible exact H) | (have H2_ := (Option.bind_some _ _).symm.trans H; rw [hy122]; with_reducible exact H2_) | (have H2_ := (Option.bind_some _ _).symm.trans H; with_reducible exact H2_) | with_reducible exact H | (rw [hy122]; exact H) | exact H
      have Ny122 := zA hy122
      clear hy122
      simp only [Option.some.injEq, Prod.mk.injEq] at H
      obtain ⟨rfl, rfl⟩ := H
      obtain ⟨Ao28, co28, eo28⟩ := Kd.R_slice HO_5.out
      subst eo28
      go_wp2_with (first | ((with_reducible refine gate_callee (f := 81) rfl ?_); refine goesL_ (some 34) rfl rfl Try.func81 (by kernel_rfl) rfl #[.pointer (some ⟨g, 0, none⟩), .int .i64 (y104.length : Int)] rfl y2  ?_; (with_reducible refine (spec_l1Rd_pick.calls kj3 g s0_0 x1001_3 (y104.length : Int) t114 t115 w0 _ ?side1 ?side2 A21.out).mono ?_); (case side1 => exact zHI0); (case side2 => exact zHB); rintro e w29 ⟨rfl, hi, hb, hk⟩; refine ⟨_, rfl, ?_⟩; have n0_ := zA (Kd.R_mono (Kd.R_keep (IsS117.apart (show IsS117 w0 _ g s0_0 x1001_3 from zHI0) (zr HO_5.out) (by decide)) hk (fun _ h => h.2)) (fun _ h => h.1)); have n1_ := zA (KeepBut.trans (zHK) hk (.inl rfl)); have n2_ := zA (hb); have n3_ := zA (hi); clear HO_5; clear HK; clear HB; clear HI0; have HO_5 := n0_; have HK := n1_; have HB := n2_; have HI0 := n3_; clear n0_ n1_ n2_ n3_; (try clear hb); (try clear hb2); (try clear hk); (try clear hi)) | ((with_reducible refine gate_callee (f := 81) rfl ?_); refine goesL_ (some 36) rfl rfl Try.func81 (by kernel_rfl) rfl #[.pointer (some ⟨g, 0, none⟩), .int .i64 3] rfl y2  ?_; (with_reducible refine (spec_l1Rd_pick.calls kj3 g s0_0 t115 3 t116 t117 w0 _ ?side1 ?side2 A22.out).mono ?_); (case side1 => exact zHI0); (case side2 => exact zHB); rintro e w30 ⟨rfl, hi, hb, hk⟩; refine ⟨_, rfl, ?_⟩; have n0_ := zA (Kd.R_mono (Kd.R_keep (IsS117.apart (show IsS117 w0 _ g s0_0 t115 from zHI0) (zr HO_5.out) (by decide)) hk (fun _ h => h.2)) (fun _ h => h.1)); have n1_ := zA (KeepBut.trans (zHK) hk (.inl rfl)); have n2_ := zA (hb); have n3_ := zA (hi); clear HO_5; clear HK; clear HB; clear HI0; have HO_5 := n0_; have HK := n1_; have HB := n2_; have HI0 := n3_; clear n0_ n1_ n2_ n3_; (try clear hb); (try clear hb2); (try clear hk); (try clear hi); have p118 : 0 ≤ (t114 : Int) := of_decide_eq_true y3 ; have q118 : t114 < (y104.length : Int) := of_decide_eq_true y3 ; obtain ⟨ad118, e118, hx118_0, hx118_1, hx118_2, hx118_3, hx118_4, hx118_5⟩ := at_T54 (Kd.R_reads' HO_5.out).2.2 t114 p118 q118; cases e118; replace p118 := eq_true p118; replace q118 := eq_true q118) | ((with_reducible refine gate_callee (f := 122) rfl ?_); refine goesL_ (some 56) rfl rfl Try.func122 (by kernel_rfl) rfl #[.pointer (some ⟨g, 0, none⟩), .agg #[.int .i64 ((rd_T54 y104 t114).f1.f0), .int .i64 ((rd_T54 y104 t114).f1.f1)]] rfl y2  ?_; (with_reducible refine (spec_l5Spoil.calls kj3 g s0_0 t117 ((rd_T54 y104 t114).f1.f0) ((rd_T54 y104 t114).f1.f1) t119 t120 t121 w0 _ ?side1 ?side2 A26.out).mono ?_); (case side1 => exact zHI0); (case side2 => exact zHB); rintro e w31 ⟨rfl, hi, hb, hk⟩; refine ⟨_, rfl, ?_⟩; have n0_ := zA (Kd.R_mono (Kd.R_keep (IsS117.apart (show IsS117 w0 _ g s0_0 t117 from zHI0) (zr HO_5.out) (by decide)) hk (fun _ h => h.2)) (fun _ h => h.1)); have n1_ := zA (KeepBut.trans (zHK) hk (.inl rfl)); have n2_ := zA (hb); have n3_ := zA (hi); clear HO_5; clear HK; clear HB; clear HI0; have HO_5 := n0_; have HK := n1_; have HB := n2_; have HI0 := n3_; clear n0_ n1_ n2_ n3_; (try clear hb); (try clear hb2); (try clear hk); (try clear hi); have p27 : 0 ≤ (t114 : Int) := of_decide_eq_true y3 ; have q27 : (t114 : Int) < ((y104.length : Int) : Int) := of_decide_eq_true y3 ; obtain ⟨go27, co27, eo27, gb27, gl27, cl27, HG27⟩ := Kd.R_form HO_5.out (by omega); (first | cases eo27 | (injection eo27 with ea_ en_ ec_; (first | subst ea_ | (injection ea_ with ea_; subst ea_)); subst ec_; clear en_)); have GB27 := zA gb27; have GG27 := zA HG27; clear gb27 gl27 HG27; (first | simp only [add_plain] at hx118_0 | skip); (first | simp only [add_plain] at hx118_1 | skip); (first | simp only [add_plain] at hx118_2 | skip); (first | simp only [add_plain] at hx118_3 | skip); (first | simp only [add_plain] at hx118_4 | skip); (first | simp only [add_plain] at hx118_5 | skip); obtain ⟨ce27, hcl27, hM27, hcc27, hfr27⟩ := Kd.R_elem HO_5.out z54 (t114 : Int) p27 q27; obtain rfl := k54_openM hM27; have hx27_0 : w31.cell? ⟨go27, (t114 : Int).toNat * 6, none⟩ = some (.bool ((rd_T54 y104 t114).f0)) := hcc27 0 _ rfl; have hx27_1 : w31.cell? ⟨go27, (t114 : Int).toNat * 6 + 1, none⟩ = some (.int .i64 ((rd_T54 y104 t114).f1.f0)) := hcc27 1 _ rfl; have hx27_2 : w31.cell? ⟨go27, (t114 : Int).toNat * 6 + 2, none⟩ = some (.int .i64 ((rd_T54 y104 t114).f1.f1)) := hcc27 2 _ rfl; have hx27_3 : w31.cell? ⟨go27, (t114 : Int).toNat * 6 + 3, none⟩ = some (.int .i64 ((rd_T54 y104 t114).f2.f0)) := hcc27 3 _ rfl; have hx27_4 : w31.cell? ⟨go27, (t114 : Int).toNat * 6 + 4, none⟩ = some (.int .i64 ((rd_T54 y104 t114).f2.f1)) := hcc27 4 _ rfl; have hx27_5 : w31.cell? ⟨go27, (t114 : Int).toNat * 6 + 5, none⟩ = some (.int .i64 ((rd_T54 y104 t114).f3)) := hcc27 5 _ rfl; have hf27_0 : w31.frozen? ⟨go27, (t114 : Int).toNat * 6, none⟩ = false := hfr27 0; have hf27_1 : w31.frozen? ⟨go27, (t114 : Int).toNat * 6 + 1, none⟩ = false := hfr27 1; have hf27_2 : w31.frozen? ⟨go27, (t114 : Int).toNat * 6 + 2, none⟩ = false := hfr27 2; have hf27_3 : w31.frozen? ⟨go27, (t114 : Int).toNat * 6 + 3, none⟩ = false := hfr27 3; have hf27_4 : w31.frozen? ⟨go27, (t114 : Int).toNat * 6 + 4, none⟩ = false := hfr27 4; have hf27_5 : w31.frozen? ⟨go27, (t114 : Int).toNat * 6 + 5, none⟩ = false := hfr27 5; clear hcl27 hcc27 hfr27 hM27; replace p27 := eq_true p27; replace q27 := eq_true q27; have HX32 := zA (show Kd.R k54 54 w31 w.heap.size (fun _ => True) (.slice (some ⟨go27, 0, none⟩) y104.length co28) y104 from (zr HO_5.out)); obtain ⟨ce32, hcl32, hM32, hcc32, hfr32⟩ := Kd.R_elem HX32.out z54 (t114 : Int) (of_decide_eq_true y3 ) y1 ; obtain rfl := k54_openM hM32; have HP32 := Kd.R_seg HX32.out (t114 : Int) (of_decide_eq_true y3 ) y1  (seg := [.int .i64 t119, .int .i64 t120]) (j := 1) hcl32 hcc32 (show 3 ≤ 6 from by decide) (x' := (⟨(rd_T54 y104 t114).f0, (⟨t119, t120⟩ : S26), (⟨(rd_T54 y104 t114).f2.f0, (rd_T54 y104 t114).f2.f1⟩ : S26), (rd_T54 y104 t114).f3⟩ : S54)) (k54_mkM _ _ _ (⟨(rd_T54 y104 t114).f0, (⟨t119, t120⟩ : S26), (⟨(rd_T54 y104 t114).f2.f0, (rd_T54 y104 t114).f2.f1⟩ : S26), (rd_T54 y104 t114).f3⟩ : S54) ) (fun _ hk => hk); have hx32_1 := hcc32 1 _ rfl; (try simp only [show (k54).sz = 6 from rfl, Nat.mul_one, Nat.add_zero] at hx32_1); have hf32_1 := hfr32 1; (try simp only [show (k54).sz = 6 from rfl, Nat.mul_one, Nat.add_zero] at hf32_1); have hx32_2 := hcc32 2 _ rfl; (try simp only [show (k54).sz = 6 from rfl, Nat.mul_one, Nat.add_zero] at hx32_2); have hf32_2 := hfr32 2; (try simp only [show (k54).sz = 6 from rfl, Nat.mul_one, Nat.add_zero] at hf32_2); clear hcl32 hcc32 hfr32 hM32) | ((with_reducible refine gate_store (t := 26) (p := 58) rfl ?_); refine store_event (t := 26) (p := 58) (v := ?vo_w33) (w1 := ((w31.setCell ⟨go27, (t114 : Int).toNat * 6 + 1, none⟩ (.int .i64 t119)).setCell ⟨go27, (t114 : Int).toNat * 6 + 2, none⟩ (.int .i64 t120))) ?hg ?ho ?hn ?hr ?_; (case ho => rfl); (case hg => rfl); (case hn => rfl); (case hr => first | (go_simp; done) | (go_simp; rfl)); intro w33 hw; have hg : w31.grownBy w33 (some go27) := (by rw [hw]; exact HP32.2); have hp_ : Kd.R k54 54 w33 w.heap.size (fun _ => True) (.slice (some ⟨go27, 0, none⟩) y104.length co28) y122 := (by rw [hw, Ny122.out]; exact HP32.1); clear HP32; have n0_ := zA (hp_); have n1_ := zA (IsS117.grown (zHI0) hg (IsS117.own_ne HI0.out HO_5.out (by decide))); have n2_ := zA ((by rw [hw]; exact below_set (below_set (HB.out) (Nat.le_trans HL.out GB27.out)) (Nat.le_trans HL.out GB27.out) : Below w0.heap.size w0 w33)); have n3_ := zA (KeepBut.trans (zHK) (KeepBut.of_grown hg g) (Kd.R_base2 HO_5.out)); clear HO_5; clear HI0; clear HB; clear HK; have HO_5 := n0_; have HI0 := n1_; have HB := n2_; have HK := n3_; clear n0_ n1_ n2_ n3_; clear hg hw hp_))
      go_ret
      exact ⟨_, by first | rfl | (simp [errW_none, errW_some] <;> rfl) | (simp [*, errW_none, errW_some] <;> rfl), by refine zk ?_; exact HO_5.out, zHI0, zHB, zHK⟩
     rw [if_neg c25] at H
     exact absurd H (by simp)
    rw [if_neg c24] at H
    exact absurd H (by simp)
   rw [if_neg c23] at H
   have c23b0 : (t116 == 0) = false := beq_eq_false_iff_ne.mpr c23
   have c23b1 : (t116 != 0) = true := bne_iff_ne.mpr c23
   by_cases c34 : t116 = 1
   ·rw [if_pos c34] at H
    have c34b0 : (t116 == 1) = true := beq_iff_eq.mpr c34
    have c34b1 : (t116 != 1) = false := bne_eq_false_iff_eq.mpr c34
    clear c34
    by_cases c35 : 0 ≤ t114
    ·rw [if_pos c35] at H
     have c35b0 : decide (0 ≤ t114) = true := decide_eq_true c35
     clear c35
     by_cases c36 : t114 < (y104.length : Int)
     ·rw [if_pos c36] at H
      have c36b0 : decide (t114 < (y104.length : Int)) = true := decide_eq_true c36
      clear c36
      replace H := Option.bind_eq_some_iff.mp H
      obtain ⟨⟨t124, t125, t126⟩, A370, H⟩ := H
      replace H : (some ((y104.set (t114 : Int).toNat (⟨(rd_T54 y104 t114).f0, (⟨(rd_T54 y104 t114).f1.f0, (rd_T54 y104 t114).f1.f1⟩ : S26), (⟨t124, t125⟩ : S26), (rd_T54 y104 t114).f3⟩ : S54)), t126)) = some (r1, r2) := H
      have A37 := zA A370
      clear A370
      obtain ⟨y127, hy127⟩ : ∃ y_ : List (S54), y_ = (y104.set (t114 : Int).toNat (⟨(rd_T54 y104 t114).f0, (⟨(rd_T54 y104 t114).f1.f0, (rd_T54 y104 t114).f1.f1⟩ : S26), (⟨t124, t125⟩ : S26), (rd_T54 y104 t114).f3⟩ : S54)) := ⟨_, rfl⟩
      replace H : (some (y127, t126)) = some (r1, r2) := by first | (rw [hy127]; with_reducible exact H) | (have H2_ := (Option.bind_some _ _).symm.trans H; rw [hy127]; with_reducible exact H2_) | (have H2_ := (Option.bind_some _ _).symm.trans H; with_reducible exact H2_) | with_reducible exact H | (rw [hy127]; exact H) | exact H
      have Ny127 := zA hy127
      clear hy127
      simp only [Option.some.injEq, Prod.mk.injEq] at H
      obtain ⟨rfl, rfl⟩ := H
      obtain ⟨Ao39, co39, eo39⟩ := Kd.R_slice HO_5.out
      subst eo39
      go_wp2_with (first | ((with_reducible refine gate_callee (f := 81) rfl ?_); refine goesL_ (some 34) rfl rfl Try.func81 (by kernel_rfl) rfl #[.pointer (some ⟨g, 0, none⟩), .int .i64 (y104.length : Int)] rfl y2  ?_; (with_reducible refine (spec_l1Rd_pick.calls kj3 g s0_0 x1001_3 (y104.length : Int) t114 t115 w0 _ ?side1 ?side2 A21.out).mono ?_); (case side1 => exact zHI0); (case side2 => exact zHB); rintro e w40 ⟨rfl, hi, hb, hk⟩; refine ⟨_, rfl, ?_⟩; have n0_ := zA (Kd.R_mono (Kd.R_keep (IsS117.apart (show IsS117 w0 _ g s0_0 x1001_3 from zHI0) (zr HO_5.out) (by decide)) hk (fun _ h => h.2)) (fun _ h => h.1)); have n1_ := zA (KeepBut.trans (zHK) hk (.inl rfl)); have n2_ := zA (hb); have n3_ := zA (hi); clear HO_5; clear HK; clear HB; clear HI0; have HO_5 := n0_; have HK := n1_; have HB := n2_; have HI0 := n3_; clear n0_ n1_ n2_ n3_; (try clear hb); (try clear hb2); (try clear hk); (try clear hi)) | ((with_reducible refine gate_callee (f := 81) rfl ?_); refine goesL_ (some 36) rfl rfl Try.func81 (by kernel_rfl) rfl #[.pointer (some ⟨g, 0, none⟩), .int .i64 3] rfl y2  ?_; (with_reducible refine (spec_l1Rd_pick.calls kj3 g s0_0 t115 3 t116 t117 w0 _ ?side1 ?side2 A22.out).mono ?_); (case side1 => exact zHI0); (case side2 => exact zHB); rintro e w41 ⟨rfl, hi, hb, hk⟩; refine ⟨_, rfl, ?_⟩; have n0_ := zA (Kd.R_mono (Kd.R_keep (IsS117.apart (show IsS117 w0 _ g s0_0 t115 from zHI0) (zr HO_5.out) (by decide)) hk (fun _ h => h.2)) (fun _ h => h.1)); have n1_ := zA (KeepBut.trans (zHK) hk (.inl rfl)); have n2_ := zA (hb); have n3_ := zA (hi); clear HO_5; clear HK; clear HB; clear HI0; have HO_5 := n0_; have HK := n1_; have HB := n2_; have HI0 := n3_; clear n0_ n1_ n2_ n3_; (try clear hb); (try clear hb2); (try clear hk); (try clear hi); have p123 : 0 ≤ (t114 : Int) := of_decide_eq_true y3 ; have q123 : t114 < (y104.length : Int) := of_decide_eq_true y3 ; obtain ⟨ad123, e123, hx123_0, hx123_1, hx123_2, hx123_3, hx123_4, hx123_5⟩ := at_T54 (Kd.R_reads' HO_5.out).2.2 t114 p123 q123; cases e123; replace p123 := eq_true p123; replace q123 := eq_true q123) | ((with_reducible refine gate_callee (f := 122) rfl ?_); refine goesL_ (some 69) rfl rfl Try.func122 (by kernel_rfl) rfl #[.pointer (some ⟨g, 0, none⟩), .agg #[.int .i64 ((rd_T54 y104 t114).f2.f0), .int .i64 ((rd_T54 y104 t114).f2.f1)]] rfl y2  ?_; (with_reducible refine (spec_l5Spoil.calls kj3 g s0_0 t117 ((rd_T54 y104 t114).f2.f0) ((rd_T54 y104 t114).f2.f1) t124 t125 t126 w0 _ ?side1 ?side2 A37.out).mono ?_); (case side1 => exact zHI0); (case side2 => exact zHB); rintro e w42 ⟨rfl, hi, hb, hk⟩; refine ⟨_, rfl, ?_⟩; have n0_ := zA (Kd.R_mono (Kd.R_keep (IsS117.apart (show IsS117 w0 _ g s0_0 t117 from zHI0) (zr HO_5.out) (by decide)) hk (fun _ h => h.2)) (fun _ h => h.1)); have n1_ := zA (KeepBut.trans (zHK) hk (.inl rfl)); have n2_ := zA (hb); have n3_ := zA (hi); clear HO_5; clear HK; clear HB; clear HI0; have HO_5 := n0_; have HK := n1_; have HB := n2_; have HI0 := n3_; clear n0_ n1_ n2_ n3_; (try clear hb); (try clear hb2); (try clear hk); (try clear hi); have p38 : 0 ≤ (t114 : Int) := of_decide_eq_true y3 ; have q38 : (t114 : Int) < ((y104.length : Int) : Int) := of_decide_eq_true y3 ; obtain ⟨go38, co38, eo38, gb38, gl38, cl38, HG38⟩ := Kd.R_form HO_5.out (by omega); (first | cases eo38 | (injection eo38 with ea_ en_ ec_; (first | subst ea_ | (injection ea_ with ea_; subst ea_)); subst ec_; clear en_)); have GB38 := zA gb38; have GG38 := zA HG38; clear gb38 gl38 HG38; (first | simp only [add_plain] at hx123_0 | skip); (first | simp only [add_plain] at hx123_1 | skip); (first | simp only [add_plain] at hx123_2 | skip); (first | simp only [add_plain] at hx123_3 | skip); (first | simp only [add_plain] at hx123_4 | skip); (first | simp only [add_plain] at hx123_5 | skip); obtain ⟨ce38, hcl38, hM38, hcc38, hfr38⟩ := Kd.R_elem HO_5.out z54 (t114 : Int) p38 q38; obtain rfl := k54_openM hM38; have hx38_0 : w42.cell? ⟨go38, (t114 : Int).toNat * 6, none⟩ = some (.bool ((rd_T54 y104 t114).f0)) := hcc38 0 _ rfl; have hx38_1 : w42.cell? ⟨go38, (t114 : Int).toNat * 6 + 1, none⟩ = some (.int .i64 ((rd_T54 y104 t114).f1.f0)) := hcc38 1 _ rfl; have hx38_2 : w42.cell? ⟨go38, (t114 : Int).toNat * 6 + 2, none⟩ = some (.int .i64 ((rd_T54 y104 t114).f1.f1)) := hcc38 2 _ rfl; have hx38_3 : w42.cell? ⟨go38, (t114 : Int).toNat * 6 + 3, none⟩ = some (.int .i64 ((rd_T54 y104 t114).f2.f0)) := hcc38 3 _ rfl; have hx38_4 : w42.cell? ⟨go38, (t114 : Int).toNat * 6 + 4, none⟩ = some (.int .i64 ((rd_T54 y104 t114).f2.f1)) := hcc38 4 _ rfl; have hx38_5 : w42.cell? ⟨go38, (t114 : Int).toNat * 6 + 5, none⟩ = some (.int .i64 ((rd_T54 y104 t114).f3)) := hcc38 5 _ rfl; have hf38_0 : w42.frozen? ⟨go38, (t114 : Int).toNat * 6, none⟩ = false := hfr38 0; have hf38_1 : w42.frozen? ⟨go38, (t114 : Int).toNat * 6 + 1, none⟩ = false := hfr38 1; have hf38_2 : w42.frozen? ⟨go38, (t114 : Int).toNat * 6 + 2, none⟩ = false := hfr38 2; have hf38_3 : w42.frozen? ⟨go38, (t114 : Int).toNat * 6 + 3, none⟩ = false := hfr38 3; have hf38_4 : w42.frozen? ⟨go38, (t114 : Int).toNat * 6 + 4, none⟩ = false := hfr38 4; have hf38_5 : w42.frozen? ⟨go38, (t114 : Int).toNat * 6 + 5, none⟩ = false := hfr38 5; clear hcl38 hcc38 hfr38 hM38; replace p38 := eq_true p38; replace q38 := eq_true q38; have HX43 := zA (show Kd.R k54 54 w42 w.heap.size (fun _ => True) (.slice (some ⟨go38, 0, none⟩) y104.length co39) y104 from (zr HO_5.out)); obtain ⟨ce43, hcl43, hM43, hcc43, hfr43⟩ := Kd.R_elem HX43.out z54 (t114 : Int) (of_decide_eq_true y3 ) y1 ; obtain rfl := k54_openM hM43; have HP43 := Kd.R_seg HX43.out (t114 : Int) (of_decide_eq_true y3 ) y1  (seg := [.int .i64 t124, .int .i64 t125]) (j := 3) hcl43 hcc43 (show 5 ≤ 6 from by decide) (x' := (⟨(rd_T54 y104 t114).f0, (⟨(rd_T54 y104 t114).f1.f0, (rd_T54 y104 t114).f1.f1⟩ : S26), (⟨t124, t125⟩ : S26), (rd_T54 y104 t114).f3⟩ : S54)) (k54_mkM _ _ _ (⟨(rd_T54 y104 t114).f0, (⟨(rd_T54 y104 t114).f1.f0, (rd_T54 y104 t114).f1.f1⟩ : S26), (⟨t124, t125⟩ : S26), (rd_T54 y104 t114).f3⟩ : S54) ) (fun _ hk => hk); have hx43_3 := hcc43 3 _ rfl; (try simp only [show (k54).sz = 6 from rfl, Nat.mul_one, Nat.add_zero] at hx43_3); have hf43_3 := hfr43 3; (try simp only [show (k54).sz = 6 from rfl, Nat.mul_one, Nat.add_zero] at hf43_3); have hx43_4 := hcc43 4 _ rfl; (try simp only [show (k54).sz = 6 from rfl, Nat.mul_one, Nat.add_zero] at hx43_4); have hf43_4 := hfr43 4; (try simp only [show (k54).sz = 6 from rfl, Nat.mul_one, Nat.add_zero] at hf43_4); clear hcl43 hcc43 hfr43 hM43) | ((with_reducible refine gate_store (t := 26) (p := 71) rfl ?_); refine store_event (t := 26) (p := 71) (v := ?vo_w44) (w1 := ((w42.setCell ⟨go38, (t114 : Int).toNat * 6 + 3, none⟩ (.int .i64 t124)).setCell ⟨go38, (t114 : Int).toNat * 6 + 4, none⟩ (.int .i64 t125))) ?hg ?ho ?hn ?hr ?_; (case ho => rfl); (case hg => rfl); (case hn => rfl); (case hr => first | (go_simp; done) | (go_simp; rfl)); intro w44 hw; have hg : w42.grownBy w44 (some go38) := (by rw [hw]; exact HP43.2); have hp_ : Kd.R k54 54 w44 w.heap.size (fun _ => True) (.slice (some ⟨go38, 0, none⟩) y104.length co39) y127 := (by rw [hw, Ny127.out]; exact HP43.1); clear HP43; have n0_ := zA (hp_); have n1_ := zA (IsS117.grown (zHI0) hg (IsS117.own_ne HI0.out HO_5.out (by decide))); have n2_ := zA ((by rw [hw]; exact below_set (below_set (HB.out) (Nat.le_trans HL.out GB38.out)) (Nat.le_trans HL.out GB38.out) : Below w0.heap.size w0 w44)); have n3_ := zA (KeepBut.trans (zHK) (KeepBut.of_grown hg g) (Kd.R_base2 HO_5.out)); clear HO_5; clear HI0; clear HB; clear HK; have HO_5 := n0_; have HI0 := n1_; have HB := n2_; have HK := n3_; clear n0_ n1_ n2_ n3_; clear hg hw hp_))
      go_ret
      exact ⟨_, by first | rfl | (simp [errW_none, errW_some] <;> rfl) | (simp [*, errW_none, errW_some] <;> rfl), by refine zk ?_; exact HO_5.out, zHI0, zHB, zHK⟩
     rw [if_neg c36] at H
     exact absurd H (by simp)
    rw [if_neg c35] at H
    exact absurd H (by simp)
   rw [if_neg c34] at H
   have c34b0 : (t116 == 1) = false := beq_eq_false_iff_ne.mpr c34
   have c34b1 : (t116 != 1) = true := bne_iff_ne.mpr c34
   obtain ⟨y128, hy128⟩ : ∃ y_ : List Int, y_ = (([(-1), 7, 8] : List Int)) := ⟨_, rfl⟩
   replace H : ((spec_l1Rd_pick.f kj3 s0_0 t117 3).bind fun bt131 => (if 0 ≤ bt131.1 then (if bt131.1 < (y128.length : Int) then (if 0 ≤ t114 then (if t114 < (y104.length : Int) then (some ((y104.set (t114 : Int).toNat (⟨(rd_T54 y104 t114).f0, (⟨(rd_T54 y104 t114).f1.f0, (rd_T54 y104 t114).f1.f1⟩ : S26), (⟨(rd_T54 y104 t114).f2.f0, (rd_T54 y104 t114).f2.f1⟩ : S26), rd y128 bt131.1⟩ : S54)), bt131.2)) else (none)) else (none)) else (none)) else (none))) = some (r1, r2) := by first | (rw [hy128]; with_reducible exact H) | (have H2_ := (Option.bind_some _ _).symm.trans H; rw [hy128]; with_reducible exact H2_) | (have H2_ := (Option.bind_some _ _).symm.trans H; with_reducible exact H2_) | with_reducible exact H | (rw [hy128]; exact H) | exact H
   have Ny128 := zA hy128
   clear hy128
   replace H := Option.bind_eq_some_iff.mp H
   obtain ⟨⟨t131, t132⟩, A450, H⟩ := H
   replace H : (if 0 ≤ t131 then (if t131 < (y128.length : Int) then (if 0 ≤ t114 then (if t114 < (y104.length : Int) then (some ((y104.set (t114 : Int).toNat (⟨(rd_T54 y104 t114).f0, (⟨(rd_T54 y104 t114).f1.f0, (rd_T54 y104 t114).f1.f1⟩ : S26), (⟨(rd_T54 y104 t114).f2.f0, (rd_T54 y104 t114).f2.f1⟩ : S26), rd y128 t131⟩ : S54)), t132)) else (none)) else (none)) else (none)) else (none)) = some (r1, r2) := H
   have A45 := zA A450
   clear A450
   by_cases c46 : 0 ≤ t131
   ·rw [if_pos c46] at H
    have c46b0 : decide (0 ≤ t131) = true := decide_eq_true c46
    clear c46
    by_cases c47 : t131 < (y128.length : Int)
    ·rw [if_pos c47] at H
     have c47b0 : decide (t131 < (y128.length : Int)) = true := decide_eq_true c47
     clear c47
     by_cases c48 : 0 ≤ t114
     ·rw [if_pos c48] at H
      have c48b0 : decide (0 ≤ t114) = true := decide_eq_true c48
      clear c48
      by_cases c49 : t114 < (y104.length : Int)
      ·rw [if_pos c49] at H
       have c49b0 : decide (t114 < (y104.length : Int)) = true := decide_eq_true c49
       clear c49
       obtain ⟨y134, hy134⟩ : ∃ y_ : List (S54), y_ = (y104.set (t114 : Int).toNat (⟨(rd_T54 y104 t114).f0, (⟨(rd_T54 y104 t114).f1.f0, (rd_T54 y104 t114).f1.f1⟩ : S26), (⟨(rd_T54 y104 t114).f2.f0, (rd_T54 y104 t114).f2.f1⟩ : S26), rd y128 t131⟩ : S54)) := ⟨_, rfl⟩
       replace H : (some (y134, t132)) = some (r1, r2) := by first | (rw [hy134]; with_reducible exact H) | (have H2_ := (Option.bind_some _ _).symm.trans H; rw [hy134]; with_reducible exact H2_) | (have H2_ := (Option.bind_some _ _).symm.trans H; with_reducible exact H2_) | with_reducible exact H | (rw [hy134]; exact H) | exact H
       have Ny134 := zA hy134
       clear hy134
       simp only [Option.some.injEq, Prod.mk.injEq] at H
       obtain ⟨rfl, rfl⟩ := H
       obtain ⟨Ao51, co51, eo51⟩ := Kd.R_slice HO_5.out
       subst eo51
       go_wp2_with (first | ((with_reducible refine gate_callee (f := 81) rfl ?_); refine goesL_ (some 34) rfl rfl Try.func81 (by kernel_rfl) rfl #[.pointer (some ⟨g, 0, none⟩), .int .i64 (y104.length : Int)] rfl y2  ?_; (with_reducible refine (spec_l1Rd_pick.calls kj3 g s0_0 x1001_3 (y104.length : Int) t114 t115 w0 _ ?side1 ?side2 A21.out).mono ?_); (case side1 => exact zHI0); (case side2 => exact zHB); rintro e w52 ⟨rfl, hi, hb, hk⟩; refine ⟨_, rfl, ?_⟩; have n0_ := zA (Kd.R_mono (Kd.R_keep (IsS117.apart (show IsS117 w0 _ g s0_0 x1001_3 from zHI0) (zr HO_5.out) (by decide)) hk (fun _ h => h.2)) (fun _ h => h.1)); have n1_ := zA (KeepBut.trans (zHK) hk (.inl rfl)); have n2_ := zA (hb); have n3_ := zA (hi); clear HO_5; clear HK; clear HB; clear HI0; have HO_5 := n0_; have HK := n1_; have HB := n2_; have HI0 := n3_; clear n0_ n1_ n2_ n3_; (try clear hb); (try clear hb2); (try clear hk); (try clear hi)) | ((with_reducible refine gate_callee (f := 81) rfl ?_); refine goesL_ (some 36) rfl rfl Try.func81 (by kernel_rfl) rfl #[.pointer (some ⟨g, 0, none⟩), .int .i64 3] rfl y2  ?_; (with_reducible refine (spec_l1Rd_pick.calls kj3 g s0_0 t115 3 t116 t117 w0 _ ?side1 ?side2 A22.out).mono ?_); (case side1 => exact zHI0); (case side2 => exact zHB); rintro e w53 ⟨rfl, hi, hb, hk⟩; refine ⟨_, rfl, ?_⟩; have n0_ := zA (Kd.R_mono (Kd.R_keep (IsS117.apart (show IsS117 w0 _ g s0_0 t115 from zHI0) (zr HO_5.out) (by decide)) hk (fun _ h => h.2)) (fun _ h => h.1)); have n1_ := zA (KeepBut.trans (zHK) hk (.inl rfl)); have n2_ := zA (hb); have n3_ := zA (hi); clear HO_5; clear HK; clear HB; clear HI0; have HO_5 := n0_; have HK := n1_; have HB := n2_; have HI0 := n3_; clear n0_ n1_ n2_ n3_; (try clear hb); (try clear hb2); (try clear hk); (try clear hi)) | ((with_reducible refine gate_dst (N := 39) rfl ?_); refine Kd.R_lit (Kd.int .i64) _ 3 ?hg (N := 39) ?hd (xs := ([(-1), 7, 8] : List Int)) (inner := [.int .i64 (-1), .int .i64 7, .int .i64 8]) (ok := fun _ => True) (okp := fun _ => True) ?hr ?hp (fun _ hk => hk) trivial (Below.refl _ _) (Nat.le_refl _) (by simp) ?_; (case hd => rfl); (case hg => rfl); (case hr => first | (go_simp; done) | (go_simp; rfl)); (case hp => exact (Reps.one (show Kd.M (Kd.int .i64) _ _ _ (-1) [.int .i64 (-1)] from rfl) (Reps.one (show Kd.M (Kd.int .i64) _ _ _ 7 [.int .i64 7] from rfl) (Reps.one (show Kd.M (Kd.int .i64) _ _ _ 8 [.int .i64 8] from rfl) (Reps.none _ _))))); intro v129 w54 ho55 hb hg_ hnew_; clear hg_ hnew_; (first | rw [← Ny128.out] at ho55 | (simp only [Int.reduceToNat] at ho55; rw [← Ny128.out] at ho55)); have n0_ := zA (Kd.R_below (zr HO_5.out) hb); have n1_ := zA (Kd.R_lower ho55 (keep_size (w := w) (g := g) (row := none) (zHK))); have n2_ := zA (IsS117.below (zHI0) hb); have n3_ := zA (KeepBut.trans (zHK) (KeepBut.of_below hb g none) (.inl rfl)); have n4_ := zA (below_step (zHB) hb); clear HO_5; clear HI0; clear HK; clear HB; have HO_5 := n0_; have HO130 := n1_; have HI0 := n2_; have HK := n3_; have HB := n4_; clear n0_ n1_ n2_ n3_ n4_; clear hb ho55) | ((with_reducible refine gate_callee (f := 81) rfl ?_); refine goesL_ (some 41) rfl rfl Try.func81 (by kernel_rfl) rfl #[.pointer (some ⟨g, 0, none⟩), .int .i64 3] rfl y2  ?_; (with_reducible refine (spec_l1Rd_pick.calls kj3 g s0_0 t117 3 t131 t132 w0 _ ?side1 ?side2 A45.out).mono ?_); (case side1 => exact zHI0); (case side2 => exact zHB); rintro e w56 ⟨rfl, hi, hb, hk⟩; refine ⟨_, rfl, ?_⟩; have n0_ := zA (Kd.R_mono (Kd.R_keep (IsS117.apart (show IsS117 w0 _ g s0_0 t117 from zHI0) (zr HO_5.out) (by decide)) hk (fun _ h => h.2)) (fun _ h => h.1)); have n1_ := zA (Kd.R_mono (Kd.R_keep (IsS117.apart (show IsS117 w0 _ g s0_0 t117 from zHI0) (zr HO130.out) (by decide)) hk (fun _ h => h.2)) (fun _ h => h.1)); have n2_ := zA (KeepBut.trans (zHK) hk (.inl rfl)); have n3_ := zA (hb); have n4_ := zA (hi); clear HO_5; clear HO130; clear HK; clear HB; clear HI0; have HO_5 := n0_; have HO130 := n1_; have HK := n2_; have HB := n3_; have HI0 := n4_; clear n0_ n1_ n2_ n3_ n4_; (try clear hb); (try clear hb2); (try clear hk); (try clear hi); obtain ⟨Ao57, co57, eo57⟩ := Kd.R_slice HO130.out; subst eo57; have p133 : 0 ≤ (t131 : Int) := of_decide_eq_true y3 ; have q133 : t131 < (y128.length : Int) := of_decide_eq_true y3 ; obtain ⟨ad133, e133, hx133_0⟩ := Kd.at_int (Kd.R_reads' HO130.out).2.2 t131 p133 q133; cases e133; replace p133 := eq_true p133; replace q133 := eq_true q133; have p50 : 0 ≤ (t114 : Int) := of_decide_eq_true y3 ; have q50 : (t114 : Int) < ((y104.length : Int) : Int) := of_decide_eq_true y3 ; obtain ⟨go50, co50, eo50, gb50, gl50, cl50, HG50⟩ := Kd.R_form HO_5.out (by omega); (first | cases eo50 | (injection eo50 with ea_ en_ ec_; (first | subst ea_ | (injection ea_ with ea_; subst ea_)); subst ec_; clear en_)); have GB50 := zA gb50; have GG50 := zA HG50; clear gb50 gl50 HG50; obtain ⟨ce50, hcl50, hM50, hcc50, hfr50⟩ := Kd.R_elem HO_5.out z54 (t114 : Int) p50 q50; obtain rfl := k54_openM hM50; have hx50_0 : w56.cell? ⟨go50, (t114 : Int).toNat * 6, none⟩ = some (.bool ((rd_T54 y104 t114).f0)) := hcc50 0 _ rfl; have hx50_1 : w56.cell? ⟨go50, (t114 : Int).toNat * 6 + 1, none⟩ = some (.int .i64 ((rd_T54 y104 t114).f1.f0)) := hcc50 1 _ rfl; have hx50_2 : w56.cell? ⟨go50, (t114 : Int).toNat * 6 + 2, none⟩ = some (.int .i64 ((rd_T54 y104 t114).f1.f1)) := hcc50 2 _ rfl; have hx50_3 : w56.cell? ⟨go50, (t114 : Int).toNat * 6 + 3, none⟩ = some (.int .i64 ((rd_T54 y104 t114).f2.f0)) := hcc50 3 _ rfl; have hx50_4 : w56.cell? ⟨go50, (t114 : Int).toNat * 6 + 4, none⟩ = some (.int .i64 ((rd_T54 y104 t114).f2.f1)) := hcc50 4 _ rfl; have hx50_5 : w56.cell? ⟨go50, (t114 : Int).toNat * 6 + 5, none⟩ = some (.int .i64 ((rd_T54 y104 t114).f3)) := hcc50 5 _ rfl; have hf50_0 : w56.frozen? ⟨go50, (t114 : Int).toNat * 6, none⟩ = false := hfr50 0; have hf50_1 : w56.frozen? ⟨go50, (t114 : Int).toNat * 6 + 1, none⟩ = false := hfr50 1; have hf50_2 : w56.frozen? ⟨go50, (t114 : Int).toNat * 6 + 2, none⟩ = false := hfr50 2; have hf50_3 : w56.frozen? ⟨go50, (t114 : Int).toNat * 6 + 3, none⟩ = false := hfr50 3; have hf50_4 : w56.frozen? ⟨go50, (t114 : Int).toNat * 6 + 4, none⟩ = false := hfr50 4; have hf50_5 : w56.frozen? ⟨go50, (t114 : Int).toNat * 6 + 5, none⟩ = false := hfr50 5; clear hcl50 hcc50 hfr50 hM50; replace p50 := eq_true p50; replace q50 := eq_true q50; have HX58 := zA (show Kd.R k54 54 w56 w.heap.size (fun _ => True) (.slice (some ⟨go50, 0, none⟩) y104.length co51) y104 from (zr HO_5.out)); obtain ⟨ce58, hcl58, hM58, hcc58, hfr58⟩ := Kd.R_elem HX58.out z54 (t114 : Int) (of_decide_eq_true y3 ) y1 ; obtain rfl := k54_openM hM58; have HP58 := Kd.R_seg HX58.out (t114 : Int) (of_decide_eq_true y3 ) y1  (seg := [.int .i64 (rd y128 t131)]) (j := 5) hcl58 hcc58 (show 6 ≤ 6 from by decide) (x' := (⟨(rd_T54 y104 t114).f0, (⟨(rd_T54 y104 t114).f1.f0, (rd_T54 y104 t114).f1.f1⟩ : S26), (⟨(rd_T54 y104 t114).f2.f0, (rd_T54 y104 t114).f2.f1⟩ : S26), rd y128 t131⟩ : S54)) (k54_mkM _ _ _ (⟨(rd_T54 y104 t114).f0, (⟨(rd_T54 y104 t114).f1.f0, (rd_T54 y104 t114).f1.f1⟩ : S26), (⟨(rd_T54 y104 t114).f2.f0, (rd_T54 y104 t114).f2.f1⟩ : S26), rd y128 t131⟩ : S54) ) (fun _ hk => hk); have hx58_5 := hcc58 5 _ rfl; (try simp only [show (k54).sz = 6 from rfl, Nat.mul_one, Nat.add_zero] at hx58_5); have hf58_5 := hfr58 5; (try simp only [show (k54).sz = 6 from rfl, Nat.mul_one, Nat.add_zero] at hf58_5); clear hcl58 hcc58 hfr58 hM58) | ((with_reducible refine gate_store (t := 3) (p := 45) rfl ?_); refine store_event (t := 3) (p := 45) (v := ?vo_w59) (w1 := (w56.setCell ⟨go50, (t114 : Int).toNat * 6 + 5, none⟩ (.int .i64 (rd y128 t131)))) ?hg ?ho ?hn ?hr ?_; (case ho => rfl); (case hg => rfl); (case hn => rfl); (case hr => first | (go_simp; done) | (go_simp; rfl)); intro w59 hw; have hg : w56.grownBy w59 (some go50) := (by rw [hw]; exact HP58.2); have hp_ : Kd.R k54 54 w59 w.heap.size (fun _ => True) (.slice (some ⟨go50, 0, none⟩) y104.length co51) y134 := (by rw [hw, Ny134.out]; exact HP58.1); clear HP58; have n0_ := zA (hp_); have n1_ := zA (IsS117.grown (zHI0) hg (IsS117.own_ne HI0.out HO_5.out (by decide))); have n2_ := zA (Kd.R_over' (v := (.slice (some ⟨go50, 0, none⟩) y104.length co51)) (zr HO130.out) (Kd.R_typed HO_5.out) (by decide) hg); have n3_ := zA ((by rw [hw]; exact below_set (HB.out) (Nat.le_trans HL.out GB50.out) : Below w0.heap.size w0 w59)); have n4_ := zA (KeepBut.trans (zHK) (KeepBut.of_grown hg g) (Kd.R_base2 HO_5.out)); clear HO_5; clear HI0; clear HO130; clear HB; clear HK; have HO_5 := n0_; have HI0 := n1_; have HO130 := n2_; have HB := n3_; have HK := n4_; clear n0_ n1_ n2_ n3_ n4_; clear hg hw hp_))
       go_ret
       exact ⟨_, by first | rfl | (simp [errW_none, errW_some] <;> rfl) | (simp [*, errW_none, errW_some] <;> rfl), by refine zk ?_; exact HO_5.out, zHI0, zHB, zHK⟩
      rw [if_neg c49] at H
      exact absurd H (by simp)
     rw [if_neg c48] at H
     exact absurd H (by simp)
    rw [if_neg c47] at H
    exact absurd H (by simp)
   rw [if_neg c46] at H
   exact absurd H (by simp)
 rw [if_neg c3] at H
 exact absurd H (by simp)
end Go.Proofs.Ytnakanjhdcakhaa.Q
namespace Go.Proofs.Ytnakanjhdcakhaa.Q
open Go.RowKit Go.Proofs.YtnakanjhdcakhaaW.PrintWords Go.Proofs.YtnakanjhdcakhaaW.PrintLast Go.Proofs.YtnakanjhdcakhaaW.PrintMore
attribute [local go_sem] max2_int min2_int max_two min_two max_three min_three max_four min_four   -- for this text's walks alone
set_option linter.unusedVariables false
set_option linter.unusedSimpArgs false
def spec_l5AnyRules.f (k : Nat) (s0_0 : List Int) (s0_1 : Int) : Option ((List (S54)) × Int) := (spec_l5Rules.f k s0_0 s0_1).bind fun bt101 => ((spec_l1Rd_pick.f k s0_0 bt101.2 24).bind fun bt105 => (if bt105.1 = 0 then ((spec_l5SpoilRules.f k s0_0 bt105.2 bt101.1).bind fun bt107 => (some (bt107.1, bt107.2))) else (some (bt101.1, bt105.2))))
set_option maxHeartbeats 8000000 in
set_option maxRecDepth 100000 in
theorem spec_l5AnyRules.calls (k : Nat) (g : Nat) (s0_0 : List Int) (s0_1 : Int) (r1 : List (S54)) (r2 : Int) (w0 w : World) (hI : IsS117 w0 w g s0_0 s0_1) (hB : Below w0.heap.size w0 w) (h : spec_l5AnyRules.f k s0_0 s0_1 = some (r1, r2)) :
    Calls Try.prog 80 #[.pointer (some ⟨g, 0, none⟩)] w fun e w' => ∃ v0_ : Value, e = .returned (v0_) ∧ Kd.R k54 54 w' w.heap.size (fun _ => True) v0_ r1 ∧ IsS117 w0 w' g s0_0 r2 ∧ Below w0.heap.size w0 w' ∧ KeepBut w w' g none := by
  have HI0 := Aside0.mk hI
  have HK := Aside0.mk (KeepBut.refl w g none)
  have HL := Aside0.mk hB.size
  clear hI
  have HW0 := Aside0.mk hB.size
  have HB := Aside0.mk hB
  clear hB
  have H : ((spec_l5Rules.f k s0_0 s0_1).bind fun bt101 => ((spec_l1Rd_pick.f k s0_0 bt101.2 24).bind fun bt105 => (if bt105.1 = 0 then ((spec_l5SpoilRules.f k s0_0 bt105.2 bt101.1).bind fun bt107 => (some (bt107.1, bt107.2))) else (some (bt101.1, bt105.2))))) = some (r1, r2) := h
  clear h
  replace H := Option.bind_eq_some_iff.mp H
  obtain ⟨⟨t101, t104⟩, A20, H⟩ := H
  replace H : ((spec_l1Rd_pick.f k s0_0 t104 24).bind fun bt105 => (if bt105.1 = 0 then ((spec_l5SpoilRules.f k s0_0 bt105.2 t101).bind fun bt107 => (some (bt107.1, bt107.2))) else (some (t101, bt105.2)))) = some (r1, r2) := H
  have A2 := Aside0.mk A20
  clear A20
  replace H := Option.bind_eq_some_iff.mp H
  obtain ⟨⟨t105, t106⟩, A30, H⟩ := H
  replace H : (if t105 = 0 then ((spec_l5SpoilRules.f k s0_0 t106 t101).bind fun bt107 => (some (bt107.1, bt107.2))) else (some (t101, t106))) = some (r1, r2) := H
  have A3 := Aside0.mk A30
  clear A30
  by_cases c4 : t105 = 0
  · rw [if_pos c4] at H
    have c4b0 : (t105 == 0) = true := beq_iff_eq.mpr c4
    have c4b1 : (t105 != 0) = false := bne_eq_false_iff_eq.mpr c4
    clear c4
    replace H := Option.bind_eq_some_iff.mp H
    obtain ⟨⟨t107, t110⟩, A50, H⟩ := H
    replace H : (some (t107, t110)) = some (r1, r2) := H
    have A5 := Aside0.mk A50
    clear A50
    simp only [Option.some.injEq, Prod.mk.injEq] at H
    obtain ⟨rfl, rfl⟩ := H
    go_enter Try.func80, Try.ntmps80
    go_wp2_with (first | ((with_reducible refine gate_callee (f := 110) rfl ?_); refine goesL_ (some 5) rfl rfl Try.func110 (by kernel_rfl) rfl #[.pointer (some ⟨g, 0, none⟩)] rfl (by (try simp only [List.map_toArray, List.map_cons, List.map_nil]); first | done | rfl | (simp only [List.length_drop, List.length_take]; rfl)) ?_; (with_reducible refine (spec_l5Rules.calls k g s0_0 s0_1 t101 t104 w0 _ ?side1 ?side2 A2.out).mono ?_); (case side1 => repeat (first | (with_reducible first | exact HI0.out | apply IsS117.alloc | apply IsS117.drewN | apply IsS117.drew | apply IsS117.set_1) | exact HI0.out)); (case side2 => repeat (first | (with_reducible first | exact HB.out | apply below_alloc | apply pw_below_drewN | apply below_drew1 | refine below_set ?_ (IsS117.ge HI0.out)) | exact HB.out)); rintro e w6 ⟨v102, rfl, ho0, hi, hb, hk⟩; refine ⟨_, rfl, ?_⟩; have n0_ := Aside0.mk (Kd.R_lower ho0 (keep_size (w := w) (g := g) (row := none) (by repeat (first | (with_reducible first | exact HK.out | apply KeepBut.set_ | apply keep_drewN | apply keep_drew | apply keep_alloc) | exact HK.out)))); have n1_ := Aside0.mk (KeepBut.trans (by repeat (first | (with_reducible first | exact HK.out | apply KeepBut.set_ | apply keep_drewN | apply keep_drew | apply keep_alloc) | exact HK.out)) hk (.inl rfl)); have n2_ := Aside0.mk (hb); have n3_ := Aside0.mk (hi); clear HK; clear HB; clear HI0; have HO103 := n0_; have HK := n1_; have HB := n2_; have HI0 := n3_; clear n0_ n1_ n2_ n3_; (try clear hb); (try clear hb2); (try clear hk); (try clear hi); (try clear ho0)) | ((with_reducible refine gate_callee (f := 81) rfl ?_); refine goesL_ (some 7) rfl rfl Try.func81 (by kernel_rfl) rfl #[.pointer (some ⟨g, 0, none⟩), .int .i64 24] rfl (by (try simp only [List.map_toArray, List.map_cons, List.map_nil]); first | done | rfl | (simp only [List.length_drop, List.length_take]; rfl)) ?_; (with_reducible refine (spec_l1Rd_pick.calls k g s0_0 t104 24 t105 t106 w0 _ ?side1 ?side2 A3.out).mono ?_); (case side1 => repeat (first | (with_reducible first | exact HI0.out | apply IsS117.alloc | apply IsS117.drewN | apply IsS117.drew | apply IsS117.set_1) | exact HI0.out)); (case side2 => repeat (first | (with_reducible first | exact HB.out | apply below_alloc | apply pw_below_drewN | apply below_drew1 | refine below_set ?_ (IsS117.ge HI0.out)) | exact HB.out)); rintro e w7 ⟨rfl, hi, hb, hk⟩; refine ⟨_, rfl, ?_⟩; have n0_ := Aside0.mk (Kd.R_mono (Kd.R_keep (IsS117.apart (show IsS117 w0 _ g s0_0 t104 from by repeat (first | (with_reducible first | exact HI0.out | apply IsS117.alloc | apply IsS117.drewN | apply IsS117.drew | apply IsS117.set_1) | exact HI0.out)) (by (with_reducible repeat (first | apply Kd.R_alloc | apply Kd.R_drewN | apply Kd.R_drew)); exact HO103.out) (by decide)) hk (fun _ h => h.2)) (fun _ h => h.1)); have n1_ := Aside0.mk (KeepBut.trans (by repeat (first | (with_reducible first | exact HK.out | apply KeepBut.set_ | apply keep_drewN | apply keep_drew | apply keep_alloc) | exact HK.out)) hk (.inl rfl)); have n2_ := Aside0.mk (hb); have n3_ := Aside0.mk (hi); clear HO103; clear HK; clear HB; clear HI0; have HO103 := n0_; have HK := n1_; have HB := n2_; have HI0 := n3_; clear n0_ n1_ n2_ n3_; (try clear hb); (try clear hb2); (try clear hk); (try clear hi); obtain ⟨Ao8, co8, eo8⟩ := Kd.R_slice HO103.out; subst eo8) | ((with_reducible refine gate_callee (f := 111) rfl ?_); refine goesL_ (some 11) rfl rfl Try.func111 (by kernel_rfl) rfl #[.pointer (some ⟨g, 0, none⟩), .slice Ao8 t101.length co8] rfl (by (try simp only [List.map_toArray, List.map_cons, List.map_nil]); first | done | rfl | (simp only [List.length_drop, List.length_take]; rfl)) ?_; (with_reducible refine (spec_l5SpoilRules.calls k g s0_0 t106 _ _ t101 t107 t110 w0 _ ?side1 ?side2 ?side3 ?side4 A5.out).mono ?_); (case side1 => repeat (first | (with_reducible first | exact HI0.out | apply IsS117.alloc | apply IsS117.drewN | apply IsS117.drew | apply IsS117.set_1) | exact HI0.out)); (case side2 => repeat (first | (with_reducible first | exact HB.out | apply below_alloc | apply pw_below_drewN | apply below_drew1 | refine below_set ?_ (IsS117.ge HI0.out)) | exact HB.out)); (case side3 => exact Kd.C_foot_own (IsS117.apart (show IsS117 w0 _ g s0_0 t106 from by repeat (first | (with_reducible first | exact HI0.out | apply IsS117.alloc | apply IsS117.drewN | apply IsS117.drew | apply IsS117.set_1) | exact HI0.out)) (by (with_reducible repeat (first | apply Kd.R_alloc | apply Kd.R_drewN | apply Kd.R_drew)); exact HO103.out) (by decide)) (fun _ h_ => h_.2)); (case side4 => exact (Kd.R_reads' HO103.out).2.1); rintro e w9 ⟨v108, rfl, ho0, hi, hb, hk⟩; refine ⟨_, rfl, ?_⟩; have n0_ := Aside0.mk (Kd.R_mono (Kd.R_told (Kd.R_oldK (IsS117.apart (show IsS117 w0 _ g s0_0 t106 from by repeat (first | (with_reducible first | exact HI0.out | apply IsS117.alloc | apply IsS117.drewN | apply IsS117.drew | apply IsS117.set_1) | exact HI0.out)) (by (with_reducible repeat (first | apply Kd.R_alloc | apply Kd.R_drewN | apply Kd.R_drew)); exact HO103.out) (by decide)) hk) (Kd.R_base ho0)) (fun _ h_ => h_.1)); have n1_ := Aside0.mk (Kd.R_lower (Kd.R_new' ho0 (Kd.R_lt (by (with_reducible repeat (first | apply Kd.R_alloc | apply Kd.R_drewN | apply Kd.R_drew)); exact HO103.out))) (keep_size (w := w) (g := g) (row := none) (by repeat (first | (with_reducible first | exact HK.out | apply KeepBut.set_ | apply keep_drewN | apply keep_drew | apply keep_alloc) | exact HK.out)))); have n2_ := Aside0.mk (KeepBut.trans (by repeat (first | (with_reducible first | exact HK.out | apply KeepBut.set_ | apply keep_drewN | apply keep_drew | apply keep_alloc) | exact HK.out)) hk (.inl rfl)); have n3_ := Aside0.mk (hb); have n4_ := Aside0.mk (hi); clear HO103; clear HK; clear HB; clear HI0; have HO103 := n0_; have HO109 := n1_; have HK := n2_; have HB := n3_; have HI0 := n4_; clear n0_ n1_ n2_ n3_ n4_; (try clear hb); (try clear hb2); (try clear hk); (try clear hi); (try clear ho0)))
    go_ret
    exact ⟨_, by first | rfl | (simp [errW_none, errW_some] <;> rfl) | (simp [*, errW_none, errW_some] <;> rfl), by (with_reducible repeat (first | apply Kd.R_alloc | apply Kd.R_drewN | apply Kd.R_drew)); exact Kd.R_mono HO109.out (fun _ hk => trivial), by repeat (first | (with_reducible first | exact HI0.out | apply IsS117.alloc | apply IsS117.drewN | apply IsS117.drew | apply IsS117.set_1) | exact HI0.out), by repeat (first | (with_reducible first | exact HB.out | apply below_alloc | apply pw_below_drewN | apply below_drew1 | refine below_set ?_ (IsS117.ge HI0.out)) | exact HB.out), by repeat (first | (with_reducible first | exact HK.out | apply KeepBut.set_ | apply keep_drewN | apply keep_drew | apply keep_alloc) | exact HK.out)⟩
  · rw [if_neg c4] at H
    have c4b0 : (t105 == 0) = false := beq_eq_false_iff_ne.mpr c4
    have c4b1 : (t105 != 0) = true := bne_iff_ne.mpr c4
    simp only [Option.some.injEq, Prod.mk.injEq] at H
    obtain ⟨rfl, rfl⟩ := H
    go_enter Try.func80, Try.ntmps80
    go_wp2_with (first | ((with_reducible refine gate_callee (f := 110) rfl ?_); refine goesL_ (some 5) rfl rfl Try.func110 (by kernel_rfl) rfl #[.pointer (some ⟨g, 0, none⟩)] rfl (by (try simp only [List.map_toArray, List.map_cons, List.map_nil]); first | done | rfl | (simp only [List.length_drop, List.length_take]; rfl)) ?_; (with_reducible refine (spec_l5Rules.calls k g s0_0 s0_1 t101 t104 w0 _ ?side1 ?side2 A2.out).mono ?_); (case side1 => repeat (first | (with_reducible first | exact HI0.out | apply IsS117.alloc | apply IsS117.drewN | apply IsS117.drew | apply IsS117.set_1) | exact HI0.out)); (case side2 => repeat (first | (with_reducible first | exact HB.out | apply below_alloc | apply pw_below_drewN | apply below_drew1 | refine below_set ?_ (IsS117.ge HI0.out)) | exact HB.out)); rintro e w10 ⟨v102, rfl, ho0, hi, hb, hk⟩; refine ⟨_, rfl, ?_⟩; have n0_ := Aside0.mk (Kd.R_lower ho0 (keep_size (w := w) (g := g) (row := none) (by repeat (first | (with_reducible first | exact HK.out | apply KeepBut.set_ | apply keep_drewN | apply keep_drew | apply keep_alloc) | exact HK.out)))); have n1_ := Aside0.mk (KeepBut.trans (by repeat (first | (with_reducible first | exact HK.out | apply KeepBut.set_ | apply keep_drewN | apply keep_drew | apply keep_alloc) | exact HK.out)) hk (.inl rfl)); have n2_ := Aside0.mk (hb); have n3_ := Aside0.mk (hi); clear HK; clear HB; clear HI0; have HO103 := n0_; have HK := n1_; have HB := n2_; have HI0 := n3_; clear n0_ n1_ n2_ n3_; (try clear hb); (try clear hb2); (try clear hk); (try clear hi); (try clear ho0)) | ((with_reducible refine gate_callee (f := 81) rfl ?_); refine goesL_ (some 7) rfl rfl Try.func81 (by kernel_rfl) rfl #[.pointer (some ⟨g, 0, none⟩), .int .i64 24] rfl (by (try simp only [List.map_toArray, List.map_cons, List.map_nil]); first | done | rfl | (simp only [List.length_drop, List.length_take]; rfl)) ?_; (with_reducible refine (spec_l1Rd_pick.calls k g s0_0 t104 24 t105 t106 w0 _ ?side1 ?side2 A3.out).mono ?_); (case side1 => repeat (first | (with_reducible first | exact HI0.out | apply IsS117.alloc | apply IsS117.drewN | apply IsS117.drew | apply IsS117.set_1) | exact HI0.out)); (case side2 => repeat (first | (with_reducible first | exact HB.out | apply below_alloc | apply pw_below_drewN | apply below_drew1 | refine below_set ?_ (IsS117.ge HI0.out)) | exact HB.out)); rintro e w11 ⟨rfl, hi, hb, hk⟩; refine ⟨_, rfl, ?_⟩; have n0_ := Aside0.mk (Kd.R_mono (Kd.R_keep (IsS117.apart (show IsS117 w0 _ g s0_0 t104 from by repeat (first | (with_reducible first | exact HI0.out | apply IsS117.alloc | apply IsS117.drewN | apply IsS117.drew | apply IsS117.set_1) | exact HI0.out)) (by (with_reducible repeat (first | apply Kd.R_alloc | apply Kd.R_drewN | apply Kd.R_drew)); exact HO103.out) (by decide)) hk (fun _ h => h.2)) (fun _ h => h.1)); have n1_ := Aside0.mk (KeepBut.trans (by repeat (first | (with_reducible first | exact HK.out | apply KeepBut.set_ | apply keep_drewN | apply keep_drew | apply keep_alloc) | exact HK.out)) hk (.inl rfl)); have n2_ := Aside0.mk (hb); have n3_ := Aside0.mk (hi); clear HO103; clear HK; clear HB; clear HI0; have HO103 := n0_; have HK := n1_; have HB := n2_; have HI0 := n3_; clear n0_ n1_ n2_ n3_; (try clear hb); (try clear hb2); (try clear hk); (try clear hi)))
    go_ret
    exact ⟨_, by first | rfl | (simp [errW_none, errW_some] <;> rfl) | (simp [*, errW_none, errW_some] <;> rfl), by (with_reducible repeat (first | apply Kd.R_alloc | apply Kd.R_drewN | apply Kd.R_drew)); exact HO103.out, by repeat (first | (with_reducible first | exact HI0.out | apply IsS117.alloc | apply IsS117.drewN | apply IsS117.drew | apply IsS117.set_1) | exact HI0.out), by repeat (first | (with_reducible first | exact HB.out | apply below_alloc | apply pw_below_drewN | apply below_drew1 | refine below_set ?_ (IsS117.ge HI0.out)) | exact HB.out), by repeat (first | (with_reducible first | exact HK.out | apply KeepBut.set_ | apply keep_drewN | apply keep_drew | apply keep_alloc) | exact HK.out)⟩
end Go.Proofs.Ytnakanjhdcakhaa.Q
namespace Go.Proofs.Ytnakanjhdcakhaa.Q
open Go.RowKit Go.Proofs.YtnakanjhdcakhaaW.PrintWords Go.Proofs.YtnakanjhdcakhaaW.PrintLast Go.Proofs.YtnakanjhdcakhaaW.PrintMore
attribute [local go_sem] max2_int min2_int max_two min_two max_three min_three max_four min_four   -- for this text's walks alone
set_option linter.unusedVariables false
set_option linter.unusedSimpArgs false
def spec_DrawAclDiffer.j0 : Nat → List (S54) → List (S54) → List Int → Int → Option ((List (S54)) × (List (S54)))
  | 0, _, _, _, _ => none
  | k + 1, x5, x6, x104000, x104001 => (spec_l1Rd_pick.f k x104000 x104001 8).bind fun bt142 => (if bt142.1 = 0 then ((spec_l5AnyRules.f k x104000 bt142.2).bind fun bt144 => (some (x5, bt144.1))) else (some (x5, x6)))
def spec_DrawAclDiffer.f (k : Nat) (l0 : List Int) : Option ((List (S54)) × (List (S54))) := (spec_l1Open.f l0).bind fun bt101 => ((spec_l5AnyRules.f k bt101.1 bt101.2).bind fun bt104 => ((some (([] : List (S54)) : List (S54))).bind fun y108 => (if y108.length + bt104.1.length < 2932031007402 then ((some (y108 ++ bt104.1 : List (S54))).bind fun y111 => (if (y111.length : Int) > 1 then ((spec_l1Rd_pick.f k bt101.1 bt104.2 (wrap64 ((y111.length : Int) - 1))).bind fun bt114 => ((spec_l1Rd_pick.f k bt101.1 bt114.2 4).bind fun bt116 => (if bt116.1 = 0 then (if 0 ≤ bt114.1 then (if bt114.1 < (y111.length : Int) then (if 0 ≤ (wrap64 (bt114.1 + 1)) then (if (wrap64 (bt114.1 + 1)) < (y111.length : Int) then (spec_DrawAclDiffer.j0 k bt104.1 ((y111.set (bt114.1 : Int).toNat (⟨(rd_T54 y111 (wrap64 (bt114.1 + 1))).f0, (⟨(rd_T54 y111 (wrap64 (bt114.1 + 1))).f1.f0, (rd_T54 y111 (wrap64 (bt114.1 + 1))).f1.f1⟩ : S26), (⟨(rd_T54 y111 (wrap64 (bt114.1 + 1))).f2.f0, (rd_T54 y111 (wrap64 (bt114.1 + 1))).f2.f1⟩ : S26), (rd_T54 y111 (wrap64 (bt114.1 + 1))).f3⟩ : S54)).set ((wrap64 (bt114.1 + 1)) : Int).toNat (⟨(rd_T54 y111 bt114.1).f0, (⟨(rd_T54 y111 bt114.1).f1.f0, (rd_T54 y111 bt114.1).f1.f1⟩ : S26), (⟨(rd_T54 y111 bt114.1).f2.f0, (rd_T54 y111 bt114.1).f2.f1⟩ : S26), (rd_T54 y111 bt114.1).f3⟩ : S54)) bt101.1 bt116.2) else (none)) else (none)) else (none)) else (none)) else (if bt116.1 = 1 then ((some (([] : List (S54)) : List (S54))).bind fun y123 => (if 0 ≤ bt114.1 then (if bt114.1 ≤ (y111.length : Int) then ((some (y111.take (bt114.1 : Int).toNat : List (S54))).bind fun y126 => (if y123.length + y126.length < 2932031007402 then ((some (y123 ++ y126 : List (S54))).bind fun y130 => (if 0 ≤ (wrap64 (bt114.1 + 1)) then (if (wrap64 (bt114.1 + 1)) ≤ (y111.length : Int) then ((some (y111.drop ((wrap64 (bt114.1 + 1)) : Int).toNat : List (S54))).bind fun y133 => (if y130.length + y133.length < 2932031007402 then (spec_DrawAclDiffer.j0 k bt104.1 (y130 ++ y133) bt101.1 bt116.2) else (none))) else (none)) else (none))) else (none))) else (none)) else (none))) else (if bt116.1 = 2 then (if 0 ≤ bt114.1 then (if bt114.1 < (y111.length : Int) then (spec_DrawAclDiffer.j0 k bt104.1 (y111.set (bt114.1 : Int).toNat (⟨!((rd_T54 y111 bt114.1).f0), (⟨(rd_T54 y111 bt114.1).f1.f0, (rd_T54 y111 bt114.1).f1.f1⟩ : S26), (⟨(rd_T54 y111 bt114.1).f2.f0, (rd_T54 y111 bt114.1).f2.f1⟩ : S26), (rd_T54 y111 bt114.1).f3⟩ : S54)) bt101.1 bt116.2) else (none)) else (none)) else (spec_DrawAclDiffer.j0 k bt104.1 y111 bt101.1 bt116.2)))))) else (spec_DrawAclDiffer.j0 k bt104.1 y111 bt101.1 bt104.2))) else (none))))
def spec_DrawAclDiffer.T12 : Bool × List (List Nat × List Nat) := (true, [([], []), ([], []), ([], []), ([1, 2], [1, 2]), ([0, 3], [0, 3]), ([], []), ([], []), ([6], [6]), ([5, 7], [5, 7]), ([4, 8, 4], [4, 8]), ([9, 9, 0, 1, 2, 3, 4, 5, 6, 7, 8, 9], [1, 5, 9])])
def spec_DrawAclDiffer.B12 : List Nat := [0, 0, 0, 6, 15, 0, 0, 64, 224, 511, 1023]
theorem spec_DrawAclDiffer.tab12 : rtab .any (opsOf Try.f27 12) = spec_DrawAclDiffer.T12 := by kernel_rfl
theorem spec_DrawAclDiffer.bits12 : waitsOk spec_DrawAclDiffer.T12.2 spec_DrawAclDiffer.B12 = true := by kernel_rfl
theorem spec_DrawAclDiffer.zHB {P : Prop} (h : P := by repeat (first | (with_reducible first | exact HB.out | apply below_alloc | apply pw_below_drewN | apply below_drew1 | refine below_set ?_ (IsS117.ge HI103.out) | refine below_set ?_ GE119.out) | exact HB.out)) : P := h
theorem spec_DrawAclDiffer.zHI103 {P : Prop} (h : P := by repeat (first | (with_reducible first | exact HI103.out | apply IsS117.alloc | apply IsS117.drewN | apply IsS117.drew | apply IsS117.set_1 | refine IsS117.far ?_ NB103_119.out _) | exact HI103.out)) : P := h
theorem spec_DrawAclDiffer.zr {P Q : Prop} (x : Q) (h : Q → P := by intro x_; (with_reducible repeat (first | apply Kd.R_alloc | apply Kd.R_drewN | apply Kd.R_drew)); exact x_) : P := h x
theorem spec_DrawAclDiffer.zq {P Q : Prop} (x : Q) (h : Q → P := by intro x_; (with_reducible repeat (first | refine blk_drewN ?_ _ | refine blk_drew ?_ | refine blk_alloc ?_ _)); exact x_) : P := h x
theorem spec_DrawAclDiffer.zk {P Q : Prop} (x : Q) (h : Q → P := by intro x_; (with_reducible repeat (first | apply Kd.R_alloc | apply Kd.R_drewN | apply Kd.R_drew)); exact x_) : P := h x
def spec_DrawAclDiffer.zl (n k : Nat) : Array Bool := ((List.range n).map fun i => k.testBit i).toArray
theorem spec_DrawAclDiffer.y1 {P : Prop} (h : P := by have h_ : (t114 : Int) < ((y111.length : Int) : Int) := of_decide_eq_true (by first | (with_reducible assumption) | assumption); first | exact h_ | (have e_ := (Kd.R_reads' HO113.out).1; omega) | simpa using h_) : P := h
theorem spec_DrawAclDiffer.y2 {P : Prop} (h : P := by (try simp only [List.map_toArray, List.map_cons, List.map_nil]); first | done | rfl | (simp only [List.length_drop, List.length_take]; rfl)) : P := h
theorem spec_DrawAclDiffer.y3 {P : Prop} (h : P := by first | (with_reducible assumption) | assumption) : P := h
theorem spec_DrawAclDiffer.zA {p : Prop} (h : p) : Aside0 p := ⟨h⟩
set_option maxHeartbeats 8000000 in
set_option maxRecDepth 100000 in
theorem spec_DrawAclDiffer.calls (k : Nat) (A0 : Option Addr) (c0 : Nat) (l0 : List Int) (r1 : List (S54)) (r2 : List (S54)) (w : World) (hr0 : Kd.C (Kd.int .u8) w A0 l0.length l0) (hc0 : l0.length ≤ c0) (h : spec_DrawAclDiffer.f k l0 = some (r1, r2)) :
  Calls Try.prog 27 #[.slice A0 l0.length c0] w fun e w' => ∃ v0_ v1_ : Value, e = .returned (.tuple #[v0_, v1_]) ∧ Kd.R k54 54 w' w.heap.size (fun k_ => some k_ ≠ (v1_ : Value).ownBlock) v0_ r1 ∧ Kd.R k54 54 w' w.heap.size (fun k_ => some k_ ≠ (v0_ : Value).ownBlock) v1_ r2 ∧ Below w.heap.size w w' := by
 have hu54 := Try.underlying54
 have HR0 := zA hr0
 have HC0 := zA hc0
 clear hr0 hc0
 have HB := zA (Below.refl w.heap.size w)
 have H : ((spec_l1Open.f l0).bind fun bt101 => ((spec_l5AnyRules.f k bt101.1 bt101.2).bind fun bt104 => ((some (([] : List (S54)) : List (S54))).bind fun y108 => (if y108.length + bt104.1.length < 2932031007402 then ((some (y108 ++ bt104.1 : List (S54))).bind fun y111 => (if (y111.length : Int) > 1 then ((spec_l1Rd_pick.f k bt101.1 bt104.2 (wrap64 ((y111.length : Int) - 1))).bind fun bt114 => ((spec_l1Rd_pick.f k bt101.1 bt114.2 4).bind fun bt116 => (if bt116.1 = 0 then (if 0 ≤ bt114.1 then (if bt114.1 < (y111.length : Int) then (if 0 ≤ (wrap64 (bt114.1 + 1)) then (if (wrap64 (bt114.1 + 1)) < (y111.length : Int) then (spec_DrawAclDiffer.j0 k bt104.1 ((y111.set (bt114.1 : Int).toNat (⟨(rd_T54 y111 (wrap64 (bt114.1 + 1))).f0, (⟨(rd_T54 y111 (wrap64 (bt114.1 + 1))).f1.f0, (rd_T54 y111 (wrap64 (bt114.1 + 1))).f1.f1⟩ : S26), (⟨(rd_T54 y111 (wrap64 (bt114.1 + 1))).f2.f0, (rd_T54 y111 (wrap64 (bt114.1 + 1))).f2.f1⟩ : S26), (rd_T54 y111 (wrap64 (bt114.1 + 1))).f3⟩ : S54)).set ((wrap64 (bt114.1 + 1)) : Int).toNat (⟨(rd_T54 y111 bt114.1).f0, (⟨(rd_T54 y111 bt114.1).f1.f0, (rd_T54 y111 bt114.1).f1.f1⟩ : S26), (⟨(rd_T54 y111 bt114.1).f2.f0, (rd_T54 y111 bt114.1).f2.f1⟩ : S26), (rd_T54 y111 bt114.1).f3⟩ : S54)) bt101.1 bt116.2) else (none)) else (none)) else (none)) else (none)) else (if bt116.1 = 1 then ((some (([] : List (S54)) : List (S54))).bind fun y123 => (if 0 ≤ bt114.1 then (if bt114.1 ≤ (y111.length : Int) then ((some (y111.take (bt114.1 : Int).toNat : List (S54))).bind fun y126 => (if y123.length + y126.length < 2932031007402 then ((some (y123 ++ y126 : List (S54))).bind fun y130 => (if 0 ≤ (wrap64 (bt114.1 + 1)) then (if (wrap64 (bt114.1 + 1)) ≤ (y111.length : Int) then ((some (y111.drop ((wrap64 (bt114.1 + 1)) : Int).toNat : List (S54))).bind fun y133 => (if y130.length + y133.length < 2932031007402 then (spec_DrawAclDiffer.j0 k bt104.1 (y130 ++ y133) bt101.1 bt116.2) else (none))) else (none)) else (none))) else (none))) else (none)) else (none))) else (if bt116.1 = 2 then (if 0 ≤ bt114.1 then (if bt114.1 < (y111.length : Int) then (spec_DrawAclDiffer.j0 k bt104.1 (y111.set (bt114.1 : Int).toNat (⟨!((rd_T54 y111 bt114.1).f0), (⟨(rd_T54 y111 bt114.1).f1.f0, (rd_T54 y111 bt114.1).f1.f1⟩ : S26), (⟨(rd_T54 y111 bt114.1).f2.f0, (rd_T54 y111 bt114.1).f2.f1⟩ : S26), (rd_T54 y111 bt114.1).f3⟩ : S54)) bt101.1 bt116.2) else (none)) else (none)) else (spec_DrawAclDiffer.j0 k bt104.1 y111 bt101.1 bt116.2)))))) else (spec_DrawAclDiffer.j0 k bt104.1 y111 bt101.1 bt104.2))) else (none))))) = some (r1, r2) := h
 clear h
 replace H := Option.bind_eq_some_iff.mp H
 obtain ⟨⟨t101, t102⟩, A20, H⟩ := H
 replace H : ((spec_l5AnyRules.f k t101 t102).bind fun bt104 => ((some (([] : List (S54)) : List (S54))).bind fun y108 => (if y108.length + bt104.1.length < 2932031007402 then ((some (y108 ++ bt104.1 : List (S54))).bind fun y111 => (if (y111.length : Int) > 1 then ((spec_l1Rd_pick.f k t101 bt104.2 (wrap64 ((y111.length : Int) - 1))).bind fun bt114 => ((spec_l1Rd_pick.f k t101 bt114.2 4).bind fun bt116 => (if bt116.1 = 0 then (if 0 ≤ bt114.1 then (if bt114.1 < (y111.length : Int) then (if 0 ≤ (wrap64 (bt114.1 + 1)) then (if (wrap64 (bt114.1 + 1)) < (y111.length : Int) then (spec_DrawAclDiffer.j0 k bt104.1 ((y111.set (bt114.1 : Int).toNat (⟨(rd_T54 y111 (wrap64 (bt114.1 + 1))).f0, (⟨(rd_T54 y111 (wrap64 (bt114.1 + 1))).f1.f0, (rd_T54 y111 (wrap64 (bt114.1 + 1))).f1.f1⟩ : S26), (⟨(rd_T54 y111 (wrap64 (bt114.1 + 1))).f2.f0, (rd_T54 y111 (wrap64 (bt114.1 + 1))).f2.f1⟩ : S26), (rd_T54 y111 (wrap64 (bt114.1 + 1))).f3⟩ : S54)).set ((wrap64 (bt114.1 + 1)) : Int).toNat (⟨(rd_T54 y111 bt114.1).f0, (⟨(rd_T54 y111 bt114.1).f1.f0, (rd_T54 y111 bt114.1).f1.f1⟩ : S26), (⟨(rd_T54 y111 bt114.1).f2.f0, (rd_T54 y111 bt114.1).f2.f1⟩ : S26), (rd_T54 y111 bt114.1).f3⟩ : S54)) t101 bt116.2) else (none)) else (none)) else (none)) else (none)) else (if bt116.1 = 1 then ((some (([] : List (S54)) : List (S54))).bind fun y123 => (if 0 ≤ bt114.1 then (if bt114.1 ≤ (y111.length : Int) then ((some (y111.take (bt114.1 : Int).toNat : List (S54))).bind fun y126 => (if y123.length + y126.length < 2932031007402 then ((some (y123 ++ y126 : List (S54))).bind fun y130 => (if 0 ≤ (wrap64 (bt114.1 + 1)) then (if (wrap64 (bt114.1 + 1)) ≤ (y111.length : Int) then ((some (y111.drop ((wrap64 (bt114.1 + 1)) : Int).toNat : List (S54))).bind fun y133 => (if y130.length + y133.length < 2932031007402 then (spec_DrawAclDiffer.j0 k bt104.1 (y130 ++ y133) t101 bt116.2) else (none))) else (none)) else (none))) else (none))) else (none)) else (none))) else (if bt116.1 = 2 then (if 0 ≤ bt114.1 then (if bt114.1 < (y111.length : Int) then (spec_DrawAclDiffer.j0 k bt104.1 (y111.set (bt114.1 : Int).toNat (⟨!((rd_T54 y111 bt114.1).f0), (⟨(rd_T54 y111 bt114.1).f1.f0, (rd_T54 y111 bt114.1).f1.f1⟩ : S26), (⟨(rd_T54 y111 bt114.1).f2.f0, (rd_T54 y111 bt114.1).f2.f1⟩ : S26), (rd_T54 y111 bt114.1).f3⟩ : S54)) t101 bt116.2) else (none)) else (none)) else (spec_DrawAclDiffer.j0 k bt104.1 y111 t101 bt116.2)))))) else (spec_DrawAclDiffer.j0 k bt104.1 y111 t101 bt104.2))) else (none)))) = some (r1, r2) := H
 have A2 := zA A20
 clear A20
 replace H := Option.bind_eq_some_iff.mp H
 obtain ⟨⟨t104, t107⟩, A30, H⟩ := H
 replace H : ((some (([] : List (S54)) : List (S54))).bind fun y108 => (if y108.length + t104.length < 2932031007402 then ((some (y108 ++ t104 : List (S54))).bind fun y111 => (if (y111.length : Int) > 1 then ((spec_l1Rd_pick.f k t101 t107 (wrap64 ((y111.length : Int) - 1))).bind fun bt114 => ((spec_l1Rd_pick.f k t101 bt114.2 4).bind fun bt116 => (if bt116.1 = 0 then (if 0 ≤ bt114.1 then (if bt114.1 < (y111.length : Int) then (if 0 ≤ (wrap64 (bt114.1 + 1)) then (if (wrap64 (bt114.1 + 1)) < (y111.length : Int) then (spec_DrawAclDiffer.j0 k t104 ((y111.set (bt114.1 : Int).toNat (⟨(rd_T54 y111 (wrap64 (bt114.1 + 1))).f0, (⟨(rd_T54 y111 (wrap64 (bt114.1 + 1))).f1.f0, (rd_T54 y111 (wrap64 (bt114.1 + 1))).f1.f1⟩ : S26), (⟨(rd_T54 y111 (wrap64 (bt114.1 + 1))).f2.f0, (rd_T54 y111 (wrap64 (bt114.1 + 1))).f2.f1⟩ : S26), (rd_T54 y111 (wrap64 (bt114.1 + 1))).f3⟩ : S54)).set ((wrap64 (bt114.1 + 1)) : Int).toNat (⟨(rd_T54 y111 bt114.1).f0, (⟨(rd_T54 y111 bt114.1).f1.f0, (rd_T54 y111 bt114.1).f1.f1⟩ : S26), (⟨(rd_T54 y111 bt114.1).f2.f0, (rd_T54 y111 bt114.1).f2.f1⟩ : S26), (rd_T54 y111 bt114.1).f3⟩ : S54)) t101 bt116.2) else (none)) else (none)) else (none)) else (none)) else (if bt116.1 = 1 then ((some (([] : List (S54)) : List (S54))).bind fun y123 => (if 0 ≤ bt114.1 then (if bt114.1 ≤ (y111.length : Int) then ((some (y111.take (bt114.1 : Int).toNat : List (S54))).bind fun y126 => (if y123.length + y126.length < 2932031007402 then ((some (y123 ++ y126 : List (S54))).bind fun y130 => (if 0 ≤ (wrap64 (bt114.1 + 1)) then (if (wrap64 (bt114.1 + 1)) ≤ (y111.length : Int) then ((some (y111.drop ((wrap64 (bt114.1 + 1)) : Int).toNat : List (S54))).bind fun y133 => (if y130.length + y133.length < 2932031007402 then (spec_DrawAclDiffer.j0 k t104 (y130 ++ y133) t101 bt116.2) else (none))) else (none)) else (none))) else (none))) else (none)) else (none))) else (if bt116.1 = 2 then (if 0 ≤ bt114.1 then (if bt114.1 < (y111.length : Int) then (spec_DrawAclDiffer.j0 k t104 (y111.set (bt114.1 : Int).toNat (⟨!((rd_T54 y111 bt114.1).f0), (⟨(rd_T54 y111 bt114.1).f1.f0, (rd_T54 y111 bt114.1).f1.f1⟩ : S26), (⟨(rd_T54 y111 bt114.1).f2.f0, (rd_T54 y111 bt114.1).f2.f1⟩ : S26), (rd_T54 y111 bt114.1).f3⟩ : S54)) t101 bt116.2) else (none)) else (none)) else (spec_DrawAclDiffer.j0 k t104 y111 t101 bt116.2)))))) else (spec_DrawAclDiffer.j0 k t104 y111 t101 t107))) else (none))) = some (r1, r2) := H
 have A3 := zA A30
 clear A30
 obtain ⟨y108, hy108⟩ : ∃ y_ : List (S54), y_ = (([] : List (S54))) := ⟨_, rfl⟩
 replace H : (if y108.length + t104.length < 2932031007402 then ((some (y108 ++ t104 : List (S54))).bind fun y111 => (if (y111.length : Int) > 1 then ((spec_l1Rd_pick.f k t101 t107 (wrap64 ((y111.length : Int) - 1))).bind fun bt114 => ((spec_l1Rd_pick.f k t101 bt114.2 4).bind fun bt116 => (if bt116.1 = 0 then (if 0 ≤ bt114.1 then (if bt114.1 < (y111.length : Int) then (if 0 ≤ (wrap64 (bt114.1 + 1)) then (if (wrap64 (bt114.1 + 1)) < (y111.length : Int) then (spec_DrawAclDiffer.j0 k t104 ((y111.set (bt114.1 : Int).toNat (⟨(rd_T54 y111 (wrap64 (bt114.1 + 1))).f0, (⟨(rd_T54 y111 (wrap64 (bt114.1 + 1))).f1.f0, (rd_T54 y111 (wrap64 (bt114.1 + 1))).f1.f1⟩ : S26), (⟨(rd_T54 y111 (wrap64 (bt114.1 + 1))).f2.f0, (rd_T54 y111 (wrap64 (bt114.1 + 1))).f2.f1⟩ : S26), (rd_T54 y111 (wrap64 (bt114.1 + 1))).f3⟩ : S54)).set ((wrap64 (bt114.1 + 1)) : Int).toNat (⟨(rd_T54 y111 bt114.1).f0, (⟨(rd_T54 y111 bt114.1).f1.f0, (rd_T54 y111 bt114.1).f1.f1⟩ : S26), (⟨(rd_T54 y111 bt114.1).f2.f0, (rd_T54 y111 bt114.1).f2.f1⟩ : S26), (rd_T54 y111 bt114.1).f3⟩ : S54)) t101 bt116.2) else (none)) else (none)) else (none)) else (none)) else (if bt116.1 = 1 then ((some (([] : List (S54)) : List (S54))).bind fun y123 => (if 0 ≤ bt114.1 then (if bt114.1 ≤ (y111.length : Int) then ((some (y111.take (bt114.1 : Int).toNat : List (S54))).bind fun y126 => (if y123.length + y126.length < 2932031007402 then ((some (y123 ++ y126 : List (S54))).bind fun y130 => (if 0 ≤ (wrap64 (bt114.1 + 1)) then (if (wrap64 (bt114.1 + 1)) ≤ (y111.length : Int) then ((some (y111.drop ((wrap64 (bt114.1 + 1)) : Int).toNat : List (S54))).bind fun y133 => (if y130.length + y133.length < 2932031007402 then (spec_DrawAclDiffer.j0 k t104 (y130 ++ y133) t101 bt116.2) else (none))) else (none)) else (none))) else (none))) else (none)) else (none))) else (if bt116.1 = 2 then (if 0 ≤ bt114.1 then (if bt114.1 < (y111.length : Int) then (spec_DrawAclDiffer.j0 k t104 (y111.set (bt114.1 : Int).toNat (⟨!((rd_T54 y111 bt114.1).f0), (⟨(rd_T54 y111 bt114.1).f1.f0, (rd_T54 y111 bt114.1).f1.f1⟩ : S26), (⟨(rd_T54 y111 bt114.1).f2.f0, (rd_T54 y111 bt114.1).f2.f1⟩ : S26), (rd_T54 y111 bt114.1).f3⟩ : S54)) t101 bt116.2) else (none)) else (none)) else (spec_DrawAclDiffer.j0 k t104 y111 t101 bt116.2)))))) else (spec_DrawAclDiffer.j0 k t104 y111 t101 t107))) else (none)) = some (r1, r2) := by first | (rw [hy108]; with_reducible exact H) | (have H2_ := (Option.bind_some _ _).symm.trans H; rw [hy108]; with_reducible exact H2_) | (have H2_ := (Option.bind_some _ _).symm.trans H; with_reducible exact H2_) | with_reducible exact H | (rw [hy108]; exact H) | exact H
 have Ny108 := zA hy108
 clear hy108
 by_cases c4 : y108.length + t104.length < 2932031007402
 ·rw [if_pos c4] at H
  have LMc4 := zA c4
  clear c4
  obtain ⟨y111, hy111⟩ : ∃ y_ : List (S54), y_ = (y108 ++ t104) := ⟨_, rfl⟩
  replace H : (if (y111.length : Int) > 1 then ((spec_l1Rd_pick.f k t101 t107 (wrap64 ((y111.length : Int) - 1))).bind fun bt114 => ((spec_l1Rd_pick.f k t101 bt114.2 4).bind fun bt116 => (if bt116.1 = 0 then (if 0 ≤ bt114.1 then (if bt114.1 < (y111.length : Int) then (if 0 ≤ (wrap64 (bt114.1 + 1)) then (if (wrap64 (bt114.1 + 1)) < (y111.length : Int) then (spec_DrawAclDiffer.j0 k t104 ((y111.set (bt114.1 : Int).toNat (⟨(rd_T54 y111 (wrap64 (bt114.1 + 1))).f0, (⟨(rd_T54 y111 (wrap64 (bt114.1 + 1))).f1.f0, (rd_T54 y111 (wrap64 (bt114.1 + 1))).f1.f1⟩ : S26), (⟨(rd_T54 y111 (wrap64 (bt114.1 + 1))).f2.f0, (rd_T54 y111 (wrap64 (bt114.1 + 1))).f2.f1⟩ : S26), (rd_T54 y111 (wrap64 (bt114.1 + 1))).f3⟩ : S54)).set ((wrap64 (bt114.1 + 1)) : Int).toNat (⟨(rd_T54 y111 bt114.1).f0, (⟨(rd_T54 y111 bt114.1).f1.f0, (rd_T54 y111 bt114.1).f1.f1⟩ : S26), (⟨(rd_T54 y111 bt114.1).f2.f0, (rd_T54 y111 bt114.1).f2.f1⟩ : S26), (rd_T54 y111 bt114.1).f3⟩ : S54)) t101 bt116.2) else (none)) else (none)) else (none)) else (none)) else (if bt116.1 = 1 then ((some (([] : List (S54)) : List (S54))).bind fun y123 => (if 0 ≤ bt114.1 then (if bt114.1 ≤ (y111.length : Int) then ((some (y111.take (bt114.1 : Int).toNat : List (S54))).bind fun y126 => (if y123.length + y126.length < 2932031007402 then ((some (y123 ++ y126 : List (S54))).bind fun y130 => (if 0 ≤ (wrap64 (bt114.1 + 1)) then (if (wrap64 (bt114.1 + 1)) ≤ (y111.length : Int) then ((some (y111.drop ((wrap64 (bt114.1 + 1)) : Int).toNat : List (S54))).bind fun y133 => (if y130.length + y133.length < 2932031007402 then (spec_DrawAclDiffer.j0 k t104 (y130 ++ y133) t101 bt116.2) else (none))) else (none)) else (none))) else (none))) else (none)) else (none))) else (if bt116.1 = 2 then (if 0 ≤ bt114.1 then (if bt114.1 < (y111.length : Int) then (spec_DrawAclDiffer.j0 k t104 (y111.set (bt114.1 : Int).toNat (⟨!((rd_T54 y111 bt114.1).f0), (⟨(rd_T54 y111 bt114.1).f1.f0, (rd_T54 y111 bt114.1).f1.f1⟩ : S26), (⟨(rd_T54 y111 bt114.1).f2.f0, (rd_T54 y111 bt114.1).f2.f1⟩ : S26), (rd_T54 y111 bt114.1).f3⟩ : S54)) t101 bt116.2) else (none)) else (none)) else (spec_DrawAclDiffer.j0 k t104 y111 t101 bt116.2)))))) else (spec_DrawAclDiffer.j0 k t104 y111 t101 t107)) = some (r1, r2) := by first | (rw [hy111]; with_reducible exact H) | (have H2_ := (Option.bind_some _ _).symm.trans H; rw [hy111]; with_reducible exact H2_) | (have H2_ := (Option.bind_some _ _).symm.trans H; with_reducible exact H2_) | with_reducible exact H | (rw [hy111]; exact H) | exact H
  have Ny111 := zA hy111
  clear hy111
  have HC5 := zA H
  clear H
  go_enter Try.func27, Try.ntmps27
  go_upto_if 18 with (first | ((with_reducible refine gate_callee (f := 79) rfl ?_); refine goesL_ (some 10) rfl rfl Try.func79 (by kernel_rfl) rfl #[.slice A0 l0.length c0] rfl y2  ?_; (with_reducible refine (spec_l1Open.calls _ _ l0 t101 t102 w _ ?side1 ?side2 ?side3 A2.out).mono ?_); (case side1 => exact zHB); (case side2 => exact HR0.out); (case side3 => exact HC0.out); rintro e w6 ⟨g103, rfl, hi, hb, hb2⟩; refine ⟨_, rfl, ?_⟩; have n0_ := zA (hb); have n1_ := zA (hi); clear HB; have HB := n0_; have HI103 := n1_; clear n0_ n1_; (try clear hb); (try clear hb2); (try clear hk); (try clear hi)) | ((with_reducible refine gate_callee (f := 80) rfl ?_); refine goesL_ (some 12) rfl rfl Try.func80 (by kernel_rfl) rfl #[.pointer (some ⟨g103, 0, none⟩)] rfl y2  ?_; (with_reducible refine (spec_l5AnyRules.calls k g103 t101 t102 t104 t107 w _ ?side1 ?side2 A3.out).mono ?_); (case side1 => exact zHI103); (case side2 => exact zHB); rintro e w7 ⟨v105, rfl, ho0, hi, hb, hk⟩; refine ⟨_, rfl, ?_⟩; have n0_ := zA (Kd.R_lower ho0 (below_size (zHB))); have n1_ := zA (hb); have n2_ := zA (hi); clear HB; clear HI103; have HO106 := n0_; have HB := n1_; have HI103 := n2_; clear n0_ n1_ n2_; (try clear hb); (try clear hb2); (try clear hk); (try clear hi); (try clear ho0)) | ((with_reducible refine gate_dst (N := 13) rfl ?_); refine Kd.R_lit k54 _ 54 ?hg (N := 13) ?hd (xs := ([] : List (S54))) (inner := []) (ok := fun _ => True) (okp := fun _ => True) ?hr ?hp (fun _ hk => hk) trivial (Below.refl _ _) (Nat.le_refl _) (by simp) ?_; (case hd => rfl); (case hg => rfl); (case hr => first | (go_simp; done) | (go_simp; rfl)); (case hp => exact (Reps.none _ _)); intro v109 w8 ho9 hb hg_ hnew_; clear hg_ hnew_; (first | rw [← Ny108.out] at ho9 | (simp only [Int.reduceToNat] at ho9; rw [← Ny108.out] at ho9)); have n0_ := zA (Kd.R_elder' (zr HO106.out) (Kd.R_base ho9) hb); have n1_ := zA (Kd.R_lower (Kd.R_new' ho9 (Kd.R_lt (zr HO106.out))) (below_size (zHB))); have n2_ := zA (IsS117.below (zHI103) hb); have n3_ := zA (below_step (zHB) hb); clear HO106; clear HI103; clear HB; have HO106 := n0_; have HO110 := n1_; have HI103 := n2_; have HB := n3_; clear n0_ n1_ n2_ n3_; clear hb ho9; obtain ⟨Ao11, co11, eo11⟩ := Kd.R_slice HO106.out; subst eo11) | ((with_reducible refine gate_builtin (b := .append) (xs := #[.tmp 13, .tmp 14]) rfl ?_); at_builtin; refine Kd.R_append_rows k54 (w0 := w) w.heap.size rfl (.tmp 13) (.tmp 14) 30 54 (.agg #[(.bool false), (.int .i64 0), (.int .i64 0), (.int .i64 0), (.int .i64 0), (.int .i64 0)]) 48 rfl Try.underlying30 info54 rfl (by decide) (by omega) v109 y108 t104 _ _ _ (fun k_ => some k_ ≠ (.slice Ao11 t104.length co11 : Value).ownBlock) (fun _ => False) rfl rfl ?aO ?aR (fun _ _ h => h) (fun _ h => h.elim) ?aF ?aB ?aS ?aL ?_; (case aR => repeat (first | exact (Kd.R_reads' HO106.out).2.2 | (with_reducible refine Kd.C_alloc ?_ _) | (with_reducible refine Kd.C_drewN ?_ _) | (with_reducible refine Kd.C_drew ?_))); (case aB => exact (zHB)); (case aF => exact (fun k_ hk => Kd.fresh' (Kd.R_lt (zr HO106.out)) k_ hk)); (case aO => exact (by refine zk ?_; exact Kd.R_mono HO110.out (fun _ hk => hk.2))); (case aS => exact (below_size (zHB))); (case aL => have := LMc4.out; omega); intro v112 w10 ho hb hg hat; rw [← Ny111.out] at ho; have n0_ := zA (IsS117.grown (zHI103) hg (IsS117.own_ne HI103.out HO110.out (by decide))); have n1_ := zA (Kd.R_after (ok := (fun _ => True)) (zr HO106.out) hg hat); have n2_ := zA (hb); have n3_ := zA (ho); clear HI103; clear HO106; clear HB; clear HO110; have HI103 := n0_; have HO106 := n1_; have HB := n2_; have HO113 := n3_; clear n0_ n1_ n2_ n3_; clear ho hb hg hat; obtain ⟨Ao12, co12, eo12⟩ := Kd.R_slice HO113.out; subst eo12))
  (try simp only [Act.put, List.setIfInBounds_toArray, List.set_cons_zero, List.set_cons_succ])
  go_cut [6] (fun v6 wc => ∃ (kq : Nat) (x5_4 : List (S54)) (x6_4 : List (S54)) (x104001_4 : Int), Aside0 (spec_DrawAclDiffer.j0 kq x5_4 x6_4 t101 x104001_4 = some (r1, r2)) ∧ Aside0 (kq ≤ k) ∧ Aside0 (Kd.R k54 54 wc w.heap.size (fun k_ => some k_ ≠ (v6 : Value).ownBlock) (.slice Ao11 t104.length co11) x5_4) ∧ Aside0 (Kd.R k54 54 wc w.heap.size (fun k_ => some k_ ≠ ((.slice Ao11 t104.length co11) : Value).ownBlock) v6 x6_4) ∧ Aside0 (IsS117 w wc g103 t101 x104001_4) ∧ Aside0 (Below w.heap.size w wc))
  case first =>
   have H := HC5.out
   clear HC5
   by_cases c13 : (y111.length : Int) > 1
   ·rw [if_pos c13] at H
    have c13b0 : decide (1 < (y111.length : Int)) = true := decide_eq_true c13
    have c13b1 : decide (1 < y111.length) = true := decide_eq_true (by omega)
    clear c13
    (first | rw [c13b0] | (simp only [i64_w, i32_w]; rw [c13b0]) | skip)
    replace H := Option.bind_eq_some_iff.mp H
    obtain ⟨⟨t114, t115⟩, A140, H⟩ := H
    replace H : ((spec_l1Rd_pick.f k t101 t115 4).bind fun bt116 => (if bt116.1 = 0 then (if 0 ≤ t114 then (if t114 < (y111.length : Int) then (if 0 ≤ (wrap64 (t114 + 1)) then (if (wrap64 (t114 + 1)) < (y111.length : Int) then (spec_DrawAclDiffer.j0 k t104 ((y111.set (t114 : Int).toNat (⟨(rd_T54 y111 (wrap64 (t114 + 1))).f0, (⟨(rd_T54 y111 (wrap64 (t114 + 1))).f1.f0, (rd_T54 y111 (wrap64 (t114 + 1))).f1.f1⟩ : S26), (⟨(rd_T54 y111 (wrap64 (t114 + 1))).f2.f0, (rd_T54 y111 (wrap64 (t114 + 1))).f2.f1⟩ : S26), (rd_T54 y111 (wrap64 (t114 + 1))).f3⟩ : S54)).set ((wrap64 (t114 + 1)) : Int).toNat (⟨(rd_T54 y111 t114).f0, (⟨(rd_T54 y111 t114).f1.f0, (rd_T54 y111 t114).f1.f1⟩ : S26), (⟨(rd_T54 y111 t114).f2.f0, (rd_T54 y111 t114).f2.f1⟩ : S26), (rd_T54 y111 t114).f3⟩ : S54)) t101 bt116.2) else (none)) else (none)) else (none)) else (none)) else (if bt116.1 = 1 then ((some (([] : List (S54)) : List (S54))).bind fun y123 => (if 0 ≤ t114 then (if t114 ≤ (y111.length : Int) then ((some (y111.take (t114 : Int).toNat : List (S54))).bind fun y126 => (if y123.length + y126.length < 2932031007402 then ((some (y123 ++ y126 : List (S54))).bind fun y130 => (if 0 ≤ (wrap64 (t114 + 1)) then (if (wrap64 (t114 + 1)) ≤ (y111.length : Int) then ((some (y111.drop ((wrap64 (t114 + 1)) : Int).toNat : List (S54))).bind fun y133 => (if y130.length + y133.length < 2932031007402 then (spec_DrawAclDiffer.j0 k t104 (y130 ++ y133) t101 bt116.2) else (none))) else (none)) else (none))) else (none))) else (none)) else (none))) else (if bt116.1 = 2 then (if 0 ≤ t114 then (if t114 < (y111.length : Int) then (spec_DrawAclDiffer.j0 k t104 (y111.set (t114 : Int).toNat (⟨!((rd_T54 y111 t114).f0), (⟨(rd_T54 y111 t114).f1.f0, (rd_T54 y111 t114).f1.f1⟩ : S26), (⟨(rd_T54 y111 t114).f2.f0, (rd_T54 y111 t114).f2.f1⟩ : S26), (rd_T54 y111 t114).f3⟩ : S54)) t101 bt116.2) else (none)) else (none)) else (spec_DrawAclDiffer.j0 k t104 y111 t101 bt116.2))))) = some (r1, r2) := H
    have A14 := zA A140
    clear A140
    replace H := Option.bind_eq_some_iff.mp H
    obtain ⟨⟨t116, t117⟩, A150, H⟩ := H
    replace H : (if t116 = 0 then (if 0 ≤ t114 then (if t114 < (y111.length : Int) then (if 0 ≤ (wrap64 (t114 + 1)) then (if (wrap64 (t114 + 1)) < (y111.length : Int) then (spec_DrawAclDiffer.j0 k t104 ((y111.set (t114 : Int).toNat (⟨(rd_T54 y111 (wrap64 (t114 + 1))).f0, (⟨(rd_T54 y111 (wrap64 (t114 + 1))).f1.f0, (rd_T54 y111 (wrap64 (t114 + 1))).f1.f1⟩ : S26), (⟨(rd_T54 y111 (wrap64 (t114 + 1))).f2.f0, (rd_T54 y111 (wrap64 (t114 + 1))).f2.f1⟩ : S26), (rd_T54 y111 (wrap64 (t114 + 1))).f3⟩ : S54)).set ((wrap64 (t114 + 1)) : Int).toNat (⟨(rd_T54 y111 t114).f0, (⟨(rd_T54 y111 t114).f1.f0, (rd_T54 y111 t114).f1.f1⟩ : S26), (⟨(rd_T54 y111 t114).f2.f0, (rd_T54 y111 t114).f2.f1⟩ : S26), (rd_T54 y111 t114).f3⟩ : S54)) t101 t117) else (none)) else (none)) else (none)) else (none)) else (if t116 = 1 then ((some (([] : List (S54)) : List (S54))).bind fun y123 => (if 0 ≤ t114 then (if t114 ≤ (y111.length : Int) then ((some (y111.take (t114 : Int).toNat : List (S54))).bind fun y126 => (if y123.length + y126.length < 2932031007402 then ((some (y123 ++ y126 : List (S54))).bind fun y130 => (if 0 ≤ (wrap64 (t114 + 1)) then (if (wrap64 (t114 + 1)) ≤ (y111.length : Int) then ((some (y111.drop ((wrap64 (t114 + 1)) : Int).toNat : List (S54))).bind fun y133 => (if y130.length + y133.length < 2932031007402 then (spec_DrawAclDiffer.j0 k t104 (y130 ++ y133) t101 t117) else (none))) else (none)) else (none))) else (none))) else (none)) else (none))) else (if t116 = 2 then (if 0 ≤ t114 then (if t114 < (y111.length : Int) then (spec_DrawAclDiffer.j0 k t104 (y111.set (t114 : Int).toNat (⟨!((rd_T54 y111 t114).f0), (⟨(rd_T54 y111 t114).f1.f0, (rd_T54 y111 t114).f1.f1⟩ : S26), (⟨(rd_T54 y111 t114).f2.f0, (rd_T54 y111 t114).f2.f1⟩ : S26), (rd_T54 y111 t114).f3⟩ : S54)) t101 t117) else (none)) else (none)) else (spec_DrawAclDiffer.j0 k t104 y111 t101 t117)))) = some (r1, r2) := H
    have A15 := zA A150
    clear A150
    by_cases c16 : t116 = 0
    ·rw [if_pos c16] at H
     have c16b0 : (t116 == 0) = true := beq_iff_eq.mpr c16
     have c16b1 : (t116 != 0) = false := bne_eq_false_iff_eq.mpr c16
     clear c16
     by_cases c17 : 0 ≤ t114
     ·rw [if_pos c17] at H
      have c17b0 : decide (0 ≤ t114) = true := decide_eq_true c17
      clear c17
      by_cases c18 : t114 < (y111.length : Int)
      ·rw [if_pos c18] at H
       have c18b0 : decide (t114 < (y111.length : Int)) = true := decide_eq_true c18
       clear c18
       obtain ⟨ji19, hji19⟩ : ∃ j_ : Int, (wrap64 (t114 + 1)) = j_ := ⟨_, rfl⟩
       replace H : (if 0 ≤ (ji19) then (if (ji19) < (y111.length : Int) then (spec_DrawAclDiffer.j0 k t104 ((y111.set (t114 : Int).toNat (⟨(rd_T54 y111 (ji19)).f0, (⟨(rd_T54 y111 (ji19)).f1.f0, (rd_T54 y111 (ji19)).f1.f1⟩ : S26), (⟨(rd_T54 y111 (ji19)).f2.f0, (rd_T54 y111 (ji19)).f2.f1⟩ : S26), (rd_T54 y111 (ji19)).f3⟩ : S54)).set ((ji19) : Int).toNat (⟨(rd_T54 y111 t114).f0, (⟨(rd_T54 y111 t114).f1.f0, (rd_T54 y111 t114).f1.f1⟩ : S26), (⟨(rd_T54 y111 t114).f2.f0, (rd_T54 y111 t114).f2.f1⟩ : S26), (rd_T54 y111 t114).f3⟩ : S54)) t101 t117) else (none)) else (none)) = some (r1, r2) := by first | (rw [hji19] at H; exact H) | (simp only [hji19] at H ⊢; exact H)
       (try rw [hji19] at A14)
       (try rw [hji19] at A15)
       have hji19w : (IntKind.i64.wrap (t114 + 1)) = ji19 := (i64_w _).trans hji19
       by_cases c20 : 0 ≤ (ji19)
       ·rw [if_pos c20] at H
        have c20b0 : decide (0 ≤ (ji19)) = true := decide_eq_true c20
        clear c20
        by_cases c21 : (ji19) < (y111.length : Int)
        ·rw [if_pos c21] at H
         have c21b0 : decide ((ji19) < (y111.length : Int)) = true := decide_eq_true c21
         clear c21
         obtain ⟨y121, hy121⟩ : ∃ y_ : List (S54), y_ = (y111.set (t114 : Int).toNat (⟨(rd_T54 y111 (ji19)).f0, (⟨(rd_T54 y111 (ji19)).f1.f0, (rd_T54 y111 (ji19)).f1.f1⟩ : S26), (⟨(rd_T54 y111 (ji19)).f2.f0, (rd_T54 y111 (ji19)).f2.f1⟩ : S26), (rd_T54 y111 (ji19)).f3⟩ : S54)) := ⟨_, rfl⟩
         replace H : (spec_DrawAclDiffer.j0 k t104 (y121.set ((ji19) : Int).toNat (⟨(rd_T54 y111 t114).f0, (⟨(rd_T54 y111 t114).f1.f0, (rd_T54 y111 t114).f1.f1⟩ : S26), (⟨(rd_T54 y111 t114).f2.f0, (rd_T54 y111 t114).f2.f1⟩ : S26), (rd_T54 y111 t114).f3⟩ : S54)) t101 t117) = some (r1, r2) := by first | (rw [hy121]; with_reducible exact H) | (have H2_ := (Option.bind_some _ _).symm.trans H; rw [hy121]; with_reducible exact H2_) | (have H2_ := (Option.bind_some _ _).symm.trans H; with_reducible exact H2_) | with_reducible exact H | (rw [hy121]; exact H) | exact H
         have Ny121 := zA hy121
         clear hy121
         obtain ⟨y122, hy122⟩ : ∃ y_ : List (S54), y_ = (y121.set ((ji19) : Int).toNat (⟨(rd_T54 y111 t114).f0, (⟨(rd_T54 y111 t114).f1.f0, (rd_T54 y111 t114).f1.f1⟩ : S26), (⟨(rd_T54 y111 t114).f2.f0, (rd_T54 y111 t114).f2.f1⟩ : S26), (rd_T54 y111 t114).f3⟩ : S54)) := ⟨_, rfl⟩
         replace H : (spec_DrawAclDiffer.j0 k t104 y122 t101 t117) = some (r1, r2) := by first | (rw [hy122]; with_reducible exact H) | (have H2_ := (Option.bind_some _ _).symm.trans H; rw [hy122]; with_reducible exact H2_) | (have H2_ := (Option.bind_some _ _).symm.trans H; with_reducible exact H2_) | with_reducible exact H | (rw [hy122]; exact H) | exact H
         have Ny122 := zA hy122
         clear hy122
         have H' := zA H
         clear H
         go_wp2_with (first | ((with_reducible refine gate_callee (f := 81) rfl ?_); refine goesL_ (some 23) rfl rfl Try.func81 (by kernel_rfl) rfl #[.pointer (some ⟨g103, 0, none⟩), .int .i64 (wrap64 ((y111.length : Int) - 1))] rfl y2  ?_; (with_reducible refine (spec_l1Rd_pick.calls k g103 t101 t107 (wrap64 ((y111.length : Int) - 1)) t114 t115 w _ ?side1 ?side2 A14.out).mono ?_); (case side1 => exact zHI103); (case side2 => exact zHB); rintro e w24 ⟨rfl, hi, hb, hk⟩; refine ⟨_, rfl, ?_⟩; have n0_ := zA (Kd.R_mono (Kd.R_keep (IsS117.apart (show IsS117 w _ g103 t101 t107 from zHI103) (zr HO106.out) (by decide)) hk (fun _ h => h.2)) (fun _ h => h.1)); have n1_ := zA (Kd.R_mono (Kd.R_keep (IsS117.apart (show IsS117 w _ g103 t101 t107 from zHI103) (zr HO113.out) (by decide)) hk (fun _ h => h.2)) (fun _ h => h.1)); have n2_ := zA (hb); have n3_ := zA (hi); clear HO106; clear HO113; clear HB; clear HI103; have HO106 := n0_; have HO113 := n1_; have HB := n2_; have HI103 := n3_; clear n0_ n1_ n2_ n3_; (try clear hb); (try clear hb2); (try clear hk); (try clear hi)) | ((with_reducible refine gate_callee (f := 81) rfl ?_); refine goesL_ (some 25) rfl rfl Try.func81 (by kernel_rfl) rfl #[.pointer (some ⟨g103, 0, none⟩), .int .i64 4] rfl y2  ?_; (with_reducible refine (spec_l1Rd_pick.calls k g103 t101 t115 4 t116 t117 w _ ?side1 ?side2 A15.out).mono ?_); (case side1 => exact zHI103); (case side2 => exact zHB); rintro e w25 ⟨rfl, hi, hb, hk⟩; refine ⟨_, rfl, ?_⟩; have n0_ := zA (Kd.R_mono (Kd.R_keep (IsS117.apart (show IsS117 w _ g103 t101 t115 from zHI103) (zr HO106.out) (by decide)) hk (fun _ h => h.2)) (fun _ h => h.1)); have n1_ := zA (Kd.R_mono (Kd.R_keep (IsS117.apart (show IsS117 w _ g103 t101 t115 from zHI103) (zr HO113.out) (by decide)) hk (fun _ h => h.2)) (fun _ h => h.1)); have n2_ := zA (hb); have n3_ := zA (hi); clear HO106; clear HO113; clear HB; clear HI103; have HO106 := n0_; have HO113 := n1_; have HB := n2_; have HI103 := n3_; clear n0_ n1_ n2_ n3_; (try clear hb); (try clear hb2); (try clear hk); (try clear hi); have p118 : 0 ≤ (t114 : Int) := of_decide_eq_true y3 ; have q118 : t114 < (y111.length : Int) := of_decide_eq_true y3 ; obtain ⟨ad118, e118, hx118_0, hx118_1, hx118_2, hx118_3, hx118_4, hx118_5⟩ := at_T54 (Kd.R_reads' HO113.out).2.2 t114 p118 q118; cases e118; replace p118 := eq_true p118; replace q118 := eq_true q118) | ((with_reducible refine gate_dst (N := 8) rfl ?_); refine box_event ?hg (N := 8) ?hd (cs := #[.bool false, .int .i64 0, .int .i64 0, .int .i64 0, .int .i64 0, .int .i64 0]) (t := 54) ?hr ?_; (case hd => rfl); (case hg => rfl); (case hr => first | (go_simp; done) | (go_simp; rfl)); intro gb119 hg w26 hbox hb; have n0_ := zA (Kd.R_below (Kd.R_elderB (zr HO106.out) gb119 (Nat.le_of_eq hg.symm)) hb); have n1_ := zA (Kd.R_below (Kd.R_elderB (zr HO113.out) gb119 (Nat.le_of_eq hg.symm)) hb); have n2_ := zA (IsS117.below (zHI103) hb); have n3_ := zA (below_step (zHB) hb); have n4_ := zA (hbox); have n5_ := zA ((by rw [hg]; exact (below_size (zHB)) : w.heap.size ≤ gb119)); have n6_ := zA ((by rw [hg]; exact (below_size (zHB)) : w.heap.size ≤ gb119)); have n7_ := zA ((by rw [hg]; exact Nat.ne_of_lt (IsS117.lt (show IsS117 w _ g103 t101 t117 from zHI103)) : g103 ≠ gb119)); have n8_ := zA ((by rw [hg]; exact Nat.ne_of_gt (IsS117.lt (show IsS117 w _ g103 t101 t117 from zHI103)) : gb119 ≠ g103)); clear HO106; clear HO113; clear HI103; clear HB; have HO106 := n0_; have HO113 := n1_; have HI103 := n2_; have HB := n3_; have BK119 := n4_; have GW119 := n5_; have GE119 := n6_; have NB103_119 := n7_; have NB119_103 := n8_; clear n0_ n1_ n2_ n3_ n4_ n5_ n6_ n7_ n8_; clear hb hbox hg; have hnb27 := NB119_103.out; have hnc27 := NB103_119.out; have hcz28_0 : w26.cell? ⟨gb119, 0, none⟩ = some (.bool false) := (blk_cell BK119.out 0).trans rfl; have hcz28_1 : w26.cell? ⟨gb119, 1, none⟩ = some (.int .i64 0) := (blk_cell BK119.out 1).trans rfl; have hcz28_2 : w26.cell? ⟨gb119, 2, none⟩ = some (.int .i64 0) := (blk_cell BK119.out 2).trans rfl; have hcz28_3 : w26.cell? ⟨gb119, 3, none⟩ = some (.int .i64 0) := (blk_cell BK119.out 3).trans rfl; have hcz28_4 : w26.cell? ⟨gb119, 4, none⟩ = some (.int .i64 0) := (blk_cell BK119.out 4).trans rfl; have hcz28_5 : w26.cell? ⟨gb119, 5, none⟩ = some (.int .i64 0) := (blk_cell BK119.out 5).trans rfl; have hfz28_0 := blk_frozen BK119.out 0; have hfz28_1 := blk_frozen BK119.out 1; have hfz28_2 := blk_frozen BK119.out 2; have hfz28_3 := blk_frozen BK119.out 3; have hfz28_4 := blk_frozen BK119.out 4; have hfz28_5 := blk_frozen BK119.out 5) | ((with_reducible refine gate_store (t := 54) (p := 8) rfl ?_); refine store_event (t := 54) (p := 8) (v := ?vo_w29) (w1 := ((((((w26.setCell ⟨gb119, 0, none⟩ (.bool ((rd_T54 y111 t114).f0))).setCell ⟨gb119, 1, none⟩ (.int .i64 ((rd_T54 y111 t114).f1.f0))).setCell ⟨gb119, 2, none⟩ (.int .i64 ((rd_T54 y111 t114).f1.f1))).setCell ⟨gb119, 3, none⟩ (.int .i64 ((rd_T54 y111 t114).f2.f0))).setCell ⟨gb119, 4, none⟩ (.int .i64 ((rd_T54 y111 t114).f2.f1))).setCell ⟨gb119, 5, none⟩ (.int .i64 ((rd_T54 y111 t114).f3)))) ?hg ?ho ?hn ?hr ?_; (case ho => rfl); (case hg => rfl); (case hn => rfl); (case hr => first | (go_simp; done) | (go_simp; rfl)); intro w29 hw; have n0_ : Aside0 (Kd.R k54 54 w29 w.heap.size (fun k_ => some k_ ≠ (.slice (some ad118) y111.length co12 : Value).ownBlock ∧ k_ ≠ gb119) (.slice Ao11 t104.length co11) t104) := ⟨(by rw [hw]; exact (by refine zk ?_; exact Kd.R_mono (Kd.R_far (p := ⟨gb119, 5, none⟩) (Kd.R_far (p := ⟨gb119, 4, none⟩) (Kd.R_far (p := ⟨gb119, 3, none⟩) (Kd.R_far (p := ⟨gb119, 2, none⟩) (Kd.R_far (p := ⟨gb119, 1, none⟩) (Kd.R_far (p := ⟨gb119, 0, none⟩) (Kd.R_mono HO106.out (fun k_ hk => (⟨hk, hk.2⟩ : _ ∧ k_ ≠ gb119))) (fun _ hk => hk.2) (.bool ((rd_T54 y111 t114).f0))) (fun _ hk => hk.2) (.int .i64 ((rd_T54 y111 t114).f1.f0))) (fun _ hk => hk.2) (.int .i64 ((rd_T54 y111 t114).f1.f1))) (fun _ hk => hk.2) (.int .i64 ((rd_T54 y111 t114).f2.f0))) (fun _ hk => hk.2) (.int .i64 ((rd_T54 y111 t114).f2.f1))) (fun _ hk => hk.2) (.int .i64 ((rd_T54 y111 t114).f3))) (fun _ hk => ⟨hk.1.1.2, hk.1.2⟩)))⟩; have n1_ : Aside0 (Kd.R k54 54 w29 w.heap.size (fun k_ => some k_ ≠ (.slice Ao11 t104.length co11 : Value).ownBlock ∧ k_ ≠ gb119) (.slice (some ad118) y111.length co12) y111) := ⟨(by rw [hw]; exact (by refine zk ?_; exact Kd.R_mono (Kd.R_far (p := ⟨gb119, 5, none⟩) (Kd.R_far (p := ⟨gb119, 4, none⟩) (Kd.R_far (p := ⟨gb119, 3, none⟩) (Kd.R_far (p := ⟨gb119, 2, none⟩) (Kd.R_far (p := ⟨gb119, 1, none⟩) (Kd.R_far (p := ⟨gb119, 0, none⟩) (Kd.R_mono HO113.out (fun k_ hk => (⟨hk, hk.2⟩ : _ ∧ k_ ≠ gb119))) (fun _ hk => hk.2) (.bool ((rd_T54 y111 t114).f0))) (fun _ hk => hk.2) (.int .i64 ((rd_T54 y111 t114).f1.f0))) (fun _ hk => hk.2) (.int .i64 ((rd_T54 y111 t114).f1.f1))) (fun _ hk => hk.2) (.int .i64 ((rd_T54 y111 t114).f2.f0))) (fun _ hk => hk.2) (.int .i64 ((rd_T54 y111 t114).f2.f1))) (fun _ hk => hk.2) (.int .i64 ((rd_T54 y111 t114).f3))) (fun _ hk => ⟨hk.1.1, hk.1.2⟩)))⟩; have n2_ : Aside0 (w29.heap[gb119]? = some (.cells #[.bool ((rd_T54 y111 t114).f0), .int .i64 ((rd_T54 y111 t114).f1.f0), .int .i64 ((rd_T54 y111 t114).f1.f1), .int .i64 ((rd_T54 y111 t114).f2.f0), .int .i64 ((rd_T54 y111 t114).f2.f1), .int .i64 ((rd_T54 y111 t114).f3)] 54 (0, 0))) := ⟨(by rw [hw]; exact (by refine zq ?_; refine blk_put (cs := #[.bool ((rd_T54 y111 t114).f0), .int .i64 ((rd_T54 y111 t114).f1.f0), .int .i64 ((rd_T54 y111 t114).f1.f1), .int .i64 ((rd_T54 y111 t114).f2.f0), .int .i64 ((rd_T54 y111 t114).f2.f1), .int .i64 0]) ?_ 5 _ rfl; refine zq ?_; refine blk_put (cs := #[.bool ((rd_T54 y111 t114).f0), .int .i64 ((rd_T54 y111 t114).f1.f0), .int .i64 ((rd_T54 y111 t114).f1.f1), .int .i64 ((rd_T54 y111 t114).f2.f0), .int .i64 0, .int .i64 0]) ?_ 4 _ rfl; refine zq ?_; refine blk_put (cs := #[.bool ((rd_T54 y111 t114).f0), .int .i64 ((rd_T54 y111 t114).f1.f0), .int .i64 ((rd_T54 y111 t114).f1.f1), .int .i64 0, .int .i64 0, .int .i64 0]) ?_ 3 _ rfl; refine zq ?_; refine blk_put (cs := #[.bool ((rd_T54 y111 t114).f0), .int .i64 ((rd_T54 y111 t114).f1.f0), .int .i64 0, .int .i64 0, .int .i64 0, .int .i64 0]) ?_ 2 _ rfl; refine zq ?_; refine blk_put (cs := #[.bool ((rd_T54 y111 t114).f0), .int .i64 0, .int .i64 0, .int .i64 0, .int .i64 0, .int .i64 0]) ?_ 1 _ rfl; refine zq ?_; refine blk_put (cs := #[.bool false, .int .i64 0, .int .i64 0, .int .i64 0, .int .i64 0, .int .i64 0]) ?_ 0 _ rfl; refine zq ?_; exact BK119.out))⟩; have n3_ : Aside0 (IsS117 w w29 g103 t101 t117) := ⟨(by rw [hw]; exact (zHI103))⟩; have n4_ : Aside0 (Below w.heap.size w w29) := ⟨(by rw [hw]; exact (zHB))⟩; clear hw; clear HO106; clear HO113; clear BK119; clear HI103; clear HB; have HO106 := n0_; have HO113 := n1_; have BK119 := n2_; have HI103 := n3_; have HB := n4_; clear n0_ n1_ n2_ n3_ n4_; have p120 : 0 ≤ ((ji19) : Int) := of_decide_eq_true y3 ; have q120 : (ji19) < (y111.length : Int) := of_decide_eq_true y3 ; obtain ⟨ad120, e120, hx120_0, hx120_1, hx120_2, hx120_3, hx120_4, hx120_5⟩ := at_T54 (Kd.R_reads' HO113.out).2.2 (ji19) p120 q120; obtain rfl : ad118 = ad120 := (by injection e120); replace p120 := eq_true p120; replace q120 := eq_true q120; have p22 : 0 ≤ (t114 : Int) := of_decide_eq_true y3 ; have q22 : (t114 : Int) < ((y111.length : Int) : Int) := of_decide_eq_true y3 ; obtain ⟨go22, co22, eo22, gb22, gl22, cl22, HG22⟩ := Kd.R_form HO113.out (by omega); (first | cases eo22 | (injection eo22 with ea_ en_ ec_; (first | subst ea_ | (injection ea_ with ea_; subst ea_)); subst ec_; clear en_)); have GB22 := zA gb22; have GG22 := zA HG22; clear gb22 gl22 HG22; (first | simp only [add_plain] at hx118_0 | skip); (first | simp only [add_plain] at hx118_1 | skip); (first | simp only [add_plain] at hx118_2 | skip); (first | simp only [add_plain] at hx118_3 | skip); (first | simp only [add_plain] at hx118_4 | skip); (first | simp only [add_plain] at hx118_5 | skip); (first | simp only [add_plain] at hx120_0 | skip); (first | simp only [add_plain] at hx120_1 | skip); (first | simp only [add_plain] at hx120_2 | skip); (first | simp only [add_plain] at hx120_3 | skip); (first | simp only [add_plain] at hx120_4 | skip); (first | simp only [add_plain] at hx120_5 | skip); obtain ⟨ce22, hcl22, hM22, hcc22, hfr22⟩ := Kd.R_elem HO113.out z54 (t114 : Int) p22 q22; obtain rfl := k54_openM hM22; have hx22_0 : w29.cell? ⟨go22, (t114 : Int).toNat * 6, none⟩ = some (.bool ((rd_T54 y111 t114).f0)) := hcc22 0 _ rfl; have hx22_1 : w29.cell? ⟨go22, (t114 : Int).toNat * 6 + 1, none⟩ = some (.int .i64 ((rd_T54 y111 t114).f1.f0)) := hcc22 1 _ rfl; have hx22_2 : w29.cell? ⟨go22, (t114 : Int).toNat * 6 + 2, none⟩ = some (.int .i64 ((rd_T54 y111 t114).f1.f1)) := hcc22 2 _ rfl; have hx22_3 : w29.cell? ⟨go22, (t114 : Int).toNat * 6 + 3, none⟩ = some (.int .i64 ((rd_T54 y111 t114).f2.f0)) := hcc22 3 _ rfl; have hx22_4 : w29.cell? ⟨go22, (t114 : Int).toNat * 6 + 4, none⟩ = some (.int .i64 ((rd_T54 y111 t114).f2.f1)) := hcc22 4 _ rfl; have hx22_5 : w29.cell? ⟨go22, (t114 : Int).toNat * 6 + 5, none⟩ = some (.int .i64 ((rd_T54 y111 t114).f3)) := hcc22 5 _ rfl; have hf22_0 : w29.frozen? ⟨go22, (t114 : Int).toNat * 6, none⟩ = false := hfr22 0; have hf22_1 : w29.frozen? ⟨go22, (t114 : Int).toNat * 6 + 1, none⟩ = false := hfr22 1; have hf22_2 : w29.frozen? ⟨go22, (t114 : Int).toNat * 6 + 2, none⟩ = false := hfr22 2; have hf22_3 : w29.frozen? ⟨go22, (t114 : Int).toNat * 6 + 3, none⟩ = false := hfr22 3; have hf22_4 : w29.frozen? ⟨go22, (t114 : Int).toNat * 6 + 4, none⟩ = false := hfr22 4; have hf22_5 : w29.frozen? ⟨go22, (t114 : Int).toNat * 6 + 5, none⟩ = false := hfr22 5; clear hcl22 hcc22 hfr22 hM22; replace p22 := eq_true p22; replace q22 := eq_true q22; have HX30 := zA (show Kd.R k54 54 w29 w.heap.size (fun k_ => some k_ ≠ (.slice Ao11 t104.length co11 : Value).ownBlock ∧ k_ ≠ gb119) (.slice (some ⟨go22, 0, none⟩) y111.length co12) y111 from (zr HO113.out)); obtain ⟨ce30, hcl30, hM30, hcc30, hfr30⟩ := Kd.R_elem HX30.out z54 (t114 : Int) (of_decide_eq_true y3 ) y1 ; obtain rfl := k54_openM hM30; have HP30 := Kd.R_seg HX30.out (t114 : Int) (of_decide_eq_true y3 ) y1  (seg := [.bool ((rd_T54 y111 (ji19)).f0), .int .i64 ((rd_T54 y111 (ji19)).f1.f0), .int .i64 ((rd_T54 y111 (ji19)).f1.f1), .int .i64 ((rd_T54 y111 (ji19)).f2.f0), .int .i64 ((rd_T54 y111 (ji19)).f2.f1), .int .i64 ((rd_T54 y111 (ji19)).f3)]) (j := 0) hcl30 hcc30 (show 6 ≤ 6 from by decide) (x' := (⟨(rd_T54 y111 (ji19)).f0, (⟨(rd_T54 y111 (ji19)).f1.f0, (rd_T54 y111 (ji19)).f1.f1⟩ : S26), (⟨(rd_T54 y111 (ji19)).f2.f0, (rd_T54 y111 (ji19)).f2.f1⟩ : S26), (rd_T54 y111 (ji19)).f3⟩ : S54)) (k54_mkM _ _ _ (⟨(rd_T54 y111 (ji19)).f0, (⟨(rd_T54 y111 (ji19)).f1.f0, (rd_T54 y111 (ji19)).f1.f1⟩ : S26), (⟨(rd_T54 y111 (ji19)).f2.f0, (rd_T54 y111 (ji19)).f2.f1⟩ : S26), (rd_T54 y111 (ji19)).f3⟩ : S54) ) (fun _ hk => hk); have hx30_0 := hcc30 0 _ rfl; (try simp only [show (k54).sz = 6 from rfl, Nat.mul_one, Nat.add_zero] at hx30_0); have hf30_0 := hfr30 0; (try simp only [show (k54).sz = 6 from rfl, Nat.mul_one, Nat.add_zero] at hf30_0); have hx30_1 := hcc30 1 _ rfl; (try simp only [show (k54).sz = 6 from rfl, Nat.mul_one, Nat.add_zero] at hx30_1); have hf30_1 := hfr30 1; (try simp only [show (k54).sz = 6 from rfl, Nat.mul_one, Nat.add_zero] at hf30_1); have hx30_2 := hcc30 2 _ rfl; (try simp only [show (k54).sz = 6 from rfl, Nat.mul_one, Nat.add_zero] at hx30_2); have hf30_2 := hfr30 2; (try simp only [show (k54).sz = 6 from rfl, Nat.mul_one, Nat.add_zero] at hf30_2); have hx30_3 := hcc30 3 _ rfl; (try simp only [show (k54).sz = 6 from rfl, Nat.mul_one, Nat.add_zero] at hx30_3); have hf30_3 := hfr30 3; (try simp only [show (k54).sz = 6 from rfl, Nat.mul_one, Nat.add_zero] at hf30_3); have hx30_4 := hcc30 4 _ rfl; (try simp only [show (k54).sz = 6 from rfl, Nat.mul_one, Nat.add_zero] at hx30_4); have hf30_4 := hfr30 4; (try simp only [show (k54).sz = 6 from rfl, Nat.mul_one, Nat.add_zero] at hf30_4); have hx30_5 := hcc30 5 _ rfl; (try simp only [show (k54).sz = 6 from rfl, Nat.mul_one, Nat.add_zero] at hx30_5); have hf30_5 := hfr30 5; (try simp only [show (k54).sz = 6 from rfl, Nat.mul_one, Nat.add_zero] at hf30_5); clear hcl30 hcc30 hfr30 hM30) | ((with_reducible refine gate_store (t := 54) (p := 39) rfl ?_); refine store_event (t := 54) (p := 39) (v := ?vo_w31) (w1 := ((((((w29.setCell ⟨go22, (t114 : Int).toNat * 6, none⟩ (.bool ((rd_T54 y111 (ji19)).f0))).setCell ⟨go22, (t114 : Int).toNat * 6 + 1, none⟩ (.int .i64 ((rd_T54 y111 (ji19)).f1.f0))).setCell ⟨go22, (t114 : Int).toNat * 6 + 2, none⟩ (.int .i64 ((rd_T54 y111 (ji19)).f1.f1))).setCell ⟨go22, (t114 : Int).toNat * 6 + 3, none⟩ (.int .i64 ((rd_T54 y111 (ji19)).f2.f0))).setCell ⟨go22, (t114 : Int).toNat * 6 + 4, none⟩ (.int .i64 ((rd_T54 y111 (ji19)).f2.f1))).setCell ⟨go22, (t114 : Int).toNat * 6 + 5, none⟩ (.int .i64 ((rd_T54 y111 (ji19)).f3)))) ?hg ?ho ?hn ?hr ?_; (case ho => rfl); (case hg => rfl); (case hn => rfl); (case hr => first | (go_simp; done) | (go_simp; rfl)); intro w31 hw; have hg : w29.grownBy w31 (some go22) := (by rw [hw]; exact HP30.2); have hp_ : Kd.R k54 54 w31 w.heap.size (fun k_ => some k_ ≠ (.slice Ao11 t104.length co11 : Value).ownBlock ∧ k_ ≠ gb119) (.slice (some ⟨go22, 0, none⟩) y111.length co12) y121 := (by rw [hw, Ny121.out]; exact HP30.1); clear HP30; have n0_ := zA (IsS117.grown (zHI103) hg (IsS117.own_ne HI103.out HO113.out (by decide))); have n1_ := zA (Kd.R_after (v := (.slice (some ⟨go22, 0, none⟩) y111.length co12)) (v1 := (.slice (some ⟨go22, 0, none⟩) y111.length co12)) (ok := (fun k_ => k_ ≠ gb119)) (by refine zk ?_; exact Kd.R_mono HO106.out (fun _ hk => ⟨hk.2, hk.1⟩)) hg (.inl rfl)); have n2_ := zA (hp_); have n3_ := zA (blk_grown (g := gb119) (o := .cells #[.bool ((rd_T54 y111 t114).f0), .int .i64 ((rd_T54 y111 t114).f1.f0), .int .i64 ((rd_T54 y111 t114).f1.f1), .int .i64 ((rd_T54 y111 t114).f2.f0), .int .i64 ((rd_T54 y111 t114).f2.f1), .int .i64 ((rd_T54 y111 t114).f3)] 54 (0, 0)) (by refine zq ?_; exact BK119.out) hg (Kd.R_away HO113.out (fun _ hk => hk.2))); have n4_ := zA ((by rw [hw]; exact below_set (below_set (below_set (below_set (below_set (below_set (HB.out) GB22.out) GB22.out) GB22.out) GB22.out) GB22.out) GB22.out : Below w.heap.size w w31)); clear HI103; clear HO106; clear HO113; clear BK119; clear HB; have HI103 := n0_; have HO106 := n1_; have HO113 := n2_; have BK119 := n3_; have HB := n4_; clear n0_ n1_ n2_ n3_ n4_; clear hg hw hp_; have hcz32_0 : w31.cell? ⟨gb119, 0, none⟩ = some (.bool ((rd_T54 y111 t114).f0)) := (blk_cell BK119.out 0).trans rfl; have hcz32_1 : w31.cell? ⟨gb119, 1, none⟩ = some (.int .i64 ((rd_T54 y111 t114).f1.f0)) := (blk_cell BK119.out 1).trans rfl; have hcz32_2 : w31.cell? ⟨gb119, 2, none⟩ = some (.int .i64 ((rd_T54 y111 t114).f1.f1)) := (blk_cell BK119.out 2).trans rfl; have hcz32_3 : w31.cell? ⟨gb119, 3, none⟩ = some (.int .i64 ((rd_T54 y111 t114).f2.f0)) := (blk_cell BK119.out 3).trans rfl; have hcz32_4 : w31.cell? ⟨gb119, 4, none⟩ = some (.int .i64 ((rd_T54 y111 t114).f2.f1)) := (blk_cell BK119.out 4).trans rfl; have hcz32_5 : w31.cell? ⟨gb119, 5, none⟩ = some (.int .i64 ((rd_T54 y111 t114).f3)) := (blk_cell BK119.out 5).trans rfl; have hfz32_0 := blk_frozen BK119.out 0; have hfz32_1 := blk_frozen BK119.out 1; have hfz32_2 := blk_frozen BK119.out 2; have hfz32_3 := blk_frozen BK119.out 3; have hfz32_4 := blk_frozen BK119.out 4; have hfz32_5 := blk_frozen BK119.out 5; have p23 : 0 ≤ ((ji19) : Int) := of_decide_eq_true y3 ; have q23 : ((ji19) : Int) < ((y111.length : Int) : Int) := of_decide_eq_true y3 ; obtain ⟨ce23, hcl23, hM23, hcc23, hfr23⟩ := Kd.R_elem HO113.out z54 ((ji19) : Int) p23 q23; obtain rfl := k54_openM hM23; have hx23_0 : w31.cell? ⟨go22, ((ji19) : Int).toNat * 6, none⟩ = some (.bool ((rd_T54 y121 (ji19)).f0)) := hcc23 0 _ rfl; have hx23_1 : w31.cell? ⟨go22, ((ji19) : Int).toNat * 6 + 1, none⟩ = some (.int .i64 ((rd_T54 y121 (ji19)).f1.f0)) := hcc23 1 _ rfl; have hx23_2 : w31.cell? ⟨go22, ((ji19) : Int).toNat * 6 + 2, none⟩ = some (.int .i64 ((rd_T54 y121 (ji19)).f1.f1)) := hcc23 2 _ rfl; have hx23_3 : w31.cell? ⟨go22, ((ji19) : Int).toNat * 6 + 3, none⟩ = some (.int .i64 ((rd_T54 y121 (ji19)).f2.f0)) := hcc23 3 _ rfl; have hx23_4 : w31.cell? ⟨go22, ((ji19) : Int).toNat * 6 + 4, none⟩ = some (.int .i64 ((rd_T54 y121 (ji19)).f2.f1)) := hcc23 4 _ rfl; have hx23_5 : w31.cell? ⟨go22, ((ji19) : Int).toNat * 6 + 5, none⟩ = some (.int .i64 ((rd_T54 y121 (ji19)).f3)) := hcc23 5 _ rfl; have hf23_0 : w31.frozen? ⟨go22, ((ji19) : Int).toNat * 6, none⟩ = false := hfr23 0; have hf23_1 : w31.frozen? ⟨go22, ((ji19) : Int).toNat * 6 + 1, none⟩ = false := hfr23 1; have hf23_2 : w31.frozen? ⟨go22, ((ji19) : Int).toNat * 6 + 2, none⟩ = false := hfr23 2; have hf23_3 : w31.frozen? ⟨go22, ((ji19) : Int).toNat * 6 + 3, none⟩ = false := hfr23 3; have hf23_4 : w31.frozen? ⟨go22, ((ji19) : Int).toNat * 6 + 4, none⟩ = false := hfr23 4; have hf23_5 : w31.frozen? ⟨go22, ((ji19) : Int).toNat * 6 + 5, none⟩ = false := hfr23 5; clear hcl23 hcc23 hfr23 hM23; replace p23 := eq_true p23; replace q23 := eq_true q23; have HX33 := zA (show Kd.R k54 54 w31 w.heap.size (fun k_ => some k_ ≠ (.slice Ao11 t104.length co11 : Value).ownBlock ∧ k_ ≠ gb119) (.slice (some ⟨go22, 0, none⟩) y111.length co12) y121 from (zr HO113.out)); obtain ⟨ce33, hcl33, hM33, hcc33, hfr33⟩ := Kd.R_elem HX33.out z54 ((ji19) : Int) (of_decide_eq_true y3 ) (by have h_ : ((ji19) : Int) < ((y111.length : Int) : Int) := of_decide_eq_true y3 ; first | exact h_ | (have e_ := (Kd.R_reads' HO113.out).1; omega) | simpa using h_); obtain rfl := k54_openM hM33; have HP33 := Kd.R_seg HX33.out ((ji19) : Int) (of_decide_eq_true y3 ) (by have h_ : ((ji19) : Int) < ((y111.length : Int) : Int) := of_decide_eq_true y3 ; first | exact h_ | (have e_ := (Kd.R_reads' HO113.out).1; omega) | simpa using h_) (seg := [.bool ((rd_T54 y111 t114).f0), .int .i64 ((rd_T54 y111 t114).f1.f0), .int .i64 ((rd_T54 y111 t114).f1.f1), .int .i64 ((rd_T54 y111 t114).f2.f0), .int .i64 ((rd_T54 y111 t114).f2.f1), .int .i64 ((rd_T54 y111 t114).f3)]) (j := 0) hcl33 hcc33 (show 6 ≤ 6 from by decide) (x' := (⟨(rd_T54 y111 t114).f0, (⟨(rd_T54 y111 t114).f1.f0, (rd_T54 y111 t114).f1.f1⟩ : S26), (⟨(rd_T54 y111 t114).f2.f0, (rd_T54 y111 t114).f2.f1⟩ : S26), (rd_T54 y111 t114).f3⟩ : S54)) (k54_mkM _ _ _ (⟨(rd_T54 y111 t114).f0, (⟨(rd_T54 y111 t114).f1.f0, (rd_T54 y111 t114).f1.f1⟩ : S26), (⟨(rd_T54 y111 t114).f2.f0, (rd_T54 y111 t114).f2.f1⟩ : S26), (rd_T54 y111 t114).f3⟩ : S54) ) (fun _ hk => hk); have hx33_0 := hcc33 0 _ rfl; (try simp only [show (k54).sz = 6 from rfl, Nat.mul_one, Nat.add_zero] at hx33_0); have hf33_0 := hfr33 0; (try simp only [show (k54).sz = 6 from rfl, Nat.mul_one, Nat.add_zero] at hf33_0); have hx33_1 := hcc33 1 _ rfl; (try simp only [show (k54).sz = 6 from rfl, Nat.mul_one, Nat.add_zero] at hx33_1); have hf33_1 := hfr33 1; (try simp only [show (k54).sz = 6 from rfl, Nat.mul_one, Nat.add_zero] at hf33_1); have hx33_2 := hcc33 2 _ rfl; (try simp only [show (k54).sz = 6 from rfl, Nat.mul_one, Nat.add_zero] at hx33_2); have hf33_2 := hfr33 2; (try simp only [show (k54).sz = 6 from rfl, Nat.mul_one, Nat.add_zero] at hf33_2); have hx33_3 := hcc33 3 _ rfl; (try simp only [show (k54).sz = 6 from rfl, Nat.mul_one, Nat.add_zero] at hx33_3); have hf33_3 := hfr33 3; (try simp only [show (k54).sz = 6 from rfl, Nat.mul_one, Nat.add_zero] at hf33_3); have hx33_4 := hcc33 4 _ rfl; (try simp only [show (k54).sz = 6 from rfl, Nat.mul_one, Nat.add_zero] at hx33_4); have hf33_4 := hfr33 4; (try simp only [show (k54).sz = 6 from rfl, Nat.mul_one, Nat.add_zero] at hf33_4); have hx33_5 := hcc33 5 _ rfl; (try simp only [show (k54).sz = 6 from rfl, Nat.mul_one, Nat.add_zero] at hx33_5); have hf33_5 := hfr33 5; (try simp only [show (k54).sz = 6 from rfl, Nat.mul_one, Nat.add_zero] at hf33_5); clear hcl33 hcc33 hfr33 hM33) | ((with_reducible refine gate_store (t := 54) (p := 44) rfl ?_); refine store_event (t := 54) (p := 44) (v := ?vo_w34) (w1 := ((((((w31.setCell ⟨go22, ((ji19) : Int).toNat * 6, none⟩ (.bool ((rd_T54 y111 t114).f0))).setCell ⟨go22, ((ji19) : Int).toNat * 6 + 1, none⟩ (.int .i64 ((rd_T54 y111 t114).f1.f0))).setCell ⟨go22, ((ji19) : Int).toNat * 6 + 2, none⟩ (.int .i64 ((rd_T54 y111 t114).f1.f1))).setCell ⟨go22, ((ji19) : Int).toNat * 6 + 3, none⟩ (.int .i64 ((rd_T54 y111 t114).f2.f0))).setCell ⟨go22, ((ji19) : Int).toNat * 6 + 4, none⟩ (.int .i64 ((rd_T54 y111 t114).f2.f1))).setCell ⟨go22, ((ji19) : Int).toNat * 6 + 5, none⟩ (.int .i64 ((rd_T54 y111 t114).f3)))) ?hg ?ho ?hn ?hr ?_; (case ho => rfl); (case hg => rfl); (case hn => rfl); (case hr => first | (go_simp; done) | (go_simp; rfl)); intro w34 hw; have hg : w31.grownBy w34 (some go22) := (by rw [hw]; exact HP33.2); have hp_ : Kd.R k54 54 w34 w.heap.size (fun k_ => some k_ ≠ (.slice Ao11 t104.length co11 : Value).ownBlock ∧ k_ ≠ gb119) (.slice (some ⟨go22, 0, none⟩) y111.length co12) y122 := (by rw [hw, Ny122.out]; exact HP33.1); clear HP33; have n0_ := zA (IsS117.grown (zHI103) hg (IsS117.own_ne HI103.out HO113.out (by decide))); have n1_ := zA (Kd.R_after (v := (.slice (some ⟨go22, 0, none⟩) y111.length co12)) (v1 := (.slice (some ⟨go22, 0, none⟩) y111.length co12)) (ok := (fun k_ => k_ ≠ gb119)) (zr HO106.out) hg (.inl rfl)); have n2_ := zA (hp_); have n3_ := zA (blk_grown (g := gb119) (o := .cells #[.bool ((rd_T54 y111 t114).f0), .int .i64 ((rd_T54 y111 t114).f1.f0), .int .i64 ((rd_T54 y111 t114).f1.f1), .int .i64 ((rd_T54 y111 t114).f2.f0), .int .i64 ((rd_T54 y111 t114).f2.f1), .int .i64 ((rd_T54 y111 t114).f3)] 54 (0, 0)) (by refine zq ?_; exact BK119.out) hg (Kd.R_away HO113.out (fun _ hk => hk.2))); have n4_ := zA ((by rw [hw]; exact below_set (below_set (below_set (below_set (below_set (below_set (HB.out) GB22.out) GB22.out) GB22.out) GB22.out) GB22.out) GB22.out : Below w.heap.size w w34)); clear HI103; clear HO106; clear HO113; clear BK119; clear HB; have HI103 := n0_; have HO106 := n1_; have HO113 := n2_; have BK119 := n3_; have HB := n4_; clear n0_ n1_ n2_ n3_ n4_; clear hg hw hp_))
         go_meet
         case rel => exact ⟨_, (t104), (y122), (t117), H', ⟨by first | omega | exact Nat.le_refl _⟩, ⟨by refine zk ?_; exact Kd.R_mono HO106.out (fun _ hk => hk.2)⟩, ⟨by refine zk ?_; exact Kd.R_mono HO113.out (fun _ hk => hk.1)⟩, ⟨zHI103⟩, ⟨zHB⟩⟩
        rw [if_neg c21] at H
        exact absurd H (by simp)
       rw [if_neg c20] at H
       exact absurd H (by simp)
      rw [if_neg c18] at H
      exact absurd H (by simp)
     rw [if_neg c17] at H
     exact absurd H (by simp)
    rw [if_neg c16] at H
    have c16b0 : (t116 == 0) = false := beq_eq_false_iff_ne.mpr c16
    have c16b1 : (t116 != 0) = true := bne_iff_ne.mpr c16
    by_cases c35 : t116 = 1
    ·rw [if_pos c35] at H
     have c35b0 : (t116 == 1) = true := beq_iff_eq.mpr c35
     have c35b1 : (t116 != 1) = false := bne_eq_false_iff_eq.mpr c35
     clear c35
     obtain ⟨y123, hy123⟩ : ∃ y_ : List (S54), y_ = (([] : List (S54))) := ⟨_, rfl⟩
     replace H : (if 0 ≤ t114 then (if t114 ≤ (y111.length : Int) then ((some (y111.take (t114 : Int).toNat : List (S54))).bind fun y126 => (if y123.length + y126.length < 2932031007402 then ((some (y123 ++ y126 : List (S54))).bind fun y130 => (if 0 ≤ (wrap64 (t114 + 1)) then (if (wrap64 (t114 + 1)) ≤ (y111.length : Int) then ((some (y111.drop ((wrap64 (t114 + 1)) : Int).toNat : List (S54))).bind fun y133 => (if y130.length + y133.length < 2932031007402 then (spec_DrawAclDiffer.j0 k t104 (y130 ++ y133) t101 t117) else (none))) else (none)) else (none))) else (none))) else (none)) else (none)) = some (r1, r2) := by first | (rw [hy123]; with_reducible exact H) | (have H2_ := (Option.bind_some _ _).symm.trans H; rw [hy123]; with_reducible exact H2_) | (have H2_ := (Option.bind_some _ _).symm.trans H; with_reducible exact H2_) | with_reducible exact H | (rw [hy123]; exact H) | exact H
     have Ny123 := zA hy123
     clear hy123
     by_cases c36 : 0 ≤ t114
     ·rw [if_pos c36] at H
      have c36b0 := eq_true c36
      have c36b1 : decide (0 ≤ t114) = true := decide_eq_true c36
      clear c36
      by_cases c37 : t114 ≤ (y111.length : Int)
      ·rw [if_pos c37] at H
       have c37b0 := eq_true c37
       have c37b1 : decide (t114 ≤ (y111.length : Int)) = true := decide_eq_true c37
       clear c37
       obtain ⟨y126, hy126⟩ : ∃ y_ : List (S54), y_ = (y111.take (t114 : Int).toNat) := ⟨_, rfl⟩
       replace H : (if y123.length + y126.length < 2932031007402 then ((some (y123 ++ y126 : List (S54))).bind fun y130 => (if 0 ≤ (wrap64 (t114 + 1)) then (if (wrap64 (t114 + 1)) ≤ (y111.length : Int) then ((some (y111.drop ((wrap64 (t114 + 1)) : Int).toNat : List (S54))).bind fun y133 => (if y130.length + y133.length < 2932031007402 then (spec_DrawAclDiffer.j0 k t104 (y130 ++ y133) t101 t117) else (none))) else (none)) else (none))) else (none)) = some (r1, r2) := by first | (rw [hy126]; with_reducible exact H) | (have H2_ := (Option.bind_some _ _).symm.trans H; rw [hy126]; with_reducible exact H2_) | (have H2_ := (Option.bind_some _ _).symm.trans H; with_reducible exact H2_) | with_reducible exact H | (rw [hy126]; exact H) | exact H
       have Ny126 := zA hy126
       clear hy126
       by_cases c38 : y123.length + y126.length < 2932031007402
       ·rw [if_pos c38] at H
        have LMc38 := zA c38
        clear c38
        obtain ⟨y130, hy130⟩ : ∃ y_ : List (S54), y_ = (y123 ++ y126) := ⟨_, rfl⟩
        replace H : (if 0 ≤ (wrap64 (t114 + 1)) then (if (wrap64 (t114 + 1)) ≤ (y111.length : Int) then ((some (y111.drop ((wrap64 (t114 + 1)) : Int).toNat : List (S54))).bind fun y133 => (if y130.length + y133.length < 2932031007402 then (spec_DrawAclDiffer.j0 k t104 (y130 ++ y133) t101 t117) else (none))) else (none)) else (none)) = some (r1, r2) := by first | (rw [hy130]; with_reducible exact H) | (have H2_ := (Option.bind_some _ _).symm.trans H; rw [hy130]; with_reducible exact H2_) | (have H2_ := (Option.bind_some _ _).symm.trans H; with_reducible exact H2_) | with_reducible exact H | (rw [hy130]; exact H) | exact H
        have Ny130 := zA hy130
        clear hy130
        obtain ⟨ji39, hji39⟩ : ∃ j_ : Int, (wrap64 (t114 + 1)) = j_ := ⟨_, rfl⟩
        replace H : (if 0 ≤ (ji39) then (if (ji39) ≤ (y111.length : Int) then ((some (y111.drop ((ji39) : Int).toNat : List (S54))).bind fun y133 => (if y130.length + y133.length < 2932031007402 then (spec_DrawAclDiffer.j0 k t104 (y130 ++ y133) t101 t117) else (none))) else (none)) else (none)) = some (r1, r2) := by first | (rw [hji39] at H; exact H) | (simp only [hji39] at H ⊢; exact H)
        (try rw [hji39] at A14)
        (try rw [hji39] at A15)
        have hji39w : (IntKind.i64.wrap (t114 + 1)) = ji39 := (i64_w _).trans hji39
        by_cases c40 : 0 ≤ (ji39)
        ·rw [if_pos c40] at H
         have c40b0 := eq_true c40
         have c40b1 : decide (0 ≤ (ji39)) = true := decide_eq_true c40
         clear c40
         by_cases c41 : (ji39) ≤ (y111.length : Int)
         ·rw [if_pos c41] at H
          have c41b0 := eq_true c41
          have c41b1 : decide ((ji39) ≤ (y111.length : Int)) = true := decide_eq_true c41
          clear c41
          obtain ⟨y133, hy133⟩ : ∃ y_ : List (S54), y_ = (y111.drop ((ji39) : Int).toNat) := ⟨_, rfl⟩
          replace H : (if y130.length + y133.length < 2932031007402 then (spec_DrawAclDiffer.j0 k t104 (y130 ++ y133) t101 t117) else (none)) = some (r1, r2) := by first | (rw [hy133]; with_reducible exact H) | (have H2_ := (Option.bind_some _ _).symm.trans H; rw [hy133]; with_reducible exact H2_) | (have H2_ := (Option.bind_some _ _).symm.trans H; with_reducible exact H2_) | with_reducible exact H | (rw [hy133]; exact H) | exact H
          have Ny133 := zA hy133
          clear hy133
          by_cases c42 : y130.length + y133.length < 2932031007402
          ·rw [if_pos c42] at H
           have LMc42 := zA c42
           clear c42
           obtain ⟨y137, hy137⟩ : ∃ y_ : List (S54), y_ = (y130 ++ y133) := ⟨_, rfl⟩
           replace H : (spec_DrawAclDiffer.j0 k t104 y137 t101 t117) = some (r1, r2) := by first | (rw [hy137]; with_reducible exact H) | (have H2_ := (Option.bind_some _ _).symm.trans H; rw [hy137]; with_reducible exact H2_) | (have H2_ := (Option.bind_some _ _).symm.trans H; with_reducible exact H2_) | with_reducible exact H | (rw [hy137]; exact H) | exact H
           have Ny137 := zA hy137
           clear hy137
           have H' := zA H
           clear H
           try go_wp2_with (first | ((with_reducible refine gate_callee (f := 81) rfl ?_); refine goesL_ (some 23) rfl rfl Try.func81 (by kernel_rfl) rfl #[.pointer (some ⟨g103, 0, none⟩), .int .i64 (wrap64 ((y111.length : Int) - 1))] rfl y2  ?_; (with_reducible refine (spec_l1Rd_pick.calls k g103 t101 t107 (wrap64 ((y111.length : Int) - 1)) t114 t115 w _ ?side1 ?side2 A14.out).mono ?_); (case side1 => exact zHI103); (case side2 => exact zHB); rintro e w43 ⟨rfl, hi, hb, hk⟩; refine ⟨_, rfl, ?_⟩; have n0_ := zA (Kd.R_mono (Kd.R_keep (IsS117.apart (show IsS117 w _ g103 t101 t107 from zHI103) (zr HO106.out) (by decide)) hk (fun _ h => h.2)) (fun _ h => h.1)); have n1_ := zA (Kd.R_mono (Kd.R_keep (IsS117.apart (show IsS117 w _ g103 t101 t107 from zHI103) (zr HO113.out) (by decide)) hk (fun _ h => h.2)) (fun _ h => h.1)); have n2_ := zA (hb); have n3_ := zA (hi); clear HO106; clear HO113; clear HB; clear HI103; have HO106 := n0_; have HO113 := n1_; have HB := n2_; have HI103 := n3_; clear n0_ n1_ n2_ n3_; (try clear hb); (try clear hb2); (try clear hk); (try clear hi)) | ((with_reducible refine gate_callee (f := 81) rfl ?_); refine goesL_ (some 25) rfl rfl Try.func81 (by kernel_rfl) rfl #[.pointer (some ⟨g103, 0, none⟩), .int .i64 4] rfl y2  ?_; (with_reducible refine (spec_l1Rd_pick.calls k g103 t101 t115 4 t116 t117 w _ ?side1 ?side2 A15.out).mono ?_); (case side1 => exact zHI103); (case side2 => exact zHB); rintro e w44 ⟨rfl, hi, hb, hk⟩; refine ⟨_, rfl, ?_⟩; have n0_ := zA (Kd.R_mono (Kd.R_keep (IsS117.apart (show IsS117 w _ g103 t101 t115 from zHI103) (zr HO106.out) (by decide)) hk (fun _ h => h.2)) (fun _ h => h.1)); have n1_ := zA (Kd.R_mono (Kd.R_keep (IsS117.apart (show IsS117 w _ g103 t101 t115 from zHI103) (zr HO113.out) (by decide)) hk (fun _ h => h.2)) (fun _ h => h.1)); have n2_ := zA (hb); have n3_ := zA (hi); clear HO106; clear HO113; clear HB; clear HI103; have HO106 := n0_; have HO113 := n1_; have HB := n2_; have HI103 := n3_; clear n0_ n1_ n2_ n3_; (try clear hb); (try clear hb2); (try clear hk); (try clear hi)))
           have n0_ := zA (Kd.R_drew HO106.out)
           have n1_ := zA (Kd.R_drew HO113.out)
           have n2_ := zA (IsS117.drew HI103.out)
           have n3_ := zA (below_drew1 HB.out)
           clear HO106
           clear HO113
           clear HI103
           clear HB
           have HO106 := n0_
           have HO113 := n1_
           have HI103 := n2_
           have HB := n3_
           clear n0_ n1_ n2_ n3_
           have q46 : (t114 : Int) ≤ ((y111.length : Int) : Int) := of_decide_eq_true y3 
           obtain ⟨i046, hi046, _, hsz46, _⟩ := info_parts info54
           have hroom46 : y111.length ≤ co12 := (Kd.R_reads' HO113.out).2.1
           have hC46 : Kd.C k54 _ Ao12 y111.length y111 := (Kd.R_reads' HO113.out).2.2
           have hcut46 := cut_to (P := Try.prog) 30 54 .i64 Try.underlying30 hi046 Ao12 y111.length co12 t114 (of_decide_eq_true y3 ) q46 hroom46
           have hr46 := Kd.C_take (m := (t114 : Int).toNat) hC46 (by omega)
           have hy46 : y126.length = (t114 : Int).toNat := (by rw [Ny126.out, List.length_take]; omega)
           rw [← Ny126.out] at hr46
           rw [← hy46] at hcut46
           have HR129 := zA hr46
           have HC129 := zA (show y126.length ≤ co12 from by omega)
           clear hr46 hC46 hroom46 hi046 hsz46
           have KY46 := zA hy46
           clear hy46
           have KL46 := zA (show (t114 : Int).toNat ≤ y111.length from by omega)
           replace q46 := eq_true q46
           have q47 : ((ji39) : Int) ≤ ((y111.length : Int) : Int) := of_decide_eq_true y3 
           obtain ⟨i047, hi047, _, hsz47, _⟩ := info_parts info54
           have hroom47 : y111.length ≤ co12 := (Kd.R_reads' HO113.out).2.1
           have hC47 : Kd.C k54 _ Ao12 y111.length y111 := (Kd.R_reads' HO113.out).2.2
           have q047 : (0 : Int) ≤ ((ji39) : Int) := of_decide_eq_true y3 
           have hcut47 := cut_from (P := Try.prog) 30 54 .i64 Try.underlying30 hi047 6 hsz47 Ao12 y111.length co12 (ji39) q047 q47
           have hr47 := Kd.C_drop (m := ((ji39) : Int).toNat) (c := co12) hC47 (by omega) hroom47
           obtain ⟨A47, hA47⟩ : ∃ A1, A1 = (if co12 = ((ji39) : Int).toNat then Ao12 else (Ao12 : Option Addr).map (·.add (((ji39) : Int).toNat * 6))) := ⟨_, rfl⟩
           obtain ⟨c47, hc47⟩ : ∃ c1, c1 = co12 - ((ji39) : Int).toNat := ⟨_, rfl⟩
           have hy47 : y133.length = y111.length - ((ji39) : Int).toNat := (by rw [Ny133.out, List.length_drop] <;> omega)
           rw [show (y111).drop ((ji39) : Int).toNat = y133 from Ny133.out.symm] at hr47
           replace hr47 : Kd.C k54 _ A47 y133.length y133 := (by rw [hA47]; exact hr47)
           rw [← hy47, ← hA47, ← hc47] at hcut47
           have HR136 := zA hr47
           have HC136 := zA (show y133.length ≤ c47 from by rw [hy47, hc47]; exact Nat.sub_le_sub_right hroom47 _)
           clear hr47 hC47 hroom47 hi047 hsz47 hc47
           have KY47 := zA hy47
           have KA47 := zA hA47
           clear hy47 hA47
           have KL47 := zA (show ((ji39) : Int).toNat ≤ y111.length from by omega)
           replace q47 := eq_true q47
           refine start_ (n := 11) (S := fun w' => True) (ds := []) (zl 11 0) (by kernel_rfl) rfl rfl trivial (fun hHeld => ?_); refine with_tabW spec_DrawAclDiffer.tab12 spec_DrawAclDiffer.bits12 (fun HT_ HW_ => ?_)
           generalize w44.drew = w45 at HO106 HO113 HI103 HB HR129 HR136 hHeld ⊢
           refine pure_ (i := 1) (N := some 48) (v := ?_) (a' := ?_) (zl 11 2) rfl rfl (any_of HT_.out (by kernel_rfl)) (fun _ _ _ h => h) (Or.inl ⟨by rfl, ?_⟩) ?_ ?_
           rotate_left
           ·intro w'
            go_simp
            with_reducible rfl
           rotate_left
           ·simp only [Act.put, List.setIfInBounds_toArray, List.set_cons_zero, List.set_cons_succ, i64_w, i32_w]
            rfl
           refine pure_ (i := 2) (N := some 49) (v := ?_) (a' := ?_) (zl 11 6) rfl rfl (any_of HT_.out (by kernel_rfl)) (fun _ _ _ h => h) (Or.inl ⟨by rfl, ?_⟩) ?_ ?_
           rotate_left
           ·intro w'
            go_simp
            with_reducible rfl
           rotate_left
           ·simp only [Act.put, List.setIfInBounds_toArray, List.set_cons_zero, List.set_cons_succ, i64_w, i32_w]
            rfl
           refine pure_ (i := 3) (N := some 50) (v := ?_) (a' := ?_) (zl 11 14) rfl rfl (any_of HT_.out (by kernel_rfl)) (fun _ _ _ h => h) (Or.inl ⟨by rfl, ?_⟩) ?_ ?_
           rotate_left
           ·intro w'
            go_simp
            with_reducible rfl
           rotate_left
           ·simp only [Act.put, List.setIfInBounds_toArray, List.set_cons_zero, List.set_cons_succ, i64_w, i32_w]
            rfl
           refine pure_ (i := 5) (N := some 52) (v := ?_) (a' := ?_) (zl 11 46) rfl rfl (any_of HT_.out (by kernel_rfl)) (fun _ _ _ h => h) (Or.inl ⟨by rfl, ?_⟩) ?_ ?_
           rotate_left
           ·intro w'
            go_simp
            with_reducible rfl
           rotate_left
           ·simp only [Act.put, List.setIfInBounds_toArray, List.set_cons_zero, List.set_cons_succ, i64_w, i32_w]
            rfl
           refine pure_ (i := 6) (N := some 53) (v := ?_) (a' := ?_) (zl 11 110) rfl rfl (any_of HT_.out (by kernel_rfl)) (fun _ _ _ h => h) (Or.inl ⟨by rfl, ?_⟩) ?_ ?_
           rotate_left
           ·intro w'
            go_simp
            with_reducible rfl
           rotate_left
           ·simp only [Act.put, List.setIfInBounds_toArray, List.set_cons_zero, List.set_cons_succ, i64_w, i32_w]
            rfl
           refine pure_ (i := 7) (N := some 54) (v := ?_) (a' := ?_) (zl 11 238) rfl rfl (any_of HT_.out (by kernel_rfl)) (fun _ _ _ h => h) (Or.inl ⟨by rfl, ?_⟩) ?_ ?_
           rotate_left
           ·intro w'
            go_simp
            with_reducible rfl
           rotate_left
           ·simp only [Act.put, List.setIfInBounds_toArray, List.set_cons_zero, List.set_cons_succ, i64_w, i32_w]
            rfl
           refine pure_ (i := 8) (N := some 55) (v := ?_) (a' := ?_) (zl 11 494) rfl rfl (any_of HT_.out (by kernel_rfl)) (fun _ _ _ h => h) (Or.inl ⟨by rfl, ?_⟩) ?_ ?_
           rotate_left
           ·intro w'
            go_simp
            with_reducible rfl
           rotate_left
           ·simp only [Act.put, List.setIfInBounds_toArray, List.set_cons_zero, List.set_cons_succ, i64_w, i32_w]
            rfl
           refine one_ (i := 0) (N := some 47) (zl 11 495) rfl rfl (one_of HT_.out (by kernel_rfl)) (by decide) (fun K hK => ?_)
           refine Kd.R_lit_step k54 _ 54 ?hg (N := 47) ?hd (xs := ([] : List (S54))) (inner := []) (ok := fun _ => True) (okp := fun _ => True) ?hr ?hp (fun _ hk => hk) trivial (Below.refl _ _) (Nat.le_refl _) (by simp) ?_; (case hd => rfl); (case hg => rfl); (case hr => first | (go_simp; done) | (go_simp; rfl)); (case hp => exact (Reps.none _ _))
           intro v124 w48 ho49 hb hg_ hnew_
           clear hg_ hnew_
           (first | rw [← Ny123.out] at ho49 | (simp only [Int.reduceToNat] at ho49; rw [← Ny123.out] at ho49))
           have n0_ := zA (Kd.R_elder' (zr HO106.out) (Kd.R_base ho49) hb)
           have n1_ := zA (Kd.R_elder' (zr HO113.out) (Kd.R_base ho49) hb)
           have n2_ := zA (Kd.R_lower (Kd.R_new' (Kd.R_new' ho49 (Kd.R_lt (zr HO106.out))) (Kd.R_lt (zr HO113.out))) (below_size (zHB)))
           have n3_ := zA (IsS117.below (zHI103) hb)
           have n4_ := zA (Kd.C_below (by repeat (first | (with_reducible exact HR129.out) | (with_reducible refine Kd.C_alloc ?_ _) | (with_reducible refine Kd.C_drewN ?_ _) | (with_reducible refine Kd.C_drew ?_) | exact HR129.out)) hb)
           have n5_ := zA (Kd.C_below (by repeat (first | (with_reducible exact HR136.out) | (with_reducible refine Kd.C_alloc ?_ _) | (with_reducible refine Kd.C_drewN ?_ _) | (with_reducible refine Kd.C_drew ?_) | exact HR136.out)) hb)
           have n6_ := zA (below_step (zHB) hb)
           clear HO106
           clear HO113
           clear HI103
           clear HR129
           clear HR136
           clear HB
           have HO106 := n0_
           have HO113 := n1_
           have HO125 := n2_
           have HI103 := n3_
           have HR129 := n4_
           have HR136 := n5_
           have HB := n6_
           clear n0_ n1_ n2_ n3_ n4_ n5_ n6_
           clear hb ho49
           refine hK.out _ _ trivial (fun hHeld => ?_)
           clear hK K
           refine norm_ (a' := ?_) ?_ ?_
           rotate_left
           ·show Act.put _ (some 47) _ = _
            simp only [Act.put, List.setIfInBounds_toArray, List.set_cons_zero, List.set_cons_succ, i64_w, i32_w]
            rfl
           refine one_ (i := 4) (N := some 51) (zl 11 511) rfl rfl (one_of HT_.out (by kernel_rfl)) (by decide) (fun K hK => ?_)
           refine Kd.R_append_rows_step k54 (w0 := w) w.heap.size (by rfl) (.tmp 47) (.tmp 50) 30 54 (.agg #[(.bool false), (.int .i64 0), (.int .i64 0), (.int .i64 0), (.int .i64 0), (.int .i64 0)]) 48 rfl Try.underlying30 info54 rfl (by decide) (by omega) v124 y123 y126 _ _ _ (fun k_ => some k_ ≠ (.slice Ao11 t104.length co11 : Value).ownBlock ∧ some k_ ≠ (.slice Ao12 y111.length co12 : Value).ownBlock) (fun _ => False) rfl rfl ?aO ?aR (fun _ _ h => h) (fun _ h => h.elim) ?aF ?aB ?aS ?aL ?_
           (case aR => repeat (first | exact (by repeat (first | (with_reducible exact HR129.out) | (with_reducible refine Kd.C_alloc ?_ _) | (with_reducible refine Kd.C_drewN ?_ _) | (with_reducible refine Kd.C_drew ?_) | exact HR129.out)) | (with_reducible refine Kd.C_alloc ?_ _) | (with_reducible refine Kd.C_drewN ?_ _) | (with_reducible refine Kd.C_drew ?_)))
           (case aB => exact (zHB))
           (case aF => exact (fun k_ hk => ⟨Kd.fresh' (Kd.R_lt (zr HO106.out)) k_ hk, Kd.fresh' (Kd.R_lt (zr HO113.out)) k_ hk⟩))
           (case aO => exact (by refine zk ?_; exact Kd.R_mono HO125.out (fun _ hk => ⟨hk.1.2, hk.2⟩)))
           (case aS => exact (below_size (zHB)))
           (case aL => have := LMc38.out; omega)
           intro v131 w50 ho hb hg hat
           rw [← Ny130.out] at ho
           have n0_ := zA (IsS117.grown (zHI103) hg (IsS117.own_ne HI103.out HO125.out (by decide)))
           have n1_ := zA (Kd.R_after (ok := (fun k_ => some k_ ≠ (.slice Ao12 y111.length co12 : Value).ownBlock)) (by refine zk ?_; exact Kd.R_mono HO106.out (fun _ hk => ⟨hk.1.2, hk.2⟩)) hg hat)
           have n2_ := zA (Kd.R_after (ok := (fun k_ => some k_ ≠ (.slice Ao11 t104.length co11 : Value).ownBlock)) (zr HO113.out) hg hat)
           have n3_ := zA (hb)
           have n4_ := zA ((show Kd.C k54 w50 Ao12 y126.length y126 from by rw [Ny126.out]; exact Kd.C_take (m := (t114 : Int).toNat) ((Kd.R_reads' (Kd.R_after (ok := (fun k_ => some k_ ≠ (.slice Ao11 t104.length co11 : Value).ownBlock)) (zr HO113.out) hg hat)).2.2) KL46.out))
           have n5_ := zA ((show Kd.C k54 w50 A47 y133.length y133 from by rw [Ny133.out, KA47.out]; exact Kd.C_drop (m := ((ji39) : Int).toNat) (c := co12) ((Kd.R_reads' (Kd.R_after (ok := (fun k_ => some k_ ≠ (.slice Ao11 t104.length co11 : Value).ownBlock)) (zr HO113.out) hg hat)).2.2) KL47.out ((Kd.R_reads' (Kd.R_after (ok := (fun k_ => some k_ ≠ (.slice Ao11 t104.length co11 : Value).ownBlock)) (zr HO113.out) hg hat)).2.1)))
           have n6_ := zA (ho)
           clear HI103
           clear HO106
           clear HO113
           clear HB
           clear HR129
           clear HR136
           clear HO125
           have HI103 := n0_
           have HO106 := n1_
           have HO113 := n2_
           have HB := n3_
           have HR129 := n4_
           have HR136 := n5_
           have HO132 := n6_
           clear n0_ n1_ n2_ n3_ n4_ n5_ n6_
           clear ho hb hg hat
           refine hK.out _ _ trivial (fun hHeld => ?_)
           clear hK K
           refine norm_ (a' := ?_) ?_ ?_
           rotate_left
           ·show Act.put _ (some 51) _ = _
            simp only [Act.put, List.setIfInBounds_toArray, List.set_cons_zero, List.set_cons_succ, i64_w, i32_w]
            rfl
           refine one_ (i := 9) (N := some 56) (zl 11 1023) rfl rfl (one_of HT_.out (by kernel_rfl)) (by decide) (fun K hK => ?_)
           refine Kd.R_append_rows_step k54 (w0 := w) w.heap.size (by rfl) (.tmp 51) (.tmp 55) 30 54 (.agg #[(.bool false), (.int .i64 0), (.int .i64 0), (.int .i64 0), (.int .i64 0), (.int .i64 0)]) 48 rfl Try.underlying30 info54 rfl (by decide) (by omega) v131 y130 y133 _ _ _ (fun k_ => some k_ ≠ (.slice Ao11 t104.length co11 : Value).ownBlock ∧ some k_ ≠ (.slice Ao12 y111.length co12 : Value).ownBlock) (fun _ => False) rfl rfl ?aO ?aR (fun _ _ h => h) (fun _ h => h.elim) ?aF ?aB ?aS ?aL ?_
           (case aR => repeat (first | exact (by repeat (first | (with_reducible exact HR136.out) | (with_reducible refine Kd.C_alloc ?_ _) | (with_reducible refine Kd.C_drewN ?_ _) | (with_reducible refine Kd.C_drew ?_) | exact HR136.out)) | (with_reducible refine Kd.C_alloc ?_ _) | (with_reducible refine Kd.C_drewN ?_ _) | (with_reducible refine Kd.C_drew ?_)))
           (case aB => exact (zHB))
           (case aF => exact (fun k_ hk => ⟨Kd.fresh' (Kd.R_lt (zr HO106.out)) k_ hk, Kd.fresh' (Kd.R_lt (zr HO113.out)) k_ hk⟩))
           (case aO => exact (zr HO132.out))
           (case aS => exact (below_size (zHB)))
           (case aL => have := LMc42.out; omega)
           intro v138 w51 ho hb hg hat
           rw [← Ny137.out] at ho
           have n0_ := zA (IsS117.grown (zHI103) hg (IsS117.own_ne HI103.out HO132.out (by decide)))
           have n1_ := zA (Kd.R_after (ok := (fun k_ => some k_ ≠ (.slice Ao12 y111.length co12 : Value).ownBlock)) (zr HO106.out) hg hat)
           have n2_ := zA (Kd.R_after (ok := (fun k_ => some k_ ≠ (.slice Ao11 t104.length co11 : Value).ownBlock)) (zr HO113.out) hg hat)
           have n3_ := zA (hb)
           have n4_ := zA ((show Kd.C k54 w51 Ao12 y126.length y126 from by rw [Ny126.out]; exact Kd.C_take (m := (t114 : Int).toNat) ((Kd.R_reads' (Kd.R_after (ok := (fun k_ => some k_ ≠ (.slice Ao11 t104.length co11 : Value).ownBlock)) (zr HO113.out) hg hat)).2.2) KL46.out))
           have n5_ := zA ((show Kd.C k54 w51 A47 y133.length y133 from by rw [Ny133.out, KA47.out]; exact Kd.C_drop (m := ((ji39) : Int).toNat) (c := co12) ((Kd.R_reads' (Kd.R_after (ok := (fun k_ => some k_ ≠ (.slice Ao11 t104.length co11 : Value).ownBlock)) (zr HO113.out) hg hat)).2.2) KL47.out ((Kd.R_reads' (Kd.R_after (ok := (fun k_ => some k_ ≠ (.slice Ao11 t104.length co11 : Value).ownBlock)) (zr HO113.out) hg hat)).2.1)))
           have n6_ := zA (ho)
           clear HI103
           clear HO106
           clear HO113
           clear HB
           clear HR129
           clear HR136
           clear HO132
           have HI103 := n0_
           have HO106 := n1_
           have HO113 := n2_
           have HB := n3_
           have HR129 := n4_
           have HR136 := n5_
           have HO139 := n6_
           clear n0_ n1_ n2_ n3_ n4_ n5_ n6_
           clear ho hb hg hat
           refine hK.out _ _ trivial (fun hHeld => ?_)
           clear hK K
           refine norm_ (a' := ?_) ?_ ?_
           rotate_left
           ·show Act.put _ (some 56) _ = _
            simp only [Act.put, List.setIfInBounds_toArray, List.set_cons_zero, List.set_cons_succ, i64_w, i32_w]
            rfl
           refine pure_ (i := 10) (N := some 6) (v := ?_) (a' := ?_) (zl 11 2047) rfl rfl (any_of HT_.out (by kernel_rfl)) (fun _ _ _ h => h) (Or.inl ⟨by rfl, ?_⟩) ?_ ?_
           rotate_left
           ·intro w'
            go_simp
            with_reducible rfl
           rotate_left
           ·simp only [Act.put, List.setIfInBounds_toArray, List.set_cons_zero, List.set_cons_succ, i64_w, i32_w]
            rfl
           refine done_ (done_of HT_.out (by kernel_rfl)) ?_
           try go_wp2
           go_meet
           case rel => exact ⟨_, (t104), (y137), (t117), H', ⟨by first | omega | exact Nat.le_refl _⟩, ⟨by refine zk ?_; exact Kd.R_mono HO106.out (fun _ hk => hk.2)⟩, ⟨by refine zk ?_; exact Kd.R_mono HO139.out (fun _ hk => hk.1)⟩, ⟨zHI103⟩, ⟨zHB⟩⟩
          rw [if_neg c42] at H
          exact absurd H (by simp)
         rw [if_neg c41] at H
         exact absurd H (by simp)
        rw [if_neg c40] at H
        exact absurd H (by simp)
       rw [if_neg c38] at H
       exact absurd H (by simp)
      rw [if_neg c37] at H
      exact absurd H (by simp)
     rw [if_neg c36] at H
     exact absurd H (by simp)
    rw [if_neg c35] at H
    have c35b0 : (t116 == 1) = false := beq_eq_false_iff_ne.mpr c35
    have c35b1 : (t116 != 1) = true := bne_iff_ne.mpr c35
    by_cases c52 : t116 = 2
    ·rw [if_pos c52] at H
     have c52b0 : (t116 == 2) = true := beq_iff_eq.mpr c52
     have c52b1 : (t116 != 2) = false := bne_eq_false_iff_eq.mpr c52
     clear c52
     by_cases c53 : 0 ≤ t114
     ·rw [if_pos c53] at H
      have c53b0 : decide (0 ≤ t114) = true := decide_eq_true c53
      clear c53
      by_cases c54 : t114 < (y111.length : Int)
      ·rw [if_pos c54] at H
       have c54b0 : decide (t114 < (y111.length : Int)) = true := decide_eq_true c54
       clear c54
       obtain ⟨y141, hy141⟩ : ∃ y_ : List (S54), y_ = (y111.set (t114 : Int).toNat (⟨!((rd_T54 y111 t114).f0), (⟨(rd_T54 y111 t114).f1.f0, (rd_T54 y111 t114).f1.f1⟩ : S26), (⟨(rd_T54 y111 t114).f2.f0, (rd_T54 y111 t114).f2.f1⟩ : S26), (rd_T54 y111 t114).f3⟩ : S54)) := ⟨_, rfl⟩
       replace H : (spec_DrawAclDiffer.j0 k t104 y141 t101 t117) = some (r1, r2) := by first | (rw [hy141]; with_reducible exact H) | (have H2_ := (Option.bind_some _ _).symm.trans H; rw [hy141]; with_reducible exact H2_) | (have H2_ := (Option.bind_some _ _).symm.trans H; with_reducible exact H2_) | with_reducible exact H | (rw [hy141]; exact H) | exact H
       have Ny141 := zA hy141
       clear hy141
       have H' := zA H
       clear H
       go_wp2_with (first | ((with_reducible refine gate_callee (f := 81) rfl ?_); refine goesL_ (some 23) rfl rfl Try.func81 (by kernel_rfl) rfl #[.pointer (some ⟨g103, 0, none⟩), .int .i64 (wrap64 ((y111.length : Int) - 1))] rfl y2  ?_; (with_reducible refine (spec_l1Rd_pick.calls k g103 t101 t107 (wrap64 ((y111.length : Int) - 1)) t114 t115 w _ ?side1 ?side2 A14.out).mono ?_); (case side1 => exact zHI103); (case side2 => exact zHB); rintro e w56 ⟨rfl, hi, hb, hk⟩; refine ⟨_, rfl, ?_⟩; have n0_ := zA (Kd.R_mono (Kd.R_keep (IsS117.apart (show IsS117 w _ g103 t101 t107 from zHI103) (zr HO106.out) (by decide)) hk (fun _ h => h.2)) (fun _ h => h.1)); have n1_ := zA (Kd.R_mono (Kd.R_keep (IsS117.apart (show IsS117 w _ g103 t101 t107 from zHI103) (zr HO113.out) (by decide)) hk (fun _ h => h.2)) (fun _ h => h.1)); have n2_ := zA (hb); have n3_ := zA (hi); clear HO106; clear HO113; clear HB; clear HI103; have HO106 := n0_; have HO113 := n1_; have HB := n2_; have HI103 := n3_; clear n0_ n1_ n2_ n3_; (try clear hb); (try clear hb2); (try clear hk); (try clear hi)) | ((with_reducible refine gate_callee (f := 81) rfl ?_); refine goesL_ (some 25) rfl rfl Try.func81 (by kernel_rfl) rfl #[.pointer (some ⟨g103, 0, none⟩), .int .i64 4] rfl y2  ?_; (with_reducible refine (spec_l1Rd_pick.calls k g103 t101 t115 4 t116 t117 w _ ?side1 ?side2 A15.out).mono ?_); (case side1 => exact zHI103); (case side2 => exact zHB); rintro e w57 ⟨rfl, hi, hb, hk⟩; refine ⟨_, rfl, ?_⟩; have n0_ := zA (Kd.R_mono (Kd.R_keep (IsS117.apart (show IsS117 w _ g103 t101 t115 from zHI103) (zr HO106.out) (by decide)) hk (fun _ h => h.2)) (fun _ h => h.1)); have n1_ := zA (Kd.R_mono (Kd.R_keep (IsS117.apart (show IsS117 w _ g103 t101 t115 from zHI103) (zr HO113.out) (by decide)) hk (fun _ h => h.2)) (fun _ h => h.1)); have n2_ := zA (hb); have n3_ := zA (hi); clear HO106; clear HO113; clear HB; clear HI103; have HO106 := n0_; have HO113 := n1_; have HB := n2_; have HI103 := n3_; clear n0_ n1_ n2_ n3_; (try clear hb); (try clear hb2); (try clear hk); (try clear hi); have p140 : 0 ≤ (t114 : Int) := of_decide_eq_true y3 ; have q140 : t114 < (y111.length : Int) := of_decide_eq_true y3 ; obtain ⟨ad140, e140, hx140_0, hx140_1, hx140_2, hx140_3, hx140_4, hx140_5⟩ := at_T54 (Kd.R_reads' HO113.out).2.2 t114 p140 q140; cases e140; replace p140 := eq_true p140; replace q140 := eq_true q140; have p55 : 0 ≤ (t114 : Int) := of_decide_eq_true y3 ; have q55 : (t114 : Int) < ((y111.length : Int) : Int) := of_decide_eq_true y3 ; obtain ⟨go55, co55, eo55, gb55, gl55, cl55, HG55⟩ := Kd.R_form HO113.out (by omega); (first | cases eo55 | (injection eo55 with ea_ en_ ec_; (first | subst ea_ | (injection ea_ with ea_; subst ea_)); subst ec_; clear en_)); have GB55 := zA gb55; have GG55 := zA HG55; clear gb55 gl55 HG55; (first | simp only [add_plain] at hx140_0 | skip); (first | simp only [add_plain] at hx140_1 | skip); (first | simp only [add_plain] at hx140_2 | skip); (first | simp only [add_plain] at hx140_3 | skip); (first | simp only [add_plain] at hx140_4 | skip); (first | simp only [add_plain] at hx140_5 | skip); obtain ⟨ce55, hcl55, hM55, hcc55, hfr55⟩ := Kd.R_elem HO113.out z54 (t114 : Int) p55 q55; obtain rfl := k54_openM hM55; have hx55_0 : w57.cell? ⟨go55, (t114 : Int).toNat * 6, none⟩ = some (.bool ((rd_T54 y111 t114).f0)) := hcc55 0 _ rfl; have hx55_1 : w57.cell? ⟨go55, (t114 : Int).toNat * 6 + 1, none⟩ = some (.int .i64 ((rd_T54 y111 t114).f1.f0)) := hcc55 1 _ rfl; have hx55_2 : w57.cell? ⟨go55, (t114 : Int).toNat * 6 + 2, none⟩ = some (.int .i64 ((rd_T54 y111 t114).f1.f1)) := hcc55 2 _ rfl; have hx55_3 : w57.cell? ⟨go55, (t114 : Int).toNat * 6 + 3, none⟩ = some (.int .i64 ((rd_T54 y111 t114).f2.f0)) := hcc55 3 _ rfl; have hx55_4 : w57.cell? ⟨go55, (t114 : Int).toNat * 6 + 4, none⟩ = some (.int .i64 ((rd_T54 y111 t114).f2.f1)) := hcc55 4 _ rfl; have hx55_5 : w57.cell? ⟨go55, (t114 : Int).toNat * 6 + 5, none⟩ = some (.int .i64 ((rd_T54 y111 t114).f3)) := hcc55 5 _ rfl; have hf55_0 : w57.frozen? ⟨go55, (t114 : Int).toNat * 6, none⟩ = false := hfr55 0; have hf55_1 : w57.frozen? ⟨go55, (t114 : Int).toNat * 6 + 1, none⟩ = false := hfr55 1; have hf55_2 : w57.frozen? ⟨go55, (t114 : Int).toNat * 6 + 2, none⟩ = false := hfr55 2; have hf55_3 : w57.frozen? ⟨go55, (t114 : Int).toNat * 6 + 3, none⟩ = false := hfr55 3; have hf55_4 : w57.frozen? ⟨go55, (t114 : Int).toNat * 6 + 4, none⟩ = false := hfr55 4; have hf55_5 : w57.frozen? ⟨go55, (t114 : Int).toNat * 6 + 5, none⟩ = false := hfr55 5; clear hcl55 hcc55 hfr55 hM55; replace p55 := eq_true p55; replace q55 := eq_true q55; have HX58 := zA (show Kd.R k54 54 w57 w.heap.size (fun k_ => some k_ ≠ (.slice Ao11 t104.length co11 : Value).ownBlock) (.slice (some ⟨go55, 0, none⟩) y111.length co12) y111 from (zr HO113.out)); obtain ⟨ce58, hcl58, hM58, hcc58, hfr58⟩ := Kd.R_elem HX58.out z54 (t114 : Int) (of_decide_eq_true y3 ) y1 ; obtain rfl := k54_openM hM58; have HP58 := Kd.R_seg HX58.out (t114 : Int) (of_decide_eq_true y3 ) y1  (seg := [.bool (!((rd_T54 y111 t114).f0))]) (j := 0) hcl58 hcc58 (show 1 ≤ 6 from by decide) (x' := (⟨!((rd_T54 y111 t114).f0), (⟨(rd_T54 y111 t114).f1.f0, (rd_T54 y111 t114).f1.f1⟩ : S26), (⟨(rd_T54 y111 t114).f2.f0, (rd_T54 y111 t114).f2.f1⟩ : S26), (rd_T54 y111 t114).f3⟩ : S54)) (k54_mkM _ _ _ (⟨!((rd_T54 y111 t114).f0), (⟨(rd_T54 y111 t114).f1.f0, (rd_T54 y111 t114).f1.f1⟩ : S26), (⟨(rd_T54 y111 t114).f2.f0, (rd_T54 y111 t114).f2.f1⟩ : S26), (rd_T54 y111 t114).f3⟩ : S54) ) (fun _ hk => hk); have hx58_0 := hcc58 0 _ rfl; (try simp only [show (k54).sz = 6 from rfl, Nat.mul_one, Nat.add_zero] at hx58_0); have hf58_0 := hfr58 0; (try simp only [show (k54).sz = 6 from rfl, Nat.mul_one, Nat.add_zero] at hf58_0); clear hcl58 hcc58 hfr58 hM58) | ((with_reducible refine gate_store (t := 4) (p := 68) rfl ?_); refine store_event (t := 4) (p := 68) (v := ?vo_w59) (w1 := (w57.setCell ⟨go55, (t114 : Int).toNat * 6, none⟩ (.bool (!((rd_T54 y111 t114).f0))))) ?hg ?ho ?hn ?hr ?_; (case ho => rfl); (case hg => rfl); (case hn => rfl); (case hr => first | (go_simp; done) | (go_simp; rfl)); intro w59 hw; have hg : w57.grownBy w59 (some go55) := (by rw [hw]; exact HP58.2); have hp_ : Kd.R k54 54 w59 w.heap.size (fun k_ => some k_ ≠ (.slice Ao11 t104.length co11 : Value).ownBlock) (.slice (some ⟨go55, 0, none⟩) y111.length co12) y141 := (by rw [hw, Ny141.out]; exact HP58.1); clear HP58; have n0_ := zA (IsS117.grown (zHI103) hg (IsS117.own_ne HI103.out HO113.out (by decide))); have n1_ := zA (Kd.R_after (v := (.slice (some ⟨go55, 0, none⟩) y111.length co12)) (v1 := (.slice (some ⟨go55, 0, none⟩) y111.length co12)) (ok := (fun _ => True)) (zr HO106.out) hg (.inl rfl)); have n2_ := zA (hp_); have n3_ := zA ((by rw [hw]; exact below_set (HB.out) GB55.out : Below w.heap.size w w59)); clear HI103; clear HO106; clear HO113; clear HB; have HI103 := n0_; have HO106 := n1_; have HO113 := n2_; have HB := n3_; clear n0_ n1_ n2_ n3_; clear hg hw hp_))
       go_meet
       case rel => exact ⟨_, (t104), (y141), (t117), H', ⟨by first | omega | exact Nat.le_refl _⟩, ⟨by refine zk ?_; exact Kd.R_mono HO106.out (fun _ hk => hk.2)⟩, ⟨by refine zk ?_; exact HO113.out⟩, ⟨zHI103⟩, ⟨zHB⟩⟩
      rw [if_neg c54] at H
      exact absurd H (by simp)
     rw [if_neg c53] at H
     exact absurd H (by simp)
    rw [if_neg c52] at H
    have c52b0 : (t116 == 2) = false := beq_eq_false_iff_ne.mpr c52
    have c52b1 : (t116 != 2) = true := bne_iff_ne.mpr c52
    have H' := zA H
    clear H
    go_wp2_with (first | ((with_reducible refine gate_callee (f := 81) rfl ?_); refine goesL_ (some 23) rfl rfl Try.func81 (by kernel_rfl) rfl #[.pointer (some ⟨g103, 0, none⟩), .int .i64 (wrap64 ((y111.length : Int) - 1))] rfl y2  ?_; (with_reducible refine (spec_l1Rd_pick.calls k g103 t101 t107 (wrap64 ((y111.length : Int) - 1)) t114 t115 w _ ?side1 ?side2 A14.out).mono ?_); (case side1 => exact zHI103); (case side2 => exact zHB); rintro e w60 ⟨rfl, hi, hb, hk⟩; refine ⟨_, rfl, ?_⟩; have n0_ := zA (Kd.R_mono (Kd.R_keep (IsS117.apart (show IsS117 w _ g103 t101 t107 from zHI103) (zr HO106.out) (by decide)) hk (fun _ h => h.2)) (fun _ h => h.1)); have n1_ := zA (Kd.R_mono (Kd.R_keep (IsS117.apart (show IsS117 w _ g103 t101 t107 from zHI103) (zr HO113.out) (by decide)) hk (fun _ h => h.2)) (fun _ h => h.1)); have n2_ := zA (hb); have n3_ := zA (hi); clear HO106; clear HO113; clear HB; clear HI103; have HO106 := n0_; have HO113 := n1_; have HB := n2_; have HI103 := n3_; clear n0_ n1_ n2_ n3_; (try clear hb); (try clear hb2); (try clear hk); (try clear hi)) | ((with_reducible refine gate_callee (f := 81) rfl ?_); refine goesL_ (some 25) rfl rfl Try.func81 (by kernel_rfl) rfl #[.pointer (some ⟨g103, 0, none⟩), .int .i64 4] rfl y2  ?_; (with_reducible refine (spec_l1Rd_pick.calls k g103 t101 t115 4 t116 t117 w _ ?side1 ?side2 A15.out).mono ?_); (case side1 => exact zHI103); (case side2 => exact zHB); rintro e w61 ⟨rfl, hi, hb, hk⟩; refine ⟨_, rfl, ?_⟩; have n0_ := zA (Kd.R_mono (Kd.R_keep (IsS117.apart (show IsS117 w _ g103 t101 t115 from zHI103) (zr HO106.out) (by decide)) hk (fun _ h => h.2)) (fun _ h => h.1)); have n1_ := zA (Kd.R_mono (Kd.R_keep (IsS117.apart (show IsS117 w _ g103 t101 t115 from zHI103) (zr HO113.out) (by decide)) hk (fun _ h => h.2)) (fun _ h => h.1)); have n2_ := zA (hb); have n3_ := zA (hi); clear HO106; clear HO113; clear HB; clear HI103; have HO106 := n0_; have HO113 := n1_; have HB := n2_; have HI103 := n3_; clear n0_ n1_ n2_ n3_; (try clear hb); (try clear hb2); (try clear hk); (try clear hi)))
    go_meet
    case rel => exact ⟨_, (t104), (y111), (t117), H', ⟨by first | omega | exact Nat.le_refl _⟩, ⟨by refine zk ?_; exact Kd.R_mono HO106.out (fun _ hk => hk.2)⟩, ⟨by refine zk ?_; exact HO113.out⟩, ⟨zHI103⟩, ⟨zHB⟩⟩
   rw [if_neg c13] at H
   have c13b0 : decide (1 < (y111.length : Int)) = false := decide_eq_false c13
   have c13b1 : decide (1 < y111.length) = false := decide_eq_false (by omega)
   clear c13
   (first | rw [c13b0] | (simp only [i64_w, i32_w]; rw [c13b0]) | skip)
   have H' := zA H
   clear H
   go_wp2
   go_meet
   case rel => exact ⟨_, (t104), (y111), (t107), H', ⟨by first | omega | exact Nat.le_refl _⟩, ⟨by refine zk ?_; exact Kd.R_mono HO106.out (fun _ hk => hk.2)⟩, ⟨by refine zk ?_; exact HO113.out⟩, ⟨zHI103⟩, ⟨zHB⟩⟩
  case rest =>
   clear HC5
   try clear c1
   try clear p1
   try clear q1
   try clear hx1
   try clear c2
   try clear p2
   try clear q2
   try clear hx2
   try clear hf2
   try clear c3
   try clear hx3
   try clear hf3
   try clear c4
   try clear q4
   try clear c5
   try clear p5
   try clear q5
   try clear hx5
   try clear hf5
   try clear p6
   try clear c7
   try clear c8
   try clear p11
   try clear q11
   try clear hx11
   try clear p12
   try clear q12
   try clear hx12
   try clear c13
   try clear c13b0
   try clear c13b1
   try clear p14
   try clear q14
   try clear hx14
   try clear c16
   try clear c16b0
   try clear c16b1
   try clear c17
   try clear c17b0
   try clear c18
   try clear c18b0
   try clear c20
   try clear c20b0
   try clear c21
   try clear c21b0
   try clear c22
   try clear p22
   try clear q22
   try clear hx22
   try clear hf22
   try clear c23
   try clear p23
   try clear q23
   try clear hx23
   try clear hf23
   try clear c27
   try clear c30
   try clear hx30
   try clear hf30
   try clear c33
   try clear hx33
   try clear hf33
   try clear c35
   try clear c35b0
   try clear c35b1
   try clear c36
   try clear c36b0
   try clear c36b1
   try clear c37
   try clear c37b0
   try clear c37b1
   try clear c38
   try clear c40
   try clear c40b0
   try clear c40b1
   try clear c41
   try clear c41b0
   try clear c41b1
   try clear c42
   try clear q46
   try clear c47
   try clear q47
   try clear c52
   try clear c52b0
   try clear c52b1
   try clear c53
   try clear c53b0
   try clear c54
   try clear c54b0
   try clear c55
   try clear p55
   try clear q55
   try clear hx55
   try clear hf55
   try clear c58
   try clear hx58
   try clear hf58
   try clear hcz28_0
   try clear hcz28_1
   try clear hcz28_2
   try clear hcz28_3
   try clear hcz28_4
   try clear hcz28_5
   try clear hcz32_0
   try clear hcz32_1
   try clear hcz32_2
   try clear hcz32_3
   try clear hcz32_4
   try clear hcz32_5
   try clear hfz28_0
   try clear hfz28_1
   try clear hfz28_2
   try clear hfz28_3
   try clear hfz28_4
   try clear hfz28_5
   try clear hfz32_0
   try clear hfz32_1
   try clear hfz32_2
   try clear hfz32_3
   try clear hfz32_4
   try clear hfz32_5
   try clear hx118_0
   try clear hx118_1
   try clear hx118_2
   try clear hx118_3
   try clear hx118_4
   try clear hx118_5
   try clear hx120_0
   try clear hx120_1
   try clear hx120_2
   try clear hx120_3
   try clear hx120_4
   try clear hx120_5
   try clear hx140_0
   try clear hx140_1
   try clear hx140_2
   try clear hx140_3
   try clear hx140_4
   try clear hx140_5
   try clear hx22_0
   try clear hx22_1
   try clear hx22_2
   try clear hx22_3
   try clear hx22_4
   try clear hx22_5
   try clear hx23_0
   try clear hx23_1
   try clear hx23_2
   try clear hx23_3
   try clear hx23_4
   try clear hx23_5
   try clear hx30_0
   try clear hx30_1
   try clear hx30_2
   try clear hx30_3
   try clear hx30_4
   try clear hx30_5
   try clear hx33_0
   try clear hx33_1
   try clear hx33_2
   try clear hx33_3
   try clear hx33_4
   try clear hx33_5
   try clear hx55_0
   try clear hx55_1
   try clear hx55_2
   try clear hx55_3
   try clear hx55_4
   try clear hx55_5
   try clear hx58_0
   try clear p118
   try clear p120
   try clear p140
   try clear p22
   try clear p23
   try clear p55
   try clear q047
   try clear q118
   try clear q120
   try clear q140
   try clear q22
   try clear q23
   try clear q46
   try clear q47
   try clear q55
   obtain ⟨kq, x5_4, x6_4, x104001_4, HA, HJ4, HO_5, HO_6, HI103, HB⟩ := hcut
   have hl5_4 := (Kd.R_reads' HO_5.out).1
   rw [hl5_4] at HO_5
   (try simp only [hl5_4])
   (try simp only [hl5_4] at HO_6)
   cases kq with
   | zero => exact absurd HA.out (by simp [spec_DrawAclDiffer.j0])
   | succ kj4 => ?_
   have H := HA.out
   clear HA
   simp only [spec_DrawAclDiffer.j0] at H
   replace H := Option.bind_eq_some_iff.mp H
   obtain ⟨⟨t142, t143⟩, A620, H⟩ := H
   replace H : (if t142 = 0 then ((spec_l5AnyRules.f kj4 t101 t143).bind fun bt144 => (some (x5_4, bt144.1))) else (some (x5_4, x6_4))) = some (r1, r2) := H
   have A62 := zA A620
   clear A620
   by_cases c63 : t142 = 0
   ·rw [if_pos c63] at H
    have c63b0 : (t142 == 0) = true := beq_iff_eq.mpr c63
    have c63b1 : (t142 != 0) = false := bne_eq_false_iff_eq.mpr c63
    clear c63
    replace H := Option.bind_eq_some_iff.mp H
    obtain ⟨⟨t144, t147⟩, A640, H⟩ := H
    replace H : (some (x5_4, t144)) = some (r1, r2) := H
    have A64 := zA A640
    clear A640
    simp only [Option.some.injEq, Prod.mk.injEq] at H
    obtain ⟨rfl, rfl⟩ := H
    go_wp2_with (first | ((with_reducible refine gate_callee (f := 81) rfl ?_); refine goesL_ (some 70) rfl rfl Try.func81 (by kernel_rfl) rfl #[.pointer (some ⟨g103, 0, none⟩), .int .i64 8] rfl y2  ?_; (with_reducible refine (spec_l1Rd_pick.calls kj4 g103 t101 x104001_4 8 t142 t143 w _ ?side1 ?side2 A62.out).mono ?_); (case side1 => exact zHI103); (case side2 => exact zHB); rintro e w65 ⟨rfl, hi, hb, hk⟩; refine ⟨_, rfl, ?_⟩; have n0_ := zA (Kd.R_mono (Kd.R_keep (IsS117.apart (show IsS117 w _ g103 t101 x104001_4 from zHI103) (zr HO_5.out) (by decide)) hk (fun _ h => h.2)) (fun _ h => h.1)); have n1_ := zA (Kd.R_mono (Kd.R_keep (IsS117.apart (show IsS117 w _ g103 t101 x104001_4 from zHI103) (zr HO_6.out) (by decide)) hk (fun _ h => h.2)) (fun _ h => h.1)); have n2_ := zA (hb); have n3_ := zA (hi); clear HO_5; clear HO_6; clear HB; clear HI103; have HO_5 := n0_; have HO_6 := n1_; have HB := n2_; have HI103 := n3_; clear n0_ n1_ n2_ n3_; (try clear hb); (try clear hb2); (try clear hk); (try clear hi)) | ((with_reducible refine gate_callee (f := 80) rfl ?_); refine goesL_ (some 73) rfl rfl Try.func80 (by kernel_rfl) rfl #[.pointer (some ⟨g103, 0, none⟩)] rfl y2  ?_; (with_reducible refine (spec_l5AnyRules.calls kj4 g103 t101 t143 t144 t147 w _ ?side1 ?side2 A64.out).mono ?_); (case side1 => exact zHI103); (case side2 => exact zHB); rintro e w66 ⟨v145, rfl, ho0, hi, hb, hk⟩; refine ⟨_, rfl, ?_⟩; have n0_ := zA (Kd.R_mono (Kd.R_told (Kd.R_oldK (IsS117.apart (show IsS117 w _ g103 t101 t143 from zHI103) (zr HO_5.out) (by decide)) hk) (Kd.R_base ho0)) (fun _ h_ => h_.1)); have n1_ := zA (Kd.R_mono (Kd.R_told (Kd.R_oldK (IsS117.apart (show IsS117 w _ g103 t101 t143 from zHI103) (zr HO_6.out) (by decide)) hk) (Kd.R_base ho0)) (fun _ h_ => h_.1)); have n2_ := zA (Kd.R_lower (Kd.R_new' (Kd.R_new' ho0 (Kd.R_lt (zr HO_5.out))) (Kd.R_lt (zr HO_6.out))) (below_size (zHB))); have n3_ := zA (hb); have n4_ := zA (hi); clear HO_5; clear HO_6; clear HB; clear HI103; have HO_5 := n0_; have HO_6 := n1_; have HO146 := n2_; have HB := n3_; have HI103 := n4_; clear n0_ n1_ n2_ n3_ n4_; (try clear hb); (try clear hb2); (try clear hk); (try clear hi); (try clear ho0)))
    go_ret2
    exact ⟨_, _, by first | rfl | (simp [errW_none, errW_some] <;> rfl) | (simp [*, errW_none, errW_some] <;> rfl), by refine zk ?_; exact Kd.R_mono HO_5.out (fun _ hk => hk.2), by refine zk ?_; exact Kd.R_mono HO146.out (fun _ hk => hk.1.2), zHB⟩
   rw [if_neg c63] at H
   have c63b0 : (t142 == 0) = false := beq_eq_false_iff_ne.mpr c63
   have c63b1 : (t142 != 0) = true := bne_iff_ne.mpr c63
   simp only [Option.some.injEq, Prod.mk.injEq] at H
   obtain ⟨rfl, rfl⟩ := H
   go_wp2_with (first | ((with_reducible refine gate_callee (f := 81) rfl ?_); refine goesL_ (some 70) rfl rfl Try.func81 (by kernel_rfl) rfl #[.pointer (some ⟨g103, 0, none⟩), .int .i64 8] rfl y2  ?_; (with_reducible refine (spec_l1Rd_pick.calls kj4 g103 t101 x104001_4 8 t142 t143 w _ ?side1 ?side2 A62.out).mono ?_); (case side1 => exact zHI103); (case side2 => exact zHB); rintro e w67 ⟨rfl, hi, hb, hk⟩; refine ⟨_, rfl, ?_⟩; have n0_ := zA (Kd.R_mono (Kd.R_keep (IsS117.apart (show IsS117 w _ g103 t101 x104001_4 from zHI103) (zr HO_5.out) (by decide)) hk (fun _ h => h.2)) (fun _ h => h.1)); have n1_ := zA (Kd.R_mono (Kd.R_keep (IsS117.apart (show IsS117 w _ g103 t101 x104001_4 from zHI103) (zr HO_6.out) (by decide)) hk (fun _ h => h.2)) (fun _ h => h.1)); have n2_ := zA (hb); have n3_ := zA (hi); clear HO_5; clear HO_6; clear HB; clear HI103; have HO_5 := n0_; have HO_6 := n1_; have HB := n2_; have HI103 := n3_; clear n0_ n1_ n2_ n3_; (try clear hb); (try clear hb2); (try clear hk); (try clear hi)))
   go_ret2
   exact ⟨_, _, by first | rfl | (simp [errW_none, errW_some] <;> rfl) | (simp [*, errW_none, errW_some] <;> rfl), by refine zk ?_; exact HO_5.out, by refine zk ?_; exact HO_6.out, zHB⟩
 rw [if_neg c4] at H
 exact absurd H (by simp)
end Go.Proofs.Ytnakanjhdcakhaa.Q
namespace Go.Proofs.Ytnakanjhdcakhaa.Q
open Go.RowKit Go.Proofs.YtnakanjhdcakhaaW.PrintWords Go.Proofs.YtnakanjhdcakhaaW.PrintLast Go.Proofs.YtnakanjhdcakhaaW.PrintMore
attribute [local go_sem] max2_int min2_int max_two min_two max_three min_three max_four min_four   -- for this text's walks alone
set_option linter.unusedVariables false
set_option linter.unusedSimpArgs false
def impl_isAddr.f (a0 : Int) : Option (Bool) := if a0 ≥ 0 then (some (decide (a0 ≤ 65535))) else (some false)
set_option maxHeartbeats 8000000 in
set_option maxRecDepth 100000 in
theorem impl_isAddr.calls (a0 : Int) (r : Bool) (w : World) (h : impl_isAddr.f a0 = some r) :
    Calls Try.prog 77 #[.int .i64 a0] w fun e w' => e = .returned (.bool r) ∧ Drawn0 w w' := by
  have H : (if a0 ≥ 0 then (some (decide (a0 ≤ 65535))) else (some false)) = some r := h
  clear h
  by_cases c2 : a0 ≥ 0
  · rw [if_pos c2] at H
    have c2b0 : decide (0 ≤ a0) = true := decide_eq_true c2
    clear c2
    obtain rfl := Option.some.inj H
    go_enter Try.func77, Try.ntmps77
    go_wp2
    go_ret
    exact ⟨by first | rfl | (simp; done) | (simp [*]; done), by repeat (first | exact Drawn0.refl _ | apply Drawn0.step)⟩
  · rw [if_neg c2] at H
    have c2b0 : decide (0 ≤ a0) = false := decide_eq_false c2
    clear c2
    obtain rfl := Option.some.inj H
    go_enter Try.func77, Try.ntmps77
    go_wp2
    go_ret
    exact ⟨by first | rfl | (simp; done) | (simp [*]; done), by repeat (first | exact Drawn0.refl _ | apply Drawn0.step)⟩
end Go.Proofs.Ytnakanjhdcakhaa.Q
namespace Go.Proofs.Ytnakanjhdcakhaa.Q
open Go.RowKit Go.Proofs.YtnakanjhdcakhaaW.PrintWords Go.Proofs.YtnakanjhdcakhaaW.PrintLast Go.Proofs.YtnakanjhdcakhaaW.PrintMore
attribute [local go_sem] max2_int min2_int max_two min_two max_three min_three max_four min_four   -- for this text's walks alone
set_option linter.unusedVariables false
set_option linter.unusedSimpArgs false
def impl_size.f (a0_0 : Int) (a0_1 : Int) : Option (Int) := if 0 ≤ (wrap64 (16 - a0_1)) then (some (shl .i64 1 (wrap64 (16 - a0_1)))) else (none)
set_option maxHeartbeats 8000000 in
set_option maxRecDepth 100000 in
theorem impl_size.calls (a0_0 : Int) (a0_1 : Int) (r : Int) (w : World) (h : impl_size.f a0_0 a0_1 = some r) :
    Calls Try.prog 78 #[.agg #[.int .i64 a0_0, .int .i64 a0_1]] w fun e w' => e = .returned (.int .i64 r) ∧ Below w.heap.size w w' := by
  have hu26 := Try.underlying26
  have HB := Aside0.mk (Below.refl w.heap.size w)
  have H : (if 0 ≤ (wrap64 (16 - a0_1)) then (some (shl .i64 1 (wrap64 (16 - a0_1)))) else (none)) = some r := h
  clear h
  obtain ⟨ji2, hji2⟩ : ∃ j_ : Int, (wrap64 (16 - a0_1)) = j_ := ⟨_, rfl⟩
  replace H : (if 0 ≤ (ji2) then (some (shl .i64 1 (ji2))) else (none)) = some r := by first | (rw [hji2] at H; exact H) | (simp only [hji2] at H ⊢; exact H)
  have hji2w : (IntKind.i64.wrap (16 - a0_1)) = ji2 := (i64_w _).trans hji2
  by_cases c3 : 0 ≤ (ji2)
  · rw [if_pos c3] at H
    have c3b0 := eq_true c3
    have c3b1 : decide (0 ≤ (ji2)) = true := decide_eq_true c3
    clear c3
    obtain ⟨ji4, hji4⟩ : ∃ j_ : Int, (shl .i64 1 (ji2)) = j_ := ⟨_, rfl⟩
    replace H : (some ji4) = some r := by first | (rw [hji4] at H; exact H) | (simp only [hji4] at H ⊢; exact H)
    have hji4_ : (IntKind.i64.wrap (1 * 2 ^ min (ji2).toNat 64)) = ji4 := hji4
    have hji4z : (ji2) ≤ 64 → (IntKind.i64.wrap (1 * 2 ^ (ji2).toNat)) = ji4 := shl_small hji4
    have hji4u : (IntKind.i64.wrap (2 ^ min (ji2).toNat 64)) = ji4 := by have h_ := hji4_; rw [Int.one_mul] at h_; exact h_
    have hji4v : (ji2) ≤ 64 → (IntKind.i64.wrap (2 ^ (ji2).toNat)) = ji4 := fun hle_ => by have h_ := hji4z hle_; rw [Int.one_mul] at h_; exact h_
    have hji4y : (wrap64 (1 * 2 ^ min (ji2).toNat 64)) = ji4 := (i64_w _).symm.trans hji4_
    have hji4x : (ji2) ≤ 64 → (wrap64 (1 * 2 ^ (ji2).toNat)) = ji4 := fun h_ => (i64_w _).symm.trans (hji4z h_)
    obtain rfl := Option.some.inj H
    go_enter Try.func78, Try.ntmps78
    go_wp2_with (first | ((with_reducible refine gate_dst (N := 1) rfl ?_); refine box_event ?hg (N := 1) ?hd (cs := #[.int .i64 a0_0, .int .i64 a0_1]) (t := 26) ?hr ?_; (case hd => rfl); (case hg => rfl); (case hr => first | (go_simp; done) | (go_simp; rfl)); intro gb101 hg w5 hbox hb; have n0_ := Aside0.mk (below_step (by repeat (first | (with_reducible first | exact HB.out | apply below_alloc | apply pw_below_drewN | apply below_drew1) | exact HB.out)) hb); have n1_ := Aside0.mk (hbox); have n2_ := Aside0.mk ((by rw [hg]; exact (below_size (by repeat (first | (with_reducible first | exact HB.out | apply below_alloc | apply pw_below_drewN | apply below_drew1) | exact HB.out))) : w.heap.size ≤ gb101)); have n3_ := Aside0.mk ((by rw [hg]; exact (below_size (by repeat (first | (with_reducible first | exact HB.out | apply below_alloc | apply pw_below_drewN | apply below_drew1) | exact HB.out))) : w.heap.size ≤ gb101)); clear HB; have HB := n0_; have BK101 := n1_; have GW101 := n2_; have GE101 := n3_; clear n0_ n1_ n2_ n3_; clear hb hbox hg; have hcz6_0 : w5.cell? ⟨gb101, 0, none⟩ = some (.int .i64 a0_0) := (blk_cell BK101.out 0).trans rfl; have hcz6_1 : w5.cell? ⟨gb101, 1, none⟩ = some (.int .i64 a0_1) := (blk_cell BK101.out 1).trans rfl; have hfz6_0 := blk_frozen BK101.out 0; have hfz6_1 := blk_frozen BK101.out 1))
    go_ret
    exact ⟨by first | rfl | (simp [errW_none, errW_some] <;> rfl) | (simp only [← hji2, ← hji4]; first | rfl | (simp [errW_none, errW_some] <;> rfl)) | (simp [*, errW_none, errW_some] <;> rfl), by repeat (first | (with_reducible first | exact HB.out | apply below_alloc | apply pw_below_drewN | apply below_drew1 | refine below_set ?_ GE101.out) | exact HB.out)⟩
  · rw [if_neg c3] at H
    exact absurd H (by simp)
end Go.Proofs.Ytnakanjhdcakhaa.Q
namespace Go.Proofs.Ytnakanjhdcakhaa.Q
open Go.RowKit Go.Proofs.YtnakanjhdcakhaaW.PrintWords Go.Proofs.YtnakanjhdcakhaaW.PrintLast Go.Proofs.YtnakanjhdcakhaaW.PrintMore
attribute [local go_sem] max2_int min2_int max_two min_two max_three min_three max_four min_four   -- for this text's walks alone
set_option linter.unusedVariables false
set_option linter.unusedSimpArgs false
def impl_NetOk.f (a0_0 : Int) (a0_1 : Int) : Option (Bool) := if a0_1 ≥ 0 then (if a0_1 ≤ 16 then ((impl_isAddr.f a0_0).bind fun t102 => (if t102 = true then ((impl_size.f a0_0 a0_1).bind fun t103 => (if t103 = 0 then (none) else (some ((Int.tmod a0_0 t103) == 0)))) else (some false))) else (some false)) else (some false)
def impl_NetOk.T1 : Bool × List (List Nat × List Nat) := (true, [([], []), ([0], [0]), ([1], [1]), ([2], [2]), ([3], [3]), ([4, 3], [3, 4]), ([5, 3], [3, 5]), ([3, 6], [3, 6]), ([7, 3], [7]), ([8], [8]), ([9, 8], [8, 9]), ([10, 8, 8], [8, 10]), ([8, 11], [8, 11]), ([12, 11], [12]), ([13], [13]), ([14, 13], [13, 14]), ([13], [13]), ([16, 13, 13], [13, 16]), ([15, 17, 13], [13, 15, 17]), ([18, 13], [13, 18]), ([13, 19], [13, 19]), ([20, 17, 0, 1, 2, 3, 4, 5, 6, 7, 8, 9, 10, 11, 12, 13, 14, 15, 16, 17, 18, 19, 20], [20])])
def impl_NetOk.B1 : List Nat := [0, 1, 3, 7, 15, 31, 63, 127, 255, 511, 1023, 2047, 4095, 8191, 16383, 32767, 16383, 81919, 262143, 524287, 1048575, 2097151]
theorem impl_NetOk.tab1 : rtab .any (opsOf Try.f26 1) = impl_NetOk.T1 := by kernel_rfl
theorem impl_NetOk.bits1 : waitsOk impl_NetOk.T1.2 impl_NetOk.B1 = true := by kernel_rfl
theorem impl_NetOk.zHB {P : Prop} (h : P := by repeat (first | (with_reducible first | exact HB.out | apply below_alloc | apply pw_below_drewN | apply below_drew1 | refine below_set ?_ GE101.out) | exact HB.out)) : P := h
def impl_NetOk.zl (n k : Nat) : Array Bool := ((List.range n).map fun i => k.testBit i).toArray
theorem impl_NetOk.y1 {P : Prop} (h : P := by (try simp only [List.map_toArray, List.map_cons, List.map_nil]); first | done | rfl | (simp only [List.length_drop, List.length_take]; rfl)) : P := h
theorem impl_NetOk.y2 {P : Prop} (h : P := by rw [hg]; exact (below_size (zHB))) : P := h
theorem impl_NetOk.zA {p : Prop} (h : p) : Aside0 p := ⟨h⟩
set_option maxHeartbeats 8000000 in
set_option maxRecDepth 100000 in
theorem impl_NetOk.calls (a0_0 : Int) (a0_1 : Int) (r : Bool) (w : World) (h : impl_NetOk.f a0_0 a0_1 = some r) :
  Calls Try.prog 26 #[.agg #[.int .i64 a0_0, .int .i64 a0_1]] w fun e w' => e = .returned (.bool r) ∧ Below w.heap.size w w' := by
 have hu26 := Try.underlying26
 have HB := zA (Below.refl w.heap.size w)
 have H : (if a0_1 ≥ 0 then (if a0_1 ≤ 16 then ((impl_isAddr.f a0_0).bind fun t102 => (if t102 = true then ((impl_size.f a0_0 a0_1).bind fun t103 => (if t103 = 0 then (none) else (some ((Int.tmod a0_0 t103) == 0)))) else (some false))) else (some false)) else (some false)) = some r := h
 clear h
 by_cases c2 : a0_1 ≥ 0
 ·rw [if_pos c2] at H
  have c2b0 : decide (0 ≤ a0_1) = true := decide_eq_true c2
  clear c2
  by_cases c3 : a0_1 ≤ 16
  ·rw [if_pos c3] at H
   have c3b0 : decide (a0_1 ≤ 16) = true := decide_eq_true c3
   clear c3
   replace H := Option.bind_eq_some_iff.mp H
   obtain ⟨t102, A40, H⟩ := H
   replace H : (if t102 = true then ((impl_size.f a0_0 a0_1).bind fun t103 => (if t103 = 0 then (none) else (some ((Int.tmod a0_0 t103) == 0)))) else (some false)) = some r := H
   have A4 := zA A40
   clear A40
   by_cases c5 : t102 = true
   ·subst c5
    have H1 : ((impl_size.f a0_0 a0_1).bind fun t103 => (if t103 = 0 then (none) else (some ((Int.tmod a0_0 t103) == 0)))) = some r := by rw [if_pos rfl] at H; exact H
    clear H
    have H := H1
    clear H1
    replace H := Option.bind_eq_some_iff.mp H
    obtain ⟨t103, A60, H⟩ := H
    replace H : (if t103 = 0 then (none) else (some ((Int.tmod a0_0 t103) == 0))) = some r := H
    have A6 := zA A60
    clear A60
    by_cases c7 : t103 = 0
    ·rw [if_pos c7] at H
     exact absurd H (by simp)
    rw [if_neg c7] at H
    have c7b0 : (t103 == 0) = false := beq_eq_false_iff_ne.mpr c7
    have c7b1 : (t103 != 0) = true := bne_iff_ne.mpr c7
    obtain rfl := Option.some.inj H
    go_enter Try.func26, Try.ntmps26
    try go_wp2_with (first | ((with_reducible refine gate_dst (N := 1) rfl ?_); refine box_event ?hg (N := 1) ?hd (cs := #[.int .i64 a0_0, .int .i64 a0_1]) (t := 26) ?hr ?_; (case hd => rfl); (case hg => rfl); (case hr => first | (go_simp; done) | (go_simp; rfl)); intro gb101 hg w8 hbox hb; have n0_ := zA (below_step (zHB) hb); have n1_ := zA (hbox); have n2_ := zA ((show w.heap.size ≤ gb101 from y2)); have n3_ := zA ((show w.heap.size ≤ gb101 from y2)); clear HB; have HB := n0_; have BK101 := n1_; have GW101 := n2_; have GE101 := n3_; clear n0_ n1_ n2_ n3_; clear hb hbox hg))
    have n0_ := zA (blk_drew BK101.out)
    have n1_ := zA (below_drew1 HB.out)
    clear BK101
    clear HB
    have BK101 := n0_
    have HB := n1_
    clear n0_ n1_
    refine start_ (n := 22) (S := fun w' => w'.cell? ⟨gb101, 0, none⟩ = some (.int .i64 a0_0) ∧ w'.cell? ⟨gb101, 1, none⟩ = some (.int .i64 a0_1)) (ds := []) (zl 22 0) (by kernel_rfl) rfl rfl ⟨(blk_cell BK101.out 0).trans rfl, (blk_cell BK101.out 1).trans rfl⟩ (fun hHeld => ?_); refine with_tabW impl_NetOk.tab1 impl_NetOk.bits1 (fun HT_ HW_ => ?_)
    generalize w8.drew = w9 at BK101 HB hHeld ⊢
    refine pure_ (i := 0) (N := some 3) (v := ?_) (a' := ?_) (zl 22 1) rfl rfl (any_of HT_.out (by kernel_rfl)) (fun _ _ _ h => h) (Or.inl ⟨by rfl, ?_⟩) ?_ ?_
    rotate_left
    ·intro w'
     go_simp
     with_reducible rfl
    rotate_left
    ·simp only [Act.put, List.setIfInBounds_toArray, List.set_cons_zero, List.set_cons_succ, i64_w, i32_w]
     rfl
    refine take_ (i := 1) (N := some 4) (v := ?_) (a' := ?_) (zl 22 3) rfl rfl (take_ofW HT_.out HW_.out (by kernel_rfl)) (fun _ _ _ h => h) (Or.inl ⟨by rfl, ?_⟩) hHeld ?_ ?_
    rotate_left
    ·rintro w' ⟨s0, s1⟩
     go_simp
     with_reducible rfl
    rotate_left
    ·simp only [Act.put, List.setIfInBounds_toArray, List.set_cons_zero, List.set_cons_succ, i64_w, i32_w]
     rfl
    refine pure_ (i := 2) (N := some 5) (v := ?_) (a' := ?_) (zl 22 7) rfl rfl (any_of HT_.out (by kernel_rfl)) (fun _ _ _ h => h) (Or.inl ⟨by rfl, ?_⟩) ?_ ?_
    rotate_left
    ·intro w'
     go_simp
     with_reducible rfl
    rotate_left
    ·simp only [Act.put, List.setIfInBounds_toArray, List.set_cons_zero, List.set_cons_succ, i64_w, i32_w]
     rfl
    refine pure_ (i := 3) (N := some 6) (v := ?_) (a' := ?_) (zl 22 15) rfl rfl (any_of HT_.out (by kernel_rfl)) (fun _ _ _ h => h) (Or.inl ⟨by rfl, ?_⟩) ?_ ?_
    rotate_left
    ·intro w'
     go_simp
     with_reducible rfl
    rotate_left
    ·simp only [Act.put, List.setIfInBounds_toArray, List.set_cons_zero, List.set_cons_succ, i64_w, i32_w]
     rfl
    refine pure_ (i := 4) (N := some 7) (v := ?_) (a' := ?_) (zl 22 31) rfl rfl (any_of HT_.out (by kernel_rfl)) (fun _ _ _ h => h) (Or.inl ⟨by rfl, ?_⟩) ?_ ?_
    rotate_left
    ·intro w'
     go_simp
     with_reducible rfl
    rotate_left
    ·simp only [Act.put, List.setIfInBounds_toArray, List.set_cons_zero, List.set_cons_succ, i64_w, i32_w]
     rfl
    refine take_ (i := 5) (N := some 8) (v := ?_) (a' := ?_) (zl 22 63) rfl rfl (take_ofW HT_.out HW_.out (by kernel_rfl)) (fun _ _ _ h => h) (Or.inl ⟨by rfl, ?_⟩) hHeld ?_ ?_
    rotate_left
    ·rintro w' ⟨s0, s1⟩
     go_simp
     with_reducible rfl
    rotate_left
    ·simp only [Act.put, List.setIfInBounds_toArray, List.set_cons_zero, List.set_cons_succ, i64_w, i32_w]
     rfl
    refine pure_ (i := 6) (N := some 9) (v := ?_) (a' := ?_) (zl 22 127) rfl rfl (any_of HT_.out (by kernel_rfl)) (fun _ _ _ h => h) (Or.inl ⟨by rfl, ?_⟩) ?_ ?_
    rotate_left
    ·intro w'
     go_simp
     with_reducible rfl
    rotate_left
    ·simp only [Act.put, List.setIfInBounds_toArray, List.set_cons_zero, List.set_cons_succ, i64_w, i32_w]
     rfl
    refine pure_ (i := 7) (N := some 10) (v := ?_) (a' := ?_) (zl 22 255) rfl rfl (any_of HT_.out (by kernel_rfl)) (fun _ _ _ h => h) (Or.inl ⟨by rfl, ?_⟩) ?_ ?_
    rotate_left
    ·intro w'
     go_simp
     with_reducible rfl
    rotate_left
    ·simp only [Act.put, List.setIfInBounds_toArray, List.set_cons_zero, List.set_cons_succ, i64_w, i32_w]
     rfl
    refine pure_ (i := 8) (N := some 11) (v := ?_) (a' := ?_) (zl 22 511) rfl rfl (any_of HT_.out (by kernel_rfl)) (fun _ _ _ h => h) (Or.inl ⟨by rfl, ?_⟩) ?_ ?_
    rotate_left
    ·intro w'
     go_simp
     with_reducible rfl
    rotate_left
    ·simp only [Act.put, List.setIfInBounds_toArray, List.set_cons_zero, List.set_cons_succ, i64_w, i32_w]
     rfl
    refine pure_ (i := 9) (N := some 12) (v := ?_) (a' := ?_) (zl 22 1023) rfl rfl (any_of HT_.out (by kernel_rfl)) (fun _ _ _ h => h) (Or.inl ⟨by rfl, ?_⟩) ?_ ?_
    rotate_left
    ·intro w'
     go_simp
     with_reducible rfl
    rotate_left
    ·simp only [Act.put, List.setIfInBounds_toArray, List.set_cons_zero, List.set_cons_succ, i64_w, i32_w]
     rfl
    refine take_ (i := 10) (N := some 13) (v := ?_) (a' := ?_) (zl 22 2047) rfl rfl (take_ofW HT_.out HW_.out (by kernel_rfl)) (fun _ _ _ h => h) (Or.inl ⟨by rfl, ?_⟩) hHeld ?_ ?_
    rotate_left
    ·rintro w' ⟨s0, s1⟩
     go_simp
     with_reducible rfl
    rotate_left
    ·simp only [Act.put, List.setIfInBounds_toArray, List.set_cons_zero, List.set_cons_succ, i64_w, i32_w]
     rfl
    refine one_ (i := 11) (N := some 14) (zl 22 4095) rfl rfl (one_of HT_.out (by kernel_rfl)) (by decide) (fun K hK => ?_)
    refine goes_ Try.func77 (by kernel_rfl) rfl #[.int .i64 a0_0] (by rfl) rfl rfl y1  ?_
    with_reducible refine (impl_isAddr.calls a0_0 true _ A4.out).mono ?_
    rintro e w' ⟨rfl, ⟨nd, rfl⟩⟩
    refine ⟨_, rfl, ?_⟩
    refine hK.out _ _ ⟨(blk_cell BK101.out 0).trans rfl, (blk_cell BK101.out 1).trans rfl⟩ (fun hHeld => ?_)
    clear hK K
    refine norm_ (a' := ?_) ?_ ?_
    rotate_left
    ·show Act.put _ (some 14) _ = _
     simp only [Act.put, List.setIfInBounds_toArray, List.set_cons_zero, List.set_cons_succ, i64_w, i32_w]
     rfl
    refine pure_ (i := 12) (N := some 15) (v := ?_) (a' := ?_) (zl 22 8191) rfl rfl (any_of HT_.out (by kernel_rfl)) (fun _ _ _ h => h) (Or.inl ⟨by rfl, ?_⟩) ?_ ?_
    rotate_left
    ·intro w'
     go_simp
     with_reducible rfl
    rotate_left
    ·simp only [Act.put, List.setIfInBounds_toArray, List.set_cons_zero, List.set_cons_succ, i64_w, i32_w]
     rfl
    refine pure_ (i := 13) (N := some 16) (v := ?_) (a' := ?_) (zl 22 16383) rfl rfl (any_of HT_.out (by kernel_rfl)) (fun _ _ _ h => h) (Or.inl ⟨by rfl, ?_⟩) ?_ ?_
    rotate_left
    ·intro w'
     go_simp
     with_reducible rfl
    rotate_left
    ·simp only [Act.put, List.setIfInBounds_toArray, List.set_cons_zero, List.set_cons_succ, i64_w, i32_w]
     rfl
    refine pure_ (i := 14) (N := some 17) (v := ?_) (a' := ?_) (zl 22 32767) rfl rfl (any_of HT_.out (by kernel_rfl)) (fun _ _ _ h => h) (Or.inl ⟨by rfl, ?_⟩) ?_ ?_
    rotate_left
    ·intro w'
     go_simp
     with_reducible rfl
    rotate_left
    ·simp only [Act.put, List.setIfInBounds_toArray, List.set_cons_zero, List.set_cons_succ, i64_w, i32_w]
     rfl
    refine take_ (i := 15) (N := some 18) (v := ?_) (a' := ?_) (zl 22 65535) rfl rfl (take_ofW HT_.out HW_.out (by kernel_rfl)) (fun _ _ _ h => h) (Or.inl ⟨by rfl, ?_⟩) hHeld ?_ ?_
    rotate_left
    ·rintro w' ⟨s0, s1⟩
     go_simp
     with_reducible rfl
    rotate_left
    ·simp only [Act.put, List.setIfInBounds_toArray, List.set_cons_zero, List.set_cons_succ, i64_w, i32_w]
     rfl
    refine take_ (i := 16) (N := some 19) (v := ?_) (a' := ?_) (zl 22 131071) rfl rfl (take_ofW HT_.out HW_.out (by kernel_rfl)) (fun _ _ _ h => h) (Or.inl ⟨by rfl, ?_⟩) hHeld ?_ ?_
    rotate_left
    ·rintro w' ⟨s0, s1⟩
     go_simp
     with_reducible rfl
    rotate_left
    ·simp only [Act.put, List.setIfInBounds_toArray, List.set_cons_zero, List.set_cons_succ, i64_w, i32_w]
     rfl
    refine one_ (i := 17) (N := some 20) (zl 22 262143) rfl rfl (one_of HT_.out (by kernel_rfl)) (by decide) (fun K hK => ?_)
    refine goes_ Try.func78 (by kernel_rfl) rfl #[.agg #[.int .i64 a0_0, .int .i64 a0_1]] (by rfl) rfl rfl y1  ?_
    with_reducible refine (impl_size.calls a0_0 a0_1 t103 _ A6.out).mono ?_
    rintro e w10 ⟨rfl, hb⟩
    refine ⟨_, rfl, ?_⟩
    have n0_ := zA (blk_below (g := gb101) (o := .cells #[.int .i64 a0_0, .int .i64 a0_1] 26 (0, 0)) (by (with_reducible repeat (first | refine blk_drewN ?_ _ | refine blk_drew ?_ | refine blk_alloc ?_ _)); exact BK101.out) hb)
    have n1_ := zA (below_step (zHB) hb)
    clear BK101
    clear HB
    have BK101 := n0_
    have HB := n1_
    clear n0_ n1_
    (try clear hb)
    (try clear hb2)
    (try clear hk)
    (try clear hi)
    refine hK.out _ _ ⟨(blk_cell BK101.out 0).trans rfl, (blk_cell BK101.out 1).trans rfl⟩ (fun hHeld => ?_)
    clear hK K
    refine norm_ (a' := ?_) ?_ ?_
    rotate_left
    ·show Act.put _ (some 20) _ = _
     simp only [Act.put, List.setIfInBounds_toArray, List.set_cons_zero, List.set_cons_succ, i64_w, i32_w]
     rfl
    refine pure_ (i := 18) (N := some 21) (v := ?_) (a' := ?_) (zl 22 524287) rfl rfl (any_of HT_.out (by kernel_rfl)) (fun _ _ _ h => h) (Or.inl ⟨by rfl, ?_⟩) ?_ ?_
    rotate_left
    ·intro w'
     go_simp
     with_reducible rfl
    rotate_left
    ·simp only [Act.put, List.setIfInBounds_toArray, List.set_cons_zero, List.set_cons_succ, i64_w, i32_w]
     rfl
    refine pure_ (i := 19) (N := some 22) (v := ?_) (a' := ?_) (zl 22 1048575) rfl rfl (any_of HT_.out (by kernel_rfl)) (fun _ _ _ h => h) (Or.inl ⟨by rfl, ?_⟩) ?_ ?_
    rotate_left
    ·intro w'
     go_simp
     with_reducible rfl
    rotate_left
    ·simp only [Act.put, List.setIfInBounds_toArray, List.set_cons_zero, List.set_cons_succ, i64_w, i32_w]
     rfl
    refine pure_ (i := 20) (N := some 23) (v := ?_) (a' := ?_) (zl 22 2097151) rfl rfl (any_of HT_.out (by kernel_rfl)) (fun _ _ _ h => h) (Or.inl ⟨by rfl, ?_⟩) ?_ ?_
    rotate_left
    ·intro w'
     go_simp
     with_reducible rfl
    rotate_left
    ·simp only [Act.put, List.setIfInBounds_toArray, List.set_cons_zero, List.set_cons_succ, i64_w, i32_w]
     rfl
    refine pure_ (i := 21) (N := some 2) (v := ?_) (a' := ?_) (zl 22 4194303) rfl rfl (any_of HT_.out (by kernel_rfl)) (fun _ _ _ h => h) (Or.inl ⟨by rfl, ?_⟩) ?_ ?_
    rotate_left
    ·intro w'
     go_simp
     with_reducible rfl
    rotate_left
    ·simp only [Act.put, List.setIfInBounds_toArray, List.set_cons_zero, List.set_cons_succ, i64_w, i32_w]
     rfl
    refine done_ (done_of HT_.out (by kernel_rfl)) ?_
    try go_wp2
    go_ret
    exact ⟨by first | rfl | (simp [errW_none, errW_some] <;> rfl) | (simp [*, errW_none, errW_some] <;> rfl), zHB⟩
   replace c5 := Bool.eq_false_iff.mpr c5
   subst c5
   have H1 : (some false) = some r := by rw [if_neg (show ¬ (false = true) by decide)] at H; exact H
   clear H
   have H := H1
   clear H1
   obtain rfl := Option.some.inj H
   go_enter Try.func26, Try.ntmps26
   try go_wp2_with (first | ((with_reducible refine gate_dst (N := 1) rfl ?_); refine box_event ?hg (N := 1) ?hd (cs := #[.int .i64 a0_0, .int .i64 a0_1]) (t := 26) ?hr ?_; (case hd => rfl); (case hg => rfl); (case hr => first | (go_simp; done) | (go_simp; rfl)); intro gb101 hg w11 hbox hb; have n0_ := zA (below_step (zHB) hb); have n1_ := zA (hbox); have n2_ := zA ((show w.heap.size ≤ gb101 from y2)); have n3_ := zA ((show w.heap.size ≤ gb101 from y2)); clear HB; have HB := n0_; have BK101 := n1_; have GW101 := n2_; have GE101 := n3_; clear n0_ n1_ n2_ n3_; clear hb hbox hg))
   have n0_ := zA (blk_drew BK101.out)
   have n1_ := zA (below_drew1 HB.out)
   clear BK101
   clear HB
   have BK101 := n0_
   have HB := n1_
   clear n0_ n1_
   refine start_ (n := 22) (S := fun w' => w'.cell? ⟨gb101, 0, none⟩ = some (.int .i64 a0_0) ∧ w'.cell? ⟨gb101, 1, none⟩ = some (.int .i64 a0_1)) (ds := []) (zl 22 0) (by kernel_rfl) rfl rfl ⟨(blk_cell BK101.out 0).trans rfl, (blk_cell BK101.out 1).trans rfl⟩ (fun hHeld => ?_); refine with_tabW impl_NetOk.tab1 impl_NetOk.bits1 (fun HT_ HW_ => ?_)
   generalize w11.drew = w12 at BK101 HB hHeld ⊢
   refine pure_ (i := 0) (N := some 3) (v := ?_) (a' := ?_) (zl 22 1) rfl rfl (any_of HT_.out (by kernel_rfl)) (fun _ _ _ h => h) (Or.inl ⟨by rfl, ?_⟩) ?_ ?_
   rotate_left
   ·intro w'
    go_simp
    with_reducible rfl
   rotate_left
   ·simp only [Act.put, List.setIfInBounds_toArray, List.set_cons_zero, List.set_cons_succ, i64_w, i32_w]
    rfl
   refine take_ (i := 1) (N := some 4) (v := ?_) (a' := ?_) (zl 22 3) rfl rfl (take_ofW HT_.out HW_.out (by kernel_rfl)) (fun _ _ _ h => h) (Or.inl ⟨by rfl, ?_⟩) hHeld ?_ ?_
   rotate_left
   ·rintro w' ⟨s0, s1⟩
    go_simp
    with_reducible rfl
   rotate_left
   ·simp only [Act.put, List.setIfInBounds_toArray, List.set_cons_zero, List.set_cons_succ, i64_w, i32_w]
    rfl
   refine pure_ (i := 2) (N := some 5) (v := ?_) (a' := ?_) (zl 22 7) rfl rfl (any_of HT_.out (by kernel_rfl)) (fun _ _ _ h => h) (Or.inl ⟨by rfl, ?_⟩) ?_ ?_
   rotate_left
   ·intro w'
    go_simp
    with_reducible rfl
   rotate_left
   ·simp only [Act.put, List.setIfInBounds_toArray, List.set_cons_zero, List.set_cons_succ, i64_w, i32_w]
    rfl
   refine pure_ (i := 3) (N := some 6) (v := ?_) (a' := ?_) (zl 22 15) rfl rfl (any_of HT_.out (by kernel_rfl)) (fun _ _ _ h => h) (Or.inl ⟨by rfl, ?_⟩) ?_ ?_
   rotate_left
   ·intro w'
    go_simp
    with_reducible rfl
   rotate_left
   ·simp only [Act.put, List.setIfInBounds_toArray, List.set_cons_zero, List.set_cons_succ, i64_w, i32_w]
    rfl
   refine pure_ (i := 4) (N := some 7) (v := ?_) (a' := ?_) (zl 22 31) rfl rfl (any_of HT_.out (by kernel_rfl)) (fun _ _ _ h => h) (Or.inl ⟨by rfl, ?_⟩) ?_ ?_
   rotate_left
   ·intro w'
    go_simp
    with_reducible rfl
   rotate_left
   ·simp only [Act.put, List.setIfInBounds_toArray, List.set_cons_zero, List.set_cons_succ, i64_w, i32_w]
    rfl
   refine take_ (i := 5) (N := some 8) (v := ?_) (a' := ?_) (zl 22 63) rfl rfl (take_ofW HT_.out HW_.out (by kernel_rfl)) (fun _ _ _ h => h) (Or.inl ⟨by rfl, ?_⟩) hHeld ?_ ?_
   rotate_left
   ·rintro w' ⟨s0, s1⟩
    go_simp
    with_reducible rfl
   rotate_left
   ·simp only [Act.put, List.setIfInBounds_toArray, List.set_cons_zero, List.set_cons_succ, i64_w, i32_w]
    rfl
   refine pure_ (i := 6) (N := some 9) (v := ?_) (a' := ?_) (zl 22 127) rfl rfl (any_of HT_.out (by kernel_rfl)) (fun _ _ _ h => h) (Or.inl ⟨by rfl, ?_⟩) ?_ ?_
   rotate_left
   ·intro w'
    go_simp
    with_reducible rfl
   rotate_left
   ·simp only [Act.put, List.setIfInBounds_toArray, List.set_cons_zero, List.set_cons_succ, i64_w, i32_w]
    rfl
   refine pure_ (i := 7) (N := some 10) (v := ?_) (a' := ?_) (zl 22 255) rfl rfl (any_of HT_.out (by kernel_rfl)) (fun _ _ _ h => h) (Or.inl ⟨by rfl, ?_⟩) ?_ ?_
   rotate_left
   ·intro w'
    go_simp
    with_reducible rfl
   rotate_left
   ·simp only [Act.put, List.setIfInBounds_toArray, List.set_cons_zero, List.set_cons_succ, i64_w, i32_w]
    rfl
   refine pure_ (i := 8) (N := some 11) (v := ?_) (a' := ?_) (zl 22 511) rfl rfl (any_of HT_.out (by kernel_rfl)) (fun _ _ _ h => h) (Or.inl ⟨by rfl, ?_⟩) ?_ ?_
   rotate_left
   ·intro w'
    go_simp
    with_reducible rfl
   rotate_left
   ·simp only [Act.put, List.setIfInBounds_toArray, List.set_cons_zero, List.set_cons_succ, i64_w, i32_w]
    rfl
   refine pure_ (i := 9) (N := some 12) (v := ?_) (a' := ?_) (zl 22 1023) rfl rfl (any_of HT_.out (by kernel_rfl)) (fun _ _ _ h => h) (Or.inl ⟨by rfl, ?_⟩) ?_ ?_
   rotate_left
   ·intro w'
    go_simp
    with_reducible rfl
   rotate_left
   ·simp only [Act.put, List.setIfInBounds_toArray, List.set_cons_zero, List.set_cons_succ, i64_w, i32_w]
    rfl
   refine take_ (i := 10) (N := some 13) (v := ?_) (a' := ?_) (zl 22 2047) rfl rfl (take_ofW HT_.out HW_.out (by kernel_rfl)) (fun _ _ _ h => h) (Or.inl ⟨by rfl, ?_⟩) hHeld ?_ ?_
   rotate_left
   ·rintro w' ⟨s0, s1⟩
    go_simp
    with_reducible rfl
   rotate_left
   ·simp only [Act.put, List.setIfInBounds_toArray, List.set_cons_zero, List.set_cons_succ, i64_w, i32_w]
    rfl
   refine one_ (i := 11) (N := some 14) (zl 22 4095) rfl rfl (one_of HT_.out (by kernel_rfl)) (by decide) (fun K hK => ?_)
   refine goes_ Try.func77 (by kernel_rfl) rfl #[.int .i64 a0_0] (by rfl) rfl rfl y1  ?_
   with_reducible refine (impl_isAddr.calls a0_0 false _ A4.out).mono ?_
   rintro e w' ⟨rfl, ⟨nd, rfl⟩⟩
   refine ⟨_, rfl, ?_⟩
   refine hK.out _ _ ⟨(blk_cell BK101.out 0).trans rfl, (blk_cell BK101.out 1).trans rfl⟩ (fun hHeld => ?_)
   clear hK K
   refine norm_ (a' := ?_) ?_ ?_
   rotate_left
   ·show Act.put _ (some 14) _ = _
    simp only [Act.put, List.setIfInBounds_toArray, List.set_cons_zero, List.set_cons_succ, i64_w, i32_w]
    rfl
   refine pure_ (i := 12) (N := some 15) (v := ?_) (a' := ?_) (zl 22 8191) rfl rfl (any_of HT_.out (by kernel_rfl)) (fun _ _ _ h => h) (Or.inl ⟨by rfl, ?_⟩) ?_ ?_
   rotate_left
   ·intro w'
    go_simp
    with_reducible rfl
   rotate_left
   ·simp only [Act.put, List.setIfInBounds_toArray, List.set_cons_zero, List.set_cons_succ, i64_w, i32_w]
    rfl
   refine pure_ (i := 13) (N := some 16) (v := ?_) (a' := ?_) (zl 22 16383) rfl rfl (any_of HT_.out (by kernel_rfl)) (fun _ _ _ h => h) (Or.inl ⟨by rfl, ?_⟩) ?_ ?_
   rotate_left
   ·intro w'
    go_simp
    with_reducible rfl
   rotate_left
   ·simp only [Act.put, List.setIfInBounds_toArray, List.set_cons_zero, List.set_cons_succ, i64_w, i32_w]
    rfl
   refine pure_ (i := 14) (N := some 17) (v := undef) (a' := ?_) (zl 22 32767) rfl rfl (any_of HT_.out (by kernel_rfl)) (fun _ _ _ h => h) (Or.inr ⟨by rfl, rfl⟩) ?_ ?_
   rotate_left
   ·simp only [Act.put, List.setIfInBounds_toArray, List.set_cons_zero, List.set_cons_succ, i64_w, i32_w]
    rfl
   refine pure_ (i := 15) (N := some 18) (v := undef) (a' := ?_) (zl 22 65535) rfl rfl (any_of HT_.out (by kernel_rfl)) (fun _ _ _ h => h) (Or.inr ⟨by rfl, rfl⟩) ?_ ?_
   rotate_left
   ·simp only [Act.put, List.setIfInBounds_toArray, List.set_cons_zero, List.set_cons_succ, i64_w, i32_w]
    rfl
   refine pure_ (i := 16) (N := some 19) (v := undef) (a' := ?_) (zl 22 131071) rfl rfl (any_of HT_.out (by kernel_rfl)) (fun _ _ _ h => h) (Or.inr ⟨by rfl, rfl⟩) ?_ ?_
   rotate_left
   ·simp only [Act.put, List.setIfInBounds_toArray, List.set_cons_zero, List.set_cons_succ, i64_w, i32_w]
    rfl
   refine pure_ (i := 17) (N := some 20) (v := undef) (a' := ?_) (zl 22 262143) rfl rfl (any_of HT_.out (by kernel_rfl)) (fun _ _ _ h => h) (Or.inr ⟨by rfl, rfl⟩) ?_ ?_
   rotate_left
   ·simp only [Act.put, List.setIfInBounds_toArray, List.set_cons_zero, List.set_cons_succ, i64_w, i32_w]
    rfl
   refine pure_ (i := 18) (N := some 21) (v := undef) (a' := ?_) (zl 22 524287) rfl rfl (any_of HT_.out (by kernel_rfl)) (fun _ _ _ h => h) (Or.inr ⟨by rfl, rfl⟩) ?_ ?_
   rotate_left
   ·simp only [Act.put, List.setIfInBounds_toArray, List.set_cons_zero, List.set_cons_succ, i64_w, i32_w]
    rfl
   refine pure_ (i := 19) (N := some 22) (v := undef) (a' := ?_) (zl 22 1048575) rfl rfl (any_of HT_.out (by kernel_rfl)) (fun _ _ _ h => h) (Or.inr ⟨by rfl, rfl⟩) ?_ ?_
   rotate_left
   ·simp only [Act.put, List.setIfInBounds_toArray, List.set_cons_zero, List.set_cons_succ, i64_w, i32_w]
    rfl
   refine pure_ (i := 20) (N := some 23) (v := ?_) (a' := ?_) (zl 22 2097151) rfl rfl (any_of HT_.out (by kernel_rfl)) (fun _ _ _ h => h) (Or.inl ⟨by rfl, ?_⟩) ?_ ?_
   rotate_left
   ·intro w'
    go_simp
    with_reducible rfl
   rotate_left
   ·simp only [Act.put, List.setIfInBounds_toArray, List.set_cons_zero, List.set_cons_succ, i64_w, i32_w]
    rfl
   refine pure_ (i := 21) (N := some 2) (v := ?_) (a' := ?_) (zl 22 4194303) rfl rfl (any_of HT_.out (by kernel_rfl)) (fun _ _ _ h => h) (Or.inl ⟨by rfl, ?_⟩) ?_ ?_
   rotate_left
   ·intro w'
    go_simp
    with_reducible rfl
   rotate_left
   ·simp only [Act.put, List.setIfInBounds_toArray, List.set_cons_zero, List.set_cons_succ, i64_w, i32_w]
    rfl
   refine done_ (done_of HT_.out (by kernel_rfl)) ?_
   try go_wp2
   go_ret
   exact ⟨by first | rfl | (simp [errW_none, errW_some] <;> rfl) | (simp [*, errW_none, errW_some] <;> rfl), zHB⟩
  rw [if_neg c3] at H
  have c3b0 : decide (a0_1 ≤ 16) = false := decide_eq_false c3
  clear c3
  obtain rfl := Option.some.inj H
  go_enter Try.func26, Try.ntmps26
  try go_wp2_with (first | ((with_reducible refine gate_dst (N := 1) rfl ?_); refine box_event ?hg (N := 1) ?hd (cs := #[.int .i64 a0_0, .int .i64 a0_1]) (t := 26) ?hr ?_; (case hd => rfl); (case hg => rfl); (case hr => first | (go_simp; done) | (go_simp; rfl)); intro gb101 hg w13 hbox hb; have n0_ := zA (below_step (zHB) hb); have n1_ := zA (hbox); have n2_ := zA ((show w.heap.size ≤ gb101 from y2)); have n3_ := zA ((show w.heap.size ≤ gb101 from y2)); clear HB; have HB := n0_; have BK101 := n1_; have GW101 := n2_; have GE101 := n3_; clear n0_ n1_ n2_ n3_; clear hb hbox hg))
  have n0_ := zA (blk_drew BK101.out)
  have n1_ := zA (below_drew1 HB.out)
  clear BK101
  clear HB
  have BK101 := n0_
  have HB := n1_
  clear n0_ n1_
  refine start_ (n := 22) (S := fun w' => w'.cell? ⟨gb101, 0, none⟩ = some (.int .i64 a0_0) ∧ w'.cell? ⟨gb101, 1, none⟩ = some (.int .i64 a0_1)) (ds := []) (zl 22 0) (by kernel_rfl) rfl rfl ⟨(blk_cell BK101.out 0).trans rfl, (blk_cell BK101.out 1).trans rfl⟩ (fun hHeld => ?_); refine with_tabW impl_NetOk.tab1 impl_NetOk.bits1 (fun HT_ HW_ => ?_)
  generalize w13.drew = w14 at BK101 HB hHeld ⊢
  refine pure_ (i := 0) (N := some 3) (v := ?_) (a' := ?_) (zl 22 1) rfl rfl (any_of HT_.out (by kernel_rfl)) (fun _ _ _ h => h) (Or.inl ⟨by rfl, ?_⟩) ?_ ?_
  rotate_left
  ·intro w'
   go_simp
   with_reducible rfl
  rotate_left
  ·simp only [Act.put, List.setIfInBounds_toArray, List.set_cons_zero, List.set_cons_succ, i64_w, i32_w]
   rfl
  refine take_ (i := 1) (N := some 4) (v := ?_) (a' := ?_) (zl 22 3) rfl rfl (take_ofW HT_.out HW_.out (by kernel_rfl)) (fun _ _ _ h => h) (Or.inl ⟨by rfl, ?_⟩) hHeld ?_ ?_
  rotate_left
  ·rintro w' ⟨s0, s1⟩
   go_simp
   with_reducible rfl
  rotate_left
  ·simp only [Act.put, List.setIfInBounds_toArray, List.set_cons_zero, List.set_cons_succ, i64_w, i32_w]
   rfl
  refine pure_ (i := 2) (N := some 5) (v := ?_) (a' := ?_) (zl 22 7) rfl rfl (any_of HT_.out (by kernel_rfl)) (fun _ _ _ h => h) (Or.inl ⟨by rfl, ?_⟩) ?_ ?_
  rotate_left
  ·intro w'
   go_simp
   with_reducible rfl
  rotate_left
  ·simp only [Act.put, List.setIfInBounds_toArray, List.set_cons_zero, List.set_cons_succ, i64_w, i32_w]
   rfl
  refine pure_ (i := 3) (N := some 6) (v := ?_) (a' := ?_) (zl 22 15) rfl rfl (any_of HT_.out (by kernel_rfl)) (fun _ _ _ h => h) (Or.inl ⟨by rfl, ?_⟩) ?_ ?_
  rotate_left
  ·intro w'
   go_simp
   with_reducible rfl
  rotate_left
  ·simp only [Act.put, List.setIfInBounds_toArray, List.set_cons_zero, List.set_cons_succ, i64_w, i32_w]
   rfl
  refine pure_ (i := 4) (N := some 7) (v := ?_) (a' := ?_) (zl 22 31) rfl rfl (any_of HT_.out (by kernel_rfl)) (fun _ _ _ h => h) (Or.inl ⟨by rfl, ?_⟩) ?_ ?_
  rotate_left
  ·intro w'
   go_simp
   with_reducible rfl
  rotate_left
  ·simp only [Act.put, List.setIfInBounds_toArray, List.set_cons_zero, List.set_cons_succ, i64_w, i32_w]
   rfl
  refine take_ (i := 5) (N := some 8) (v := ?_) (a' := ?_) (zl 22 63) rfl rfl (take_ofW HT_.out HW_.out (by kernel_rfl)) (fun _ _ _ h => h) (Or.inl ⟨by rfl, ?_⟩) hHeld ?_ ?_
  rotate_left
  ·rintro w' ⟨s0, s1⟩
   go_simp
   with_reducible rfl
  rotate_left
  ·simp only [Act.put, List.setIfInBounds_toArray, List.set_cons_zero, List.set_cons_succ, i64_w, i32_w]
   rfl
  refine pure_ (i := 6) (N := some 9) (v := ?_) (a' := ?_) (zl 22 127) rfl rfl (any_of HT_.out (by kernel_rfl)) (fun _ _ _ h => h) (Or.inl ⟨by rfl, ?_⟩) ?_ ?_
  rotate_left
  ·intro w'
   go_simp
   with_reducible rfl
  rotate_left
  ·simp only [Act.put, List.setIfInBounds_toArray, List.set_cons_zero, List.set_cons_succ, i64_w, i32_w]
   rfl
  refine pure_ (i := 7) (N := some 10) (v := ?_) (a' := ?_) (zl 22 255) rfl rfl (any_of HT_.out (by kernel_rfl)) (fun _ _ _ h => h) (Or.inl ⟨by rfl, ?_⟩) ?_ ?_
  rotate_left
  ·intro w'
   go_simp
   with_reducible rfl
  rotate_left
  ·simp only [Act.put, List.setIfInBounds_toArray, List.set_cons_zero, List.set_cons_succ, i64_w, i32_w]
   rfl
  refine pure_ (i := 8) (N := some 11) (v := ?_) (a' := ?_) (zl 22 511) rfl rfl (any_of HT_.out (by kernel_rfl)) (fun _ _ _ h => h) (Or.inl ⟨by rfl, ?_⟩) ?_ ?_
  rotate_left
  ·intro w'
   go_simp
   with_reducible rfl
  rotate_left
  ·simp only [Act.put, List.setIfInBounds_toArray, List.set_cons_zero, List.set_cons_succ, i64_w, i32_w]
   rfl
  refine pure_ (i := 9) (N := some 12) (v := undef) (a' := ?_) (zl 22 1023) rfl rfl (any_of HT_.out (by kernel_rfl)) (fun _ _ _ h => h) (Or.inr ⟨by rfl, rfl⟩) ?_ ?_
  rotate_left
  ·simp only [Act.put, List.setIfInBounds_toArray, List.set_cons_zero, List.set_cons_succ, i64_w, i32_w]
   rfl
  refine pure_ (i := 10) (N := some 13) (v := undef) (a' := ?_) (zl 22 2047) rfl rfl (any_of HT_.out (by kernel_rfl)) (fun _ _ _ h => h) (Or.inr ⟨by rfl, rfl⟩) ?_ ?_
  rotate_left
  ·simp only [Act.put, List.setIfInBounds_toArray, List.set_cons_zero, List.set_cons_succ, i64_w, i32_w]
   rfl
  refine pure_ (i := 11) (N := some 14) (v := undef) (a' := ?_) (zl 22 4095) rfl rfl (any_of HT_.out (by kernel_rfl)) (fun _ _ _ h => h) (Or.inr ⟨by rfl, rfl⟩) ?_ ?_
  rotate_left
  ·simp only [Act.put, List.setIfInBounds_toArray, List.set_cons_zero, List.set_cons_succ, i64_w, i32_w]
   rfl
  refine pure_ (i := 12) (N := some 15) (v := ?_) (a' := ?_) (zl 22 8191) rfl rfl (any_of HT_.out (by kernel_rfl)) (fun _ _ _ h => h) (Or.inl ⟨by rfl, ?_⟩) ?_ ?_
  rotate_left
  ·intro w'
   go_simp
   with_reducible rfl
  rotate_left
  ·simp only [Act.put, List.setIfInBounds_toArray, List.set_cons_zero, List.set_cons_succ, i64_w, i32_w]
   rfl
  refine pure_ (i := 13) (N := some 16) (v := ?_) (a' := ?_) (zl 22 16383) rfl rfl (any_of HT_.out (by kernel_rfl)) (fun _ _ _ h => h) (Or.inl ⟨by rfl, ?_⟩) ?_ ?_
  rotate_left
  ·intro w'
   go_simp
   with_reducible rfl
  rotate_left
  ·simp only [Act.put, List.setIfInBounds_toArray, List.set_cons_zero, List.set_cons_succ, i64_w, i32_w]
   rfl
  refine pure_ (i := 14) (N := some 17) (v := undef) (a' := ?_) (zl 22 32767) rfl rfl (any_of HT_.out (by kernel_rfl)) (fun _ _ _ h => h) (Or.inr ⟨by rfl, rfl⟩) ?_ ?_
  rotate_left
  ·simp only [Act.put, List.setIfInBounds_toArray, List.set_cons_zero, List.set_cons_succ, i64_w, i32_w]
   rfl
  refine pure_ (i := 15) (N := some 18) (v := undef) (a' := ?_) (zl 22 65535) rfl rfl (any_of HT_.out (by kernel_rfl)) (fun _ _ _ h => h) (Or.inr ⟨by rfl, rfl⟩) ?_ ?_
  rotate_left
  ·simp only [Act.put, List.setIfInBounds_toArray, List.set_cons_zero, List.set_cons_succ, i64_w, i32_w]
   rfl
  refine pure_ (i := 16) (N := some 19) (v := undef) (a' := ?_) (zl 22 131071) rfl rfl (any_of HT_.out (by kernel_rfl)) (fun _ _ _ h => h) (Or.inr ⟨by rfl, rfl⟩) ?_ ?_
  rotate_left
  ·simp only [Act.put, List.setIfInBounds_toArray, List.set_cons_zero, List.set_cons_succ, i64_w, i32_w]
   rfl
  refine pure_ (i := 17) (N := some 20) (v := undef) (a' := ?_) (zl 22 262143) rfl rfl (any_of HT_.out (by kernel_rfl)) (fun _ _ _ h => h) (Or.inr ⟨by rfl, rfl⟩) ?_ ?_
  rotate_left
  ·simp only [Act.put, List.setIfInBounds_toArray, List.set_cons_zero, List.set_cons_succ, i64_w, i32_w]
   rfl
  refine pure_ (i := 18) (N := some 21) (v := undef) (a' := ?_) (zl 22 524287) rfl rfl (any_of HT_.out (by kernel_rfl)) (fun _ _ _ h => h) (Or.inr ⟨by rfl, rfl⟩) ?_ ?_
  rotate_left
  ·simp only [Act.put, List.setIfInBounds_toArray, List.set_cons_zero, List.set_cons_succ, i64_w, i32_w]
   rfl
  refine pure_ (i := 19) (N := some 22) (v := undef) (a' := ?_) (zl 22 1048575) rfl rfl (any_of HT_.out (by kernel_rfl)) (fun _ _ _ h => h) (Or.inr ⟨by rfl, rfl⟩) ?_ ?_
  rotate_left
  ·simp only [Act.put, List.setIfInBounds_toArray, List.set_cons_zero, List.set_cons_succ, i64_w, i32_w]
   rfl
  refine pure_ (i := 20) (N := some 23) (v := ?_) (a' := ?_) (zl 22 2097151) rfl rfl (any_of HT_.out (by kernel_rfl)) (fun _ _ _ h => h) (Or.inl ⟨by rfl, ?_⟩) ?_ ?_
  rotate_left
  ·intro w'
   go_simp
   with_reducible rfl
  rotate_left
  ·simp only [Act.put, List.setIfInBounds_toArray, List.set_cons_zero, List.set_cons_succ, i64_w, i32_w]
   rfl
  refine pure_ (i := 21) (N := some 2) (v := ?_) (a' := ?_) (zl 22 4194303) rfl rfl (any_of HT_.out (by kernel_rfl)) (fun _ _ _ h => h) (Or.inl ⟨by rfl, ?_⟩) ?_ ?_
  rotate_left
  ·intro w'
   go_simp
   with_reducible rfl
  rotate_left
  ·simp only [Act.put, List.setIfInBounds_toArray, List.set_cons_zero, List.set_cons_succ, i64_w, i32_w]
   rfl
  refine done_ (done_of HT_.out (by kernel_rfl)) ?_
  try go_wp2
  go_ret
  exact ⟨by first | rfl | (simp [errW_none, errW_some] <;> rfl) | (simp [*, errW_none, errW_some] <;> rfl), zHB⟩
 rw [if_neg c2] at H
 have c2b0 : decide (0 ≤ a0_1) = false := decide_eq_false c2
 clear c2
 obtain rfl := Option.some.inj H
 go_enter Try.func26, Try.ntmps26
 try go_wp2_with (first | ((with_reducible refine gate_dst (N := 1) rfl ?_); refine box_event ?hg (N := 1) ?hd (cs := #[.int .i64 a0_0, .int .i64 a0_1]) (t := 26) ?hr ?_; (case hd => rfl); (case hg => rfl); (case hr => first | (go_simp; done) | (go_simp; rfl)); intro gb101 hg w15 hbox hb; have n0_ := zA (below_step (zHB) hb); have n1_ := zA (hbox); have n2_ := zA ((show w.heap.size ≤ gb101 from y2)); have n3_ := zA ((show w.heap.size ≤ gb101 from y2)); clear HB; have HB := n0_; have BK101 := n1_; have GW101 := n2_; have GE101 := n3_; clear n0_ n1_ n2_ n3_; clear hb hbox hg))
 have n0_ := zA (blk_drew BK101.out)
 have n1_ := zA (below_drew1 HB.out)
 clear BK101
 clear HB
 have BK101 := n0_
 have HB := n1_
 clear n0_ n1_
 refine start_ (n := 22) (S := fun w' => w'.cell? ⟨gb101, 0, none⟩ = some (.int .i64 a0_0) ∧ w'.cell? ⟨gb101, 1, none⟩ = some (.int .i64 a0_1)) (ds := []) (zl 22 0) (by kernel_rfl) rfl rfl ⟨(blk_cell BK101.out 0).trans rfl, (blk_cell BK101.out 1).trans rfl⟩ (fun hHeld => ?_); refine with_tabW impl_NetOk.tab1 impl_NetOk.bits1 (fun HT_ HW_ => ?_)
 generalize w15.drew = w16 at BK101 HB hHeld ⊢
 refine pure_ (i := 0) (N := some 3) (v := ?_) (a' := ?_) (zl 22 1) rfl rfl (any_of HT_.out (by kernel_rfl)) (fun _ _ _ h => h) (Or.inl ⟨by rfl, ?_⟩) ?_ ?_
 rotate_left
 ·intro w'
  go_simp
  with_reducible rfl
 rotate_left
 ·simp only [Act.put, List.setIfInBounds_toArray, List.set_cons_zero, List.set_cons_succ, i64_w, i32_w]
  rfl
 refine take_ (i := 1) (N := some 4) (v := ?_) (a' := ?_) (zl 22 3) rfl rfl (take_ofW HT_.out HW_.out (by kernel_rfl)) (fun _ _ _ h => h) (Or.inl ⟨by rfl, ?_⟩) hHeld ?_ ?_
 rotate_left
 ·rintro w' ⟨s0, s1⟩
  go_simp
  with_reducible rfl
 rotate_left
 ·simp only [Act.put, List.setIfInBounds_toArray, List.set_cons_zero, List.set_cons_succ, i64_w, i32_w]
  rfl
 refine pure_ (i := 2) (N := some 5) (v := ?_) (a' := ?_) (zl 22 7) rfl rfl (any_of HT_.out (by kernel_rfl)) (fun _ _ _ h => h) (Or.inl ⟨by rfl, ?_⟩) ?_ ?_
 rotate_left
 ·intro w'
  go_simp
  with_reducible rfl
 rotate_left
 ·simp only [Act.put, List.setIfInBounds_toArray, List.set_cons_zero, List.set_cons_succ, i64_w, i32_w]
  rfl
 refine pure_ (i := 3) (N := some 6) (v := ?_) (a' := ?_) (zl 22 15) rfl rfl (any_of HT_.out (by kernel_rfl)) (fun _ _ _ h => h) (Or.inl ⟨by rfl, ?_⟩) ?_ ?_
 rotate_left
 ·intro w'
  go_simp
  with_reducible rfl
 rotate_left
 ·simp only [Act.put, List.setIfInBounds_toArray, List.set_cons_zero, List.set_cons_succ, i64_w, i32_w]
  rfl
 refine pure_ (i := 4) (N := some 7) (v := undef) (a' := ?_) (zl 22 31) rfl rfl (any_of HT_.out (by kernel_rfl)) (fun _ _ _ h => h) (Or.inr ⟨by rfl, rfl⟩) ?_ ?_
 rotate_left
 ·simp only [Act.put, List.setIfInBounds_toArray, List.set_cons_zero, List.set_cons_succ, i64_w, i32_w]
  rfl
 refine pure_ (i := 5) (N := some 8) (v := undef) (a' := ?_) (zl 22 63) rfl rfl (any_of HT_.out (by kernel_rfl)) (fun _ _ _ h => h) (Or.inr ⟨by rfl, rfl⟩) ?_ ?_
 rotate_left
 ·simp only [Act.put, List.setIfInBounds_toArray, List.set_cons_zero, List.set_cons_succ, i64_w, i32_w]
  rfl
 refine pure_ (i := 6) (N := some 9) (v := undef) (a' := ?_) (zl 22 127) rfl rfl (any_of HT_.out (by kernel_rfl)) (fun _ _ _ h => h) (Or.inr ⟨by rfl, rfl⟩) ?_ ?_
 rotate_left
 ·simp only [Act.put, List.setIfInBounds_toArray, List.set_cons_zero, List.set_cons_succ, i64_w, i32_w]
  rfl
 refine pure_ (i := 7) (N := some 10) (v := ?_) (a' := ?_) (zl 22 255) rfl rfl (any_of HT_.out (by kernel_rfl)) (fun _ _ _ h => h) (Or.inl ⟨by rfl, ?_⟩) ?_ ?_
 rotate_left
 ·intro w'
  go_simp
  with_reducible rfl
 rotate_left
 ·simp only [Act.put, List.setIfInBounds_toArray, List.set_cons_zero, List.set_cons_succ, i64_w, i32_w]
  rfl
 refine pure_ (i := 8) (N := some 11) (v := ?_) (a' := ?_) (zl 22 511) rfl rfl (any_of HT_.out (by kernel_rfl)) (fun _ _ _ h => h) (Or.inl ⟨by rfl, ?_⟩) ?_ ?_
 rotate_left
 ·intro w'
  go_simp
  with_reducible rfl
 rotate_left
 ·simp only [Act.put, List.setIfInBounds_toArray, List.set_cons_zero, List.set_cons_succ, i64_w, i32_w]
  rfl
 refine pure_ (i := 9) (N := some 12) (v := undef) (a' := ?_) (zl 22 1023) rfl rfl (any_of HT_.out (by kernel_rfl)) (fun _ _ _ h => h) (Or.inr ⟨by rfl, rfl⟩) ?_ ?_
 rotate_left
 ·simp only [Act.put, List.setIfInBounds_toArray, List.set_cons_zero, List.set_cons_succ, i64_w, i32_w]
  rfl
 refine pure_ (i := 10) (N := some 13) (v := undef) (a' := ?_) (zl 22 2047) rfl rfl (any_of HT_.out (by kernel_rfl)) (fun _ _ _ h => h) (Or.inr ⟨by rfl, rfl⟩) ?_ ?_
 rotate_left
 ·simp only [Act.put, List.setIfInBounds_toArray, List.set_cons_zero, List.set_cons_succ, i64_w, i32_w]
  rfl
 refine pure_ (i := 11) (N := some 14) (v := undef) (a' := ?_) (zl 22 4095) rfl rfl (any_of HT_.out (by kernel_rfl)) (fun _ _ _ h => h) (Or.inr ⟨by rfl, rfl⟩) ?_ ?_
 rotate_left
 ·simp only [Act.put, List.setIfInBounds_toArray, List.set_cons_zero, List.set_cons_succ, i64_w, i32_w]
  rfl
 refine pure_ (i := 12) (N := some 15) (v := ?_) (a' := ?_) (zl 22 8191) rfl rfl (any_of HT_.out (by kernel_rfl)) (fun _ _ _ h => h) (Or.inl ⟨by rfl, ?_⟩) ?_ ?_
 rotate_left
 ·intro w'
  go_simp
  with_reducible rfl
 rotate_left
 ·simp only [Act.put, List.setIfInBounds_toArray, List.set_cons_zero, List.set_cons_succ, i64_w, i32_w]
  rfl
 refine pure_ (i := 13) (N := some 16) (v := ?_) (a' := ?_) (zl 22 16383) rfl rfl (any_of HT_.out (by kernel_rfl)) (fun _ _ _ h => h) (Or.inl ⟨by rfl, ?_⟩) ?_ ?_
 rotate_left
 ·intro w'
  go_simp
  with_reducible rfl
 rotate_left
 ·simp only [Act.put, List.setIfInBounds_toArray, List.set_cons_zero, List.set_cons_succ, i64_w, i32_w]
  rfl
 refine pure_ (i := 14) (N := some 17) (v := undef) (a' := ?_) (zl 22 32767) rfl rfl (any_of HT_.out (by kernel_rfl)) (fun _ _ _ h => h) (Or.inr ⟨by rfl, rfl⟩) ?_ ?_
 rotate_left
 ·simp only [Act.put, List.setIfInBounds_toArray, List.set_cons_zero, List.set_cons_succ, i64_w, i32_w]
  rfl
 refine pure_ (i := 15) (N := some 18) (v := undef) (a' := ?_) (zl 22 65535) rfl rfl (any_of HT_.out (by kernel_rfl)) (fun _ _ _ h => h) (Or.inr ⟨by rfl, rfl⟩) ?_ ?_
 rotate_left
 ·simp only [Act.put, List.setIfInBounds_toArray, List.set_cons_zero, List.set_cons_succ, i64_w, i32_w]
  rfl
 refine pure_ (i := 16) (N := some 19) (v := undef) (a' := ?_) (zl 22 131071) rfl rfl (any_of HT_.out (by kernel_rfl)) (fun _ _ _ h => h) (Or.inr ⟨by rfl, rfl⟩) ?_ ?_
 rotate_left
 ·simp only [Act.put, List.setIfInBounds_toArray, List.set_cons_zero, List.set_cons_succ, i64_w, i32_w]
  rfl
 refine pure_ (i := 17) (N := some 20) (v := undef) (a' := ?_) (zl 22 262143) rfl rfl (any_of HT_.out (by kernel_rfl)) (fun _ _ _ h => h) (Or.inr ⟨by rfl, rfl⟩) ?_ ?_
 rotate_left
 ·simp only [Act.put, List.setIfInBounds_toArray, List.set_cons_zero, List.set_cons_succ, i64_w, i32_w]
  rfl
 refine pure_ (i := 18) (N := some 21) (v := undef) (a' := ?_) (zl 22 524287) rfl rfl (any_of HT_.out (by kernel_rfl)) (fun _ _ _ h => h) (Or.inr ⟨by rfl, rfl⟩) ?_ ?_
 rotate_left
 ·simp only [Act.put, List.setIfInBounds_toArray, List.set_cons_zero, List.set_cons_succ, i64_w, i32_w]
  rfl
 refine pure_ (i := 19) (N := some 22) (v := undef) (a' := ?_) (zl 22 1048575) rfl rfl (any_of HT_.out (by kernel_rfl)) (fun _ _ _ h => h) (Or.inr ⟨by rfl, rfl⟩) ?_ ?_
 rotate_left
 ·simp only [Act.put, List.setIfInBounds_toArray, List.set_cons_zero, List.set_cons_succ, i64_w, i32_w]
  rfl
 refine pure_ (i := 20) (N := some 23) (v := ?_) (a' := ?_) (zl 22 2097151) rfl rfl (any_of HT_.out (by kernel_rfl)) (fun _ _ _ h => h) (Or.inl ⟨by rfl, ?_⟩) ?_ ?_
 rotate_left
 ·intro w'
  go_simp
  with_reducible rfl
 rotate_left
 ·simp only [Act.put, List.setIfInBounds_toArray, List.set_cons_zero, List.set_cons_succ, i64_w, i32_w]
  rfl
 refine pure_ (i := 21) (N := some 2) (v := ?_) (a' := ?_) (zl 22 4194303) rfl rfl (any_of HT_.out (by kernel_rfl)) (fun _ _ _ h => h) (Or.inl ⟨by rfl, ?_⟩) ?_ ?_
 rotate_left
 ·intro w'
  go_simp
  with_reducible rfl
 rotate_left
 ·simp only [Act.put, List.setIfInBounds_toArray, List.set_cons_zero, List.set_cons_succ, i64_w, i32_w]
  rfl
 refine done_ (done_of HT_.out (by kernel_rfl)) ?_
 try go_wp2
 go_ret
 exact ⟨by first | rfl | (simp [errW_none, errW_some] <;> rfl) | (simp [*, errW_none, errW_some] <;> rfl), zHB⟩
end Go.Proofs.Ytnakanjhdcakhaa.Q
namespace Go.Proofs.Ytnakanjhdcakhaa.Q
open Go.RowKit Go.Proofs.YtnakanjhdcakhaaW.PrintWords Go.Proofs.YtnakanjhdcakhaaW.PrintLast Go.Proofs.YtnakanjhdcakhaaW.PrintMore
attribute [local go_sem] max2_int min2_int max_two min_two max_three min_three max_four min_four   -- for this text's walks alone
set_option linter.unusedVariables false
set_option linter.unusedSimpArgs false
def impl_AclOk_1.f (a0_0 : Bool) (a0_1 : Int) (a0_2 : Int) (a0_3 : Int) (a0_4 : Int) (a0_5 : Int) : Option (Bool) := (impl_NetOk.f a0_1 a0_2).bind fun t102 => (if t102 = true then ((impl_NetOk.f a0_3 a0_4).bind fun t103 => (if t103 = true then (if a0_5 < 0 then (some true) else (some (decide (a0_5 > 7)))) else (some true))) else (some true))
set_option maxHeartbeats 8000000 in
set_option maxRecDepth 100000 in
theorem impl_AclOk_1.calls (a0_0 : Bool) (a0_1 : Int) (a0_2 : Int) (a0_3 : Int) (a0_4 : Int) (a0_5 : Int) (r : Bool) (w : World) (h : impl_AclOk_1.f a0_0 a0_1 a0_2 a0_3 a0_4 a0_5 = some r) :
    Calls Try.prog 95 #[.agg #[.bool a0_0, .int .i64 a0_1, .int .i64 a0_2, .int .i64 a0_3, .int .i64 a0_4, .int .i64 a0_5]] w fun e w' => e = .returned (.bool r) ∧ Below w.heap.size w w' := by
  have hu54 := Try.underlying54
  have hu26 := Try.underlying26
  have HB := Aside0.mk (Below.refl w.heap.size w)
  have H : ((impl_NetOk.f a0_1 a0_2).bind fun t102 => (if t102 = true then ((impl_NetOk.f a0_3 a0_4).bind fun t103 => (if t103 = true then (if a0_5 < 0 then (some true) else (some (decide (a0_5 > 7)))) else (some true))) else (some true))) = some r := h
  clear h
  replace H := Option.bind_eq_some_iff.mp H
  obtain ⟨t102, A20, H⟩ := H
  replace H : (if t102 = true then ((impl_NetOk.f a0_3 a0_4).bind fun t103 => (if t103 = true then (if a0_5 < 0 then (some true) else (some (decide (a0_5 > 7)))) else (some true))) else (some true)) = some r := H
  have A2 := Aside0.mk A20
  clear A20
  by_cases c3 : t102 = true
  · subst c3
    have H1 : ((impl_NetOk.f a0_3 a0_4).bind fun t103 => (if t103 = true then (if a0_5 < 0 then (some true) else (some (decide (a0_5 > 7)))) else (some true))) = some r := by rw [if_pos rfl] at H; exact H
    clear H
    have H := H1
    clear H1
    replace H := Option.bind_eq_some_iff.mp H
    obtain ⟨t103, A40, H⟩ := H
    replace H : (if t103 = true then (if a0_5 < 0 then (some true) else (some (decide (a0_5 > 7)))) else (some true)) = some r := H
    have A4 := Aside0.mk A40
    clear A40
    by_cases c5 : t103 = true
    · subst c5
      have H1 : (if a0_5 < 0 then (some true) else (some (decide (a0_5 > 7)))) = some r := by rw [if_pos rfl] at H; exact H
      clear H
      have H := H1
      clear H1
      by_cases c6 : a0_5 < 0
      · rw [if_pos c6] at H
        have c6b0 : decide (a0_5 < 0) = true := decide_eq_true c6
        clear c6
        obtain rfl := Option.some.inj H
        go_enter Try.func95, Try.ntmps95
        go_wp2_with (first | ((with_reducible refine gate_dst (N := 1) rfl ?_); refine box_event ?hg (N := 1) ?hd (cs := #[.bool a0_0, .int .i64 a0_1, .int .i64 a0_2, .int .i64 a0_3, .int .i64 a0_4, .int .i64 a0_5]) (t := 54) ?hr ?_; (case hd => rfl); (case hg => rfl); (case hr => first | (go_simp; done) | (go_simp; rfl)); intro gb101 hg w7 hbox hb; have n0_ := Aside0.mk (below_step (by repeat (first | (with_reducible first | exact HB.out | apply below_alloc | apply pw_below_drewN | apply below_drew1) | exact HB.out)) hb); have n1_ := Aside0.mk (hbox); have n2_ := Aside0.mk ((by rw [hg]; exact (below_size (by repeat (first | (with_reducible first | exact HB.out | apply below_alloc | apply pw_below_drewN | apply below_drew1) | exact HB.out))) : w.heap.size ≤ gb101)); have n3_ := Aside0.mk ((by rw [hg]; exact (below_size (by repeat (first | (with_reducible first | exact HB.out | apply below_alloc | apply pw_below_drewN | apply below_drew1) | exact HB.out))) : w.heap.size ≤ gb101)); clear HB; have HB := n0_; have BK101 := n1_; have GW101 := n2_; have GE101 := n3_; clear n0_ n1_ n2_ n3_; clear hb hbox hg; have hcz8_0 : w7.cell? ⟨gb101, 0, none⟩ = some (.bool a0_0) := (blk_cell BK101.out 0).trans rfl; have hcz8_1 : w7.cell? ⟨gb101, 1, none⟩ = some (.int .i64 a0_1) := (blk_cell BK101.out 1).trans rfl; have hcz8_2 : w7.cell? ⟨gb101, 2, none⟩ = some (.int .i64 a0_2) := (blk_cell BK101.out 2).trans rfl; have hcz8_3 : w7.cell? ⟨gb101, 3, none⟩ = some (.int .i64 a0_3) := (blk_cell BK101.out 3).trans rfl; have hcz8_4 : w7.cell? ⟨gb101, 4, none⟩ = some (.int .i64 a0_4) := (blk_cell BK101.out 4).trans rfl; have hcz8_5 : w7.cell? ⟨gb101, 5, none⟩ = some (.int .i64 a0_5) := (blk_cell BK101.out 5).trans rfl; have hfz8_0 := blk_frozen BK101.out 0; have hfz8_1 := blk_frozen BK101.out 1; have hfz8_2 := blk_frozen BK101.out 2; have hfz8_3 := blk_frozen BK101.out 3; have hfz8_4 := blk_frozen BK101.out 4; have hfz8_5 := blk_frozen BK101.out 5) | ((with_reducible refine gate_callee (f := 26) rfl ?_); refine goesL_ (some 5) rfl rfl Try.func26 (by kernel_rfl) rfl #[.agg #[.int .i64 a0_1, .int .i64 a0_2]] rfl (by (try simp only [List.map_toArray, List.map_cons, List.map_nil]); first | done | rfl | (simp only [List.length_drop, List.length_take]; rfl)) ?_; (with_reducible refine (impl_NetOk.calls a0_1 a0_2 true _ A2.out).mono ?_); rintro e w9 ⟨rfl, hb⟩; refine ⟨_, rfl, ?_⟩; have n0_ := Aside0.mk (blk_below (g := gb101) (o := .cells #[.bool a0_0, .int .i64 a0_1, .int .i64 a0_2, .int .i64 a0_3, .int .i64 a0_4, .int .i64 a0_5] 54 (0, 0)) (by (with_reducible repeat (first | refine blk_drewN ?_ _ | refine blk_drew ?_ | refine blk_alloc ?_ _)); exact BK101.out) hb); have n1_ := Aside0.mk (below_step (by repeat (first | (with_reducible first | exact HB.out | apply below_alloc | apply pw_below_drewN | apply below_drew1 | refine below_set ?_ GE101.out) | exact HB.out)) hb); clear BK101; clear HB; have BK101 := n0_; have HB := n1_; clear n0_ n1_; (try clear hb); (try clear hb2); (try clear hk); (try clear hi); have hcz10_0 : w9.cell? ⟨gb101, 0, none⟩ = some (.bool a0_0) := (blk_cell BK101.out 0).trans rfl; have hcz10_1 : w9.cell? ⟨gb101, 1, none⟩ = some (.int .i64 a0_1) := (blk_cell BK101.out 1).trans rfl; have hcz10_2 : w9.cell? ⟨gb101, 2, none⟩ = some (.int .i64 a0_2) := (blk_cell BK101.out 2).trans rfl; have hcz10_3 : w9.cell? ⟨gb101, 3, none⟩ = some (.int .i64 a0_3) := (blk_cell BK101.out 3).trans rfl; have hcz10_4 : w9.cell? ⟨gb101, 4, none⟩ = some (.int .i64 a0_4) := (blk_cell BK101.out 4).trans rfl; have hcz10_5 : w9.cell? ⟨gb101, 5, none⟩ = some (.int .i64 a0_5) := (blk_cell BK101.out 5).trans rfl; have hfz10_0 := blk_frozen BK101.out 0; have hfz10_1 := blk_frozen BK101.out 1; have hfz10_2 := blk_frozen BK101.out 2; have hfz10_3 := blk_frozen BK101.out 3; have hfz10_4 := blk_frozen BK101.out 4; have hfz10_5 := blk_frozen BK101.out 5) | (go_at_call 26; (with_reducible refine (impl_NetOk.calls a0_3 a0_4 true _ A4.out).mono ?_); rintro e w11 ⟨rfl, hb⟩; have n0_ := Aside0.mk (blk_below (g := gb101) (o := .cells #[.bool a0_0, .int .i64 a0_1, .int .i64 a0_2, .int .i64 a0_3, .int .i64 a0_4, .int .i64 a0_5] 54 (0, 0)) (by (with_reducible repeat (first | refine blk_drewN ?_ _ | refine blk_drew ?_ | refine blk_alloc ?_ _)); exact BK101.out) hb); have n1_ := Aside0.mk (below_step (by repeat (first | (with_reducible first | exact HB.out | apply below_alloc | apply pw_below_drewN | apply below_drew1 | refine below_set ?_ GE101.out) | exact HB.out)) hb); clear BK101; clear HB; have BK101 := n0_; have HB := n1_; clear n0_ n1_; (try clear hb); (try clear hb2); (try clear hk); (try clear hi); have hcz12_0 : w11.cell? ⟨gb101, 0, none⟩ = some (.bool a0_0) := (blk_cell BK101.out 0).trans rfl; have hcz12_1 : w11.cell? ⟨gb101, 1, none⟩ = some (.int .i64 a0_1) := (blk_cell BK101.out 1).trans rfl; have hcz12_2 : w11.cell? ⟨gb101, 2, none⟩ = some (.int .i64 a0_2) := (blk_cell BK101.out 2).trans rfl; have hcz12_3 : w11.cell? ⟨gb101, 3, none⟩ = some (.int .i64 a0_3) := (blk_cell BK101.out 3).trans rfl; have hcz12_4 : w11.cell? ⟨gb101, 4, none⟩ = some (.int .i64 a0_4) := (blk_cell BK101.out 4).trans rfl; have hcz12_5 : w11.cell? ⟨gb101, 5, none⟩ = some (.int .i64 a0_5) := (blk_cell BK101.out 5).trans rfl; have hfz12_0 := blk_frozen BK101.out 0; have hfz12_1 := blk_frozen BK101.out 1; have hfz12_2 := blk_frozen BK101.out 2; have hfz12_3 := blk_frozen BK101.out 3; have hfz12_4 := blk_frozen BK101.out 4; have hfz12_5 := blk_frozen BK101.out 5))
        go_ret
        exact ⟨by first | rfl | (simp [errW_none, errW_some] <;> rfl) | (simp [*, errW_none, errW_some] <;> rfl), by repeat (first | (with_reducible first | exact HB.out | apply below_alloc | apply pw_below_drewN | apply below_drew1 | refine below_set ?_ GE101.out) | exact HB.out)⟩
      · rw [if_neg c6] at H
        have c6b0 : decide (a0_5 < 0) = false := decide_eq_false c6
        clear c6
        obtain rfl := Option.some.inj H
        go_enter Try.func95, Try.ntmps95
        go_wp2_with (first | ((with_reducible refine gate_dst (N := 1) rfl ?_); refine box_event ?hg (N := 1) ?hd (cs := #[.bool a0_0, .int .i64 a0_1, .int .i64 a0_2, .int .i64 a0_3, .int .i64 a0_4, .int .i64 a0_5]) (t := 54) ?hr ?_; (case hd => rfl); (case hg => rfl); (case hr => first | (go_simp; done) | (go_simp; rfl)); intro gb101 hg w13 hbox hb; have n0_ := Aside0.mk (below_step (by repeat (first | (with_reducible first | exact HB.out | apply below_alloc | apply pw_below_drewN | apply below_drew1) | exact HB.out)) hb); have n1_ := Aside0.mk (hbox); have n2_ := Aside0.mk ((by rw [hg]; exact (below_size (by repeat (first | (with_reducible first | exact HB.out | apply below_alloc | apply pw_below_drewN | apply below_drew1) | exact HB.out))) : w.heap.size ≤ gb101)); have n3_ := Aside0.mk ((by rw [hg]; exact (below_size (by repeat (first | (with_reducible first | exact HB.out | apply below_alloc | apply pw_below_drewN | apply below_drew1) | exact HB.out))) : w.heap.size ≤ gb101)); clear HB; have HB := n0_; have BK101 := n1_; have GW101 := n2_; have GE101 := n3_; clear n0_ n1_ n2_ n3_; clear hb hbox hg; have hcz14_0 : w13.cell? ⟨gb101, 0, none⟩ = some (.bool a0_0) := (blk_cell BK101.out 0).trans rfl; have hcz14_1 : w13.cell? ⟨gb101, 1, none⟩ = some (.int .i64 a0_1) := (blk_cell BK101.out 1).trans rfl; have hcz14_2 : w13.cell? ⟨gb101, 2, none⟩ = some (.int .i64 a0_2) := (blk_cell BK101.out 2).trans rfl; have hcz14_3 : w13.cell? ⟨gb101, 3, none⟩ = some (.int .i64 a0_3) := (blk_cell BK101.out 3).trans rfl; have hcz14_4 : w13.cell? ⟨gb101, 4, none⟩ = some (.int .i64 a0_4) := (blk_cell BK101.out 4).trans rfl; have hcz14_5 : w13.cell? ⟨gb101, 5, none⟩ = some (.int .i64 a0_5) := (blk_cell BK101.out 5).trans rfl; have hfz14_0 := blk_frozen BK101.out 0; have hfz14_1 := blk_frozen BK101.out 1; have hfz14_2 := blk_frozen BK101.out 2; have hfz14_3 := blk_frozen BK101.out 3; have hfz14_4 := blk_frozen BK101.out 4; have hfz14_5 := blk_frozen BK101.out 5) | ((with_reducible refine gate_callee (f := 26) rfl ?_); refine goesL_ (some 5) rfl rfl Try.func26 (by kernel_rfl) rfl #[.agg #[.int .i64 a0_1, .int .i64 a0_2]] rfl (by (try simp only [List.map_toArray, List.map_cons, List.map_nil]); first | done | rfl | (simp only [List.length_drop, List.length_take]; rfl)) ?_; (with_reducible refine (impl_NetOk.calls a0_1 a0_2 true _ A2.out).mono ?_); rintro e w15 ⟨rfl, hb⟩; refine ⟨_, rfl, ?_⟩; have n0_ := Aside0.mk (blk_below (g := gb101) (o := .cells #[.bool a0_0, .int .i64 a0_1, .int .i64 a0_2, .int .i64 a0_3, .int .i64 a0_4, .int .i64 a0_5] 54 (0, 0)) (by (with_reducible repeat (first | refine blk_drewN ?_ _ | refine blk_drew ?_ | refine blk_alloc ?_ _)); exact BK101.out) hb); have n1_ := Aside0.mk (below_step (by repeat (first | (with_reducible first | exact HB.out | apply below_alloc | apply pw_below_drewN | apply below_drew1 | refine below_set ?_ GE101.out) | exact HB.out)) hb); clear BK101; clear HB; have BK101 := n0_; have HB := n1_; clear n0_ n1_; (try clear hb); (try clear hb2); (try clear hk); (try clear hi); have hcz16_0 : w15.cell? ⟨gb101, 0, none⟩ = some (.bool a0_0) := (blk_cell BK101.out 0).trans rfl; have hcz16_1 : w15.cell? ⟨gb101, 1, none⟩ = some (.int .i64 a0_1) := (blk_cell BK101.out 1).trans rfl; have hcz16_2 : w15.cell? ⟨gb101, 2, none⟩ = some (.int .i64 a0_2) := (blk_cell BK101.out 2).trans rfl; have hcz16_3 : w15.cell? ⟨gb101, 3, none⟩ = some (.int .i64 a0_3) := (blk_cell BK101.out 3).trans rfl; have hcz16_4 : w15.cell? ⟨gb101, 4, none⟩ = some (.int .i64 a0_4) := (blk_cell BK101.out 4).trans rfl; have hcz16_5 : w15.cell? ⟨gb101, 5, none⟩ = some (.int .i64 a0_5) := (blk_cell BK101.out 5).trans rfl; have hfz16_0 := blk_frozen BK101.out 0; have hfz16_1 := blk_frozen BK101.out 1; have hfz16_2 := blk_frozen BK101.out 2; have hfz16_3 := blk_frozen BK101.out 3; have hfz16_4 := blk_frozen BK101.out 4; have hfz16_5 := blk_frozen BK101.out 5) | (go_at_call 26; (with_reducible refine (impl_NetOk.calls a0_3 a0_4 true _ A4.out).mono ?_); rintro e w17 ⟨rfl, hb⟩; have n0_ := Aside0.mk (blk_below (g := gb101) (o := .cells #[.bool a0_0, .int .i64 a0_1, .int .i64 a0_2, .int .i64 a0_3, .int .i64 a0_4, .int .i64 a0_5] 54 (0, 0)) (by (with_reducible repeat (first | refine blk_drewN ?_ _ | refine blk_drew ?_ | refine blk_alloc ?_ _)); exact BK101.out) hb); have n1_ := Aside0.mk (below_step (by repeat (first | (with_reducible first | exact HB.out | apply below_alloc | apply pw_below_drewN | apply below_drew1 | refine below_set ?_ GE101.out) | exact HB.out)) hb); clear BK101; clear HB; have BK101 := n0_; have HB := n1_; clear n0_ n1_; (try clear hb); (try clear hb2); (try clear hk); (try clear hi); have hcz18_0 : w17.cell? ⟨gb101, 0, none⟩ = some (.bool a0_0) := (blk_cell BK101.out 0).trans rfl; have hcz18_1 : w17.cell? ⟨gb101, 1, none⟩ = some (.int .i64 a0_1) := (blk_cell BK101.out 1).trans rfl; have hcz18_2 : w17.cell? ⟨gb101, 2, none⟩ = some (.int .i64 a0_2) := (blk_cell BK101.out 2).trans rfl; have hcz18_3 : w17.cell? ⟨gb101, 3, none⟩ = some (.int .i64 a0_3) := (blk_cell BK101.out 3).trans rfl; have hcz18_4 : w17.cell? ⟨gb101, 4, none⟩ = some (.int .i64 a0_4) := (blk_cell BK101.out 4).trans rfl; have hcz18_5 : w17.cell? ⟨gb101, 5, none⟩ = some (.int .i64 a0_5) := (blk_cell BK101.out 5).trans rfl; have hfz18_0 := blk_frozen BK101.out 0; have hfz18_1 := blk_frozen BK101.out 1; have hfz18_2 := blk_frozen BK101.out 2; have hfz18_3 := blk_frozen BK101.out 3; have hfz18_4 := blk_frozen BK101.out 4; have hfz18_5 := blk_frozen BK101.out 5))
        go_ret
        exact ⟨by first | rfl | (simp [errW_none, errW_some] <;> rfl) | (simp [*, errW_none, errW_some] <;> rfl), by repeat (first | (with_reducible first | exact HB.out | apply below_alloc | apply pw_below_drewN | apply below_drew1 | refine below_set ?_ GE101.out) | exact HB.out)⟩
    · replace c5 := Bool.eq_false_iff.mpr c5
      subst c5
      have H1 : (some true) = some r := by rw [if_neg (show ¬ (false = true) by decide)] at H; exact H
      clear H
      have H := H1
      clear H1
      obtain rfl := Option.some.inj H
      go_enter Try.func95, Try.ntmps95
      go_wp2_with (first | ((with_reducible refine gate_dst (N := 1) rfl ?_); refine box_event ?hg (N := 1) ?hd (cs := #[.bool a0_0, .int .i64 a0_1, .int .i64 a0_2, .int .i64 a0_3, .int .i64 a0_4, .int .i64 a0_5]) (t := 54) ?hr ?_; (case hd => rfl); (case hg => rfl); (case hr => first | (go_simp; done) | (go_simp; rfl)); intro gb101 hg w19 hbox hb; have n0_ := Aside0.mk (below_step (by repeat (first | (with_reducible first | exact HB.out | apply below_alloc | apply pw_below_drewN | apply below_drew1) | exact HB.out)) hb); have n1_ := Aside0.mk (hbox); have n2_ := Aside0.mk ((by rw [hg]; exact (below_size (by repeat (first | (with_reducible first | exact HB.out | apply below_alloc | apply pw_below_drewN | apply below_drew1) | exact HB.out))) : w.heap.size ≤ gb101)); have n3_ := Aside0.mk ((by rw [hg]; exact (below_size (by repeat (first | (with_reducible first | exact HB.out | apply below_alloc | apply pw_below_drewN | apply below_drew1) | exact HB.out))) : w.heap.size ≤ gb101)); clear HB; have HB := n0_; have BK101 := n1_; have GW101 := n2_; have GE101 := n3_; clear n0_ n1_ n2_ n3_; clear hb hbox hg; have hcz20_0 : w19.cell? ⟨gb101, 0, none⟩ = some (.bool a0_0) := (blk_cell BK101.out 0).trans rfl; have hcz20_1 : w19.cell? ⟨gb101, 1, none⟩ = some (.int .i64 a0_1) := (blk_cell BK101.out 1).trans rfl; have hcz20_2 : w19.cell? ⟨gb101, 2, none⟩ = some (.int .i64 a0_2) := (blk_cell BK101.out 2).trans rfl; have hcz20_3 : w19.cell? ⟨gb101, 3, none⟩ = some (.int .i64 a0_3) := (blk_cell BK101.out 3).trans rfl; have hcz20_4 : w19.cell? ⟨gb101, 4, none⟩ = some (.int .i64 a0_4) := (blk_cell BK101.out 4).trans rfl; have hcz20_5 : w19.cell? ⟨gb101, 5, none⟩ = some (.int .i64 a0_5) := (blk_cell BK101.out 5).trans rfl; have hfz20_0 := blk_frozen BK101.out 0; have hfz20_1 := blk_frozen BK101.out 1; have hfz20_2 := blk_frozen BK101.out 2; have hfz20_3 := blk_frozen BK101.out 3; have hfz20_4 := blk_frozen BK101.out 4; have hfz20_5 := blk_frozen BK101.out 5) | ((with_reducible refine gate_callee (f := 26) rfl ?_); refine goesL_ (some 5) rfl rfl Try.func26 (by kernel_rfl) rfl #[.agg #[.int .i64 a0_1, .int .i64 a0_2]] rfl (by (try simp only [List.map_toArray, List.map_cons, List.map_nil]); first | done | rfl | (simp only [List.length_drop, List.length_take]; rfl)) ?_; (with_reducible refine (impl_NetOk.calls a0_1 a0_2 true _ A2.out).mono ?_); rintro e w21 ⟨rfl, hb⟩; refine ⟨_, rfl, ?_⟩; have n0_ := Aside0.mk (blk_below (g := gb101) (o := .cells #[.bool a0_0, .int .i64 a0_1, .int .i64 a0_2, .int .i64 a0_3, .int .i64 a0_4, .int .i64 a0_5] 54 (0, 0)) (by (with_reducible repeat (first | refine blk_drewN ?_ _ | refine blk_drew ?_ | refine blk_alloc ?_ _)); exact BK101.out) hb); have n1_ := Aside0.mk (below_step (by repeat (first | (with_reducible first | exact HB.out | apply below_alloc | apply pw_below_drewN | apply below_drew1 | refine below_set ?_ GE101.out) | exact HB.out)) hb); clear BK101; clear HB; have BK101 := n0_; have HB := n1_; clear n0_ n1_; (try clear hb); (try clear hb2); (try clear hk); (try clear hi); have hcz22_0 : w21.cell? ⟨gb101, 0, none⟩ = some (.bool a0_0) := (blk_cell BK101.out 0).trans rfl; have hcz22_1 : w21.cell? ⟨gb101, 1, none⟩ = some (.int .i64 a0_1) := (blk_cell BK101.out 1).trans rfl; have hcz22_2 : w21.cell? ⟨gb101, 2, none⟩ = some (.int .i64 a0_2) := (blk_cell BK101.out 2).trans rfl; have hcz22_3 : w21.cell? ⟨gb101, 3, none⟩ = some (.int .i64 a0_3) := (blk_cell BK101.out 3).trans rfl; have hcz22_4 : w21.cell? ⟨gb101, 4, none⟩ = some (.int .i64 a0_4) := (blk_cell BK101.out 4).trans rfl; have hcz22_5 : w21.cell? ⟨gb101, 5, none⟩ = some (.int .i64 a0_5) := (blk_cell BK101.out 5).trans rfl; have hfz22_0 := blk_frozen BK101.out 0; have hfz22_1 := blk_frozen BK101.out 1; have hfz22_2 := blk_frozen BK101.out 2; have hfz22_3 := blk_frozen BK101.out 3; have hfz22_4 := blk_frozen BK101.out 4; have hfz22_5 := blk_frozen BK101.out 5) | (go_at_call 26; (with_reducible refine (impl_NetOk.calls a0_3 a0_4 false _ A4.out).mono ?_); rintro e w23 ⟨rfl, hb⟩; have n0_ := Aside0.mk (blk_below (g := gb101) (o := .cells #[.bool a0_0, .int .i64 a0_1, .int .i64 a0_2, .int .i64 a0_3, .int .i64 a0_4, .int .i64 a0_5] 54 (0, 0)) (by (with_reducible repeat (first | refine blk_drewN ?_ _ | refine blk_drew ?_ | refine blk_alloc ?_ _)); exact BK101.out) hb); have n1_ := Aside0.mk (below_step (by repeat (first | (with_reducible first | exact HB.out | apply below_alloc | apply pw_below_drewN | apply below_drew1 | refine below_set ?_ GE101.out) | exact HB.out)) hb); clear BK101; clear HB; have BK101 := n0_; have HB := n1_; clear n0_ n1_; (try clear hb); (try clear hb2); (try clear hk); (try clear hi)))
      go_ret
      exact ⟨by first | rfl | (simp [errW_none, errW_some] <;> rfl) | (simp [*, errW_none, errW_some] <;> rfl), by repeat (first | (with_reducible first | exact HB.out | apply below_alloc | apply pw_below_drewN | apply below_drew1 | refine below_set ?_ GE101.out) | exact HB.out)⟩
  · replace c3 := Bool.eq_false_iff.mpr c3
    subst c3
    have H1 : (some true) = some r := by rw [if_neg (show ¬ (false = true) by decide)] at H; exact H
    clear H
    have H := H1
    clear H1
    obtain rfl := Option.some.inj H
    go_enter Try.func95, Try.ntmps95
    go_wp2_with (first | ((with_reducible refine gate_dst (N := 1) rfl ?_); refine box_event ?hg (N := 1) ?hd (cs := #[.bool a0_0, .int .i64 a0_1, .int .i64 a0_2, .int .i64 a0_3, .int .i64 a0_4, .int .i64 a0_5]) (t := 54) ?hr ?_; (case hd => rfl); (case hg => rfl); (case hr => first | (go_simp; done) | (go_simp; rfl)); intro gb101 hg w24 hbox hb; have n0_ := Aside0.mk (below_step (by repeat (first | (with_reducible first | exact HB.out | apply below_alloc | apply pw_below_drewN | apply below_drew1) | exact HB.out)) hb); have n1_ := Aside0.mk (hbox); have n2_ := Aside0.mk ((by rw [hg]; exact (below_size (by repeat (first | (with_reducible first | exact HB.out | apply below_alloc | apply pw_below_drewN | apply below_drew1) | exact HB.out))) : w.heap.size ≤ gb101)); have n3_ := Aside0.mk ((by rw [hg]; exact (below_size (by repeat (first | (with_reducible first | exact HB.out | apply below_alloc | apply pw_below_drewN | apply below_drew1) | exact HB.out))) : w.heap.size ≤ gb101)); clear HB; have HB := n0_; have BK101 := n1_; have GW101 := n2_; have GE101 := n3_; clear n0_ n1_ n2_ n3_; clear hb hbox hg; have hcz25_0 : w24.cell? ⟨gb101, 0, none⟩ = some (.bool a0_0) := (blk_cell BK101.out 0).trans rfl; have hcz25_1 : w24.cell? ⟨gb101, 1, none⟩ = some (.int .i64 a0_1) := (blk_cell BK101.out 1).trans rfl; have hcz25_2 : w24.cell? ⟨gb101, 2, none⟩ = some (.int .i64 a0_2) := (blk_cell BK101.out 2).trans rfl; have hcz25_3 : w24.cell? ⟨gb101, 3, none⟩ = some (.int .i64 a0_3) := (blk_cell BK101.out 3).trans rfl; have hcz25_4 : w24.cell? ⟨gb101, 4, none⟩ = some (.int .i64 a0_4) := (blk_cell BK101.out 4).trans rfl; have hcz25_5 : w24.cell? ⟨gb101, 5, none⟩ = some (.int .i64 a0_5) := (blk_cell BK101.out 5).trans rfl; have hfz25_0 := blk_frozen BK101.out 0; have hfz25_1 := blk_frozen BK101.out 1; have hfz25_2 := blk_frozen BK101.out 2; have hfz25_3 := blk_frozen BK101.out 3; have hfz25_4 := blk_frozen BK101.out 4; have hfz25_5 := blk_frozen BK101.out 5) | ((with_reducible refine gate_callee (f := 26) rfl ?_); refine goesL_ (some 5) rfl rfl Try.func26 (by kernel_rfl) rfl #[.agg #[.int .i64 a0_1, .int .i64 a0_2]] rfl (by (try simp only [List.map_toArray, List.map_cons, List.map_nil]); first | done | rfl | (simp only [List.length_drop, List.length_take]; rfl)) ?_; (with_reducible refine (impl_NetOk.calls a0_1 a0_2 false _ A2.out).mono ?_); rintro e w26 ⟨rfl, hb⟩; refine ⟨_, rfl, ?_⟩; have n0_ := Aside0.mk (blk_below (g := gb101) (o := .cells #[.bool a0_0, .int .i64 a0_1, .int .i64 a0_2, .int .i64 a0_3, .int .i64 a0_4, .int .i64 a0_5] 54 (0, 0)) (by (with_reducible repeat (first | refine blk_drewN ?_ _ | refine blk_drew ?_ | refine blk_alloc ?_ _)); exact BK101.out) hb); have n1_ := Aside0.mk (below_step (by repeat (first | (with_reducible first | exact HB.out | apply below_alloc | apply pw_below_drewN | apply below_drew1 | refine below_set ?_ GE101.out) | exact HB.out)) hb); clear BK101; clear HB; have BK101 := n0_; have HB := n1_; clear n0_ n1_; (try clear hb); (try clear hb2); (try clear hk); (try clear hi)))
    go_ret
    exact ⟨by first | rfl | (simp [errW_none, errW_some] <;> rfl) | (simp [*, errW_none, errW_some] <;> rfl), by repeat (first | (with_reducible first | exact HB.out | apply below_alloc | apply pw_below_drewN | apply below_drew1 | refine below_set ?_ GE101.out) | exact HB.out)⟩
end Go.Proofs.Ytnakanjhdcakhaa.Q
namespace Go.Proofs.Ytnakanjhdcakhaa.Q
open Go.RowKit Go.Proofs.YtnakanjhdcakhaaW.PrintWords Go.Proofs.YtnakanjhdcakhaaW.PrintLast Go.Proofs.YtnakanjhdcakhaaW.PrintMore
set_option linter.unusedVariables false
set_option linter.unusedSimpArgs false
/-- The first place, from i on, at which p holds; -1: none. -/
def findFrom {α : Type} (p : α → Bool) : List α → Int → Int
  | [], _ => -1
  | x :: l, i => if p x = true then i else findFrom p l (i + 1)
def findI {α : Type} (p : α → Bool) (l : List α) : Int := findFrom p l 0
theorem findFrom_hit {α : Type} (p : α → Bool) {l : List α} : ∀ (i : Nat) (j : Int) (x : α), l[i]? = some x → p x = true → (∀ (n : Nat) (y : α), n < i → l[n]? = some y → p y = false) → findFrom p l j = j + i := by
  induction l with
  | nil => intro i j x h; simp at h
  | cons a l ih =>
    intro i j x h hp hn
    cases i with
    | zero =>
      simp at h
      subst h
      simp [findFrom, hp]
    | succ i =>
      have ha := hn 0 a (by omega) rfl
      simp only [List.getElem?_cons_succ] at h
      rw [findFrom, if_neg (by simp [ha]), ih i (j + 1) x h hp (fun n y hlt hy => hn (n + 1) y (by omega) (by simpa using hy))]
      omega
theorem findFrom_miss {α : Type} (p : α → Bool) {l : List α} : ∀ (j : Int), (∀ (n : Nat) (y : α), l[n]? = some y → p y = false) → findFrom p l j = -1 := by
  induction l with
  | nil => intro j _; rfl
  | cons a l ih =>
    intro j hn
    rw [findFrom, if_neg (by simp [hn 0 a rfl]), ih (j + 1) (fun n y hy => hn (n + 1) y (by simpa using hy))]
theorem findFrom_nonneg {α : Type} (p : α → Bool) (l : List α) : ∀ (j : Int), 0 ≤ j → (0 ≤ findFrom p l j ↔ l.any p = true) := by
  induction l with
  | nil => intro j _; simp [findFrom]
  | cons a l ih =>
    intro j hj
    rw [findFrom]
    by_cases h : p a = true
    · rw [if_pos h]; simp [h, hj]
    · rw [if_neg h, ih (j + 1) (by omega)]
      simp [h]
theorem findI_any {α : Type} (p : α → Bool) (l : List α) : decide (0 ≤ findI p l) = l.any p := by
  have := findFrom_nonneg p l 0 (Int.le_refl _)
  unfold findI
  cases h : l.any p with
  | true => rw [h] at this; simp [this]
  | false => rw [h] at this; simpa using this
theorem getD_some {α : Type} (l : List α) (z : α) (i : Nat) (h : i < l.length) : l[i]? = some (l.getD i z) := by
  simp [List.getD_eq_getElem?_getD, h]
set_option maxHeartbeats 4000000 in
theorem index54 (p : S54 → Bool) (g : Nat) (lb : Array Value) (eg : ∀ args w, (callFunc g args).run Try.prog w = .ok (.enter g args) w) (A : Option Addr) (c : Nat) (l : List S54) (w : World)
    (hp : ∀ (W : World) (x : S54), x ∈ l → Below w.heap.size w W → Calls Try.prog g (#[.agg #[.bool x.f0, .int .i64 x.f1.f0, .int .i64 x.f1.f1, .int .i64 x.f2.f0, .int .i64 x.f2.f1, .int .i64 x.f3]] ++ lb) W fun e w' => e = .returned (.bool (p x)) ∧ Below w.heap.size w w')
    (hr : Kd.C k54 w A l.length l) (hc : l.length ≤ c) :
    Calls Try.prog 119 #[.slice A l.length c, .func (.func g) #[] lb] w fun e w' => e = .returned (.int .i64 (findI p l)) ∧ Below w.heap.size w w' := by
  have hbig : l.length ≤ 9223372036854775807 := hr.2.1
  have hu54 := Try.underlying54
  have HR := Aside0.mk hr
  clear hr
  go_enter Try.func119, Try.ntmps119
  go_wp2
  go_loopg [5, 8] l.length (fun gg _ s8 wr => ∃ kk : Nat, kk ≤ l.length ∧ l.length - kk ≤ gg ∧ s8 = .int .i64 kk ∧ Aside0 (Below w.heap.size w wr) ∧ Aside0 (∀ n y, n < kk → l[n]? = some y → p y = false))
  case atStart => exact ⟨0, Nat.zero_le _, by omega, rfl, ⟨Below.refl _ w⟩, ⟨fun n y h => absurd h (Nat.not_lt_zero _)⟩⟩
  case round =>
    obtain ⟨kk, hkk, hg, rfl, BW, AN⟩ := hrel
    by_cases hlt : kk < l.length
    · obtain ⟨ad, hA, h0, h1, h2, h3, h4, h5⟩ := at_T54 (Kd.C_below HR.out BW.out) kk (by omega) (by omega)
      subst hA
      have hx := Aside0.mk (getD_some l z54 kk hlt)
      have hcall := hp wr (rd_T54 l kk) (List.mem_of_getElem? hx.out) BW.out
      have ex : Aside0 (l[kk]? = some (rd_T54 l kk)) := ⟨by rw [hx.out]; rfl⟩
      clear hp hx
      generalize rd_T54 l kk = x at h0 h1 h2 h3 h4 h5 hcall ex
      simp only [Int.toNat_natCast] at h0 h1 h2 h3 h4 h5
      have hltz : (kk : Int) < (l.length : Int) := by omega
      cases hq : p x with
      | true =>
        rw [hq] at hcall
        go_wp2_with (go_at_fn g; refine hcall.mono ?_; rintro e w' ⟨rfl, hb'⟩)
        go_ret
        refine ⟨?_, hb'⟩
        unfold findI
        rw [findFrom_hit p kk 0 x ex.out hq AN.out]
        simp
      | false =>
        rw [hq] at hcall
        go_wp2_with (go_at_fn g; refine hcall.mono ?_; rintro e w' ⟨rfl, hb'⟩)
        go_roundg (l.length - (kk + 1))
        case measure => omega
        case rel =>
          refine ⟨kk + 1, by omega, by omega, by go_num, ⟨hb'⟩, ⟨fun n y hn hy => ?_⟩⟩
          by_cases e : n = kk
          · subst e
            exact (Option.some.inj (ex.out.symm.trans hy)) ▸ hq
          · exact AN.out n y (by omega) hy
    · have hltz : ¬ (kk : Int) < (l.length : Int) := by omega
      have AN2 : Aside0 (∀ n y, l[n]? = some y → p y = false) := ⟨fun n y hy => AN.out n y (by have := (List.getElem?_eq_some_iff.1 hy).1; omega) hy⟩
      clear hp AN
      go_wp2
      go_ret
      refine ⟨?_, BW.out⟩
      unfold findI
      rw [findFrom_miss p 0 AN2.out]
      rfl
set_option maxHeartbeats 4000000 in
theorem any54 (p : S54 → Bool) (g : Nat) (lb : Array Value) (eg : ∀ args w, (callFunc g args).run Try.prog w = .ok (.enter g args) w) (A : Option Addr) (c : Nat) (l : List S54) (w : World)
    (hp : ∀ (W : World) (x : S54), x ∈ l → Below w.heap.size w W → Calls Try.prog g (#[.agg #[.bool x.f0, .int .i64 x.f1.f0, .int .i64 x.f1.f1, .int .i64 x.f2.f0, .int .i64 x.f2.f1, .int .i64 x.f3]] ++ lb) W fun e w' => e = .returned (.bool (p x)) ∧ Below w.heap.size w w')
    (hr : Kd.C k54 w A l.length l) (hc : l.length ≤ c) :
    Calls Try.prog 94 #[.slice A l.length c, .func (.func g) #[] lb] w fun e w' => e = .returned (.bool (l.any p)) ∧ Below w.heap.size w w' := by
  have hcon := index54 p g lb eg A c l w hp hr hc
  have HA := Aside0.mk (findI_any p l)
  clear hp hr hc
  generalize findI p l = r at hcon HA
  generalize l.any p = q at HA ⊢
  go_enter Try.func94, Try.ntmps94
  go_wp2_with (go_at_call 119; refine hcon.mono ?_; rintro e w' ⟨rfl, hb'⟩)
  go_ret
  exact ⟨by rw [← HA.out]; rfl, hb'⟩
end Go.Proofs.Ytnakanjhdcakhaa.Q
