/- Lemmas for FnAclWitness, part 2 of 5: the program's functions as Lean functions, what each Go function comes to, and plain lemmas on them. No statement of its own. -/
import Derived.Test.YtnakanjhdcakhaaC1xFnAclWitness
namespace Go.Proofs.Ytnakanjhdcakhaa.Q
open Go.RowKit Go.Proofs.YtnakanjhdcakhaaW.PrintWords Go.Proofs.YtnakanjhdcakhaaW.PrintLast Go.Proofs.YtnakanjhdcakhaaW.PrintMore
attribute [local go_sem] max2_int min2_int max_two min_two max_three min_three max_four min_four   -- for this text's walks alone
set_option linter.unusedVariables false
set_option linter.unusedSimpArgs false
mutual
def spec_l5SpoilRules.j0 : Nat → List (S54) → Bool → List Int → Int → Option ((List (S54)) × Int)
  | 0, _, _, _, _ => none
  | k + 1, x5, x18, x1000, x1001 => if x18 = true then ((spec_l1Rd_pick.f k x1000 x1001 2).bind fun bt109 => (spec_l5SpoilRules.l0 k x5 (wrap64 (12 + bt109.1)) x1000 bt109.2)) else ((spec_l1Rd_pick.f k x1000 x1001 (x5.length : Int)).bind fun bt114 => ((spec_l1Rd_pick.f k x1000 bt114.2 3).bind fun bt116 => (if bt116.1 = 0 then (if 0 ≤ bt114.1 then (if bt114.1 < (x5.length : Int) then ((spec_l5Spoil.f k x1000 bt116.2 ((rd_T54 x5 bt114.1).f1.f0) ((rd_T54 x5 bt114.1).f1.f1)).bind fun bt119 => (some ((x5.set (bt114.1 : Int).toNat (⟨(rd_T54 x5 bt114.1).f0, (⟨bt119.1, bt119.2.1⟩ : S26), (⟨(rd_T54 x5 bt114.1).f2.f0, (rd_T54 x5 bt114.1).f2.f1⟩ : S26), (rd_T54 x5 bt114.1).f3⟩ : S54)), bt119.2.2))) else (none)) else (none)) else (if bt116.1 = 1 then (if 0 ≤ bt114.1 then (if bt114.1 < (x5.length : Int) then ((spec_l5Spoil.f k x1000 bt116.2 ((rd_T54 x5 bt114.1).f2.f0) ((rd_T54 x5 bt114.1).f2.f1)).bind fun bt124 => (some ((x5.set (bt114.1 : Int).toNat (⟨(rd_T54 x5 bt114.1).f0, (⟨(rd_T54 x5 bt114.1).f1.f0, (rd_T54 x5 bt114.1).f1.f1⟩ : S26), (⟨bt124.1, bt124.2.1⟩ : S26), (rd_T54 x5 bt114.1).f3⟩ : S54)), bt124.2.2))) else (none)) else (none)) else ((some (([(-1), 7, 8] : List Int) : List Int)).bind fun y128 => ((spec_l1Rd_pick.f k x1000 bt116.2 3).bind fun bt131 => (if 0 ≤ bt131.1 then (if bt131.1 < (y128.length : Int) then (if 0 ≤ bt114.1 then (if bt114.1 < (x5.length : Int) then (some ((x5.set (bt114.1 : Int).toNat (⟨(rd_T54 x5 bt114.1).f0, (⟨(rd_T54 x5 bt114.1).f1.f0, (rd_T54 x5 bt114.1).f1.f1⟩ : S26), (⟨(rd_T54 x5 bt114.1).f2.f0, (rd_T54 x5 bt114.1).f2.f1⟩ : S26), rd y128 bt131.1⟩ : S54)), bt131.2)) else (none)) else (none)) else (none)) else (none))))))))
def spec_l5SpoilRules.l0 : Nat → List (S54) → Int → List Int → Int → Option ((List (S54)) × Int)
  | 0, _, _, _, _ => none
  | k + 1, x5, x6, x1000, x1001 => if (x5.length : Int) < x6 then (if x5.length < 2932031007402 then (spec_l5SpoilRules.l0 k (x5 ++ [(⟨false, (⟨0, 0⟩ : S26), (⟨0, 0⟩ : S26), 1⟩ : S54)]) x6 x1000 x1001) else (none)) else (some (x5, x1001))
end
def spec_l5SpoilRules.f (k : Nat) (s0_0 : List Int) (s0_1 : Int) (l1 : List (S54)) : Option ((List (S54)) × Int) := (some (([] : List (S54)) : List (S54))).bind fun y101 => (if y101.length + l1.length < 2932031007402 then ((some (y101 ++ l1 : List (S54))).bind fun y104 => (if (y104.length : Int) = 0 then (spec_l5SpoilRules.j0 k y104 true s0_0 s0_1) else ((spec_l1Rd_pick.f k s0_0 s0_1 4).bind fun bt107 => (spec_l5SpoilRules.j0 k y104 (bt107.1 == 0) s0_0 bt107.2)))) else (none))
theorem spec_l5SpoilRules.zHK {P : Prop} (h : P := by repeat (first | (with_reducible first | exact HK.out | apply KeepBut.set_ | apply keep_drewN | apply keep_drew | apply keep_alloc) | exact HK.out)) : P := h
theorem spec_l5SpoilRules.zHI0 {P : Prop} (h : P := by repeat (first | (with_reducible first | exact HI0.out | apply IsS117.alloc | apply IsS117.drewN | apply IsS117.drew | apply IsS117.set_1) | exact HI0.out)) : P := h
theorem spec_l5SpoilRules.zHB {P : Prop} (h : P := by repeat (first | (with_reducible first | exact HB.out | apply below_alloc | apply pw_below_drewN | apply below_drew1 | refine below_set ?_ (IsS117.ge HI0.out)) | exact HB.out)) : P := h
theorem spec_l5SpoilRules.zr {P Q : Prop} (x : Q) (h : Q → P := by intro x_; (with_reducible repeat (first | apply Kd.R_alloc | apply Kd.R_drewN | apply Kd.R_drew)); exact x_) : P := h x
theorem spec_l5SpoilRules.zk {P Q : Prop} (x : Q) (h : Q → P := by intro x_; (with_reducible repeat (first | apply Kd.R_alloc | apply Kd.R_drewN | apply Kd.R_drew)); exact x_) : P := h x
theorem spec_l5SpoilRules.y1 {P : Prop} (h : P := by have h_ : (t114 : Int) < ((y104.length : Int) : Int) := of_decide_eq_true (by first | (with_reducible assumption) | assumption); first | exact h_ | (have e_ := (Kd.R_reads' HO_5.out).1; omega) | simpa using h_) : P := h
theorem spec_l5SpoilRules.y2 {P : Prop} (h : P := by (try simp only [List.map_toArray, List.map_cons, List.map_nil]); first | done | rfl | (simp only [List.length_drop, List.length_take]; rfl)) : P := h
theorem spec_l5SpoilRules.y3 {P : Prop} (h : P := by first | (with_reducible assumption) | assumption) : P := h
theorem spec_l5SpoilRules.zA {p : Prop} (h : p) : Aside0 p := ⟨h⟩
set_option maxHeartbeats 8000000 in
set_option maxRecDepth 100000 in
theorem spec_l5SpoilRules.calls (k : Nat) (g : Nat) (s0_0 : List Int) (s0_1 : Int) (A1 : Option Addr) (c1 : Nat) (l1 : List (S54)) (r1 : List (S54)) (r2 : Int) (w0 w : World) (hI : IsS117 w0 w g s0_0 s0_1) (hB : Below w0.heap.size w0 w) (hr1 : ∀ W_, KeepBut w W_ g none → Kd.C k54 W_ A1 l1.length l1) (hc1 : l1.length ≤ c1) (h : spec_l5SpoilRules.f k s0_0 s0_1 l1 = some (r1, r2)) :
  Calls Try.prog 111 #[.pointer (some ⟨g, 0, none⟩), .slice A1 l1.length c1] w fun e w' => ∃ v0_ : Value, e = .returned (v0_) ∧ Kd.R k54 54 w' w.heap.size (fun _ => True) v0_ r1 ∧ IsS117 w0 w' g s0_0 r2 ∧ Below w0.heap.size w0 w' ∧ KeepBut w w' g none := by
 have hu54 := Try.underlying54
 have hu26 := Try.underlying26
 have HR1 := zA hr1
 have HC1 := zA hc1
 clear hr1 hc1
 have HI0 := zA hI
 have HK := zA (KeepBut.refl w g none)
 have HL := zA hB.size
 clear hI
 have HW0 := zA hB.size
 have HB := zA hB
 clear hB
 have H : ((some (([] : List (S54)) : List (S54))).bind fun y101 => (if y101.length + l1.length < 2932031007402 then ((some (y101 ++ l1 : List (S54))).bind fun y104 => (if (y104.length : Int) = 0 then (spec_l5SpoilRules.j0 k y104 true s0_0 s0_1) else ((spec_l1Rd_pick.f k s0_0 s0_1 4).bind fun bt107 => (spec_l5SpoilRules.j0 k y104 (bt107.1 == 0) s0_0 bt107.2)))) else (none))) = some (r1, r2) := h
 clear h
 obtain ⟨y101, hy101⟩ : ∃ y_ : List (S54), y_ = (([] : List (S54))) := ⟨_, rfl⟩
 replace H : (if y101.length + l1.length < 2932031007402 then ((some (y101 ++ l1 : List (S54))).bind fun y104 => (if (y104.length : Int) = 0 then (spec_l5SpoilRules.j0 k y104 true s0_0 s0_1) else ((spec_l1Rd_pick.f k s0_0 s0_1 4).bind fun bt107 => (spec_l5SpoilRules.j0 k y104 (bt107.1 == 0) s0_0 bt107.2)))) else (none)) = some (r1, r2) := by first | (rw [hy101]; with_reducible exact H) | (have H2_ := (Option.bind_some _ _).symm.trans H; rw [hy101]; with_reducible exact H2_) | (have H2_ := (Option.bind_some _ _).symm.trans H; with_reducible exact H2_) | with_reducible exact H | (rw [hy101]; exact H) | exact H
 have Ny101 := zA hy101
 clear hy101
 by_cases c3 : y101.length + l1.length < 2932031007402
 ·rw [if_pos c3] at H
  have LMc3 := zA c3
  clear c3
  obtain ⟨y104, hy104⟩ : ∃ y_ : List (S54), y_ = (y101 ++ l1) := ⟨_, rfl⟩
  replace H : (if (y104.length : Int) = 0 then (spec_l5SpoilRules.j0 k y104 true s0_0 s0_1) else ((spec_l1Rd_pick.f k s0_0 s0_1 4).bind fun bt107 => (spec_l5SpoilRules.j0 k y104 (bt107.1 == 0) s0_0 bt107.2))) = some (r1, r2) := by first | (rw [hy104]; with_reducible exact H) | (have H2_ := (Option.bind_some _ _).symm.trans H; rw [hy104]; with_reducible exact H2_) | (have H2_ := (Option.bind_some _ _).symm.trans H; with_reducible exact H2_) | with_reducible exact H | (rw [hy104]; exact H) | exact H
  have Ny104 := zA hy104
  clear hy104
  have HC4 := zA H
  clear H
  go_enter Try.func111, Try.ntmps111
  go_upto_region 2 with (first | ((with_reducible refine gate_dst (N := 8) rfl ?_); refine Kd.R_lit k54 _ 54 ?hg (N := 8) ?hd (xs := ([] : List (S54))) (inner := []) (ok := fun _ => True) (okp := fun _ => True) ?hr ?hp (fun _ hk => hk) trivial (Below.refl _ _) (Nat.le_refl _) (by simp) ?_; (case hd => rfl); (case hg => rfl); (case hr => first | (go_simp; done) | (go_simp; rfl)); (case hp => exact (Reps.none _ _)); intro v102 w5 ho6 hb hg_ hnew_; clear hg_ hnew_; (first | rw [← Ny101.out] at ho6 | (simp only [Int.reduceToNat] at ho6; rw [← Ny101.out] at ho6)); have n0_ := zA (Kd.R_lower ho6 (keep_size (w := w) (g := g) (row := none) (zHK))); have n1_ := zA (IsS117.below (zHI0) hb); have n2_ := zA (KeepBut.trans (zHK) (KeepBut.of_below hb g none) (.inl rfl)); have n3_ := zA (below_step (zHB) hb); clear HI0; clear HK; clear HB; have HO103 := n0_; have HI0 := n1_; have HK := n2_; have HB := n3_; clear n0_ n1_ n2_ n3_; clear hb ho6) | ((with_reducible refine gate_builtin (b := .append) (xs := #[.tmp 8, .tmp 9]) rfl ?_); at_builtin; refine Kd.R_append_rows k54 w.heap.size rfl (.tmp 8) (.tmp 9) 30 54 (.agg #[(.bool false), (.int .i64 0), (.int .i64 0), (.int .i64 0), (.int .i64 0), (.int .i64 0)]) 48 rfl Try.underlying30 info54 rfl (by decide) (by omega) v102 y101 l1 _ _ _ (fun _ => True) (fun _ => False) rfl rfl ?aO ?aR (fun _ _ h => h) (fun _ h => h.elim) ?aF (Below.refl _ _) ?aS ?aL ?_; (case aR => exact Kd.C_foot_now HR1.out (zHK)); (case aF => exact (fun _ _ => trivial)); (case aO => exact (zr HO103.out)); (case aS => exact (keep_size (w := w) (g := g) (row := none) (zHK))); (case aL => have := LMc3.out; omega); intro v105 w7 ho hb hg hat; rw [← Ny104.out] at ho; have n0_ := zA (IsS117.grown (zHI0) hg (IsS117.own_ne HI0.out HO103.out (by decide))); have n1_ := zA (below_weaken (zHB) HL.out hb); have n2_ := zA (KeepBut.trans (zHK) (KeepBut.of_grown hg g) (Kd.R_base2 HO103.out)); have n3_ := zA (ho); clear HI0; clear HB; clear HK; clear HO103; have HI0 := n0_; have HB := n1_; have HK := n2_; have HO106 := n3_; clear n0_ n1_ n2_ n3_; clear ho hb hg hat))
  (try simp only [Act.put, List.setIfInBounds_toArray, List.set_cons_zero, List.set_cons_succ])
  go_cut [18] (fun v18 wc => ∃ (kq : Nat) (x18_3 : Bool) (x1001_3 : Int), v18 = .bool x18_3 ∧ Aside0 (spec_l5SpoilRules.j0 kq y104 x18_3 s0_0 x1001_3 = some (r1, r2)) ∧ Aside0 (kq ≤ k) ∧ Aside0 (Kd.R k54 54 wc w.heap.size (fun _ => True) v105 y104) ∧ Aside0 (IsS117 w0 wc g s0_0 x1001_3) ∧ Aside0 (KeepBut w wc g none) ∧ Aside0 (Below w0.heap.size w0 wc))
  case first =>
   have H := HC4.out
   clear HC4
   by_cases c8 : (y104.length : Int) = 0
   ·rw [if_pos c8] at H
    have c8b0 : ((y104.length : Int) == 0) = true := beq_iff_eq.mpr c8
    have c8b1 : ((y104.length : Int) != 0) = false := bne_eq_false_iff_eq.mpr c8
    clear c8
    (first | rw [c8b0] | (simp only [i64_w, i32_w]; rw [c8b0]) | skip)
    have H' := zA H
    clear H
    obtain ⟨Ao9, co9, eo9⟩ := Kd.R_slice HO106.out
    subst eo9
    go_wp2
    go_meet
    case rel => exact ⟨_, (true), (s0_1), (by first | rfl | (simp; done) | (simp [*]; done)), H', ⟨by first | omega | exact Nat.le_refl _⟩, ⟨by refine zk ?_; exact HO106.out⟩, ⟨zHI0⟩, ⟨zHK⟩, ⟨zHB⟩⟩
   rw [if_neg c8] at H
   have c8b0 : ((y104.length : Int) == 0) = false := beq_eq_false_iff_ne.mpr c8
   have c8b1 : ((y104.length : Int) != 0) = true := bne_iff_ne.mpr c8
   have c8b2 : ¬ (y104 = []) := fun h_ => c8 (by rw [h_]; rfl)
   (first | rw [c8b0] | (simp only [i64_w, i32_w]; rw [c8b0]) | skip)
   replace H := Option.bind_eq_some_iff.mp H
   obtain ⟨⟨t107, t108⟩, A100, H⟩ := H
   replace H : (spec_l5SpoilRules.j0 k y104 (t107 == 0) s0_0 t108) = some (r1, r2) := H
   have A10 := zA A100
   clear A100
   have H' := zA H
   clear H
   obtain ⟨Ao11, co11, eo11⟩ := Kd.R_slice HO106.out
   subst eo11
   go_wp2_with (first | (go_at_call 81; (with_reducible refine (spec_l1Rd_pick.calls k g s0_0 s0_1 4 t107 t108 w0 _ ?side1 ?side2 A10.out).mono ?_); (case side1 => exact zHI0); (case side2 => exact zHB); rintro e w12 ⟨rfl, hi, hb, hk⟩; have n0_ := zA (Kd.R_mono (Kd.R_keep (IsS117.apart (show IsS117 w0 _ g s0_0 s0_1 from zHI0) (zr HO106.out) (by decide)) hk (fun _ h => h.2)) (fun _ h => h.1)); have n1_ := zA (KeepBut.trans (zHK) hk (.inl rfl)); have n2_ := zA (hb); have n3_ := zA (hi); clear HO106; clear HK; clear HB; clear HI0; have HO106 := n0_; have HK := n1_; have HB := n2_; have HI0 := n3_; clear n0_ n1_ n2_ n3_; (try clear hb); (try clear hb2); (try clear hk); (try clear hi)))
   go_meet
   case rel => exact ⟨_, ((t107 == 0)), (t108), (by first | rfl | (simp; done) | (simp [*]; done)), H', ⟨by first | omega | exact Nat.le_refl _⟩, ⟨by refine zk ?_; exact HO106.out⟩, ⟨zHI0⟩, ⟨zHK⟩, ⟨zHB⟩⟩
  case rest =>
   clear HC4
   try clear c1
   try clear p2
   try clear c3
   try clear c8
   try clear c8b0
   try clear c8b1
   try clear c8b2
   try clear c11
   obtain ⟨kq, x18_3, x1001_3, rfl, HA, HJ3, HO_5, HI0, HK, HB⟩ := hcut
   cases kq with
   | zero => exact absurd HA.out (by simp [spec_l5SpoilRules.j0])
   | succ kj3 => ?_
   have H := HA.out
   clear HA
   simp only [spec_l5SpoilRules.j0] at H
   by_cases c13 : x18_3 = true
   ·subst c13
    have H1 : ((spec_l1Rd_pick.f kj3 s0_0 x1001_3 2).bind fun bt109 => (spec_l5SpoilRules.l0 kj3 y104 (wrap64 (12 + bt109.1)) s0_0 bt109.2)) = some (r1, r2) := by rw [if_pos rfl] at H; exact H
    clear H
    have H := H1
    clear H1
    replace H := Option.bind_eq_some_iff.mp H
    obtain ⟨⟨t109, t110⟩, A140, H⟩ := H
    replace H : (spec_l5SpoilRules.l0 kj3 y104 (wrap64 (12 + t109)) s0_0 t110) = some (r1, r2) := H
    have A14 := zA A140
    clear A140
    have H' := zA H
    clear H
    go_wp2_with (first | ((with_reducible refine gate_callee (f := 81) rfl ?_); refine goesL_ (some 20) rfl rfl Try.func81 (by kernel_rfl) rfl #[.pointer (some ⟨g, 0, none⟩), .int .i64 2] rfl y2  ?_; (with_reducible refine (spec_l1Rd_pick.calls kj3 g s0_0 x1001_3 2 t109 t110 w0 _ ?side1 ?side2 A14.out).mono ?_); (case side1 => exact zHI0); (case side2 => exact zHB); rintro e w15 ⟨rfl, hi, hb, hk⟩; refine ⟨_, rfl, ?_⟩; have n0_ := zA (Kd.R_mono (Kd.R_keep (IsS117.apart (show IsS117 w0 _ g s0_0 x1001_3 from zHI0) (zr HO_5.out) (by decide)) hk (fun _ h => h.2)) (fun _ h => h.1)); have n1_ := zA (KeepBut.trans (zHK) hk (.inl rfl)); have n2_ := zA (hb); have n3_ := zA (hi); clear HO_5; clear HK; clear HB; clear HI0; have HO_5 := n0_; have HK := n1_; have HB := n2_; have HI0 := n3_; clear n0_ n1_ n2_ n3_; (try clear hb); (try clear hb2); (try clear hk); (try clear hi)))
    go_loopg [5] kj3 (fun kq v5 w' => ∃ (x5_2 : List (S54)), Aside0 (spec_l5SpoilRules.l0 kq x5_2 (wrap64 (12 + t109)) s0_0 t110 = some (r1, r2)) ∧ Aside0 (kq ≤ kj3) ∧ Aside0 (Kd.R k54 54 w' w.heap.size (fun _ => True) v5 x5_2) ∧ Aside0 (IsS117 w0 w' g s0_0 t110) ∧ Aside0 (KeepBut w w' g none) ∧ Aside0 (Below w0.heap.size w0 w'))
    case atStart => exact ⟨(y104), H', ⟨Nat.le_refl _⟩, ⟨by refine zk ?_; exact HO_5.out⟩, ⟨zHI0⟩, ⟨zHK⟩, ⟨zHB⟩⟩
    case round =>
     clear H'
     try clear c1
     try clear p2
     try clear c3
     try clear p6
     try clear c8
     try clear c8b0
     try clear c8b1
     try clear c8b2
     try clear c11
     try clear c13
     try clear p2
     obtain ⟨x5_2, HA, HK2, HO_5, HI0, HK, HB⟩ := hrel
     cases gk with
     | zero => exact absurd HA.out (by simp [spec_l5SpoilRules.l0])
     | succ k2 => ?_
     have H := HA.out
     clear HA
     simp only [spec_l5SpoilRules.l0] at H
     by_cases c16 : (x5_2.length : Int) < (wrap64 (12 + t109))
     ·rw [if_pos c16] at H
      have c16b0 : decide ((x5_2.length : Int) < (wrap64 (12 + t109))) = true := decide_eq_true c16
      clear c16
      by_cases c17 : x5_2.length < 2932031007402
      ·rw [if_pos c17] at H
       have LMc17 := zA c17
       clear c17
       obtain ⟨y111, hy111⟩ : ∃ y_ : List (S54), y_ = (x5_2 ++ [(⟨false, (⟨0, 0⟩ : S26), (⟨0, 0⟩ : S26), 1⟩ : S54)]) := ⟨_, rfl⟩
       replace H : (spec_l5SpoilRules.l0 k2 y111 (wrap64 (12 + t109)) s0_0 t110) = some (r1, r2) := by first | (rw [hy111]; with_reducible exact H) | (have H2_ := (Option.bind_some _ _).symm.trans H; rw [hy111]; with_reducible exact H2_) | (have H2_ := (Option.bind_some _ _).symm.trans H; with_reducible exact H2_) | with_reducible exact H | (rw [hy111]; exact H) | exact H
       have Ny111 := zA hy111
       clear hy111
       have H' := zA H
       clear H
       obtain ⟨Ao18, co18, eo18⟩ := Kd.R_slice HO_5.out
       subst eo18
       go_wp2_with (first | ((with_reducible refine gate_builtin (b := .append) (xs := #[.tmp 26, .tmp 28]) rfl ?_); at_builtin; refine Kd.R_append k54 w.heap.size rfl (.tmp 26) (.tmp 28) 30 54 (.agg #[(.bool false), (.int .i64 0), (.int .i64 0), (.int .i64 0), (.int .i64 0), (.int .i64 0)]) 48 rfl Try.underlying30 info54 rfl (by decide) (by omega) (.slice Ao18 x5_2.length co18) x5_2 (⟨false, (⟨0, 0⟩ : S26), (⟨0, 0⟩ : S26), 1⟩ : S54) [.bool false, .int .i64 0, .int .i64 0, .int .i64 0, .int .i64 0, .int .i64 1] (fun _ => True) (fun _ => False) rfl rfl ?aP (fun _ hk => hk.elim) ?aF ?aO (Below.refl _ _) ?aS ?aL ?_; (case aP => exact k54_mkM _ _ _ (⟨false, (⟨0, 0⟩ : S26), (⟨0, 0⟩ : S26), 1⟩ : S54)); (case aF => exact (fun _ _ => trivial)); (case aO => exact (zr HO_5.out)); (case aS => exact (keep_size (w := w) (g := g) (row := none) (zHK))); (case aL => have := LMc17.out; omega); intro v112 w19 ho hb hg hat; rw [← Ny111.out] at ho; have n0_ := zA (IsS117.grown (zHI0) hg (IsS117.own_ne HI0.out HO_5.out (by decide))); have n1_ := zA (below_weaken (zHB) HL.out hb); have n2_ := zA (KeepBut.trans (zHK) (KeepBut.of_grown hg g) (Kd.R_base2 HO_5.out)); have n3_ := zA (ho); clear HI0; clear HB; clear HK; clear HO_5; have HI0 := n0_; have HB := n1_; have HK := n2_; have HO113 := n3_; clear n0_ n1_ n2_ n3_; clear ho hb hg hat))
       go_roundg k2
       case measure => have := HJ3.out; have := HK2.out; omega
       case rel => exact ⟨(y111), H', ⟨by have := HJ3.out; have := HK2.out; omega⟩, ⟨by refine zk ?_; exact HO113.out⟩, ⟨zHI0⟩, ⟨zHK⟩, ⟨zHB⟩⟩
      rw [if_neg c17] at H
      exact absurd H (by simp)
     rw [if_neg c16] at H
     have c16b0 : decide ((x5_2.length : Int) < (wrap64 (12 + t109))) = false := decide_eq_false c16
     clear c16
     simp only [Option.some.injEq, Prod.mk.injEq] at H
     obtain ⟨rfl, rfl⟩ := H
     obtain ⟨Ao20, co20, eo20⟩ := Kd.R_slice HO_5.out
     subst eo20
     go_wp2
     go_ret
     exact ⟨_, by first | rfl | (simp [errW_none, errW_some] <;> rfl) | (simp [*, errW_none, errW_some] <;> rfl), by refine zk ?_; exact HO_5.out, zHI0, zHB, zHK⟩
   replace c13 := Bool.eq_false_iff.mpr c13
   subst c13
   have H1 : ((spec_l1Rd_pick.f kj3 s0_0 x1001_3 (y104.length : Int)).bind fun bt114 => ((spec_l1Rd_pick.f kj3 s0_0 bt114.2 3).bind fun bt116 => (if bt116.1 = 0 then (if 0 ≤ bt114.1 then (if bt114.1 < (y104.length : Int) then ((spec_l5Spoil.f kj3 s0_0 bt116.2 ((rd_T54 y104 bt114.1).f1.f0) ((rd_T54 y104 bt114.1).f1.f1)).bind fun bt119 => (some ((y104.set (bt114.1 : Int).toNat (⟨(rd_T54 y104 bt114.1).f0, (⟨bt119.1, bt119.2.1⟩ : S26), (⟨(rd_T54 y104 bt114.1).f2.f0, (rd_T54 y104 bt114.1).f2.f1⟩ : S26), (rd_T54 y104 bt114.1).f3⟩ : S54)), bt119.2.2))) else (none)) else (none)) else (if bt116.1 = 1 then (if 0 ≤ bt114.1 then (if bt114.1 < (y104.length : Int) then ((spec_l5Spoil.f kj3 s0_0 bt116.2 ((rd_T54 y104 bt114.1).f2.f0) ((rd_T54 y104 bt114.1).f2.f1)).bind fun bt124 => (some ((y104.set (bt114.1 : Int).toNat (⟨(rd_T54 y104 bt114.1).f0, (⟨(rd_T54 y104 bt114.1).f1.f0, (rd_T54 y104 bt114.1).f1.f1⟩ : S26), (⟨bt124.1, bt124.2.1⟩ : S26), (rd_T54 y104 bt114.1).f3⟩ : S54)), bt124.2.2))) else (none)) else (none)) else ((some (([(-1), 7, 8] : List Int) : List Int)).bind fun y128 => ((spec_l1Rd_pick.f kj3 s0_0 bt116.2 3).bind fun bt131 => (if 0 ≤ bt131.1 then (if bt131.1 < (y128.length : Int) then (if 0 ≤ bt114.1 then (if bt114.1 < (y104.length : Int) then (some ((y104.set (bt114.1 : Int).toNat (⟨(rd_T54 y104 bt114.1).f0, (⟨(rd_T54 y104 bt114.1).f1.f0, (rd_T54 y104 bt114.1).f1.f1⟩ : S26), (⟨(rd_T54 y104 bt114.1).f2.f0, (rd_T54 y104 bt114.1).f2.f1⟩ : S26), rd y128 bt131.1⟩ : S54)), bt131.2)) else (none)) else (none)) else (none)) else (none)))))))) = some (r1, r2) := by rw [if_neg (show ¬ (false = true) by decide)] at H; exact H
   clear H
   have H := H1
   clear H1
   replace H := Option.bind_eq_some_iff.mp H
   obtain ⟨⟨t114, t115⟩, A210, H⟩ := H
   replace H : ((spec_l1Rd_pick.f kj3 s0_0 t115 3).bind fun bt116 => (if bt116.1 = 0 then (if 0 ≤ t114 then (if t114 < (y104.length : Int) then ((spec_l5Spoil.f kj3 s0_0 bt116.2 ((rd_T54 y104 t114).f1.f0) ((rd_T54 y104 t114).f1.f1)).bind fun bt119 => (some ((y104.set (t114 : Int).toNat (⟨(rd_T54 y104 t114).f0, (⟨bt119.1, bt119.2.1⟩ : S26), (⟨(rd_T54 y104 t114).f2.f0, (rd_T54 y104 t114).f2.f1⟩ : S26), (rd_T54 y104 t114).f3⟩ : S54)), bt119.2.2))) else (none)) else (none)) else (if bt116.1 = 1 then (if 0 ≤ t114 then (if t114 < (y104.length : Int) then ((spec_l5Spoil.f kj3 s0_0 bt116.2 ((rd_T54 y104 t114).f2.f0) ((rd_T54 y104 t114).f2.f1)).bind fun bt124 => (some ((y104.set (t114 : Int).toNat (⟨(rd_T54 y104 t114).f0, (⟨(rd_T54 y104 t114).f1.f0, (rd_T54 y104 t114).f1.f1⟩ : S26), (⟨bt124.1, bt124.2.1⟩ : S26), (rd_T54 y104 t114).f3⟩ : S54)), bt124.2.2))) else (none)) else (none)) else ((some (([(-1), 7, 8] : List Int) : List Int)).bind fun y128 => ((spec_l1Rd_pick.f kj3 s0_0 bt116.2 3).bind fun bt131 => (if 0 ≤ bt131.1 then (if bt131.1 < (y128.length : Int) then (if 0 ≤ t114 then (if t114 < (y104.length : Int) then (some ((y104.set (t114 : Int).toNat (⟨(rd_T54 y104 t114).f0, (⟨(rd_T54 y104 t114).f1.f0, (rd_T54 y104 t114).f1.f1⟩ : S26), (⟨(rd_T54 y104 t114).f2.f0, (rd_T54 y104 t114).f2.f1⟩ : S26), rd y128 bt131.1⟩ : S54)), bt131.2)) else (none)) else (none)) else (none)) else (none))))))) = some (r1, r2) := H
   have A21 := zA A210
   clear A210
   replace H := Option.bind_eq_some_iff.mp H
   obtain ⟨⟨t116, t117⟩, A220, H⟩ := H
   replace H : (if t116 = 0 then (if 0 ≤ t114 then (if t114 < (y104.length : Int) then ((spec_l5Spoil.f kj3 s0_0 t117 ((rd_T54 y104 t114).f1.f0) ((rd_T54 y104 t114).f1.f1)).bind fun bt119 => (some ((y104.set (t114 : Int).toNat (⟨(rd_T54 y104 t114).f0, (⟨bt119.1, bt119.2.1⟩ : S26), (⟨(rd_T54 y104 t114).f2.f0, (rd_T54 y104 t114).f2.f1⟩ : S26), (rd_T54 y104 t114).f3⟩ : S54)), bt119.2.2))) else (none)) else (none)) else (if t116 = 1 then (if 0 ≤ t114 then (if t114 < (y104.length : Int) then ((spec_l5Spoil.f kj3 s0_0 t117 ((rd_T54 y104 t114).f2.f0) ((rd_T54 y104 t114).f2.f1)).bind fun bt124 => (some ((y104.set (t114 : Int).toNat (⟨(rd_T54 y104 t114).f0, (⟨(rd_T54 y104 t114).f1.f0, (rd_T54 y104 t114).f1.f1⟩ : S26), (⟨bt124.1, bt124.2.1⟩ : S26), (rd_T54 y104 t114).f3⟩ : S54)), bt124.2.2))) else (none)) else (none)) else ((some (([(-1), 7, 8] : List Int) : List Int)).bind fun y128 => ((spec_l1Rd_pick.f kj3 s0_0 t117 3).bind fun bt131 => (if 0 ≤ bt131.1 then (if bt131.1 < (y128.length : Int) then (if 0 ≤ t114 then (if t114 < (y104.length : Int) then (some ((y104.set (t114 : Int).toNat (⟨(rd_T54 y104 t114).f0, (⟨(rd_T54 y104 t114).f1.f0, (rd_T54 y104 t114).f1.f1⟩ : S26), (⟨(rd_T54 y104 t114).f2.f0, (rd_T54 y104 t114).f2.f1⟩ : S26), rd y128 bt131.1⟩ : S54)), bt131.2)) else (none)) else (none)) else (none)) else (none)))))) = some (r1, r2) := H
   have A22 := zA A220
   clear A220
   by_cases c23 : t116 = 0
   ·rw [if_pos c23] at H
    have c23b0 : (t116 == 0) = true := beq_iff_eq.mpr c23
    have c23b1 : (t116 != 0) = false := bne_eq_false_iff_eq.mpr c23
    clear c23
    by_cases c24 : 0 ≤ t114
    ·rw [if_pos c24] at H
     have c24b0 : decide (0 ≤ t114) = true := decide_eq_true c24
     clear c24
     by_cases c25 : t114 < (y104.length : Int)
     ·rw [if_pos c25] at H
      have c25b0 : decide (t114 < (y104.length : Int)) = true := decide_eq_true c25
      clear c25
      replace H := Option.bind_eq_some_iff.mp H
      obtain ⟨⟨t119, t120, t121⟩, A260, H⟩ := H
      replace H : (some ((y104.set (t114 : Int).toNat (⟨(rd_T54 y104 t114).f0, (⟨t119, t120⟩ : S26), (⟨(rd_T54 y104 t114).f2.f0, (rd_T54 y104 t114).f2.f1⟩ : S26), (rd_T54 y104 t114).f3⟩ : S54)), t121)) = some (r1, r2) := H
      have A26 := zA A260
      clear A260
      obtain ⟨y122, hy122⟩ : ∃ y_ : List (S54), y_ = (y104.set (t114 : Int).toNat (⟨(rd_T54 y104 t114).f0, (⟨t119, t120⟩ : S26), (⟨(rd_T54 y104 t114).f2.f0, (rd_T54 y104 t114).f2.f1⟩ : S26), (rd_T54 y104 t114).f3⟩ : S54)) := ⟨_, rfl⟩
      replace H : (some (y122, t121)) = some (r1, r2) := by first | (rw [hy122]; with_reducible exact H) | (have H2_ := (Option.bind_some _ _).symm.trans H; rw [hy122]; with_reducible exact H2_) | (have H2_ := (Option.bind_some _ _).symm.trans H; with_reducible exact H2_) | with_reducible exact H | (rw [hy122]; exact H) | exact H
      have Ny122 := zA hy122
      clear hy122
      simp only [Option.some.injEq, Prod.mk.injEq] at H
      obtain ⟨rfl, rfl⟩ := H
      obtain ⟨Ao28, co28, eo28⟩ := Kd.R_slice HO_5.out
      subst eo28
      go_wp2_with (first | ((with_reducible refine gate_callee (f := 81) rfl ?_); refine goesL_ (some 34) rfl rfl Try.func81 (by kernel_rfl) rfl #[.pointer (some ⟨g, 0, none⟩), .int .i64 (y104.length : Int)] rfl y2  ?_; (with_reducible refine (spec_l1Rd_pick.calls kj3 g s0_0 x1001_3 (y104.length : Int) t114 t115 w0 _ ?side1 ?side2 A21.out).mono ?_); (case side1 => exact zHI0); (case side2 => exact zHB); rintro e w29 ⟨rfl, hi, hb, hk⟩; refine ⟨_, rfl, ?_⟩; have n0_ := zA (Kd.R_mono (Kd.R_keep (IsS117.apart (show IsS117 w0 _ g s0_0 x1001_3 from zHI0) (zr HO_5.out) (by decide)) hk (fun _ h => h.2)) (fun _ h => h.1)); have n1_ := zA (KeepBut.trans (zHK) hk (.inl rfl)); have n2_ := zA (hb); have n3_ := zA (hi); clear HO_5; clear HK; clear HB; clear HI0; have HO_5 := n0_; have HK := n1_; have HB := n2_; have HI0 := n3_; clear n0_ n1_ n2_ n3_; (try clear hb); (try clear hb2); (try clear hk); (try clear hi)) | ((with_reducible refine gate_callee (f := 81) rfl ?_); refine goesL_ (some 36) rfl rfl Try.func81 (by kernel_rfl) rfl #[.pointer (some ⟨g, 0, none⟩), .int .i64 3] rfl y2  ?_; (with_reducible refine (spec_l1Rd_pick.calls kj3 g s0_0 t115 3 t116 t117 w0 _ ?side1 ?side2 A22.out).mono ?_); (case side1 => exact zHI0); (case side2 => exact zHB); rintro e w30 ⟨rfl, hi, hb, hk⟩; refine ⟨_, rfl, ?_⟩; have n0_ := zA (Kd.R_mono (Kd.R_keep (IsS117.apart (show IsS117 w0 _ g s0_0 t115 from zHI0) (zr HO_5.out) (by decide)) hk (fun _ h => h.2)) (fun _ h => h.1)); have n1_ := zA (KeepBut.trans (zHK) hk (.inl rfl)); have n2_ := zA (hb); have n3_ := zA (hi); clear HO_5; clear HK; clear HB; clear HI0; have HO_5 := n0_; have HK := n1_; have HB := n2_; have HI0 := n3_; clear n0_ n1_ n2_ n3_; (try clear hb); (try clear hb2); (try clear hk); (try clear hi); have p118 : 0 ≤ (t114 : Int) := of_decide_eq_true y3 ; have q118 : t114 < (y104.length : Int) := of_decide_eq_true y3 ; obtain ⟨ad118, e118, hx118_0, hx118_1, hx118_2, hx118_3, hx118_4, hx118_5⟩ := at_T54 (Kd.R_reads' HO_5.out).2.2 t114 p118 q118; cases e118; replace p118 := eq_true p118; replace q118 := eq_true q118) | ((with_reducible refine gate_callee (f := 122) rfl ?_); refine goesL_ (some 56) rfl rfl Try.func122 (by kernel_rfl) rfl #[.pointer (some ⟨g, 0, none⟩), .agg #[.int .i64 ((rd_T54 y104 t114).f1.f0), .int .i64 ((rd_T54 y104 t114).f1.f1)]] rfl y2  ?_; (with_reducible refine (spec_l5Spoil.calls kj3 g s0_0 t117 ((rd_T54 y104 t114).f1.f0) ((rd_T54 y104 t114).f1.f1) t119 t120 t121 w0 _ ?side1 ?side2 A26.out).mono ?_); (case side1 => exact zHI0); (case side2 => exact zHB); rintro e w31 ⟨rfl, hi, hb, hk⟩; refine ⟨_, rfl, ?_⟩; have n0_ := zA (Kd.R_mono (Kd.R_keep (IsS117.apart (show IsS117 w0 _ g s0_0 t117 from zHI0) (zr HO_5.out) (by decide)) hk (fun _ h => h.2)) (fun _ h => h.1)); have n1_ := zA (KeepBut.trans (zHK) hk (.inl rfl)); have n2_ := zA (hb); have n3_ := zA (hi); clear HO_5; clear HK; clear HB; clear HI0; have HO_5 := n0_; have HK := n1_; have HB := n2_; have HI0 := n3_; clear n0_ n1_ n2_ n3_; (try clear hb); (try clear hb2); (try clear hk); (try clear hi); have p27 : 0 ≤ (t114 : Int) := of_decide_eq_true y3 ; have q27 : (t114 : Int) < ((y104.length : Int) : Int) := of_decide_eq_true y3 ; obtain ⟨go27, co27, eo27, gb27, gl27, cl27, HG27⟩ := Kd.R_form HO_5.out (by omega); (first | cases eo27 | (injection eo27 with ea_ en_ ec_; (first | subst ea_ | (injection ea_ with ea_; subst ea_)); subst ec_; clear en_)); have GB27 := zA gb27; have GG27 := zA HG27; clear gb27 gl27 HG27; (first | simp only [add_plain] at hx118_0 | skip); (first | simp only [add_plain] at hx118_1 | skip); (first | simp only [add_plain] at hx118_2 | skip); (first | simp only [add_plain] at hx118_3 | skip); (first | simp only [add_plain] at hx118_4 | skip); (first | simp only [add_plain] at hx118_5 | skip); obtain ⟨ce27, hcl27, hM27, hcc27, hfr27⟩ := Kd.R_elem HO_5.out z54 (t114 : Int) p27 q27; obtain rfl := k54_openM hM27; have hx27_0 : w31.cell? ⟨go27, (t114 : Int).toNat * 6, none⟩ = some (.bool ((rd_T54 y104 t114).f0)) := hcc27 0 _ rfl; have hx27_1 : w31.cell? ⟨go27, (t114 : Int).toNat * 6 + 1, none⟩ = some (.int .i64 ((rd_T54 y104 t114).f1.f0)) := hcc27 1 _ rfl; have hx27_2 : w31.cell? ⟨go27, (t114 : Int).toNat * 6 + 2, none⟩ = some (.int .i64 ((rd_T54 y104 t114).f1.f1)) := hcc27 2 _ rfl; have hx27_3 : w31.cell? ⟨go27, (t114 : Int).toNat * 6 + 3, none⟩ = some (.int .i64 ((rd_T54 y104 t114).f2.f0)) := hcc27 3 _ rfl; have hx27_4 : w31.cell? ⟨go27, (t114 : Int).toNat * 6 + 4, none⟩ = some (.int .i64 ((rd_T54 y104 t114).f2.f1)) := hcc27 4 _ rfl; have hx27_5 : w31.cell? ⟨go27, (t114 : Int).toNat * 6 + 5, none⟩ = some (.int .i64 ((rd_T54 y104 t114).f3)) := hcc27 5 _ rfl; have hf27_0 : w31.frozen? ⟨go27, (t114 : Int).toNat * 6, none⟩ = false := hfr27 0; have hf27_1 : w31.frozen? ⟨go27, (t114 : Int).toNat * 6 + 1, none⟩ = false := hfr27 1; have hf27_2 : w31.frozen? ⟨go27, (t114 : Int).toNat * 6 + 2, none⟩ = false := hfr27 2; have hf27_3 : w31.frozen? ⟨go27, (t114 : Int).toNat * 6 + 3, none⟩ = false := hfr27 3; have hf27_4 : w31.frozen? ⟨go27, (t114 : Int).toNat * 6 + 4, none⟩ = false := hfr27 4; have hf27_5 : w31.frozen? ⟨go27, (t114 : Int).toNat * 6 + 5, none⟩ = false := hfr27 5; clear hcl27 hcc27 hfr27 hM27; replace p27 := eq_true p27; replace q27 := eq_true q27; have HX32 := zA (show Kd.R k54 54 w31 w.heap.size (fun _ => True) (.slice (some ⟨go27, 0, none⟩) y104.length co28) y104 from (zr HO_5.out)); obtain ⟨ce32, hcl32, hM32, hcc32, hfr32⟩ := Kd.R_elem HX32.out z54 (t114 : Int) (of_decide_eq_true y3 ) y1 ; obtain rfl := k54_openM hM32; have HP32 := Kd.R_seg HX32.out (t114 : Int) (of_decide_eq_true y3 ) y1  (seg := [.int .i64 t119, .int .i64 t120]) (j := 1) hcl32 hcc32 (show 3 ≤ 6 from by decide) (x' := (⟨(rd_T54 y104 t114).f0, (⟨t119, t120⟩ : S26), (⟨(rd_T54 y104 t114).f2.f0, (rd_T54 y104 t114).f2.f1⟩ : S26), (rd_T54 y104 t114).f3⟩ : S54)) (k54_mkM _ _ _ (⟨(rd_T54 y104 t114).f0, (⟨t119, t120⟩ : S26), (⟨(rd_T54 y104 t114).f2.f0, (rd_T54 y104 t114).f2.f1⟩ : S26), (rd_T54 y104 t114).f3⟩ : S54) ) (fun _ hk => hk); have hx32_1 := hcc32 1 _ rfl; (try simp only [show (k54).sz = 6 from rfl, Nat.mul_one, Nat.add_zero] at hx32_1); have hf32_1 := hfr32 1; (try simp only [show (k54).sz = 6 from rfl, Nat.mul_one, Nat.add_zero] at hf32_1); have hx32_2 := hcc32 2 _ rfl; (try simp only [show (k54).sz = 6 from rfl, Nat.mul_one, Nat.add_zero] at hx32_2); have hf32_2 := hfr32 2; (try simp only [show (k54).sz = 6 from rfl, Nat.mul_one, Nat.add_zero] at hf32_2); clear hcl32 hcc32 hfr32 hM32) | ((with_reducible refine gate_store (t := 26) (p := 58) rfl ?_); refine store_event (t := 26) (p := 58) (v := ?vo_w33) (w1 := ((w31.setCell ⟨go27, (t114 : Int).toNat * 6 + 1, none⟩ (.int .i64 t119)).setCell ⟨go27, (t114 : Int).toNat * 6 + 2, none⟩ (.int .i64 t120))) ?hg ?ho ?hn ?hr ?_; (case ho => rfl); (case hg => rfl); (case hn => rfl); (case hr => first | (go_simp; done) | (go_simp; rfl)); intro w33 hw; have hg : w31.grownBy w33 (some go27) := (by rw [hw]; exact HP32.2); have hp_ : Kd.R k54 54 w33 w.heap.size (fun _ => True) (.slice (some ⟨go27, 0, none⟩) y104.length co28) y122 := (by rw [hw, Ny122.out]; exact HP32.1); clear HP32; have n0_ := zA (hp_); have n1_ := zA (IsS117.grown (zHI0) hg (IsS117.own_ne HI0.out HO_5.out (by decide))); have n2_ := zA ((by rw [hw]; exact below_set (below_set (HB.out) (Nat.le_trans HL.out GB27.out)) (Nat.le_trans HL.out GB27.out) : Below w0.heap.size w0 w33)); have n3_ := zA (KeepBut.trans (zHK) (KeepBut.of_grown hg g) (Kd.R_base2 HO_5.out)); clear HO_5; clear HI0; clear HB; clear HK; have HO_5 := n0_; have HI0 := n1_; have HB := n2_; have HK := n3_; clear n0_ n1_ n2_ n3_; clear hg hw hp_))
      go_ret
      exact ⟨_, by first | rfl | (simp [errW_none, errW_some] <;> rfl) | (simp [*, errW_none, errW_some] <;> rfl), by refine zk ?_; exact HO_5.out, zHI0, zHB, zHK⟩
     rw [if_neg c25] at H
     exact absurd H (by simp)
    rw [if_neg c24] at H
    exact absurd H (by simp)
   rw [if_neg c23] at H
   have c23b0 : (t116 == 0) = false := beq_eq_false_iff_ne.mpr c23
   have c23b1 : (t116 != 0) = true := bne_iff_ne.mpr c23
   by_cases c34 : t116 = 1
   ·rw [if_pos c34] at H
    have c34b0 : (t116 == 1) = true := beq_iff_eq.mpr c34
    have c34b1 : (t116 != 1) = false := bne_eq_false_iff_eq.mpr c34
    clear c34
    by_cases c35 : 0 ≤ t114
    ·rw [if_pos c35] at H
     have c35b0 : decide (0 ≤ t114) = true := decide_eq_true c35
     clear c35
     by_cases c36 : t114 < (y104.length : Int)
     ·rw [if_pos c36] at H
      have c36b0 : decide (t114 < (y104.length : Int)) = true := decide_eq_true c36
      clear c36
      replace H := Option.bind_eq_some_iff.mp H
      obtain ⟨⟨t124, t125, t126⟩, A370, H⟩ := H
      replace H : (some ((y104.set (t114 : Int).toNat (⟨(rd_T54 y104 t114).f0, (⟨(rd_T54 y104 t114).f1.f0, (rd_T54 y104 t114).f1.f1⟩ : S26), (⟨t124, t125⟩ : S26), (rd_T54 y104 t114).f3⟩ : S54)), t126)) = some (r1, r2) := H
      have A37 := zA A370
      clear A370
      obtain ⟨y127, hy127⟩ : ∃ y_ : List (S54), y_ = (y104.set (t114 : Int).toNat (⟨(rd_T54 y104 t114).f0, (⟨(rd_T54 y104 t114).f1.f0, (rd_T54 y104 t114).f1.f1⟩ : S26), (⟨t124, t125⟩ : S26), (rd_T54 y104 t114).f3⟩ : S54)) := ⟨_, rfl⟩
      replace H : (some (y127, t126)) = some (r1, r2) := by first | (rw [hy127]; with_reducible exact H) | (have H2_ := (Option.bind_some _ _).symm.trans H; rw [hy127]; with_reducible exact H2_) | (have H2_ := (Option.bind_some _ _).symm.trans H; with_reducible exact H2_) | with_reducible exact H | (rw [hy127]; exact H) | exact H
      have Ny127 := zA hy127
      clear hy127
      simp only [Option.some.injEq, Prod.mk.injEq] at H
      obtain ⟨rfl, rfl⟩ := H
      obtain ⟨Ao39, co39, eo39⟩ := Kd.R_slice HO_5.out
      subst eo39
      go_wp2_with (first | ((with_reducible refine gate_callee (f := 81) rfl ?_); refine goesL_ (some 34) rfl rfl Try.func81 (by kernel_rfl) rfl #[.pointer (some ⟨g, 0, none⟩), .int .i64 (y104.length : Int)] rfl y2  ?_; (with_reducible refine (spec_l1Rd_pick.calls kj3 g s0_0 x1001_3 (y104.length : Int) t114 t115 w0 _ ?side1 ?side2 A21.out).mono ?_); (case side1 => exact zHI0); (case side2 => exact zHB); rintro e w40 ⟨rfl, hi, hb, hk⟩; refine ⟨_, rfl, ?_⟩; have n0_ := zA (Kd.R_mono (Kd.R_keep (IsS117.apart (show IsS117 w0 _ g s0_0 x1001_3 from zHI0) (zr HO_5.out) (by decide)) hk (fun _ h => h.2)) (fun _ h => h.1)); have n1_ := zA (KeepBut.trans (zHK) hk (.inl rfl)); have n2_ := zA (hb); have n3_ := zA (hi); clear HO_5; clear HK; clear HB; clear HI0; have HO_5 := n0_; have HK := n1_; have HB := n2_; have HI0 := n3_; clear n0_ n1_ n2_ n3_; (try clear hb); (try clear hb2); (try clear hk); (try clear hi)) | ((with_reducible refine gate_callee (f := 81) rfl ?_); refine goesL_ (some 36) rfl rfl Try.func81 (by kernel_rfl) rfl #[.pointer (some ⟨g, 0, none⟩), .int .i64 3] rfl y2  ?_; (with_reducible refine (spec_l1Rd_pick.calls kj3 g s0_0 t115 3 t116 t117 w0 _ ?side1 ?side2 A22.out).mono ?_); (case side1 => exact zHI0); (case side2 => exact zHB); rintro e w41 ⟨rfl, hi, hb, hk⟩; refine ⟨_, rfl, ?_⟩; have n0_ := zA (Kd.R_mono (Kd.R_keep (IsS117.apart (show IsS117 w0 _ g s0_0 t115 from zHI0) (zr HO_5.out) (by decide)) hk (fun _ h => h.2)) (fun _ h => h.1)); have n1_ := zA (KeepBut.trans (zHK) hk (.inl rfl)); have n2_ := zA (hb); have n3_ := zA (hi); clear HO_5; clear HK; clear HB; clear HI0; have HO_5 := n0_; have HK := n1_; have HB := n2_; have HI0 := n3_; clear n0_ n1_ n2_ n3_; (try clear hb); (try clear hb2); (try clear hk); (try clear hi); have p123 : 0 ≤ (t114 : Int) := of_decide_eq_true y3 ; have q123 : t114 < (y104.length : Int) := of_decide_eq_true y3 ; obtain ⟨ad123, e123, hx123_0, hx123_1, hx123_2, hx123_3, hx123_4, hx123_5⟩ := at_T54 (Kd.R_reads' HO_5.out).2.2 t114 p123 q123; cases e123; replace p123 := eq_true p123; replace q123 := eq_true q123) | ((with_reducible refine gate_callee (f := 122) rfl ?_); refine goesL_ (some 69) rfl rfl Try.func122 (by kernel_rfl) rfl #[.pointer (some ⟨g, 0, none⟩), .agg #[.int .i64 ((rd_T54 y104 t114).f2.f0), .int .i64 ((rd_T54 y104 t114).f2.f1)]] rfl y2  ?_; (with_reducible refine (spec_l5Spoil.calls kj3 g s0_0 t117 ((rd_T54 y104 t114).f2.f0) ((rd_T54 y104 t114).f2.f1) t124 t125 t126 w0 _ ?side1 ?side2 A37.out).mono ?_); (case side1 => exact zHI0); (case side2 => exact zHB); rintro e w42 ⟨rfl, hi, hb, hk⟩; refine ⟨_, rfl, ?_⟩; have n0_ := zA (Kd.R_mono (Kd.R_keep (IsS117.apart (show IsS117 w0 _ g s0_0 t117 from zHI0) (zr HO_5.out) (by decide)) hk (fun _ h => h.2)) (fun _ h => h.1)); have n1_ := zA (KeepBut.trans (zHK) hk (.inl rfl)); have n2_ := zA (hb); have n3_ := zA (hi); clear HO_5; clear HK; clear HB; clear HI0; have HO_5 := n0_; have HK := n1_; have HB := n2_; have HI0 := n3_; clear n0_ n1_ n2_ n3_; (try clear hb); (try clear hb2); (try clear hk); (try clear hi); have p38 : 0 ≤ (t114 : Int) := of_decide_eq_true y3 ; have q38 : (t114 : Int) < ((y104.length : Int) : Int) := of_decide_eq_true y3 ; obtain ⟨go38, co38, eo38, gb38, gl38, cl38, HG38⟩ := Kd.R_form HO_5.out (by omega); (first | cases eo38 | (injection eo38 with ea_ en_ ec_; (first | subst ea_ | (injection ea_ with ea_; subst ea_)); subst ec_; clear en_)); have GB38 := zA gb38; have GG38 := zA HG38; clear gb38 gl38 HG38; (first | simp only [add_plain] at hx123_0 | skip); (first | simp only [add_plain] at hx123_1 | skip); (first | simp only [add_plain] at hx123_2 | skip); (first | simp only [add_plain] at hx123_3 | skip); (first | simp only [add_plain] at hx123_4 | skip); (first | simp only [add_plain] at hx123_5 | skip); obtain ⟨ce38, hcl38, hM38, hcc38, hfr38⟩ := Kd.R_elem HO_5.out z54 (t114 : Int) p38 q38; obtain rfl := k54_openM hM38; have hx38_0 : w42.cell? ⟨go38, (t114 : Int).toNat * 6, none⟩ = some (.bool ((rd_T54 y104 t114).f0)) := hcc38 0 _ rfl; have hx38_1 : w42.cell? ⟨go38, (t114 : Int).toNat * 6 + 1, none⟩ = some (.int .i64 ((rd_T54 y104 t114).f1.f0)) := hcc38 1 _ rfl; have hx38_2 : w42.cell? ⟨go38, (t114 : Int).toNat * 6 + 2, none⟩ = some (.int .i64 ((rd_T54 y104 t114).f1.f1)) := hcc38 2 _ rfl; have hx38_3 : w42.cell? ⟨go38, (t114 : Int).toNat * 6 + 3, none⟩ = some (.int .i64 ((rd_T54 y104 t114).f2.f0)) := hcc38 3 _ rfl; have hx38_4 : w42.cell? ⟨go38, (t114 : Int).toNat * 6 + 4, none⟩ = some (.int .i64 ((rd_T54 y104 t114).f2.f1)) := hcc38 4 _ rfl; have hx38_5 : w42.cell? ⟨go38, (t114 : Int).toNat * 6 + 5, none⟩ = some (.int .i64 ((rd_T54 y104 t114).f3)) := hcc38 5 _ rfl; have hf38_0 : w42.frozen? ⟨go38, (t114 : Int).toNat * 6, none⟩ = false := hfr38 0; have hf38_1 : w42.frozen? ⟨go38, (t114 : Int).toNat * 6 + 1, none⟩ = false := hfr38 1; have hf38_2 : w42.frozen? ⟨go38, (t114 : Int).toNat * 6 + 2, none⟩ = false := hfr38 2; have hf38_3 : w42.frozen? ⟨go38, (t114 : Int).toNat * 6 + 3, none⟩ = false := hfr38 3; have hf38_4 : w42.frozen? ⟨go38, (t114 : Int).toNat * 6 + 4, none⟩ = false := hfr38 4; have hf38_5 : w42.frozen? ⟨go38, (t114 : Int).toNat * 6 + 5, none⟩ = false := hfr38 5; clear hcl38 hcc38 hfr38 hM38; replace p38 := eq_true p38; replace q38 := eq_true q38; have HX43 := zA (show Kd.R k54 54 w42 w.heap.size (fun _ => True) (.slice (some ⟨go38, 0, none⟩) y104.length co39) y104 from (zr HO_5.out)); obtain ⟨ce43, hcl43, hM43, hcc43, hfr43⟩ := Kd.R_elem HX43.out z54 (t114 : Int) (of_decide_eq_true y3 ) y1 ; obtain rfl := k54_openM hM43; have HP43 := Kd.R_seg HX43.out (t114 : Int) (of_decide_eq_true y3 ) y1  (seg := [.int .i64 t124, .int .i64 t125]) (j := 3) hcl43 hcc43 (show 5 ≤ 6 from by decide) (x' := (⟨(rd_T54 y104 t114).f0, (⟨(rd_T54 y104 t114).f1.f0, (rd_T54 y104 t114).f1.f1⟩ : S26), (⟨t124, t125⟩ : S26), (rd_T54 y104 t114).f3⟩ : S54)) (k54_mkM _ _ _ (⟨(rd_T54 y104 t114).f0, (⟨(rd_T54 y104 t114).f1.f0, (rd_T54 y104 t114).f1.f1⟩ : S26), (⟨t124, t125⟩ : S26), (rd_T54 y104 t114).f3⟩ : S54) ) (fun _ hk => hk); have hx43_3 := hcc43 3 _ rfl; (try simp only [show (k54).sz = 6 from rfl, Nat.mul_one, Nat.add_zero] at hx43_3); have hf43_3 := hfr43 3; (try simp only [show (k54).sz = 6 from rfl, Nat.mul_one, Nat.add_zero] at hf43_3); have hx43_4 := hcc43 4 _ rfl; (try simp only [show (k54).sz = 6 from rfl, Nat.mul_one, Nat.add_zero] at hx43_4); have hf43_4 := hfr43 4; (try simp only [show (k54).sz = 6 from rfl, Nat.mul_one, Nat.add_zero] at hf43_4); clear hcl43 hcc43 hfr43 hM43) | ((with_reducible refine gate_store (t := 26) (p := 71) rfl ?_); refine store_event (t := 26) (p := 71) (v := ?vo_w44) (w1 := ((w42.setCell ⟨go38, (t114 : Int).toNat * 6 + 3, none⟩ (.int .i64 t124)).setCell ⟨go38, (t114 : Int).toNat * 6 + 4, none⟩ (.int .i64 t125))) ?hg ?ho ?hn ?hr ?_; (case ho => rfl); (case hg => rfl); (case hn => rfl); (case hr => first | (go_simp; done) | (go_simp; rfl)); intro w44 hw; have hg : w42.grownBy w44 (some go38) := (by rw [hw]; exact HP43.2); have hp_ : Kd.R k54 54 w44 w.heap.size (fun _ => True) (.slice (some ⟨go38, 0, none⟩) y104.length co39) y127 := (by rw [hw, Ny127.out]; exact HP43.1); clear HP43; have n0_ := zA (hp_); have n1_ := zA (IsS117.grown (zHI0) hg (IsS117.own_ne HI0.out HO_5.out (by decide))); have n2_ := zA ((by rw [hw]; exact below_set (below_set (HB.out) (Nat.le_trans HL.out GB38.out)) (Nat.le_trans HL.out GB38.out) : Below w0.heap.size w0 w44)); have n3_ := zA (KeepBut.trans (zHK) (KeepBut.of_grown hg g) (Kd.R_base2 HO_5.out)); clear HO_5; clear HI0; clear HB; clear HK; have HO_5 := n0_; have HI0 := n1_; have HB := n2_; have HK := n3_; clear n0_ n1_ n2_ n3_; clear hg hw hp_))
      go_ret
      exact ⟨_, by first | rfl | (simp [errW_none, errW_some] <;> rfl) | (simp [*, errW_none, errW_some] <;> rfl), by refine zk ?_; exact HO_5.out, zHI0, zHB, zHK⟩
     rw [if_neg c36] at H
     exact absurd H (by simp)
    rw [if_neg c35] at H
    exact absurd H (by simp)
   rw [if_neg c34] at H
   have c34b0 : (t116 == 1) = false := beq_eq_false_iff_ne.mpr c34
   have c34b1 : (t116 != 1) = true := bne_iff_ne.mpr c34
   obtain ⟨y128, hy128⟩ : ∃ y_ : List Int, y_ = (([(-1), 7, 8] : List Int)) := ⟨_, rfl⟩
   replace H : ((spec_l1Rd_pick.f kj3 s0_0 t117 3).bind fun bt131 => (if 0 ≤ bt131.1 then (if bt131.1 < (y128.length : Int) then (if 0 ≤ t114 then (if t114 < (y104.length : Int) then (some ((y104.set (t114 : Int).toNat (⟨(rd_T54 y104 t114).f0, (⟨(rd_T54 y104 t114).f1.f0, (rd_T54 y104 t114).f1.f1⟩ : S26), (⟨(rd_T54 y104 t114).f2.f0, (rd_T54 y104 t114).f2.f1⟩ : S26), rd y128 bt131.1⟩ : S54)), bt131.2)) else (none)) else (none)) else (none)) else (none))) = some (r1, r2) := by first | (rw [hy128]; with_reducible exact H) | (have H2_ := (Option.bind_some _ _).symm.trans H; rw [hy128]; with_reducible exact H2_) | (have H2_ := (Option.bind_some _ _).symm.trans H; with_reducible exact H2_) | with_reducible exact H | (rw [hy128]; exact H) | exact H
   have Ny128 := zA hy128
   clear hy128
   replace H := Option.bind_eq_some_iff.mp H
   obtain ⟨⟨t131, t132⟩, A450, H⟩ := H
   replace H : (if 0 ≤ t131 then (if t131 < (y128.length : Int) then (if 0 ≤ t114 then (if t114 < (y104.length : Int) then (some ((y104.set (t114 : Int).toNat (⟨(rd_T54 y104 t114).f0, (⟨(rd_T54 y104 t114).f1.f0, (rd_T54 y104 t114).f1.f1⟩ : S26), (⟨(rd_T54 y104 t114).f2.f0, (rd_T54 y104 t114).f2.f1⟩ : S26), rd y128 t131⟩ : S54)), t132)) else (none)) else (none)) else (none)) else (none)) = some (r1, r2) := H
   have A45 := zA A450
   clear A450
   by_cases c46 : 0 ≤ t131
   ·rw [if_pos c46] at H
    have c46b0 : decide (0 ≤ t131) = true := decide_eq_true c46
    clear c46
    by_cases c47 : t131 < (y128.length : Int)
    ·rw [if_pos c47] at H
     have c47b0 : decide (t131 < (y128.length : Int)) = true := decide_eq_true c47
     clear c47
     by_cases c48 : 0 ≤ t114
     ·rw [if_pos c48] at H
      have c48b0 : decide (0 ≤ t114) = true := decide_eq_true c48
      clear c48
      by_cases c49 : t114 < (y104.length : Int)
      ·rw [if_pos c49] at H
       have c49b0 : decide (t114 < (y104.length : Int)) = true := decide_eq_true c49
       clear c49
       obtain ⟨y134, hy134⟩ : ∃ y_ : List (S54), y_ = (y104.set (t114 : Int).toNat (⟨(rd_T54 y104 t114).f0, (⟨(rd_T54 y104 t114).f1.f0, (rd_T54 y104 t114).f1.f1⟩ : S26), (⟨(rd_T54 y104 t114).f2.f0, (rd_T54 y104 t114).f2.f1⟩ : S26), rd y128 t131⟩ : S54)) := ⟨_, rfl⟩
       replace H : (some (y134, t132)) = some (r1, r2) := by first | (rw [hy134]; with_reducible exact H) | (have H2_ := (Option.bind_some _ _).symm.trans H; rw [hy134]; with_reducible exact H2_) | (have H2_ := (Option.bind_some _ _).symm.trans H; with_reducible exact H2_) | with_reducible exact H | (rw [hy134]; exact H) | exact H
       have Ny134 := zA hy134
       clear hy134
       simp only [Option.some.injEq, Prod.mk.injEq] at H
       obtain ⟨rfl, rfl⟩ := H
       obtain ⟨Ao51, co51, eo51⟩ := Kd.R_slice HO_5.out
       subst eo51
       go_wp2_with (first | ((with_reducible refine gate_callee (f := 81) rfl ?_); refine goesL_ (some 34) rfl rfl Try.func81 (by kernel_rfl) rfl #[.pointer (some ⟨g, 0, none⟩), .int .i64 (y104.length : Int)] rfl y2  ?_; (with_reducible refine (spec_l1Rd_pick.calls kj3 g s0_0 x1001_3 (y104.length : Int) t114 t115 w0 _ ?side1 ?side2 A21.out).mono ?_); (case side1 => exact zHI0); (case side2 => exact zHB); rintro e w52 ⟨rfl, hi, hb, hk⟩; refine ⟨_, rfl, ?_⟩; have n0_ := zA (Kd.R_mono (Kd.R_keep (IsS117.apart (show IsS117 w0 _ g s0_0 x1001_3 from zHI0) (zr HO_5.out) (by decide)) hk (fun _ h => h.2)) (fun _ h => h.1)); have n1_ := zA (KeepBut.trans (zHK) hk (.inl rfl)); have n2_ := zA (hb); have n3_ := zA (hi); clear HO_5; clear HK; clear HB; clear HI0; have HO_5 := n0_; have HK := n1_; have HB := n2_; have HI0 := n3_; clear n0_ n1_ n2_ n3_; (try clear hb); (try clear hb2); (try clear hk); (try clear hi)) | ((with_reducible refine gate_callee (f := 81) rfl ?_); refine goesL_ (some 36) rfl rfl Try.func81 (by kernel_rfl) rfl #[.pointer (some ⟨g, 0, none⟩), .int .i64 3] rfl y2  ?_; (with_reducible refine (spec_l1Rd_pick.calls kj3 g s0_0 t115 3 t116 t117 w0 _ ?side1 ?side2 A22.out).mono ?_); (case side1 => exact zHI0); (case side2 => exact zHB); rintro e w53 ⟨rfl, hi, hb, hk⟩; refine ⟨_, rfl, ?_⟩; have n0_ := zA (Kd.R_mono (Kd.R_keep (IsS117.apart (show IsS117 w0 _ g s0_0 t115 from zHI0) (zr HO_5.out) (by decide)) hk (fun _ h => h.2)) (fun _ h => h.1)); have n1_ := zA (KeepBut.trans (zHK) hk (.inl rfl)); have n2_ := zA (hb); have n3_ := zA (hi); clear HO_5; clear HK; clear HB; clear HI0; have HO_5 := n0_; have HK := n1_; have HB := n2_; have HI0 := n3_; clear n0_ n1_ n2_ n3_; (try clear hb); (try clear hb2); (try clear hk); (try clear hi)) | ((with_reducible refine gate_dst (N := 39) rfl ?_); refine Kd.R_lit (Kd.int .i64) _ 3 ?hg (N := 39) ?hd (xs := ([(-1), 7, 8] : List Int)) (inner := [.int .i64 (-1), .int .i64 7, .int .i64 8]) (ok := fun _ => True) (okp := fun _ => True) ?hr ?hp (fun _ hk => hk) trivial (Below.refl _ _) (Nat.le_refl _) (by simp) ?_; (case hd => rfl); (case hg => rfl); (case hr => first | (go_simp; done) | (go_simp; rfl)); (case hp => exact (Reps.one (show Kd.M (Kd.int .i64) _ _ _ (-1) [.int .i64 (-1)] from rfl) (Reps.one (show Kd.M (Kd.int .i64) _ _ _ 7 [.int .i64 7] from rfl) (Reps.one (show Kd.M (Kd.int .i64) _ _ _ 8 [.int .i64 8] from rfl) (Reps.none _ _))))); intro v129 w54 ho55 hb hg_ hnew_; clear hg_ hnew_; (first | rw [← Ny128.out] at ho55 | (simp only [Int.reduceToNat] at ho55; rw [← Ny128.out] at ho55)); have n0_ := zA (Kd.R_below (zr HO_5.out) hb); have n1_ := zA (Kd.R_lower ho55 (keep_size (w := w) (g := g) (row := none) (zHK))); have n2_ := zA (IsS117.below (zHI0) hb); have n3_ := zA (KeepBut.trans (zHK) (KeepBut.of_below hb g none) (.inl rfl)); have n4_ := zA (below_step (zHB) hb); clear HO_5; clear HI0; clear HK; clear HB; have HO_5 := n0_; have HO130 := n1_; have HI0 := n2_; have HK := n3_; have HB := n4_; clear n0_ n1_ n2_ n3_ n4_; clear hb ho55) | ((with_reducible refine gate_callee (f := 81) rfl ?_); refine goesL_ (some 41) rfl rfl Try.func81 (by kernel_rfl) rfl #[.pointer (some ⟨g, 0, none⟩), .int .i64 3] rfl y2  ?_; (with_reducible refine (spec_l1Rd_pick.calls kj3 g s0_0 t117 3 t131 t132 w0 _ ?side1 ?side2 A45.out).mono ?_); (case side1 => exact zHI0); (case side2 => exact zHB); rintro e w56 ⟨rfl, hi, hb, hk⟩; refine ⟨_, rfl, ?_⟩; have n0_ := zA (Kd.R_mono (Kd.R_keep (IsS117.apart (show IsS117 w0 _ g s0_0 t117 from zHI0) (zr HO_5.out) (by decide)) hk (fun _ h => h.2)) (fun _ h => h.1)); have n1_ := zA (Kd.R_mono (Kd.R_keep (IsS117.apart (show IsS117 w0 _ g s0_0 t117 from zHI0) (zr HO130.out) (by decide)) hk (fun _ h => h.2)) (fun _ h => h.1)); have n2_ := zA (KeepBut.trans (zHK) hk (.inl rfl)); have n3_ := zA (hb); have n4_ := zA (hi); clear HO_5; clear HO130; clear HK; clear HB; clear HI0; have HO_5 := n0_; have HO130 := n1_; have HK := n2_; have HB := n3_; have HI0 := n4_; clear n0_ n1_ n2_ n3_ n4_; (try clear hb); (try clear hb2); (try clear hk); (try clear hi); obtain ⟨Ao57, co57, eo57⟩ := Kd.R_slice HO130.out; subst eo57; have p133 : 0 ≤ (t131 : Int) := of_decide_eq_true y3 ; have q133 : t131 < (y128.length : Int) := of_decide_eq_true y3 ; obtain ⟨ad133, e133, hx133_0⟩ := Kd.at_int (Kd.R_reads' HO130.out).2.2 t131 p133 q133; cases e133; replace p133 := eq_true p133; replace q133 := eq_true q133; have p50 : 0 ≤ (t114 : Int) := of_decide_eq_true y3 ; have q50 : (t114 : Int) < ((y104.length : Int) : Int) := of_decide_eq_true y3 ; obtain ⟨go50, co50, eo50, gb50, gl50, cl50, HG50⟩ := Kd.R_form HO_5.out (by omega); (first | cases eo50 | (injection eo50 with ea_ en_ ec_; (first | subst ea_ | (injection ea_ with ea_; subst ea_)); subst ec_; clear en_)); have GB50 := zA gb50; have GG50 := zA HG50; clear gb50 gl50 HG50; obtain ⟨ce50, hcl50, hM50, hcc50, hfr50⟩ := Kd.R_elem HO_5.out z54 (t114 : Int) p50 q50; obtain rfl := k54_openM hM50; have hx50_0 : w56.cell? ⟨go50, (t114 : Int).toNat * 6, none⟩ = some (.bool ((rd_T54 y104 t114).f0)) := hcc50 0 _ rfl; have hx50_1 : w56.cell? ⟨go50, (t114 : Int).toNat * 6 + 1, none⟩ = some (.int .i64 ((rd_T54 y104 t114).f1.f0)) := hcc50 1 _ rfl; have hx50_2 : w56.cell? ⟨go50, (t114 : Int).toNat * 6 + 2, none⟩ = some (.int .i64 ((rd_T54 y104 t114).f1.f1)) := hcc50 2 _ rfl; have hx50_3 : w56.cell? ⟨go50, (t114 : Int).toNat * 6 + 3, none⟩ = some (.int .i64 ((rd_T54 y104 t114).f2.f0)) := hcc50 3 _ rfl; have hx50_4 : w56.cell? ⟨go50, (t114 : Int).toNat * 6 + 4, none⟩ = some (.int .i64 ((rd_T54 y104 t114).f2.f1)) := hcc50 4 _ rfl; have hx50_5 : w56.cell? ⟨go50, (t114 : Int).toNat * 6 + 5, none⟩ = some (.int .i64 ((rd_T54 y104 t114).f3)) := hcc50 5 _ rfl; have hf50_0 : w56.frozen? ⟨go50, (t114 : Int).toNat * 6, none⟩ = false := hfr50 0; have hf50_1 : w56.frozen? ⟨go50, (t114 : Int).toNat * 6 + 1, none⟩ = false := hfr50 1; have hf50_2 : w56.frozen? ⟨go50, (t114 : Int).toNat * 6 + 2, none⟩ = false := hfr50 2; have hf50_3 : w56.frozen? ⟨go50, (t114 : Int).toNat * 6 + 3, none⟩ = false := hfr50 3; have hf50_4 : w56.frozen? ⟨go50, (t114 : Int).toNat * 6 + 4, none⟩ = false := hfr50 4; have hf50_5 : w56.frozen? ⟨go50, (t114 : Int).toNat * 6 + 5, none⟩ = false := hfr50 5; clear hcl50 hcc50 hfr50 hM50; replace p50 := eq_true p50; replace q50 := eq_true q50; have HX58 := zA (show Kd.R k54 54 w56 w.heap.size (fun _ => True) (.slice (some ⟨go50, 0, none⟩) y104.length co51) y104 from (zr HO_5.out)); obtain ⟨ce58, hcl58, hM58, hcc58, hfr58⟩ := Kd.R_elem HX58.out z54 (t114 : Int) (of_decide_eq_true y3 ) y1 ; obtain rfl := k54_openM hM58; have HP58 := Kd.R_seg HX58.out (t114 : Int) (of_decide_eq_true y3 ) y1  (seg := [.int .i64 (rd y128 t131)]) (j := 5) hcl58 hcc58 (show 6 ≤ 6 from by decide) (x' := (⟨(rd_T54 y104 t114).f0, (⟨(rd_T54 y104 t114).f1.f0, (rd_T54 y104 t114).f1.f1⟩ : S26), (⟨(rd_T54 y104 t114).f2.f0, (rd_T54 y104 t114).f2.f1⟩ : S26), rd y128 t131⟩ : S54)) (k54_mkM _ _ _ (⟨(rd_T54 y104 t114).f0, (⟨(rd_T54 y104 t114).f1.f0, (rd_T54 y104 t114).f1.f1⟩ : S26), (⟨(rd_T54 y104 t114).f2.f0, (rd_T54 y104 t114).f2.f1⟩ : S26), rd y128 t131⟩ : S54) ) (fun _ hk => hk); have hx58_5 := hcc58 5 _ rfl; (try simp only [show (k54).sz = 6 from rfl, Nat.mul_one, Nat.add_zero] at hx58_5); have hf58_5 := hfr58 5; (try simp only [show (k54).sz = 6 from rfl, Nat.mul_one, Nat.add_zero] at hf58_5); clear hcl58 hcc58 hfr58 hM58) | ((with_reducible refine gate_store (t := 3) (p := 45) rfl ?_); refine store_event (t := 3) (p := 45) (v := ?vo_w59) (w1 := (w56.setCell ⟨go50, (t114 : Int).toNat * 6 + 5, none⟩ (.int .i64 (rd y128 t131)))) ?hg ?ho ?hn ?hr ?_; (case ho => rfl); (case hg => rfl); (case hn => rfl); (case hr => first | (go_simp; done) | (go_simp; rfl)); intro w59 hw; have hg : w56.grownBy w59 (some go50) := (by rw [hw]; exact HP58.2); have hp_ : Kd.R k54 54 w59 w.heap.size (fun _ => True) (.slice (some ⟨go50, 0, none⟩) y104.length co51) y134 := (by rw [hw, Ny134.out]; exact HP58.1); clear HP58; have n0_ := zA (hp_); have n1_ := zA (IsS117.grown (zHI0) hg (IsS117.own_ne HI0.out HO_5.out (by decide))); have n2_ := zA (Kd.R_over' (v := (.slice (some ⟨go50, 0, none⟩) y104.length co51)) (zr HO130.out) (Kd.R_typed HO_5.out) (by decide) hg); have n3_ := zA ((by rw [hw]; exact below_set (HB.out) (Nat.le_trans HL.out GB50.out) : Below w0.heap.size w0 w59)); have n4_ := zA (KeepBut.trans (zHK) (KeepBut.of_grown hg g) (Kd.R_base2 HO_5.out)); clear HO_5; clear HI0; clear HO130; clear HB; clear HK; have HO_5 := n0_; have HI0 := n1_; have HO130 := n2_; have HB := n3_; have HK := n4_; clear n0_ n1_ n2_ n3_ n4_; clear hg hw hp_))
       go_ret
       exact ⟨_, by first | rfl | (simp [errW_none, errW_some] <;> rfl) | (simp [*, errW_none, errW_some] <;> rfl), by refine zk ?_; exact HO_5.out, zHI0, zHB, zHK⟩
      rw [if_neg c49] at H
      exact absurd H (by simp)
     rw [if_neg c48] at H
     exact absurd H (by simp)
    rw [if_neg c47] at H
    exact absurd H (by simp)
   rw [if_neg c46] at H
   exact absurd H (by simp)
 rw [if_neg c3] at H
 exact absurd H (by simp)
end Go.Proofs.Ytnakanjhdcakhaa.Q
namespace Go.Proofs.Ytnakanjhdcakhaa.Q
open Go.RowKit Go.Proofs.YtnakanjhdcakhaaW.PrintWords Go.Proofs.YtnakanjhdcakhaaW.PrintLast Go.Proofs.YtnakanjhdcakhaaW.PrintMore
attribute [local go_sem] max2_int min2_int max_two min_two max_three min_three max_four min_four   -- for this text's walks alone
set_option linter.unusedVariables false
set_option linter.unusedSimpArgs false
def spec_l5AnyRules.f (k : Nat) (s0_0 : List Int) (s0_1 : Int) : Option ((List (S54)) × Int) := (spec_l5Rules.f k s0_0 s0_1).bind fun bt101 => ((spec_l1Rd_pick.f k s0_0 bt101.2 24).bind fun bt105 => (if bt105.1 = 0 then ((spec_l5SpoilRules.f k s0_0 bt105.2 bt101.1).bind fun bt107 => (some (bt107.1, bt107.2))) else (some (bt101.1, bt105.2))))
set_option maxHeartbeats 8000000 in
set_option maxRecDepth 100000 in
theorem spec_l5AnyRules.calls (k : Nat) (g : Nat) (s0_0 : List Int) (s0_1 : Int) (r1 : List (S54)) (r2 : Int) (w0 w : World) (hI : IsS117 w0 w g s0_0 s0_1) (hB : Below w0.heap.size w0 w) (h : spec_l5AnyRules.f k s0_0 s0_1 = some (r1, r2)) :
    Calls Try.prog 80 #[.pointer (some ⟨g, 0, none⟩)] w fun e w' => ∃ v0_ : Value, e = .returned (v0_) ∧ Kd.R k54 54 w' w.heap.size (fun _ => True) v0_ r1 ∧ IsS117 w0 w' g s0_0 r2 ∧ Below w0.heap.size w0 w' ∧ KeepBut w w' g none := by
  have HI0 := Aside0.mk hI
  have HK := Aside0.mk (KeepBut.refl w g none)
  have HL := Aside0.mk hB.size
  clear hI
  have HW0 := Aside0.mk hB.size
  have HB := Aside0.mk hB
  clear hB
  have H : ((spec_l5Rules.f k s0_0 s0_1).bind fun bt101 => ((spec_l1Rd_pick.f k s0_0 bt101.2 24).bind fun bt105 => (if bt105.1 = 0 then ((spec_l5SpoilRules.f k s0_0 bt105.2 bt101.1).bind fun bt107 => (some (bt107.1, bt107.2))) else (some (bt101.1, bt105.2))))) = some (r1, r2) := h
  clear h
  replace H := Option.bind_eq_some_iff.mp H
  obtain ⟨⟨t101, t104⟩, A20, H⟩ := H
  replace H : ((spec_l1Rd_pick.f k s0_0 t104 24).bind fun bt105 => (if bt105.1 = 0 then ((spec_l5SpoilRules.f k s0_0 bt105.2 t101).bind fun bt107 => (some (bt107.1, bt107.2))) else (some (t101, bt105.2)))) = some (r1, r2) := H
  have A2 := Aside0.mk A20
  clear A20
  replace H := Option.bind_eq_some_iff.mp H
  obtain ⟨⟨t105, t106⟩, A30, H⟩ := H
  replace H : (if t105 = 0 then ((spec_l5SpoilRules.f k s0_0 t106 t101).bind fun bt107 => (some (bt107.1, bt107.2))) else (some (t101, t106))) = some (r1, r2) := H
  have A3 := Aside0.mk A30
  clear A30
  by_cases c4 : t105 = 0
  · rw [if_pos c4] at H
    have c4b0 : (t105 == 0) = true := beq_iff_eq.mpr c4
    have c4b1 : (t105 != 0) = false := bne_eq_false_iff_eq.mpr c4
    clear c4
    replace H := Option.bind_eq_some_iff.mp H
    obtain ⟨⟨t107, t110⟩, A50, H⟩ := H
    replace H : (some (t107, t110)) = some (r1, r2) := H
    have A5 := Aside0.mk A50
    clear A50
    simp only [Option.some.injEq, Prod.mk.injEq] at H
    obtain ⟨rfl, rfl⟩ := H
    go_enter Try.func80, Try.ntmps80
    go_wp2_with (first | ((with_reducible refine gate_callee (f := 110) rfl ?_); refine goesL_ (some 5) rfl rfl Try.func110 (by kernel_rfl) rfl #[.pointer (some ⟨g, 0, none⟩)] rfl (by (try simp only [List.map_toArray, List.map_cons, List.map_nil]); first | done | rfl | (simp only [List.length_drop, List.length_take]; rfl)) ?_; (with_reducible refine (spec_l5Rules.calls k g s0_0 s0_1 t101 t104 w0 _ ?side1 ?side2 A2.out).mono ?_); (case side1 => repeat (first | (with_reducible first | exact HI0.out | apply IsS117.alloc | apply IsS117.drewN | apply IsS117.drew | apply IsS117.set_1) | exact HI0.out)); (case side2 => repeat (first | (with_reducible first | exact HB.out | apply below_alloc | apply pw_below_drewN | apply below_drew1 | refine below_set ?_ (IsS117.ge HI0.out)) | exact HB.out)); rintro e w6 ⟨v102, rfl, ho0, hi, hb, hk⟩; refine ⟨_, rfl, ?_⟩; have n0_ := Aside0.mk (Kd.R_lower ho0 (keep_size (w := w) (g := g) (row := none) (by repeat (first | (with_reducible first | exact HK.out | apply KeepBut.set_ | apply keep_drewN | apply keep_drew | apply keep_alloc) | exact HK.out)))); have n1_ := Aside0.mk (KeepBut.trans (by repeat (first | (with_reducible first | exact HK.out | apply KeepBut.set_ | apply keep_drewN | apply keep_drew | apply keep_alloc) | exact HK.out)) hk (.inl rfl)); have n2_ := Aside0.mk (hb); have n3_ := Aside0.mk (hi); clear HK; clear HB; clear HI0; have HO103 := n0_; have HK := n1_; have HB := n2_; have HI0 := n3_; clear n0_ n1_ n2_ n3_; (try clear hb); (try clear hb2); (try clear hk); (try clear hi); (try clear ho0)) | ((with_reducible refine gate_callee (f := 81) rfl ?_); refine goesL_ (some 7) rfl rfl Try.func81 (by kernel_rfl) rfl #[.pointer (some ⟨g, 0, none⟩), .int .i64 24] rfl (by (try simp only [List.map_toArray, List.map_cons, List.map_nil]); first | done | rfl | (simp only [List.length_drop, List.length_take]; rfl)) ?_; (with_reducible refine (spec_l1Rd_pick.calls k g s0_0 t104 24 t105 t106 w0 _ ?side1 ?side2 A3.out).mono ?_); (case side1 => repeat (first | (with_reducible first | exact HI0.out | apply IsS117.alloc | apply IsS117.drewN | apply IsS117.drew | apply IsS117.set_1) | exact HI0.out)); (case side2 => repeat (first | (with_reducible first | exact HB.out | apply below_alloc | apply pw_below_drewN | apply below_drew1 | refine below_set ?_ (IsS117.ge HI0.out)) | exact HB.out)); rintro e w7 ⟨rfl, hi, hb, hk⟩; refine ⟨_, rfl, ?_⟩; have n0_ := Aside0.mk (Kd.R_mono (Kd.R_keep (IsS117.apart (show IsS117 w0 _ g s0_0 t104 from by repeat (first | (with_reducible first | exact HI0.out | apply IsS117.alloc | apply IsS117.drewN | apply IsS117.drew | apply IsS117.set_1) | exact HI0.out)) (by (with_reducible repeat (first | apply Kd.R_alloc | apply Kd.R_drewN | apply Kd.R_drew)); exact HO103.out) (by decide)) hk (fun _ h => h.2)) (fun _ h => h.1)); have n1_ := Aside0.mk (KeepBut.trans (by repeat (first | (with_reducible first | exact HK.out | apply KeepBut.set_ | apply keep_drewN | apply keep_drew | apply keep_alloc) | exact HK.out)) hk (.inl rfl)); have n2_ := Aside0.mk (hb); have n3_ := Aside0.mk (hi); clear HO103; clear HK; clear HB; clear HI0; have HO103 := n0_; have HK := n1_; have HB := n2_; have HI0 := n3_; clear n0_ n1_ n2_ n3_; (try clear hb); (try clear hb2); (try clear hk); (try clear hi); obtain ⟨Ao8, co8, eo8⟩ := Kd.R_slice HO103.out; subst eo8) | ((with_reducible refine gate_callee (f := 111) rfl ?_); refine goesL_ (some 11) rfl rfl Try.func111 (by kernel_rfl) rfl #[.pointer (some ⟨g, 0, none⟩), .slice Ao8 t101.length co8] rfl (by (try simp only [List.map_toArray, List.map_cons, List.map_nil]); first | done | rfl | (simp only [List.length_drop, List.length_take]; rfl)) ?_; (with_reducible refine (spec_l5SpoilRules.calls k g s0_0 t106 _ _ t101 t107 t110 w0 _ ?side1 ?side2 ?side3 ?side4 A5.out).mono ?_); (case side1 => repeat (first | (with_reducible first | exact HI0.out | apply IsS117.alloc | apply IsS117.drewN | apply IsS117.drew | apply IsS117.set_1) | exact HI0.out)); (case side2 => repeat (first | (with_reducible first | exact HB.out | apply below_alloc | apply pw_below_drewN | apply below_drew1 | refine below_set ?_ (IsS117.ge HI0.out)) | exact HB.out)); (case side3 => exact Kd.C_foot_own (IsS117.apart (show IsS117 w0 _ g s0_0 t106 from by repeat (first | (with_reducible first | exact HI0.out | apply IsS117.alloc | apply IsS117.drewN | apply IsS117.drew | apply IsS117.set_1) | exact HI0.out)) (by (with_reducible repeat (first | apply Kd.R_alloc | apply Kd.R_drewN | apply Kd.R_drew)); exact HO103.out) (by decide)) (fun _ h_ => h_.2)); (case side4 => exact (Kd.R_reads' HO103.out).2.1); rintro e w9 ⟨v108, rfl, ho0, hi, hb, hk⟩; refine ⟨_, rfl, ?_⟩; have n0_ := Aside0.mk (Kd.R_mono (Kd.R_told (Kd.R_oldK (IsS117.apart (show IsS117 w0 _ g s0_0 t106 from by repeat (first | (with_reducible first | exact HI0.out | apply IsS117.alloc | apply IsS117.drewN | apply IsS117.drew | apply IsS117.set_1) | exact HI0.out)) (by (with_reducible repeat (first | apply Kd.R_alloc | apply Kd.R_drewN | apply Kd.R_drew)); exact HO103.out) (by decide)) hk) (Kd.R_base ho0)) (fun _ h_ => h_.1)); have n1_ := Aside0.mk (Kd.R_lower (Kd.R_new' ho0 (Kd.R_lt (by (with_reducible repeat (first | apply Kd.R_alloc | apply Kd.R_drewN | apply Kd.R_drew)); exact HO103.out))) (keep_size (w := w) (g := g) (row := none) (by repeat (first | (with_reducible first | exact HK.out | apply KeepBut.set_ | apply keep_drewN | apply keep_drew | apply keep_alloc) | exact HK.out)))); have n2_ := Aside0.mk (KeepBut.trans (by repeat (first | (with_reducible first | exact HK.out | apply KeepBut.set_ | apply keep_drewN | apply keep_drew | apply keep_alloc) | exact HK.out)) hk (.inl rfl)); have n3_ := Aside0.mk (hb); have n4_ := Aside0.mk (hi); clear HO103; clear HK; clear HB; clear HI0; have HO103 := n0_; have HO109 := n1_; have HK := n2_; have HB := n3_; have HI0 := n4_; clear n0_ n1_ n2_ n3_ n4_; (try clear hb); (try clear hb2); (try clear hk); (try clear hi); (try clear ho0)))
    go_ret
    exact ⟨_, by first | rfl | (simp [errW_none, errW_some] <;> rfl) | (simp [*, errW_none, errW_some] <;> rfl), by (with_reducible repeat (first | apply Kd.R_alloc | apply Kd.R_drewN | apply Kd.R_drew)); exact Kd.R_mono HO109.out (fun _ hk => trivial), by repeat (first | (with_reducible first | exact HI0.out | apply IsS117.alloc | apply IsS117.drewN | apply IsS117.drew | apply IsS117.set_1) | exact HI0.out), by repeat (first | (with_reducible first | exact HB.out | apply below_alloc | apply pw_below_drewN | apply below_drew1 | refine below_set ?_ (IsS117.ge HI0.out)) | exact HB.out), by repeat (first | (with_reducible first | exact HK.out | apply KeepBut.set_ | apply keep_drewN | apply keep_drew | apply keep_alloc) | exact HK.out)⟩
  · rw [if_neg c4] at H
    have c4b0 : (t105 == 0) = false := beq_eq_false_iff_ne.mpr c4
    have c4b1 : (t105 != 0) = true := bne_iff_ne.mpr c4
    simp only [Option.some.injEq, Prod.mk.injEq] at H
    obtain ⟨rfl, rfl⟩ := H
    go_enter Try.func80, Try.ntmps80
    go_wp2_with (first | ((with_reducible refine gate_callee (f := 110) rfl ?_); refine goesL_ (some 5) rfl rfl Try.func110 (by kernel_rfl) rfl #[.pointer (some ⟨g, 0, none⟩)] rfl (by (try simp only [List.map_toArray, List.map_cons, List.map_nil]); first | done | rfl | (simp only [List.length_drop, List.length_take]; rfl)) ?_; (with_reducible refine (spec_l5Rules.calls k g s0_0 s0_1 t101 t104 w0 _ ?side1 ?side2 A2.out).mono ?_); (case side1 => repeat (first | (with_reducible first | exact HI0.out | apply IsS117.alloc | apply IsS117.drewN | apply IsS117.drew | apply IsS117.set_1) | exact HI0.out)); (case side2 => repeat (first | (with_reducible first | exact HB.out | apply below_alloc | apply pw_below_drewN | apply below_drew1 | refine below_set ?_ (IsS117.ge HI0.out)) | exact HB.out)); rintro e w10 ⟨v102, rfl, ho0, hi, hb, hk⟩; refine ⟨_, rfl, ?_⟩; have n0_ := Aside0.mk (Kd.R_lower ho0 (keep_size (w := w) (g := g) (row := none) (by repeat (first | (with_reducible first | exact HK.out | apply KeepBut.set_ | apply keep_drewN | apply keep_drew | apply keep_alloc) | exact HK.out)))); have n1_ := Aside0.mk (KeepBut.trans (by repeat (first | (with_reducible first | exact HK.out | apply KeepBut.set_ | apply keep_drewN | apply keep_drew | apply keep_alloc) | exact HK.out)) hk (.inl rfl)); have n2_ := Aside0.mk (hb); have n3_ := Aside0.mk (hi); clear HK; clear HB; clear HI0; have HO103 := n0_; have HK := n1_; have HB := n2_; have HI0 := n3_; clear n0_ n1_ n2_ n3_; (try clear hb); (try clear hb2); (try clear hk); (try clear hi); (try clear ho0)) | ((with_reducible refine gate_callee (f := 81) rfl ?_); refine goesL_ (some 7) rfl rfl Try.func81 (by kernel_rfl) rfl #[.pointer (some ⟨g, 0, none⟩), .int .i64 24] rfl (by (try simp only [List.map_toArray, List.map_cons, List.map_nil]); first | done | rfl | (simp only [List.length_drop, List.length_take]; rfl)) ?_; (with_reducible refine (spec_l1Rd_pick.calls k g s0_0 t104 24 t105 t106 w0 _ ?side1 ?side2 A3.out).mono ?_); (case side1 => repeat (first | (with_reducible first | exact HI0.out | apply IsS117.alloc | apply IsS117.drewN | apply IsS117.drew | apply IsS117.set_1) | exact HI0.out)); (case side2 => repeat (first | (with_reducible first | exact HB.out | apply below_alloc | apply pw_below_drewN | apply below_drew1 | refine below_set ?_ (IsS117.ge HI0.out)) | exact HB.out)); rintro e w11 ⟨rfl, hi, hb, hk⟩; refine ⟨_, rfl, ?_⟩; have n0_ := Aside0.mk (Kd.R_mono (Kd.R_keep (IsS117.apart (show IsS117 w0 _ g s0_0 t104 from by repeat (first | (with_reducible first | exact HI0.out | apply IsS117.alloc | apply IsS117.drewN | apply IsS117.drew | apply IsS117.set_1) | exact HI0.out)) (by (with_reducible repeat (first | apply Kd.R_alloc | apply Kd.R_drewN | apply Kd.R_drew)); exact HO103.out) (by decide)) hk (fun _ h => h.2)) (fun _ h => h.1)); have n1_ := Aside0.mk (KeepBut.trans (by repeat (first | (with_reducible first | exact HK.out | apply KeepBut.set_ | apply keep_drewN | apply keep_drew | apply keep_alloc) | exact HK.out)) hk (.inl rfl)); have n2_ := Aside0.mk (hb); have n3_ := Aside0.mk (hi); clear HO103; clear HK; clear HB; clear HI0; have HO103 := n0_; have HK := n1_; have HB := n2_; have HI0 := n3_; clear n0_ n1_ n2_ n3_; (try clear hb); (try clear hb2); (try clear hk); (try clear hi)))
    go_ret
    exact ⟨_, by first | rfl | (simp [errW_none, errW_some] <;> rfl) | (simp [*, errW_none, errW_some] <;> rfl), by (with_reducible repeat (first | apply Kd.R_alloc | apply Kd.R_drewN | apply Kd.R_drew)); exact HO103.out, by repeat (first | (with_reducible first | exact HI0.out | apply IsS117.alloc | apply IsS117.drewN | apply IsS117.drew | apply IsS117.set_1) | exact HI0.out), by repeat (first | (with_reducible first | exact HB.out | apply below_alloc | apply pw_below_drewN | apply below_drew1 | refine below_set ?_ (IsS117.ge HI0.out)) | exact HB.out), by repeat (first | (with_reducible first | exact HK.out | apply KeepBut.set_ | apply keep_drewN | apply keep_drew | apply keep_alloc) | exact HK.out)⟩
end Go.Proofs.Ytnakanjhdcakhaa.Q
namespace Go.Proofs.Ytnakanjhdcakhaa.Q
open Go.RowKit Go.Proofs.YtnakanjhdcakhaaW.PrintWords Go.Proofs.YtnakanjhdcakhaaW.PrintLast Go.Proofs.YtnakanjhdcakhaaW.PrintMore
attribute [local go_sem] max2_int min2_int max_two min_two max_three min_three max_four min_four   -- for this text's walks alone
set_option linter.unusedVariables false
set_option linter.unusedSimpArgs false
def spec_l1In.f (a0 : Int) (a1 : Int) (a2 : Int) : Option (Bool) := if a0 ≥ a1 then (some (decide (a0 ≤ a2))) else (some false)
set_option maxHeartbeats 8000000 in
set_option maxRecDepth 100000 in
theorem spec_l1In.calls (a0 : Int) (a1 : Int) (a2 : Int) (r : Bool) (w : World) (h : spec_l1In.f a0 a1 a2 = some r) :
    Calls Try.prog 75 #[.int .i64 a0, .int .i64 a1, .int .i64 a2] w fun e w' => e = .returned (.bool r) ∧ Drawn0 w w' := by
  have H : (if a0 ≥ a1 then (some (decide (a0 ≤ a2))) else (some false)) = some r := h
  clear h
  by_cases c4 : a0 ≥ a1
  · rw [if_pos c4] at H
    have c4b0 : decide (a1 ≤ a0) = true := decide_eq_true c4
    clear c4
    obtain rfl := Option.some.inj H
    go_enter Try.func75, Try.ntmps75
    go_wp2
    go_ret
    exact ⟨by first | rfl | (simp; done) | (simp [*]; done), by repeat (first | exact Drawn0.refl _ | apply Drawn0.step)⟩
  · rw [if_neg c4] at H
    have c4b0 : decide (a1 ≤ a0) = false := decide_eq_false c4
    clear c4
    obtain rfl := Option.some.inj H
    go_enter Try.func75, Try.ntmps75
    go_wp2
    go_ret
    exact ⟨by first | rfl | (simp; done) | (simp [*]; done), by repeat (first | exact Drawn0.refl _ | apply Drawn0.step)⟩
end Go.Proofs.Ytnakanjhdcakhaa.Q
namespace Go.Proofs.Ytnakanjhdcakhaa.Q
open Go.RowKit Go.Proofs.YtnakanjhdcakhaaW.PrintWords Go.Proofs.YtnakanjhdcakhaaW.PrintLast Go.Proofs.YtnakanjhdcakhaaW.PrintMore
attribute [local go_sem] max2_int min2_int max_two min_two max_three min_three max_four min_four   -- for this text's walks alone
set_option linter.unusedVariables false
set_option linter.unusedSimpArgs false
def spec_NetOk.f (k : Nat) (a0_0 : Int) (a0_1 : Int) : Option (Bool) := (spec_l1In.f a0_1 0 16).bind fun t102 => (if t102 = true then ((spec_l1In.f a0_0 0 65535).bind fun t103 => (if t103 = true then ((spec_l1Size.f k a0_1).bind fun t104 => (if t104 = 0 then (none) else (some ((Int.tmod a0_0 t104) == 0)))) else (some false))) else (some false))
set_option maxHeartbeats 8000000 in
set_option maxRecDepth 100000 in
theorem spec_NetOk.calls (k : Nat) (a0_0 : Int) (a0_1 : Int) (r : Bool) (w : World) (h : spec_NetOk.f k a0_0 a0_1 = some r) :
    Calls Try.prog 24 #[.agg #[.int .i64 a0_0, .int .i64 a0_1]] w fun e w' => e = .returned (.bool r) ∧ Below w.heap.size w w' := by
  have hu26 := Try.underlying26
  have HB := Aside0.mk (Below.refl w.heap.size w)
  have H : ((spec_l1In.f a0_1 0 16).bind fun t102 => (if t102 = true then ((spec_l1In.f a0_0 0 65535).bind fun t103 => (if t103 = true then ((spec_l1Size.f k a0_1).bind fun t104 => (if t104 = 0 then (none) else (some ((Int.tmod a0_0 t104) == 0)))) else (some false))) else (some false))) = some r := h
  clear h
  replace H := Option.bind_eq_some_iff.mp H
  obtain ⟨t102, A20, H⟩ := H
  replace H : (if t102 = true then ((spec_l1In.f a0_0 0 65535).bind fun t103 => (if t103 = true then ((spec_l1Size.f k a0_1).bind fun t104 => (if t104 = 0 then (none) else (some ((Int.tmod a0_0 t104) == 0)))) else (some false))) else (some false)) = some r := H
  have A2 := Aside0.mk A20
  clear A20
  by_cases c3 : t102 = true
  · subst c3
    have H1 : ((spec_l1In.f a0_0 0 65535).bind fun t103 => (if t103 = true then ((spec_l1Size.f k a0_1).bind fun t104 => (if t104 = 0 then (none) else (some ((Int.tmod a0_0 t104) == 0)))) else (some false))) = some r := by rw [if_pos rfl] at H; exact H
    clear H
    have H := H1
    clear H1
    replace H := Option.bind_eq_some_iff.mp H
    obtain ⟨t103, A40, H⟩ := H
    replace H : (if t103 = true then ((spec_l1Size.f k a0_1).bind fun t104 => (if t104 = 0 then (none) else (some ((Int.tmod a0_0 t104) == 0)))) else (some false)) = some r := H
    have A4 := Aside0.mk A40
    clear A40
    by_cases c5 : t103 = true
    · subst c5
      have H1 : ((spec_l1Size.f k a0_1).bind fun t104 => (if t104 = 0 then (none) else (some ((Int.tmod a0_0 t104) == 0)))) = some r := by rw [if_pos rfl] at H; exact H
      clear H
      have H := H1
      clear H1
      replace H := Option.bind_eq_some_iff.mp H
      obtain ⟨t104, A60, H⟩ := H
      replace H : (if t104 = 0 then (none) else (some ((Int.tmod a0_0 t104) == 0))) = some r := H
      have A6 := Aside0.mk A60
      clear A60
      by_cases c7 : t104 = 0
      · rw [if_pos c7] at H
        exact absurd H (by simp)
      · rw [if_neg c7] at H
        have c7b0 : (t104 == 0) = false := beq_eq_false_iff_ne.mpr c7
        have c7b1 : (t104 != 0) = true := bne_iff_ne.mpr c7
        obtain rfl := Option.some.inj H
        go_enter Try.func24, Try.ntmps24
        go_wp2_with (first | ((with_reducible refine gate_dst (N := 1) rfl ?_); refine box_event ?hg (N := 1) ?hd (cs := #[.int .i64 a0_0, .int .i64 a0_1]) (t := 26) ?hr ?_; (case hd => rfl); (case hg => rfl); (case hr => first | (go_simp; done) | (go_simp; rfl)); intro gb101 hg w8 hbox hb; have n0_ := Aside0.mk (below_step (by repeat (first | (with_reducible first | exact HB.out | apply below_alloc | apply pw_below_drewN | apply below_drew1) | exact HB.out)) hb); have n1_ := Aside0.mk (hbox); have n2_ := Aside0.mk ((by rw [hg]; exact (below_size (by repeat (first | (with_reducible first | exact HB.out | apply below_alloc | apply pw_below_drewN | apply below_drew1) | exact HB.out))) : w.heap.size ≤ gb101)); have n3_ := Aside0.mk ((by rw [hg]; exact (below_size (by repeat (first | (with_reducible first | exact HB.out | apply below_alloc | apply pw_below_drewN | apply below_drew1) | exact HB.out))) : w.heap.size ≤ gb101)); clear HB; have HB := n0_; have BK101 := n1_; have GW101 := n2_; have GE101 := n3_; clear n0_ n1_ n2_ n3_; clear hb hbox hg; have hcz9_0 : w8.cell? ⟨gb101, 0, none⟩ = some (.int .i64 a0_0) := (blk_cell BK101.out 0).trans rfl; have hcz9_1 : w8.cell? ⟨gb101, 1, none⟩ = some (.int .i64 a0_1) := (blk_cell BK101.out 1).trans rfl; have hfz9_0 := blk_frozen BK101.out 0; have hfz9_1 := blk_frozen BK101.out 1) | (go_at_call 75; (with_reducible refine (spec_l1In.calls a0_1 0 16 true _ A2.out).mono ?_); rintro e w' ⟨rfl, ⟨nd, rfl⟩⟩; (try first | exact ⟨rfl, _, World.drewN_drewN _ _ _⟩ | exact ⟨rfl, _, Eq.trans (World.drewN_drewN _ _ _) (congrArg (World.drewN _) (Nat.add_assoc _ _ _))⟩)) | (go_at_call 75; (with_reducible refine (spec_l1In.calls a0_0 0 65535 true _ A4.out).mono ?_); rintro e w' ⟨rfl, ⟨nd, rfl⟩⟩; (try first | exact ⟨rfl, _, World.drewN_drewN _ _ _⟩ | exact ⟨rfl, _, Eq.trans (World.drewN_drewN _ _ _) (congrArg (World.drewN _) (Nat.add_assoc _ _ _))⟩)) | (go_at_call 76; (with_reducible refine (spec_l1Size.calls k a0_1 t104 _ A6.out).mono ?_); rintro e w' ⟨rfl, ⟨nd, rfl⟩⟩; (try first | exact ⟨rfl, _, World.drewN_drewN _ _ _⟩ | exact ⟨rfl, _, Eq.trans (World.drewN_drewN _ _ _) (congrArg (World.drewN _) (Nat.add_assoc _ _ _))⟩)))
        repeat (go_quiet (first | ((with_reducible refine gate_dst (N := 1) rfl ?_); refine box_event ?hg (N := 1) ?hd (cs := #[.int .i64 a0_0, .int .i64 a0_1]) (t := 26) ?hr ?_; (case hd => rfl); (case hg => rfl); (case hr => first | (go_simp; done) | (go_simp; rfl)); intro gb101 hg w8 hbox hb; have n0_ := Aside0.mk (below_step (by repeat (first | (with_reducible first | exact HB.out | apply below_alloc | apply pw_below_drewN | apply below_drew1) | exact HB.out)) hb); have n1_ := Aside0.mk (hbox); have n2_ := Aside0.mk ((by rw [hg]; exact (below_size (by repeat (first | (with_reducible first | exact HB.out | apply below_alloc | apply pw_below_drewN | apply below_drew1) | exact HB.out))) : w.heap.size ≤ gb101)); have n3_ := Aside0.mk ((by rw [hg]; exact (below_size (by repeat (first | (with_reducible first | exact HB.out | apply below_alloc | apply pw_below_drewN | apply below_drew1) | exact HB.out))) : w.heap.size ≤ gb101)); clear HB; have HB := n0_; have BK101 := n1_; have GW101 := n2_; have GE101 := n3_; clear n0_ n1_ n2_ n3_; clear hb hbox hg; have hcz9_0 : w8.cell? ⟨gb101, 0, none⟩ = some (.int .i64 a0_0) := (blk_cell BK101.out 0).trans rfl; have hcz9_1 : w8.cell? ⟨gb101, 1, none⟩ = some (.int .i64 a0_1) := (blk_cell BK101.out 1).trans rfl; have hfz9_0 := blk_frozen BK101.out 0; have hfz9_1 := blk_frozen BK101.out 1) | (go_at_call 75; (with_reducible refine (spec_l1In.calls a0_1 0 16 true _ A2.out).mono ?_); rintro e w' ⟨rfl, ⟨nd, rfl⟩⟩; (try first | exact ⟨rfl, _, World.drewN_drewN _ _ _⟩ | exact ⟨rfl, _, Eq.trans (World.drewN_drewN _ _ _) (congrArg (World.drewN _) (Nat.add_assoc _ _ _))⟩)) | (go_at_call 75; (with_reducible refine (spec_l1In.calls a0_0 0 65535 true _ A4.out).mono ?_); rintro e w' ⟨rfl, ⟨nd, rfl⟩⟩; (try first | exact ⟨rfl, _, World.drewN_drewN _ _ _⟩ | exact ⟨rfl, _, Eq.trans (World.drewN_drewN _ _ _) (congrArg (World.drewN _) (Nat.add_assoc _ _ _))⟩)) | (go_at_call 76; (with_reducible refine (spec_l1Size.calls k a0_1 t104 _ A6.out).mono ?_); rintro e w' ⟨rfl, ⟨nd, rfl⟩⟩; (try first | exact ⟨rfl, _, World.drewN_drewN _ _ _⟩ | exact ⟨rfl, _, Eq.trans (World.drewN_drewN _ _ _) (congrArg (World.drewN _) (Nat.add_assoc _ _ _))⟩))); try go_wp2_with (first | ((with_reducible refine gate_dst (N := 1) rfl ?_); refine box_event ?hg (N := 1) ?hd (cs := #[.int .i64 a0_0, .int .i64 a0_1]) (t := 26) ?hr ?_; (case hd => rfl); (case hg => rfl); (case hr => first | (go_simp; done) | (go_simp; rfl)); intro gb101 hg w8 hbox hb; have n0_ := Aside0.mk (below_step (by repeat (first | (with_reducible first | exact HB.out | apply below_alloc | apply pw_below_drewN | apply below_drew1) | exact HB.out)) hb); have n1_ := Aside0.mk (hbox); have n2_ := Aside0.mk ((by rw [hg]; exact (below_size (by repeat (first | (with_reducible first | exact HB.out | apply below_alloc | apply pw_below_drewN | apply below_drew1) | exact HB.out))) : w.heap.size ≤ gb101)); have n3_ := Aside0.mk ((by rw [hg]; exact (below_size (by repeat (first | (with_reducible first | exact HB.out | apply below_alloc | apply pw_below_drewN | apply below_drew1) | exact HB.out))) : w.heap.size ≤ gb101)); clear HB; have HB := n0_; have BK101 := n1_; have GW101 := n2_; have GE101 := n3_; clear n0_ n1_ n2_ n3_; clear hb hbox hg; have hcz9_0 : w8.cell? ⟨gb101, 0, none⟩ = some (.int .i64 a0_0) := (blk_cell BK101.out 0).trans rfl; have hcz9_1 : w8.cell? ⟨gb101, 1, none⟩ = some (.int .i64 a0_1) := (blk_cell BK101.out 1).trans rfl; have hfz9_0 := blk_frozen BK101.out 0; have hfz9_1 := blk_frozen BK101.out 1) | (go_at_call 75; (with_reducible refine (spec_l1In.calls a0_1 0 16 true _ A2.out).mono ?_); rintro e w' ⟨rfl, ⟨nd, rfl⟩⟩; (try first | exact ⟨rfl, _, World.drewN_drewN _ _ _⟩ | exact ⟨rfl, _, Eq.trans (World.drewN_drewN _ _ _) (congrArg (World.drewN _) (Nat.add_assoc _ _ _))⟩)) | (go_at_call 75; (with_reducible refine (spec_l1In.calls a0_0 0 65535 true _ A4.out).mono ?_); rintro e w' ⟨rfl, ⟨nd, rfl⟩⟩; (try first | exact ⟨rfl, _, World.drewN_drewN _ _ _⟩ | exact ⟨rfl, _, Eq.trans (World.drewN_drewN _ _ _) (congrArg (World.drewN _) (Nat.add_assoc _ _ _))⟩)) | (go_at_call 76; (with_reducible refine (spec_l1Size.calls k a0_1 t104 _ A6.out).mono ?_); rintro e w' ⟨rfl, ⟨nd, rfl⟩⟩; (try first | exact ⟨rfl, _, World.drewN_drewN _ _ _⟩ | exact ⟨rfl, _, Eq.trans (World.drewN_drewN _ _ _) (congrArg (World.drewN _) (Nat.add_assoc _ _ _))⟩))))
        go_ret
        exact ⟨by first | rfl | (simp [errW_none, errW_some] <;> rfl) | (simp [*, errW_none, errW_some] <;> rfl), by repeat (first | (with_reducible first | exact HB.out | apply below_alloc | apply pw_below_drewN | apply below_drew1 | refine below_set ?_ GE101.out) | exact HB.out)⟩
    · replace c5 := Bool.eq_false_iff.mpr c5
      subst c5
      have H1 : (some false) = some r := by rw [if_neg (show ¬ (false = true) by decide)] at H; exact H
      clear H
      have H := H1
      clear H1
      obtain rfl := Option.some.inj H
      go_enter Try.func24, Try.ntmps24
      go_wp2_with (first | ((with_reducible refine gate_dst (N := 1) rfl ?_); refine box_event ?hg (N := 1) ?hd (cs := #[.int .i64 a0_0, .int .i64 a0_1]) (t := 26) ?hr ?_; (case hd => rfl); (case hg => rfl); (case hr => first | (go_simp; done) | (go_simp; rfl)); intro gb101 hg w10 hbox hb; have n0_ := Aside0.mk (below_step (by repeat (first | (with_reducible first | exact HB.out | apply below_alloc | apply pw_below_drewN | apply below_drew1) | exact HB.out)) hb); have n1_ := Aside0.mk (hbox); have n2_ := Aside0.mk ((by rw [hg]; exact (below_size (by repeat (first | (with_reducible first | exact HB.out | apply below_alloc | apply pw_below_drewN | apply below_drew1) | exact HB.out))) : w.heap.size ≤ gb101)); have n3_ := Aside0.mk ((by rw [hg]; exact (below_size (by repeat (first | (with_reducible first | exact HB.out | apply below_alloc | apply pw_below_drewN | apply below_drew1) | exact HB.out))) : w.heap.size ≤ gb101)); clear HB; have HB := n0_; have BK101 := n1_; have GW101 := n2_; have GE101 := n3_; clear n0_ n1_ n2_ n3_; clear hb hbox hg; have hcz11_0 : w10.cell? ⟨gb101, 0, none⟩ = some (.int .i64 a0_0) := (blk_cell BK101.out 0).trans rfl; have hcz11_1 : w10.cell? ⟨gb101, 1, none⟩ = some (.int .i64 a0_1) := (blk_cell BK101.out 1).trans rfl; have hfz11_0 := blk_frozen BK101.out 0; have hfz11_1 := blk_frozen BK101.out 1) | (go_at_call 75; (with_reducible refine (spec_l1In.calls a0_1 0 16 true _ A2.out).mono ?_); rintro e w' ⟨rfl, ⟨nd, rfl⟩⟩; (try first | exact ⟨rfl, _, World.drewN_drewN _ _ _⟩ | exact ⟨rfl, _, Eq.trans (World.drewN_drewN _ _ _) (congrArg (World.drewN _) (Nat.add_assoc _ _ _))⟩)) | (go_at_call 75; (with_reducible refine (spec_l1In.calls a0_0 0 65535 false _ A4.out).mono ?_); rintro e w' ⟨rfl, ⟨nd, rfl⟩⟩; (try first | exact ⟨rfl, _, World.drewN_drewN _ _ _⟩ | exact ⟨rfl, _, Eq.trans (World.drewN_drewN _ _ _) (congrArg (World.drewN _) (Nat.add_assoc _ _ _))⟩)))
      repeat (go_quiet (first | ((with_reducible refine gate_dst (N := 1) rfl ?_); refine box_event ?hg (N := 1) ?hd (cs := #[.int .i64 a0_0, .int .i64 a0_1]) (t := 26) ?hr ?_; (case hd => rfl); (case hg => rfl); (case hr => first | (go_simp; done) | (go_simp; rfl)); intro gb101 hg w10 hbox hb; have n0_ := Aside0.mk (below_step (by repeat (first | (with_reducible first | exact HB.out | apply below_alloc | apply pw_below_drewN | apply below_drew1) | exact HB.out)) hb); have n1_ := Aside0.mk (hbox); have n2_ := Aside0.mk ((by rw [hg]; exact (below_size (by repeat (first | (with_reducible first | exact HB.out | apply below_alloc | apply pw_below_drewN | apply below_drew1) | exact HB.out))) : w.heap.size ≤ gb101)); have n3_ := Aside0.mk ((by rw [hg]; exact (below_size (by repeat (first | (with_reducible first | exact HB.out | apply below_alloc | apply pw_below_drewN | apply below_drew1) | exact HB.out))) : w.heap.size ≤ gb101)); clear HB; have HB := n0_; have BK101 := n1_; have GW101 := n2_; have GE101 := n3_; clear n0_ n1_ n2_ n3_; clear hb hbox hg; have hcz11_0 : w10.cell? ⟨gb101, 0, none⟩ = some (.int .i64 a0_0) := (blk_cell BK101.out 0).trans rfl; have hcz11_1 : w10.cell? ⟨gb101, 1, none⟩ = some (.int .i64 a0_1) := (blk_cell BK101.out 1).trans rfl; have hfz11_0 := blk_frozen BK101.out 0; have hfz11_1 := blk_frozen BK101.out 1) | (go_at_call 75; (with_reducible refine (spec_l1In.calls a0_1 0 16 true _ A2.out).mono ?_); rintro e w' ⟨rfl, ⟨nd, rfl⟩⟩; (try first | exact ⟨rfl, _, World.drewN_drewN _ _ _⟩ | exact ⟨rfl, _, Eq.trans (World.drewN_drewN _ _ _) (congrArg (World.drewN _) (Nat.add_assoc _ _ _))⟩)) | (go_at_call 75; (with_reducible refine (spec_l1In.calls a0_0 0 65535 false _ A4.out).mono ?_); rintro e w' ⟨rfl, ⟨nd, rfl⟩⟩; (try first | exact ⟨rfl, _, World.drewN_drewN _ _ _⟩ | exact ⟨rfl, _, Eq.trans (World.drewN_drewN _ _ _) (congrArg (World.drewN _) (Nat.add_assoc _ _ _))⟩))); try go_wp2_with (first | ((with_reducible refine gate_dst (N := 1) rfl ?_); refine box_event ?hg (N := 1) ?hd (cs := #[.int .i64 a0_0, .int .i64 a0_1]) (t := 26) ?hr ?_; (case hd => rfl); (case hg => rfl); (case hr => first | (go_simp; done) | (go_simp; rfl)); intro gb101 hg w10 hbox hb; have n0_ := Aside0.mk (below_step (by repeat (first | (with_reducible first | exact HB.out | apply below_alloc | apply pw_below_drewN | apply below_drew1) | exact HB.out)) hb); have n1_ := Aside0.mk (hbox); have n2_ := Aside0.mk ((by rw [hg]; exact (below_size (by repeat (first | (with_reducible first | exact HB.out | apply below_alloc | apply pw_below_drewN | apply below_drew1) | exact HB.out))) : w.heap.size ≤ gb101)); have n3_ := Aside0.mk ((by rw [hg]; exact (below_size (by repeat (first | (with_reducible first | exact HB.out | apply below_alloc | apply pw_below_drewN | apply below_drew1) | exact HB.out))) : w.heap.size ≤ gb101)); clear HB; have HB := n0_; have BK101 := n1_; have GW101 := n2_; have GE101 := n3_; clear n0_ n1_ n2_ n3_; clear hb hbox hg; have hcz11_0 : w10.cell? ⟨gb101, 0, none⟩ = some (.int .i64 a0_0) := (blk_cell BK101.out 0).trans rfl; have hcz11_1 : w10.cell? ⟨gb101, 1, none⟩ = some (.int .i64 a0_1) := (blk_cell BK101.out 1).trans rfl; have hfz11_0 := blk_frozen BK101.out 0; have hfz11_1 := blk_frozen BK101.out 1) | (go_at_call 75; (with_reducible refine (spec_l1In.calls a0_1 0 16 true _ A2.out).mono ?_); rintro e w' ⟨rfl, ⟨nd, rfl⟩⟩; (try first | exact ⟨rfl, _, World.drewN_drewN _ _ _⟩ | exact ⟨rfl, _, Eq.trans (World.drewN_drewN _ _ _) (congrArg (World.drewN _) (Nat.add_assoc _ _ _))⟩)) | (go_at_call 75; (with_reducible refine (spec_l1In.calls a0_0 0 65535 false _ A4.out).mono ?_); rintro e w' ⟨rfl, ⟨nd, rfl⟩⟩; (try first | exact ⟨rfl, _, World.drewN_drewN _ _ _⟩ | exact ⟨rfl, _, Eq.trans (World.drewN_drewN _ _ _) (congrArg (World.drewN _) (Nat.add_assoc _ _ _))⟩))))
      go_ret
      exact ⟨by first | rfl | (simp [errW_none, errW_some] <;> rfl) | (simp [*, errW_none, errW_some] <;> rfl), by repeat (first | (with_reducible first | exact HB.out | apply below_alloc | apply pw_below_drewN | apply below_drew1 | refine below_set ?_ GE101.out) | exact HB.out)⟩
  · replace c3 := Bool.eq_false_iff.mpr c3
    subst c3
    have H1 : (some false) = some r := by rw [if_neg (show ¬ (false = true) by decide)] at H; exact H
    clear H
    have H := H1
    clear H1
    obtain rfl := Option.some.inj H
    go_enter Try.func24, Try.ntmps24
    go_wp2_with (first | ((with_reducible refine gate_dst (N := 1) rfl ?_); refine box_event ?hg (N := 1) ?hd (cs := #[.int .i64 a0_0, .int .i64 a0_1]) (t := 26) ?hr ?_; (case hd => rfl); (case hg => rfl); (case hr => first | (go_simp; done) | (go_simp; rfl)); intro gb101 hg w12 hbox hb; have n0_ := Aside0.mk (below_step (by repeat (first | (with_reducible first | exact HB.out | apply below_alloc | apply pw_below_drewN | apply below_drew1) | exact HB.out)) hb); have n1_ := Aside0.mk (hbox); have n2_ := Aside0.mk ((by rw [hg]; exact (below_size (by repeat (first | (with_reducible first | exact HB.out | apply below_alloc | apply pw_below_drewN | apply below_drew1) | exact HB.out))) : w.heap.size ≤ gb101)); have n3_ := Aside0.mk ((by rw [hg]; exact (below_size (by repeat (first | (with_reducible first | exact HB.out | apply below_alloc | apply pw_below_drewN | apply below_drew1) | exact HB.out))) : w.heap.size ≤ gb101)); clear HB; have HB := n0_; have BK101 := n1_; have GW101 := n2_; have GE101 := n3_; clear n0_ n1_ n2_ n3_; clear hb hbox hg; have hcz13_0 : w12.cell? ⟨gb101, 0, none⟩ = some (.int .i64 a0_0) := (blk_cell BK101.out 0).trans rfl; have hcz13_1 : w12.cell? ⟨gb101, 1, none⟩ = some (.int .i64 a0_1) := (blk_cell BK101.out 1).trans rfl; have hfz13_0 := blk_frozen BK101.out 0; have hfz13_1 := blk_frozen BK101.out 1) | (go_at_call 75; (with_reducible refine (spec_l1In.calls a0_1 0 16 false _ A2.out).mono ?_); rintro e w' ⟨rfl, ⟨nd, rfl⟩⟩; (try first | exact ⟨rfl, _, World.drewN_drewN _ _ _⟩ | exact ⟨rfl, _, Eq.trans (World.drewN_drewN _ _ _) (congrArg (World.drewN _) (Nat.add_assoc _ _ _))⟩)))
    repeat (go_quiet (first | ((with_reducible refine gate_dst (N := 1) rfl ?_); refine box_event ?hg (N := 1) ?hd (cs := #[.int .i64 a0_0, .int .i64 a0_1]) (t := 26) ?hr ?_; (case hd => rfl); (case hg => rfl); (case hr => first | (go_simp; done) | (go_simp; rfl)); intro gb101 hg w12 hbox hb; have n0_ := Aside0.mk (below_step (by repeat (first | (with_reducible first | exact HB.out | apply below_alloc | apply pw_below_drewN | apply below_drew1) | exact HB.out)) hb); have n1_ := Aside0.mk (hbox); have n2_ := Aside0.mk ((by rw [hg]; exact (below_size (by repeat (first | (with_reducible first | exact HB.out | apply below_alloc | apply pw_below_drewN | apply below_drew1) | exact HB.out))) : w.heap.size ≤ gb101)); have n3_ := Aside0.mk ((by rw [hg]; exact (below_size (by repeat (first | (with_reducible first | exact HB.out | apply below_alloc | apply pw_below_drewN | apply below_drew1) | exact HB.out))) : w.heap.size ≤ gb101)); clear HB; have HB := n0_; have BK101 := n1_; have GW101 := n2_; have GE101 := n3_; clear n0_ n1_ n2_ n3_; clear hb hbox hg; have hcz13_0 : w12.cell? ⟨gb101, 0, none⟩ = some (.int .i64 a0_0) := (blk_cell BK101.out 0).trans rfl; have hcz13_1 : w12.cell? ⟨gb101, 1, none⟩ = some (.int .i64 a0_1) := (blk_cell BK101.out 1).trans rfl; have hfz13_0 := blk_frozen BK101.out 0; have hfz13_1 := blk_frozen BK101.out 1) | (go_at_call 75; (with_reducible refine (spec_l1In.calls a0_1 0 16 false _ A2.out).mono ?_); rintro e w' ⟨rfl, ⟨nd, rfl⟩⟩; (try first | exact ⟨rfl, _, World.drewN_drewN _ _ _⟩ | exact ⟨rfl, _, Eq.trans (World.drewN_drewN _ _ _) (congrArg (World.drewN _) (Nat.add_assoc _ _ _))⟩))); try go_wp2_with (first | ((with_reducible refine gate_dst (N := 1) rfl ?_); refine box_event ?hg (N := 1) ?hd (cs := #[.int .i64 a0_0, .int .i64 a0_1]) (t := 26) ?hr ?_; (case hd => rfl); (case hg => rfl); (case hr => first | (go_simp; done) | (go_simp; rfl)); intro gb101 hg w12 hbox hb; have n0_ := Aside0.mk (below_step (by repeat (first | (with_reducible first | exact HB.out | apply below_alloc | apply pw_below_drewN | apply below_drew1) | exact HB.out)) hb); have n1_ := Aside0.mk (hbox); have n2_ := Aside0.mk ((by rw [hg]; exact (below_size (by repeat (first | (with_reducible first | exact HB.out | apply below_alloc | apply pw_below_drewN | apply below_drew1) | exact HB.out))) : w.heap.size ≤ gb101)); have n3_ := Aside0.mk ((by rw [hg]; exact (below_size (by repeat (first | (with_reducible first | exact HB.out | apply below_alloc | apply pw_below_drewN | apply below_drew1) | exact HB.out))) : w.heap.size ≤ gb101)); clear HB; have HB := n0_; have BK101 := n1_; have GW101 := n2_; have GE101 := n3_; clear n0_ n1_ n2_ n3_; clear hb hbox hg; have hcz13_0 : w12.cell? ⟨gb101, 0, none⟩ = some (.int .i64 a0_0) := (blk_cell BK101.out 0).trans rfl; have hcz13_1 : w12.cell? ⟨gb101, 1, none⟩ = some (.int .i64 a0_1) := (blk_cell BK101.out 1).trans rfl; have hfz13_0 := blk_frozen BK101.out 0; have hfz13_1 := blk_frozen BK101.out 1) | (go_at_call 75; (with_reducible refine (spec_l1In.calls a0_1 0 16 false _ A2.out).mono ?_); rintro e w' ⟨rfl, ⟨nd, rfl⟩⟩; (try first | exact ⟨rfl, _, World.drewN_drewN _ _ _⟩ | exact ⟨rfl, _, Eq.trans (World.drewN_drewN _ _ _) (congrArg (World.drewN _) (Nat.add_assoc _ _ _))⟩))))
    go_ret
    exact ⟨by first | rfl | (simp [errW_none, errW_some] <;> rfl) | (simp [*, errW_none, errW_some] <;> rfl), by repeat (first | (with_reducible first | exact HB.out | apply below_alloc | apply pw_below_drewN | apply below_drew1 | refine below_set ?_ GE101.out) | exact HB.out)⟩
end Go.Proofs.Ytnakanjhdcakhaa.Q
namespace Go.Proofs.Ytnakanjhdcakhaa.Q
open Go.RowKit Go.Proofs.YtnakanjhdcakhaaW.PrintWords Go.Proofs.YtnakanjhdcakhaaW.PrintLast Go.Proofs.YtnakanjhdcakhaaW.PrintMore
attribute [local go_sem] max2_int min2_int max_two min_two max_three min_three max_four min_four   -- for this text's walks alone
set_option linter.unusedVariables false
set_option linter.unusedSimpArgs false
def spec_l5Addr.j0 : Nat → Bool → List Int → Int → Int → Int → Option (Int × Int)
  | 0, _, _, _, _, _ => none
  | k + 1, x12, x1000, x1001, x102000, x102001 => if x12 = true then ((spec_l1Rd_pick.f k x1000 x1001 65536).bind fun bt105 => ((some (([bt105.1, (-1), 65536, 0, 65535] : List Int) : List Int)).bind fun y107 => ((spec_l1Rd_pick.f k x1000 bt105.2 5).bind fun bt110 => (if 0 ≤ bt110.1 then (if bt110.1 < (y107.length : Int) then (some (rd y107 bt110.1, bt110.2)) else (none)) else (none))))) else ((spec_l1Size.f k x102001).bind fun t113 => ((spec_l1Size.f k x102001).bind fun t114 => ((spec_l1Size.f k x102001).bind fun t115 => ((spec_l1Rd_pick.f k x1000 x1001 t115).bind fun bt116 => ((some (([0, (-1), t113, wrap64 (t114 - 1), bt116.1] : List Int) : List Int)).bind fun y118 => ((spec_l1Rd_pick.f k x1000 bt116.2 5).bind fun bt121 => (if 0 ≤ bt121.1 then (if bt121.1 < (y118.length : Int) then (some (wrap64 (x102000 + (rd y118 bt121.1)), bt121.2)) else (none)) else (none))))))))
def spec_l5Addr.f (k : Nat) (s0_0 : List Int) (s0_1 : Int) (a1_0 : Int) (a1_1 : Int) : Option (Int × Int) := (spec_NetOk.f k a1_0 a1_1).bind fun t102 => (if t102 = true then ((spec_l1Rd_pick.f k s0_0 s0_1 4).bind fun bt103 => (spec_l5Addr.j0 k (bt103.1 == 0) s0_0 bt103.2 a1_0 a1_1)) else (spec_l5Addr.j0 k true s0_0 s0_1 a1_0 a1_1))
def spec_l5Addr.T3 : Bool × List (List Nat × List Nat) := (true, [([], []), ([0], [0]), ([], []), ([2], [2]), ([3], [3]), ([], []), ([5], [5]), ([6, 4], [6]), ([7], [7]), ([], []), ([], []), ([10], [10]), ([11, 7], [11]), ([9, 12, 12], [9, 12]), ([4, 8, 13], [4, 8, 13]), ([], []), ([15, 13], [15]), ([14, 16], [14, 16]), ([17], [17]), ([1, 18], [1, 18]), ([19, 16, 0, 1, 2, 3, 4, 5, 6, 7, 8, 9, 10, 11, 12, 13, 14, 15, 16, 17, 18, 19], [19])])
def spec_l5Addr.B3 : List Nat := [0, 1, 0, 4, 12, 0, 32, 124, 252, 0, 0, 1024, 3324, 7932, 16380, 0, 48892, 131068, 262140, 524287, 1048575]
theorem spec_l5Addr.tab3 : rtab .any (opsOf Try.f100 3) = spec_l5Addr.T3 := by kernel_rfl
theorem spec_l5Addr.bits3 : waitsOk spec_l5Addr.T3.2 spec_l5Addr.B3 = true := by kernel_rfl
theorem spec_l5Addr.zHI0 {P : Prop} (h : P := by repeat (first | (with_reducible first | exact HI0.out | apply IsS117.alloc | apply IsS117.drewN | apply IsS117.drew | apply IsS117.set_1 | refine IsS117.far ?_ NB0_101.out _) | exact HI0.out)) : P := h
theorem spec_l5Addr.zHK {P : Prop} (h : P := by repeat (first | (with_reducible first | exact HK.out | apply KeepBut.set_ | apply keep_drewN | apply keep_drew | apply keep_alloc | refine keep_far ?_ GW101.out _) | exact HK.out)) : P := h
theorem spec_l5Addr.zHB {P : Prop} (h : P := by repeat (first | (with_reducible first | exact HB.out | apply below_alloc | apply pw_below_drewN | apply below_drew1 | refine below_set ?_ (IsS117.ge HI0.out) | refine below_set ?_ GE101.out) | exact HB.out)) : P := h
theorem spec_l5Addr.zb {P Q : Prop} (x : Q) (h : Q → P := by intro x_; (with_reducible repeat (first | refine blk_drewN ?_ _ | refine blk_drew ?_ | refine blk_alloc ?_ _)); exact x_) : P := h x
theorem spec_l5Addr.zr {P Q : Prop} (x : Q) (h : Q → P := by intro x_; (with_reducible repeat (first | apply Kd.R_alloc | apply Kd.R_drewN | apply Kd.R_drew)); exact x_) : P := h x
def spec_l5Addr.zl (n k : Nat) : Array Bool := ((List.range n).map fun i => k.testBit i).toArray
theorem spec_l5Addr.y1 {P : Prop} (h : P := by (try simp only [List.map_toArray, List.map_cons, List.map_nil]); first | done | rfl | (simp only [List.length_drop, List.length_take]; rfl)) : P := h
theorem spec_l5Addr.y2 {P : Prop} (h : P := by first | (with_reducible assumption) | assumption) : P := h
theorem spec_l5Addr.zA {p : Prop} (h : p) : Aside0 p := ⟨h⟩
set_option maxHeartbeats 8000000 in
set_option maxRecDepth 100000 in
theorem spec_l5Addr.calls (k : Nat) (g : Nat) (s0_0 : List Int) (s0_1 : Int) (a1_0 : Int) (a1_1 : Int) (r1 : Int) (r2 : Int) (w0 w : World) (hI : IsS117 w0 w g s0_0 s0_1) (hB : Below w0.heap.size w0 w) (h : spec_l5Addr.f k s0_0 s0_1 a1_0 a1_1 = some (r1, r2)) :
  Calls Try.prog 100 #[.pointer (some ⟨g, 0, none⟩), .agg #[.int .i64 a1_0, .int .i64 a1_1]] w fun e w' => e = .returned (.int .i64 r1) ∧ IsS117 w0 w' g s0_0 r2 ∧ Below w0.heap.size w0 w' ∧ KeepBut w w' g none := by
 have hu26 := Try.underlying26
 have HI0 := zA hI
 have HK := zA (KeepBut.refl w g none)
 have HL := zA hB.size
 clear hI
 have HW0 := zA hB.size
 have HB := zA hB
 clear hB
 have H : ((spec_NetOk.f k a1_0 a1_1).bind fun t102 => (if t102 = true then ((spec_l1Rd_pick.f k s0_0 s0_1 4).bind fun bt103 => (spec_l5Addr.j0 k (bt103.1 == 0) s0_0 bt103.2 a1_0 a1_1)) else (spec_l5Addr.j0 k true s0_0 s0_1 a1_0 a1_1))) = some (r1, r2) := h
 clear h
 have HC3 := zA H
 clear H
 go_enter Try.func100, Try.ntmps100
 go_upto_region 1 with (first | ((with_reducible refine gate_dst (N := 3) rfl ?_); refine box_event ?hg (N := 3) ?hd (cs := #[.int .i64 a1_0, .int .i64 a1_1]) (t := 26) ?hr ?_; (case hd => rfl); (case hg => rfl); (case hr => first | (go_simp; done) | (go_simp; rfl)); intro gb101 hg w4 hbox hb; have n0_ := zA (IsS117.below (zHI0) hb); have n1_ := zA (KeepBut.trans (zHK) (KeepBut.of_below hb g none) (.inl rfl)); have n2_ := zA (below_step (zHB) hb); have n3_ := zA (hbox); have n4_ := zA ((by rw [hg]; exact (keep_size (w := w) (g := g) (row := none) (zHK)) : w.heap.size ≤ gb101)); have n5_ := zA ((Nat.le_trans HW0.out (by rw [hg]; exact (keep_size (w := w) (g := g) (row := none) (zHK)) : w.heap.size ≤ gb101) : w0.heap.size ≤ gb101)); have n6_ := zA ((by rw [hg]; exact Nat.ne_of_lt (IsS117.lt (show IsS117 w0 _ g s0_0 s0_1 from zHI0)) : g ≠ gb101)); have n7_ := zA ((by rw [hg]; exact Nat.ne_of_gt (IsS117.lt (show IsS117 w0 _ g s0_0 s0_1 from zHI0)) : gb101 ≠ g)); clear HI0; clear HK; clear HB; have HI0 := n0_; have HK := n1_; have HB := n2_; have BK101 := n3_; have GW101 := n4_; have GE101 := n5_; have NB0_101 := n6_; have NB101_0 := n7_; clear n0_ n1_ n2_ n3_ n4_ n5_ n6_ n7_; clear hb hbox hg))
 (try simp only [Act.put, List.setIfInBounds_toArray, List.set_cons_zero, List.set_cons_succ])
 go_cut [12] (fun v12 wc => ∃ (kq : Nat) (x12_2 : Bool) (x1001_2 : Int), v12 = .bool x12_2 ∧ Aside0 (spec_l5Addr.j0 kq x12_2 s0_0 x1001_2 a1_0 a1_1 = some (r1, r2)) ∧ Aside0 (kq ≤ k) ∧ Aside0 (wc.heap[gb101]? = some (.cells #[.int .i64 a1_0, .int .i64 a1_1] 26 (0, 0))) ∧ Aside0 (IsS117 w0 wc g s0_0 x1001_2) ∧ Aside0 (KeepBut w wc g none) ∧ Aside0 (Below w0.heap.size w0 wc))
 case first =>
  have H := HC3.out
  clear HC3
  replace H := Option.bind_eq_some_iff.mp H
  obtain ⟨t102, A50, H⟩ := H
  replace H : (if t102 = true then ((spec_l1Rd_pick.f k s0_0 s0_1 4).bind fun bt103 => (spec_l5Addr.j0 k (bt103.1 == 0) s0_0 bt103.2 a1_0 a1_1)) else (spec_l5Addr.j0 k true s0_0 s0_1 a1_0 a1_1)) = some (r1, r2) := H
  have A5 := zA A50
  clear A50
  by_cases c6 : t102 = true
  ·subst c6
   have H1 : ((spec_l1Rd_pick.f k s0_0 s0_1 4).bind fun bt103 => (spec_l5Addr.j0 k (bt103.1 == 0) s0_0 bt103.2 a1_0 a1_1)) = some (r1, r2) := by rw [if_pos rfl] at H; exact H
   clear H
   have H := H1
   clear H1
   replace H := Option.bind_eq_some_iff.mp H
   obtain ⟨⟨t103, t104⟩, A70, H⟩ := H
   replace H : (spec_l5Addr.j0 k (t103 == 0) s0_0 t104 a1_0 a1_1) = some (r1, r2) := H
   have A7 := zA A70
   clear A70
   have H' := zA H
   clear H
   have hnb8 := NB101_0.out
   have hnc8 := NB0_101.out
   have hcz9_0 : w4.cell? ⟨gb101, 0, none⟩ = some (.int .i64 a1_0) := (blk_cell BK101.out 0).trans rfl
   have hcz9_1 : w4.cell? ⟨gb101, 1, none⟩ = some (.int .i64 a1_1) := (blk_cell BK101.out 1).trans rfl
   have hfz9_0 := blk_frozen BK101.out 0
   have hfz9_1 := blk_frozen BK101.out 1
   go_wp2_with (first | ((with_reducible refine gate_callee (f := 24) rfl ?_); refine goesL_ (some 6) rfl rfl Try.func24 (by kernel_rfl) rfl #[.agg #[.int .i64 a1_0, .int .i64 a1_1]] rfl y1  ?_; (with_reducible refine (spec_NetOk.calls k a1_0 a1_1 true _ A5.out).mono ?_); rintro e w10 ⟨rfl, hb⟩; refine ⟨_, rfl, ?_⟩; have n0_ := zA (IsS117.below (zHI0) hb); have n1_ := zA (blk_below (g := gb101) (o := .cells #[.int .i64 a1_0, .int .i64 a1_1] 26 (0, 0)) (zb BK101.out) hb); have n2_ := zA (KeepBut.trans (zHK) (KeepBut.of_below hb g none) (.inl rfl)); have n3_ := zA (below_step (zHB) hb); clear HI0; clear BK101; clear HK; clear HB; have HI0 := n0_; have BK101 := n1_; have HK := n2_; have HB := n3_; clear n0_ n1_ n2_ n3_; (try clear hb); (try clear hb2); (try clear hk); (try clear hi)) | (go_at_call 81; (with_reducible refine (spec_l1Rd_pick.calls k g s0_0 s0_1 4 t103 t104 w0 _ ?side1 ?side2 A7.out).mono ?_); (case side1 => exact zHI0); (case side2 => exact zHB); rintro e w11 ⟨rfl, hi, hb, hk⟩; have n0_ := zA (KeepBut.blk hk (g' := gb101) (o := .cells #[.int .i64 a1_0, .int .i64 a1_1] 26 (0, 0)) (zb BK101.out) NB101_0.out (by simp)); have n1_ := zA (KeepBut.trans (zHK) hk (.inl rfl)); have n2_ := zA (hb); have n3_ := zA (hi); clear BK101; clear HK; clear HB; clear HI0; have BK101 := n0_; have HK := n1_; have HB := n2_; have HI0 := n3_; clear n0_ n1_ n2_ n3_; (try clear hb); (try clear hb2); (try clear hk); (try clear hi)))
   go_meet
   case rel => exact ⟨_, ((t103 == 0)), (t104), (by first | rfl | (simp; done) | (simp [*]; done)), H', ⟨by first | omega | exact Nat.le_refl _⟩, ⟨by (with_reducible repeat (first | refine blk_drewN ?_ _ | refine blk_drew ?_ | refine blk_alloc ?_ _)); exact BK101.out⟩, ⟨zHI0⟩, ⟨zHK⟩, ⟨zHB⟩⟩
  replace c6 := Bool.eq_false_iff.mpr c6
  subst c6
  have H1 : (spec_l5Addr.j0 k true s0_0 s0_1 a1_0 a1_1) = some (r1, r2) := by rw [if_neg (show ¬ (false = true) by decide)] at H; exact H
  clear H
  have H := H1
  clear H1
  have H' := zA H
  clear H
  have hnb12 := NB101_0.out
  have hnc12 := NB0_101.out
  have hcz13_0 : w4.cell? ⟨gb101, 0, none⟩ = some (.int .i64 a1_0) := (blk_cell BK101.out 0).trans rfl
  have hcz13_1 : w4.cell? ⟨gb101, 1, none⟩ = some (.int .i64 a1_1) := (blk_cell BK101.out 1).trans rfl
  have hfz13_0 := blk_frozen BK101.out 0
  have hfz13_1 := blk_frozen BK101.out 1
  go_wp2_with (first | ((with_reducible refine gate_callee (f := 24) rfl ?_); refine goesL_ (some 6) rfl rfl Try.func24 (by kernel_rfl) rfl #[.agg #[.int .i64 a1_0, .int .i64 a1_1]] rfl y1  ?_; (with_reducible refine (spec_NetOk.calls k a1_0 a1_1 false _ A5.out).mono ?_); rintro e w14 ⟨rfl, hb⟩; refine ⟨_, rfl, ?_⟩; have n0_ := zA (IsS117.below (zHI0) hb); have n1_ := zA (blk_below (g := gb101) (o := .cells #[.int .i64 a1_0, .int .i64 a1_1] 26 (0, 0)) (zb BK101.out) hb); have n2_ := zA (KeepBut.trans (zHK) (KeepBut.of_below hb g none) (.inl rfl)); have n3_ := zA (below_step (zHB) hb); clear HI0; clear BK101; clear HK; clear HB; have HI0 := n0_; have BK101 := n1_; have HK := n2_; have HB := n3_; clear n0_ n1_ n2_ n3_; (try clear hb); (try clear hb2); (try clear hk); (try clear hi)))
  go_meet
  case rel => exact ⟨_, (true), (s0_1), (by first | rfl | (simp; done) | (simp [*]; done)), H', ⟨by first | omega | exact Nat.le_refl _⟩, ⟨by (with_reducible repeat (first | refine blk_drewN ?_ _ | refine blk_drew ?_ | refine blk_alloc ?_ _)); exact BK101.out⟩, ⟨zHI0⟩, ⟨zHK⟩, ⟨zHB⟩⟩
 case rest =>
  clear HC3
  try clear c1
  try clear c2
  try clear p2
  try clear c6
  try clear c8
  try clear c10
  try clear c12
  try clear hcz13_0
  try clear hcz13_1
  try clear hcz9_0
  try clear hcz9_1
  try clear hfz13_0
  try clear hfz13_1
  try clear hfz9_0
  try clear hfz9_1
  obtain ⟨kq, x12_2, x1001_2, rfl, HA, HJ2, BK101, HI0, HK, HB⟩ := hcut
  cases kq with
  | zero => exact absurd HA.out (by simp [spec_l5Addr.j0])
  | succ kj2 => ?_
  have H := HA.out
  clear HA
  simp only [spec_l5Addr.j0] at H
  by_cases c15 : x12_2 = true
  ·subst c15
   have H1 : ((spec_l1Rd_pick.f kj2 s0_0 x1001_2 65536).bind fun bt105 => ((some (([bt105.1, (-1), 65536, 0, 65535] : List Int) : List Int)).bind fun y107 => ((spec_l1Rd_pick.f kj2 s0_0 bt105.2 5).bind fun bt110 => (if 0 ≤ bt110.1 then (if bt110.1 < (y107.length : Int) then (some (rd y107 bt110.1, bt110.2)) else (none)) else (none))))) = some (r1, r2) := by rw [if_pos rfl] at H; exact H
   clear H
   have H := H1
   clear H1
   replace H := Option.bind_eq_some_iff.mp H
   obtain ⟨⟨t105, t106⟩, A160, H⟩ := H
   replace H : ((some (([t105, (-1), 65536, 0, 65535] : List Int) : List Int)).bind fun y107 => ((spec_l1Rd_pick.f kj2 s0_0 t106 5).bind fun bt110 => (if 0 ≤ bt110.1 then (if bt110.1 < (y107.length : Int) then (some (rd y107 bt110.1, bt110.2)) else (none)) else (none)))) = some (r1, r2) := H
   have A16 := zA A160
   clear A160
   obtain ⟨y107, hy107⟩ : ∃ y_ : List Int, y_ = (([t105, (-1), 65536, 0, 65535] : List Int)) := ⟨_, rfl⟩
   replace H : ((spec_l1Rd_pick.f kj2 s0_0 t106 5).bind fun bt110 => (if 0 ≤ bt110.1 then (if bt110.1 < (y107.length : Int) then (some (rd y107 bt110.1, bt110.2)) else (none)) else (none))) = some (r1, r2) := by first | (rw [hy107]; with_reducible exact H) | (have H2_ := (Option.bind_some _ _).symm.trans H; rw [hy107]; with_reducible exact H2_) | (have H2_ := (Option.bind_some _ _).symm.trans H; with_reducible exact H2_) | with_reducible exact H | (rw [hy107]; exact H) | exact H
   have Ny107 := zA hy107
   clear hy107
   replace H := Option.bind_eq_some_iff.mp H
   obtain ⟨⟨t110, t111⟩, A170, H⟩ := H
   replace H : (if 0 ≤ t110 then (if t110 < (y107.length : Int) then (some (rd y107 t110, t111)) else (none)) else (none)) = some (r1, r2) := H
   have A17 := zA A170
   clear A170
   by_cases c18 : 0 ≤ t110
   ·rw [if_pos c18] at H
    have c18b0 : decide (0 ≤ t110) = true := decide_eq_true c18
    clear c18
    by_cases c19 : t110 < (y107.length : Int)
    ·rw [if_pos c19] at H
     have c19b0 : decide (t110 < (y107.length : Int)) = true := decide_eq_true c19
     clear c19
     simp only [Option.some.injEq, Prod.mk.injEq] at H
     obtain ⟨rfl, rfl⟩ := H
     go_wp2_with (first | ((with_reducible refine gate_callee (f := 81) rfl ?_); refine goesL_ (some 14) rfl rfl Try.func81 (by kernel_rfl) rfl #[.pointer (some ⟨g, 0, none⟩), .int .i64 65536] rfl y1  ?_; (with_reducible refine (spec_l1Rd_pick.calls kj2 g s0_0 x1001_2 65536 t105 t106 w0 _ ?side1 ?side2 A16.out).mono ?_); (case side1 => exact zHI0); (case side2 => exact zHB); rintro e w20 ⟨rfl, hi, hb, hk⟩; refine ⟨_, rfl, ?_⟩; have n0_ := zA (KeepBut.blk hk (g' := gb101) (o := .cells #[.int .i64 a1_0, .int .i64 a1_1] 26 (0, 0)) (zb BK101.out) NB101_0.out (by simp)); have n1_ := zA (KeepBut.trans (zHK) hk (.inl rfl)); have n2_ := zA (hb); have n3_ := zA (hi); clear BK101; clear HK; clear HB; clear HI0; have BK101 := n0_; have HK := n1_; have HB := n2_; have HI0 := n3_; clear n0_ n1_ n2_ n3_; (try clear hb); (try clear hb2); (try clear hk); (try clear hi)) | ((with_reducible refine gate_dst (N := 15) rfl ?_); refine Kd.R_lit (Kd.int .i64) _ 3 ?hg (N := 15) ?hd (xs := ([t105, (-1), 65536, 0, 65535] : List Int)) (inner := [.int .i64 t105, .int .i64 (-1), .int .i64 65536, .int .i64 0, .int .i64 65535]) (ok := fun _ => True) (okp := fun _ => True) ?hr ?hp (fun _ hk => hk) trivial (Below.refl _ _) (Nat.le_refl _) (by simp) ?_; (case hd => rfl); (case hg => rfl); (case hr => first | (go_simp; done) | (go_simp; rfl)); (case hp => exact (Reps.one (show Kd.M (Kd.int .i64) _ _ _ t105 [.int .i64 t105] from rfl) (Reps.one (show Kd.M (Kd.int .i64) _ _ _ (-1) [.int .i64 (-1)] from rfl) (Reps.one (show Kd.M (Kd.int .i64) _ _ _ 65536 [.int .i64 65536] from rfl) (Reps.one (show Kd.M (Kd.int .i64) _ _ _ 0 [.int .i64 0] from rfl) (Reps.one (show Kd.M (Kd.int .i64) _ _ _ 65535 [.int .i64 65535] from rfl) (Reps.none _ _))))))); intro v108 w21 ho22 hb hg_ hnew_; clear hg_ hnew_; (first | rw [← Ny107.out] at ho22 | (simp only [Int.reduceToNat] at ho22; rw [← Ny107.out] at ho22)); have n0_ := zA (Kd.R_lower ho22 (keep_size (w := w) (g := g) (row := none) (zHK))); have n1_ := zA (blk_below (g := gb101) (o := .cells #[.int .i64 a1_0, .int .i64 a1_1] 26 (0, 0)) (zb BK101.out) hb); have n2_ := zA (IsS117.below (zHI0) hb); have n3_ := zA (KeepBut.trans (zHK) (KeepBut.of_below hb g none) (.inl rfl)); have n4_ := zA (below_step (zHB) hb); clear BK101; clear HI0; clear HK; clear HB; have HO109 := n0_; have BK101 := n1_; have HI0 := n2_; have HK := n3_; have HB := n4_; clear n0_ n1_ n2_ n3_ n4_; clear hb ho22) | ((with_reducible refine gate_callee (f := 81) rfl ?_); refine goesL_ (some 17) rfl rfl Try.func81 (by kernel_rfl) rfl #[.pointer (some ⟨g, 0, none⟩), .int .i64 5] rfl y1  ?_; (with_reducible refine (spec_l1Rd_pick.calls kj2 g s0_0 t106 5 t110 t111 w0 _ ?side1 ?side2 A17.out).mono ?_); (case side1 => exact zHI0); (case side2 => exact zHB); rintro e w23 ⟨rfl, hi, hb, hk⟩; refine ⟨_, rfl, ?_⟩; have n0_ := zA (KeepBut.blk hk (g' := gb101) (o := .cells #[.int .i64 a1_0, .int .i64 a1_1] 26 (0, 0)) (zb BK101.out) NB101_0.out (by simp)); have n1_ := zA (Kd.R_mono (Kd.R_keep (IsS117.apart (show IsS117 w0 _ g s0_0 t106 from zHI0) (zr HO109.out) (by decide)) hk (fun _ h => h.2)) (fun _ h => h.1)); have n2_ := zA (KeepBut.trans (zHK) hk (.inl rfl)); have n3_ := zA (hb); have n4_ := zA (hi); clear BK101; clear HO109; clear HK; clear HB; clear HI0; have BK101 := n0_; have HO109 := n1_; have HK := n2_; have HB := n3_; have HI0 := n4_; clear n0_ n1_ n2_ n3_ n4_; (try clear hb); (try clear hb2); (try clear hk); (try clear hi); obtain ⟨Ao24, co24, eo24⟩ := Kd.R_slice HO109.out; subst eo24; have p112 : 0 ≤ (t110 : Int) := of_decide_eq_true y2 ; have q112 : t110 < (y107.length : Int) := of_decide_eq_true y2 ; obtain ⟨ad112, e112, hx112_0⟩ := Kd.at_int (Kd.R_reads' HO109.out).2.2 t110 p112 q112; cases e112; replace p112 := eq_true p112; replace q112 := eq_true q112))
     go_ret
     exact ⟨by first | rfl | (simp [errW_none, errW_some] <;> rfl) | (simp [*, errW_none, errW_some] <;> rfl), zHI0, zHB, zHK⟩
    rw [if_neg c19] at H
    exact absurd H (by simp)
   rw [if_neg c18] at H
   exact absurd H (by simp)
  replace c15 := Bool.eq_false_iff.mpr c15
  subst c15
  have H1 : ((spec_l1Size.f kj2 a1_1).bind fun t113 => ((spec_l1Size.f kj2 a1_1).bind fun t114 => ((spec_l1Size.f kj2 a1_1).bind fun t115 => ((spec_l1Rd_pick.f kj2 s0_0 x1001_2 t115).bind fun bt116 => ((some (([0, (-1), t113, wrap64 (t114 - 1), bt116.1] : List Int) : List Int)).bind fun y118 => ((spec_l1Rd_pick.f kj2 s0_0 bt116.2 5).bind fun bt121 => (if 0 ≤ bt121.1 then (if bt121.1 < (y118.length : Int) then (some (wrap64 (a1_0 + (rd y118 bt121.1)), bt121.2)) else (none)) else (none)))))))) = some (r1, r2) := by rw [if_neg (show ¬ (false = true) by decide)] at H; exact H
  clear H
  have H := H1
  clear H1
  replace H := Option.bind_eq_some_iff.mp H
  obtain ⟨t113, A250, H⟩ := H
  replace H : ((spec_l1Size.f kj2 a1_1).bind fun t114 => ((spec_l1Size.f kj2 a1_1).bind fun t115 => ((spec_l1Rd_pick.f kj2 s0_0 x1001_2 t115).bind fun bt116 => ((some (([0, (-1), t113, wrap64 (t114 - 1), bt116.1] : List Int) : List Int)).bind fun y118 => ((spec_l1Rd_pick.f kj2 s0_0 bt116.2 5).bind fun bt121 => (if 0 ≤ bt121.1 then (if bt121.1 < (y118.length : Int) then (some (wrap64 (a1_0 + (rd y118 bt121.1)), bt121.2)) else (none)) else (none))))))) = some (r1, r2) := H
  have A25 := zA A250
  clear A250
  replace H := Option.bind_eq_some_iff.mp H
  obtain ⟨t114, A260, H⟩ := H
  replace H : ((spec_l1Size.f kj2 a1_1).bind fun t115 => ((spec_l1Rd_pick.f kj2 s0_0 x1001_2 t115).bind fun bt116 => ((some (([0, (-1), t113, wrap64 (t114 - 1), bt116.1] : List Int) : List Int)).bind fun y118 => ((spec_l1Rd_pick.f kj2 s0_0 bt116.2 5).bind fun bt121 => (if 0 ≤ bt121.1 then (if bt121.1 < (y118.length : Int) then (some (wrap64 (a1_0 + (rd y118 bt121.1)), bt121.2)) else (none)) else (none)))))) = some (r1, r2) := H
  have A26 := zA A260
  clear A260
  replace H := Option.bind_eq_some_iff.mp H
  obtain ⟨t115, A270, H⟩ := H
  replace H : ((spec_l1Rd_pick.f kj2 s0_0 x1001_2 t115).bind fun bt116 => ((some (([0, (-1), t113, wrap64 (t114 - 1), bt116.1] : List Int) : List Int)).bind fun y118 => ((spec_l1Rd_pick.f kj2 s0_0 bt116.2 5).bind fun bt121 => (if 0 ≤ bt121.1 then (if bt121.1 < (y118.length : Int) then (some (wrap64 (a1_0 + (rd y118 bt121.1)), bt121.2)) else (none)) else (none))))) = some (r1, r2) := H
  have A27 := zA A270
  clear A270
  replace H := Option.bind_eq_some_iff.mp H
  obtain ⟨⟨t116, t117⟩, A280, H⟩ := H
  replace H : ((some (([0, (-1), t113, wrap64 (t114 - 1), t116] : List Int) : List Int)).bind fun y118 => ((spec_l1Rd_pick.f kj2 s0_0 t117 5).bind fun bt121 => (if 0 ≤ bt121.1 then (if bt121.1 < (y118.length : Int) then (some (wrap64 (a1_0 + (rd y118 bt121.1)), bt121.2)) else (none)) else (none)))) = some (r1, r2) := H
  have A28 := zA A280
  clear A280
  obtain ⟨y118, hy118⟩ : ∃ y_ : List Int, y_ = (([0, (-1), t113, wrap64 (t114 - 1), t116] : List Int)) := ⟨_, rfl⟩
  replace H : ((spec_l1Rd_pick.f kj2 s0_0 t117 5).bind fun bt121 => (if 0 ≤ bt121.1 then (if bt121.1 < (y118.length : Int) then (some (wrap64 (a1_0 + (rd y118 bt121.1)), bt121.2)) else (none)) else (none))) = some (r1, r2) := by first | (rw [hy118]; with_reducible exact H) | (have H2_ := (Option.bind_some _ _).symm.trans H; rw [hy118]; with_reducible exact H2_) | (have H2_ := (Option.bind_some _ _).symm.trans H; with_reducible exact H2_) | with_reducible exact H | (rw [hy118]; exact H) | exact H
  have Ny118 := zA hy118
  clear hy118
  replace H := Option.bind_eq_some_iff.mp H
  obtain ⟨⟨t121, t122⟩, A290, H⟩ := H
  replace H : (if 0 ≤ t121 then (if t121 < (y118.length : Int) then (some (wrap64 (a1_0 + (rd y118 t121)), t122)) else (none)) else (none)) = some (r1, r2) := H
  have A29 := zA A290
  clear A290
  by_cases c30 : 0 ≤ t121
  ·rw [if_pos c30] at H
   have c30b0 : decide (0 ≤ t121) = true := decide_eq_true c30
   clear c30
   by_cases c31 : t121 < (y118.length : Int)
   ·rw [if_pos c31] at H
    have c31b0 : decide (t121 < (y118.length : Int)) = true := decide_eq_true c31
    clear c31
    simp only [Option.some.injEq, Prod.mk.injEq] at H
    obtain ⟨rfl, rfl⟩ := H
    try go_wp2
    have pi123 : (0 ≤ (t121 : Int)) = True := eq_true (of_decide_eq_true y2 )
    have qi123 : (t121 < (y118.length : Int)) = True := eq_true (of_decide_eq_true y2 )
    have n0_ := zA (blk_drew BK101.out)
    have n1_ := zA (IsS117.drew HI0.out)
    have n2_ := zA (keep_drew HK.out)
    have n3_ := zA (below_drew1 HB.out)
    clear BK101
    clear HI0
    clear HK
    clear HB
    have BK101 := n0_
    have HI0 := n1_
    have HK := n2_
    have HB := n3_
    clear n0_ n1_ n2_ n3_
    refine start_ (n := 21) (S := fun w' => w'.cell? ⟨gb101, 0, none⟩ = some (.int .i64 a1_0) ∧ w'.cell? ⟨gb101, 1, none⟩ = some (.int .i64 a1_1)) (ds := []) (zl 21 0) (by kernel_rfl) rfl rfl ⟨(blk_cell BK101.out 0).trans rfl, (blk_cell BK101.out 1).trans rfl⟩ (fun hHeld => ?_); refine with_tabW spec_l5Addr.tab3 spec_l5Addr.bits3 (fun HT_ HW_ => ?_)
    generalize wc.drew = w32 at BK101 HI0 HK HB hHeld ⊢
    refine pure_ (i := 0) (N := some 20) (v := ?_) (a' := ?_) (zl 21 1) rfl rfl (any_of HT_.out (by kernel_rfl)) (fun _ _ _ h => h) (Or.inl ⟨by rfl, ?_⟩) ?_ ?_
    rotate_left
    ·intro w'
     go_simp
     with_reducible rfl
    rotate_left
    ·simp only [Act.put, List.setIfInBounds_toArray, List.set_cons_zero, List.set_cons_succ, i64_w, i32_w]
     rfl
    refine pure_ (i := 2) (N := some 22) (v := ?_) (a' := ?_) (zl 21 5) rfl rfl (any_of HT_.out (by kernel_rfl)) (fun _ _ _ h => h) (Or.inl ⟨by rfl, ?_⟩) ?_ ?_
    rotate_left
    ·intro w'
     go_simp
     with_reducible rfl
    rotate_left
    ·simp only [Act.put, List.setIfInBounds_toArray, List.set_cons_zero, List.set_cons_succ, i64_w, i32_w]
     rfl
    refine pure_ (i := 5) (N := some 25) (v := ?_) (a' := ?_) (zl 21 37) rfl rfl (any_of HT_.out (by kernel_rfl)) (fun _ _ _ h => h) (Or.inl ⟨by rfl, ?_⟩) ?_ ?_
    rotate_left
    ·intro w'
     go_simp
     with_reducible rfl
    rotate_left
    ·simp only [Act.put, List.setIfInBounds_toArray, List.set_cons_zero, List.set_cons_succ, i64_w, i32_w]
     rfl
    refine pure_ (i := 9) (N := some 29) (v := ?_) (a' := ?_) (zl 21 549) rfl rfl (any_of HT_.out (by kernel_rfl)) (fun _ _ _ h => h) (Or.inl ⟨by rfl, ?_⟩) ?_ ?_
    rotate_left
    ·intro w'
     go_simp
     with_reducible rfl
    rotate_left
    ·simp only [Act.put, List.setIfInBounds_toArray, List.set_cons_zero, List.set_cons_succ, i64_w, i32_w]
     rfl
    refine pure_ (i := 10) (N := some 30) (v := ?_) (a' := ?_) (zl 21 1573) rfl rfl (any_of HT_.out (by kernel_rfl)) (fun _ _ _ h => h) (Or.inl ⟨by rfl, ?_⟩) ?_ ?_
    rotate_left
    ·intro w'
     go_simp
     with_reducible rfl
    rotate_left
    ·simp only [Act.put, List.setIfInBounds_toArray, List.set_cons_zero, List.set_cons_succ, i64_w, i32_w]
     rfl
    refine pure_ (i := 15) (N := some 35) (v := ?_) (a' := ?_) (zl 21 34341) rfl rfl (any_of HT_.out (by kernel_rfl)) (fun _ _ _ h => h) (Or.inl ⟨by rfl, ?_⟩) ?_ ?_
    rotate_left
    ·intro w'
     go_simp
     with_reducible rfl
    rotate_left
    ·simp only [Act.put, List.setIfInBounds_toArray, List.set_cons_zero, List.set_cons_succ, i64_w, i32_w]
     rfl
    refine take_ (i := 1) (N := some 21) (v := ?_) (a' := ?_) (zl 21 34343) rfl rfl (take_ofW HT_.out HW_.out (by kernel_rfl)) (fun _ _ _ h => h) (Or.inl ⟨by rfl, ?_⟩) hHeld ?_ ?_
    rotate_left
    ·rintro w' ⟨s0, s1⟩
     go_simp
     with_reducible rfl
    rotate_left
    ·simp only [Act.put, List.setIfInBounds_toArray, List.set_cons_zero, List.set_cons_succ, i64_w, i32_w]
     rfl
    refine take_ (i := 3) (N := some 23) (v := ?_) (a' := ?_) (zl 21 34351) rfl rfl (take_ofW HT_.out HW_.out (by kernel_rfl)) (fun _ _ _ h => h) (Or.inl ⟨by rfl, ?_⟩) hHeld ?_ ?_
    rotate_left
    ·rintro w' ⟨s0, s1⟩
     go_simp
     with_reducible rfl
    rotate_left
    ·simp only [Act.put, List.setIfInBounds_toArray, List.set_cons_zero, List.set_cons_succ, i64_w, i32_w]
     rfl
    refine take_ (i := 6) (N := some 26) (v := ?_) (a' := ?_) (zl 21 34415) rfl rfl (take_ofW HT_.out HW_.out (by kernel_rfl)) (fun _ _ _ h => h) (Or.inl ⟨by rfl, ?_⟩) hHeld ?_ ?_
    rotate_left
    ·rintro w' ⟨s0, s1⟩
     go_simp
     with_reducible rfl
    rotate_left
    ·simp only [Act.put, List.setIfInBounds_toArray, List.set_cons_zero, List.set_cons_succ, i64_w, i32_w]
     rfl
    refine take_ (i := 11) (N := some 31) (v := ?_) (a' := ?_) (zl 21 36463) rfl rfl (take_ofW HT_.out HW_.out (by kernel_rfl)) (fun _ _ _ h => h) (Or.inl ⟨by rfl, ?_⟩) hHeld ?_ ?_
    rotate_left
    ·rintro w' ⟨s0, s1⟩
     go_simp
     with_reducible rfl
    rotate_left
    ·simp only [Act.put, List.setIfInBounds_toArray, List.set_cons_zero, List.set_cons_succ, i64_w, i32_w]
     rfl
    refine one_ (i := 4) (N := some 24) (zl 21 36479) rfl rfl (one_of HT_.out (by kernel_rfl)) (by decide) (fun K hK => ?_)
    refine goes_ Try.func76 (by kernel_rfl) rfl #[.int .i64 a1_1] (by rfl) rfl rfl y1  ?_
    with_reducible refine (spec_l1Size.calls kj2 a1_1 t113 _ A25.out).mono ?_
    rintro e w' ⟨rfl, ⟨nd, rfl⟩⟩
    refine ⟨_, rfl, ?_⟩
    refine hK.out _ _ ⟨(blk_cell BK101.out 0).trans rfl, (blk_cell BK101.out 1).trans rfl⟩ (fun hHeld => ?_)
    clear hK K
    refine norm_ (a' := ?_) ?_ ?_
    rotate_left
    ·show Act.put _ (some 24) _ = _
     simp only [Act.put, List.setIfInBounds_toArray, List.set_cons_zero, List.set_cons_succ, i64_w, i32_w]
     rfl
    refine one_ (i := 7) (N := some 27) (zl 21 36607) rfl rfl (one_of HT_.out (by kernel_rfl)) (by decide) (fun K hK => ?_)
    refine goes_ Try.func76 (by kernel_rfl) rfl #[.int .i64 a1_1] (by rfl) rfl rfl y1  ?_
    with_reducible refine (spec_l1Size.calls kj2 a1_1 t114 _ A26.out).mono ?_
    rintro e w' ⟨rfl, ⟨nd, rfl⟩⟩
    refine ⟨_, rfl, ?_⟩
    refine hK.out _ _ ⟨(blk_cell BK101.out 0).trans rfl, (blk_cell BK101.out 1).trans rfl⟩ (fun hHeld => ?_)
    clear hK K
    refine norm_ (a' := ?_) ?_ ?_
    rotate_left
    ·show Act.put _ (some 27) _ = _
     simp only [Act.put, List.setIfInBounds_toArray, List.set_cons_zero, List.set_cons_succ, i64_w, i32_w]
     rfl
    refine pure_ (i := 8) (N := some 28) (v := ?_) (a' := ?_) (zl 21 36863) rfl rfl (any_of HT_.out (by kernel_rfl)) (fun _ _ _ h => h) (Or.inl ⟨by rfl, ?_⟩) ?_ ?_
    rotate_left
    ·intro w'
     go_simp
     with_reducible rfl
    rotate_left
    ·simp only [Act.put, List.setIfInBounds_toArray, List.set_cons_zero, List.set_cons_succ, i64_w, i32_w]
     rfl
    refine one_ (i := 12) (N := some 32) (zl 21 40959) rfl rfl (one_of HT_.out (by kernel_rfl)) (by decide) (fun K hK => ?_)
    refine goes_ Try.func76 (by kernel_rfl) rfl #[.int .i64 a1_1] (by rfl) rfl rfl y1  ?_
    with_reducible refine (spec_l1Size.calls kj2 a1_1 t115 _ A27.out).mono ?_
    rintro e w' ⟨rfl, ⟨nd, rfl⟩⟩
    refine ⟨_, rfl, ?_⟩
    refine hK.out _ _ ⟨(blk_cell BK101.out 0).trans rfl, (blk_cell BK101.out 1).trans rfl⟩ (fun hHeld => ?_)
    clear hK K
    refine norm_ (a' := ?_) ?_ ?_
    rotate_left
    ·show Act.put _ (some 32) _ = _
     simp only [Act.put, List.setIfInBounds_toArray, List.set_cons_zero, List.set_cons_succ, i64_w, i32_w]
     rfl
    refine one_ (i := 13) (N := some 33) (zl 21 49151) rfl rfl (one_of HT_.out (by kernel_rfl)) (by decide) (fun K hK => ?_)
    refine goes_ Try.func81 (by kernel_rfl) rfl #[.pointer (some ⟨g, 0, none⟩), .int .i64 t115] (by rfl) rfl rfl y1  ?_
    with_reducible refine (spec_l1Rd_pick.calls kj2 g s0_0 x1001_2 t115 t116 t117 w0 _ ?side1 ?side2 A28.out).mono ?_
    (case side1 => exact zHI0)
    (case side2 => exact zHB)
    rintro e w33 ⟨rfl, hi, hb, hk⟩
    refine ⟨_, rfl, ?_⟩
    have n0_ := zA (KeepBut.blk hk (g' := gb101) (o := .cells #[.int .i64 a1_0, .int .i64 a1_1] 26 (0, 0)) (zb BK101.out) NB101_0.out (by simp))
    have n1_ := zA (KeepBut.trans (zHK) hk (.inl rfl))
    have n2_ := zA (hb)
    have n3_ := zA (hi)
    clear BK101
    clear HK
    clear HB
    clear HI0
    have BK101 := n0_
    have HK := n1_
    have HB := n2_
    have HI0 := n3_
    clear n0_ n1_ n2_ n3_
    (try clear hb)
    (try clear hb2)
    (try clear hk)
    (try clear hi)
    refine hK.out _ _ ⟨(blk_cell BK101.out 0).trans rfl, (blk_cell BK101.out 1).trans rfl⟩ (fun hHeld => ?_)
    clear hK K
    refine norm_ (a' := ?_) ?_ ?_
    rotate_left
    ·show Act.put _ (some 33) _ = _
     simp only [Act.put, List.setIfInBounds_toArray, List.set_cons_zero, List.set_cons_succ, i64_w, i32_w]
     rfl
    refine join_ (σ := Value × Addr) 4 (zl 21 131071) (fun s_ => [(34, s_.1), (36, .int .i64 t121)]) (fun s_ w' => (w'.cell? ⟨gb101, 0, none⟩ = some (.int .i64 a1_0) ∧ w'.cell? ⟨gb101, 1, none⟩ = some (.int .i64 a1_1)) ∧ (Kd.R (Kd.int .i64) 3 w' w.heap.size (fun _ => True) s_.1 y118) ∧ (∃ c_, (s_.1 : Value) = .slice (some s_.2) y118.length c_) ∧ (w'.heap[gb101]? = some (.cells #[.int .i64 a1_0, .int .i64 a1_1] 26 (0, 0))) ∧ (IsS117 w0 w' g s0_0 t122) ∧ (KeepBut w w' g none) ∧ (Below w0.heap.size w0 w')) ?_ ?_
    rotate_left
    ·intro hCont
     refine two_ (i := 14) (j := 16) (Ni := some 34) (Nj := some 36) (zl 21 65535) (zl 21 114687) rfl rfl rfl rfl (two_of HT_.out (by kernel_rfl)) (by decide) (by decide) (fun K hK => ?_) (fun K hK => ?_)
     ·skip
      refine Kd.R_lit_step (Kd.int .i64) _ 3 ?hg (N := 34) ?hd (xs := ([0, (-1), t113, wrap64 (t114 - 1), t116] : List Int)) (inner := [.int .i64 0, .int .i64 (-1), .int .i64 t113, .int .i64 (wrap64 (t114 - 1)), .int .i64 t116]) (ok := fun _ => True) (okp := fun _ => True) ?hr ?hp (fun _ hk => hk) trivial (Below.refl _ _) (Nat.le_refl _) (by simp) ?_; (case hd => rfl); (case hg => rfl); (case hr => first | (go_simp; done) | (go_simp; rfl)); (case hp => exact (Reps.one (show Kd.M (Kd.int .i64) _ _ _ 0 [.int .i64 0] from rfl) (Reps.one (show Kd.M (Kd.int .i64) _ _ _ (-1) [.int .i64 (-1)] from rfl) (Reps.one (show Kd.M (Kd.int .i64) _ _ _ t113 [.int .i64 t113] from rfl) (Reps.one (show Kd.M (Kd.int .i64) _ _ _ (wrap64 (t114 - 1)) [.int .i64 (wrap64 (t114 - 1))] from rfl) (Reps.one (show Kd.M (Kd.int .i64) _ _ _ t116 [.int .i64 t116] from rfl) (Reps.none _ _)))))))
      intro v119 w34 ho35 hb hg_ hnew_
      clear hg_ hnew_
      (first | rw [← Ny118.out] at ho35 | (simp only [Int.reduceToNat] at ho35; rw [← Ny118.out] at ho35))
      have n0_ := zA (Kd.R_lower ho35 (keep_size (w := w) (g := g) (row := none) (zHK)))
      have n1_ := zA (blk_below (g := gb101) (o := .cells #[.int .i64 a1_0, .int .i64 a1_1] 26 (0, 0)) (zb BK101.out) hb)
      have n2_ := zA (IsS117.below (zHI0) hb)
      have n3_ := zA (KeepBut.trans (zHK) (KeepBut.of_below hb g none) (.inl rfl))
      have n4_ := zA (below_step (zHB) hb)
      clear BK101
      clear HI0
      clear HK
      clear HB
      have HO120 := n0_
      have BK101 := n1_
      have HI0 := n2_
      have HK := n3_
      have HB := n4_
      clear n0_ n1_ n2_ n3_ n4_
      clear hb ho35
      obtain ⟨Ao36, co36, eo36⟩ := Kd.R_slice HO120.out
      subst eo36
      obtain ⟨ado36, fo36, _⟩ := Kd.at_int (Kd.R_reads' HO120.out).2.2 0 (by decide) (by rw [Ny118.out]; simp)
      cases fo36
      refine hK.out _ _ ⟨(blk_cell BK101.out 0).trans rfl, (blk_cell BK101.out 1).trans rfl⟩ (fun hHeld => ?_)
      clear hK K
      refine norm_ (a' := ?_) ?_ ?_
      rotate_left
      ·show Act.put _ (some 34) _ = _
       simp only [Act.put, List.setIfInBounds_toArray, List.set_cons_zero, List.set_cons_succ, i64_w, i32_w]
       rfl
      refine one_ (i := 16) (N := some 36) (zl 21 131071) rfl rfl (one_of HT_.out (by kernel_rfl)) (by decide) (fun K hK => ?_)
      refine goes_ Try.func81 (by kernel_rfl) rfl #[.pointer (some ⟨g, 0, none⟩), .int .i64 5] (by rfl) rfl rfl y1  ?_
      with_reducible refine (spec_l1Rd_pick.calls kj2 g s0_0 t117 5 t121 t122 w0 _ ?side1 ?side2 A29.out).mono ?_
      (case side1 => exact zHI0)
      (case side2 => exact zHB)
      rintro e w37 ⟨rfl, hi, hb, hk⟩
      refine ⟨_, rfl, ?_⟩
      have n0_ := zA (KeepBut.blk hk (g' := gb101) (o := .cells #[.int .i64 a1_0, .int .i64 a1_1] 26 (0, 0)) (zb BK101.out) NB101_0.out (by simp))
      have n1_ := zA (Kd.R_mono (Kd.R_keep (IsS117.apart (show IsS117 w0 _ g s0_0 t117 from zHI0) (zr HO120.out) (by decide)) hk (fun _ h => h.2)) (fun _ h => h.1))
      have n2_ := zA (KeepBut.trans (zHK) hk (.inl rfl))
      have n3_ := zA (hb)
      have n4_ := zA (hi)
      clear BK101
      clear HO120
      clear HK
      clear HB
      clear HI0
      have BK101 := n0_
      have HO120 := n1_
      have HK := n2_
      have HB := n3_
      have HI0 := n4_
      clear n0_ n1_ n2_ n3_ n4_
      (try clear hb)
      (try clear hb2)
      (try clear hk)
      (try clear hi)
      refine hK.out _ _ ⟨(blk_cell BK101.out 0).trans rfl, (blk_cell BK101.out 1).trans rfl⟩ (fun hHeld => ?_)
      clear hK K
      refine norm_ (a' := ?_) ?_ ?_
      rotate_left
      ·show Act.put _ (some 36) _ = _
       simp only [Act.put, List.setIfInBounds_toArray, List.set_cons_zero, List.set_cons_succ, i64_w, i32_w]
       rfl
      exact norm_ (by simp only [putAll, Act.put, List.setIfInBounds_toArray, List.set_cons_zero, List.set_cons_succ]) (hCont (.slice (some ado36) y118.length co36, ado36) _ ⟨hHeld, (zr HO120.out), ⟨_, rfl⟩, (zb BK101.out), (zHI0), (zHK), (zHB)⟩)
     skip
     refine goes_ Try.func81 (by kernel_rfl) rfl #[.pointer (some ⟨g, 0, none⟩), .int .i64 5] (by rfl) rfl rfl y1  ?_
     with_reducible refine (spec_l1Rd_pick.calls kj2 g s0_0 t117 5 t121 t122 w0 _ ?side1 ?side2 A29.out).mono ?_
     (case side1 => exact zHI0)
     (case side2 => exact zHB)
     rintro e w34 ⟨rfl, hi, hb, hk⟩
     refine ⟨_, rfl, ?_⟩
     have n0_ := zA (KeepBut.blk hk (g' := gb101) (o := .cells #[.int .i64 a1_0, .int .i64 a1_1] 26 (0, 0)) (zb BK101.out) NB101_0.out (by simp))
     have n1_ := zA (KeepBut.trans (zHK) hk (.inl rfl))
     have n2_ := zA (hb)
     have n3_ := zA (hi)
     clear BK101
     clear HK
     clear HB
     clear HI0
     have BK101 := n0_
     have HK := n1_
     have HB := n2_
     have HI0 := n3_
     clear n0_ n1_ n2_ n3_
     (try clear hb)
     (try clear hb2)
     (try clear hk)
     (try clear hi)
     refine hK.out _ _ ⟨(blk_cell BK101.out 0).trans rfl, (blk_cell BK101.out 1).trans rfl⟩ (fun hHeld => ?_)
     clear hK K
     refine norm_ (a' := ?_) ?_ ?_
     rotate_left
     ·show Act.put _ (some 36) _ = _
      simp only [Act.put, List.setIfInBounds_toArray, List.set_cons_zero, List.set_cons_succ, i64_w, i32_w]
      rfl
     refine one_ (i := 14) (N := some 34) (zl 21 131071) rfl rfl (one_of HT_.out (by kernel_rfl)) (by decide) (fun K hK => ?_)
     refine Kd.R_lit_step (Kd.int .i64) _ 3 ?hg (N := 34) ?hd (xs := ([0, (-1), t113, wrap64 (t114 - 1), t116] : List Int)) (inner := [.int .i64 0, .int .i64 (-1), .int .i64 t113, .int .i64 (wrap64 (t114 - 1)), .int .i64 t116]) (ok := fun _ => True) (okp := fun _ => True) ?hr ?hp (fun _ hk => hk) trivial (Below.refl _ _) (Nat.le_refl _) (by simp) ?_; (case hd => rfl); (case hg => rfl); (case hr => first | (go_simp; done) | (go_simp; rfl)); (case hp => exact (Reps.one (show Kd.M (Kd.int .i64) _ _ _ 0 [.int .i64 0] from rfl) (Reps.one (show Kd.M (Kd.int .i64) _ _ _ (-1) [.int .i64 (-1)] from rfl) (Reps.one (show Kd.M (Kd.int .i64) _ _ _ t113 [.int .i64 t113] from rfl) (Reps.one (show Kd.M (Kd.int .i64) _ _ _ (wrap64 (t114 - 1)) [.int .i64 (wrap64 (t114 - 1))] from rfl) (Reps.one (show Kd.M (Kd.int .i64) _ _ _ t116 [.int .i64 t116] from rfl) (Reps.none _ _)))))))
     intro v119 w35 ho36 hb hg_ hnew_
     clear hg_ hnew_
     (first | rw [← Ny118.out] at ho36 | (simp only [Int.reduceToNat] at ho36; rw [← Ny118.out] at ho36))
     have n0_ := zA (Kd.R_lower ho36 (keep_size (w := w) (g := g) (row := none) (zHK)))
     have n1_ := zA (blk_below (g := gb101) (o := .cells #[.int .i64 a1_0, .int .i64 a1_1] 26 (0, 0)) (zb BK101.out) hb)
     have n2_ := zA (IsS117.below (zHI0) hb)
     have n3_ := zA (KeepBut.trans (zHK) (KeepBut.of_below hb g none) (.inl rfl))
     have n4_ := zA (below_step (zHB) hb)
     clear BK101
     clear HI0
     clear HK
     clear HB
     have HO120 := n0_
     have BK101 := n1_
     have HI0 := n2_
     have HK := n3_
     have HB := n4_
     clear n0_ n1_ n2_ n3_ n4_
     clear hb ho36
     obtain ⟨Ao37, co37, eo37⟩ := Kd.R_slice HO120.out
     subst eo37
     obtain ⟨ado37, fo37, _⟩ := Kd.at_int (Kd.R_reads' HO120.out).2.2 0 (by decide) (by rw [Ny118.out]; simp)
     cases fo37
     refine hK.out _ _ ⟨(blk_cell BK101.out 0).trans rfl, (blk_cell BK101.out 1).trans rfl⟩ (fun hHeld => ?_)
     clear hK K
     refine norm_ (a' := ?_) ?_ ?_
     rotate_left
     ·show Act.put _ (some 34) _ = _
      simp only [Act.put, List.setIfInBounds_toArray, List.set_cons_zero, List.set_cons_succ, i64_w, i32_w]
      rfl
     exact norm_ (by simp only [putAll, Act.put, List.setIfInBounds_toArray, List.set_cons_zero, List.set_cons_succ]) (hCont (.slice (some ado37) y118.length co37, ado37) _ ⟨hHeld, (zr HO120.out), ⟨_, rfl⟩, (zb BK101.out), (zHI0), (zHK), (zHB)⟩)
    rintro ⟨v119, adz_v119⟩ w38 ⟨hS_, h0_, h1_, h2_, h3_, h4_, h5_⟩
    have n0_ : Aside0 (Kd.R (Kd.int .i64) 3 w38 w.heap.size (fun _ => True) v119 y118) := ⟨h0_⟩
    have n1_ : Aside0 (∃ c_, (v119 : Value) = .slice (some adz_v119) y118.length c_) := ⟨h1_⟩
    have n2_ : Aside0 (w38.heap[gb101]? = some (.cells #[.int .i64 a1_0, .int .i64 a1_1] 26 (0, 0))) := ⟨h2_⟩
    have n3_ : Aside0 (IsS117 w0 w38 g s0_0 t122) := ⟨h3_⟩
    have n4_ : Aside0 (KeepBut w w38 g none) := ⟨h4_⟩
    have n5_ : Aside0 (Below w0.heap.size w0 w38) := ⟨h5_⟩
    clear BK101
    clear HI0
    clear HK
    clear HB
    clear h0_ h1_ h2_ h3_ h4_ h5_
    have HO120 := n0_
    have HA_HO120 := n1_
    have BK101 := n2_
    have HI0 := n3_
    have HK := n4_
    have HB := n5_
    clear n0_ n1_ n2_ n3_ n4_ n5_
    have hHeld : w38.cell? ⟨gb101, 0, none⟩ = some (.int .i64 a1_0) ∧ w38.cell? ⟨gb101, 1, none⟩ = some (.int .i64 a1_1) := hS_
    obtain ⟨co39, eo39⟩ := HA_HO120.out
    clear HA_HO120
    subst eo39
    refine norm_ (a' := ?_) ?_ ?_
    rotate_left
    ·simp only [putAll, Act.put, List.setIfInBounds_toArray, List.set_cons_zero, List.set_cons_succ]
     rfl
    refine pure_ (i := 17) (N := some 37) (v := ?_) (a' := ?_) (zl 21 262143) rfl rfl (any_of HT_.out (by kernel_rfl)) (fun _ _ _ h => h) (Or.inl ⟨by rfl, ?_⟩) ?_ ?_
    rotate_left
    ·intro w'
     go_simp
     with_reducible rfl
    rotate_left
    ·simp only [Act.put, List.setIfInBounds_toArray, List.set_cons_zero, List.set_cons_succ, i64_w, i32_w]
     rfl
    refine one_ (i := 18) (N := some 38) (zl 21 524287) rfl rfl (one_of HT_.out (by kernel_rfl)) (by decide) (fun K hK => ?_)
    (have p123 : 0 ≤ (t121 : Int) := of_decide_eq_true y2 ; have q123 : t121 < (y118.length : Int) := of_decide_eq_true y2 ; obtain ⟨ad123, e123, hx123_0⟩ := Kd.at_int (Kd.R_reads' HO120.out).2.2 t121 p123 q123; obtain rfl : adz_v119 = ad123 := (by injection e123))
    refine value_ (w1 := ?_) (v := ?_) (by rfl) rfl ?_ ?_
    rotate_left 2
    ·go_simp
     constructor
     ·rfl
     rfl
    clear hx123_0
    refine hK.out _ _ ⟨(blk_cell BK101.out 0).trans rfl, (blk_cell BK101.out 1).trans rfl⟩ (fun hHeld => ?_)
    clear hK K
    refine norm_ (a' := ?_) ?_ ?_
    rotate_left
    ·show Act.put _ (some 38) _ = _
     simp only [Act.put, List.setIfInBounds_toArray, List.set_cons_zero, List.set_cons_succ, i64_w, i32_w]
     rfl
    refine pure_ (i := 19) (N := some 39) (v := ?_) (a' := ?_) (zl 21 1048575) rfl rfl (any_of HT_.out (by kernel_rfl)) (fun _ _ _ h => h) (Or.inl ⟨by rfl, ?_⟩) ?_ ?_
    rotate_left
    ·intro w'
     go_simp
     with_reducible rfl
    rotate_left
    ·simp only [Act.put, List.setIfInBounds_toArray, List.set_cons_zero, List.set_cons_succ, i64_w, i32_w]
     rfl
    refine pure_ (i := 20) (N := some 4) (v := ?_) (a' := ?_) (zl 21 2097151) rfl rfl (any_of HT_.out (by kernel_rfl)) (fun _ _ _ h => h) (Or.inl ⟨by rfl, ?_⟩) ?_ ?_
    rotate_left
    ·intro w'
     go_simp
     with_reducible rfl
    rotate_left
    ·simp only [Act.put, List.setIfInBounds_toArray, List.set_cons_zero, List.set_cons_succ, i64_w, i32_w]
     rfl
    refine done_ (done_of HT_.out (by kernel_rfl)) ?_
    try go_wp2
    go_ret
    exact ⟨by first | rfl | (simp [errW_none, errW_some] <;> rfl) | (simp [*, errW_none, errW_some] <;> rfl), zHI0, zHB, zHK⟩
   rw [if_neg c31] at H
   exact absurd H (by simp)
  rw [if_neg c30] at H
  exact absurd H (by simp)
end Go.Proofs.Ytnakanjhdcakhaa.Q
namespace Go.Proofs.Ytnakanjhdcakhaa.Q
open Go.RowKit Go.Proofs.YtnakanjhdcakhaaW.PrintWords Go.Proofs.YtnakanjhdcakhaaW.PrintLast Go.Proofs.YtnakanjhdcakhaaW.PrintMore
attribute [local go_sem] max2_int min2_int max_two min_two max_three min_three max_four min_four   -- for this text's walks alone
set_option linter.unusedVariables false
set_option linter.unusedSimpArgs false
mutual
def spec_l5Packet.j0 : Nat → List (S54) → Bool → List Int → Int → Int → Int → Int → Option (Int × Int × Int × Int)
  | 0, _, _, _, _, _, _, _ => none
  | k + 1, x1, x22, x1000, x1001, x109000, x109001, x109002 => if x22 = true then ((spec_l1Rd_pick.f k x1000 x1001 (x1.length : Int)).bind fun bt111 => (if 0 ≤ bt111.1 then (if bt111.1 < (x1.length : Int) then ((spec_l5Addr.f k x1000 bt111.2 ((rd_T54 x1 bt111.1).f1.f0) ((rd_T54 x1 bt111.1).f1.f1)).bind fun bt115 => ((spec_l5Addr.f k x1000 bt115.2 ((rd_T54 x1 bt111.1).f2.f0) ((rd_T54 x1 bt111.1).f2.f1)).bind fun bt117 => (if ((rd_T54 x1 bt111.1).f3) > 0 then ((spec_l1Rd_pick.f k x1000 bt117.2 3).bind fun bt119 => (if bt119.1 > 0 then (spec_l5Packet.j1 k x1000 bt119.2 bt115.1 bt117.1 ((rd_T54 x1 bt111.1).f3)) else (spec_l5Packet.j1 k x1000 bt119.2 bt115.1 bt117.1 x109002))) else (spec_l5Packet.j1 k x1000 bt117.2 bt115.1 bt117.1 x109002)))) else (none)) else (none))) else (spec_l5Packet.j1 k x1000 x1001 x109000 x109001 x109002)
def spec_l5Packet.j1 : Nat → List Int → Int → Int → Int → Int → Option (Int × Int × Int × Int)
  | 0, _, _, _, _, _ => none
  | k + 1, x1000, x1001, x109000, x109001, x109002 => (spec_l1Rd_pick.f k x1000 x1001 24).bind fun bt121 => (if bt121.1 = 0 then ((some (([0, 8, (-1)] : List Int) : List Int)).bind fun y123 => ((spec_l1Rd_pick.f k x1000 bt121.2 3).bind fun bt126 => (if 0 ≤ bt126.1 then (if bt126.1 < (y123.length : Int) then (some (x109000, x109001, rd y123 bt126.1, bt126.2)) else (none)) else (none)))) else (some (x109000, x109001, x109002, bt121.2)))
end
def spec_l5Packet.f (k : Nat) (s0_0 : List Int) (s0_1 : Int) (l1 : List (S54)) : Option (Int × Int × Int × Int) := (spec_l1Rd_pick.f k s0_0 s0_1 65536).bind fun bt102 => ((spec_l1Rd_pick.f k s0_0 bt102.2 65536).bind fun bt104 => ((spec_l1Rd_pick.f k s0_0 bt104.2 7).bind fun bt106 => (if (l1.length : Int) > 0 then ((spec_l1Rd_pick.f k s0_0 bt106.2 5).bind fun bt109 => (spec_l5Packet.j0 k l1 (decide (bt109.1 > 0)) s0_0 bt109.2 bt102.1 bt104.1 (wrap64 (1 + bt106.1)))) else (spec_l5Packet.j0 k l1 false s0_0 bt106.2 bt102.1 bt104.1 (wrap64 (1 + bt106.1))))))
theorem spec_l5Packet.zHI0 {P : Prop} (h : P := by repeat (first | (with_reducible first | exact HI0.out | apply IsS117.alloc | apply IsS117.drewN | apply IsS117.drew | apply IsS117.set_1 | refine IsS117.far ?_ NB0_101.out _ | refine IsS117.far ?_ NB0_108.out _ | refine IsS117.far ?_ NB0_114.out _) | exact HI0.out)) : P := h
theorem spec_l5Packet.zHK {P : Prop} (h : P := by repeat (first | (with_reducible first | exact HK.out | apply KeepBut.set_ | apply keep_drewN | apply keep_drew | apply keep_alloc | refine keep_far ?_ GW101.out _ | refine keep_far ?_ GW108.out _ | refine keep_far ?_ GW114.out _) | exact HK.out)) : P := h
theorem spec_l5Packet.zHB {P : Prop} (h : P := by repeat (first | (with_reducible first | exact HB.out | apply below_alloc | apply pw_below_drewN | apply below_drew1 | refine below_set ?_ (IsS117.ge HI0.out) | refine below_set ?_ GE101.out | refine below_set ?_ GE108.out | refine below_set ?_ GE114.out) | exact HB.out)) : P := h
theorem spec_l5Packet.zb {P Q : Prop} (x : Q) (h : Q → P := by intro x_; (with_reducible repeat (first | refine blk_drewN ?_ _ | refine blk_drew ?_ | refine blk_alloc ?_ _)); exact x_) : P := h x
theorem spec_l5Packet.zq {P Q : Prop} (x : Q) (h : Q → P := by intro x_; (with_reducible repeat (first | refine blk_drewN ?_ _ | refine blk_drew ?_ | refine blk_alloc ?_ _)); exact x_) : P := h x
theorem spec_l5Packet.y1 {P : Prop} (h : P := by refine zq ?_; refine blk_put (cs := #[.bool ((rd_T54 l1 t111).f0), .int .i64 ((rd_T54 l1 t111).f1.f0), .int .i64 ((rd_T54 l1 t111).f1.f1), .int .i64 ((rd_T54 l1 t111).f2.f0), .int .i64 ((rd_T54 l1 t111).f2.f1), .int .i64 0]) ?_ 5 _ rfl; refine zq ?_; refine blk_put (cs := #[.bool ((rd_T54 l1 t111).f0), .int .i64 ((rd_T54 l1 t111).f1.f0), .int .i64 ((rd_T54 l1 t111).f1.f1), .int .i64 ((rd_T54 l1 t111).f2.f0), .int .i64 0, .int .i64 0]) ?_ 4 _ rfl; refine zq ?_; refine blk_put (cs := #[.bool ((rd_T54 l1 t111).f0), .int .i64 ((rd_T54 l1 t111).f1.f0), .int .i64 ((rd_T54 l1 t111).f1.f1), .int .i64 0, .int .i64 0, .int .i64 0]) ?_ 3 _ rfl; refine zq ?_; refine blk_put (cs := #[.bool ((rd_T54 l1 t111).f0), .int .i64 ((rd_T54 l1 t111).f1.f0), .int .i64 0, .int .i64 0, .int .i64 0, .int .i64 0]) ?_ 2 _ rfl; refine zq ?_; refine blk_put (cs := #[.bool ((rd_T54 l1 t111).f0), .int .i64 0, .int .i64 0, .int .i64 0, .int .i64 0, .int .i64 0]) ?_ 1 _ rfl; refine zq ?_; refine blk_put (cs := #[.bool false, .int .i64 0, .int .i64 0, .int .i64 0, .int .i64 0, .int .i64 0]) ?_ 0 _ rfl; refine zq ?_; exact BK114.out) : P := h
theorem spec_l5Packet.y2 {P : Prop} (h : P := by refine zq ?_; refine blk_far ?_ NB101_114.out _; refine zq ?_; refine blk_far ?_ NB101_114.out _; refine zq ?_; refine blk_far ?_ NB101_114.out _; refine zq ?_; refine blk_far ?_ NB101_114.out _; refine zq ?_; refine blk_far ?_ NB101_114.out _; refine zq ?_; refine blk_far ?_ NB101_114.out _; refine zq ?_; exact BK101.out) : P := h
theorem spec_l5Packet.y3 {P : Prop} (h : P := by refine zq ?_; refine blk_far ?_ NB108_114.out _; refine zq ?_; refine blk_far ?_ NB108_114.out _; refine zq ?_; refine blk_far ?_ NB108_114.out _; refine zq ?_; refine blk_far ?_ NB108_114.out _; refine zq ?_; refine blk_far ?_ NB108_114.out _; refine zq ?_; refine blk_far ?_ NB108_114.out _; refine zq ?_; exact BK108.out) : P := h
theorem spec_l5Packet.y4 {P : Prop} (h : P := by rw [hg]; exact Nat.ne_of_lt (blk_lt (g := gb108) (o := .cells #[.int .i64 t102, .int .i64 t104, .int .i64 (wrap64 (1 + t106))] 34 (0, 0)) (zb BK108.out))) : P := h
theorem spec_l5Packet.y5 {P : Prop} (h : P := by rw [hg]; exact Nat.ne_of_gt (blk_lt (g := gb108) (o := .cells #[.int .i64 t102, .int .i64 t104, .int .i64 (wrap64 (1 + t106))] 34 (0, 0)) (zb BK108.out))) : P := h
theorem spec_l5Packet.y6 {P : Prop} (h : P := by rw [hg]; exact Nat.ne_of_lt (blk_lt (g := gb101) (o := .cells #[.int .i64 0, .int .i64 0, .int .i64 0] 34 (0, 0)) (zb BK101.out))) : P := h
theorem spec_l5Packet.y7 {P : Prop} (h : P := by rw [hg]; exact Nat.ne_of_gt (blk_lt (g := gb101) (o := .cells #[.int .i64 0, .int .i64 0, .int .i64 0] 34 (0, 0)) (zb BK101.out))) : P := h
theorem spec_l5Packet.y8 {P : Prop} (h : P := by refine zq ?_; refine blk_put (cs := #[.int .i64 t102, .int .i64 t104, .int .i64 (wrap64 (1 + t106))]) ?_ 0 _ rfl; refine zq ?_; exact BK108.out) : P := h
theorem spec_l5Packet.y9 {P : Prop} (h : P := by (try simp only [List.map_toArray, List.map_cons, List.map_nil]); first | done | rfl | (simp only [List.length_drop, List.length_take]; rfl)) : P := h
theorem spec_l5Packet.y10 {P : Prop} (h : P := by rw [hg]; exact Nat.ne_of_lt (IsS117.lt (show IsS117 w0 _ g s0_0 t112 from zHI0))) : P := h
theorem spec_l5Packet.y11 {P : Prop} (h : P := by rw [hg]; exact Nat.ne_of_gt (IsS117.lt (show IsS117 w0 _ g s0_0 t112 from zHI0))) : P := h
theorem spec_l5Packet.y12 {P : Prop} (h : P := by rw [hg]; exact (keep_size (w := w) (g := g) (row := none) (zHK))) : P := h
theorem spec_l5Packet.y13 {P : Prop} (h : P := by refine zq ?_; refine blk_far ?_ NB101_108.out _; refine zq ?_; exact BK101.out) : P := h
theorem spec_l5Packet.y14 {P : Prop} (h : P := by refine zq ?_; refine blk_far ?_ NB114_108.out _; refine zq ?_; exact BK114.out) : P := h
theorem spec_l5Packet.y15 {P : Prop} (h : P := by first | (with_reducible assumption) | assumption) : P := h
theorem spec_l5Packet.zA {p : Prop} (h : p) : Aside0 p := ⟨h⟩
set_option maxHeartbeats 8000000 in
set_option maxRecDepth 100000 in
theorem spec_l5Packet.calls (k : Nat) (g : Nat) (s0_0 : List Int) (s0_1 : Int) (A1 : Option Addr) (c1 : Nat) (l1 : List (S54)) (r1 : Int) (r2 : Int) (r3 : Int) (r4 : Int) (w0 w : World) (hI : IsS117 w0 w g s0_0 s0_1) (hB : Below w0.heap.size w0 w) (hr1 : ∀ W_, KeepBut w W_ g none → Kd.C k54 W_ A1 l1.length l1) (hc1 : l1.length ≤ c1) (h : spec_l5Packet.f k s0_0 s0_1 l1 = some (r1, r2, r3, r4)) :
  Calls Try.prog 87 #[.pointer (some ⟨g, 0, none⟩), .slice A1 l1.length c1] w fun e w' => e = .returned (.agg #[.int .i64 r1, .int .i64 r2, .int .i64 r3]) ∧ IsS117 w0 w' g s0_0 r4 ∧ Below w0.heap.size w0 w' ∧ KeepBut w w' g none := by
 have hu34 := Try.underlying34
 have hu54 := Try.underlying54
 have hu26 := Try.underlying26
 have HR1 := zA hr1
 have HC1 := zA hc1
 clear hr1 hc1
 have HI0 := zA hI
 have HK := zA (KeepBut.refl w g none)
 have HL := zA hB.size
 clear hI
 have HW0 := zA hB.size
 have HB := zA hB
 clear hB
 have H : ((spec_l1Rd_pick.f k s0_0 s0_1 65536).bind fun bt102 => ((spec_l1Rd_pick.f k s0_0 bt102.2 65536).bind fun bt104 => ((spec_l1Rd_pick.f k s0_0 bt104.2 7).bind fun bt106 => (if (l1.length : Int) > 0 then ((spec_l1Rd_pick.f k s0_0 bt106.2 5).bind fun bt109 => (spec_l5Packet.j0 k l1 (decide (bt109.1 > 0)) s0_0 bt109.2 bt102.1 bt104.1 (wrap64 (1 + bt106.1)))) else (spec_l5Packet.j0 k l1 false s0_0 bt106.2 bt102.1 bt104.1 (wrap64 (1 + bt106.1))))))) = some (r1, r2, r3, r4) := h
 clear h
 replace H := Option.bind_eq_some_iff.mp H
 obtain ⟨⟨t102, t103⟩, A30, H⟩ := H
 replace H : ((spec_l1Rd_pick.f k s0_0 t103 65536).bind fun bt104 => ((spec_l1Rd_pick.f k s0_0 bt104.2 7).bind fun bt106 => (if (l1.length : Int) > 0 then ((spec_l1Rd_pick.f k s0_0 bt106.2 5).bind fun bt109 => (spec_l5Packet.j0 k l1 (decide (bt109.1 > 0)) s0_0 bt109.2 t102 bt104.1 (wrap64 (1 + bt106.1)))) else (spec_l5Packet.j0 k l1 false s0_0 bt106.2 t102 bt104.1 (wrap64 (1 + bt106.1)))))) = some (r1, r2, r3, r4) := H
 have A3 := zA A30
 clear A30
 replace H := Option.bind_eq_some_iff.mp H
 obtain ⟨⟨t104, t105⟩, A40, H⟩ := H
 replace H : ((spec_l1Rd_pick.f k s0_0 t105 7).bind fun bt106 => (if (l1.length : Int) > 0 then ((spec_l1Rd_pick.f k s0_0 bt106.2 5).bind fun bt109 => (spec_l5Packet.j0 k l1 (decide (bt109.1 > 0)) s0_0 bt109.2 t102 t104 (wrap64 (1 + bt106.1)))) else (spec_l5Packet.j0 k l1 false s0_0 bt106.2 t102 t104 (wrap64 (1 + bt106.1))))) = some (r1, r2, r3, r4) := H
 have A4 := zA A40
 clear A40
 replace H := Option.bind_eq_some_iff.mp H
 obtain ⟨⟨t106, t107⟩, A50, H⟩ := H
 replace H : (if (l1.length : Int) > 0 then ((spec_l1Rd_pick.f k s0_0 t107 5).bind fun bt109 => (spec_l5Packet.j0 k l1 (decide (bt109.1 > 0)) s0_0 bt109.2 t102 t104 (wrap64 (1 + t106)))) else (spec_l5Packet.j0 k l1 false s0_0 t107 t102 t104 (wrap64 (1 + t106)))) = some (r1, r2, r3, r4) := H
 have A5 := zA A50
 clear A50
 have HC6 := zA H
 clear H
 go_enter Try.func87, Try.ntmps87
 go_upto_region 2 with (first | ((with_reducible refine gate_dst (N := 4) rfl ?_); refine box_event ?hg (N := 4) ?hd (cs := #[.int .i64 0, .int .i64 0, .int .i64 0]) (t := 34) ?hr ?_; (case hd => rfl); (case hg => rfl); (case hr => first | (go_simp; done) | (go_simp; rfl)); intro gb101 hg w7 hbox hb; have n0_ := zA (IsS117.below (zHI0) hb); have n1_ := zA (KeepBut.trans (zHK) (KeepBut.of_below hb g none) (.inl rfl)); have n2_ := zA (below_step (zHB) hb); have n3_ := zA (hbox); have n4_ := zA ((by rw [hg]; exact (keep_size (w := w) (g := g) (row := none) (zHK)) : w.heap.size ≤ gb101)); have n5_ := zA ((Nat.le_trans HW0.out (by rw [hg]; exact (keep_size (w := w) (g := g) (row := none) (zHK)) : w.heap.size ≤ gb101) : w0.heap.size ≤ gb101)); have n6_ := zA ((by rw [hg]; exact Nat.ne_of_lt (IsS117.lt (show IsS117 w0 _ g s0_0 s0_1 from zHI0)) : g ≠ gb101)); have n7_ := zA ((by rw [hg]; exact Nat.ne_of_gt (IsS117.lt (show IsS117 w0 _ g s0_0 s0_1 from zHI0)) : gb101 ≠ g)); clear HI0; clear HK; clear HB; have HI0 := n0_; have HK := n1_; have HB := n2_; have BK101 := n3_; have GW101 := n4_; have GE101 := n5_; have NB0_101 := n6_; have NB101_0 := n7_; clear n0_ n1_ n2_ n3_ n4_ n5_ n6_ n7_; clear hb hbox hg) | ((with_reducible refine gate_callee (f := 81) rfl ?_); refine goesL_ (some 8) rfl rfl Try.func81 (by kernel_rfl) rfl #[.pointer (some ⟨g, 0, none⟩), .int .i64 65536] rfl y9  ?_; (with_reducible refine (spec_l1Rd_pick.calls k g s0_0 s0_1 65536 t102 t103 w0 _ ?side1 ?side2 A3.out).mono ?_); (case side1 => exact zHI0); (case side2 => exact zHB); rintro e w8 ⟨rfl, hi, hb, hk⟩; refine ⟨_, rfl, ?_⟩; have n0_ := zA (KeepBut.blk hk (g' := gb101) (o := .cells #[.int .i64 0, .int .i64 0, .int .i64 0] 34 (0, 0)) (zb BK101.out) NB101_0.out (by simp)); have n1_ := zA (KeepBut.trans (zHK) hk (.inl rfl)); have n2_ := zA (hb); have n3_ := zA (hi); clear BK101; clear HK; clear HB; clear HI0; have BK101 := n0_; have HK := n1_; have HB := n2_; have HI0 := n3_; clear n0_ n1_ n2_ n3_; (try clear hb); (try clear hb2); (try clear hk); (try clear hi)) | ((with_reducible refine gate_callee (f := 81) rfl ?_); refine goesL_ (some 10) rfl rfl Try.func81 (by kernel_rfl) rfl #[.pointer (some ⟨g, 0, none⟩), .int .i64 65536] rfl y9  ?_; (with_reducible refine (spec_l1Rd_pick.calls k g s0_0 t103 65536 t104 t105 w0 _ ?side1 ?side2 A4.out).mono ?_); (case side1 => exact zHI0); (case side2 => exact zHB); rintro e w9 ⟨rfl, hi, hb, hk⟩; refine ⟨_, rfl, ?_⟩; have n0_ := zA (KeepBut.blk hk (g' := gb101) (o := .cells #[.int .i64 0, .int .i64 0, .int .i64 0] 34 (0, 0)) (zb BK101.out) NB101_0.out (by simp)); have n1_ := zA (KeepBut.trans (zHK) hk (.inl rfl)); have n2_ := zA (hb); have n3_ := zA (hi); clear BK101; clear HK; clear HB; clear HI0; have BK101 := n0_; have HK := n1_; have HB := n2_; have HI0 := n3_; clear n0_ n1_ n2_ n3_; (try clear hb); (try clear hb2); (try clear hk); (try clear hi)) | ((with_reducible refine gate_callee (f := 81) rfl ?_); refine goesL_ (some 12) rfl rfl Try.func81 (by kernel_rfl) rfl #[.pointer (some ⟨g, 0, none⟩), .int .i64 7] rfl y9  ?_; (with_reducible refine (spec_l1Rd_pick.calls k g s0_0 t105 7 t106 t107 w0 _ ?side1 ?side2 A5.out).mono ?_); (case side1 => exact zHI0); (case side2 => exact zHB); rintro e w10 ⟨rfl, hi, hb, hk⟩; refine ⟨_, rfl, ?_⟩; have n0_ := zA (KeepBut.blk hk (g' := gb101) (o := .cells #[.int .i64 0, .int .i64 0, .int .i64 0] 34 (0, 0)) (zb BK101.out) NB101_0.out (by simp)); have n1_ := zA (KeepBut.trans (zHK) hk (.inl rfl)); have n2_ := zA (hb); have n3_ := zA (hi); clear BK101; clear HK; clear HB; clear HI0; have BK101 := n0_; have HK := n1_; have HB := n2_; have HI0 := n3_; clear n0_ n1_ n2_ n3_; (try clear hb); (try clear hb2); (try clear hk); (try clear hi)) | ((with_reducible refine gate_dst (N := 5) rfl ?_); refine box_event ?hg (N := 5) ?hd (cs := #[.int .i64 0, .int .i64 0, .int .i64 0]) (t := 34) ?hr ?_; (case hd => rfl); (case hg => rfl); (case hr => first | (go_simp; done) | (go_simp; rfl)); intro gb108 hg w11 hbox hb; have n0_ := zA (IsS117.below (zHI0) hb); have n1_ := zA (blk_below (g := gb101) (o := .cells #[.int .i64 0, .int .i64 0, .int .i64 0] 34 (0, 0)) (zb BK101.out) hb); have n2_ := zA (KeepBut.trans (zHK) (KeepBut.of_below hb g none) (.inl rfl)); have n3_ := zA (below_step (zHB) hb); have n4_ := zA (hbox); have n5_ := zA ((by rw [hg]; exact (keep_size (w := w) (g := g) (row := none) (zHK)) : w.heap.size ≤ gb108)); have n6_ := zA ((Nat.le_trans HW0.out (by rw [hg]; exact (keep_size (w := w) (g := g) (row := none) (zHK)) : w.heap.size ≤ gb108) : w0.heap.size ≤ gb108)); have n7_ := zA ((by rw [hg]; exact Nat.ne_of_lt (blk_lt (g := gb101) (o := .cells #[.int .i64 0, .int .i64 0, .int .i64 0] 34 (0, 0)) (zb BK101.out)) : gb101 ≠ gb108)); have n8_ := zA ((by rw [hg]; exact Nat.ne_of_gt (blk_lt (g := gb101) (o := .cells #[.int .i64 0, .int .i64 0, .int .i64 0] 34 (0, 0)) (zb BK101.out)) : gb108 ≠ gb101)); have n9_ := zA ((by rw [hg]; exact Nat.ne_of_lt (IsS117.lt (show IsS117 w0 _ g s0_0 t107 from zHI0)) : g ≠ gb108)); have n10_ := zA ((by rw [hg]; exact Nat.ne_of_gt (IsS117.lt (show IsS117 w0 _ g s0_0 t107 from zHI0)) : gb108 ≠ g)); clear HI0; clear BK101; clear HK; clear HB; have HI0 := n0_; have BK101 := n1_; have HK := n2_; have HB := n3_; have BK108 := n4_; have GW108 := n5_; have GE108 := n6_; have NB101_108 := n7_; have NB108_101 := n8_; have NB0_108 := n9_; have NB108_0 := n10_; clear n0_ n1_ n2_ n3_ n4_ n5_ n6_ n7_ n8_ n9_ n10_; clear hb hbox hg; have hnb12 := NB108_101.out; have hnc12 := NB101_108.out; have hnb13 := NB108_0.out; have hnc13 := NB0_108.out; have hcz14_0 : w11.cell? ⟨gb108, 0, none⟩ = some (.int .i64 0) := (blk_cell BK108.out 0).trans rfl; have hcz14_1 : w11.cell? ⟨gb108, 1, none⟩ = some (.int .i64 0) := (blk_cell BK108.out 1).trans rfl; have hcz14_2 : w11.cell? ⟨gb108, 2, none⟩ = some (.int .i64 0) := (blk_cell BK108.out 2).trans rfl; have hfz14_0 := blk_frozen BK108.out 0; have hfz14_1 := blk_frozen BK108.out 1; have hfz14_2 := blk_frozen BK108.out 2))
 (try simp only [Act.put, List.setIfInBounds_toArray, List.set_cons_zero, List.set_cons_succ])
 go_cut [22] (fun v22 wc => ∃ (kq : Nat) (x22_5 : Bool) (x1001_5 : Int), v22 = .bool x22_5 ∧ Aside0 (spec_l5Packet.j0 kq l1 x22_5 s0_0 x1001_5 t102 t104 (wrap64 (1 + t106)) = some (r1, r2, r3, r4)) ∧ Aside0 (kq ≤ k) ∧ Aside0 (wc.heap[gb101]? = some (.cells #[.int .i64 0, .int .i64 0, .int .i64 0] 34 (0, 0))) ∧ Aside0 (wc.heap[gb108]? = some (.cells #[.int .i64 t102, .int .i64 t104, .int .i64 (wrap64 (1 + t106))] 34 (0, 0))) ∧ Aside0 (IsS117 w0 wc g s0_0 x1001_5) ∧ Aside0 (KeepBut w wc g none) ∧ Aside0 (Below w0.heap.size w0 wc))
 case first =>
  have H := HC6.out
  clear HC6
  by_cases c15 : (l1.length : Int) > 0
  ·rw [if_pos c15] at H
   have c15b0 : decide (0 < (l1.length : Int)) = true := decide_eq_true c15
   have c15b1 : decide (0 < l1.length) = true := decide_eq_true (by omega)
   clear c15
   (first | rw [c15b0] | (simp only [i64_w, i32_w]; rw [c15b0]) | skip)
   replace H := Option.bind_eq_some_iff.mp H
   obtain ⟨⟨t109, t110⟩, A160, H⟩ := H
   replace H : (spec_l5Packet.j0 k l1 (decide (t109 > 0)) s0_0 t110 t102 t104 (wrap64 (1 + t106))) = some (r1, r2, r3, r4) := H
   have A16 := zA A160
   clear A160
   have H' := zA H
   clear H
   go_wp2_with (first | (go_at_call 81; (with_reducible refine (spec_l1Rd_pick.calls k g s0_0 t107 5 t109 t110 w0 _ ?side1 ?side2 A16.out).mono ?_); (case side1 => exact zHI0); (case side2 => exact zHB); rintro e w17 ⟨rfl, hi, hb, hk⟩; have n0_ := zA (KeepBut.blk hk (g' := gb101) (o := .cells #[.int .i64 0, .int .i64 0, .int .i64 0] 34 (0, 0)) (by refine zq ?_; refine blk_far ?_ NB101_108.out _; refine zq ?_; refine blk_far ?_ NB101_108.out _; refine zq ?_; refine blk_far ?_ NB101_108.out _; refine zq ?_; exact BK101.out) NB101_0.out (by simp)); have n1_ := zA (KeepBut.blk hk (g' := gb108) (o := .cells #[.int .i64 t102, .int .i64 t104, .int .i64 (wrap64 (1 + t106))] 34 (0, 0)) (by refine zq ?_; refine blk_put (cs := #[.int .i64 t102, .int .i64 t104, .int .i64 0]) ?_ 2 _ rfl; refine zq ?_; refine blk_put (cs := #[.int .i64 t102, .int .i64 0, .int .i64 0]) ?_ 1 _ rfl; refine zq ?_; refine blk_put (cs := #[.int .i64 0, .int .i64 0, .int .i64 0]) ?_ 0 _ rfl; refine zq ?_; exact BK108.out) NB108_0.out (by simp)); have n2_ := zA (KeepBut.trans (zHK) hk (.inl rfl)); have n3_ := zA (hb); have n4_ := zA (hi); clear BK101; clear BK108; clear HK; clear HB; clear HI0; have BK101 := n0_; have BK108 := n1_; have HK := n2_; have HB := n3_; have HI0 := n4_; clear n0_ n1_ n2_ n3_ n4_; (try clear hb); (try clear hb2); (try clear hk); (try clear hi)))
   go_meet
   case rel => exact ⟨_, (decide (t109 > 0)), (t110), (by first | rfl | (simp; done) | (simp [*]; done)), H', ⟨by first | omega | exact Nat.le_refl _⟩, ⟨by refine zq ?_; exact BK101.out⟩, ⟨by refine zq ?_; exact BK108.out⟩, ⟨zHI0⟩, ⟨zHK⟩, ⟨zHB⟩⟩
  rw [if_neg c15] at H
  have c15b0 : decide (0 < (l1.length : Int)) = false := decide_eq_false c15
  have c15b1 : decide (0 < l1.length) = false := decide_eq_false (by omega)
  clear c15
  (first | rw [c15b0] | (simp only [i64_w, i32_w]; rw [c15b0]) | skip)
  have H' := zA H
  clear H
  go_wp2
  go_meet
  case rel => exact ⟨_, (false), (t107), (by first | rfl | (simp; done) | (simp [*]; done)), H', ⟨by first | omega | exact Nat.le_refl _⟩, ⟨by refine zq ?_; refine blk_far ?_ NB101_108.out _; refine zq ?_; refine blk_far ?_ NB101_108.out _; refine zq ?_; refine blk_far ?_ NB101_108.out _; refine zq ?_; exact BK101.out⟩, ⟨by refine zq ?_; refine blk_put (cs := #[.int .i64 t102, .int .i64 t104, .int .i64 0]) ?_ 2 _ rfl; refine zq ?_; refine blk_put (cs := #[.int .i64 t102, .int .i64 0, .int .i64 0]) ?_ 1 _ rfl; refine zq ?_; refine blk_put (cs := #[.int .i64 0, .int .i64 0, .int .i64 0]) ?_ 0 _ rfl; refine zq ?_; exact BK108.out⟩, ⟨zHI0⟩, ⟨zHK⟩, ⟨zHB⟩⟩
 case rest =>
  clear HC6
  try clear c1
  try clear p2
  try clear p6
  try clear c8
  try clear c12
  try clear c13
  try clear c15
  try clear c15b0
  try clear c15b1
  try clear hcz14_0
  try clear hcz14_1
  try clear hcz14_2
  try clear hfz14_0
  try clear hfz14_1
  try clear hfz14_2
  obtain ⟨kq, x22_5, x1001_5, rfl, HA, HJ5, BK101, BK108, HI0, HK, HB⟩ := hcut
  cases kq with
  | zero => exact absurd HA.out (by simp [spec_l5Packet.j0])
  | succ kj5 => ?_
  have H := HA.out
  clear HA
  simp only [spec_l5Packet.j0] at H
  have HC18 := zA H
  clear H
  go_upto_if 22 with (fail)
  go_cut [] (fun wc => ∃ (kq : Nat) (x1001_17 : Int) (x109000_17 : Int) (x109001_17 : Int) (x109002_17 : Int), Aside0 (spec_l5Packet.j1 kq s0_0 x1001_17 x109000_17 x109001_17 x109002_17 = some (r1, r2, r3, r4)) ∧ Aside0 (kq ≤ kj5) ∧ Aside0 (wc.heap[gb101]? = some (.cells #[.int .i64 0, .int .i64 0, .int .i64 0] 34 (0, 0))) ∧ Aside0 (wc.heap[gb108]? = some (.cells #[.int .i64 x109000_17, .int .i64 x109001_17, .int .i64 x109002_17] 34 (0, 0))) ∧ Aside0 (IsS117 w0 wc g s0_0 x1001_17) ∧ Aside0 (KeepBut w wc g none) ∧ Aside0 (Below w0.heap.size w0 wc))
  case first =>
   have H := HC18.out
   clear HC18
   by_cases c19 : x22_5 = true
   ·subst c19
    have H1 : ((spec_l1Rd_pick.f kj5 s0_0 x1001_5 (l1.length : Int)).bind fun bt111 => (if 0 ≤ bt111.1 then (if bt111.1 < (l1.length : Int) then ((spec_l5Addr.f kj5 s0_0 bt111.2 ((rd_T54 l1 bt111.1).f1.f0) ((rd_T54 l1 bt111.1).f1.f1)).bind fun bt115 => ((spec_l5Addr.f kj5 s0_0 bt115.2 ((rd_T54 l1 bt111.1).f2.f0) ((rd_T54 l1 bt111.1).f2.f1)).bind fun bt117 => (if ((rd_T54 l1 bt111.1).f3) > 0 then ((spec_l1Rd_pick.f kj5 s0_0 bt117.2 3).bind fun bt119 => (if bt119.1 > 0 then (spec_l5Packet.j1 kj5 s0_0 bt119.2 bt115.1 bt117.1 ((rd_T54 l1 bt111.1).f3)) else (spec_l5Packet.j1 kj5 s0_0 bt119.2 bt115.1 bt117.1 (wrap64 (1 + t106))))) else (spec_l5Packet.j1 kj5 s0_0 bt117.2 bt115.1 bt117.1 (wrap64 (1 + t106)))))) else (none)) else (none))) = some (r1, r2, r3, r4) := by rw [if_pos rfl] at H; exact H
    clear H
    have H := H1
    clear H1
    replace H := Option.bind_eq_some_iff.mp H
    obtain ⟨⟨t111, t112⟩, A200, H⟩ := H
    replace H : (if 0 ≤ t111 then (if t111 < (l1.length : Int) then ((spec_l5Addr.f kj5 s0_0 t112 ((rd_T54 l1 t111).f1.f0) ((rd_T54 l1 t111).f1.f1)).bind fun bt115 => ((spec_l5Addr.f kj5 s0_0 bt115.2 ((rd_T54 l1 t111).f2.f0) ((rd_T54 l1 t111).f2.f1)).bind fun bt117 => (if ((rd_T54 l1 t111).f3) > 0 then ((spec_l1Rd_pick.f kj5 s0_0 bt117.2 3).bind fun bt119 => (if bt119.1 > 0 then (spec_l5Packet.j1 kj5 s0_0 bt119.2 bt115.1 bt117.1 ((rd_T54 l1 t111).f3)) else (spec_l5Packet.j1 kj5 s0_0 bt119.2 bt115.1 bt117.1 (wrap64 (1 + t106))))) else (spec_l5Packet.j1 kj5 s0_0 bt117.2 bt115.1 bt117.1 (wrap64 (1 + t106)))))) else (none)) else (none)) = some (r1, r2, r3, r4) := H
    have A20 := zA A200
    clear A200
    by_cases c21 : 0 ≤ t111
    ·rw [if_pos c21] at H
     have c21b0 : decide (0 ≤ t111) = true := decide_eq_true c21
     clear c21
     (first | rw [c21b0] | (simp only [i64_w, i32_w]; rw [c21b0]) | skip)
     by_cases c22 : t111 < (l1.length : Int)
     ·rw [if_pos c22] at H
      have c22b0 : decide (t111 < (l1.length : Int)) = true := decide_eq_true c22
      clear c22
      replace H := Option.bind_eq_some_iff.mp H
      obtain ⟨⟨t115, t116⟩, A230, H⟩ := H
      replace H : ((spec_l5Addr.f kj5 s0_0 t116 ((rd_T54 l1 t111).f2.f0) ((rd_T54 l1 t111).f2.f1)).bind fun bt117 => (if ((rd_T54 l1 t111).f3) > 0 then ((spec_l1Rd_pick.f kj5 s0_0 bt117.2 3).bind fun bt119 => (if bt119.1 > 0 then (spec_l5Packet.j1 kj5 s0_0 bt119.2 t115 bt117.1 ((rd_T54 l1 t111).f3)) else (spec_l5Packet.j1 kj5 s0_0 bt119.2 t115 bt117.1 (wrap64 (1 + t106))))) else (spec_l5Packet.j1 kj5 s0_0 bt117.2 t115 bt117.1 (wrap64 (1 + t106))))) = some (r1, r2, r3, r4) := H
      have A23 := zA A230
      clear A230
      replace H := Option.bind_eq_some_iff.mp H
      obtain ⟨⟨t117, t118⟩, A240, H⟩ := H
      replace H : (if ((rd_T54 l1 t111).f3) > 0 then ((spec_l1Rd_pick.f kj5 s0_0 t118 3).bind fun bt119 => (if bt119.1 > 0 then (spec_l5Packet.j1 kj5 s0_0 bt119.2 t115 t117 ((rd_T54 l1 t111).f3)) else (spec_l5Packet.j1 kj5 s0_0 bt119.2 t115 t117 (wrap64 (1 + t106))))) else (spec_l5Packet.j1 kj5 s0_0 t118 t115 t117 (wrap64 (1 + t106)))) = some (r1, r2, r3, r4) := H
      have A24 := zA A240
      clear A240
      by_cases c25 : ((rd_T54 l1 t111).f3) > 0
      ·rw [if_pos c25] at H
       have c25b0 : decide (0 < ((rd_T54 l1 t111).f3)) = true := decide_eq_true c25
       clear c25
       replace H := Option.bind_eq_some_iff.mp H
       obtain ⟨⟨t119, t120⟩, A260, H⟩ := H
       replace H : (if t119 > 0 then (spec_l5Packet.j1 kj5 s0_0 t120 t115 t117 ((rd_T54 l1 t111).f3)) else (spec_l5Packet.j1 kj5 s0_0 t120 t115 t117 (wrap64 (1 + t106)))) = some (r1, r2, r3, r4) := H
       have A26 := zA A260
       clear A260
       by_cases c27 : t119 > 0
       ·rw [if_pos c27] at H
        have c27b0 : decide (0 < t119) = true := decide_eq_true c27
        clear c27
        have H' := zA H
        clear H
        go_wp2_with (first | ((with_reducible refine gate_callee (f := 81) rfl ?_); refine goesL_ (some 27) rfl rfl Try.func81 (by kernel_rfl) rfl #[.pointer (some ⟨g, 0, none⟩), .int .i64 (l1.length : Int)] rfl y9  ?_; (with_reducible refine (spec_l1Rd_pick.calls kj5 g s0_0 x1001_5 (l1.length : Int) t111 t112 w0 _ ?side1 ?side2 A20.out).mono ?_); (case side1 => exact zHI0); (case side2 => exact zHB); rintro e w28 ⟨rfl, hi, hb, hk⟩; refine ⟨_, rfl, ?_⟩; have n0_ := zA (KeepBut.blk hk (g' := gb101) (o := .cells #[.int .i64 0, .int .i64 0, .int .i64 0] 34 (0, 0)) (zb BK101.out) NB101_0.out (by simp)); have n1_ := zA (KeepBut.blk hk (g' := gb108) (o := .cells #[.int .i64 t102, .int .i64 t104, .int .i64 (wrap64 (1 + t106))] 34 (0, 0)) (zb BK108.out) NB108_0.out (by simp)); have n2_ := zA (KeepBut.trans (zHK) hk (.inl rfl)); have n3_ := zA (hb); have n4_ := zA (hi); clear BK101; clear BK108; clear HK; clear HB; clear HI0; have BK101 := n0_; have BK108 := n1_; have HK := n2_; have HB := n3_; have HI0 := n4_; clear n0_ n1_ n2_ n3_ n4_; (try clear hb); (try clear hb2); (try clear hk); (try clear hi); have p113 : 0 ≤ (t111 : Int) := of_decide_eq_true y15 ; have q113 : t111 < (l1.length : Int) := of_decide_eq_true y15 ; obtain ⟨ad113, e113, hx113_0, hx113_1, hx113_2, hx113_3, hx113_4, hx113_5⟩ := at_T54 (Kd.C_foot_now HR1.out HK.out) t111 p113 q113; cases e113; replace p113 := eq_true p113; replace q113 := eq_true q113) | ((with_reducible refine gate_dst (N := 6) rfl ?_); refine box_event ?hg (N := 6) ?hd (cs := #[.bool false, .int .i64 0, .int .i64 0, .int .i64 0, .int .i64 0, .int .i64 0]) (t := 54) ?hr ?_; (case hd => rfl); (case hg => rfl); (case hr => first | (go_simp; done) | (go_simp; rfl)); intro gb114 hg w29 hbox hb; have n0_ := zA (blk_below (g := gb101) (o := .cells #[.int .i64 0, .int .i64 0, .int .i64 0] 34 (0, 0)) (zb BK101.out) hb); have n1_ := zA (blk_below (g := gb108) (o := .cells #[.int .i64 t102, .int .i64 t104, .int .i64 (wrap64 (1 + t106))] 34 (0, 0)) (zb BK108.out) hb); have n2_ := zA (IsS117.below (zHI0) hb); have n3_ := zA (KeepBut.trans (zHK) (KeepBut.of_below hb g none) (.inl rfl)); have n4_ := zA (below_step (zHB) hb); have n5_ := zA (hbox); have n6_ := zA ((show w.heap.size ≤ gb114 from y12)); have n7_ := zA ((Nat.le_trans HW0.out (show w.heap.size ≤ gb114 from y12) : w0.heap.size ≤ gb114)); have n8_ := zA ((show gb101 ≠ gb114 from y6)); have n9_ := zA ((show gb114 ≠ gb101 from y7)); have n10_ := zA ((show gb108 ≠ gb114 from y4)); have n11_ := zA ((show gb114 ≠ gb108 from y5)); have n12_ := zA ((show g ≠ gb114 from y10)); have n13_ := zA ((show gb114 ≠ g from y11)); clear BK101; clear BK108; clear HI0; clear HK; clear HB; have BK101 := n0_; have BK108 := n1_; have HI0 := n2_; have HK := n3_; have HB := n4_; have BK114 := n5_; have GW114 := n6_; have GE114 := n7_; have NB101_114 := n8_; have NB114_101 := n9_; have NB108_114 := n10_; have NB114_108 := n11_; have NB0_114 := n12_; have NB114_0 := n13_; clear n0_ n1_ n2_ n3_ n4_ n5_ n6_ n7_ n8_ n9_ n10_ n11_ n12_ n13_; clear hb hbox hg; have hnb30 := NB114_101.out; have hnc30 := NB101_114.out; have hnb31 := NB114_108.out; have hnc31 := NB108_114.out; have hnb32 := NB114_0.out; have hnc32 := NB0_114.out; have hcz33_0 : w29.cell? ⟨gb114, 0, none⟩ = some (.bool false) := (blk_cell BK114.out 0).trans rfl; have hcz33_1 : w29.cell? ⟨gb114, 1, none⟩ = some (.int .i64 0) := (blk_cell BK114.out 1).trans rfl; have hcz33_2 : w29.cell? ⟨gb114, 2, none⟩ = some (.int .i64 0) := (blk_cell BK114.out 2).trans rfl; have hcz33_3 : w29.cell? ⟨gb114, 3, none⟩ = some (.int .i64 0) := (blk_cell BK114.out 3).trans rfl; have hcz33_4 : w29.cell? ⟨gb114, 4, none⟩ = some (.int .i64 0) := (blk_cell BK114.out 4).trans rfl; have hcz33_5 : w29.cell? ⟨gb114, 5, none⟩ = some (.int .i64 0) := (blk_cell BK114.out 5).trans rfl; have hfz33_0 := blk_frozen BK114.out 0; have hfz33_1 := blk_frozen BK114.out 1; have hfz33_2 := blk_frozen BK114.out 2; have hfz33_3 := blk_frozen BK114.out 3; have hfz33_4 := blk_frozen BK114.out 4; have hfz33_5 := blk_frozen BK114.out 5) | ((with_reducible refine gate_callee (f := 100) rfl ?_); refine goesL_ (some 33) rfl rfl Try.func100 (by kernel_rfl) rfl #[.pointer (some ⟨g, 0, none⟩), .agg #[.int .i64 ((rd_T54 l1 t111).f1.f0), .int .i64 ((rd_T54 l1 t111).f1.f1)]] rfl y9  ?_; (with_reducible refine (spec_l5Addr.calls kj5 g s0_0 t112 ((rd_T54 l1 t111).f1.f0) ((rd_T54 l1 t111).f1.f1) t115 t116 w0 _ ?side1 ?side2 A23.out).mono ?_); (case side1 => exact zHI0); (case side2 => exact zHB); rintro e w34 ⟨rfl, hi, hb, hk⟩; refine ⟨_, rfl, ?_⟩; have n0_ := zA (KeepBut.blk hk (g' := gb101) (o := .cells #[.int .i64 0, .int .i64 0, .int .i64 0] 34 (0, 0)) y2  NB101_0.out (by simp)); have n1_ := zA (KeepBut.blk hk (g' := gb108) (o := .cells #[.int .i64 t102, .int .i64 t104, .int .i64 (wrap64 (1 + t106))] 34 (0, 0)) y3  NB108_0.out (by simp)); have n2_ := zA (KeepBut.blk hk (g' := gb114) (o := .cells #[.bool ((rd_T54 l1 t111).f0), .int .i64 ((rd_T54 l1 t111).f1.f0), .int .i64 ((rd_T54 l1 t111).f1.f1), .int .i64 ((rd_T54 l1 t111).f2.f0), .int .i64 ((rd_T54 l1 t111).f2.f1), .int .i64 ((rd_T54 l1 t111).f3)] 54 (0, 0)) y1  NB114_0.out (by simp)); have n3_ := zA (KeepBut.trans (zHK) hk (.inl rfl)); have n4_ := zA (hb); have n5_ := zA (hi); clear BK101; clear BK108; clear BK114; clear HK; clear HB; clear HI0; have BK101 := n0_; have BK108 := n1_; have BK114 := n2_; have HK := n3_; have HB := n4_; have HI0 := n5_; clear n0_ n1_ n2_ n3_ n4_ n5_; (try clear hb); (try clear hb2); (try clear hk); (try clear hi); have hnb35 := NB108_101.out; have hnc35 := NB101_108.out; have hnb36 := NB108_0.out; have hnc36 := NB0_108.out; have hcz37_0 : w34.cell? ⟨gb108, 0, none⟩ = some (.int .i64 t102) := (blk_cell BK108.out 0).trans rfl; have hcz37_1 : w34.cell? ⟨gb108, 1, none⟩ = some (.int .i64 t104) := (blk_cell BK108.out 1).trans rfl; have hcz37_2 : w34.cell? ⟨gb108, 2, none⟩ = some (.int .i64 (wrap64 (1 + t106))) := (blk_cell BK108.out 2).trans rfl; have hfz37_0 := blk_frozen BK108.out 0; have hfz37_1 := blk_frozen BK108.out 1; have hfz37_2 := blk_frozen BK108.out 2; have hcz38_0 : w34.cell? ⟨gb114, 0, none⟩ = some (.bool ((rd_T54 l1 t111).f0)) := (blk_cell BK114.out 0).trans rfl; have hcz38_1 : w34.cell? ⟨gb114, 1, none⟩ = some (.int .i64 ((rd_T54 l1 t111).f1.f0)) := (blk_cell BK114.out 1).trans rfl; have hcz38_2 : w34.cell? ⟨gb114, 2, none⟩ = some (.int .i64 ((rd_T54 l1 t111).f1.f1)) := (blk_cell BK114.out 2).trans rfl; have hcz38_3 : w34.cell? ⟨gb114, 3, none⟩ = some (.int .i64 ((rd_T54 l1 t111).f2.f0)) := (blk_cell BK114.out 3).trans rfl; have hcz38_4 : w34.cell? ⟨gb114, 4, none⟩ = some (.int .i64 ((rd_T54 l1 t111).f2.f1)) := (blk_cell BK114.out 4).trans rfl; have hcz38_5 : w34.cell? ⟨gb114, 5, none⟩ = some (.int .i64 ((rd_T54 l1 t111).f3)) := (blk_cell BK114.out 5).trans rfl; have hfz38_0 := blk_frozen BK114.out 0; have hfz38_1 := blk_frozen BK114.out 1; have hfz38_2 := blk_frozen BK114.out 2; have hfz38_3 := blk_frozen BK114.out 3; have hfz38_4 := blk_frozen BK114.out 4; have hfz38_5 := blk_frozen BK114.out 5) | ((with_reducible refine gate_callee (f := 100) rfl ?_); refine goesL_ (some 38) rfl rfl Try.func100 (by kernel_rfl) rfl #[.pointer (some ⟨g, 0, none⟩), .agg #[.int .i64 ((rd_T54 l1 t111).f2.f0), .int .i64 ((rd_T54 l1 t111).f2.f1)]] rfl y9  ?_; (with_reducible refine (spec_l5Addr.calls kj5 g s0_0 t116 ((rd_T54 l1 t111).f2.f0) ((rd_T54 l1 t111).f2.f1) t117 t118 w0 _ ?side1 ?side2 A24.out).mono ?_); (case side1 => exact zHI0); (case side2 => exact zHB); rintro e w39 ⟨rfl, hi, hb, hk⟩; refine ⟨_, rfl, ?_⟩; have n0_ := zA (KeepBut.blk hk (g' := gb101) (o := .cells #[.int .i64 0, .int .i64 0, .int .i64 0] 34 (0, 0)) y13  NB101_0.out (by simp)); have n1_ := zA (KeepBut.blk hk (g' := gb108) (o := .cells #[.int .i64 t115, .int .i64 t104, .int .i64 (wrap64 (1 + t106))] 34 (0, 0)) y8  NB108_0.out (by simp)); have n2_ := zA (KeepBut.blk hk (g' := gb114) (o := .cells #[.bool ((rd_T54 l1 t111).f0), .int .i64 ((rd_T54 l1 t111).f1.f0), .int .i64 ((rd_T54 l1 t111).f1.f1), .int .i64 ((rd_T54 l1 t111).f2.f0), .int .i64 ((rd_T54 l1 t111).f2.f1), .int .i64 ((rd_T54 l1 t111).f3)] 54 (0, 0)) y14  NB114_0.out (by simp)); have n3_ := zA (KeepBut.trans (zHK) hk (.inl rfl)); have n4_ := zA (hb); have n5_ := zA (hi); clear BK101; clear BK108; clear BK114; clear HK; clear HB; clear HI0; have BK101 := n0_; have BK108 := n1_; have BK114 := n2_; have HK := n3_; have HB := n4_; have HI0 := n5_; clear n0_ n1_ n2_ n3_ n4_ n5_; (try clear hb); (try clear hb2); (try clear hk); (try clear hi); have hcz40_0 : w39.cell? ⟨gb108, 0, none⟩ = some (.int .i64 t115) := (blk_cell BK108.out 0).trans rfl; have hcz40_1 : w39.cell? ⟨gb108, 1, none⟩ = some (.int .i64 t104) := (blk_cell BK108.out 1).trans rfl; have hcz40_2 : w39.cell? ⟨gb108, 2, none⟩ = some (.int .i64 (wrap64 (1 + t106))) := (blk_cell BK108.out 2).trans rfl; have hfz40_0 := blk_frozen BK108.out 0; have hfz40_1 := blk_frozen BK108.out 1; have hfz40_2 := blk_frozen BK108.out 2; have hcz41_0 : w39.cell? ⟨gb114, 0, none⟩ = some (.bool ((rd_T54 l1 t111).f0)) := (blk_cell BK114.out 0).trans rfl; have hcz41_1 : w39.cell? ⟨gb114, 1, none⟩ = some (.int .i64 ((rd_T54 l1 t111).f1.f0)) := (blk_cell BK114.out 1).trans rfl; have hcz41_2 : w39.cell? ⟨gb114, 2, none⟩ = some (.int .i64 ((rd_T54 l1 t111).f1.f1)) := (blk_cell BK114.out 2).trans rfl; have hcz41_3 : w39.cell? ⟨gb114, 3, none⟩ = some (.int .i64 ((rd_T54 l1 t111).f2.f0)) := (blk_cell BK114.out 3).trans rfl; have hcz41_4 : w39.cell? ⟨gb114, 4, none⟩ = some (.int .i64 ((rd_T54 l1 t111).f2.f1)) := (blk_cell BK114.out 4).trans rfl; have hcz41_5 : w39.cell? ⟨gb114, 5, none⟩ = some (.int .i64 ((rd_T54 l1 t111).f3)) := (blk_cell BK114.out 5).trans rfl; have hfz41_0 := blk_frozen BK114.out 0; have hfz41_1 := blk_frozen BK114.out 1; have hfz41_2 := blk_frozen BK114.out 2; have hfz41_3 := blk_frozen BK114.out 3; have hfz41_4 := blk_frozen BK114.out 4; have hfz41_5 := blk_frozen BK114.out 5) | (go_at_call 81; (with_reducible refine (spec_l1Rd_pick.calls kj5 g s0_0 t118 3 t119 t120 w0 _ ?side1 ?side2 A26.out).mono ?_); (case side1 => exact zHI0); (case side2 => exact zHB); rintro e w42 ⟨rfl, hi, hb, hk⟩; have n0_ := zA (KeepBut.blk hk (g' := gb101) (o := .cells #[.int .i64 0, .int .i64 0, .int .i64 0] 34 (0, 0)) y13  NB101_0.out (by simp)); have n1_ := zA (KeepBut.blk hk (g' := gb108) (o := .cells #[.int .i64 t115, .int .i64 t117, .int .i64 (wrap64 (1 + t106))] 34 (0, 0)) (by refine zq ?_; refine blk_put (cs := #[.int .i64 t115, .int .i64 t104, .int .i64 (wrap64 (1 + t106))]) ?_ 1 _ rfl; refine zq ?_; exact BK108.out) NB108_0.out (by simp)); have n2_ := zA (KeepBut.blk hk (g' := gb114) (o := .cells #[.bool ((rd_T54 l1 t111).f0), .int .i64 ((rd_T54 l1 t111).f1.f0), .int .i64 ((rd_T54 l1 t111).f1.f1), .int .i64 ((rd_T54 l1 t111).f2.f0), .int .i64 ((rd_T54 l1 t111).f2.f1), .int .i64 ((rd_T54 l1 t111).f3)] 54 (0, 0)) y14  NB114_0.out (by simp)); have n3_ := zA (KeepBut.trans (zHK) hk (.inl rfl)); have n4_ := zA (hb); have n5_ := zA (hi); clear BK101; clear BK108; clear BK114; clear HK; clear HB; clear HI0; have BK101 := n0_; have BK108 := n1_; have BK114 := n2_; have HK := n3_; have HB := n4_; have HI0 := n5_; clear n0_ n1_ n2_ n3_ n4_ n5_; (try clear hb); (try clear hb2); (try clear hk); (try clear hi); have hcz43_0 : w42.cell? ⟨gb114, 0, none⟩ = some (.bool ((rd_T54 l1 t111).f0)) := (blk_cell BK114.out 0).trans rfl; have hcz43_1 : w42.cell? ⟨gb114, 1, none⟩ = some (.int .i64 ((rd_T54 l1 t111).f1.f0)) := (blk_cell BK114.out 1).trans rfl; have hcz43_2 : w42.cell? ⟨gb114, 2, none⟩ = some (.int .i64 ((rd_T54 l1 t111).f1.f1)) := (blk_cell BK114.out 2).trans rfl; have hcz43_3 : w42.cell? ⟨gb114, 3, none⟩ = some (.int .i64 ((rd_T54 l1 t111).f2.f0)) := (blk_cell BK114.out 3).trans rfl; have hcz43_4 : w42.cell? ⟨gb114, 4, none⟩ = some (.int .i64 ((rd_T54 l1 t111).f2.f1)) := (blk_cell BK114.out 4).trans rfl; have hcz43_5 : w42.cell? ⟨gb114, 5, none⟩ = some (.int .i64 ((rd_T54 l1 t111).f3)) := (blk_cell BK114.out 5).trans rfl; have hfz43_0 := blk_frozen BK114.out 0; have hfz43_1 := blk_frozen BK114.out 1; have hfz43_2 := blk_frozen BK114.out 2; have hfz43_3 := blk_frozen BK114.out 3; have hfz43_4 := blk_frozen BK114.out 4; have hfz43_5 := blk_frozen BK114.out 5; have hcz44_0 : w42.cell? ⟨gb108, 0, none⟩ = some (.int .i64 t115) := (blk_cell BK108.out 0).trans rfl; have hcz44_1 : w42.cell? ⟨gb108, 1, none⟩ = some (.int .i64 t117) := (blk_cell BK108.out 1).trans rfl; have hcz44_2 : w42.cell? ⟨gb108, 2, none⟩ = some (.int .i64 (wrap64 (1 + t106))) := (blk_cell BK108.out 2).trans rfl; have hfz44_0 := blk_frozen BK108.out 0; have hfz44_1 := blk_frozen BK108.out 1; have hfz44_2 := blk_frozen BK108.out 2))
        go_meet
        case rel => exact ⟨_, (t120), (t115), (t117), ((rd_T54 l1 t111).f3), H', ⟨by have := HJ5.out; first | omega | exact Nat.le_refl _⟩, ⟨by refine zq ?_; refine blk_far ?_ NB101_108.out _; refine zq ?_; exact BK101.out⟩, ⟨by refine zq ?_; refine blk_put (cs := #[.int .i64 t115, .int .i64 t117, .int .i64 (wrap64 (1 + t106))]) ?_ 2 _ rfl; refine zq ?_; exact BK108.out⟩, ⟨zHI0⟩, ⟨zHK⟩, ⟨zHB⟩⟩
       rw [if_neg c27] at H
       have c27b0 : decide (0 < t119) = false := decide_eq_false c27
       clear c27
       have H' := zA H
       clear H
       go_wp2_with (first | ((with_reducible refine gate_callee (f := 81) rfl ?_); refine goesL_ (some 27) rfl rfl Try.func81 (by kernel_rfl) rfl #[.pointer (some ⟨g, 0, none⟩), .int .i64 (l1.length : Int)] rfl y9  ?_; (with_reducible refine (spec_l1Rd_pick.calls kj5 g s0_0 x1001_5 (l1.length : Int) t111 t112 w0 _ ?side1 ?side2 A20.out).mono ?_); (case side1 => exact zHI0); (case side2 => exact zHB); rintro e w45 ⟨rfl, hi, hb, hk⟩; refine ⟨_, rfl, ?_⟩; have n0_ := zA (KeepBut.blk hk (g' := gb101) (o := .cells #[.int .i64 0, .int .i64 0, .int .i64 0] 34 (0, 0)) (zb BK101.out) NB101_0.out (by simp)); have n1_ := zA (KeepBut.blk hk (g' := gb108) (o := .cells #[.int .i64 t102, .int .i64 t104, .int .i64 (wrap64 (1 + t106))] 34 (0, 0)) (zb BK108.out) NB108_0.out (by simp)); have n2_ := zA (KeepBut.trans (zHK) hk (.inl rfl)); have n3_ := zA (hb); have n4_ := zA (hi); clear BK101; clear BK108; clear HK; clear HB; clear HI0; have BK101 := n0_; have BK108 := n1_; have HK := n2_; have HB := n3_; have HI0 := n4_; clear n0_ n1_ n2_ n3_ n4_; (try clear hb); (try clear hb2); (try clear hk); (try clear hi); have p113 : 0 ≤ (t111 : Int) := of_decide_eq_true y15 ; have q113 : t111 < (l1.length : Int) := of_decide_eq_true y15 ; obtain ⟨ad113, e113, hx113_0, hx113_1, hx113_2, hx113_3, hx113_4, hx113_5⟩ := at_T54 (Kd.C_foot_now HR1.out HK.out) t111 p113 q113; cases e113; replace p113 := eq_true p113; replace q113 := eq_true q113) | ((with_reducible refine gate_dst (N := 6) rfl ?_); refine box_event ?hg (N := 6) ?hd (cs := #[.bool false, .int .i64 0, .int .i64 0, .int .i64 0, .int .i64 0, .int .i64 0]) (t := 54) ?hr ?_; (case hd => rfl); (case hg => rfl); (case hr => first | (go_simp; done) | (go_simp; rfl)); intro gb114 hg w46 hbox hb; have n0_ := zA (blk_below (g := gb101) (o := .cells #[.int .i64 0, .int .i64 0, .int .i64 0] 34 (0, 0)) (zb BK101.out) hb); have n1_ := zA (blk_below (g := gb108) (o := .cells #[.int .i64 t102, .int .i64 t104, .int .i64 (wrap64 (1 + t106))] 34 (0, 0)) (zb BK108.out) hb); have n2_ := zA (IsS117.below (zHI0) hb); have n3_ := zA (KeepBut.trans (zHK) (KeepBut.of_below hb g none) (.inl rfl)); have n4_ := zA (below_step (zHB) hb); have n5_ := zA (hbox); have n6_ := zA ((show w.heap.size ≤ gb114 from y12)); have n7_ := zA ((Nat.le_trans HW0.out (show w.heap.size ≤ gb114 from y12) : w0.heap.size ≤ gb114)); have n8_ := zA ((show gb101 ≠ gb114 from y6)); have n9_ := zA ((show gb114 ≠ gb101 from y7)); have n10_ := zA ((show gb108 ≠ gb114 from y4)); have n11_ := zA ((show gb114 ≠ gb108 from y5)); have n12_ := zA ((show g ≠ gb114 from y10)); have n13_ := zA ((show gb114 ≠ g from y11)); clear BK101; clear BK108; clear HI0; clear HK; clear HB; have BK101 := n0_; have BK108 := n1_; have HI0 := n2_; have HK := n3_; have HB := n4_; have BK114 := n5_; have GW114 := n6_; have GE114 := n7_; have NB101_114 := n8_; have NB114_101 := n9_; have NB108_114 := n10_; have NB114_108 := n11_; have NB0_114 := n12_; have NB114_0 := n13_; clear n0_ n1_ n2_ n3_ n4_ n5_ n6_ n7_ n8_ n9_ n10_ n11_ n12_ n13_; clear hb hbox hg; have hnb47 := NB114_101.out; have hnc47 := NB101_114.out; have hnb48 := NB114_108.out; have hnc48 := NB108_114.out; have hnb49 := NB114_0.out; have hnc49 := NB0_114.out; have hcz50_0 : w46.cell? ⟨gb114, 0, none⟩ = some (.bool false) := (blk_cell BK114.out 0).trans rfl; have hcz50_1 : w46.cell? ⟨gb114, 1, none⟩ = some (.int .i64 0) := (blk_cell BK114.out 1).trans rfl; have hcz50_2 : w46.cell? ⟨gb114, 2, none⟩ = some (.int .i64 0) := (blk_cell BK114.out 2).trans rfl; have hcz50_3 : w46.cell? ⟨gb114, 3, none⟩ = some (.int .i64 0) := (blk_cell BK114.out 3).trans rfl; have hcz50_4 : w46.cell? ⟨gb114, 4, none⟩ = some (.int .i64 0) := (blk_cell BK114.out 4).trans rfl; have hcz50_5 : w46.cell? ⟨gb114, 5, none⟩ = some (.int .i64 0) := (blk_cell BK114.out 5).trans rfl; have hfz50_0 := blk_frozen BK114.out 0; have hfz50_1 := blk_frozen BK114.out 1; have hfz50_2 := blk_frozen BK114.out 2; have hfz50_3 := blk_frozen BK114.out 3; have hfz50_4 := blk_frozen BK114.out 4; have hfz50_5 := blk_frozen BK114.out 5) | ((with_reducible refine gate_callee (f := 100) rfl ?_); refine goesL_ (some 33) rfl rfl Try.func100 (by kernel_rfl) rfl #[.pointer (some ⟨g, 0, none⟩), .agg #[.int .i64 ((rd_T54 l1 t111).f1.f0), .int .i64 ((rd_T54 l1 t111).f1.f1)]] rfl y9  ?_; (with_reducible refine (spec_l5Addr.calls kj5 g s0_0 t112 ((rd_T54 l1 t111).f1.f0) ((rd_T54 l1 t111).f1.f1) t115 t116 w0 _ ?side1 ?side2 A23.out).mono ?_); (case side1 => exact zHI0); (case side2 => exact zHB); rintro e w51 ⟨rfl, hi, hb, hk⟩; refine ⟨_, rfl, ?_⟩; have n0_ := zA (KeepBut.blk hk (g' := gb101) (o := .cells #[.int .i64 0, .int .i64 0, .int .i64 0] 34 (0, 0)) y2  NB101_0.out (by simp)); have n1_ := zA (KeepBut.blk hk (g' := gb108) (o := .cells #[.int .i64 t102, .int .i64 t104, .int .i64 (wrap64 (1 + t106))] 34 (0, 0)) y3  NB108_0.out (by simp)); have n2_ := zA (KeepBut.blk hk (g' := gb114) (o := .cells #[.bool ((rd_T54 l1 t111).f0), .int .i64 ((rd_T54 l1 t111).f1.f0), .int .i64 ((rd_T54 l1 t111).f1.f1), .int .i64 ((rd_T54 l1 t111).f2.f0), .int .i64 ((rd_T54 l1 t111).f2.f1), .int .i64 ((rd_T54 l1 t111).f3)] 54 (0, 0)) y1  NB114_0.out (by simp)); have n3_ := zA (KeepBut.trans (zHK) hk (.inl rfl)); have n4_ := zA (hb); have n5_ := zA (hi); clear BK101; clear BK108; clear BK114; clear HK; clear HB; clear HI0; have BK101 := n0_; have BK108 := n1_; have BK114 := n2_; have HK := n3_; have HB := n4_; have HI0 := n5_; clear n0_ n1_ n2_ n3_ n4_ n5_; (try clear hb); (try clear hb2); (try clear hk); (try clear hi); have hnb52 := NB108_101.out; have hnc52 := NB101_108.out; have hnb53 := NB108_0.out; have hnc53 := NB0_108.out; have hcz54_0 : w51.cell? ⟨gb108, 0, none⟩ = some (.int .i64 t102) := (blk_cell BK108.out 0).trans rfl; have hcz54_1 : w51.cell? ⟨gb108, 1, none⟩ = some (.int .i64 t104) := (blk_cell BK108.out 1).trans rfl; have hcz54_2 : w51.cell? ⟨gb108, 2, none⟩ = some (.int .i64 (wrap64 (1 + t106))) := (blk_cell BK108.out 2).trans rfl; have hfz54_0 := blk_frozen BK108.out 0; have hfz54_1 := blk_frozen BK108.out 1; have hfz54_2 := blk_frozen BK108.out 2; have hcz55_0 : w51.cell? ⟨gb114, 0, none⟩ = some (.bool ((rd_T54 l1 t111).f0)) := (blk_cell BK114.out 0).trans rfl; have hcz55_1 : w51.cell? ⟨gb114, 1, none⟩ = some (.int .i64 ((rd_T54 l1 t111).f1.f0)) := (blk_cell BK114.out 1).trans rfl; have hcz55_2 : w51.cell? ⟨gb114, 2, none⟩ = some (.int .i64 ((rd_T54 l1 t111).f1.f1)) := (blk_cell BK114.out 2).trans rfl; have hcz55_3 : w51.cell? ⟨gb114, 3, none⟩ = some (.int .i64 ((rd_T54 l1 t111).f2.f0)) := (blk_cell BK114.out 3).trans rfl; have hcz55_4 : w51.cell? ⟨gb114, 4, none⟩ = some (.int .i64 ((rd_T54 l1 t111).f2.f1)) := (blk_cell BK114.out 4).trans rfl; have hcz55_5 : w51.cell? ⟨gb114, 5, none⟩ = some (.int .i64 ((rd_T54 l1 t111).f3)) := (blk_cell BK114.out 5).trans rfl; have hfz55_0 := blk_frozen BK114.out 0; have hfz55_1 := blk_frozen BK114.out 1; have hfz55_2 := blk_frozen BK114.out 2; have hfz55_3 := blk_frozen BK114.out 3; have hfz55_4 := blk_frozen BK114.out 4; have hfz55_5 := blk_frozen BK114.out 5) | ((with_reducible refine gate_callee (f := 100) rfl ?_); refine goesL_ (some 38) rfl rfl Try.func100 (by kernel_rfl) rfl #[.pointer (some ⟨g, 0, none⟩), .agg #[.int .i64 ((rd_T54 l1 t111).f2.f0), .int .i64 ((rd_T54 l1 t111).f2.f1)]] rfl y9  ?_; (with_reducible refine (spec_l5Addr.calls kj5 g s0_0 t116 ((rd_T54 l1 t111).f2.f0) ((rd_T54 l1 t111).f2.f1) t117 t118 w0 _ ?side1 ?side2 A24.out).mono ?_); (case side1 => exact zHI0); (case side2 => exact zHB); rintro e w56 ⟨rfl, hi, hb, hk⟩; refine ⟨_, rfl, ?_⟩; have n0_ := zA (KeepBut.blk hk (g' := gb101) (o := .cells #[.int .i64 0, .int .i64 0, .int .i64 0] 34 (0, 0)) y13  NB101_0.out (by simp)); have n1_ := zA (KeepBut.blk hk (g' := gb108) (o := .cells #[.int .i64 t115, .int .i64 t104, .int .i64 (wrap64 (1 + t106))] 34 (0, 0)) y8  NB108_0.out (by simp)); have n2_ := zA (KeepBut.blk hk (g' := gb114) (o := .cells #[.bool ((rd_T54 l1 t111).f0), .int .i64 ((rd_T54 l1 t111).f1.f0), .int .i64 ((rd_T54 l1 t111).f1.f1), .int .i64 ((rd_T54 l1 t111).f2.f0), .int .i64 ((rd_T54 l1 t111).f2.f1), .int .i64 ((rd_T54 l1 t111).f3)] 54 (0, 0)) y14  NB114_0.out (by simp)); have n3_ := zA (KeepBut.trans (zHK) hk (.inl rfl)); have n4_ := zA (hb); have n5_ := zA (hi); clear BK101; clear BK108; clear BK114; clear HK; clear HB; clear HI0; have BK101 := n0_; have BK108 := n1_; have BK114 := n2_; have HK := n3_; have HB := n4_; have HI0 := n5_; clear n0_ n1_ n2_ n3_ n4_ n5_; (try clear hb); (try clear hb2); (try clear hk); (try clear hi); have hcz57_0 : w56.cell? ⟨gb108, 0, none⟩ = some (.int .i64 t115) := (blk_cell BK108.out 0).trans rfl; have hcz57_1 : w56.cell? ⟨gb108, 1, none⟩ = some (.int .i64 t104) := (blk_cell BK108.out 1).trans rfl; have hcz57_2 : w56.cell? ⟨gb108, 2, none⟩ = some (.int .i64 (wrap64 (1 + t106))) := (blk_cell BK108.out 2).trans rfl; have hfz57_0 := blk_frozen BK108.out 0; have hfz57_1 := blk_frozen BK108.out 1; have hfz57_2 := blk_frozen BK108.out 2; have hcz58_0 : w56.cell? ⟨gb114, 0, none⟩ = some (.bool ((rd_T54 l1 t111).f0)) := (blk_cell BK114.out 0).trans rfl; have hcz58_1 : w56.cell? ⟨gb114, 1, none⟩ = some (.int .i64 ((rd_T54 l1 t111).f1.f0)) := (blk_cell BK114.out 1).trans rfl; have hcz58_2 : w56.cell? ⟨gb114, 2, none⟩ = some (.int .i64 ((rd_T54 l1 t111).f1.f1)) := (blk_cell BK114.out 2).trans rfl; have hcz58_3 : w56.cell? ⟨gb114, 3, none⟩ = some (.int .i64 ((rd_T54 l1 t111).f2.f0)) := (blk_cell BK114.out 3).trans rfl; have hcz58_4 : w56.cell? ⟨gb114, 4, none⟩ = some (.int .i64 ((rd_T54 l1 t111).f2.f1)) := (blk_cell BK114.out 4).trans rfl; have hcz58_5 : w56.cell? ⟨gb114, 5, none⟩ = some (.int .i64 ((rd_T54 l1 t111).f3)) := (blk_cell BK114.out 5).trans rfl; have hfz58_0 := blk_frozen BK114.out 0; have hfz58_1 := blk_frozen BK114.out 1; have hfz58_2 := blk_frozen BK114.out 2; have hfz58_3 := blk_frozen BK114.out 3; have hfz58_4 := blk_frozen BK114.out 4; have hfz58_5 := blk_frozen BK114.out 5) | (go_at_call 81; (with_reducible refine (spec_l1Rd_pick.calls kj5 g s0_0 t118 3 t119 t120 w0 _ ?side1 ?side2 A26.out).mono ?_); (case side1 => exact zHI0); (case side2 => exact zHB); rintro e w59 ⟨rfl, hi, hb, hk⟩; have n0_ := zA (KeepBut.blk hk (g' := gb101) (o := .cells #[.int .i64 0, .int .i64 0, .int .i64 0] 34 (0, 0)) y13  NB101_0.out (by simp)); have n1_ := zA (KeepBut.blk hk (g' := gb108) (o := .cells #[.int .i64 t115, .int .i64 t117, .int .i64 (wrap64 (1 + t106))] 34 (0, 0)) (by refine zq ?_; refine blk_put (cs := #[.int .i64 t115, .int .i64 t104, .int .i64 (wrap64 (1 + t106))]) ?_ 1 _ rfl; refine zq ?_; exact BK108.out) NB108_0.out (by simp)); have n2_ := zA (KeepBut.blk hk (g' := gb114) (o := .cells #[.bool ((rd_T54 l1 t111).f0), .int .i64 ((rd_T54 l1 t111).f1.f0), .int .i64 ((rd_T54 l1 t111).f1.f1), .int .i64 ((rd_T54 l1 t111).f2.f0), .int .i64 ((rd_T54 l1 t111).f2.f1), .int .i64 ((rd_T54 l1 t111).f3)] 54 (0, 0)) y14  NB114_0.out (by simp)); have n3_ := zA (KeepBut.trans (zHK) hk (.inl rfl)); have n4_ := zA (hb); have n5_ := zA (hi); clear BK101; clear BK108; clear BK114; clear HK; clear HB; clear HI0; have BK101 := n0_; have BK108 := n1_; have BK114 := n2_; have HK := n3_; have HB := n4_; have HI0 := n5_; clear n0_ n1_ n2_ n3_ n4_ n5_; (try clear hb); (try clear hb2); (try clear hk); (try clear hi)))
       go_meet
       case rel => exact ⟨_, (t120), (t115), (t117), ((wrap64 (1 + t106))), H', ⟨by have := HJ5.out; first | omega | exact Nat.le_refl _⟩, ⟨by refine zq ?_; exact BK101.out⟩, ⟨by refine zq ?_; exact BK108.out⟩, ⟨zHI0⟩, ⟨zHK⟩, ⟨zHB⟩⟩
      rw [if_neg c25] at H
      have c25b0 : decide (0 < ((rd_T54 l1 t111).f3)) = false := decide_eq_false c25
      clear c25
      have H' := zA H
      clear H
      go_wp2_with (first | ((with_reducible refine gate_callee (f := 81) rfl ?_); refine goesL_ (some 27) rfl rfl Try.func81 (by kernel_rfl) rfl #[.pointer (some ⟨g, 0, none⟩), .int .i64 (l1.length : Int)] rfl y9  ?_; (with_reducible refine (spec_l1Rd_pick.calls kj5 g s0_0 x1001_5 (l1.length : Int) t111 t112 w0 _ ?side1 ?side2 A20.out).mono ?_); (case side1 => exact zHI0); (case side2 => exact zHB); rintro e w60 ⟨rfl, hi, hb, hk⟩; refine ⟨_, rfl, ?_⟩; have n0_ := zA (KeepBut.blk hk (g' := gb101) (o := .cells #[.int .i64 0, .int .i64 0, .int .i64 0] 34 (0, 0)) (zb BK101.out) NB101_0.out (by simp)); have n1_ := zA (KeepBut.blk hk (g' := gb108) (o := .cells #[.int .i64 t102, .int .i64 t104, .int .i64 (wrap64 (1 + t106))] 34 (0, 0)) (zb BK108.out) NB108_0.out (by simp)); have n2_ := zA (KeepBut.trans (zHK) hk (.inl rfl)); have n3_ := zA (hb); have n4_ := zA (hi); clear BK101; clear BK108; clear HK; clear HB; clear HI0; have BK101 := n0_; have BK108 := n1_; have HK := n2_; have HB := n3_; have HI0 := n4_; clear n0_ n1_ n2_ n3_ n4_; (try clear hb); (try clear hb2); (try clear hk); (try clear hi); have p113 : 0 ≤ (t111 : Int) := of_decide_eq_true y15 ; have q113 : t111 < (l1.length : Int) := of_decide_eq_true y15 ; obtain ⟨ad113, e113, hx113_0, hx113_1, hx113_2, hx113_3, hx113_4, hx113_5⟩ := at_T54 (Kd.C_foot_now HR1.out HK.out) t111 p113 q113; cases e113; replace p113 := eq_true p113; replace q113 := eq_true q113) | ((with_reducible refine gate_dst (N := 6) rfl ?_); refine box_event ?hg (N := 6) ?hd (cs := #[.bool false, .int .i64 0, .int .i64 0, .int .i64 0, .int .i64 0, .int .i64 0]) (t := 54) ?hr ?_; (case hd => rfl); (case hg => rfl); (case hr => first | (go_simp; done) | (go_simp; rfl)); intro gb114 hg w61 hbox hb; have n0_ := zA (blk_below (g := gb101) (o := .cells #[.int .i64 0, .int .i64 0, .int .i64 0] 34 (0, 0)) (zb BK101.out) hb); have n1_ := zA (blk_below (g := gb108) (o := .cells #[.int .i64 t102, .int .i64 t104, .int .i64 (wrap64 (1 + t106))] 34 (0, 0)) (zb BK108.out) hb); have n2_ := zA (IsS117.below (zHI0) hb); have n3_ := zA (KeepBut.trans (zHK) (KeepBut.of_below hb g none) (.inl rfl)); have n4_ := zA (below_step (zHB) hb); have n5_ := zA (hbox); have n6_ := zA ((show w.heap.size ≤ gb114 from y12)); have n7_ := zA ((Nat.le_trans HW0.out (show w.heap.size ≤ gb114 from y12) : w0.heap.size ≤ gb114)); have n8_ := zA ((show gb101 ≠ gb114 from y6)); have n9_ := zA ((show gb114 ≠ gb101 from y7)); have n10_ := zA ((show gb108 ≠ gb114 from y4)); have n11_ := zA ((show gb114 ≠ gb108 from y5)); have n12_ := zA ((show g ≠ gb114 from y10)); have n13_ := zA ((show gb114 ≠ g from y11)); clear BK101; clear BK108; clear HI0; clear HK; clear HB; have BK101 := n0_; have BK108 := n1_; have HI0 := n2_; have HK := n3_; have HB := n4_; have BK114 := n5_; have GW114 := n6_; have GE114 := n7_; have NB101_114 := n8_; have NB114_101 := n9_; have NB108_114 := n10_; have NB114_108 := n11_; have NB0_114 := n12_; have NB114_0 := n13_; clear n0_ n1_ n2_ n3_ n4_ n5_ n6_ n7_ n8_ n9_ n10_ n11_ n12_ n13_; clear hb hbox hg; have hnb62 := NB114_101.out; have hnc62 := NB101_114.out; have hnb63 := NB114_108.out; have hnc63 := NB108_114.out; have hnb64 := NB114_0.out; have hnc64 := NB0_114.out; have hcz65_0 : w61.cell? ⟨gb114, 0, none⟩ = some (.bool false) := (blk_cell BK114.out 0).trans rfl; have hcz65_1 : w61.cell? ⟨gb114, 1, none⟩ = some (.int .i64 0) := (blk_cell BK114.out 1).trans rfl; have hcz65_2 : w61.cell? ⟨gb114, 2, none⟩ = some (.int .i64 0) := (blk_cell BK114.out 2).trans rfl; have hcz65_3 : w61.cell? ⟨gb114, 3, none⟩ = some (.int .i64 0) := (blk_cell BK114.out 3).trans rfl; have hcz65_4 : w61.cell? ⟨gb114, 4, none⟩ = some (.int .i64 0) := (blk_cell BK114.out 4).trans rfl; have hcz65_5 : w61.cell? ⟨gb114, 5, none⟩ = some (.int .i64 0) := (blk_cell BK114.out 5).trans rfl; have hfz65_0 := blk_frozen BK114.out 0; have hfz65_1 := blk_frozen BK114.out 1; have hfz65_2 := blk_frozen BK114.out 2; have hfz65_3 := blk_frozen BK114.out 3; have hfz65_4 := blk_frozen BK114.out 4; have hfz65_5 := blk_frozen BK114.out 5) | ((with_reducible refine gate_callee (f := 100) rfl ?_); refine goesL_ (some 33) rfl rfl Try.func100 (by kernel_rfl) rfl #[.pointer (some ⟨g, 0, none⟩), .agg #[.int .i64 ((rd_T54 l1 t111).f1.f0), .int .i64 ((rd_T54 l1 t111).f1.f1)]] rfl y9  ?_; (with_reducible refine (spec_l5Addr.calls kj5 g s0_0 t112 ((rd_T54 l1 t111).f1.f0) ((rd_T54 l1 t111).f1.f1) t115 t116 w0 _ ?side1 ?side2 A23.out).mono ?_); (case side1 => exact zHI0); (case side2 => exact zHB); rintro e w66 ⟨rfl, hi, hb, hk⟩; refine ⟨_, rfl, ?_⟩; have n0_ := zA (KeepBut.blk hk (g' := gb101) (o := .cells #[.int .i64 0, .int .i64 0, .int .i64 0] 34 (0, 0)) y2  NB101_0.out (by simp)); have n1_ := zA (KeepBut.blk hk (g' := gb108) (o := .cells #[.int .i64 t102, .int .i64 t104, .int .i64 (wrap64 (1 + t106))] 34 (0, 0)) y3  NB108_0.out (by simp)); have n2_ := zA (KeepBut.blk hk (g' := gb114) (o := .cells #[.bool ((rd_T54 l1 t111).f0), .int .i64 ((rd_T54 l1 t111).f1.f0), .int .i64 ((rd_T54 l1 t111).f1.f1), .int .i64 ((rd_T54 l1 t111).f2.f0), .int .i64 ((rd_T54 l1 t111).f2.f1), .int .i64 ((rd_T54 l1 t111).f3)] 54 (0, 0)) y1  NB114_0.out (by simp)); have n3_ := zA (KeepBut.trans (zHK) hk (.inl rfl)); have n4_ := zA (hb); have n5_ := zA (hi); clear BK101; clear BK108; clear BK114; clear HK; clear HB; clear HI0; have BK101 := n0_; have BK108 := n1_; have BK114 := n2_; have HK := n3_; have HB := n4_; have HI0 := n5_; clear n0_ n1_ n2_ n3_ n4_ n5_; (try clear hb); (try clear hb2); (try clear hk); (try clear hi); have hnb67 := NB108_101.out; have hnc67 := NB101_108.out; have hnb68 := NB108_0.out; have hnc68 := NB0_108.out; have hcz69_0 : w66.cell? ⟨gb108, 0, none⟩ = some (.int .i64 t102) := (blk_cell BK108.out 0).trans rfl; have hcz69_1 : w66.cell? ⟨gb108, 1, none⟩ = some (.int .i64 t104) := (blk_cell BK108.out 1).trans rfl; have hcz69_2 : w66.cell? ⟨gb108, 2, none⟩ = some (.int .i64 (wrap64 (1 + t106))) := (blk_cell BK108.out 2).trans rfl; have hfz69_0 := blk_frozen BK108.out 0; have hfz69_1 := blk_frozen BK108.out 1; have hfz69_2 := blk_frozen BK108.out 2; have hcz70_0 : w66.cell? ⟨gb114, 0, none⟩ = some (.bool ((rd_T54 l1 t111).f0)) := (blk_cell BK114.out 0).trans rfl; have hcz70_1 : w66.cell? ⟨gb114, 1, none⟩ = some (.int .i64 ((rd_T54 l1 t111).f1.f0)) := (blk_cell BK114.out 1).trans rfl; have hcz70_2 : w66.cell? ⟨gb114, 2, none⟩ = some (.int .i64 ((rd_T54 l1 t111).f1.f1)) := (blk_cell BK114.out 2).trans rfl; have hcz70_3 : w66.cell? ⟨gb114, 3, none⟩ = some (.int .i64 ((rd_T54 l1 t111).f2.f0)) := (blk_cell BK114.out 3).trans rfl; have hcz70_4 : w66.cell? ⟨gb114, 4, none⟩ = some (.int .i64 ((rd_T54 l1 t111).f2.f1)) := (blk_cell BK114.out 4).trans rfl; have hcz70_5 : w66.cell? ⟨gb114, 5, none⟩ = some (.int .i64 ((rd_T54 l1 t111).f3)) := (blk_cell BK114.out 5).trans rfl; have hfz70_0 := blk_frozen BK114.out 0; have hfz70_1 := blk_frozen BK114.out 1; have hfz70_2 := blk_frozen BK114.out 2; have hfz70_3 := blk_frozen BK114.out 3; have hfz70_4 := blk_frozen BK114.out 4; have hfz70_5 := blk_frozen BK114.out 5) | ((with_reducible refine gate_callee (f := 100) rfl ?_); refine goesL_ (some 38) rfl rfl Try.func100 (by kernel_rfl) rfl #[.pointer (some ⟨g, 0, none⟩), .agg #[.int .i64 ((rd_T54 l1 t111).f2.f0), .int .i64 ((rd_T54 l1 t111).f2.f1)]] rfl y9  ?_; (with_reducible refine (spec_l5Addr.calls kj5 g s0_0 t116 ((rd_T54 l1 t111).f2.f0) ((rd_T54 l1 t111).f2.f1) t117 t118 w0 _ ?side1 ?side2 A24.out).mono ?_); (case side1 => exact zHI0); (case side2 => exact zHB); rintro e w71 ⟨rfl, hi, hb, hk⟩; refine ⟨_, rfl, ?_⟩; have n0_ := zA (KeepBut.blk hk (g' := gb101) (o := .cells #[.int .i64 0, .int .i64 0, .int .i64 0] 34 (0, 0)) y13  NB101_0.out (by simp)); have n1_ := zA (KeepBut.blk hk (g' := gb108) (o := .cells #[.int .i64 t115, .int .i64 t104, .int .i64 (wrap64 (1 + t106))] 34 (0, 0)) y8  NB108_0.out (by simp)); have n2_ := zA (KeepBut.blk hk (g' := gb114) (o := .cells #[.bool ((rd_T54 l1 t111).f0), .int .i64 ((rd_T54 l1 t111).f1.f0), .int .i64 ((rd_T54 l1 t111).f1.f1), .int .i64 ((rd_T54 l1 t111).f2.f0), .int .i64 ((rd_T54 l1 t111).f2.f1), .int .i64 ((rd_T54 l1 t111).f3)] 54 (0, 0)) y14  NB114_0.out (by simp)); have n3_ := zA (KeepBut.trans (zHK) hk (.inl rfl)); have n4_ := zA (hb); have n5_ := zA (hi); clear BK101; clear BK108; clear BK114; clear HK; clear HB; clear HI0; have BK101 := n0_; have BK108 := n1_; have BK114 := n2_; have HK := n3_; have HB := n4_; have HI0 := n5_; clear n0_ n1_ n2_ n3_ n4_ n5_; (try clear hb); (try clear hb2); (try clear hk); (try clear hi); have hcz72_0 : w71.cell? ⟨gb108, 0, none⟩ = some (.int .i64 t115) := (blk_cell BK108.out 0).trans rfl; have hcz72_1 : w71.cell? ⟨gb108, 1, none⟩ = some (.int .i64 t104) := (blk_cell BK108.out 1).trans rfl; have hcz72_2 : w71.cell? ⟨gb108, 2, none⟩ = some (.int .i64 (wrap64 (1 + t106))) := (blk_cell BK108.out 2).trans rfl; have hfz72_0 := blk_frozen BK108.out 0; have hfz72_1 := blk_frozen BK108.out 1; have hfz72_2 := blk_frozen BK108.out 2; have hcz73_0 : w71.cell? ⟨gb114, 0, none⟩ = some (.bool ((rd_T54 l1 t111).f0)) := (blk_cell BK114.out 0).trans rfl; have hcz73_1 : w71.cell? ⟨gb114, 1, none⟩ = some (.int .i64 ((rd_T54 l1 t111).f1.f0)) := (blk_cell BK114.out 1).trans rfl; have hcz73_2 : w71.cell? ⟨gb114, 2, none⟩ = some (.int .i64 ((rd_T54 l1 t111).f1.f1)) := (blk_cell BK114.out 2).trans rfl; have hcz73_3 : w71.cell? ⟨gb114, 3, none⟩ = some (.int .i64 ((rd_T54 l1 t111).f2.f0)) := (blk_cell BK114.out 3).trans rfl; have hcz73_4 : w71.cell? ⟨gb114, 4, none⟩ = some (.int .i64 ((rd_T54 l1 t111).f2.f1)) := (blk_cell BK114.out 4).trans rfl; have hcz73_5 : w71.cell? ⟨gb114, 5, none⟩ = some (.int .i64 ((rd_T54 l1 t111).f3)) := (blk_cell BK114.out 5).trans rfl; have hfz73_0 := blk_frozen BK114.out 0; have hfz73_1 := blk_frozen BK114.out 1; have hfz73_2 := blk_frozen BK114.out 2; have hfz73_3 := blk_frozen BK114.out 3; have hfz73_4 := blk_frozen BK114.out 4; have hfz73_5 := blk_frozen BK114.out 5))
      go_meet
      case rel => exact ⟨_, (t118), (t115), (t117), ((wrap64 (1 + t106))), H', ⟨by have := HJ5.out; first | omega | exact Nat.le_refl _⟩, ⟨by refine zq ?_; refine blk_far ?_ NB101_108.out _; refine zq ?_; exact BK101.out⟩, ⟨by refine zq ?_; refine blk_put (cs := #[.int .i64 t115, .int .i64 t104, .int .i64 (wrap64 (1 + t106))]) ?_ 1 _ rfl; refine zq ?_; exact BK108.out⟩, ⟨zHI0⟩, ⟨zHK⟩, ⟨zHB⟩⟩
     rw [if_neg c22] at H
     exact absurd H (by simp)
    rw [if_neg c21] at H
    exact absurd H (by simp)
   replace c19 := Bool.eq_false_iff.mpr c19
   subst c19
   have H1 : (spec_l5Packet.j1 kj5 s0_0 x1001_5 t102 t104 (wrap64 (1 + t106))) = some (r1, r2, r3, r4) := by rw [if_neg (show ¬ (false = true) by decide)] at H; exact H
   clear H
   have H := H1
   clear H1
   have H' := zA H
   clear H
   go_wp2
   go_meet
   case rel => exact ⟨_, (x1001_5), (t102), (t104), ((wrap64 (1 + t106))), H', ⟨by have := HJ5.out; first | omega | exact Nat.le_refl _⟩, ⟨by refine zq ?_; exact BK101.out⟩, ⟨by refine zq ?_; exact BK108.out⟩, ⟨zHI0⟩, ⟨zHK⟩, ⟨zHB⟩⟩
  case rest =>
   clear HC18
   try clear c1
   try clear p1
   try clear q1
   try clear hx1
   try clear c2
   try clear p2
   try clear c3
   try clear c4
   try clear c5
   try clear c6
   try clear p6
   try clear c8
   try clear c10
   try clear p11
   try clear q11
   try clear hx11
   try clear c12
   try clear c13
   try clear c15
   try clear c15b0
   try clear c15b1
   try clear c19
   try clear c21
   try clear c21b0
   try clear c22
   try clear c22b0
   try clear c25
   try clear c25b0
   try clear c27
   try clear c27b0
   try clear c30
   try clear c31
   try clear c32
   try clear c35
   try clear c36
   try clear c47
   try clear c48
   try clear c49
   try clear c52
   try clear c53
   try clear c62
   try clear c63
   try clear c64
   try clear p64
   try clear c67
   try clear c68
   try clear hcz14_0
   try clear hcz14_1
   try clear hcz14_2
   try clear hcz33_0
   try clear hcz33_1
   try clear hcz33_2
   try clear hcz33_3
   try clear hcz33_4
   try clear hcz33_5
   try clear hcz37_0
   try clear hcz37_1
   try clear hcz37_2
   try clear hcz38_0
   try clear hcz38_1
   try clear hcz38_2
   try clear hcz38_3
   try clear hcz38_4
   try clear hcz38_5
   try clear hcz40_0
   try clear hcz40_1
   try clear hcz40_2
   try clear hcz41_0
   try clear hcz41_1
   try clear hcz41_2
   try clear hcz41_3
   try clear hcz41_4
   try clear hcz41_5
   try clear hcz43_0
   try clear hcz43_1
   try clear hcz43_2
   try clear hcz43_3
   try clear hcz43_4
   try clear hcz43_5
   try clear hcz44_0
   try clear hcz44_1
   try clear hcz44_2
   try clear hcz50_0
   try clear hcz50_1
   try clear hcz50_2
   try clear hcz50_3
   try clear hcz50_4
   try clear hcz50_5
   try clear hcz54_0
   try clear hcz54_1
   try clear hcz54_2
   try clear hcz55_0
   try clear hcz55_1
   try clear hcz55_2
   try clear hcz55_3
   try clear hcz55_4
   try clear hcz55_5
   try clear hcz57_0
   try clear hcz57_1
   try clear hcz57_2
   try clear hcz58_0
   try clear hcz58_1
   try clear hcz58_2
   try clear hcz58_3
   try clear hcz58_4
   try clear hcz58_5
   try clear hcz65_0
   try clear hcz65_1
   try clear hcz65_2
   try clear hcz65_3
   try clear hcz65_4
   try clear hcz65_5
   try clear hcz69_0
   try clear hcz69_1
   try clear hcz69_2
   try clear hcz70_0
   try clear hcz70_1
   try clear hcz70_2
   try clear hcz70_3
   try clear hcz70_4
   try clear hcz70_5
   try clear hcz72_0
   try clear hcz72_1
   try clear hcz72_2
   try clear hcz73_0
   try clear hcz73_1
   try clear hcz73_2
   try clear hcz73_3
   try clear hcz73_4
   try clear hcz73_5
   try clear hfz14_0
   try clear hfz14_1
   try clear hfz14_2
   try clear hfz33_0
   try clear hfz33_1
   try clear hfz33_2
   try clear hfz33_3
   try clear hfz33_4
   try clear hfz33_5
   try clear hfz37_0
   try clear hfz37_1
   try clear hfz37_2
   try clear hfz38_0
   try clear hfz38_1
   try clear hfz38_2
   try clear hfz38_3
   try clear hfz38_4
   try clear hfz38_5
   try clear hfz40_0
   try clear hfz40_1
   try clear hfz40_2
   try clear hfz41_0
   try clear hfz41_1
   try clear hfz41_2
   try clear hfz41_3
   try clear hfz41_4
   try clear hfz41_5
   try clear hfz43_0
   try clear hfz43_1
   try clear hfz43_2
   try clear hfz43_3
   try clear hfz43_4
   try clear hfz43_5
   try clear hfz44_0
   try clear hfz44_1
   try clear hfz44_2
   try clear hfz50_0
   try clear hfz50_1
   try clear hfz50_2
   try clear hfz50_3
   try clear hfz50_4
   try clear hfz50_5
   try clear hfz54_0
   try clear hfz54_1
   try clear hfz54_2
   try clear hfz55_0
   try clear hfz55_1
   try clear hfz55_2
   try clear hfz55_3
   try clear hfz55_4
   try clear hfz55_5
   try clear hfz57_0
   try clear hfz57_1
   try clear hfz57_2
   try clear hfz58_0
   try clear hfz58_1
   try clear hfz58_2
   try clear hfz58_3
   try clear hfz58_4
   try clear hfz58_5
   try clear hfz65_0
   try clear hfz65_1
   try clear hfz65_2
   try clear hfz65_3
   try clear hfz65_4
   try clear hfz65_5
   try clear hfz69_0
   try clear hfz69_1
   try clear hfz69_2
   try clear hfz70_0
   try clear hfz70_1
   try clear hfz70_2
   try clear hfz70_3
   try clear hfz70_4
   try clear hfz70_5
   try clear hfz72_0
   try clear hfz72_1
   try clear hfz72_2
   try clear hfz73_0
   try clear hfz73_1
   try clear hfz73_2
   try clear hfz73_3
   try clear hfz73_4
   try clear hfz73_5
   try clear hx113_0
   try clear hx113_1
   try clear hx113_2
   try clear hx113_3
   try clear hx113_4
   try clear hx113_5
   try clear p113
   try clear p2
   try clear p6
   try clear q113
   obtain ⟨kq, x1001_17, x109000_17, x109001_17, x109002_17, HA, HJ17, BK101, BK108, HI0, HK, HB⟩ := hcut
   cases kq with
   | zero => exact absurd HA.out (by simp [spec_l5Packet.j1])
   | succ kj17 => ?_
   have H := HA.out
   clear HA
   simp only [spec_l5Packet.j1] at H
   replace H := Option.bind_eq_some_iff.mp H
   obtain ⟨⟨t121, t122⟩, A740, H⟩ := H
   replace H : (if t121 = 0 then ((some (([0, 8, (-1)] : List Int) : List Int)).bind fun y123 => ((spec_l1Rd_pick.f kj17 s0_0 t122 3).bind fun bt126 => (if 0 ≤ bt126.1 then (if bt126.1 < (y123.length : Int) then (some (x109000_17, x109001_17, rd y123 bt126.1, bt126.2)) else (none)) else (none)))) else (some (x109000_17, x109001_17, x109002_17, t122))) = some (r1, r2, r3, r4) := H
   have A74 := zA A740
   clear A740
   by_cases c75 : t121 = 0
   ·rw [if_pos c75] at H
    have c75b0 : (t121 == 0) = true := beq_iff_eq.mpr c75
    have c75b1 : (t121 != 0) = false := bne_eq_false_iff_eq.mpr c75
    clear c75
    obtain ⟨y123, hy123⟩ : ∃ y_ : List Int, y_ = (([0, 8, (-1)] : List Int)) := ⟨_, rfl⟩
    replace H : ((spec_l1Rd_pick.f kj17 s0_0 t122 3).bind fun bt126 => (if 0 ≤ bt126.1 then (if bt126.1 < (y123.length : Int) then (some (x109000_17, x109001_17, rd y123 bt126.1, bt126.2)) else (none)) else (none))) = some (r1, r2, r3, r4) := by first | (rw [hy123]; with_reducible exact H) | (have H2_ := (Option.bind_some _ _).symm.trans H; rw [hy123]; with_reducible exact H2_) | (have H2_ := (Option.bind_some _ _).symm.trans H; with_reducible exact H2_) | with_reducible exact H | (rw [hy123]; exact H) | exact H
    have Ny123 := zA hy123
    clear hy123
    replace H := Option.bind_eq_some_iff.mp H
    obtain ⟨⟨t126, t127⟩, A760, H⟩ := H
    replace H : (if 0 ≤ t126 then (if t126 < (y123.length : Int) then (some (x109000_17, x109001_17, rd y123 t126, t127)) else (none)) else (none)) = some (r1, r2, r3, r4) := H
    have A76 := zA A760
    clear A760
    by_cases c77 : 0 ≤ t126
    ·rw [if_pos c77] at H
     have c77b0 : decide (0 ≤ t126) = true := decide_eq_true c77
     clear c77
     by_cases c78 : t126 < (y123.length : Int)
     ·rw [if_pos c78] at H
      have c78b0 : decide (t126 < (y123.length : Int)) = true := decide_eq_true c78
      clear c78
      simp only [Option.some.injEq, Prod.mk.injEq] at H
      obtain ⟨rfl, rfl, rfl, rfl⟩ := H
      go_wp2_with (first | ((with_reducible refine gate_callee (f := 81) rfl ?_); refine goesL_ (some 52) rfl rfl Try.func81 (by kernel_rfl) rfl #[.pointer (some ⟨g, 0, none⟩), .int .i64 24] rfl y9  ?_; (with_reducible refine (spec_l1Rd_pick.calls kj17 g s0_0 x1001_17 24 t121 t122 w0 _ ?side1 ?side2 A74.out).mono ?_); (case side1 => exact zHI0); (case side2 => exact zHB); rintro e w79 ⟨rfl, hi, hb, hk⟩; refine ⟨_, rfl, ?_⟩; have n0_ := zA (KeepBut.blk hk (g' := gb101) (o := .cells #[.int .i64 0, .int .i64 0, .int .i64 0] 34 (0, 0)) (zb BK101.out) NB101_0.out (by simp)); have n1_ := zA (KeepBut.blk hk (g' := gb108) (o := .cells #[.int .i64 x109000_17, .int .i64 x109001_17, .int .i64 x109002_17] 34 (0, 0)) (zb BK108.out) NB108_0.out (by simp)); have n2_ := zA (KeepBut.trans (zHK) hk (.inl rfl)); have n3_ := zA (hb); have n4_ := zA (hi); clear BK101; clear BK108; clear HK; clear HB; clear HI0; have BK101 := n0_; have BK108 := n1_; have HK := n2_; have HB := n3_; have HI0 := n4_; clear n0_ n1_ n2_ n3_ n4_; (try clear hb); (try clear hb2); (try clear hk); (try clear hi)) | ((with_reducible refine gate_dst (N := 54) rfl ?_); refine Kd.R_lit (Kd.int .i64) _ 3 ?hg (N := 54) ?hd (xs := ([0, 8, (-1)] : List Int)) (inner := [.int .i64 0, .int .i64 8, .int .i64 (-1)]) (ok := fun _ => True) (okp := fun _ => True) ?hr ?hp (fun _ hk => hk) trivial (Below.refl _ _) (Nat.le_refl _) (by simp) ?_; (case hd => rfl); (case hg => rfl); (case hr => first | (go_simp; done) | (go_simp; rfl)); (case hp => exact (Reps.one (show Kd.M (Kd.int .i64) _ _ _ 0 [.int .i64 0] from rfl) (Reps.one (show Kd.M (Kd.int .i64) _ _ _ 8 [.int .i64 8] from rfl) (Reps.one (show Kd.M (Kd.int .i64) _ _ _ (-1) [.int .i64 (-1)] from rfl) (Reps.none _ _))))); intro v124 w80 ho81 hb hg_ hnew_; clear hg_ hnew_; (first | rw [← Ny123.out] at ho81 | (simp only [Int.reduceToNat] at ho81; rw [← Ny123.out] at ho81)); have n0_ := zA (Kd.R_lower ho81 (keep_size (w := w) (g := g) (row := none) (zHK))); have n1_ := zA (blk_below (g := gb101) (o := .cells #[.int .i64 0, .int .i64 0, .int .i64 0] 34 (0, 0)) (zb BK101.out) hb); have n2_ := zA (blk_below (g := gb108) (o := .cells #[.int .i64 x109000_17, .int .i64 x109001_17, .int .i64 x109002_17] 34 (0, 0)) (zb BK108.out) hb); have n3_ := zA (IsS117.below (zHI0) hb); have n4_ := zA (KeepBut.trans (zHK) (KeepBut.of_below hb g none) (.inl rfl)); have n5_ := zA (below_step (zHB) hb); clear BK101; clear BK108; clear HI0; clear HK; clear HB; have HO125 := n0_; have BK101 := n1_; have BK108 := n2_; have HI0 := n3_; have HK := n4_; have HB := n5_; clear n0_ n1_ n2_ n3_ n4_ n5_; clear hb ho81) | ((with_reducible refine gate_callee (f := 81) rfl ?_); refine goesL_ (some 56) rfl rfl Try.func81 (by kernel_rfl) rfl #[.pointer (some ⟨g, 0, none⟩), .int .i64 3] rfl y9  ?_; (with_reducible refine (spec_l1Rd_pick.calls kj17 g s0_0 t122 3 t126 t127 w0 _ ?side1 ?side2 A76.out).mono ?_); (case side1 => exact zHI0); (case side2 => exact zHB); rintro e w82 ⟨rfl, hi, hb, hk⟩; refine ⟨_, rfl, ?_⟩; have n0_ := zA (KeepBut.blk hk (g' := gb101) (o := .cells #[.int .i64 0, .int .i64 0, .int .i64 0] 34 (0, 0)) (zb BK101.out) NB101_0.out (by simp)); have n1_ := zA (KeepBut.blk hk (g' := gb108) (o := .cells #[.int .i64 x109000_17, .int .i64 x109001_17, .int .i64 x109002_17] 34 (0, 0)) (zb BK108.out) NB108_0.out (by simp)); have n2_ := zA (Kd.R_mono (Kd.R_keep (IsS117.apart (show IsS117 w0 _ g s0_0 t122 from zHI0) (by (with_reducible repeat (first | apply Kd.R_alloc | apply Kd.R_drewN | apply Kd.R_drew)); exact HO125.out) (by decide)) hk (fun _ h => h.2)) (fun _ h => h.1)); have n3_ := zA (KeepBut.trans (zHK) hk (.inl rfl)); have n4_ := zA (hb); have n5_ := zA (hi); clear BK101; clear BK108; clear HO125; clear HK; clear HB; clear HI0; have BK101 := n0_; have BK108 := n1_; have HO125 := n2_; have HK := n3_; have HB := n4_; have HI0 := n5_; clear n0_ n1_ n2_ n3_ n4_ n5_; (try clear hb); (try clear hb2); (try clear hk); (try clear hi); obtain ⟨Ao83, co83, eo83⟩ := Kd.R_slice HO125.out; subst eo83; have p128 : 0 ≤ (t126 : Int) := of_decide_eq_true y15 ; have q128 : t126 < (y123.length : Int) := of_decide_eq_true y15 ; obtain ⟨ad128, e128, hx128_0⟩ := Kd.at_int (Kd.R_reads' HO125.out).2.2 t126 p128 q128; cases e128; replace p128 := eq_true p128; replace q128 := eq_true q128; have hnb84 := NB108_101.out; have hnc84 := NB101_108.out; have hnb85 := NB108_0.out; have hnc85 := NB0_108.out; have hcz86_0 : w82.cell? ⟨gb108, 0, none⟩ = some (.int .i64 x109000_17) := (blk_cell BK108.out 0).trans rfl; have hcz86_1 : w82.cell? ⟨gb108, 1, none⟩ = some (.int .i64 x109001_17) := (blk_cell BK108.out 1).trans rfl; have hcz86_2 : w82.cell? ⟨gb108, 2, none⟩ = some (.int .i64 x109002_17) := (blk_cell BK108.out 2).trans rfl; have hfz86_0 := blk_frozen BK108.out 0; have hfz86_1 := blk_frozen BK108.out 1; have hfz86_2 := blk_frozen BK108.out 2; have hnb87 := NB101_0.out; have hnc87 := NB0_101.out; have hcz88_0 : w82.cell? ⟨gb101, 0, none⟩ = some (.int .i64 0) := (blk_cell BK101.out 0).trans rfl; have hcz88_1 : w82.cell? ⟨gb101, 1, none⟩ = some (.int .i64 0) := (blk_cell BK101.out 1).trans rfl; have hcz88_2 : w82.cell? ⟨gb101, 2, none⟩ = some (.int .i64 0) := (blk_cell BK101.out 2).trans rfl; have hfz88_0 := blk_frozen BK101.out 0; have hfz88_1 := blk_frozen BK101.out 1; have hfz88_2 := blk_frozen BK101.out 2))
      refine bodyPost_ret (results_cell_row rfl _ _ gb101 34 #[.int .i64 x109000_17, .int .i64 x109001_17, .int .i64 (rd y123 t126)] (0, 0) _ rfl (by refine zq ?_; refine blk_put (cs := #[.int .i64 x109000_17, .int .i64 x109001_17, .int .i64 0]) ?_ 2 _ rfl; refine zq ?_; refine blk_put (cs := #[.int .i64 x109000_17, .int .i64 0, .int .i64 0]) ?_ 1 _ rfl; refine zq ?_; refine blk_put (cs := #[.int .i64 0, .int .i64 0, .int .i64 0]) ?_ 0 _ rfl; refine zq ?_; refine blk_far ?_ NB101_108.out _; refine zq ?_; exact BK101.out) Try.underlying34 rfl (by kernel_rfl)) rfl ?_
      exact ⟨by first | rfl | (simp [errW_none, errW_some] <;> rfl) | (simp [*, errW_none, errW_some] <;> rfl), zHI0, zHB, zHK⟩
     rw [if_neg c78] at H
     exact absurd H (by simp)
    rw [if_neg c77] at H
    exact absurd H (by simp)
   rw [if_neg c75] at H
   have c75b0 : (t121 == 0) = false := beq_eq_false_iff_ne.mpr c75
   have c75b1 : (t121 != 0) = true := bne_iff_ne.mpr c75
   simp only [Option.some.injEq, Prod.mk.injEq] at H
   obtain ⟨rfl, rfl, rfl, rfl⟩ := H
   go_wp2_with (first | ((with_reducible refine gate_callee (f := 81) rfl ?_); refine goesL_ (some 52) rfl rfl Try.func81 (by kernel_rfl) rfl #[.pointer (some ⟨g, 0, none⟩), .int .i64 24] rfl y9  ?_; (with_reducible refine (spec_l1Rd_pick.calls kj17 g s0_0 x1001_17 24 t121 t122 w0 _ ?side1 ?side2 A74.out).mono ?_); (case side1 => exact zHI0); (case side2 => exact zHB); rintro e w89 ⟨rfl, hi, hb, hk⟩; refine ⟨_, rfl, ?_⟩; have n0_ := zA (KeepBut.blk hk (g' := gb101) (o := .cells #[.int .i64 0, .int .i64 0, .int .i64 0] 34 (0, 0)) (zb BK101.out) NB101_0.out (by simp)); have n1_ := zA (KeepBut.blk hk (g' := gb108) (o := .cells #[.int .i64 x109000_17, .int .i64 x109001_17, .int .i64 x109002_17] 34 (0, 0)) (zb BK108.out) NB108_0.out (by simp)); have n2_ := zA (KeepBut.trans (zHK) hk (.inl rfl)); have n3_ := zA (hb); have n4_ := zA (hi); clear BK101; clear BK108; clear HK; clear HB; clear HI0; have BK101 := n0_; have BK108 := n1_; have HK := n2_; have HB := n3_; have HI0 := n4_; clear n0_ n1_ n2_ n3_ n4_; (try clear hb); (try clear hb2); (try clear hk); (try clear hi); have hnb90 := NB108_101.out; have hnc90 := NB101_108.out; have hnb91 := NB108_0.out; have hnc91 := NB0_108.out; have hcz92_0 : w89.cell? ⟨gb108, 0, none⟩ = some (.int .i64 x109000_17) := (blk_cell BK108.out 0).trans rfl; have hcz92_1 : w89.cell? ⟨gb108, 1, none⟩ = some (.int .i64 x109001_17) := (blk_cell BK108.out 1).trans rfl; have hcz92_2 : w89.cell? ⟨gb108, 2, none⟩ = some (.int .i64 x109002_17) := (blk_cell BK108.out 2).trans rfl; have hfz92_0 := blk_frozen BK108.out 0; have hfz92_1 := blk_frozen BK108.out 1; have hfz92_2 := blk_frozen BK108.out 2; have hnb93 := NB101_0.out; have hnc93 := NB0_101.out; have hcz94_0 : w89.cell? ⟨gb101, 0, none⟩ = some (.int .i64 0) := (blk_cell BK101.out 0).trans rfl; have hcz94_1 : w89.cell? ⟨gb101, 1, none⟩ = some (.int .i64 0) := (blk_cell BK101.out 1).trans rfl; have hcz94_2 : w89.cell? ⟨gb101, 2, none⟩ = some (.int .i64 0) := (blk_cell BK101.out 2).trans rfl; have hfz94_0 := blk_frozen BK101.out 0; have hfz94_1 := blk_frozen BK101.out 1; have hfz94_2 := blk_frozen BK101.out 2))
   refine bodyPost_ret (results_cell_row rfl _ _ gb101 34 #[.int .i64 x109000_17, .int .i64 x109001_17, .int .i64 x109002_17] (0, 0) _ rfl (by refine zq ?_; refine blk_put (cs := #[.int .i64 x109000_17, .int .i64 x109001_17, .int .i64 0]) ?_ 2 _ rfl; refine zq ?_; refine blk_put (cs := #[.int .i64 x109000_17, .int .i64 0, .int .i64 0]) ?_ 1 _ rfl; refine zq ?_; refine blk_put (cs := #[.int .i64 0, .int .i64 0, .int .i64 0]) ?_ 0 _ rfl; refine zq ?_; exact BK101.out) Try.underlying34 rfl (by kernel_rfl)) rfl ?_
   exact ⟨by first | rfl | (simp [errW_none, errW_some] <;> rfl) | (simp [*, errW_none, errW_some] <;> rfl), zHI0, zHB, zHK⟩
end Go.Proofs.Ytnakanjhdcakhaa.Q
namespace Go.Proofs.Ytnakanjhdcakhaa.Q
open Go.RowKit Go.Proofs.YtnakanjhdcakhaaW.PrintWords Go.Proofs.YtnakanjhdcakhaaW.PrintLast Go.Proofs.YtnakanjhdcakhaaW.PrintMore
attribute [local go_sem] max2_int min2_int max_two min_two max_three min_three max_four min_four   -- for this text's walks alone
set_option linter.unusedVariables false
set_option linter.unusedSimpArgs false
def spec_DrawAclSays.f (k : Nat) (l0 : List Int) : Option ((List (S54)) × Int × Int × Int) := (spec_l1Open.f l0).bind fun bt102 => ((spec_l5AnyRules.f k bt102.1 bt102.2).bind fun bt105 => ((spec_l5Packet.f k bt102.1 bt105.2 bt105.1).bind fun bt109 => (some (bt105.1, bt109.1, bt109.2.1, bt109.2.2.1))))
set_option maxHeartbeats 8000000 in
set_option maxRecDepth 100000 in
theorem spec_DrawAclSays.calls (k : Nat) (A0 : Option Addr) (c0 : Nat) (l0 : List Int) (r1 : List (S54)) (r2 : Int) (r3 : Int) (r4 : Int) (w : World) (hr0 : Kd.C (Kd.int .u8) w A0 l0.length l0) (hc0 : l0.length ≤ c0) (h : spec_DrawAclSays.f k l0 = some (r1, r2, r3, r4)) :
    Calls Try.prog 30 #[.slice A0 l0.length c0] w fun e w' => ∃ v0_ : Value, e = .returned (.tuple #[v0_, .agg #[.int .i64 r2, .int .i64 r3, .int .i64 r4]]) ∧ Kd.R k54 54 w' w.heap.size (fun _ => True) v0_ r1 ∧ Below w.heap.size w w' := by
  have hu34 := Try.underlying34
  have HR0 := Aside0.mk hr0
  have HC0 := Aside0.mk hc0
  clear hr0 hc0
  have HB := Aside0.mk (Below.refl w.heap.size w)
  have H : ((spec_l1Open.f l0).bind fun bt102 => ((spec_l5AnyRules.f k bt102.1 bt102.2).bind fun bt105 => ((spec_l5Packet.f k bt102.1 bt105.2 bt105.1).bind fun bt109 => (some (bt105.1, bt109.1, bt109.2.1, bt109.2.2.1))))) = some (r1, r2, r3, r4) := h
  clear h
  replace H := Option.bind_eq_some_iff.mp H
  obtain ⟨⟨t102, t103⟩, A20, H⟩ := H
  replace H : ((spec_l5AnyRules.f k t102 t103).bind fun bt105 => ((spec_l5Packet.f k t102 bt105.2 bt105.1).bind fun bt109 => (some (bt105.1, bt109.1, bt109.2.1, bt109.2.2.1)))) = some (r1, r2, r3, r4) := H
  have A2 := Aside0.mk A20
  clear A20
  replace H := Option.bind_eq_some_iff.mp H
  obtain ⟨⟨t105, t108⟩, A30, H⟩ := H
  replace H : ((spec_l5Packet.f k t102 t108 t105).bind fun bt109 => (some (t105, bt109.1, bt109.2.1, bt109.2.2.1))) = some (r1, r2, r3, r4) := H
  have A3 := Aside0.mk A30
  clear A30
  replace H := Option.bind_eq_some_iff.mp H
  obtain ⟨⟨t109, t110, t111, t112⟩, A40, H⟩ := H
  replace H : (some (t105, t109, t110, t111)) = some (r1, r2, r3, r4) := H
  have A4 := Aside0.mk A40
  clear A40
  simp only [Option.some.injEq, Prod.mk.injEq] at H
  obtain ⟨rfl, rfl, rfl, rfl⟩ := H
  go_enter Try.func30, Try.ntmps30
  go_wp2_with (first | ((with_reducible refine gate_dst (N := 3) rfl ?_); refine box_event ?hg (N := 3) ?hd (cs := #[.int .i64 0, .int .i64 0, .int .i64 0]) (t := 34) ?hr ?_; (case hd => rfl); (case hg => rfl); (case hr => first | (go_simp; done) | (go_simp; rfl)); intro gb101 hg w5 hbox hb; have n0_ := Aside0.mk (below_step (by repeat (first | (with_reducible first | exact HB.out | apply below_alloc | apply pw_below_drewN | apply below_drew1) | exact HB.out)) hb); have n1_ := Aside0.mk (hbox); have n2_ := Aside0.mk ((by rw [hg]; exact (below_size (by repeat (first | (with_reducible first | exact HB.out | apply below_alloc | apply pw_below_drewN | apply below_drew1) | exact HB.out))) : w.heap.size ≤ gb101)); have n3_ := Aside0.mk ((by rw [hg]; exact (below_size (by repeat (first | (with_reducible first | exact HB.out | apply below_alloc | apply pw_below_drewN | apply below_drew1) | exact HB.out))) : w.heap.size ≤ gb101)); clear HB; have HB := n0_; have BK101 := n1_; have GW101 := n2_; have GE101 := n3_; clear n0_ n1_ n2_ n3_; clear hb hbox hg) | ((with_reducible refine gate_callee (f := 79) rfl ?_); refine goesL_ (some 7) rfl rfl Try.func79 (by kernel_rfl) rfl #[.slice A0 l0.length c0] rfl (by (try simp only [List.map_toArray, List.map_cons, List.map_nil]); first | done | rfl | (simp only [List.length_drop, List.length_take]; rfl)) ?_; (with_reducible refine (spec_l1Open.calls _ _ l0 t102 t103 w _ ?side1 ?side2 ?side3 A2.out).mono ?_); (case side1 => repeat (first | (with_reducible first | exact HB.out | apply below_alloc | apply pw_below_drewN | apply below_drew1 | refine below_set ?_ GE101.out) | exact HB.out)); (case side2 => exact HR0.out); (case side3 => exact HC0.out); rintro e w6 ⟨g104, rfl, hi, hb, hb2⟩; refine ⟨_, rfl, ?_⟩; have n0_ := Aside0.mk (blk_below (g := gb101) (o := .cells #[.int .i64 0, .int .i64 0, .int .i64 0] 34 (0, 0)) (by (with_reducible repeat (first | refine blk_drewN ?_ _ | refine blk_drew ?_ | refine blk_alloc ?_ _)); exact BK101.out) hb2); have n1_ := Aside0.mk (hb); have n2_ := Aside0.mk (hi); have n3_ := Aside0.mk (IsS117.ne_blk hi (blk_below (g := gb101) (o := .cells #[.int .i64 0, .int .i64 0, .int .i64 0] 34 (0, 0)) (by (with_reducible repeat (first | refine blk_drewN ?_ _ | refine blk_drew ?_ | refine blk_alloc ?_ _)); exact BK101.out) hb2) (by decide)); have n4_ := Aside0.mk (Ne.symm (IsS117.ne_blk hi (blk_below (g := gb101) (o := .cells #[.int .i64 0, .int .i64 0, .int .i64 0] 34 (0, 0)) (by (with_reducible repeat (first | refine blk_drewN ?_ _ | refine blk_drew ?_ | refine blk_alloc ?_ _)); exact BK101.out) hb2) (by decide))); clear BK101; clear HB; have BK101 := n0_; have HB := n1_; have HI104 := n2_; have NB104_101 := n3_; have NB101_104 := n4_; clear n0_ n1_ n2_ n3_ n4_; (try clear hb); (try clear hb2); (try clear hk); (try clear hi)) | ((with_reducible refine gate_callee (f := 80) rfl ?_); refine goesL_ (some 9) rfl rfl Try.func80 (by kernel_rfl) rfl #[.pointer (some ⟨g104, 0, none⟩)] rfl (by (try simp only [List.map_toArray, List.map_cons, List.map_nil]); first | done | rfl | (simp only [List.length_drop, List.length_take]; rfl)) ?_; (with_reducible refine (spec_l5AnyRules.calls k g104 t102 t103 t105 t108 w _ ?side1 ?side2 A3.out).mono ?_); (case side1 => repeat (first | (with_reducible first | exact HI104.out | apply IsS117.alloc | apply IsS117.drewN | apply IsS117.drew | apply IsS117.set_1 | refine IsS117.far ?_ NB104_101.out _) | exact HI104.out)); (case side2 => repeat (first | (with_reducible first | exact HB.out | apply below_alloc | apply pw_below_drewN | apply below_drew1 | refine below_set ?_ (IsS117.ge HI104.out) | refine below_set ?_ GE101.out) | exact HB.out)); rintro e w7 ⟨v106, rfl, ho0, hi, hb, hk⟩; refine ⟨_, rfl, ?_⟩; have n0_ := Aside0.mk (KeepBut.blk hk (g' := gb101) (o := .cells #[.int .i64 0, .int .i64 0, .int .i64 0] 34 (0, 0)) (by (with_reducible repeat (first | refine blk_drewN ?_ _ | refine blk_drew ?_ | refine blk_alloc ?_ _)); exact BK101.out) NB101_104.out (by simp)); have n1_ := Aside0.mk (Kd.R_lower ho0 (below_size (by repeat (first | (with_reducible first | exact HB.out | apply below_alloc | apply pw_below_drewN | apply below_drew1 | refine below_set ?_ (IsS117.ge HI104.out) | refine below_set ?_ GE101.out) | exact HB.out)))); have n2_ := Aside0.mk (hb); have n3_ := Aside0.mk (hi); clear BK101; clear HB; clear HI104; have BK101 := n0_; have HO107 := n1_; have HB := n2_; have HI104 := n3_; clear n0_ n1_ n2_ n3_; (try clear hb); (try clear hb2); (try clear hk); (try clear hi); (try clear ho0); obtain ⟨Ao8, co8, eo8⟩ := Kd.R_slice HO107.out; subst eo8) | ((with_reducible refine gate_callee (f := 87) rfl ?_); refine goesL_ (some 13) rfl rfl Try.func87 (by kernel_rfl) rfl #[.pointer (some ⟨g104, 0, none⟩), .slice Ao8 t105.length co8] rfl (by (try simp only [List.map_toArray, List.map_cons, List.map_nil]); first | done | rfl | (simp only [List.length_drop, List.length_take]; rfl)) ?_; (with_reducible refine (spec_l5Packet.calls k g104 t102 t108 _ _ t105 t109 t110 t111 t112 w _ ?side1 ?side2 ?side3 ?side4 A4.out).mono ?_); (case side1 => repeat (first | (with_reducible first | exact HI104.out | apply IsS117.alloc | apply IsS117.drewN | apply IsS117.drew | apply IsS117.set_1 | refine IsS117.far ?_ NB104_101.out _) | exact HI104.out)); (case side2 => repeat (first | (with_reducible first | exact HB.out | apply below_alloc | apply pw_below_drewN | apply below_drew1 | refine below_set ?_ (IsS117.ge HI104.out) | refine below_set ?_ GE101.out) | exact HB.out)); (case side3 => exact Kd.C_foot_own (IsS117.apart (show IsS117 w _ g104 t102 t108 from by repeat (first | (with_reducible first | exact HI104.out | apply IsS117.alloc | apply IsS117.drewN | apply IsS117.drew | apply IsS117.set_1 | refine IsS117.far ?_ NB104_101.out _) | exact HI104.out)) (by (with_reducible repeat (first | apply Kd.R_alloc | apply Kd.R_drewN | apply Kd.R_drew)); exact HO107.out) (by decide)) (fun _ h_ => h_.2)); (case side4 => exact (Kd.R_reads' HO107.out).2.1); rintro e w9 ⟨rfl, hi, hb, hk⟩; refine ⟨_, rfl, ?_⟩; have n0_ := Aside0.mk (KeepBut.blk hk (g' := gb101) (o := .cells #[.int .i64 0, .int .i64 0, .int .i64 0] 34 (0, 0)) (by (with_reducible repeat (first | refine blk_drewN ?_ _ | refine blk_drew ?_ | refine blk_alloc ?_ _)); exact BK101.out) NB101_104.out (by simp)); have n1_ := Aside0.mk (Kd.R_mono (Kd.R_keep (IsS117.apart (show IsS117 w _ g104 t102 t108 from by repeat (first | (with_reducible first | exact HI104.out | apply IsS117.alloc | apply IsS117.drewN | apply IsS117.drew | apply IsS117.set_1 | refine IsS117.far ?_ NB104_101.out _) | exact HI104.out)) (by (with_reducible repeat (first | apply Kd.R_alloc | apply Kd.R_drewN | apply Kd.R_drew)); exact HO107.out) (by decide)) hk (fun _ h => h.2)) (fun _ h => h.1)); have n2_ := Aside0.mk (hb); have n3_ := Aside0.mk (hi); clear BK101; clear HO107; clear HB; clear HI104; have BK101 := n0_; have HO107 := n1_; have HB := n2_; have HI104 := n3_; clear n0_ n1_ n2_ n3_; (try clear hb); (try clear hb2); (try clear hk); (try clear hi); have hnb10 := NB101_104.out; have hnc10 := NB104_101.out; have hcz11_0 : w9.cell? ⟨gb101, 0, none⟩ = some (.int .i64 0) := (blk_cell BK101.out 0).trans rfl; have hcz11_1 : w9.cell? ⟨gb101, 1, none⟩ = some (.int .i64 0) := (blk_cell BK101.out 1).trans rfl; have hcz11_2 : w9.cell? ⟨gb101, 2, none⟩ = some (.int .i64 0) := (blk_cell BK101.out 2).trans rfl; have hfz11_0 := blk_frozen BK101.out 0; have hfz11_1 := blk_frozen BK101.out 1; have hfz11_2 := blk_frozen BK101.out 2))
  refine bodyPost_ret (results_tc rfl _ _ gb101 34 #[.int .i64 t109, .int .i64 t110, .int .i64 t111] (0, 0) _ rfl (by (with_reducible repeat (first | refine blk_drewN ?_ _ | refine blk_drew ?_ | refine blk_alloc ?_ _)); refine blk_put (cs := #[.int .i64 t109, .int .i64 t110, .int .i64 0]) ?_ 2 _ rfl; (with_reducible repeat (first | refine blk_drewN ?_ _ | refine blk_drew ?_ | refine blk_alloc ?_ _)); refine blk_put (cs := #[.int .i64 t109, .int .i64 0, .int .i64 0]) ?_ 1 _ rfl; (with_reducible repeat (first | refine blk_drewN ?_ _ | refine blk_drew ?_ | refine blk_alloc ?_ _)); refine blk_put (cs := #[.int .i64 0, .int .i64 0, .int .i64 0]) ?_ 0 _ rfl; (with_reducible repeat (first | refine blk_drewN ?_ _ | refine blk_drew ?_ | refine blk_alloc ?_ _)); exact BK101.out) Try.underlying34 rfl (by kernel_rfl)) rfl ?_
  exact ⟨_, by first | rfl | (simp [errW_none, errW_some] <;> rfl) | (simp [*, errW_none, errW_some] <;> rfl), by (with_reducible repeat (first | apply Kd.R_alloc | apply Kd.R_drewN | apply Kd.R_drew)); exact Kd.R_mono (Kd.R_far (p := ⟨gb101, 2, none⟩) (Kd.R_far (p := ⟨gb101, 1, none⟩) (Kd.R_far (p := ⟨gb101, 0, none⟩) (Kd.R_types HO107.out BK101.out (by decide)) (fun _ hk => hk.2) (.int .i64 t109)) (fun _ hk => hk.2) (.int .i64 t110)) (fun _ hk => hk.2) (.int .i64 t111)) (fun _ hk => trivial), by repeat (first | (with_reducible first | exact HB.out | apply below_alloc | apply pw_below_drewN | apply below_drew1 | refine below_set ?_ (IsS117.ge HI104.out) | refine below_set ?_ GE101.out) | exact HB.out)⟩
end Go.Proofs.Ytnakanjhdcakhaa.Q
namespace Go.Proofs.Ytnakanjhdcakhaa.Q
open Go.RowKit Go.Proofs.YtnakanjhdcakhaaW.PrintWords Go.Proofs.YtnakanjhdcakhaaW.PrintLast Go.Proofs.YtnakanjhdcakhaaW.PrintMore
attribute [local go_sem] max2_int min2_int max_two min_two max_three min_three max_four min_four   -- for this text's walks alone
set_option linter.unusedVariables false
set_option linter.unusedSimpArgs false
def impl_isAddr.f (a0 : Int) : Option (Bool) := if a0 ≥ 0 then (some (decide (a0 ≤ 65535))) else (some false)
set_option maxHeartbeats 8000000 in
set_option maxRecDepth 100000 in
theorem impl_isAddr.calls (a0 : Int) (r : Bool) (w : World) (h : impl_isAddr.f a0 = some r) :
    Calls Try.prog 77 #[.int .i64 a0] w fun e w' => e = .returned (.bool r) ∧ Drawn0 w w' := by
  have H : (if a0 ≥ 0 then (some (decide (a0 ≤ 65535))) else (some false)) = some r := h
  clear h
  by_cases c2 : a0 ≥ 0
  · rw [if_pos c2] at H
    have c2b0 : decide (0 ≤ a0) = true := decide_eq_true c2
    clear c2
    obtain rfl := Option.some.inj H
    go_enter Try.func77, Try.ntmps77
    go_wp2
    go_ret
    exact ⟨by first | rfl | (simp; done) | (simp [*]; done), by repeat (first | exact Drawn0.refl _ | apply Drawn0.step)⟩
  · rw [if_neg c2] at H
    have c2b0 : decide (0 ≤ a0) = false := decide_eq_false c2
    clear c2
    obtain rfl := Option.some.inj H
    go_enter Try.func77, Try.ntmps77
    go_wp2
    go_ret
    exact ⟨by first | rfl | (simp; done) | (simp [*]; done), by repeat (first | exact Drawn0.refl _ | apply Drawn0.step)⟩
end Go.Proofs.Ytnakanjhdcakhaa.Q
namespace Go.Proofs.Ytnakanjhdcakhaa.Q
open Go.RowKit Go.Proofs.YtnakanjhdcakhaaW.PrintWords Go.Proofs.YtnakanjhdcakhaaW.PrintLast Go.Proofs.YtnakanjhdcakhaaW.PrintMore
attribute [local go_sem] max2_int min2_int max_two min_two max_three min_three max_four min_four   -- for this text's walks alone
set_option linter.unusedVariables false
set_option linter.unusedSimpArgs false
def impl_size.f (a0_0 : Int) (a0_1 : Int) : Option (Int) := if 0 ≤ (wrap64 (16 - a0_1)) then (some (shl .i64 1 (wrap64 (16 - a0_1)))) else (none)
set_option maxHeartbeats 8000000 in
set_option maxRecDepth 100000 in
theorem impl_size.calls (a0_0 : Int) (a0_1 : Int) (r : Int) (w : World) (h : impl_size.f a0_0 a0_1 = some r) :
    Calls Try.prog 78 #[.agg #[.int .i64 a0_0, .int .i64 a0_1]] w fun e w' => e = .returned (.int .i64 r) ∧ Below w.heap.size w w' := by
  have hu26 := Try.underlying26
  have HB := Aside0.mk (Below.refl w.heap.size w)
  have H : (if 0 ≤ (wrap64 (16 - a0_1)) then (some (shl .i64 1 (wrap64 (16 - a0_1)))) else (none)) = some r := h
  clear h
  obtain ⟨ji2, hji2⟩ : ∃ j_ : Int, (wrap64 (16 - a0_1)) = j_ := ⟨_, rfl⟩
  replace H : (if 0 ≤ (ji2) then (some (shl .i64 1 (ji2))) else (none)) = some r := by first | (rw [hji2] at H; exact H) | (simp only [hji2] at H ⊢; exact H)
  have hji2w : (IntKind.i64.wrap (16 - a0_1)) = ji2 := (i64_w _).trans hji2
  by_cases c3 : 0 ≤ (ji2)
  · rw [if_pos c3] at H
    have c3b0 := eq_true c3
    have c3b1 : decide (0 ≤ (ji2)) = true := decide_eq_true c3
    clear c3
    obtain ⟨ji4, hji4⟩ : ∃ j_ : Int, (shl .i64 1 (ji2)) = j_ := ⟨_, rfl⟩
    replace H : (some ji4) = some r := by first | (rw [hji4] at H; exact H) | (simp only [hji4] at H ⊢; exact H)
    have hji4_ : (IntKind.i64.wrap (1 * 2 ^ min (ji2).toNat 64)) = ji4 := hji4
    have hji4z : (ji2) ≤ 64 → (IntKind.i64.wrap (1 * 2 ^ (ji2).toNat)) = ji4 := shl_small hji4
    have hji4u : (IntKind.i64.wrap (2 ^ min (ji2).toNat 64)) = ji4 := by have h_ := hji4_; rw [Int.one_mul] at h_; exact h_
    have hji4v : (ji2) ≤ 64 → (IntKind.i64.wrap (2 ^ (ji2).toNat)) = ji4 := fun hle_ => by have h_ := hji4z hle_; rw [Int.one_mul] at h_; exact h_
    have hji4y : (wrap64 (1 * 2 ^ min (ji2).toNat 64)) = ji4 := (i64_w _).symm.trans hji4_
    have hji4x : (ji2) ≤ 64 → (wrap64 (1 * 2 ^ (ji2).toNat)) = ji4 := fun h_ => (i64_w _).symm.trans (hji4z h_)
    obtain rfl := Option.some.inj H
    go_enter Try.func78, Try.ntmps78
    go_wp2_with (first | ((with_reducible refine gate_dst (N := 1) rfl ?_); refine box_event ?hg (N := 1) ?hd (cs := #[.int .i64 a0_0, .int .i64 a0_1]) (t := 26) ?hr ?_; (case hd => rfl); (case hg => rfl); (case hr => first | (go_simp; done) | (go_simp; rfl)); intro gb101 hg w5 hbox hb; have n0_ := Aside0.mk (below_step (by repeat (first | (with_reducible first | exact HB.out | apply below_alloc | apply pw_below_drewN | apply below_drew1) | exact HB.out)) hb); have n1_ := Aside0.mk (hbox); have n2_ := Aside0.mk ((by rw [hg]; exact (below_size (by repeat (first | (with_reducible first | exact HB.out | apply below_alloc | apply pw_below_drewN | apply below_drew1) | exact HB.out))) : w.heap.size ≤ gb101)); have n3_ := Aside0.mk ((by rw [hg]; exact (below_size (by repeat (first | (with_reducible first | exact HB.out | apply below_alloc | apply pw_below_drewN | apply below_drew1) | exact HB.out))) : w.heap.size ≤ gb101)); clear HB; have HB := n0_; have BK101 := n1_; have GW101 := n2_; have GE101 := n3_; clear n0_ n1_ n2_ n3_; clear hb hbox hg; have hcz6_0 : w5.cell? ⟨gb101, 0, none⟩ = some (.int .i64 a0_0) := (blk_cell BK101.out 0).trans rfl; have hcz6_1 : w5.cell? ⟨gb101, 1, none⟩ = some (.int .i64 a0_1) := (blk_cell BK101.out 1).trans rfl; have hfz6_0 := blk_frozen BK101.out 0; have hfz6_1 := blk_frozen BK101.out 1))
    go_ret
    exact ⟨by first | rfl | (simp [errW_none, errW_some] <;> rfl) | (simp only [← hji2, ← hji4]; first | rfl | (simp [errW_none, errW_some] <;> rfl)) | (simp [*, errW_none, errW_some] <;> rfl), by repeat (first | (with_reducible first | exact HB.out | apply below_alloc | apply pw_below_drewN | apply below_drew1 | refine below_set ?_ GE101.out) | exact HB.out)⟩
  · rw [if_neg c3] at H
    exact absurd H (by simp)
end Go.Proofs.Ytnakanjhdcakhaa.Q
