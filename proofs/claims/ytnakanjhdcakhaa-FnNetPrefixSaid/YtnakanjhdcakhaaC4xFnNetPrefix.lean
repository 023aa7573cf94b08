/- Lemmas for FnNetPrefix, part 4 of 5: the program's functions as Lean functions, what each Go function comes to, and plain lemmas on them. No statement of its own. -/
import Derived.Test.YtnakanjhdcakhaaC1xFnNetPrefix
import Derived.Test.YtnakanjhdcakhaaC2xFnNetPrefix
import Derived.Test.YtnakanjhdcakhaaC3xFnNetPrefix
namespace Go.Proofs.Ytnakanjhdcakhaa.Q
open Go.RowKit Go.Proofs.YtnakanjhdcakhaaW.PrintWords Go.Proofs.YtnakanjhdcakhaaW.PrintLast Go.Proofs.YtnakanjhdcakhaaW.PrintMore
attribute [local go_sem] max2_int min2_int max_two min_two max_three min_three max_four min_four   -- for this text's walks alone
set_option linter.unusedVariables false
set_option linter.unusedSimpArgs false
attribute [local go_sem high] eqA26
theorem laws_FnNetPrefix.u : (∀ {α : Type} (l : List α) (i : Nat) (a : α), l.toArray.setIfInBounds i a = (l.set i a).toArray) ∧ (∀ {α : Type} (x : α) (xs : List α) (a : α), (x :: xs).set 0 a = a :: xs) ∧ (∀ {α : Type} (x : α) (xs : List α) (i : Nat) (a : α), (x :: xs).set (i + 1) a = x :: xs.set i a) ∧ (∀ n, IntKind.i64.wrap n = Go.RowKit.wrap64 n) ∧ ∀ n, IntKind.i32.wrap n = Go.RowKit.wrap32 n := ⟨fun l i a => List.setIfInBounds_toArray l i a, fun _ _ _ => rfl, fun _ _ _ _ => rfl, i64_w, i32_w⟩
theorem laws_FnNetPrefix.zHB {P : Prop} (h : P := by repeat (first | (with_reducible first | exact HB.out | apply below_alloc | apply pw_below_drewN | apply below_drew1 | refine below_set ?_ GE105.out | refine below_set ?_ GE106.out | refine below_set ?_ GE117.out | refine below_set ?_ GE125.out | refine below_set ?_ GE126.out | refine below_set ?_ GE132.out | refine below_set ?_ GE133.out) | exact HB.out)) : P := h
theorem laws_FnNetPrefix.zb {P Q : Prop} (x : Q) (h : Q → P := by intro x_; (with_reducible repeat (first | refine blk_drewN ?_ _ | refine blk_drew ?_ | refine blk_alloc ?_ _)); exact x_) : P := h x
theorem laws_FnNetPrefix.zq {P Q : Prop} (x : Q) (h : Q → P := by intro x_; (with_reducible repeat (first | refine blk_drewN ?_ _ | refine blk_drew ?_ | refine blk_alloc ?_ _)); exact x_) : P := h x
def laws_FnNetPrefix.zl (n k : Nat) : Array Bool := ((List.range n).map fun i => k.testBit i).toArray
theorem laws_FnNetPrefix.y1 {P : Prop} (h : P := by (try simp only [List.map_toArray, List.map_cons, List.map_nil]); first | done | rfl | (simp only [List.length_drop, List.length_take]; rfl)) : P := h
theorem laws_FnNetPrefix.y2 {P : Prop} (h : P := by rw [hg]; exact (below_size (zHB))) : P := h
theorem laws_FnNetPrefix.y3 {P : Prop} (h : P := by first | rfl | (simp; done) | (simp [*]; done)) : P := h
theorem laws_FnNetPrefix.zA {p : Prop} (h : p) : Aside0 p := ⟨h⟩
set_option maxHeartbeats 8000000 in
set_option maxRecDepth 100000 in
theorem laws_FnNetPrefix.calls (k : Nat) (A0 : Option Addr) (c0 : Nat) (l0 : List Int) (A1 : Option Addr) (c1 : Nat) (l1 : List Int) (r : Bool) (w : World) (hr0 : Kd.C (Kd.int .u8) w A0 l0.length l0) (hc0 : l0.length ≤ c0) (hr1 : Kd.C (Kd.int .u8) w A1 l1.length l1) (hc1 : l1.length ≤ c1) (h : laws_FnNetPrefix.f k l0 l1 = some r) :
  Calls Try.prog 12 #[.slice A0 l0.length c0, .slice A1 l1.length c1] w fun e w' => e = .returned (.bool r) ∧ Below w.heap.size w w' := by
 have hu26 := Try.underlying26
 have HR0 := zA hr0
 have HC0 := zA hc0
 clear hr0 hc0
 have HR1 := zA hr1
 have HC1 := zA hc1
 clear hr1 hc1
 have HB := zA (Below.refl w.heap.size w)
 have H : (if (l0.length : Int) > 1048576 then (laws_FnNetPrefix.j0 k l0 l1 true) else (laws_FnNetPrefix.j0 k l0 l1 (decide ((l1.length : Int) > 1048576)))) = some r := h
 clear h
 have HC3 := zA H
 clear H
 go_enter Try.func12, Try.ntmps12
 go_upto_region 1 with (fail)
 go_cut [25] (fun v25 wc => ∃ (kq : Nat) (x25_2 : Bool), v25 = .bool x25_2 ∧ Aside0 (laws_FnNetPrefix.j0 kq l0 l1 x25_2 = some r) ∧ Aside0 (kq ≤ k) ∧ Aside0 (Below w.heap.size w wc))
 case first =>
  have H := HC3.out
  clear HC3
  by_cases c4 : (l0.length : Int) > 1048576
  ·as_aux_lemma =>
   rw [if_pos c4] at H
   have c4b0 : decide (1048576 < (l0.length : Int)) = true := decide_eq_true c4
   have c4b1 : decide (1048576 < l0.length) = true := decide_eq_true (by omega)
   clear c4
   (first | rw [c4b0] | (simp only [i64_w, i32_w]; rw [c4b0]) | skip)
   have H' := zA H
   clear H
   as_aux_lemma =>
   go_wp2
   go_meet
   case rel => exact ⟨_, (true), y3 , H', ⟨by first | omega | exact Nat.le_refl _⟩, ⟨zHB⟩⟩
  rw [if_neg c4] at H
  have c4b0 : decide (1048576 < (l0.length : Int)) = false := decide_eq_false c4
  have c4b1 : decide (1048576 < l0.length) = false := decide_eq_false (by omega)
  clear c4
  (first | rw [c4b0] | (simp only [i64_w, i32_w]; rw [c4b0]) | skip)
  have H' := zA H
  clear H
  as_aux_lemma =>
  go_wp2
  go_meet
  case rel => exact ⟨_, (decide ((l1.length : Int) > 1048576)), y3 , H', ⟨by first | omega | exact Nat.le_refl _⟩, ⟨zHB⟩⟩
 case rest =>
  clear HC3
  try clear c1
  try clear p2
  try clear c4
  try clear c4b0
  try clear c4b1
  obtain ⟨kq, x25_2, rfl, HA, HJ2, HB⟩ := hcut
  cases kq with
  | zero => exact absurd HA.out (by simp [laws_FnNetPrefix.j0])
  | succ kj2 => ?_
  have H := HA.out
  clear HA
  simp only [laws_FnNetPrefix.j0] at H
  by_cases c5 : x25_2 = true
  ·as_aux_lemma =>
   subst c5
   have H1 : (some true) = some r := by rw [if_pos rfl] at H; exact H
   clear H
   have H := H1
   clear H1
   obtain rfl := Option.some.inj H
   go_wp2
   go_ret
   exact ⟨by first | rfl | (simp [errW_none, errW_some] <;> rfl) | (simp [*, errW_none, errW_some] <;> rfl), zHB⟩
  replace c5 := Bool.eq_false_iff.mpr c5
  subst c5
  have H1 : ((spec_DrawNetIn.f kj2 l0).bind fun bt101 => ((impl_NetIn.f bt101.1 bt101.2.1 bt101.2.2.1 bt101.2.2.2).bind fun t107 => ((spec_NetIn.f kj2 bt101.1 bt101.2.1 bt101.2.2.1 bt101.2.2.2).bind fun t108 => (if (t107 != t108) = true then (laws_FnNetPrefix.j1 kj2 l1 t107 true bt101.1 bt101.2.1 bt101.2.2.1 bt101.2.2.2) else ((impl_NetOk.f bt101.1 bt101.2.1).bind fun t109 => ((spec_NetOk.f kj2 bt101.1 bt101.2.1).bind fun t110 => (laws_FnNetPrefix.j1 kj2 l1 t107 (t109 != t110) bt101.1 bt101.2.1 bt101.2.2.1 bt101.2.2.2))))))) = some r := by rw [if_neg (show ¬ (false = true) by decide)] at H; exact H
  clear H
  have H := H1
  clear H1
  replace H := Option.bind_eq_some_iff.mp H
  obtain ⟨⟨t101, t102, t103, t104⟩, A60, H⟩ := H
  replace H : ((impl_NetIn.f t101 t102 t103 t104).bind fun t107 => ((spec_NetIn.f kj2 t101 t102 t103 t104).bind fun t108 => (if (t107 != t108) = true then (laws_FnNetPrefix.j1 kj2 l1 t107 true t101 t102 t103 t104) else ((impl_NetOk.f t101 t102).bind fun t109 => ((spec_NetOk.f kj2 t101 t102).bind fun t110 => (laws_FnNetPrefix.j1 kj2 l1 t107 (t109 != t110) t101 t102 t103 t104)))))) = some r := H
  have A6 := zA A60
  clear A60
  replace H := Option.bind_eq_some_iff.mp H
  obtain ⟨t107, A70, H⟩ := H
  replace H : ((spec_NetIn.f kj2 t101 t102 t103 t104).bind fun t108 => (if (t107 != t108) = true then (laws_FnNetPrefix.j1 kj2 l1 t107 true t101 t102 t103 t104) else ((impl_NetOk.f t101 t102).bind fun t109 => ((spec_NetOk.f kj2 t101 t102).bind fun t110 => (laws_FnNetPrefix.j1 kj2 l1 t107 (t109 != t110) t101 t102 t103 t104))))) = some r := H
  have A7 := zA A70
  clear A70
  have HC8 := zA H
  clear H
  go_upto_region 5 with (first | ((with_reducible refine gate_callee (f := 54) rfl ?_); refine goesL_ (some 28) rfl rfl Try.func54 (by kernel_rfl) rfl #[.slice A0 l0.length c0] rfl y1  ?_; (with_reducible refine (spec_DrawNetIn.calls kj2 _ _ l0 t101 t102 t103 t104 _ ?side1 ?side2 A6.out).mono ?_); (case side1 => repeat (first | exact (Kd.C_below HR0.out HB.out) | (with_reducible refine Kd.C_alloc ?_ _) | (with_reducible refine Kd.C_drewN ?_ _) | (with_reducible refine Kd.C_drew ?_))); (case side2 => exact HC0.out); rintro e w9 ⟨rfl, hb⟩; refine ⟨_, rfl, ?_⟩; have n0_ := zA (below_step (zHB) hb); clear HB; have HB := n0_; clear n0_; (try clear hb); (try clear hb2); (try clear hk); (try clear hi)) | ((with_reducible refine gate_dst (N := 5) rfl ?_); (try (refine gate_guard (by rfl) ?_; dsimp only)); refine box_event ?hg (N := 5) ?hd (cs := #[.int .i64 0, .int .i64 0]) (t := 26) ?hr ?_; (case hd => rfl); (case hg => rfl); (case hr => first | (go_simp; done) | (go_simp; rfl)); intro gb105 hg w10 hbox hb; have n0_ := zA (below_step (zHB) hb); have n1_ := zA (hbox); have n2_ := zA ((by rw [hg]; exact (below_size (zHB)) : w.heap.size ≤ gb105)); have n3_ := zA ((by rw [hg]; exact (below_size (zHB)) : w.heap.size ≤ gb105)); clear HB; have HB := n0_; have BK105 := n1_; have GW105 := n2_; have GE105 := n3_; clear n0_ n1_ n2_ n3_; clear hb hbox hg) | ((with_reducible refine gate_dst (N := 6) rfl ?_); (try (refine gate_guard (by rfl) ?_; dsimp only)); refine box_event ?hg (N := 6) ?hd (cs := #[.int .i64 0, .int .i64 0]) (t := 26) ?hr ?_; (case hd => rfl); (case hg => rfl); (case hr => first | (go_simp; done) | (go_simp; rfl)); intro gb106 hg w11 hbox hb; have n0_ := zA (blk_below (g := gb105) (o := .cells #[.int .i64 0, .int .i64 0] 26 (0, 0)) (zb BK105.out) hb); have n1_ := zA (below_step (zHB) hb); have n2_ := zA (hbox); have n3_ := zA ((by rw [hg]; exact (below_size (zHB)) : w.heap.size ≤ gb106)); have n4_ := zA ((by rw [hg]; exact (below_size (zHB)) : w.heap.size ≤ gb106)); have n5_ := zA ((by rw [hg]; exact Nat.ne_of_lt (blk_lt (g := gb105) (o := .cells #[.int .i64 0, .int .i64 0] 26 (0, 0)) (zb BK105.out)) : gb105 ≠ gb106)); have n6_ := zA ((by rw [hg]; exact Nat.ne_of_gt (blk_lt (g := gb105) (o := .cells #[.int .i64 0, .int .i64 0] 26 (0, 0)) (zb BK105.out)) : gb106 ≠ gb105)); clear BK105; clear HB; have BK105 := n0_; have HB := n1_; have BK106 := n2_; have GW106 := n3_; have GE106 := n4_; have NB105_106 := n5_; have NB106_105 := n6_; clear n0_ n1_ n2_ n3_ n4_ n5_ n6_; clear hb hbox hg; have hnb12 := NB105_106.out; have hnc12 := NB106_105.out; have hcz13_0 : w11.cell? ⟨gb105, 0, none⟩ = some (.int .i64 0) := (blk_cell BK105.out 0).trans rfl; have hcz13_1 : w11.cell? ⟨gb105, 1, none⟩ = some (.int .i64 0) := (blk_cell BK105.out 1).trans rfl; have hfz13_0 := blk_frozen BK105.out 0; have hfz13_1 := blk_frozen BK105.out 1; have hcz14_0 : w11.cell? ⟨gb106, 0, none⟩ = some (.int .i64 0) := (blk_cell BK106.out 0).trans rfl; have hcz14_1 : w11.cell? ⟨gb106, 1, none⟩ = some (.int .i64 0) := (blk_cell BK106.out 1).trans rfl; have hfz14_0 := blk_frozen BK106.out 0; have hfz14_1 := blk_frozen BK106.out 1) | ((with_reducible refine gate_callee (f := 36) rfl ?_); refine goesL_ (some 33) rfl rfl Try.func36 (by kernel_rfl) rfl #[.agg #[.int .i64 t101, .int .i64 t102], .agg #[.int .i64 t103, .int .i64 t104]] rfl y1  ?_; (with_reducible refine (impl_NetIn.calls t101 t102 t103 t104 t107 _ A7.out).mono ?_); rintro e w15 ⟨rfl, hb⟩; refine ⟨_, rfl, ?_⟩; have n0_ := zA (blk_below (g := gb105) (o := .cells #[.int .i64 t101, .int .i64 t102] 26 (0, 0)) (by refine zq ?_; refine blk_far ?_ NB105_106.out _; refine zq ?_; refine blk_far ?_ NB105_106.out _; refine zq ?_; refine blk_put (cs := #[.int .i64 t101, .int .i64 0]) ?_ 1 _ rfl; refine zq ?_; refine blk_put (cs := #[.int .i64 0, .int .i64 0]) ?_ 0 _ rfl; refine zq ?_; exact BK105.out) hb); have n1_ := zA (blk_below (g := gb106) (o := .cells #[.int .i64 t103, .int .i64 t104] 26 (0, 0)) (by refine zq ?_; refine blk_put (cs := #[.int .i64 t103, .int .i64 0]) ?_ 1 _ rfl; refine zq ?_; refine blk_put (cs := #[.int .i64 0, .int .i64 0]) ?_ 0 _ rfl; refine zq ?_; refine blk_far ?_ NB106_105.out _; refine zq ?_; refine blk_far ?_ NB106_105.out _; refine zq ?_; exact BK106.out) hb); have n2_ := zA (below_step (zHB) hb); clear BK105; clear BK106; clear HB; have BK105 := n0_; have BK106 := n1_; have HB := n2_; clear n0_ n1_ n2_; (try clear hb); (try clear hb2); (try clear hk); (try clear hi)))
  (try simp only [Act.put, List.setIfInBounds_toArray, List.set_cons_zero, List.set_cons_succ])
  go_cut [45] (fun v45 wc => ∃ (kq : Nat) (x45_7 : Bool), v45 = .bool x45_7 ∧ Aside0 (laws_FnNetPrefix.j1 kq l1 t107 x45_7 t101 t102 t103 t104 = some r) ∧ Aside0 (kq ≤ kj2) ∧ Aside0 (wc.heap[gb105]? = some (.cells #[.int .i64 t101, .int .i64 t102] 26 (0, 0))) ∧ Aside0 (wc.heap[gb106]? = some (.cells #[.int .i64 t103, .int .i64 t104] 26 (0, 0))) ∧ Aside0 (Below w.heap.size w wc))
  case first =>
   have H := HC8.out
   clear HC8
   replace H := Option.bind_eq_some_iff.mp H
   obtain ⟨t108, A160, H⟩ := H
   replace H : (if (t107 != t108) = true then (laws_FnNetPrefix.j1 kj2 l1 t107 true t101 t102 t103 t104) else ((impl_NetOk.f t101 t102).bind fun t109 => ((spec_NetOk.f kj2 t101 t102).bind fun t110 => (laws_FnNetPrefix.j1 kj2 l1 t107 (t109 != t110) t101 t102 t103 t104)))) = some r := H
   have A16 := zA A160
   clear A160
   by_cases c17 : (t107 != t108) = true
   ·as_aux_lemma =>
    rw [if_pos c17] at H
    have c17b0 : (t107 != t108) = true := c17
    (try (have c17b1 : decide (t107 = t108) = false := by simpa using c17))
    (try (have c17b2 : (t107 == t108) = false := by simpa using c17))
    (try (have c17b3 : ¬ (t107 = t108) := by simpa using c17))
    clear c17
    (first | rw [c17b0] | (simp only [i64_w, i32_w]; rw [c17b0]) | skip)
    have H' := zA H
    clear H
    try go_wp2
    have n0_ := zA (blk_drew BK105.out)
    have n1_ := zA (blk_drew BK106.out)
    have n2_ := zA (below_drew1 HB.out)
    clear BK105
    clear BK106
    clear HB
    have BK105 := n0_
    have BK106 := n1_
    have HB := n2_
    clear n0_ n1_ n2_
    refine start_ (n := 12) (S := fun w' => w'.cell? ⟨gb105, 0, none⟩ = some (.int .i64 t101) ∧ w'.cell? ⟨gb105, 1, none⟩ = some (.int .i64 t102) ∧ w'.cell? ⟨gb106, 0, none⟩ = some (.int .i64 t103) ∧ w'.cell? ⟨gb106, 1, none⟩ = some (.int .i64 t104)) (ds := []) (zl 12 0) (by kernel_rfl) rfl rfl ⟨(blk_cell BK105.out 0).trans rfl, (blk_cell BK105.out 1).trans rfl, (blk_cell BK106.out 0).trans rfl, (blk_cell BK106.out 1).trans rfl⟩ (fun hHeld => ?_); refine with_tabW laws_FnNetPrefix.tab5 laws_FnNetPrefix.bits5 (fun HT_ HW_ => ?_)
    generalize w15.drew = w18 at BK105 BK106 HB hHeld ⊢
    refine pure_ (i := 0) (N := some 34) (v := ?_) (a' := ?_) (zl 12 1) rfl rfl (any_of HT_.out (by kernel_rfl)) (fun _ _ _ h => h) (Or.inl ⟨by rfl, ?_⟩) ?_ ?_
    rotate_left
    ·intro w'
     go_simp
     with_reducible rfl
    rotate_left
    ·simp only [Act.put, u]
     rfl
    refine take_ (i := 1) (N := some 35) (v := ?_) (a' := ?_) (zl 12 3) rfl rfl (take_ofW HT_.out HW_.out (by kernel_rfl)) (fun _ _ _ h => h) (Or.inl ⟨by rfl, ?_⟩) hHeld ?_ ?_
    rotate_left
    ·rintro w' ⟨s0, s1, s2, s3⟩
     go_simp
     with_reducible rfl
    rotate_left
    ·simp only [Act.put, u]
     rfl
    refine take_ (i := 2) (N := some 36) (v := ?_) (a' := ?_) (zl 12 7) rfl rfl (take_ofW HT_.out HW_.out (by kernel_rfl)) (fun _ _ _ h => h) (Or.inl ⟨by rfl, ?_⟩) hHeld ?_ ?_
    rotate_left
    ·rintro w' ⟨s0, s1, s2, s3⟩
     go_simp
     with_reducible rfl
    rotate_left
    ·simp only [Act.put, u]
     rfl
    refine one_ (i := 3) (N := some 37) (zl 12 15) rfl rfl (one_of HT_.out (by kernel_rfl)) (by decide) (fun K hK => ?_)
    refine goes_ Try.func35 (by kernel_rfl) rfl #[.agg #[.int .i64 t101, .int .i64 t102], .agg #[.int .i64 t103, .int .i64 t104]] (by rfl) rfl rfl y1  ?_
    with_reducible refine (spec_NetIn.calls kj2 t101 t102 t103 t104 t108 _ A16.out).mono ?_
    rintro e w19 ⟨rfl, hb⟩
    refine ⟨_, rfl, ?_⟩
    have n0_ := zA (blk_below (g := gb105) (o := .cells #[.int .i64 t101, .int .i64 t102] 26 (0, 0)) (zb BK105.out) hb)
    have n1_ := zA (blk_below (g := gb106) (o := .cells #[.int .i64 t103, .int .i64 t104] 26 (0, 0)) (zb BK106.out) hb)
    have n2_ := zA (below_step (zHB) hb)
    clear BK105
    clear BK106
    clear HB
    have BK105 := n0_
    have BK106 := n1_
    have HB := n2_
    clear n0_ n1_ n2_
    (try clear hb)
    (try clear hb2)
    (try clear hk)
    (try clear hi)
    refine hK.out _ _ ⟨(blk_cell BK105.out 0).trans rfl, (blk_cell BK105.out 1).trans rfl, (blk_cell BK106.out 0).trans rfl, (blk_cell BK106.out 1).trans rfl⟩ (fun hHeld => ?_)
    clear hK K
    refine norm_ (a' := ?_) ?_ ?_
    rotate_left
    ·show Act.put _ (some 37) _ = _
     simp only [Act.put, u]
     rfl
    refine pure_ (i := 4) (N := some 38) (v := ?_) (a' := ?_) (zl 12 31) rfl rfl (any_of HT_.out (by kernel_rfl)) (fun _ _ _ h => h) (Or.inl ⟨by rfl, ?_⟩) ?_ ?_
    rotate_left
    ·intro w'
     go_simp
     with_reducible rfl
    rotate_left
    ·simp only [Act.put, u]
     rfl
    refine pure_ (i := 5) (N := some 39) (v := ?_) (a' := ?_) (zl 12 63) rfl rfl (any_of HT_.out (by kernel_rfl)) (fun _ _ _ h => h) (Or.inl ⟨by rfl, ?_⟩) ?_ ?_
    rotate_left
    ·intro w'
     go_simp
     with_reducible rfl
    rotate_left
    ·simp only [Act.put, u]
     rfl
    refine pure_ (i := 6) (N := some 40) (v := undef) (a' := ?_) (zl 12 127) rfl rfl (any_of HT_.out (by kernel_rfl)) (fun _ _ _ h => h) (Or.inr ⟨by rfl, rfl⟩) ?_ ?_
    rotate_left
    ·simp only [Act.put, u]
     rfl
    refine pure_ (i := 7) (N := some 41) (v := undef) (a' := ?_) (zl 12 255) rfl rfl (any_of HT_.out (by kernel_rfl)) (fun _ _ _ h => h) (Or.inr ⟨by rfl, rfl⟩) ?_ ?_
    rotate_left
    ·simp only [Act.put, u]
     rfl
    refine pure_ (i := 8) (N := some 42) (v := undef) (a' := ?_) (zl 12 511) rfl rfl (any_of HT_.out (by kernel_rfl)) (fun _ _ _ h => h) (Or.inr ⟨by rfl, rfl⟩) ?_ ?_
    rotate_left
    ·simp only [Act.put, u]
     rfl
    refine pure_ (i := 9) (N := some 43) (v := undef) (a' := ?_) (zl 12 1023) rfl rfl (any_of HT_.out (by kernel_rfl)) (fun _ _ _ h => h) (Or.inr ⟨by rfl, rfl⟩) ?_ ?_
    rotate_left
    ·simp only [Act.put, u]
     rfl
    refine pure_ (i := 10) (N := some 44) (v := undef) (a' := ?_) (zl 12 2047) rfl rfl (any_of HT_.out (by kernel_rfl)) (fun _ _ _ h => h) (Or.inr ⟨by rfl, rfl⟩) ?_ ?_
    rotate_left
    ·simp only [Act.put, u]
     rfl
    refine pure_ (i := 11) (N := some 45) (v := ?_) (a' := ?_) (zl 12 4095) rfl rfl (any_of HT_.out (by kernel_rfl)) (fun _ _ _ h => h) (Or.inl ⟨by rfl, ?_⟩) ?_ ?_
    rotate_left
    ·intro w'
     go_simp
     with_reducible rfl
    rotate_left
    ·simp only [Act.put, u]
     rfl
    refine done_ (done_of HT_.out (by kernel_rfl)) ?_
    try go_wp2
    go_meet
    case rel => exact ⟨_, (true), y3 , H', ⟨by have := HJ2.out; first | omega | exact Nat.le_refl _⟩, ⟨by refine zq ?_; exact BK105.out⟩, ⟨by refine zq ?_; exact BK106.out⟩, ⟨zHB⟩⟩
   rw [if_neg c17] at H
   have c17b0 : (t107 != t108) = false := by simpa using c17
   (try (have c17b1 : decide (t107 = t108) = true := by simpa using c17))
   (try (have c17b2 : (t107 == t108) = true := by simpa using c17))
   clear c17
   (first | rw [c17b0] | (simp only [i64_w, i32_w]; rw [c17b0]) | skip)
   replace H := Option.bind_eq_some_iff.mp H
   obtain ⟨t109, A200, H⟩ := H
   replace H : ((spec_NetOk.f kj2 t101 t102).bind fun t110 => (laws_FnNetPrefix.j1 kj2 l1 t107 (t109 != t110) t101 t102 t103 t104)) = some r := H
   have A20 := zA A200
   clear A200
   replace H := Option.bind_eq_some_iff.mp H
   obtain ⟨t110, A210, H⟩ := H
   replace H : (laws_FnNetPrefix.j1 kj2 l1 t107 (t109 != t110) t101 t102 t103 t104) = some r := H
   have A21 := zA A210
   clear A210
   have H' := zA H
   clear H
   try go_wp2
   have n0_ := zA (blk_drew BK105.out)
   have n1_ := zA (blk_drew BK106.out)
   have n2_ := zA (below_drew1 HB.out)
   clear BK105
   clear BK106
   clear HB
   have BK105 := n0_
   have BK106 := n1_
   have HB := n2_
   clear n0_ n1_ n2_
   refine start_ (n := 12) (S := fun w' => w'.cell? ⟨gb105, 0, none⟩ = some (.int .i64 t101) ∧ w'.cell? ⟨gb105, 1, none⟩ = some (.int .i64 t102) ∧ w'.cell? ⟨gb106, 0, none⟩ = some (.int .i64 t103) ∧ w'.cell? ⟨gb106, 1, none⟩ = some (.int .i64 t104)) (ds := []) (zl 12 0) (by kernel_rfl) rfl rfl ⟨(blk_cell BK105.out 0).trans rfl, (blk_cell BK105.out 1).trans rfl, (blk_cell BK106.out 0).trans rfl, (blk_cell BK106.out 1).trans rfl⟩ (fun hHeld => ?_); refine with_tabW laws_FnNetPrefix.tab5 laws_FnNetPrefix.bits5 (fun HT_ HW_ => ?_)
   generalize w15.drew = w22 at BK105 BK106 HB hHeld ⊢
   refine pure_ (i := 0) (N := some 34) (v := ?_) (a' := ?_) (zl 12 1) rfl rfl (any_of HT_.out (by kernel_rfl)) (fun _ _ _ h => h) (Or.inl ⟨by rfl, ?_⟩) ?_ ?_
   rotate_left
   ·intro w'
    go_simp
    with_reducible rfl
   rotate_left
   ·simp only [Act.put, u]
    rfl
   refine take_ (i := 1) (N := some 35) (v := ?_) (a' := ?_) (zl 12 3) rfl rfl (take_ofW HT_.out HW_.out (by kernel_rfl)) (fun _ _ _ h => h) (Or.inl ⟨by rfl, ?_⟩) hHeld ?_ ?_
   rotate_left
   ·rintro w' ⟨s0, s1, s2, s3⟩
    go_simp
    with_reducible rfl
   rotate_left
   ·simp only [Act.put, u]
    rfl
   refine take_ (i := 2) (N := some 36) (v := ?_) (a' := ?_) (zl 12 7) rfl rfl (take_ofW HT_.out HW_.out (by kernel_rfl)) (fun _ _ _ h => h) (Or.inl ⟨by rfl, ?_⟩) hHeld ?_ ?_
   rotate_left
   ·rintro w' ⟨s0, s1, s2, s3⟩
    go_simp
    with_reducible rfl
   rotate_left
   ·simp only [Act.put, u]
    rfl
   refine one_ (i := 3) (N := some 37) (zl 12 15) rfl rfl (one_of HT_.out (by kernel_rfl)) (by decide) (fun K hK => ?_)
   refine goes_ Try.func35 (by kernel_rfl) rfl #[.agg #[.int .i64 t101, .int .i64 t102], .agg #[.int .i64 t103, .int .i64 t104]] (by rfl) rfl rfl y1  ?_
   with_reducible refine (spec_NetIn.calls kj2 t101 t102 t103 t104 t108 _ A16.out).mono ?_
   rintro e w23 ⟨rfl, hb⟩
   refine ⟨_, rfl, ?_⟩
   have n0_ := zA (blk_below (g := gb105) (o := .cells #[.int .i64 t101, .int .i64 t102] 26 (0, 0)) (zb BK105.out) hb)
   have n1_ := zA (blk_below (g := gb106) (o := .cells #[.int .i64 t103, .int .i64 t104] 26 (0, 0)) (zb BK106.out) hb)
   have n2_ := zA (below_step (zHB) hb)
   clear BK105
   clear BK106
   clear HB
   have BK105 := n0_
   have BK106 := n1_
   have HB := n2_
   clear n0_ n1_ n2_
   (try clear hb)
   (try clear hb2)
   (try clear hk)
   (try clear hi)
   refine hK.out _ _ ⟨(blk_cell BK105.out 0).trans rfl, (blk_cell BK105.out 1).trans rfl, (blk_cell BK106.out 0).trans rfl, (blk_cell BK106.out 1).trans rfl⟩ (fun hHeld => ?_)
   clear hK K
   refine norm_ (a' := ?_) ?_ ?_
   rotate_left
   ·show Act.put _ (some 37) _ = _
    simp only [Act.put, u]
    rfl
   refine pure_ (i := 4) (N := some 38) (v := ?_) (a' := ?_) (zl 12 31) rfl rfl (any_of HT_.out (by kernel_rfl)) (fun _ _ _ h => h) (Or.inl ⟨by rfl, ?_⟩) ?_ ?_
   rotate_left
   ·intro w'
    go_simp
    with_reducible rfl
   rotate_left
   ·simp only [Act.put, u]
    rfl
   refine pure_ (i := 5) (N := some 39) (v := ?_) (a' := ?_) (zl 12 63) rfl rfl (any_of HT_.out (by kernel_rfl)) (fun _ _ _ h => h) (Or.inl ⟨by rfl, ?_⟩) ?_ ?_
   rotate_left
   ·intro w'
    go_simp
    with_reducible rfl
   rotate_left
   ·simp only [Act.put, u]
    rfl
   refine take_ (i := 6) (N := some 40) (v := ?_) (a' := ?_) (zl 12 127) rfl rfl (take_ofW HT_.out HW_.out (by kernel_rfl)) (fun _ _ _ h => h) (Or.inl ⟨by rfl, ?_⟩) hHeld ?_ ?_
   rotate_left
   ·rintro w' ⟨s0, s1, s2, s3⟩
    go_simp
    with_reducible rfl
   rotate_left
   ·simp only [Act.put, u]
    rfl
   refine take_ (i := 8) (N := some 42) (v := ?_) (a' := ?_) (zl 12 383) rfl rfl (take_ofW HT_.out HW_.out (by kernel_rfl)) (fun _ _ _ h => h) (Or.inl ⟨by rfl, ?_⟩) hHeld ?_ ?_
   rotate_left
   ·rintro w' ⟨s0, s1, s2, s3⟩
    go_simp
    with_reducible rfl
   rotate_left
   ·simp only [Act.put, u]
    rfl
   refine one_ (i := 7) (N := some 41) (zl 12 511) rfl rfl (one_of HT_.out (by kernel_rfl)) (by decide) (fun K hK => ?_)
   refine goes_ Try.func26 (by kernel_rfl) rfl #[.agg #[.int .i64 t101, .int .i64 t102]] (by rfl) rfl rfl y1  ?_
   with_reducible refine (impl_NetOk.calls t101 t102 t109 _ A20.out).mono ?_
   rintro e w24 ⟨rfl, hb⟩
   refine ⟨_, rfl, ?_⟩
   have n0_ := zA (blk_below (g := gb105) (o := .cells #[.int .i64 t101, .int .i64 t102] 26 (0, 0)) (zb BK105.out) hb)
   have n1_ := zA (blk_below (g := gb106) (o := .cells #[.int .i64 t103, .int .i64 t104] 26 (0, 0)) (zb BK106.out) hb)
   have n2_ := zA (below_step (zHB) hb)
   clear BK105
   clear BK106
   clear HB
   have BK105 := n0_
   have BK106 := n1_
   have HB := n2_
   clear n0_ n1_ n2_
   (try clear hb)
   (try clear hb2)
   (try clear hk)
   (try clear hi)
   refine hK.out _ _ ⟨(blk_cell BK105.out 0).trans rfl, (blk_cell BK105.out 1).trans rfl, (blk_cell BK106.out 0).trans rfl, (blk_cell BK106.out 1).trans rfl⟩ (fun hHeld => ?_)
   clear hK K
   refine norm_ (a' := ?_) ?_ ?_
   rotate_left
   ·show Act.put _ (some 41) _ = _
    simp only [Act.put, u]
    rfl
   refine one_ (i := 9) (N := some 43) (zl 12 1023) rfl rfl (one_of HT_.out (by kernel_rfl)) (by decide) (fun K hK => ?_)
   refine goes_ Try.func24 (by kernel_rfl) rfl #[.agg #[.int .i64 t101, .int .i64 t102]] (by rfl) rfl rfl y1  ?_
   with_reducible refine (spec_NetOk.calls kj2 t101 t102 t110 _ A21.out).mono ?_
   rintro e w25 ⟨rfl, hb⟩
   refine ⟨_, rfl, ?_⟩
   have n0_ := zA (blk_below (g := gb105) (o := .cells #[.int .i64 t101, .int .i64 t102] 26 (0, 0)) (zb BK105.out) hb)
   have n1_ := zA (blk_below (g := gb106) (o := .cells #[.int .i64 t103, .int .i64 t104] 26 (0, 0)) (zb BK106.out) hb)
   have n2_ := zA (below_step (zHB) hb)
   clear BK105
   clear BK106
   clear HB
   have BK105 := n0_
   have BK106 := n1_
   have HB := n2_
   clear n0_ n1_ n2_
   (try clear hb)
   (try clear hb2)
   (try clear hk)
   (try clear hi)
   refine hK.out _ _ ⟨(blk_cell BK105.out 0).trans rfl, (blk_cell BK105.out 1).trans rfl, (blk_cell BK106.out 0).trans rfl, (blk_cell BK106.out 1).trans rfl⟩ (fun hHeld => ?_)
   clear hK K
   refine norm_ (a' := ?_) ?_ ?_
   rotate_left
   ·show Act.put _ (some 43) _ = _
    simp only [Act.put, u]
    rfl
   refine pure_ (i := 10) (N := some 44) (v := ?_) (a' := ?_) (zl 12 2047) rfl rfl (any_of HT_.out (by kernel_rfl)) (fun _ _ _ h => h) (Or.inl ⟨by rfl, ?_⟩) ?_ ?_
   rotate_left
   ·intro w'
    go_simp
    with_reducible rfl
   rotate_left
   ·simp only [Act.put, u]
    rfl
   refine pure_ (i := 11) (N := some 45) (v := ?_) (a' := ?_) (zl 12 4095) rfl rfl (any_of HT_.out (by kernel_rfl)) (fun _ _ _ h => h) (Or.inl ⟨by rfl, ?_⟩) ?_ ?_
   rotate_left
   ·intro w'
    go_simp
    with_reducible rfl
   rotate_left
   ·simp only [Act.put, u]
    rfl
   refine done_ (done_of HT_.out (by kernel_rfl)) ?_
   try go_wp2
   go_meet
   case rel => exact ⟨_, ((t109 != t110)), y3 , H', ⟨by have := HJ2.out; first | omega | exact Nat.le_refl _⟩, ⟨by refine zq ?_; exact BK105.out⟩, ⟨by refine zq ?_; exact BK106.out⟩, ⟨zHB⟩⟩
  case rest =>
   clear HC8
   try clear c1
   try clear c2
   try clear p2
   try clear c3
   try clear c4
   try clear c4b0
   try clear c4b1
   try clear c5
   try clear c12
   try clear c17
   try clear c17b0
   try clear c17b1
   try clear c17b2
   try clear c24
   try clear hcz13_0
   try clear hcz13_1
   try clear hcz14_0
   try clear hcz14_1
   try clear hfz13_0
   try clear hfz13_1
   try clear hfz14_0
   try clear hfz14_1
   try clear p2
   obtain ⟨kq, x45_7, rfl, HA, HJ7, BK105, BK106, HB⟩ := hcut
   cases kq with
   | zero => exact absurd HA.out (by simp [laws_FnNetPrefix.j1])
   | succ kj7 => ?_
   have H := HA.out
   clear HA
   simp only [laws_FnNetPrefix.j1] at H
   by_cases c26 : x45_7 = true
   ·as_aux_lemma =>
    subst c26
    have H1 : (some false) = some r := by rw [if_pos rfl] at H; exact H
    clear H
    have H := H1
    clear H1
    obtain rfl := Option.some.inj H
    go_wp2
    go_ret
    exact ⟨by first | rfl | (simp [errW_none, errW_some] <;> rfl) | (simp [*, errW_none, errW_some] <;> rfl), zHB⟩
   replace c26 := Bool.eq_false_iff.mpr c26
   subst c26
   have H1 : ((spec_NetOk.f kj7 t101 t102).bind fun t111 => (if t111 = true then ((spec_NetOk.f kj7 t103 t104).bind fun t112 => (laws_FnNetPrefix.j2 kj7 l1 t107 t112 t101 t102 t103 t104)) else (laws_FnNetPrefix.j2 kj7 l1 t107 false t101 t102 t103 t104))) = some r := by rw [if_neg (show ¬ (false = true) by decide)] at H; exact H
   clear H
   have H := H1
   clear H1
   have HC27 := zA H
   clear H
   go_upto_region 7 with (fail)
   go_cut [51] (fun v51 wc => ∃ (kq : Nat) (x51_26 : Bool), v51 = .bool x51_26 ∧ Aside0 (laws_FnNetPrefix.j2 kq l1 t107 x51_26 t101 t102 t103 t104 = some r) ∧ Aside0 (kq ≤ kj7) ∧ Aside0 (wc.heap[gb105]? = some (.cells #[.int .i64 t101, .int .i64 t102] 26 (0, 0))) ∧ Aside0 (wc.heap[gb106]? = some (.cells #[.int .i64 t103, .int .i64 t104] 26 (0, 0))) ∧ Aside0 (Below w.heap.size w wc))
   case first =>
    have H := HC27.out
    clear HC27
    replace H := Option.bind_eq_some_iff.mp H
    obtain ⟨t111, A280, H⟩ := H
    replace H : (if t111 = true then ((spec_NetOk.f kj7 t103 t104).bind fun t112 => (laws_FnNetPrefix.j2 kj7 l1 t107 t112 t101 t102 t103 t104)) else (laws_FnNetPrefix.j2 kj7 l1 t107 false t101 t102 t103 t104)) = some r := H
    have A28 := zA A280
    clear A280
    by_cases c29 : t111 = true
    ·as_aux_lemma =>
     subst c29
     have H1 : ((spec_NetOk.f kj7 t103 t104).bind fun t112 => (laws_FnNetPrefix.j2 kj7 l1 t107 t112 t101 t102 t103 t104)) = some r := by rw [if_pos rfl] at H; exact H
     clear H
     have H := H1
     clear H1
     replace H := Option.bind_eq_some_iff.mp H
     obtain ⟨t112, A300, H⟩ := H
     replace H : (laws_FnNetPrefix.j2 kj7 l1 t107 t112 t101 t102 t103 t104) = some r := H
     have A30 := zA A300
     clear A300
     have H' := zA H
     clear H
     have hnb31 := NB105_106.out
     have hnc31 := NB106_105.out
     have hcz32_0 : wc.cell? ⟨gb105, 0, none⟩ = some (.int .i64 t101) := (blk_cell BK105.out 0).trans rfl
     have hcz32_1 : wc.cell? ⟨gb105, 1, none⟩ = some (.int .i64 t102) := (blk_cell BK105.out 1).trans rfl
     have hfz32_0 := blk_frozen BK105.out 0
     have hfz32_1 := blk_frozen BK105.out 1
     as_aux_lemma =>
     go_wp2_with (first | ((with_reducible refine gate_callee (f := 24) rfl ?_); refine goesL_ (some 47) rfl rfl Try.func24 (by kernel_rfl) rfl #[.agg #[.int .i64 t101, .int .i64 t102]] rfl y1  ?_; (with_reducible refine (spec_NetOk.calls kj7 t101 t102 true _ A28.out).mono ?_); rintro e w33 ⟨rfl, hb⟩; refine ⟨_, rfl, ?_⟩; have n0_ := zA (blk_below (g := gb105) (o := .cells #[.int .i64 t101, .int .i64 t102] 26 (0, 0)) (zb BK105.out) hb); have n1_ := zA (blk_below (g := gb106) (o := .cells #[.int .i64 t103, .int .i64 t104] 26 (0, 0)) (zb BK106.out) hb); have n2_ := zA (below_step (zHB) hb); clear BK105; clear BK106; clear HB; have BK105 := n0_; have BK106 := n1_; have HB := n2_; clear n0_ n1_ n2_; (try clear hb); (try clear hb2); (try clear hk); (try clear hi); have hcz34_0 : w33.cell? ⟨gb106, 0, none⟩ = some (.int .i64 t103) := (blk_cell BK106.out 0).trans rfl; have hcz34_1 : w33.cell? ⟨gb106, 1, none⟩ = some (.int .i64 t104) := (blk_cell BK106.out 1).trans rfl; have hfz34_0 := blk_frozen BK106.out 0; have hfz34_1 := blk_frozen BK106.out 1) | (go_at_call 24; (with_reducible refine (spec_NetOk.calls kj7 t103 t104 t112 _ A30.out).mono ?_); rintro e w35 ⟨rfl, hb⟩; have n0_ := zA (blk_below (g := gb105) (o := .cells #[.int .i64 t101, .int .i64 t102] 26 (0, 0)) (zb BK105.out) hb); have n1_ := zA (blk_below (g := gb106) (o := .cells #[.int .i64 t103, .int .i64 t104] 26 (0, 0)) (zb BK106.out) hb); have n2_ := zA (below_step (zHB) hb); clear BK105; clear BK106; clear HB; have BK105 := n0_; have BK106 := n1_; have HB := n2_; clear n0_ n1_ n2_; (try clear hb); (try clear hb2); (try clear hk); (try clear hi)))
     go_meet
     case rel => exact ⟨_, (t112), y3 , H', ⟨by have := HJ2.out; have := HJ7.out; first | omega | exact Nat.le_refl _⟩, ⟨by refine zq ?_; exact BK105.out⟩, ⟨by refine zq ?_; exact BK106.out⟩, ⟨zHB⟩⟩
    replace c29 := Bool.eq_false_iff.mpr c29
    subst c29
    have H1 : (laws_FnNetPrefix.j2 kj7 l1 t107 false t101 t102 t103 t104) = some r := by rw [if_neg (show ¬ (false = true) by decide)] at H; exact H
    clear H
    have H := H1
    clear H1
    have H' := zA H
    clear H
    have hnb36 := NB105_106.out
    have hnc36 := NB106_105.out
    have hcz37_0 : wc.cell? ⟨gb105, 0, none⟩ = some (.int .i64 t101) := (blk_cell BK105.out 0).trans rfl
    have hcz37_1 : wc.cell? ⟨gb105, 1, none⟩ = some (.int .i64 t102) := (blk_cell BK105.out 1).trans rfl
    have hfz37_0 := blk_frozen BK105.out 0
    have hfz37_1 := blk_frozen BK105.out 1
    as_aux_lemma =>
    go_wp2_with (first | ((with_reducible refine gate_callee (f := 24) rfl ?_); refine goesL_ (some 47) rfl rfl Try.func24 (by kernel_rfl) rfl #[.agg #[.int .i64 t101, .int .i64 t102]] rfl y1  ?_; (with_reducible refine (spec_NetOk.calls kj7 t101 t102 false _ A28.out).mono ?_); rintro e w38 ⟨rfl, hb⟩; refine ⟨_, rfl, ?_⟩; have n0_ := zA (blk_below (g := gb105) (o := .cells #[.int .i64 t101, .int .i64 t102] 26 (0, 0)) (zb BK105.out) hb); have n1_ := zA (blk_below (g := gb106) (o := .cells #[.int .i64 t103, .int .i64 t104] 26 (0, 0)) (zb BK106.out) hb); have n2_ := zA (below_step (zHB) hb); clear BK105; clear BK106; clear HB; have BK105 := n0_; have BK106 := n1_; have HB := n2_; clear n0_ n1_ n2_; (try clear hb); (try clear hb2); (try clear hk); (try clear hi)))
    go_meet
    case rel => exact ⟨_, (false), y3 , H', ⟨by have := HJ2.out; have := HJ7.out; first | omega | exact Nat.le_refl _⟩, ⟨by refine zq ?_; exact BK105.out⟩, ⟨by refine zq ?_; exact BK106.out⟩, ⟨zHB⟩⟩
   case rest =>
    clear HC27
    try clear c1
    try clear c2
    try clear p2
    try clear c3
    try clear c4
    try clear c4b0
    try clear c4b1
    try clear c5
    try clear c12
    try clear c17
    try clear c17b0
    try clear c17b1
    try clear c17b2
    try clear c24
    try clear c26
    try clear c29
    try clear c31
    try clear c35
    try clear c36
    try clear hcz13_0
    try clear hcz13_1
    try clear hcz14_0
    try clear hcz14_1
    try clear hcz32_0
    try clear hcz32_1
    try clear hcz34_0
    try clear hcz34_1
    try clear hcz37_0
    try clear hcz37_1
    try clear hfz13_0
    try clear hfz13_1
    try clear hfz14_0
    try clear hfz14_1
    try clear hfz32_0
    try clear hfz32_1
    try clear hfz34_0
    try clear hfz34_1
    try clear hfz37_0
    try clear hfz37_1
    try clear p2
    obtain ⟨kq, x51_26, rfl, HA, HJ26, BK105, BK106, HB⟩ := hcut
    cases kq with
    | zero => exact absurd HA.out (by simp [laws_FnNetPrefix.j2])
    | succ kj26 => ?_
    have H := HA.out
    clear HA
    simp only [laws_FnNetPrefix.j2] at H
    have HC39 := zA H
    clear H
    go_upto_if 51 with (fail)
    go_cut [] (fun wc => ∃ (kq : Nat), Aside0 (laws_FnNetPrefix.j4 kq l1 = some r) ∧ Aside0 (kq ≤ kj26) ∧ Aside0 (wc.heap[gb105]? = some (.cells #[.int .i64 t101, .int .i64 t102] 26 (0, 0))) ∧ Aside0 (wc.heap[gb106]? = some (.cells #[.int .i64 t103, .int .i64 t104] 26 (0, 0))) ∧ Aside0 (Below w.heap.size w wc))
    case first =>
     have H := HC39.out
     clear HC39
     by_cases c40 : x51_26 = true
     ·as_aux_lemma =>
      subst c40
      have H1 : (laws_FnNetPrefix.l0 kj26 l1 t107 true t101 t101 t102 t103 t104) = some r := by rw [if_pos rfl] at H; exact H
      clear H
      have H := H1
      clear H1
      have H' := zA H
      clear H
      have hnb41 := NB105_106.out
      have hnc41 := NB106_105.out
      have hcz42_0 : wc.cell? ⟨gb105, 0, none⟩ = some (.int .i64 t101) := (blk_cell BK105.out 0).trans rfl
      have hcz42_1 : wc.cell? ⟨gb105, 1, none⟩ = some (.int .i64 t102) := (blk_cell BK105.out 1).trans rfl
      have hfz42_0 := blk_frozen BK105.out 0
      have hfz42_1 := blk_frozen BK105.out 1
      go_wp2
      go_loopg [8, 9] kj26 (fun kq v8 v9 w' => ∃ (x8_4 : Bool) (x9_4 : Int), v8 = .bool x8_4 ∧ v9 = .int .i64 x9_4 ∧ Aside0 (laws_FnNetPrefix.l0 kq l1 t107 x8_4 x9_4 t101 t102 t103 t104 = some r) ∧ Aside0 (kq ≤ kj26) ∧ Aside0 (w'.heap[gb105]? = some (.cells #[.int .i64 t101, .int .i64 t102] 26 (0, 0))) ∧ Aside0 (w'.heap[gb106]? = some (.cells #[.int .i64 t103, .int .i64 t104] 26 (0, 0))) ∧ Aside0 (Below w.heap.size w w'))
      case atStart => exact ⟨(true), (t101), y3 , y3 , H', ⟨Nat.le_refl _⟩, ⟨by refine zq ?_; exact BK105.out⟩, ⟨by refine zq ?_; exact BK106.out⟩, ⟨zHB⟩⟩
      case round =>
       clear H'
       try clear c1
       try clear c2
       try clear p2
       try clear c3
       try clear c4
       try clear c4b0
       try clear c4b1
       try clear c5
       try clear c12
       try clear c17
       try clear c17b0
       try clear c17b1
       try clear c17b2
       try clear c24
       try clear c26
       try clear c29
       try clear c31
       try clear c35
       try clear c36
       try clear c40
       try clear c41
       try clear hcz13_0
       try clear hcz13_1
       try clear hcz14_0
       try clear hcz14_1
       try clear hcz32_0
       try clear hcz32_1
       try clear hcz34_0
       try clear hcz34_1
       try clear hcz37_0
       try clear hcz37_1
       try clear hcz42_0
       try clear hcz42_1
       try clear hfz13_0
       try clear hfz13_1
       try clear hfz14_0
       try clear hfz14_1
       try clear hfz32_0
       try clear hfz32_1
       try clear hfz34_0
       try clear hfz34_1
       try clear hfz37_0
       try clear hfz37_1
       try clear hfz42_0
       try clear hfz42_1
       try clear p2
       obtain ⟨x8_4, x9_4, rfl, rfl, HA, HK4, BK105, BK106, HB⟩ := hrel
       cases gk with
       | zero => exact absurd HA.out (by simp [laws_FnNetPrefix.l0])
       | succ k4 => ?_
       have H := HA.out
       clear HA
       simp only [laws_FnNetPrefix.l0] at H
       obtain ⟨ji43, hji43⟩ : ∃ j_ : Int, (wrap64 (16 - t102)) = j_ := ⟨_, rfl⟩
       replace H : (if 0 ≤ (ji43) then (if x9_4 < (wrap64 (t101 + (shl .i64 1 (ji43)))) then (if x8_4 = true then ((impl_NetHas.f t103 t104 x9_4).bind fun t113 => (laws_FnNetPrefix.l0 k4 l1 t107 t113 (wrap64 (x9_4 + 1)) t101 t102 t103 t104)) else (laws_FnNetPrefix.l0 k4 l1 t107 false (wrap64 (x9_4 + 1)) t101 t102 t103 t104)) else (if (t107 != x8_4) = true then (some false) else (laws_FnNetPrefix.j4 k4 l1))) else (none)) = some r := by first | (rw [hji43] at H; exact H) | (simp only [hji43] at H ⊢; exact H)
       have hji43w : (IntKind.i64.wrap (16 - t102)) = ji43 := (i64_w _).trans hji43
       by_cases c44 : 0 ≤ (ji43)
       ·as_aux_lemma =>
        rw [if_pos c44] at H
        have c44b0 := eq_true c44
        have c44b1 : decide (0 ≤ (ji43)) = true := decide_eq_true c44
        clear c44
        obtain ⟨ji45, hji45⟩ : ∃ j_ : Int, (shl .i64 1 (ji43)) = j_ := ⟨_, rfl⟩
        replace H : (if x9_4 < (wrap64 (t101 + (ji45))) then (if x8_4 = true then ((impl_NetHas.f t103 t104 x9_4).bind fun t113 => (laws_FnNetPrefix.l0 k4 l1 t107 t113 (wrap64 (x9_4 + 1)) t101 t102 t103 t104)) else (laws_FnNetPrefix.l0 k4 l1 t107 false (wrap64 (x9_4 + 1)) t101 t102 t103 t104)) else (if (t107 != x8_4) = true then (some false) else (laws_FnNetPrefix.j4 k4 l1))) = some r := by first | (rw [hji45] at H; exact H) | (simp only [hji45] at H ⊢; exact H)
        have hji45_ : (IntKind.i64.wrap (1 * 2 ^ min (ji43).toNat 64)) = ji45 := hji45
        have hji45z : (ji43) ≤ 64 → (IntKind.i64.wrap (1 * 2 ^ (ji43).toNat)) = ji45 := shl_small hji45
        have hji45u : (IntKind.i64.wrap (2 ^ min (ji43).toNat 64)) = ji45 := by have h_ := hji45_; rw [Int.one_mul] at h_; exact h_
        have hji45v : (ji43) ≤ 64 → (IntKind.i64.wrap (2 ^ (ji43).toNat)) = ji45 := fun hle_ => by have h_ := hji45z hle_; rw [Int.one_mul] at h_; exact h_
        have hji45y : (wrap64 (1 * 2 ^ min (ji43).toNat 64)) = ji45 := (i64_w _).symm.trans hji45_
        have hji45x : (ji43) ≤ 64 → (wrap64 (1 * 2 ^ (ji43).toNat)) = ji45 := fun h_ => (i64_w _).symm.trans (hji45z h_)
        by_cases c46 : x9_4 < (wrap64 (t101 + (ji45)))
        ·as_aux_lemma =>
         rw [if_pos c46] at H
         have c46b0 : decide (x9_4 < (wrap64 (t101 + (ji45)))) = true := decide_eq_true c46
         clear c46
         (first | rw [c46b0] | (simp only [i64_w, i32_w]; rw [c46b0]) | skip)
         by_cases c47 : x8_4 = true
         ·as_aux_lemma =>
          subst c47
          have H1 : ((impl_NetHas.f t103 t104 x9_4).bind fun t113 => (laws_FnNetPrefix.l0 k4 l1 t107 t113 (wrap64 (x9_4 + 1)) t101 t102 t103 t104)) = some r := by rw [if_pos rfl] at H; exact H
          clear H
          have H := H1
          clear H1
          replace H := Option.bind_eq_some_iff.mp H
          obtain ⟨t113, A480, H⟩ := H
          replace H : (laws_FnNetPrefix.l0 k4 l1 t107 t113 (wrap64 (x9_4 + 1)) t101 t102 t103 t104) = some r := H
          have A48 := zA A480
          clear A480
          have H' := zA H
          clear H
          try go_wp2
          have n0_ := zA (blk_drew BK105.out)
          have n1_ := zA (blk_drew BK106.out)
          have n2_ := zA (below_drew1 HB.out)
          clear BK105
          clear BK106
          clear HB
          have BK105 := n0_
          have BK106 := n1_
          have HB := n2_
          clear n0_ n1_ n2_
          refine start_ (n := 9) (S := fun w' => w'.cell? ⟨gb105, 0, none⟩ = some (.int .i64 t101) ∧ w'.cell? ⟨gb105, 1, none⟩ = some (.int .i64 t102)) (ds := []) (zl 9 0) (by kernel_rfl) rfl rfl ⟨(blk_cell BK105.out 0).trans rfl, (blk_cell BK105.out 1).trans rfl⟩ (fun hHeld => ?_); refine with_tabW laws_FnNetPrefix.tab10 laws_FnNetPrefix.bits10 (fun HT_ HW_ => ?_)
          generalize wr.drew = w49 at BK105 BK106 HB hHeld ⊢
          refine pure_ (i := 0) (N := some 54) (v := ?_) (a' := ?_) (zl 9 1) rfl rfl (any_of HT_.out (by kernel_rfl)) (fun _ _ _ h => h) (Or.inl ⟨by rfl, ?_⟩) ?_ ?_
          rotate_left
          ·intro w'
           go_simp
           with_reducible rfl
          rotate_left
          ·simp only [Act.put, u]
           rfl
          refine pure_ (i := 1) (N := some 55) (v := ?_) (a' := ?_) (zl 9 3) rfl rfl (any_of HT_.out (by kernel_rfl)) (fun _ _ _ h => h) (Or.inl ⟨by rfl, ?_⟩) ?_ ?_
          rotate_left
          ·intro w'
           go_simp
           with_reducible rfl
          rotate_left
          ·simp only [Act.put, u]
           rfl
          refine pure_ (i := 3) (N := some 57) (v := ?_) (a' := ?_) (zl 9 11) rfl rfl (any_of HT_.out (by kernel_rfl)) (fun _ _ _ h => h) (Or.inl ⟨by rfl, ?_⟩) ?_ ?_
          rotate_left
          ·intro w'
           go_simp
           with_reducible rfl
          rotate_left
          ·simp only [Act.put, u]
           rfl
          refine take_ (i := 2) (N := some 56) (v := ?_) (a' := ?_) (zl 9 15) rfl rfl (take_ofW HT_.out HW_.out (by kernel_rfl)) (fun _ _ _ h => h) (Or.inl ⟨by rfl, ?_⟩) hHeld ?_ ?_
          rotate_left
          ·rintro w' ⟨s0, s1⟩
           go_simp
           with_reducible rfl
          rotate_left
          ·simp only [Act.put, u]
           rfl
          refine take_ (i := 4) (N := some 58) (v := ?_) (a' := ?_) (zl 9 31) rfl rfl (take_ofW HT_.out HW_.out (by kernel_rfl)) (fun _ _ _ h => h) (Or.inl ⟨by rfl, ?_⟩) hHeld ?_ ?_
          rotate_left
          ·rintro w' ⟨s0, s1⟩
           go_simp
           with_reducible rfl
          rotate_left
          ·simp only [Act.put, u]
           rfl
          refine pure_ (i := 5) (N := some 59) (v := ?_) (a' := ?_) (zl 9 63) rfl rfl (any_of HT_.out (by kernel_rfl)) (fun _ _ _ h => h) (Or.inl ⟨by rfl, ?_⟩) ?_ ?_
          rotate_left
          ·intro w'
           go_simp
           with_reducible rfl
          rotate_left
          ·simp only [Act.put, u]
           rfl
          refine pure_ (i := 6) (N := some 60) (v := ?_) (a' := ?_) (zl 9 127) rfl rfl (any_of HT_.out (by kernel_rfl)) (fun _ _ _ h => h) (Or.inl ⟨by rfl, ?_⟩) ?_ ?_
          rotate_left
          ·intro w'
           go_simp
           with_reducible rfl
          rotate_left
          ·simp only [Act.put, u]
           rfl
          refine pure_ (i := 7) (N := some 61) (v := ?_) (a' := ?_) (zl 9 255) rfl rfl (any_of HT_.out (by kernel_rfl)) (fun _ _ _ h => h) (Or.inl ⟨by rfl, ?_⟩) ?_ ?_
          rotate_left
          ·intro w'
           go_simp
           with_reducible rfl
          rotate_left
          ·simp only [Act.put, u]
           rfl
          refine pure_ (i := 8) (N := some 62) (v := ?_) (a' := ?_) (zl 9 511) rfl rfl (any_of HT_.out (by kernel_rfl)) (fun _ _ _ h => h) (Or.inl ⟨by rfl, ?_⟩) ?_ ?_
          rotate_left
          ·intro w'
           go_simp
           with_reducible rfl
          rotate_left
          ·simp only [Act.put, u]
           rfl
          refine done_ (done_of HT_.out (by kernel_rfl)) ?_
          have hnb50 := NB106_105.out
          have hnc50 := NB105_106.out
          have hcz51_0 : w49.cell? ⟨gb106, 0, none⟩ = some (.int .i64 t103) := (blk_cell BK106.out 0).trans rfl
          have hcz51_1 : w49.cell? ⟨gb106, 1, none⟩ = some (.int .i64 t104) := (blk_cell BK106.out 1).trans rfl
          have hfz51_0 := blk_frozen BK106.out 0
          have hfz51_1 := blk_frozen BK106.out 1
          try go_wp2_with (first | (go_at_call 34; (with_reducible refine (impl_NetHas.calls t103 t104 x9_4 t113 _ A48.out).mono ?_); rintro e w52 ⟨rfl, hb⟩; have n0_ := zA (blk_below (g := gb105) (o := .cells #[.int .i64 t101, .int .i64 t102] 26 (0, 0)) (zb BK105.out) hb); have n1_ := zA (blk_below (g := gb106) (o := .cells #[.int .i64 t103, .int .i64 t104] 26 (0, 0)) (zb BK106.out) hb); have n2_ := zA (below_step (zHB) hb); clear BK105; clear BK106; clear HB; have BK105 := n0_; have BK106 := n1_; have HB := n2_; clear n0_ n1_ n2_; (try clear hb); (try clear hb2); (try clear hk); (try clear hi)))
          go_roundg k4
          case measure => have := HJ2.out; have := HJ7.out; have := HJ26.out; have := HK4.out; omega
          case rel => exact ⟨(t113), (wrap64 (x9_4 + 1)), y3 , y3 , H', ⟨by have := HJ2.out; have := HJ7.out; have := HJ26.out; have := HK4.out; omega⟩, ⟨by refine zq ?_; exact BK105.out⟩, ⟨by refine zq ?_; exact BK106.out⟩, ⟨zHB⟩⟩
         replace c47 := Bool.eq_false_iff.mpr c47
         subst c47
         have H1 : (laws_FnNetPrefix.l0 k4 l1 t107 false (wrap64 (x9_4 + 1)) t101 t102 t103 t104) = some r := by rw [if_neg (show ¬ (false = true) by decide)] at H; exact H
         clear H
         have H := H1
         clear H1
         have H' := zA H
         clear H
         try go_wp2
         have n0_ := zA (blk_drew BK105.out)
         have n1_ := zA (blk_drew BK106.out)
         have n2_ := zA (below_drew1 HB.out)
         clear BK105
         clear BK106
         clear HB
         have BK105 := n0_
         have BK106 := n1_
         have HB := n2_
         clear n0_ n1_ n2_
         refine start_ (n := 9) (S := fun w' => w'.cell? ⟨gb105, 0, none⟩ = some (.int .i64 t101) ∧ w'.cell? ⟨gb105, 1, none⟩ = some (.int .i64 t102)) (ds := []) (zl 9 0) (by kernel_rfl) rfl rfl ⟨(blk_cell BK105.out 0).trans rfl, (blk_cell BK105.out 1).trans rfl⟩ (fun hHeld => ?_); refine with_tabW laws_FnNetPrefix.tab10 laws_FnNetPrefix.bits10 (fun HT_ HW_ => ?_)
         generalize wr.drew = w53 at BK105 BK106 HB hHeld ⊢
         refine pure_ (i := 0) (N := some 54) (v := ?_) (a' := ?_) (zl 9 1) rfl rfl (any_of HT_.out (by kernel_rfl)) (fun _ _ _ h => h) (Or.inl ⟨by rfl, ?_⟩) ?_ ?_
         rotate_left
         ·intro w'
          go_simp
          with_reducible rfl
         rotate_left
         ·simp only [Act.put, u]
          rfl
         refine pure_ (i := 1) (N := some 55) (v := ?_) (a' := ?_) (zl 9 3) rfl rfl (any_of HT_.out (by kernel_rfl)) (fun _ _ _ h => h) (Or.inl ⟨by rfl, ?_⟩) ?_ ?_
         rotate_left
         ·intro w'
          go_simp
          with_reducible rfl
         rotate_left
         ·simp only [Act.put, u]
          rfl
         refine pure_ (i := 3) (N := some 57) (v := ?_) (a' := ?_) (zl 9 11) rfl rfl (any_of HT_.out (by kernel_rfl)) (fun _ _ _ h => h) (Or.inl ⟨by rfl, ?_⟩) ?_ ?_
         rotate_left
         ·intro w'
          go_simp
          with_reducible rfl
         rotate_left
         ·simp only [Act.put, u]
          rfl
         refine take_ (i := 2) (N := some 56) (v := ?_) (a' := ?_) (zl 9 15) rfl rfl (take_ofW HT_.out HW_.out (by kernel_rfl)) (fun _ _ _ h => h) (Or.inl ⟨by rfl, ?_⟩) hHeld ?_ ?_
         rotate_left
         ·rintro w' ⟨s0, s1⟩
          go_simp
          with_reducible rfl
         rotate_left
         ·simp only [Act.put, u]
          rfl
         refine take_ (i := 4) (N := some 58) (v := ?_) (a' := ?_) (zl 9 31) rfl rfl (take_ofW HT_.out HW_.out (by kernel_rfl)) (fun _ _ _ h => h) (Or.inl ⟨by rfl, ?_⟩) hHeld ?_ ?_
         rotate_left
         ·rintro w' ⟨s0, s1⟩
          go_simp
          with_reducible rfl
         rotate_left
         ·simp only [Act.put, u]
          rfl
         refine pure_ (i := 5) (N := some 59) (v := ?_) (a' := ?_) (zl 9 63) rfl rfl (any_of HT_.out (by kernel_rfl)) (fun _ _ _ h => h) (Or.inl ⟨by rfl, ?_⟩) ?_ ?_
         rotate_left
         ·intro w'
          go_simp
          with_reducible rfl
         rotate_left
         ·simp only [Act.put, u]
          rfl
         refine pure_ (i := 6) (N := some 60) (v := ?_) (a' := ?_) (zl 9 127) rfl rfl (any_of HT_.out (by kernel_rfl)) (fun _ _ _ h => h) (Or.inl ⟨by rfl, ?_⟩) ?_ ?_
         rotate_left
         ·intro w'
          go_simp
          with_reducible rfl
         rotate_left
         ·simp only [Act.put, u]
          rfl
         refine pure_ (i := 7) (N := some 61) (v := ?_) (a' := ?_) (zl 9 255) rfl rfl (any_of HT_.out (by kernel_rfl)) (fun _ _ _ h => h) (Or.inl ⟨by rfl, ?_⟩) ?_ ?_
         rotate_left
         ·intro w'
          go_simp
          with_reducible rfl
         rotate_left
         ·simp only [Act.put, u]
          rfl
         refine pure_ (i := 8) (N := some 62) (v := ?_) (a' := ?_) (zl 9 511) rfl rfl (any_of HT_.out (by kernel_rfl)) (fun _ _ _ h => h) (Or.inl ⟨by rfl, ?_⟩) ?_ ?_
         rotate_left
         ·intro w'
          go_simp
          with_reducible rfl
         rotate_left
         ·simp only [Act.put, u]
          rfl
         refine done_ (done_of HT_.out (by kernel_rfl)) ?_
         try go_wp2
         go_roundg k4
         case measure => have := HJ2.out; have := HJ7.out; have := HJ26.out; have := HK4.out; omega
         case rel => exact ⟨(false), (wrap64 (x9_4 + 1)), y3 , y3 , H', ⟨by have := HJ2.out; have := HJ7.out; have := HJ26.out; have := HK4.out; omega⟩, ⟨by refine zq ?_; exact BK105.out⟩, ⟨by refine zq ?_; exact BK106.out⟩, ⟨zHB⟩⟩
        rw [if_neg c46] at H
        have c46b0 : decide (x9_4 < (wrap64 (t101 + (ji45)))) = false := decide_eq_false c46
        clear c46
        (first | rw [c46b0] | (simp only [i64_w, i32_w]; rw [c46b0]) | skip)
        by_cases c54 : (t107 != x8_4) = true
        ·as_aux_lemma =>
         rw [if_pos c54] at H
         have c54b0 : (t107 != x8_4) = true := c54
         (try (have c54b1 : decide (t107 = x8_4) = false := by simpa using c54))
         (try (have c54b2 : (t107 == x8_4) = false := by simpa using c54))
         (try (have c54b3 : ¬ (t107 = x8_4) := by simpa using c54))
         clear c54
         obtain rfl := Option.some.inj H
         try go_wp2
         have n0_ := zA (blk_drew BK105.out)
         have n1_ := zA (blk_drew BK106.out)
         have n2_ := zA (below_drew1 HB.out)
         clear BK105
         clear BK106
         clear HB
         have BK105 := n0_
         have BK106 := n1_
         have HB := n2_
         clear n0_ n1_ n2_
         refine start_ (n := 9) (S := fun w' => w'.cell? ⟨gb105, 0, none⟩ = some (.int .i64 t101) ∧ w'.cell? ⟨gb105, 1, none⟩ = some (.int .i64 t102)) (ds := []) (zl 9 0) (by kernel_rfl) rfl rfl ⟨(blk_cell BK105.out 0).trans rfl, (blk_cell BK105.out 1).trans rfl⟩ (fun hHeld => ?_); refine with_tabW laws_FnNetPrefix.tab10 laws_FnNetPrefix.bits10 (fun HT_ HW_ => ?_)
         generalize wr.drew = w55 at BK105 BK106 HB hHeld ⊢
         refine pure_ (i := 0) (N := some 54) (v := ?_) (a' := ?_) (zl 9 1) rfl rfl (any_of HT_.out (by kernel_rfl)) (fun _ _ _ h => h) (Or.inl ⟨by rfl, ?_⟩) ?_ ?_
         rotate_left
         ·intro w'
          go_simp
          with_reducible rfl
         rotate_left
         ·simp only [Act.put, u]
          rfl
         refine pure_ (i := 1) (N := some 55) (v := ?_) (a' := ?_) (zl 9 3) rfl rfl (any_of HT_.out (by kernel_rfl)) (fun _ _ _ h => h) (Or.inl ⟨by rfl, ?_⟩) ?_ ?_
         rotate_left
         ·intro w'
          go_simp
          with_reducible rfl
         rotate_left
         ·simp only [Act.put, u]
          rfl
         refine pure_ (i := 3) (N := some 57) (v := ?_) (a' := ?_) (zl 9 11) rfl rfl (any_of HT_.out (by kernel_rfl)) (fun _ _ _ h => h) (Or.inl ⟨by rfl, ?_⟩) ?_ ?_
         rotate_left
         ·intro w'
          go_simp
          with_reducible rfl
         rotate_left
         ·simp only [Act.put, u]
          rfl
         refine take_ (i := 2) (N := some 56) (v := ?_) (a' := ?_) (zl 9 15) rfl rfl (take_ofW HT_.out HW_.out (by kernel_rfl)) (fun _ _ _ h => h) (Or.inl ⟨by rfl, ?_⟩) hHeld ?_ ?_
         rotate_left
         ·rintro w' ⟨s0, s1⟩
          go_simp
          with_reducible rfl
         rotate_left
         ·simp only [Act.put, u]
          rfl
         refine take_ (i := 4) (N := some 58) (v := ?_) (a' := ?_) (zl 9 31) rfl rfl (take_ofW HT_.out HW_.out (by kernel_rfl)) (fun _ _ _ h => h) (Or.inl ⟨by rfl, ?_⟩) hHeld ?_ ?_
         rotate_left
         ·rintro w' ⟨s0, s1⟩
          go_simp
          with_reducible rfl
         rotate_left
         ·simp only [Act.put, u]
          rfl
         refine pure_ (i := 5) (N := some 59) (v := ?_) (a' := ?_) (zl 9 63) rfl rfl (any_of HT_.out (by kernel_rfl)) (fun _ _ _ h => h) (Or.inl ⟨by rfl, ?_⟩) ?_ ?_
         rotate_left
         ·intro w'
          go_simp
          with_reducible rfl
         rotate_left
         ·simp only [Act.put, u]
          rfl
         refine pure_ (i := 6) (N := some 60) (v := ?_) (a' := ?_) (zl 9 127) rfl rfl (any_of HT_.out (by kernel_rfl)) (fun _ _ _ h => h) (Or.inl ⟨by rfl, ?_⟩) ?_ ?_
         rotate_left
         ·intro w'
          go_simp
          with_reducible rfl
         rotate_left
         ·simp only [Act.put, u]
          rfl
         refine pure_ (i := 7) (N := some 61) (v := ?_) (a' := ?_) (zl 9 255) rfl rfl (any_of HT_.out (by kernel_rfl)) (fun _ _ _ h => h) (Or.inl ⟨by rfl, ?_⟩) ?_ ?_
         rotate_left
         ·intro w'
          go_simp
          with_reducible rfl
         rotate_left
         ·simp only [Act.put, u]
          rfl
         refine pure_ (i := 8) (N := some 62) (v := ?_) (a' := ?_) (zl 9 511) rfl rfl (any_of HT_.out (by kernel_rfl)) (fun _ _ _ h => h) (Or.inl ⟨by rfl, ?_⟩) ?_ ?_
         rotate_left
         ·intro w'
          go_simp
          with_reducible rfl
         rotate_left
         ·simp only [Act.put, u]
          rfl
         refine done_ (done_of HT_.out (by kernel_rfl)) ?_
         try go_wp2
         go_ret
         exact ⟨by first | rfl | (simp [errW_none, errW_some] <;> rfl) | (simp only [← hji43, ← hji45]; first | rfl | (simp [errW_none, errW_some] <;> rfl)) | (simp [*, errW_none, errW_some] <;> rfl), zHB⟩
        rw [if_neg c54] at H
        have c54b0 : (t107 != x8_4) = false := by simpa using c54
        (try (have c54b1 : decide (t107 = x8_4) = true := by simpa using c54))
        (try (have c54b2 : (t107 == x8_4) = true := by simpa using c54))
        clear c54
        have H' := zA H
        clear H
        try go_wp2
        have n0_ := zA (blk_drew BK105.out)
        have n1_ := zA (blk_drew BK106.out)
        have n2_ := zA (below_drew1 HB.out)
        clear BK105
        clear BK106
        clear HB
        have BK105 := n0_
        have BK106 := n1_
        have HB := n2_
        clear n0_ n1_ n2_
        refine start_ (n := 9) (S := fun w' => w'.cell? ⟨gb105, 0, none⟩ = some (.int .i64 t101) ∧ w'.cell? ⟨gb105, 1, none⟩ = some (.int .i64 t102)) (ds := []) (zl 9 0) (by kernel_rfl) rfl rfl ⟨(blk_cell BK105.out 0).trans rfl, (blk_cell BK105.out 1).trans rfl⟩ (fun hHeld => ?_); refine with_tabW laws_FnNetPrefix.tab10 laws_FnNetPrefix.bits10 (fun HT_ HW_ => ?_)
        generalize wr.drew = w56 at BK105 BK106 HB hHeld ⊢
        refine pure_ (i := 0) (N := some 54) (v := ?_) (a' := ?_) (zl 9 1) rfl rfl (any_of HT_.out (by kernel_rfl)) (fun _ _ _ h => h) (Or.inl ⟨by rfl, ?_⟩) ?_ ?_
        rotate_left
        ·intro w'
         go_simp
         with_reducible rfl
        rotate_left
        ·simp only [Act.put, u]
         rfl
        refine pure_ (i := 1) (N := some 55) (v := ?_) (a' := ?_) (zl 9 3) rfl rfl (any_of HT_.out (by kernel_rfl)) (fun _ _ _ h => h) (Or.inl ⟨by rfl, ?_⟩) ?_ ?_
        rotate_left
        ·intro w'
         go_simp
         with_reducible rfl
        rotate_left
        ·simp only [Act.put, u]
         rfl
        refine pure_ (i := 3) (N := some 57) (v := ?_) (a' := ?_) (zl 9 11) rfl rfl (any_of HT_.out (by kernel_rfl)) (fun _ _ _ h => h) (Or.inl ⟨by rfl, ?_⟩) ?_ ?_
        rotate_left
        ·intro w'
         go_simp
         with_reducible rfl
        rotate_left
        ·simp only [Act.put, u]
         rfl
        refine take_ (i := 2) (N := some 56) (v := ?_) (a' := ?_) (zl 9 15) rfl rfl (take_ofW HT_.out HW_.out (by kernel_rfl)) (fun _ _ _ h => h) (Or.inl ⟨by rfl, ?_⟩) hHeld ?_ ?_
        rotate_left
        ·rintro w' ⟨s0, s1⟩
         go_simp
         with_reducible rfl
        rotate_left
        ·simp only [Act.put, u]
         rfl
        refine take_ (i := 4) (N := some 58) (v := ?_) (a' := ?_) (zl 9 31) rfl rfl (take_ofW HT_.out HW_.out (by kernel_rfl)) (fun _ _ _ h => h) (Or.inl ⟨by rfl, ?_⟩) hHeld ?_ ?_
        rotate_left
        ·rintro w' ⟨s0, s1⟩
         go_simp
         with_reducible rfl
        rotate_left
        ·simp only [Act.put, u]
         rfl
        refine pure_ (i := 5) (N := some 59) (v := ?_) (a' := ?_) (zl 9 63) rfl rfl (any_of HT_.out (by kernel_rfl)) (fun _ _ _ h => h) (Or.inl ⟨by rfl, ?_⟩) ?_ ?_
        rotate_left
        ·intro w'
         go_simp
         with_reducible rfl
        rotate_left
        ·simp only [Act.put, u]
         rfl
        refine pure_ (i := 6) (N := some 60) (v := ?_) (a' := ?_) (zl 9 127) rfl rfl (any_of HT_.out (by kernel_rfl)) (fun _ _ _ h => h) (Or.inl ⟨by rfl, ?_⟩) ?_ ?_
        rotate_left
        ·intro w'
         go_simp
         with_reducible rfl
        rotate_left
        ·simp only [Act.put, u]
         rfl
        refine pure_ (i := 7) (N := some 61) (v := ?_) (a' := ?_) (zl 9 255) rfl rfl (any_of HT_.out (by kernel_rfl)) (fun _ _ _ h => h) (Or.inl ⟨by rfl, ?_⟩) ?_ ?_
        rotate_left
        ·intro w'
         go_simp
         with_reducible rfl
        rotate_left
        ·simp only [Act.put, u]
         rfl
        refine pure_ (i := 8) (N := some 62) (v := ?_) (a' := ?_) (zl 9 511) rfl rfl (any_of HT_.out (by kernel_rfl)) (fun _ _ _ h => h) (Or.inl ⟨by rfl, ?_⟩) ?_ ?_
        rotate_left
        ·intro w'
         go_simp
         with_reducible rfl
        rotate_left
        ·simp only [Act.put, u]
         rfl
        refine done_ (done_of HT_.out (by kernel_rfl)) ?_
        try go_wp2
        go_meet
        case rel => exact ⟨_, H', ⟨by have := HJ2.out; have := HJ7.out; have := HJ26.out; have := HK4.out; first | omega | exact Nat.le_refl _⟩, ⟨by refine zq ?_; exact BK105.out⟩, ⟨by refine zq ?_; exact BK106.out⟩, ⟨zHB⟩⟩
       rw [if_neg c44] at H
       exact absurd H (by simp)
     replace c40 := Bool.eq_false_iff.mpr c40
     subst c40
     have H1 : (laws_FnNetPrefix.j4 kj26 l1) = some r := by rw [if_neg (show ¬ (false = true) by decide)] at H; exact H
     clear H
     have H := H1
     clear H1
     have H' := zA H
     clear H
     as_aux_lemma =>
     go_wp2
     go_meet
     case rel => exact ⟨_, H', ⟨by have := HJ2.out; have := HJ7.out; have := HJ26.out; first | omega | exact Nat.le_refl _⟩, ⟨by refine zq ?_; exact BK105.out⟩, ⟨by refine zq ?_; exact BK106.out⟩, ⟨zHB⟩⟩
    case rest =>
     clear HC39
     try clear c1
     try clear c2
     try clear p2
     try clear c3
     try clear c4
     try clear c4b0
     try clear c4b1
     try clear c5
     try clear p6
     try clear c12
     try clear c17
     try clear c17b0
     try clear c17b1
     try clear c17b2
     try clear c24
     try clear c26
     try clear c29
     try clear c31
     try clear c35
     try clear c36
     try clear c40
     try clear c41
     try clear c44
     try clear c44b0
     try clear c44b1
     try clear c46
     try clear c46b0
     try clear c47
     try clear c50
     try clear c54
     try clear c54b0
     try clear c54b1
     try clear c54b2
     try clear hcz13_0
     try clear hcz13_1
     try clear hcz14_0
     try clear hcz14_1
     try clear hcz32_0
     try clear hcz32_1
     try clear hcz34_0
     try clear hcz34_1
     try clear hcz37_0
     try clear hcz37_1
     try clear hcz42_0
     try clear hcz42_1
     try clear hcz51_0
     try clear hcz51_1
     try clear hfz13_0
     try clear hfz13_1
     try clear hfz14_0
     try clear hfz14_1
     try clear hfz32_0
     try clear hfz32_1
     try clear hfz34_0
     try clear hfz34_1
     try clear hfz37_0
     try clear hfz37_1
     try clear hfz42_0
     try clear hfz42_1
     try clear hfz51_0
     try clear hfz51_1
     try clear p2
     obtain ⟨kq, HA, HJ38, BK105, BK106, HB⟩ := hcut
     cases kq with
     | zero => exact absurd HA.out (by simp [laws_FnNetPrefix.j4])
     | succ kj38 => ?_
     have H := HA.out
     clear HA
     simp only [laws_FnNetPrefix.j4] at H
     replace H := Option.bind_eq_some_iff.mp H
     obtain ⟨⟨t114, t115, t116⟩, A570, H⟩ := H
     replace H : ((impl_NetHas.f t114 t115 t116).bind fun t118 => ((spec_NetHas.f kj38 t114 t115 t116).bind fun t119 => (if (t118 != t119) = true then (some false) else ((impl_NetHalves.f t114 t115).bind fun bt120 => ((spec_NetHalves.f kj38 t114 t115).bind fun bt127 => (if (!(bt120.1 == bt127.1) || (!(bt120.2.1 == bt127.2.1))) = true then (laws_FnNetPrefix.j5 kj38 t116 bt120.2.2.2.2 true t114 t115 bt120.1 bt120.2.1 bt120.2.2.1 bt120.2.2.2.1) else (if (!(bt120.2.2.1 == bt127.2.2.1) || (!(bt120.2.2.2.1 == bt127.2.2.2.1))) = true then (laws_FnNetPrefix.j5 kj38 t116 bt120.2.2.2.2 true t114 t115 bt120.1 bt120.2.1 bt120.2.2.1 bt120.2.2.2.1) else (if (bt120.2.2.2.2 != bt127.2.2.2.2) = true then (laws_FnNetPrefix.j5 kj38 t116 bt120.2.2.2.2 true t114 t115 bt120.1 bt120.2.1 bt120.2.2.1 bt120.2.2.2.1) else ((spec_NetOk.f kj38 t114 t115).bind fun t134 => (if t134 = true then (laws_FnNetPrefix.j5 kj38 t116 bt120.2.2.2.2 (bt120.2.2.2.2 != (decide (t115 < 16))) t114 t115 bt120.1 bt120.2.1 bt120.2.2.1 bt120.2.2.2.1) else (laws_FnNetPrefix.j5 kj38 t116 bt120.2.2.2.2 (bt120.2.2.2.2 != false) t114 t115 bt120.1 bt120.2.1 bt120.2.2.1 bt120.2.2.2.1))))))))))) = some r := H
     have A57 := zA A570
     clear A570
     replace H := Option.bind_eq_some_iff.mp H
     obtain ⟨t118, A580, H⟩ := H
     replace H : ((spec_NetHas.f kj38 t114 t115 t116).bind fun t119 => (if (t118 != t119) = true then (some false) else ((impl_NetHalves.f t114 t115).bind fun bt120 => ((spec_NetHalves.f kj38 t114 t115).bind fun bt127 => (if (!(bt120.1 == bt127.1) || (!(bt120.2.1 == bt127.2.1))) = true then (laws_FnNetPrefix.j5 kj38 t116 bt120.2.2.2.2 true t114 t115 bt120.1 bt120.2.1 bt120.2.2.1 bt120.2.2.2.1) else (if (!(bt120.2.2.1 == bt127.2.2.1) || (!(bt120.2.2.2.1 == bt127.2.2.2.1))) = true then (laws_FnNetPrefix.j5 kj38 t116 bt120.2.2.2.2 true t114 t115 bt120.1 bt120.2.1 bt120.2.2.1 bt120.2.2.2.1) else (if (bt120.2.2.2.2 != bt127.2.2.2.2) = true then (laws_FnNetPrefix.j5 kj38 t116 bt120.2.2.2.2 true t114 t115 bt120.1 bt120.2.1 bt120.2.2.1 bt120.2.2.2.1) else ((spec_NetOk.f kj38 t114 t115).bind fun t134 => (if t134 = true then (laws_FnNetPrefix.j5 kj38 t116 bt120.2.2.2.2 (bt120.2.2.2.2 != (decide (t115 < 16))) t114 t115 bt120.1 bt120.2.1 bt120.2.2.1 bt120.2.2.2.1) else (laws_FnNetPrefix.j5 kj38 t116 bt120.2.2.2.2 (bt120.2.2.2.2 != false) t114 t115 bt120.1 bt120.2.1 bt120.2.2.1 bt120.2.2.2.1)))))))))) = some r := H
     have A58 := zA A580
     clear A580
     replace H := Option.bind_eq_some_iff.mp H
     obtain ⟨t119, A590, H⟩ := H
     replace H : (if (t118 != t119) = true then (some false) else ((impl_NetHalves.f t114 t115).bind fun bt120 => ((spec_NetHalves.f kj38 t114 t115).bind fun bt127 => (if (!(bt120.1 == bt127.1) || (!(bt120.2.1 == bt127.2.1))) = true then (laws_FnNetPrefix.j5 kj38 t116 bt120.2.2.2.2 true t114 t115 bt120.1 bt120.2.1 bt120.2.2.1 bt120.2.2.2.1) else (if (!(bt120.2.2.1 == bt127.2.2.1) || (!(bt120.2.2.2.1 == bt127.2.2.2.1))) = true then (laws_FnNetPrefix.j5 kj38 t116 bt120.2.2.2.2 true t114 t115 bt120.1 bt120.2.1 bt120.2.2.1 bt120.2.2.2.1) else (if (bt120.2.2.2.2 != bt127.2.2.2.2) = true then (laws_FnNetPrefix.j5 kj38 t116 bt120.2.2.2.2 true t114 t115 bt120.1 bt120.2.1 bt120.2.2.1 bt120.2.2.2.1) else ((spec_NetOk.f kj38 t114 t115).bind fun t134 => (if t134 = true then (laws_FnNetPrefix.j5 kj38 t116 bt120.2.2.2.2 (bt120.2.2.2.2 != (decide (t115 < 16))) t114 t115 bt120.1 bt120.2.1 bt120.2.2.1 bt120.2.2.2.1) else (laws_FnNetPrefix.j5 kj38 t116 bt120.2.2.2.2 (bt120.2.2.2.2 != false) t114 t115 bt120.1 bt120.2.1 bt120.2.2.1 bt120.2.2.2.1))))))))) = some r := H
     have A59 := zA A590
     clear A590
     by_cases c60 : (t118 != t119) = true
     ·as_aux_lemma =>
      rw [if_pos c60] at H
      have c60b0 : (t118 != t119) = true := c60
      (try (have c60b1 : decide (t118 = t119) = false := by simpa using c60))
      (try (have c60b2 : (t118 == t119) = false := by simpa using c60))
      (try (have c60b3 : ¬ (t118 = t119) := by simpa using c60))
      clear c60
      obtain rfl := Option.some.inj H
      try go_wp2_with (first | ((with_reducible refine gate_callee (f := 55) rfl ?_); refine goesL_ (some 76) rfl rfl Try.func55 (by kernel_rfl) rfl #[.slice A1 l1.length c1] rfl y1  ?_; (with_reducible refine (spec_DrawNetHas.calls kj38 _ _ l1 t114 t115 t116 _ ?side1 ?side2 A57.out).mono ?_); (case side1 => repeat (first | exact (Kd.C_below HR1.out HB.out) | (with_reducible refine Kd.C_alloc ?_ _) | (with_reducible refine Kd.C_drewN ?_ _) | (with_reducible refine Kd.C_drew ?_))); (case side2 => exact HC1.out); rintro e w61 ⟨rfl, hb⟩; refine ⟨_, rfl, ?_⟩; have n0_ := zA (blk_below (g := gb105) (o := .cells #[.int .i64 t101, .int .i64 t102] 26 (0, 0)) (zb BK105.out) hb); have n1_ := zA (blk_below (g := gb106) (o := .cells #[.int .i64 t103, .int .i64 t104] 26 (0, 0)) (zb BK106.out) hb); have n2_ := zA (below_step (zHB) hb); clear BK105; clear BK106; clear HB; have BK105 := n0_; have BK106 := n1_; have HB := n2_; clear n0_ n1_ n2_; (try clear hb); (try clear hb2); (try clear hk); (try clear hi)) | ((with_reducible refine gate_dst (N := 10) rfl ?_); (try (refine gate_guard (by rfl) ?_; dsimp only)); refine box_event ?hg (N := 10) ?hd (cs := #[.int .i64 0, .int .i64 0]) (t := 26) ?hr ?_; (case hd => rfl); (case hg => rfl); (case hr => first | (go_simp; done) | (go_simp; rfl)); intro gb117 hg w62 hbox hb; have n0_ := zA (blk_below (g := gb105) (o := .cells #[.int .i64 t101, .int .i64 t102] 26 (0, 0)) (zb BK105.out) hb); have n1_ := zA (blk_below (g := gb106) (o := .cells #[.int .i64 t103, .int .i64 t104] 26 (0, 0)) (zb BK106.out) hb); have n2_ := zA (below_step (zHB) hb); have n3_ := zA (hbox); have n4_ := zA ((show w.heap.size ≤ gb117 from y2)); have n5_ := zA ((show w.heap.size ≤ gb117 from y2)); have n6_ := zA ((by rw [hg]; exact Nat.ne_of_lt (blk_lt (g := gb105) (o := .cells #[.int .i64 t101, .int .i64 t102] 26 (0, 0)) (zb BK105.out)) : gb105 ≠ gb117)); have n7_ := zA ((by rw [hg]; exact Nat.ne_of_gt (blk_lt (g := gb105) (o := .cells #[.int .i64 t101, .int .i64 t102] 26 (0, 0)) (zb BK105.out)) : gb117 ≠ gb105)); have n8_ := zA ((by rw [hg]; exact Nat.ne_of_lt (blk_lt (g := gb106) (o := .cells #[.int .i64 t103, .int .i64 t104] 26 (0, 0)) (zb BK106.out)) : gb106 ≠ gb117)); have n9_ := zA ((by rw [hg]; exact Nat.ne_of_gt (blk_lt (g := gb106) (o := .cells #[.int .i64 t103, .int .i64 t104] 26 (0, 0)) (zb BK106.out)) : gb117 ≠ gb106)); clear BK105; clear BK106; clear HB; have BK105 := n0_; have BK106 := n1_; have HB := n2_; have BK117 := n3_; have GW117 := n4_; have GE117 := n5_; have NB105_117 := n6_; have NB117_105 := n7_; have NB106_117 := n8_; have NB117_106 := n9_; clear n0_ n1_ n2_ n3_ n4_ n5_ n6_ n7_ n8_ n9_; clear hb hbox hg; have hnb63 := NB117_105.out; have hnc63 := NB105_117.out; have hnb64 := NB117_106.out; have hnc64 := NB106_117.out; have hcz65_0 : w62.cell? ⟨gb117, 0, none⟩ = some (.int .i64 0) := (blk_cell BK117.out 0).trans rfl; have hcz65_1 : w62.cell? ⟨gb117, 1, none⟩ = some (.int .i64 0) := (blk_cell BK117.out 1).trans rfl; have hfz65_0 := blk_frozen BK117.out 0; have hfz65_1 := blk_frozen BK117.out 1))
      have n0_ : Aside0 (((w62.setCell ⟨gb117, 0, none⟩ (.int .i64 t114)).setCell ⟨gb117, 1, none⟩ (.int .i64 t115)).heap[gb105]? = some (.cells #[.int .i64 t101, .int .i64 t102] 26 (0, 0))) := ⟨by refine zq ?_; refine blk_far ?_ NB105_117.out _; refine zq ?_; refine blk_far ?_ NB105_117.out _; refine zq ?_; exact BK105.out⟩
      have n1_ : Aside0 (((w62.setCell ⟨gb117, 0, none⟩ (.int .i64 t114)).setCell ⟨gb117, 1, none⟩ (.int .i64 t115)).heap[gb106]? = some (.cells #[.int .i64 t103, .int .i64 t104] 26 (0, 0))) := ⟨by refine zq ?_; refine blk_far ?_ NB106_117.out _; refine zq ?_; refine blk_far ?_ NB106_117.out _; refine zq ?_; exact BK106.out⟩
      have n2_ : Aside0 (((w62.setCell ⟨gb117, 0, none⟩ (.int .i64 t114)).setCell ⟨gb117, 1, none⟩ (.int .i64 t115)).heap[gb117]? = some (.cells #[.int .i64 t114, .int .i64 t115] 26 (0, 0))) := ⟨by refine zq ?_; refine blk_put (cs := #[.int .i64 t114, .int .i64 0]) ?_ 1 _ rfl; refine zq ?_; refine blk_put (cs := #[.int .i64 0, .int .i64 0]) ?_ 0 _ rfl; refine zq ?_; exact BK117.out⟩
      have n3_ : Aside0 (Below w.heap.size w ((w62.setCell ⟨gb117, 0, none⟩ (.int .i64 t114)).setCell ⟨gb117, 1, none⟩ (.int .i64 t115))) := ⟨zHB⟩
      (try clear BK105)
      (try clear BK106)
      (try clear BK117)
      (try clear HB)
      generalize ((w62.setCell ⟨gb117, 0, none⟩ (.int .i64 t114)).setCell ⟨gb117, 1, none⟩ (.int .i64 t115)) = w66 at n0_ n1_ n2_ n3_ ⊢
      have BK105 := n0_
      have BK106 := n1_
      have BK117 := n2_
      have HB := n3_
      clear n0_ n1_ n2_ n3_
      have n0_ := zA (blk_drew BK105.out)
      have n1_ := zA (blk_drew BK106.out)
      have n2_ := zA (blk_drew BK117.out)
      have n3_ := zA (below_drew1 HB.out)
      clear BK105
      clear BK106
      clear BK117
      clear HB
      have BK105 := n0_
      have BK106 := n1_
      have BK117 := n2_
      have HB := n3_
      clear n0_ n1_ n2_ n3_
      refine start_ (n := 7) (S := fun w' => w'.cell? ⟨gb117, 0, none⟩ = some (.int .i64 t114) ∧ w'.cell? ⟨gb117, 1, none⟩ = some (.int .i64 t115)) (ds := []) (zl 7 0) (by kernel_rfl) rfl rfl ⟨(blk_cell BK117.out 0).trans rfl, (blk_cell BK117.out 1).trans rfl⟩ (fun hHeld => ?_)
      generalize w66.drew = w67 at BK105 BK106 BK117 HB hHeld ⊢
      refine pure_ (i := 1) (N := some 80) (v := ?_) (a' := ?_) (zl 7 2) rfl rfl (by kernel_rfl) (fun _ _ _ h => h) (Or.inl ⟨by rfl, ?_⟩) ?_ ?_
      rotate_left
      ·intro w'
       go_simp
       with_reducible rfl
      rotate_left
      ·simp only [Act.put, u]
       rfl
      refine pure_ (i := 4) (N := some 83) (v := ?_) (a' := ?_) (zl 7 18) rfl rfl (by kernel_rfl) (fun _ _ _ h => h) (Or.inl ⟨by rfl, ?_⟩) ?_ ?_
      rotate_left
      ·intro w'
       go_simp
       with_reducible rfl
      rotate_left
      ·simp only [Act.put, u]
       rfl
      refine take_ (i := 0) (N := some 79) (v := ?_) (a' := ?_) (zl 7 19) rfl rfl (by kernel_rfl) (fun _ _ _ h => h) (Or.inl ⟨by rfl, ?_⟩) hHeld ?_ ?_
      rotate_left
      ·rintro w' ⟨s0, s1⟩
       go_simp
       with_reducible rfl
      rotate_left
      ·simp only [Act.put, u]
       rfl
      refine take_ (i := 3) (N := some 82) (v := ?_) (a' := ?_) (zl 7 27) rfl rfl (by kernel_rfl) (fun _ _ _ h => h) (Or.inl ⟨by rfl, ?_⟩) hHeld ?_ ?_
      rotate_left
      ·rintro w' ⟨s0, s1⟩
       go_simp
       with_reducible rfl
      rotate_left
      ·simp only [Act.put, u]
       rfl
      refine one_ (i := 2) (N := some 81) (zl 7 31) rfl rfl (by kernel_rfl) (by decide) (fun K hK => ?_)
      refine goes_ Try.func34 (by kernel_rfl) rfl #[.agg #[.int .i64 t114, .int .i64 t115], .int .i64 t116] (by rfl) rfl rfl y1  ?_
      with_reducible refine (impl_NetHas.calls t114 t115 t116 t118 _ A58.out).mono ?_
      rintro e w68 ⟨rfl, hb⟩
      refine ⟨_, rfl, ?_⟩
      have n0_ := zA (blk_below (g := gb105) (o := .cells #[.int .i64 t101, .int .i64 t102] 26 (0, 0)) (zb BK105.out) hb)
      have n1_ := zA (blk_below (g := gb106) (o := .cells #[.int .i64 t103, .int .i64 t104] 26 (0, 0)) (zb BK106.out) hb)
      have n2_ := zA (blk_below (g := gb117) (o := .cells #[.int .i64 t114, .int .i64 t115] 26 (0, 0)) (zb BK117.out) hb)
      have n3_ := zA (below_step (zHB) hb)
      clear BK105
      clear BK106
      clear BK117
      clear HB
      have BK105 := n0_
      have BK106 := n1_
      have BK117 := n2_
      have HB := n3_
      clear n0_ n1_ n2_ n3_
      (try clear hb)
      (try clear hb2)
      (try clear hk)
      (try clear hi)
      refine hK.out _ _ ⟨(blk_cell BK117.out 0).trans rfl, (blk_cell BK117.out 1).trans rfl⟩ (fun hHeld => ?_)
      clear hK K
      refine norm_ (a' := ?_) ?_ ?_
      rotate_left
      ·show Act.put _ (some 81) _ = _
       simp only [Act.put, u]
       rfl
      refine one_ (i := 5) (N := some 84) (zl 7 63) rfl rfl (by kernel_rfl) (by decide) (fun K hK => ?_)
      refine goes_ Try.func33 (by kernel_rfl) rfl #[.agg #[.int .i64 t114, .int .i64 t115], .int .i64 t116] (by rfl) rfl rfl y1  ?_
      with_reducible refine (spec_NetHas.calls kj38 t114 t115 t116 t119 _ A59.out).mono ?_
      rintro e w69 ⟨rfl, hb⟩
      refine ⟨_, rfl, ?_⟩
      have n0_ := zA (blk_below (g := gb105) (o := .cells #[.int .i64 t101, .int .i64 t102] 26 (0, 0)) (zb BK105.out) hb)
      have n1_ := zA (blk_below (g := gb106) (o := .cells #[.int .i64 t103, .int .i64 t104] 26 (0, 0)) (zb BK106.out) hb)
      have n2_ := zA (blk_below (g := gb117) (o := .cells #[.int .i64 t114, .int .i64 t115] 26 (0, 0)) (zb BK117.out) hb)
      have n3_ := zA (below_step (zHB) hb)
      clear BK105
      clear BK106
      clear BK117
      clear HB
      have BK105 := n0_
      have BK106 := n1_
      have BK117 := n2_
      have HB := n3_
      clear n0_ n1_ n2_ n3_
      (try clear hb)
      (try clear hb2)
      (try clear hk)
      (try clear hi)
      refine hK.out _ _ ⟨(blk_cell BK117.out 0).trans rfl, (blk_cell BK117.out 1).trans rfl⟩ (fun hHeld => ?_)
      clear hK K
      refine norm_ (a' := ?_) ?_ ?_
      rotate_left
      ·show Act.put _ (some 84) _ = _
       simp only [Act.put, u]
       rfl
      refine pure_ (i := 6) (N := some 85) (v := ?_) (a' := ?_) (zl 7 127) rfl rfl (by kernel_rfl) (fun _ _ _ h => h) (Or.inl ⟨by rfl, ?_⟩) ?_ ?_
      rotate_left
      ·intro w'
       go_simp
       with_reducible rfl
      rotate_left
      ·simp only [Act.put, u]
       rfl
      refine done_ (by kernel_rfl) ?_
      try go_wp2
      go_ret
      exact ⟨by first | rfl | (simp [errW_none, errW_some] <;> rfl) | (simp [*, errW_none, errW_some] <;> rfl), zHB⟩
     rw [if_neg c60] at H
     have c60b0 : (t118 != t119) = false := by simpa using c60
     (try (have c60b1 : decide (t118 = t119) = true := by simpa using c60))
     (try (have c60b2 : (t118 == t119) = true := by simpa using c60))
     clear c60
     replace H := Option.bind_eq_some_iff.mp H
     obtain ⟨⟨t120, t121, t122, t123, t124⟩, A700, H⟩ := H
     replace H : ((spec_NetHalves.f kj38 t114 t115).bind fun bt127 => (if (!(t120 == bt127.1) || (!(t121 == bt127.2.1))) = true then (laws_FnNetPrefix.j5 kj38 t116 t124 true t114 t115 t120 t121 t122 t123) else (if (!(t122 == bt127.2.2.1) || (!(t123 == bt127.2.2.2.1))) = true then (laws_FnNetPrefix.j5 kj38 t116 t124 true t114 t115 t120 t121 t122 t123) else (if (t124 != bt127.2.2.2.2) = true then (laws_FnNetPrefix.j5 kj38 t116 t124 true t114 t115 t120 t121 t122 t123) else ((spec_NetOk.f kj38 t114 t115).bind fun t134 => (if t134 = true then (laws_FnNetPrefix.j5 kj38 t116 t124 (t124 != (decide (t115 < 16))) t114 t115 t120 t121 t122 t123) else (laws_FnNetPrefix.j5 kj38 t116 t124 (t124 != false) t114 t115 t120 t121 t122 t123))))))) = some r := H
     have A70 := zA A700
     clear A700
     replace H := Option.bind_eq_some_iff.mp H
     obtain ⟨⟨t127, t128, t129, t130, t131⟩, A710, H⟩ := H
     replace H : (if (!(t120 == t127) || (!(t121 == t128))) = true then (laws_FnNetPrefix.j5 kj38 t116 t124 true t114 t115 t120 t121 t122 t123) else (if (!(t122 == t129) || (!(t123 == t130))) = true then (laws_FnNetPrefix.j5 kj38 t116 t124 true t114 t115 t120 t121 t122 t123) else (if (t124 != t131) = true then (laws_FnNetPrefix.j5 kj38 t116 t124 true t114 t115 t120 t121 t122 t123) else ((spec_NetOk.f kj38 t114 t115).bind fun t134 => (if t134 = true then (laws_FnNetPrefix.j5 kj38 t116 t124 (t124 != (decide (t115 < 16))) t114 t115 t120 t121 t122 t123) else (laws_FnNetPrefix.j5 kj38 t116 t124 (t124 != false) t114 t115 t120 t121 t122 t123)))))) = some r := H
     have A71 := zA A710
     clear A710
     have HC72 := zA H
     clear H
     try go_wp2_with (first | ((with_reducible refine gate_callee (f := 55) rfl ?_); refine goesL_ (some 76) rfl rfl Try.func55 (by kernel_rfl) rfl #[.slice A1 l1.length c1] rfl y1  ?_; (with_reducible refine (spec_DrawNetHas.calls kj38 _ _ l1 t114 t115 t116 _ ?side1 ?side2 A57.out).mono ?_); (case side1 => repeat (first | exact (Kd.C_below HR1.out HB.out) | (with_reducible refine Kd.C_alloc ?_ _) | (with_reducible refine Kd.C_drewN ?_ _) | (with_reducible refine Kd.C_drew ?_))); (case side2 => exact HC1.out); rintro e w73 ⟨rfl, hb⟩; refine ⟨_, rfl, ?_⟩; have n0_ := zA (blk_below (g := gb105) (o := .cells #[.int .i64 t101, .int .i64 t102] 26 (0, 0)) (zb BK105.out) hb); have n1_ := zA (blk_below (g := gb106) (o := .cells #[.int .i64 t103, .int .i64 t104] 26 (0, 0)) (zb BK106.out) hb); have n2_ := zA (below_step (zHB) hb); clear BK105; clear BK106; clear HB; have BK105 := n0_; have BK106 := n1_; have HB := n2_; clear n0_ n1_ n2_; (try clear hb); (try clear hb2); (try clear hk); (try clear hi)) | ((with_reducible refine gate_dst (N := 10) rfl ?_); (try (refine gate_guard (by rfl) ?_; dsimp only)); refine box_event ?hg (N := 10) ?hd (cs := #[.int .i64 0, .int .i64 0]) (t := 26) ?hr ?_; (case hd => rfl); (case hg => rfl); (case hr => first | (go_simp; done) | (go_simp; rfl)); intro gb117 hg w74 hbox hb; have n0_ := zA (blk_below (g := gb105) (o := .cells #[.int .i64 t101, .int .i64 t102] 26 (0, 0)) (zb BK105.out) hb); have n1_ := zA (blk_below (g := gb106) (o := .cells #[.int .i64 t103, .int .i64 t104] 26 (0, 0)) (zb BK106.out) hb); have n2_ := zA (below_step (zHB) hb); have n3_ := zA (hbox); have n4_ := zA ((show w.heap.size ≤ gb117 from y2)); have n5_ := zA ((show w.heap.size ≤ gb117 from y2)); have n6_ := zA ((by rw [hg]; exact Nat.ne_of_lt (blk_lt (g := gb105) (o := .cells #[.int .i64 t101, .int .i64 t102] 26 (0, 0)) (zb BK105.out)) : gb105 ≠ gb117)); have n7_ := zA ((by rw [hg]; exact Nat.ne_of_gt (blk_lt (g := gb105) (o := .cells #[.int .i64 t101, .int .i64 t102] 26 (0, 0)) (zb BK105.out)) : gb117 ≠ gb105)); have n8_ := zA ((by rw [hg]; exact Nat.ne_of_lt (blk_lt (g := gb106) (o := .cells #[.int .i64 t103, .int .i64 t104] 26 (0, 0)) (zb BK106.out)) : gb106 ≠ gb117)); have n9_ := zA ((by rw [hg]; exact Nat.ne_of_gt (blk_lt (g := gb106) (o := .cells #[.int .i64 t103, .int .i64 t104] 26 (0, 0)) (zb BK106.out)) : gb117 ≠ gb106)); clear BK105; clear BK106; clear HB; have BK105 := n0_; have BK106 := n1_; have HB := n2_; have BK117 := n3_; have GW117 := n4_; have GE117 := n5_; have NB105_117 := n6_; have NB117_105 := n7_; have NB106_117 := n8_; have NB117_106 := n9_; clear n0_ n1_ n2_ n3_ n4_ n5_ n6_ n7_ n8_ n9_; clear hb hbox hg; have hnb75 := NB117_105.out; have hnc75 := NB105_117.out; have hnb76 := NB117_106.out; have hnc76 := NB106_117.out; have hcz77_0 : w74.cell? ⟨gb117, 0, none⟩ = some (.int .i64 0) := (blk_cell BK117.out 0).trans rfl; have hcz77_1 : w74.cell? ⟨gb117, 1, none⟩ = some (.int .i64 0) := (blk_cell BK117.out 1).trans rfl; have hfz77_0 := blk_frozen BK117.out 0; have hfz77_1 := blk_frozen BK117.out 1))
     have n0_ : Aside0 (((w74.setCell ⟨gb117, 0, none⟩ (.int .i64 t114)).setCell ⟨gb117, 1, none⟩ (.int .i64 t115)).heap[gb105]? = some (.cells #[.int .i64 t101, .int .i64 t102] 26 (0, 0))) := ⟨by refine zq ?_; refine blk_far ?_ NB105_117.out _; refine zq ?_; refine blk_far ?_ NB105_117.out _; refine zq ?_; exact BK105.out⟩
     have n1_ : Aside0 (((w74.setCell ⟨gb117, 0, none⟩ (.int .i64 t114)).setCell ⟨gb117, 1, none⟩ (.int .i64 t115)).heap[gb106]? = some (.cells #[.int .i64 t103, .int .i64 t104] 26 (0, 0))) := ⟨by refine zq ?_; refine blk_far ?_ NB106_117.out _; refine zq ?_; refine blk_far ?_ NB106_117.out _; refine zq ?_; exact BK106.out⟩
     have n2_ : Aside0 (((w74.setCell ⟨gb117, 0, none⟩ (.int .i64 t114)).setCell ⟨gb117, 1, none⟩ (.int .i64 t115)).heap[gb117]? = some (.cells #[.int .i64 t114, .int .i64 t115] 26 (0, 0))) := ⟨by refine zq ?_; refine blk_put (cs := #[.int .i64 t114, .int .i64 0]) ?_ 1 _ rfl; refine zq ?_; refine blk_put (cs := #[.int .i64 0, .int .i64 0]) ?_ 0 _ rfl; refine zq ?_; exact BK117.out⟩
     have n3_ : Aside0 (Below w.heap.size w ((w74.setCell ⟨gb117, 0, none⟩ (.int .i64 t114)).setCell ⟨gb117, 1, none⟩ (.int .i64 t115))) := ⟨zHB⟩
     (try clear BK105)
     (try clear BK106)
     (try clear BK117)
     (try clear HB)
     generalize ((w74.setCell ⟨gb117, 0, none⟩ (.int .i64 t114)).setCell ⟨gb117, 1, none⟩ (.int .i64 t115)) = w78 at n0_ n1_ n2_ n3_ ⊢
     have BK105 := n0_
     have BK106 := n1_
     have BK117 := n2_
     have HB := n3_
     clear n0_ n1_ n2_ n3_
     have n0_ := zA (blk_drew BK105.out)
     have n1_ := zA (blk_drew BK106.out)
     have n2_ := zA (blk_drew BK117.out)
     have n3_ := zA (below_drew1 HB.out)
     clear BK105
     clear BK106
     clear BK117
     clear HB
     have BK105 := n0_
     have BK106 := n1_
     have BK117 := n2_
     have HB := n3_
     clear n0_ n1_ n2_ n3_
     refine start_ (n := 7) (S := fun w' => w'.cell? ⟨gb117, 0, none⟩ = some (.int .i64 t114) ∧ w'.cell? ⟨gb117, 1, none⟩ = some (.int .i64 t115)) (ds := []) (zl 7 0) (by kernel_rfl) rfl rfl ⟨(blk_cell BK117.out 0).trans rfl, (blk_cell BK117.out 1).trans rfl⟩ (fun hHeld => ?_)
     generalize w78.drew = w79 at BK105 BK106 BK117 HB hHeld ⊢
     refine pure_ (i := 1) (N := some 80) (v := ?_) (a' := ?_) (zl 7 2) rfl rfl (by kernel_rfl) (fun _ _ _ h => h) (Or.inl ⟨by rfl, ?_⟩) ?_ ?_
     rotate_left
     ·intro w'
      go_simp
      with_reducible rfl
     rotate_left
     ·simp only [Act.put, u]
      rfl
     refine pure_ (i := 4) (N := some 83) (v := ?_) (a' := ?_) (zl 7 18) rfl rfl (by kernel_rfl) (fun _ _ _ h => h) (Or.inl ⟨by rfl, ?_⟩) ?_ ?_
     rotate_left
     ·intro w'
      go_simp
      with_reducible rfl
     rotate_left
     ·simp only [Act.put, u]
      rfl
     refine take_ (i := 0) (N := some 79) (v := ?_) (a' := ?_) (zl 7 19) rfl rfl (by kernel_rfl) (fun _ _ _ h => h) (Or.inl ⟨by rfl, ?_⟩) hHeld ?_ ?_
     rotate_left
     ·rintro w' ⟨s0, s1⟩
      go_simp
      with_reducible rfl
     rotate_left
     ·simp only [Act.put, u]
      rfl
     refine take_ (i := 3) (N := some 82) (v := ?_) (a' := ?_) (zl 7 27) rfl rfl (by kernel_rfl) (fun _ _ _ h => h) (Or.inl ⟨by rfl, ?_⟩) hHeld ?_ ?_
     rotate_left
     ·rintro w' ⟨s0, s1⟩
      go_simp
      with_reducible rfl
     rotate_left
     ·simp only [Act.put, u]
      rfl
     refine one_ (i := 2) (N := some 81) (zl 7 31) rfl rfl (by kernel_rfl) (by decide) (fun K hK => ?_)
     refine goes_ Try.func34 (by kernel_rfl) rfl #[.agg #[.int .i64 t114, .int .i64 t115], .int .i64 t116] (by rfl) rfl rfl y1  ?_
     with_reducible refine (impl_NetHas.calls t114 t115 t116 t118 _ A58.out).mono ?_
     rintro e w80 ⟨rfl, hb⟩
     refine ⟨_, rfl, ?_⟩
     have n0_ := zA (blk_below (g := gb105) (o := .cells #[.int .i64 t101, .int .i64 t102] 26 (0, 0)) (zb BK105.out) hb)
     have n1_ := zA (blk_below (g := gb106) (o := .cells #[.int .i64 t103, .int .i64 t104] 26 (0, 0)) (zb BK106.out) hb)
     have n2_ := zA (blk_below (g := gb117) (o := .cells #[.int .i64 t114, .int .i64 t115] 26 (0, 0)) (zb BK117.out) hb)
     have n3_ := zA (below_step (zHB) hb)
     clear BK105
     clear BK106
     clear BK117
     clear HB
     have BK105 := n0_
     have BK106 := n1_
     have BK117 := n2_
     have HB := n3_
     clear n0_ n1_ n2_ n3_
     (try clear hb)
     (try clear hb2)
     (try clear hk)
     (try clear hi)
     refine hK.out _ _ ⟨(blk_cell BK117.out 0).trans rfl, (blk_cell BK117.out 1).trans rfl⟩ (fun hHeld => ?_)
     clear hK K
     refine norm_ (a' := ?_) ?_ ?_
     rotate_left
     ·show Act.put _ (some 81) _ = _
      simp only [Act.put, u]
      rfl
     refine one_ (i := 5) (N := some 84) (zl 7 63) rfl rfl (by kernel_rfl) (by decide) (fun K hK => ?_)
     refine goes_ Try.func33 (by kernel_rfl) rfl #[.agg #[.int .i64 t114, .int .i64 t115], .int .i64 t116] (by rfl) rfl rfl y1  ?_
     with_reducible refine (spec_NetHas.calls kj38 t114 t115 t116 t119 _ A59.out).mono ?_
     rintro e w81 ⟨rfl, hb⟩
     refine ⟨_, rfl, ?_⟩
     have n0_ := zA (blk_below (g := gb105) (o := .cells #[.int .i64 t101, .int .i64 t102] 26 (0, 0)) (zb BK105.out) hb)
     have n1_ := zA (blk_below (g := gb106) (o := .cells #[.int .i64 t103, .int .i64 t104] 26 (0, 0)) (zb BK106.out) hb)
     have n2_ := zA (blk_below (g := gb117) (o := .cells #[.int .i64 t114, .int .i64 t115] 26 (0, 0)) (zb BK117.out) hb)
     have n3_ := zA (below_step (zHB) hb)
     clear BK105
     clear BK106
     clear BK117
     clear HB
     have BK105 := n0_
     have BK106 := n1_
     have BK117 := n2_
     have HB := n3_
     clear n0_ n1_ n2_ n3_
     (try clear hb)
     (try clear hb2)
     (try clear hk)
     (try clear hi)
     refine hK.out _ _ ⟨(blk_cell BK117.out 0).trans rfl, (blk_cell BK117.out 1).trans rfl⟩ (fun hHeld => ?_)
     clear hK K
     refine norm_ (a' := ?_) ?_ ?_
     rotate_left
     ·show Act.put _ (some 84) _ = _
      simp only [Act.put, u]
      rfl
     refine pure_ (i := 6) (N := some 85) (v := ?_) (a' := ?_) (zl 7 127) rfl rfl (by kernel_rfl) (fun _ _ _ h => h) (Or.inl ⟨by rfl, ?_⟩) ?_ ?_
     rotate_left
     ·intro w'
      go_simp
      with_reducible rfl
     rotate_left
     ·simp only [Act.put, u]
      rfl
     refine done_ (by kernel_rfl) ?_
     have hcz82_0 : w81.cell? ⟨gb117, 0, none⟩ = some (.int .i64 t114) := (blk_cell BK117.out 0).trans rfl
     have hcz82_1 : w81.cell? ⟨gb117, 1, none⟩ = some (.int .i64 t115) := (blk_cell BK117.out 1).trans rfl
     have hfz82_0 := blk_frozen BK117.out 0
     have hfz82_1 := blk_frozen BK117.out 1
     go_upto_region 20 with (first | ((with_reducible refine gate_callee (f := 38) rfl ?_); refine goesL_ (some 88) rfl rfl Try.func38 (by kernel_rfl) rfl #[.agg #[.int .i64 t114, .int .i64 t115]] rfl y1  ?_; (with_reducible refine (impl_NetHalves.calls t114 t115 t120 t121 t122 t123 t124 _ A70.out).mono ?_); rintro e w83 ⟨rfl, hb⟩; refine ⟨_, rfl, ?_⟩; have n0_ := zA (blk_below (g := gb105) (o := .cells #[.int .i64 t101, .int .i64 t102] 26 (0, 0)) (zb BK105.out) hb); have n1_ := zA (blk_below (g := gb106) (o := .cells #[.int .i64 t103, .int .i64 t104] 26 (0, 0)) (zb BK106.out) hb); have n2_ := zA (blk_below (g := gb117) (o := .cells #[.int .i64 t114, .int .i64 t115] 26 (0, 0)) (zb BK117.out) hb); have n3_ := zA (below_step (zHB) hb); clear BK105; clear BK106; clear BK117; clear HB; have BK105 := n0_; have BK106 := n1_; have BK117 := n2_; have HB := n3_; clear n0_ n1_ n2_ n3_; (try clear hb); (try clear hb2); (try clear hk); (try clear hi)) | ((with_reducible refine gate_dst (N := 12) rfl ?_); (try (refine gate_guard (by rfl) ?_; dsimp only)); refine box_event ?hg (N := 12) ?hd (cs := #[.int .i64 0, .int .i64 0]) (t := 26) ?hr ?_; (case hd => rfl); (case hg => rfl); (case hr => first | (go_simp; done) | (go_simp; rfl)); intro gb125 hg w84 hbox hb; have n0_ := zA (blk_below (g := gb105) (o := .cells #[.int .i64 t101, .int .i64 t102] 26 (0, 0)) (zb BK105.out) hb); have n1_ := zA (blk_below (g := gb106) (o := .cells #[.int .i64 t103, .int .i64 t104] 26 (0, 0)) (zb BK106.out) hb); have n2_ := zA (blk_below (g := gb117) (o := .cells #[.int .i64 t114, .int .i64 t115] 26 (0, 0)) (zb BK117.out) hb); have n3_ := zA (below_step (zHB) hb); have n4_ := zA (hbox); have n5_ := zA ((by rw [hg]; exact (below_size (zHB)) : w.heap.size ≤ gb125)); have n6_ := zA ((by rw [hg]; exact (below_size (zHB)) : w.heap.size ≤ gb125)); have n7_ := zA ((by rw [hg]; exact Nat.ne_of_lt (blk_lt (g := gb105) (o := .cells #[.int .i64 t101, .int .i64 t102] 26 (0, 0)) (zb BK105.out)) : gb105 ≠ gb125)); have n8_ := zA ((by rw [hg]; exact Nat.ne_of_gt (blk_lt (g := gb105) (o := .cells #[.int .i64 t101, .int .i64 t102] 26 (0, 0)) (zb BK105.out)) : gb125 ≠ gb105)); have n9_ := zA ((by rw [hg]; exact Nat.ne_of_lt (blk_lt (g := gb106) (o := .cells #[.int .i64 t103, .int .i64 t104] 26 (0, 0)) (zb BK106.out)) : gb106 ≠ gb125)); have n10_ := zA ((by rw [hg]; exact Nat.ne_of_gt (blk_lt (g := gb106) (o := .cells #[.int .i64 t103, .int .i64 t104] 26 (0, 0)) (zb BK106.out)) : gb125 ≠ gb106)); have n11_ := zA ((by rw [hg]; exact Nat.ne_of_lt (blk_lt (g := gb117) (o := .cells #[.int .i64 t114, .int .i64 t115] 26 (0, 0)) (zb BK117.out)) : gb117 ≠ gb125)); have n12_ := zA ((by rw [hg]; exact Nat.ne_of_gt (blk_lt (g := gb117) (o := .cells #[.int .i64 t114, .int .i64 t115] 26 (0, 0)) (zb BK117.out)) : gb125 ≠ gb117)); clear BK105; clear BK106; clear BK117; clear HB; have BK105 := n0_; have BK106 := n1_; have BK117 := n2_; have HB := n3_; have BK125 := n4_; have GW125 := n5_; have GE125 := n6_; have NB105_125 := n7_; have NB125_105 := n8_; have NB106_125 := n9_; have NB125_106 := n10_; have NB117_125 := n11_; have NB125_117 := n12_; clear n0_ n1_ n2_ n3_ n4_ n5_ n6_ n7_ n8_ n9_ n10_ n11_ n12_; clear hb hbox hg) | ((with_reducible refine gate_dst (N := 13) rfl ?_); (try (refine gate_guard (by rfl) ?_; dsimp only)); refine box_event ?hg (N := 13) ?hd (cs := #[.int .i64 0, .int .i64 0]) (t := 26) ?hr ?_; (case hd => rfl); (case hg => rfl); (case hr => first | (go_simp; done) | (go_simp; rfl)); intro gb126 hg w85 hbox hb; have n0_ := zA (blk_below (g := gb105) (o := .cells #[.int .i64 t101, .int .i64 t102] 26 (0, 0)) (zb BK105.out) hb); have n1_ := zA (blk_below (g := gb106) (o := .cells #[.int .i64 t103, .int .i64 t104] 26 (0, 0)) (zb BK106.out) hb); have n2_ := zA (blk_below (g := gb117) (o := .cells #[.int .i64 t114, .int .i64 t115] 26 (0, 0)) (zb BK117.out) hb); have n3_ := zA (blk_below (g := gb125) (o := .cells #[.int .i64 0, .int .i64 0] 26 (0, 0)) (zb BK125.out) hb); have n4_ := zA (below_step (zHB) hb); have n5_ := zA (hbox); have n6_ := zA ((by rw [hg]; exact (below_size (zHB)) : w.heap.size ≤ gb126)); have n7_ := zA ((by rw [hg]; exact (below_size (zHB)) : w.heap.size ≤ gb126)); have n8_ := zA ((by rw [hg]; exact Nat.ne_of_lt (blk_lt (g := gb105) (o := .cells #[.int .i64 t101, .int .i64 t102] 26 (0, 0)) (zb BK105.out)) : gb105 ≠ gb126)); have n9_ := zA ((by rw [hg]; exact Nat.ne_of_gt (blk_lt (g := gb105) (o := .cells #[.int .i64 t101, .int .i64 t102] 26 (0, 0)) (zb BK105.out)) : gb126 ≠ gb105)); have n10_ := zA ((by rw [hg]; exact Nat.ne_of_lt (blk_lt (g := gb106) (o := .cells #[.int .i64 t103, .int .i64 t104] 26 (0, 0)) (zb BK106.out)) : gb106 ≠ gb126)); have n11_ := zA ((by rw [hg]; exact Nat.ne_of_gt (blk_lt (g := gb106) (o := .cells #[.int .i64 t103, .int .i64 t104] 26 (0, 0)) (zb BK106.out)) : gb126 ≠ gb106)); have n12_ := zA ((by rw [hg]; exact Nat.ne_of_lt (blk_lt (g := gb117) (o := .cells #[.int .i64 t114, .int .i64 t115] 26 (0, 0)) (zb BK117.out)) : gb117 ≠ gb126)); have n13_ := zA ((by rw [hg]; exact Nat.ne_of_gt (blk_lt (g := gb117) (o := .cells #[.int .i64 t114, .int .i64 t115] 26 (0, 0)) (zb BK117.out)) : gb126 ≠ gb117)); have n14_ := zA ((by rw [hg]; exact Nat.ne_of_lt (blk_lt (g := gb125) (o := .cells #[.int .i64 0, .int .i64 0] 26 (0, 0)) (zb BK125.out)) : gb125 ≠ gb126)); have n15_ := zA ((by rw [hg]; exact Nat.ne_of_gt (blk_lt (g := gb125) (o := .cells #[.int .i64 0, .int .i64 0] 26 (0, 0)) (zb BK125.out)) : gb126 ≠ gb125)); clear BK105; clear BK106; clear BK117; clear BK125; clear HB; have BK105 := n0_; have BK106 := n1_; have BK117 := n2_; have BK125 := n3_; have HB := n4_; have BK126 := n5_; have GW126 := n6_; have GE126 := n7_; have NB105_126 := n8_; have NB126_105 := n9_; have NB106_126 := n10_; have NB126_106 := n11_; have NB117_126 := n12_; have NB126_117 := n13_; have NB125_126 := n14_; have NB126_125 := n15_; clear n0_ n1_ n2_ n3_ n4_ n5_ n6_ n7_ n8_ n9_ n10_ n11_ n12_ n13_ n14_ n15_; clear hb hbox hg; have hnb86 := NB125_105.out; have hnc86 := NB105_125.out; have hnb87 := NB125_106.out; have hnc87 := NB106_125.out; have hnb88 := NB125_117.out; have hnc88 := NB117_125.out; have hnb89 := NB125_126.out; have hnc89 := NB126_125.out; have hcz90_0 : w85.cell? ⟨gb125, 0, none⟩ = some (.int .i64 0) := (blk_cell BK125.out 0).trans rfl; have hcz90_1 : w85.cell? ⟨gb125, 1, none⟩ = some (.int .i64 0) := (blk_cell BK125.out 1).trans rfl; have hfz90_0 := blk_frozen BK125.out 0; have hfz90_1 := blk_frozen BK125.out 1; have hnb91 := NB126_105.out; have hnc91 := NB105_126.out; have hnb92 := NB126_106.out; have hnc92 := NB106_126.out; have hnb93 := NB126_117.out; have hnc93 := NB117_126.out; have hcz94_0 : w85.cell? ⟨gb126, 0, none⟩ = some (.int .i64 0) := (blk_cell BK126.out 0).trans rfl; have hcz94_1 : w85.cell? ⟨gb126, 1, none⟩ = some (.int .i64 0) := (blk_cell BK126.out 1).trans rfl; have hfz94_0 := blk_frozen BK126.out 0; have hfz94_1 := blk_frozen BK126.out 1; have hcz95_0 : w85.cell? ⟨gb117, 0, none⟩ = some (.int .i64 t114) := (blk_cell BK117.out 0).trans rfl; have hcz95_1 : w85.cell? ⟨gb117, 1, none⟩ = some (.int .i64 t115) := (blk_cell BK117.out 1).trans rfl; have hfz95_0 := blk_frozen BK117.out 0; have hfz95_1 := blk_frozen BK117.out 1) | ((with_reducible refine gate_callee (f := 37) rfl ?_); refine goesL_ (some 94) rfl rfl Try.func37 (by kernel_rfl) rfl #[.agg #[.int .i64 t114, .int .i64 t115]] rfl y1  ?_; (with_reducible refine (spec_NetHalves.calls kj38 t114 t115 t127 t128 t129 t130 t131 _ A71.out).mono ?_); rintro e w96 ⟨rfl, hb⟩; refine ⟨_, rfl, ?_⟩; have n0_ := zA (blk_below (g := gb105) (o := .cells #[.int .i64 t101, .int .i64 t102] 26 (0, 0)) (by refine zq ?_; refine blk_far ?_ NB105_126.out _; refine zq ?_; refine blk_far ?_ NB105_126.out _; refine zq ?_; refine blk_far ?_ NB105_125.out _; refine zq ?_; refine blk_far ?_ NB105_125.out _; refine zq ?_; exact BK105.out) hb); have n1_ := zA (blk_below (g := gb106) (o := .cells #[.int .i64 t103, .int .i64 t104] 26 (0, 0)) (by refine zq ?_; refine blk_far ?_ NB106_126.out _; refine zq ?_; refine blk_far ?_ NB106_126.out _; refine zq ?_; refine blk_far ?_ NB106_125.out _; refine zq ?_; refine blk_far ?_ NB106_125.out _; refine zq ?_; exact BK106.out) hb); have n2_ := zA (blk_below (g := gb117) (o := .cells #[.int .i64 t114, .int .i64 t115] 26 (0, 0)) (by refine zq ?_; refine blk_far ?_ NB117_126.out _; refine zq ?_; refine blk_far ?_ NB117_126.out _; refine zq ?_; refine blk_far ?_ NB117_125.out _; refine zq ?_; refine blk_far ?_ NB117_125.out _; refine zq ?_; exact BK117.out) hb); have n3_ := zA (blk_below (g := gb125) (o := .cells #[.int .i64 t120, .int .i64 t121] 26 (0, 0)) (by refine zq ?_; refine blk_far ?_ NB125_126.out _; refine zq ?_; refine blk_far ?_ NB125_126.out _; refine zq ?_; refine blk_put (cs := #[.int .i64 t120, .int .i64 0]) ?_ 1 _ rfl; refine zq ?_; refine blk_put (cs := #[.int .i64 0, .int .i64 0]) ?_ 0 _ rfl; refine zq ?_; exact BK125.out) hb); have n4_ := zA (blk_below (g := gb126) (o := .cells #[.int .i64 t122, .int .i64 t123] 26 (0, 0)) (by refine zq ?_; refine blk_put (cs := #[.int .i64 t122, .int .i64 0]) ?_ 1 _ rfl; refine zq ?_; refine blk_put (cs := #[.int .i64 0, .int .i64 0]) ?_ 0 _ rfl; refine zq ?_; refine blk_far ?_ NB126_125.out _; refine zq ?_; refine blk_far ?_ NB126_125.out _; refine zq ?_; exact BK126.out) hb); have n5_ := zA (below_step (zHB) hb); clear BK105; clear BK106; clear BK117; clear BK125; clear BK126; clear HB; have BK105 := n0_; have BK106 := n1_; have BK117 := n2_; have BK125 := n3_; have BK126 := n4_; have HB := n5_; clear n0_ n1_ n2_ n3_ n4_ n5_; (try clear hb); (try clear hb2); (try clear hk); (try clear hi)) | ((with_reducible refine gate_dst (N := 15) rfl ?_); (try (refine gate_guard (by rfl) ?_; dsimp only)); refine box_event ?hg (N := 15) ?hd (cs := #[.int .i64 0, .int .i64 0]) (t := 26) ?hr ?_; (case hd => rfl); (case hg => rfl); (case hr => first | (go_simp; done) | (go_simp; rfl)); intro gb132 hg w97 hbox hb; have n0_ := zA (blk_below (g := gb105) (o := .cells #[.int .i64 t101, .int .i64 t102] 26 (0, 0)) (zb BK105.out) hb); have n1_ := zA (blk_below (g := gb106) (o := .cells #[.int .i64 t103, .int .i64 t104] 26 (0, 0)) (zb BK106.out) hb); have n2_ := zA (blk_below (g := gb117) (o := .cells #[.int .i64 t114, .int .i64 t115] 26 (0, 0)) (zb BK117.out) hb); have n3_ := zA (blk_below (g := gb125) (o := .cells #[.int .i64 t120, .int .i64 t121] 26 (0, 0)) (zb BK125.out) hb); have n4_ := zA (blk_below (g := gb126) (o := .cells #[.int .i64 t122, .int .i64 t123] 26 (0, 0)) (zb BK126.out) hb); have n5_ := zA (below_step (zHB) hb); have n6_ := zA (hbox); have n7_ := zA ((by rw [hg]; exact (below_size (zHB)) : w.heap.size ≤ gb132)); have n8_ := zA ((by rw [hg]; exact (below_size (zHB)) : w.heap.size ≤ gb132)); have n9_ := zA ((by rw [hg]; exact Nat.ne_of_lt (blk_lt (g := gb105) (o := .cells #[.int .i64 t101, .int .i64 t102] 26 (0, 0)) (zb BK105.out)) : gb105 ≠ gb132)); have n10_ := zA ((by rw [hg]; exact Nat.ne_of_gt (blk_lt (g := gb105) (o := .cells #[.int .i64 t101, .int .i64 t102] 26 (0, 0)) (zb BK105.out)) : gb132 ≠ gb105)); have n11_ := zA ((by rw [hg]; exact Nat.ne_of_lt (blk_lt (g := gb106) (o := .cells #[.int .i64 t103, .int .i64 t104] 26 (0, 0)) (zb BK106.out)) : gb106 ≠ gb132)); have n12_ := zA ((by rw [hg]; exact Nat.ne_of_gt (blk_lt (g := gb106) (o := .cells #[.int .i64 t103, .int .i64 t104] 26 (0, 0)) (zb BK106.out)) : gb132 ≠ gb106)); have n13_ := zA ((by rw [hg]; exact Nat.ne_of_lt (blk_lt (g := gb117) (o := .cells #[.int .i64 t114, .int .i64 t115] 26 (0, 0)) (zb BK117.out)) : gb117 ≠ gb132)); have n14_ := zA ((by rw [hg]; exact Nat.ne_of_gt (blk_lt (g := gb117) (o := .cells #[.int .i64 t114, .int .i64 t115] 26 (0, 0)) (zb BK117.out)) : gb132 ≠ gb117)); have n15_ := zA ((by rw [hg]; exact Nat.ne_of_lt (blk_lt (g := gb125) (o := .cells #[.int .i64 t120, .int .i64 t121] 26 (0, 0)) (zb BK125.out)) : gb125 ≠ gb132)); have n16_ := zA ((by rw [hg]; exact Nat.ne_of_gt (blk_lt (g := gb125) (o := .cells #[.int .i64 t120, .int .i64 t121] 26 (0, 0)) (zb BK125.out)) : gb132 ≠ gb125)); have n17_ := zA ((by rw [hg]; exact Nat.ne_of_lt (blk_lt (g := gb126) (o := .cells #[.int .i64 t122, .int .i64 t123] 26 (0, 0)) (zb BK126.out)) : gb126 ≠ gb132)); have n18_ := zA ((by rw [hg]; exact Nat.ne_of_gt (blk_lt (g := gb126) (o := .cells #[.int .i64 t122, .int .i64 t123] 26 (0, 0)) (zb BK126.out)) : gb132 ≠ gb126)); clear BK105; clear BK106; clear BK117; clear BK125; clear BK126; clear HB; have BK105 := n0_; have BK106 := n1_; have BK117 := n2_; have BK125 := n3_; have BK126 := n4_; have HB := n5_; have BK132 := n6_; have GW132 := n7_; have GE132 := n8_; have NB105_132 := n9_; have NB132_105 := n10_; have NB106_132 := n11_; have NB132_106 := n12_; have NB117_132 := n13_; have NB132_117 := n14_; have NB125_132 := n15_; have NB132_125 := n16_; have NB126_132 := n17_; have NB132_126 := n18_; clear n0_ n1_ n2_ n3_ n4_ n5_ n6_ n7_ n8_ n9_ n10_ n11_ n12_ n13_ n14_ n15_ n16_ n17_ n18_; clear hb hbox hg) | ((with_reducible refine gate_dst (N := 16) rfl ?_); (try (refine gate_guard (by rfl) ?_; dsimp only)); refine box_event ?hg (N := 16) ?hd (cs := #[.int .i64 0, .int .i64 0]) (t := 26) ?hr ?_; (case hd => rfl); (case hg => rfl); (case hr => first | (go_simp; done) | (go_simp; rfl)); intro gb133 hg w98 hbox hb; have n0_ := zA (blk_below (g := gb105) (o := .cells #[.int .i64 t101, .int .i64 t102] 26 (0, 0)) (zb BK105.out) hb); have n1_ := zA (blk_below (g := gb106) (o := .cells #[.int .i64 t103, .int .i64 t104] 26 (0, 0)) (zb BK106.out) hb); have n2_ := zA (blk_below (g := gb117) (o := .cells #[.int .i64 t114, .int .i64 t115] 26 (0, 0)) (zb BK117.out) hb); have n3_ := zA (blk_below (g := gb125) (o := .cells #[.int .i64 t120, .int .i64 t121] 26 (0, 0)) (zb BK125.out) hb); have n4_ := zA (blk_below (g := gb126) (o := .cells #[.int .i64 t122, .int .i64 t123] 26 (0, 0)) (zb BK126.out) hb); have n5_ := zA (blk_below (g := gb132) (o := .cells #[.int .i64 0, .int .i64 0] 26 (0, 0)) (zb BK132.out) hb); have n6_ := zA (below_step (zHB) hb); have n7_ := zA (hbox); have n8_ := zA ((by rw [hg]; exact (below_size (zHB)) : w.heap.size ≤ gb133)); have n9_ := zA ((by rw [hg]; exact (below_size (zHB)) : w.heap.size ≤ gb133)); have n10_ := zA ((by rw [hg]; exact Nat.ne_of_lt (blk_lt (g := gb105) (o := .cells #[.int .i64 t101, .int .i64 t102] 26 (0, 0)) (zb BK105.out)) : gb105 ≠ gb133)); have n11_ := zA ((by rw [hg]; exact Nat.ne_of_gt (blk_lt (g := gb105) (o := .cells #[.int .i64 t101, .int .i64 t102] 26 (0, 0)) (zb BK105.out)) : gb133 ≠ gb105)); have n12_ := zA ((by rw [hg]; exact Nat.ne_of_lt (blk_lt (g := gb106) (o := .cells #[.int .i64 t103, .int .i64 t104] 26 (0, 0)) (zb BK106.out)) : gb106 ≠ gb133)); have n13_ := zA ((by rw [hg]; exact Nat.ne_of_gt (blk_lt (g := gb106) (o := .cells #[.int .i64 t103, .int .i64 t104] 26 (0, 0)) (zb BK106.out)) : gb133 ≠ gb106)); have n14_ := zA ((by rw [hg]; exact Nat.ne_of_lt (blk_lt (g := gb117) (o := .cells #[.int .i64 t114, .int .i64 t115] 26 (0, 0)) (zb BK117.out)) : gb117 ≠ gb133)); have n15_ := zA ((by rw [hg]; exact Nat.ne_of_gt (blk_lt (g := gb117) (o := .cells #[.int .i64 t114, .int .i64 t115] 26 (0, 0)) (zb BK117.out)) : gb133 ≠ gb117)); have n16_ := zA ((by rw [hg]; exact Nat.ne_of_lt (blk_lt (g := gb125) (o := .cells #[.int .i64 t120, .int .i64 t121] 26 (0, 0)) (zb BK125.out)) : gb125 ≠ gb133)); have n17_ := zA ((by rw [hg]; exact Nat.ne_of_gt (blk_lt (g := gb125) (o := .cells #[.int .i64 t120, .int .i64 t121] 26 (0, 0)) (zb BK125.out)) : gb133 ≠ gb125)); have n18_ := zA ((by rw [hg]; exact Nat.ne_of_lt (blk_lt (g := gb126) (o := .cells #[.int .i64 t122, .int .i64 t123] 26 (0, 0)) (zb BK126.out)) : gb126 ≠ gb133)); have n19_ := zA ((by rw [hg]; exact Nat.ne_of_gt (blk_lt (g := gb126) (o := .cells #[.int .i64 t122, .int .i64 t123] 26 (0, 0)) (zb BK126.out)) : gb133 ≠ gb126)); have n20_ := zA ((by rw [hg]; exact Nat.ne_of_lt (blk_lt (g := gb132) (o := .cells #[.int .i64 0, .int .i64 0] 26 (0, 0)) (zb BK132.out)) : gb132 ≠ gb133)); have n21_ := zA ((by rw [hg]; exact Nat.ne_of_gt (blk_lt (g := gb132) (o := .cells #[.int .i64 0, .int .i64 0] 26 (0, 0)) (zb BK132.out)) : gb133 ≠ gb132)); clear BK105; clear BK106; clear BK117; clear BK125; clear BK126; clear BK132; clear HB; have BK105 := n0_; have BK106 := n1_; have BK117 := n2_; have BK125 := n3_; have BK126 := n4_; have BK132 := n5_; have HB := n6_; have BK133 := n7_; have GW133 := n8_; have GE133 := n9_; have NB105_133 := n10_; have NB133_105 := n11_; have NB106_133 := n12_; have NB133_106 := n13_; have NB117_133 := n14_; have NB133_117 := n15_; have NB125_133 := n16_; have NB133_125 := n17_; have NB126_133 := n18_; have NB133_126 := n19_; have NB132_133 := n20_; have NB133_132 := n21_; clear n0_ n1_ n2_ n3_ n4_ n5_ n6_ n7_ n8_ n9_ n10_ n11_ n12_ n13_ n14_ n15_ n16_ n17_ n18_ n19_ n20_ n21_; clear hb hbox hg; have hnb99 := NB132_105.out; have hnc99 := NB105_132.out; have hnb100 := NB132_106.out; have hnc100 := NB106_132.out; have hnb101 := NB132_117.out; have hnc101 := NB117_132.out; have hnb102 := NB132_125.out; have hnc102 := NB125_132.out; have hnb103 := NB132_126.out; have hnc103 := NB126_132.out; have hnb104 := NB132_133.out; have hnc104 := NB133_132.out; have hcz105_0 : w98.cell? ⟨gb132, 0, none⟩ = some (.int .i64 0) := (blk_cell BK132.out 0).trans rfl; have hcz105_1 : w98.cell? ⟨gb132, 1, none⟩ = some (.int .i64 0) := (blk_cell BK132.out 1).trans rfl; have hfz105_0 := blk_frozen BK132.out 0; have hfz105_1 := blk_frozen BK132.out 1; have hnb106 := NB133_105.out; have hnc106 := NB105_133.out; have hnb107 := NB133_106.out; have hnc107 := NB106_133.out; have hnb108 := NB133_117.out; have hnc108 := NB117_133.out; have hnb109 := NB133_125.out; have hnc109 := NB125_133.out; have hnb110 := NB133_126.out; have hnc110 := NB126_133.out; have hcz111_0 : w98.cell? ⟨gb133, 0, none⟩ = some (.int .i64 0) := (blk_cell BK133.out 0).trans rfl; have hcz111_1 : w98.cell? ⟨gb133, 1, none⟩ = some (.int .i64 0) := (blk_cell BK133.out 1).trans rfl; have hfz111_0 := blk_frozen BK133.out 0; have hfz111_1 := blk_frozen BK133.out 1))
     (try simp only [Act.put, List.setIfInBounds_toArray, List.set_cons_zero, List.set_cons_succ])
     go_cut [121] (fun v121 wc => ∃ (kq : Nat) (x121_71 : Bool), v121 = .bool x121_71 ∧ Aside0 (laws_FnNetPrefix.j5 kq t116 t124 x121_71 t114 t115 t120 t121 t122 t123 = some r) ∧ Aside0 (kq ≤ kj38) ∧ Aside0 (wc.heap[gb105]? = some (.cells #[.int .i64 t101, .int .i64 t102] 26 (0, 0))) ∧ Aside0 (wc.heap[gb106]? = some (.cells #[.int .i64 t103, .int .i64 t104] 26 (0, 0))) ∧ Aside0 (wc.heap[gb117]? = some (.cells #[.int .i64 t114, .int .i64 t115] 26 (0, 0))) ∧ Aside0 (wc.heap[gb125]? = some (.cells #[.int .i64 t120, .int .i64 t121] 26 (0, 0))) ∧ Aside0 (wc.heap[gb126]? = some (.cells #[.int .i64 t122, .int .i64 t123] 26 (0, 0))) ∧ Aside0 (wc.heap[gb132]? = some (.cells #[.int .i64 t127, .int .i64 t128] 26 (0, 0))) ∧ Aside0 (wc.heap[gb133]? = some (.cells #[.int .i64 t129, .int .i64 t130] 26 (0, 0))) ∧ Aside0 (Below w.heap.size w wc))
     case first =>
      have H := HC72.out
      clear HC72
      by_cases c112 : (!(t120 == t127) || (!(t121 == t128))) = true
      ·as_aux_lemma =>
       rw [if_pos c112] at H
       have c112b0 : (!(t120 == t127) || (!(t121 == t128))) = true := c112
       clear c112
       (first | rw [c112b0] | (simp only [i64_w, i32_w]; rw [c112b0]) | skip)
       have H' := zA H
       clear H
       have hnb113 := NB125_105.out
       have hnc113 := NB105_125.out
       have hnb114 := NB125_106.out
       have hnc114 := NB106_125.out
       have hnb115 := NB125_117.out
       have hnc115 := NB117_125.out
       have hnb116 := NB125_126.out
       have hnc116 := NB126_125.out
       have hnb117 := NB125_132.out
       have hnc117 := NB132_125.out
       have hnb118 := NB125_133.out
       have hnc118 := NB133_125.out
       have hcz119_0 : w98.cell? ⟨gb125, 0, none⟩ = some (.int .i64 t120) := (blk_cell BK125.out 0).trans rfl
       have hcz119_1 : w98.cell? ⟨gb125, 1, none⟩ = some (.int .i64 t121) := (blk_cell BK125.out 1).trans rfl
       have hfz119_0 := blk_frozen BK125.out 0
       have hfz119_1 := blk_frozen BK125.out 1
       have hnb120 := NB132_105.out
       have hnc120 := NB105_132.out
       have hnb121 := NB132_106.out
       have hnc121 := NB106_132.out
       have hnb122 := NB132_117.out
       have hnc122 := NB117_132.out
       have hnb123 := NB132_126.out
       have hnc123 := NB126_132.out
       have hnb124 := NB132_133.out
       have hnc124 := NB133_132.out
       have hcz125_0 : w98.cell? ⟨gb132, 0, none⟩ = some (.int .i64 0) := (blk_cell BK132.out 0).trans rfl
       have hcz125_1 : w98.cell? ⟨gb132, 1, none⟩ = some (.int .i64 0) := (blk_cell BK132.out 1).trans rfl
       have hfz125_0 := blk_frozen BK132.out 0
       have hfz125_1 := blk_frozen BK132.out 1
       as_aux_lemma =>
       go_wp2
       go_meet
       case rel => exact ⟨_, (true), y3 , H', ⟨by have := HJ2.out; have := HJ7.out; have := HJ26.out; have := HJ38.out; first | omega | exact Nat.le_refl _⟩, ⟨by refine zq ?_; refine blk_far ?_ NB105_133.out _; refine zq ?_; refine blk_far ?_ NB105_133.out _; refine zq ?_; refine blk_far ?_ NB105_132.out _; refine zq ?_; refine blk_far ?_ NB105_132.out _; refine zq ?_; exact BK105.out⟩, ⟨by refine zq ?_; refine blk_far ?_ NB106_133.out _; refine zq ?_; refine blk_far ?_ NB106_133.out _; refine zq ?_; refine blk_far ?_ NB106_132.out _; refine zq ?_; refine blk_far ?_ NB106_132.out _; refine zq ?_; exact BK106.out⟩, ⟨by refine zq ?_; refine blk_far ?_ NB117_133.out _; refine zq ?_; refine blk_far ?_ NB117_133.out _; refine zq ?_; refine blk_far ?_ NB117_132.out _; refine zq ?_; refine blk_far ?_ NB117_132.out _; refine zq ?_; exact BK117.out⟩, ⟨by refine zq ?_; refine blk_far ?_ NB125_133.out _; refine zq ?_; refine blk_far ?_ NB125_133.out _; refine zq ?_; refine blk_far ?_ NB125_132.out _; refine zq ?_; refine blk_far ?_ NB125_132.out _; refine zq ?_; exact BK125.out⟩, ⟨by refine zq ?_; refine blk_far ?_ NB126_133.out _; refine zq ?_; refine blk_far ?_ NB126_133.out _; refine zq ?_; refine blk_far ?_ NB126_132.out _; refine zq ?_; refine blk_far ?_ NB126_132.out _; refine zq ?_; exact BK126.out⟩, ⟨by refine zq ?_; refine blk_far ?_ NB132_133.out _; refine zq ?_; refine blk_far ?_ NB132_133.out _; refine zq ?_; refine blk_put (cs := #[.int .i64 t127, .int .i64 0]) ?_ 1 _ rfl; refine zq ?_; refine blk_put (cs := #[.int .i64 0, .int .i64 0]) ?_ 0 _ rfl; refine zq ?_; exact BK132.out⟩, ⟨by refine zq ?_; refine blk_put (cs := #[.int .i64 t129, .int .i64 0]) ?_ 1 _ rfl; refine zq ?_; refine blk_put (cs := #[.int .i64 0, .int .i64 0]) ?_ 0 _ rfl; refine zq ?_; refine blk_far ?_ NB133_132.out _; refine zq ?_; refine blk_far ?_ NB133_132.out _; refine zq ?_; exact BK133.out⟩, ⟨zHB⟩⟩
      rw [if_neg c112] at H
      have c112b0 : (!(t120 == t127) || (!(t121 == t128))) = false := by simpa using c112
      clear c112
      (first | rw [c112b0] | (simp only [i64_w, i32_w]; rw [c112b0]) | skip)
      by_cases c126 : (!(t122 == t129) || (!(t123 == t130))) = true
      ·as_aux_lemma =>
       rw [if_pos c126] at H
       have c126b0 : (!(t122 == t129) || (!(t123 == t130))) = true := c126
       clear c126
       have H' := zA H
       clear H
       have hnb127 := NB125_105.out
       have hnc127 := NB105_125.out
       have hnb128 := NB125_106.out
       have hnc128 := NB106_125.out
       have hnb129 := NB125_117.out
       have hnc129 := NB117_125.out
       have hnb130 := NB125_126.out
       have hnc130 := NB126_125.out
       have hnb131 := NB125_132.out
       have hnc131 := NB132_125.out
       have hnb132 := NB125_133.out
       have hnc132 := NB133_125.out
       have hcz133_0 : w98.cell? ⟨gb125, 0, none⟩ = some (.int .i64 t120) := (blk_cell BK125.out 0).trans rfl
       have hcz133_1 : w98.cell? ⟨gb125, 1, none⟩ = some (.int .i64 t121) := (blk_cell BK125.out 1).trans rfl
       have hfz133_0 := blk_frozen BK125.out 0
       have hfz133_1 := blk_frozen BK125.out 1
       have hnb134 := NB132_105.out
       have hnc134 := NB105_132.out
       have hnb135 := NB132_106.out
       have hnc135 := NB106_132.out
       have hnb136 := NB132_117.out
       have hnc136 := NB117_132.out
       have hnb137 := NB132_126.out
       have hnc137 := NB126_132.out
       have hnb138 := NB132_133.out
       have hnc138 := NB133_132.out
       have hcz139_0 : w98.cell? ⟨gb132, 0, none⟩ = some (.int .i64 0) := (blk_cell BK132.out 0).trans rfl
       have hcz139_1 : w98.cell? ⟨gb132, 1, none⟩ = some (.int .i64 0) := (blk_cell BK132.out 1).trans rfl
       have hfz139_0 := blk_frozen BK132.out 0
       have hfz139_1 := blk_frozen BK132.out 1
       have hnb140 := NB126_105.out
       have hnc140 := NB105_126.out
       have hnb141 := NB126_106.out
       have hnc141 := NB106_126.out
       have hnb142 := NB126_117.out
       have hnc142 := NB117_126.out
       have hnb143 := NB126_133.out
       have hnc143 := NB133_126.out
       have hcz144_0 : w98.cell? ⟨gb126, 0, none⟩ = some (.int .i64 t122) := (blk_cell BK126.out 0).trans rfl
       have hcz144_1 : w98.cell? ⟨gb126, 1, none⟩ = some (.int .i64 t123) := (blk_cell BK126.out 1).trans rfl
       have hfz144_0 := blk_frozen BK126.out 0
       have hfz144_1 := blk_frozen BK126.out 1
       have hnb145 := NB133_105.out
       have hnc145 := NB105_133.out
       have hnb146 := NB133_106.out
       have hnc146 := NB106_133.out
       have hnb147 := NB133_117.out
       have hnc147 := NB117_133.out
       have hcz148_0 : w98.cell? ⟨gb133, 0, none⟩ = some (.int .i64 0) := (blk_cell BK133.out 0).trans rfl
       have hcz148_1 : w98.cell? ⟨gb133, 1, none⟩ = some (.int .i64 0) := (blk_cell BK133.out 1).trans rfl
       have hfz148_0 := blk_frozen BK133.out 0
       have hfz148_1 := blk_frozen BK133.out 1
       as_aux_lemma =>
       go_wp2
       go_meet
       case rel => exact ⟨_, (true), y3 , H', ⟨by have := HJ2.out; have := HJ7.out; have := HJ26.out; have := HJ38.out; first | omega | exact Nat.le_refl _⟩, ⟨by refine zq ?_; refine blk_far ?_ NB105_133.out _; refine zq ?_; refine blk_far ?_ NB105_133.out _; refine zq ?_; refine blk_far ?_ NB105_132.out _; refine zq ?_; refine blk_far ?_ NB105_132.out _; refine zq ?_; exact BK105.out⟩, ⟨by refine zq ?_; refine blk_far ?_ NB106_133.out _; refine zq ?_; refine blk_far ?_ NB106_133.out _; refine zq ?_; refine blk_far ?_ NB106_132.out _; refine zq ?_; refine blk_far ?_ NB106_132.out _; refine zq ?_; exact BK106.out⟩, ⟨by refine zq ?_; refine blk_far ?_ NB117_133.out _; refine zq ?_; refine blk_far ?_ NB117_133.out _; refine zq ?_; refine blk_far ?_ NB117_132.out _; refine zq ?_; refine blk_far ?_ NB117_132.out _; refine zq ?_; exact BK117.out⟩, ⟨by refine zq ?_; refine blk_far ?_ NB125_133.out _; refine zq ?_; refine blk_far ?_ NB125_133.out _; refine zq ?_; refine blk_far ?_ NB125_132.out _; refine zq ?_; refine blk_far ?_ NB125_132.out _; refine zq ?_; exact BK125.out⟩, ⟨by refine zq ?_; refine blk_far ?_ NB126_133.out _; refine zq ?_; refine blk_far ?_ NB126_133.out _; refine zq ?_; refine blk_far ?_ NB126_132.out _; refine zq ?_; refine blk_far ?_ NB126_132.out _; refine zq ?_; exact BK126.out⟩, ⟨by refine zq ?_; refine blk_far ?_ NB132_133.out _; refine zq ?_; refine blk_far ?_ NB132_133.out _; refine zq ?_; refine blk_put (cs := #[.int .i64 t127, .int .i64 0]) ?_ 1 _ rfl; refine zq ?_; refine blk_put (cs := #[.int .i64 0, .int .i64 0]) ?_ 0 _ rfl; refine zq ?_; exact BK132.out⟩, ⟨by refine zq ?_; refine blk_put (cs := #[.int .i64 t129, .int .i64 0]) ?_ 1 _ rfl; refine zq ?_; refine blk_put (cs := #[.int .i64 0, .int .i64 0]) ?_ 0 _ rfl; refine zq ?_; refine blk_far ?_ NB133_132.out _; refine zq ?_; refine blk_far ?_ NB133_132.out _; refine zq ?_; exact BK133.out⟩, ⟨zHB⟩⟩
      rw [if_neg c126] at H
      have c126b0 : (!(t122 == t129) || (!(t123 == t130))) = false := by simpa using c126
      clear c126
      by_cases c149 : (t124 != t131) = true
      ·as_aux_lemma =>
       rw [if_pos c149] at H
       have c149b0 : (t124 != t131) = true := c149
       (try (have c149b1 : decide (t124 = t131) = false := by simpa using c149))
       (try (have c149b2 : (t124 == t131) = false := by simpa using c149))
       (try (have c149b3 : ¬ (t124 = t131) := by simpa using c149))
       clear c149
       have H' := zA H
       clear H
       have hnb150 := NB125_105.out
       have hnc150 := NB105_125.out
       have hnb151 := NB125_106.out
       have hnc151 := NB106_125.out
       have hnb152 := NB125_117.out
       have hnc152 := NB117_125.out
       have hnb153 := NB125_126.out
       have hnc153 := NB126_125.out
       have hnb154 := NB125_132.out
       have hnc154 := NB132_125.out
       have hnb155 := NB125_133.out
       have hnc155 := NB133_125.out
       have hcz156_0 : w98.cell? ⟨gb125, 0, none⟩ = some (.int .i64 t120) := (blk_cell BK125.out 0).trans rfl
       have hcz156_1 : w98.cell? ⟨gb125, 1, none⟩ = some (.int .i64 t121) := (blk_cell BK125.out 1).trans rfl
       have hfz156_0 := blk_frozen BK125.out 0
       have hfz156_1 := blk_frozen BK125.out 1
       have hnb157 := NB132_105.out
       have hnc157 := NB105_132.out
       have hnb158 := NB132_106.out
       have hnc158 := NB106_132.out
       have hnb159 := NB132_117.out
       have hnc159 := NB117_132.out
       have hnb160 := NB132_126.out
       have hnc160 := NB126_132.out
       have hnb161 := NB132_133.out
       have hnc161 := NB133_132.out
       have hcz162_0 : w98.cell? ⟨gb132, 0, none⟩ = some (.int .i64 0) := (blk_cell BK132.out 0).trans rfl
       have hcz162_1 : w98.cell? ⟨gb132, 1, none⟩ = some (.int .i64 0) := (blk_cell BK132.out 1).trans rfl
       have hfz162_0 := blk_frozen BK132.out 0
       have hfz162_1 := blk_frozen BK132.out 1
       have hnb163 := NB126_105.out
       have hnc163 := NB105_126.out
       have hnb164 := NB126_106.out
       have hnc164 := NB106_126.out
       have hnb165 := NB126_117.out
       have hnc165 := NB117_126.out
       have hnb166 := NB126_133.out
       have hnc166 := NB133_126.out
       have hcz167_0 : w98.cell? ⟨gb126, 0, none⟩ = some (.int .i64 t122) := (blk_cell BK126.out 0).trans rfl
       have hcz167_1 : w98.cell? ⟨gb126, 1, none⟩ = some (.int .i64 t123) := (blk_cell BK126.out 1).trans rfl
       have hfz167_0 := blk_frozen BK126.out 0
       have hfz167_1 := blk_frozen BK126.out 1
       have hnb168 := NB133_105.out
       have hnc168 := NB105_133.out
       have hnb169 := NB133_106.out
       have hnc169 := NB106_133.out
       have hnb170 := NB133_117.out
       have hnc170 := NB117_133.out
       have hcz171_0 : w98.cell? ⟨gb133, 0, none⟩ = some (.int .i64 0) := (blk_cell BK133.out 0).trans rfl
       have hcz171_1 : w98.cell? ⟨gb133, 1, none⟩ = some (.int .i64 0) := (blk_cell BK133.out 1).trans rfl
       have hfz171_0 := blk_frozen BK133.out 0
       have hfz171_1 := blk_frozen BK133.out 1
       as_aux_lemma =>
       go_wp2
       go_meet
       case rel => exact ⟨_, (true), y3 , H', ⟨by have := HJ2.out; have := HJ7.out; have := HJ26.out; have := HJ38.out; first | omega | exact Nat.le_refl _⟩, ⟨by refine zq ?_; refine blk_far ?_ NB105_133.out _; refine zq ?_; refine blk_far ?_ NB105_133.out _; refine zq ?_; refine blk_far ?_ NB105_132.out _; refine zq ?_; refine blk_far ?_ NB105_132.out _; refine zq ?_; exact BK105.out⟩, ⟨by refine zq ?_; refine blk_far ?_ NB106_133.out _; refine zq ?_; refine blk_far ?_ NB106_133.out _; refine zq ?_; refine blk_far ?_ NB106_132.out _; refine zq ?_; refine blk_far ?_ NB106_132.out _; refine zq ?_; exact BK106.out⟩, ⟨by refine zq ?_; refine blk_far ?_ NB117_133.out _; refine zq ?_; refine blk_far ?_ NB117_133.out _; refine zq ?_; refine blk_far ?_ NB117_132.out _; refine zq ?_; refine blk_far ?_ NB117_132.out _; refine zq ?_; exact BK117.out⟩, ⟨by refine zq ?_; refine blk_far ?_ NB125_133.out _; refine zq ?_; refine blk_far ?_ NB125_133.out _; refine zq ?_; refine blk_far ?_ NB125_132.out _; refine zq ?_; refine blk_far ?_ NB125_132.out _; refine zq ?_; exact BK125.out⟩, ⟨by refine zq ?_; refine blk_far ?_ NB126_133.out _; refine zq ?_; refine blk_far ?_ NB126_133.out _; refine zq ?_; refine blk_far ?_ NB126_132.out _; refine zq ?_; refine blk_far ?_ NB126_132.out _; refine zq ?_; exact BK126.out⟩, ⟨by refine zq ?_; refine blk_far ?_ NB132_133.out _; refine zq ?_; refine blk_far ?_ NB132_133.out _; refine zq ?_; refine blk_put (cs := #[.int .i64 t127, .int .i64 0]) ?_ 1 _ rfl; refine zq ?_; refine blk_put (cs := #[.int .i64 0, .int .i64 0]) ?_ 0 _ rfl; refine zq ?_; exact BK132.out⟩, ⟨by refine zq ?_; refine blk_put (cs := #[.int .i64 t129, .int .i64 0]) ?_ 1 _ rfl; refine zq ?_; refine blk_put (cs := #[.int .i64 0, .int .i64 0]) ?_ 0 _ rfl; refine zq ?_; refine blk_far ?_ NB133_132.out _; refine zq ?_; refine blk_far ?_ NB133_132.out _; refine zq ?_; exact BK133.out⟩, ⟨zHB⟩⟩
      rw [if_neg c149] at H
      have c149b0 : (t124 != t131) = false := by simpa using c149
      (try (have c149b1 : decide (t124 = t131) = true := by simpa using c149))
      (try (have c149b2 : (t124 == t131) = true := by simpa using c149))
      clear c149
      replace H := Option.bind_eq_some_iff.mp H
      obtain ⟨t134, A1720, H⟩ := H
      replace H : (if t134 = true then (laws_FnNetPrefix.j5 kj38 t116 t124 (t124 != (decide (t115 < 16))) t114 t115 t120 t121 t122 t123) else (laws_FnNetPrefix.j5 kj38 t116 t124 (t124 != false) t114 t115 t120 t121 t122 t123)) = some r := H
      have A172 := zA A1720
      clear A1720
      by_cases c173 : t134 = true
      ·as_aux_lemma =>
       subst c173
       have H1 : (laws_FnNetPrefix.j5 kj38 t116 t124 (t124 != (decide (t115 < 16))) t114 t115 t120 t121 t122 t123) = some r := by rw [if_pos rfl] at H; exact H
       clear H
       have H := H1
       clear H1
       have H' := zA H
       clear H
       have hnb174 := NB125_105.out
       have hnc174 := NB105_125.out
       have hnb175 := NB125_106.out
       have hnc175 := NB106_125.out
       have hnb176 := NB125_117.out
       have hnc176 := NB117_125.out
       have hnb177 := NB125_126.out
       have hnc177 := NB126_125.out
       have hnb178 := NB125_132.out
       have hnc178 := NB132_125.out
       have hnb179 := NB125_133.out
       have hnc179 := NB133_125.out
       have hcz180_0 : w98.cell? ⟨gb125, 0, none⟩ = some (.int .i64 t120) := (blk_cell BK125.out 0).trans rfl
       have hcz180_1 : w98.cell? ⟨gb125, 1, none⟩ = some (.int .i64 t121) := (blk_cell BK125.out 1).trans rfl
       have hfz180_0 := blk_frozen BK125.out 0
       have hfz180_1 := blk_frozen BK125.out 1
       have hnb181 := NB132_105.out
       have hnc181 := NB105_132.out
       have hnb182 := NB132_106.out
       have hnc182 := NB106_132.out
       have hnb183 := NB132_117.out
       have hnc183 := NB117_132.out
       have hnb184 := NB132_126.out
       have hnc184 := NB126_132.out
       have hnb185 := NB132_133.out
       have hnc185 := NB133_132.out
       have hcz186_0 : w98.cell? ⟨gb132, 0, none⟩ = some (.int .i64 0) := (blk_cell BK132.out 0).trans rfl
       have hcz186_1 : w98.cell? ⟨gb132, 1, none⟩ = some (.int .i64 0) := (blk_cell BK132.out 1).trans rfl
       have hfz186_0 := blk_frozen BK132.out 0
       have hfz186_1 := blk_frozen BK132.out 1
       have hnb187 := NB126_105.out
       have hnc187 := NB105_126.out
       have hnb188 := NB126_106.out
       have hnc188 := NB106_126.out
       have hnb189 := NB126_117.out
       have hnc189 := NB117_126.out
       have hnb190 := NB126_133.out
       have hnc190 := NB133_126.out
       have hcz191_0 : w98.cell? ⟨gb126, 0, none⟩ = some (.int .i64 t122) := (blk_cell BK126.out 0).trans rfl
       have hcz191_1 : w98.cell? ⟨gb126, 1, none⟩ = some (.int .i64 t123) := (blk_cell BK126.out 1).trans rfl
       have hfz191_0 := blk_frozen BK126.out 0
       have hfz191_1 := blk_frozen BK126.out 1
       have hnb192 := NB133_105.out
       have hnc192 := NB105_133.out
       have hnb193 := NB133_106.out
       have hnc193 := NB106_133.out
       have hnb194 := NB133_117.out
       have hnc194 := NB117_133.out
       have hcz195_0 : w98.cell? ⟨gb133, 0, none⟩ = some (.int .i64 0) := (blk_cell BK133.out 0).trans rfl
       have hcz195_1 : w98.cell? ⟨gb133, 1, none⟩ = some (.int .i64 0) := (blk_cell BK133.out 1).trans rfl
       have hfz195_0 := blk_frozen BK133.out 0
       have hfz195_1 := blk_frozen BK133.out 1
       have hnb196 := NB117_105.out
       have hnc196 := NB105_117.out
       have hnb197 := NB117_106.out
       have hnc197 := NB106_117.out
       have hcz198_0 : w98.cell? ⟨gb117, 0, none⟩ = some (.int .i64 t114) := (blk_cell BK117.out 0).trans rfl
       have hcz198_1 : w98.cell? ⟨gb117, 1, none⟩ = some (.int .i64 t115) := (blk_cell BK117.out 1).trans rfl
       have hfz198_0 := blk_frozen BK117.out 0
       have hfz198_1 := blk_frozen BK117.out 1
       as_aux_lemma =>
       go_wp2_with (first | (go_at_call 24; (with_reducible refine (spec_NetOk.calls kj38 t114 t115 true _ A172.out).mono ?_); rintro e w199 ⟨rfl, hb⟩; have n0_ := zA (blk_below (g := gb105) (o := .cells #[.int .i64 t101, .int .i64 t102] 26 (0, 0)) (by refine zq ?_; refine blk_far ?_ NB105_133.out _; refine zq ?_; refine blk_far ?_ NB105_133.out _; refine zq ?_; refine blk_far ?_ NB105_132.out _; refine zq ?_; refine blk_far ?_ NB105_132.out _; refine zq ?_; exact BK105.out) hb); have n1_ := zA (blk_below (g := gb106) (o := .cells #[.int .i64 t103, .int .i64 t104] 26 (0, 0)) (by refine zq ?_; refine blk_far ?_ NB106_133.out _; refine zq ?_; refine blk_far ?_ NB106_133.out _; refine zq ?_; refine blk_far ?_ NB106_132.out _; refine zq ?_; refine blk_far ?_ NB106_132.out _; refine zq ?_; exact BK106.out) hb); have n2_ := zA (blk_below (g := gb117) (o := .cells #[.int .i64 t114, .int .i64 t115] 26 (0, 0)) (by refine zq ?_; refine blk_far ?_ NB117_133.out _; refine zq ?_; refine blk_far ?_ NB117_133.out _; refine zq ?_; refine blk_far ?_ NB117_132.out _; refine zq ?_; refine blk_far ?_ NB117_132.out _; refine zq ?_; exact BK117.out) hb); have n3_ := zA (blk_below (g := gb125) (o := .cells #[.int .i64 t120, .int .i64 t121] 26 (0, 0)) (by refine zq ?_; refine blk_far ?_ NB125_133.out _; refine zq ?_; refine blk_far ?_ NB125_133.out _; refine zq ?_; refine blk_far ?_ NB125_132.out _; refine zq ?_; refine blk_far ?_ NB125_132.out _; refine zq ?_; exact BK125.out) hb); have n4_ := zA (blk_below (g := gb126) (o := .cells #[.int .i64 t122, .int .i64 t123] 26 (0, 0)) (by refine zq ?_; refine blk_far ?_ NB126_133.out _; refine zq ?_; refine blk_far ?_ NB126_133.out _; refine zq ?_; refine blk_far ?_ NB126_132.out _; refine zq ?_; refine blk_far ?_ NB126_132.out _; refine zq ?_; exact BK126.out) hb); have n5_ := zA (blk_below (g := gb132) (o := .cells #[.int .i64 t127, .int .i64 t128] 26 (0, 0)) (by refine zq ?_; refine blk_far ?_ NB132_133.out _; refine zq ?_; refine blk_far ?_ NB132_133.out _; refine zq ?_; refine blk_put (cs := #[.int .i64 t127, .int .i64 0]) ?_ 1 _ rfl; refine zq ?_; refine blk_put (cs := #[.int .i64 0, .int .i64 0]) ?_ 0 _ rfl; refine zq ?_; exact BK132.out) hb); have n6_ := zA (blk_below (g := gb133) (o := .cells #[.int .i64 t129, .int .i64 t130] 26 (0, 0)) (by refine zq ?_; refine blk_put (cs := #[.int .i64 t129, .int .i64 0]) ?_ 1 _ rfl; refine zq ?_; refine blk_put (cs := #[.int .i64 0, .int .i64 0]) ?_ 0 _ rfl; refine zq ?_; refine blk_far ?_ NB133_132.out _; refine zq ?_; refine blk_far ?_ NB133_132.out _; refine zq ?_; exact BK133.out) hb); have n7_ := zA (below_step (zHB) hb); clear BK105; clear BK106; clear BK117; clear BK125; clear BK126; clear BK132; clear BK133; clear HB; have BK105 := n0_; have BK106 := n1_; have BK117 := n2_; have BK125 := n3_; have BK126 := n4_; have BK132 := n5_; have BK133 := n6_; have HB := n7_; clear n0_ n1_ n2_ n3_ n4_ n5_ n6_ n7_; (try clear hb); (try clear hb2); (try clear hk); (try clear hi); have hcz200_0 : w199.cell? ⟨gb117, 0, none⟩ = some (.int .i64 t114) := (blk_cell BK117.out 0).trans rfl; have hcz200_1 : w199.cell? ⟨gb117, 1, none⟩ = some (.int .i64 t115) := (blk_cell BK117.out 1).trans rfl; have hfz200_0 := blk_frozen BK117.out 0; have hfz200_1 := blk_frozen BK117.out 1))
       go_meet
       case rel => exact ⟨_, ((t124 != (decide (t115 < 16)))), y3 , H', ⟨by have := HJ2.out; have := HJ7.out; have := HJ26.out; have := HJ38.out; first | omega | exact Nat.le_refl _⟩, ⟨by refine zq ?_; exact BK105.out⟩, ⟨by refine zq ?_; exact BK106.out⟩, ⟨by refine zq ?_; exact BK117.out⟩, ⟨by refine zq ?_; exact BK125.out⟩, ⟨by refine zq ?_; exact BK126.out⟩, ⟨by refine zq ?_; exact BK132.out⟩, ⟨by refine zq ?_; exact BK133.out⟩, ⟨zHB⟩⟩
      replace c173 := Bool.eq_false_iff.mpr c173
      subst c173
      have H1 : (laws_FnNetPrefix.j5 kj38 t116 t124 (t124 != false) t114 t115 t120 t121 t122 t123) = some r := by rw [if_neg (show ¬ (false = true) by decide)] at H; exact H
      clear H
      have H := H1
      clear H1
      have H' := zA H
      clear H
      have hnb201 := NB125_105.out
      have hnc201 := NB105_125.out
      have hnb202 := NB125_106.out
      have hnc202 := NB106_125.out
      have hnb203 := NB125_117.out
      have hnc203 := NB117_125.out
      have hnb204 := NB125_126.out
      have hnc204 := NB126_125.out
      have hnb205 := NB125_132.out
      have hnc205 := NB132_125.out
      have hnb206 := NB125_133.out
      have hnc206 := NB133_125.out
      have hcz207_0 : w98.cell? ⟨gb125, 0, none⟩ = some (.int .i64 t120) := (blk_cell BK125.out 0).trans rfl
      have hcz207_1 : w98.cell? ⟨gb125, 1, none⟩ = some (.int .i64 t121) := (blk_cell BK125.out 1).trans rfl
      have hfz207_0 := blk_frozen BK125.out 0
      have hfz207_1 := blk_frozen BK125.out 1
      have hnb208 := NB132_105.out
      have hnc208 := NB105_132.out
      have hnb209 := NB132_106.out
      have hnc209 := NB106_132.out
      have hnb210 := NB132_117.out
      have hnc210 := NB117_132.out
      have hnb211 := NB132_126.out
      have hnc211 := NB126_132.out
      have hnb212 := NB132_133.out
      have hnc212 := NB133_132.out
      have hcz213_0 : w98.cell? ⟨gb132, 0, none⟩ = some (.int .i64 0) := (blk_cell BK132.out 0).trans rfl
      have hcz213_1 : w98.cell? ⟨gb132, 1, none⟩ = some (.int .i64 0) := (blk_cell BK132.out 1).trans rfl
      have hfz213_0 := blk_frozen BK132.out 0
      have hfz213_1 := blk_frozen BK132.out 1
      have hnb214 := NB126_105.out
      have hnc214 := NB105_126.out
      have hnb215 := NB126_106.out
      have hnc215 := NB106_126.out
      have hnb216 := NB126_117.out
      have hnc216 := NB117_126.out
      have hnb217 := NB126_133.out
      have hnc217 := NB133_126.out
      have hcz218_0 : w98.cell? ⟨gb126, 0, none⟩ = some (.int .i64 t122) := (blk_cell BK126.out 0).trans rfl
      have hcz218_1 : w98.cell? ⟨gb126, 1, none⟩ = some (.int .i64 t123) := (blk_cell BK126.out 1).trans rfl
      have hfz218_0 := blk_frozen BK126.out 0
      have hfz218_1 := blk_frozen BK126.out 1
      have hnb219 := NB133_105.out
      have hnc219 := NB105_133.out
      have hnb220 := NB133_106.out
      have hnc220 := NB106_133.out
      have hnb221 := NB133_117.out
      have hnc221 := NB117_133.out
      have hcz222_0 : w98.cell? ⟨gb133, 0, none⟩ = some (.int .i64 0) := (blk_cell BK133.out 0).trans rfl
      have hcz222_1 : w98.cell? ⟨gb133, 1, none⟩ = some (.int .i64 0) := (blk_cell BK133.out 1).trans rfl
      have hfz222_0 := blk_frozen BK133.out 0
      have hfz222_1 := blk_frozen BK133.out 1
      have hnb223 := NB117_105.out
      have hnc223 := NB105_117.out
      have hnb224 := NB117_106.out
      have hnc224 := NB106_117.out
      have hcz225_0 : w98.cell? ⟨gb117, 0, none⟩ = some (.int .i64 t114) := (blk_cell BK117.out 0).trans rfl
      have hcz225_1 : w98.cell? ⟨gb117, 1, none⟩ = some (.int .i64 t115) := (blk_cell BK117.out 1).trans rfl
      have hfz225_0 := blk_frozen BK117.out 0
      have hfz225_1 := blk_frozen BK117.out 1
      as_aux_lemma =>
      go_wp2_with (first | (go_at_call 24; (with_reducible refine (spec_NetOk.calls kj38 t114 t115 false _ A172.out).mono ?_); rintro e w226 ⟨rfl, hb⟩; have n0_ := zA (blk_below (g := gb105) (o := .cells #[.int .i64 t101, .int .i64 t102] 26 (0, 0)) (by refine zq ?_; refine blk_far ?_ NB105_133.out _; refine zq ?_; refine blk_far ?_ NB105_133.out _; refine zq ?_; refine blk_far ?_ NB105_132.out _; refine zq ?_; refine blk_far ?_ NB105_132.out _; refine zq ?_; exact BK105.out) hb); have n1_ := zA (blk_below (g := gb106) (o := .cells #[.int .i64 t103, .int .i64 t104] 26 (0, 0)) (by refine zq ?_; refine blk_far ?_ NB106_133.out _; refine zq ?_; refine blk_far ?_ NB106_133.out _; refine zq ?_; refine blk_far ?_ NB106_132.out _; refine zq ?_; refine blk_far ?_ NB106_132.out _; refine zq ?_; exact BK106.out) hb); have n2_ := zA (blk_below (g := gb117) (o := .cells #[.int .i64 t114, .int .i64 t115] 26 (0, 0)) (by refine zq ?_; refine blk_far ?_ NB117_133.out _; refine zq ?_; refine blk_far ?_ NB117_133.out _; refine zq ?_; refine blk_far ?_ NB117_132.out _; refine zq ?_; refine blk_far ?_ NB117_132.out _; refine zq ?_; exact BK117.out) hb); have n3_ := zA (blk_below (g := gb125) (o := .cells #[.int .i64 t120, .int .i64 t121] 26 (0, 0)) (by refine zq ?_; refine blk_far ?_ NB125_133.out _; refine zq ?_; refine blk_far ?_ NB125_133.out _; refine zq ?_; refine blk_far ?_ NB125_132.out _; refine zq ?_; refine blk_far ?_ NB125_132.out _; refine zq ?_; exact BK125.out) hb); have n4_ := zA (blk_below (g := gb126) (o := .cells #[.int .i64 t122, .int .i64 t123] 26 (0, 0)) (by refine zq ?_; refine blk_far ?_ NB126_133.out _; refine zq ?_; refine blk_far ?_ NB126_133.out _; refine zq ?_; refine blk_far ?_ NB126_132.out _; refine zq ?_; refine blk_far ?_ NB126_132.out _; refine zq ?_; exact BK126.out) hb); have n5_ := zA (blk_below (g := gb132) (o := .cells #[.int .i64 t127, .int .i64 t128] 26 (0, 0)) (by refine zq ?_; refine blk_far ?_ NB132_133.out _; refine zq ?_; refine blk_far ?_ NB132_133.out _; refine zq ?_; refine blk_put (cs := #[.int .i64 t127, .int .i64 0]) ?_ 1 _ rfl; refine zq ?_; refine blk_put (cs := #[.int .i64 0, .int .i64 0]) ?_ 0 _ rfl; refine zq ?_; exact BK132.out) hb); have n6_ := zA (blk_below (g := gb133) (o := .cells #[.int .i64 t129, .int .i64 t130] 26 (0, 0)) (by refine zq ?_; refine blk_put (cs := #[.int .i64 t129, .int .i64 0]) ?_ 1 _ rfl; refine zq ?_; refine blk_put (cs := #[.int .i64 0, .int .i64 0]) ?_ 0 _ rfl; refine zq ?_; refine blk_far ?_ NB133_132.out _; refine zq ?_; refine blk_far ?_ NB133_132.out _; refine zq ?_; exact BK133.out) hb); have n7_ := zA (below_step (zHB) hb); clear BK105; clear BK106; clear BK117; clear BK125; clear BK126; clear BK132; clear BK133; clear HB; have BK105 := n0_; have BK106 := n1_; have BK117 := n2_; have BK125 := n3_; have BK126 := n4_; have BK132 := n5_; have BK133 := n6_; have HB := n7_; clear n0_ n1_ n2_ n3_ n4_ n5_ n6_ n7_; (try clear hb); (try clear hb2); (try clear hk); (try clear hi)))
      go_meet
      case rel => exact ⟨_, ((t124 != false)), y3 , H', ⟨by have := HJ2.out; have := HJ7.out; have := HJ26.out; have := HJ38.out; first | omega | exact Nat.le_refl _⟩, ⟨by refine zq ?_; exact BK105.out⟩, ⟨by refine zq ?_; exact BK106.out⟩, ⟨by refine zq ?_; exact BK117.out⟩, ⟨by refine zq ?_; exact BK125.out⟩, ⟨by refine zq ?_; exact BK126.out⟩, ⟨by refine zq ?_; exact BK132.out⟩, ⟨by refine zq ?_; exact BK133.out⟩, ⟨zHB⟩⟩
     case rest =>
      clear HC72
      try clear c1
      try clear c2
      try clear p2
      try clear c3
      try clear c5
      try clear c6
      try clear c7
      try clear c8
      try clear c9
      try clear c10
      try clear c11
      try clear c12
      try clear c13
      try clear c14
      try clear c15
      try clear c16
      try clear c17
      try clear c18
      try clear c19
      try clear c20
      try clear c21
      try clear c22
      try clear c33
      try clear c34
      try clear c37
      try clear c38
      try clear c55
      try clear c60
      try clear c60b0
      try clear c60b1
      try clear c60b2
      try clear c75
      try clear c76
      try clear c86
      try clear c87
      try clear c88
      try clear c89
      try clear c91
      try clear c92
      try clear c93
      try clear c99
      try clear c100
      try clear c101
      try clear c102
      try clear c103
      try clear c104
      try clear c106
      try clear c107
      try clear c108
      try clear c109
      try clear c110
      try clear c112
      try clear c112b0
      try clear c113
      try clear c114
      try clear c115
      try clear c116
      try clear c117
      try clear c118
      try clear c120
      try clear c121
      try clear c122
      try clear c123
      try clear c124
      try clear c126
      try clear c126b0
      try clear c127
      try clear c128
      try clear c129
      try clear c130
      try clear c131
      try clear c132
      try clear c134
      try clear c135
      try clear c136
      try clear c137
      try clear c138
      try clear c140
      try clear c141
      try clear c142
      try clear c143
      try clear c145
      try clear c146
      try clear c147
      try clear c149
      try clear c149b0
      try clear c149b1
      try clear c149b2
      try clear c150
      try clear c151
      try clear c152
      try clear c153
      try clear c154
      try clear c155
      try clear c157
      try clear c158
      try clear c159
      try clear c160
      try clear c161
      try clear c163
      try clear c164
      try clear c165
      try clear c166
      try clear c168
      try clear c169
      try clear c170
      try clear c173
      try clear c174
      try clear c175
      try clear c176
      try clear c177
      try clear c178
      try clear c179
      try clear c181
      try clear c182
      try clear c183
      try clear c184
      try clear c185
      try clear c187
      try clear c188
      try clear c189
      try clear c190
      try clear c192
      try clear c193
      try clear c194
      try clear c196
      try clear c197
      try clear c201
      try clear c202
      try clear c203
      try clear c204
      try clear c205
      try clear c206
      try clear c208
      try clear c209
      try clear c210
      try clear c211
      try clear c212
      try clear c214
      try clear c215
      try clear c216
      try clear c217
      try clear c219
      try clear c220
      try clear c221
      try clear c223
      try clear c224
      try clear hcz105_0
      try clear hcz105_1
      try clear hcz111_0
      try clear hcz111_1
      try clear hcz119_0
      try clear hcz119_1
      try clear hcz125_0
      try clear hcz125_1
      try clear hcz133_0
      try clear hcz133_1
      try clear hcz139_0
      try clear hcz139_1
      try clear hcz144_0
      try clear hcz144_1
      try clear hcz148_0
      try clear hcz148_1
      try clear hcz156_0
      try clear hcz156_1
      try clear hcz162_0
      try clear hcz162_1
      try clear hcz167_0
      try clear hcz167_1
      try clear hcz171_0
      try clear hcz171_1
      try clear hcz180_0
      try clear hcz180_1
      try clear hcz186_0
      try clear hcz186_1
      try clear hcz191_0
      try clear hcz191_1
      try clear hcz195_0
      try clear hcz195_1
      try clear hcz198_0
      try clear hcz198_1
      try clear hcz200_0
      try clear hcz200_1
      try clear hcz207_0
      try clear hcz207_1
      try clear hcz213_0
      try clear hcz213_1
      try clear hcz218_0
      try clear hcz218_1
      try clear hcz222_0
      try clear hcz222_1
      try clear hcz225_0
      try clear hcz225_1
      try clear hcz77_0
      try clear hcz77_1
      try clear hcz82_0
      try clear hcz82_1
      try clear hcz90_0
      try clear hcz90_1
      try clear hcz94_0
      try clear hcz94_1
      try clear hcz95_0
      try clear hcz95_1
      try clear hfz105_0
      try clear hfz105_1
      try clear hfz111_0
      try clear hfz111_1
      try clear hfz119_0
      try clear hfz119_1
      try clear hfz125_0
      try clear hfz125_1
      try clear hfz133_0
      try clear hfz133_1
      try clear hfz139_0
      try clear hfz139_1
      try clear hfz144_0
      try clear hfz144_1
      try clear hfz148_0
      try clear hfz148_1
      try clear hfz156_0
      try clear hfz156_1
      try clear hfz162_0
      try clear hfz162_1
      try clear hfz167_0
      try clear hfz167_1
      try clear hfz171_0
      try clear hfz171_1
      try clear hfz180_0
      try clear hfz180_1
      try clear hfz186_0
      try clear hfz186_1
      try clear hfz191_0
      try clear hfz191_1
      try clear hfz195_0
      try clear hfz195_1
      try clear hfz198_0
      try clear hfz198_1
      try clear hfz200_0
      try clear hfz200_1
      try clear hfz207_0
      try clear hfz207_1
      try clear hfz213_0
      try clear hfz213_1
      try clear hfz218_0
      try clear hfz218_1
      try clear hfz222_0
      try clear hfz222_1
      try clear hfz225_0
      try clear hfz225_1
      try clear hfz77_0
      try clear hfz77_1
      try clear hfz82_0
      try clear hfz82_1
      try clear hfz90_0
      try clear hfz90_1
      try clear hfz94_0
      try clear hfz94_1
      try clear hfz95_0
      try clear hfz95_1
      obtain ⟨kq, x121_71, rfl, HA, HJ71, BK105, BK106, BK117, BK125, BK126, BK132, BK133, HB⟩ := hcut
      cases kq with
      | zero => exact absurd HA.out (by simp [laws_FnNetPrefix.j5])
      | succ kj71 => ?_
      have H := HA.out
      clear HA
      simp only [laws_FnNetPrefix.j5] at H
      by_cases c227 : x121_71 = true
      ·as_aux_lemma =>
       subst c227
       have H1 : (some false) = some r := by rw [if_pos rfl] at H; exact H
       clear H
       have H := H1
       clear H1
       obtain rfl := Option.some.inj H
       go_wp2
       go_ret
       exact ⟨by first | rfl | (simp [errW_none, errW_some] <;> rfl) | (simp [*, errW_none, errW_some] <;> rfl), zHB⟩
      replace c227 := Bool.eq_false_iff.mpr c227
      subst c227
      have H1 : (if t124 = true then ((impl_NetIn.f t120 t121 t114 t115).bind fun t135 => (if t135 = true then ((impl_NetIn.f t122 t123 t114 t115).bind fun t136 => (if t136 = true then ((impl_NetIn.f t120 t121 t122 t123).bind fun t137 => (if t137 = true then (some false) else ((impl_NetIn.f t122 t123 t120 t121).bind fun t138 => (if t138 = true then (some false) else ((impl_NetHas.f t114 t115 t116).bind fun t139 => ((impl_NetHas.f t120 t121 t116).bind fun t140 => (if t140 = true then (some (t139 == true)) else ((impl_NetHas.f t122 t123 t116).bind fun t141 => (some (t139 == t141)))))))))) else (some false))) else (some false))) else (some true)) = some r := by rw [if_neg (show ¬ (false = true) by decide)] at H; exact H
      clear H
      have H := H1
      clear H1
      by_cases c228 : t124 = true
      ·as_aux_lemma =>
       subst c228
       have H1 : ((impl_NetIn.f t120 t121 t114 t115).bind fun t135 => (if t135 = true then ((impl_NetIn.f t122 t123 t114 t115).bind fun t136 => (if t136 = true then ((impl_NetIn.f t120 t121 t122 t123).bind fun t137 => (if t137 = true then (some false) else ((impl_NetIn.f t122 t123 t120 t121).bind fun t138 => (if t138 = true then (some false) else ((impl_NetHas.f t114 t115 t116).bind fun t139 => ((impl_NetHas.f t120 t121 t116).bind fun t140 => (if t140 = true then (some (t139 == true)) else ((impl_NetHas.f t122 t123 t116).bind fun t141 => (some (t139 == t141)))))))))) else (some false))) else (some false))) = some r := by rw [if_pos rfl] at H; exact H
       clear H
       have H := H1
       clear H1
       replace H := Option.bind_eq_some_iff.mp H
       obtain ⟨t135, A2290, H⟩ := H
       replace H : (if t135 = true then ((impl_NetIn.f t122 t123 t114 t115).bind fun t136 => (if t136 = true then ((impl_NetIn.f t120 t121 t122 t123).bind fun t137 => (if t137 = true then (some false) else ((impl_NetIn.f t122 t123 t120 t121).bind fun t138 => (if t138 = true then (some false) else ((impl_NetHas.f t114 t115 t116).bind fun t139 => ((impl_NetHas.f t120 t121 t116).bind fun t140 => (if t140 = true then (some (t139 == true)) else ((impl_NetHas.f t122 t123 t116).bind fun t141 => (some (t139 == t141)))))))))) else (some false))) else (some false)) = some r := H
       have A229 := zA A2290
       clear A2290
       by_cases c230 : t135 = true
       ·as_aux_lemma =>
        subst c230
        have H1 : ((impl_NetIn.f t122 t123 t114 t115).bind fun t136 => (if t136 = true then ((impl_NetIn.f t120 t121 t122 t123).bind fun t137 => (if t137 = true then (some false) else ((impl_NetIn.f t122 t123 t120 t121).bind fun t138 => (if t138 = true then (some false) else ((impl_NetHas.f t114 t115 t116).bind fun t139 => ((impl_NetHas.f t120 t121 t116).bind fun t140 => (if t140 = true then (some (t139 == true)) else ((impl_NetHas.f t122 t123 t116).bind fun t141 => (some (t139 == t141)))))))))) else (some false))) = some r := by rw [if_pos rfl] at H; exact H
        clear H
        have H := H1
        clear H1
        replace H := Option.bind_eq_some_iff.mp H
        obtain ⟨t136, A2310, H⟩ := H
        replace H : (if t136 = true then ((impl_NetIn.f t120 t121 t122 t123).bind fun t137 => (if t137 = true then (some false) else ((impl_NetIn.f t122 t123 t120 t121).bind fun t138 => (if t138 = true then (some false) else ((impl_NetHas.f t114 t115 t116).bind fun t139 => ((impl_NetHas.f t120 t121 t116).bind fun t140 => (if t140 = true then (some (t139 == true)) else ((impl_NetHas.f t122 t123 t116).bind fun t141 => (some (t139 == t141)))))))))) else (some false)) = some r := H
        have A231 := zA A2310
        clear A2310
        by_cases c232 : t136 = true
        ·as_aux_lemma =>
         subst c232
         have H1 : ((impl_NetIn.f t120 t121 t122 t123).bind fun t137 => (if t137 = true then (some false) else ((impl_NetIn.f t122 t123 t120 t121).bind fun t138 => (if t138 = true then (some false) else ((impl_NetHas.f t114 t115 t116).bind fun t139 => ((impl_NetHas.f t120 t121 t116).bind fun t140 => (if t140 = true then (some (t139 == true)) else ((impl_NetHas.f t122 t123 t116).bind fun t141 => (some (t139 == t141)))))))))) = some r := by rw [if_pos rfl] at H; exact H
         clear H
         have H := H1
         clear H1
         replace H := Option.bind_eq_some_iff.mp H
         obtain ⟨t137, A2330, H⟩ := H
         replace H : (if t137 = true then (some false) else ((impl_NetIn.f t122 t123 t120 t121).bind fun t138 => (if t138 = true then (some false) else ((impl_NetHas.f t114 t115 t116).bind fun t139 => ((impl_NetHas.f t120 t121 t116).bind fun t140 => (if t140 = true then (some (t139 == true)) else ((impl_NetHas.f t122 t123 t116).bind fun t141 => (some (t139 == t141))))))))) = some r := H
         have A233 := zA A2330
         clear A2330
         by_cases c234 : t137 = true
         ·as_aux_lemma =>
          subst c234
          have H1 : (some false) = some r := by rw [if_pos rfl] at H; exact H
          clear H
          have H := H1
          clear H1
          obtain rfl := Option.some.inj H
          try go_wp2
          have n0_ := zA (blk_drew BK105.out)
          have n1_ := zA (blk_drew BK106.out)
          have n2_ := zA (blk_drew BK117.out)
          have n3_ := zA (blk_drew BK125.out)
          have n4_ := zA (blk_drew BK126.out)
          have n5_ := zA (blk_drew BK132.out)
          have n6_ := zA (blk_drew BK133.out)
          have n7_ := zA (below_drew1 HB.out)
          clear BK105
          clear BK106
          clear BK117
          clear BK125
          clear BK126
          clear BK132
          clear BK133
          clear HB
          have BK105 := n0_
          have BK106 := n1_
          have BK117 := n2_
          have BK125 := n3_
          have BK126 := n4_
          have BK132 := n5_
          have BK133 := n6_
          have HB := n7_
          clear n0_ n1_ n2_ n3_ n4_ n5_ n6_ n7_
          refine start_ (n := 39) (S := fun w' => w'.cell? ⟨gb125, 0, none⟩ = some (.int .i64 t120) ∧ w'.cell? ⟨gb125, 1, none⟩ = some (.int .i64 t121) ∧ w'.cell? ⟨gb117, 0, none⟩ = some (.int .i64 t114) ∧ w'.cell? ⟨gb117, 1, none⟩ = some (.int .i64 t115) ∧ w'.cell? ⟨gb126, 0, none⟩ = some (.int .i64 t122) ∧ w'.cell? ⟨gb126, 1, none⟩ = some (.int .i64 t123)) (ds := []) (zl 39 0) (by kernel_rfl) rfl rfl ⟨(blk_cell BK125.out 0).trans rfl, (blk_cell BK125.out 1).trans rfl, (blk_cell BK117.out 0).trans rfl, (blk_cell BK117.out 1).trans rfl, (blk_cell BK126.out 0).trans rfl, (blk_cell BK126.out 1).trans rfl⟩ (fun hHeld => ?_); refine with_tabW laws_FnNetPrefix.tab22 laws_FnNetPrefix.bits22 (fun HT_ HW_ => ?_)
          generalize wc.drew = w235 at BK105 BK106 BK117 BK125 BK126 BK132 BK133 HB hHeld ⊢
          refine pure_ (i := 0) (N := some 122) (v := ?_) (a' := ?_) (zl 39 1) rfl rfl (any_of HT_.out (by kernel_rfl)) (fun _ _ _ h => h) (Or.inl ⟨by rfl, ?_⟩) ?_ ?_
          rotate_left
          ·intro w'
           go_simp
           with_reducible rfl
          rotate_left
          ·simp only [Act.put, u]
           rfl
          refine pure_ (i := 1) (N := some 123) (v := ?_) (a' := ?_) (zl 39 3) rfl rfl (any_of HT_.out (by kernel_rfl)) (fun _ _ _ h => h) (Or.inl ⟨by rfl, ?_⟩) ?_ ?_
          rotate_left
          ·intro w'
           go_simp
           with_reducible rfl
          rotate_left
          ·simp only [Act.put, u]
           rfl
          refine pure_ (i := 2) (N := some 124) (v := ?_) (a' := ?_) (zl 39 7) rfl rfl (any_of HT_.out (by kernel_rfl)) (fun _ _ _ h => h) (Or.inl ⟨by rfl, ?_⟩) ?_ ?_
          rotate_left
          ·intro w'
           go_simp
           with_reducible rfl
          rotate_left
          ·simp only [Act.put, u]
           rfl
          refine take_ (i := 3) (N := some 125) (v := ?_) (a' := ?_) (zl 39 15) rfl rfl (take_ofW HT_.out HW_.out (by kernel_rfl)) (fun _ _ _ h => h) (Or.inl ⟨by rfl, ?_⟩) hHeld ?_ ?_
          rotate_left
          ·rintro w' ⟨s0, s1, s2, s3, s4, s5⟩
           go_simp
           with_reducible rfl
          rotate_left
          ·simp only [Act.put, u]
           rfl
          refine take_ (i := 4) (N := some 126) (v := ?_) (a' := ?_) (zl 39 31) rfl rfl (take_ofW HT_.out HW_.out (by kernel_rfl)) (fun _ _ _ h => h) (Or.inl ⟨by rfl, ?_⟩) hHeld ?_ ?_
          rotate_left
          ·rintro w' ⟨s0, s1, s2, s3, s4, s5⟩
           go_simp
           with_reducible rfl
          rotate_left
          ·simp only [Act.put, u]
           rfl
          refine one_ (i := 5) (N := some 127) (zl 39 63) rfl rfl (one_of HT_.out (by kernel_rfl)) (by decide) (fun K hK => ?_)
          refine goes_ Try.func36 (by kernel_rfl) rfl #[.agg #[.int .i64 t120, .int .i64 t121], .agg #[.int .i64 t114, .int .i64 t115]] (by rfl) rfl rfl y1  ?_
          with_reducible refine (impl_NetIn.calls t120 t121 t114 t115 true _ A229.out).mono ?_
          rintro e w236 ⟨rfl, hb⟩
          refine ⟨_, rfl, ?_⟩
          have n0_ := zA (blk_below (g := gb105) (o := .cells #[.int .i64 t101, .int .i64 t102] 26 (0, 0)) (zb BK105.out) hb)
          have n1_ := zA (blk_below (g := gb106) (o := .cells #[.int .i64 t103, .int .i64 t104] 26 (0, 0)) (zb BK106.out) hb)
          have n2_ := zA (blk_below (g := gb117) (o := .cells #[.int .i64 t114, .int .i64 t115] 26 (0, 0)) (zb BK117.out) hb)
          have n3_ := zA (blk_below (g := gb125) (o := .cells #[.int .i64 t120, .int .i64 t121] 26 (0, 0)) (zb BK125.out) hb)
          have n4_ := zA (blk_below (g := gb126) (o := .cells #[.int .i64 t122, .int .i64 t123] 26 (0, 0)) (zb BK126.out) hb)
          have n5_ := zA (blk_below (g := gb132) (o := .cells #[.int .i64 t127, .int .i64 t128] 26 (0, 0)) (zb BK132.out) hb)
          have n6_ := zA (blk_below (g := gb133) (o := .cells #[.int .i64 t129, .int .i64 t130] 26 (0, 0)) (zb BK133.out) hb)
          have n7_ := zA (below_step (zHB) hb)
          clear BK105
          clear BK106
          clear BK117
          clear BK125
          clear BK126
          clear BK132
          clear BK133
          clear HB
          have BK105 := n0_
          have BK106 := n1_
          have BK117 := n2_
          have BK125 := n3_
          have BK126 := n4_
          have BK132 := n5_
          have BK133 := n6_
          have HB := n7_
          clear n0_ n1_ n2_ n3_ n4_ n5_ n6_ n7_
          (try clear hb)
          (try clear hb2)
          (try clear hk)
          (try clear hi)
          refine hK.out _ _ ⟨(blk_cell BK125.out 0).trans rfl, (blk_cell BK125.out 1).trans rfl, (blk_cell BK117.out 0).trans rfl, (blk_cell BK117.out 1).trans rfl, (blk_cell BK126.out 0).trans rfl, (blk_cell BK126.out 1).trans rfl⟩ (fun hHeld => ?_)
          clear hK K
          refine norm_ (a' := ?_) ?_ ?_
          rotate_left
          ·show Act.put _ (some 127) _ = _
           simp only [Act.put, u]
           rfl
          refine pure_ (i := 6) (N := some 128) (v := ?_) (a' := ?_) (zl 39 127) rfl rfl (any_of HT_.out (by kernel_rfl)) (fun _ _ _ h => h) (Or.inl ⟨by rfl, ?_⟩) ?_ ?_
          rotate_left
          ·intro w'
           go_simp
           with_reducible rfl
          rotate_left
          ·simp only [Act.put, u]
           rfl
          refine take_ (i := 7) (N := some 129) (v := ?_) (a' := ?_) (zl 39 255) rfl rfl (take_ofW HT_.out HW_.out (by kernel_rfl)) (fun _ _ _ h => h) (Or.inl ⟨by rfl, ?_⟩) hHeld ?_ ?_
          rotate_left
          ·rintro w' ⟨s0, s1, s2, s3, s4, s5⟩
           go_simp
           with_reducible rfl
          rotate_left
          ·simp only [Act.put, u]
           rfl
          refine take_ (i := 8) (N := some 130) (v := ?_) (a' := ?_) (zl 39 511) rfl rfl (take_ofW HT_.out HW_.out (by kernel_rfl)) (fun _ _ _ h => h) (Or.inl ⟨by rfl, ?_⟩) hHeld ?_ ?_
          rotate_left
          ·rintro w' ⟨s0, s1, s2, s3, s4, s5⟩
           go_simp
           with_reducible rfl
          rotate_left
          ·simp only [Act.put, u]
           rfl
          refine one_ (i := 9) (N := some 131) (zl 39 1023) rfl rfl (one_of HT_.out (by kernel_rfl)) (by decide) (fun K hK => ?_)
          refine goes_ Try.func36 (by kernel_rfl) rfl #[.agg #[.int .i64 t122, .int .i64 t123], .agg #[.int .i64 t114, .int .i64 t115]] (by rfl) rfl rfl y1  ?_
          with_reducible refine (impl_NetIn.calls t122 t123 t114 t115 true _ A231.out).mono ?_
          rintro e w237 ⟨rfl, hb⟩
          refine ⟨_, rfl, ?_⟩
          have n0_ := zA (blk_below (g := gb105) (o := .cells #[.int .i64 t101, .int .i64 t102] 26 (0, 0)) (zb BK105.out) hb)
          have n1_ := zA (blk_below (g := gb106) (o := .cells #[.int .i64 t103, .int .i64 t104] 26 (0, 0)) (zb BK106.out) hb)
          have n2_ := zA (blk_below (g := gb117) (o := .cells #[.int .i64 t114, .int .i64 t115] 26 (0, 0)) (zb BK117.out) hb)
          have n3_ := zA (blk_below (g := gb125) (o := .cells #[.int .i64 t120, .int .i64 t121] 26 (0, 0)) (zb BK125.out) hb)
          have n4_ := zA (blk_below (g := gb126) (o := .cells #[.int .i64 t122, .int .i64 t123] 26 (0, 0)) (zb BK126.out) hb)
          have n5_ := zA (blk_below (g := gb132) (o := .cells #[.int .i64 t127, .int .i64 t128] 26 (0, 0)) (zb BK132.out) hb)
          have n6_ := zA (blk_below (g := gb133) (o := .cells #[.int .i64 t129, .int .i64 t130] 26 (0, 0)) (zb BK133.out) hb)
          have n7_ := zA (below_step (zHB) hb)
          clear BK105
          clear BK106
          clear BK117
          clear BK125
          clear BK126
          clear BK132
          clear BK133
          clear HB
          have BK105 := n0_
          have BK106 := n1_
          have BK117 := n2_
          have BK125 := n3_
          have BK126 := n4_
          have BK132 := n5_
          have BK133 := n6_
          have HB := n7_
          clear n0_ n1_ n2_ n3_ n4_ n5_ n6_ n7_
          (try clear hb)
          (try clear hb2)
          (try clear hk)
          (try clear hi)
          refine hK.out _ _ ⟨(blk_cell BK125.out 0).trans rfl, (blk_cell BK125.out 1).trans rfl, (blk_cell BK117.out 0).trans rfl, (blk_cell BK117.out 1).trans rfl, (blk_cell BK126.out 0).trans rfl, (blk_cell BK126.out 1).trans rfl⟩ (fun hHeld => ?_)
          clear hK K
          refine norm_ (a' := ?_) ?_ ?_
          rotate_left
          ·show Act.put _ (some 131) _ = _
           simp only [Act.put, u]
           rfl
          refine pure_ (i := 10) (N := some 132) (v := ?_) (a' := ?_) (zl 39 2047) rfl rfl (any_of HT_.out (by kernel_rfl)) (fun _ _ _ h => h) (Or.inl ⟨by rfl, ?_⟩) ?_ ?_
          rotate_left
          ·intro w'
           go_simp
           with_reducible rfl
          rotate_left
          ·simp only [Act.put, u]
           rfl
          refine pure_ (i := 11) (N := some 133) (v := ?_) (a' := ?_) (zl 39 4095) rfl rfl (any_of HT_.out (by kernel_rfl)) (fun _ _ _ h => h) (Or.inl ⟨by rfl, ?_⟩) ?_ ?_
          rotate_left
          ·intro w'
           go_simp
           with_reducible rfl
          rotate_left
          ·simp only [Act.put, u]
           rfl
          refine take_ (i := 12) (N := some 134) (v := ?_) (a' := ?_) (zl 39 8191) rfl rfl (take_ofW HT_.out HW_.out (by kernel_rfl)) (fun _ _ _ h => h) (Or.inl ⟨by rfl, ?_⟩) hHeld ?_ ?_
          rotate_left
          ·rintro w' ⟨s0, s1, s2, s3, s4, s5⟩
           go_simp
           with_reducible rfl
          rotate_left
          ·simp only [Act.put, u]
           rfl
          refine take_ (i := 13) (N := some 135) (v := ?_) (a' := ?_) (zl 39 16383) rfl rfl (take_ofW HT_.out HW_.out (by kernel_rfl)) (fun _ _ _ h => h) (Or.inl ⟨by rfl, ?_⟩) hHeld ?_ ?_
          rotate_left
          ·rintro w' ⟨s0, s1, s2, s3, s4, s5⟩
           go_simp
           with_reducible rfl
          rotate_left
          ·simp only [Act.put, u]
           rfl
          refine one_ (i := 14) (N := some 136) (zl 39 32767) rfl rfl (one_of HT_.out (by kernel_rfl)) (by decide) (fun K hK => ?_)
          refine goes_ Try.func36 (by kernel_rfl) rfl #[.agg #[.int .i64 t120, .int .i64 t121], .agg #[.int .i64 t122, .int .i64 t123]] (by rfl) rfl rfl y1  ?_
          with_reducible refine (impl_NetIn.calls t120 t121 t122 t123 true _ A233.out).mono ?_
          rintro e w238 ⟨rfl, hb⟩
          refine ⟨_, rfl, ?_⟩
          have n0_ := zA (blk_below (g := gb105) (o := .cells #[.int .i64 t101, .int .i64 t102] 26 (0, 0)) (zb BK105.out) hb)
          have n1_ := zA (blk_below (g := gb106) (o := .cells #[.int .i64 t103, .int .i64 t104] 26 (0, 0)) (zb BK106.out) hb)
          have n2_ := zA (blk_below (g := gb117) (o := .cells #[.int .i64 t114, .int .i64 t115] 26 (0, 0)) (zb BK117.out) hb)
          have n3_ := zA (blk_below (g := gb125) (o := .cells #[.int .i64 t120, .int .i64 t121] 26 (0, 0)) (zb BK125.out) hb)
          have n4_ := zA (blk_below (g := gb126) (o := .cells #[.int .i64 t122, .int .i64 t123] 26 (0, 0)) (zb BK126.out) hb)
          have n5_ := zA (blk_below (g := gb132) (o := .cells #[.int .i64 t127, .int .i64 t128] 26 (0, 0)) (zb BK132.out) hb)
          have n6_ := zA (blk_below (g := gb133) (o := .cells #[.int .i64 t129, .int .i64 t130] 26 (0, 0)) (zb BK133.out) hb)
          have n7_ := zA (below_step (zHB) hb)
          clear BK105
          clear BK106
          clear BK117
          clear BK125
          clear BK126
          clear BK132
          clear BK133
          clear HB
          have BK105 := n0_
          have BK106 := n1_
          have BK117 := n2_
          have BK125 := n3_
          have BK126 := n4_
          have BK132 := n5_
          have BK133 := n6_
          have HB := n7_
          clear n0_ n1_ n2_ n3_ n4_ n5_ n6_ n7_
          (try clear hb)
          (try clear hb2)
          (try clear hk)
          (try clear hi)
          refine hK.out _ _ ⟨(blk_cell BK125.out 0).trans rfl, (blk_cell BK125.out 1).trans rfl, (blk_cell BK117.out 0).trans rfl, (blk_cell BK117.out 1).trans rfl, (blk_cell BK126.out 0).trans rfl, (blk_cell BK126.out 1).trans rfl⟩ (fun hHeld => ?_)
          clear hK K
          refine norm_ (a' := ?_) ?_ ?_
          rotate_left
          ·show Act.put _ (some 136) _ = _
           simp only [Act.put, u]
           rfl
          refine pure_ (i := 15) (N := some 137) (v := ?_) (a' := ?_) (zl 39 65535) rfl rfl (any_of HT_.out (by kernel_rfl)) (fun _ _ _ h => h) (Or.inl ⟨by rfl, ?_⟩) ?_ ?_
          rotate_left
          ·intro w'
           go_simp
           with_reducible rfl
          rotate_left
          ·simp only [Act.put, u]
           rfl
          refine pure_ (i := 16) (N := some 138) (v := ?_) (a' := ?_) (zl 39 131071) rfl rfl (any_of HT_.out (by kernel_rfl)) (fun _ _ _ h => h) (Or.inl ⟨by rfl, ?_⟩) ?_ ?_
          rotate_left
          ·intro w'
           go_simp
           with_reducible rfl
          rotate_left
          ·simp only [Act.put, u]
           rfl
          refine pure_ (i := 17) (N := some 139) (v := ?_) (a' := ?_) (zl 39 262143) rfl rfl (any_of HT_.out (by kernel_rfl)) (fun _ _ _ h => h) (Or.inl ⟨by rfl, ?_⟩) ?_ ?_
          rotate_left
          ·intro w'
           go_simp
           with_reducible rfl
          rotate_left
          ·simp only [Act.put, u]
           rfl
          refine pure_ (i := 18) (N := some 140) (v := undef) (a' := ?_) (zl 39 524287) rfl rfl (any_of HT_.out (by kernel_rfl)) (fun _ _ _ h => h) (Or.inr ⟨by rfl, rfl⟩) ?_ ?_
          rotate_left
          ·simp only [Act.put, u]
           rfl
          refine pure_ (i := 19) (N := some 141) (v := undef) (a' := ?_) (zl 39 1048575) rfl rfl (any_of HT_.out (by kernel_rfl)) (fun _ _ _ h => h) (Or.inr ⟨by rfl, rfl⟩) ?_ ?_
          rotate_left
          ·simp only [Act.put, u]
           rfl
          refine pure_ (i := 20) (N := some 142) (v := undef) (a' := ?_) (zl 39 2097151) rfl rfl (any_of HT_.out (by kernel_rfl)) (fun _ _ _ h => h) (Or.inr ⟨by rfl, rfl⟩) ?_ ?_
          rotate_left
          ·simp only [Act.put, u]
           rfl
          refine pure_ (i := 21) (N := some 143) (v := undef) (a' := ?_) (zl 39 4194303) rfl rfl (any_of HT_.out (by kernel_rfl)) (fun _ _ _ h => h) (Or.inr ⟨by rfl, rfl⟩) ?_ ?_
          rotate_left
          ·simp only [Act.put, u]
           rfl
          refine pure_ (i := 22) (N := some 144) (v := ?_) (a' := ?_) (zl 39 8388607) rfl rfl (any_of HT_.out (by kernel_rfl)) (fun _ _ _ h => h) (Or.inl ⟨by rfl, ?_⟩) ?_ ?_
          rotate_left
          ·intro w'
           go_simp
           with_reducible rfl
          rotate_left
          ·simp only [Act.put, u]
           rfl
          refine pure_ (i := 23) (N := some 145) (v := ?_) (a' := ?_) (zl 39 16777215) rfl rfl (any_of HT_.out (by kernel_rfl)) (fun _ _ _ h => h) (Or.inl ⟨by rfl, ?_⟩) ?_ ?_
          rotate_left
          ·intro w'
           go_simp
           with_reducible rfl
          rotate_left
          ·simp only [Act.put, u]
           rfl
          refine pure_ (i := 24) (N := some 146) (v := undef) (a' := ?_) (zl 39 33554431) rfl rfl (any_of HT_.out (by kernel_rfl)) (fun _ _ _ h => h) (Or.inr ⟨by rfl, rfl⟩) ?_ ?_
          rotate_left
          ·simp only [Act.put, u]
           rfl
          refine pure_ (i := 25) (N := some 147) (v := undef) (a' := ?_) (zl 39 67108863) rfl rfl (any_of HT_.out (by kernel_rfl)) (fun _ _ _ h => h) (Or.inr ⟨by rfl, rfl⟩) ?_ ?_
          rotate_left
          ·simp only [Act.put, u]
           rfl
          refine pure_ (i := 26) (N := some 148) (v := undef) (a' := ?_) (zl 39 134217727) rfl rfl (any_of HT_.out (by kernel_rfl)) (fun _ _ _ h => h) (Or.inr ⟨by rfl, rfl⟩) ?_ ?_
          rotate_left
          ·simp only [Act.put, u]
           rfl
          refine pure_ (i := 27) (N := some 149) (v := undef) (a' := ?_) (zl 39 268435455) rfl rfl (any_of HT_.out (by kernel_rfl)) (fun _ _ _ h => h) (Or.inr ⟨by rfl, rfl⟩) ?_ ?_
          rotate_left
          ·simp only [Act.put, u]
           rfl
          refine pure_ (i := 28) (N := some 150) (v := undef) (a' := ?_) (zl 39 536870911) rfl rfl (any_of HT_.out (by kernel_rfl)) (fun _ _ _ h => h) (Or.inr ⟨by rfl, rfl⟩) ?_ ?_
          rotate_left
          ·simp only [Act.put, u]
           rfl
          refine pure_ (i := 29) (N := some 151) (v := undef) (a' := ?_) (zl 39 1073741823) rfl rfl (any_of HT_.out (by kernel_rfl)) (fun _ _ _ h => h) (Or.inr ⟨by rfl, rfl⟩) ?_ ?_
          rotate_left
          ·simp only [Act.put, u]
           rfl
          refine pure_ (i := 30) (N := some 152) (v := undef) (a' := ?_) (zl 39 2147483647) rfl rfl (any_of HT_.out (by kernel_rfl)) (fun _ _ _ h => h) (Or.inr ⟨by rfl, rfl⟩) ?_ ?_
          rotate_left
          ·simp only [Act.put, u]
           rfl
          refine pure_ (i := 31) (N := some 153) (v := undef) (a' := ?_) (zl 39 4294967295) rfl rfl (any_of HT_.out (by kernel_rfl)) (fun _ _ _ h => h) (Or.inr ⟨by rfl, rfl⟩) ?_ ?_
          rotate_left
          ·simp only [Act.put, u]
           rfl
          refine pure_ (i := 32) (N := some 154) (v := undef) (a' := ?_) (zl 39 8589934591) rfl rfl (any_of HT_.out (by kernel_rfl)) (fun _ _ _ h => h) (Or.inr ⟨by rfl, rfl⟩) ?_ ?_
          rotate_left
          ·simp only [Act.put, u]
           rfl
          refine pure_ (i := 33) (N := some 155) (v := undef) (a' := ?_) (zl 39 17179869183) rfl rfl (any_of HT_.out (by kernel_rfl)) (fun _ _ _ h => h) (Or.inr ⟨by rfl, rfl⟩) ?_ ?_
          rotate_left
          ·simp only [Act.put, u]
           rfl
          refine pure_ (i := 34) (N := some 156) (v := undef) (a' := ?_) (zl 39 34359738367) rfl rfl (any_of HT_.out (by kernel_rfl)) (fun _ _ _ h => h) (Or.inr ⟨by rfl, rfl⟩) ?_ ?_
          rotate_left
          ·simp only [Act.put, u]
           rfl
          refine pure_ (i := 35) (N := some 157) (v := undef) (a' := ?_) (zl 39 68719476735) rfl rfl (any_of HT_.out (by kernel_rfl)) (fun _ _ _ h => h) (Or.inr ⟨by rfl, rfl⟩) ?_ ?_
          rotate_left
          ·simp only [Act.put, u]
           rfl
          refine pure_ (i := 36) (N := some 158) (v := ?_) (a' := ?_) (zl 39 137438953471) rfl rfl (any_of HT_.out (by kernel_rfl)) (fun _ _ _ h => h) (Or.inl ⟨by rfl, ?_⟩) ?_ ?_
          rotate_left
          ·intro w'
           go_simp
           with_reducible rfl
          rotate_left
          ·simp only [Act.put, u]
           rfl
          refine pure_ (i := 37) (N := some 159) (v := ?_) (a' := ?_) (zl 39 274877906943) rfl rfl (any_of HT_.out (by kernel_rfl)) (fun _ _ _ h => h) (Or.inl ⟨by rfl, ?_⟩) ?_ ?_
          rotate_left
          ·intro w'
           go_simp
           with_reducible rfl
          rotate_left
          ·simp only [Act.put, u]
           rfl
          refine pure_ (i := 38) (N := some 4) (v := ?_) (a' := ?_) (zl 39 549755813887) rfl rfl (any_of HT_.out (by kernel_rfl)) (fun _ _ _ h => h) (Or.inl ⟨by rfl, ?_⟩) ?_ ?_
          rotate_left
          ·intro w'
           go_simp
           with_reducible rfl
          rotate_left
          ·simp only [Act.put, u]
           rfl
          refine done_ (done_of HT_.out (by kernel_rfl)) ?_
          try go_wp2
          go_ret
          exact ⟨by first | rfl | (simp [errW_none, errW_some] <;> rfl) | (simp [*, errW_none, errW_some] <;> rfl), zHB⟩
         replace c234 := Bool.eq_false_iff.mpr c234
         subst c234
         have H1 : ((impl_NetIn.f t122 t123 t120 t121).bind fun t138 => (if t138 = true then (some false) else ((impl_NetHas.f t114 t115 t116).bind fun t139 => ((impl_NetHas.f t120 t121 t116).bind fun t140 => (if t140 = true then (some (t139 == true)) else ((impl_NetHas.f t122 t123 t116).bind fun t141 => (some (t139 == t141)))))))) = some r := by rw [if_neg (show ¬ (false = true) by decide)] at H; exact H
         clear H
         have H := H1
         clear H1
         replace H := Option.bind_eq_some_iff.mp H
         obtain ⟨t138, A2390, H⟩ := H
         replace H : (if t138 = true then (some false) else ((impl_NetHas.f t114 t115 t116).bind fun t139 => ((impl_NetHas.f t120 t121 t116).bind fun t140 => (if t140 = true then (some (t139 == true)) else ((impl_NetHas.f t122 t123 t116).bind fun t141 => (some (t139 == t141))))))) = some r := H
         have A239 := zA A2390
         clear A2390
         by_cases c240 : t138 = true
         ·as_aux_lemma =>
          subst c240
          have H1 : (some false) = some r := by rw [if_pos rfl] at H; exact H
          clear H
          have H := H1
          clear H1
          obtain rfl := Option.some.inj H
          try go_wp2
          have n0_ := zA (blk_drew BK105.out)
          have n1_ := zA (blk_drew BK106.out)
          have n2_ := zA (blk_drew BK117.out)
          have n3_ := zA (blk_drew BK125.out)
          have n4_ := zA (blk_drew BK126.out)
          have n5_ := zA (blk_drew BK132.out)
          have n6_ := zA (blk_drew BK133.out)
          have n7_ := zA (below_drew1 HB.out)
          clear BK105
          clear BK106
          clear BK117
          clear BK125
          clear BK126
          clear BK132
          clear BK133
          clear HB
          have BK105 := n0_
          have BK106 := n1_
          have BK117 := n2_
          have BK125 := n3_
          have BK126 := n4_
          have BK132 := n5_
          have BK133 := n6_
          have HB := n7_
          clear n0_ n1_ n2_ n3_ n4_ n5_ n6_ n7_
          refine start_ (n := 39) (S := fun w' => w'.cell? ⟨gb125, 0, none⟩ = some (.int .i64 t120) ∧ w'.cell? ⟨gb125, 1, none⟩ = some (.int .i64 t121) ∧ w'.cell? ⟨gb117, 0, none⟩ = some (.int .i64 t114) ∧ w'.cell? ⟨gb117, 1, none⟩ = some (.int .i64 t115) ∧ w'.cell? ⟨gb126, 0, none⟩ = some (.int .i64 t122) ∧ w'.cell? ⟨gb126, 1, none⟩ = some (.int .i64 t123)) (ds := []) (zl 39 0) (by kernel_rfl) rfl rfl ⟨(blk_cell BK125.out 0).trans rfl, (blk_cell BK125.out 1).trans rfl, (blk_cell BK117.out 0).trans rfl, (blk_cell BK117.out 1).trans rfl, (blk_cell BK126.out 0).trans rfl, (blk_cell BK126.out 1).trans rfl⟩ (fun hHeld => ?_); refine with_tabW laws_FnNetPrefix.tab22 laws_FnNetPrefix.bits22 (fun HT_ HW_ => ?_)
          generalize wc.drew = w241 at BK105 BK106 BK117 BK125 BK126 BK132 BK133 HB hHeld ⊢
          refine pure_ (i := 0) (N := some 122) (v := ?_) (a' := ?_) (zl 39 1) rfl rfl (any_of HT_.out (by kernel_rfl)) (fun _ _ _ h => h) (Or.inl ⟨by rfl, ?_⟩) ?_ ?_
          rotate_left
          ·intro w'
           go_simp
           with_reducible rfl
          rotate_left
          ·simp only [Act.put, u]
           rfl
          refine pure_ (i := 1) (N := some 123) (v := ?_) (a' := ?_) (zl 39 3) rfl rfl (any_of HT_.out (by kernel_rfl)) (fun _ _ _ h => h) (Or.inl ⟨by rfl, ?_⟩) ?_ ?_
          rotate_left
          ·intro w'
           go_simp
           with_reducible rfl
          rotate_left
          ·simp only [Act.put, u]
           rfl
          refine pure_ (i := 2) (N := some 124) (v := ?_) (a' := ?_) (zl 39 7) rfl rfl (any_of HT_.out (by kernel_rfl)) (fun _ _ _ h => h) (Or.inl ⟨by rfl, ?_⟩) ?_ ?_
          rotate_left
          ·intro w'
           go_simp
           with_reducible rfl
          rotate_left
          ·simp only [Act.put, u]
           rfl
          refine take_ (i := 3) (N := some 125) (v := ?_) (a' := ?_) (zl 39 15) rfl rfl (take_ofW HT_.out HW_.out (by kernel_rfl)) (fun _ _ _ h => h) (Or.inl ⟨by rfl, ?_⟩) hHeld ?_ ?_
          rotate_left
          ·rintro w' ⟨s0, s1, s2, s3, s4, s5⟩
           go_simp
           with_reducible rfl
          rotate_left
          ·simp only [Act.put, u]
           rfl
          refine take_ (i := 4) (N := some 126) (v := ?_) (a' := ?_) (zl 39 31) rfl rfl (take_ofW HT_.out HW_.out (by kernel_rfl)) (fun _ _ _ h => h) (Or.inl ⟨by rfl, ?_⟩) hHeld ?_ ?_
          rotate_left
          ·rintro w' ⟨s0, s1, s2, s3, s4, s5⟩
           go_simp
           with_reducible rfl
          rotate_left
          ·simp only [Act.put, u]
           rfl
          refine one_ (i := 5) (N := some 127) (zl 39 63) rfl rfl (one_of HT_.out (by kernel_rfl)) (by decide) (fun K hK => ?_)
          refine goes_ Try.func36 (by kernel_rfl) rfl #[.agg #[.int .i64 t120, .int .i64 t121], .agg #[.int .i64 t114, .int .i64 t115]] (by rfl) rfl rfl y1  ?_
          with_reducible refine (impl_NetIn.calls t120 t121 t114 t115 true _ A229.out).mono ?_
          rintro e w242 ⟨rfl, hb⟩
          refine ⟨_, rfl, ?_⟩
          have n0_ := zA (blk_below (g := gb105) (o := .cells #[.int .i64 t101, .int .i64 t102] 26 (0, 0)) (zb BK105.out) hb)
          have n1_ := zA (blk_below (g := gb106) (o := .cells #[.int .i64 t103, .int .i64 t104] 26 (0, 0)) (zb BK106.out) hb)
          have n2_ := zA (blk_below (g := gb117) (o := .cells #[.int .i64 t114, .int .i64 t115] 26 (0, 0)) (zb BK117.out) hb)
          have n3_ := zA (blk_below (g := gb125) (o := .cells #[.int .i64 t120, .int .i64 t121] 26 (0, 0)) (zb BK125.out) hb)
          have n4_ := zA (blk_below (g := gb126) (o := .cells #[.int .i64 t122, .int .i64 t123] 26 (0, 0)) (zb BK126.out) hb)
          have n5_ := zA (blk_below (g := gb132) (o := .cells #[.int .i64 t127, .int .i64 t128] 26 (0, 0)) (zb BK132.out) hb)
          have n6_ := zA (blk_below (g := gb133) (o := .cells #[.int .i64 t129, .int .i64 t130] 26 (0, 0)) (zb BK133.out) hb)
          have n7_ := zA (below_step (zHB) hb)
          clear BK105
          clear BK106
          clear BK117
          clear BK125
          clear BK126
          clear BK132
          clear BK133
          clear HB
          have BK105 := n0_
          have BK106 := n1_
          have BK117 := n2_
          have BK125 := n3_
          have BK126 := n4_
          have BK132 := n5_
          have BK133 := n6_
          have HB := n7_
          clear n0_ n1_ n2_ n3_ n4_ n5_ n6_ n7_
          (try clear hb)
          (try clear hb2)
          (try clear hk)
          (try clear hi)
          refine hK.out _ _ ⟨(blk_cell BK125.out 0).trans rfl, (blk_cell BK125.out 1).trans rfl, (blk_cell BK117.out 0).trans rfl, (blk_cell BK117.out 1).trans rfl, (blk_cell BK126.out 0).trans rfl, (blk_cell BK126.out 1).trans rfl⟩ (fun hHeld => ?_)
          clear hK K
          refine norm_ (a' := ?_) ?_ ?_
          rotate_left
          ·show Act.put _ (some 127) _ = _
           simp only [Act.put, u]
           rfl
          refine pure_ (i := 6) (N := some 128) (v := ?_) (a' := ?_) (zl 39 127) rfl rfl (any_of HT_.out (by kernel_rfl)) (fun _ _ _ h => h) (Or.inl ⟨by rfl, ?_⟩) ?_ ?_
          rotate_left
          ·intro w'
           go_simp
           with_reducible rfl
          rotate_left
          ·simp only [Act.put, u]
           rfl
          refine take_ (i := 7) (N := some 129) (v := ?_) (a' := ?_) (zl 39 255) rfl rfl (take_ofW HT_.out HW_.out (by kernel_rfl)) (fun _ _ _ h => h) (Or.inl ⟨by rfl, ?_⟩) hHeld ?_ ?_
          rotate_left
          ·rintro w' ⟨s0, s1, s2, s3, s4, s5⟩
           go_simp
           with_reducible rfl
          rotate_left
          ·simp only [Act.put, u]
           rfl
          refine take_ (i := 8) (N := some 130) (v := ?_) (a' := ?_) (zl 39 511) rfl rfl (take_ofW HT_.out HW_.out (by kernel_rfl)) (fun _ _ _ h => h) (Or.inl ⟨by rfl, ?_⟩) hHeld ?_ ?_
          rotate_left
          ·rintro w' ⟨s0, s1, s2, s3, s4, s5⟩
           go_simp
           with_reducible rfl
          rotate_left
          ·simp only [Act.put, u]
           rfl
          refine one_ (i := 9) (N := some 131) (zl 39 1023) rfl rfl (one_of HT_.out (by kernel_rfl)) (by decide) (fun K hK => ?_)
          refine goes_ Try.func36 (by kernel_rfl) rfl #[.agg #[.int .i64 t122, .int .i64 t123], .agg #[.int .i64 t114, .int .i64 t115]] (by rfl) rfl rfl y1  ?_
          with_reducible refine (impl_NetIn.calls t122 t123 t114 t115 true _ A231.out).mono ?_
          rintro e w243 ⟨rfl, hb⟩
          refine ⟨_, rfl, ?_⟩
          have n0_ := zA (blk_below (g := gb105) (o := .cells #[.int .i64 t101, .int .i64 t102] 26 (0, 0)) (zb BK105.out) hb)
          have n1_ := zA (blk_below (g := gb106) (o := .cells #[.int .i64 t103, .int .i64 t104] 26 (0, 0)) (zb BK106.out) hb)
          have n2_ := zA (blk_below (g := gb117) (o := .cells #[.int .i64 t114, .int .i64 t115] 26 (0, 0)) (zb BK117.out) hb)
          have n3_ := zA (blk_below (g := gb125) (o := .cells #[.int .i64 t120, .int .i64 t121] 26 (0, 0)) (zb BK125.out) hb)
          have n4_ := zA (blk_below (g := gb126) (o := .cells #[.int .i64 t122, .int .i64 t123] 26 (0, 0)) (zb BK126.out) hb)
          have n5_ := zA (blk_below (g := gb132) (o := .cells #[.int .i64 t127, .int .i64 t128] 26 (0, 0)) (zb BK132.out) hb)
          have n6_ := zA (blk_below (g := gb133) (o := .cells #[.int .i64 t129, .int .i64 t130] 26 (0, 0)) (zb BK133.out) hb)
          have n7_ := zA (below_step (zHB) hb)
          clear BK105
          clear BK106
          clear BK117
          clear BK125
          clear BK126
          clear BK132
          clear BK133
          clear HB
          have BK105 := n0_
          have BK106 := n1_
          have BK117 := n2_
          have BK125 := n3_
          have BK126 := n4_
          have BK132 := n5_
          have BK133 := n6_
          have HB := n7_
          clear n0_ n1_ n2_ n3_ n4_ n5_ n6_ n7_
          (try clear hb)
          (try clear hb2)
          (try clear hk)
          (try clear hi)
          refine hK.out _ _ ⟨(blk_cell BK125.out 0).trans rfl, (blk_cell BK125.out 1).trans rfl, (blk_cell BK117.out 0).trans rfl, (blk_cell BK117.out 1).trans rfl, (blk_cell BK126.out 0).trans rfl, (blk_cell BK126.out 1).trans rfl⟩ (fun hHeld => ?_)
          clear hK K
          refine norm_ (a' := ?_) ?_ ?_
          rotate_left
          ·show Act.put _ (some 131) _ = _
           simp only [Act.put, u]
           rfl
          refine pure_ (i := 10) (N := some 132) (v := ?_) (a' := ?_) (zl 39 2047) rfl rfl (any_of HT_.out (by kernel_rfl)) (fun _ _ _ h => h) (Or.inl ⟨by rfl, ?_⟩) ?_ ?_
          rotate_left
          ·intro w'
           go_simp
           with_reducible rfl
          rotate_left
          ·simp only [Act.put, u]
           rfl
          refine pure_ (i := 11) (N := some 133) (v := ?_) (a' := ?_) (zl 39 4095) rfl rfl (any_of HT_.out (by kernel_rfl)) (fun _ _ _ h => h) (Or.inl ⟨by rfl, ?_⟩) ?_ ?_
          rotate_left
          ·intro w'
           go_simp
           with_reducible rfl
          rotate_left
          ·simp only [Act.put, u]
           rfl
          refine take_ (i := 12) (N := some 134) (v := ?_) (a' := ?_) (zl 39 8191) rfl rfl (take_ofW HT_.out HW_.out (by kernel_rfl)) (fun _ _ _ h => h) (Or.inl ⟨by rfl, ?_⟩) hHeld ?_ ?_
          rotate_left
          ·rintro w' ⟨s0, s1, s2, s3, s4, s5⟩
           go_simp
           with_reducible rfl
          rotate_left
          ·simp only [Act.put, u]
           rfl
          refine take_ (i := 13) (N := some 135) (v := ?_) (a' := ?_) (zl 39 16383) rfl rfl (take_ofW HT_.out HW_.out (by kernel_rfl)) (fun _ _ _ h => h) (Or.inl ⟨by rfl, ?_⟩) hHeld ?_ ?_
          rotate_left
          ·rintro w' ⟨s0, s1, s2, s3, s4, s5⟩
           go_simp
           with_reducible rfl
          rotate_left
          ·simp only [Act.put, u]
           rfl
          refine one_ (i := 14) (N := some 136) (zl 39 32767) rfl rfl (one_of HT_.out (by kernel_rfl)) (by decide) (fun K hK => ?_)
          refine goes_ Try.func36 (by kernel_rfl) rfl #[.agg #[.int .i64 t120, .int .i64 t121], .agg #[.int .i64 t122, .int .i64 t123]] (by rfl) rfl rfl y1  ?_
          with_reducible refine (impl_NetIn.calls t120 t121 t122 t123 false _ A233.out).mono ?_
          rintro e w244 ⟨rfl, hb⟩
          refine ⟨_, rfl, ?_⟩
          have n0_ := zA (blk_below (g := gb105) (o := .cells #[.int .i64 t101, .int .i64 t102] 26 (0, 0)) (zb BK105.out) hb)
          have n1_ := zA (blk_below (g := gb106) (o := .cells #[.int .i64 t103, .int .i64 t104] 26 (0, 0)) (zb BK106.out) hb)
          have n2_ := zA (blk_below (g := gb117) (o := .cells #[.int .i64 t114, .int .i64 t115] 26 (0, 0)) (zb BK117.out) hb)
          have n3_ := zA (blk_below (g := gb125) (o := .cells #[.int .i64 t120, .int .i64 t121] 26 (0, 0)) (zb BK125.out) hb)
          have n4_ := zA (blk_below (g := gb126) (o := .cells #[.int .i64 t122, .int .i64 t123] 26 (0, 0)) (zb BK126.out) hb)
          have n5_ := zA (blk_below (g := gb132) (o := .cells #[.int .i64 t127, .int .i64 t128] 26 (0, 0)) (zb BK132.out) hb)
          have n6_ := zA (blk_below (g := gb133) (o := .cells #[.int .i64 t129, .int .i64 t130] 26 (0, 0)) (zb BK133.out) hb)
          have n7_ := zA (below_step (zHB) hb)
          clear BK105
          clear BK106
          clear BK117
          clear BK125
          clear BK126
          clear BK132
          clear BK133
          clear HB
          have BK105 := n0_
          have BK106 := n1_
          have BK117 := n2_
          have BK125 := n3_
          have BK126 := n4_
          have BK132 := n5_
          have BK133 := n6_
          have HB := n7_
          clear n0_ n1_ n2_ n3_ n4_ n5_ n6_ n7_
          (try clear hb)
          (try clear hb2)
          (try clear hk)
          (try clear hi)
          refine hK.out _ _ ⟨(blk_cell BK125.out 0).trans rfl, (blk_cell BK125.out 1).trans rfl, (blk_cell BK117.out 0).trans rfl, (blk_cell BK117.out 1).trans rfl, (blk_cell BK126.out 0).trans rfl, (blk_cell BK126.out 1).trans rfl⟩ (fun hHeld => ?_)
          clear hK K
          refine norm_ (a' := ?_) ?_ ?_
          rotate_left
          ·show Act.put _ (some 136) _ = _
           simp only [Act.put, u]
           rfl
          refine pure_ (i := 15) (N := some 137) (v := ?_) (a' := ?_) (zl 39 65535) rfl rfl (any_of HT_.out (by kernel_rfl)) (fun _ _ _ h => h) (Or.inl ⟨by rfl, ?_⟩) ?_ ?_
          rotate_left
          ·intro w'
           go_simp
           with_reducible rfl
          rotate_left
          ·simp only [Act.put, u]
           rfl
          refine pure_ (i := 16) (N := some 138) (v := ?_) (a' := ?_) (zl 39 131071) rfl rfl (any_of HT_.out (by kernel_rfl)) (fun _ _ _ h => h) (Or.inl ⟨by rfl, ?_⟩) ?_ ?_
          rotate_left
          ·intro w'
           go_simp
           with_reducible rfl
          rotate_left
          ·simp only [Act.put, u]
           rfl
          refine pure_ (i := 17) (N := some 139) (v := ?_) (a' := ?_) (zl 39 262143) rfl rfl (any_of HT_.out (by kernel_rfl)) (fun _ _ _ h => h) (Or.inl ⟨by rfl, ?_⟩) ?_ ?_
          rotate_left
          ·intro w'
           go_simp
           with_reducible rfl
          rotate_left
          ·simp only [Act.put, u]
           rfl
          refine take_ (i := 18) (N := some 140) (v := ?_) (a' := ?_) (zl 39 524287) rfl rfl (take_ofW HT_.out HW_.out (by kernel_rfl)) (fun _ _ _ h => h) (Or.inl ⟨by rfl, ?_⟩) hHeld ?_ ?_
          rotate_left
          ·rintro w' ⟨s0, s1, s2, s3, s4, s5⟩
           go_simp
           with_reducible rfl
          rotate_left
          ·simp only [Act.put, u]
           rfl
          refine take_ (i := 19) (N := some 141) (v := ?_) (a' := ?_) (zl 39 1048575) rfl rfl (take_ofW HT_.out HW_.out (by kernel_rfl)) (fun _ _ _ h => h) (Or.inl ⟨by rfl, ?_⟩) hHeld ?_ ?_
          rotate_left
          ·rintro w' ⟨s0, s1, s2, s3, s4, s5⟩
           go_simp
           with_reducible rfl
          rotate_left
          ·simp only [Act.put, u]
           rfl
          refine one_ (i := 20) (N := some 142) (zl 39 2097151) rfl rfl (one_of HT_.out (by kernel_rfl)) (by decide) (fun K hK => ?_)
          refine goes_ Try.func36 (by kernel_rfl) rfl #[.agg #[.int .i64 t122, .int .i64 t123], .agg #[.int .i64 t120, .int .i64 t121]] (by rfl) rfl rfl y1  ?_
          with_reducible refine (impl_NetIn.calls t122 t123 t120 t121 true _ A239.out).mono ?_
          rintro e w245 ⟨rfl, hb⟩
          refine ⟨_, rfl, ?_⟩
          have n0_ := zA (blk_below (g := gb105) (o := .cells #[.int .i64 t101, .int .i64 t102] 26 (0, 0)) (zb BK105.out) hb)
          have n1_ := zA (blk_below (g := gb106) (o := .cells #[.int .i64 t103, .int .i64 t104] 26 (0, 0)) (zb BK106.out) hb)
          have n2_ := zA (blk_below (g := gb117) (o := .cells #[.int .i64 t114, .int .i64 t115] 26 (0, 0)) (zb BK117.out) hb)
          have n3_ := zA (blk_below (g := gb125) (o := .cells #[.int .i64 t120, .int .i64 t121] 26 (0, 0)) (zb BK125.out) hb)
          have n4_ := zA (blk_below (g := gb126) (o := .cells #[.int .i64 t122, .int .i64 t123] 26 (0, 0)) (zb BK126.out) hb)
          have n5_ := zA (blk_below (g := gb132) (o := .cells #[.int .i64 t127, .int .i64 t128] 26 (0, 0)) (zb BK132.out) hb)
          have n6_ := zA (blk_below (g := gb133) (o := .cells #[.int .i64 t129, .int .i64 t130] 26 (0, 0)) (zb BK133.out) hb)
          have n7_ := zA (below_step (zHB) hb)
          clear BK105
          clear BK106
          clear BK117
          clear BK125
          clear BK126
          clear BK132
          clear BK133
          clear HB
          have BK105 := n0_
          have BK106 := n1_
          have BK117 := n2_
          have BK125 := n3_
          have BK126 := n4_
          have BK132 := n5_
          have BK133 := n6_
          have HB := n7_
          clear n0_ n1_ n2_ n3_ n4_ n5_ n6_ n7_
          (try clear hb)
          (try clear hb2)
          (try clear hk)
          (try clear hi)
          refine hK.out _ _ ⟨(blk_cell BK125.out 0).trans rfl, (blk_cell BK125.out 1).trans rfl, (blk_cell BK117.out 0).trans rfl, (blk_cell BK117.out 1).trans rfl, (blk_cell BK126.out 0).trans rfl, (blk_cell BK126.out 1).trans rfl⟩ (fun hHeld => ?_)
          clear hK K
          refine norm_ (a' := ?_) ?_ ?_
          rotate_left
          ·show Act.put _ (some 142) _ = _
           simp only [Act.put, u]
           rfl
          refine pure_ (i := 21) (N := some 143) (v := ?_) (a' := ?_) (zl 39 4194303) rfl rfl (any_of HT_.out (by kernel_rfl)) (fun _ _ _ h => h) (Or.inl ⟨by rfl, ?_⟩) ?_ ?_
          rotate_left
          ·intro w'
           go_simp
           with_reducible rfl
          rotate_left
          ·simp only [Act.put, u]
           rfl
          refine pure_ (i := 22) (N := some 144) (v := ?_) (a' := ?_) (zl 39 8388607) rfl rfl (any_of HT_.out (by kernel_rfl)) (fun _ _ _ h => h) (Or.inl ⟨by rfl, ?_⟩) ?_ ?_
          rotate_left
          ·intro w'
           go_simp
           with_reducible rfl
          rotate_left
          ·simp only [Act.put, u]
           rfl
          refine pure_ (i := 23) (N := some 145) (v := ?_) (a' := ?_) (zl 39 16777215) rfl rfl (any_of HT_.out (by kernel_rfl)) (fun _ _ _ h => h) (Or.inl ⟨by rfl, ?_⟩) ?_ ?_
          rotate_left
          ·intro w'
           go_simp
           with_reducible rfl
          rotate_left
          ·simp only [Act.put, u]
           rfl
          refine pure_ (i := 24) (N := some 146) (v := undef) (a' := ?_) (zl 39 33554431) rfl rfl (any_of HT_.out (by kernel_rfl)) (fun _ _ _ h => h) (Or.inr ⟨by rfl, rfl⟩) ?_ ?_
          rotate_left
          ·simp only [Act.put, u]
           rfl
          refine pure_ (i := 25) (N := some 147) (v := undef) (a' := ?_) (zl 39 67108863) rfl rfl (any_of HT_.out (by kernel_rfl)) (fun _ _ _ h => h) (Or.inr ⟨by rfl, rfl⟩) ?_ ?_
          rotate_left
          ·simp only [Act.put, u]
           rfl
          refine pure_ (i := 26) (N := some 148) (v := undef) (a' := ?_) (zl 39 134217727) rfl rfl (any_of HT_.out (by kernel_rfl)) (fun _ _ _ h => h) (Or.inr ⟨by rfl, rfl⟩) ?_ ?_
          rotate_left
          ·simp only [Act.put, u]
           rfl
          refine pure_ (i := 27) (N := some 149) (v := undef) (a' := ?_) (zl 39 268435455) rfl rfl (any_of HT_.out (by kernel_rfl)) (fun _ _ _ h => h) (Or.inr ⟨by rfl, rfl⟩) ?_ ?_
          rotate_left
          ·simp only [Act.put, u]
           rfl
          refine pure_ (i := 28) (N := some 150) (v := undef) (a' := ?_) (zl 39 536870911) rfl rfl (any_of HT_.out (by kernel_rfl)) (fun _ _ _ h => h) (Or.inr ⟨by rfl, rfl⟩) ?_ ?_
          rotate_left
          ·simp only [Act.put, u]
           rfl
          refine pure_ (i := 29) (N := some 151) (v := undef) (a' := ?_) (zl 39 1073741823) rfl rfl (any_of HT_.out (by kernel_rfl)) (fun _ _ _ h => h) (Or.inr ⟨by rfl, rfl⟩) ?_ ?_
          rotate_left
          ·simp only [Act.put, u]
           rfl
          refine pure_ (i := 30) (N := some 152) (v := undef) (a' := ?_) (zl 39 2147483647) rfl rfl (any_of HT_.out (by kernel_rfl)) (fun _ _ _ h => h) (Or.inr ⟨by rfl, rfl⟩) ?_ ?_
          rotate_left
          ·simp only [Act.put, u]
           rfl
          refine pure_ (i := 31) (N := some 153) (v := undef) (a' := ?_) (zl 39 4294967295) rfl rfl (any_of HT_.out (by kernel_rfl)) (fun _ _ _ h => h) (Or.inr ⟨by rfl, rfl⟩) ?_ ?_
          rotate_left
          ·simp only [Act.put, u]
           rfl
          refine pure_ (i := 32) (N := some 154) (v := undef) (a' := ?_) (zl 39 8589934591) rfl rfl (any_of HT_.out (by kernel_rfl)) (fun _ _ _ h => h) (Or.inr ⟨by rfl, rfl⟩) ?_ ?_
          rotate_left
          ·simp only [Act.put, u]
           rfl
          refine pure_ (i := 33) (N := some 155) (v := undef) (a' := ?_) (zl 39 17179869183) rfl rfl (any_of HT_.out (by kernel_rfl)) (fun _ _ _ h => h) (Or.inr ⟨by rfl, rfl⟩) ?_ ?_
          rotate_left
          ·simp only [Act.put, u]
           rfl
          refine pure_ (i := 34) (N := some 156) (v := undef) (a' := ?_) (zl 39 34359738367) rfl rfl (any_of HT_.out (by kernel_rfl)) (fun _ _ _ h => h) (Or.inr ⟨by rfl, rfl⟩) ?_ ?_
          rotate_left
          ·simp only [Act.put, u]
           rfl
          refine pure_ (i := 35) (N := some 157) (v := undef) (a' := ?_) (zl 39 68719476735) rfl rfl (any_of HT_.out (by kernel_rfl)) (fun _ _ _ h => h) (Or.inr ⟨by rfl, rfl⟩) ?_ ?_
          rotate_left
          ·simp only [Act.put, u]
           rfl
          refine pure_ (i := 36) (N := some 158) (v := ?_) (a' := ?_) (zl 39 137438953471) rfl rfl (any_of HT_.out (by kernel_rfl)) (fun _ _ _ h => h) (Or.inl ⟨by rfl, ?_⟩) ?_ ?_
          rotate_left
          ·intro w'
           go_simp
           with_reducible rfl
          rotate_left
          ·simp only [Act.put, u]
           rfl
          refine pure_ (i := 37) (N := some 159) (v := ?_) (a' := ?_) (zl 39 274877906943) rfl rfl (any_of HT_.out (by kernel_rfl)) (fun _ _ _ h => h) (Or.inl ⟨by rfl, ?_⟩) ?_ ?_
          rotate_left
          ·intro w'
           go_simp
           with_reducible rfl
          rotate_left
          ·simp only [Act.put, u]
           rfl
          refine pure_ (i := 38) (N := some 4) (v := ?_) (a' := ?_) (zl 39 549755813887) rfl rfl (any_of HT_.out (by kernel_rfl)) (fun _ _ _ h => h) (Or.inl ⟨by rfl, ?_⟩) ?_ ?_
          rotate_left
          ·intro w'
           go_simp
           with_reducible rfl
          rotate_left
          ·simp only [Act.put, u]
           rfl
          refine done_ (done_of HT_.out (by kernel_rfl)) ?_
          try go_wp2
          go_ret
          exact ⟨by first | rfl | (simp [errW_none, errW_some] <;> rfl) | (simp [*, errW_none, errW_some] <;> rfl), zHB⟩
         replace c240 := Bool.eq_false_iff.mpr c240
         subst c240
         have H1 : ((impl_NetHas.f t114 t115 t116).bind fun t139 => ((impl_NetHas.f t120 t121 t116).bind fun t140 => (if t140 = true then (some (t139 == true)) else ((impl_NetHas.f t122 t123 t116).bind fun t141 => (some (t139 == t141)))))) = some r := by rw [if_neg (show ¬ (false = true) by decide)] at H; exact H
         clear H
         have H := H1
         clear H1
         replace H := Option.bind_eq_some_iff.mp H
         obtain ⟨t139, A2460, H⟩ := H
         replace H : ((impl_NetHas.f t120 t121 t116).bind fun t140 => (if t140 = true then (some (t139 == true)) else ((impl_NetHas.f t122 t123 t116).bind fun t141 => (some (t139 == t141))))) = some r := H
         have A246 := zA A2460
         clear A2460
         replace H := Option.bind_eq_some_iff.mp H
         obtain ⟨t140, A2470, H⟩ := H
         replace H : (if t140 = true then (some (t139 == true)) else ((impl_NetHas.f t122 t123 t116).bind fun t141 => (some (t139 == t141)))) = some r := H
         have A247 := zA A2470
         clear A2470
         by_cases c248 : t140 = true
         ·as_aux_lemma =>
          subst c248
          have H1 : (some (t139 == true)) = some r := by rw [if_pos rfl] at H; exact H
          clear H
          have H := H1
          clear H1
          obtain rfl := Option.some.inj H
          try go_wp2
          have n0_ := zA (blk_drew BK105.out)
          have n1_ := zA (blk_drew BK106.out)
          have n2_ := zA (blk_drew BK117.out)
          have n3_ := zA (blk_drew BK125.out)
          have n4_ := zA (blk_drew BK126.out)
          have n5_ := zA (blk_drew BK132.out)
          have n6_ := zA (blk_drew BK133.out)
          have n7_ := zA (below_drew1 HB.out)
          clear BK105
          clear BK106
          clear BK117
          clear BK125
          clear BK126
          clear BK132
          clear BK133
          clear HB
          have BK105 := n0_
          have BK106 := n1_
          have BK117 := n2_
          have BK125 := n3_
          have BK126 := n4_
          have BK132 := n5_
          have BK133 := n6_
          have HB := n7_
          clear n0_ n1_ n2_ n3_ n4_ n5_ n6_ n7_
          refine start_ (n := 39) (S := fun w' => w'.cell? ⟨gb125, 0, none⟩ = some (.int .i64 t120) ∧ w'.cell? ⟨gb125, 1, none⟩ = some (.int .i64 t121) ∧ w'.cell? ⟨gb117, 0, none⟩ = some (.int .i64 t114) ∧ w'.cell? ⟨gb117, 1, none⟩ = some (.int .i64 t115) ∧ w'.cell? ⟨gb126, 0, none⟩ = some (.int .i64 t122) ∧ w'.cell? ⟨gb126, 1, none⟩ = some (.int .i64 t123)) (ds := []) (zl 39 0) (by kernel_rfl) rfl rfl ⟨(blk_cell BK125.out 0).trans rfl, (blk_cell BK125.out 1).trans rfl, (blk_cell BK117.out 0).trans rfl, (blk_cell BK117.out 1).trans rfl, (blk_cell BK126.out 0).trans rfl, (blk_cell BK126.out 1).trans rfl⟩ (fun hHeld => ?_); refine with_tabW laws_FnNetPrefix.tab22 laws_FnNetPrefix.bits22 (fun HT_ HW_ => ?_)
          generalize wc.drew = w249 at BK105 BK106 BK117 BK125 BK126 BK132 BK133 HB hHeld ⊢
          refine pure_ (i := 0) (N := some 122) (v := ?_) (a' := ?_) (zl 39 1) rfl rfl (any_of HT_.out (by kernel_rfl)) (fun _ _ _ h => h) (Or.inl ⟨by rfl, ?_⟩) ?_ ?_
          rotate_left
          ·intro w'
           go_simp
           with_reducible rfl
          rotate_left
          ·simp only [Act.put, u]
           rfl
          refine pure_ (i := 1) (N := some 123) (v := ?_) (a' := ?_) (zl 39 3) rfl rfl (any_of HT_.out (by kernel_rfl)) (fun _ _ _ h => h) (Or.inl ⟨by rfl, ?_⟩) ?_ ?_
          rotate_left
          ·intro w'
           go_simp
           with_reducible rfl
          rotate_left
          ·simp only [Act.put, u]
           rfl
          refine pure_ (i := 2) (N := some 124) (v := ?_) (a' := ?_) (zl 39 7) rfl rfl (any_of HT_.out (by kernel_rfl)) (fun _ _ _ h => h) (Or.inl ⟨by rfl, ?_⟩) ?_ ?_
          rotate_left
          ·intro w'
           go_simp
           with_reducible rfl
          rotate_left
          ·simp only [Act.put, u]
           rfl
          refine take_ (i := 3) (N := some 125) (v := ?_) (a' := ?_) (zl 39 15) rfl rfl (take_ofW HT_.out HW_.out (by kernel_rfl)) (fun _ _ _ h => h) (Or.inl ⟨by rfl, ?_⟩) hHeld ?_ ?_
          rotate_left
          ·rintro w' ⟨s0, s1, s2, s3, s4, s5⟩
           go_simp
           with_reducible rfl
          rotate_left
          ·simp only [Act.put, u]
           rfl
          refine take_ (i := 4) (N := some 126) (v := ?_) (a' := ?_) (zl 39 31) rfl rfl (take_ofW HT_.out HW_.out (by kernel_rfl)) (fun _ _ _ h => h) (Or.inl ⟨by rfl, ?_⟩) hHeld ?_ ?_
          rotate_left
          ·rintro w' ⟨s0, s1, s2, s3, s4, s5⟩
           go_simp
           with_reducible rfl
          rotate_left
          ·simp only [Act.put, u]
           rfl
          refine one_ (i := 5) (N := some 127) (zl 39 63) rfl rfl (one_of HT_.out (by kernel_rfl)) (by decide) (fun K hK => ?_)
          refine goes_ Try.func36 (by kernel_rfl) rfl #[.agg #[.int .i64 t120, .int .i64 t121], .agg #[.int .i64 t114, .int .i64 t115]] (by rfl) rfl rfl y1  ?_
          with_reducible refine (impl_NetIn.calls t120 t121 t114 t115 true _ A229.out).mono ?_
          rintro e w250 ⟨rfl, hb⟩
          refine ⟨_, rfl, ?_⟩
          have n0_ := zA (blk_below (g := gb105) (o := .cells #[.int .i64 t101, .int .i64 t102] 26 (0, 0)) (zb BK105.out) hb)
          have n1_ := zA (blk_below (g := gb106) (o := .cells #[.int .i64 t103, .int .i64 t104] 26 (0, 0)) (zb BK106.out) hb)
          have n2_ := zA (blk_below (g := gb117) (o := .cells #[.int .i64 t114, .int .i64 t115] 26 (0, 0)) (zb BK117.out) hb)
          have n3_ := zA (blk_below (g := gb125) (o := .cells #[.int .i64 t120, .int .i64 t121] 26 (0, 0)) (zb BK125.out) hb)
          have n4_ := zA (blk_below (g := gb126) (o := .cells #[.int .i64 t122, .int .i64 t123] 26 (0, 0)) (zb BK126.out) hb)
          have n5_ := zA (blk_below (g := gb132) (o := .cells #[.int .i64 t127, .int .i64 t128] 26 (0, 0)) (zb BK132.out) hb)
          have n6_ := zA (blk_below (g := gb133) (o := .cells #[.int .i64 t129, .int .i64 t130] 26 (0, 0)) (zb BK133.out) hb)
          have n7_ := zA (below_step (zHB) hb)
          clear BK105
          clear BK106
          clear BK117
          clear BK125
          clear BK126
          clear BK132
          clear BK133
          clear HB
          have BK105 := n0_
          have BK106 := n1_
          have BK117 := n2_
          have BK125 := n3_
          have BK126 := n4_
          have BK132 := n5_
          have BK133 := n6_
          have HB := n7_
          clear n0_ n1_ n2_ n3_ n4_ n5_ n6_ n7_
          (try clear hb)
          (try clear hb2)
          (try clear hk)
          (try clear hi)
          refine hK.out _ _ ⟨(blk_cell BK125.out 0).trans rfl, (blk_cell BK125.out 1).trans rfl, (blk_cell BK117.out 0).trans rfl, (blk_cell BK117.out 1).trans rfl, (blk_cell BK126.out 0).trans rfl, (blk_cell BK126.out 1).trans rfl⟩ (fun hHeld => ?_)
          clear hK K
          refine norm_ (a' := ?_) ?_ ?_
          rotate_left
          ·show Act.put _ (some 127) _ = _
           simp only [Act.put, u]
           rfl
          refine pure_ (i := 6) (N := some 128) (v := ?_) (a' := ?_) (zl 39 127) rfl rfl (any_of HT_.out (by kernel_rfl)) (fun _ _ _ h => h) (Or.inl ⟨by rfl, ?_⟩) ?_ ?_
          rotate_left
          ·intro w'
           go_simp
           with_reducible rfl
          rotate_left
          ·simp only [Act.put, u]
           rfl
          refine take_ (i := 7) (N := some 129) (v := ?_) (a' := ?_) (zl 39 255) rfl rfl (take_ofW HT_.out HW_.out (by kernel_rfl)) (fun _ _ _ h => h) (Or.inl ⟨by rfl, ?_⟩) hHeld ?_ ?_
          rotate_left
          ·rintro w' ⟨s0, s1, s2, s3, s4, s5⟩
           go_simp
           with_reducible rfl
          rotate_left
          ·simp only [Act.put, u]
           rfl
          refine take_ (i := 8) (N := some 130) (v := ?_) (a' := ?_) (zl 39 511) rfl rfl (take_ofW HT_.out HW_.out (by kernel_rfl)) (fun _ _ _ h => h) (Or.inl ⟨by rfl, ?_⟩) hHeld ?_ ?_
          rotate_left
          ·rintro w' ⟨s0, s1, s2, s3, s4, s5⟩
           go_simp
           with_reducible rfl
          rotate_left
          ·simp only [Act.put, u]
           rfl
          refine one_ (i := 9) (N := some 131) (zl 39 1023) rfl rfl (one_of HT_.out (by kernel_rfl)) (by decide) (fun K hK => ?_)
          refine goes_ Try.func36 (by kernel_rfl) rfl #[.agg #[.int .i64 t122, .int .i64 t123], .agg #[.int .i64 t114, .int .i64 t115]] (by rfl) rfl rfl y1  ?_
          with_reducible refine (impl_NetIn.calls t122 t123 t114 t115 true _ A231.out).mono ?_
          rintro e w251 ⟨rfl, hb⟩
          refine ⟨_, rfl, ?_⟩
          have n0_ := zA (blk_below (g := gb105) (o := .cells #[.int .i64 t101, .int .i64 t102] 26 (0, 0)) (zb BK105.out) hb)
          have n1_ := zA (blk_below (g := gb106) (o := .cells #[.int .i64 t103, .int .i64 t104] 26 (0, 0)) (zb BK106.out) hb)
          have n2_ := zA (blk_below (g := gb117) (o := .cells #[.int .i64 t114, .int .i64 t115] 26 (0, 0)) (zb BK117.out) hb)
          have n3_ := zA (blk_below (g := gb125) (o := .cells #[.int .i64 t120, .int .i64 t121] 26 (0, 0)) (zb BK125.out) hb)
          have n4_ := zA (blk_below (g := gb126) (o := .cells #[.int .i64 t122, .int .i64 t123] 26 (0, 0)) (zb BK126.out) hb)
          have n5_ := zA (blk_below (g := gb132) (o := .cells #[.int .i64 t127, .int .i64 t128] 26 (0, 0)) (zb BK132.out) hb)
          have n6_ := zA (blk_below (g := gb133) (o := .cells #[.int .i64 t129, .int .i64 t130] 26 (0, 0)) (zb BK133.out) hb)
          have n7_ := zA (below_step (zHB) hb)
          clear BK105
          clear BK106
          clear BK117
          clear BK125
          clear BK126
          clear BK132
          clear BK133
          clear HB
          have BK105 := n0_
          have BK106 := n1_
          have BK117 := n2_
          have BK125 := n3_
          have BK126 := n4_
          have BK132 := n5_
          have BK133 := n6_
          have HB := n7_
          clear n0_ n1_ n2_ n3_ n4_ n5_ n6_ n7_
          (try clear hb)
          (try clear hb2)
          (try clear hk)
          (try clear hi)
          refine hK.out _ _ ⟨(blk_cell BK125.out 0).trans rfl, (blk_cell BK125.out 1).trans rfl, (blk_cell BK117.out 0).trans rfl, (blk_cell BK117.out 1).trans rfl, (blk_cell BK126.out 0).trans rfl, (blk_cell BK126.out 1).trans rfl⟩ (fun hHeld => ?_)
          clear hK K
          refine norm_ (a' := ?_) ?_ ?_
          rotate_left
          ·show Act.put _ (some 131) _ = _
           simp only [Act.put, u]
           rfl
          refine pure_ (i := 10) (N := some 132) (v := ?_) (a' := ?_) (zl 39 2047) rfl rfl (any_of HT_.out (by kernel_rfl)) (fun _ _ _ h => h) (Or.inl ⟨by rfl, ?_⟩) ?_ ?_
          rotate_left
          ·intro w'
           go_simp
           with_reducible rfl
          rotate_left
          ·simp only [Act.put, u]
           rfl
          refine pure_ (i := 11) (N := some 133) (v := ?_) (a' := ?_) (zl 39 4095) rfl rfl (any_of HT_.out (by kernel_rfl)) (fun _ _ _ h => h) (Or.inl ⟨by rfl, ?_⟩) ?_ ?_
          rotate_left
          ·intro w'
           go_simp
           with_reducible rfl
          rotate_left
          ·simp only [Act.put, u]
           rfl
          refine take_ (i := 12) (N := some 134) (v := ?_) (a' := ?_) (zl 39 8191) rfl rfl (take_ofW HT_.out HW_.out (by kernel_rfl)) (fun _ _ _ h => h) (Or.inl ⟨by rfl, ?_⟩) hHeld ?_ ?_
          rotate_left
          ·rintro w' ⟨s0, s1, s2, s3, s4, s5⟩
           go_simp
           with_reducible rfl
          rotate_left
          ·simp only [Act.put, u]
           rfl
          refine take_ (i := 13) (N := some 135) (v := ?_) (a' := ?_) (zl 39 16383) rfl rfl (take_ofW HT_.out HW_.out (by kernel_rfl)) (fun _ _ _ h => h) (Or.inl ⟨by rfl, ?_⟩) hHeld ?_ ?_
          rotate_left
          ·rintro w' ⟨s0, s1, s2, s3, s4, s5⟩
           go_simp
           with_reducible rfl
          rotate_left
          ·simp only [Act.put, u]
           rfl
          refine one_ (i := 14) (N := some 136) (zl 39 32767) rfl rfl (one_of HT_.out (by kernel_rfl)) (by decide) (fun K hK => ?_)
          refine goes_ Try.func36 (by kernel_rfl) rfl #[.agg #[.int .i64 t120, .int .i64 t121], .agg #[.int .i64 t122, .int .i64 t123]] (by rfl) rfl rfl y1  ?_
          with_reducible refine (impl_NetIn.calls t120 t121 t122 t123 false _ A233.out).mono ?_
          rintro e w252 ⟨rfl, hb⟩
          refine ⟨_, rfl, ?_⟩
          have n0_ := zA (blk_below (g := gb105) (o := .cells #[.int .i64 t101, .int .i64 t102] 26 (0, 0)) (zb BK105.out) hb)
          have n1_ := zA (blk_below (g := gb106) (o := .cells #[.int .i64 t103, .int .i64 t104] 26 (0, 0)) (zb BK106.out) hb)
          have n2_ := zA (blk_below (g := gb117) (o := .cells #[.int .i64 t114, .int .i64 t115] 26 (0, 0)) (zb BK117.out) hb)
          have n3_ := zA (blk_below (g := gb125) (o := .cells #[.int .i64 t120, .int .i64 t121] 26 (0, 0)) (zb BK125.out) hb)
          have n4_ := zA (blk_below (g := gb126) (o := .cells #[.int .i64 t122, .int .i64 t123] 26 (0, 0)) (zb BK126.out) hb)
          have n5_ := zA (blk_below (g := gb132) (o := .cells #[.int .i64 t127, .int .i64 t128] 26 (0, 0)) (zb BK132.out) hb)
          have n6_ := zA (blk_below (g := gb133) (o := .cells #[.int .i64 t129, .int .i64 t130] 26 (0, 0)) (zb BK133.out) hb)
          have n7_ := zA (below_step (zHB) hb)
          clear BK105
          clear BK106
          clear BK117
          clear BK125
          clear BK126
          clear BK132
          clear BK133
          clear HB
          have BK105 := n0_
          have BK106 := n1_
          have BK117 := n2_
          have BK125 := n3_
          have BK126 := n4_
          have BK132 := n5_
          have BK133 := n6_
          have HB := n7_
          clear n0_ n1_ n2_ n3_ n4_ n5_ n6_ n7_
          (try clear hb)
          (try clear hb2)
          (try clear hk)
          (try clear hi)
          refine hK.out _ _ ⟨(blk_cell BK125.out 0).trans rfl, (blk_cell BK125.out 1).trans rfl, (blk_cell BK117.out 0).trans rfl, (blk_cell BK117.out 1).trans rfl, (blk_cell BK126.out 0).trans rfl, (blk_cell BK126.out 1).trans rfl⟩ (fun hHeld => ?_)
          clear hK K
          refine norm_ (a' := ?_) ?_ ?_
          rotate_left
          ·show Act.put _ (some 136) _ = _
           simp only [Act.put, u]
           rfl
          refine pure_ (i := 15) (N := some 137) (v := ?_) (a' := ?_) (zl 39 65535) rfl rfl (any_of HT_.out (by kernel_rfl)) (fun _ _ _ h => h) (Or.inl ⟨by rfl, ?_⟩) ?_ ?_
          rotate_left
          ·intro w'
           go_simp
           with_reducible rfl
          rotate_left
          ·simp only [Act.put, u]
           rfl
          refine pure_ (i := 16) (N := some 138) (v := ?_) (a' := ?_) (zl 39 131071) rfl rfl (any_of HT_.out (by kernel_rfl)) (fun _ _ _ h => h) (Or.inl ⟨by rfl, ?_⟩) ?_ ?_
          rotate_left
          ·intro w'
           go_simp
           with_reducible rfl
          rotate_left
          ·simp only [Act.put, u]
           rfl
          refine pure_ (i := 17) (N := some 139) (v := ?_) (a' := ?_) (zl 39 262143) rfl rfl (any_of HT_.out (by kernel_rfl)) (fun _ _ _ h => h) (Or.inl ⟨by rfl, ?_⟩) ?_ ?_
          rotate_left
          ·intro w'
           go_simp
           with_reducible rfl
          rotate_left
          ·simp only [Act.put, u]
           rfl
          refine take_ (i := 18) (N := some 140) (v := ?_) (a' := ?_) (zl 39 524287) rfl rfl (take_ofW HT_.out HW_.out (by kernel_rfl)) (fun _ _ _ h => h) (Or.inl ⟨by rfl, ?_⟩) hHeld ?_ ?_
          rotate_left
          ·rintro w' ⟨s0, s1, s2, s3, s4, s5⟩
           go_simp
           with_reducible rfl
          rotate_left
          ·simp only [Act.put, u]
           rfl
          refine take_ (i := 19) (N := some 141) (v := ?_) (a' := ?_) (zl 39 1048575) rfl rfl (take_ofW HT_.out HW_.out (by kernel_rfl)) (fun _ _ _ h => h) (Or.inl ⟨by rfl, ?_⟩) hHeld ?_ ?_
          rotate_left
          ·rintro w' ⟨s0, s1, s2, s3, s4, s5⟩
           go_simp
           with_reducible rfl
          rotate_left
          ·simp only [Act.put, u]
           rfl
          refine one_ (i := 20) (N := some 142) (zl 39 2097151) rfl rfl (one_of HT_.out (by kernel_rfl)) (by decide) (fun K hK => ?_)
          refine goes_ Try.func36 (by kernel_rfl) rfl #[.agg #[.int .i64 t122, .int .i64 t123], .agg #[.int .i64 t120, .int .i64 t121]] (by rfl) rfl rfl y1  ?_
          with_reducible refine (impl_NetIn.calls t122 t123 t120 t121 false _ A239.out).mono ?_
          rintro e w253 ⟨rfl, hb⟩
          refine ⟨_, rfl, ?_⟩
          have n0_ := zA (blk_below (g := gb105) (o := .cells #[.int .i64 t101, .int .i64 t102] 26 (0, 0)) (zb BK105.out) hb)
          have n1_ := zA (blk_below (g := gb106) (o := .cells #[.int .i64 t103, .int .i64 t104] 26 (0, 0)) (zb BK106.out) hb)
          have n2_ := zA (blk_below (g := gb117) (o := .cells #[.int .i64 t114, .int .i64 t115] 26 (0, 0)) (zb BK117.out) hb)
          have n3_ := zA (blk_below (g := gb125) (o := .cells #[.int .i64 t120, .int .i64 t121] 26 (0, 0)) (zb BK125.out) hb)
          have n4_ := zA (blk_below (g := gb126) (o := .cells #[.int .i64 t122, .int .i64 t123] 26 (0, 0)) (zb BK126.out) hb)
          have n5_ := zA (blk_below (g := gb132) (o := .cells #[.int .i64 t127, .int .i64 t128] 26 (0, 0)) (zb BK132.out) hb)
          have n6_ := zA (blk_below (g := gb133) (o := .cells #[.int .i64 t129, .int .i64 t130] 26 (0, 0)) (zb BK133.out) hb)
          have n7_ := zA (below_step (zHB) hb)
          clear BK105
          clear BK106
          clear BK117
          clear BK125
          clear BK126
          clear BK132
          clear BK133
          clear HB
          have BK105 := n0_
          have BK106 := n1_
          have BK117 := n2_
          have BK125 := n3_
          have BK126 := n4_
          have BK132 := n5_
          have BK133 := n6_
          have HB := n7_
          clear n0_ n1_ n2_ n3_ n4_ n5_ n6_ n7_
          (try clear hb)
          (try clear hb2)
          (try clear hk)
          (try clear hi)
          refine hK.out _ _ ⟨(blk_cell BK125.out 0).trans rfl, (blk_cell BK125.out 1).trans rfl, (blk_cell BK117.out 0).trans rfl, (blk_cell BK117.out 1).trans rfl, (blk_cell BK126.out 0).trans rfl, (blk_cell BK126.out 1).trans rfl⟩ (fun hHeld => ?_)
          clear hK K
          refine norm_ (a' := ?_) ?_ ?_
          rotate_left
          ·show Act.put _ (some 142) _ = _
           simp only [Act.put, u]
           rfl
          refine pure_ (i := 21) (N := some 143) (v := ?_) (a' := ?_) (zl 39 4194303) rfl rfl (any_of HT_.out (by kernel_rfl)) (fun _ _ _ h => h) (Or.inl ⟨by rfl, ?_⟩) ?_ ?_
          rotate_left
          ·intro w'
           go_simp
           with_reducible rfl
          rotate_left
          ·simp only [Act.put, u]
           rfl
          refine pure_ (i := 22) (N := some 144) (v := ?_) (a' := ?_) (zl 39 8388607) rfl rfl (any_of HT_.out (by kernel_rfl)) (fun _ _ _ h => h) (Or.inl ⟨by rfl, ?_⟩) ?_ ?_
          rotate_left
          ·intro w'
           go_simp
           with_reducible rfl
          rotate_left
          ·simp only [Act.put, u]
           rfl
          refine pure_ (i := 23) (N := some 145) (v := ?_) (a' := ?_) (zl 39 16777215) rfl rfl (any_of HT_.out (by kernel_rfl)) (fun _ _ _ h => h) (Or.inl ⟨by rfl, ?_⟩) ?_ ?_
          rotate_left
          ·intro w'
           go_simp
           with_reducible rfl
          rotate_left
          ·simp only [Act.put, u]
           rfl
          refine pure_ (i := 25) (N := some 147) (v := ?_) (a' := ?_) (zl 39 50331647) rfl rfl (any_of HT_.out (by kernel_rfl)) (fun _ _ _ h => h) (Or.inl ⟨by rfl, ?_⟩) ?_ ?_
          rotate_left
          ·intro w'
           go_simp
           with_reducible rfl
          rotate_left
          ·simp only [Act.put, u]
           rfl
          refine pure_ (i := 28) (N := some 150) (v := ?_) (a' := ?_) (zl 39 318767103) rfl rfl (any_of HT_.out (by kernel_rfl)) (fun _ _ _ h => h) (Or.inl ⟨by rfl, ?_⟩) ?_ ?_
          rotate_left
          ·intro w'
           go_simp
           with_reducible rfl
          rotate_left
          ·simp only [Act.put, u]
           rfl
          refine take_ (i := 24) (N := some 146) (v := ?_) (a' := ?_) (zl 39 335544319) rfl rfl (take_ofW HT_.out HW_.out (by kernel_rfl)) (fun _ _ _ h => h) (Or.inl ⟨by rfl, ?_⟩) hHeld ?_ ?_
          rotate_left
          ·rintro w' ⟨s0, s1, s2, s3, s4, s5⟩
           go_simp
           with_reducible rfl
          rotate_left
          ·simp only [Act.put, u]
           rfl
          refine take_ (i := 27) (N := some 149) (v := ?_) (a' := ?_) (zl 39 469762047) rfl rfl (take_ofW HT_.out HW_.out (by kernel_rfl)) (fun _ _ _ h => h) (Or.inl ⟨by rfl, ?_⟩) hHeld ?_ ?_
          rotate_left
          ·rintro w' ⟨s0, s1, s2, s3, s4, s5⟩
           go_simp
           with_reducible rfl
          rotate_left
          ·simp only [Act.put, u]
           rfl
          refine one_ (i := 26) (N := some 148) (zl 39 536870911) rfl rfl (one_of HT_.out (by kernel_rfl)) (by decide) (fun K hK => ?_)
          refine goes_ Try.func34 (by kernel_rfl) rfl #[.agg #[.int .i64 t114, .int .i64 t115], .int .i64 t116] (by rfl) rfl rfl y1  ?_
          with_reducible refine (impl_NetHas.calls t114 t115 t116 t139 _ A246.out).mono ?_
          rintro e w254 ⟨rfl, hb⟩
          refine ⟨_, rfl, ?_⟩
          have n0_ := zA (blk_below (g := gb105) (o := .cells #[.int .i64 t101, .int .i64 t102] 26 (0, 0)) (zb BK105.out) hb)
          have n1_ := zA (blk_below (g := gb106) (o := .cells #[.int .i64 t103, .int .i64 t104] 26 (0, 0)) (zb BK106.out) hb)
          have n2_ := zA (blk_below (g := gb117) (o := .cells #[.int .i64 t114, .int .i64 t115] 26 (0, 0)) (zb BK117.out) hb)
          have n3_ := zA (blk_below (g := gb125) (o := .cells #[.int .i64 t120, .int .i64 t121] 26 (0, 0)) (zb BK125.out) hb)
          have n4_ := zA (blk_below (g := gb126) (o := .cells #[.int .i64 t122, .int .i64 t123] 26 (0, 0)) (zb BK126.out) hb)
          have n5_ := zA (blk_below (g := gb132) (o := .cells #[.int .i64 t127, .int .i64 t128] 26 (0, 0)) (zb BK132.out) hb)
          have n6_ := zA (blk_below (g := gb133) (o := .cells #[.int .i64 t129, .int .i64 t130] 26 (0, 0)) (zb BK133.out) hb)
          have n7_ := zA (below_step (zHB) hb)
          clear BK105
          clear BK106
          clear BK117
          clear BK125
          clear BK126
          clear BK132
          clear BK133
          clear HB
          have BK105 := n0_
          have BK106 := n1_
          have BK117 := n2_
          have BK125 := n3_
          have BK126 := n4_
          have BK132 := n5_
          have BK133 := n6_
          have HB := n7_
          clear n0_ n1_ n2_ n3_ n4_ n5_ n6_ n7_
          (try clear hb)
          (try clear hb2)
          (try clear hk)
          (try clear hi)
          refine hK.out _ _ ⟨(blk_cell BK125.out 0).trans rfl, (blk_cell BK125.out 1).trans rfl, (blk_cell BK117.out 0).trans rfl, (blk_cell BK117.out 1).trans rfl, (blk_cell BK126.out 0).trans rfl, (blk_cell BK126.out 1).trans rfl⟩ (fun hHeld => ?_)
          clear hK K
          refine norm_ (a' := ?_) ?_ ?_
          rotate_left
          ·show Act.put _ (some 148) _ = _
           simp only [Act.put, u]
           rfl
          refine one_ (i := 29) (N := some 151) (zl 39 1073741823) rfl rfl (one_of HT_.out (by kernel_rfl)) (by decide) (fun K hK => ?_)
          refine goes_ Try.func34 (by kernel_rfl) rfl #[.agg #[.int .i64 t120, .int .i64 t121], .int .i64 t116] (by rfl) rfl rfl y1  ?_
          with_reducible refine (impl_NetHas.calls t120 t121 t116 true _ A247.out).mono ?_
          rintro e w255 ⟨rfl, hb⟩
          refine ⟨_, rfl, ?_⟩
          have n0_ := zA (blk_below (g := gb105) (o := .cells #[.int .i64 t101, .int .i64 t102] 26 (0, 0)) (zb BK105.out) hb)
          have n1_ := zA (blk_below (g := gb106) (o := .cells #[.int .i64 t103, .int .i64 t104] 26 (0, 0)) (zb BK106.out) hb)
          have n2_ := zA (blk_below (g := gb117) (o := .cells #[.int .i64 t114, .int .i64 t115] 26 (0, 0)) (zb BK117.out) hb)
          have n3_ := zA (blk_below (g := gb125) (o := .cells #[.int .i64 t120, .int .i64 t121] 26 (0, 0)) (zb BK125.out) hb)
          have n4_ := zA (blk_below (g := gb126) (o := .cells #[.int .i64 t122, .int .i64 t123] 26 (0, 0)) (zb BK126.out) hb)
          have n5_ := zA (blk_below (g := gb132) (o := .cells #[.int .i64 t127, .int .i64 t128] 26 (0, 0)) (zb BK132.out) hb)
          have n6_ := zA (blk_below (g := gb133) (o := .cells #[.int .i64 t129, .int .i64 t130] 26 (0, 0)) (zb BK133.out) hb)
          have n7_ := zA (below_step (zHB) hb)
          clear BK105
          clear BK106
          clear BK117
          clear BK125
          clear BK126
          clear BK132
          clear BK133
          clear HB
          have BK105 := n0_
          have BK106 := n1_
          have BK117 := n2_
          have BK125 := n3_
          have BK126 := n4_
          have BK132 := n5_
          have BK133 := n6_
          have HB := n7_
          clear n0_ n1_ n2_ n3_ n4_ n5_ n6_ n7_
          (try clear hb)
          (try clear hb2)
          (try clear hk)
          (try clear hi)
          refine hK.out _ _ ⟨(blk_cell BK125.out 0).trans rfl, (blk_cell BK125.out 1).trans rfl, (blk_cell BK117.out 0).trans rfl, (blk_cell BK117.out 1).trans rfl, (blk_cell BK126.out 0).trans rfl, (blk_cell BK126.out 1).trans rfl⟩ (fun hHeld => ?_)
          clear hK K
          refine norm_ (a' := ?_) ?_ ?_
          rotate_left
          ·show Act.put _ (some 151) _ = _
           simp only [Act.put, u]
           rfl
          refine pure_ (i := 30) (N := some 152) (v := ?_) (a' := ?_) (zl 39 2147483647) rfl rfl (any_of HT_.out (by kernel_rfl)) (fun _ _ _ h => h) (Or.inl ⟨by rfl, ?_⟩) ?_ ?_
          rotate_left
          ·intro w'
           go_simp
           with_reducible rfl
          rotate_left
          ·simp only [Act.put, u]
           rfl
          refine pure_ (i := 31) (N := some 153) (v := undef) (a' := ?_) (zl 39 4294967295) rfl rfl (any_of HT_.out (by kernel_rfl)) (fun _ _ _ h => h) (Or.inr ⟨by rfl, rfl⟩) ?_ ?_
          rotate_left
          ·simp only [Act.put, u]
           rfl
          refine pure_ (i := 32) (N := some 154) (v := undef) (a' := ?_) (zl 39 8589934591) rfl rfl (any_of HT_.out (by kernel_rfl)) (fun _ _ _ h => h) (Or.inr ⟨by rfl, rfl⟩) ?_ ?_
          rotate_left
          ·simp only [Act.put, u]
           rfl
          refine pure_ (i := 33) (N := some 155) (v := undef) (a' := ?_) (zl 39 17179869183) rfl rfl (any_of HT_.out (by kernel_rfl)) (fun _ _ _ h => h) (Or.inr ⟨by rfl, rfl⟩) ?_ ?_
          rotate_left
          ·simp only [Act.put, u]
           rfl
          refine pure_ (i := 34) (N := some 156) (v := ?_) (a' := ?_) (zl 39 34359738367) rfl rfl (any_of HT_.out (by kernel_rfl)) (fun _ _ _ h => h) (Or.inl ⟨by rfl, ?_⟩) ?_ ?_
          rotate_left
          ·intro w'
           go_simp
           with_reducible rfl
          rotate_left
          ·simp only [Act.put, u]
           rfl
          refine pure_ (i := 35) (N := some 157) (v := ?_) (a' := ?_) (zl 39 68719476735) rfl rfl (any_of HT_.out (by kernel_rfl)) (fun _ _ _ h => h) (Or.inl ⟨by rfl, ?_⟩) ?_ ?_
          rotate_left
          ·intro w'
           go_simp
           with_reducible rfl
          rotate_left
          ·simp only [Act.put, u]
           rfl
          refine pure_ (i := 36) (N := some 158) (v := ?_) (a' := ?_) (zl 39 137438953471) rfl rfl (any_of HT_.out (by kernel_rfl)) (fun _ _ _ h => h) (Or.inl ⟨by rfl, ?_⟩) ?_ ?_
          rotate_left
          ·intro w'
           go_simp
           with_reducible rfl
          rotate_left
          ·simp only [Act.put, u]
           rfl
          refine pure_ (i := 37) (N := some 159) (v := ?_) (a' := ?_) (zl 39 274877906943) rfl rfl (any_of HT_.out (by kernel_rfl)) (fun _ _ _ h => h) (Or.inl ⟨by rfl, ?_⟩) ?_ ?_
          rotate_left
          ·intro w'
           go_simp
           with_reducible rfl
          rotate_left
          ·simp only [Act.put, u]
           rfl
          refine pure_ (i := 38) (N := some 4) (v := ?_) (a' := ?_) (zl 39 549755813887) rfl rfl (any_of HT_.out (by kernel_rfl)) (fun _ _ _ h => h) (Or.inl ⟨by rfl, ?_⟩) ?_ ?_
          rotate_left
          ·intro w'
           go_simp
           with_reducible rfl
          rotate_left
          ·simp only [Act.put, u]
           rfl
          refine done_ (done_of HT_.out (by kernel_rfl)) ?_
          try go_wp2
          go_ret
          exact ⟨by first | rfl | (simp [errW_none, errW_some] <;> rfl) | (simp [*, errW_none, errW_some] <;> rfl), zHB⟩
         replace c248 := Bool.eq_false_iff.mpr c248
         subst c248
         have H1 : ((impl_NetHas.f t122 t123 t116).bind fun t141 => (some (t139 == t141))) = some r := by rw [if_neg (show ¬ (false = true) by decide)] at H; exact H
         clear H
         have H := H1
         clear H1
         replace H := Option.bind_eq_some_iff.mp H
         obtain ⟨t141, A2560, H⟩ := H
         replace H : (some (t139 == t141)) = some r := H
         have A256 := zA A2560
         clear A2560
         obtain rfl := Option.some.inj H
         try go_wp2
         have n0_ := zA (blk_drew BK105.out)
         have n1_ := zA (blk_drew BK106.out)
         have n2_ := zA (blk_drew BK117.out)
         have n3_ := zA (blk_drew BK125.out)
         have n4_ := zA (blk_drew BK126.out)
         have n5_ := zA (blk_drew BK132.out)
         have n6_ := zA (blk_drew BK133.out)
         have n7_ := zA (below_drew1 HB.out)
         clear BK105
         clear BK106
         clear BK117
         clear BK125
         clear BK126
         clear BK132
         clear BK133
         clear HB
         have BK105 := n0_
         have BK106 := n1_
         have BK117 := n2_
         have BK125 := n3_
         have BK126 := n4_
         have BK132 := n5_
         have BK133 := n6_
         have HB := n7_
         clear n0_ n1_ n2_ n3_ n4_ n5_ n6_ n7_
         refine start_ (n := 39) (S := fun w' => w'.cell? ⟨gb125, 0, none⟩ = some (.int .i64 t120) ∧ w'.cell? ⟨gb125, 1, none⟩ = some (.int .i64 t121) ∧ w'.cell? ⟨gb117, 0, none⟩ = some (.int .i64 t114) ∧ w'.cell? ⟨gb117, 1, none⟩ = some (.int .i64 t115) ∧ w'.cell? ⟨gb126, 0, none⟩ = some (.int .i64 t122) ∧ w'.cell? ⟨gb126, 1, none⟩ = some (.int .i64 t123)) (ds := []) (zl 39 0) (by kernel_rfl) rfl rfl ⟨(blk_cell BK125.out 0).trans rfl, (blk_cell BK125.out 1).trans rfl, (blk_cell BK117.out 0).trans rfl, (blk_cell BK117.out 1).trans rfl, (blk_cell BK126.out 0).trans rfl, (blk_cell BK126.out 1).trans rfl⟩ (fun hHeld => ?_); refine with_tabW laws_FnNetPrefix.tab22 laws_FnNetPrefix.bits22 (fun HT_ HW_ => ?_)
         generalize wc.drew = w257 at BK105 BK106 BK117 BK125 BK126 BK132 BK133 HB hHeld ⊢
         refine pure_ (i := 0) (N := some 122) (v := ?_) (a' := ?_) (zl 39 1) rfl rfl (any_of HT_.out (by kernel_rfl)) (fun _ _ _ h => h) (Or.inl ⟨by rfl, ?_⟩) ?_ ?_
         rotate_left
         ·intro w'
          go_simp
          with_reducible rfl
         rotate_left
         ·simp only [Act.put, u]
          rfl
         refine pure_ (i := 1) (N := some 123) (v := ?_) (a' := ?_) (zl 39 3) rfl rfl (any_of HT_.out (by kernel_rfl)) (fun _ _ _ h => h) (Or.inl ⟨by rfl, ?_⟩) ?_ ?_
         rotate_left
         ·intro w'
          go_simp
          with_reducible rfl
         rotate_left
         ·simp only [Act.put, u]
          rfl
         refine pure_ (i := 2) (N := some 124) (v := ?_) (a' := ?_) (zl 39 7) rfl rfl (any_of HT_.out (by kernel_rfl)) (fun _ _ _ h => h) (Or.inl ⟨by rfl, ?_⟩) ?_ ?_
         rotate_left
         ·intro w'
          go_simp
          with_reducible rfl
         rotate_left
         ·simp only [Act.put, u]
          rfl
         refine take_ (i := 3) (N := some 125) (v := ?_) (a' := ?_) (zl 39 15) rfl rfl (take_ofW HT_.out HW_.out (by kernel_rfl)) (fun _ _ _ h => h) (Or.inl ⟨by rfl, ?_⟩) hHeld ?_ ?_
         rotate_left
         ·rintro w' ⟨s0, s1, s2, s3, s4, s5⟩
          go_simp
          with_reducible rfl
         rotate_left
         ·simp only [Act.put, u]
          rfl
         refine take_ (i := 4) (N := some 126) (v := ?_) (a' := ?_) (zl 39 31) rfl rfl (take_ofW HT_.out HW_.out (by kernel_rfl)) (fun _ _ _ h => h) (Or.inl ⟨by rfl, ?_⟩) hHeld ?_ ?_
         rotate_left
         ·rintro w' ⟨s0, s1, s2, s3, s4, s5⟩
          go_simp
          with_reducible rfl
         rotate_left
         ·simp only [Act.put, u]
          rfl
         refine one_ (i := 5) (N := some 127) (zl 39 63) rfl rfl (one_of HT_.out (by kernel_rfl)) (by decide) (fun K hK => ?_)
         refine goes_ Try.func36 (by kernel_rfl) rfl #[.agg #[.int .i64 t120, .int .i64 t121], .agg #[.int .i64 t114, .int .i64 t115]] (by rfl) rfl rfl y1  ?_
         with_reducible refine (impl_NetIn.calls t120 t121 t114 t115 true _ A229.out).mono ?_
         rintro e w258 ⟨rfl, hb⟩
         refine ⟨_, rfl, ?_⟩
         have n0_ := zA (blk_below (g := gb105) (o := .cells #[.int .i64 t101, .int .i64 t102] 26 (0, 0)) (zb BK105.out) hb)
         have n1_ := zA (blk_below (g := gb106) (o := .cells #[.int .i64 t103, .int .i64 t104] 26 (0, 0)) (zb BK106.out) hb)
         have n2_ := zA (blk_below (g := gb117) (o := .cells #[.int .i64 t114, .int .i64 t115] 26 (0, 0)) (zb BK117.out) hb)
         have n3_ := zA (blk_below (g := gb125) (o := .cells #[.int .i64 t120, .int .i64 t121] 26 (0, 0)) (zb BK125.out) hb)
         have n4_ := zA (blk_below (g := gb126) (o := .cells #[.int .i64 t122, .int .i64 t123] 26 (0, 0)) (zb BK126.out) hb)
         have n5_ := zA (blk_below (g := gb132) (o := .cells #[.int .i64 t127, .int .i64 t128] 26 (0, 0)) (zb BK132.out) hb)
         have n6_ := zA (blk_below (g := gb133) (o := .cells #[.int .i64 t129, .int .i64 t130] 26 (0, 0)) (zb BK133.out) hb)
         have n7_ := zA (below_step (zHB) hb)
         clear BK105
         clear BK106
         clear BK117
         clear BK125
         clear BK126
         clear BK132
         clear BK133
         clear HB
         have BK105 := n0_
         have BK106 := n1_
         have BK117 := n2_
         have BK125 := n3_
         have BK126 := n4_
         have BK132 := n5_
         have BK133 := n6_
         have HB := n7_
         clear n0_ n1_ n2_ n3_ n4_ n5_ n6_ n7_
         (try clear hb)
         (try clear hb2)
         (try clear hk)
         (try clear hi)
         refine hK.out _ _ ⟨(blk_cell BK125.out 0).trans rfl, (blk_cell BK125.out 1).trans rfl, (blk_cell BK117.out 0).trans rfl, (blk_cell BK117.out 1).trans rfl, (blk_cell BK126.out 0).trans rfl, (blk_cell BK126.out 1).trans rfl⟩ (fun hHeld => ?_)
         clear hK K
         refine norm_ (a' := ?_) ?_ ?_
         rotate_left
         ·show Act.put _ (some 127) _ = _
          simp only [Act.put, u]
          rfl
         refine pure_ (i := 6) (N := some 128) (v := ?_) (a' := ?_) (zl 39 127) rfl rfl (any_of HT_.out (by kernel_rfl)) (fun _ _ _ h => h) (Or.inl ⟨by rfl, ?_⟩) ?_ ?_
         rotate_left
         ·intro w'
          go_simp
          with_reducible rfl
         rotate_left
         ·simp only [Act.put, u]
          rfl
         refine take_ (i := 7) (N := some 129) (v := ?_) (a' := ?_) (zl 39 255) rfl rfl (take_ofW HT_.out HW_.out (by kernel_rfl)) (fun _ _ _ h => h) (Or.inl ⟨by rfl, ?_⟩) hHeld ?_ ?_
         rotate_left
         ·rintro w' ⟨s0, s1, s2, s3, s4, s5⟩
          go_simp
          with_reducible rfl
         rotate_left
         ·simp only [Act.put, u]
          rfl
         refine take_ (i := 8) (N := some 130) (v := ?_) (a' := ?_) (zl 39 511) rfl rfl (take_ofW HT_.out HW_.out (by kernel_rfl)) (fun _ _ _ h => h) (Or.inl ⟨by rfl, ?_⟩) hHeld ?_ ?_
         rotate_left
         ·rintro w' ⟨s0, s1, s2, s3, s4, s5⟩
          go_simp
          with_reducible rfl
         rotate_left
         ·simp only [Act.put, u]
          rfl
         refine one_ (i := 9) (N := some 131) (zl 39 1023) rfl rfl (one_of HT_.out (by kernel_rfl)) (by decide) (fun K hK => ?_)
         refine goes_ Try.func36 (by kernel_rfl) rfl #[.agg #[.int .i64 t122, .int .i64 t123], .agg #[.int .i64 t114, .int .i64 t115]] (by rfl) rfl rfl y1  ?_
         with_reducible refine (impl_NetIn.calls t122 t123 t114 t115 true _ A231.out).mono ?_
         rintro e w259 ⟨rfl, hb⟩
         refine ⟨_, rfl, ?_⟩
         have n0_ := zA (blk_below (g := gb105) (o := .cells #[.int .i64 t101, .int .i64 t102] 26 (0, 0)) (zb BK105.out) hb)
         have n1_ := zA (blk_below (g := gb106) (o := .cells #[.int .i64 t103, .int .i64 t104] 26 (0, 0)) (zb BK106.out) hb)
         have n2_ := zA (blk_below (g := gb117) (o := .cells #[.int .i64 t114, .int .i64 t115] 26 (0, 0)) (zb BK117.out) hb)
         have n3_ := zA (blk_below (g := gb125) (o := .cells #[.int .i64 t120, .int .i64 t121] 26 (0, 0)) (zb BK125.out) hb)
         have n4_ := zA (blk_below (g := gb126) (o := .cells #[.int .i64 t122, .int .i64 t123] 26 (0, 0)) (zb BK126.out) hb)
         have n5_ := zA (blk_below (g := gb132) (o := .cells #[.int .i64 t127, .int .i64 t128] 26 (0, 0)) (zb BK132.out) hb)
         have n6_ := zA (blk_below (g := gb133) (o := .cells #[.int .i64 t129, .int .i64 t130] 26 (0, 0)) (zb BK133.out) hb)
         have n7_ := zA (below_step (zHB) hb)
         clear BK105
         clear BK106
         clear BK117
         clear BK125
         clear BK126
         clear BK132
         clear BK133
         clear HB
         have BK105 := n0_
         have BK106 := n1_
         have BK117 := n2_
         have BK125 := n3_
         have BK126 := n4_
         have BK132 := n5_
         have BK133 := n6_
         have HB := n7_
         clear n0_ n1_ n2_ n3_ n4_ n5_ n6_ n7_
         (try clear hb)
         (try clear hb2)
         (try clear hk)
         (try clear hi)
         refine hK.out _ _ ⟨(blk_cell BK125.out 0).trans rfl, (blk_cell BK125.out 1).trans rfl, (blk_cell BK117.out 0).trans rfl, (blk_cell BK117.out 1).trans rfl, (blk_cell BK126.out 0).trans rfl, (blk_cell BK126.out 1).trans rfl⟩ (fun hHeld => ?_)
         clear hK K
         refine norm_ (a' := ?_) ?_ ?_
         rotate_left
         ·show Act.put _ (some 131) _ = _
          simp only [Act.put, u]
          rfl
         refine pure_ (i := 10) (N := some 132) (v := ?_) (a' := ?_) (zl 39 2047) rfl rfl (any_of HT_.out (by kernel_rfl)) (fun _ _ _ h => h) (Or.inl ⟨by rfl, ?_⟩) ?_ ?_
         rotate_left
         ·intro w'
          go_simp
          with_reducible rfl
         rotate_left
         ·simp only [Act.put, u]
          rfl
         refine pure_ (i := 11) (N := some 133) (v := ?_) (a' := ?_) (zl 39 4095) rfl rfl (any_of HT_.out (by kernel_rfl)) (fun _ _ _ h => h) (Or.inl ⟨by rfl, ?_⟩) ?_ ?_
         rotate_left
         ·intro w'
          go_simp
          with_reducible rfl
         rotate_left
         ·simp only [Act.put, u]
          rfl
         refine take_ (i := 12) (N := some 134) (v := ?_) (a' := ?_) (zl 39 8191) rfl rfl (take_ofW HT_.out HW_.out (by kernel_rfl)) (fun _ _ _ h => h) (Or.inl ⟨by rfl, ?_⟩) hHeld ?_ ?_
         rotate_left
         ·rintro w' ⟨s0, s1, s2, s3, s4, s5⟩
          go_simp
          with_reducible rfl
         rotate_left
         ·simp only [Act.put, u]
          rfl
         refine take_ (i := 13) (N := some 135) (v := ?_) (a' := ?_) (zl 39 16383) rfl rfl (take_ofW HT_.out HW_.out (by kernel_rfl)) (fun _ _ _ h => h) (Or.inl ⟨by rfl, ?_⟩) hHeld ?_ ?_
         rotate_left
         ·rintro w' ⟨s0, s1, s2, s3, s4, s5⟩
          go_simp
          with_reducible rfl
         rotate_left
         ·simp only [Act.put, u]
          rfl
         refine one_ (i := 14) (N := some 136) (zl 39 32767) rfl rfl (one_of HT_.out (by kernel_rfl)) (by decide) (fun K hK => ?_)
         refine goes_ Try.func36 (by kernel_rfl) rfl #[.agg #[.int .i64 t120, .int .i64 t121], .agg #[.int .i64 t122, .int .i64 t123]] (by rfl) rfl rfl y1  ?_
         with_reducible refine (impl_NetIn.calls t120 t121 t122 t123 false _ A233.out).mono ?_
         rintro e w260 ⟨rfl, hb⟩
         refine ⟨_, rfl, ?_⟩
         have n0_ := zA (blk_below (g := gb105) (o := .cells #[.int .i64 t101, .int .i64 t102] 26 (0, 0)) (zb BK105.out) hb)
         have n1_ := zA (blk_below (g := gb106) (o := .cells #[.int .i64 t103, .int .i64 t104] 26 (0, 0)) (zb BK106.out) hb)
         have n2_ := zA (blk_below (g := gb117) (o := .cells #[.int .i64 t114, .int .i64 t115] 26 (0, 0)) (zb BK117.out) hb)
         have n3_ := zA (blk_below (g := gb125) (o := .cells #[.int .i64 t120, .int .i64 t121] 26 (0, 0)) (zb BK125.out) hb)
         have n4_ := zA (blk_below (g := gb126) (o := .cells #[.int .i64 t122, .int .i64 t123] 26 (0, 0)) (zb BK126.out) hb)
         have n5_ := zA (blk_below (g := gb132) (o := .cells #[.int .i64 t127, .int .i64 t128] 26 (0, 0)) (zb BK132.out) hb)
         have n6_ := zA (blk_below (g := gb133) (o := .cells #[.int .i64 t129, .int .i64 t130] 26 (0, 0)) (zb BK133.out) hb)
         have n7_ := zA (below_step (zHB) hb)
         clear BK105
         clear BK106
         clear BK117
         clear BK125
         clear BK126
         clear BK132
         clear BK133
         clear HB
         have BK105 := n0_
         have BK106 := n1_
         have BK117 := n2_
         have BK125 := n3_
         have BK126 := n4_
         have BK132 := n5_
         have BK133 := n6_
         have HB := n7_
         clear n0_ n1_ n2_ n3_ n4_ n5_ n6_ n7_
         (try clear hb)
         (try clear hb2)
         (try clear hk)
         (try clear hi)
         refine hK.out _ _ ⟨(blk_cell BK125.out 0).trans rfl, (blk_cell BK125.out 1).trans rfl, (blk_cell BK117.out 0).trans rfl, (blk_cell BK117.out 1).trans rfl, (blk_cell BK126.out 0).trans rfl, (blk_cell BK126.out 1).trans rfl⟩ (fun hHeld => ?_)
         clear hK K
         refine norm_ (a' := ?_) ?_ ?_
         rotate_left
         ·show Act.put _ (some 136) _ = _
          simp only [Act.put, u]
          rfl
         refine pure_ (i := 15) (N := some 137) (v := ?_) (a' := ?_) (zl 39 65535) rfl rfl (any_of HT_.out (by kernel_rfl)) (fun _ _ _ h => h) (Or.inl ⟨by rfl, ?_⟩) ?_ ?_
         rotate_left
         ·intro w'
          go_simp
          with_reducible rfl
         rotate_left
         ·simp only [Act.put, u]
          rfl
         refine pure_ (i := 16) (N := some 138) (v := ?_) (a' := ?_) (zl 39 131071) rfl rfl (any_of HT_.out (by kernel_rfl)) (fun _ _ _ h => h) (Or.inl ⟨by rfl, ?_⟩) ?_ ?_
         rotate_left
         ·intro w'
          go_simp
          with_reducible rfl
         rotate_left
         ·simp only [Act.put, u]
          rfl
         refine pure_ (i := 17) (N := some 139) (v := ?_) (a' := ?_) (zl 39 262143) rfl rfl (any_of HT_.out (by kernel_rfl)) (fun _ _ _ h => h) (Or.inl ⟨by rfl, ?_⟩) ?_ ?_
         rotate_left
         ·intro w'
          go_simp
          with_reducible rfl
         rotate_left
         ·simp only [Act.put, u]
          rfl
         refine take_ (i := 18) (N := some 140) (v := ?_) (a' := ?_) (zl 39 524287) rfl rfl (take_ofW HT_.out HW_.out (by kernel_rfl)) (fun _ _ _ h => h) (Or.inl ⟨by rfl, ?_⟩) hHeld ?_ ?_
         rotate_left
         ·rintro w' ⟨s0, s1, s2, s3, s4, s5⟩
          go_simp
          with_reducible rfl
         rotate_left
         ·simp only [Act.put, u]
          rfl
         refine take_ (i := 19) (N := some 141) (v := ?_) (a' := ?_) (zl 39 1048575) rfl rfl (take_ofW HT_.out HW_.out (by kernel_rfl)) (fun _ _ _ h => h) (Or.inl ⟨by rfl, ?_⟩) hHeld ?_ ?_
         rotate_left
         ·rintro w' ⟨s0, s1, s2, s3, s4, s5⟩
          go_simp
          with_reducible rfl
         rotate_left
         ·simp only [Act.put, u]
          rfl
         refine one_ (i := 20) (N := some 142) (zl 39 2097151) rfl rfl (one_of HT_.out (by kernel_rfl)) (by decide) (fun K hK => ?_)
         refine goes_ Try.func36 (by kernel_rfl) rfl #[.agg #[.int .i64 t122, .int .i64 t123], .agg #[.int .i64 t120, .int .i64 t121]] (by rfl) rfl rfl y1  ?_
         with_reducible refine (impl_NetIn.calls t122 t123 t120 t121 false _ A239.out).mono ?_
         rintro e w261 ⟨rfl, hb⟩
         refine ⟨_, rfl, ?_⟩
         have n0_ := zA (blk_below (g := gb105) (o := .cells #[.int .i64 t101, .int .i64 t102] 26 (0, 0)) (zb BK105.out) hb)
         have n1_ := zA (blk_below (g := gb106) (o := .cells #[.int .i64 t103, .int .i64 t104] 26 (0, 0)) (zb BK106.out) hb)
         have n2_ := zA (blk_below (g := gb117) (o := .cells #[.int .i64 t114, .int .i64 t115] 26 (0, 0)) (zb BK117.out) hb)
         have n3_ := zA (blk_below (g := gb125) (o := .cells #[.int .i64 t120, .int .i64 t121] 26 (0, 0)) (zb BK125.out) hb)
         have n4_ := zA (blk_below (g := gb126) (o := .cells #[.int .i64 t122, .int .i64 t123] 26 (0, 0)) (zb BK126.out) hb)
         have n5_ := zA (blk_below (g := gb132) (o := .cells #[.int .i64 t127, .int .i64 t128] 26 (0, 0)) (zb BK132.out) hb)
         have n6_ := zA (blk_below (g := gb133) (o := .cells #[.int .i64 t129, .int .i64 t130] 26 (0, 0)) (zb BK133.out) hb)
         have n7_ := zA (below_step (zHB) hb)
         clear BK105
         clear BK106
         clear BK117
         clear BK125
         clear BK126
         clear BK132
         clear BK133
         clear HB
         have BK105 := n0_
         have BK106 := n1_
         have BK117 := n2_
         have BK125 := n3_
         have BK126 := n4_
         have BK132 := n5_
         have BK133 := n6_
         have HB := n7_
         clear n0_ n1_ n2_ n3_ n4_ n5_ n6_ n7_
         (try clear hb)
         (try clear hb2)
         (try clear hk)
         (try clear hi)
         refine hK.out _ _ ⟨(blk_cell BK125.out 0).trans rfl, (blk_cell BK125.out 1).trans rfl, (blk_cell BK117.out 0).trans rfl, (blk_cell BK117.out 1).trans rfl, (blk_cell BK126.out 0).trans rfl, (blk_cell BK126.out 1).trans rfl⟩ (fun hHeld => ?_)
         clear hK K
         refine norm_ (a' := ?_) ?_ ?_
         rotate_left
         ·show Act.put _ (some 142) _ = _
          simp only [Act.put, u]
          rfl
         refine pure_ (i := 21) (N := some 143) (v := ?_) (a' := ?_) (zl 39 4194303) rfl rfl (any_of HT_.out (by kernel_rfl)) (fun _ _ _ h => h) (Or.inl ⟨by rfl, ?_⟩) ?_ ?_
         rotate_left
         ·intro w'
          go_simp
          with_reducible rfl
         rotate_left
         ·simp only [Act.put, u]
          rfl
         refine pure_ (i := 22) (N := some 144) (v := ?_) (a' := ?_) (zl 39 8388607) rfl rfl (any_of HT_.out (by kernel_rfl)) (fun _ _ _ h => h) (Or.inl ⟨by rfl, ?_⟩) ?_ ?_
         rotate_left
         ·intro w'
          go_simp
          with_reducible rfl
         rotate_left
         ·simp only [Act.put, u]
          rfl
         refine pure_ (i := 23) (N := some 145) (v := ?_) (a' := ?_) (zl 39 16777215) rfl rfl (any_of HT_.out (by kernel_rfl)) (fun _ _ _ h => h) (Or.inl ⟨by rfl, ?_⟩) ?_ ?_
         rotate_left
         ·intro w'
          go_simp
          with_reducible rfl
         rotate_left
         ·simp only [Act.put, u]
          rfl
         refine pure_ (i := 25) (N := some 147) (v := ?_) (a' := ?_) (zl 39 50331647) rfl rfl (any_of HT_.out (by kernel_rfl)) (fun _ _ _ h => h) (Or.inl ⟨by rfl, ?_⟩) ?_ ?_
         rotate_left
         ·intro w'
          go_simp
          with_reducible rfl
         rotate_left
         ·simp only [Act.put, u]
          rfl
         refine pure_ (i := 28) (N := some 150) (v := ?_) (a' := ?_) (zl 39 318767103) rfl rfl (any_of HT_.out (by kernel_rfl)) (fun _ _ _ h => h) (Or.inl ⟨by rfl, ?_⟩) ?_ ?_
         rotate_left
         ·intro w'
          go_simp
          with_reducible rfl
         rotate_left
         ·simp only [Act.put, u]
          rfl
         refine take_ (i := 24) (N := some 146) (v := ?_) (a' := ?_) (zl 39 335544319) rfl rfl (take_ofW HT_.out HW_.out (by kernel_rfl)) (fun _ _ _ h => h) (Or.inl ⟨by rfl, ?_⟩) hHeld ?_ ?_
         rotate_left
         ·rintro w' ⟨s0, s1, s2, s3, s4, s5⟩
          go_simp
          with_reducible rfl
         rotate_left
         ·simp only [Act.put, u]
          rfl
         refine take_ (i := 27) (N := some 149) (v := ?_) (a' := ?_) (zl 39 469762047) rfl rfl (take_ofW HT_.out HW_.out (by kernel_rfl)) (fun _ _ _ h => h) (Or.inl ⟨by rfl, ?_⟩) hHeld ?_ ?_
         rotate_left
         ·rintro w' ⟨s0, s1, s2, s3, s4, s5⟩
          go_simp
          with_reducible rfl
         rotate_left
         ·simp only [Act.put, u]
          rfl
         refine one_ (i := 26) (N := some 148) (zl 39 536870911) rfl rfl (one_of HT_.out (by kernel_rfl)) (by decide) (fun K hK => ?_)
         refine goes_ Try.func34 (by kernel_rfl) rfl #[.agg #[.int .i64 t114, .int .i64 t115], .int .i64 t116] (by rfl) rfl rfl y1  ?_
         with_reducible refine (impl_NetHas.calls t114 t115 t116 t139 _ A246.out).mono ?_
         rintro e w262 ⟨rfl, hb⟩
         refine ⟨_, rfl, ?_⟩
         have n0_ := zA (blk_below (g := gb105) (o := .cells #[.int .i64 t101, .int .i64 t102] 26 (0, 0)) (zb BK105.out) hb)
         have n1_ := zA (blk_below (g := gb106) (o := .cells #[.int .i64 t103, .int .i64 t104] 26 (0, 0)) (zb BK106.out) hb)
         have n2_ := zA (blk_below (g := gb117) (o := .cells #[.int .i64 t114, .int .i64 t115] 26 (0, 0)) (zb BK117.out) hb)
         have n3_ := zA (blk_below (g := gb125) (o := .cells #[.int .i64 t120, .int .i64 t121] 26 (0, 0)) (zb BK125.out) hb)
         have n4_ := zA (blk_below (g := gb126) (o := .cells #[.int .i64 t122, .int .i64 t123] 26 (0, 0)) (zb BK126.out) hb)
         have n5_ := zA (blk_below (g := gb132) (o := .cells #[.int .i64 t127, .int .i64 t128] 26 (0, 0)) (zb BK132.out) hb)
         have n6_ := zA (blk_below (g := gb133) (o := .cells #[.int .i64 t129, .int .i64 t130] 26 (0, 0)) (zb BK133.out) hb)
         have n7_ := zA (below_step (zHB) hb)
         clear BK105
         clear BK106
         clear BK117
         clear BK125
         clear BK126
         clear BK132
         clear BK133
         clear HB
         have BK105 := n0_
         have BK106 := n1_
         have BK117 := n2_
         have BK125 := n3_
         have BK126 := n4_
         have BK132 := n5_
         have BK133 := n6_
         have HB := n7_
         clear n0_ n1_ n2_ n3_ n4_ n5_ n6_ n7_
         (try clear hb)
         (try clear hb2)
         (try clear hk)
         (try clear hi)
         refine hK.out _ _ ⟨(blk_cell BK125.out 0).trans rfl, (blk_cell BK125.out 1).trans rfl, (blk_cell BK117.out 0).trans rfl, (blk_cell BK117.out 1).trans rfl, (blk_cell BK126.out 0).trans rfl, (blk_cell BK126.out 1).trans rfl⟩ (fun hHeld => ?_)
         clear hK K
         refine norm_ (a' := ?_) ?_ ?_
         rotate_left
         ·show Act.put _ (some 148) _ = _
          simp only [Act.put, u]
          rfl
         refine one_ (i := 29) (N := some 151) (zl 39 1073741823) rfl rfl (one_of HT_.out (by kernel_rfl)) (by decide) (fun K hK => ?_)
         refine goes_ Try.func34 (by kernel_rfl) rfl #[.agg #[.int .i64 t120, .int .i64 t121], .int .i64 t116] (by rfl) rfl rfl y1  ?_
         with_reducible refine (impl_NetHas.calls t120 t121 t116 false _ A247.out).mono ?_
         rintro e w263 ⟨rfl, hb⟩
         refine ⟨_, rfl, ?_⟩
         have n0_ := zA (blk_below (g := gb105) (o := .cells #[.int .i64 t101, .int .i64 t102] 26 (0, 0)) (zb BK105.out) hb)
         have n1_ := zA (blk_below (g := gb106) (o := .cells #[.int .i64 t103, .int .i64 t104] 26 (0, 0)) (zb BK106.out) hb)
         have n2_ := zA (blk_below (g := gb117) (o := .cells #[.int .i64 t114, .int .i64 t115] 26 (0, 0)) (zb BK117.out) hb)
         have n3_ := zA (blk_below (g := gb125) (o := .cells #[.int .i64 t120, .int .i64 t121] 26 (0, 0)) (zb BK125.out) hb)
         have n4_ := zA (blk_below (g := gb126) (o := .cells #[.int .i64 t122, .int .i64 t123] 26 (0, 0)) (zb BK126.out) hb)
         have n5_ := zA (blk_below (g := gb132) (o := .cells #[.int .i64 t127, .int .i64 t128] 26 (0, 0)) (zb BK132.out) hb)
         have n6_ := zA (blk_below (g := gb133) (o := .cells #[.int .i64 t129, .int .i64 t130] 26 (0, 0)) (zb BK133.out) hb)
         have n7_ := zA (below_step (zHB) hb)
         clear BK105
         clear BK106
         clear BK117
         clear BK125
         clear BK126
         clear BK132
         clear BK133
         clear HB
         have BK105 := n0_
         have BK106 := n1_
         have BK117 := n2_
         have BK125 := n3_
         have BK126 := n4_
         have BK132 := n5_
         have BK133 := n6_
         have HB := n7_
         clear n0_ n1_ n2_ n3_ n4_ n5_ n6_ n7_
         (try clear hb)
         (try clear hb2)
         (try clear hk)
         (try clear hi)
         refine hK.out _ _ ⟨(blk_cell BK125.out 0).trans rfl, (blk_cell BK125.out 1).trans rfl, (blk_cell BK117.out 0).trans rfl, (blk_cell BK117.out 1).trans rfl, (blk_cell BK126.out 0).trans rfl, (blk_cell BK126.out 1).trans rfl⟩ (fun hHeld => ?_)
         clear hK K
         refine norm_ (a' := ?_) ?_ ?_
         rotate_left
         ·show Act.put _ (some 151) _ = _
          simp only [Act.put, u]
          rfl
         refine pure_ (i := 30) (N := some 152) (v := ?_) (a' := ?_) (zl 39 2147483647) rfl rfl (any_of HT_.out (by kernel_rfl)) (fun _ _ _ h => h) (Or.inl ⟨by rfl, ?_⟩) ?_ ?_
         rotate_left
         ·intro w'
          go_simp
          with_reducible rfl
         rotate_left
         ·simp only [Act.put, u]
          rfl
         refine pure_ (i := 32) (N := some 154) (v := ?_) (a' := ?_) (zl 39 6442450943) rfl rfl (any_of HT_.out (by kernel_rfl)) (fun _ _ _ h => h) (Or.inl ⟨by rfl, ?_⟩) ?_ ?_
         rotate_left
         ·intro w'
          go_simp
          with_reducible rfl
         rotate_left
         ·simp only [Act.put, u]
          rfl
         refine take_ (i := 31) (N := some 153) (v := ?_) (a' := ?_) (zl 39 8589934591) rfl rfl (take_ofW HT_.out HW_.out (by kernel_rfl)) (fun _ _ _ h => h) (Or.inl ⟨by rfl, ?_⟩) hHeld ?_ ?_
         rotate_left
         ·rintro w' ⟨s0, s1, s2, s3, s4, s5⟩
          go_simp
          with_reducible rfl
         rotate_left
         ·simp only [Act.put, u]
          rfl
         refine one_ (i := 33) (N := some 155) (zl 39 17179869183) rfl rfl (one_of HT_.out (by kernel_rfl)) (by decide) (fun K hK => ?_)
         refine goes_ Try.func34 (by kernel_rfl) rfl #[.agg #[.int .i64 t122, .int .i64 t123], .int .i64 t116] (by rfl) rfl rfl y1  ?_
         with_reducible refine (impl_NetHas.calls t122 t123 t116 t141 _ A256.out).mono ?_
         rintro e w264 ⟨rfl, hb⟩
         refine ⟨_, rfl, ?_⟩
         have n0_ := zA (blk_below (g := gb105) (o := .cells #[.int .i64 t101, .int .i64 t102] 26 (0, 0)) (zb BK105.out) hb)
         have n1_ := zA (blk_below (g := gb106) (o := .cells #[.int .i64 t103, .int .i64 t104] 26 (0, 0)) (zb BK106.out) hb)
         have n2_ := zA (blk_below (g := gb117) (o := .cells #[.int .i64 t114, .int .i64 t115] 26 (0, 0)) (zb BK117.out) hb)
         have n3_ := zA (blk_below (g := gb125) (o := .cells #[.int .i64 t120, .int .i64 t121] 26 (0, 0)) (zb BK125.out) hb)
         have n4_ := zA (blk_below (g := gb126) (o := .cells #[.int .i64 t122, .int .i64 t123] 26 (0, 0)) (zb BK126.out) hb)
         have n5_ := zA (blk_below (g := gb132) (o := .cells #[.int .i64 t127, .int .i64 t128] 26 (0, 0)) (zb BK132.out) hb)
         have n6_ := zA (blk_below (g := gb133) (o := .cells #[.int .i64 t129, .int .i64 t130] 26 (0, 0)) (zb BK133.out) hb)
         have n7_ := zA (below_step (zHB) hb)
         clear BK105
         clear BK106
         clear BK117
         clear BK125
         clear BK126
         clear BK132
         clear BK133
         clear HB
         have BK105 := n0_
         have BK106 := n1_
         have BK117 := n2_
         have BK125 := n3_
         have BK126 := n4_
         have BK132 := n5_
         have BK133 := n6_
         have HB := n7_
         clear n0_ n1_ n2_ n3_ n4_ n5_ n6_ n7_
         (try clear hb)
         (try clear hb2)
         (try clear hk)
         (try clear hi)
         refine hK.out _ _ ⟨(blk_cell BK125.out 0).trans rfl, (blk_cell BK125.out 1).trans rfl, (blk_cell BK117.out 0).trans rfl, (blk_cell BK117.out 1).trans rfl, (blk_cell BK126.out 0).trans rfl, (blk_cell BK126.out 1).trans rfl⟩ (fun hHeld => ?_)
         clear hK K
         refine norm_ (a' := ?_) ?_ ?_
         rotate_left
         ·show Act.put _ (some 155) _ = _
          simp only [Act.put, u]
          rfl
         refine pure_ (i := 34) (N := some 156) (v := ?_) (a' := ?_) (zl 39 34359738367) rfl rfl (any_of HT_.out (by kernel_rfl)) (fun _ _ _ h => h) (Or.inl ⟨by rfl, ?_⟩) ?_ ?_
         rotate_left
         ·intro w'
          go_simp
          with_reducible rfl
         rotate_left
         ·simp only [Act.put, u]
          rfl
         refine pure_ (i := 35) (N := some 157) (v := ?_) (a' := ?_) (zl 39 68719476735) rfl rfl (any_of HT_.out (by kernel_rfl)) (fun _ _ _ h => h) (Or.inl ⟨by rfl, ?_⟩) ?_ ?_
         rotate_left
         ·intro w'
          go_simp
          with_reducible rfl
         rotate_left
         ·simp only [Act.put, u]
          rfl
         refine pure_ (i := 36) (N := some 158) (v := ?_) (a' := ?_) (zl 39 137438953471) rfl rfl (any_of HT_.out (by kernel_rfl)) (fun _ _ _ h => h) (Or.inl ⟨by rfl, ?_⟩) ?_ ?_
         rotate_left
         ·intro w'
          go_simp
          with_reducible rfl
         rotate_left
         ·simp only [Act.put, u]
          rfl
         refine pure_ (i := 37) (N := some 159) (v := ?_) (a' := ?_) (zl 39 274877906943) rfl rfl (any_of HT_.out (by kernel_rfl)) (fun _ _ _ h => h) (Or.inl ⟨by rfl, ?_⟩) ?_ ?_
         rotate_left
         ·intro w'
          go_simp
          with_reducible rfl
         rotate_left
         ·simp only [Act.put, u]
          rfl
         refine pure_ (i := 38) (N := some 4) (v := ?_) (a' := ?_) (zl 39 549755813887) rfl rfl (any_of HT_.out (by kernel_rfl)) (fun _ _ _ h => h) (Or.inl ⟨by rfl, ?_⟩) ?_ ?_
         rotate_left
         ·intro w'
          go_simp
          with_reducible rfl
         rotate_left
         ·simp only [Act.put, u]
          rfl
         refine done_ (done_of HT_.out (by kernel_rfl)) ?_
         try go_wp2
         go_ret
         exact ⟨by first | rfl | (simp [errW_none, errW_some] <;> rfl) | (simp [*, errW_none, errW_some] <;> rfl), zHB⟩
        replace c232 := Bool.eq_false_iff.mpr c232
        subst c232
        have H1 : (some false) = some r := by rw [if_neg (show ¬ (false = true) by decide)] at H; exact H
        clear H
        have H := H1
        clear H1
        obtain rfl := Option.some.inj H
        try go_wp2
        have n0_ := zA (blk_drew BK105.out)
        have n1_ := zA (blk_drew BK106.out)
        have n2_ := zA (blk_drew BK117.out)
        have n3_ := zA (blk_drew BK125.out)
        have n4_ := zA (blk_drew BK126.out)
        have n5_ := zA (blk_drew BK132.out)
        have n6_ := zA (blk_drew BK133.out)
        have n7_ := zA (below_drew1 HB.out)
        clear BK105
        clear BK106
        clear BK117
        clear BK125
        clear BK126
        clear BK132
        clear BK133
        clear HB
        have BK105 := n0_
        have BK106 := n1_
        have BK117 := n2_
        have BK125 := n3_
        have BK126 := n4_
        have BK132 := n5_
        have BK133 := n6_
        have HB := n7_
        clear n0_ n1_ n2_ n3_ n4_ n5_ n6_ n7_
        refine start_ (n := 39) (S := fun w' => w'.cell? ⟨gb125, 0, none⟩ = some (.int .i64 t120) ∧ w'.cell? ⟨gb125, 1, none⟩ = some (.int .i64 t121) ∧ w'.cell? ⟨gb117, 0, none⟩ = some (.int .i64 t114) ∧ w'.cell? ⟨gb117, 1, none⟩ = some (.int .i64 t115) ∧ w'.cell? ⟨gb126, 0, none⟩ = some (.int .i64 t122) ∧ w'.cell? ⟨gb126, 1, none⟩ = some (.int .i64 t123)) (ds := []) (zl 39 0) (by kernel_rfl) rfl rfl ⟨(blk_cell BK125.out 0).trans rfl, (blk_cell BK125.out 1).trans rfl, (blk_cell BK117.out 0).trans rfl, (blk_cell BK117.out 1).trans rfl, (blk_cell BK126.out 0).trans rfl, (blk_cell BK126.out 1).trans rfl⟩ (fun hHeld => ?_); refine with_tabW laws_FnNetPrefix.tab22 laws_FnNetPrefix.bits22 (fun HT_ HW_ => ?_)
        generalize wc.drew = w265 at BK105 BK106 BK117 BK125 BK126 BK132 BK133 HB hHeld ⊢
        refine pure_ (i := 0) (N := some 122) (v := ?_) (a' := ?_) (zl 39 1) rfl rfl (any_of HT_.out (by kernel_rfl)) (fun _ _ _ h => h) (Or.inl ⟨by rfl, ?_⟩) ?_ ?_
        rotate_left
        ·intro w'
         go_simp
         with_reducible rfl
        rotate_left
        ·simp only [Act.put, u]
         rfl
        refine pure_ (i := 1) (N := some 123) (v := ?_) (a' := ?_) (zl 39 3) rfl rfl (any_of HT_.out (by kernel_rfl)) (fun _ _ _ h => h) (Or.inl ⟨by rfl, ?_⟩) ?_ ?_
        rotate_left
        ·intro w'
         go_simp
         with_reducible rfl
        rotate_left
        ·simp only [Act.put, u]
         rfl
        refine pure_ (i := 2) (N := some 124) (v := ?_) (a' := ?_) (zl 39 7) rfl rfl (any_of HT_.out (by kernel_rfl)) (fun _ _ _ h => h) (Or.inl ⟨by rfl, ?_⟩) ?_ ?_
        rotate_left
        ·intro w'
         go_simp
         with_reducible rfl
        rotate_left
        ·simp only [Act.put, u]
         rfl
        refine take_ (i := 3) (N := some 125) (v := ?_) (a' := ?_) (zl 39 15) rfl rfl (take_ofW HT_.out HW_.out (by kernel_rfl)) (fun _ _ _ h => h) (Or.inl ⟨by rfl, ?_⟩) hHeld ?_ ?_
        rotate_left
        ·rintro w' ⟨s0, s1, s2, s3, s4, s5⟩
         go_simp
         with_reducible rfl
        rotate_left
        ·simp only [Act.put, u]
         rfl
        refine take_ (i := 4) (N := some 126) (v := ?_) (a' := ?_) (zl 39 31) rfl rfl (take_ofW HT_.out HW_.out (by kernel_rfl)) (fun _ _ _ h => h) (Or.inl ⟨by rfl, ?_⟩) hHeld ?_ ?_
        rotate_left
        ·rintro w' ⟨s0, s1, s2, s3, s4, s5⟩
         go_simp
         with_reducible rfl
        rotate_left
        ·simp only [Act.put, u]
         rfl
        refine one_ (i := 5) (N := some 127) (zl 39 63) rfl rfl (one_of HT_.out (by kernel_rfl)) (by decide) (fun K hK => ?_)
        refine goes_ Try.func36 (by kernel_rfl) rfl #[.agg #[.int .i64 t120, .int .i64 t121], .agg #[.int .i64 t114, .int .i64 t115]] (by rfl) rfl rfl y1  ?_
        with_reducible refine (impl_NetIn.calls t120 t121 t114 t115 true _ A229.out).mono ?_
        rintro e w266 ⟨rfl, hb⟩
        refine ⟨_, rfl, ?_⟩
        have n0_ := zA (blk_below (g := gb105) (o := .cells #[.int .i64 t101, .int .i64 t102] 26 (0, 0)) (zb BK105.out) hb)
        have n1_ := zA (blk_below (g := gb106) (o := .cells #[.int .i64 t103, .int .i64 t104] 26 (0, 0)) (zb BK106.out) hb)
        have n2_ := zA (blk_below (g := gb117) (o := .cells #[.int .i64 t114, .int .i64 t115] 26 (0, 0)) (zb BK117.out) hb)
        have n3_ := zA (blk_below (g := gb125) (o := .cells #[.int .i64 t120, .int .i64 t121] 26 (0, 0)) (zb BK125.out) hb)
        have n4_ := zA (blk_below (g := gb126) (o := .cells #[.int .i64 t122, .int .i64 t123] 26 (0, 0)) (zb BK126.out) hb)
        have n5_ := zA (blk_below (g := gb132) (o := .cells #[.int .i64 t127, .int .i64 t128] 26 (0, 0)) (zb BK132.out) hb)
        have n6_ := zA (blk_below (g := gb133) (o := .cells #[.int .i64 t129, .int .i64 t130] 26 (0, 0)) (zb BK133.out) hb)
        have n7_ := zA (below_step (zHB) hb)
        clear BK105
        clear BK106
        clear BK117
        clear BK125
        clear BK126
        clear BK132
        clear BK133
        clear HB
        have BK105 := n0_
        have BK106 := n1_
        have BK117 := n2_
        have BK125 := n3_
        have BK126 := n4_
        have BK132 := n5_
        have BK133 := n6_
        have HB := n7_
        clear n0_ n1_ n2_ n3_ n4_ n5_ n6_ n7_
        (try clear hb)
        (try clear hb2)
        (try clear hk)
        (try clear hi)
        refine hK.out _ _ ⟨(blk_cell BK125.out 0).trans rfl, (blk_cell BK125.out 1).trans rfl, (blk_cell BK117.out 0).trans rfl, (blk_cell BK117.out 1).trans rfl, (blk_cell BK126.out 0).trans rfl, (blk_cell BK126.out 1).trans rfl⟩ (fun hHeld => ?_)
        clear hK K
        refine norm_ (a' := ?_) ?_ ?_
        rotate_left
        ·show Act.put _ (some 127) _ = _
         simp only [Act.put, u]
         rfl
        refine pure_ (i := 6) (N := some 128) (v := ?_) (a' := ?_) (zl 39 127) rfl rfl (any_of HT_.out (by kernel_rfl)) (fun _ _ _ h => h) (Or.inl ⟨by rfl, ?_⟩) ?_ ?_
        rotate_left
        ·intro w'
         go_simp
         with_reducible rfl
        rotate_left
        ·simp only [Act.put, u]
         rfl
        refine take_ (i := 7) (N := some 129) (v := ?_) (a' := ?_) (zl 39 255) rfl rfl (take_ofW HT_.out HW_.out (by kernel_rfl)) (fun _ _ _ h => h) (Or.inl ⟨by rfl, ?_⟩) hHeld ?_ ?_
        rotate_left
        ·rintro w' ⟨s0, s1, s2, s3, s4, s5⟩
         go_simp
         with_reducible rfl
        rotate_left
        ·simp only [Act.put, u]
         rfl
        refine take_ (i := 8) (N := some 130) (v := ?_) (a' := ?_) (zl 39 511) rfl rfl (take_ofW HT_.out HW_.out (by kernel_rfl)) (fun _ _ _ h => h) (Or.inl ⟨by rfl, ?_⟩) hHeld ?_ ?_
        rotate_left
        ·rintro w' ⟨s0, s1, s2, s3, s4, s5⟩
         go_simp
         with_reducible rfl
        rotate_left
        ·simp only [Act.put, u]
         rfl
        refine one_ (i := 9) (N := some 131) (zl 39 1023) rfl rfl (one_of HT_.out (by kernel_rfl)) (by decide) (fun K hK => ?_)
        refine goes_ Try.func36 (by kernel_rfl) rfl #[.agg #[.int .i64 t122, .int .i64 t123], .agg #[.int .i64 t114, .int .i64 t115]] (by rfl) rfl rfl y1  ?_
        with_reducible refine (impl_NetIn.calls t122 t123 t114 t115 false _ A231.out).mono ?_
        rintro e w267 ⟨rfl, hb⟩
        refine ⟨_, rfl, ?_⟩
        have n0_ := zA (blk_below (g := gb105) (o := .cells #[.int .i64 t101, .int .i64 t102] 26 (0, 0)) (zb BK105.out) hb)
        have n1_ := zA (blk_below (g := gb106) (o := .cells #[.int .i64 t103, .int .i64 t104] 26 (0, 0)) (zb BK106.out) hb)
        have n2_ := zA (blk_below (g := gb117) (o := .cells #[.int .i64 t114, .int .i64 t115] 26 (0, 0)) (zb BK117.out) hb)
        have n3_ := zA (blk_below (g := gb125) (o := .cells #[.int .i64 t120, .int .i64 t121] 26 (0, 0)) (zb BK125.out) hb)
        have n4_ := zA (blk_below (g := gb126) (o := .cells #[.int .i64 t122, .int .i64 t123] 26 (0, 0)) (zb BK126.out) hb)
        have n5_ := zA (blk_below (g := gb132) (o := .cells #[.int .i64 t127, .int .i64 t128] 26 (0, 0)) (zb BK132.out) hb)
        have n6_ := zA (blk_below (g := gb133) (o := .cells #[.int .i64 t129, .int .i64 t130] 26 (0, 0)) (zb BK133.out) hb)
        have n7_ := zA (below_step (zHB) hb)
        clear BK105
        clear BK106
        clear BK117
        clear BK125
        clear BK126
        clear BK132
        clear BK133
        clear HB
        have BK105 := n0_
        have BK106 := n1_
        have BK117 := n2_
        have BK125 := n3_
        have BK126 := n4_
        have BK132 := n5_
        have BK133 := n6_
        have HB := n7_
        clear n0_ n1_ n2_ n3_ n4_ n5_ n6_ n7_
        (try clear hb)
        (try clear hb2)
        (try clear hk)
        (try clear hi)
        refine hK.out _ _ ⟨(blk_cell BK125.out 0).trans rfl, (blk_cell BK125.out 1).trans rfl, (blk_cell BK117.out 0).trans rfl, (blk_cell BK117.out 1).trans rfl, (blk_cell BK126.out 0).trans rfl, (blk_cell BK126.out 1).trans rfl⟩ (fun hHeld => ?_)
        clear hK K
        refine norm_ (a' := ?_) ?_ ?_
        rotate_left
        ·show Act.put _ (some 131) _ = _
         simp only [Act.put, u]
         rfl
        refine pure_ (i := 10) (N := some 132) (v := ?_) (a' := ?_) (zl 39 2047) rfl rfl (any_of HT_.out (by kernel_rfl)) (fun _ _ _ h => h) (Or.inl ⟨by rfl, ?_⟩) ?_ ?_
        rotate_left
        ·intro w'
         go_simp
         with_reducible rfl
        rotate_left
        ·simp only [Act.put, u]
         rfl
        refine pure_ (i := 11) (N := some 133) (v := ?_) (a' := ?_) (zl 39 4095) rfl rfl (any_of HT_.out (by kernel_rfl)) (fun _ _ _ h => h) (Or.inl ⟨by rfl, ?_⟩) ?_ ?_
        rotate_left
        ·intro w'
         go_simp
         with_reducible rfl
        rotate_left
        ·simp only [Act.put, u]
         rfl
        refine pure_ (i := 12) (N := some 134) (v := undef) (a' := ?_) (zl 39 8191) rfl rfl (any_of HT_.out (by kernel_rfl)) (fun _ _ _ h => h) (Or.inr ⟨by rfl, rfl⟩) ?_ ?_
        rotate_left
        ·simp only [Act.put, u]
         rfl
        refine pure_ (i := 13) (N := some 135) (v := undef) (a' := ?_) (zl 39 16383) rfl rfl (any_of HT_.out (by kernel_rfl)) (fun _ _ _ h => h) (Or.inr ⟨by rfl, rfl⟩) ?_ ?_
        rotate_left
        ·simp only [Act.put, u]
         rfl
        refine pure_ (i := 14) (N := some 136) (v := undef) (a' := ?_) (zl 39 32767) rfl rfl (any_of HT_.out (by kernel_rfl)) (fun _ _ _ h => h) (Or.inr ⟨by rfl, rfl⟩) ?_ ?_
        rotate_left
        ·simp only [Act.put, u]
         rfl
        refine pure_ (i := 15) (N := some 137) (v := undef) (a' := ?_) (zl 39 65535) rfl rfl (any_of HT_.out (by kernel_rfl)) (fun _ _ _ h => h) (Or.inr ⟨by rfl, rfl⟩) ?_ ?_
        rotate_left
        ·simp only [Act.put, u]
         rfl
        refine pure_ (i := 16) (N := some 138) (v := ?_) (a' := ?_) (zl 39 131071) rfl rfl (any_of HT_.out (by kernel_rfl)) (fun _ _ _ h => h) (Or.inl ⟨by rfl, ?_⟩) ?_ ?_
        rotate_left
        ·intro w'
         go_simp
         with_reducible rfl
        rotate_left
        ·simp only [Act.put, u]
         rfl
        refine pure_ (i := 17) (N := some 139) (v := ?_) (a' := ?_) (zl 39 262143) rfl rfl (any_of HT_.out (by kernel_rfl)) (fun _ _ _ h => h) (Or.inl ⟨by rfl, ?_⟩) ?_ ?_
        rotate_left
        ·intro w'
         go_simp
         with_reducible rfl
        rotate_left
        ·simp only [Act.put, u]
         rfl
        refine pure_ (i := 18) (N := some 140) (v := undef) (a' := ?_) (zl 39 524287) rfl rfl (any_of HT_.out (by kernel_rfl)) (fun _ _ _ h => h) (Or.inr ⟨by rfl, rfl⟩) ?_ ?_
        rotate_left
        ·simp only [Act.put, u]
         rfl
        refine pure_ (i := 19) (N := some 141) (v := undef) (a' := ?_) (zl 39 1048575) rfl rfl (any_of HT_.out (by kernel_rfl)) (fun _ _ _ h => h) (Or.inr ⟨by rfl, rfl⟩) ?_ ?_
        rotate_left
        ·simp only [Act.put, u]
         rfl
        refine pure_ (i := 20) (N := some 142) (v := undef) (a' := ?_) (zl 39 2097151) rfl rfl (any_of HT_.out (by kernel_rfl)) (fun _ _ _ h => h) (Or.inr ⟨by rfl, rfl⟩) ?_ ?_
        rotate_left
        ·simp only [Act.put, u]
         rfl
        refine pure_ (i := 21) (N := some 143) (v := undef) (a' := ?_) (zl 39 4194303) rfl rfl (any_of HT_.out (by kernel_rfl)) (fun _ _ _ h => h) (Or.inr ⟨by rfl, rfl⟩) ?_ ?_
        rotate_left
        ·simp only [Act.put, u]
         rfl
        refine pure_ (i := 22) (N := some 144) (v := ?_) (a' := ?_) (zl 39 8388607) rfl rfl (any_of HT_.out (by kernel_rfl)) (fun _ _ _ h => h) (Or.inl ⟨by rfl, ?_⟩) ?_ ?_
        rotate_left
        ·intro w'
         go_simp
         with_reducible rfl
        rotate_left
        ·simp only [Act.put, u]
         rfl
        refine pure_ (i := 23) (N := some 145) (v := ?_) (a' := ?_) (zl 39 16777215) rfl rfl (any_of HT_.out (by kernel_rfl)) (fun _ _ _ h => h) (Or.inl ⟨by rfl, ?_⟩) ?_ ?_
        rotate_left
        ·intro w'
         go_simp
         with_reducible rfl
        rotate_left
        ·simp only [Act.put, u]
         rfl
        refine pure_ (i := 24) (N := some 146) (v := undef) (a' := ?_) (zl 39 33554431) rfl rfl (any_of HT_.out (by kernel_rfl)) (fun _ _ _ h => h) (Or.inr ⟨by rfl, rfl⟩) ?_ ?_
        rotate_left
        ·simp only [Act.put, u]
         rfl
        refine pure_ (i := 25) (N := some 147) (v := undef) (a' := ?_) (zl 39 67108863) rfl rfl (any_of HT_.out (by kernel_rfl)) (fun _ _ _ h => h) (Or.inr ⟨by rfl, rfl⟩) ?_ ?_
        rotate_left
        ·simp only [Act.put, u]
         rfl
        refine pure_ (i := 26) (N := some 148) (v := undef) (a' := ?_) (zl 39 134217727) rfl rfl (any_of HT_.out (by kernel_rfl)) (fun _ _ _ h => h) (Or.inr ⟨by rfl, rfl⟩) ?_ ?_
        rotate_left
        ·simp only [Act.put, u]
         rfl
        refine pure_ (i := 27) (N := some 149) (v := undef) (a' := ?_) (zl 39 268435455) rfl rfl (any_of HT_.out (by kernel_rfl)) (fun _ _ _ h => h) (Or.inr ⟨by rfl, rfl⟩) ?_ ?_
        rotate_left
        ·simp only [Act.put, u]
         rfl
        refine pure_ (i := 28) (N := some 150) (v := undef) (a' := ?_) (zl 39 536870911) rfl rfl (any_of HT_.out (by kernel_rfl)) (fun _ _ _ h => h) (Or.inr ⟨by rfl, rfl⟩) ?_ ?_
        rotate_left
        ·simp only [Act.put, u]
         rfl
        refine pure_ (i := 29) (N := some 151) (v := undef) (a' := ?_) (zl 39 1073741823) rfl rfl (any_of HT_.out (by kernel_rfl)) (fun _ _ _ h => h) (Or.inr ⟨by rfl, rfl⟩) ?_ ?_
        rotate_left
        ·simp only [Act.put, u]
         rfl
        refine pure_ (i := 30) (N := some 152) (v := undef) (a' := ?_) (zl 39 2147483647) rfl rfl (any_of HT_.out (by kernel_rfl)) (fun _ _ _ h => h) (Or.inr ⟨by rfl, rfl⟩) ?_ ?_
        rotate_left
        ·simp only [Act.put, u]
         rfl
        refine pure_ (i := 31) (N := some 153) (v := undef) (a' := ?_) (zl 39 4294967295) rfl rfl (any_of HT_.out (by kernel_rfl)) (fun _ _ _ h => h) (Or.inr ⟨by rfl, rfl⟩) ?_ ?_
        rotate_left
        ·simp only [Act.put, u]
         rfl
        refine pure_ (i := 32) (N := some 154) (v := undef) (a' := ?_) (zl 39 8589934591) rfl rfl (any_of HT_.out (by kernel_rfl)) (fun _ _ _ h => h) (Or.inr ⟨by rfl, rfl⟩) ?_ ?_
        rotate_left
        ·simp only [Act.put, u]
         rfl
        refine pure_ (i := 33) (N := some 155) (v := undef) (a' := ?_) (zl 39 17179869183) rfl rfl (any_of HT_.out (by kernel_rfl)) (fun _ _ _ h => h) (Or.inr ⟨by rfl, rfl⟩) ?_ ?_
        rotate_left
        ·simp only [Act.put, u]
         rfl
        refine pure_ (i := 34) (N := some 156) (v := undef) (a' := ?_) (zl 39 34359738367) rfl rfl (any_of HT_.out (by kernel_rfl)) (fun _ _ _ h => h) (Or.inr ⟨by rfl, rfl⟩) ?_ ?_
        rotate_left
        ·simp only [Act.put, u]
         rfl
        refine pure_ (i := 35) (N := some 157) (v := undef) (a' := ?_) (zl 39 68719476735) rfl rfl (any_of HT_.out (by kernel_rfl)) (fun _ _ _ h => h) (Or.inr ⟨by rfl, rfl⟩) ?_ ?_
        rotate_left
        ·simp only [Act.put, u]
         rfl
        refine pure_ (i := 36) (N := some 158) (v := ?_) (a' := ?_) (zl 39 137438953471) rfl rfl (any_of HT_.out (by kernel_rfl)) (fun _ _ _ h => h) (Or.inl ⟨by rfl, ?_⟩) ?_ ?_
        rotate_left
        ·intro w'
         go_simp
         with_reducible rfl
        rotate_left
        ·simp only [Act.put, u]
         rfl
        refine pure_ (i := 37) (N := some 159) (v := ?_) (a' := ?_) (zl 39 274877906943) rfl rfl (any_of HT_.out (by kernel_rfl)) (fun _ _ _ h => h) (Or.inl ⟨by rfl, ?_⟩) ?_ ?_
        rotate_left
        ·intro w'
         go_simp
         with_reducible rfl
        rotate_left
        ·simp only [Act.put, u]
         rfl
        refine pure_ (i := 38) (N := some 4) (v := ?_) (a' := ?_) (zl 39 549755813887) rfl rfl (any_of HT_.out (by kernel_rfl)) (fun _ _ _ h => h) (Or.inl ⟨by rfl, ?_⟩) ?_ ?_
        rotate_left
        ·intro w'
         go_simp
         with_reducible rfl
        rotate_left
        ·simp only [Act.put, u]
         rfl
        refine done_ (done_of HT_.out (by kernel_rfl)) ?_
        try go_wp2
        go_ret
        exact ⟨by first | rfl | (simp [errW_none, errW_some] <;> rfl) | (simp [*, errW_none, errW_some] <;> rfl), zHB⟩
       replace c230 := Bool.eq_false_iff.mpr c230
       subst c230
       have H1 : (some false) = some r := by rw [if_neg (show ¬ (false = true) by decide)] at H; exact H
       clear H
       have H := H1
       clear H1
       obtain rfl := Option.some.inj H
       try go_wp2
       have n0_ := zA (blk_drew BK105.out)
       have n1_ := zA (blk_drew BK106.out)
       have n2_ := zA (blk_drew BK117.out)
       have n3_ := zA (blk_drew BK125.out)
       have n4_ := zA (blk_drew BK126.out)
       have n5_ := zA (blk_drew BK132.out)
       have n6_ := zA (blk_drew BK133.out)
       have n7_ := zA (below_drew1 HB.out)
       clear BK105
       clear BK106
       clear BK117
       clear BK125
       clear BK126
       clear BK132
       clear BK133
       clear HB
       have BK105 := n0_
       have BK106 := n1_
       have BK117 := n2_
       have BK125 := n3_
       have BK126 := n4_
       have BK132 := n5_
       have BK133 := n6_
       have HB := n7_
       clear n0_ n1_ n2_ n3_ n4_ n5_ n6_ n7_
       refine start_ (n := 39) (S := fun w' => w'.cell? ⟨gb125, 0, none⟩ = some (.int .i64 t120) ∧ w'.cell? ⟨gb125, 1, none⟩ = some (.int .i64 t121) ∧ w'.cell? ⟨gb117, 0, none⟩ = some (.int .i64 t114) ∧ w'.cell? ⟨gb117, 1, none⟩ = some (.int .i64 t115)) (ds := []) (zl 39 0) (by kernel_rfl) rfl rfl ⟨(blk_cell BK125.out 0).trans rfl, (blk_cell BK125.out 1).trans rfl, (blk_cell BK117.out 0).trans rfl, (blk_cell BK117.out 1).trans rfl⟩ (fun hHeld => ?_); refine with_tabW laws_FnNetPrefix.tab22 laws_FnNetPrefix.bits22 (fun HT_ HW_ => ?_)
       generalize wc.drew = w268 at BK105 BK106 BK117 BK125 BK126 BK132 BK133 HB hHeld ⊢
       refine pure_ (i := 0) (N := some 122) (v := ?_) (a' := ?_) (zl 39 1) rfl rfl (any_of HT_.out (by kernel_rfl)) (fun _ _ _ h => h) (Or.inl ⟨by rfl, ?_⟩) ?_ ?_
       rotate_left
       ·intro w'
        go_simp
        with_reducible rfl
       rotate_left
       ·simp only [Act.put, u]
        rfl
       refine pure_ (i := 1) (N := some 123) (v := ?_) (a' := ?_) (zl 39 3) rfl rfl (any_of HT_.out (by kernel_rfl)) (fun _ _ _ h => h) (Or.inl ⟨by rfl, ?_⟩) ?_ ?_
       rotate_left
       ·intro w'
        go_simp
        with_reducible rfl
       rotate_left
       ·simp only [Act.put, u]
        rfl
       refine pure_ (i := 2) (N := some 124) (v := ?_) (a' := ?_) (zl 39 7) rfl rfl (any_of HT_.out (by kernel_rfl)) (fun _ _ _ h => h) (Or.inl ⟨by rfl, ?_⟩) ?_ ?_
       rotate_left
       ·intro w'
        go_simp
        with_reducible rfl
       rotate_left
       ·simp only [Act.put, u]
        rfl
       refine take_ (i := 3) (N := some 125) (v := ?_) (a' := ?_) (zl 39 15) rfl rfl (take_ofW HT_.out HW_.out (by kernel_rfl)) (fun _ _ _ h => h) (Or.inl ⟨by rfl, ?_⟩) hHeld ?_ ?_
       rotate_left
       ·rintro w' ⟨s0, s1, s2, s3⟩
        go_simp
        with_reducible rfl
       rotate_left
       ·simp only [Act.put, u]
        rfl
       refine take_ (i := 4) (N := some 126) (v := ?_) (a' := ?_) (zl 39 31) rfl rfl (take_ofW HT_.out HW_.out (by kernel_rfl)) (fun _ _ _ h => h) (Or.inl ⟨by rfl, ?_⟩) hHeld ?_ ?_
       rotate_left
       ·rintro w' ⟨s0, s1, s2, s3⟩
        go_simp
        with_reducible rfl
       rotate_left
       ·simp only [Act.put, u]
        rfl
       refine one_ (i := 5) (N := some 127) (zl 39 63) rfl rfl (one_of HT_.out (by kernel_rfl)) (by decide) (fun K hK => ?_)
       refine goes_ Try.func36 (by kernel_rfl) rfl #[.agg #[.int .i64 t120, .int .i64 t121], .agg #[.int .i64 t114, .int .i64 t115]] (by rfl) rfl rfl y1  ?_
       with_reducible refine (impl_NetIn.calls t120 t121 t114 t115 false _ A229.out).mono ?_
       rintro e w269 ⟨rfl, hb⟩
       refine ⟨_, rfl, ?_⟩
       have n0_ := zA (blk_below (g := gb105) (o := .cells #[.int .i64 t101, .int .i64 t102] 26 (0, 0)) (zb BK105.out) hb)
       have n1_ := zA (blk_below (g := gb106) (o := .cells #[.int .i64 t103, .int .i64 t104] 26 (0, 0)) (zb BK106.out) hb)
       have n2_ := zA (blk_below (g := gb117) (o := .cells #[.int .i64 t114, .int .i64 t115] 26 (0, 0)) (zb BK117.out) hb)
       have n3_ := zA (blk_below (g := gb125) (o := .cells #[.int .i64 t120, .int .i64 t121] 26 (0, 0)) (zb BK125.out) hb)
       have n4_ := zA (blk_below (g := gb126) (o := .cells #[.int .i64 t122, .int .i64 t123] 26 (0, 0)) (zb BK126.out) hb)
       have n5_ := zA (blk_below (g := gb132) (o := .cells #[.int .i64 t127, .int .i64 t128] 26 (0, 0)) (zb BK132.out) hb)
       have n6_ := zA (blk_below (g := gb133) (o := .cells #[.int .i64 t129, .int .i64 t130] 26 (0, 0)) (zb BK133.out) hb)
       have n7_ := zA (below_step (zHB) hb)
       clear BK105
       clear BK106
       clear BK117
       clear BK125
       clear BK126
       clear BK132
       clear BK133
       clear HB
       have BK105 := n0_
       have BK106 := n1_
       have BK117 := n2_
       have BK125 := n3_
       have BK126 := n4_
       have BK132 := n5_
       have BK133 := n6_
       have HB := n7_
       clear n0_ n1_ n2_ n3_ n4_ n5_ n6_ n7_
       (try clear hb)
       (try clear hb2)
       (try clear hk)
       (try clear hi)
       refine hK.out _ _ ⟨(blk_cell BK125.out 0).trans rfl, (blk_cell BK125.out 1).trans rfl, (blk_cell BK117.out 0).trans rfl, (blk_cell BK117.out 1).trans rfl⟩ (fun hHeld => ?_)
       clear hK K
       refine norm_ (a' := ?_) ?_ ?_
       rotate_left
       ·show Act.put _ (some 127) _ = _
        simp only [Act.put, u]
        rfl
       refine pure_ (i := 6) (N := some 128) (v := ?_) (a' := ?_) (zl 39 127) rfl rfl (any_of HT_.out (by kernel_rfl)) (fun _ _ _ h => h) (Or.inl ⟨by rfl, ?_⟩) ?_ ?_
       rotate_left
       ·intro w'
        go_simp
        with_reducible rfl
       rotate_left
       ·simp only [Act.put, u]
        rfl
       refine pure_ (i := 7) (N := some 129) (v := undef) (a' := ?_) (zl 39 255) rfl rfl (any_of HT_.out (by kernel_rfl)) (fun _ _ _ h => h) (Or.inr ⟨by rfl, rfl⟩) ?_ ?_
       rotate_left
       ·simp only [Act.put, u]
        rfl
       refine pure_ (i := 8) (N := some 130) (v := undef) (a' := ?_) (zl 39 511) rfl rfl (any_of HT_.out (by kernel_rfl)) (fun _ _ _ h => h) (Or.inr ⟨by rfl, rfl⟩) ?_ ?_
       rotate_left
       ·simp only [Act.put, u]
        rfl
       refine pure_ (i := 9) (N := some 131) (v := undef) (a' := ?_) (zl 39 1023) rfl rfl (any_of HT_.out (by kernel_rfl)) (fun _ _ _ h => h) (Or.inr ⟨by rfl, rfl⟩) ?_ ?_
       rotate_left
       ·simp only [Act.put, u]
        rfl
       refine pure_ (i := 10) (N := some 132) (v := ?_) (a' := ?_) (zl 39 2047) rfl rfl (any_of HT_.out (by kernel_rfl)) (fun _ _ _ h => h) (Or.inl ⟨by rfl, ?_⟩) ?_ ?_
       rotate_left
       ·intro w'
        go_simp
        with_reducible rfl
       rotate_left
       ·simp only [Act.put, u]
        rfl
       refine pure_ (i := 11) (N := some 133) (v := ?_) (a' := ?_) (zl 39 4095) rfl rfl (any_of HT_.out (by kernel_rfl)) (fun _ _ _ h => h) (Or.inl ⟨by rfl, ?_⟩) ?_ ?_
       rotate_left
       ·intro w'
        go_simp
        with_reducible rfl
       rotate_left
       ·simp only [Act.put, u]
        rfl
       refine pure_ (i := 12) (N := some 134) (v := undef) (a' := ?_) (zl 39 8191) rfl rfl (any_of HT_.out (by kernel_rfl)) (fun _ _ _ h => h) (Or.inr ⟨by rfl, rfl⟩) ?_ ?_
       rotate_left
       ·simp only [Act.put, u]
        rfl
       refine pure_ (i := 13) (N := some 135) (v := undef) (a' := ?_) (zl 39 16383) rfl rfl (any_of HT_.out (by kernel_rfl)) (fun _ _ _ h => h) (Or.inr ⟨by rfl, rfl⟩) ?_ ?_
       rotate_left
       ·simp only [Act.put, u]
        rfl
       refine pure_ (i := 14) (N := some 136) (v := undef) (a' := ?_) (zl 39 32767) rfl rfl (any_of HT_.out (by kernel_rfl)) (fun _ _ _ h => h) (Or.inr ⟨by rfl, rfl⟩) ?_ ?_
       rotate_left
       ·simp only [Act.put, u]
        rfl
       refine pure_ (i := 15) (N := some 137) (v := undef) (a' := ?_) (zl 39 65535) rfl rfl (any_of HT_.out (by kernel_rfl)) (fun _ _ _ h => h) (Or.inr ⟨by rfl, rfl⟩) ?_ ?_
       rotate_left
       ·simp only [Act.put, u]
        rfl
       refine pure_ (i := 16) (N := some 138) (v := ?_) (a' := ?_) (zl 39 131071) rfl rfl (any_of HT_.out (by kernel_rfl)) (fun _ _ _ h => h) (Or.inl ⟨by rfl, ?_⟩) ?_ ?_
       rotate_left
       ·intro w'
        go_simp
        with_reducible rfl
       rotate_left
       ·simp only [Act.put, u]
        rfl
       refine pure_ (i := 17) (N := some 139) (v := ?_) (a' := ?_) (zl 39 262143) rfl rfl (any_of HT_.out (by kernel_rfl)) (fun _ _ _ h => h) (Or.inl ⟨by rfl, ?_⟩) ?_ ?_
       rotate_left
       ·intro w'
        go_simp
        with_reducible rfl
       rotate_left
       ·simp only [Act.put, u]
        rfl
       refine pure_ (i := 18) (N := some 140) (v := undef) (a' := ?_) (zl 39 524287) rfl rfl (any_of HT_.out (by kernel_rfl)) (fun _ _ _ h => h) (Or.inr ⟨by rfl, rfl⟩) ?_ ?_
       rotate_left
       ·simp only [Act.put, u]
        rfl
       refine pure_ (i := 19) (N := some 141) (v := undef) (a' := ?_) (zl 39 1048575) rfl rfl (any_of HT_.out (by kernel_rfl)) (fun _ _ _ h => h) (Or.inr ⟨by rfl, rfl⟩) ?_ ?_
       rotate_left
       ·simp only [Act.put, u]
        rfl
       refine pure_ (i := 20) (N := some 142) (v := undef) (a' := ?_) (zl 39 2097151) rfl rfl (any_of HT_.out (by kernel_rfl)) (fun _ _ _ h => h) (Or.inr ⟨by rfl, rfl⟩) ?_ ?_
       rotate_left
       ·simp only [Act.put, u]
        rfl
       refine pure_ (i := 21) (N := some 143) (v := undef) (a' := ?_) (zl 39 4194303) rfl rfl (any_of HT_.out (by kernel_rfl)) (fun _ _ _ h => h) (Or.inr ⟨by rfl, rfl⟩) ?_ ?_
       rotate_left
       ·simp only [Act.put, u]
        rfl
       refine pure_ (i := 22) (N := some 144) (v := ?_) (a' := ?_) (zl 39 8388607) rfl rfl (any_of HT_.out (by kernel_rfl)) (fun _ _ _ h => h) (Or.inl ⟨by rfl, ?_⟩) ?_ ?_
       rotate_left
       ·intro w'
        go_simp
        with_reducible rfl
       rotate_left
       ·simp only [Act.put, u]
        rfl
       refine pure_ (i := 23) (N := some 145) (v := ?_) (a' := ?_) (zl 39 16777215) rfl rfl (any_of HT_.out (by kernel_rfl)) (fun _ _ _ h => h) (Or.inl ⟨by rfl, ?_⟩) ?_ ?_
       rotate_left
       ·intro w'
        go_simp
        with_reducible rfl
       rotate_left
       ·simp only [Act.put, u]
        rfl
       refine pure_ (i := 24) (N := some 146) (v := undef) (a' := ?_) (zl 39 33554431) rfl rfl (any_of HT_.out (by kernel_rfl)) (fun _ _ _ h => h) (Or.inr ⟨by rfl, rfl⟩) ?_ ?_
       rotate_left
       ·simp only [Act.put, u]
        rfl
       refine pure_ (i := 25) (N := some 147) (v := undef) (a' := ?_) (zl 39 67108863) rfl rfl (any_of HT_.out (by kernel_rfl)) (fun _ _ _ h => h) (Or.inr ⟨by rfl, rfl⟩) ?_ ?_
       rotate_left
       ·simp only [Act.put, u]
        rfl
       refine pure_ (i := 26) (N := some 148) (v := undef) (a' := ?_) (zl 39 134217727) rfl rfl (any_of HT_.out (by kernel_rfl)) (fun _ _ _ h => h) (Or.inr ⟨by rfl, rfl⟩) ?_ ?_
       rotate_left
       ·simp only [Act.put, u]
        rfl
       refine pure_ (i := 27) (N := some 149) (v := undef) (a' := ?_) (zl 39 268435455) rfl rfl (any_of HT_.out (by kernel_rfl)) (fun _ _ _ h => h) (Or.inr ⟨by rfl, rfl⟩) ?_ ?_
       rotate_left
       ·simp only [Act.put, u]
        rfl
       refine pure_ (i := 28) (N := some 150) (v := undef) (a' := ?_) (zl 39 536870911) rfl rfl (any_of HT_.out (by kernel_rfl)) (fun _ _ _ h => h) (Or.inr ⟨by rfl, rfl⟩) ?_ ?_
       rotate_left
       ·simp only [Act.put, u]
        rfl
       refine pure_ (i := 29) (N := some 151) (v := undef) (a' := ?_) (zl 39 1073741823) rfl rfl (any_of HT_.out (by kernel_rfl)) (fun _ _ _ h => h) (Or.inr ⟨by rfl, rfl⟩) ?_ ?_
       rotate_left
       ·simp only [Act.put, u]
        rfl
       refine pure_ (i := 30) (N := some 152) (v := undef) (a' := ?_) (zl 39 2147483647) rfl rfl (any_of HT_.out (by kernel_rfl)) (fun _ _ _ h => h) (Or.inr ⟨by rfl, rfl⟩) ?_ ?_
       rotate_left
       ·simp only [Act.put, u]
        rfl
       refine pure_ (i := 31) (N := some 153) (v := undef) (a' := ?_) (zl 39 4294967295) rfl rfl (any_of HT_.out (by kernel_rfl)) (fun _ _ _ h => h) (Or.inr ⟨by rfl, rfl⟩) ?_ ?_
       rotate_left
       ·simp only [Act.put, u]
        rfl
       refine pure_ (i := 32) (N := some 154) (v := undef) (a' := ?_) (zl 39 8589934591) rfl rfl (any_of HT_.out (by kernel_rfl)) (fun _ _ _ h => h) (Or.inr ⟨by rfl, rfl⟩) ?_ ?_
       rotate_left
       ·simp only [Act.put, u]
        rfl
       refine pure_ (i := 33) (N := some 155) (v := undef) (a' := ?_) (zl 39 17179869183) rfl rfl (any_of HT_.out (by kernel_rfl)) (fun _ _ _ h => h) (Or.inr ⟨by rfl, rfl⟩) ?_ ?_
       rotate_left
       ·simp only [Act.put, u]
        rfl
       refine pure_ (i := 34) (N := some 156) (v := undef) (a' := ?_) (zl 39 34359738367) rfl rfl (any_of HT_.out (by kernel_rfl)) (fun _ _ _ h => h) (Or.inr ⟨by rfl, rfl⟩) ?_ ?_
       rotate_left
       ·simp only [Act.put, u]
        rfl
       refine pure_ (i := 35) (N := some 157) (v := undef) (a' := ?_) (zl 39 68719476735) rfl rfl (any_of HT_.out (by kernel_rfl)) (fun _ _ _ h => h) (Or.inr ⟨by rfl, rfl⟩) ?_ ?_
       rotate_left
       ·simp only [Act.put, u]
        rfl
       refine pure_ (i := 36) (N := some 158) (v := ?_) (a' := ?_) (zl 39 137438953471) rfl rfl (any_of HT_.out (by kernel_rfl)) (fun _ _ _ h => h) (Or.inl ⟨by rfl, ?_⟩) ?_ ?_
       rotate_left
       ·intro w'
        go_simp
        with_reducible rfl
       rotate_left
       ·simp only [Act.put, u]
        rfl
       refine pure_ (i := 37) (N := some 159) (v := ?_) (a' := ?_) (zl 39 274877906943) rfl rfl (any_of HT_.out (by kernel_rfl)) (fun _ _ _ h => h) (Or.inl ⟨by rfl, ?_⟩) ?_ ?_
       rotate_left
       ·intro w'
        go_simp
        with_reducible rfl
       rotate_left
       ·simp only [Act.put, u]
        rfl
       refine pure_ (i := 38) (N := some 4) (v := ?_) (a' := ?_) (zl 39 549755813887) rfl rfl (any_of HT_.out (by kernel_rfl)) (fun _ _ _ h => h) (Or.inl ⟨by rfl, ?_⟩) ?_ ?_
       rotate_left
       ·intro w'
        go_simp
        with_reducible rfl
       rotate_left
       ·simp only [Act.put, u]
        rfl
       refine done_ (done_of HT_.out (by kernel_rfl)) ?_
       try go_wp2
       go_ret
       exact ⟨by first | rfl | (simp [errW_none, errW_some] <;> rfl) | (simp [*, errW_none, errW_some] <;> rfl), zHB⟩
      replace c228 := Bool.eq_false_iff.mpr c228
      subst c228
      have H1 : (some true) = some r := by rw [if_neg (show ¬ (false = true) by decide)] at H; exact H
      clear H
      have H := H1
      clear H1
      obtain rfl := Option.some.inj H
      try go_wp2
      have n0_ := zA (blk_drew BK105.out)
      have n1_ := zA (blk_drew BK106.out)
      have n2_ := zA (blk_drew BK117.out)
      have n3_ := zA (blk_drew BK125.out)
      have n4_ := zA (blk_drew BK126.out)
      have n5_ := zA (blk_drew BK132.out)
      have n6_ := zA (blk_drew BK133.out)
      have n7_ := zA (below_drew1 HB.out)
      clear BK105
      clear BK106
      clear BK117
      clear BK125
      clear BK126
      clear BK132
      clear BK133
      clear HB
      have BK105 := n0_
      have BK106 := n1_
      have BK117 := n2_
      have BK125 := n3_
      have BK126 := n4_
      have BK132 := n5_
      have BK133 := n6_
      have HB := n7_
      clear n0_ n1_ n2_ n3_ n4_ n5_ n6_ n7_
      refine start_ (n := 39) (S := fun w' => True) (ds := []) (zl 39 0) (by kernel_rfl) rfl rfl trivial (fun hHeld => ?_); refine with_tabW laws_FnNetPrefix.tab22 laws_FnNetPrefix.bits22 (fun HT_ HW_ => ?_)
      generalize wc.drew = w270 at BK105 BK106 BK117 BK125 BK126 BK132 BK133 HB hHeld ⊢
      refine pure_ (i := 0) (N := some 122) (v := ?_) (a' := ?_) (zl 39 1) rfl rfl (any_of HT_.out (by kernel_rfl)) (fun _ _ _ h => h) (Or.inl ⟨by rfl, ?_⟩) ?_ ?_
      rotate_left
      ·intro w'
       go_simp
       with_reducible rfl
      rotate_left
      ·simp only [Act.put, u]
       rfl
      refine pure_ (i := 1) (N := some 123) (v := ?_) (a' := ?_) (zl 39 3) rfl rfl (any_of HT_.out (by kernel_rfl)) (fun _ _ _ h => h) (Or.inl ⟨by rfl, ?_⟩) ?_ ?_
      rotate_left
      ·intro w'
       go_simp
       with_reducible rfl
      rotate_left
      ·simp only [Act.put, u]
       rfl
      refine pure_ (i := 2) (N := some 124) (v := ?_) (a' := ?_) (zl 39 7) rfl rfl (any_of HT_.out (by kernel_rfl)) (fun _ _ _ h => h) (Or.inl ⟨by rfl, ?_⟩) ?_ ?_
      rotate_left
      ·intro w'
       go_simp
       with_reducible rfl
      rotate_left
      ·simp only [Act.put, u]
       rfl
      refine pure_ (i := 3) (N := some 125) (v := undef) (a' := ?_) (zl 39 15) rfl rfl (any_of HT_.out (by kernel_rfl)) (fun _ _ _ h => h) (Or.inr ⟨by rfl, rfl⟩) ?_ ?_
      rotate_left
      ·simp only [Act.put, u]
       rfl
      refine pure_ (i := 4) (N := some 126) (v := undef) (a' := ?_) (zl 39 31) rfl rfl (any_of HT_.out (by kernel_rfl)) (fun _ _ _ h => h) (Or.inr ⟨by rfl, rfl⟩) ?_ ?_
      rotate_left
      ·simp only [Act.put, u]
       rfl
      refine pure_ (i := 5) (N := some 127) (v := undef) (a' := ?_) (zl 39 63) rfl rfl (any_of HT_.out (by kernel_rfl)) (fun _ _ _ h => h) (Or.inr ⟨by rfl, rfl⟩) ?_ ?_
      rotate_left
      ·simp only [Act.put, u]
       rfl
      refine pure_ (i := 6) (N := some 128) (v := undef) (a' := ?_) (zl 39 127) rfl rfl (any_of HT_.out (by kernel_rfl)) (fun _ _ _ h => h) (Or.inr ⟨by rfl, rfl⟩) ?_ ?_
      rotate_left
      ·simp only [Act.put, u]
       rfl
      refine pure_ (i := 7) (N := some 129) (v := undef) (a' := ?_) (zl 39 255) rfl rfl (any_of HT_.out (by kernel_rfl)) (fun _ _ _ h => h) (Or.inr ⟨by rfl, rfl⟩) ?_ ?_
      rotate_left
      ·simp only [Act.put, u]
       rfl
      refine pure_ (i := 8) (N := some 130) (v := undef) (a' := ?_) (zl 39 511) rfl rfl (any_of HT_.out (by kernel_rfl)) (fun _ _ _ h => h) (Or.inr ⟨by rfl, rfl⟩) ?_ ?_
      rotate_left
      ·simp only [Act.put, u]
       rfl
      refine pure_ (i := 9) (N := some 131) (v := undef) (a' := ?_) (zl 39 1023) rfl rfl (any_of HT_.out (by kernel_rfl)) (fun _ _ _ h => h) (Or.inr ⟨by rfl, rfl⟩) ?_ ?_
      rotate_left
      ·simp only [Act.put, u]
       rfl
      refine pure_ (i := 10) (N := some 132) (v := undef) (a' := ?_) (zl 39 2047) rfl rfl (any_of HT_.out (by kernel_rfl)) (fun _ _ _ h => h) (Or.inr ⟨by rfl, rfl⟩) ?_ ?_
      rotate_left
      ·simp only [Act.put, u]
       rfl
      refine pure_ (i := 11) (N := some 133) (v := undef) (a' := ?_) (zl 39 4095) rfl rfl (any_of HT_.out (by kernel_rfl)) (fun _ _ _ h => h) (Or.inr ⟨by rfl, rfl⟩) ?_ ?_
      rotate_left
      ·simp only [Act.put, u]
       rfl
      refine pure_ (i := 12) (N := some 134) (v := undef) (a' := ?_) (zl 39 8191) rfl rfl (any_of HT_.out (by kernel_rfl)) (fun _ _ _ h => h) (Or.inr ⟨by rfl, rfl⟩) ?_ ?_
      rotate_left
      ·simp only [Act.put, u]
       rfl
      refine pure_ (i := 13) (N := some 135) (v := undef) (a' := ?_) (zl 39 16383) rfl rfl (any_of HT_.out (by kernel_rfl)) (fun _ _ _ h => h) (Or.inr ⟨by rfl, rfl⟩) ?_ ?_
      rotate_left
      ·simp only [Act.put, u]
       rfl
      refine pure_ (i := 14) (N := some 136) (v := undef) (a' := ?_) (zl 39 32767) rfl rfl (any_of HT_.out (by kernel_rfl)) (fun _ _ _ h => h) (Or.inr ⟨by rfl, rfl⟩) ?_ ?_
      rotate_left
      ·simp only [Act.put, u]
       rfl
      refine pure_ (i := 15) (N := some 137) (v := undef) (a' := ?_) (zl 39 65535) rfl rfl (any_of HT_.out (by kernel_rfl)) (fun _ _ _ h => h) (Or.inr ⟨by rfl, rfl⟩) ?_ ?_
      rotate_left
      ·simp only [Act.put, u]
       rfl
      refine pure_ (i := 16) (N := some 138) (v := undef) (a' := ?_) (zl 39 131071) rfl rfl (any_of HT_.out (by kernel_rfl)) (fun _ _ _ h => h) (Or.inr ⟨by rfl, rfl⟩) ?_ ?_
      rotate_left
      ·simp only [Act.put, u]
       rfl
      refine pure_ (i := 17) (N := some 139) (v := undef) (a' := ?_) (zl 39 262143) rfl rfl (any_of HT_.out (by kernel_rfl)) (fun _ _ _ h => h) (Or.inr ⟨by rfl, rfl⟩) ?_ ?_
      rotate_left
      ·simp only [Act.put, u]
       rfl
      refine pure_ (i := 18) (N := some 140) (v := undef) (a' := ?_) (zl 39 524287) rfl rfl (any_of HT_.out (by kernel_rfl)) (fun _ _ _ h => h) (Or.inr ⟨by rfl, rfl⟩) ?_ ?_
      rotate_left
      ·simp only [Act.put, u]
       rfl
      refine pure_ (i := 19) (N := some 141) (v := undef) (a' := ?_) (zl 39 1048575) rfl rfl (any_of HT_.out (by kernel_rfl)) (fun _ _ _ h => h) (Or.inr ⟨by rfl, rfl⟩) ?_ ?_
      rotate_left
      ·simp only [Act.put, u]
       rfl
      refine pure_ (i := 20) (N := some 142) (v := undef) (a' := ?_) (zl 39 2097151) rfl rfl (any_of HT_.out (by kernel_rfl)) (fun _ _ _ h => h) (Or.inr ⟨by rfl, rfl⟩) ?_ ?_
      rotate_left
      ·simp only [Act.put, u]
       rfl
      refine pure_ (i := 21) (N := some 143) (v := undef) (a' := ?_) (zl 39 4194303) rfl rfl (any_of HT_.out (by kernel_rfl)) (fun _ _ _ h => h) (Or.inr ⟨by rfl, rfl⟩) ?_ ?_
      rotate_left
      ·simp only [Act.put, u]
       rfl
      refine pure_ (i := 22) (N := some 144) (v := undef) (a' := ?_) (zl 39 8388607) rfl rfl (any_of HT_.out (by kernel_rfl)) (fun _ _ _ h => h) (Or.inr ⟨by rfl, rfl⟩) ?_ ?_
      rotate_left
      ·simp only [Act.put, u]
       rfl
      refine pure_ (i := 23) (N := some 145) (v := undef) (a' := ?_) (zl 39 16777215) rfl rfl (any_of HT_.out (by kernel_rfl)) (fun _ _ _ h => h) (Or.inr ⟨by rfl, rfl⟩) ?_ ?_
      rotate_left
      ·simp only [Act.put, u]
       rfl
      refine pure_ (i := 24) (N := some 146) (v := undef) (a' := ?_) (zl 39 33554431) rfl rfl (any_of HT_.out (by kernel_rfl)) (fun _ _ _ h => h) (Or.inr ⟨by rfl, rfl⟩) ?_ ?_
      rotate_left
      ·simp only [Act.put, u]
       rfl
      refine pure_ (i := 25) (N := some 147) (v := undef) (a' := ?_) (zl 39 67108863) rfl rfl (any_of HT_.out (by kernel_rfl)) (fun _ _ _ h => h) (Or.inr ⟨by rfl, rfl⟩) ?_ ?_
      rotate_left
      ·simp only [Act.put, u]
       rfl
      refine pure_ (i := 26) (N := some 148) (v := undef) (a' := ?_) (zl 39 134217727) rfl rfl (any_of HT_.out (by kernel_rfl)) (fun _ _ _ h => h) (Or.inr ⟨by rfl, rfl⟩) ?_ ?_
      rotate_left
      ·simp only [Act.put, u]
       rfl
      refine pure_ (i := 27) (N := some 149) (v := undef) (a' := ?_) (zl 39 268435455) rfl rfl (any_of HT_.out (by kernel_rfl)) (fun _ _ _ h => h) (Or.inr ⟨by rfl, rfl⟩) ?_ ?_
      rotate_left
      ·simp only [Act.put, u]
       rfl
      refine pure_ (i := 28) (N := some 150) (v := undef) (a' := ?_) (zl 39 536870911) rfl rfl (any_of HT_.out (by kernel_rfl)) (fun _ _ _ h => h) (Or.inr ⟨by rfl, rfl⟩) ?_ ?_
      rotate_left
      ·simp only [Act.put, u]
       rfl
      refine pure_ (i := 29) (N := some 151) (v := undef) (a' := ?_) (zl 39 1073741823) rfl rfl (any_of HT_.out (by kernel_rfl)) (fun _ _ _ h => h) (Or.inr ⟨by rfl, rfl⟩) ?_ ?_
      rotate_left
      ·simp only [Act.put, u]
       rfl
      refine pure_ (i := 30) (N := some 152) (v := undef) (a' := ?_) (zl 39 2147483647) rfl rfl (any_of HT_.out (by kernel_rfl)) (fun _ _ _ h => h) (Or.inr ⟨by rfl, rfl⟩) ?_ ?_
      rotate_left
      ·simp only [Act.put, u]
       rfl
      refine pure_ (i := 31) (N := some 153) (v := undef) (a' := ?_) (zl 39 4294967295) rfl rfl (any_of HT_.out (by kernel_rfl)) (fun _ _ _ h => h) (Or.inr ⟨by rfl, rfl⟩) ?_ ?_
      rotate_left
      ·simp only [Act.put, u]
       rfl
      refine pure_ (i := 32) (N := some 154) (v := undef) (a' := ?_) (zl 39 8589934591) rfl rfl (any_of HT_.out (by kernel_rfl)) (fun _ _ _ h => h) (Or.inr ⟨by rfl, rfl⟩) ?_ ?_
      rotate_left
      ·simp only [Act.put, u]
       rfl
      refine pure_ (i := 33) (N := some 155) (v := undef) (a' := ?_) (zl 39 17179869183) rfl rfl (any_of HT_.out (by kernel_rfl)) (fun _ _ _ h => h) (Or.inr ⟨by rfl, rfl⟩) ?_ ?_
      rotate_left
      ·simp only [Act.put, u]
       rfl
      refine pure_ (i := 34) (N := some 156) (v := undef) (a' := ?_) (zl 39 34359738367) rfl rfl (any_of HT_.out (by kernel_rfl)) (fun _ _ _ h => h) (Or.inr ⟨by rfl, rfl⟩) ?_ ?_
      rotate_left
      ·simp only [Act.put, u]
       rfl
      refine pure_ (i := 35) (N := some 157) (v := undef) (a' := ?_) (zl 39 68719476735) rfl rfl (any_of HT_.out (by kernel_rfl)) (fun _ _ _ h => h) (Or.inr ⟨by rfl, rfl⟩) ?_ ?_
      rotate_left
      ·simp only [Act.put, u]
       rfl
      refine pure_ (i := 36) (N := some 158) (v := undef) (a' := ?_) (zl 39 137438953471) rfl rfl (any_of HT_.out (by kernel_rfl)) (fun _ _ _ h => h) (Or.inr ⟨by rfl, rfl⟩) ?_ ?_
      rotate_left
      ·simp only [Act.put, u]
       rfl
      refine pure_ (i := 37) (N := some 159) (v := ?_) (a' := ?_) (zl 39 274877906943) rfl rfl (any_of HT_.out (by kernel_rfl)) (fun _ _ _ h => h) (Or.inl ⟨by rfl, ?_⟩) ?_ ?_
      rotate_left
      ·intro w'
       go_simp
       with_reducible rfl
      rotate_left
      ·simp only [Act.put, u]
       rfl
      refine pure_ (i := 38) (N := some 4) (v := ?_) (a' := ?_) (zl 39 549755813887) rfl rfl (any_of HT_.out (by kernel_rfl)) (fun _ _ _ h => h) (Or.inl ⟨by rfl, ?_⟩) ?_ ?_
      rotate_left
      ·intro w'
       go_simp
       with_reducible rfl
      rotate_left
      ·simp only [Act.put, u]
       rfl
      refine done_ (done_of HT_.out (by kernel_rfl)) ?_
      try go_wp2
      go_ret
      exact ⟨by first | rfl | (simp [errW_none, errW_some] <;> rfl) | (simp [*, errW_none, errW_some] <;> rfl), zHB⟩
end Go.Proofs.Ytnakanjhdcakhaa.Q
