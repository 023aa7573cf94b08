/- Lemmas for FnExactNetParse, part 2 of 2: the program's functions as Lean functions, what each Go function comes to, and plain lemmas on them. No statement of its own. -/
import Derived.Lib.ItoaLen
import Derived.Test.YtnakanjhdcakhaaDoorC1xFnExactNetParse
namespace Go.Proofs.YtnakanjhdcakhaaDoor.Q
open Go.RowKit Go.Proofs.YtnakanjhdcakhaaDoorW.PrintWords Go.Proofs.YtnakanjhdcakhaaDoorW.PrintLast Go.Proofs.YtnakanjhdcakhaaDoorW.PrintMore
attribute [local go_sem] max2_int min2_int max_two min_two max_three min_three max_four min_four   -- for this text's walks alone
set_option linter.unusedVariables false
set_option linter.unusedSimpArgs false
def laws_FnExactNetParse.f (k : Nat) (a0 : ByteArray) : Option (Bool) := if (a0.size : Int) > 1048576 then (some true) else ((spec_NetParse.f k a0).bind fun bt101 => ((impl_NetParse.f a0).bind fun bt105 => ((laws_eqNetPrefix.f bt105.1 bt105.2.1 bt101.1 bt101.2.1).bind fun t109 => (if t109 = true then (if (bt105.2.2 != bt101.2.2) = true then (some false) else (some true)) else (some false)))))
set_option maxHeartbeats 8000000 in
set_option maxRecDepth 100000 in
theorem laws_FnExactNetParse.calls (k : Nat) (a0 : ByteArray) (r : Bool) (w : World) (hG : GA w) (h : laws_FnExactNetParse.f k a0 = some r) :
    Calls Tryd.prog 7 #[.string a0] w fun e w' => e = .returned (.bool r) ∧ Below w.heap.size w w' := by
  have HG := Aside0.mk hG
  clear hG
  have hu25 := Tryd.underlying25
  have HB := Aside0.mk (Below.refl w.heap.size w)
  have H : (if (a0.size : Int) > 1048576 then (some true) else ((spec_NetParse.f k a0).bind fun bt101 => ((impl_NetParse.f a0).bind fun bt105 => ((laws_eqNetPrefix.f bt105.1 bt105.2.1 bt101.1 bt101.2.1).bind fun t109 => (if t109 = true then (if (bt105.2.2 != bt101.2.2) = true then (some false) else (some true)) else (some false)))))) = some r := h
  clear h
  by_cases c2 : (a0.size : Int) > 1048576
  · rw [if_pos c2] at H
    have c2b0 : decide (1048576 < (a0.size : Int)) = true := decide_eq_true c2
    have c2b1 : decide (1048576 < a0.size) = true := decide_eq_true (by omega)
    clear c2
    obtain rfl := Option.some.inj H
    go_enter Tryd.func7, Tryd.ntmps7
    go_wp2
    go_ret
    exact ⟨by first | rfl | (simp [errW_none, errW_some] <;> rfl) | (simp [*, errW_none, errW_some] <;> rfl), by repeat (first | (with_reducible first | exact HB.out | apply below_alloc | apply pw_below_drewN | apply below_drew1) | exact HB.out)⟩
  · rw [if_neg c2] at H
    have c2b0 : decide (1048576 < (a0.size : Int)) = false := decide_eq_false c2
    have c2b1 : decide (1048576 < a0.size) = false := decide_eq_false (by omega)
    clear c2
    replace H := Option.bind_eq_some_iff.mp H
    obtain ⟨⟨t101, t102, t103⟩, A30, H⟩ := H
    replace H : ((impl_NetParse.f a0).bind fun bt105 => ((laws_eqNetPrefix.f bt105.1 bt105.2.1 t101 t102).bind fun t109 => (if t109 = true then (if (bt105.2.2 != t103) = true then (some false) else (some true)) else (some false)))) = some r := H
    have A3 := Aside0.mk A30
    clear A30
    replace H := Option.bind_eq_some_iff.mp H
    obtain ⟨⟨t105, t106, t107⟩, A40, H⟩ := H
    replace H : ((laws_eqNetPrefix.f t105 t106 t101 t102).bind fun t109 => (if t109 = true then (if (t107 != t103) = true then (some false) else (some true)) else (some false))) = some r := H
    have A4 := Aside0.mk A40
    clear A40
    replace H := Option.bind_eq_some_iff.mp H
    obtain ⟨t109, A50, H⟩ := H
    replace H : (if t109 = true then (if (t107 != t103) = true then (some false) else (some true)) else (some false)) = some r := H
    have A5 := Aside0.mk A50
    clear A50
    by_cases c6 : t109 = true
    · subst c6
      have H1 : (if (t107 != t103) = true then (some false) else (some true)) = some r := by rw [if_pos rfl] at H; exact H
      clear H
      have H := H1
      clear H1
      by_cases c7 : (t107 != t103) = true
      · rw [if_pos c7] at H
        have c7b0 : (t107 != t103) = true := c7
        (try (have c7b1 : decide (t107 = t103) = false := by simpa using c7))
        (try (have c7b2 : (t107 == t103) = false := by simpa using c7))
        (try (have c7b3 : ¬ (t107 = t103) := by simpa using c7))
        clear c7
        obtain rfl := Option.some.inj H
        go_enter Tryd.func7, Tryd.ntmps7
        go_wp2_with (first | ((with_reducible refine gate_callee (f := 10) rfl ?_); refine goesL_ (some 12) rfl rfl Tryd.func10 (by kernel_rfl) rfl #[.string a0] rfl (by (try simp only [List.map_toArray, List.map_cons, List.map_nil]); first | done | rfl | (simp only [List.length_drop, List.length_take]; rfl)) ?_; (with_reducible refine (spec_NetParse.calls k a0 t101 t102 t103 _ A3.out).mono ?_); rintro e w8 ⟨rfl, hb⟩; refine ⟨_, rfl, ?_⟩; have n0_ := Aside0.mk (below_step (by repeat (first | (with_reducible first | exact HB.out | apply below_alloc | apply pw_below_drewN | apply below_drew1) | exact HB.out)) hb); clear HB; have HB := n0_; clear n0_; (try clear hb); (try clear hb2); (try clear hk); (try clear hi)) | ((with_reducible refine gate_dst (N := 3) rfl ?_); refine box_event ?hg (N := 3) ?hd (cs := #[.int .i64 0, .int .i64 0]) (t := 25) ?hr ?_; (case hd => rfl); (case hg => rfl); (case hr => first | (go_simp; done) | (go_simp; rfl)); intro gb104 hg w9 hbox hb; have n0_ := Aside0.mk (below_step (by repeat (first | (with_reducible first | exact HB.out | apply below_alloc | apply pw_below_drewN | apply below_drew1) | exact HB.out)) hb); have n1_ := Aside0.mk (hbox); have n2_ := Aside0.mk ((by rw [hg]; exact (below_size (by repeat (first | (with_reducible first | exact HB.out | apply below_alloc | apply pw_below_drewN | apply below_drew1) | exact HB.out))) : w.heap.size ≤ gb104)); have n3_ := Aside0.mk ((by rw [hg]; exact (below_size (by repeat (first | (with_reducible first | exact HB.out | apply below_alloc | apply pw_below_drewN | apply below_drew1) | exact HB.out))) : w.heap.size ≤ gb104)); clear HB; have HB := n0_; have BK104 := n1_; have GW104 := n2_; have GE104 := n3_; clear n0_ n1_ n2_ n3_; clear hb hbox hg; have hcz10_0 : w9.cell? ⟨gb104, 0, none⟩ = some (.int .i64 0) := (blk_cell BK104.out 0).trans rfl; have hcz10_1 : w9.cell? ⟨gb104, 1, none⟩ = some (.int .i64 0) := (blk_cell BK104.out 1).trans rfl; have hfz10_0 := blk_frozen BK104.out 0; have hfz10_1 := blk_frozen BK104.out 1) | ((with_reducible refine gate_callee (f := 9) rfl ?_); refine goesL_ (some 17) rfl rfl Tryd.func9 (by kernel_rfl) rfl #[.string a0] rfl (by (try simp only [List.map_toArray, List.map_cons, List.map_nil]); first | done | rfl | (simp only [List.length_drop, List.length_take]; rfl)) ?_; (with_reducible refine (impl_NetParse.calls a0 t105 t106 t107 _ (HG.out.step (by repeat (first | (with_reducible first | exact HB.out | apply below_alloc | apply pw_below_drewN | apply below_drew1 | refine below_set ?_ GE104.out) | exact HB.out))) A4.out).mono ?_); rintro e w11 ⟨rfl, hb⟩; refine ⟨_, rfl, ?_⟩; have n0_ := Aside0.mk (blk_below (g := gb104) (o := .cells #[.int .i64 t101, .int .i64 t102] 25 (0, 0)) (by (with_reducible repeat (first | refine blk_drewN ?_ _ | refine blk_drew ?_ | refine blk_alloc ?_ _)); refine blk_put (cs := #[.int .i64 t101, .int .i64 0]) ?_ 1 _ rfl; (with_reducible repeat (first | refine blk_drewN ?_ _ | refine blk_drew ?_ | refine blk_alloc ?_ _)); refine blk_put (cs := #[.int .i64 0, .int .i64 0]) ?_ 0 _ rfl; (with_reducible repeat (first | refine blk_drewN ?_ _ | refine blk_drew ?_ | refine blk_alloc ?_ _)); exact BK104.out) hb); have n1_ := Aside0.mk (below_step (by repeat (first | (with_reducible first | exact HB.out | apply below_alloc | apply pw_below_drewN | apply below_drew1 | refine below_set ?_ GE104.out) | exact HB.out)) hb); clear BK104; clear HB; have BK104 := n0_; have HB := n1_; clear n0_ n1_; (try clear hb); (try clear hb2); (try clear hk); (try clear hi)) | ((with_reducible refine gate_dst (N := 5) rfl ?_); refine box_event ?hg (N := 5) ?hd (cs := #[.int .i64 0, .int .i64 0]) (t := 25) ?hr ?_; (case hd => rfl); (case hg => rfl); (case hr => first | (go_simp; done) | (go_simp; rfl)); intro gb108 hg w12 hbox hb; have n0_ := Aside0.mk (blk_below (g := gb104) (o := .cells #[.int .i64 t101, .int .i64 t102] 25 (0, 0)) (by (with_reducible repeat (first | refine blk_drewN ?_ _ | refine blk_drew ?_ | refine blk_alloc ?_ _)); exact BK104.out) hb); have n1_ := Aside0.mk (below_step (by repeat (first | (with_reducible first | exact HB.out | apply below_alloc | apply pw_below_drewN | apply below_drew1 | refine below_set ?_ GE104.out) | exact HB.out)) hb); have n2_ := Aside0.mk (hbox); have n3_ := Aside0.mk ((by rw [hg]; exact (below_size (by repeat (first | (with_reducible first | exact HB.out | apply below_alloc | apply pw_below_drewN | apply below_drew1 | refine below_set ?_ GE104.out) | exact HB.out))) : w.heap.size ≤ gb108)); have n4_ := Aside0.mk ((by rw [hg]; exact (below_size (by repeat (first | (with_reducible first | exact HB.out | apply below_alloc | apply pw_below_drewN | apply below_drew1 | refine below_set ?_ GE104.out) | exact HB.out))) : w.heap.size ≤ gb108)); have n5_ := Aside0.mk ((by rw [hg]; exact Nat.ne_of_lt (blk_lt (g := gb104) (o := .cells #[.int .i64 t101, .int .i64 t102] 25 (0, 0)) (by (with_reducible repeat (first | refine blk_drewN ?_ _ | refine blk_drew ?_ | refine blk_alloc ?_ _)); exact BK104.out)) : gb104 ≠ gb108)); have n6_ := Aside0.mk ((by rw [hg]; exact Nat.ne_of_gt (blk_lt (g := gb104) (o := .cells #[.int .i64 t101, .int .i64 t102] 25 (0, 0)) (by (with_reducible repeat (first | refine blk_drewN ?_ _ | refine blk_drew ?_ | refine blk_alloc ?_ _)); exact BK104.out)) : gb108 ≠ gb104)); clear BK104; clear HB; have BK104 := n0_; have HB := n1_; have BK108 := n2_; have GW108 := n3_; have GE108 := n4_; have NB104_108 := n5_; have NB108_104 := n6_; clear n0_ n1_ n2_ n3_ n4_ n5_ n6_; clear hb hbox hg; have hnb13 := NB108_104.out; have hnc13 := NB104_108.out; have hcz14_0 : w12.cell? ⟨gb108, 0, none⟩ = some (.int .i64 0) := (blk_cell BK108.out 0).trans rfl; have hcz14_1 : w12.cell? ⟨gb108, 1, none⟩ = some (.int .i64 0) := (blk_cell BK108.out 1).trans rfl; have hfz14_0 := blk_frozen BK108.out 0; have hfz14_1 := blk_frozen BK108.out 1; have hcz15_0 : w12.cell? ⟨gb104, 0, none⟩ = some (.int .i64 t101) := (blk_cell BK104.out 0).trans rfl; have hcz15_1 : w12.cell? ⟨gb104, 1, none⟩ = some (.int .i64 t102) := (blk_cell BK104.out 1).trans rfl; have hfz15_0 := blk_frozen BK104.out 0; have hfz15_1 := blk_frozen BK104.out 1) | ((with_reducible refine gate_callee (f := 23) rfl ?_); refine goesL_ (some 22) rfl rfl Tryd.func23 (by kernel_rfl) rfl #[.agg #[.int .i64 t105, .int .i64 t106], .agg #[.int .i64 t101, .int .i64 t102]] rfl (by (try simp only [List.map_toArray, List.map_cons, List.map_nil]); first | done | rfl | (simp only [List.length_drop, List.length_take]; rfl)) ?_; (with_reducible refine (laws_eqNetPrefix.calls t105 t106 t101 t102 true _ A5.out).mono ?_); rintro e w16 ⟨rfl, hb⟩; refine ⟨_, rfl, ?_⟩; have n0_ := Aside0.mk (blk_below (g := gb104) (o := .cells #[.int .i64 t101, .int .i64 t102] 25 (0, 0)) (by (with_reducible repeat (first | refine blk_drewN ?_ _ | refine blk_drew ?_ | refine blk_alloc ?_ _)); refine blk_far ?_ NB104_108.out _; (with_reducible repeat (first | refine blk_drewN ?_ _ | refine blk_drew ?_ | refine blk_alloc ?_ _)); refine blk_far ?_ NB104_108.out _; (with_reducible repeat (first | refine blk_drewN ?_ _ | refine blk_drew ?_ | refine blk_alloc ?_ _)); exact BK104.out) hb); have n1_ := Aside0.mk (blk_below (g := gb108) (o := .cells #[.int .i64 t105, .int .i64 t106] 25 (0, 0)) (by (with_reducible repeat (first | refine blk_drewN ?_ _ | refine blk_drew ?_ | refine blk_alloc ?_ _)); refine blk_put (cs := #[.int .i64 t105, .int .i64 0]) ?_ 1 _ rfl; (with_reducible repeat (first | refine blk_drewN ?_ _ | refine blk_drew ?_ | refine blk_alloc ?_ _)); refine blk_put (cs := #[.int .i64 0, .int .i64 0]) ?_ 0 _ rfl; (with_reducible repeat (first | refine blk_drewN ?_ _ | refine blk_drew ?_ | refine blk_alloc ?_ _)); exact BK108.out) hb); have n2_ := Aside0.mk (below_step (by repeat (first | (with_reducible first | exact HB.out | apply below_alloc | apply pw_below_drewN | apply below_drew1 | refine below_set ?_ GE104.out | refine below_set ?_ GE108.out) | exact HB.out)) hb); clear BK104; clear BK108; clear HB; have BK104 := n0_; have BK108 := n1_; have HB := n2_; clear n0_ n1_ n2_; (try clear hb); (try clear hb2); (try clear hk); (try clear hi)))
        go_ret
        exact ⟨by first | rfl | (simp [errW_none, errW_some] <;> rfl) | (simp [*, errW_none, errW_some] <;> rfl), by repeat (first | (with_reducible first | exact HB.out | apply below_alloc | apply pw_below_drewN | apply below_drew1 | refine below_set ?_ GE104.out | refine below_set ?_ GE108.out) | exact HB.out)⟩
      · rw [if_neg c7] at H
        have c7b0 : (t107 != t103) = false := by simpa using c7
        (try (have c7b1 : decide (t107 = t103) = true := by simpa using c7))
        (try (have c7b2 : (t107 == t103) = true := by simpa using c7))
        clear c7
        obtain rfl := Option.some.inj H
        go_enter Tryd.func7, Tryd.ntmps7
        go_wp2_with (first | ((with_reducible refine gate_callee (f := 10) rfl ?_); refine goesL_ (some 12) rfl rfl Tryd.func10 (by kernel_rfl) rfl #[.string a0] rfl (by (try simp only [List.map_toArray, List.map_cons, List.map_nil]); first | done | rfl | (simp only [List.length_drop, List.length_take]; rfl)) ?_; (with_reducible refine (spec_NetParse.calls k a0 t101 t102 t103 _ A3.out).mono ?_); rintro e w17 ⟨rfl, hb⟩; refine ⟨_, rfl, ?_⟩; have n0_ := Aside0.mk (below_step (by repeat (first | (with_reducible first | exact HB.out | apply below_alloc | apply pw_below_drewN | apply below_drew1) | exact HB.out)) hb); clear HB; have HB := n0_; clear n0_; (try clear hb); (try clear hb2); (try clear hk); (try clear hi)) | ((with_reducible refine gate_dst (N := 3) rfl ?_); refine box_event ?hg (N := 3) ?hd (cs := #[.int .i64 0, .int .i64 0]) (t := 25) ?hr ?_; (case hd => rfl); (case hg => rfl); (case hr => first | (go_simp; done) | (go_simp; rfl)); intro gb104 hg w18 hbox hb; have n0_ := Aside0.mk (below_step (by repeat (first | (with_reducible first | exact HB.out | apply below_alloc | apply pw_below_drewN | apply below_drew1) | exact HB.out)) hb); have n1_ := Aside0.mk (hbox); have n2_ := Aside0.mk ((by rw [hg]; exact (below_size (by repeat (first | (with_reducible first | exact HB.out | apply below_alloc | apply pw_below_drewN | apply below_drew1) | exact HB.out))) : w.heap.size ≤ gb104)); have n3_ := Aside0.mk ((by rw [hg]; exact (below_size (by repeat (first | (with_reducible first | exact HB.out | apply below_alloc | apply pw_below_drewN | apply below_drew1) | exact HB.out))) : w.heap.size ≤ gb104)); clear HB; have HB := n0_; have BK104 := n1_; have GW104 := n2_; have GE104 := n3_; clear n0_ n1_ n2_ n3_; clear hb hbox hg; have hcz19_0 : w18.cell? ⟨gb104, 0, none⟩ = some (.int .i64 0) := (blk_cell BK104.out 0).trans rfl; have hcz19_1 : w18.cell? ⟨gb104, 1, none⟩ = some (.int .i64 0) := (blk_cell BK104.out 1).trans rfl; have hfz19_0 := blk_frozen BK104.out 0; have hfz19_1 := blk_frozen BK104.out 1) | ((with_reducible refine gate_callee (f := 9) rfl ?_); refine goesL_ (some 17) rfl rfl Tryd.func9 (by kernel_rfl) rfl #[.string a0] rfl (by (try simp only [List.map_toArray, List.map_cons, List.map_nil]); first | done | rfl | (simp only [List.length_drop, List.length_take]; rfl)) ?_; (with_reducible refine (impl_NetParse.calls a0 t105 t106 t107 _ (HG.out.step (by repeat (first | (with_reducible first | exact HB.out | apply below_alloc | apply pw_below_drewN | apply below_drew1 | refine below_set ?_ GE104.out) | exact HB.out))) A4.out).mono ?_); rintro e w20 ⟨rfl, hb⟩; refine ⟨_, rfl, ?_⟩; have n0_ := Aside0.mk (blk_below (g := gb104) (o := .cells #[.int .i64 t101, .int .i64 t102] 25 (0, 0)) (by (with_reducible repeat (first | refine blk_drewN ?_ _ | refine blk_drew ?_ | refine blk_alloc ?_ _)); refine blk_put (cs := #[.int .i64 t101, .int .i64 0]) ?_ 1 _ rfl; (with_reducible repeat (first | refine blk_drewN ?_ _ | refine blk_drew ?_ | refine blk_alloc ?_ _)); refine blk_put (cs := #[.int .i64 0, .int .i64 0]) ?_ 0 _ rfl; (with_reducible repeat (first | refine blk_drewN ?_ _ | refine blk_drew ?_ | refine blk_alloc ?_ _)); exact BK104.out) hb); have n1_ := Aside0.mk (below_step (by repeat (first | (with_reducible first | exact HB.out | apply below_alloc | apply pw_below_drewN | apply below_drew1 | refine below_set ?_ GE104.out) | exact HB.out)) hb); clear BK104; clear HB; have BK104 := n0_; have HB := n1_; clear n0_ n1_; (try clear hb); (try clear hb2); (try clear hk); (try clear hi)) | ((with_reducible refine gate_dst (N := 5) rfl ?_); refine box_event ?hg (N := 5) ?hd (cs := #[.int .i64 0, .int .i64 0]) (t := 25) ?hr ?_; (case hd => rfl); (case hg => rfl); (case hr => first | (go_simp; done) | (go_simp; rfl)); intro gb108 hg w21 hbox hb; have n0_ := Aside0.mk (blk_below (g := gb104) (o := .cells #[.int .i64 t101, .int .i64 t102] 25 (0, 0)) (by (with_reducible repeat (first | refine blk_drewN ?_ _ | refine blk_drew ?_ | refine blk_alloc ?_ _)); exact BK104.out) hb); have n1_ := Aside0.mk (below_step (by repeat (first | (with_reducible first | exact HB.out | apply below_alloc | apply pw_below_drewN | apply below_drew1 | refine below_set ?_ GE104.out) | exact HB.out)) hb); have n2_ := Aside0.mk (hbox); have n3_ := Aside0.mk ((by rw [hg]; exact (below_size (by repeat (first | (with_reducible first | exact HB.out | apply below_alloc | apply pw_below_drewN | apply below_drew1 | refine below_set ?_ GE104.out) | exact HB.out))) : w.heap.size ≤ gb108)); have n4_ := Aside0.mk ((by rw [hg]; exact (below_size (by repeat (first | (with_reducible first | exact HB.out | apply below_alloc | apply pw_below_drewN | apply below_drew1 | refine below_set ?_ GE104.out) | exact HB.out))) : w.heap.size ≤ gb108)); have n5_ := Aside0.mk ((by rw [hg]; exact Nat.ne_of_lt (blk_lt (g := gb104) (o := .cells #[.int .i64 t101, .int .i64 t102] 25 (0, 0)) (by (with_reducible repeat (first | refine blk_drewN ?_ _ | refine blk_drew ?_ | refine blk_alloc ?_ _)); exact BK104.out)) : gb104 ≠ gb108)); have n6_ := Aside0.mk ((by rw [hg]; exact Nat.ne_of_gt (blk_lt (g := gb104) (o := .cells #[.int .i64 t101, .int .i64 t102] 25 (0, 0)) (by (with_reducible repeat (first | refine blk_drewN ?_ _ | refine blk_drew ?_ | refine blk_alloc ?_ _)); exact BK104.out)) : gb108 ≠ gb104)); clear BK104; clear HB; have BK104 := n0_; have HB := n1_; have BK108 := n2_; have GW108 := n3_; have GE108 := n4_; have NB104_108 := n5_; have NB108_104 := n6_; clear n0_ n1_ n2_ n3_ n4_ n5_ n6_; clear hb hbox hg; have hnb22 := NB108_104.out; have hnc22 := NB104_108.out; have hcz23_0 : w21.cell? ⟨gb108, 0, none⟩ = some (.int .i64 0) := (blk_cell BK108.out 0).trans rfl; have hcz23_1 : w21.cell? ⟨gb108, 1, none⟩ = some (.int .i64 0) := (blk_cell BK108.out 1).trans rfl; have hfz23_0 := blk_frozen BK108.out 0; have hfz23_1 := blk_frozen BK108.out 1; have hcz24_0 : w21.cell? ⟨gb104, 0, none⟩ = some (.int .i64 t101) := (blk_cell BK104.out 0).trans rfl; have hcz24_1 : w21.cell? ⟨gb104, 1, none⟩ = some (.int .i64 t102) := (blk_cell BK104.out 1).trans rfl; have hfz24_0 := blk_frozen BK104.out 0; have hfz24_1 := blk_frozen BK104.out 1) | ((with_reducible refine gate_callee (f := 23) rfl ?_); refine goesL_ (some 22) rfl rfl Tryd.func23 (by kernel_rfl) rfl #[.agg #[.int .i64 t105, .int .i64 t106], .agg #[.int .i64 t101, .int .i64 t102]] rfl (by (try simp only [List.map_toArray, List.map_cons, List.map_nil]); first | done | rfl | (simp only [List.length_drop, List.length_take]; rfl)) ?_; (with_reducible refine (laws_eqNetPrefix.calls t105 t106 t101 t102 true _ A5.out).mono ?_); rintro e w25 ⟨rfl, hb⟩; refine ⟨_, rfl, ?_⟩; have n0_ := Aside0.mk (blk_below (g := gb104) (o := .cells #[.int .i64 t101, .int .i64 t102] 25 (0, 0)) (by (with_reducible repeat (first | refine blk_drewN ?_ _ | refine blk_drew ?_ | refine blk_alloc ?_ _)); refine blk_far ?_ NB104_108.out _; (with_reducible repeat (first | refine blk_drewN ?_ _ | refine blk_drew ?_ | refine blk_alloc ?_ _)); refine blk_far ?_ NB104_108.out _; (with_reducible repeat (first | refine blk_drewN ?_ _ | refine blk_drew ?_ | refine blk_alloc ?_ _)); exact BK104.out) hb); have n1_ := Aside0.mk (blk_below (g := gb108) (o := .cells #[.int .i64 t105, .int .i64 t106] 25 (0, 0)) (by (with_reducible repeat (first | refine blk_drewN ?_ _ | refine blk_drew ?_ | refine blk_alloc ?_ _)); refine blk_put (cs := #[.int .i64 t105, .int .i64 0]) ?_ 1 _ rfl; (with_reducible repeat (first | refine blk_drewN ?_ _ | refine blk_drew ?_ | refine blk_alloc ?_ _)); refine blk_put (cs := #[.int .i64 0, .int .i64 0]) ?_ 0 _ rfl; (with_reducible repeat (first | refine blk_drewN ?_ _ | refine blk_drew ?_ | refine blk_alloc ?_ _)); exact BK108.out) hb); have n2_ := Aside0.mk (below_step (by repeat (first | (with_reducible first | exact HB.out | apply below_alloc | apply pw_below_drewN | apply below_drew1 | refine below_set ?_ GE104.out | refine below_set ?_ GE108.out) | exact HB.out)) hb); clear BK104; clear BK108; clear HB; have BK104 := n0_; have BK108 := n1_; have HB := n2_; clear n0_ n1_ n2_; (try clear hb); (try clear hb2); (try clear hk); (try clear hi)))
        go_ret
        exact ⟨by first | rfl | (simp [errW_none, errW_some] <;> rfl) | (simp [*, errW_none, errW_some] <;> rfl), by repeat (first | (with_reducible first | exact HB.out | apply below_alloc | apply pw_below_drewN | apply below_drew1 | refine below_set ?_ GE104.out | refine below_set ?_ GE108.out) | exact HB.out)⟩
    · replace c6 := Bool.eq_false_iff.mpr c6
      subst c6
      have H1 : (some false) = some r := by rw [if_neg (show ¬ (false = true) by decide)] at H; exact H
      clear H
      have H := H1
      clear H1
      obtain rfl := Option.some.inj H
      go_enter Tryd.func7, Tryd.ntmps7
      go_wp2_with (first | ((with_reducible refine gate_callee (f := 10) rfl ?_); refine goesL_ (some 12) rfl rfl Tryd.func10 (by kernel_rfl) rfl #[.string a0] rfl (by (try simp only [List.map_toArray, List.map_cons, List.map_nil]); first | done | rfl | (simp only [List.length_drop, List.length_take]; rfl)) ?_; (with_reducible refine (spec_NetParse.calls k a0 t101 t102 t103 _ A3.out).mono ?_); rintro e w26 ⟨rfl, hb⟩; refine ⟨_, rfl, ?_⟩; have n0_ := Aside0.mk (below_step (by repeat (first | (with_reducible first | exact HB.out | apply below_alloc | apply pw_below_drewN | apply below_drew1) | exact HB.out)) hb); clear HB; have HB := n0_; clear n0_; (try clear hb); (try clear hb2); (try clear hk); (try clear hi)) | ((with_reducible refine gate_dst (N := 3) rfl ?_); refine box_event ?hg (N := 3) ?hd (cs := #[.int .i64 0, .int .i64 0]) (t := 25) ?hr ?_; (case hd => rfl); (case hg => rfl); (case hr => first | (go_simp; done) | (go_simp; rfl)); intro gb104 hg w27 hbox hb; have n0_ := Aside0.mk (below_step (by repeat (first | (with_reducible first | exact HB.out | apply below_alloc | apply pw_below_drewN | apply below_drew1) | exact HB.out)) hb); have n1_ := Aside0.mk (hbox); have n2_ := Aside0.mk ((by rw [hg]; exact (below_size (by repeat (first | (with_reducible first | exact HB.out | apply below_alloc | apply pw_below_drewN | apply below_drew1) | exact HB.out))) : w.heap.size ≤ gb104)); have n3_ := Aside0.mk ((by rw [hg]; exact (below_size (by repeat (first | (with_reducible first | exact HB.out | apply below_alloc | apply pw_below_drewN | apply below_drew1) | exact HB.out))) : w.heap.size ≤ gb104)); clear HB; have HB := n0_; have BK104 := n1_; have GW104 := n2_; have GE104 := n3_; clear n0_ n1_ n2_ n3_; clear hb hbox hg; have hcz28_0 : w27.cell? ⟨gb104, 0, none⟩ = some (.int .i64 0) := (blk_cell BK104.out 0).trans rfl; have hcz28_1 : w27.cell? ⟨gb104, 1, none⟩ = some (.int .i64 0) := (blk_cell BK104.out 1).trans rfl; have hfz28_0 := blk_frozen BK104.out 0; have hfz28_1 := blk_frozen BK104.out 1) | ((with_reducible refine gate_callee (f := 9) rfl ?_); refine goesL_ (some 17) rfl rfl Tryd.func9 (by kernel_rfl) rfl #[.string a0] rfl (by (try simp only [List.map_toArray, List.map_cons, List.map_nil]); first | done | rfl | (simp only [List.length_drop, List.length_take]; rfl)) ?_; (with_reducible refine (impl_NetParse.calls a0 t105 t106 t107 _ (HG.out.step (by repeat (first | (with_reducible first | exact HB.out | apply below_alloc | apply pw_below_drewN | apply below_drew1 | refine below_set ?_ GE104.out) | exact HB.out))) A4.out).mono ?_); rintro e w29 ⟨rfl, hb⟩; refine ⟨_, rfl, ?_⟩; have n0_ := Aside0.mk (blk_below (g := gb104) (o := .cells #[.int .i64 t101, .int .i64 t102] 25 (0, 0)) (by (with_reducible repeat (first | refine blk_drewN ?_ _ | refine blk_drew ?_ | refine blk_alloc ?_ _)); refine blk_put (cs := #[.int .i64 t101, .int .i64 0]) ?_ 1 _ rfl; (with_reducible repeat (first | refine blk_drewN ?_ _ | refine blk_drew ?_ | refine blk_alloc ?_ _)); refine blk_put (cs := #[.int .i64 0, .int .i64 0]) ?_ 0 _ rfl; (with_reducible repeat (first | refine blk_drewN ?_ _ | refine blk_drew ?_ | refine blk_alloc ?_ _)); exact BK104.out) hb); have n1_ := Aside0.mk (below_step (by repeat (first | (with_reducible first | exact HB.out | apply below_alloc | apply pw_below_drewN | apply below_drew1 | refine below_set ?_ GE104.out) | exact HB.out)) hb); clear BK104; clear HB; have BK104 := n0_; have HB := n1_; clear n0_ n1_; (try clear hb); (try clear hb2); (try clear hk); (try clear hi)) | ((with_reducible refine gate_dst (N := 5) rfl ?_); refine box_event ?hg (N := 5) ?hd (cs := #[.int .i64 0, .int .i64 0]) (t := 25) ?hr ?_; (case hd => rfl); (case hg => rfl); (case hr => first | (go_simp; done) | (go_simp; rfl)); intro gb108 hg w30 hbox hb; have n0_ := Aside0.mk (blk_below (g := gb104) (o := .cells #[.int .i64 t101, .int .i64 t102] 25 (0, 0)) (by (with_reducible repeat (first | refine blk_drewN ?_ _ | refine blk_drew ?_ | refine blk_alloc ?_ _)); exact BK104.out) hb); have n1_ := Aside0.mk (below_step (by repeat (first | (with_reducible first | exact HB.out | apply below_alloc | apply pw_below_drewN | apply below_drew1 | refine below_set ?_ GE104.out) | exact HB.out)) hb); have n2_ := Aside0.mk (hbox); have n3_ := Aside0.mk ((by rw [hg]; exact (below_size (by repeat (first | (with_reducible first | exact HB.out | apply below_alloc | apply pw_below_drewN | apply below_drew1 | refine below_set ?_ GE104.out) | exact HB.out))) : w.heap.size ≤ gb108)); have n4_ := Aside0.mk ((by rw [hg]; exact (below_size (by repeat (first | (with_reducible first | exact HB.out | apply below_alloc | apply pw_below_drewN | apply below_drew1 | refine below_set ?_ GE104.out) | exact HB.out))) : w.heap.size ≤ gb108)); have n5_ := Aside0.mk ((by rw [hg]; exact Nat.ne_of_lt (blk_lt (g := gb104) (o := .cells #[.int .i64 t101, .int .i64 t102] 25 (0, 0)) (by (with_reducible repeat (first | refine blk_drewN ?_ _ | refine blk_drew ?_ | refine blk_alloc ?_ _)); exact BK104.out)) : gb104 ≠ gb108)); have n6_ := Aside0.mk ((by rw [hg]; exact Nat.ne_of_gt (blk_lt (g := gb104) (o := .cells #[.int .i64 t101, .int .i64 t102] 25 (0, 0)) (by (with_reducible repeat (first | refine blk_drewN ?_ _ | refine blk_drew ?_ | refine blk_alloc ?_ _)); exact BK104.out)) : gb108 ≠ gb104)); clear BK104; clear HB; have BK104 := n0_; have HB := n1_; have BK108 := n2_; have GW108 := n3_; have GE108 := n4_; have NB104_108 := n5_; have NB108_104 := n6_; clear n0_ n1_ n2_ n3_ n4_ n5_ n6_; clear hb hbox hg; have hnb31 := NB108_104.out; have hnc31 := NB104_108.out; have hcz32_0 : w30.cell? ⟨gb108, 0, none⟩ = some (.int .i64 0) := (blk_cell BK108.out 0).trans rfl; have hcz32_1 : w30.cell? ⟨gb108, 1, none⟩ = some (.int .i64 0) := (blk_cell BK108.out 1).trans rfl; have hfz32_0 := blk_frozen BK108.out 0; have hfz32_1 := blk_frozen BK108.out 1; have hcz33_0 : w30.cell? ⟨gb104, 0, none⟩ = some (.int .i64 t101) := (blk_cell BK104.out 0).trans rfl; have hcz33_1 : w30.cell? ⟨gb104, 1, none⟩ = some (.int .i64 t102) := (blk_cell BK104.out 1).trans rfl; have hfz33_0 := blk_frozen BK104.out 0; have hfz33_1 := blk_frozen BK104.out 1) | ((with_reducible refine gate_callee (f := 23) rfl ?_); refine goesL_ (some 22) rfl rfl Tryd.func23 (by kernel_rfl) rfl #[.agg #[.int .i64 t105, .int .i64 t106], .agg #[.int .i64 t101, .int .i64 t102]] rfl (by (try simp only [List.map_toArray, List.map_cons, List.map_nil]); first | done | rfl | (simp only [List.length_drop, List.length_take]; rfl)) ?_; (with_reducible refine (laws_eqNetPrefix.calls t105 t106 t101 t102 false _ A5.out).mono ?_); rintro e w34 ⟨rfl, hb⟩; refine ⟨_, rfl, ?_⟩; have n0_ := Aside0.mk (blk_below (g := gb104) (o := .cells #[.int .i64 t101, .int .i64 t102] 25 (0, 0)) (by (with_reducible repeat (first | refine blk_drewN ?_ _ | refine blk_drew ?_ | refine blk_alloc ?_ _)); refine blk_far ?_ NB104_108.out _; (with_reducible repeat (first | refine blk_drewN ?_ _ | refine blk_drew ?_ | refine blk_alloc ?_ _)); refine blk_far ?_ NB104_108.out _; (with_reducible repeat (first | refine blk_drewN ?_ _ | refine blk_drew ?_ | refine blk_alloc ?_ _)); exact BK104.out) hb); have n1_ := Aside0.mk (blk_below (g := gb108) (o := .cells #[.int .i64 t105, .int .i64 t106] 25 (0, 0)) (by (with_reducible repeat (first | refine blk_drewN ?_ _ | refine blk_drew ?_ | refine blk_alloc ?_ _)); refine blk_put (cs := #[.int .i64 t105, .int .i64 0]) ?_ 1 _ rfl; (with_reducible repeat (first | refine blk_drewN ?_ _ | refine blk_drew ?_ | refine blk_alloc ?_ _)); refine blk_put (cs := #[.int .i64 0, .int .i64 0]) ?_ 0 _ rfl; (with_reducible repeat (first | refine blk_drewN ?_ _ | refine blk_drew ?_ | refine blk_alloc ?_ _)); exact BK108.out) hb); have n2_ := Aside0.mk (below_step (by repeat (first | (with_reducible first | exact HB.out | apply below_alloc | apply pw_below_drewN | apply below_drew1 | refine below_set ?_ GE104.out | refine below_set ?_ GE108.out) | exact HB.out)) hb); clear BK104; clear BK108; clear HB; have BK104 := n0_; have BK108 := n1_; have HB := n2_; clear n0_ n1_ n2_; (try clear hb); (try clear hb2); (try clear hk); (try clear hi)))
      go_ret
      exact ⟨by first | rfl | (simp [errW_none, errW_some] <;> rfl) | (simp [*, errW_none, errW_some] <;> rfl), by repeat (first | (with_reducible first | exact HB.out | apply below_alloc | apply pw_below_drewN | apply below_drew1 | refine below_set ?_ GE104.out | refine below_set ?_ GE108.out) | exact HB.out)⟩
end Go.Proofs.YtnakanjhdcakhaaDoor.Q
namespace Go.Proofs.YtnakanjhdcakhaaDoor.Pure
open Go.RowKit Go.Proofs.YtnakanjhdcakhaaDoorW.PrintWords Go.Proofs.YtnakanjhdcakhaaDoorW.PrintMore
open Q
/-- How many addresses a prefix of a length has. -/
def sz (n : Int) : Int := 2 ^ (16 - n).toNat
def okB (a n : Int) : Bool := decide (0 ≤ n ∧ n ≤ 16 ∧ 0 ≤ a ∧ a ≤ 65535 ∧ a % sz n = 0)
theorem okB_iff {a n : Int} : okB a n = true ↔ 0 ≤ n ∧ n ≤ 16 ∧ 0 ≤ a ∧ a ≤ 65535 ∧ a % sz n = 0 := by unfold okB; simp
theorem len_cases {n : Int} (h0 : 0 ≤ n) (h1 : n ≤ 16) : n = 0 ∨ n = 1 ∨ n = 2 ∨ n = 3 ∨ n = 4 ∨ n = 5 ∨ n = 6 ∨ n = 7 ∨ n = 8 ∨ n = 9 ∨ n = 10 ∨ n = 11 ∨ n = 12 ∨ n = 13 ∨ n = 14 ∨ n = 15 ∨ n = 16 := by omega
theorem sz_pos (n : Int) : 1 ≤ sz n := by
  unfold sz
  have : (0 : Int) < 2 ^ (16 - n).toNat := Int.pow_pos (by decide)
  omega
theorem size_i (a : Int) {n : Int} (h0 : 0 ≤ n) (h1 : n ≤ 16) : impl_size.f a n = some (sz n) := by
  unfold impl_size.f
  rcases len_cases h0 h1 with rfl | rfl | rfl | rfl | rfl | rfl | rfl | rfl | rfl | rfl | rfl | rfl | rfl | rfl | rfl | rfl | rfl <;> decide +kernel
theorem size_s {k : Nat} {n : Int} (h0 : 0 ≤ n) (h1 : n ≤ 16) (hk : 20 ≤ k) : spec_l1Size.f k n = some (sz n) := by
  refine at_rounds (k := 20) (fun k => spec_l1Size.mono n k) hk ?_
  rcases len_cases h0 h1 with rfl | rfl | rfl | rfl | rfl | rfl | rfl | rfl | rfl | rfl | rfl | rfl | rfl | rfl | rfl | rfl | rfl <;> decide +kernel
theorem wrap_in {x : Int} (h0 : -9223372036854775808 ≤ x) (h1 : x ≤ 9223372036854775807) : wrap64 x = x := by unfold wrap64; omega
theorem ok_i (a n : Int) : impl_NetOk.f a n = some (okB a n) := by
  unfold impl_NetOk.f impl_isAddr.f okB
  by_cases h0 : n ≥ 0
  · by_cases h1 : n ≤ 16
    · by_cases h2 : a ≥ 0
      · by_cases h3 : a ≤ 65535
        · have hp := sz_pos n
          have hm : a.tmod (sz n) = a % sz n := Int.tmod_eq_emod_of_nonneg h2
          rw [if_pos h0, if_pos h1, if_pos h2]
          simp only [h3, decide_true, Option.bind_some, if_true, size_i a h0 h1, if_neg (show ¬ sz n = 0 by omega), hm]
          simp [h0, h1, h2]
          rfl
        · rw [if_pos h0, if_pos h1, if_pos h2]
          simp [h3]
      · rw [if_pos h0, if_pos h1, if_neg h2]
        simp [show ¬ 0 ≤ a by omega]
    · rw [if_pos h0, if_neg h1]
      simp [h1]
  · rw [if_neg h0]
    simp [show ¬ 0 ≤ n by omega]
theorem ok_s {k : Nat} (hk : 20 ≤ k) (a n : Int) : spec_NetOk.f k a n = some (okB a n) := by
  unfold spec_NetOk.f spec_l1In.f okB
  by_cases h0 : n ≥ 0
  · by_cases h1 : n ≤ 16
    · by_cases h2 : a ≥ 0
      · by_cases h3 : a ≤ 65535
        · have hp := sz_pos n
          have hm : a.tmod (sz n) = a % sz n := Int.tmod_eq_emod_of_nonneg h2
          rw [if_pos h0, if_pos h2]
          simp only [h1, h3, decide_true, Option.bind_some, if_true, size_s h0 h1 hk, if_neg (show ¬ sz n = 0 by omega), hm]
          simp [h0, h2]
          rfl
        · rw [if_pos h0, if_pos h2]
          simp [h1, h3]
      · rw [if_pos h0, if_neg h2]
        simp [h1, show ¬ 0 ≤ a by omega]
    · rw [if_pos h0]
      simp [h1]
  · rw [if_neg h0]
    simp [show ¬ 0 ≤ n by omega]
end Go.Proofs.YtnakanjhdcakhaaDoor.Pure
namespace Go.Proofs.YtnakanjhdcakhaaDoor.Pure
open Go.RowKit Go.Proofs.YtnakanjhdcakhaaDoorW.PrintWords Go.Proofs.YtnakanjhdcakhaaDoorW.PrintMore
open Q
set_option linter.unusedVariables false
set_option linter.unusedSimpArgs false
/-- The decimal digits of a number below 1000. -/
def dd (v : Nat) : List UInt8 := if v < 10 then [UInt8.ofNat (48 + v)] else if v < 100 then [UInt8.ofNat (48 + v / 10), UInt8.ofNat (48 + v % 10)] else [UInt8.ofNat (48 + v / 100), UInt8.ofNat (48 + v / 10 % 10), UInt8.ofNat (48 + v % 10)]
theorem dec_dd {v : Nat} (h : v < 1000) : Lib.decDigits v = dd v := by
  unfold dd
  by_cases h1 : v < 10
  · rw [if_pos h1, Lib.decDigits_one h1]
  · rw [if_neg h1]
    by_cases h2 : v < 100
    · rw [if_pos h2, Lib.decDigits_two h1 h2]
    · rw [if_neg h2, Lib.decDigits, dif_neg h1, Lib.decDigits_two (by omega) (by omega), show v / 10 / 10 = v / 100 by omega]
      rfl
theorem itoa_dd {v : Int} (h0 : 0 ≤ v) (h1 : v < 1000) : Lib.itoa v = dd v.toNat := by
  unfold Lib.itoa
  rw [if_neg (by omega), dec_dd (by omega)]
/-- What the reference reckons of figures. -/
def decP : Int → List UInt8 → Int
  | acc, [] => acc
  | acc, c :: r => if c.toNat < 48 then -1 else if 57 < c.toNat then -1 else decP (acc * 10 + ((c.toNat : Int) - 48)) r
def numS (l : List UInt8) : Int := if 1 ≤ l.length ∧ l.length ≤ 5 then (if 1 < l.length ∧ l.head? = some 48 then -1 else decP 0 l) else -1
theorem dd_atoi : ∀ v : Fin 256, Lib.atoiAll (dd v.val) = .ok (v.val : Int) := by decide +kernel
theorem dd_num : ∀ v : Fin 256, numS (dd v.val) = (v.val : Int) := by decide +kernel
theorem byte_of {c : UInt8} {n : Nat} (h : c.toNat = n) : c = UInt8.ofNat n := by
  apply UInt8.toNat_inj.1
  have := c.toNat_lt
  simp
  omega
theorem num_dd {l : List UInt8} {v : Nat} (h : numS l = (v : Int)) (hv : v ≤ 255) : l = dd v := by
  unfold numS at h
  split at h
  · rename_i hl
    split at h
    · omega
    · rename_i hz
      match l, hl, hz, h with
      | [a], _, _, h =>
        simp only [decP] at h
        split at h
        · omega
        · split at h
          · omega
          · unfold dd
            rw [if_pos (by omega), byte_of (c := a) (n := 48 + v) (by omega)]
      | [a, b], _, hz, h =>
        simp only [decP] at h
        have ha : a.toNat ≠ 48 := fun e => hz ⟨by simp, by simp only [List.head?_cons]; rw [byte_of e]; rfl⟩
        split at h
        · omega
        · split at h
          · omega
          · split at h
            · omega
            · split at h
              · omega
              · unfold dd
                rw [if_neg (by omega), if_pos (by omega), byte_of (c := a) (n := 48 + v / 10) (by omega), byte_of (c := b) (n := 48 + v % 10) (by omega)]
      | [a, b, c], _, hz, h =>
        simp only [decP] at h
        have ha : a.toNat ≠ 48 := fun e => hz ⟨by simp, by simp only [List.head?_cons]; rw [byte_of e]; rfl⟩
        split at h
        · omega
        · split at h
          · omega
          · split at h
            · omega
            · split at h
              · omega
              · split at h
                · omega
                · split at h
                  · omega
                  · unfold dd
                    rw [if_neg (by omega), if_neg (by omega), byte_of (c := a) (n := 48 + v / 100) (by omega), byte_of (c := b) (n := 48 + v / 10 % 10) (by omega), byte_of (c := c) (n := 48 + v % 10) (by omega)]
      | [a, b, c, d], _, hz, h =>
        simp only [decP] at h
        have ha : a.toNat ≠ 48 := fun e => hz ⟨by simp, by simp only [List.head?_cons]; rw [byte_of e]; rfl⟩
        repeat' split at h
        all_goals omega
      | [a, b, c, d, e], _, hz, h =>
        simp only [decP] at h
        have ha : a.toNat ≠ 48 := fun e => hz ⟨by simp, by simp only [List.head?_cons]; rw [byte_of e]; rfl⟩
        repeat' split at h
        all_goals omega
      | a :: b :: c :: d :: e :: f :: r, hl, _, _ => simp at hl
  · omega
/-- The program's reader of numbers, by the reference's. -/
theorem number_is (s : ByteArray) {most : Int} (h0 : 0 ≤ most) (h1 : most ≤ 255) : numP s most = if 0 ≤ numS s.data.toList ∧ numS s.data.toList ≤ most then numS s.data.toList else -1 := by
  by_cases hc : 0 ≤ numS s.data.toList ∧ numS s.data.toList ≤ most
  · rw [if_pos hc]
    obtain ⟨v, hv⟩ := Int.eq_ofNat_of_zero_le hc.1
    have hl := num_dd hv (by omega)
    have ha := dd_atoi ⟨v, by omega⟩
    unfold numP
    rw [hv]
    simp only at ha
    rw [hl, ha]
    simp only
    rw [if_neg]
    rintro (h | h | h)
    · omega
    · omega
    · rw [itoa_dd (by omega) (by omega)] at h
      exact h (by simp)
  · rw [if_neg hc]
    unfold numP
    split
    · rename_i v hq
      split
      · rfl
      · rename_i hn
        exfalso
        apply hc
        have h3 : 0 ≤ v := by
          rcases Int.lt_or_le v 0 with h | h
          · exact absurd (.inl h) hn
          · exact h
        have h4 : v ≤ most := by
          rcases Int.lt_or_le most v with h | h
          · exact absurd (.inr (.inl h)) hn
          · exact h
        have h5 : Lib.itoa v = s.data.toList := Decidable.not_not.1 (fun h => hn (.inr (.inr h)))
        rw [itoa_dd h3 (by omega)] at h5
        have := dd_num ⟨v.toNat, by omega⟩
        simp only at this
        rw [← h5, this]
        omega
    · rfl
theorem l1In_d (n a b : Int) : spec_l1In.f n a b = some (decide (a ≤ n ∧ n ≤ b)) := by
  unfold spec_l1In.f
  by_cases h : n ≥ a
  · rw [if_pos h]
    congr 1
    exact decide_eq_decide.2 (by omega)
  · rw [if_neg h, decide_eq_false (by omega)]
theorem bt_list (s : ByteArray) (i : Nat) (h : i < s.data.toList.length) : bt s (i : Int) = ((s.data.toList[i]).toNat : Int) := by
  have e : s.size = s.data.toList.length := by rw [Array.length_toList]; rfl
  have h' : ((i : Int)).toNat < s.size := by rw [e]; exact h
  unfold bt
  rw [dif_pos h']
  rfl
theorem size_list (s : ByteArray) : (s.size : Int) = (s.data.toList.length : Int) := by rw [Array.length_toList]; rfl
theorem num_loop (s : ByteArray) (hl : s.data.toList.length ≤ 5) (d : Nat) : ∀ (i k : Nat) (acc : Int), i + d = s.data.toList.length → d < k → 0 ≤ acc → acc < 10 ^ i → spec_l2Num.l0 k s acc i = some (decP acc (s.data.toList.drop i)) := by
  induction d with
  | zero =>
    intro i k acc hi hk h0 h1
    obtain ⟨k, rfl⟩ : ∃ m, k = m + 1 := ⟨k - 1, by omega⟩
    simp only [spec_l2Num.l0]
    rw [size_list, if_neg (by omega), List.drop_eq_nil_of_le (by omega)]
    rfl
  | succ d ih =>
    intro i k acc hi hk h0 h1
    obtain ⟨k, rfl⟩ : ∃ m, k = m + 1 := ⟨k - 1, by omega⟩
    have hb := (s.data.toList[i]'(by omega)).toNat_lt
    have hp : (10 : Int) ^ i ≤ 10 ^ 5 := by
      have : i = 0 ∨ i = 1 ∨ i = 2 ∨ i = 3 ∨ i = 4 := by omega
      rcases this with rfl | rfl | rfl | rfl | rfl <;> decide
    have e5 : (10 : Int) ^ 5 = 100000 := by decide
    simp only [spec_l2Num.l0]
    rw [size_list, if_pos (by omega), if_pos (by omega), bt_list s i (by omega), List.drop_eq_getElem_cons (by omega)]
    simp only [decP]
    by_cases c0 : (s.data.toList[i]'(by omega)).toNat < 48
    · rw [if_pos (by omega), if_pos c0]
    · rw [if_neg (by omega), if_neg c0]
      by_cases c1 : 57 < (s.data.toList[i]'(by omega)).toNat
      · rw [if_pos (by omega), if_pos c1]
      · rw [if_neg (by omega), if_neg c1, wrap_in (x := acc * 10) (by omega) (by omega), wrap_in (x := (i : Int) + 1) (by omega) (by omega), Int.emod_eq_of_lt (by omega) (by omega), wrap_in (by omega) (by omega)]
        exact ih (i + 1) k _ (by omega) (by omega) (by omega) (by rw [Int.pow_succ]; omega)
theorem num_s (s : ByteArray) {k : Nat} (hk : 10 ≤ k) : spec_l2Num.f k s = some (numS s.data.toList) := by
  unfold spec_l2Num.f numS
  rw [l1In_d, Option.bind_some, size_list]
  by_cases hl : 1 ≤ s.data.toList.length ∧ s.data.toList.length ≤ 5
  · obtain ⟨k, rfl⟩ : ∃ m, k = m + 1 := ⟨k - 1, by omega⟩
    have hn := num_loop s hl.2 s.data.toList.length 0 k 0 (by omega) (by omega) (by omega) (by decide)
    have h0 : ((0 : Nat) : Int) = 0 := rfl
    rw [h0, List.drop_zero] at hn
    rw [if_pos (decide_eq_true (by omega)), if_pos hl]
    by_cases h1 : (s.data.toList.length : Int) > 1
    · rw [if_pos h1, if_pos (by omega)]
      have hb := bt_list s 0 (by omega)
      rw [h0] at hb
      rw [hb]
      simp only [spec_l2Num.j0]
      have eh : s.data.toList.head? = some (s.data.toList[0]'(by omega)) := by
        rw [List.head?_eq_getElem?, List.getElem?_eq_getElem]
      by_cases h2 : (s.data.toList[0]'(by omega)).toNat = 48
      · rw [if_pos (by rw [h2]; rfl), if_pos ⟨by omega, by rw [eh, byte_of h2]; rfl⟩]
      · have hne : ((((s.data.toList[0]'(by omega)).toNat : Int)) == 48) = false := by
          rw [beq_eq_false_iff_ne]
          omega
        rw [hne]
        simp only [Bool.false_eq_true, if_false]
        rw [if_neg]
        · exact hn
        · rintro ⟨_, h⟩
          rw [eh] at h
          simp only [Option.some.injEq] at h
          rw [h] at h2
          exact h2 rfl
    · rw [if_neg h1]
      simp only [spec_l2Num.j0, Bool.false_eq_true, if_false]
      rw [hn, if_neg (by omega)]
  · rw [if_neg (by rw [decide_eq_false (by omega)]; simp), if_neg hl]
    obtain ⟨k, rfl⟩ : ∃ m, k = m + 1 := ⟨k - 1, by omega⟩
    simp only [spec_l2Num.j0, if_true]
theorem number_s (s : ByteArray) (hs : s.size ≤ 281474976710656) {most : Int} (h0 : 0 ≤ most) (h1 : most ≤ 255) : impl_number.f s most = some (if 0 ≤ numS s.data.toList ∧ numS s.data.toList ≤ most then numS s.data.toList else -1) := by
  unfold impl_number.f
  rw [if_pos hs, number_is s h0 h1]
end Go.Proofs.YtnakanjhdcakhaaDoor.Pure
namespace Go.Proofs.YtnakanjhdcakhaaDoor.Pure
open Go.RowKit Go.Proofs.YtnakanjhdcakhaaDoorW.PrintWords Go.Proofs.YtnakanjhdcakhaaDoorW.PrintMore
open Q
set_option linter.unusedVariables false
set_option linter.unusedSimpArgs false
theorem index_miss {c : UInt8} : ∀ {l : List UInt8}, c ∉ l → Lib.index l [c] = -1
  | [], _ => rfl
  | b :: l, h => by
    have hb : c ≠ b := fun e => h (by simp [e])
    have hl : c ∉ l := fun e => h (by simp [e])
    have e : ([c] : List UInt8).isPrefixOf (b :: l) = false := by simp [List.isPrefixOf, hb]
    unfold Lib.index
    rw [e, index_miss hl]
    rfl
theorem index_hit {c : UInt8} (B : List UInt8) : ∀ {A : List UInt8}, c ∉ A → Lib.index (A ++ c :: B) [c] = (A.length : Int)
  | [], _ => by
    have e : ([c] : List UInt8).isPrefixOf (c :: B) = true := by simp [List.isPrefixOf]
    rw [List.nil_append]
    unfold Lib.index
    rw [e]
    rfl
  | b :: A, h => by
    have hb : c ≠ b := fun e => h (by simp [e])
    have hl : c ∉ A := fun e => h (by simp [e])
    have e : ([c] : List UInt8).isPrefixOf (b :: (A ++ c :: B)) = false := by simp [List.isPrefixOf, hb]
    rw [List.cons_append]
    unfold Lib.index
    rw [e, index_hit B hl]
    have : ((A.length : Int) == -1) = false := by rw [beq_eq_false_iff_ne]; omega
    rw [this]
    simp
theorem cut_miss {c : UInt8} {l : List UInt8} (h : c ∉ l) : Lib.cut l [c] = (l, [], false) := by
  unfold Lib.cut
  rw [index_miss h]
  rfl
theorem cut_hit {c : UInt8} {A B : List UInt8} (h : c ∉ A) : Lib.cut (A ++ c :: B) [c] = (A, B, true) := by
  unfold Lib.cut
  rw [index_hit B h, if_pos (by omega)]
  simp
/-- A text cut at each byte c: P is what stands ahead of the first cut. -/
def piecesP (c : UInt8) (P : List UInt8) : List UInt8 → List (List UInt8)
  | [] => [P]
  | b :: r => if b = c then P :: piecesP c [] r else piecesP c (P ++ [b]) r
theorem pieces_miss {c : UInt8} : ∀ (l P : List UInt8), c ∉ l → piecesP c P l = [P ++ l]
  | [], P, _ => by simp [piecesP]
  | b :: l, P, h => by
    have hb : b ≠ c := fun e => h (by simp [e])
    have hl : c ∉ l := fun e => h (by simp [e])
    rw [piecesP, if_neg hb, pieces_miss l (P ++ [b]) hl]
    simp
theorem pieces_hit {c : UInt8} (B : List UInt8) : ∀ (A P : List UInt8), c ∉ A → piecesP c P (A ++ c :: B) = (P ++ A) :: piecesP c [] B
  | [], P, _ => by simp [piecesP]
  | b :: A, P, h => by
    have hb : b ≠ c := fun e => h (by simp [e])
    have hl : c ∉ A := fun e => h (by simp [e])
    rw [List.cons_append, piecesP, if_neg hb, pieces_hit B A (P ++ [b]) hl]
    simp
theorem pieces_len {c : UInt8} : ∀ (l P : List UInt8), 1 ≤ (piecesP c P l).length ∧ (piecesP c P l).length ≤ l.length + 1
  | [], P => by simp [piecesP]
  | b :: l, P => by
    rw [piecesP]
    split
    · have := pieces_len (c := c) l []
      simp only [List.length_cons]
      omega
    · have := pieces_len (c := c) l (P ++ [b])
      simp only [List.length_cons]
      omega
def mkB (l : List UInt8) : ByteArray := ⟨l.toArray⟩
theorem mkB_list (l : List UInt8) : (mkB l).data.toList = l := by simp [mkB]
theorem mkB_size (l : List UInt8) : (mkB l).size = l.length := by simp [mkB, ByteArray.size]
theorem extract_mk (s : ByteArray) (a b : Nat) (h : a ≤ b) (hb : b ≤ s.data.toList.length) : s.extract a b = mkB ((s.data.toList.drop a).take (b - a)) := by
  apply ByteArray.ext
  apply Array.toList_inj.1
  rw [ByteArray.data_extract, Array.toList_extract, mkB_list]
theorem size_nat (s : ByteArray) : s.size = s.data.toList.length := by rw [Array.length_toList]; rfl
theorem cut_loop (s : ByteArray) (c : UInt8) (hs : s.data.toList.length ≤ 100000000) (d : Nat) : ∀ (i frm k : Nat) (out : List ByteArray), i + d = s.data.toList.length → frm ≤ i → out.length ≤ i → d < k →
    spec_l2Cut.l0 k s (c.toNat : Int) out frm i = some (out ++ (piecesP c ((s.data.toList.drop frm).take (i - frm)) (s.data.toList.drop i)).map mkB) := by
  induction d with
  | zero =>
    intro i frm k out hi hf ho hk
    obtain ⟨k, rfl⟩ : ∃ m, k = m + 1 := ⟨k - 1, by omega⟩
    simp only [spec_l2Cut.l0]
    rw [size_list, if_neg (by omega), if_pos (by omega), if_pos (by omega), if_pos (by omega), List.drop_eq_nil_of_le (show s.data.toList.length ≤ i by omega)]
    simp only [piecesP, List.map_cons, List.map_nil]
    rw [size_nat, show ((frm : Int)).toNat = frm from rfl, extract_mk s frm _ (by omega) (Nat.le_refl _), show i = s.data.toList.length by omega]
  | succ d ih =>
    intro i frm k out hi hf ho hk
    obtain ⟨k, rfl⟩ : ∃ m, k = m + 1 := ⟨k - 1, by omega⟩
    have hil : i < s.data.toList.length := by omega
    simp only [spec_l2Cut.l0]
    rw [size_list, if_pos (by omega), if_pos (by omega), bt_list s i hil, List.drop_eq_getElem_cons hil, piecesP]
    have hw : wrap64 ((i : Int) + 1) = ((i + 1 : Nat) : Int) := by rw [wrap_in (by omega) (by omega)]; omega
    rw [hw]
    by_cases hc : s.data.toList[i] = c
    · rw [if_pos (by rw [hc]), if_pos hc, if_pos (by omega), if_pos (by omega), if_pos (by omega), if_pos (by omega), show ((frm : Int)).toNat = frm from rfl, show ((i : Int)).toNat = i from rfl, extract_mk s frm i hf (by omega), ih (i + 1) (i + 1) k _ (by omega) (by omega) (by simp; omega) (by omega)]
      simp
    · have hne : ¬ ((s.data.toList[i].toNat : Int) = (c.toNat : Int)) := fun e => hc (UInt8.toNat_inj.1 (by omega))
      rw [if_neg hne, if_neg hc, ih (i + 1) frm k out (by omega) (by omega) (by omega) (by omega)]
      have e : (s.data.toList.drop frm).take (i + 1 - frm) = (s.data.toList.drop frm).take (i - frm) ++ [s.data.toList[i]] := by
        rw [show i + 1 - frm = (i - frm) + 1 by omega, List.take_add_one]
        congr 1
        rw [List.getElem?_drop, show frm + (i - frm) = i by omega, List.getElem?_eq_getElem hil]
        rfl
      rw [e]
theorem cut_s (s : ByteArray) (c : UInt8) (hs : s.data.toList.length ≤ 100000000) {k : Nat} (hk : s.data.toList.length < k) : spec_l2Cut.f k s (c.toNat : Int) = some ((piecesP c [] s.data.toList).map mkB) := by
  have := cut_loop s c hs s.data.toList.length 0 0 k [] (by omega) (Nat.le_refl _) (by simp) hk
  unfold spec_l2Cut.f
  simpa using this
theorem cut_i (s : ByteArray) (c : UInt8) (hs : s.data.toList.length ≤ 100000000) : strings_Cut.f s ⟨#[c]⟩ = some (mkB (Lib.cut s.data.toList [c]).1, mkB (Lib.cut s.data.toList [c]).2.1, (Lib.cut s.data.toList [c]).2.2) := by
  unfold strings_Cut.f
  rw [if_pos (by rw [size_nat]; omega)]
  rfl
/-- What both readers of addresses say. -/
def addrP (l : List UInt8) : Int := let r := Lib.cut l [46]; let x := numS r.1; let y := numS r.2.1; if r.2.2 = true ∧ (0 ≤ x ∧ x ≤ 255) ∧ (0 ≤ y ∧ y ≤ 255) then 256 * x + y else -1
theorem num_bad {l : List UInt8} {c : UInt8} (hc : c ∈ l) (h : c.toNat < 48) : ¬ 0 ≤ numS l := by
  have key : ∀ (l : List UInt8) (acc : Int), c ∈ l → decP acc l = -1 := by
    intro l
    induction l with
    | nil => intro acc hm; simp at hm
    | cons b r ih =>
      intro acc hm
      rw [decP]
      split
      · rfl
      · split
        · rfl
        · rcases List.mem_cons.1 hm with rfl | hm
          · omega
          · exact ih _ hm
  unfold numS
  split
  · split
    · omega
    · rw [key l 0 hc]; omega
  · omega
theorem addr_i (s : ByteArray) (hs : s.data.toList.length ≤ 100000000) : impl_NetAddr.f s = some (addrP s.data.toList) := by
  unfold impl_NetAddr.f
  have e46 : (⟨#[46]⟩ : ByteArray) = ⟨#[(46 : UInt8)]⟩ := rfl
  have hl1 : (Lib.cut s.data.toList [46]).1.length ≤ s.data.toList.length ∧ (Lib.cut s.data.toList [46]).2.1.length ≤ s.data.toList.length := by
    unfold Lib.cut
    split
    · simp only [List.length_take, List.length_drop]; omega
    · simp
  rw [cut_i s 46 hs, Option.bind_some]
  simp only []
  rw [number_s _ (by rw [mkB_size]; omega) (by omega) (by omega), number_s _ (by rw [mkB_size]; omega) (by omega) (by omega), mkB_list, mkB_list]
  simp only [Option.bind_some]
  unfold addrP
  simp only []
  generalize numS (Lib.cut s.data.toList [46]).1 = x
  generalize numS (Lib.cut s.data.toList [46]).2.1 = y
  generalize (Lib.cut s.data.toList [46]).2.2 = b
  cases b with
  | false => simp
  | true =>
    rw [if_pos rfl]
    by_cases hx : 0 ≤ x ∧ x ≤ 255
    · rw [if_pos hx, if_neg (by omega)]
      by_cases hy : 0 ≤ y ∧ y ≤ 255
      · rw [if_pos hy, if_neg (by omega), if_pos ⟨rfl, hx, hy⟩, wrap_in (x := 256 * x) (by omega) (by omega), wrap_in (by omega) (by omega)]
      · rw [if_neg hy, if_pos (by omega), if_neg (fun h => hy h.2.2)]
    · rw [if_neg hx, if_pos (by omega), if_neg (fun h => hx h.2.1)]
theorem rdOf_0 (a b : ByteArray) : rdOf ByteArray.empty [a, b] 0 = a := rfl
theorem rdOf_1 (a b : ByteArray) : rdOf ByteArray.empty [a, b] 1 = b := rfl
theorem addr_s (s : ByteArray) (hs : s.data.toList.length ≤ 100000000) {k : Nat} (hk : s.data.toList.length + 10 < k) : spec_NetAddr.f k s = some (addrP s.data.toList) := by
  unfold spec_NetAddr.f
  have hcut := cut_s s 46 hs (k := k) (by omega)
  have e46 : (((46 : UInt8).toNat : Nat) : Int) = 46 := rfl
  rw [e46] at hcut
  rw [hcut, Option.bind_some]
  unfold addrP
  by_cases hm : (46 : UInt8) ∈ s.data.toList
  · obtain ⟨A, B, e, hA⟩ := List.eq_append_cons_of_mem hm
    rw [e, pieces_hit B A [] hA, cut_hit hA]
    simp only [List.nil_append, List.map_cons, List.length_cons, List.length_map]
    by_cases hB : (46 : UInt8) ∈ B
    · obtain ⟨A', B', e', hA'⟩ := List.eq_append_cons_of_mem hB
      have h2 := (pieces_len (c := 46) B' []).1
      have h1 : (piecesP 46 [] B).length = (piecesP 46 [] B').length + 1 := by rw [e', pieces_hit B' A' [] hA']; simp
      have := num_bad hB (by decide)
      rw [if_neg (by omega), if_neg (fun h => this h.2.2.1)]
    · rw [pieces_miss B [] hB]
      simp only [List.nil_append, List.map_cons, List.map_nil, List.length_cons, List.length_nil]
      rw [if_pos (by rfl), if_pos (by decide), rdOf_0, rdOf_1, num_s _ (by omega), num_s _ (by omega), mkB_list, mkB_list]
      simp only [Option.bind_some]
      rw [if_pos (by decide), l1In_d, l1In_d]
      simp only [Option.bind_some]
      generalize numS A = x
      generalize numS B = y
      by_cases hx : 0 ≤ x ∧ x ≤ 255
      · rw [if_pos (decide_eq_true hx)]
        by_cases hy : 0 ≤ y ∧ y ≤ 255
        · rw [if_pos (decide_eq_true hy), if_pos ⟨trivial, hx, hy⟩, wrap_in (x := 256 * x) (by omega) (by omega), wrap_in (by omega) (by omega)]
        · rw [if_neg (by simpa using hy), if_neg (fun h => hy h.2.2)]
      · rw [if_neg (by simpa using hx), if_neg (fun h => hx h.2.1)]
  · rw [pieces_miss _ [] hm, cut_miss hm]
    simp
/-- What both readers of prefixes say. -/
def parseP (l : List UInt8) : Int × Int × Bool := let r := Lib.cut l [47]; let a := addrP r.1; let n := numS r.2.1; if r.2.2 = true ∧ okB a n = true then (a, n, true) else (0, 0, false)
theorem cut_lens (l : List UInt8) (c : UInt8) : (Lib.cut l [c]).1.length ≤ l.length ∧ (Lib.cut l [c]).2.1.length ≤ l.length := by
  unfold Lib.cut
  split
  · simp only [List.length_take, List.length_drop]; omega
  · simp
theorem parse_i (s : ByteArray) (hs : s.data.toList.length ≤ 100000000) : impl_NetParse.f s = some (parseP s.data.toList) := by
  have hl := cut_lens s.data.toList 47
  unfold impl_NetParse.f
  rw [cut_i s 47 hs, Option.bind_some]
  simp only []
  rw [addr_i _ (by rw [mkB_list]; omega), number_s _ (by rw [mkB_size]; omega) (by omega) (by omega), mkB_list, mkB_list]
  simp only [Option.bind_some]
  unfold parseP
  simp only []
  generalize addrP (Lib.cut s.data.toList [47]).1 = x
  generalize numS (Lib.cut s.data.toList [47]).2.1 = y
  generalize (Lib.cut s.data.toList [47]).2.2 = b
  cases b with
  | false => simp
  | true =>
    rw [if_pos rfl, ok_i, Option.bind_some]
    by_cases hy : 0 ≤ y ∧ y ≤ 16
    · rw [if_pos hy]
      by_cases ho : okB x y = true
      · rw [if_pos ho, if_pos ⟨rfl, ho⟩]
      · rw [if_neg ho, if_neg (fun h => ho h.2)]
    · have h1 : okB x (-1) ≠ true := fun h => by have := okB_iff.1 h; omega
      have h2 : okB x y ≠ true := fun h => by have := okB_iff.1 h; omega
      rw [if_neg hy, if_neg h1, if_neg (fun h => h2 h.2)]
theorem parse_s (s : ByteArray) (hs : s.data.toList.length ≤ 100000000) {k : Nat} (hk : s.data.toList.length + 30 < k) : spec_NetParse.f k s = some (parseP s.data.toList) := by
  unfold spec_NetParse.f
  have hcut := cut_s s 47 hs (k := k) (by omega)
  have e47 : (((47 : UInt8).toNat : Nat) : Int) = 47 := rfl
  rw [e47] at hcut
  rw [hcut, Option.bind_some]
  unfold parseP
  by_cases hm : (47 : UInt8) ∈ s.data.toList
  · obtain ⟨A, B, e, hA⟩ := List.eq_append_cons_of_mem hm
    have hlen : A.length + (B.length + 1) = s.data.toList.length := by rw [e]; simp
    rw [e, pieces_hit B A [] hA, cut_hit hA]
    simp only [List.nil_append, List.map_cons, List.length_cons, List.length_map]
    by_cases hB : (47 : UInt8) ∈ B
    · obtain ⟨A', B', e', hA'⟩ := List.eq_append_cons_of_mem hB
      have h2 := (pieces_len (c := 47) B' []).1
      have h1 : (piecesP 47 [] B).length = (piecesP 47 [] B').length + 1 := by rw [e', pieces_hit B' A' [] hA']; simp
      have hb := num_bad hB (by decide)
      have h3 : okB (addrP A) (numS B) ≠ true := fun h => by have := okB_iff.1 h; omega
      rw [if_neg (by omega), if_neg (fun h => h3 h.2)]
    · rw [pieces_miss B [] hB]
      simp only [List.nil_append, List.map_cons, List.map_nil, List.length_cons, List.length_nil]
      rw [if_pos (by rfl), if_pos (by decide), rdOf_0, rdOf_1, addr_s _ (by rw [mkB_list]; omega) (by rw [mkB_list]; omega), num_s _ (by omega), mkB_list, mkB_list]
      simp only [Option.bind_some]
      rw [if_pos (by decide), ok_s (by omega), Option.bind_some]
      by_cases ho : okB (addrP A) (numS B) = true
      · rw [if_pos ho, if_pos ⟨trivial, ho⟩]
      · rw [if_neg ho, if_neg (fun h => ho h.2)]
  · rw [pieces_miss _ [] hm, cut_miss hm]
    simp
theorem FnExactNetParse (a0 : ByteArray) : ∃ k, laws_FnExactNetParse.f k a0 = some true := by
  by_cases hc : (a0.size : Int) > 1048576
  · refine ⟨0, ?_⟩
    unfold laws_FnExactNetParse.f
    rw [if_pos hc]
  · refine ⟨2000000, ?_⟩
    have hl : a0.data.toList.length ≤ 1048576 := by rw [← size_nat]; omega
    unfold laws_FnExactNetParse.f
    rw [if_neg hc, parse_s a0 (by omega) (by omega), parse_i a0 (by omega), Option.bind_some, Option.bind_some]
    have : ∀ a b : Int, laws_eqNetPrefix.f a b a b = some true := fun a b => by unfold laws_eqNetPrefix.f; simp
    rw [this, Option.bind_some, if_pos rfl, bne_self_eq_false, if_neg (by simp)]
end Go.Proofs.YtnakanjhdcakhaaDoor.Pure
