/- Lemmas for FnAclSays, part 6 of 6: the program's functions as Lean functions, what each Go function comes to, and plain lemmas on them. No statement of its own. -/
import Derived.Shelf.Sort.Plain
import Derived.Shelf.Slices.CompactI
import Derived.Shelf.Slices.Cells
import Derived.Shelf.Slices.In.SortNone
import Derived.Test.YtnakanjhdcakhaaProg
import Derived.Sort.OwnSortedInts
import Derived.Shelf.Abstract
import Derived.Test.YtnakanjhdcakhaaC1xFnAclSays
import Derived.Test.YtnakanjhdcakhaaC2xFnAclSays
import Derived.Test.YtnakanjhdcakhaaC3xFnAclSays
import Derived.Test.YtnakanjhdcakhaaC4xFnAclSays
import Derived.Test.YtnakanjhdcakhaaC5xFnAclSays
namespace Go.Proofs.Ytnakanjhdcakhaa.Q
open Go.RowKit Go.Proofs.YtnakanjhdcakhaaW.PrintWords Go.Proofs.YtnakanjhdcakhaaW.PrintLast Go.Proofs.YtnakanjhdcakhaaW.PrintMore
attribute [local go_sem] max2_int min2_int max_two min_two max_three min_three max_four min_four   -- for this text's walks alone
set_option linter.unusedVariables false
set_option linter.unusedSimpArgs false
mutual
def laws_FnAclSays.j0 : Nat → List (S54) → Int → Bool → Bool → Int → Int → Int → Option (Bool)
  | 0, _, _, _, _, _, _, _ => none
  | k + 1, x3, x5, x6, x38, x108000, x108001, x108002 => if x38 = true then (some false) else (if x5 < 0 then (some (!x6)) else (laws_FnAclSays.l0 k x3 x5 x6 0 x108000 x108001 x108002))
def laws_FnAclSays.l0 : Nat → List (S54) → Int → Bool → Int → Int → Int → Int → Option (Bool)
  | 0, _, _, _, _, _, _, _ => none
  | k + 1, x3, x5, x6, x9, x108000, x108001, x108002 => if x9 ≤ x5 then (if 0 ≤ x9 then (if x9 < (x3.length : Int) then ((spec_NetHas.f k ((rd_T54 x3 x9).f1.f0) ((rd_T54 x3 x9).f1.f1) x108000).bind fun t114 => (if t114 = true then ((spec_NetHas.f k ((rd_T54 x3 x9).f2.f0) ((rd_T54 x3 x9).f2.f1) x108001).bind fun t116 => (if t116 = true then (if ((rd_T54 x3 x9).f3) = 0 then (laws_FnAclSays.j2 k x3 x5 x6 x9 true x108000 x108001 x108002) else (laws_FnAclSays.j2 k x3 x5 x6 x9 (((rd_T54 x3 x9).f3) == x108002) x108000 x108001 x108002)) else (laws_FnAclSays.j2 k x3 x5 x6 x9 false x108000 x108001 x108002))) else (laws_FnAclSays.j2 k x3 x5 x6 x9 false x108000 x108001 x108002))) else (none)) else (none)) else (if 0 ≤ x5 then (if x5 < (x3.length : Int) then (some (x6 == ((rd_T54 x3 x5).f0))) else (none)) else (none))
def laws_FnAclSays.j2 : Nat → List (S54) → Int → Bool → Int → Bool → Int → Int → Int → Option (Bool)
  | 0, _, _, _, _, _, _, _, _ => none
  | k + 1, x3, x5, x6, x9, x10, x108000, x108001, x108002 => if (x10 != (x9 == x5)) = true then (some false) else (laws_FnAclSays.l0 k x3 x5 x6 (wrap64 (x9 + 1)) x108000 x108001 x108002)
end
def laws_FnAclSays.f (k : Nat) (l0 : List Int) : Option (Bool) := if (l0.length : Int) > 1048576 then (some true) else ((spec_DrawAclSays.f k l0).bind fun bt101 => ((impl_AclSays.f k bt101.1 bt101.2.1 bt101.2.2.1 bt101.2.2.2).bind fun bt108 => ((spec_AclSays.f k bt101.1 bt101.2.1 bt101.2.2.1 bt101.2.2.2).bind fun bt110 => (if bt108.1 = bt110.1 then (laws_FnAclSays.j0 k bt101.1 bt108.1 bt108.2 (bt108.2 != bt110.2) bt101.2.1 bt101.2.2.1 bt101.2.2.2) else (laws_FnAclSays.j0 k bt101.1 bt108.1 bt108.2 true bt101.2.1 bt101.2.2.1 bt101.2.2.2)))))
def laws_FnAclSays.T13 : Bool × List (List Nat × List Nat) := (true, [([], []), ([], []), ([0, 1], [0, 1]), ([2], [2]), ([3], [3]), ([], []), ([5], [5]), ([4, 6], [4, 6]), ([7, 7], [7]), ([8], [8]), ([8], [8]), ([9, 10, 8], [8, 9, 10]), ([11, 8], [8, 11]), ([12, 8], [8, 12]), ([8], [8]), ([14, 8], [8, 14]), ([13, 15, 8, 8], [8, 13, 15]), ([8, 16], [8, 16]), ([17, 16], [17]), ([18], [18]), ([18], [18]), ([19, 20, 18], [18, 19, 20]), ([21, 18], [18, 21]), ([22, 18], [18, 22]), ([23, 18], [18, 23]), ([24, 18, 18], [18, 24]), ([25], [25]), ([25], [25]), ([26, 27, 25], [25, 26, 27]), ([28, 25], [25, 28]), ([29, 25], [25, 29]), ([25], [25]), ([31, 25], [25, 31]), ([30, 32, 25], [25, 30, 32]), ([25, 33, 18], [18, 25, 33]), ([18, 34], [18, 34]), ([35, 25, 0, 1, 2, 3, 4, 5, 6, 7, 8, 9, 10, 11, 12, 13, 14, 15, 16, 17, 18, 19, 20, 21, 22, 23, 24, 25, 26, 27, 28, 29, 30, 31, 32, 33, 34, 35], [35])])
def laws_FnAclSays.B13 : List Nat := [0, 0, 3, 7, 15, 0, 32, 127, 255, 511, 511, 2047, 4095, 8191, 511, 16895, 65535, 131071, 262143, 524287, 524287, 2097151, 4194303, 8388607, 16777215, 33554431, 67108863, 67108863, 268435455, 536870911, 1073741823, 67108863, 2214592511, 8589934591, 17179869183, 34359738367, 68719476735]
theorem laws_FnAclSays.tab13 : rtab .any (opsOf Try.f17 13) = laws_FnAclSays.T13 := by kernel_rfl
theorem laws_FnAclSays.bits13 : waitsOk laws_FnAclSays.T13.2 laws_FnAclSays.B13 = true := by kernel_rfl
set_option maxHeartbeats 8000000 in
set_option maxRecDepth 100000 in
theorem laws_FnAclSays.calls (k : Nat) (A0 : Option Addr) (c0 : Nat) (l0 : List Int) (r : Bool) (w : World) (hr0 : Kd.C (Kd.int .u8) w A0 l0.length l0) (hc0 : l0.length ≤ c0) (h : laws_FnAclSays.f k l0 = some r) :
    Calls Try.prog 17 #[.slice A0 l0.length c0] w fun e w' => e = .returned (.bool r) ∧ Below w.heap.size w w' := by
  have hu34 := Try.underlying34
  have hu26 := Try.underlying26
  have HR0 := Aside0.mk hr0
  have HC0 := Aside0.mk hc0
  clear hr0 hc0
  have HB := Aside0.mk (Below.refl w.heap.size w)
  have H : (if (l0.length : Int) > 1048576 then (some true) else ((spec_DrawAclSays.f k l0).bind fun bt101 => ((impl_AclSays.f k bt101.1 bt101.2.1 bt101.2.2.1 bt101.2.2.2).bind fun bt108 => ((spec_AclSays.f k bt101.1 bt101.2.1 bt101.2.2.1 bt101.2.2.2).bind fun bt110 => (if bt108.1 = bt110.1 then (laws_FnAclSays.j0 k bt101.1 bt108.1 bt108.2 (bt108.2 != bt110.2) bt101.2.1 bt101.2.2.1 bt101.2.2.2) else (laws_FnAclSays.j0 k bt101.1 bt108.1 bt108.2 true bt101.2.1 bt101.2.2.1 bt101.2.2.2)))))) = some r := h
  clear h
  by_cases c2 : (l0.length : Int) > 1048576
  · rw [if_pos c2] at H
    have c2b0 : decide (1048576 < (l0.length : Int)) = true := decide_eq_true c2
    have c2b1 : decide (1048576 < l0.length) = true := decide_eq_true (by omega)
    clear c2
    obtain rfl := Option.some.inj H
    go_enter Try.func17, Try.ntmps17
    go_wp2
    go_ret
    exact ⟨by first | rfl | (simp [errW_none, errW_some] <;> rfl) | (simp [*, errW_none, errW_some] <;> rfl), by repeat (first | (with_reducible first | exact HB.out | apply below_alloc | apply pw_below_drewN | apply below_drew1) | exact HB.out)⟩
  · rw [if_neg c2] at H
    have c2b0 : decide (1048576 < (l0.length : Int)) = false := decide_eq_false c2
    have c2b1 : decide (1048576 < l0.length) = false := decide_eq_false (by omega)
    clear c2
    replace H := Option.bind_eq_some_iff.mp H
    obtain ⟨⟨t101, t104, t105, t106⟩, A30, H⟩ := H
    replace H : ((impl_AclSays.f k t101 t104 t105 t106).bind fun bt108 => ((spec_AclSays.f k t101 t104 t105 t106).bind fun bt110 => (if bt108.1 = bt110.1 then (laws_FnAclSays.j0 k t101 bt108.1 bt108.2 (bt108.2 != bt110.2) t104 t105 t106) else (laws_FnAclSays.j0 k t101 bt108.1 bt108.2 true t104 t105 t106)))) = some r := H
    have A3 := Aside0.mk A30
    clear A30
    replace H := Option.bind_eq_some_iff.mp H
    obtain ⟨⟨t108, t109⟩, A40, H⟩ := H
    replace H : ((spec_AclSays.f k t101 t104 t105 t106).bind fun bt110 => (if t108 = bt110.1 then (laws_FnAclSays.j0 k t101 t108 t109 (t109 != bt110.2) t104 t105 t106) else (laws_FnAclSays.j0 k t101 t108 t109 true t104 t105 t106))) = some r := H
    have A4 := Aside0.mk A40
    clear A40
    replace H := Option.bind_eq_some_iff.mp H
    obtain ⟨⟨t110, t111⟩, A50, H⟩ := H
    replace H : (if t108 = t110 then (laws_FnAclSays.j0 k t101 t108 t109 (t109 != t111) t104 t105 t106) else (laws_FnAclSays.j0 k t101 t108 t109 true t104 t105 t106)) = some r := H
    have A5 := Aside0.mk A50
    clear A50
    have HC6 := Aside0.mk H
    clear H
    go_enter Try.func17, Try.ntmps17
    go_upto_region 6 with (first | ((with_reducible refine gate_callee (f := 30) rfl ?_); refine goesL_ (some 16) rfl rfl Try.func30 (by kernel_rfl) rfl #[.slice A0 l0.length c0] rfl (by (try simp only [List.map_toArray, List.map_cons, List.map_nil]); first | done | rfl | (simp only [List.length_drop, List.length_take]; rfl)) ?_; (with_reducible refine (spec_DrawAclSays.calls k _ _ l0 t101 t104 t105 t106 _ ?side1 ?side2 A3.out).mono ?_); (case side1 => repeat (first | exact HR0.out | (with_reducible refine Kd.C_alloc ?_ _) | (with_reducible refine Kd.C_drewN ?_ _) | (with_reducible refine Kd.C_drew ?_))); (case side2 => exact HC0.out); rintro e w7 ⟨v102, rfl, ho0, hb⟩; refine ⟨_, rfl, ?_⟩; have n0_ := Aside0.mk (Kd.R_lower ho0 (below_size (by repeat (first | (with_reducible first | exact HB.out | apply below_alloc | apply pw_below_drewN | apply below_drew1) | exact HB.out)))); have n1_ := Aside0.mk (below_step (by repeat (first | (with_reducible first | exact HB.out | apply below_alloc | apply pw_below_drewN | apply below_drew1) | exact HB.out)) hb); clear HB; have HO103 := n0_; have HB := n1_; clear n0_ n1_; (try clear hb); (try clear hb2); (try clear hk); (try clear hi); (try clear ho0)) | ((with_reducible refine gate_dst (N := 4) rfl ?_); refine box_event ?hg (N := 4) ?hd (cs := #[.int .i64 0, .int .i64 0, .int .i64 0]) (t := 34) ?hr ?_; (case hd => rfl); (case hg => rfl); (case hr => first | (go_simp; done) | (go_simp; rfl)); intro gb107 hg w8 hbox hb; have n0_ := Aside0.mk (Kd.R_below (by (with_reducible repeat (first | apply Kd.R_alloc | apply Kd.R_drewN | apply Kd.R_drew)); exact HO103.out) hb); have n1_ := Aside0.mk (below_step (by repeat (first | (with_reducible first | exact HB.out | apply below_alloc | apply pw_below_drewN | apply below_drew1) | exact HB.out)) hb); have n2_ := Aside0.mk (hbox); have n3_ := Aside0.mk ((by rw [hg]; exact (below_size (by repeat (first | (with_reducible first | exact HB.out | apply below_alloc | apply pw_below_drewN | apply below_drew1) | exact HB.out))) : w.heap.size ≤ gb107)); have n4_ := Aside0.mk ((by rw [hg]; exact (below_size (by repeat (first | (with_reducible first | exact HB.out | apply below_alloc | apply pw_below_drewN | apply below_drew1) | exact HB.out))) : w.heap.size ≤ gb107)); clear HO103; clear HB; have HO103 := n0_; have HB := n1_; have BK107 := n2_; have GW107 := n3_; have GE107 := n4_; clear n0_ n1_ n2_ n3_ n4_; clear hb hbox hg; have hcz9_0 : w8.cell? ⟨gb107, 0, none⟩ = some (.int .i64 0) := (blk_cell BK107.out 0).trans rfl; have hcz9_1 : w8.cell? ⟨gb107, 1, none⟩ = some (.int .i64 0) := (blk_cell BK107.out 1).trans rfl; have hcz9_2 : w8.cell? ⟨gb107, 2, none⟩ = some (.int .i64 0) := (blk_cell BK107.out 2).trans rfl; have hfz9_0 := blk_frozen BK107.out 0; have hfz9_1 := blk_frozen BK107.out 1; have hfz9_2 := blk_frozen BK107.out 2; obtain ⟨Ao10, co10, eo10⟩ := Kd.R_slice HO103.out; subst eo10) | ((with_reducible refine gate_callee (f := 31) rfl ?_); refine goesL_ (some 22) rfl rfl Try.func31 (by kernel_rfl) rfl #[.slice Ao10 t101.length co10, .agg #[.int .i64 t104, .int .i64 t105, .int .i64 t106]] rfl (by (try simp only [List.map_toArray, List.map_cons, List.map_nil]); first | done | rfl | (simp only [List.length_drop, List.length_take]; rfl)) ?_; (with_reducible refine (impl_AclSays.calls k _ _ t101 t104 t105 t106 t108 t109 _ ?side1 ?side2 A4.out).mono ?_); (case side1 => refine (Kd.R_reads' (e := 54) (base := w.heap.size) (ok := fun k_ => True) (n := t101.length) (c := co10) ?_).2.2; exact (by (with_reducible repeat (first | apply Kd.R_alloc | apply Kd.R_drewN | apply Kd.R_drew)); exact (Kd.R_mono (Kd.R_far (p := ⟨gb107, 2, none⟩) (Kd.R_far (p := ⟨gb107, 1, none⟩) (Kd.R_far (p := ⟨gb107, 0, none⟩) (Kd.R_types HO103.out BK107.out (by decide)) (fun _ hk => hk.2) (.int .i64 t104)) (fun _ hk => hk.2) (.int .i64 t105)) (fun _ hk => hk.2) (.int .i64 t106)) (fun _ h_ => h_.1)))); (case side2 => exact (Kd.R_reads' HO103.out).2.1); rintro e w11 ⟨rfl, hb⟩; refine ⟨_, rfl, ?_⟩; have n0_ := Aside0.mk (Kd.R_below (by (with_reducible repeat (first | apply Kd.R_alloc | apply Kd.R_drewN | apply Kd.R_drew)); exact (Kd.R_mono (Kd.R_far (p := ⟨gb107, 2, none⟩) (Kd.R_far (p := ⟨gb107, 1, none⟩) (Kd.R_far (p := ⟨gb107, 0, none⟩) (Kd.R_types HO103.out BK107.out (by decide)) (fun _ hk => hk.2) (.int .i64 t104)) (fun _ hk => hk.2) (.int .i64 t105)) (fun _ hk => hk.2) (.int .i64 t106)) (fun _ h_ => h_.1))) hb); have n1_ := Aside0.mk (blk_below (g := gb107) (o := .cells #[.int .i64 t104, .int .i64 t105, .int .i64 t106] 34 (0, 0)) (by (with_reducible repeat (first | refine blk_drewN ?_ _ | refine blk_drew ?_ | refine blk_alloc ?_ _)); refine blk_put (cs := #[.int .i64 t104, .int .i64 t105, .int .i64 0]) ?_ 2 _ rfl; (with_reducible repeat (first | refine blk_drewN ?_ _ | refine blk_drew ?_ | refine blk_alloc ?_ _)); refine blk_put (cs := #[.int .i64 t104, .int .i64 0, .int .i64 0]) ?_ 1 _ rfl; (with_reducible repeat (first | refine blk_drewN ?_ _ | refine blk_drew ?_ | refine blk_alloc ?_ _)); refine blk_put (cs := #[.int .i64 0, .int .i64 0, .int .i64 0]) ?_ 0 _ rfl; (with_reducible repeat (first | refine blk_drewN ?_ _ | refine blk_drew ?_ | refine blk_alloc ?_ _)); exact BK107.out) hb); have n2_ := Aside0.mk (below_step (by repeat (first | (with_reducible first | exact HB.out | apply below_alloc | apply pw_below_drewN | apply below_drew1 | refine below_set ?_ GE107.out) | exact HB.out)) hb); clear HO103; clear BK107; clear HB; have HO103 := n0_; have BK107 := n1_; have HB := n2_; clear n0_ n1_ n2_; (try clear hb); (try clear hb2); (try clear hk); (try clear hi); have hcz12_0 : w11.cell? ⟨gb107, 0, none⟩ = some (.int .i64 t104) := (blk_cell BK107.out 0).trans rfl; have hcz12_1 : w11.cell? ⟨gb107, 1, none⟩ = some (.int .i64 t105) := (blk_cell BK107.out 1).trans rfl; have hcz12_2 : w11.cell? ⟨gb107, 2, none⟩ = some (.int .i64 t106) := (blk_cell BK107.out 2).trans rfl; have hfz12_0 := blk_frozen BK107.out 0; have hfz12_1 := blk_frozen BK107.out 1; have hfz12_2 := blk_frozen BK107.out 2) | ((with_reducible refine gate_callee (f := 57) rfl ?_); refine goesL_ (some 28) rfl rfl Try.func57 (by kernel_rfl) rfl #[.slice Ao10 t101.length co10, .agg #[.int .i64 t104, .int .i64 t105, .int .i64 t106]] rfl (by (try simp only [List.map_toArray, List.map_cons, List.map_nil]); first | done | rfl | (simp only [List.length_drop, List.length_take]; rfl)) ?_; (with_reducible refine (spec_AclSays.calls k _ _ t101 t104 t105 t106 t110 t111 _ ?side1 ?side2 A5.out).mono ?_); (case side1 => repeat (first | exact (Kd.R_reads' HO103.out).2.2 | (with_reducible refine Kd.C_alloc ?_ _) | (with_reducible refine Kd.C_drewN ?_ _) | (with_reducible refine Kd.C_drew ?_))); (case side2 => exact (Kd.R_reads' HO103.out).2.1); rintro e w13 ⟨rfl, hb⟩; refine ⟨_, rfl, ?_⟩; have n0_ := Aside0.mk (Kd.R_below (by (with_reducible repeat (first | apply Kd.R_alloc | apply Kd.R_drewN | apply Kd.R_drew)); exact HO103.out) hb); have n1_ := Aside0.mk (blk_below (g := gb107) (o := .cells #[.int .i64 t104, .int .i64 t105, .int .i64 t106] 34 (0, 0)) (by (with_reducible repeat (first | refine blk_drewN ?_ _ | refine blk_drew ?_ | refine blk_alloc ?_ _)); exact BK107.out) hb); have n2_ := Aside0.mk (below_step (by repeat (first | (with_reducible first | exact HB.out | apply below_alloc | apply pw_below_drewN | apply below_drew1 | refine below_set ?_ GE107.out) | exact HB.out)) hb); clear HO103; clear BK107; clear HB; have HO103 := n0_; have BK107 := n1_; have HB := n2_; clear n0_ n1_ n2_; (try clear hb); (try clear hb2); (try clear hk); (try clear hi)))
    (try simp only [Act.put, List.setIfInBounds_toArray, List.set_cons_zero, List.set_cons_succ])
    go_cut [38] (fun v38 wc => ∃ (kq : Nat) (x38_5 : Bool), v38 = .bool x38_5 ∧ Aside0 (laws_FnAclSays.j0 kq t101 t108 t109 x38_5 t104 t105 t106 = some r) ∧ Aside0 (kq ≤ k) ∧ Aside0 (Kd.R k54 54 wc w.heap.size (fun _ => True) (.slice Ao10 t101.length co10) t101) ∧ Aside0 (wc.heap[gb107]? = some (.cells #[.int .i64 t104, .int .i64 t105, .int .i64 t106] 34 (0, 0))) ∧ Aside0 (Below w.heap.size w wc))
    case first =>
      have H := HC6.out
      clear HC6
      by_cases c14 : t108 = t110
      · rw [if_pos c14] at H
        have c14b0 : (t108 == t110) = true := beq_iff_eq.mpr c14
        have c14b1 : (t108 != t110) = false := bne_eq_false_iff_eq.mpr c14
        clear c14
        (first | rw [c14b0] | (simp only [i64_w, i32_w]; rw [c14b0]) | skip)
        have H' := Aside0.mk H
        clear H
        go_wp2
        go_meet
        case rel => exact ⟨_, ((t109 != t111)), (by first | rfl | (simp; done) | (simp [*]; done)), H', ⟨by first | omega | exact Nat.le_refl _⟩, ⟨by (with_reducible repeat (first | apply Kd.R_alloc | apply Kd.R_drewN | apply Kd.R_drew)); exact HO103.out⟩, ⟨by (with_reducible repeat (first | refine blk_drewN ?_ _ | refine blk_drew ?_ | refine blk_alloc ?_ _)); exact BK107.out⟩, ⟨by repeat (first | (with_reducible first | exact HB.out | apply below_alloc | apply pw_below_drewN | apply below_drew1 | refine below_set ?_ GE107.out) | exact HB.out)⟩⟩
      · rw [if_neg c14] at H
        have c14b0 : (t108 == t110) = false := beq_eq_false_iff_ne.mpr c14
        have c14b1 : (t108 != t110) = true := bne_iff_ne.mpr c14
        (first | rw [c14b0] | (simp only [i64_w, i32_w]; rw [c14b0]) | skip)
        have H' := Aside0.mk H
        clear H
        go_wp2
        go_meet
        case rel => exact ⟨_, (true), (by first | rfl | (simp; done) | (simp [*]; done)), H', ⟨by first | omega | exact Nat.le_refl _⟩, ⟨by (with_reducible repeat (first | apply Kd.R_alloc | apply Kd.R_drewN | apply Kd.R_drew)); exact HO103.out⟩, ⟨by (with_reducible repeat (first | refine blk_drewN ?_ _ | refine blk_drew ?_ | refine blk_alloc ?_ _)); exact BK107.out⟩, ⟨by repeat (first | (with_reducible first | exact HB.out | apply below_alloc | apply pw_below_drewN | apply below_drew1 | refine below_set ?_ GE107.out) | exact HB.out)⟩⟩
    case rest =>
      clear HC6
      try clear c1
      try clear c2
      try clear c2b0
      try clear c2b1
      try clear p2
      try clear c3
      try clear c5
      try clear c14
      try clear c14b0
      try clear c14b1
      try clear hcz12_0
      try clear hcz12_1
      try clear hcz12_2
      try clear hcz9_0
      try clear hcz9_1
      try clear hcz9_2
      try clear hfz12_0
      try clear hfz12_1
      try clear hfz12_2
      try clear hfz9_0
      try clear hfz9_1
      try clear hfz9_2
      obtain ⟨kq, x38_5, rfl, HA, HJ5, HO_3, BK107, HB⟩ := hcut
      cases kq with
      | zero => exact absurd HA.out (by simp [laws_FnAclSays.j0])
      | succ kj5 =>
        have H := HA.out
        clear HA
        simp only [laws_FnAclSays.j0] at H
        by_cases c15 : x38_5 = true
        · subst c15
          have H1 : (some false) = some r := by rw [if_pos rfl] at H; exact H
          clear H
          have H := H1
          clear H1
          obtain rfl := Option.some.inj H
          go_wp2
          go_ret
          exact ⟨by first | rfl | (simp [errW_none, errW_some] <;> rfl) | (simp [*, errW_none, errW_some] <;> rfl), by repeat (first | (with_reducible first | exact HB.out | apply below_alloc | apply pw_below_drewN | apply below_drew1 | refine below_set ?_ GE107.out) | exact HB.out)⟩
        · replace c15 := Bool.eq_false_iff.mpr c15
          subst c15
          have H1 : (if t108 < 0 then (some (!t109)) else (laws_FnAclSays.l0 kj5 t101 t108 t109 0 t104 t105 t106)) = some r := by rw [if_neg (show ¬ (false = true) by decide)] at H; exact H
          clear H
          have H := H1
          clear H1
          by_cases c16 : t108 < 0
          · rw [if_pos c16] at H
            have c16b0 : decide (t108 < 0) = true := decide_eq_true c16
            clear c16
            obtain rfl := Option.some.inj H
            go_wp2
            go_ret
            exact ⟨by first | rfl | (simp [errW_none, errW_some] <;> rfl) | (simp [*, errW_none, errW_some] <;> rfl), by repeat (first | (with_reducible first | exact HB.out | apply below_alloc | apply pw_below_drewN | apply below_drew1 | refine below_set ?_ GE107.out) | exact HB.out)⟩
          · rw [if_neg c16] at H
            have c16b0 : decide (t108 < 0) = false := decide_eq_false c16
            clear c16
            have H' := Aside0.mk H
            clear H
            go_wp2
            go_loopg [9] kj5 (fun kq v9 w' => ∃ (x9_2 : Int), v9 = .int .i64 x9_2 ∧ Aside0 (laws_FnAclSays.l0 kq t101 t108 t109 x9_2 t104 t105 t106 = some r) ∧ Aside0 (kq ≤ kj5) ∧ Aside0 (Kd.R k54 54 w' w.heap.size (fun _ => True) (.slice Ao10 t101.length co10) t101) ∧ Aside0 (w'.heap[gb107]? = some (.cells #[.int .i64 t104, .int .i64 t105, .int .i64 t106] 34 (0, 0))) ∧ Aside0 (Below w.heap.size w w'))
            case atStart => exact ⟨(0), (by first | rfl | (simp; done) | (simp [*]; done)), H', ⟨Nat.le_refl _⟩, ⟨by (with_reducible repeat (first | apply Kd.R_alloc | apply Kd.R_drewN | apply Kd.R_drew)); exact HO_3.out⟩, ⟨by (with_reducible repeat (first | refine blk_drewN ?_ _ | refine blk_drew ?_ | refine blk_alloc ?_ _)); exact BK107.out⟩, ⟨by repeat (first | (with_reducible first | exact HB.out | apply below_alloc | apply pw_below_drewN | apply below_drew1 | refine below_set ?_ GE107.out) | exact HB.out)⟩⟩
            case round =>
              clear H'
              try clear c1
              try clear c2
              try clear c2b0
              try clear c2b1
              try clear p2
              try clear c3
              try clear c5
              try clear c14
              try clear c14b0
              try clear c14b1
              try clear c15
              try clear c16
              try clear c16b0
              try clear hcz12_0
              try clear hcz12_1
              try clear hcz12_2
              try clear hcz9_0
              try clear hcz9_1
              try clear hcz9_2
              try clear hfz12_0
              try clear hfz12_1
              try clear hfz12_2
              try clear hfz9_0
              try clear hfz9_1
              try clear hfz9_2
              try clear p2
              obtain ⟨x9_2, rfl, HA, HK2, HO_3, BK107, HB⟩ := hrel
              cases gk with
              | zero => exact absurd HA.out (by simp [laws_FnAclSays.l0])
              | succ k2 =>
                have H := HA.out
                clear HA
                simp only [laws_FnAclSays.l0] at H
                by_cases c17 : x9_2 ≤ t108
                · rw [if_pos c17] at H
                  have c17b0 : decide (x9_2 ≤ t108) = true := decide_eq_true c17
                  clear c17
                  have HC18 := Aside0.mk H
                  clear H
                  go_upto_region 13 with (fail)
                  go_cut [10] (fun v10 wc => ∃ (kq : Nat) (x10_17 : Bool), v10 = .bool x10_17 ∧ Aside0 (laws_FnAclSays.j2 kq t101 t108 t109 x9_2 x10_17 t104 t105 t106 = some r) ∧ Aside0 (kq ≤ k2) ∧ Aside0 (Kd.R k54 54 wc w.heap.size (fun _ => True) (.slice Ao10 t101.length co10) t101) ∧ Aside0 (wc.heap[gb107]? = some (.cells #[.int .i64 t104, .int .i64 t105, .int .i64 t106] 34 (0, 0))) ∧ Aside0 (Below w.heap.size w wc))
                  case first =>
                    have H := HC18.out
                    clear HC18
                    by_cases c19 : 0 ≤ x9_2
                    · rw [if_pos c19] at H
                      have c19b0 : decide (0 ≤ x9_2) = true := decide_eq_true c19
                      clear c19
                      (first | rw [c19b0] | (simp only [i64_w, i32_w]; rw [c19b0]) | skip)
                      by_cases c20 : x9_2 < (t101.length : Int)
                      · rw [if_pos c20] at H
                        have c20b0 : decide (x9_2 < (t101.length : Int)) = true := decide_eq_true c20
                        clear c20
                        replace H := Option.bind_eq_some_iff.mp H
                        obtain ⟨t114, A210, H⟩ := H
                        replace H : (if t114 = true then ((spec_NetHas.f k2 ((rd_T54 t101 x9_2).f2.f0) ((rd_T54 t101 x9_2).f2.f1) t105).bind fun t116 => (if t116 = true then (if ((rd_T54 t101 x9_2).f3) = 0 then (laws_FnAclSays.j2 k2 t101 t108 t109 x9_2 true t104 t105 t106) else (laws_FnAclSays.j2 k2 t101 t108 t109 x9_2 (((rd_T54 t101 x9_2).f3) == t106) t104 t105 t106)) else (laws_FnAclSays.j2 k2 t101 t108 t109 x9_2 false t104 t105 t106))) else (laws_FnAclSays.j2 k2 t101 t108 t109 x9_2 false t104 t105 t106)) = some r := H
                        have A21 := Aside0.mk A210
                        clear A210
                        by_cases c22 : t114 = true
                        · subst c22
                          have H1 : ((spec_NetHas.f k2 ((rd_T54 t101 x9_2).f2.f0) ((rd_T54 t101 x9_2).f2.f1) t105).bind fun t116 => (if t116 = true then (if ((rd_T54 t101 x9_2).f3) = 0 then (laws_FnAclSays.j2 k2 t101 t108 t109 x9_2 true t104 t105 t106) else (laws_FnAclSays.j2 k2 t101 t108 t109 x9_2 (((rd_T54 t101 x9_2).f3) == t106) t104 t105 t106)) else (laws_FnAclSays.j2 k2 t101 t108 t109 x9_2 false t104 t105 t106))) = some r := by rw [if_pos rfl] at H; exact H
                          clear H
                          have H := H1
                          clear H1
                          replace H := Option.bind_eq_some_iff.mp H
                          obtain ⟨t116, A230, H⟩ := H
                          replace H : (if t116 = true then (if ((rd_T54 t101 x9_2).f3) = 0 then (laws_FnAclSays.j2 k2 t101 t108 t109 x9_2 true t104 t105 t106) else (laws_FnAclSays.j2 k2 t101 t108 t109 x9_2 (((rd_T54 t101 x9_2).f3) == t106) t104 t105 t106)) else (laws_FnAclSays.j2 k2 t101 t108 t109 x9_2 false t104 t105 t106)) = some r := H
                          have A23 := Aside0.mk A230
                          clear A230
                          by_cases c24 : t116 = true
                          · subst c24
                            have H1 : (if ((rd_T54 t101 x9_2).f3) = 0 then (laws_FnAclSays.j2 k2 t101 t108 t109 x9_2 true t104 t105 t106) else (laws_FnAclSays.j2 k2 t101 t108 t109 x9_2 (((rd_T54 t101 x9_2).f3) == t106) t104 t105 t106)) = some r := by rw [if_pos rfl] at H; exact H
                            clear H
                            have H := H1
                            clear H1
                            by_cases c25 : ((rd_T54 t101 x9_2).f3) = 0
                            · rw [if_pos c25] at H
                              have c25b0 : (((rd_T54 t101 x9_2).f3) == 0) = true := beq_iff_eq.mpr c25
                              have c25b1 : (((rd_T54 t101 x9_2).f3) != 0) = false := bne_eq_false_iff_eq.mpr c25
                              clear c25
                              have H' := Aside0.mk H
                              clear H
                              try go_wp2
                              have n0_ := Aside0.mk (Kd.R_drew HO_3.out)
                              have n1_ := Aside0.mk (blk_drew BK107.out)
                              have n2_ := Aside0.mk (below_drew1 HB.out)
                              clear HO_3
                              clear BK107
                              clear HB
                              have HO_3 := n0_
                              have BK107 := n1_
                              have HB := n2_
                              clear n0_ n1_ n2_
                              have p113 : 0 ≤ (x9_2 : Int) := of_decide_eq_true (by first | (with_reducible assumption) | assumption)
                              have q113 : x9_2 < (t101.length : Int) := of_decide_eq_true (by first | (with_reducible assumption) | assumption)
                              obtain ⟨ad113, e113, hx113_0, hx113_1, hx113_2, hx113_3, hx113_4, hx113_5⟩ := at_T54 (Kd.R_reads' HO_3.out).2.2 x9_2 p113 q113
                              cases e113
                              replace p113 := eq_true p113
                              replace q113 := eq_true q113
                              have p115 : 0 ≤ (x9_2 : Int) := of_decide_eq_true (by first | (with_reducible assumption) | assumption)
                              have q115 : x9_2 < (t101.length : Int) := of_decide_eq_true (by first | (with_reducible assumption) | assumption)
                              obtain ⟨ad115, e115, hx115_0, hx115_1, hx115_2, hx115_3, hx115_4, hx115_5⟩ := at_T54 (Kd.R_reads' HO_3.out).2.2 x9_2 p115 q115
                              obtain rfl : ad113 = ad115 := (by injection e115)
                              replace p115 := eq_true p115
                              replace q115 := eq_true q115
                              have p117 : 0 ≤ (x9_2 : Int) := of_decide_eq_true (by first | (with_reducible assumption) | assumption)
                              have q117 : x9_2 < (t101.length : Int) := of_decide_eq_true (by first | (with_reducible assumption) | assumption)
                              obtain ⟨ad117, e117, hx117_0, hx117_1, hx117_2, hx117_3, hx117_4, hx117_5⟩ := at_T54 (Kd.R_reads' HO_3.out).2.2 x9_2 p117 q117
                              obtain rfl : ad113 = ad117 := (by injection e117)
                              replace p117 := eq_true p117
                              replace q117 := eq_true q117
                              refine start_ (n := 37) (S := fun w' => w'.cell? ⟨gb107, 0, none⟩ = some (.int .i64 t104) ∧ w'.cell? ⟨gb107, 1, none⟩ = some (.int .i64 t105) ∧ w'.cell? ⟨gb107, 2, none⟩ = some (.int .i64 t106) ∧ w'.cell? (ad113.add ((x9_2).toNat * 6)) = some (.bool ((rd_T54 t101 x9_2).f0)) ∧ w'.cell? ⟨(ad113.add ((x9_2).toNat * 6)).block, (ad113.add ((x9_2).toNat * 6)).off + 1, none⟩ = some (.int .i64 ((rd_T54 t101 x9_2).f1.f0)) ∧ w'.cell? ⟨(ad113.add ((x9_2).toNat * 6)).block, (ad113.add ((x9_2).toNat * 6)).off + 2, none⟩ = some (.int .i64 ((rd_T54 t101 x9_2).f1.f1)) ∧ w'.cell? ⟨(ad113.add ((x9_2).toNat * 6)).block, (ad113.add ((x9_2).toNat * 6)).off + 3, none⟩ = some (.int .i64 ((rd_T54 t101 x9_2).f2.f0)) ∧ w'.cell? ⟨(ad113.add ((x9_2).toNat * 6)).block, (ad113.add ((x9_2).toNat * 6)).off + 4, none⟩ = some (.int .i64 ((rd_T54 t101 x9_2).f2.f1)) ∧ w'.cell? ⟨(ad113.add ((x9_2).toNat * 6)).block, (ad113.add ((x9_2).toNat * 6)).off + 5, none⟩ = some (.int .i64 ((rd_T54 t101 x9_2).f3)) ∧ w'.cell? (ad113.add ((x9_2).toNat * 6)) = some (.bool ((rd_T54 t101 x9_2).f0)) ∧ w'.cell? ⟨(ad113.add ((x9_2).toNat * 6)).block, (ad113.add ((x9_2).toNat * 6)).off + 1, none⟩ = some (.int .i64 ((rd_T54 t101 x9_2).f1.f0)) ∧ w'.cell? ⟨(ad113.add ((x9_2).toNat * 6)).block, (ad113.add ((x9_2).toNat * 6)).off + 2, none⟩ = some (.int .i64 ((rd_T54 t101 x9_2).f1.f1)) ∧ w'.cell? ⟨(ad113.add ((x9_2).toNat * 6)).block, (ad113.add ((x9_2).toNat * 6)).off + 3, none⟩ = some (.int .i64 ((rd_T54 t101 x9_2).f2.f0)) ∧ w'.cell? ⟨(ad113.add ((x9_2).toNat * 6)).block, (ad113.add ((x9_2).toNat * 6)).off + 4, none⟩ = some (.int .i64 ((rd_T54 t101 x9_2).f2.f1)) ∧ w'.cell? ⟨(ad113.add ((x9_2).toNat * 6)).block, (ad113.add ((x9_2).toNat * 6)).off + 5, none⟩ = some (.int .i64 ((rd_T54 t101 x9_2).f3)) ∧ w'.cell? (ad113.add ((x9_2).toNat * 6)) = some (.bool ((rd_T54 t101 x9_2).f0)) ∧ w'.cell? ⟨(ad113.add ((x9_2).toNat * 6)).block, (ad113.add ((x9_2).toNat * 6)).off + 1, none⟩ = some (.int .i64 ((rd_T54 t101 x9_2).f1.f0)) ∧ w'.cell? ⟨(ad113.add ((x9_2).toNat * 6)).block, (ad113.add ((x9_2).toNat * 6)).off + 2, none⟩ = some (.int .i64 ((rd_T54 t101 x9_2).f1.f1)) ∧ w'.cell? ⟨(ad113.add ((x9_2).toNat * 6)).block, (ad113.add ((x9_2).toNat * 6)).off + 3, none⟩ = some (.int .i64 ((rd_T54 t101 x9_2).f2.f0)) ∧ w'.cell? ⟨(ad113.add ((x9_2).toNat * 6)).block, (ad113.add ((x9_2).toNat * 6)).off + 4, none⟩ = some (.int .i64 ((rd_T54 t101 x9_2).f2.f1)) ∧ w'.cell? ⟨(ad113.add ((x9_2).toNat * 6)).block, (ad113.add ((x9_2).toNat * 6)).off + 5, none⟩ = some (.int .i64 ((rd_T54 t101 x9_2).f3))) (ds := []) #[false, false, false, false, false, false, false, false, false, false, false, false, false, false, false, false, false, false, false, false, false, false, false, false, false, false, false, false, false, false, false, false, false, false, false, false, false] (by kernel_rfl) rfl rfl ⟨(blk_cell BK107.out 0).trans rfl, (blk_cell BK107.out 1).trans rfl, (blk_cell BK107.out 2).trans rfl, hx113_0, hx113_1, hx113_2, hx113_3, hx113_4, hx113_5, hx115_0, hx115_1, hx115_2, hx115_3, hx115_4, hx115_5, hx117_0, hx117_1, hx117_2, hx117_3, hx117_4, hx117_5⟩ (fun hHeld => ?_); refine with_tabW laws_FnAclSays.tab13 laws_FnAclSays.bits13 (fun HT_ HW_ => ?_)
                              generalize wr.drew = w26 at HO_3 BK107 HB hx113_0 hx113_1 hx113_2 hx113_3 hx113_4 hx113_5 hx115_0 hx115_1 hx115_2 hx115_3 hx115_4 hx115_5 hx117_0 hx117_1 hx117_2 hx117_3 hx117_4 hx117_5 hHeld ⊢
                              refine pure_ (i := 0) (N := some 48) (v := ?_) (a' := ?_) #[true, false, false, false, false, false, false, false, false, false, false, false, false, false, false, false, false, false, false, false, false, false, false, false, false, false, false, false, false, false, false, false, false, false, false, false, false] rfl rfl (any_of HT_.out (by kernel_rfl)) (fun _ _ _ h => h) (Or.inl ⟨by rfl, ?_⟩) ?_ ?_
                              rotate_left
                              · intro w'
                                go_simp
                                with_reducible rfl
                              rotate_left
                              · simp only [Act.put, List.setIfInBounds_toArray, List.set_cons_zero, List.set_cons_succ, i64_w, i32_w]
                                rfl
                              refine pure_ (i := 1) (N := some 49) (v := ?_) (a' := ?_) #[true, true, false, false, false, false, false, false, false, false, false, false, false, false, false, false, false, false, false, false, false, false, false, false, false, false, false, false, false, false, false, false, false, false, false, false, false] rfl rfl (any_of HT_.out (by kernel_rfl)) (fun _ _ _ h => h) (Or.inl ⟨by rfl, ?_⟩) ?_ ?_
                              rotate_left
                              · intro w'
                                go_simp
                                with_reducible rfl
                              rotate_left
                              · simp only [Act.put, List.setIfInBounds_toArray, List.set_cons_zero, List.set_cons_succ, i64_w, i32_w]
                                rfl
                              refine pure_ (i := 2) (N := some 50) (v := ?_) (a' := ?_) #[true, true, true, false, false, false, false, false, false, false, false, false, false, false, false, false, false, false, false, false, false, false, false, false, false, false, false, false, false, false, false, false, false, false, false, false, false] rfl rfl (any_of HT_.out (by kernel_rfl)) (fun _ _ _ h => h) (Or.inl ⟨by rfl, ?_⟩) ?_ ?_
                              rotate_left
                              · intro w'
                                go_simp
                                with_reducible rfl
                              rotate_left
                              · simp only [Act.put, List.setIfInBounds_toArray, List.set_cons_zero, List.set_cons_succ, i64_w, i32_w]
                                rfl
                              refine pure_ (i := 3) (N := some 51) (v := ?_) (a' := ?_) #[true, true, true, true, false, false, false, false, false, false, false, false, false, false, false, false, false, false, false, false, false, false, false, false, false, false, false, false, false, false, false, false, false, false, false, false, false] rfl rfl (any_of HT_.out (by kernel_rfl)) (fun _ _ _ h => h) (Or.inl ⟨by rfl, ?_⟩) ?_ ?_
                              rotate_left
                              · intro w'
                                go_simp
                                with_reducible rfl
                              rotate_left
                              · simp only [Act.put, List.setIfInBounds_toArray, List.set_cons_zero, List.set_cons_succ, i64_w, i32_w]
                                rfl
                              refine pure_ (i := 5) (N := some 53) (v := ?_) (a' := ?_) #[true, true, true, true, false, true, false, false, false, false, false, false, false, false, false, false, false, false, false, false, false, false, false, false, false, false, false, false, false, false, false, false, false, false, false, false, false] rfl rfl (any_of HT_.out (by kernel_rfl)) (fun _ _ _ h => h) (Or.inl ⟨by rfl, ?_⟩) ?_ ?_
                              rotate_left
                              · intro w'
                                go_simp
                                with_reducible rfl
                              rotate_left
                              · simp only [Act.put, List.setIfInBounds_toArray, List.set_cons_zero, List.set_cons_succ, i64_w, i32_w]
                                rfl
                              refine take_ (i := 4) (N := some 52) (v := ?_) (a' := ?_) #[true, true, true, true, true, true, false, false, false, false, false, false, false, false, false, false, false, false, false, false, false, false, false, false, false, false, false, false, false, false, false, false, false, false, false, false, false] rfl rfl (take_ofW HT_.out HW_.out (by kernel_rfl)) (fun _ _ _ h => h) (Or.inl ⟨by rfl, ?_⟩) hHeld ?_ ?_
                              rotate_left
                              · rintro w' ⟨s0, s1, s2, s3, s4, s5, s6, s7, s8, s9, s10, s11, s12, s13, s14, s15, s16, s17, s18, s19, s20⟩
                                go_simp
                                with_reducible rfl
                              rotate_left
                              · simp only [Act.put, List.setIfInBounds_toArray, List.set_cons_zero, List.set_cons_succ, i64_w, i32_w]
                                rfl
                              refine take_ (i := 6) (N := some 54) (v := ?_) (a' := ?_) #[true, true, true, true, true, true, true, false, false, false, false, false, false, false, false, false, false, false, false, false, false, false, false, false, false, false, false, false, false, false, false, false, false, false, false, false, false] rfl rfl (take_ofW HT_.out HW_.out (by kernel_rfl)) (fun _ _ _ h => h) (Or.inl ⟨by rfl, ?_⟩) hHeld ?_ ?_
                              rotate_left
                              · rintro w' ⟨s0, s1, s2, s3, s4, s5, s6, s7, s8, s9, s10, s11, s12, s13, s14, s15, s16, s17, s18, s19, s20⟩
                                go_simp
                                with_reducible rfl
                              rotate_left
                              · simp only [Act.put, List.setIfInBounds_toArray, List.set_cons_zero, List.set_cons_succ, i64_w, i32_w]
                                rfl
                              refine one_ (i := 7) (N := some 55) #[true, true, true, true, true, true, true, true, false, false, false, false, false, false, false, false, false, false, false, false, false, false, false, false, false, false, false, false, false, false, false, false, false, false, false, false, false] rfl rfl (one_of HT_.out (by kernel_rfl)) (by decide) (fun K hK => ?_)
                              refine goes_ Try.func33 (by kernel_rfl) rfl #[.agg #[.int .i64 ((rd_T54 t101 x9_2).f1.f0), .int .i64 ((rd_T54 t101 x9_2).f1.f1)], .int .i64 t104] (by rfl) rfl rfl (by (try simp only [List.map_toArray, List.map_cons, List.map_nil]); first | done | rfl | (simp only [List.length_drop, List.length_take]; rfl)) ?_
                              with_reducible refine (spec_NetHas.calls k2 ((rd_T54 t101 x9_2).f1.f0) ((rd_T54 t101 x9_2).f1.f1) t104 true _ A21.out).mono ?_
                              rintro e w27 ⟨rfl, hb⟩
                              have HS3_ := (hb.cell (World.block_lt_of_cell? _ _ (hHeld.2.2.2.1))).trans (hHeld.2.2.2.1)
                              have HS4_ := (hb.cell (World.block_lt_of_cell? _ _ (hHeld.2.2.2.2.1))).trans (hHeld.2.2.2.2.1)
                              have HS5_ := (hb.cell (World.block_lt_of_cell? _ _ (hHeld.2.2.2.2.2.1))).trans (hHeld.2.2.2.2.2.1)
                              have HS6_ := (hb.cell (World.block_lt_of_cell? _ _ (hHeld.2.2.2.2.2.2.1))).trans (hHeld.2.2.2.2.2.2.1)
                              have HS7_ := (hb.cell (World.block_lt_of_cell? _ _ (hHeld.2.2.2.2.2.2.2.1))).trans (hHeld.2.2.2.2.2.2.2.1)
                              have HS8_ := (hb.cell (World.block_lt_of_cell? _ _ (hHeld.2.2.2.2.2.2.2.2.1))).trans (hHeld.2.2.2.2.2.2.2.2.1)
                              have HS9_ := (hb.cell (World.block_lt_of_cell? _ _ (hHeld.2.2.2.2.2.2.2.2.2.1))).trans (hHeld.2.2.2.2.2.2.2.2.2.1)
                              have HS10_ := (hb.cell (World.block_lt_of_cell? _ _ (hHeld.2.2.2.2.2.2.2.2.2.2.1))).trans (hHeld.2.2.2.2.2.2.2.2.2.2.1)
                              have HS11_ := (hb.cell (World.block_lt_of_cell? _ _ (hHeld.2.2.2.2.2.2.2.2.2.2.2.1))).trans (hHeld.2.2.2.2.2.2.2.2.2.2.2.1)
                              have HS12_ := (hb.cell (World.block_lt_of_cell? _ _ (hHeld.2.2.2.2.2.2.2.2.2.2.2.2.1))).trans (hHeld.2.2.2.2.2.2.2.2.2.2.2.2.1)
                              have HS13_ := (hb.cell (World.block_lt_of_cell? _ _ (hHeld.2.2.2.2.2.2.2.2.2.2.2.2.2.1))).trans (hHeld.2.2.2.2.2.2.2.2.2.2.2.2.2.1)
                              have HS14_ := (hb.cell (World.block_lt_of_cell? _ _ (hHeld.2.2.2.2.2.2.2.2.2.2.2.2.2.2.1))).trans (hHeld.2.2.2.2.2.2.2.2.2.2.2.2.2.2.1)
                              have HS15_ := (hb.cell (World.block_lt_of_cell? _ _ (hHeld.2.2.2.2.2.2.2.2.2.2.2.2.2.2.2.1))).trans (hHeld.2.2.2.2.2.2.2.2.2.2.2.2.2.2.2.1)
                              have HS16_ := (hb.cell (World.block_lt_of_cell? _ _ (hHeld.2.2.2.2.2.2.2.2.2.2.2.2.2.2.2.2.1))).trans (hHeld.2.2.2.2.2.2.2.2.2.2.2.2.2.2.2.2.1)
                              have HS17_ := (hb.cell (World.block_lt_of_cell? _ _ (hHeld.2.2.2.2.2.2.2.2.2.2.2.2.2.2.2.2.2.1))).trans (hHeld.2.2.2.2.2.2.2.2.2.2.2.2.2.2.2.2.2.1)
                              have HS18_ := (hb.cell (World.block_lt_of_cell? _ _ (hHeld.2.2.2.2.2.2.2.2.2.2.2.2.2.2.2.2.2.2.1))).trans (hHeld.2.2.2.2.2.2.2.2.2.2.2.2.2.2.2.2.2.2.1)
                              have HS19_ := (hb.cell (World.block_lt_of_cell? _ _ (hHeld.2.2.2.2.2.2.2.2.2.2.2.2.2.2.2.2.2.2.2.1))).trans (hHeld.2.2.2.2.2.2.2.2.2.2.2.2.2.2.2.2.2.2.2.1)
                              have HS20_ := (hb.cell (World.block_lt_of_cell? _ _ (hHeld.2.2.2.2.2.2.2.2.2.2.2.2.2.2.2.2.2.2.2.2))).trans (hHeld.2.2.2.2.2.2.2.2.2.2.2.2.2.2.2.2.2.2.2.2)
                              refine ⟨_, rfl, ?_⟩
                              have n0_ := Aside0.mk (Kd.R_below (by (with_reducible repeat (first | apply Kd.R_alloc | apply Kd.R_drewN | apply Kd.R_drew)); exact HO_3.out) hb)
                              have n1_ := Aside0.mk (blk_below (g := gb107) (o := .cells #[.int .i64 t104, .int .i64 t105, .int .i64 t106] 34 (0, 0)) (by (with_reducible repeat (first | refine blk_drewN ?_ _ | refine blk_drew ?_ | refine blk_alloc ?_ _)); exact BK107.out) hb)
                              have n2_ := Aside0.mk (below_step (by repeat (first | (with_reducible first | exact HB.out | apply below_alloc | apply pw_below_drewN | apply below_drew1 | refine below_set ?_ GE107.out) | exact HB.out)) hb)
                              clear HO_3
                              clear BK107
                              clear HB
                              have HO_3 := n0_
                              have BK107 := n1_
                              have HB := n2_
                              clear n0_ n1_ n2_
                              (try clear hb)
                              (try clear hb2)
                              (try clear hk)
                              (try clear hi)
                              refine hK.out _ _ ⟨(blk_cell BK107.out 0).trans rfl, (blk_cell BK107.out 1).trans rfl, (blk_cell BK107.out 2).trans rfl, HS3_, HS4_, HS5_, HS6_, HS7_, HS8_, HS9_, HS10_, HS11_, HS12_, HS13_, HS14_, HS15_, HS16_, HS17_, HS18_, HS19_, HS20_⟩ (fun hHeld => ?_)
                              clear hK K
                              refine norm_ (a' := ?_) ?_ ?_
                              rotate_left
                              · show Act.put _ (some 55) _ = _
                                simp only [Act.put, List.setIfInBounds_toArray, List.set_cons_zero, List.set_cons_succ, i64_w, i32_w]
                                rfl
                              refine pure_ (i := 8) (N := some 56) (v := ?_) (a' := ?_) #[true, true, true, true, true, true, true, true, true, false, false, false, false, false, false, false, false, false, false, false, false, false, false, false, false, false, false, false, false, false, false, false, false, false, false, false, false] rfl rfl (any_of HT_.out (by kernel_rfl)) (fun _ _ _ h => h) (Or.inl ⟨by rfl, ?_⟩) ?_ ?_
                              rotate_left
                              · intro w'
                                go_simp
                                with_reducible rfl
                              rotate_left
                              · simp only [Act.put, List.setIfInBounds_toArray, List.set_cons_zero, List.set_cons_succ, i64_w, i32_w]
                                rfl
                              refine pure_ (i := 9) (N := some 57) (v := ?_) (a' := ?_) #[true, true, true, true, true, true, true, true, true, true, false, false, false, false, false, false, false, false, false, false, false, false, false, false, false, false, false, false, false, false, false, false, false, false, false, false, false] rfl rfl (any_of HT_.out (by kernel_rfl)) (fun _ _ _ h => h) (Or.inl ⟨by rfl, ?_⟩) ?_ ?_
                              rotate_left
                              · intro w'
                                go_simp
                                with_reducible rfl
                              rotate_left
                              · simp only [Act.put, List.setIfInBounds_toArray, List.set_cons_zero, List.set_cons_succ, i64_w, i32_w]
                                rfl
                              refine pure_ (i := 10) (N := some 58) (v := ?_) (a' := ?_) #[true, true, true, true, true, true, true, true, true, true, true, false, false, false, false, false, false, false, false, false, false, false, false, false, false, false, false, false, false, false, false, false, false, false, false, false, false] rfl rfl (any_of HT_.out (by kernel_rfl)) (fun _ _ _ h => h) (Or.inl ⟨by rfl, ?_⟩) ?_ ?_
                              rotate_left
                              · intro w'
                                go_simp
                                with_reducible rfl
                              rotate_left
                              · simp only [Act.put, List.setIfInBounds_toArray, List.set_cons_zero, List.set_cons_succ, i64_w, i32_w]
                                rfl
                              refine pure_ (i := 11) (N := some 59) (v := ?_) (a' := ?_) #[true, true, true, true, true, true, true, true, true, true, true, true, false, false, false, false, false, false, false, false, false, false, false, false, false, false, false, false, false, false, false, false, false, false, false, false, false] rfl rfl (any_of HT_.out (by kernel_rfl)) (fun _ _ _ h => h) (Or.inl ⟨by rfl, ?_⟩) ?_ ?_
                              rotate_left
                              · intro w'
                                go_simp
                                with_reducible rfl
                              rotate_left
                              · simp only [Act.put, List.setIfInBounds_toArray, List.set_cons_zero, List.set_cons_succ, i64_w, i32_w]
                                rfl
                              refine pure_ (i := 12) (N := some 60) (v := ?_) (a' := ?_) #[true, true, true, true, true, true, true, true, true, true, true, true, true, false, false, false, false, false, false, false, false, false, false, false, false, false, false, false, false, false, false, false, false, false, false, false, false] rfl rfl (any_of HT_.out (by kernel_rfl)) (fun _ _ _ h => h) (Or.inl ⟨by rfl, ?_⟩) ?_ ?_
                              rotate_left
                              · intro w'
                                go_simp
                                with_reducible rfl
                              rotate_left
                              · simp only [Act.put, List.setIfInBounds_toArray, List.set_cons_zero, List.set_cons_succ, i64_w, i32_w]
                                rfl
                              refine pure_ (i := 14) (N := some 62) (v := ?_) (a' := ?_) #[true, true, true, true, true, true, true, true, true, true, true, true, true, false, true, false, false, false, false, false, false, false, false, false, false, false, false, false, false, false, false, false, false, false, false, false, false] rfl rfl (any_of HT_.out (by kernel_rfl)) (fun _ _ _ h => h) (Or.inl ⟨by rfl, ?_⟩) ?_ ?_
                              rotate_left
                              · intro w'
                                go_simp
                                with_reducible rfl
                              rotate_left
                              · simp only [Act.put, List.setIfInBounds_toArray, List.set_cons_zero, List.set_cons_succ, i64_w, i32_w]
                                rfl
                              refine take_ (i := 13) (N := some 61) (v := ?_) (a' := ?_) #[true, true, true, true, true, true, true, true, true, true, true, true, true, true, true, false, false, false, false, false, false, false, false, false, false, false, false, false, false, false, false, false, false, false, false, false, false] rfl rfl (take_ofW HT_.out HW_.out (by kernel_rfl)) (fun _ _ _ h => h) (Or.inl ⟨by rfl, ?_⟩) hHeld ?_ ?_
                              rotate_left
                              · rintro w' ⟨s0, s1, s2, s3, s4, s5, s6, s7, s8, s9, s10, s11, s12, s13, s14, s15, s16, s17, s18, s19, s20⟩
                                go_simp
                                with_reducible rfl
                              rotate_left
                              · simp only [Act.put, List.setIfInBounds_toArray, List.set_cons_zero, List.set_cons_succ, i64_w, i32_w]
                                rfl
                              refine take_ (i := 15) (N := some 63) (v := ?_) (a' := ?_) #[true, true, true, true, true, true, true, true, true, true, true, true, true, true, true, true, false, false, false, false, false, false, false, false, false, false, false, false, false, false, false, false, false, false, false, false, false] rfl rfl (take_ofW HT_.out HW_.out (by kernel_rfl)) (fun _ _ _ h => h) (Or.inl ⟨by rfl, ?_⟩) hHeld ?_ ?_
                              rotate_left
                              · rintro w' ⟨s0, s1, s2, s3, s4, s5, s6, s7, s8, s9, s10, s11, s12, s13, s14, s15, s16, s17, s18, s19, s20⟩
                                go_simp
                                with_reducible rfl
                              rotate_left
                              · simp only [Act.put, List.setIfInBounds_toArray, List.set_cons_zero, List.set_cons_succ, i64_w, i32_w]
                                rfl
                              refine one_ (i := 16) (N := some 64) #[true, true, true, true, true, true, true, true, true, true, true, true, true, true, true, true, true, false, false, false, false, false, false, false, false, false, false, false, false, false, false, false, false, false, false, false, false] rfl rfl (one_of HT_.out (by kernel_rfl)) (by decide) (fun K hK => ?_)
                              refine goes_ Try.func33 (by kernel_rfl) rfl #[.agg #[.int .i64 ((rd_T54 t101 x9_2).f2.f0), .int .i64 ((rd_T54 t101 x9_2).f2.f1)], .int .i64 t105] (by rfl) rfl rfl (by (try simp only [List.map_toArray, List.map_cons, List.map_nil]); first | done | rfl | (simp only [List.length_drop, List.length_take]; rfl)) ?_
                              with_reducible refine (spec_NetHas.calls k2 ((rd_T54 t101 x9_2).f2.f0) ((rd_T54 t101 x9_2).f2.f1) t105 true _ A23.out).mono ?_
                              rintro e w28 ⟨rfl, hb⟩
                              have HS3_ := (hb.cell (World.block_lt_of_cell? _ _ (hHeld.2.2.2.1))).trans (hHeld.2.2.2.1)
                              have HS4_ := (hb.cell (World.block_lt_of_cell? _ _ (hHeld.2.2.2.2.1))).trans (hHeld.2.2.2.2.1)
                              have HS5_ := (hb.cell (World.block_lt_of_cell? _ _ (hHeld.2.2.2.2.2.1))).trans (hHeld.2.2.2.2.2.1)
                              have HS6_ := (hb.cell (World.block_lt_of_cell? _ _ (hHeld.2.2.2.2.2.2.1))).trans (hHeld.2.2.2.2.2.2.1)
                              have HS7_ := (hb.cell (World.block_lt_of_cell? _ _ (hHeld.2.2.2.2.2.2.2.1))).trans (hHeld.2.2.2.2.2.2.2.1)
                              have HS8_ := (hb.cell (World.block_lt_of_cell? _ _ (hHeld.2.2.2.2.2.2.2.2.1))).trans (hHeld.2.2.2.2.2.2.2.2.1)
                              have HS9_ := (hb.cell (World.block_lt_of_cell? _ _ (hHeld.2.2.2.2.2.2.2.2.2.1))).trans (hHeld.2.2.2.2.2.2.2.2.2.1)
                              have HS10_ := (hb.cell (World.block_lt_of_cell? _ _ (hHeld.2.2.2.2.2.2.2.2.2.2.1))).trans (hHeld.2.2.2.2.2.2.2.2.2.2.1)
                              have HS11_ := (hb.cell (World.block_lt_of_cell? _ _ (hHeld.2.2.2.2.2.2.2.2.2.2.2.1))).trans (hHeld.2.2.2.2.2.2.2.2.2.2.2.1)
                              have HS12_ := (hb.cell (World.block_lt_of_cell? _ _ (hHeld.2.2.2.2.2.2.2.2.2.2.2.2.1))).trans (hHeld.2.2.2.2.2.2.2.2.2.2.2.2.1)
                              have HS13_ := (hb.cell (World.block_lt_of_cell? _ _ (hHeld.2.2.2.2.2.2.2.2.2.2.2.2.2.1))).trans (hHeld.2.2.2.2.2.2.2.2.2.2.2.2.2.1)
                              have HS14_ := (hb.cell (World.block_lt_of_cell? _ _ (hHeld.2.2.2.2.2.2.2.2.2.2.2.2.2.2.1))).trans (hHeld.2.2.2.2.2.2.2.2.2.2.2.2.2.2.1)
                              have HS15_ := (hb.cell (World.block_lt_of_cell? _ _ (hHeld.2.2.2.2.2.2.2.2.2.2.2.2.2.2.2.1))).trans (hHeld.2.2.2.2.2.2.2.2.2.2.2.2.2.2.2.1)
                              have HS16_ := (hb.cell (World.block_lt_of_cell? _ _ (hHeld.2.2.2.2.2.2.2.2.2.2.2.2.2.2.2.2.1))).trans (hHeld.2.2.2.2.2.2.2.2.2.2.2.2.2.2.2.2.1)
                              have HS17_ := (hb.cell (World.block_lt_of_cell? _ _ (hHeld.2.2.2.2.2.2.2.2.2.2.2.2.2.2.2.2.2.1))).trans (hHeld.2.2.2.2.2.2.2.2.2.2.2.2.2.2.2.2.2.1)
                              have HS18_ := (hb.cell (World.block_lt_of_cell? _ _ (hHeld.2.2.2.2.2.2.2.2.2.2.2.2.2.2.2.2.2.2.1))).trans (hHeld.2.2.2.2.2.2.2.2.2.2.2.2.2.2.2.2.2.2.1)
                              have HS19_ := (hb.cell (World.block_lt_of_cell? _ _ (hHeld.2.2.2.2.2.2.2.2.2.2.2.2.2.2.2.2.2.2.2.1))).trans (hHeld.2.2.2.2.2.2.2.2.2.2.2.2.2.2.2.2.2.2.2.1)
                              have HS20_ := (hb.cell (World.block_lt_of_cell? _ _ (hHeld.2.2.2.2.2.2.2.2.2.2.2.2.2.2.2.2.2.2.2.2))).trans (hHeld.2.2.2.2.2.2.2.2.2.2.2.2.2.2.2.2.2.2.2.2)
                              refine ⟨_, rfl, ?_⟩
                              have n0_ := Aside0.mk (Kd.R_below (by (with_reducible repeat (first | apply Kd.R_alloc | apply Kd.R_drewN | apply Kd.R_drew)); exact HO_3.out) hb)
                              have n1_ := Aside0.mk (blk_below (g := gb107) (o := .cells #[.int .i64 t104, .int .i64 t105, .int .i64 t106] 34 (0, 0)) (by (with_reducible repeat (first | refine blk_drewN ?_ _ | refine blk_drew ?_ | refine blk_alloc ?_ _)); exact BK107.out) hb)
                              have n2_ := Aside0.mk (below_step (by repeat (first | (with_reducible first | exact HB.out | apply below_alloc | apply pw_below_drewN | apply below_drew1 | refine below_set ?_ GE107.out) | exact HB.out)) hb)
                              clear HO_3
                              clear BK107
                              clear HB
                              have HO_3 := n0_
                              have BK107 := n1_
                              have HB := n2_
                              clear n0_ n1_ n2_
                              (try clear hb)
                              (try clear hb2)
                              (try clear hk)
                              (try clear hi)
                              refine hK.out _ _ ⟨(blk_cell BK107.out 0).trans rfl, (blk_cell BK107.out 1).trans rfl, (blk_cell BK107.out 2).trans rfl, HS3_, HS4_, HS5_, HS6_, HS7_, HS8_, HS9_, HS10_, HS11_, HS12_, HS13_, HS14_, HS15_, HS16_, HS17_, HS18_, HS19_, HS20_⟩ (fun hHeld => ?_)
                              clear hK K
                              refine norm_ (a' := ?_) ?_ ?_
                              rotate_left
                              · show Act.put _ (some 64) _ = _
                                simp only [Act.put, List.setIfInBounds_toArray, List.set_cons_zero, List.set_cons_succ, i64_w, i32_w]
                                rfl
                              refine pure_ (i := 17) (N := some 65) (v := ?_) (a' := ?_) #[true, true, true, true, true, true, true, true, true, true, true, true, true, true, true, true, true, true, false, false, false, false, false, false, false, false, false, false, false, false, false, false, false, false, false, false, false] rfl rfl (any_of HT_.out (by kernel_rfl)) (fun _ _ _ h => h) (Or.inl ⟨by rfl, ?_⟩) ?_ ?_
                              rotate_left
                              · intro w'
                                go_simp
                                with_reducible rfl
                              rotate_left
                              · simp only [Act.put, List.setIfInBounds_toArray, List.set_cons_zero, List.set_cons_succ, i64_w, i32_w]
                                rfl
                              refine pure_ (i := 18) (N := some 66) (v := ?_) (a' := ?_) #[true, true, true, true, true, true, true, true, true, true, true, true, true, true, true, true, true, true, true, false, false, false, false, false, false, false, false, false, false, false, false, false, false, false, false, false, false] rfl rfl (any_of HT_.out (by kernel_rfl)) (fun _ _ _ h => h) (Or.inl ⟨by rfl, ?_⟩) ?_ ?_
                              rotate_left
                              · intro w'
                                go_simp
                                with_reducible rfl
                              rotate_left
                              · simp only [Act.put, List.setIfInBounds_toArray, List.set_cons_zero, List.set_cons_succ, i64_w, i32_w]
                                rfl
                              refine pure_ (i := 19) (N := some 67) (v := ?_) (a' := ?_) #[true, true, true, true, true, true, true, true, true, true, true, true, true, true, true, true, true, true, true, true, false, false, false, false, false, false, false, false, false, false, false, false, false, false, false, false, false] rfl rfl (any_of HT_.out (by kernel_rfl)) (fun _ _ _ h => h) (Or.inl ⟨by rfl, ?_⟩) ?_ ?_
                              rotate_left
                              · intro w'
                                go_simp
                                with_reducible rfl
                              rotate_left
                              · simp only [Act.put, List.setIfInBounds_toArray, List.set_cons_zero, List.set_cons_succ, i64_w, i32_w]
                                rfl
                              refine pure_ (i := 20) (N := some 68) (v := ?_) (a' := ?_) #[true, true, true, true, true, true, true, true, true, true, true, true, true, true, true, true, true, true, true, true, true, false, false, false, false, false, false, false, false, false, false, false, false, false, false, false, false] rfl rfl (any_of HT_.out (by kernel_rfl)) (fun _ _ _ h => h) (Or.inl ⟨by rfl, ?_⟩) ?_ ?_
                              rotate_left
                              · intro w'
                                go_simp
                                with_reducible rfl
                              rotate_left
                              · simp only [Act.put, List.setIfInBounds_toArray, List.set_cons_zero, List.set_cons_succ, i64_w, i32_w]
                                rfl
                              refine pure_ (i := 21) (N := some 69) (v := ?_) (a' := ?_) #[true, true, true, true, true, true, true, true, true, true, true, true, true, true, true, true, true, true, true, true, true, true, false, false, false, false, false, false, false, false, false, false, false, false, false, false, false] rfl rfl (any_of HT_.out (by kernel_rfl)) (fun _ _ _ h => h) (Or.inl ⟨by rfl, ?_⟩) ?_ ?_
                              rotate_left
                              · intro w'
                                go_simp
                                with_reducible rfl
                              rotate_left
                              · simp only [Act.put, List.setIfInBounds_toArray, List.set_cons_zero, List.set_cons_succ, i64_w, i32_w]
                                rfl
                              refine pure_ (i := 22) (N := some 70) (v := ?_) (a' := ?_) #[true, true, true, true, true, true, true, true, true, true, true, true, true, true, true, true, true, true, true, true, true, true, true, false, false, false, false, false, false, false, false, false, false, false, false, false, false] rfl rfl (any_of HT_.out (by kernel_rfl)) (fun _ _ _ h => h) (Or.inl ⟨by rfl, ?_⟩) ?_ ?_
                              rotate_left
                              · intro w'
                                go_simp
                                with_reducible rfl
                              rotate_left
                              · simp only [Act.put, List.setIfInBounds_toArray, List.set_cons_zero, List.set_cons_succ, i64_w, i32_w]
                                rfl
                              refine take_ (i := 23) (N := some 71) (v := ?_) (a' := ?_) #[true, true, true, true, true, true, true, true, true, true, true, true, true, true, true, true, true, true, true, true, true, true, true, true, false, false, false, false, false, false, false, false, false, false, false, false, false] rfl rfl (take_ofW HT_.out HW_.out (by kernel_rfl)) (fun _ _ _ h => h) (Or.inl ⟨by rfl, ?_⟩) hHeld ?_ ?_
                              rotate_left
                              · rintro w' ⟨s0, s1, s2, s3, s4, s5, s6, s7, s8, s9, s10, s11, s12, s13, s14, s15, s16, s17, s18, s19, s20⟩
                                go_simp
                                with_reducible rfl
                              rotate_left
                              · simp only [Act.put, List.setIfInBounds_toArray, List.set_cons_zero, List.set_cons_succ, i64_w, i32_w]
                                rfl
                              refine pure_ (i := 24) (N := some 72) (v := ?_) (a' := ?_) #[true, true, true, true, true, true, true, true, true, true, true, true, true, true, true, true, true, true, true, true, true, true, true, true, true, false, false, false, false, false, false, false, false, false, false, false, false] rfl rfl (any_of HT_.out (by kernel_rfl)) (fun _ _ _ h => h) (Or.inl ⟨by rfl, ?_⟩) ?_ ?_
                              rotate_left
                              · intro w'
                                go_simp
                                with_reducible rfl
                              rotate_left
                              · simp only [Act.put, List.setIfInBounds_toArray, List.set_cons_zero, List.set_cons_succ, i64_w, i32_w]
                                rfl
                              refine pure_ (i := 25) (N := some 73) (v := ?_) (a' := ?_) #[true, true, true, true, true, true, true, true, true, true, true, true, true, true, true, true, true, true, true, true, true, true, true, true, true, true, false, false, false, false, false, false, false, false, false, false, false] rfl rfl (any_of HT_.out (by kernel_rfl)) (fun _ _ _ h => h) (Or.inl ⟨by rfl, ?_⟩) ?_ ?_
                              rotate_left
                              · intro w'
                                go_simp
                                with_reducible rfl
                              rotate_left
                              · simp only [Act.put, List.setIfInBounds_toArray, List.set_cons_zero, List.set_cons_succ, i64_w, i32_w]
                                rfl
                              refine pure_ (i := 26) (N := some 74) (v := undef) (a' := ?_) #[true, true, true, true, true, true, true, true, true, true, true, true, true, true, true, true, true, true, true, true, true, true, true, true, true, true, true, false, false, false, false, false, false, false, false, false, false] rfl rfl (any_of HT_.out (by kernel_rfl)) (fun _ _ _ h => h) (Or.inr ⟨by rfl, rfl⟩) ?_ ?_
                              rotate_left
                              · simp only [Act.put, List.setIfInBounds_toArray, List.set_cons_zero, List.set_cons_succ, i64_w, i32_w]
                                rfl
                              refine pure_ (i := 27) (N := some 75) (v := undef) (a' := ?_) #[true, true, true, true, true, true, true, true, true, true, true, true, true, true, true, true, true, true, true, true, true, true, true, true, true, true, true, true, false, false, false, false, false, false, false, false, false] rfl rfl (any_of HT_.out (by kernel_rfl)) (fun _ _ _ h => h) (Or.inr ⟨by rfl, rfl⟩) ?_ ?_
                              rotate_left
                              · simp only [Act.put, List.setIfInBounds_toArray, List.set_cons_zero, List.set_cons_succ, i64_w, i32_w]
                                rfl
                              refine pure_ (i := 28) (N := some 76) (v := undef) (a' := ?_) #[true, true, true, true, true, true, true, true, true, true, true, true, true, true, true, true, true, true, true, true, true, true, true, true, true, true, true, true, true, false, false, false, false, false, false, false, false] rfl rfl (any_of HT_.out (by kernel_rfl)) (fun _ _ _ h => h) (Or.inr ⟨by rfl, rfl⟩) ?_ ?_
                              rotate_left
                              · simp only [Act.put, List.setIfInBounds_toArray, List.set_cons_zero, List.set_cons_succ, i64_w, i32_w]
                                rfl
                              refine pure_ (i := 29) (N := some 77) (v := undef) (a' := ?_) #[true, true, true, true, true, true, true, true, true, true, true, true, true, true, true, true, true, true, true, true, true, true, true, true, true, true, true, true, true, true, false, false, false, false, false, false, false] rfl rfl (any_of HT_.out (by kernel_rfl)) (fun _ _ _ h => h) (Or.inr ⟨by rfl, rfl⟩) ?_ ?_
                              rotate_left
                              · simp only [Act.put, List.setIfInBounds_toArray, List.set_cons_zero, List.set_cons_succ, i64_w, i32_w]
                                rfl
                              refine pure_ (i := 30) (N := some 78) (v := undef) (a' := ?_) #[true, true, true, true, true, true, true, true, true, true, true, true, true, true, true, true, true, true, true, true, true, true, true, true, true, true, true, true, true, true, true, false, false, false, false, false, false] rfl rfl (any_of HT_.out (by kernel_rfl)) (fun _ _ _ h => h) (Or.inr ⟨by rfl, rfl⟩) ?_ ?_
                              rotate_left
                              · simp only [Act.put, List.setIfInBounds_toArray, List.set_cons_zero, List.set_cons_succ, i64_w, i32_w]
                                rfl
                              refine pure_ (i := 31) (N := some 79) (v := undef) (a' := ?_) #[true, true, true, true, true, true, true, true, true, true, true, true, true, true, true, true, true, true, true, true, true, true, true, true, true, true, true, true, true, true, true, true, false, false, false, false, false] rfl rfl (any_of HT_.out (by kernel_rfl)) (fun _ _ _ h => h) (Or.inr ⟨by rfl, rfl⟩) ?_ ?_
                              rotate_left
                              · simp only [Act.put, List.setIfInBounds_toArray, List.set_cons_zero, List.set_cons_succ, i64_w, i32_w]
                                rfl
                              refine pure_ (i := 32) (N := some 80) (v := undef) (a' := ?_) #[true, true, true, true, true, true, true, true, true, true, true, true, true, true, true, true, true, true, true, true, true, true, true, true, true, true, true, true, true, true, true, true, true, false, false, false, false] rfl rfl (any_of HT_.out (by kernel_rfl)) (fun _ _ _ h => h) (Or.inr ⟨by rfl, rfl⟩) ?_ ?_
                              rotate_left
                              · simp only [Act.put, List.setIfInBounds_toArray, List.set_cons_zero, List.set_cons_succ, i64_w, i32_w]
                                rfl
                              refine pure_ (i := 33) (N := some 81) (v := undef) (a' := ?_) #[true, true, true, true, true, true, true, true, true, true, true, true, true, true, true, true, true, true, true, true, true, true, true, true, true, true, true, true, true, true, true, true, true, true, false, false, false] rfl rfl (any_of HT_.out (by kernel_rfl)) (fun _ _ _ h => h) (Or.inr ⟨by rfl, rfl⟩) ?_ ?_
                              rotate_left
                              · simp only [Act.put, List.setIfInBounds_toArray, List.set_cons_zero, List.set_cons_succ, i64_w, i32_w]
                                rfl
                              refine pure_ (i := 34) (N := some 82) (v := ?_) (a' := ?_) #[true, true, true, true, true, true, true, true, true, true, true, true, true, true, true, true, true, true, true, true, true, true, true, true, true, true, true, true, true, true, true, true, true, true, true, false, false] rfl rfl (any_of HT_.out (by kernel_rfl)) (fun _ _ _ h => h) (Or.inl ⟨by rfl, ?_⟩) ?_ ?_
                              rotate_left
                              · intro w'
                                go_simp
                                with_reducible rfl
                              rotate_left
                              · simp only [Act.put, List.setIfInBounds_toArray, List.set_cons_zero, List.set_cons_succ, i64_w, i32_w]
                                rfl
                              refine pure_ (i := 35) (N := some 83) (v := ?_) (a' := ?_) #[true, true, true, true, true, true, true, true, true, true, true, true, true, true, true, true, true, true, true, true, true, true, true, true, true, true, true, true, true, true, true, true, true, true, true, true, false] rfl rfl (any_of HT_.out (by kernel_rfl)) (fun _ _ _ h => h) (Or.inl ⟨by rfl, ?_⟩) ?_ ?_
                              rotate_left
                              · intro w'
                                go_simp
                                with_reducible rfl
                              rotate_left
                              · simp only [Act.put, List.setIfInBounds_toArray, List.set_cons_zero, List.set_cons_succ, i64_w, i32_w]
                                rfl
                              refine pure_ (i := 36) (N := some 10) (v := ?_) (a' := ?_) #[true, true, true, true, true, true, true, true, true, true, true, true, true, true, true, true, true, true, true, true, true, true, true, true, true, true, true, true, true, true, true, true, true, true, true, true, true] rfl rfl (any_of HT_.out (by kernel_rfl)) (fun _ _ _ h => h) (Or.inl ⟨by rfl, ?_⟩) ?_ ?_
                              rotate_left
                              · intro w'
                                go_simp
                                with_reducible rfl
                              rotate_left
                              · simp only [Act.put, List.setIfInBounds_toArray, List.set_cons_zero, List.set_cons_succ, i64_w, i32_w]
                                rfl
                              refine done_ (done_of HT_.out (by kernel_rfl)) ?_
                              try go_wp2
                              go_meet
                              case rel => exact ⟨_, (true), (by first | rfl | (simp; done) | (simp [*]; done)), H', ⟨by have := HJ5.out; have := HK2.out; first | omega | exact Nat.le_refl _⟩, ⟨by (with_reducible repeat (first | apply Kd.R_alloc | apply Kd.R_drewN | apply Kd.R_drew)); exact HO_3.out⟩, ⟨by (with_reducible repeat (first | refine blk_drewN ?_ _ | refine blk_drew ?_ | refine blk_alloc ?_ _)); exact BK107.out⟩, ⟨by repeat (first | (with_reducible first | exact HB.out | apply below_alloc | apply pw_below_drewN | apply below_drew1 | refine below_set ?_ GE107.out) | exact HB.out)⟩⟩
                            · rw [if_neg c25] at H
                              have c25b0 : (((rd_T54 t101 x9_2).f3) == 0) = false := beq_eq_false_iff_ne.mpr c25
                              have c25b1 : (((rd_T54 t101 x9_2).f3) != 0) = true := bne_iff_ne.mpr c25
                              have H' := Aside0.mk H
                              clear H
                              try go_wp2
                              have n0_ := Aside0.mk (Kd.R_drew HO_3.out)
                              have n1_ := Aside0.mk (blk_drew BK107.out)
                              have n2_ := Aside0.mk (below_drew1 HB.out)
                              clear HO_3
                              clear BK107
                              clear HB
                              have HO_3 := n0_
                              have BK107 := n1_
                              have HB := n2_
                              clear n0_ n1_ n2_
                              have p113 : 0 ≤ (x9_2 : Int) := of_decide_eq_true (by first | (with_reducible assumption) | assumption)
                              have q113 : x9_2 < (t101.length : Int) := of_decide_eq_true (by first | (with_reducible assumption) | assumption)
                              obtain ⟨ad113, e113, hx113_0, hx113_1, hx113_2, hx113_3, hx113_4, hx113_5⟩ := at_T54 (Kd.R_reads' HO_3.out).2.2 x9_2 p113 q113
                              cases e113
                              replace p113 := eq_true p113
                              replace q113 := eq_true q113
                              have p115 : 0 ≤ (x9_2 : Int) := of_decide_eq_true (by first | (with_reducible assumption) | assumption)
                              have q115 : x9_2 < (t101.length : Int) := of_decide_eq_true (by first | (with_reducible assumption) | assumption)
                              obtain ⟨ad115, e115, hx115_0, hx115_1, hx115_2, hx115_3, hx115_4, hx115_5⟩ := at_T54 (Kd.R_reads' HO_3.out).2.2 x9_2 p115 q115
                              obtain rfl : ad113 = ad115 := (by injection e115)
                              replace p115 := eq_true p115
                              replace q115 := eq_true q115
                              have p117 : 0 ≤ (x9_2 : Int) := of_decide_eq_true (by first | (with_reducible assumption) | assumption)
                              have q117 : x9_2 < (t101.length : Int) := of_decide_eq_true (by first | (with_reducible assumption) | assumption)
                              obtain ⟨ad117, e117, hx117_0, hx117_1, hx117_2, hx117_3, hx117_4, hx117_5⟩ := at_T54 (Kd.R_reads' HO_3.out).2.2 x9_2 p117 q117
                              obtain rfl : ad113 = ad117 := (by injection e117)
                              replace p117 := eq_true p117
                              replace q117 := eq_true q117
                              have p118 : 0 ≤ (x9_2 : Int) := of_decide_eq_true (by first | (with_reducible assumption) | assumption)
                              have q118 : x9_2 < (t101.length : Int) := of_decide_eq_true (by first | (with_reducible assumption) | assumption)
                              obtain ⟨ad118, e118, hx118_0, hx118_1, hx118_2, hx118_3, hx118_4, hx118_5⟩ := at_T54 (Kd.R_reads' HO_3.out).2.2 x9_2 p118 q118
                              obtain rfl : ad113 = ad118 := (by injection e118)
                              replace p118 := eq_true p118
                              replace q118 := eq_true q118
                              refine start_ (n := 37) (S := fun w' => w'.cell? ⟨gb107, 0, none⟩ = some (.int .i64 t104) ∧ w'.cell? ⟨gb107, 1, none⟩ = some (.int .i64 t105) ∧ w'.cell? ⟨gb107, 2, none⟩ = some (.int .i64 t106) ∧ w'.cell? (ad113.add ((x9_2).toNat * 6)) = some (.bool ((rd_T54 t101 x9_2).f0)) ∧ w'.cell? ⟨(ad113.add ((x9_2).toNat * 6)).block, (ad113.add ((x9_2).toNat * 6)).off + 1, none⟩ = some (.int .i64 ((rd_T54 t101 x9_2).f1.f0)) ∧ w'.cell? ⟨(ad113.add ((x9_2).toNat * 6)).block, (ad113.add ((x9_2).toNat * 6)).off + 2, none⟩ = some (.int .i64 ((rd_T54 t101 x9_2).f1.f1)) ∧ w'.cell? ⟨(ad113.add ((x9_2).toNat * 6)).block, (ad113.add ((x9_2).toNat * 6)).off + 3, none⟩ = some (.int .i64 ((rd_T54 t101 x9_2).f2.f0)) ∧ w'.cell? ⟨(ad113.add ((x9_2).toNat * 6)).block, (ad113.add ((x9_2).toNat * 6)).off + 4, none⟩ = some (.int .i64 ((rd_T54 t101 x9_2).f2.f1)) ∧ w'.cell? ⟨(ad113.add ((x9_2).toNat * 6)).block, (ad113.add ((x9_2).toNat * 6)).off + 5, none⟩ = some (.int .i64 ((rd_T54 t101 x9_2).f3)) ∧ w'.cell? (ad113.add ((x9_2).toNat * 6)) = some (.bool ((rd_T54 t101 x9_2).f0)) ∧ w'.cell? ⟨(ad113.add ((x9_2).toNat * 6)).block, (ad113.add ((x9_2).toNat * 6)).off + 1, none⟩ = some (.int .i64 ((rd_T54 t101 x9_2).f1.f0)) ∧ w'.cell? ⟨(ad113.add ((x9_2).toNat * 6)).block, (ad113.add ((x9_2).toNat * 6)).off + 2, none⟩ = some (.int .i64 ((rd_T54 t101 x9_2).f1.f1)) ∧ w'.cell? ⟨(ad113.add ((x9_2).toNat * 6)).block, (ad113.add ((x9_2).toNat * 6)).off + 3, none⟩ = some (.int .i64 ((rd_T54 t101 x9_2).f2.f0)) ∧ w'.cell? ⟨(ad113.add ((x9_2).toNat * 6)).block, (ad113.add ((x9_2).toNat * 6)).off + 4, none⟩ = some (.int .i64 ((rd_T54 t101 x9_2).f2.f1)) ∧ w'.cell? ⟨(ad113.add ((x9_2).toNat * 6)).block, (ad113.add ((x9_2).toNat * 6)).off + 5, none⟩ = some (.int .i64 ((rd_T54 t101 x9_2).f3)) ∧ w'.cell? (ad113.add ((x9_2).toNat * 6)) = some (.bool ((rd_T54 t101 x9_2).f0)) ∧ w'.cell? ⟨(ad113.add ((x9_2).toNat * 6)).block, (ad113.add ((x9_2).toNat * 6)).off + 1, none⟩ = some (.int .i64 ((rd_T54 t101 x9_2).f1.f0)) ∧ w'.cell? ⟨(ad113.add ((x9_2).toNat * 6)).block, (ad113.add ((x9_2).toNat * 6)).off + 2, none⟩ = some (.int .i64 ((rd_T54 t101 x9_2).f1.f1)) ∧ w'.cell? ⟨(ad113.add ((x9_2).toNat * 6)).block, (ad113.add ((x9_2).toNat * 6)).off + 3, none⟩ = some (.int .i64 ((rd_T54 t101 x9_2).f2.f0)) ∧ w'.cell? ⟨(ad113.add ((x9_2).toNat * 6)).block, (ad113.add ((x9_2).toNat * 6)).off + 4, none⟩ = some (.int .i64 ((rd_T54 t101 x9_2).f2.f1)) ∧ w'.cell? ⟨(ad113.add ((x9_2).toNat * 6)).block, (ad113.add ((x9_2).toNat * 6)).off + 5, none⟩ = some (.int .i64 ((rd_T54 t101 x9_2).f3)) ∧ w'.cell? (ad113.add ((x9_2).toNat * 6)) = some (.bool ((rd_T54 t101 x9_2).f0)) ∧ w'.cell? ⟨(ad113.add ((x9_2).toNat * 6)).block, (ad113.add ((x9_2).toNat * 6)).off + 1, none⟩ = some (.int .i64 ((rd_T54 t101 x9_2).f1.f0)) ∧ w'.cell? ⟨(ad113.add ((x9_2).toNat * 6)).block, (ad113.add ((x9_2).toNat * 6)).off + 2, none⟩ = some (.int .i64 ((rd_T54 t101 x9_2).f1.f1)) ∧ w'.cell? ⟨(ad113.add ((x9_2).toNat * 6)).block, (ad113.add ((x9_2).toNat * 6)).off + 3, none⟩ = some (.int .i64 ((rd_T54 t101 x9_2).f2.f0)) ∧ w'.cell? ⟨(ad113.add ((x9_2).toNat * 6)).block, (ad113.add ((x9_2).toNat * 6)).off + 4, none⟩ = some (.int .i64 ((rd_T54 t101 x9_2).f2.f1)) ∧ w'.cell? ⟨(ad113.add ((x9_2).toNat * 6)).block, (ad113.add ((x9_2).toNat * 6)).off + 5, none⟩ = some (.int .i64 ((rd_T54 t101 x9_2).f3))) (ds := []) #[false, false, false, false, false, false, false, false, false, false, false, false, false, false, false, false, false, false, false, false, false, false, false, false, false, false, false, false, false, false, false, false, false, false, false, false, false] (by kernel_rfl) rfl rfl ⟨(blk_cell BK107.out 0).trans rfl, (blk_cell BK107.out 1).trans rfl, (blk_cell BK107.out 2).trans rfl, hx113_0, hx113_1, hx113_2, hx113_3, hx113_4, hx113_5, hx115_0, hx115_1, hx115_2, hx115_3, hx115_4, hx115_5, hx117_0, hx117_1, hx117_2, hx117_3, hx117_4, hx117_5, hx118_0, hx118_1, hx118_2, hx118_3, hx118_4, hx118_5⟩ (fun hHeld => ?_); refine with_tabW laws_FnAclSays.tab13 laws_FnAclSays.bits13 (fun HT_ HW_ => ?_)
                              generalize wr.drew = w29 at HO_3 BK107 HB hx113_0 hx113_1 hx113_2 hx113_3 hx113_4 hx113_5 hx115_0 hx115_1 hx115_2 hx115_3 hx115_4 hx115_5 hx117_0 hx117_1 hx117_2 hx117_3 hx117_4 hx117_5 hx118_0 hx118_1 hx118_2 hx118_3 hx118_4 hx118_5 hHeld ⊢
                              refine pure_ (i := 0) (N := some 48) (v := ?_) (a' := ?_) #[true, false, false, false, false, false, false, false, false, false, false, false, false, false, false, false, false, false, false, false, false, false, false, false, false, false, false, false, false, false, false, false, false, false, false, false, false] rfl rfl (any_of HT_.out (by kernel_rfl)) (fun _ _ _ h => h) (Or.inl ⟨by rfl, ?_⟩) ?_ ?_
                              rotate_left
                              · intro w'
                                go_simp
                                with_reducible rfl
                              rotate_left
                              · simp only [Act.put, List.setIfInBounds_toArray, List.set_cons_zero, List.set_cons_succ, i64_w, i32_w]
                                rfl
                              refine pure_ (i := 1) (N := some 49) (v := ?_) (a' := ?_) #[true, true, false, false, false, false, false, false, false, false, false, false, false, false, false, false, false, false, false, false, false, false, false, false, false, false, false, false, false, false, false, false, false, false, false, false, false] rfl rfl (any_of HT_.out (by kernel_rfl)) (fun _ _ _ h => h) (Or.inl ⟨by rfl, ?_⟩) ?_ ?_
                              rotate_left
                              · intro w'
                                go_simp
                                with_reducible rfl
                              rotate_left
                              · simp only [Act.put, List.setIfInBounds_toArray, List.set_cons_zero, List.set_cons_succ, i64_w, i32_w]
                                rfl
                              refine pure_ (i := 2) (N := some 50) (v := ?_) (a' := ?_) #[true, true, true, false, false, false, false, false, false, false, false, false, false, false, false, false, false, false, false, false, false, false, false, false, false, false, false, false, false, false, false, false, false, false, false, false, false] rfl rfl (any_of HT_.out (by kernel_rfl)) (fun _ _ _ h => h) (Or.inl ⟨by rfl, ?_⟩) ?_ ?_
                              rotate_left
                              · intro w'
                                go_simp
                                with_reducible rfl
                              rotate_left
                              · simp only [Act.put, List.setIfInBounds_toArray, List.set_cons_zero, List.set_cons_succ, i64_w, i32_w]
                                rfl
                              refine pure_ (i := 3) (N := some 51) (v := ?_) (a' := ?_) #[true, true, true, true, false, false, false, false, false, false, false, false, false, false, false, false, false, false, false, false, false, false, false, false, false, false, false, false, false, false, false, false, false, false, false, false, false] rfl rfl (any_of HT_.out (by kernel_rfl)) (fun _ _ _ h => h) (Or.inl ⟨by rfl, ?_⟩) ?_ ?_
                              rotate_left
                              · intro w'
                                go_simp
                                with_reducible rfl
                              rotate_left
                              · simp only [Act.put, List.setIfInBounds_toArray, List.set_cons_zero, List.set_cons_succ, i64_w, i32_w]
                                rfl
                              refine pure_ (i := 5) (N := some 53) (v := ?_) (a' := ?_) #[true, true, true, true, false, true, false, false, false, false, false, false, false, false, false, false, false, false, false, false, false, false, false, false, false, false, false, false, false, false, false, false, false, false, false, false, false] rfl rfl (any_of HT_.out (by kernel_rfl)) (fun _ _ _ h => h) (Or.inl ⟨by rfl, ?_⟩) ?_ ?_
                              rotate_left
                              · intro w'
                                go_simp
                                with_reducible rfl
                              rotate_left
                              · simp only [Act.put, List.setIfInBounds_toArray, List.set_cons_zero, List.set_cons_succ, i64_w, i32_w]
                                rfl
                              refine take_ (i := 4) (N := some 52) (v := ?_) (a' := ?_) #[true, true, true, true, true, true, false, false, false, false, false, false, false, false, false, false, false, false, false, false, false, false, false, false, false, false, false, false, false, false, false, false, false, false, false, false, false] rfl rfl (take_ofW HT_.out HW_.out (by kernel_rfl)) (fun _ _ _ h => h) (Or.inl ⟨by rfl, ?_⟩) hHeld ?_ ?_
                              rotate_left
                              · rintro w' ⟨s0, s1, s2, s3, s4, s5, s6, s7, s8, s9, s10, s11, s12, s13, s14, s15, s16, s17, s18, s19, s20, s21, s22, s23, s24, s25, s26⟩
                                go_simp
                                with_reducible rfl
                              rotate_left
                              · simp only [Act.put, List.setIfInBounds_toArray, List.set_cons_zero, List.set_cons_succ, i64_w, i32_w]
                                rfl
                              refine take_ (i := 6) (N := some 54) (v := ?_) (a' := ?_) #[true, true, true, true, true, true, true, false, false, false, false, false, false, false, false, false, false, false, false, false, false, false, false, false, false, false, false, false, false, false, false, false, false, false, false, false, false] rfl rfl (take_ofW HT_.out HW_.out (by kernel_rfl)) (fun _ _ _ h => h) (Or.inl ⟨by rfl, ?_⟩) hHeld ?_ ?_
                              rotate_left
                              · rintro w' ⟨s0, s1, s2, s3, s4, s5, s6, s7, s8, s9, s10, s11, s12, s13, s14, s15, s16, s17, s18, s19, s20, s21, s22, s23, s24, s25, s26⟩
                                go_simp
                                with_reducible rfl
                              rotate_left
                              · simp only [Act.put, List.setIfInBounds_toArray, List.set_cons_zero, List.set_cons_succ, i64_w, i32_w]
                                rfl
                              refine one_ (i := 7) (N := some 55) #[true, true, true, true, true, true, true, true, false, false, false, false, false, false, false, false, false, false, false, false, false, false, false, false, false, false, false, false, false, false, false, false, false, false, false, false, false] rfl rfl (one_of HT_.out (by kernel_rfl)) (by decide) (fun K hK => ?_)
                              refine goes_ Try.func33 (by kernel_rfl) rfl #[.agg #[.int .i64 ((rd_T54 t101 x9_2).f1.f0), .int .i64 ((rd_T54 t101 x9_2).f1.f1)], .int .i64 t104] (by rfl) rfl rfl (by (try simp only [List.map_toArray, List.map_cons, List.map_nil]); first | done | rfl | (simp only [List.length_drop, List.length_take]; rfl)) ?_
                              with_reducible refine (spec_NetHas.calls k2 ((rd_T54 t101 x9_2).f1.f0) ((rd_T54 t101 x9_2).f1.f1) t104 true _ A21.out).mono ?_
                              rintro e w30 ⟨rfl, hb⟩
                              have HS3_ := (hb.cell (World.block_lt_of_cell? _ _ (hHeld.2.2.2.1))).trans (hHeld.2.2.2.1)
                              have HS4_ := (hb.cell (World.block_lt_of_cell? _ _ (hHeld.2.2.2.2.1))).trans (hHeld.2.2.2.2.1)
                              have HS5_ := (hb.cell (World.block_lt_of_cell? _ _ (hHeld.2.2.2.2.2.1))).trans (hHeld.2.2.2.2.2.1)
                              have HS6_ := (hb.cell (World.block_lt_of_cell? _ _ (hHeld.2.2.2.2.2.2.1))).trans (hHeld.2.2.2.2.2.2.1)
                              have HS7_ := (hb.cell (World.block_lt_of_cell? _ _ (hHeld.2.2.2.2.2.2.2.1))).trans (hHeld.2.2.2.2.2.2.2.1)
                              have HS8_ := (hb.cell (World.block_lt_of_cell? _ _ (hHeld.2.2.2.2.2.2.2.2.1))).trans (hHeld.2.2.2.2.2.2.2.2.1)
                              have HS9_ := (hb.cell (World.block_lt_of_cell? _ _ (hHeld.2.2.2.2.2.2.2.2.2.1))).trans (hHeld.2.2.2.2.2.2.2.2.2.1)
                              have HS10_ := (hb.cell (World.block_lt_of_cell? _ _ (hHeld.2.2.2.2.2.2.2.2.2.2.1))).trans (hHeld.2.2.2.2.2.2.2.2.2.2.1)
                              have HS11_ := (hb.cell (World.block_lt_of_cell? _ _ (hHeld.2.2.2.2.2.2.2.2.2.2.2.1))).trans (hHeld.2.2.2.2.2.2.2.2.2.2.2.1)
                              have HS12_ := (hb.cell (World.block_lt_of_cell? _ _ (hHeld.2.2.2.2.2.2.2.2.2.2.2.2.1))).trans (hHeld.2.2.2.2.2.2.2.2.2.2.2.2.1)
                              have HS13_ := (hb.cell (World.block_lt_of_cell? _ _ (hHeld.2.2.2.2.2.2.2.2.2.2.2.2.2.1))).trans (hHeld.2.2.2.2.2.2.2.2.2.2.2.2.2.1)
                              have HS14_ := (hb.cell (World.block_lt_of_cell? _ _ (hHeld.2.2.2.2.2.2.2.2.2.2.2.2.2.2.1))).trans (hHeld.2.2.2.2.2.2.2.2.2.2.2.2.2.2.1)
                              have HS15_ := (hb.cell (World.block_lt_of_cell? _ _ (hHeld.2.2.2.2.2.2.2.2.2.2.2.2.2.2.2.1))).trans (hHeld.2.2.2.2.2.2.2.2.2.2.2.2.2.2.2.1)
                              have HS16_ := (hb.cell (World.block_lt_of_cell? _ _ (hHeld.2.2.2.2.2.2.2.2.2.2.2.2.2.2.2.2.1))).trans (hHeld.2.2.2.2.2.2.2.2.2.2.2.2.2.2.2.2.1)
                              have HS17_ := (hb.cell (World.block_lt_of_cell? _ _ (hHeld.2.2.2.2.2.2.2.2.2.2.2.2.2.2.2.2.2.1))).trans (hHeld.2.2.2.2.2.2.2.2.2.2.2.2.2.2.2.2.2.1)
                              have HS18_ := (hb.cell (World.block_lt_of_cell? _ _ (hHeld.2.2.2.2.2.2.2.2.2.2.2.2.2.2.2.2.2.2.1))).trans (hHeld.2.2.2.2.2.2.2.2.2.2.2.2.2.2.2.2.2.2.1)
                              have HS19_ := (hb.cell (World.block_lt_of_cell? _ _ (hHeld.2.2.2.2.2.2.2.2.2.2.2.2.2.2.2.2.2.2.2.1))).trans (hHeld.2.2.2.2.2.2.2.2.2.2.2.2.2.2.2.2.2.2.2.1)
                              have HS20_ := (hb.cell (World.block_lt_of_cell? _ _ (hHeld.2.2.2.2.2.2.2.2.2.2.2.2.2.2.2.2.2.2.2.2.1))).trans (hHeld.2.2.2.2.2.2.2.2.2.2.2.2.2.2.2.2.2.2.2.2.1)
                              have HS21_ := (hb.cell (World.block_lt_of_cell? _ _ (hHeld.2.2.2.2.2.2.2.2.2.2.2.2.2.2.2.2.2.2.2.2.2.1))).trans (hHeld.2.2.2.2.2.2.2.2.2.2.2.2.2.2.2.2.2.2.2.2.2.1)
                              have HS22_ := (hb.cell (World.block_lt_of_cell? _ _ (hHeld.2.2.2.2.2.2.2.2.2.2.2.2.2.2.2.2.2.2.2.2.2.2.1))).trans (hHeld.2.2.2.2.2.2.2.2.2.2.2.2.2.2.2.2.2.2.2.2.2.2.1)
                              have HS23_ := (hb.cell (World.block_lt_of_cell? _ _ (hHeld.2.2.2.2.2.2.2.2.2.2.2.2.2.2.2.2.2.2.2.2.2.2.2.1))).trans (hHeld.2.2.2.2.2.2.2.2.2.2.2.2.2.2.2.2.2.2.2.2.2.2.2.1)
                              have HS24_ := (hb.cell (World.block_lt_of_cell? _ _ (hHeld.2.2.2.2.2.2.2.2.2.2.2.2.2.2.2.2.2.2.2.2.2.2.2.2.1))).trans (hHeld.2.2.2.2.2.2.2.2.2.2.2.2.2.2.2.2.2.2.2.2.2.2.2.2.1)
                              have HS25_ := (hb.cell (World.block_lt_of_cell? _ _ (hHeld.2.2.2.2.2.2.2.2.2.2.2.2.2.2.2.2.2.2.2.2.2.2.2.2.2.1))).trans (hHeld.2.2.2.2.2.2.2.2.2.2.2.2.2.2.2.2.2.2.2.2.2.2.2.2.2.1)
                              have HS26_ := (hb.cell (World.block_lt_of_cell? _ _ (hHeld.2.2.2.2.2.2.2.2.2.2.2.2.2.2.2.2.2.2.2.2.2.2.2.2.2.2))).trans (hHeld.2.2.2.2.2.2.2.2.2.2.2.2.2.2.2.2.2.2.2.2.2.2.2.2.2.2)
                              refine ⟨_, rfl, ?_⟩
                              have n0_ := Aside0.mk (Kd.R_below (by (with_reducible repeat (first | apply Kd.R_alloc | apply Kd.R_drewN | apply Kd.R_drew)); exact HO_3.out) hb)
                              have n1_ := Aside0.mk (blk_below (g := gb107) (o := .cells #[.int .i64 t104, .int .i64 t105, .int .i64 t106] 34 (0, 0)) (by (with_reducible repeat (first | refine blk_drewN ?_ _ | refine blk_drew ?_ | refine blk_alloc ?_ _)); exact BK107.out) hb)
                              have n2_ := Aside0.mk (below_step (by repeat (first | (with_reducible first | exact HB.out | apply below_alloc | apply pw_below_drewN | apply below_drew1 | refine below_set ?_ GE107.out) | exact HB.out)) hb)
                              clear HO_3
                              clear BK107
                              clear HB
                              have HO_3 := n0_
                              have BK107 := n1_
                              have HB := n2_
                              clear n0_ n1_ n2_
                              (try clear hb)
                              (try clear hb2)
                              (try clear hk)
                              (try clear hi)
                              refine hK.out _ _ ⟨(blk_cell BK107.out 0).trans rfl, (blk_cell BK107.out 1).trans rfl, (blk_cell BK107.out 2).trans rfl, HS3_, HS4_, HS5_, HS6_, HS7_, HS8_, HS9_, HS10_, HS11_, HS12_, HS13_, HS14_, HS15_, HS16_, HS17_, HS18_, HS19_, HS20_, HS21_, HS22_, HS23_, HS24_, HS25_, HS26_⟩ (fun hHeld => ?_)
                              clear hK K
                              refine norm_ (a' := ?_) ?_ ?_
                              rotate_left
                              · show Act.put _ (some 55) _ = _
                                simp only [Act.put, List.setIfInBounds_toArray, List.set_cons_zero, List.set_cons_succ, i64_w, i32_w]
                                rfl
                              refine pure_ (i := 8) (N := some 56) (v := ?_) (a' := ?_) #[true, true, true, true, true, true, true, true, true, false, false, false, false, false, false, false, false, false, false, false, false, false, false, false, false, false, false, false, false, false, false, false, false, false, false, false, false] rfl rfl (any_of HT_.out (by kernel_rfl)) (fun _ _ _ h => h) (Or.inl ⟨by rfl, ?_⟩) ?_ ?_
                              rotate_left
                              · intro w'
                                go_simp
                                with_reducible rfl
                              rotate_left
                              · simp only [Act.put, List.setIfInBounds_toArray, List.set_cons_zero, List.set_cons_succ, i64_w, i32_w]
                                rfl
                              refine pure_ (i := 9) (N := some 57) (v := ?_) (a' := ?_) #[true, true, true, true, true, true, true, true, true, true, false, false, false, false, false, false, false, false, false, false, false, false, false, false, false, false, false, false, false, false, false, false, false, false, false, false, false] rfl rfl (any_of HT_.out (by kernel_rfl)) (fun _ _ _ h => h) (Or.inl ⟨by rfl, ?_⟩) ?_ ?_
                              rotate_left
                              · intro w'
                                go_simp
                                with_reducible rfl
                              rotate_left
                              · simp only [Act.put, List.setIfInBounds_toArray, List.set_cons_zero, List.set_cons_succ, i64_w, i32_w]
                                rfl
                              refine pure_ (i := 10) (N := some 58) (v := ?_) (a' := ?_) #[true, true, true, true, true, true, true, true, true, true, true, false, false, false, false, false, false, false, false, false, false, false, false, false, false, false, false, false, false, false, false, false, false, false, false, false, false] rfl rfl (any_of HT_.out (by kernel_rfl)) (fun _ _ _ h => h) (Or.inl ⟨by rfl, ?_⟩) ?_ ?_
                              rotate_left
                              · intro w'
                                go_simp
                                with_reducible rfl
                              rotate_left
                              · simp only [Act.put, List.setIfInBounds_toArray, List.set_cons_zero, List.set_cons_succ, i64_w, i32_w]
                                rfl
                              refine pure_ (i := 11) (N := some 59) (v := ?_) (a' := ?_) #[true, true, true, true, true, true, true, true, true, true, true, true, false, false, false, false, false, false, false, false, false, false, false, false, false, false, false, false, false, false, false, false, false, false, false, false, false] rfl rfl (any_of HT_.out (by kernel_rfl)) (fun _ _ _ h => h) (Or.inl ⟨by rfl, ?_⟩) ?_ ?_
                              rotate_left
                              · intro w'
                                go_simp
                                with_reducible rfl
                              rotate_left
                              · simp only [Act.put, List.setIfInBounds_toArray, List.set_cons_zero, List.set_cons_succ, i64_w, i32_w]
                                rfl
                              refine pure_ (i := 12) (N := some 60) (v := ?_) (a' := ?_) #[true, true, true, true, true, true, true, true, true, true, true, true, true, false, false, false, false, false, false, false, false, false, false, false, false, false, false, false, false, false, false, false, false, false, false, false, false] rfl rfl (any_of HT_.out (by kernel_rfl)) (fun _ _ _ h => h) (Or.inl ⟨by rfl, ?_⟩) ?_ ?_
                              rotate_left
                              · intro w'
                                go_simp
                                with_reducible rfl
                              rotate_left
                              · simp only [Act.put, List.setIfInBounds_toArray, List.set_cons_zero, List.set_cons_succ, i64_w, i32_w]
                                rfl
                              refine pure_ (i := 14) (N := some 62) (v := ?_) (a' := ?_) #[true, true, true, true, true, true, true, true, true, true, true, true, true, false, true, false, false, false, false, false, false, false, false, false, false, false, false, false, false, false, false, false, false, false, false, false, false] rfl rfl (any_of HT_.out (by kernel_rfl)) (fun _ _ _ h => h) (Or.inl ⟨by rfl, ?_⟩) ?_ ?_
                              rotate_left
                              · intro w'
                                go_simp
                                with_reducible rfl
                              rotate_left
                              · simp only [Act.put, List.setIfInBounds_toArray, List.set_cons_zero, List.set_cons_succ, i64_w, i32_w]
                                rfl
                              refine take_ (i := 13) (N := some 61) (v := ?_) (a' := ?_) #[true, true, true, true, true, true, true, true, true, true, true, true, true, true, true, false, false, false, false, false, false, false, false, false, false, false, false, false, false, false, false, false, false, false, false, false, false] rfl rfl (take_ofW HT_.out HW_.out (by kernel_rfl)) (fun _ _ _ h => h) (Or.inl ⟨by rfl, ?_⟩) hHeld ?_ ?_
                              rotate_left
                              · rintro w' ⟨s0, s1, s2, s3, s4, s5, s6, s7, s8, s9, s10, s11, s12, s13, s14, s15, s16, s17, s18, s19, s20, s21, s22, s23, s24, s25, s26⟩
                                go_simp
                                with_reducible rfl
                              rotate_left
                              · simp only [Act.put, List.setIfInBounds_toArray, List.set_cons_zero, List.set_cons_succ, i64_w, i32_w]
                                rfl
                              refine take_ (i := 15) (N := some 63) (v := ?_) (a' := ?_) #[true, true, true, true, true, true, true, true, true, true, true, true, true, true, true, true, false, false, false, false, false, false, false, false, false, false, false, false, false, false, false, false, false, false, false, false, false] rfl rfl (take_ofW HT_.out HW_.out (by kernel_rfl)) (fun _ _ _ h => h) (Or.inl ⟨by rfl, ?_⟩) hHeld ?_ ?_
                              rotate_left
                              · rintro w' ⟨s0, s1, s2, s3, s4, s5, s6, s7, s8, s9, s10, s11, s12, s13, s14, s15, s16, s17, s18, s19, s20, s21, s22, s23, s24, s25, s26⟩
                                go_simp
                                with_reducible rfl
                              rotate_left
                              · simp only [Act.put, List.setIfInBounds_toArray, List.set_cons_zero, List.set_cons_succ, i64_w, i32_w]
                                rfl
                              refine one_ (i := 16) (N := some 64) #[true, true, true, true, true, true, true, true, true, true, true, true, true, true, true, true, true, false, false, false, false, false, false, false, false, false, false, false, false, false, false, false, false, false, false, false, false] rfl rfl (one_of HT_.out (by kernel_rfl)) (by decide) (fun K hK => ?_)
                              refine goes_ Try.func33 (by kernel_rfl) rfl #[.agg #[.int .i64 ((rd_T54 t101 x9_2).f2.f0), .int .i64 ((rd_T54 t101 x9_2).f2.f1)], .int .i64 t105] (by rfl) rfl rfl (by (try simp only [List.map_toArray, List.map_cons, List.map_nil]); first | done | rfl | (simp only [List.length_drop, List.length_take]; rfl)) ?_
                              with_reducible refine (spec_NetHas.calls k2 ((rd_T54 t101 x9_2).f2.f0) ((rd_T54 t101 x9_2).f2.f1) t105 true _ A23.out).mono ?_
                              rintro e w31 ⟨rfl, hb⟩
                              have HS3_ := (hb.cell (World.block_lt_of_cell? _ _ (hHeld.2.2.2.1))).trans (hHeld.2.2.2.1)
                              have HS4_ := (hb.cell (World.block_lt_of_cell? _ _ (hHeld.2.2.2.2.1))).trans (hHeld.2.2.2.2.1)
                              have HS5_ := (hb.cell (World.block_lt_of_cell? _ _ (hHeld.2.2.2.2.2.1))).trans (hHeld.2.2.2.2.2.1)
                              have HS6_ := (hb.cell (World.block_lt_of_cell? _ _ (hHeld.2.2.2.2.2.2.1))).trans (hHeld.2.2.2.2.2.2.1)
                              have HS7_ := (hb.cell (World.block_lt_of_cell? _ _ (hHeld.2.2.2.2.2.2.2.1))).trans (hHeld.2.2.2.2.2.2.2.1)
                              have HS8_ := (hb.cell (World.block_lt_of_cell? _ _ (hHeld.2.2.2.2.2.2.2.2.1))).trans (hHeld.2.2.2.2.2.2.2.2.1)
                              have HS9_ := (hb.cell (World.block_lt_of_cell? _ _ (hHeld.2.2.2.2.2.2.2.2.2.1))).trans (hHeld.2.2.2.2.2.2.2.2.2.1)
                              have HS10_ := (hb.cell (World.block_lt_of_cell? _ _ (hHeld.2.2.2.2.2.2.2.2.2.2.1))).trans (hHeld.2.2.2.2.2.2.2.2.2.2.1)
                              have HS11_ := (hb.cell (World.block_lt_of_cell? _ _ (hHeld.2.2.2.2.2.2.2.2.2.2.2.1))).trans (hHeld.2.2.2.2.2.2.2.2.2.2.2.1)
                              have HS12_ := (hb.cell (World.block_lt_of_cell? _ _ (hHeld.2.2.2.2.2.2.2.2.2.2.2.2.1))).trans (hHeld.2.2.2.2.2.2.2.2.2.2.2.2.1)
                              have HS13_ := (hb.cell (World.block_lt_of_cell? _ _ (hHeld.2.2.2.2.2.2.2.2.2.2.2.2.2.1))).trans (hHeld.2.2.2.2.2.2.2.2.2.2.2.2.2.1)
                              have HS14_ := (hb.cell (World.block_lt_of_cell? _ _ (hHeld.2.2.2.2.2.2.2.2.2.2.2.2.2.2.1))).trans (hHeld.2.2.2.2.2.2.2.2.2.2.2.2.2.2.1)
                              have HS15_ := (hb.cell (World.block_lt_of_cell? _ _ (hHeld.2.2.2.2.2.2.2.2.2.2.2.2.2.2.2.1))).trans (hHeld.2.2.2.2.2.2.2.2.2.2.2.2.2.2.2.1)
                              have HS16_ := (hb.cell (World.block_lt_of_cell? _ _ (hHeld.2.2.2.2.2.2.2.2.2.2.2.2.2.2.2.2.1))).trans (hHeld.2.2.2.2.2.2.2.2.2.2.2.2.2.2.2.2.1)
                              have HS17_ := (hb.cell (World.block_lt_of_cell? _ _ (hHeld.2.2.2.2.2.2.2.2.2.2.2.2.2.2.2.2.2.1))).trans (hHeld.2.2.2.2.2.2.2.2.2.2.2.2.2.2.2.2.2.1)
                              have HS18_ := (hb.cell (World.block_lt_of_cell? _ _ (hHeld.2.2.2.2.2.2.2.2.2.2.2.2.2.2.2.2.2.2.1))).trans (hHeld.2.2.2.2.2.2.2.2.2.2.2.2.2.2.2.2.2.2.1)
                              have HS19_ := (hb.cell (World.block_lt_of_cell? _ _ (hHeld.2.2.2.2.2.2.2.2.2.2.2.2.2.2.2.2.2.2.2.1))).trans (hHeld.2.2.2.2.2.2.2.2.2.2.2.2.2.2.2.2.2.2.2.1)
                              have HS20_ := (hb.cell (World.block_lt_of_cell? _ _ (hHeld.2.2.2.2.2.2.2.2.2.2.2.2.2.2.2.2.2.2.2.2.1))).trans (hHeld.2.2.2.2.2.2.2.2.2.2.2.2.2.2.2.2.2.2.2.2.1)
                              have HS21_ := (hb.cell (World.block_lt_of_cell? _ _ (hHeld.2.2.2.2.2.2.2.2.2.2.2.2.2.2.2.2.2.2.2.2.2.1))).trans (hHeld.2.2.2.2.2.2.2.2.2.2.2.2.2.2.2.2.2.2.2.2.2.1)
                              have HS22_ := (hb.cell (World.block_lt_of_cell? _ _ (hHeld.2.2.2.2.2.2.2.2.2.2.2.2.2.2.2.2.2.2.2.2.2.2.1))).trans (hHeld.2.2.2.2.2.2.2.2.2.2.2.2.2.2.2.2.2.2.2.2.2.2.1)
                              have HS23_ := (hb.cell (World.block_lt_of_cell? _ _ (hHeld.2.2.2.2.2.2.2.2.2.2.2.2.2.2.2.2.2.2.2.2.2.2.2.1))).trans (hHeld.2.2.2.2.2.2.2.2.2.2.2.2.2.2.2.2.2.2.2.2.2.2.2.1)
                              have HS24_ := (hb.cell (World.block_lt_of_cell? _ _ (hHeld.2.2.2.2.2.2.2.2.2.2.2.2.2.2.2.2.2.2.2.2.2.2.2.2.1))).trans (hHeld.2.2.2.2.2.2.2.2.2.2.2.2.2.2.2.2.2.2.2.2.2.2.2.2.1)
                              have HS25_ := (hb.cell (World.block_lt_of_cell? _ _ (hHeld.2.2.2.2.2.2.2.2.2.2.2.2.2.2.2.2.2.2.2.2.2.2.2.2.2.1))).trans (hHeld.2.2.2.2.2.2.2.2.2.2.2.2.2.2.2.2.2.2.2.2.2.2.2.2.2.1)
                              have HS26_ := (hb.cell (World.block_lt_of_cell? _ _ (hHeld.2.2.2.2.2.2.2.2.2.2.2.2.2.2.2.2.2.2.2.2.2.2.2.2.2.2))).trans (hHeld.2.2.2.2.2.2.2.2.2.2.2.2.2.2.2.2.2.2.2.2.2.2.2.2.2.2)
                              refine ⟨_, rfl, ?_⟩
                              have n0_ := Aside0.mk (Kd.R_below (by (with_reducible repeat (first | apply Kd.R_alloc | apply Kd.R_drewN | apply Kd.R_drew)); exact HO_3.out) hb)
                              have n1_ := Aside0.mk (blk_below (g := gb107) (o := .cells #[.int .i64 t104, .int .i64 t105, .int .i64 t106] 34 (0, 0)) (by (with_reducible repeat (first | refine blk_drewN ?_ _ | refine blk_drew ?_ | refine blk_alloc ?_ _)); exact BK107.out) hb)
                              have n2_ := Aside0.mk (below_step (by repeat (first | (with_reducible first | exact HB.out | apply below_alloc | apply pw_below_drewN | apply below_drew1 | refine below_set ?_ GE107.out) | exact HB.out)) hb)
                              clear HO_3
                              clear BK107
                              clear HB
                              have HO_3 := n0_
                              have BK107 := n1_
                              have HB := n2_
                              clear n0_ n1_ n2_
                              (try clear hb)
                              (try clear hb2)
                              (try clear hk)
                              (try clear hi)
                              refine hK.out _ _ ⟨(blk_cell BK107.out 0).trans rfl, (blk_cell BK107.out 1).trans rfl, (blk_cell BK107.out 2).trans rfl, HS3_, HS4_, HS5_, HS6_, HS7_, HS8_, HS9_, HS10_, HS11_, HS12_, HS13_, HS14_, HS15_, HS16_, HS17_, HS18_, HS19_, HS20_, HS21_, HS22_, HS23_, HS24_, HS25_, HS26_⟩ (fun hHeld => ?_)
                              clear hK K
                              refine norm_ (a' := ?_) ?_ ?_
                              rotate_left
                              · show Act.put _ (some 64) _ = _
                                simp only [Act.put, List.setIfInBounds_toArray, List.set_cons_zero, List.set_cons_succ, i64_w, i32_w]
                                rfl
                              refine pure_ (i := 17) (N := some 65) (v := ?_) (a' := ?_) #[true, true, true, true, true, true, true, true, true, true, true, true, true, true, true, true, true, true, false, false, false, false, false, false, false, false, false, false, false, false, false, false, false, false, false, false, false] rfl rfl (any_of HT_.out (by kernel_rfl)) (fun _ _ _ h => h) (Or.inl ⟨by rfl, ?_⟩) ?_ ?_
                              rotate_left
                              · intro w'
                                go_simp
                                with_reducible rfl
                              rotate_left
                              · simp only [Act.put, List.setIfInBounds_toArray, List.set_cons_zero, List.set_cons_succ, i64_w, i32_w]
                                rfl
                              refine pure_ (i := 18) (N := some 66) (v := ?_) (a' := ?_) #[true, true, true, true, true, true, true, true, true, true, true, true, true, true, true, true, true, true, true, false, false, false, false, false, false, false, false, false, false, false, false, false, false, false, false, false, false] rfl rfl (any_of HT_.out (by kernel_rfl)) (fun _ _ _ h => h) (Or.inl ⟨by rfl, ?_⟩) ?_ ?_
                              rotate_left
                              · intro w'
                                go_simp
                                with_reducible rfl
                              rotate_left
                              · simp only [Act.put, List.setIfInBounds_toArray, List.set_cons_zero, List.set_cons_succ, i64_w, i32_w]
                                rfl
                              refine pure_ (i := 19) (N := some 67) (v := ?_) (a' := ?_) #[true, true, true, true, true, true, true, true, true, true, true, true, true, true, true, true, true, true, true, true, false, false, false, false, false, false, false, false, false, false, false, false, false, false, false, false, false] rfl rfl (any_of HT_.out (by kernel_rfl)) (fun _ _ _ h => h) (Or.inl ⟨by rfl, ?_⟩) ?_ ?_
                              rotate_left
                              · intro w'
                                go_simp
                                with_reducible rfl
                              rotate_left
                              · simp only [Act.put, List.setIfInBounds_toArray, List.set_cons_zero, List.set_cons_succ, i64_w, i32_w]
                                rfl
                              refine pure_ (i := 20) (N := some 68) (v := ?_) (a' := ?_) #[true, true, true, true, true, true, true, true, true, true, true, true, true, true, true, true, true, true, true, true, true, false, false, false, false, false, false, false, false, false, false, false, false, false, false, false, false] rfl rfl (any_of HT_.out (by kernel_rfl)) (fun _ _ _ h => h) (Or.inl ⟨by rfl, ?_⟩) ?_ ?_
                              rotate_left
                              · intro w'
                                go_simp
                                with_reducible rfl
                              rotate_left
                              · simp only [Act.put, List.setIfInBounds_toArray, List.set_cons_zero, List.set_cons_succ, i64_w, i32_w]
                                rfl
                              refine pure_ (i := 21) (N := some 69) (v := ?_) (a' := ?_) #[true, true, true, true, true, true, true, true, true, true, true, true, true, true, true, true, true, true, true, true, true, true, false, false, false, false, false, false, false, false, false, false, false, false, false, false, false] rfl rfl (any_of HT_.out (by kernel_rfl)) (fun _ _ _ h => h) (Or.inl ⟨by rfl, ?_⟩) ?_ ?_
                              rotate_left
                              · intro w'
                                go_simp
                                with_reducible rfl
                              rotate_left
                              · simp only [Act.put, List.setIfInBounds_toArray, List.set_cons_zero, List.set_cons_succ, i64_w, i32_w]
                                rfl
                              refine pure_ (i := 22) (N := some 70) (v := ?_) (a' := ?_) #[true, true, true, true, true, true, true, true, true, true, true, true, true, true, true, true, true, true, true, true, true, true, true, false, false, false, false, false, false, false, false, false, false, false, false, false, false] rfl rfl (any_of HT_.out (by kernel_rfl)) (fun _ _ _ h => h) (Or.inl ⟨by rfl, ?_⟩) ?_ ?_
                              rotate_left
                              · intro w'
                                go_simp
                                with_reducible rfl
                              rotate_left
                              · simp only [Act.put, List.setIfInBounds_toArray, List.set_cons_zero, List.set_cons_succ, i64_w, i32_w]
                                rfl
                              refine take_ (i := 23) (N := some 71) (v := ?_) (a' := ?_) #[true, true, true, true, true, true, true, true, true, true, true, true, true, true, true, true, true, true, true, true, true, true, true, true, false, false, false, false, false, false, false, false, false, false, false, false, false] rfl rfl (take_ofW HT_.out HW_.out (by kernel_rfl)) (fun _ _ _ h => h) (Or.inl ⟨by rfl, ?_⟩) hHeld ?_ ?_
                              rotate_left
                              · rintro w' ⟨s0, s1, s2, s3, s4, s5, s6, s7, s8, s9, s10, s11, s12, s13, s14, s15, s16, s17, s18, s19, s20, s21, s22, s23, s24, s25, s26⟩
                                go_simp
                                with_reducible rfl
                              rotate_left
                              · simp only [Act.put, List.setIfInBounds_toArray, List.set_cons_zero, List.set_cons_succ, i64_w, i32_w]
                                rfl
                              refine pure_ (i := 24) (N := some 72) (v := ?_) (a' := ?_) #[true, true, true, true, true, true, true, true, true, true, true, true, true, true, true, true, true, true, true, true, true, true, true, true, true, false, false, false, false, false, false, false, false, false, false, false, false] rfl rfl (any_of HT_.out (by kernel_rfl)) (fun _ _ _ h => h) (Or.inl ⟨by rfl, ?_⟩) ?_ ?_
                              rotate_left
                              · intro w'
                                go_simp
                                with_reducible rfl
                              rotate_left
                              · simp only [Act.put, List.setIfInBounds_toArray, List.set_cons_zero, List.set_cons_succ, i64_w, i32_w]
                                rfl
                              refine pure_ (i := 25) (N := some 73) (v := ?_) (a' := ?_) #[true, true, true, true, true, true, true, true, true, true, true, true, true, true, true, true, true, true, true, true, true, true, true, true, true, true, false, false, false, false, false, false, false, false, false, false, false] rfl rfl (any_of HT_.out (by kernel_rfl)) (fun _ _ _ h => h) (Or.inl ⟨by rfl, ?_⟩) ?_ ?_
                              rotate_left
                              · intro w'
                                go_simp
                                with_reducible rfl
                              rotate_left
                              · simp only [Act.put, List.setIfInBounds_toArray, List.set_cons_zero, List.set_cons_succ, i64_w, i32_w]
                                rfl
                              refine pure_ (i := 26) (N := some 74) (v := ?_) (a' := ?_) #[true, true, true, true, true, true, true, true, true, true, true, true, true, true, true, true, true, true, true, true, true, true, true, true, true, true, true, false, false, false, false, false, false, false, false, false, false] rfl rfl (any_of HT_.out (by kernel_rfl)) (fun _ _ _ h => h) (Or.inl ⟨by rfl, ?_⟩) ?_ ?_
                              rotate_left
                              · intro w'
                                go_simp
                                with_reducible rfl
                              rotate_left
                              · simp only [Act.put, List.setIfInBounds_toArray, List.set_cons_zero, List.set_cons_succ, i64_w, i32_w]
                                rfl
                              refine pure_ (i := 27) (N := some 75) (v := ?_) (a' := ?_) #[true, true, true, true, true, true, true, true, true, true, true, true, true, true, true, true, true, true, true, true, true, true, true, true, true, true, true, true, false, false, false, false, false, false, false, false, false] rfl rfl (any_of HT_.out (by kernel_rfl)) (fun _ _ _ h => h) (Or.inl ⟨by rfl, ?_⟩) ?_ ?_
                              rotate_left
                              · intro w'
                                go_simp
                                with_reducible rfl
                              rotate_left
                              · simp only [Act.put, List.setIfInBounds_toArray, List.set_cons_zero, List.set_cons_succ, i64_w, i32_w]
                                rfl
                              refine pure_ (i := 28) (N := some 76) (v := ?_) (a' := ?_) #[true, true, true, true, true, true, true, true, true, true, true, true, true, true, true, true, true, true, true, true, true, true, true, true, true, true, true, true, true, false, false, false, false, false, false, false, false] rfl rfl (any_of HT_.out (by kernel_rfl)) (fun _ _ _ h => h) (Or.inl ⟨by rfl, ?_⟩) ?_ ?_
                              rotate_left
                              · intro w'
                                go_simp
                                with_reducible rfl
                              rotate_left
                              · simp only [Act.put, List.setIfInBounds_toArray, List.set_cons_zero, List.set_cons_succ, i64_w, i32_w]
                                rfl
                              refine pure_ (i := 29) (N := some 77) (v := ?_) (a' := ?_) #[true, true, true, true, true, true, true, true, true, true, true, true, true, true, true, true, true, true, true, true, true, true, true, true, true, true, true, true, true, true, false, false, false, false, false, false, false] rfl rfl (any_of HT_.out (by kernel_rfl)) (fun _ _ _ h => h) (Or.inl ⟨by rfl, ?_⟩) ?_ ?_
                              rotate_left
                              · intro w'
                                go_simp
                                with_reducible rfl
                              rotate_left
                              · simp only [Act.put, List.setIfInBounds_toArray, List.set_cons_zero, List.set_cons_succ, i64_w, i32_w]
                                rfl
                              refine pure_ (i := 31) (N := some 79) (v := ?_) (a' := ?_) #[true, true, true, true, true, true, true, true, true, true, true, true, true, true, true, true, true, true, true, true, true, true, true, true, true, true, true, true, true, true, false, true, false, false, false, false, false] rfl rfl (any_of HT_.out (by kernel_rfl)) (fun _ _ _ h => h) (Or.inl ⟨by rfl, ?_⟩) ?_ ?_
                              rotate_left
                              · intro w'
                                go_simp
                                with_reducible rfl
                              rotate_left
                              · simp only [Act.put, List.setIfInBounds_toArray, List.set_cons_zero, List.set_cons_succ, i64_w, i32_w]
                                rfl
                              refine take_ (i := 30) (N := some 78) (v := ?_) (a' := ?_) #[true, true, true, true, true, true, true, true, true, true, true, true, true, true, true, true, true, true, true, true, true, true, true, true, true, true, true, true, true, true, true, true, false, false, false, false, false] rfl rfl (take_ofW HT_.out HW_.out (by kernel_rfl)) (fun _ _ _ h => h) (Or.inl ⟨by rfl, ?_⟩) hHeld ?_ ?_
                              rotate_left
                              · rintro w' ⟨s0, s1, s2, s3, s4, s5, s6, s7, s8, s9, s10, s11, s12, s13, s14, s15, s16, s17, s18, s19, s20, s21, s22, s23, s24, s25, s26⟩
                                go_simp
                                with_reducible rfl
                              rotate_left
                              · simp only [Act.put, List.setIfInBounds_toArray, List.set_cons_zero, List.set_cons_succ, i64_w, i32_w]
                                rfl
                              refine take_ (i := 32) (N := some 80) (v := ?_) (a' := ?_) #[true, true, true, true, true, true, true, true, true, true, true, true, true, true, true, true, true, true, true, true, true, true, true, true, true, true, true, true, true, true, true, true, true, false, false, false, false] rfl rfl (take_ofW HT_.out HW_.out (by kernel_rfl)) (fun _ _ _ h => h) (Or.inl ⟨by rfl, ?_⟩) hHeld ?_ ?_
                              rotate_left
                              · rintro w' ⟨s0, s1, s2, s3, s4, s5, s6, s7, s8, s9, s10, s11, s12, s13, s14, s15, s16, s17, s18, s19, s20, s21, s22, s23, s24, s25, s26⟩
                                go_simp
                                with_reducible rfl
                              rotate_left
                              · simp only [Act.put, List.setIfInBounds_toArray, List.set_cons_zero, List.set_cons_succ, i64_w, i32_w]
                                rfl
                              refine pure_ (i := 33) (N := some 81) (v := ?_) (a' := ?_) #[true, true, true, true, true, true, true, true, true, true, true, true, true, true, true, true, true, true, true, true, true, true, true, true, true, true, true, true, true, true, true, true, true, true, false, false, false] rfl rfl (any_of HT_.out (by kernel_rfl)) (fun _ _ _ h => h) (Or.inl ⟨by rfl, ?_⟩) ?_ ?_
                              rotate_left
                              · intro w'
                                go_simp
                                with_reducible rfl
                              rotate_left
                              · simp only [Act.put, List.setIfInBounds_toArray, List.set_cons_zero, List.set_cons_succ, i64_w, i32_w]
                                rfl
                              refine pure_ (i := 34) (N := some 82) (v := ?_) (a' := ?_) #[true, true, true, true, true, true, true, true, true, true, true, true, true, true, true, true, true, true, true, true, true, true, true, true, true, true, true, true, true, true, true, true, true, true, true, false, false] rfl rfl (any_of HT_.out (by kernel_rfl)) (fun _ _ _ h => h) (Or.inl ⟨by rfl, ?_⟩) ?_ ?_
                              rotate_left
                              · intro w'
                                go_simp
                                with_reducible rfl
                              rotate_left
                              · simp only [Act.put, List.setIfInBounds_toArray, List.set_cons_zero, List.set_cons_succ, i64_w, i32_w]
                                rfl
                              refine pure_ (i := 35) (N := some 83) (v := ?_) (a' := ?_) #[true, true, true, true, true, true, true, true, true, true, true, true, true, true, true, true, true, true, true, true, true, true, true, true, true, true, true, true, true, true, true, true, true, true, true, true, false] rfl rfl (any_of HT_.out (by kernel_rfl)) (fun _ _ _ h => h) (Or.inl ⟨by rfl, ?_⟩) ?_ ?_
                              rotate_left
                              · intro w'
                                go_simp
                                with_reducible rfl
                              rotate_left
                              · simp only [Act.put, List.setIfInBounds_toArray, List.set_cons_zero, List.set_cons_succ, i64_w, i32_w]
                                rfl
                              refine pure_ (i := 36) (N := some 10) (v := ?_) (a' := ?_) #[true, true, true, true, true, true, true, true, true, true, true, true, true, true, true, true, true, true, true, true, true, true, true, true, true, true, true, true, true, true, true, true, true, true, true, true, true] rfl rfl (any_of HT_.out (by kernel_rfl)) (fun _ _ _ h => h) (Or.inl ⟨by rfl, ?_⟩) ?_ ?_
                              rotate_left
                              · intro w'
                                go_simp
                                with_reducible rfl
                              rotate_left
                              · simp only [Act.put, List.setIfInBounds_toArray, List.set_cons_zero, List.set_cons_succ, i64_w, i32_w]
                                rfl
                              refine done_ (done_of HT_.out (by kernel_rfl)) ?_
                              try go_wp2
                              go_meet
                              case rel => exact ⟨_, ((((rd_T54 t101 x9_2).f3) == t106)), (by first | rfl | (simp; done) | (simp [*]; done)), H', ⟨by have := HJ5.out; have := HK2.out; first | omega | exact Nat.le_refl _⟩, ⟨by (with_reducible repeat (first | apply Kd.R_alloc | apply Kd.R_drewN | apply Kd.R_drew)); exact HO_3.out⟩, ⟨by (with_reducible repeat (first | refine blk_drewN ?_ _ | refine blk_drew ?_ | refine blk_alloc ?_ _)); exact BK107.out⟩, ⟨by repeat (first | (with_reducible first | exact HB.out | apply below_alloc | apply pw_below_drewN | apply below_drew1 | refine below_set ?_ GE107.out) | exact HB.out)⟩⟩
                          · replace c24 := Bool.eq_false_iff.mpr c24
                            subst c24
                            have H1 : (laws_FnAclSays.j2 k2 t101 t108 t109 x9_2 false t104 t105 t106) = some r := by rw [if_neg (show ¬ (false = true) by decide)] at H; exact H
                            clear H
                            have H := H1
                            clear H1
                            have H' := Aside0.mk H
                            clear H
                            try go_wp2
                            have n0_ := Aside0.mk (Kd.R_drew HO_3.out)
                            have n1_ := Aside0.mk (blk_drew BK107.out)
                            have n2_ := Aside0.mk (below_drew1 HB.out)
                            clear HO_3
                            clear BK107
                            clear HB
                            have HO_3 := n0_
                            have BK107 := n1_
                            have HB := n2_
                            clear n0_ n1_ n2_
                            have p113 : 0 ≤ (x9_2 : Int) := of_decide_eq_true (by first | (with_reducible assumption) | assumption)
                            have q113 : x9_2 < (t101.length : Int) := of_decide_eq_true (by first | (with_reducible assumption) | assumption)
                            obtain ⟨ad113, e113, hx113_0, hx113_1, hx113_2, hx113_3, hx113_4, hx113_5⟩ := at_T54 (Kd.R_reads' HO_3.out).2.2 x9_2 p113 q113
                            cases e113
                            replace p113 := eq_true p113
                            replace q113 := eq_true q113
                            have p115 : 0 ≤ (x9_2 : Int) := of_decide_eq_true (by first | (with_reducible assumption) | assumption)
                            have q115 : x9_2 < (t101.length : Int) := of_decide_eq_true (by first | (with_reducible assumption) | assumption)
                            obtain ⟨ad115, e115, hx115_0, hx115_1, hx115_2, hx115_3, hx115_4, hx115_5⟩ := at_T54 (Kd.R_reads' HO_3.out).2.2 x9_2 p115 q115
                            obtain rfl : ad113 = ad115 := (by injection e115)
                            replace p115 := eq_true p115
                            replace q115 := eq_true q115
                            refine start_ (n := 37) (S := fun w' => w'.cell? ⟨gb107, 0, none⟩ = some (.int .i64 t104) ∧ w'.cell? ⟨gb107, 1, none⟩ = some (.int .i64 t105) ∧ w'.cell? ⟨gb107, 2, none⟩ = some (.int .i64 t106) ∧ w'.cell? (ad113.add ((x9_2).toNat * 6)) = some (.bool ((rd_T54 t101 x9_2).f0)) ∧ w'.cell? ⟨(ad113.add ((x9_2).toNat * 6)).block, (ad113.add ((x9_2).toNat * 6)).off + 1, none⟩ = some (.int .i64 ((rd_T54 t101 x9_2).f1.f0)) ∧ w'.cell? ⟨(ad113.add ((x9_2).toNat * 6)).block, (ad113.add ((x9_2).toNat * 6)).off + 2, none⟩ = some (.int .i64 ((rd_T54 t101 x9_2).f1.f1)) ∧ w'.cell? ⟨(ad113.add ((x9_2).toNat * 6)).block, (ad113.add ((x9_2).toNat * 6)).off + 3, none⟩ = some (.int .i64 ((rd_T54 t101 x9_2).f2.f0)) ∧ w'.cell? ⟨(ad113.add ((x9_2).toNat * 6)).block, (ad113.add ((x9_2).toNat * 6)).off + 4, none⟩ = some (.int .i64 ((rd_T54 t101 x9_2).f2.f1)) ∧ w'.cell? ⟨(ad113.add ((x9_2).toNat * 6)).block, (ad113.add ((x9_2).toNat * 6)).off + 5, none⟩ = some (.int .i64 ((rd_T54 t101 x9_2).f3)) ∧ w'.cell? (ad113.add ((x9_2).toNat * 6)) = some (.bool ((rd_T54 t101 x9_2).f0)) ∧ w'.cell? ⟨(ad113.add ((x9_2).toNat * 6)).block, (ad113.add ((x9_2).toNat * 6)).off + 1, none⟩ = some (.int .i64 ((rd_T54 t101 x9_2).f1.f0)) ∧ w'.cell? ⟨(ad113.add ((x9_2).toNat * 6)).block, (ad113.add ((x9_2).toNat * 6)).off + 2, none⟩ = some (.int .i64 ((rd_T54 t101 x9_2).f1.f1)) ∧ w'.cell? ⟨(ad113.add ((x9_2).toNat * 6)).block, (ad113.add ((x9_2).toNat * 6)).off + 3, none⟩ = some (.int .i64 ((rd_T54 t101 x9_2).f2.f0)) ∧ w'.cell? ⟨(ad113.add ((x9_2).toNat * 6)).block, (ad113.add ((x9_2).toNat * 6)).off + 4, none⟩ = some (.int .i64 ((rd_T54 t101 x9_2).f2.f1)) ∧ w'.cell? ⟨(ad113.add ((x9_2).toNat * 6)).block, (ad113.add ((x9_2).toNat * 6)).off + 5, none⟩ = some (.int .i64 ((rd_T54 t101 x9_2).f3))) (ds := []) #[false, false, false, false, false, false, false, false, false, false, false, false, false, false, false, false, false, false, false, false, false, false, false, false, false, false, false, false, false, false, false, false, false, false, false, false, false] (by kernel_rfl) rfl rfl ⟨(blk_cell BK107.out 0).trans rfl, (blk_cell BK107.out 1).trans rfl, (blk_cell BK107.out 2).trans rfl, hx113_0, hx113_1, hx113_2, hx113_3, hx113_4, hx113_5, hx115_0, hx115_1, hx115_2, hx115_3, hx115_4, hx115_5⟩ (fun hHeld => ?_); refine with_tabW laws_FnAclSays.tab13 laws_FnAclSays.bits13 (fun HT_ HW_ => ?_)
                            generalize wr.drew = w32 at HO_3 BK107 HB hx113_0 hx113_1 hx113_2 hx113_3 hx113_4 hx113_5 hx115_0 hx115_1 hx115_2 hx115_3 hx115_4 hx115_5 hHeld ⊢
                            refine pure_ (i := 0) (N := some 48) (v := ?_) (a' := ?_) #[true, false, false, false, false, false, false, false, false, false, false, false, false, false, false, false, false, false, false, false, false, false, false, false, false, false, false, false, false, false, false, false, false, false, false, false, false] rfl rfl (any_of HT_.out (by kernel_rfl)) (fun _ _ _ h => h) (Or.inl ⟨by rfl, ?_⟩) ?_ ?_
                            rotate_left
                            · intro w'
                              go_simp
                              with_reducible rfl
                            rotate_left
                            · simp only [Act.put, List.setIfInBounds_toArray, List.set_cons_zero, List.set_cons_succ, i64_w, i32_w]
                              rfl
                            refine pure_ (i := 1) (N := some 49) (v := ?_) (a' := ?_) #[true, true, false, false, false, false, false, false, false, false, false, false, false, false, false, false, false, false, false, false, false, false, false, false, false, false, false, false, false, false, false, false, false, false, false, false, false] rfl rfl (any_of HT_.out (by kernel_rfl)) (fun _ _ _ h => h) (Or.inl ⟨by rfl, ?_⟩) ?_ ?_
                            rotate_left
                            · intro w'
                              go_simp
                              with_reducible rfl
                            rotate_left
                            · simp only [Act.put, List.setIfInBounds_toArray, List.set_cons_zero, List.set_cons_succ, i64_w, i32_w]
                              rfl
                            refine pure_ (i := 2) (N := some 50) (v := ?_) (a' := ?_) #[true, true, true, false, false, false, false, false, false, false, false, false, false, false, false, false, false, false, false, false, false, false, false, false, false, false, false, false, false, false, false, false, false, false, false, false, false] rfl rfl (any_of HT_.out (by kernel_rfl)) (fun _ _ _ h => h) (Or.inl ⟨by rfl, ?_⟩) ?_ ?_
                            rotate_left
                            · intro w'
                              go_simp
                              with_reducible rfl
                            rotate_left
                            · simp only [Act.put, List.setIfInBounds_toArray, List.set_cons_zero, List.set_cons_succ, i64_w, i32_w]
                              rfl
                            refine pure_ (i := 3) (N := some 51) (v := ?_) (a' := ?_) #[true, true, true, true, false, false, false, false, false, false, false, false, false, false, false, false, false, false, false, false, false, false, false, false, false, false, false, false, false, false, false, false, false, false, false, false, false] rfl rfl (any_of HT_.out (by kernel_rfl)) (fun _ _ _ h => h) (Or.inl ⟨by rfl, ?_⟩) ?_ ?_
                            rotate_left
                            · intro w'
                              go_simp
                              with_reducible rfl
                            rotate_left
                            · simp only [Act.put, List.setIfInBounds_toArray, List.set_cons_zero, List.set_cons_succ, i64_w, i32_w]
                              rfl
                            refine pure_ (i := 5) (N := some 53) (v := ?_) (a' := ?_) #[true, true, true, true, false, true, false, false, false, false, false, false, false, false, false, false, false, false, false, false, false, false, false, false, false, false, false, false, false, false, false, false, false, false, false, false, false] rfl rfl (any_of HT_.out (by kernel_rfl)) (fun _ _ _ h => h) (Or.inl ⟨by rfl, ?_⟩) ?_ ?_
                            rotate_left
                            · intro w'
                              go_simp
                              with_reducible rfl
                            rotate_left
                            · simp only [Act.put, List.setIfInBounds_toArray, List.set_cons_zero, List.set_cons_succ, i64_w, i32_w]
                              rfl
                            refine take_ (i := 4) (N := some 52) (v := ?_) (a' := ?_) #[true, true, true, true, true, true, false, false, false, false, false, false, false, false, false, false, false, false, false, false, false, false, false, false, false, false, false, false, false, false, false, false, false, false, false, false, false] rfl rfl (take_ofW HT_.out HW_.out (by kernel_rfl)) (fun _ _ _ h => h) (Or.inl ⟨by rfl, ?_⟩) hHeld ?_ ?_
                            rotate_left
                            · rintro w' ⟨s0, s1, s2, s3, s4, s5, s6, s7, s8, s9, s10, s11, s12, s13, s14⟩
                              go_simp
                              with_reducible rfl
                            rotate_left
                            · simp only [Act.put, List.setIfInBounds_toArray, List.set_cons_zero, List.set_cons_succ, i64_w, i32_w]
                              rfl
                            refine take_ (i := 6) (N := some 54) (v := ?_) (a' := ?_) #[true, true, true, true, true, true, true, false, false, false, false, false, false, false, false, false, false, false, false, false, false, false, false, false, false, false, false, false, false, false, false, false, false, false, false, false, false] rfl rfl (take_ofW HT_.out HW_.out (by kernel_rfl)) (fun _ _ _ h => h) (Or.inl ⟨by rfl, ?_⟩) hHeld ?_ ?_
                            rotate_left
                            · rintro w' ⟨s0, s1, s2, s3, s4, s5, s6, s7, s8, s9, s10, s11, s12, s13, s14⟩
                              go_simp
                              with_reducible rfl
                            rotate_left
                            · simp only [Act.put, List.setIfInBounds_toArray, List.set_cons_zero, List.set_cons_succ, i64_w, i32_w]
                              rfl
                            refine one_ (i := 7) (N := some 55) #[true, true, true, true, true, true, true, true, false, false, false, false, false, false, false, false, false, false, false, false, false, false, false, false, false, false, false, false, false, false, false, false, false, false, false, false, false] rfl rfl (one_of HT_.out (by kernel_rfl)) (by decide) (fun K hK => ?_)
                            refine goes_ Try.func33 (by kernel_rfl) rfl #[.agg #[.int .i64 ((rd_T54 t101 x9_2).f1.f0), .int .i64 ((rd_T54 t101 x9_2).f1.f1)], .int .i64 t104] (by rfl) rfl rfl (by (try simp only [List.map_toArray, List.map_cons, List.map_nil]); first | done | rfl | (simp only [List.length_drop, List.length_take]; rfl)) ?_
                            with_reducible refine (spec_NetHas.calls k2 ((rd_T54 t101 x9_2).f1.f0) ((rd_T54 t101 x9_2).f1.f1) t104 true _ A21.out).mono ?_
                            rintro e w33 ⟨rfl, hb⟩
                            have HS3_ := (hb.cell (World.block_lt_of_cell? _ _ (hHeld.2.2.2.1))).trans (hHeld.2.2.2.1)
                            have HS4_ := (hb.cell (World.block_lt_of_cell? _ _ (hHeld.2.2.2.2.1))).trans (hHeld.2.2.2.2.1)
                            have HS5_ := (hb.cell (World.block_lt_of_cell? _ _ (hHeld.2.2.2.2.2.1))).trans (hHeld.2.2.2.2.2.1)
                            have HS6_ := (hb.cell (World.block_lt_of_cell? _ _ (hHeld.2.2.2.2.2.2.1))).trans (hHeld.2.2.2.2.2.2.1)
                            have HS7_ := (hb.cell (World.block_lt_of_cell? _ _ (hHeld.2.2.2.2.2.2.2.1))).trans (hHeld.2.2.2.2.2.2.2.1)
                            have HS8_ := (hb.cell (World.block_lt_of_cell? _ _ (hHeld.2.2.2.2.2.2.2.2.1))).trans (hHeld.2.2.2.2.2.2.2.2.1)
                            have HS9_ := (hb.cell (World.block_lt_of_cell? _ _ (hHeld.2.2.2.2.2.2.2.2.2.1))).trans (hHeld.2.2.2.2.2.2.2.2.2.1)
                            have HS10_ := (hb.cell (World.block_lt_of_cell? _ _ (hHeld.2.2.2.2.2.2.2.2.2.2.1))).trans (hHeld.2.2.2.2.2.2.2.2.2.2.1)
                            have HS11_ := (hb.cell (World.block_lt_of_cell? _ _ (hHeld.2.2.2.2.2.2.2.2.2.2.2.1))).trans (hHeld.2.2.2.2.2.2.2.2.2.2.2.1)
                            have HS12_ := (hb.cell (World.block_lt_of_cell? _ _ (hHeld.2.2.2.2.2.2.2.2.2.2.2.2.1))).trans (hHeld.2.2.2.2.2.2.2.2.2.2.2.2.1)
                            have HS13_ := (hb.cell (World.block_lt_of_cell? _ _ (hHeld.2.2.2.2.2.2.2.2.2.2.2.2.2.1))).trans (hHeld.2.2.2.2.2.2.2.2.2.2.2.2.2.1)
                            have HS14_ := (hb.cell (World.block_lt_of_cell? _ _ (hHeld.2.2.2.2.2.2.2.2.2.2.2.2.2.2))).trans (hHeld.2.2.2.2.2.2.2.2.2.2.2.2.2.2)
                            refine ⟨_, rfl, ?_⟩
                            have n0_ := Aside0.mk (Kd.R_below (by (with_reducible repeat (first | apply Kd.R_alloc | apply Kd.R_drewN | apply Kd.R_drew)); exact HO_3.out) hb)
                            have n1_ := Aside0.mk (blk_below (g := gb107) (o := .cells #[.int .i64 t104, .int .i64 t105, .int .i64 t106] 34 (0, 0)) (by (with_reducible repeat (first | refine blk_drewN ?_ _ | refine blk_drew ?_ | refine blk_alloc ?_ _)); exact BK107.out) hb)
                            have n2_ := Aside0.mk (below_step (by repeat (first | (with_reducible first | exact HB.out | apply below_alloc | apply pw_below_drewN | apply below_drew1 | refine below_set ?_ GE107.out) | exact HB.out)) hb)
                            clear HO_3
                            clear BK107
                            clear HB
                            have HO_3 := n0_
                            have BK107 := n1_
                            have HB := n2_
                            clear n0_ n1_ n2_
                            (try clear hb)
                            (try clear hb2)
                            (try clear hk)
                            (try clear hi)
                            refine hK.out _ _ ⟨(blk_cell BK107.out 0).trans rfl, (blk_cell BK107.out 1).trans rfl, (blk_cell BK107.out 2).trans rfl, HS3_, HS4_, HS5_, HS6_, HS7_, HS8_, HS9_, HS10_, HS11_, HS12_, HS13_, HS14_⟩ (fun hHeld => ?_)
                            clear hK K
                            refine norm_ (a' := ?_) ?_ ?_
                            rotate_left
                            · show Act.put _ (some 55) _ = _
                              simp only [Act.put, List.setIfInBounds_toArray, List.set_cons_zero, List.set_cons_succ, i64_w, i32_w]
                              rfl
                            refine pure_ (i := 8) (N := some 56) (v := ?_) (a' := ?_) #[true, true, true, true, true, true, true, true, true, false, false, false, false, false, false, false, false, false, false, false, false, false, false, false, false, false, false, false, false, false, false, false, false, false, false, false, false] rfl rfl (any_of HT_.out (by kernel_rfl)) (fun _ _ _ h => h) (Or.inl ⟨by rfl, ?_⟩) ?_ ?_
                            rotate_left
                            · intro w'
                              go_simp
                              with_reducible rfl
                            rotate_left
                            · simp only [Act.put, List.setIfInBounds_toArray, List.set_cons_zero, List.set_cons_succ, i64_w, i32_w]
                              rfl
                            refine pure_ (i := 9) (N := some 57) (v := ?_) (a' := ?_) #[true, true, true, true, true, true, true, true, true, true, false, false, false, false, false, false, false, false, false, false, false, false, false, false, false, false, false, false, false, false, false, false, false, false, false, false, false] rfl rfl (any_of HT_.out (by kernel_rfl)) (fun _ _ _ h => h) (Or.inl ⟨by rfl, ?_⟩) ?_ ?_
                            rotate_left
                            · intro w'
                              go_simp
                              with_reducible rfl
                            rotate_left
                            · simp only [Act.put, List.setIfInBounds_toArray, List.set_cons_zero, List.set_cons_succ, i64_w, i32_w]
                              rfl
                            refine pure_ (i := 10) (N := some 58) (v := ?_) (a' := ?_) #[true, true, true, true, true, true, true, true, true, true, true, false, false, false, false, false, false, false, false, false, false, false, false, false, false, false, false, false, false, false, false, false, false, false, false, false, false] rfl rfl (any_of HT_.out (by kernel_rfl)) (fun _ _ _ h => h) (Or.inl ⟨by rfl, ?_⟩) ?_ ?_
                            rotate_left
                            · intro w'
                              go_simp
                              with_reducible rfl
                            rotate_left
                            · simp only [Act.put, List.setIfInBounds_toArray, List.set_cons_zero, List.set_cons_succ, i64_w, i32_w]
                              rfl
                            refine pure_ (i := 11) (N := some 59) (v := ?_) (a' := ?_) #[true, true, true, true, true, true, true, true, true, true, true, true, false, false, false, false, false, false, false, false, false, false, false, false, false, false, false, false, false, false, false, false, false, false, false, false, false] rfl rfl (any_of HT_.out (by kernel_rfl)) (fun _ _ _ h => h) (Or.inl ⟨by rfl, ?_⟩) ?_ ?_
                            rotate_left
                            · intro w'
                              go_simp
                              with_reducible rfl
                            rotate_left
                            · simp only [Act.put, List.setIfInBounds_toArray, List.set_cons_zero, List.set_cons_succ, i64_w, i32_w]
                              rfl
                            refine pure_ (i := 12) (N := some 60) (v := ?_) (a' := ?_) #[true, true, true, true, true, true, true, true, true, true, true, true, true, false, false, false, false, false, false, false, false, false, false, false, false, false, false, false, false, false, false, false, false, false, false, false, false] rfl rfl (any_of HT_.out (by kernel_rfl)) (fun _ _ _ h => h) (Or.inl ⟨by rfl, ?_⟩) ?_ ?_
                            rotate_left
                            · intro w'
                              go_simp
                              with_reducible rfl
                            rotate_left
                            · simp only [Act.put, List.setIfInBounds_toArray, List.set_cons_zero, List.set_cons_succ, i64_w, i32_w]
                              rfl
                            refine pure_ (i := 14) (N := some 62) (v := ?_) (a' := ?_) #[true, true, true, true, true, true, true, true, true, true, true, true, true, false, true, false, false, false, false, false, false, false, false, false, false, false, false, false, false, false, false, false, false, false, false, false, false] rfl rfl (any_of HT_.out (by kernel_rfl)) (fun _ _ _ h => h) (Or.inl ⟨by rfl, ?_⟩) ?_ ?_
                            rotate_left
                            · intro w'
                              go_simp
                              with_reducible rfl
                            rotate_left
                            · simp only [Act.put, List.setIfInBounds_toArray, List.set_cons_zero, List.set_cons_succ, i64_w, i32_w]
                              rfl
                            refine take_ (i := 13) (N := some 61) (v := ?_) (a' := ?_) #[true, true, true, true, true, true, true, true, true, true, true, true, true, true, true, false, false, false, false, false, false, false, false, false, false, false, false, false, false, false, false, false, false, false, false, false, false] rfl rfl (take_ofW HT_.out HW_.out (by kernel_rfl)) (fun _ _ _ h => h) (Or.inl ⟨by rfl, ?_⟩) hHeld ?_ ?_
                            rotate_left
                            · rintro w' ⟨s0, s1, s2, s3, s4, s5, s6, s7, s8, s9, s10, s11, s12, s13, s14⟩
                              go_simp
                              with_reducible rfl
                            rotate_left
                            · simp only [Act.put, List.setIfInBounds_toArray, List.set_cons_zero, List.set_cons_succ, i64_w, i32_w]
                              rfl
                            refine take_ (i := 15) (N := some 63) (v := ?_) (a' := ?_) #[true, true, true, true, true, true, true, true, true, true, true, true, true, true, true, true, false, false, false, false, false, false, false, false, false, false, false, false, false, false, false, false, false, false, false, false, false] rfl rfl (take_ofW HT_.out HW_.out (by kernel_rfl)) (fun _ _ _ h => h) (Or.inl ⟨by rfl, ?_⟩) hHeld ?_ ?_
                            rotate_left
                            · rintro w' ⟨s0, s1, s2, s3, s4, s5, s6, s7, s8, s9, s10, s11, s12, s13, s14⟩
                              go_simp
                              with_reducible rfl
                            rotate_left
                            · simp only [Act.put, List.setIfInBounds_toArray, List.set_cons_zero, List.set_cons_succ, i64_w, i32_w]
                              rfl
                            refine one_ (i := 16) (N := some 64) #[true, true, true, true, true, true, true, true, true, true, true, true, true, true, true, true, true, false, false, false, false, false, false, false, false, false, false, false, false, false, false, false, false, false, false, false, false] rfl rfl (one_of HT_.out (by kernel_rfl)) (by decide) (fun K hK => ?_)
                            refine goes_ Try.func33 (by kernel_rfl) rfl #[.agg #[.int .i64 ((rd_T54 t101 x9_2).f2.f0), .int .i64 ((rd_T54 t101 x9_2).f2.f1)], .int .i64 t105] (by rfl) rfl rfl (by (try simp only [List.map_toArray, List.map_cons, List.map_nil]); first | done | rfl | (simp only [List.length_drop, List.length_take]; rfl)) ?_
                            with_reducible refine (spec_NetHas.calls k2 ((rd_T54 t101 x9_2).f2.f0) ((rd_T54 t101 x9_2).f2.f1) t105 false _ A23.out).mono ?_
                            rintro e w34 ⟨rfl, hb⟩
                            have HS3_ := (hb.cell (World.block_lt_of_cell? _ _ (hHeld.2.2.2.1))).trans (hHeld.2.2.2.1)
                            have HS4_ := (hb.cell (World.block_lt_of_cell? _ _ (hHeld.2.2.2.2.1))).trans (hHeld.2.2.2.2.1)
                            have HS5_ := (hb.cell (World.block_lt_of_cell? _ _ (hHeld.2.2.2.2.2.1))).trans (hHeld.2.2.2.2.2.1)
                            have HS6_ := (hb.cell (World.block_lt_of_cell? _ _ (hHeld.2.2.2.2.2.2.1))).trans (hHeld.2.2.2.2.2.2.1)
                            have HS7_ := (hb.cell (World.block_lt_of_cell? _ _ (hHeld.2.2.2.2.2.2.2.1))).trans (hHeld.2.2.2.2.2.2.2.1)
                            have HS8_ := (hb.cell (World.block_lt_of_cell? _ _ (hHeld.2.2.2.2.2.2.2.2.1))).trans (hHeld.2.2.2.2.2.2.2.2.1)
                            have HS9_ := (hb.cell (World.block_lt_of_cell? _ _ (hHeld.2.2.2.2.2.2.2.2.2.1))).trans (hHeld.2.2.2.2.2.2.2.2.2.1)
                            have HS10_ := (hb.cell (World.block_lt_of_cell? _ _ (hHeld.2.2.2.2.2.2.2.2.2.2.1))).trans (hHeld.2.2.2.2.2.2.2.2.2.2.1)
                            have HS11_ := (hb.cell (World.block_lt_of_cell? _ _ (hHeld.2.2.2.2.2.2.2.2.2.2.2.1))).trans (hHeld.2.2.2.2.2.2.2.2.2.2.2.1)
                            have HS12_ := (hb.cell (World.block_lt_of_cell? _ _ (hHeld.2.2.2.2.2.2.2.2.2.2.2.2.1))).trans (hHeld.2.2.2.2.2.2.2.2.2.2.2.2.1)
                            have HS13_ := (hb.cell (World.block_lt_of_cell? _ _ (hHeld.2.2.2.2.2.2.2.2.2.2.2.2.2.1))).trans (hHeld.2.2.2.2.2.2.2.2.2.2.2.2.2.1)
                            have HS14_ := (hb.cell (World.block_lt_of_cell? _ _ (hHeld.2.2.2.2.2.2.2.2.2.2.2.2.2.2))).trans (hHeld.2.2.2.2.2.2.2.2.2.2.2.2.2.2)
                            refine ⟨_, rfl, ?_⟩
                            have n0_ := Aside0.mk (Kd.R_below (by (with_reducible repeat (first | apply Kd.R_alloc | apply Kd.R_drewN | apply Kd.R_drew)); exact HO_3.out) hb)
                            have n1_ := Aside0.mk (blk_below (g := gb107) (o := .cells #[.int .i64 t104, .int .i64 t105, .int .i64 t106] 34 (0, 0)) (by (with_reducible repeat (first | refine blk_drewN ?_ _ | refine blk_drew ?_ | refine blk_alloc ?_ _)); exact BK107.out) hb)
                            have n2_ := Aside0.mk (below_step (by repeat (first | (with_reducible first | exact HB.out | apply below_alloc | apply pw_below_drewN | apply below_drew1 | refine below_set ?_ GE107.out) | exact HB.out)) hb)
                            clear HO_3
                            clear BK107
                            clear HB
                            have HO_3 := n0_
                            have BK107 := n1_
                            have HB := n2_
                            clear n0_ n1_ n2_
                            (try clear hb)
                            (try clear hb2)
                            (try clear hk)
                            (try clear hi)
                            refine hK.out _ _ ⟨(blk_cell BK107.out 0).trans rfl, (blk_cell BK107.out 1).trans rfl, (blk_cell BK107.out 2).trans rfl, HS3_, HS4_, HS5_, HS6_, HS7_, HS8_, HS9_, HS10_, HS11_, HS12_, HS13_, HS14_⟩ (fun hHeld => ?_)
                            clear hK K
                            refine norm_ (a' := ?_) ?_ ?_
                            rotate_left
                            · show Act.put _ (some 64) _ = _
                              simp only [Act.put, List.setIfInBounds_toArray, List.set_cons_zero, List.set_cons_succ, i64_w, i32_w]
                              rfl
                            refine pure_ (i := 17) (N := some 65) (v := ?_) (a' := ?_) #[true, true, true, true, true, true, true, true, true, true, true, true, true, true, true, true, true, true, false, false, false, false, false, false, false, false, false, false, false, false, false, false, false, false, false, false, false] rfl rfl (any_of HT_.out (by kernel_rfl)) (fun _ _ _ h => h) (Or.inl ⟨by rfl, ?_⟩) ?_ ?_
                            rotate_left
                            · intro w'
                              go_simp
                              with_reducible rfl
                            rotate_left
                            · simp only [Act.put, List.setIfInBounds_toArray, List.set_cons_zero, List.set_cons_succ, i64_w, i32_w]
                              rfl
                            refine pure_ (i := 18) (N := some 66) (v := ?_) (a' := ?_) #[true, true, true, true, true, true, true, true, true, true, true, true, true, true, true, true, true, true, true, false, false, false, false, false, false, false, false, false, false, false, false, false, false, false, false, false, false] rfl rfl (any_of HT_.out (by kernel_rfl)) (fun _ _ _ h => h) (Or.inl ⟨by rfl, ?_⟩) ?_ ?_
                            rotate_left
                            · intro w'
                              go_simp
                              with_reducible rfl
                            rotate_left
                            · simp only [Act.put, List.setIfInBounds_toArray, List.set_cons_zero, List.set_cons_succ, i64_w, i32_w]
                              rfl
                            refine pure_ (i := 19) (N := some 67) (v := undef) (a' := ?_) #[true, true, true, true, true, true, true, true, true, true, true, true, true, true, true, true, true, true, true, true, false, false, false, false, false, false, false, false, false, false, false, false, false, false, false, false, false] rfl rfl (any_of HT_.out (by kernel_rfl)) (fun _ _ _ h => h) (Or.inr ⟨by rfl, rfl⟩) ?_ ?_
                            rotate_left
                            · simp only [Act.put, List.setIfInBounds_toArray, List.set_cons_zero, List.set_cons_succ, i64_w, i32_w]
                              rfl
                            refine pure_ (i := 20) (N := some 68) (v := undef) (a' := ?_) #[true, true, true, true, true, true, true, true, true, true, true, true, true, true, true, true, true, true, true, true, true, false, false, false, false, false, false, false, false, false, false, false, false, false, false, false, false] rfl rfl (any_of HT_.out (by kernel_rfl)) (fun _ _ _ h => h) (Or.inr ⟨by rfl, rfl⟩) ?_ ?_
                            rotate_left
                            · simp only [Act.put, List.setIfInBounds_toArray, List.set_cons_zero, List.set_cons_succ, i64_w, i32_w]
                              rfl
                            refine pure_ (i := 21) (N := some 69) (v := undef) (a' := ?_) #[true, true, true, true, true, true, true, true, true, true, true, true, true, true, true, true, true, true, true, true, true, true, false, false, false, false, false, false, false, false, false, false, false, false, false, false, false] rfl rfl (any_of HT_.out (by kernel_rfl)) (fun _ _ _ h => h) (Or.inr ⟨by rfl, rfl⟩) ?_ ?_
                            rotate_left
                            · simp only [Act.put, List.setIfInBounds_toArray, List.set_cons_zero, List.set_cons_succ, i64_w, i32_w]
                              rfl
                            refine pure_ (i := 22) (N := some 70) (v := undef) (a' := ?_) #[true, true, true, true, true, true, true, true, true, true, true, true, true, true, true, true, true, true, true, true, true, true, true, false, false, false, false, false, false, false, false, false, false, false, false, false, false] rfl rfl (any_of HT_.out (by kernel_rfl)) (fun _ _ _ h => h) (Or.inr ⟨by rfl, rfl⟩) ?_ ?_
                            rotate_left
                            · simp only [Act.put, List.setIfInBounds_toArray, List.set_cons_zero, List.set_cons_succ, i64_w, i32_w]
                              rfl
                            refine pure_ (i := 23) (N := some 71) (v := undef) (a' := ?_) #[true, true, true, true, true, true, true, true, true, true, true, true, true, true, true, true, true, true, true, true, true, true, true, true, false, false, false, false, false, false, false, false, false, false, false, false, false] rfl rfl (any_of HT_.out (by kernel_rfl)) (fun _ _ _ h => h) (Or.inr ⟨by rfl, rfl⟩) ?_ ?_
                            rotate_left
                            · simp only [Act.put, List.setIfInBounds_toArray, List.set_cons_zero, List.set_cons_succ, i64_w, i32_w]
                              rfl
                            refine pure_ (i := 24) (N := some 72) (v := undef) (a' := ?_) #[true, true, true, true, true, true, true, true, true, true, true, true, true, true, true, true, true, true, true, true, true, true, true, true, true, false, false, false, false, false, false, false, false, false, false, false, false] rfl rfl (any_of HT_.out (by kernel_rfl)) (fun _ _ _ h => h) (Or.inr ⟨by rfl, rfl⟩) ?_ ?_
                            rotate_left
                            · simp only [Act.put, List.setIfInBounds_toArray, List.set_cons_zero, List.set_cons_succ, i64_w, i32_w]
                              rfl
                            refine pure_ (i := 25) (N := some 73) (v := undef) (a' := ?_) #[true, true, true, true, true, true, true, true, true, true, true, true, true, true, true, true, true, true, true, true, true, true, true, true, true, true, false, false, false, false, false, false, false, false, false, false, false] rfl rfl (any_of HT_.out (by kernel_rfl)) (fun _ _ _ h => h) (Or.inr ⟨by rfl, rfl⟩) ?_ ?_
                            rotate_left
                            · simp only [Act.put, List.setIfInBounds_toArray, List.set_cons_zero, List.set_cons_succ, i64_w, i32_w]
                              rfl
                            refine pure_ (i := 26) (N := some 74) (v := undef) (a' := ?_) #[true, true, true, true, true, true, true, true, true, true, true, true, true, true, true, true, true, true, true, true, true, true, true, true, true, true, true, false, false, false, false, false, false, false, false, false, false] rfl rfl (any_of HT_.out (by kernel_rfl)) (fun _ _ _ h => h) (Or.inr ⟨by rfl, rfl⟩) ?_ ?_
                            rotate_left
                            · simp only [Act.put, List.setIfInBounds_toArray, List.set_cons_zero, List.set_cons_succ, i64_w, i32_w]
                              rfl
                            refine pure_ (i := 27) (N := some 75) (v := undef) (a' := ?_) #[true, true, true, true, true, true, true, true, true, true, true, true, true, true, true, true, true, true, true, true, true, true, true, true, true, true, true, true, false, false, false, false, false, false, false, false, false] rfl rfl (any_of HT_.out (by kernel_rfl)) (fun _ _ _ h => h) (Or.inr ⟨by rfl, rfl⟩) ?_ ?_
                            rotate_left
                            · simp only [Act.put, List.setIfInBounds_toArray, List.set_cons_zero, List.set_cons_succ, i64_w, i32_w]
                              rfl
                            refine pure_ (i := 28) (N := some 76) (v := undef) (a' := ?_) #[true, true, true, true, true, true, true, true, true, true, true, true, true, true, true, true, true, true, true, true, true, true, true, true, true, true, true, true, true, false, false, false, false, false, false, false, false] rfl rfl (any_of HT_.out (by kernel_rfl)) (fun _ _ _ h => h) (Or.inr ⟨by rfl, rfl⟩) ?_ ?_
                            rotate_left
                            · simp only [Act.put, List.setIfInBounds_toArray, List.set_cons_zero, List.set_cons_succ, i64_w, i32_w]
                              rfl
                            refine pure_ (i := 29) (N := some 77) (v := undef) (a' := ?_) #[true, true, true, true, true, true, true, true, true, true, true, true, true, true, true, true, true, true, true, true, true, true, true, true, true, true, true, true, true, true, false, false, false, false, false, false, false] rfl rfl (any_of HT_.out (by kernel_rfl)) (fun _ _ _ h => h) (Or.inr ⟨by rfl, rfl⟩) ?_ ?_
                            rotate_left
                            · simp only [Act.put, List.setIfInBounds_toArray, List.set_cons_zero, List.set_cons_succ, i64_w, i32_w]
                              rfl
                            refine pure_ (i := 30) (N := some 78) (v := undef) (a' := ?_) #[true, true, true, true, true, true, true, true, true, true, true, true, true, true, true, true, true, true, true, true, true, true, true, true, true, true, true, true, true, true, true, false, false, false, false, false, false] rfl rfl (any_of HT_.out (by kernel_rfl)) (fun _ _ _ h => h) (Or.inr ⟨by rfl, rfl⟩) ?_ ?_
                            rotate_left
                            · simp only [Act.put, List.setIfInBounds_toArray, List.set_cons_zero, List.set_cons_succ, i64_w, i32_w]
                              rfl
                            refine pure_ (i := 31) (N := some 79) (v := undef) (a' := ?_) #[true, true, true, true, true, true, true, true, true, true, true, true, true, true, true, true, true, true, true, true, true, true, true, true, true, true, true, true, true, true, true, true, false, false, false, false, false] rfl rfl (any_of HT_.out (by kernel_rfl)) (fun _ _ _ h => h) (Or.inr ⟨by rfl, rfl⟩) ?_ ?_
                            rotate_left
                            · simp only [Act.put, List.setIfInBounds_toArray, List.set_cons_zero, List.set_cons_succ, i64_w, i32_w]
                              rfl
                            refine pure_ (i := 32) (N := some 80) (v := undef) (a' := ?_) #[true, true, true, true, true, true, true, true, true, true, true, true, true, true, true, true, true, true, true, true, true, true, true, true, true, true, true, true, true, true, true, true, true, false, false, false, false] rfl rfl (any_of HT_.out (by kernel_rfl)) (fun _ _ _ h => h) (Or.inr ⟨by rfl, rfl⟩) ?_ ?_
                            rotate_left
                            · simp only [Act.put, List.setIfInBounds_toArray, List.set_cons_zero, List.set_cons_succ, i64_w, i32_w]
                              rfl
                            refine pure_ (i := 33) (N := some 81) (v := undef) (a' := ?_) #[true, true, true, true, true, true, true, true, true, true, true, true, true, true, true, true, true, true, true, true, true, true, true, true, true, true, true, true, true, true, true, true, true, true, false, false, false] rfl rfl (any_of HT_.out (by kernel_rfl)) (fun _ _ _ h => h) (Or.inr ⟨by rfl, rfl⟩) ?_ ?_
                            rotate_left
                            · simp only [Act.put, List.setIfInBounds_toArray, List.set_cons_zero, List.set_cons_succ, i64_w, i32_w]
                              rfl
                            refine pure_ (i := 34) (N := some 82) (v := undef) (a' := ?_) #[true, true, true, true, true, true, true, true, true, true, true, true, true, true, true, true, true, true, true, true, true, true, true, true, true, true, true, true, true, true, true, true, true, true, true, false, false] rfl rfl (any_of HT_.out (by kernel_rfl)) (fun _ _ _ h => h) (Or.inr ⟨by rfl, rfl⟩) ?_ ?_
                            rotate_left
                            · simp only [Act.put, List.setIfInBounds_toArray, List.set_cons_zero, List.set_cons_succ, i64_w, i32_w]
                              rfl
                            refine pure_ (i := 35) (N := some 83) (v := ?_) (a' := ?_) #[true, true, true, true, true, true, true, true, true, true, true, true, true, true, true, true, true, true, true, true, true, true, true, true, true, true, true, true, true, true, true, true, true, true, true, true, false] rfl rfl (any_of HT_.out (by kernel_rfl)) (fun _ _ _ h => h) (Or.inl ⟨by rfl, ?_⟩) ?_ ?_
                            rotate_left
                            · intro w'
                              go_simp
                              with_reducible rfl
                            rotate_left
                            · simp only [Act.put, List.setIfInBounds_toArray, List.set_cons_zero, List.set_cons_succ, i64_w, i32_w]
                              rfl
                            refine pure_ (i := 36) (N := some 10) (v := ?_) (a' := ?_) #[true, true, true, true, true, true, true, true, true, true, true, true, true, true, true, true, true, true, true, true, true, true, true, true, true, true, true, true, true, true, true, true, true, true, true, true, true] rfl rfl (any_of HT_.out (by kernel_rfl)) (fun _ _ _ h => h) (Or.inl ⟨by rfl, ?_⟩) ?_ ?_
                            rotate_left
                            · intro w'
                              go_simp
                              with_reducible rfl
                            rotate_left
                            · simp only [Act.put, List.setIfInBounds_toArray, List.set_cons_zero, List.set_cons_succ, i64_w, i32_w]
                              rfl
                            refine done_ (done_of HT_.out (by kernel_rfl)) ?_
                            try go_wp2
                            go_meet
                            case rel => exact ⟨_, (false), (by first | rfl | (simp; done) | (simp [*]; done)), H', ⟨by have := HJ5.out; have := HK2.out; first | omega | exact Nat.le_refl _⟩, ⟨by (with_reducible repeat (first | apply Kd.R_alloc | apply Kd.R_drewN | apply Kd.R_drew)); exact HO_3.out⟩, ⟨by (with_reducible repeat (first | refine blk_drewN ?_ _ | refine blk_drew ?_ | refine blk_alloc ?_ _)); exact BK107.out⟩, ⟨by repeat (first | (with_reducible first | exact HB.out | apply below_alloc | apply pw_below_drewN | apply below_drew1 | refine below_set ?_ GE107.out) | exact HB.out)⟩⟩
                        · replace c22 := Bool.eq_false_iff.mpr c22
                          subst c22
                          have H1 : (laws_FnAclSays.j2 k2 t101 t108 t109 x9_2 false t104 t105 t106) = some r := by rw [if_neg (show ¬ (false = true) by decide)] at H; exact H
                          clear H
                          have H := H1
                          clear H1
                          have H' := Aside0.mk H
                          clear H
                          try go_wp2
                          have n0_ := Aside0.mk (Kd.R_drew HO_3.out)
                          have n1_ := Aside0.mk (blk_drew BK107.out)
                          have n2_ := Aside0.mk (below_drew1 HB.out)
                          clear HO_3
                          clear BK107
                          clear HB
                          have HO_3 := n0_
                          have BK107 := n1_
                          have HB := n2_
                          clear n0_ n1_ n2_
                          have p113 : 0 ≤ (x9_2 : Int) := of_decide_eq_true (by first | (with_reducible assumption) | assumption)
                          have q113 : x9_2 < (t101.length : Int) := of_decide_eq_true (by first | (with_reducible assumption) | assumption)
                          obtain ⟨ad113, e113, hx113_0, hx113_1, hx113_2, hx113_3, hx113_4, hx113_5⟩ := at_T54 (Kd.R_reads' HO_3.out).2.2 x9_2 p113 q113
                          cases e113
                          replace p113 := eq_true p113
                          replace q113 := eq_true q113
                          refine start_ (n := 37) (S := fun w' => w'.cell? ⟨gb107, 0, none⟩ = some (.int .i64 t104) ∧ w'.cell? ⟨gb107, 1, none⟩ = some (.int .i64 t105) ∧ w'.cell? ⟨gb107, 2, none⟩ = some (.int .i64 t106) ∧ w'.cell? (ad113.add ((x9_2).toNat * 6)) = some (.bool ((rd_T54 t101 x9_2).f0)) ∧ w'.cell? ⟨(ad113.add ((x9_2).toNat * 6)).block, (ad113.add ((x9_2).toNat * 6)).off + 1, none⟩ = some (.int .i64 ((rd_T54 t101 x9_2).f1.f0)) ∧ w'.cell? ⟨(ad113.add ((x9_2).toNat * 6)).block, (ad113.add ((x9_2).toNat * 6)).off + 2, none⟩ = some (.int .i64 ((rd_T54 t101 x9_2).f1.f1)) ∧ w'.cell? ⟨(ad113.add ((x9_2).toNat * 6)).block, (ad113.add ((x9_2).toNat * 6)).off + 3, none⟩ = some (.int .i64 ((rd_T54 t101 x9_2).f2.f0)) ∧ w'.cell? ⟨(ad113.add ((x9_2).toNat * 6)).block, (ad113.add ((x9_2).toNat * 6)).off + 4, none⟩ = some (.int .i64 ((rd_T54 t101 x9_2).f2.f1)) ∧ w'.cell? ⟨(ad113.add ((x9_2).toNat * 6)).block, (ad113.add ((x9_2).toNat * 6)).off + 5, none⟩ = some (.int .i64 ((rd_T54 t101 x9_2).f3))) (ds := []) #[false, false, false, false, false, false, false, false, false, false, false, false, false, false, false, false, false, false, false, false, false, false, false, false, false, false, false, false, false, false, false, false, false, false, false, false, false] (by kernel_rfl) rfl rfl ⟨(blk_cell BK107.out 0).trans rfl, (blk_cell BK107.out 1).trans rfl, (blk_cell BK107.out 2).trans rfl, hx113_0, hx113_1, hx113_2, hx113_3, hx113_4, hx113_5⟩ (fun hHeld => ?_); refine with_tabW laws_FnAclSays.tab13 laws_FnAclSays.bits13 (fun HT_ HW_ => ?_)
                          generalize wr.drew = w35 at HO_3 BK107 HB hx113_0 hx113_1 hx113_2 hx113_3 hx113_4 hx113_5 hHeld ⊢
                          refine pure_ (i := 0) (N := some 48) (v := ?_) (a' := ?_) #[true, false, false, false, false, false, false, false, false, false, false, false, false, false, false, false, false, false, false, false, false, false, false, false, false, false, false, false, false, false, false, false, false, false, false, false, false] rfl rfl (any_of HT_.out (by kernel_rfl)) (fun _ _ _ h => h) (Or.inl ⟨by rfl, ?_⟩) ?_ ?_
                          rotate_left
                          · intro w'
                            go_simp
                            with_reducible rfl
                          rotate_left
                          · simp only [Act.put, List.setIfInBounds_toArray, List.set_cons_zero, List.set_cons_succ, i64_w, i32_w]
                            rfl
                          refine pure_ (i := 1) (N := some 49) (v := ?_) (a' := ?_) #[true, true, false, false, false, false, false, false, false, false, false, false, false, false, false, false, false, false, false, false, false, false, false, false, false, false, false, false, false, false, false, false, false, false, false, false, false] rfl rfl (any_of HT_.out (by kernel_rfl)) (fun _ _ _ h => h) (Or.inl ⟨by rfl, ?_⟩) ?_ ?_
                          rotate_left
                          · intro w'
                            go_simp
                            with_reducible rfl
                          rotate_left
                          · simp only [Act.put, List.setIfInBounds_toArray, List.set_cons_zero, List.set_cons_succ, i64_w, i32_w]
                            rfl
                          refine pure_ (i := 2) (N := some 50) (v := ?_) (a' := ?_) #[true, true, true, false, false, false, false, false, false, false, false, false, false, false, false, false, false, false, false, false, false, false, false, false, false, false, false, false, false, false, false, false, false, false, false, false, false] rfl rfl (any_of HT_.out (by kernel_rfl)) (fun _ _ _ h => h) (Or.inl ⟨by rfl, ?_⟩) ?_ ?_
                          rotate_left
                          · intro w'
                            go_simp
                            with_reducible rfl
                          rotate_left
                          · simp only [Act.put, List.setIfInBounds_toArray, List.set_cons_zero, List.set_cons_succ, i64_w, i32_w]
                            rfl
                          refine pure_ (i := 3) (N := some 51) (v := ?_) (a' := ?_) #[true, true, true, true, false, false, false, false, false, false, false, false, false, false, false, false, false, false, false, false, false, false, false, false, false, false, false, false, false, false, false, false, false, false, false, false, false] rfl rfl (any_of HT_.out (by kernel_rfl)) (fun _ _ _ h => h) (Or.inl ⟨by rfl, ?_⟩) ?_ ?_
                          rotate_left
                          · intro w'
                            go_simp
                            with_reducible rfl
                          rotate_left
                          · simp only [Act.put, List.setIfInBounds_toArray, List.set_cons_zero, List.set_cons_succ, i64_w, i32_w]
                            rfl
                          refine pure_ (i := 5) (N := some 53) (v := ?_) (a' := ?_) #[true, true, true, true, false, true, false, false, false, false, false, false, false, false, false, false, false, false, false, false, false, false, false, false, false, false, false, false, false, false, false, false, false, false, false, false, false] rfl rfl (any_of HT_.out (by kernel_rfl)) (fun _ _ _ h => h) (Or.inl ⟨by rfl, ?_⟩) ?_ ?_
                          rotate_left
                          · intro w'
                            go_simp
                            with_reducible rfl
                          rotate_left
                          · simp only [Act.put, List.setIfInBounds_toArray, List.set_cons_zero, List.set_cons_succ, i64_w, i32_w]
                            rfl
                          refine take_ (i := 4) (N := some 52) (v := ?_) (a' := ?_) #[true, true, true, true, true, true, false, false, false, false, false, false, false, false, false, false, false, false, false, false, false, false, false, false, false, false, false, false, false, false, false, false, false, false, false, false, false] rfl rfl (take_ofW HT_.out HW_.out (by kernel_rfl)) (fun _ _ _ h => h) (Or.inl ⟨by rfl, ?_⟩) hHeld ?_ ?_
                          rotate_left
                          · rintro w' ⟨s0, s1, s2, s3, s4, s5, s6, s7, s8⟩
                            go_simp
                            with_reducible rfl
                          rotate_left
                          · simp only [Act.put, List.setIfInBounds_toArray, List.set_cons_zero, List.set_cons_succ, i64_w, i32_w]
                            rfl
                          refine take_ (i := 6) (N := some 54) (v := ?_) (a' := ?_) #[true, true, true, true, true, true, true, false, false, false, false, false, false, false, false, false, false, false, false, false, false, false, false, false, false, false, false, false, false, false, false, false, false, false, false, false, false] rfl rfl (take_ofW HT_.out HW_.out (by kernel_rfl)) (fun _ _ _ h => h) (Or.inl ⟨by rfl, ?_⟩) hHeld ?_ ?_
                          rotate_left
                          · rintro w' ⟨s0, s1, s2, s3, s4, s5, s6, s7, s8⟩
                            go_simp
                            with_reducible rfl
                          rotate_left
                          · simp only [Act.put, List.setIfInBounds_toArray, List.set_cons_zero, List.set_cons_succ, i64_w, i32_w]
                            rfl
                          refine one_ (i := 7) (N := some 55) #[true, true, true, true, true, true, true, true, false, false, false, false, false, false, false, false, false, false, false, false, false, false, false, false, false, false, false, false, false, false, false, false, false, false, false, false, false] rfl rfl (one_of HT_.out (by kernel_rfl)) (by decide) (fun K hK => ?_)
                          refine goes_ Try.func33 (by kernel_rfl) rfl #[.agg #[.int .i64 ((rd_T54 t101 x9_2).f1.f0), .int .i64 ((rd_T54 t101 x9_2).f1.f1)], .int .i64 t104] (by rfl) rfl rfl (by (try simp only [List.map_toArray, List.map_cons, List.map_nil]); first | done | rfl | (simp only [List.length_drop, List.length_take]; rfl)) ?_
                          with_reducible refine (spec_NetHas.calls k2 ((rd_T54 t101 x9_2).f1.f0) ((rd_T54 t101 x9_2).f1.f1) t104 false _ A21.out).mono ?_
                          rintro e w36 ⟨rfl, hb⟩
                          have HS3_ := (hb.cell (World.block_lt_of_cell? _ _ (hHeld.2.2.2.1))).trans (hHeld.2.2.2.1)
                          have HS4_ := (hb.cell (World.block_lt_of_cell? _ _ (hHeld.2.2.2.2.1))).trans (hHeld.2.2.2.2.1)
                          have HS5_ := (hb.cell (World.block_lt_of_cell? _ _ (hHeld.2.2.2.2.2.1))).trans (hHeld.2.2.2.2.2.1)
                          have HS6_ := (hb.cell (World.block_lt_of_cell? _ _ (hHeld.2.2.2.2.2.2.1))).trans (hHeld.2.2.2.2.2.2.1)
                          have HS7_ := (hb.cell (World.block_lt_of_cell? _ _ (hHeld.2.2.2.2.2.2.2.1))).trans (hHeld.2.2.2.2.2.2.2.1)
                          have HS8_ := (hb.cell (World.block_lt_of_cell? _ _ (hHeld.2.2.2.2.2.2.2.2))).trans (hHeld.2.2.2.2.2.2.2.2)
                          refine ⟨_, rfl, ?_⟩
                          have n0_ := Aside0.mk (Kd.R_below (by (with_reducible repeat (first | apply Kd.R_alloc | apply Kd.R_drewN | apply Kd.R_drew)); exact HO_3.out) hb)
                          have n1_ := Aside0.mk (blk_below (g := gb107) (o := .cells #[.int .i64 t104, .int .i64 t105, .int .i64 t106] 34 (0, 0)) (by (with_reducible repeat (first | refine blk_drewN ?_ _ | refine blk_drew ?_ | refine blk_alloc ?_ _)); exact BK107.out) hb)
                          have n2_ := Aside0.mk (below_step (by repeat (first | (with_reducible first | exact HB.out | apply below_alloc | apply pw_below_drewN | apply below_drew1 | refine below_set ?_ GE107.out) | exact HB.out)) hb)
                          clear HO_3
                          clear BK107
                          clear HB
                          have HO_3 := n0_
                          have BK107 := n1_
                          have HB := n2_
                          clear n0_ n1_ n2_
                          (try clear hb)
                          (try clear hb2)
                          (try clear hk)
                          (try clear hi)
                          refine hK.out _ _ ⟨(blk_cell BK107.out 0).trans rfl, (blk_cell BK107.out 1).trans rfl, (blk_cell BK107.out 2).trans rfl, HS3_, HS4_, HS5_, HS6_, HS7_, HS8_⟩ (fun hHeld => ?_)
                          clear hK K
                          refine norm_ (a' := ?_) ?_ ?_
                          rotate_left
                          · show Act.put _ (some 55) _ = _
                            simp only [Act.put, List.setIfInBounds_toArray, List.set_cons_zero, List.set_cons_succ, i64_w, i32_w]
                            rfl
                          refine pure_ (i := 8) (N := some 56) (v := ?_) (a' := ?_) #[true, true, true, true, true, true, true, true, true, false, false, false, false, false, false, false, false, false, false, false, false, false, false, false, false, false, false, false, false, false, false, false, false, false, false, false, false] rfl rfl (any_of HT_.out (by kernel_rfl)) (fun _ _ _ h => h) (Or.inl ⟨by rfl, ?_⟩) ?_ ?_
                          rotate_left
                          · intro w'
                            go_simp
                            with_reducible rfl
                          rotate_left
                          · simp only [Act.put, List.setIfInBounds_toArray, List.set_cons_zero, List.set_cons_succ, i64_w, i32_w]
                            rfl
                          refine pure_ (i := 9) (N := some 57) (v := undef) (a' := ?_) #[true, true, true, true, true, true, true, true, true, true, false, false, false, false, false, false, false, false, false, false, false, false, false, false, false, false, false, false, false, false, false, false, false, false, false, false, false] rfl rfl (any_of HT_.out (by kernel_rfl)) (fun _ _ _ h => h) (Or.inr ⟨by rfl, rfl⟩) ?_ ?_
                          rotate_left
                          · simp only [Act.put, List.setIfInBounds_toArray, List.set_cons_zero, List.set_cons_succ, i64_w, i32_w]
                            rfl
                          refine pure_ (i := 10) (N := some 58) (v := undef) (a' := ?_) #[true, true, true, true, true, true, true, true, true, true, true, false, false, false, false, false, false, false, false, false, false, false, false, false, false, false, false, false, false, false, false, false, false, false, false, false, false] rfl rfl (any_of HT_.out (by kernel_rfl)) (fun _ _ _ h => h) (Or.inr ⟨by rfl, rfl⟩) ?_ ?_
                          rotate_left
                          · simp only [Act.put, List.setIfInBounds_toArray, List.set_cons_zero, List.set_cons_succ, i64_w, i32_w]
                            rfl
                          refine pure_ (i := 11) (N := some 59) (v := undef) (a' := ?_) #[true, true, true, true, true, true, true, true, true, true, true, true, false, false, false, false, false, false, false, false, false, false, false, false, false, false, false, false, false, false, false, false, false, false, false, false, false] rfl rfl (any_of HT_.out (by kernel_rfl)) (fun _ _ _ h => h) (Or.inr ⟨by rfl, rfl⟩) ?_ ?_
                          rotate_left
                          · simp only [Act.put, List.setIfInBounds_toArray, List.set_cons_zero, List.set_cons_succ, i64_w, i32_w]
                            rfl
                          refine pure_ (i := 12) (N := some 60) (v := undef) (a' := ?_) #[true, true, true, true, true, true, true, true, true, true, true, true, true, false, false, false, false, false, false, false, false, false, false, false, false, false, false, false, false, false, false, false, false, false, false, false, false] rfl rfl (any_of HT_.out (by kernel_rfl)) (fun _ _ _ h => h) (Or.inr ⟨by rfl, rfl⟩) ?_ ?_
                          rotate_left
                          · simp only [Act.put, List.setIfInBounds_toArray, List.set_cons_zero, List.set_cons_succ, i64_w, i32_w]
                            rfl
                          refine pure_ (i := 13) (N := some 61) (v := undef) (a' := ?_) #[true, true, true, true, true, true, true, true, true, true, true, true, true, true, false, false, false, false, false, false, false, false, false, false, false, false, false, false, false, false, false, false, false, false, false, false, false] rfl rfl (any_of HT_.out (by kernel_rfl)) (fun _ _ _ h => h) (Or.inr ⟨by rfl, rfl⟩) ?_ ?_
                          rotate_left
                          · simp only [Act.put, List.setIfInBounds_toArray, List.set_cons_zero, List.set_cons_succ, i64_w, i32_w]
                            rfl
                          refine pure_ (i := 14) (N := some 62) (v := undef) (a' := ?_) #[true, true, true, true, true, true, true, true, true, true, true, true, true, true, true, false, false, false, false, false, false, false, false, false, false, false, false, false, false, false, false, false, false, false, false, false, false] rfl rfl (any_of HT_.out (by kernel_rfl)) (fun _ _ _ h => h) (Or.inr ⟨by rfl, rfl⟩) ?_ ?_
                          rotate_left
                          · simp only [Act.put, List.setIfInBounds_toArray, List.set_cons_zero, List.set_cons_succ, i64_w, i32_w]
                            rfl
                          refine pure_ (i := 15) (N := some 63) (v := undef) (a' := ?_) #[true, true, true, true, true, true, true, true, true, true, true, true, true, true, true, true, false, false, false, false, false, false, false, false, false, false, false, false, false, false, false, false, false, false, false, false, false] rfl rfl (any_of HT_.out (by kernel_rfl)) (fun _ _ _ h => h) (Or.inr ⟨by rfl, rfl⟩) ?_ ?_
                          rotate_left
                          · simp only [Act.put, List.setIfInBounds_toArray, List.set_cons_zero, List.set_cons_succ, i64_w, i32_w]
                            rfl
                          refine pure_ (i := 16) (N := some 64) (v := undef) (a' := ?_) #[true, true, true, true, true, true, true, true, true, true, true, true, true, true, true, true, true, false, false, false, false, false, false, false, false, false, false, false, false, false, false, false, false, false, false, false, false] rfl rfl (any_of HT_.out (by kernel_rfl)) (fun _ _ _ h => h) (Or.inr ⟨by rfl, rfl⟩) ?_ ?_
                          rotate_left
                          · simp only [Act.put, List.setIfInBounds_toArray, List.set_cons_zero, List.set_cons_succ, i64_w, i32_w]
                            rfl
                          refine pure_ (i := 17) (N := some 65) (v := ?_) (a' := ?_) #[true, true, true, true, true, true, true, true, true, true, true, true, true, true, true, true, true, true, false, false, false, false, false, false, false, false, false, false, false, false, false, false, false, false, false, false, false] rfl rfl (any_of HT_.out (by kernel_rfl)) (fun _ _ _ h => h) (Or.inl ⟨by rfl, ?_⟩) ?_ ?_
                          rotate_left
                          · intro w'
                            go_simp
                            with_reducible rfl
                          rotate_left
                          · simp only [Act.put, List.setIfInBounds_toArray, List.set_cons_zero, List.set_cons_succ, i64_w, i32_w]
                            rfl
                          refine pure_ (i := 18) (N := some 66) (v := ?_) (a' := ?_) #[true, true, true, true, true, true, true, true, true, true, true, true, true, true, true, true, true, true, true, false, false, false, false, false, false, false, false, false, false, false, false, false, false, false, false, false, false] rfl rfl (any_of HT_.out (by kernel_rfl)) (fun _ _ _ h => h) (Or.inl ⟨by rfl, ?_⟩) ?_ ?_
                          rotate_left
                          · intro w'
                            go_simp
                            with_reducible rfl
                          rotate_left
                          · simp only [Act.put, List.setIfInBounds_toArray, List.set_cons_zero, List.set_cons_succ, i64_w, i32_w]
                            rfl
                          refine pure_ (i := 19) (N := some 67) (v := undef) (a' := ?_) #[true, true, true, true, true, true, true, true, true, true, true, true, true, true, true, true, true, true, true, true, false, false, false, false, false, false, false, false, false, false, false, false, false, false, false, false, false] rfl rfl (any_of HT_.out (by kernel_rfl)) (fun _ _ _ h => h) (Or.inr ⟨by rfl, rfl⟩) ?_ ?_
                          rotate_left
                          · simp only [Act.put, List.setIfInBounds_toArray, List.set_cons_zero, List.set_cons_succ, i64_w, i32_w]
                            rfl
                          refine pure_ (i := 20) (N := some 68) (v := undef) (a' := ?_) #[true, true, true, true, true, true, true, true, true, true, true, true, true, true, true, true, true, true, true, true, true, false, false, false, false, false, false, false, false, false, false, false, false, false, false, false, false] rfl rfl (any_of HT_.out (by kernel_rfl)) (fun _ _ _ h => h) (Or.inr ⟨by rfl, rfl⟩) ?_ ?_
                          rotate_left
                          · simp only [Act.put, List.setIfInBounds_toArray, List.set_cons_zero, List.set_cons_succ, i64_w, i32_w]
                            rfl
                          refine pure_ (i := 21) (N := some 69) (v := undef) (a' := ?_) #[true, true, true, true, true, true, true, true, true, true, true, true, true, true, true, true, true, true, true, true, true, true, false, false, false, false, false, false, false, false, false, false, false, false, false, false, false] rfl rfl (any_of HT_.out (by kernel_rfl)) (fun _ _ _ h => h) (Or.inr ⟨by rfl, rfl⟩) ?_ ?_
                          rotate_left
                          · simp only [Act.put, List.setIfInBounds_toArray, List.set_cons_zero, List.set_cons_succ, i64_w, i32_w]
                            rfl
                          refine pure_ (i := 22) (N := some 70) (v := undef) (a' := ?_) #[true, true, true, true, true, true, true, true, true, true, true, true, true, true, true, true, true, true, true, true, true, true, true, false, false, false, false, false, false, false, false, false, false, false, false, false, false] rfl rfl (any_of HT_.out (by kernel_rfl)) (fun _ _ _ h => h) (Or.inr ⟨by rfl, rfl⟩) ?_ ?_
                          rotate_left
                          · simp only [Act.put, List.setIfInBounds_toArray, List.set_cons_zero, List.set_cons_succ, i64_w, i32_w]
                            rfl
                          refine pure_ (i := 23) (N := some 71) (v := undef) (a' := ?_) #[true, true, true, true, true, true, true, true, true, true, true, true, true, true, true, true, true, true, true, true, true, true, true, true, false, false, false, false, false, false, false, false, false, false, false, false, false] rfl rfl (any_of HT_.out (by kernel_rfl)) (fun _ _ _ h => h) (Or.inr ⟨by rfl, rfl⟩) ?_ ?_
                          rotate_left
                          · simp only [Act.put, List.setIfInBounds_toArray, List.set_cons_zero, List.set_cons_succ, i64_w, i32_w]
                            rfl
                          refine pure_ (i := 24) (N := some 72) (v := undef) (a' := ?_) #[true, true, true, true, true, true, true, true, true, true, true, true, true, true, true, true, true, true, true, true, true, true, true, true, true, false, false, false, false, false, false, false, false, false, false, false, false] rfl rfl (any_of HT_.out (by kernel_rfl)) (fun _ _ _ h => h) (Or.inr ⟨by rfl, rfl⟩) ?_ ?_
                          rotate_left
                          · simp only [Act.put, List.setIfInBounds_toArray, List.set_cons_zero, List.set_cons_succ, i64_w, i32_w]
                            rfl
                          refine pure_ (i := 25) (N := some 73) (v := undef) (a' := ?_) #[true, true, true, true, true, true, true, true, true, true, true, true, true, true, true, true, true, true, true, true, true, true, true, true, true, true, false, false, false, false, false, false, false, false, false, false, false] rfl rfl (any_of HT_.out (by kernel_rfl)) (fun _ _ _ h => h) (Or.inr ⟨by rfl, rfl⟩) ?_ ?_
                          rotate_left
                          · simp only [Act.put, List.setIfInBounds_toArray, List.set_cons_zero, List.set_cons_succ, i64_w, i32_w]
                            rfl
                          refine pure_ (i := 26) (N := some 74) (v := undef) (a' := ?_) #[true, true, true, true, true, true, true, true, true, true, true, true, true, true, true, true, true, true, true, true, true, true, true, true, true, true, true, false, false, false, false, false, false, false, false, false, false] rfl rfl (any_of HT_.out (by kernel_rfl)) (fun _ _ _ h => h) (Or.inr ⟨by rfl, rfl⟩) ?_ ?_
                          rotate_left
                          · simp only [Act.put, List.setIfInBounds_toArray, List.set_cons_zero, List.set_cons_succ, i64_w, i32_w]
                            rfl
                          refine pure_ (i := 27) (N := some 75) (v := undef) (a' := ?_) #[true, true, true, true, true, true, true, true, true, true, true, true, true, true, true, true, true, true, true, true, true, true, true, true, true, true, true, true, false, false, false, false, false, false, false, false, false] rfl rfl (any_of HT_.out (by kernel_rfl)) (fun _ _ _ h => h) (Or.inr ⟨by rfl, rfl⟩) ?_ ?_
                          rotate_left
                          · simp only [Act.put, List.setIfInBounds_toArray, List.set_cons_zero, List.set_cons_succ, i64_w, i32_w]
                            rfl
                          refine pure_ (i := 28) (N := some 76) (v := undef) (a' := ?_) #[true, true, true, true, true, true, true, true, true, true, true, true, true, true, true, true, true, true, true, true, true, true, true, true, true, true, true, true, true, false, false, false, false, false, false, false, false] rfl rfl (any_of HT_.out (by kernel_rfl)) (fun _ _ _ h => h) (Or.inr ⟨by rfl, rfl⟩) ?_ ?_
                          rotate_left
                          · simp only [Act.put, List.setIfInBounds_toArray, List.set_cons_zero, List.set_cons_succ, i64_w, i32_w]
                            rfl
                          refine pure_ (i := 29) (N := some 77) (v := undef) (a' := ?_) #[true, true, true, true, true, true, true, true, true, true, true, true, true, true, true, true, true, true, true, true, true, true, true, true, true, true, true, true, true, true, false, false, false, false, false, false, false] rfl rfl (any_of HT_.out (by kernel_rfl)) (fun _ _ _ h => h) (Or.inr ⟨by rfl, rfl⟩) ?_ ?_
                          rotate_left
                          · simp only [Act.put, List.setIfInBounds_toArray, List.set_cons_zero, List.set_cons_succ, i64_w, i32_w]
                            rfl
                          refine pure_ (i := 30) (N := some 78) (v := undef) (a' := ?_) #[true, true, true, true, true, true, true, true, true, true, true, true, true, true, true, true, true, true, true, true, true, true, true, true, true, true, true, true, true, true, true, false, false, false, false, false, false] rfl rfl (any_of HT_.out (by kernel_rfl)) (fun _ _ _ h => h) (Or.inr ⟨by rfl, rfl⟩) ?_ ?_
                          rotate_left
                          · simp only [Act.put, List.setIfInBounds_toArray, List.set_cons_zero, List.set_cons_succ, i64_w, i32_w]
                            rfl
                          refine pure_ (i := 31) (N := some 79) (v := undef) (a' := ?_) #[true, true, true, true, true, true, true, true, true, true, true, true, true, true, true, true, true, true, true, true, true, true, true, true, true, true, true, true, true, true, true, true, false, false, false, false, false] rfl rfl (any_of HT_.out (by kernel_rfl)) (fun _ _ _ h => h) (Or.inr ⟨by rfl, rfl⟩) ?_ ?_
                          rotate_left
                          · simp only [Act.put, List.setIfInBounds_toArray, List.set_cons_zero, List.set_cons_succ, i64_w, i32_w]
                            rfl
                          refine pure_ (i := 32) (N := some 80) (v := undef) (a' := ?_) #[true, true, true, true, true, true, true, true, true, true, true, true, true, true, true, true, true, true, true, true, true, true, true, true, true, true, true, true, true, true, true, true, true, false, false, false, false] rfl rfl (any_of HT_.out (by kernel_rfl)) (fun _ _ _ h => h) (Or.inr ⟨by rfl, rfl⟩) ?_ ?_
                          rotate_left
                          · simp only [Act.put, List.setIfInBounds_toArray, List.set_cons_zero, List.set_cons_succ, i64_w, i32_w]
                            rfl
                          refine pure_ (i := 33) (N := some 81) (v := undef) (a' := ?_) #[true, true, true, true, true, true, true, true, true, true, true, true, true, true, true, true, true, true, true, true, true, true, true, true, true, true, true, true, true, true, true, true, true, true, false, false, false] rfl rfl (any_of HT_.out (by kernel_rfl)) (fun _ _ _ h => h) (Or.inr ⟨by rfl, rfl⟩) ?_ ?_
                          rotate_left
                          · simp only [Act.put, List.setIfInBounds_toArray, List.set_cons_zero, List.set_cons_succ, i64_w, i32_w]
                            rfl
                          refine pure_ (i := 34) (N := some 82) (v := undef) (a' := ?_) #[true, true, true, true, true, true, true, true, true, true, true, true, true, true, true, true, true, true, true, true, true, true, true, true, true, true, true, true, true, true, true, true, true, true, true, false, false] rfl rfl (any_of HT_.out (by kernel_rfl)) (fun _ _ _ h => h) (Or.inr ⟨by rfl, rfl⟩) ?_ ?_
                          rotate_left
                          · simp only [Act.put, List.setIfInBounds_toArray, List.set_cons_zero, List.set_cons_succ, i64_w, i32_w]
                            rfl
                          refine pure_ (i := 35) (N := some 83) (v := ?_) (a' := ?_) #[true, true, true, true, true, true, true, true, true, true, true, true, true, true, true, true, true, true, true, true, true, true, true, true, true, true, true, true, true, true, true, true, true, true, true, true, false] rfl rfl (any_of HT_.out (by kernel_rfl)) (fun _ _ _ h => h) (Or.inl ⟨by rfl, ?_⟩) ?_ ?_
                          rotate_left
                          · intro w'
                            go_simp
                            with_reducible rfl
                          rotate_left
                          · simp only [Act.put, List.setIfInBounds_toArray, List.set_cons_zero, List.set_cons_succ, i64_w, i32_w]
                            rfl
                          refine pure_ (i := 36) (N := some 10) (v := ?_) (a' := ?_) #[true, true, true, true, true, true, true, true, true, true, true, true, true, true, true, true, true, true, true, true, true, true, true, true, true, true, true, true, true, true, true, true, true, true, true, true, true] rfl rfl (any_of HT_.out (by kernel_rfl)) (fun _ _ _ h => h) (Or.inl ⟨by rfl, ?_⟩) ?_ ?_
                          rotate_left
                          · intro w'
                            go_simp
                            with_reducible rfl
                          rotate_left
                          · simp only [Act.put, List.setIfInBounds_toArray, List.set_cons_zero, List.set_cons_succ, i64_w, i32_w]
                            rfl
                          refine done_ (done_of HT_.out (by kernel_rfl)) ?_
                          try go_wp2
                          go_meet
                          case rel => exact ⟨_, (false), (by first | rfl | (simp; done) | (simp [*]; done)), H', ⟨by have := HJ5.out; have := HK2.out; first | omega | exact Nat.le_refl _⟩, ⟨by (with_reducible repeat (first | apply Kd.R_alloc | apply Kd.R_drewN | apply Kd.R_drew)); exact HO_3.out⟩, ⟨by (with_reducible repeat (first | refine blk_drewN ?_ _ | refine blk_drew ?_ | refine blk_alloc ?_ _)); exact BK107.out⟩, ⟨by repeat (first | (with_reducible first | exact HB.out | apply below_alloc | apply pw_below_drewN | apply below_drew1 | refine below_set ?_ GE107.out) | exact HB.out)⟩⟩
                      · rw [if_neg c20] at H
                        exact absurd H (by simp)
                    · rw [if_neg c19] at H
                      exact absurd H (by simp)
                  case rest =>
                    clear HC18
                    try clear c1
                    try clear p1
                    try clear q1
                    try clear hx1
                    try clear c2
                    try clear p2
                    try clear c3
                    try clear p11
                    try clear q11
                    try clear hx11
                    try clear c19
                    try clear c20
                    try clear c22
                    try clear c24
                    try clear c33
                    try clear hx113_0
                    try clear hx113_1
                    try clear hx113_2
                    try clear hx113_3
                    try clear hx113_4
                    try clear hx113_5
                    try clear hx115_0
                    try clear hx115_1
                    try clear hx115_2
                    try clear hx115_3
                    try clear hx115_4
                    try clear hx115_5
                    try clear p113
                    try clear p115
                    try clear q113
                    try clear q115
                    obtain ⟨kq, x10_17, rfl, HA, HJ17, HO_3, BK107, HB⟩ := hcut
                    cases kq with
                    | zero => exact absurd HA.out (by simp [laws_FnAclSays.j2])
                    | succ kj17 =>
                      have H := HA.out
                      clear HA
                      simp only [laws_FnAclSays.j2] at H
                      by_cases c37 : (x10_17 != (x9_2 == t108)) = true
                      · rw [if_pos c37] at H
                        have c37b0 : (x10_17 != (x9_2 == t108)) = true := c37
                        (try (have c37b1 : decide (x10_17 = (x9_2 == t108)) = false := by simpa using c37))
                        (try (have c37b2 : (x10_17 == (x9_2 == t108)) = false := by simpa using c37))
                        (try (have c37b3 : ¬ (x10_17 = (x9_2 == t108)) := by simpa using c37))
                        clear c37
                        obtain rfl := Option.some.inj H
                        go_wp2
                        go_ret
                        exact ⟨by first | rfl | (simp [errW_none, errW_some] <;> rfl) | (simp [*, errW_none, errW_some] <;> rfl), by repeat (first | (with_reducible first | exact HB.out | apply below_alloc | apply pw_below_drewN | apply below_drew1 | refine below_set ?_ GE107.out) | exact HB.out)⟩
                      · rw [if_neg c37] at H
                        have c37b0 : (x10_17 != (x9_2 == t108)) = false := by simpa using c37
                        (try (have c37b1 : decide (x10_17 = (x9_2 == t108)) = true := by simpa using c37))
                        (try (have c37b2 : (x10_17 == (x9_2 == t108)) = true := by simpa using c37))
                        clear c37
                        have H' := Aside0.mk H
                        clear H
                        go_wp2
                        go_roundg kj17
                        case measure => have := HJ5.out; have := HK2.out; have := HJ17.out; omega
                        case rel => exact ⟨(wrap64 (x9_2 + 1)), (by first | rfl | (simp; done) | (simp [*]; done)), H', ⟨by have := HJ5.out; have := HK2.out; have := HJ17.out; omega⟩, ⟨by (with_reducible repeat (first | apply Kd.R_alloc | apply Kd.R_drewN | apply Kd.R_drew)); exact HO_3.out⟩, ⟨by (with_reducible repeat (first | refine blk_drewN ?_ _ | refine blk_drew ?_ | refine blk_alloc ?_ _)); exact BK107.out⟩, ⟨by repeat (first | (with_reducible first | exact HB.out | apply below_alloc | apply pw_below_drewN | apply below_drew1 | refine below_set ?_ GE107.out) | exact HB.out)⟩⟩
                · rw [if_neg c17] at H
                  have c17b0 : decide (x9_2 ≤ t108) = false := decide_eq_false c17
                  clear c17
                  by_cases c38 : 0 ≤ t108
                  · rw [if_pos c38] at H
                    have c38b0 : decide (0 ≤ t108) = true := decide_eq_true c38
                    clear c38
                    by_cases c39 : t108 < (t101.length : Int)
                    · rw [if_pos c39] at H
                      have c39b0 : decide (t108 < (t101.length : Int)) = true := decide_eq_true c39
                      clear c39
                      obtain rfl := Option.some.inj H
                      have p112 : 0 ≤ (t108 : Int) := of_decide_eq_true (by first | (with_reducible assumption) | assumption)
                      have q112 : t108 < (t101.length : Int) := of_decide_eq_true (by first | (with_reducible assumption) | assumption)
                      obtain ⟨ad112, e112, hx112_0, hx112_1, hx112_2, hx112_3, hx112_4, hx112_5⟩ := at_T54 (Kd.R_reads' HO_3.out).2.2 t108 p112 q112
                      cases e112
                      replace p112 := eq_true p112
                      replace q112 := eq_true q112
                      go_wp2
                      go_ret
                      exact ⟨by first | rfl | (simp [errW_none, errW_some] <;> rfl) | (simp [*, errW_none, errW_some] <;> rfl), by repeat (first | (with_reducible first | exact HB.out | apply below_alloc | apply pw_below_drewN | apply below_drew1 | refine below_set ?_ GE107.out) | exact HB.out)⟩
                    · rw [if_neg c39] at H
                      exact absurd H (by simp)
                  · rw [if_neg c38] at H
                    exact absurd H (by simp)
end Go.Proofs.Ytnakanjhdcakhaa.Q
namespace Go.Proofs.Ytnakanjhdcakhaa.Pure
open Q Go.RowKit Go.Proofs.YtnakanjhdcakhaaW.PrintWords
set_option linter.unusedSimpArgs false
theorem xor_pos {x y : Int} (hx : 0 ≤ x) (hx1 : x < 4611686018427387904) (hy : 0 ≤ y) (hy1 : y < 4611686018427387904) : 0 ≤ Go.bits .xor .i64 x y ∧ Go.bits .xor .i64 x y < 4611686018427387904 := by
  obtain ⟨a, rfl⟩ := Int.eq_ofNat_of_zero_le hx
  obtain ⟨b, rfl⟩ := Int.eq_ofNat_of_zero_le hy
  have ha : a < 2 ^ 62 := by omega
  have hb : b < 2 ^ 62 := by omega
  have hxor : a ^^^ b < 2 ^ 62 := Nat.xor_lt_two_pow ha hb
  have e : ((BitVec.ofInt 64 (a : Int)) ^^^ (BitVec.ofInt 64 (b : Int))).toNat = a ^^^ b := by
    rw [BitVec.toNat_xor, BitVec.toNat_ofInt, BitVec.toNat_ofInt]
    congr 1 <;> omega
  have main : Go.bits .xor .i64 (a : Int) (b : Int) = IntKind.i64.wrap ((((BitVec.ofInt 64 (a : Int)) ^^^ (BitVec.ofInt 64 (b : Int))).toNat : Nat) : Int) := rfl
  rw [main, e]
  have : IntKind.i64.wrap ((a ^^^ b : Nat) : Int) = ((a ^^^ b : Nat) : Int) := by
    simp [IntKind.wrap, IntKind.bits, IntKind.signed]
    omega
  rw [this]
  omega
def Bytes (b : List Int) : Prop := b.length ≤ 2000 ∧ ∀ x ∈ b, 0 ≤ x ∧ x ≤ 255
theorem rd_byte {b : List Int} (h : Bytes b) (i : Int) : 0 ≤ rd b i ∧ rd b i ≤ 255 := by
  unfold rd
  rw [List.getD_eq_getElem?_getD]
  cases hq : b[i.toNat]? with
  | none => simp
  | some x => simpa using h.2 x (List.mem_of_getElem? hq)
theorem tmod_range {a n : Int} (ha : 0 ≤ a) (hn : 0 < n) : 0 ≤ Int.tmod a n ∧ Int.tmod a n < n := ⟨Int.tmod_nonneg _ ha, Int.tmod_lt_of_pos _ hn⟩
theorem pick_s {b : List Int} (h : Bytes b) {p n : Int} (hp : 0 ≤ p) (hp1 : p ≤ 1000000000000) (hn : 1 ≤ n) {k : Nat} (hk : 0 < k) : ∃ v, spec_l1Rd_pick.f k b p n = some (v, p + 1) ∧ 0 ≤ v ∧ v < n := by
  obtain ⟨k, rfl⟩ : ∃ m, k = m + 1 := ⟨k - 1, by omega⟩
  have hl := h.1
  unfold spec_l1Rd_pick.f
  rw [if_neg (by omega)]
  simp only [spec_l1Rd_pick.j0]
  rw [wrap_in (x := p + 1) (by omega) (by omega), wrap_in (x := p + 1 - 1) (by omega) (by omega), show p + 1 - 1 = p by omega]
  by_cases h0 : (b.length : Int) = 0
  · rw [if_pos (by simp [h0])]
    exact ⟨0, rfl, Int.le_refl _, by omega⟩
  · rw [if_neg (by simpa using h0)]
    by_cases hlt : p < (b.length : Int)
    · have hb := rd_byte h p
      rw [if_pos hlt, if_pos hp, if_neg (by omega), wrap_in (x := rd b p) (by omega) (by omega)]
      exact ⟨_, rfl, tmod_range hb.1 (by omega)⟩
    · rw [if_neg hlt, if_neg h0]
      have r1 := tmod_range hp (show 0 < (b.length : Int) by omega)
      have w7 : wrap64 (p * 7) = p * 7 := wrap_in (by omega) (by omega)
      have w73 : wrap64 (p * 7 + 3) = p * 7 + 3 := wrap_in (by omega) (by omega)
      have r2 := tmod_range (show 0 ≤ p * 7 + 3 by omega) (show 0 < (b.length : Int) by omega)
      rw [if_pos r1.1, if_pos r1.2, w7, w73, if_pos r2.1, if_pos r2.2, if_neg (by omega)]
      have b1 := rd_byte h (Int.tmod p (b.length : Int))
      have b2 := rd_byte h (Int.tmod (p * 7 + 3) (b.length : Int))
      generalize rd b (Int.tmod p (b.length : Int)) = x at b1 ⊢
      generalize rd b (Int.tmod (p * 7 + 3) (b.length : Int)) = y at b2 ⊢
      have hd : 0 ≤ Int.tdiv p (b.length : Int) ∧ Int.tdiv p (b.length : Int) ≤ p := ⟨Int.tdiv_nonneg hp (by omega), Int.tdiv_le_self _ hp⟩
      generalize Int.tdiv p (b.length : Int) = q at hd ⊢
      rw [wrap_in (x := x) (by omega) (by omega), wrap_in (x := y) (by omega) (by omega), wrap_in (x := x * 131) (by omega) (by omega), wrap_in (x := y * 1117) (by omega) (by omega), wrap_in (x := q) (by omega) (by omega), wrap_in (x := p * 29) (by omega) (by omega), wrap_in (x := q * 53) (by omega) (by omega), wrap_in (x := x * 131 + y * 1117) (by omega) (by omega), wrap_in (x := x * 131 + y * 1117 + p * 29) (by omega) (by omega), wrap_in (x := x * 131 + y * 1117 + p * 29 + q * 53) (by omega) (by omega)]
      have hz : 0 ≤ x * 131 + y * 1117 + p * 29 + q * 53 ∧ x * 131 + y * 1117 + p * 29 + q * 53 < 4611686018427387904 := by omega
      generalize x * 131 + y * 1117 + p * 29 + q * 53 = z at hz ⊢
      have h64 : 0 ≤ Int.tdiv z 64 ∧ Int.tdiv z 64 ≤ z := ⟨Int.tdiv_nonneg hz.1 (by omega), Int.tdiv_le_self _ hz.1⟩
      rw [wrap_in (x := Int.tdiv z 64) (by omega) (by omega)]
      have hx := xor_pos hz.1 hz.2 h64.1 (show Int.tdiv z 64 < 4611686018427387904 by omega)
      exact ⟨_, rfl, tmod_range hx.1 (by omega)⟩
end Go.Proofs.Ytnakanjhdcakhaa.Pure
namespace Go.Proofs.Ytnakanjhdcakhaa.Pure
open Q Go.RowKit Go.Proofs.YtnakanjhdcakhaaW.PrintWords
set_option linter.unusedSimpArgs false
theorem five {i : Int} (h0 : 0 ≤ i) (h1 : i < 5) (x0 x1 x2 x3 x4 : Int) (P : Int → Prop) (p0 : P x0) (p1 : P x1) (p2 : P x2) (p3 : P x3) (p4 : P x4) : P (rd [x0, x1, x2, x3, x4] i) := by
  have : i = 0 ∨ i = 1 ∨ i = 2 ∨ i = 3 ∨ i = 4 := by omega
  rcases this with rfl | rfl | rfl | rfl | rfl
  · exact p0
  · exact p1
  · exact p2
  · exact p3
  · exact p4
theorem prefix_j {b : List Int} (h : Bytes b) {p n : Int} (hp : 0 ≤ p) (hp1 : p ≤ 900000000000) (hn0 : 0 ≤ n) (hn1 : n ≤ 16) {k : Nat} (hk : 30 ≤ k) : ∃ a, spec_l5Prefix.j0 k n b p = some (a, n, p + 6) ∧ okB a n = true := by
  obtain ⟨k, rfl⟩ : ∃ m, k = m + 1 := ⟨k - 1, by omega⟩
  obtain ⟨v1, e1, l1, u1⟩ := pick_s h (p := p) (n := 65536) (by omega) (by omega) (by omega) (k := k) (by omega)
  obtain ⟨v2, e2, l2, u2⟩ := pick_s h (p := p + 1) (n := 4) (by omega) (by omega) (by omega) (k := k) (by omega)
  obtain ⟨v3, e3, l3, u3⟩ := pick_s h (p := p + 1 + 1) (n := 9) (by omega) (by omega) (by omega) (k := k) (by omega)
  obtain ⟨v4, e4, l4, u4⟩ := pick_s h (p := p + 1 + 1 + 1) (n := 16) (by omega) (by omega) (by omega) (k := k) (by omega)
  obtain ⟨v5, e5, l5, u5⟩ := pick_s h (p := p + 1 + 1 + 1 + 1) (n := 16) (by omega) (by omega) (by omega) (k := k) (by omega)
  obtain ⟨v6, e6, l6, u6⟩ := pick_s h (p := p + 1 + 1 + 1 + 1 + 1) (n := 5) (by omega) (by omega) (by omega) (k := k) (by omega)
  simp only [spec_l5Prefix.j0, e1, e2, e3, e4, e5, e6, Option.bind_some]
  have hz := sz_pos n
  have hr : 0 ≤ rd [v1, wrap64 (256 * v2), wrap64 (65535 - v3), v4, wrap64 (4656 + v5)] v6 ∧ rd [v1, wrap64 (256 * v2), wrap64 (65535 - v3), v4, wrap64 (4656 + v5)] v6 ≤ 65535 := by
    refine five (P := fun x => 0 ≤ x ∧ x ≤ 65535) l6 u6 _ _ _ _ _ (by omega) ?_ ?_ (by omega) ?_
    · rw [wrap_in (by omega) (by omega)]; omega
    · rw [wrap_in (by omega) (by omega)]; omega
    · rw [wrap_in (by omega) (by omega)]; omega
  rw [if_pos l6, if_pos (by simpa using u6), size_s hn0 hn1 (by omega)]
  simp only [Option.bind_some]
  rw [if_neg (by omega)]
  generalize rd [v1, wrap64 (256 * v2), wrap64 (65535 - v3), v4, wrap64 (4656 + v5)] v6 = a at hr ⊢
  have hm : Int.tmod a (sz n) = a % sz n := Int.tmod_eq_emod_of_nonneg hr.1
  have h0 := Int.emod_nonneg a (show sz n ≠ 0 by omega)
  have h1 := Int.emod_lt_of_pos a (show 0 < sz n by omega)
  have h2 : a % sz n ≤ a := by
    have := Int.mul_ediv_add_emod a (sz n)
    have := Int.mul_nonneg (show 0 ≤ sz n by omega) (Int.ediv_nonneg hr.1 (show 0 ≤ sz n by omega))
    omega
  rw [hm, wrap_in (by omega) (by omega)]
  refine ⟨a - a % sz n, by simp; omega, okB_iff.2 ⟨hn0, hn1, by omega, by omega, ?_⟩⟩
  have := Int.mul_ediv_add_emod a (sz n)
  rw [show a - a % sz n = sz n * (a / sz n) by omega]
  exact Int.mul_emod_right _ _
theorem six {i : Int} (h0 : 0 ≤ i) (h1 : i < 6) (x0 x1 x2 x3 x4 x5 : Int) (P : Int → Prop) (p0 : P x0) (p1 : P x1) (p2 : P x2) (p3 : P x3) (p4 : P x4) (p5 : P x5) : P (rd [x0, x1, x2, x3, x4, x5] i) := by
  have : i = 0 ∨ i = 1 ∨ i = 2 ∨ i = 3 ∨ i = 4 ∨ i = 5 := by omega
  rcases this with rfl | rfl | rfl | rfl | rfl | rfl
  · exact p0
  · exact p1
  · exact p2
  · exact p3
  · exact p4
  · exact p5
theorem prefix_s {b : List Int} (h : Bytes b) {p : Int} (hp : 0 ≤ p) (hp1 : p ≤ 800000000000) {k : Nat} (hk : 30 ≤ k) : ∃ a n q, spec_l5Prefix.f k b p = some (a, n, q) ∧ okB a n = true ∧ p ≤ q ∧ q ≤ p + 9 := by
  obtain ⟨v1, e1, l1, u1⟩ := pick_s h (p := p) (n := 17) (by omega) (by omega) (by omega) (k := k) (by omega)
  obtain ⟨v2, e2, l2, u2⟩ := pick_s h (p := p + 1) (n := 3) (by omega) (by omega) (by omega) (k := k) (by omega)
  obtain ⟨v3, e3, l3, u3⟩ := pick_s h (p := p + 1 + 1) (n := 6) (by omega) (by omega) (by omega) (k := k) (by omega)
  unfold spec_l5Prefix.f
  simp only [e1, e2, e3, Option.bind_some]
  by_cases h0 : v2 = 0
  · have hr : 0 ≤ rd [0, 1, 2, 8, 15, 16] v3 ∧ rd [0, 1, 2, 8, 15, 16] v3 ≤ 16 := six (P := fun x => 0 ≤ x ∧ x ≤ 16) l3 u3 _ _ _ _ _ _ (by omega) (by omega) (by omega) (by omega) (by omega) (by omega)
    rw [if_pos h0, if_pos l3, if_pos (by simpa using u3)]
    obtain ⟨a, e, ok⟩ := prefix_j h (p := p + 1 + 1 + 1) (by omega) (by omega) hr.1 hr.2 hk
    exact ⟨a, _, _, e, ok, by omega, by omega⟩
  · rw [if_neg h0]
    obtain ⟨a, e, ok⟩ := prefix_j h (p := p + 1 + 1) (by omega) (by omega) l1 (show v1 ≤ 16 by omega) hk
    exact ⟨a, _, _, e, ok, by omega, by omega⟩
end Go.Proofs.Ytnakanjhdcakhaa.Pure
namespace Go.Proofs.Ytnakanjhdcakhaa.Pure
open Q Go.RowKit Go.Proofs.YtnakanjhdcakhaaW.PrintWords
set_option linter.unusedSimpArgs false
theorem spoil_s {b : List Int} (h : Bytes b) {p : Int} (hp : 0 ≤ p) (hp1 : p ≤ 800000000000) (a n : Int) {k : Nat} (hk : 0 < k) : ∃ a' n' q, spec_l5Spoil.f k b p a n = some (a', n', q) ∧ p ≤ q ∧ q ≤ p + 2 := by
  obtain ⟨v1, e1, l1, u1⟩ := pick_s h (p := p) (n := 4) (by omega) (by omega) (by omega) (k := k) (by omega)
  obtain ⟨v2, e2, l2, u2⟩ := pick_s h (p := p + 1) (n := 4) (by omega) (by omega) (by omega) (k := k) (by omega)
  unfold spec_l5Spoil.f
  simp only [e1, e2, Option.bind_some]
  by_cases h0 : v1 = 0
  · rw [if_pos h0, if_pos l2, if_pos (by simpa using u2)]
    exact ⟨_, _, _, rfl, by omega, by omega⟩
  · rw [if_neg h0]
    by_cases h1 : v1 = 1
    · rw [if_pos h1]
      exact ⟨_, _, _, rfl, by omega, by omega⟩
    · rw [if_neg h1]
      by_cases h2 : v1 = 2
      · rw [if_pos h2, if_pos l2, if_pos (by simpa using u2)]
        exact ⟨_, _, _, rfl, by omega, by omega⟩
      · rw [if_neg h2]
        exact ⟨_, _, _, rfl, by omega, by omega⟩
theorem addr_j1 {b : List Int} (h : Bytes b) {p : Int} (hp : 0 ≤ p) (hp1 : p ≤ 800000000000) (a n : Int) {k : Nat} (hk : 1 < k) : ∃ x q, spec_l5Addr.j0 k true b p a n = some (x, q) ∧ p ≤ q ∧ q ≤ p + 2 := by
  obtain ⟨k, rfl⟩ : ∃ m, k = m + 1 := ⟨k - 1, by omega⟩
  obtain ⟨v1, e1, l1, u1⟩ := pick_s h (p := p) (n := 65536) (by omega) (by omega) (by omega) (k := k) (by omega)
  obtain ⟨v2, e2, l2, u2⟩ := pick_s h (p := p + 1) (n := 5) (by omega) (by omega) (by omega) (k := k) (by omega)
  simp only [spec_l5Addr.j0, if_true, e1, e2, Option.bind_some]
  rw [if_pos l2, if_pos (by simpa using u2)]
  exact ⟨_, _, rfl, by omega, by omega⟩
theorem addr_j2 {b : List Int} (h : Bytes b) {p : Int} (hp : 0 ≤ p) (hp1 : p ≤ 800000000000) {a n : Int} (hok : okB a n = true) {k : Nat} (hk : 30 < k) : ∃ x q, spec_l5Addr.j0 k false b p a n = some (x, q) ∧ p ≤ q ∧ q ≤ p + 2 := by
  obtain ⟨k, rfl⟩ : ∃ m, k = m + 1 := ⟨k - 1, by omega⟩
  have hz := okB_iff.1 hok
  have hs := sz_pos n
  obtain ⟨v1, e1, l1, u1⟩ := pick_s h (p := p) (n := sz n) (by omega) (by omega) (by omega) (k := k) (by omega)
  obtain ⟨v2, e2, l2, u2⟩ := pick_s h (p := p + 1) (n := 5) (by omega) (by omega) (by omega) (k := k) (by omega)
  simp only [spec_l5Addr.j0, Bool.false_eq_true, if_false, size_s hz.1 hz.2.1 (show 20 ≤ k by omega), e1, e2, Option.bind_some]
  rw [if_pos l2, if_pos (by simpa using u2)]
  exact ⟨_, _, rfl, by omega, by omega⟩
theorem addr_s {b : List Int} (h : Bytes b) {p : Int} (hp : 0 ≤ p) (hp1 : p ≤ 700000000000) (a n : Int) {k : Nat} (hk : 30 < k) : ∃ x q, spec_l5Addr.f k b p a n = some (x, q) ∧ p ≤ q ∧ q ≤ p + 3 := by
  unfold spec_l5Addr.f
  rw [ok_s (by omega), Option.bind_some]
  by_cases hok : okB a n = true
  · rw [if_pos hok]
    obtain ⟨v1, e1, l1, u1⟩ := pick_s h (p := p) (n := 4) (by omega) (by omega) (by omega) (k := k) (by omega)
    rw [e1, Option.bind_some]
    cases hv : v1 == 0 with
    | true =>
      obtain ⟨x, q, e, l, u⟩ := addr_j1 h (p := p + 1) (by omega) (by omega) a n (k := k) (by omega)
      exact ⟨x, q, e, by omega, by omega⟩
    | false =>
      obtain ⟨x, q, e, l, u⟩ := addr_j2 h (p := p + 1) (by omega) (by omega) hok (k := k) (by omega)
      exact ⟨x, q, e, by omega, by omega⟩
  · rw [if_neg hok]
    obtain ⟨x, q, e, l, u⟩ := addr_j1 h hp (by omega) a n (k := k) (by omega)
    exact ⟨x, q, e, by omega, by omega⟩
end Go.Proofs.Ytnakanjhdcakhaa.Pure
namespace Go.Proofs.Ytnakanjhdcakhaa.Pure
open Go.RowKit Go.Proofs.YtnakanjhdcakhaaW.PrintWords Go.Proofs.YtnakanjhdcakhaaW.PrintMore
open Q
set_option linter.unusedVariables false
set_option linter.unusedSimpArgs false
instance : DecidableEq S26 := fun a b => by
  cases a with
  | mk a0 a1 =>
    cases b with
    | mk b0 b1 =>
      rw [S26.mk.injEq]
      exact inferInstance
theorem wrap_succ {i : Int} (h0 : 0 ≤ i) (h1 : i < 9223372036854775807) : wrap64 (i + 1) = i + 1 := by unfold wrap64; omega
end Go.Proofs.Ytnakanjhdcakhaa.Pure
namespace Go.Proofs.Ytnakanjhdcakhaa.Pure
open Go.RowKit Go.Proofs.YtnakanjhdcakhaaW.PrintWords Go.Proofs.YtnakanjhdcakhaaW.PrintMore
open Q
set_option linter.unusedVariables false
set_option linter.unusedSimpArgs false
theorem half_ok {a n : Int} (h : okB a n = true) (hn : n < 16) : okB a (n + 1) = true ∧ okB (a + sz (n + 1)) (n + 1) = true := by
  obtain ⟨h0, h1, h2, h3, h4⟩ := okB_iff.1 h
  have hh := sz_half hn
  have hp := sz_pos (n + 1)
  have hd : sz n ∣ a := Int.dvd_of_emod_eq_zero h4
  have hd1 : sz (n + 1) ∣ a := Int.dvd_trans (sz_dvd (by omega)) hd
  have htop : a + sz n ≤ 65536 := by
    have h5 : sz n ∣ 65536 := by rw [← sz0]; exact sz_dvd h0
    obtain ⟨x, hx⟩ := hd
    obtain ⟨y, hy⟩ := h5
    have hps := sz_pos n
    have : x < y := by
      rcases Int.lt_or_le x y with h | h
      · exact h
      · have := Int.mul_le_mul_of_nonneg_left h (show 0 ≤ sz n by omega)
        omega
    have := Int.mul_le_mul_of_nonneg_left (show x + 1 ≤ y by omega) (show 0 ≤ sz n by omega)
    rw [Int.mul_add] at this
    omega
  refine ⟨okB_iff.2 ⟨by omega, by omega, h2, h3, Int.emod_eq_zero_of_dvd hd1⟩, okB_iff.2 ⟨by omega, by omega, by omega, by omega, Int.emod_eq_zero_of_dvd (Int.dvd_add hd1 (Int.dvd_refl _))⟩⟩
theorem root_ok : okB 0 0 = true := by decide +kernel
end Go.Proofs.Ytnakanjhdcakhaa.Pure
namespace Go.Proofs.Ytnakanjhdcakhaa.Pure
open Q Go.RowKit Go.Proofs.YtnakanjhdcakhaaW.PrintWords
set_option linter.unusedSimpArgs false
def OkR (l : List S54) : Prop := ∀ x ∈ l, okB x.f1.f0 x.f1.f1 = true ∧ okB x.f2.f0 x.f2.f1 = true
theorem okR_snoc {l : List S54} (h : OkR l) (x : S54) (h1 : okB x.f1.f0 x.f1.f1 = true) (h2 : okB x.f2.f0 x.f2.f1 = true) : OkR (l ++ [x]) := by
  intro y hy
  rcases List.mem_append.1 hy with hy | hy
  · exact h y hy
  · rw [List.mem_singleton.1 hy]
    exact ⟨h1, h2⟩
theorem okR_at {l : List S54} (h : OkR l) {i : Int} (h0 : 0 ≤ i) (h1 : i < (l.length : Int)) : okB (rd_T54 l i).f1.f0 (rd_T54 l i).f1.f1 = true ∧ okB (rd_T54 l i).f2.f0 (rd_T54 l i).f2.f1 = true := by
  obtain ⟨n, rfl⟩ := Int.eq_ofNat_of_zero_le h0
  have hn : n < l.length := by omega
  have e : rd_T54 l (n : Int) = l[n] := by simp [rd_T54, List.getD_eq_getElem?_getD, hn]
  rw [e]
  exact h _ (List.getElem_mem hn)
/-- A draw of rules that ends: how many at the most, and how far the reader has gone. -/
def Done (o : Option (List S54 × Int)) (hi : Int) : Prop := ∃ r q, o = some (r, q) ∧ OkR r ∧ r.length ≤ 6 ∧ 0 ≤ q ∧ q ≤ hi
theorem root26 : okB 0 0 = true := root_ok
section
variable {b : List Int} (hb : Bytes b) {P hi : Int} (hP : P ≤ 700000000000) {m k : Nat} (hk : 33 ≤ k) {x4 : Int} (IH : ∀ (k' : Nat) (x3 : List S54) (p : Int), k ≤ k' → OkR x3 → x3.length ≤ m + 1 → 0 ≤ p → p ≤ P → Done (spec_l5Rules.l0 k' x3 (wrap64 (x4 - 1)) b p) hi)
include hb hP hk IH
theorem rules_j2 {x3 : List S54} (ok : OkR x3) (hm : x3.length ≤ m) (hm6 : m ≤ 6) (x53 : Bool) {p : Int} (hp : 0 ≤ p) (hp1 : p + 1 ≤ P) (pm : Bool) {fa fn ta tn : Int} (kd : Int) (hf : okB fa fn = true) (ht : okB ta tn = true)
    (ym : Bool) (ya yn : Int) {za zn : Int} (yk : Int) (hz : x53 = true → okB za zn = true ∧ zn < 16) : Done (spec_l5Rules.j2 (k + 1) x3 x4 x53 b p pm fa fn ta tn kd ym ya yn za zn yk) hi := by
  obtain ⟨v1, e1, l1, u1⟩ := pick_s hb (p := p) (n := 5) (by omega) (by omega) (by omega) (k := k) (by omega)
  have hl : x3.length < 2932031007402 := by omega
  simp only [spec_l5Rules.j2]
  by_cases h : x53 = true
  · obtain ⟨hz1, hz2⟩ := hz h
    have hz3 := okB_iff.1 hz1
    rw [if_pos h, l1halves_s (by omega) hz3.1 hz2 hz3.2.2.1 hz3.2.2.2.1]
    simp only [Option.bind_some, e1]
    by_cases hv : v1 = 0
    · rw [if_pos hv, if_pos hl]
      exact IH _ _ _ (by omega) (okR_snoc ok _ root26 (half_ok hz1 hz2).1) (by simp; omega) (by omega) (by omega)
    · rw [if_neg hv, if_pos hl]
      exact IH _ _ _ (by omega) (okR_snoc ok _ hf (half_ok hz1 hz2).1) (by simp; omega) (by omega) (by omega)
  · rw [if_neg h]
    simp only [Option.bind_some, e1]
    by_cases hv : v1 = 0
    · rw [if_pos hv, if_pos hl]
      exact IH _ _ _ (by omega) (okR_snoc ok _ root26 ht) (by simp; omega) (by omega) (by omega)
    · rw [if_neg hv, if_pos hl]
      exact IH _ _ _ (by omega) (okR_snoc ok _ hf ht) (by simp; omega) (by omega) (by omega)
theorem rules_j1 {x3 : List S54} (ok : OkR x3) (hm : x3.length ≤ m) (hm6 : m ≤ 6) (x34 : Bool) (hx : x34 = true → 0 < x3.length) {p : Int} (hp : 0 ≤ p) (hp1 : p + 3 ≤ P) (pm : Bool) {fa fn ta tn : Int} (kd : Int) (hf : okB fa fn = true) (ht : okB ta tn = true) :
    Done (spec_l5Rules.j1 (k + 2) x3 x4 x34 b p pm fa fn ta tn kd) hi := by
  simp only [spec_l5Rules.j1]
  by_cases h : x34 = true
  · have hx' := hx h
    obtain ⟨v1, e1, l1, u1⟩ := pick_s hb (p := p) (n := (x3.length : Int)) (by omega) (by omega) (by omega) (k := k + 1) (by omega)
    obtain ⟨v2, e2, l2, u2⟩ := pick_s hb (p := p + 1) (n := 2) (by omega) (by omega) (by omega) (k := k + 1) (by omega)
    obtain ⟨o1, o2⟩ := okR_at ok l1 u1
    simp only [if_pos h, e1, e2, Option.bind_some]
    rw [if_pos l1, if_pos u1]
    by_cases hv : v2 = 0
    · rw [if_pos hv]
      exact rules_j2 hb hP hk IH ok hm hm6 _ (by omega) (by omega) _ _ o1 ht _ _ _ _ (fun hq => ⟨o2, of_decide_eq_true hq⟩)
    · rw [if_neg hv]
      exact rules_j2 hb hP hk IH ok hm hm6 _ (by omega) (by omega) _ _ o1 ht _ _ _ _ (fun hq => by simp at hq)
  · obtain ⟨v1, e1, l1, u1⟩ := pick_s hb (p := p) (n := 5) (by omega) (by omega) (by omega) (k := k + 1) (by omega)
    have hl : x3.length < 2932031007402 := by omega
    simp only [if_neg h, Option.bind_some, e1]
    by_cases hv : v1 = 0
    · rw [if_pos hv, if_pos hl]
      exact IH _ _ _ (by omega) (okR_snoc ok _ root26 ht) (by simp; omega) (by omega) (by omega)
    · rw [if_neg hv, if_pos hl]
      exact IH _ _ _ (by omega) (okR_snoc ok _ hf ht) (by simp; omega) (by omega) (by omega)
end
theorem rules_l0 {b : List Int} (hb : Bytes b) {B : Int} (hB : B ≤ 700000000000) (d : Nat) : ∀ (k : Nat) (x3 : List S54) (p : Int), OkR x3 → x3.length + d ≤ 6 → 0 ≤ p → p ≤ B - 30 * d → 3 * d + 40 ≤ k → Done (spec_l5Rules.l0 k x3 d b p) B := by
  induction d with
  | zero =>
    intro k x3 p ok hl hp hp1 hk
    obtain ⟨k, rfl⟩ : ∃ m, k = m + 1 := ⟨k - 1, by omega⟩
    simp only [spec_l5Rules.l0]
    rw [if_neg (by omega)]
    exact ⟨x3, p, rfl, ok, by omega, hp, by omega⟩
  | succ d ih =>
    intro k x3 p ok hl hp hp1 hk
    obtain ⟨k, rfl⟩ : ∃ m, k = m + 3 := ⟨k - 3, by omega⟩
    have IH : ∀ (k' : Nat) (x3' : List S54) (p' : Int), k ≤ k' → OkR x3' → x3'.length ≤ x3.length + 1 → 0 ≤ p' → p' ≤ B - 30 * d → Done (spec_l5Rules.l0 k' x3' (wrap64 (((d + 1 : Nat) : Int) - 1)) b p') B := by
      intro k' x3' p' hk' ok' hl' hp' hp1'
      rw [show wrap64 (((d + 1 : Nat) : Int) - 1) = (d : Int) by rw [wrap_in (by omega) (by omega)]; omega]
      exact ih k' x3' p' ok' (by omega) hp' hp1' (by omega)
    simp only [spec_l5Rules.l0]
    rw [if_pos (by omega)]
    obtain ⟨v1, e1, l1, u1⟩ := pick_s hb (p := p) (n := 2) (by omega) (by omega) (by omega) (k := k + 2) (by omega)
    obtain ⟨a1, n1, q1, f1, o1, g1, g1'⟩ := prefix_s hb (p := p + 1) (by omega) (by omega) (k := k + 2) (by omega)
    obtain ⟨a2, n2, q2, f2, o2, g2, g2'⟩ := prefix_s hb (p := q1) (by omega) (by omega) (k := k + 2) (by omega)
    obtain ⟨v2, e2, l2, u2⟩ := pick_s hb (p := q2) (n := 3) (by omega) (by omega) (by omega) (k := k + 2) (by omega)
    obtain ⟨v3, e3, l3, u3⟩ := pick_s hb (p := q2 + 1) (n := 3) (by omega) (by omega) (by omega) (k := k + 2) (by omega)
    obtain ⟨v4, e4, l4, u4⟩ := pick_s hb (p := q2 + 1 + 1) (n := 2) (by omega) (by omega) (by omega) (k := k + 2) (by omega)
    simp only [e1, f1, f2, e2, e3, e4, Option.bind_some]
    by_cases h : (x3.length : Int) > 0
    · rw [if_pos h]
      exact rules_j1 hb (P := B - 30 * d) (by omega) (by omega) IH ok (Nat.le_refl _) (by omega) _ (fun _ => by omega) (by omega) (by omega) _ _ o1 o2
    · rw [if_neg h]
      exact rules_j1 hb (P := B - 30 * d) (by omega) (by omega) IH ok (Nat.le_refl _) (by omega) _ (fun hq => by simp at hq) (by omega) (by omega) _ _ o1 o2
theorem rules_s {b : List Int} (hb : Bytes b) {p : Int} (hp : 0 ≤ p) (hp1 : p ≤ 600000000000) {k : Nat} (hk : 60 ≤ k) : ∃ r q, spec_l5Rules.f k b p = some (r, q) ∧ r.length ≤ 6 ∧ 0 ≤ q ∧ q ≤ p + 200 := by
  obtain ⟨v1, e1, l1, u1⟩ := pick_s hb (p := p) (n := 7) (by omega) (by omega) (by omega) (k := k) (by omega)
  obtain ⟨d, rfl⟩ := Int.eq_ofNat_of_zero_le l1
  obtain ⟨r, q, e, _, h1, h2, h3⟩ := rules_l0 hb (B := p + 200) (by omega) d k [] (p + 1) (by intro x hx; simp at hx) (by simp; omega) (by omega) (by omega) (by omega)
  unfold spec_l5Rules.f
  rw [e1, Option.bind_some]
  exact ⟨r, q, e, h1, h2, h3⟩
theorem spoil_l0 (b : List Int) (p : Int) (n : Nat) (hn : n ≤ 1000) (d : Nat) : ∀ (k : Nat) (x5 : List S54), x5.length + d = n → d < k → spec_l5SpoilRules.l0 k x5 n b p = some (x5 ++ List.replicate d ⟨false, ⟨0, 0⟩, ⟨0, 0⟩, 1⟩, p) := by
  induction d with
  | zero =>
    intro k x5 hl hk
    obtain ⟨k, rfl⟩ : ∃ m, k = m + 1 := ⟨k - 1, by omega⟩
    simp only [spec_l5SpoilRules.l0]
    rw [if_neg (by omega)]
    simp
  | succ d ih =>
    intro k x5 hl hk
    obtain ⟨k, rfl⟩ : ∃ m, k = m + 1 := ⟨k - 1, by omega⟩
    simp only [spec_l5SpoilRules.l0]
    rw [if_pos (by omega), if_pos (by omega), ih k _ (by simp; omega) (by omega), List.append_assoc, List.replicate_succ]
    rfl
theorem spoilR_j0 {b : List Int} (hb : Bytes b) {p : Int} (hp : 0 ≤ p) (hp1 : p ≤ 600000000000) {x5 : List S54} (hl : x5.length ≤ 6) (x18 : Bool) (hx : x18 = false → 0 < x5.length) {k : Nat} (hk : 60 ≤ k) :
    ∃ r q, spec_l5SpoilRules.j0 k x5 x18 b p = some (r, q) ∧ r.length ≤ 13 ∧ 0 ≤ q ∧ q ≤ p + 10 := by
  obtain ⟨k, rfl⟩ : ∃ m, k = m + 1 := ⟨k - 1, by omega⟩
  simp only [spec_l5SpoilRules.j0]
  by_cases h : x18 = true
  · obtain ⟨v1, e1, l1, u1⟩ := pick_s hb (p := p) (n := 2) (by omega) (by omega) (by omega) (k := k) (by omega)
    obtain ⟨n, hn⟩ := Int.eq_ofNat_of_zero_le (show 0 ≤ 12 + v1 by omega)
    simp only [if_pos h, e1, Option.bind_some]
    rw [wrap_in (by omega) (by omega), hn, spoil_l0 b _ n (by omega) (n - x5.length) k x5 (by omega) (by omega)]
    exact ⟨_, _, rfl, by simp; omega, by omega, by omega⟩
  · have hpos := hx (by simpa using h)
    obtain ⟨v1, e1, l1, u1⟩ := pick_s hb (p := p) (n := (x5.length : Int)) (by omega) (by omega) (by omega) (k := k) (by omega)
    obtain ⟨v2, e2, l2, u2⟩ := pick_s hb (p := p + 1) (n := 3) (by omega) (by omega) (by omega) (k := k) (by omega)
    simp only [if_neg h, e1, e2, Option.bind_some]
    by_cases c0 : v2 = 0
    · obtain ⟨a', n', q, e, g1, g2⟩ := spoil_s hb (p := p + 1 + 1) (by omega) (by omega) (rd_T54 x5 v1).f1.f0 (rd_T54 x5 v1).f1.f1 (k := k) (by omega)
      rw [if_pos c0, if_pos l1, if_pos u1, e, Option.bind_some]
      exact ⟨_, _, rfl, by simp; omega, by dsimp only; omega, by dsimp only; omega⟩
    · rw [if_neg c0]
      by_cases c1 : v2 = 1
      · obtain ⟨a', n', q, e, g1, g2⟩ := spoil_s hb (p := p + 1 + 1) (by omega) (by omega) (rd_T54 x5 v1).f2.f0 (rd_T54 x5 v1).f2.f1 (k := k) (by omega)
        rw [if_pos c1, if_pos l1, if_pos u1, e, Option.bind_some]
        exact ⟨_, _, rfl, by simp; omega, by dsimp only; omega, by dsimp only; omega⟩
      · rw [if_neg c1]
        obtain ⟨v3, e3, l3, u3⟩ := pick_s hb (p := p + 1 + 1) (n := 3) (by omega) (by omega) (by omega) (k := k) (by omega)
        simp only [e3, Option.bind_some]
        have u3' : v3 < (([-1, 7, 8] : List Int).length : Int) := by simpa using u3
        simp only [if_pos l3, if_pos u3', if_pos l1, if_pos u1]
        exact ⟨_, _, rfl, by simp; omega, by omega, by omega⟩
theorem spoilR_s {b : List Int} (hb : Bytes b) {p : Int} (hp : 0 ≤ p) (hp1 : p ≤ 500000000000) {l : List S54} (hl : l.length ≤ 6) {k : Nat} (hk : 60 ≤ k) : ∃ r q, spec_l5SpoilRules.f k b p l = some (r, q) ∧ r.length ≤ 13 ∧ 0 ≤ q ∧ q ≤ p + 20 := by
  unfold spec_l5SpoilRules.f
  simp only [Option.bind_some, List.nil_append, List.length_nil]
  rw [if_pos (by omega)]
  by_cases h : (l.length : Int) = 0
  · rw [if_pos h]
    obtain ⟨r, q, e, g1, g2, g3⟩ := spoilR_j0 hb hp (by omega) hl true (fun hq => by simp at hq) hk
    exact ⟨r, q, e, g1, g2, by omega⟩
  · obtain ⟨v1, e1, l1, u1⟩ := pick_s hb (p := p) (n := 4) (by omega) (by omega) (by omega) (k := k) (by omega)
    rw [if_neg h, e1, Option.bind_some]
    obtain ⟨r, q, e, g1, g2, g3⟩ := spoilR_j0 hb (p := p + 1) (by omega) (by omega) hl (v1 == 0) (fun _ => by omega) hk
    exact ⟨r, q, e, g1, g2, by omega⟩
theorem anyR_s {b : List Int} (hb : Bytes b) {p : Int} (hp : 0 ≤ p) (hp1 : p ≤ 400000000000) {k : Nat} (hk : 60 ≤ k) : ∃ r q, spec_l5AnyRules.f k b p = some (r, q) ∧ r.length ≤ 13 ∧ 0 ≤ q ∧ q ≤ p + 300 := by
  obtain ⟨r, q, e, g1, g2, g3⟩ := rules_s hb hp (by omega) hk
  obtain ⟨v1, e1, l1, u1⟩ := pick_s hb (p := q) (n := 24) (by omega) (by omega) (by omega) (k := k) (by omega)
  unfold spec_l5AnyRules.f
  simp only [e, e1, Option.bind_some]
  by_cases h : v1 = 0
  · obtain ⟨r', q', e', k1, k2, k3⟩ := spoilR_s hb (p := q + 1) (by omega) (by omega) g1 hk
    rw [if_pos h, e', Option.bind_some]
    exact ⟨_, _, rfl, k1, k2, by omega⟩
  · rw [if_neg h]
    exact ⟨_, _, rfl, by omega, by omega, by omega⟩
theorem packet_j1 {b : List Int} (hb : Bytes b) {p : Int} (hp : 0 ≤ p) (hp1 : p ≤ 600000000000) (f t n : Int) {k : Nat} (hk : 60 ≤ k) : ∃ f' t' n' q, spec_l5Packet.j1 k b p f t n = some (f', t', n', q) := by
  obtain ⟨k, rfl⟩ : ∃ m, k = m + 1 := ⟨k - 1, by omega⟩
  obtain ⟨v1, e1, l1, u1⟩ := pick_s hb (p := p) (n := 24) (by omega) (by omega) (by omega) (k := k) (by omega)
  obtain ⟨v2, e2, l2, u2⟩ := pick_s hb (p := p + 1) (n := 3) (by omega) (by omega) (by omega) (k := k) (by omega)
  have u2' : v2 < (([0, 8, -1] : List Int).length : Int) := by simpa using u2
  simp only [spec_l5Packet.j1, e1, e2, Option.bind_some, if_pos l2, if_pos u2']
  by_cases h : v1 = 0
  · rw [if_pos h]; exact ⟨_, _, _, _, rfl⟩
  · rw [if_neg h]; exact ⟨_, _, _, _, rfl⟩
theorem packet_j0 {b : List Int} (hb : Bytes b) {p : Int} (hp : 0 ≤ p) (hp1 : p ≤ 500000000000) {l : List S54} (hl : l.length ≤ 13) (x : Bool) (hx : x = true → 0 < l.length) (f t n : Int) {k : Nat} (hk : 62 ≤ k) : ∃ f' t' n' q, spec_l5Packet.j0 k l x b p f t n = some (f', t', n', q) := by
  obtain ⟨k, rfl⟩ : ∃ m, k = m + 1 := ⟨k - 1, by omega⟩
  simp only [spec_l5Packet.j0]
  by_cases h : x = true
  · have hpos := hx h
    obtain ⟨v1, e1, l1, u1⟩ := pick_s hb (p := p) (n := (l.length : Int)) (by omega) (by omega) (by omega) (k := k) (by omega)
    obtain ⟨x1, q1, f1, g1, g1'⟩ := addr_s hb (p := p + 1) (by omega) (by omega) (rd_T54 l v1).f1.f0 (rd_T54 l v1).f1.f1 (k := k) (by omega)
    obtain ⟨x2, q2, f2, g2, g2'⟩ := addr_s hb (p := q1) (by omega) (by omega) (rd_T54 l v1).f2.f0 (rd_T54 l v1).f2.f1 (k := k) (by omega)
    obtain ⟨v2, e2, l2, u2⟩ := pick_s hb (p := q2) (n := 3) (by omega) (by omega) (by omega) (k := k) (by omega)
    simp only [if_pos h, e1, Option.bind_some, if_pos l1, if_pos u1, f1, f2, e2]
    split
    · split
      · exact packet_j1 hb (by omega) (by omega) _ _ _ (by omega)
      · exact packet_j1 hb (by omega) (by omega) _ _ _ (by omega)
    · exact packet_j1 hb (by omega) (by omega) _ _ _ (by omega)
  · simp only [if_neg h]
    exact packet_j1 hb (by omega) (by omega) _ _ _ (by omega)
theorem packet_s {b : List Int} (hb : Bytes b) {p : Int} (hp : 0 ≤ p) (hp1 : p ≤ 400000000000) {l : List S54} (hl : l.length ≤ 13) {k : Nat} (hk : 62 ≤ k) : ∃ f t n q, spec_l5Packet.f k b p l = some (f, t, n, q) := by
  obtain ⟨v1, e1, l1, u1⟩ := pick_s hb (p := p) (n := 65536) (by omega) (by omega) (by omega) (k := k) (by omega)
  obtain ⟨v2, e2, l2, u2⟩ := pick_s hb (p := p + 1) (n := 65536) (by omega) (by omega) (by omega) (k := k) (by omega)
  obtain ⟨v3, e3, l3, u3⟩ := pick_s hb (p := p + 1 + 1) (n := 7) (by omega) (by omega) (by omega) (k := k) (by omega)
  obtain ⟨v4, e4, l4, u4⟩ := pick_s hb (p := p + 1 + 1 + 1) (n := 5) (by omega) (by omega) (by omega) (k := k) (by omega)
  unfold spec_l5Packet.f
  simp only [e1, e2, e3, e4, Option.bind_some]
  by_cases h : (l.length : Int) > 0
  · rw [if_pos h]
    exact packet_j0 hb (by omega) (by omega) hl _ (fun _ => by omega) _ _ _ hk
  · rw [if_neg h]
    exact packet_j0 hb (by omega) (by omega) hl _ (fun hq => by simp at hq) _ _ _ hk
theorem open_s {l : List Int} (h : ∀ x ∈ l, 0 ≤ x ∧ x ≤ 255) : ∃ b, spec_l1Open.f l = some (b, 0) ∧ Bytes b := by
  unfold spec_l1Open.f
  by_cases hc : (l.length : Int) > 2000
  · rw [if_pos hc, if_pos (by omega)]
    exact ⟨_, rfl, by rw [List.length_take]; omega, fun x hx => h x (List.mem_of_mem_take hx)⟩
  · rw [if_neg hc]
    exact ⟨_, rfl, by omega, h⟩
theorem drawSays_s {l : List Int} (h : ∀ x ∈ l, 0 ≤ x ∧ x ≤ 255) {k : Nat} (hk : 62 ≤ k) : ∃ r f t n, spec_DrawAclSays.f k l = some (r, f, t, n) ∧ r.length ≤ 13 := by
  obtain ⟨b, e, hb⟩ := open_s h
  obtain ⟨r, q, e1, g1, g2, g3⟩ := anyR_s hb (p := 0) (by omega) (by omega) (k := k) (by omega)
  obtain ⟨f, t, n, q', e2⟩ := packet_s hb (p := q) (by omega) (by omega) g1 hk
  unfold spec_DrawAclSays.f
  simp only [e, e1, e2, Option.bind_some]
  exact ⟨_, _, _, _, rfl, g1⟩
end Go.Proofs.Ytnakanjhdcakhaa.Pure
namespace Go.Proofs.Ytnakanjhdcakhaa.Pure
open Go.RowKit Go.Proofs.YtnakanjhdcakhaaW.PrintWords Go.Proofs.YtnakanjhdcakhaaW.PrintMore
open Q
set_option linter.unusedVariables false
set_option linter.unusedSimpArgs false
theorem rd54_at (l : List S54) (i : Nat) (h : i < l.length) : rd_T54 l i = l[i] := by
  unfold rd_T54
  simp [List.getD_eq_getElem?_getD, h]
instance : DecidableEq S54 := fun a b => by
  cases a with
  | mk a0 a1 a2 a3 =>
    cases b with
    | mk b0 b1 b2 b3 =>
      rw [S54.mk.injEq]
      exact inferInstance
theorem l1In_s (n a b : Int) : spec_l1In.f n a b = some (decide (a ≤ n ∧ n ≤ b)) := by
  unfold spec_l1In.f
  by_cases h : n ≥ a
  · rw [if_pos h]; simp [show a ≤ n from h]
  · rw [if_neg h]; simp [show ¬ a ≤ n by omega]
theorem aclok_loop (l : List S54) (hl : l.length ≤ 9223372036854775807) (d : Nat) : ∀ (i k : Nat), i + d = l.length → d + 20 < k → spec_AclOk.l0 k l i = some ((l.drop i).all ruleOkB) := by
  induction d with
  | zero =>
    intro i k hi hk
    obtain ⟨k, rfl⟩ : ∃ m, k = m + 1 := ⟨k - 1, by omega⟩
    simp only [spec_AclOk.l0]
    rw [if_neg (by omega), List.drop_of_length_le (by omega)]
    rfl
  | succ d ih =>
    intro i k hi hk
    obtain ⟨k, rfl⟩ : ∃ m, k = m + 1 := ⟨k - 1, by omega⟩
    have hlt : i < l.length := by omega
    simp only [spec_AclOk.l0]
    rw [if_pos (by omega), if_pos (by omega), rd54_at l i hlt, ok_s (by omega)]
    simp only [Option.bind_some, ok_s (show 20 ≤ k by omega), l1In_s]
    rw [List.drop_eq_getElem_cons hlt, List.all_cons, wrap_succ (by omega) (by omega), show ((i : Int) + 1) = ((i + 1 : Nat) : Int) by omega, ih (i + 1) k (by omega) (by omega)]
    unfold ruleOkB
    cases okB l[i].f1.f0 l[i].f1.f1 <;> cases okB l[i].f2.f0 l[i].f2.f1 <;> simp
    by_cases h0 : 0 ≤ l[i].f3 <;> by_cases h1 : l[i].f3 ≤ 7 <;> simp [h0, h1]
theorem aclok_s {l : List S54} {k : Nat} (hl : l.length ≤ 9223372036854775807) (hk : 33 < k) : spec_AclOk.f k l = some (aclOkB l) := by
  unfold spec_AclOk.f aclOkB
  by_cases h : l.length ≤ 12
  · rw [if_neg (by omega)]
    have := aclok_loop l hl l.length 0 k (by omega) (by omega)
    simpa [h] using this
  · rw [if_pos (by omega)]
    simp [h]
def pktOkB (f t k : Int) : Bool := decide (0 ≤ f ∧ f ≤ 65535) && (decide (0 ≤ t ∧ t ≤ 65535) && decide (1 ≤ k ∧ k ≤ 7))
def permB (l : List S54) (i : Int) : Bool := decide (0 ≤ i) && (rd_T54 l i).f0
/-- What is said of a packet: the rule that decides, and whether it may pass. -/
def saysP (l : List S54) (f t k : Int) : Int × Bool := if (aclOkB l && pktOkB f t k) = true then (decI l f t k, permB l (decI l f t k)) else (-1, false)
theorem pktok_s (f t k : Int) : spec_l4PacketOk.f f t k = some (pktOkB f t k) := by
  unfold spec_l4PacketOk.f pktOkB
  simp only [l1In_s, Option.bind_some]
  by_cases h0 : 0 ≤ f ∧ f ≤ 65535
  · by_cases h1 : 0 ≤ t ∧ t ≤ 65535
    · simp [h0, h1]
    · simp [h0, h1]
  · simp [h0]
theorem fits_s {k : Nat} (hk : 20 ≤ k) (r : S54) (h : ruleOkB r = true) (f t kd : Int) : spec_l4Fits.f k r.f0 r.f1.f0 r.f1.f1 r.f2.f0 r.f2.f1 r.f3 f t kd = some (fitB f t kd r) := by
  obtain ⟨h0, h1, _, _⟩ := ruleOkB_iff.1 h
  unfold spec_l4Fits.f fitB
  rw [has_s hk f h0]
  simp only [Option.bind_some, has_s hk t h1]
  cases hasB r.f1.f0 r.f1.f1 f <;> cases hasB r.f2.f0 r.f2.f1 t <;> simp
  by_cases h2 : r.f3 = 0
  · simp [h2]
  · simp [h2]
    by_cases h3 : r.f3 = kd <;> simp [h3]
theorem findFrom_range {α : Type} (p : α → Bool) (l : List α) : ∀ j : Int, findFrom p l j = -1 ∨ (j ≤ findFrom p l j ∧ findFrom p l j < j + l.length) := by
  induction l with
  | nil => intro j; left; rfl
  | cons a l ih =>
    intro j
    rw [findFrom]
    by_cases h : p a = true
    · rw [if_pos h]; right; simp only [List.length_cons]; omega
    · rw [if_neg h]
      rcases ih (j + 1) with h1 | h1
      · left; exact h1
      · right; simp only [List.length_cons]; omega
theorem says_loop (l : List S54) (hl : l.length ≤ 9223372036854775807) (hok : l.all ruleOkB = true) (f t kd : Int) (d : Nat) : ∀ (i k : Nat), i + d = l.length → d + 20 < k →
    spec_l4Says.l0 k l i f t kd = some (findFrom (fitB f t kd) (l.drop i) i, permB l (findFrom (fitB f t kd) (l.drop i) i)) := by
  induction d with
  | zero =>
    intro i k hi hk
    obtain ⟨k, rfl⟩ : ∃ m, k = m + 1 := ⟨k - 1, by omega⟩
    simp only [spec_l4Says.l0]
    rw [if_neg (by omega), List.drop_of_length_le (by omega)]
    rfl
  | succ d ih =>
    intro i k hi hk
    obtain ⟨k, rfl⟩ : ∃ m, k = m + 1 := ⟨k - 1, by omega⟩
    have hlt : i < l.length := by omega
    have hx := List.all_eq_true.1 hok l[i] (List.getElem_mem hlt)
    simp only [spec_l4Says.l0]
    rw [if_pos (by omega), if_pos (by omega), rd54_at l i hlt, fits_s (by omega) _ hx]
    simp only [Option.bind_some]
    rw [List.drop_eq_getElem_cons hlt, findFrom]
    by_cases hf : fitB f t kd l[i] = true
    · rw [if_pos hf, if_pos hf]
      unfold permB
      rw [rd54_at l i hlt]
      simp
    · rw [if_neg hf, if_neg hf, wrap_succ (by omega) (by omega), show ((i : Int) + 1) = ((i + 1 : Nat) : Int) by omega, ih (i + 1) k (by omega) (by omega)]
theorem says_s {l : List S54} {k : Nat} (hl : l.length ≤ 9223372036854775807) (hk : 33 < k) (f t kd : Int) : spec_AclSays.f k l f t kd = some (saysP l f t kd) := by
  unfold spec_AclSays.f saysP
  rw [aclok_s hl hk]
  simp only [Option.bind_some, pktok_s]
  cases ho : aclOkB l with
  | false => simp
  | true =>
    cases hp : pktOkB f t kd with
    | false => simp
    | true =>
      unfold aclOkB at ho
      simp only [Bool.and_eq_true, decide_eq_true_eq] at ho
      have := says_loop l hl ho.2 f t kd l.length 0 k (by omega) (by omega)
      unfold spec_l4Says.f
      simp only [if_true, Bool.and_self]
      rw [show (0 : Int) = ((0 : Nat) : Int) from rfl, this]
      simp [decI, findI]
theorem passes_i {l : List S54} (hok : l.all ruleOkB = true) (f t kd : Int) : impl_passes.f l f t kd = some (permB l (decI l f t kd)) := by
  unfold impl_passes.f impl_decides.f permB
  rw [if_pos hok]
  simp only [Option.bind_some]
  have hr : decI l f t kd = -1 ∨ (0 ≤ decI l f t kd ∧ decI l f t kd < 0 + (l.length : Int)) := findFrom_range (fitB f t kd) l 0
  rcases hr with hr | ⟨h0, h1⟩
  · rw [hr]; rfl
  · rw [if_pos h0, if_pos h0, if_pos (by omega)]
    simp [h0]
theorem says_i {l : List S54} {k : Nat} (hk : 0 < k) (f t kd : Int) : impl_AclSays.f k l f t kd = some (saysP l f t kd) := by
  obtain ⟨k, rfl⟩ : ∃ m, k = m + 1 := ⟨k - 1, by omega⟩
  unfold impl_AclSays.f impl_AclOk.f impl_isAddr.f saysP pktOkB
  simp only [Option.bind_some, impl_AclSays.j0]
  cases ho : aclOkB l with
  | false => simp
  | true =>
    have hall : l.all ruleOkB = true := by unfold aclOkB at ho; simp only [Bool.and_eq_true] at ho; exact ho.2
    by_cases h0 : f ≥ 0 <;> by_cases h1 : f ≤ 65535 <;> by_cases h2 : t ≥ 0 <;> by_cases h3 : t ≤ 65535 <;> by_cases h4 : kd < 1 <;> by_cases h5 : kd ≤ 7 <;>
      simp [h0, h1, h2, h3, h4, h5, passes_i hall, impl_decides.f, hall, show (¬ 0 ≤ f) ↔ f < 0 by omega] <;> first | omega | (simp [show ¬ (0 ≤ f) by omega]; done) | (simp [show ¬ (0 ≤ t) by omega]; done) | (simp [show ¬ (1 ≤ kd) by omega]; done) | (rw [if_neg (by omega), if_pos (by omega)])
end Go.Proofs.Ytnakanjhdcakhaa.Pure
namespace Go.Proofs.Ytnakanjhdcakhaa.Q
open Go.RowKit Go.Proofs.YtnakanjhdcakhaaW.PrintWords Go.Proofs.YtnakanjhdcakhaaW.PrintLast Go.Proofs.YtnakanjhdcakhaaW.PrintMore
set_option linter.unusedVariables false
set_option linter.unusedSimpArgs false
def putK (xs : List Int) (n : Int) : Nat := (xs.takeWhile fun x => decide (x < n)).length
end Go.Proofs.Ytnakanjhdcakhaa.Q
namespace Go.Proofs.Ytnakanjhdcakhaa.Pure
open Q
set_option linter.unusedSimpArgs false
theorem take_of {xs : List Int} {n : Int} : ∀ x, x ∈ xs.take (putK xs n) → x < n := by
  unfold putK
  induction xs with
  | nil => intro x h; simp at h
  | cons a l ih =>
    intro x h
    by_cases ha : a < n
    · rw [List.takeWhile_cons, if_pos (by simpa using ha)] at h
      simp only [List.length_cons, List.take_succ_cons, List.mem_cons] at h
      rcases h with rfl | h
      · exact ha
      · exact ih x h
    · rw [List.takeWhile_cons, if_neg (by simpa using ha)] at h
      simp at h
end Go.Proofs.Ytnakanjhdcakhaa.Pure
namespace Go.Proofs.Ytnakanjhdcakhaa.Pure
open Q Go.RowKit Go.Proofs.YtnakanjhdcakhaaW.PrintWords
set_option linter.unusedSimpArgs false
section
variable {a b : List S54} {at_ : Int} (ha : a.length ≤ 12) (hb : b.length ≤ 12) (oa : a.all ruleOkB = true) (ob : b.all ruleOkB = true) {fs ts : List Int} (hf : fs.length ≤ 100000) (ht : ts.length ≤ 100000)
include ha hb oa ob
include ht
include hf
end
theorem aclOk_iff {l : List S54} : aclOkB l = true ↔ l.length ≤ 12 ∧ l.all ruleOkB = true := by unfold aclOkB; simp
end Go.Proofs.Ytnakanjhdcakhaa.Pure
namespace Go.Proofs.Ytnakanjhdcakhaa.Pure
open Q Go.RowKit Go.Proofs.YtnakanjhdcakhaaW.PrintWords
set_option linter.unusedSimpArgs false
theorem find_none {α : Type} {p : α → Bool} : ∀ (l : List α) (j : Int), (∀ x ∈ l, p x = false) → findFrom p l j = -1
  | [], _, _ => rfl
  | a :: l, j, h => by
    rw [findFrom, if_neg (by simp [h a (by simp)])]
    exact find_none l (j + 1) (fun x hx => h x (by simp [hx]))
theorem find_at {α : Type} {p : α → Bool} {x : α} (hx : p x = true) (B : List α) : ∀ (A : List α) (j : Int), (∀ y ∈ A, p y = false) → findFrom p (A ++ x :: B) j = j + (A.length : Int)
  | [], j, _ => by simp [findFrom, hx]
  | a :: A, j, h => by
    rw [List.cons_append, findFrom, if_neg (by simp [h a (by simp)]), find_at hx B A (j + 1) (fun y hy => h y (by simp [hy]))]
    simp only [List.length_cons]
    omega
theorem find_cases {α : Type} (p : α → Bool) : ∀ (l : List α), (∀ x ∈ l, p x = false) ∨ ∃ (A : List α) (x : α) (B : List α), l = A ++ x :: B ∧ p x = true ∧ ∀ y ∈ A, p y = false
  | [] => .inl (by simp)
  | a :: l => by
    by_cases ha : p a = true
    · exact .inr ⟨[], a, l, rfl, ha, by simp⟩
    · rcases find_cases p l with h | ⟨A, x, B, e, hx, hA⟩
      · refine .inl (fun x hx => ?_)
        rcases List.mem_cons.1 hx with rfl | hx
        · simpa using ha
        · exact h x hx
      · refine .inr ⟨a :: A, x, B, by rw [e]; rfl, hx, fun y hy => ?_⟩
        rcases List.mem_cons.1 hy with rfl | hy
        · simpa using ha
        · exact hA y hy
end Go.Proofs.Ytnakanjhdcakhaa.Pure
namespace Go.Proofs.Ytnakanjhdcakhaa.Pure
open Q Go.RowKit Go.Proofs.YtnakanjhdcakhaaW.PrintWords
set_option linter.unusedSimpArgs false
set_option linter.unusedVariables false
theorem sayslaw_loop {r : List S54} (hr : r.length ≤ 13) (hok : r.all ruleOkB = true) {n : Nat} (hn : n < r.length) {f t kd : Int} (hpre : ∀ i : Nat, i < n → fitB f t kd (rd_T54 r (i : Int)) = false) (hat : fitB f t kd (rd_T54 r (n : Int)) = true) (d : Nat) :
    ∀ (i k : Nat), i + d = n + 1 → 2 * d + 40 < k → laws_FnAclSays.l0 k r n (rd_T54 r (n : Int)).f0 i f t kd = some true := by
  induction d with
  | zero =>
    intro i k hi hk
    obtain ⟨k, rfl⟩ : ∃ m, k = m + 1 := ⟨k - 1, by omega⟩
    simp only [laws_FnAclSays.l0]
    rw [if_neg (by omega), if_pos (by omega), if_pos (by omega)]
    simp
  | succ d ih =>
    intro i k hi hk
    obtain ⟨k, rfl⟩ : ∃ m, k = m + 2 := ⟨k - 2, by omega⟩
    have hx : ruleOkB (rd_T54 r (i : Int)) = true := by
      rw [rd54_at r i (by omega)]
      exact List.all_eq_true.1 hok _ (List.getElem_mem _)
    obtain ⟨o1, o2, _, _⟩ := ruleOkB_iff.1 hx
    have hj : ∀ q : Bool, q = fitB f t kd (rd_T54 r (i : Int)) → laws_FnAclSays.j2 (k + 1) r n (rd_T54 r (n : Int)).f0 i q f t kd = some true := by
      intro q hq
      have e : q = ((i : Int) == (n : Int)) := by
        rw [hq]
        rcases Nat.lt_or_ge i n with h | h
        · rw [hpre i h]
          symm
          simp
          omega
        · obtain rfl : i = n := by omega
          rw [hat]
          simp
      simp only [laws_FnAclSays.j2]
      rw [e, bne_self_eq_false, if_neg (by simp), wrap_in (x := (i : Int) + 1) (by omega) (by omega)]
      exact ih (i + 1) k (by omega) (by omega)
    unfold laws_FnAclSays.l0
    rw [if_pos (by omega), if_pos (by omega), if_pos (by omega), nethas_s (by omega), nethas_s (by omega), o1, o2]
    simp only [Option.bind_some, Bool.true_and]
    unfold fitB at hj
    cases h1 : hasB (rd_T54 r (i : Int)).f1.f0 (rd_T54 r (i : Int)).f1.f1 f with
    | false =>
      simp only [Bool.false_eq_true, if_false]
      exact hj _ (by rw [h1]; rfl)
    | true =>
      cases h2 : hasB (rd_T54 r (i : Int)).f2.f0 (rd_T54 r (i : Int)).f2.f1 t with
      | false =>
        simp only [Bool.false_eq_true, if_false, if_true]
        exact hj _ (by rw [h1, h2]; rfl)
      | true =>
        simp only [if_true]
        by_cases h3 : (rd_T54 r (i : Int)).f3 = 0
        · rw [if_pos h3]
          exact hj _ (by rw [h1, h2]; simp [h3])
        · rw [if_neg h3]
          exact hj _ (by rw [h1, h2]; simp [h3]; rfl)
theorem FnAclSays (l0 : List Int) (hl : l0.length ≤ maxLen) (hb : ∀ x ∈ l0, 0 ≤ x ∧ x ≤ 255) : ∃ k, laws_FnAclSays.f k l0 = some true := by
  refine ⟨1000, ?_⟩
  unfold laws_FnAclSays.f
  by_cases hc : (l0.length : Int) > 1048576
  · rw [if_pos hc]
  · rw [if_neg hc]
    obtain ⟨r, f, t, kd, e, hr⟩ := drawSays_s hb (k := 1000) (by omega)
    rw [e, Option.bind_some]
    simp only []
    rw [says_i (by omega), Option.bind_some, says_s (by omega) (by omega), Option.bind_some, if_pos rfl, bne_self_eq_false]
    show laws_FnAclSays.j0 (999 + 1) _ _ _ _ _ _ _ = _
    simp only [laws_FnAclSays.j0, Bool.false_eq_true, if_false]
    unfold saysP
    by_cases hq : (aclOkB r && pktOkB f t kd) = true
    · rw [if_pos hq]
      simp only [Bool.and_eq_true] at hq
      have hall := (aclOk_iff.1 hq.1).2
      rcases find_cases (fitB f t kd) r with h | ⟨A, x, B, e2, hx, hA⟩
      · have hd : decI r f t kd = -1 := find_none r 0 h
        rw [hd, if_pos (by omega)]
        rfl
      · have hj : A.length < r.length := by rw [e2]; simp
        have hd : decI r f t kd = (A.length : Int) := by
          unfold decI findI
          rw [e2, find_at hx B A 0 hA]
          omega
        rw [hd, if_neg (by omega)]
        have hp : permB r (A.length : Int) = (rd_T54 r (A.length : Int)).f0 := by
          unfold permB
          simp
        rw [hp]
        refine sayslaw_loop hr hall hj ?_ ?_ (A.length + 1) 0 999 (by omega) (by omega)
        · intro i hi
          rw [rd54_at r i (by omega)]
          apply hA
          simp only [e2, List.getElem_append_left hi]
          exact List.getElem_mem hi
        · rw [rd54_at r _ hj]
          simpa [e2] using hx
    · rw [if_neg hq, if_pos (by decide)]
      rfl
end Go.Proofs.Ytnakanjhdcakhaa.Pure
