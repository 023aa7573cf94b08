/- Lemmas for FnAclLean, part 4 of 5: the program's functions as Lean functions, what each Go function comes to, and plain lemmas on them. No statement of its own. -/
import Derived.Test.YtnakanjhdcakhaaC1xFnAclLean
import Derived.Test.YtnakanjhdcakhaaC2xFnAclLean
import Derived.Test.YtnakanjhdcakhaaC3xFnAclLean
namespace Go.Proofs.Ytnakanjhdcakhaa.Q
open Go.RowKit Go.Proofs.YtnakanjhdcakhaaW.PrintWords Go.Proofs.YtnakanjhdcakhaaW.PrintLast Go.Proofs.YtnakanjhdcakhaaW.PrintMore
attribute [local go_sem] max2_int min2_int max_two min_two max_three min_three max_four min_four   -- for this text's walks alone
set_option linter.unusedVariables false
set_option linter.unusedSimpArgs false
def impl_AclLean.l0 : Nat → List (S54) → List (S54) → List (S54) → Int → Int → Option ((List (S54)))
  | 0, _, _, _, _, _ => none
  | k + 1, x0, x3, x9, x10, x11 => if x11 < x10 then (if 0 ≤ x11 then (if x11 < (x9.length : Int) then ((impl_AclWitness.f x0 x11).bind fun bt106 => (if bt106.2.2.2 = true then (if x3.length < 2932031007402 then (impl_AclLean.l0 k x0 (x3 ++ [(⟨(rd_T54 x9 x11).f0, (⟨(rd_T54 x9 x11).f1.f0, (rd_T54 x9 x11).f1.f1⟩ : S26), (⟨(rd_T54 x9 x11).f2.f0, (rd_T54 x9 x11).f2.f1⟩ : S26), (rd_T54 x9 x11).f3⟩ : S54)]) x9 x10 (wrap64 (x11 + 1))) else (none)) else (impl_AclLean.l0 k x0 x3 x9 x10 (wrap64 (x11 + 1))))) else (none)) else (none)) else (some x3)
def impl_AclLean.f (k : Nat) (l0 : List (S54)) : Option ((List (S54))) := impl_AclLean.l0 k l0 (([] : List (S54))) l0 (l0.length : Int) 0
theorem impl_AclLean.zHB {P : Prop} (h : P := by repeat (first | (with_reducible first | exact HB.out | apply below_alloc | apply pw_below_drewN | apply below_drew1 | refine below_set ?_ GE105.out | refine below_set ?_ GE110.out) | exact HB.out)) : P := h
theorem impl_AclLean.zb {P Q : Prop} (x : Q) (h : Q → P := by intro x_; (with_reducible repeat (first | refine blk_drewN ?_ _ | refine blk_drew ?_ | refine blk_alloc ?_ _)); exact x_) : P := h x
theorem impl_AclLean.zr {P Q : Prop} (x : Q) (h : Q → P := by intro x_; (with_reducible repeat (first | apply Kd.R_alloc | apply Kd.R_drewN | apply Kd.R_drew)); exact x_) : P := h x
theorem impl_AclLean.zq {P Q : Prop} (x : Q) (h : Q → P := by intro x_; (with_reducible repeat (first | refine blk_drewN ?_ _ | refine blk_drew ?_ | refine blk_alloc ?_ _)); exact x_) : P := h x
theorem impl_AclLean.zk {P Q : Prop} (x : Q) (h : Q → P := by intro x_; (with_reducible repeat (first | apply Kd.R_alloc | apply Kd.R_drewN | apply Kd.R_drew)); exact x_) : P := h x
theorem impl_AclLean.y1 {P : Prop} (h : P := by rw [hg]; exact (below_size (zHB))) : P := h
theorem impl_AclLean.y2 {P : Prop} (h : P := by rw [hg]; exact (below_size (zHB))) : P := h
theorem impl_AclLean.y3 {P : Prop} (h : P := by first | (with_reducible assumption) | assumption) : P := h
theorem impl_AclLean.zA {p : Prop} (h : p) : Aside0 p := ⟨h⟩
set_option maxHeartbeats 8000000 in
set_option maxRecDepth 100000 in
theorem impl_AclLean.calls (k : Nat) (A0 : Option Addr) (c0 : Nat) (l0 : List (S54)) (r : List (S54)) (w : World) (hr0 : Kd.C k54 w A0 l0.length l0) (hc0 : l0.length ≤ c0) (h : impl_AclLean.f k l0 = some r) :
  Calls Try.prog 41 #[.slice A0 l0.length c0] w fun e w' => ∃ v0_ : Value, e = .returned (v0_) ∧ Kd.R k54 54 w' w.heap.size (fun _ => True) v0_ r ∧ Below w.heap.size w w' := by
 have hu54 := Try.underlying54
 have hu34 := Try.underlying34
 have HR0 := zA hr0
 have HC0 := zA hc0
 clear hr0 hc0
 have HB := zA (Below.refl w.heap.size w)
 have H : (impl_AclLean.l0 k l0 (([] : List (S54))) l0 (l0.length : Int) 0) = some r := h
 clear h
 obtain ⟨y101, hy101⟩ : ∃ y_ : List (S54), y_ = (([] : List (S54))) := ⟨_, rfl⟩
 replace H : (impl_AclLean.l0 k l0 y101 l0 (l0.length : Int) 0) = some r := by first | (rw [hy101]; with_reducible exact H) | (have H2_ := (Option.bind_some _ _).symm.trans H; rw [hy101]; with_reducible exact H2_) | (have H2_ := (Option.bind_some _ _).symm.trans H; with_reducible exact H2_) | with_reducible exact H | (rw [hy101]; exact H) | exact H
 have Ny101 := zA hy101
 clear hy101
 have H' := zA H
 clear H
 go_enter Try.func41, Try.ntmps41
 go_wp2_with (first | ((with_reducible refine gate_dst (N := 8) rfl ?_); refine Kd.R_lit k54 _ 54 ?hg (N := 8) ?hd (xs := ([] : List (S54))) (inner := []) (ok := fun _ => True) (okp := fun _ => True) ?hr ?hp (fun _ hk => hk) trivial (Below.refl _ _) (Nat.le_refl _) (by simp) ?_; (case hd => rfl); (case hg => rfl); (case hr => first | (go_simp; done) | (go_simp; rfl)); (case hp => exact (Reps.none _ _)); intro v102 w2 ho3 hb hg_ hnew_; clear hg_ hnew_; (first | rw [← Ny101.out] at ho3 | (simp only [Int.reduceToNat] at ho3; rw [← Ny101.out] at ho3)); have n0_ := zA (Kd.R_lower ho3 (below_size (zHB))); have n1_ := zA (below_step (zHB) hb); clear HB; have HO103 := n0_; have HB := n1_; clear n0_ n1_; clear hb ho3))
 go_loopg [3, 11] k (fun kq v3 v11 w' => ∃ (x3_1 : List (S54)) (x11_1 : Int), v11 = .int .i64 x11_1 ∧ Aside0 (impl_AclLean.l0 kq l0 x3_1 l0 (l0.length : Int) x11_1 = some r) ∧ Aside0 (kq ≤ k) ∧ Aside0 (Kd.R k54 54 w' w.heap.size (fun _ => True) v3 x3_1) ∧ Aside0 (Below w.heap.size w w'))
 case atStart => exact ⟨(y101), (0), (by first | rfl | (simp; done) | (simp [*]; done)), H', ⟨Nat.le_refl _⟩, ⟨by refine zk ?_; exact HO103.out⟩, ⟨zHB⟩⟩
 case round =>
  clear H'
  try clear p2
  obtain ⟨x3_1, x11_1, rfl, HA, HK1, HO_3, HB⟩ := hrel
  cases gk with
  | zero => exact absurd HA.out (by simp [impl_AclLean.l0])
  | succ k1 => ?_
  have H := HA.out
  clear HA
  simp only [impl_AclLean.l0] at H
  by_cases c4 : x11_1 < (l0.length : Int)
  ·rw [if_pos c4] at H
   have c4b0 : decide (x11_1 < (l0.length : Int)) = true := decide_eq_true c4
   clear c4
   by_cases c5 : 0 ≤ x11_1
   ·rw [if_pos c5] at H
    have c5b0 : decide (0 ≤ x11_1) = true := decide_eq_true c5
    clear c5
    by_cases c6 : x11_1 < (l0.length : Int)
    ·rw [if_pos c6] at H
     have c6b0 : decide (x11_1 < (l0.length : Int)) = true := decide_eq_true c6
     clear c6
     replace H := Option.bind_eq_some_iff.mp H
     obtain ⟨⟨t106, t107, t108, t109⟩, A70, H⟩ := H
     replace H : (if t109 = true then (if x3_1.length < 2932031007402 then (impl_AclLean.l0 k1 l0 (x3_1 ++ [(⟨(rd_T54 l0 x11_1).f0, (⟨(rd_T54 l0 x11_1).f1.f0, (rd_T54 l0 x11_1).f1.f1⟩ : S26), (⟨(rd_T54 l0 x11_1).f2.f0, (rd_T54 l0 x11_1).f2.f1⟩ : S26), (rd_T54 l0 x11_1).f3⟩ : S54)]) l0 (l0.length : Int) (wrap64 (x11_1 + 1))) else (none)) else (impl_AclLean.l0 k1 l0 x3_1 l0 (l0.length : Int) (wrap64 (x11_1 + 1)))) = some r := H
     have A7 := zA A70
     clear A70
     by_cases c8 : t109 = true
     ·subst c8
      have H1 : (if x3_1.length < 2932031007402 then (impl_AclLean.l0 k1 l0 (x3_1 ++ [(⟨(rd_T54 l0 x11_1).f0, (⟨(rd_T54 l0 x11_1).f1.f0, (rd_T54 l0 x11_1).f1.f1⟩ : S26), (⟨(rd_T54 l0 x11_1).f2.f0, (rd_T54 l0 x11_1).f2.f1⟩ : S26), (rd_T54 l0 x11_1).f3⟩ : S54)]) l0 (l0.length : Int) (wrap64 (x11_1 + 1))) else (none)) = some r := by rw [if_pos rfl] at H; exact H
      clear H
      have H := H1
      clear H1
      by_cases c9 : x3_1.length < 2932031007402
      ·rw [if_pos c9] at H
       have LMc9 := zA c9
       clear c9
       obtain ⟨y111, hy111⟩ : ∃ y_ : List (S54), y_ = (x3_1 ++ [(⟨(rd_T54 l0 x11_1).f0, (⟨(rd_T54 l0 x11_1).f1.f0, (rd_T54 l0 x11_1).f1.f1⟩ : S26), (⟨(rd_T54 l0 x11_1).f2.f0, (rd_T54 l0 x11_1).f2.f1⟩ : S26), (rd_T54 l0 x11_1).f3⟩ : S54)]) := ⟨_, rfl⟩
       replace H : (impl_AclLean.l0 k1 l0 y111 l0 (l0.length : Int) (wrap64 (x11_1 + 1))) = some r := by first | (rw [hy111]; with_reducible exact H) | (have H2_ := (Option.bind_some _ _).symm.trans H; rw [hy111]; with_reducible exact H2_) | (have H2_ := (Option.bind_some _ _).symm.trans H; with_reducible exact H2_) | with_reducible exact H | (rw [hy111]; exact H) | exact H
       have Ny111 := zA hy111
       clear hy111
       have H' := zA H
       clear H
       have p104 : 0 ≤ (x11_1 : Int) := of_decide_eq_true y3 
       have q104 : x11_1 < (l0.length : Int) := of_decide_eq_true y3 
       obtain ⟨ad104, e104, hx104_0, hx104_1, hx104_2, hx104_3, hx104_4, hx104_5⟩ := at_T54 HR0.out x11_1 p104 q104
       cases e104
       replace hx104_0 := (HB.out.cell (World.block_lt_of_cell? w _ hx104_0)).trans hx104_0
       replace hx104_1 := (HB.out.cell (World.block_lt_of_cell? w _ hx104_1)).trans hx104_1
       replace hx104_2 := (HB.out.cell (World.block_lt_of_cell? w _ hx104_2)).trans hx104_2
       replace hx104_3 := (HB.out.cell (World.block_lt_of_cell? w _ hx104_3)).trans hx104_3
       replace hx104_4 := (HB.out.cell (World.block_lt_of_cell? w _ hx104_4)).trans hx104_4
       replace hx104_5 := (HB.out.cell (World.block_lt_of_cell? w _ hx104_5)).trans hx104_5
       replace p104 := eq_true p104
       replace q104 := eq_true q104
       go_wp2_with (first | ((with_reducible refine gate_dst (N := 5) rfl ?_); refine box_event ?hg (N := 5) ?hd (cs := #[.bool false, .int .i64 0, .int .i64 0, .int .i64 0, .int .i64 0, .int .i64 0]) (t := 54) ?hr ?_; (case hd => rfl); (case hg => rfl); (case hr => first | (go_simp; done) | (go_simp; rfl)); intro gb105 hg w10 hbox hb; have n0_ := zA (Kd.R_below (Kd.R_elderB (zr HO_3.out) gb105 (Nat.le_of_eq hg.symm)) hb); have n1_ := zA (below_step (zHB) hb); have n2_ := zA (hbox); have n3_ := zA ((show w.heap.size ≤ gb105 from y1)); have n4_ := zA ((show w.heap.size ≤ gb105 from y1)); clear HO_3; clear HB; have HO_3 := n0_; have HB := n1_; have BK105 := n2_; have GW105 := n3_; have GE105 := n4_; clear n0_ n1_ n2_ n3_ n4_; clear hb hbox hg; have hcz11_0 : w10.cell? ⟨gb105, 0, none⟩ = some (.bool false) := (blk_cell BK105.out 0).trans rfl; have hcz11_1 : w10.cell? ⟨gb105, 1, none⟩ = some (.int .i64 0) := (blk_cell BK105.out 1).trans rfl; have hcz11_2 : w10.cell? ⟨gb105, 2, none⟩ = some (.int .i64 0) := (blk_cell BK105.out 2).trans rfl; have hcz11_3 : w10.cell? ⟨gb105, 3, none⟩ = some (.int .i64 0) := (blk_cell BK105.out 3).trans rfl; have hcz11_4 : w10.cell? ⟨gb105, 4, none⟩ = some (.int .i64 0) := (blk_cell BK105.out 4).trans rfl; have hcz11_5 : w10.cell? ⟨gb105, 5, none⟩ = some (.int .i64 0) := (blk_cell BK105.out 5).trans rfl; have hfz11_0 := blk_frozen BK105.out 0; have hfz11_1 := blk_frozen BK105.out 1; have hfz11_2 := blk_frozen BK105.out 2; have hfz11_3 := blk_frozen BK105.out 3; have hfz11_4 := blk_frozen BK105.out 4; have hfz11_5 := blk_frozen BK105.out 5) | ((with_reducible refine gate_callee (f := 45) rfl ?_); refine goesL_ (some 19) rfl rfl Try.func45 (by kernel_rfl) rfl #[.slice (some ad104) l0.length c0, .int .i64 x11_1] rfl (by (try simp only [List.map_toArray, List.map_cons, List.map_nil]); first | done | rfl | (simp only [List.length_drop, List.length_take]; rfl)) ?_; (with_reducible refine (impl_AclWitness.calls _ _ l0 x11_1 t106 t107 t108 true _ ?side1 ?side2 A7.out).mono ?_); (case side1 => exact Kd.C_below HR0.out (zHB)); (case side2 => exact HC0.out); rintro e w12 ⟨rfl, hb⟩; refine ⟨_, rfl, ?_⟩; have n0_ := zA (Kd.R_below (by refine zk ?_; exact (Kd.R_mono (Kd.R_far (p := ⟨gb105, 5, none⟩) (Kd.R_far (p := ⟨gb105, 4, none⟩) (Kd.R_far (p := ⟨gb105, 3, none⟩) (Kd.R_far (p := ⟨gb105, 2, none⟩) (Kd.R_far (p := ⟨gb105, 1, none⟩) (Kd.R_far (p := ⟨gb105, 0, none⟩) (Kd.R_mono HO_3.out (fun k_ hk => (⟨hk, hk.2⟩ : _ ∧ k_ ≠ gb105))) (fun _ hk => hk.2) (.bool ((rd_T54 l0 x11_1).f0))) (fun _ hk => hk.2) (.int .i64 ((rd_T54 l0 x11_1).f1.f0))) (fun _ hk => hk.2) (.int .i64 ((rd_T54 l0 x11_1).f1.f1))) (fun _ hk => hk.2) (.int .i64 ((rd_T54 l0 x11_1).f2.f0))) (fun _ hk => hk.2) (.int .i64 ((rd_T54 l0 x11_1).f2.f1))) (fun _ hk => hk.2) (.int .i64 ((rd_T54 l0 x11_1).f3))) (fun _ h_ => h_.1))) hb); have n1_ := zA (blk_below (g := gb105) (o := .cells #[.bool ((rd_T54 l0 x11_1).f0), .int .i64 ((rd_T54 l0 x11_1).f1.f0), .int .i64 ((rd_T54 l0 x11_1).f1.f1), .int .i64 ((rd_T54 l0 x11_1).f2.f0), .int .i64 ((rd_T54 l0 x11_1).f2.f1), .int .i64 ((rd_T54 l0 x11_1).f3)] 54 (0, 0)) (by refine zq ?_; refine blk_put (cs := #[.bool ((rd_T54 l0 x11_1).f0), .int .i64 ((rd_T54 l0 x11_1).f1.f0), .int .i64 ((rd_T54 l0 x11_1).f1.f1), .int .i64 ((rd_T54 l0 x11_1).f2.f0), .int .i64 ((rd_T54 l0 x11_1).f2.f1), .int .i64 0]) ?_ 5 _ rfl; refine zq ?_; refine blk_put (cs := #[.bool ((rd_T54 l0 x11_1).f0), .int .i64 ((rd_T54 l0 x11_1).f1.f0), .int .i64 ((rd_T54 l0 x11_1).f1.f1), .int .i64 ((rd_T54 l0 x11_1).f2.f0), .int .i64 0, .int .i64 0]) ?_ 4 _ rfl; refine zq ?_; refine blk_put (cs := #[.bool ((rd_T54 l0 x11_1).f0), .int .i64 ((rd_T54 l0 x11_1).f1.f0), .int .i64 ((rd_T54 l0 x11_1).f1.f1), .int .i64 0, .int .i64 0, .int .i64 0]) ?_ 3 _ rfl; refine zq ?_; refine blk_put (cs := #[.bool ((rd_T54 l0 x11_1).f0), .int .i64 ((rd_T54 l0 x11_1).f1.f0), .int .i64 0, .int .i64 0, .int .i64 0, .int .i64 0]) ?_ 2 _ rfl; refine zq ?_; refine blk_put (cs := #[.bool ((rd_T54 l0 x11_1).f0), .int .i64 0, .int .i64 0, .int .i64 0, .int .i64 0, .int .i64 0]) ?_ 1 _ rfl; refine zq ?_; refine blk_put (cs := #[.bool false, .int .i64 0, .int .i64 0, .int .i64 0, .int .i64 0, .int .i64 0]) ?_ 0 _ rfl; refine zq ?_; exact BK105.out) hb); have n2_ := zA (below_step (zHB) hb); clear HO_3; clear BK105; clear HB; have HO_3 := n0_; have BK105 := n1_; have HB := n2_; clear n0_ n1_ n2_; (try clear hb); (try clear hb2); (try clear hk); (try clear hi)) | ((with_reducible refine gate_dst (N := 6) rfl ?_); refine box_event ?hg (N := 6) ?hd (cs := #[.int .i64 0, .int .i64 0, .int .i64 0]) (t := 34) ?hr ?_; (case hd => rfl); (case hg => rfl); (case hr => first | (go_simp; done) | (go_simp; rfl)); intro gb110 hg w13 hbox hb; have n0_ := zA (Kd.R_below (zr HO_3.out) hb); have n1_ := zA (blk_below (g := gb105) (o := .cells #[.bool ((rd_T54 l0 x11_1).f0), .int .i64 ((rd_T54 l0 x11_1).f1.f0), .int .i64 ((rd_T54 l0 x11_1).f1.f1), .int .i64 ((rd_T54 l0 x11_1).f2.f0), .int .i64 ((rd_T54 l0 x11_1).f2.f1), .int .i64 ((rd_T54 l0 x11_1).f3)] 54 (0, 0)) (zb BK105.out) hb); have n2_ := zA (below_step (zHB) hb); have n3_ := zA (hbox); have n4_ := zA ((show w.heap.size ≤ gb110 from y2)); have n5_ := zA ((show w.heap.size ≤ gb110 from y2)); have n6_ := zA ((by rw [hg]; exact Nat.ne_of_lt (blk_lt (g := gb105) (o := .cells #[.bool ((rd_T54 l0 x11_1).f0), .int .i64 ((rd_T54 l0 x11_1).f1.f0), .int .i64 ((rd_T54 l0 x11_1).f1.f1), .int .i64 ((rd_T54 l0 x11_1).f2.f0), .int .i64 ((rd_T54 l0 x11_1).f2.f1), .int .i64 ((rd_T54 l0 x11_1).f3)] 54 (0, 0)) (zb BK105.out)) : gb105 ≠ gb110)); have n7_ := zA ((by rw [hg]; exact Nat.ne_of_gt (blk_lt (g := gb105) (o := .cells #[.bool ((rd_T54 l0 x11_1).f0), .int .i64 ((rd_T54 l0 x11_1).f1.f0), .int .i64 ((rd_T54 l0 x11_1).f1.f1), .int .i64 ((rd_T54 l0 x11_1).f2.f0), .int .i64 ((rd_T54 l0 x11_1).f2.f1), .int .i64 ((rd_T54 l0 x11_1).f3)] 54 (0, 0)) (zb BK105.out)) : gb110 ≠ gb105)); clear HO_3; clear BK105; clear HB; have HO_3 := n0_; have BK105 := n1_; have HB := n2_; have BK110 := n3_; have GW110 := n4_; have GE110 := n5_; have NB105_110 := n6_; have NB110_105 := n7_; clear n0_ n1_ n2_ n3_ n4_ n5_ n6_ n7_; clear hb hbox hg; have hnb14 := NB110_105.out; have hnc14 := NB105_110.out; have hcz15_0 : w13.cell? ⟨gb110, 0, none⟩ = some (.int .i64 0) := (blk_cell BK110.out 0).trans rfl; have hcz15_1 : w13.cell? ⟨gb110, 1, none⟩ = some (.int .i64 0) := (blk_cell BK110.out 1).trans rfl; have hcz15_2 : w13.cell? ⟨gb110, 2, none⟩ = some (.int .i64 0) := (blk_cell BK110.out 2).trans rfl; have hfz15_0 := blk_frozen BK110.out 0; have hfz15_1 := blk_frozen BK110.out 1; have hfz15_2 := blk_frozen BK110.out 2; have hcz16_0 : w13.cell? ⟨gb105, 0, none⟩ = some (.bool ((rd_T54 l0 x11_1).f0)) := (blk_cell BK105.out 0).trans rfl; have hcz16_1 : w13.cell? ⟨gb105, 1, none⟩ = some (.int .i64 ((rd_T54 l0 x11_1).f1.f0)) := (blk_cell BK105.out 1).trans rfl; have hcz16_2 : w13.cell? ⟨gb105, 2, none⟩ = some (.int .i64 ((rd_T54 l0 x11_1).f1.f1)) := (blk_cell BK105.out 2).trans rfl; have hcz16_3 : w13.cell? ⟨gb105, 3, none⟩ = some (.int .i64 ((rd_T54 l0 x11_1).f2.f0)) := (blk_cell BK105.out 3).trans rfl; have hcz16_4 : w13.cell? ⟨gb105, 4, none⟩ = some (.int .i64 ((rd_T54 l0 x11_1).f2.f1)) := (blk_cell BK105.out 4).trans rfl; have hcz16_5 : w13.cell? ⟨gb105, 5, none⟩ = some (.int .i64 ((rd_T54 l0 x11_1).f3)) := (blk_cell BK105.out 5).trans rfl; have hfz16_0 := blk_frozen BK105.out 0; have hfz16_1 := blk_frozen BK105.out 1; have hfz16_2 := blk_frozen BK105.out 2; have hfz16_3 := blk_frozen BK105.out 3; have hfz16_4 := blk_frozen BK105.out 4; have hfz16_5 := blk_frozen BK105.out 5) | ((with_reducible refine gate_builtin (b := .append) (xs := #[.tmp 23, .tmp 25]) rfl ?_); at_builtin; refine Kd.R_append k54 (w0 := w) w.heap.size rfl (.tmp 23) (.tmp 25) 30 54 (.agg #[(.bool false), (.int .i64 0), (.int .i64 0), (.int .i64 0), (.int .i64 0), (.int .i64 0)]) 48 rfl Try.underlying30 info54 rfl (by decide) (by omega) u3 x3_1 (⟨(rd_T54 l0 x11_1).f0, (⟨(rd_T54 l0 x11_1).f1.f0, (rd_T54 l0 x11_1).f1.f1⟩ : S26), (⟨(rd_T54 l0 x11_1).f2.f0, (rd_T54 l0 x11_1).f2.f1⟩ : S26), (rd_T54 l0 x11_1).f3⟩ : S54) [.bool ((rd_T54 l0 x11_1).f0), .int .i64 ((rd_T54 l0 x11_1).f1.f0), .int .i64 ((rd_T54 l0 x11_1).f1.f1), .int .i64 ((rd_T54 l0 x11_1).f2.f0), .int .i64 ((rd_T54 l0 x11_1).f2.f1), .int .i64 ((rd_T54 l0 x11_1).f3)] (fun k_ => k_ ≠ gb105) (fun _ => False) rfl (by first | (go_simp; done) | (go_simp; rfl)) ?aP (fun _ hk => hk.elim) ?aF ?aO ?aB ?aS ?aL ?_; (case aP => exact k54_mkM _ _ _ (⟨(rd_T54 l0 x11_1).f0, (⟨(rd_T54 l0 x11_1).f1.f0, (rd_T54 l0 x11_1).f1.f1⟩ : S26), (⟨(rd_T54 l0 x11_1).f2.f0, (rd_T54 l0 x11_1).f2.f1⟩ : S26), (rd_T54 l0 x11_1).f3⟩ : S54)); (case aB => exact (zHB)); (case aF => exact (fun k_ hk => Kd.freshB (g := gb105) (o := .cells #[.bool ((rd_T54 l0 x11_1).f0), .int .i64 ((rd_T54 l0 x11_1).f1.f0), .int .i64 ((rd_T54 l0 x11_1).f1.f1), .int .i64 ((rd_T54 l0 x11_1).f2.f0), .int .i64 ((rd_T54 l0 x11_1).f2.f1), .int .i64 ((rd_T54 l0 x11_1).f3)] 54 (0, 0)) (by refine zq ?_; refine blk_far ?_ NB105_110.out _; refine zq ?_; refine blk_far ?_ NB105_110.out _; refine zq ?_; refine blk_far ?_ NB105_110.out _; refine zq ?_; exact BK105.out) k_ hk)); (case aO => exact (by refine zk ?_; exact Kd.R_mono (Kd.R_far (p := ⟨gb110, 2, none⟩) (Kd.R_far (p := ⟨gb110, 1, none⟩) (Kd.R_far (p := ⟨gb110, 0, none⟩) (Kd.R_types HO_3.out BK110.out (by decide)) (fun _ hk => hk.2) (.int .i64 t106)) (fun _ hk => hk.2) (.int .i64 t107)) (fun _ hk => hk.2) (.int .i64 t108)) (fun _ hk => hk.1.2))); (case aS => exact (below_size (zHB))); (case aL => have := LMc9.out; omega); intro v112 w17 ho hb hg hat; rw [← Ny111.out] at ho; have n0_ := zA (blk_grown (g := gb105) (o := .cells #[.bool ((rd_T54 l0 x11_1).f0), .int .i64 ((rd_T54 l0 x11_1).f1.f0), .int .i64 ((rd_T54 l0 x11_1).f1.f1), .int .i64 ((rd_T54 l0 x11_1).f2.f0), .int .i64 ((rd_T54 l0 x11_1).f2.f1), .int .i64 ((rd_T54 l0 x11_1).f3)] 54 (0, 0)) (by refine zq ?_; refine blk_far ?_ NB105_110.out _; refine zq ?_; refine blk_far ?_ NB105_110.out _; refine zq ?_; refine blk_far ?_ NB105_110.out _; refine zq ?_; exact BK105.out) hg (Kd.R_away HO_3.out (fun _ hk => hk.2))); have n1_ := zA (blk_grown (g := gb110) (o := .cells #[.int .i64 t106, .int .i64 t107, .int .i64 t108] 34 (0, 0)) (by refine zq ?_; refine blk_put (cs := #[.int .i64 t106, .int .i64 t107, .int .i64 0]) ?_ 2 _ rfl; refine zq ?_; refine blk_put (cs := #[.int .i64 t106, .int .i64 0, .int .i64 0]) ?_ 1 _ rfl; refine zq ?_; refine blk_put (cs := #[.int .i64 0, .int .i64 0, .int .i64 0]) ?_ 0 _ rfl; refine zq ?_; exact BK110.out) hg (Kd.R_ne HO_3.out BK110.out (by decide))); have n2_ := zA (hb); have n3_ := zA (ho); clear BK105; clear BK110; clear HB; clear HO_3; have BK105 := n0_; have BK110 := n1_; have HB := n2_; have HO113 := n3_; clear n0_ n1_ n2_ n3_; clear ho hb hg hat))
       go_roundg k1
       case measure => have := HK1.out; omega
       case rel => exact ⟨(y111), (wrap64 (x11_1 + 1)), (by first | rfl | (simp; done) | (simp [*]; done)), H', ⟨by have := HK1.out; omega⟩, ⟨by refine zk ?_; exact Kd.R_mono HO113.out (fun _ hk => trivial)⟩, ⟨zHB⟩⟩
      rw [if_neg c9] at H
      exact absurd H (by simp)
     replace c8 := Bool.eq_false_iff.mpr c8
     subst c8
     have H1 : (impl_AclLean.l0 k1 l0 x3_1 l0 (l0.length : Int) (wrap64 (x11_1 + 1))) = some r := by rw [if_neg (show ¬ (false = true) by decide)] at H; exact H
     clear H
     have H := H1
     clear H1
     have H' := zA H
     clear H
     have p104 : 0 ≤ (x11_1 : Int) := of_decide_eq_true y3 
     have q104 : x11_1 < (l0.length : Int) := of_decide_eq_true y3 
     obtain ⟨ad104, e104, hx104_0, hx104_1, hx104_2, hx104_3, hx104_4, hx104_5⟩ := at_T54 HR0.out x11_1 p104 q104
     cases e104
     replace hx104_0 := (HB.out.cell (World.block_lt_of_cell? w _ hx104_0)).trans hx104_0
     replace hx104_1 := (HB.out.cell (World.block_lt_of_cell? w _ hx104_1)).trans hx104_1
     replace hx104_2 := (HB.out.cell (World.block_lt_of_cell? w _ hx104_2)).trans hx104_2
     replace hx104_3 := (HB.out.cell (World.block_lt_of_cell? w _ hx104_3)).trans hx104_3
     replace hx104_4 := (HB.out.cell (World.block_lt_of_cell? w _ hx104_4)).trans hx104_4
     replace hx104_5 := (HB.out.cell (World.block_lt_of_cell? w _ hx104_5)).trans hx104_5
     replace p104 := eq_true p104
     replace q104 := eq_true q104
     go_wp2_with (first | ((with_reducible refine gate_dst (N := 5) rfl ?_); refine box_event ?hg (N := 5) ?hd (cs := #[.bool false, .int .i64 0, .int .i64 0, .int .i64 0, .int .i64 0, .int .i64 0]) (t := 54) ?hr ?_; (case hd => rfl); (case hg => rfl); (case hr => first | (go_simp; done) | (go_simp; rfl)); intro gb105 hg w18 hbox hb; have n0_ := zA (Kd.R_below (Kd.R_elderB (zr HO_3.out) gb105 (Nat.le_of_eq hg.symm)) hb); have n1_ := zA (below_step (zHB) hb); have n2_ := zA (hbox); have n3_ := zA ((show w.heap.size ≤ gb105 from y1)); have n4_ := zA ((show w.heap.size ≤ gb105 from y1)); clear HO_3; clear HB; have HO_3 := n0_; have HB := n1_; have BK105 := n2_; have GW105 := n3_; have GE105 := n4_; clear n0_ n1_ n2_ n3_ n4_; clear hb hbox hg; have hcz19_0 : w18.cell? ⟨gb105, 0, none⟩ = some (.bool false) := (blk_cell BK105.out 0).trans rfl; have hcz19_1 : w18.cell? ⟨gb105, 1, none⟩ = some (.int .i64 0) := (blk_cell BK105.out 1).trans rfl; have hcz19_2 : w18.cell? ⟨gb105, 2, none⟩ = some (.int .i64 0) := (blk_cell BK105.out 2).trans rfl; have hcz19_3 : w18.cell? ⟨gb105, 3, none⟩ = some (.int .i64 0) := (blk_cell BK105.out 3).trans rfl; have hcz19_4 : w18.cell? ⟨gb105, 4, none⟩ = some (.int .i64 0) := (blk_cell BK105.out 4).trans rfl; have hcz19_5 : w18.cell? ⟨gb105, 5, none⟩ = some (.int .i64 0) := (blk_cell BK105.out 5).trans rfl; have hfz19_0 := blk_frozen BK105.out 0; have hfz19_1 := blk_frozen BK105.out 1; have hfz19_2 := blk_frozen BK105.out 2; have hfz19_3 := blk_frozen BK105.out 3; have hfz19_4 := blk_frozen BK105.out 4; have hfz19_5 := blk_frozen BK105.out 5) | ((with_reducible refine gate_callee (f := 45) rfl ?_); refine goesL_ (some 19) rfl rfl Try.func45 (by kernel_rfl) rfl #[.slice (some ad104) l0.length c0, .int .i64 x11_1] rfl (by (try simp only [List.map_toArray, List.map_cons, List.map_nil]); first | done | rfl | (simp only [List.length_drop, List.length_take]; rfl)) ?_; (with_reducible refine (impl_AclWitness.calls _ _ l0 x11_1 t106 t107 t108 false _ ?side1 ?side2 A7.out).mono ?_); (case side1 => exact Kd.C_below HR0.out (zHB)); (case side2 => exact HC0.out); rintro e w20 ⟨rfl, hb⟩; refine ⟨_, rfl, ?_⟩; have n0_ := zA (Kd.R_below (by refine zk ?_; exact (Kd.R_mono (Kd.R_far (p := ⟨gb105, 5, none⟩) (Kd.R_far (p := ⟨gb105, 4, none⟩) (Kd.R_far (p := ⟨gb105, 3, none⟩) (Kd.R_far (p := ⟨gb105, 2, none⟩) (Kd.R_far (p := ⟨gb105, 1, none⟩) (Kd.R_far (p := ⟨gb105, 0, none⟩) (Kd.R_mono HO_3.out (fun k_ hk => (⟨hk, hk.2⟩ : _ ∧ k_ ≠ gb105))) (fun _ hk => hk.2) (.bool ((rd_T54 l0 x11_1).f0))) (fun _ hk => hk.2) (.int .i64 ((rd_T54 l0 x11_1).f1.f0))) (fun _ hk => hk.2) (.int .i64 ((rd_T54 l0 x11_1).f1.f1))) (fun _ hk => hk.2) (.int .i64 ((rd_T54 l0 x11_1).f2.f0))) (fun _ hk => hk.2) (.int .i64 ((rd_T54 l0 x11_1).f2.f1))) (fun _ hk => hk.2) (.int .i64 ((rd_T54 l0 x11_1).f3))) (fun _ h_ => h_.1))) hb); have n1_ := zA (blk_below (g := gb105) (o := .cells #[.bool ((rd_T54 l0 x11_1).f0), .int .i64 ((rd_T54 l0 x11_1).f1.f0), .int .i64 ((rd_T54 l0 x11_1).f1.f1), .int .i64 ((rd_T54 l0 x11_1).f2.f0), .int .i64 ((rd_T54 l0 x11_1).f2.f1), .int .i64 ((rd_T54 l0 x11_1).f3)] 54 (0, 0)) (by refine zq ?_; refine blk_put (cs := #[.bool ((rd_T54 l0 x11_1).f0), .int .i64 ((rd_T54 l0 x11_1).f1.f0), .int .i64 ((rd_T54 l0 x11_1).f1.f1), .int .i64 ((rd_T54 l0 x11_1).f2.f0), .int .i64 ((rd_T54 l0 x11_1).f2.f1), .int .i64 0]) ?_ 5 _ rfl; refine zq ?_; refine blk_put (cs := #[.bool ((rd_T54 l0 x11_1).f0), .int .i64 ((rd_T54 l0 x11_1).f1.f0), .int .i64 ((rd_T54 l0 x11_1).f1.f1), .int .i64 ((rd_T54 l0 x11_1).f2.f0), .int .i64 0, .int .i64 0]) ?_ 4 _ rfl; refine zq ?_; refine blk_put (cs := #[.bool ((rd_T54 l0 x11_1).f0), .int .i64 ((rd_T54 l0 x11_1).f1.f0), .int .i64 ((rd_T54 l0 x11_1).f1.f1), .int .i64 0, .int .i64 0, .int .i64 0]) ?_ 3 _ rfl; refine zq ?_; refine blk_put (cs := #[.bool ((rd_T54 l0 x11_1).f0), .int .i64 ((rd_T54 l0 x11_1).f1.f0), .int .i64 0, .int .i64 0, .int .i64 0, .int .i64 0]) ?_ 2 _ rfl; refine zq ?_; refine blk_put (cs := #[.bool ((rd_T54 l0 x11_1).f0), .int .i64 0, .int .i64 0, .int .i64 0, .int .i64 0, .int .i64 0]) ?_ 1 _ rfl; refine zq ?_; refine blk_put (cs := #[.bool false, .int .i64 0, .int .i64 0, .int .i64 0, .int .i64 0, .int .i64 0]) ?_ 0 _ rfl; refine zq ?_; exact BK105.out) hb); have n2_ := zA (below_step (zHB) hb); clear HO_3; clear BK105; clear HB; have HO_3 := n0_; have BK105 := n1_; have HB := n2_; clear n0_ n1_ n2_; (try clear hb); (try clear hb2); (try clear hk); (try clear hi)) | ((with_reducible refine gate_dst (N := 6) rfl ?_); refine box_event ?hg (N := 6) ?hd (cs := #[.int .i64 0, .int .i64 0, .int .i64 0]) (t := 34) ?hr ?_; (case hd => rfl); (case hg => rfl); (case hr => first | (go_simp; done) | (go_simp; rfl)); intro gb110 hg w21 hbox hb; have n0_ := zA (Kd.R_below (zr HO_3.out) hb); have n1_ := zA (blk_below (g := gb105) (o := .cells #[.bool ((rd_T54 l0 x11_1).f0), .int .i64 ((rd_T54 l0 x11_1).f1.f0), .int .i64 ((rd_T54 l0 x11_1).f1.f1), .int .i64 ((rd_T54 l0 x11_1).f2.f0), .int .i64 ((rd_T54 l0 x11_1).f2.f1), .int .i64 ((rd_T54 l0 x11_1).f3)] 54 (0, 0)) (zb BK105.out) hb); have n2_ := zA (below_step (zHB) hb); have n3_ := zA (hbox); have n4_ := zA ((show w.heap.size ≤ gb110 from y2)); have n5_ := zA ((show w.heap.size ≤ gb110 from y2)); have n6_ := zA ((by rw [hg]; exact Nat.ne_of_lt (blk_lt (g := gb105) (o := .cells #[.bool ((rd_T54 l0 x11_1).f0), .int .i64 ((rd_T54 l0 x11_1).f1.f0), .int .i64 ((rd_T54 l0 x11_1).f1.f1), .int .i64 ((rd_T54 l0 x11_1).f2.f0), .int .i64 ((rd_T54 l0 x11_1).f2.f1), .int .i64 ((rd_T54 l0 x11_1).f3)] 54 (0, 0)) (zb BK105.out)) : gb105 ≠ gb110)); have n7_ := zA ((by rw [hg]; exact Nat.ne_of_gt (blk_lt (g := gb105) (o := .cells #[.bool ((rd_T54 l0 x11_1).f0), .int .i64 ((rd_T54 l0 x11_1).f1.f0), .int .i64 ((rd_T54 l0 x11_1).f1.f1), .int .i64 ((rd_T54 l0 x11_1).f2.f0), .int .i64 ((rd_T54 l0 x11_1).f2.f1), .int .i64 ((rd_T54 l0 x11_1).f3)] 54 (0, 0)) (zb BK105.out)) : gb110 ≠ gb105)); clear HO_3; clear BK105; clear HB; have HO_3 := n0_; have BK105 := n1_; have HB := n2_; have BK110 := n3_; have GW110 := n4_; have GE110 := n5_; have NB105_110 := n6_; have NB110_105 := n7_; clear n0_ n1_ n2_ n3_ n4_ n5_ n6_ n7_; clear hb hbox hg; have hnb22 := NB110_105.out; have hnc22 := NB105_110.out; have hcz23_0 : w21.cell? ⟨gb110, 0, none⟩ = some (.int .i64 0) := (blk_cell BK110.out 0).trans rfl; have hcz23_1 : w21.cell? ⟨gb110, 1, none⟩ = some (.int .i64 0) := (blk_cell BK110.out 1).trans rfl; have hcz23_2 : w21.cell? ⟨gb110, 2, none⟩ = some (.int .i64 0) := (blk_cell BK110.out 2).trans rfl; have hfz23_0 := blk_frozen BK110.out 0; have hfz23_1 := blk_frozen BK110.out 1; have hfz23_2 := blk_frozen BK110.out 2))
     go_roundg k1
     case measure => have := HK1.out; omega
     case rel => exact ⟨(x3_1), (wrap64 (x11_1 + 1)), (by first | rfl | (simp; done) | (simp [*]; done)), H', ⟨by have := HK1.out; omega⟩, ⟨by refine zk ?_; exact Kd.R_mono (Kd.R_far (p := ⟨gb110, 2, none⟩) (Kd.R_far (p := ⟨gb110, 1, none⟩) (Kd.R_far (p := ⟨gb110, 0, none⟩) (Kd.R_types HO_3.out BK110.out (by decide)) (fun _ hk => hk.2) (.int .i64 t106)) (fun _ hk => hk.2) (.int .i64 t107)) (fun _ hk => hk.2) (.int .i64 t108)) (fun _ hk => trivial)⟩, ⟨zHB⟩⟩
    rw [if_neg c6] at H
    exact absurd H (by simp)
   rw [if_neg c5] at H
   exact absurd H (by simp)
  rw [if_neg c4] at H
  have c4b0 : decide (x11_1 < (l0.length : Int)) = false := decide_eq_false c4
  clear c4
  obtain rfl := Option.some.inj H
  go_wp2
  go_ret
  exact ⟨_, by first | rfl | (simp [errW_none, errW_some] <;> rfl) | (simp [*, errW_none, errW_some] <;> rfl), by refine zk ?_; exact HO_3.out, zHB⟩
end Go.Proofs.Ytnakanjhdcakhaa.Q
namespace Go.Proofs.Ytnakanjhdcakhaa.Q
open Go.RowKit Go.Proofs.YtnakanjhdcakhaaW.PrintWords Go.Proofs.YtnakanjhdcakhaaW.PrintLast Go.Proofs.YtnakanjhdcakhaaW.PrintMore
attribute [local go_sem] max2_int min2_int max_two min_two max_three min_three max_four min_four   -- for this text's walks alone
set_option linter.unusedVariables false
set_option linter.unusedSimpArgs false
theorem eqA26 (d : Nat) (w : World) (x0 y0 : Int) (x1 y1 : Int) :
    (Op.equalIn (d + 2) 26 (.agg #[.int .i64 x0, .int .i64 x1]) (.agg #[.int .i64 y0, .int .i64 y1])).run Try.prog w = .ok (x0 == y0 && (x1 == y1)) w := by
  refine eqA_of Try.underlying26 (by kernel_rfl) ?_
  refine eqf_cons (by rfl) (by go_simp; rfl) (by go_simp; rfl) (by go_simp) ?_
  exact eqf_last (by rfl) (by go_simp; rfl) (by go_simp; rfl) (by go_simp)
end Go.Proofs.Ytnakanjhdcakhaa.Q
namespace Go.Proofs.Ytnakanjhdcakhaa.Q
open Go.RowKit Go.Proofs.YtnakanjhdcakhaaW.PrintWords Go.Proofs.YtnakanjhdcakhaaW.PrintLast Go.Proofs.YtnakanjhdcakhaaW.PrintMore
attribute [local go_sem] max2_int min2_int max_two min_two max_three min_three max_four min_four   -- for this text's walks alone
set_option linter.unusedVariables false
set_option linter.unusedSimpArgs false
theorem eqA54 (d : Nat) (w : World) (x0 y0 : Bool) (x1 y1 : Int) (x2 y2 : Int) (x3 y3 : Int) (x4 y4 : Int) (x5 y5 : Int) :
    (Op.equalIn (d + 3) 54 (.agg #[.bool x0, .int .i64 x1, .int .i64 x2, .int .i64 x3, .int .i64 x4, .int .i64 x5]) (.agg #[.bool y0, .int .i64 y1, .int .i64 y2, .int .i64 y3, .int .i64 y4, .int .i64 y5])).run Try.prog w = .ok (x0 == y0 && ((x1 == y1 && (x2 == y2)) && ((x3 == y3 && (x4 == y4)) && (x5 == y5)))) w := by
  refine eqA_of Try.underlying54 (by kernel_rfl) ?_
  refine eqf_cons (by rfl) (by go_simp; rfl) (by go_simp; rfl) (by go_simp) ?_
  refine eqf_cons (by rfl) (by go_simp) (by go_simp) (eqA26 (d + 0) w _ _ _ _) ?_
  refine eqf_cons (by rfl) (by go_simp) (by go_simp) (eqA26 (d + 0) w _ _ _ _) ?_
  exact eqf_last (by rfl) (by go_simp; rfl) (by go_simp; rfl) (by go_simp)
end Go.Proofs.Ytnakanjhdcakhaa.Q
namespace Go.Proofs.Ytnakanjhdcakhaa.Q
open Go.RowKit Go.Proofs.YtnakanjhdcakhaaW.PrintWords Go.Proofs.YtnakanjhdcakhaaW.PrintLast Go.Proofs.YtnakanjhdcakhaaW.PrintMore
attribute [local go_sem] max2_int min2_int max_two min_two max_three min_three max_four min_four   -- for this text's walks alone
set_option linter.unusedVariables false
set_option linter.unusedSimpArgs false
attribute [local go_sem high] eqA54
def laws_waRules.l0 : Nat → List (S54) → List (S54) → Int → Option (Bool)
  | 0, _, _, _ => none
  | k + 1, x0, x1, x5 => if x5 < (x0.length : Int) then (if 0 ≤ x5 then (if x5 < (x1.length : Int) then (if (!(((rd_T54 x0 x5).f0) == ((rd_T54 x1 x5).f0)) || ((!(((rd_T54 x0 x5).f1.f0) == ((rd_T54 x1 x5).f1.f0)) || (!(((rd_T54 x0 x5).f1.f1) == ((rd_T54 x1 x5).f1.f1)))) || ((!(((rd_T54 x0 x5).f2.f0) == ((rd_T54 x1 x5).f2.f0)) || (!(((rd_T54 x0 x5).f2.f1) == ((rd_T54 x1 x5).f2.f1)))) || (!(((rd_T54 x0 x5).f3) == ((rd_T54 x1 x5).f3)))))) = true then (some false) else (laws_waRules.l0 k x0 x1 (wrap64 (x5 + 1)))) else (none)) else (none)) else (some true)
def laws_waRules.f (k : Nat) (l0 : List (S54)) (l1 : List (S54)) : Option (Bool) := if (l0.length : Int) = (l1.length : Int) then (laws_waRules.l0 k l0 l1 0) else (some false)
theorem laws_waRules.y1 {P : Prop} (h : P := by first | (with_reducible assumption) | assumption) : P := h
set_option maxHeartbeats 8000000 in
set_option maxRecDepth 100000 in
theorem laws_waRules.calls (k : Nat) (A0 : Option Addr) (c0 : Nat) (l0 : List (S54)) (A1 : Option Addr) (c1 : Nat) (l1 : List (S54)) (r : Bool) (w : World) (hr0 : Kd.C k54 w A0 l0.length l0) (hc0 : l0.length ≤ c0) (hr1 : Kd.C k54 w A1 l1.length l1) (hc1 : l1.length ≤ c1) (h : laws_waRules.f k l0 l1 = some r) :
  Calls Try.prog 42 #[.slice A0 l0.length c0, .slice A1 l1.length c1] w fun e w' => e = .returned (.bool r) ∧ Drawn0 w w' := by
 have hu54 := Try.underlying54
 have HR0 := Aside0.mk hr0
 have HC0 := Aside0.mk hc0
 clear hr0 hc0
 have HR1 := Aside0.mk hr1
 have HC1 := Aside0.mk hc1
 clear hr1 hc1
 have H : (if (l0.length : Int) = (l1.length : Int) then (laws_waRules.l0 k l0 l1 0) else (some false)) = some r := h
 clear h
 by_cases c3 : (l0.length : Int) = (l1.length : Int)
 ·rw [if_pos c3] at H
  have c3b0 : ((l0.length : Int) == (l1.length : Int)) = true := beq_iff_eq.mpr c3
  have c3b1 : ((l0.length : Int) != (l1.length : Int)) = false := bne_eq_false_iff_eq.mpr c3
  have c3b2 : (l0.length == l1.length) = true := by first | simpa using c3 | (simp at c3 ⊢; omega)
  clear c3
  have H' := Aside0.mk H
  clear H
  go_enter Try.func42, Try.ntmps42
  go_wp2
  repeat (go_quiet (fail); try go_wp2)
  go_loopg [5] k (fun kq v5 w' => ∃ (x5_1 : Int), v5 = .int .i64 x5_1 ∧ Aside0 (laws_waRules.l0 kq l0 l1 x5_1 = some r) ∧ Aside0 (kq ≤ k) ∧ Drawn0 w w')
  case atStart => exact ⟨(0), (by first | rfl | (simp; done) | (simp [*]; done)), H', ⟨Nat.le_refl _⟩, by repeat (first | exact Drawn0.refl _ | apply Drawn0.step)⟩
  case round =>
   clear H'
   try clear c1
   try clear p2
   try clear c3
   try clear c3b0
   try clear c3b1
   try clear c3b2
   obtain ⟨x5_1, rfl, HA, HK1, ⟨m1, rfl⟩⟩ := hrel
   cases gk with
   | zero => exact absurd HA.out (by simp [laws_waRules.l0])
   | succ k1 => ?_
   have H := HA.out
   clear HA
   simp only [laws_waRules.l0] at H
   by_cases c4 : x5_1 < (l0.length : Int)
   ·rw [if_pos c4] at H
    have c4b0 : decide (x5_1 < (l0.length : Int)) = true := decide_eq_true c4
    clear c4
    by_cases c5 : 0 ≤ x5_1
    ·rw [if_pos c5] at H
     have c5b0 : decide (0 ≤ x5_1) = true := decide_eq_true c5
     clear c5
     by_cases c6 : x5_1 < (l1.length : Int)
     ·rw [if_pos c6] at H
      have c6b0 : decide (x5_1 < (l1.length : Int)) = true := decide_eq_true c6
      clear c6
      by_cases c7 : (!(((rd_T54 l0 x5_1).f0) == ((rd_T54 l1 x5_1).f0)) || ((!(((rd_T54 l0 x5_1).f1.f0) == ((rd_T54 l1 x5_1).f1.f0)) || (!(((rd_T54 l0 x5_1).f1.f1) == ((rd_T54 l1 x5_1).f1.f1)))) || ((!(((rd_T54 l0 x5_1).f2.f0) == ((rd_T54 l1 x5_1).f2.f0)) || (!(((rd_T54 l0 x5_1).f2.f1) == ((rd_T54 l1 x5_1).f2.f1)))) || (!(((rd_T54 l0 x5_1).f3) == ((rd_T54 l1 x5_1).f3)))))) = true
      ·rw [if_pos c7] at H
       have c7b0 : (!(((rd_T54 l0 x5_1).f0) == ((rd_T54 l1 x5_1).f0)) || ((!(((rd_T54 l0 x5_1).f1.f0) == ((rd_T54 l1 x5_1).f1.f0)) || (!(((rd_T54 l0 x5_1).f1.f1) == ((rd_T54 l1 x5_1).f1.f1)))) || ((!(((rd_T54 l0 x5_1).f2.f0) == ((rd_T54 l1 x5_1).f2.f0)) || (!(((rd_T54 l0 x5_1).f2.f1) == ((rd_T54 l1 x5_1).f2.f1)))) || (!(((rd_T54 l0 x5_1).f3) == ((rd_T54 l1 x5_1).f3)))))) = true := c7
       clear c7
       obtain rfl := Option.some.inj H
       have p101 : 0 ≤ (x5_1 : Int) := of_decide_eq_true y1 
       have q101 : x5_1 < (l0.length : Int) := of_decide_eq_true y1 
       obtain ⟨ad101, e101, hx101_0, hx101_1, hx101_2, hx101_3, hx101_4, hx101_5⟩ := at_T54 HR0.out x5_1 p101 q101
       cases e101
       replace p101 := eq_true p101
       replace q101 := eq_true q101
       have p102 : 0 ≤ (x5_1 : Int) := of_decide_eq_true y1 
       have q102 : x5_1 < (l1.length : Int) := of_decide_eq_true y1 
       obtain ⟨ad102, e102, hx102_0, hx102_1, hx102_2, hx102_3, hx102_4, hx102_5⟩ := at_T54 HR1.out x5_1 p102 q102
       cases e102
       replace p102 := eq_true p102
       replace q102 := eq_true q102
       go_wp2
       repeat (go_quiet (fail); try go_wp2)
       go_ret
       exact ⟨by first | rfl | (simp; done) | (simp [*]; done), by repeat (first | exact Drawn0.refl _ | apply Drawn0.step)⟩
      rw [if_neg c7] at H
      have c7b0 : (!(((rd_T54 l0 x5_1).f0) == ((rd_T54 l1 x5_1).f0)) || ((!(((rd_T54 l0 x5_1).f1.f0) == ((rd_T54 l1 x5_1).f1.f0)) || (!(((rd_T54 l0 x5_1).f1.f1) == ((rd_T54 l1 x5_1).f1.f1)))) || ((!(((rd_T54 l0 x5_1).f2.f0) == ((rd_T54 l1 x5_1).f2.f0)) || (!(((rd_T54 l0 x5_1).f2.f1) == ((rd_T54 l1 x5_1).f2.f1)))) || (!(((rd_T54 l0 x5_1).f3) == ((rd_T54 l1 x5_1).f3)))))) = false := by simpa using c7
      clear c7
      have H' := Aside0.mk H
      clear H
      have p101 : 0 ≤ (x5_1 : Int) := of_decide_eq_true y1 
      have q101 : x5_1 < (l0.length : Int) := of_decide_eq_true y1 
      obtain ⟨ad101, e101, hx101_0, hx101_1, hx101_2, hx101_3, hx101_4, hx101_5⟩ := at_T54 HR0.out x5_1 p101 q101
      cases e101
      replace p101 := eq_true p101
      replace q101 := eq_true q101
      have p102 : 0 ≤ (x5_1 : Int) := of_decide_eq_true y1 
      have q102 : x5_1 < (l1.length : Int) := of_decide_eq_true y1 
      obtain ⟨ad102, e102, hx102_0, hx102_1, hx102_2, hx102_3, hx102_4, hx102_5⟩ := at_T54 HR1.out x5_1 p102 q102
      cases e102
      replace p102 := eq_true p102
      replace q102 := eq_true q102
      go_wp2
      repeat (go_quiet (fail); try go_wp2)
      go_roundg k1
      case measure => have := HK1.out; omega
      case rel => exact ⟨(wrap64 (x5_1 + 1)), (by first | rfl | (simp; done) | (simp [*]; done)), H', ⟨by have := HK1.out; omega⟩, by repeat (first | exact Drawn0.refl _ | apply Drawn0.step)⟩
     rw [if_neg c6] at H
     exact absurd H (by simp)
    rw [if_neg c5] at H
    exact absurd H (by simp)
   rw [if_neg c4] at H
   have c4b0 : decide (x5_1 < (l0.length : Int)) = false := decide_eq_false c4
   clear c4
   obtain rfl := Option.some.inj H
   go_wp2
   repeat (go_quiet (fail); try go_wp2)
   go_ret
   exact ⟨by first | rfl | (simp; done) | (simp [*]; done), by repeat (first | exact Drawn0.refl _ | apply Drawn0.step)⟩
 rw [if_neg c3] at H
 have c3b0 : ((l0.length : Int) == (l1.length : Int)) = false := beq_eq_false_iff_ne.mpr c3
 have c3b1 : ((l0.length : Int) != (l1.length : Int)) = true := bne_iff_ne.mpr c3
 have c3b2 : (l0.length == l1.length) = false := by first | simpa using c3 | (simp at c3 ⊢; omega)
 obtain rfl := Option.some.inj H
 go_enter Try.func42, Try.ntmps42
 go_wp2
 repeat (go_quiet (fail); try go_wp2)
 go_ret
 exact ⟨by first | rfl | (simp; done) | (simp [*]; done), by repeat (first | exact Drawn0.refl _ | apply Drawn0.step)⟩
end Go.Proofs.Ytnakanjhdcakhaa.Q
namespace Go.Proofs.Ytnakanjhdcakhaa.Q
open Go.RowKit Go.Proofs.YtnakanjhdcakhaaW.PrintWords Go.Proofs.YtnakanjhdcakhaaW.PrintLast Go.Proofs.YtnakanjhdcakhaaW.PrintMore
set_option linter.unusedVariables false
set_option linter.unusedSimpArgs false
def putK (xs : List Int) (n : Int) : Nat := (xs.takeWhile fun x => decide (x < n)).length
def putP (xs : List Int) (n : Int) : List Int := if 65535 < n ∨ xs[putK xs n]? = some n then xs else xs.take (putK xs n) ++ [n] ++ xs.drop (putK xs n)
theorem putK_of {xs : List Int} {n : Int} {k : Nat} (h : ∀ j x, j < k → xs[j]? = some x → x < n) (hk : k ≤ xs.length) (hn : ∀ x, xs[k]? = some x → ¬ x < n) : putK xs n = k := by
  unfold putK
  induction xs generalizing k with
  | nil => simp at hk; simp [hk]
  | cons a l ih =>
    cases k with
    | zero =>
      have := hn a rfl
      simp [List.takeWhile_cons, this]
    | succ k =>
      have ha := h 0 a (by omega) rfl
      rw [List.takeWhile_cons, if_pos (by simpa using ha)]
      simp only [List.length_cons]
      rw [ih (k := k) (fun j x hj hx => h (j + 1) x (by omega) (by simpa using hx)) (by simpa using hk) (fun x hx => hn x (by simpa using hx))]
theorem stepP {w W W' : World} (h : Aside0 (Below w.heap.size w W)) (hb : Below W.heap.size W W') : Aside0 (Below w.heap.size w W') := ⟨below_then h.out h.out.size hb⟩
theorem rdP {l : List Int} {i : Nat} (h : i < l.length) : l[i]? = some (rd l (i : Int)) := by
  simp [rd, List.getD_eq_getElem?_getD, h]
theorem mkE (W : World) (base b : Nat) (hb : base ≤ W.heap.size) (e : b = W.heap.size) : Kd.R (Kd.int .i64) 3 (W.alloc (.cells #[] 3)) base (fun _ => True) (.slice (some ⟨b, 0, none⟩) 0 0) [] := by
  subst e
  exact ⟨fun _ _ => trivial, [], World.ownsRow_made W #[] 0 hb (Nat.zero_le _) (by simp), Reps.none _ _⟩
theorem mkN (W : World) (base b : Nat) (n : Int) (hb : base ≤ W.heap.size) (e : b = W.heap.size) : Kd.R (Kd.int .i64) 3 (W.alloc (.cells #[.int .i64 n] 3)) base (fun k => k = b) (.slice (some ⟨b, 0, none⟩) 1 1) [n] := by
  subst e
  exact Kd.R_of_own (enc := Value.int .i64) (World.ownsRow_lit (base := base) (e := 3) (size := 1) W #[.int .i64 n] 1 hb (by decide) (by rfl)) (fun k hk => by injection hk with hk; exact hk.symm)
set_option maxHeartbeats 8000000 in
set_option maxRecDepth 100000 in
theorem put_any (A : Option Addr) (c : Nat) (xs : List Int) (n : Int) (w : World) (hr : Kd.C (Kd.int .i64) w A xs.length xs) (hc : xs.length ≤ c) (hl : xs.length ≤ 100000) (hpos : 0 < xs.length) :
    Calls Try.prog 131 #[.slice A xs.length c, .int .i64 n] w fun e w' => ∃ v : Value, e = .returned v ∧ Below w.heap.size w w' ∧ ((v = .slice A xs.length c ∧ putP xs n = xs) ∨ Kd.R (Kd.int .i64) 3 w' w.heap.size (fun _ => True) v (putP xs n)) := by
  have HR := Aside0.mk hr
  have HL := Aside0.mk hl
  have HB := Aside0.mk (Below.refl w.heap.size w)
  obtain ⟨ad, hA, _⟩ := Kd.at_int hr 0 (by omega) (by omega)
  subst hA
  clear hr hl hpos
  go_enter Try.func131, Try.ntmps131
  go_wp2
  go_loopg [5] xs.length (fun gg s5 wr => ∃ kk : Nat, kk ≤ xs.length ∧ xs.length - kk ≤ gg ∧ s5 = .int .i64 kk ∧ wr = w ∧ Aside0 (∀ j x, j < kk → xs[j]? = some x → x < n))
  case atStart => exact ⟨0, Nat.zero_le _, by omega, rfl, rfl, ⟨fun j x h => absurd h (Nat.not_lt_zero _)⟩⟩
  case round =>
    obtain ⟨kk, hkk, hg, rfl, rfl, AN⟩ := hrel
    by_cases hlt : kk < xs.length
    · have hltz : (kk : Int) < (xs.length : Int) := by omega
      obtain ⟨ad', hA, x0⟩ := Kd.at_int HR.out kk (by omega) (by omega)
      cases hA
      have FX := Aside0.mk (rdP hlt)
      generalize rd xs kk = x at x0 FX
      simp only [Int.toNat_natCast] at x0
      by_cases hx : x < n
      · go_wp2
        go_roundg (xs.length - (kk + 1))
        case measure => omega
        case rel =>
          refine ⟨kk + 1, by omega, by omega, congrArg (Value.int .i64) (by have h8 := HL.out; first | omega | (rw [Pure.wrap_in (x := (kk : Int) + 1) (by omega) (by omega)]; omega)), rfl, ⟨fun j y hj hy => ?_⟩⟩
          by_cases e : j = kk
          · subst e
            exact (Option.some.inj (FX.out.symm.trans hy)) ▸ hx
          · exact AN.out j y (by omega) hy
      · have PK : Aside0 (putK xs n = kk) := ⟨putK_of AN.out hkk (fun y hy => by have := Option.some.inj (FX.out.symm.trans hy); omega)⟩
        by_cases hn : 65535 < n
        · go_wp2
          go_ret
          exact ⟨_, rfl, HB.out, .inl ⟨rfl, by unfold putP; rw [if_pos (.inl hn)]⟩⟩
        · by_cases he : x = n
          · subst he
            go_wp2
            go_ret
            exact ⟨_, rfl, HB.out, .inl ⟨rfl, by unfold putP; rw [if_pos (.inr (by rw [PK.out]; exact FX.out))]⟩⟩
          · have PP : Aside0 (putP xs n = xs.take kk ++ [n] ++ xs.drop kk) := ⟨by unfold putP; rw [PK.out, if_neg]; rintro (h | h); exact hn h; exact he (Option.some.inj (FX.out.symm.trans h))⟩
            have hxb : (x == n) = false := beq_eq_false_iff_ne.mpr he
            go_wp2_with fail
            have S0d : Aside0 (Below wr.heap.size wr wr.drew) := ⟨below_drew HB.out⟩
            have KL := Aside0.mk (show kk ≤ 100000 from by have := HL.out; omega)
            have CT : Aside0 (∀ W, Below wr.heap.size wr W → Kd.C (Kd.int .i64) W (some ad) kk (xs.take kk)) := ⟨fun W h => by
              have h9 := Kd.C_take (m := kk) (Kd.C_below HR.out h) (by omega)
              rw [List.length_take, Nat.min_eq_left (by omega)] at h9
              exact h9⟩
            have CD : Aside0 (∀ W, Below wr.heap.size wr W → Kd.C (Kd.int .i64) W (if c = kk then some ad else some (ad.add kk)) (xs.length - kk) (xs.drop kk)) := ⟨fun W h => by
              have h9 := Kd.C_drop (m := kk) (c := c) (Kd.C_below HR.out h) (by omega) hc
              rw [List.length_drop] at h9
              have h8 : kk * (Kd.int .i64).sz = kk := Nat.mul_one kk
              rw [h8] at h9
              exact h9⟩
            have TL : Aside0 ((xs.take kk).length ≤ 100000 ∧ xs.length - kk ≤ 100000) := ⟨by have := HL.out; rw [List.length_take]; omega⟩
            generalize xs.take kk = ts at CT TL PP
            generalize xs.drop kk = ds at CD PP
            have b1 : (0 : Int) ≤ (kk : Int) := by omega
            have b2 : (kk : Int) ≤ (xs.length : Int) := by omega
            have b3 : (kk : Int) ≤ (c : Int) := by omega
            have b4 : (xs.length : Int) ≤ (c : Int) := by omega
            go_region_held3 (fun W => Aside0 (Below wr.heap.size wr W)) (first | (with_reducible assumption) | exact S0d | exact ⟨(by repeat (first | exact HB.out | exact S0d.out | exact S41.out | exact S44.out | apply below_alloc | apply below_drew1))⟩) (first
              | ((refine Kd.R_append_rows_step (Kd.int .i64) (w0 := wr) wr.heap.size (by rfl) (.tmp 37) (.tmp 40) 119 3 (.int .i64 0) 8 rfl Try.underlying119 info3 rfl (by decide) (by omega) _ [] ts _ _ _ (fun _ => True) (fun _ => False) rfl rfl ?aO ?aR (fun _ _ h => h) (fun _ h => h.elim) (fun _ _ => trivial) ?aB ?aS ?aL ?_); (case aO => first | exact Kd.R_drew (mkE wr _ _ (Nat.le_refl _) rfl) | exact mkE _ _ _ (by simp) (by simp) | exact Kd.R_alloc (mkE _ _ _ (by simp) (by simp)) _); (case aR => exact CT.out _ (by repeat (first | exact HB.out | exact S0d.out | exact S41.out | exact S44.out | apply below_alloc | apply below_drew1))); (case aB => exact (by repeat (first | exact HB.out | exact S0d.out | exact S41.out | exact S44.out | apply below_alloc | apply below_drew1))); (case aS => exact below_size (by repeat (first | exact HB.out | exact S0d.out | exact S41.out | exact S44.out | apply below_alloc | apply below_drew1))); (case aL => have := KL.out; simp only [List.length_nil]; omega); intro v41 w41 ho hb hg hat; have S41 : Aside0 (Below wr.heap.size wr w41) := ⟨hb⟩; have R41 : Aside0 (Kd.R (Kd.int .i64) 3 w41 wr.heap.size (fun _ => True) v41 ts) := ⟨ho⟩; (try have N41 : Aside0 (Kd.R (Kd.int .i64) 3 w41 wr.heap.size (fun k => k = wr.heap.size + 1) (.slice (some ⟨wr.heap.size + 1, 0, none⟩) 1 1) [n]) := ⟨Kd.R_grown (Kd.R_drew (mkN (wr.alloc (.cells #[] 3)) wr.heap.size (wr.heap.size + 1) n (by simp) (by simp))) hg (fun k e => by subst e; show some (wr.heap.size + 1) ≠ some wr.heap.size; simp)⟩); (try have N41 : Aside0 (Kd.R (Kd.int .i64) 3 w41 wr.heap.size (fun k => k = wr.heap.size) (.slice (some ⟨wr.heap.size, 0, none⟩) 1 1) [n]) := ⟨Kd.R_grown (Kd.R_drew (Kd.R_alloc (mkN wr wr.heap.size wr.heap.size n (Nat.le_refl _) rfl) _)) hg (fun k e => by subst e; show some wr.heap.size ≠ some (wr.heap.size + 1); simp)⟩); clear ho hb hg hat)
              | ((refine Kd.R_append_rows_step (Kd.int .i64) (w0 := wr) wr.heap.size (by rfl) (.tmp 41) (.tmp 43) 119 3 (.int .i64 0) 8 rfl Try.underlying119 info3 rfl (by decide) (by omega) v41 ts [n] _ _ _ (fun _ => True) (fun _ => False) rfl rfl ?aO ?aR (fun _ _ h => h) (fun _ h => h.elim) (fun _ _ => trivial) ?aB ?aS ?aL ?_); (case aO => first | exact R41.out | exact Kd.R_alloc R41.out _); (case aR => first | exact (Kd.R_reads' (mkN _ wr.heap.size _ n (below_size (by repeat (first | exact HB.out | exact S0d.out | exact S41.out | exact S44.out | apply below_alloc | apply below_drew1))) (by first | rfl | simp))).2.2 | exact (Kd.R_reads' N41.out).2.2); (case aB => exact (by repeat (first | exact HB.out | exact S0d.out | exact S41.out | exact S44.out | apply below_alloc | apply below_drew1))); (case aS => exact below_size (by repeat (first | exact HB.out | exact S0d.out | exact S41.out | exact S44.out | apply below_alloc | apply below_drew1))); (case aL => have := TL.out; omega); intro v44 w44 ho hb hg hat; have S44 : Aside0 (Below wr.heap.size wr w44) := ⟨hb⟩; have R44 : Aside0 (Kd.R (Kd.int .i64) 3 w44 wr.heap.size (fun _ => True) v44 (ts ++ [n])) := ⟨ho⟩; clear ho hb hg hat)
              | ((refine Kd.R_append_rows_step (Kd.int .i64) (w0 := wr) wr.heap.size (by rfl) (.tmp 44) (.tmp 47) 119 3 (.int .i64 0) 8 rfl Try.underlying119 info3 rfl (by decide) (by omega) v44 (ts ++ [n]) ds _ _ _ (fun _ => True) (fun _ => False) rfl rfl ?aO ?aR (fun _ _ h => h) (fun _ h => h.elim) (fun _ _ => trivial) ?aB ?aS ?aL ?_); (case aO => exact R44.out); (case aR => exact CD.out _ (by repeat (first | exact HB.out | exact S0d.out | exact S41.out | exact S44.out | apply below_alloc | apply below_drew1))); (case aB => exact (by repeat (first | exact HB.out | exact S0d.out | exact S41.out | exact S44.out | apply below_alloc | apply below_drew1))); (case aS => exact below_size (by repeat (first | exact HB.out | exact S0d.out | exact S41.out | exact S44.out | apply below_alloc | apply below_drew1))); (case aL => have := TL.out; simp only [List.length_append, List.length_cons, List.length_nil]; omega); intro v48 w48 ho hb hg hat; have S48 : Aside0 (Below wr.heap.size wr w48) := ⟨hb⟩; have R48 : Aside0 (Kd.R (Kd.int .i64) 3 w48 wr.heap.size (fun _ => True) v48 (ts ++ [n] ++ ds)) := ⟨ho⟩; clear ho hb hg hat))
            all_goals
              go_wp2
            all_goals
              go_ret
              exact ⟨_, rfl, S48.out, .inr (by rw [PP.out]; exact R48.out)⟩
    · have hltz : ¬ (kk : Int) < (xs.length : Int) := by omega
      have hkn : kk = xs.length := by omega
      have PK : Aside0 (putK xs n = kk) := ⟨putK_of AN.out hkk (fun y hy => by rw [hkn] at hy; simp at hy)⟩
      by_cases hn : 65535 < n
      · go_wp2
        go_ret
        exact ⟨_, rfl, HB.out, .inl ⟨rfl, by unfold putP; rw [if_pos (.inl hn)]⟩⟩
      · have PP : Aside0 (putP xs n = xs.take kk ++ [n] ++ xs.drop kk) := ⟨by unfold putP; rw [PK.out, if_neg]; rintro (h | h); exact hn h; rw [hkn] at h; simp at h⟩
        clear hkn
        go_wp2_with fail
        have S0d : Aside0 (Below wr.heap.size wr wr.drew) := ⟨below_drew HB.out⟩
        have KL := Aside0.mk (show kk ≤ 100000 from by have := HL.out; omega)
        have CT : Aside0 (∀ W, Below wr.heap.size wr W → Kd.C (Kd.int .i64) W (some ad) kk (xs.take kk)) := ⟨fun W h => by
          have h9 := Kd.C_take (m := kk) (Kd.C_below HR.out h) (by omega)
          rw [List.length_take, Nat.min_eq_left (by omega)] at h9
          exact h9⟩
        have CD : Aside0 (∀ W, Below wr.heap.size wr W → Kd.C (Kd.int .i64) W (if c = kk then some ad else some (ad.add kk)) (xs.length - kk) (xs.drop kk)) := ⟨fun W h => by
          have h9 := Kd.C_drop (m := kk) (c := c) (Kd.C_below HR.out h) (by omega) hc
          rw [List.length_drop] at h9
          have h8 : kk * (Kd.int .i64).sz = kk := Nat.mul_one kk
          rw [h8] at h9
          exact h9⟩
        have TL : Aside0 ((xs.take kk).length ≤ 100000 ∧ xs.length - kk ≤ 100000) := ⟨by have := HL.out; rw [List.length_take]; omega⟩
        generalize xs.take kk = ts at CT TL PP
        generalize xs.drop kk = ds at CD PP
        have b1 : (0 : Int) ≤ (kk : Int) := by omega
        have b2 : (kk : Int) ≤ (xs.length : Int) := by omega
        have b3 : (kk : Int) ≤ (c : Int) := by omega
        have b4 : (xs.length : Int) ≤ (c : Int) := by omega
        go_region_held3 (fun W => Aside0 (Below wr.heap.size wr W)) (first | (with_reducible assumption) | exact S0d | exact ⟨(by repeat (first | exact HB.out | exact S0d.out | exact S41.out | exact S44.out | apply below_alloc | apply below_drew1))⟩) (first
          | ((refine Kd.R_append_rows_step (Kd.int .i64) (w0 := wr) wr.heap.size (by rfl) (.tmp 37) (.tmp 40) 119 3 (.int .i64 0) 8 rfl Try.underlying119 info3 rfl (by decide) (by omega) _ [] ts _ _ _ (fun _ => True) (fun _ => False) rfl rfl ?aO ?aR (fun _ _ h => h) (fun _ h => h.elim) (fun _ _ => trivial) ?aB ?aS ?aL ?_); (case aO => first | exact Kd.R_drew (mkE wr _ _ (Nat.le_refl _) rfl) | exact mkE _ _ _ (by simp) (by simp) | exact Kd.R_alloc (mkE _ _ _ (by simp) (by simp)) _); (case aR => exact CT.out _ (by repeat (first | exact HB.out | exact S0d.out | exact S41.out | exact S44.out | apply below_alloc | apply below_drew1))); (case aB => exact (by repeat (first | exact HB.out | exact S0d.out | exact S41.out | exact S44.out | apply below_alloc | apply below_drew1))); (case aS => exact below_size (by repeat (first | exact HB.out | exact S0d.out | exact S41.out | exact S44.out | apply below_alloc | apply below_drew1))); (case aL => have := KL.out; simp only [List.length_nil]; omega); intro v41 w41 ho hb hg hat; have S41 : Aside0 (Below wr.heap.size wr w41) := ⟨hb⟩; have R41 : Aside0 (Kd.R (Kd.int .i64) 3 w41 wr.heap.size (fun _ => True) v41 ts) := ⟨ho⟩; (try have N41 : Aside0 (Kd.R (Kd.int .i64) 3 w41 wr.heap.size (fun k => k = wr.heap.size + 1) (.slice (some ⟨wr.heap.size + 1, 0, none⟩) 1 1) [n]) := ⟨Kd.R_grown (Kd.R_drew (mkN (wr.alloc (.cells #[] 3)) wr.heap.size (wr.heap.size + 1) n (by simp) (by simp))) hg (fun k e => by subst e; show some (wr.heap.size + 1) ≠ some wr.heap.size; simp)⟩); (try have N41 : Aside0 (Kd.R (Kd.int .i64) 3 w41 wr.heap.size (fun k => k = wr.heap.size) (.slice (some ⟨wr.heap.size, 0, none⟩) 1 1) [n]) := ⟨Kd.R_grown (Kd.R_drew (Kd.R_alloc (mkN wr wr.heap.size wr.heap.size n (Nat.le_refl _) rfl) _)) hg (fun k e => by subst e; show some wr.heap.size ≠ some (wr.heap.size + 1); simp)⟩); clear ho hb hg hat)
          | ((refine Kd.R_append_rows_step (Kd.int .i64) (w0 := wr) wr.heap.size (by rfl) (.tmp 41) (.tmp 43) 119 3 (.int .i64 0) 8 rfl Try.underlying119 info3 rfl (by decide) (by omega) v41 ts [n] _ _ _ (fun _ => True) (fun _ => False) rfl rfl ?aO ?aR (fun _ _ h => h) (fun _ h => h.elim) (fun _ _ => trivial) ?aB ?aS ?aL ?_); (case aO => first | exact R41.out | exact Kd.R_alloc R41.out _); (case aR => first | exact (Kd.R_reads' (mkN _ wr.heap.size _ n (below_size (by repeat (first | exact HB.out | exact S0d.out | exact S41.out | exact S44.out | apply below_alloc | apply below_drew1))) (by first | rfl | simp))).2.2 | exact (Kd.R_reads' N41.out).2.2); (case aB => exact (by repeat (first | exact HB.out | exact S0d.out | exact S41.out | exact S44.out | apply below_alloc | apply below_drew1))); (case aS => exact below_size (by repeat (first | exact HB.out | exact S0d.out | exact S41.out | exact S44.out | apply below_alloc | apply below_drew1))); (case aL => have := TL.out; omega); intro v44 w44 ho hb hg hat; have S44 : Aside0 (Below wr.heap.size wr w44) := ⟨hb⟩; have R44 : Aside0 (Kd.R (Kd.int .i64) 3 w44 wr.heap.size (fun _ => True) v44 (ts ++ [n])) := ⟨ho⟩; clear ho hb hg hat)
          | ((refine Kd.R_append_rows_step (Kd.int .i64) (w0 := wr) wr.heap.size (by rfl) (.tmp 44) (.tmp 47) 119 3 (.int .i64 0) 8 rfl Try.underlying119 info3 rfl (by decide) (by omega) v44 (ts ++ [n]) ds _ _ _ (fun _ => True) (fun _ => False) rfl rfl ?aO ?aR (fun _ _ h => h) (fun _ h => h.elim) (fun _ _ => trivial) ?aB ?aS ?aL ?_); (case aO => exact R44.out); (case aR => exact CD.out _ (by repeat (first | exact HB.out | exact S0d.out | exact S41.out | exact S44.out | apply below_alloc | apply below_drew1))); (case aB => exact (by repeat (first | exact HB.out | exact S0d.out | exact S41.out | exact S44.out | apply below_alloc | apply below_drew1))); (case aS => exact below_size (by repeat (first | exact HB.out | exact S0d.out | exact S41.out | exact S44.out | apply below_alloc | apply below_drew1))); (case aL => have := TL.out; simp only [List.length_append, List.length_cons, List.length_nil]; omega); intro v48 w48 ho hb hg hat; have S48 : Aside0 (Below wr.heap.size wr w48) := ⟨hb⟩; have R48 : Aside0 (Kd.R (Kd.int .i64) 3 w48 wr.heap.size (fun _ => True) v48 (ts ++ [n] ++ ds)) := ⟨ho⟩; clear ho hb hg hat))
        all_goals
          go_wp2
        all_goals
          go_ret
          exact ⟨_, rfl, S48.out, .inr (by rw [PP.out]; exact R48.out)⟩
end Go.Proofs.Ytnakanjhdcakhaa.Q
namespace Go.Proofs.Ytnakanjhdcakhaa.Q
open Go.RowKit Go.Proofs.YtnakanjhdcakhaaW.PrintWords Go.Proofs.YtnakanjhdcakhaaW.PrintLast Go.Proofs.YtnakanjhdcakhaaW.PrintMore
attribute [local go_sem] max2_int min2_int max_two min_two max_three min_three max_four min_four   -- for this text's walks alone
set_option linter.unusedVariables false
set_option linter.unusedSimpArgs false
def put2P (out : List Int) (x : S26) : List Int := putP (putP out x.f0) (x.f0 + Pure.sz x.f1)
def firstsP (l : List S26) : List Int := l.foldl put2P [0]
theorem putP_len (xs : List Int) (n : Int) : xs.length ≤ (putP xs n).length ∧ (putP xs n).length ≤ xs.length + 1 := by
  unfold putP
  split
  · omega
  · simp only [List.length_append, List.length_take, List.length_drop, List.length_cons, List.length_nil]
    omega
theorem firstsP_snoc (l : List S26) (x : S26) : firstsP (l ++ [x]) = put2P (firstsP l) x := by simp [firstsP]
theorem put2P_len (o : List Int) (x : S26) : o.length ≤ (put2P o x).length ∧ (put2P o x).length ≤ o.length + 2 := by
  have h1 := putP_len o x.f0
  have h2 := putP_len (putP o x.f0) (x.f0 + Pure.sz x.f1)
  unfold put2P
  omega
theorem fold_len (l : List S26) : ∀ o : List Int, o.length ≤ (l.foldl put2P o).length ∧ (l.foldl put2P o).length ≤ o.length + 2 * l.length := by
  induction l with
  | nil => intro o; simp
  | cons x l ih =>
    intro o
    have h1 := put2P_len o x
    have h2 := ih (put2P o x)
    simp only [List.foldl_cons, List.length_cons]
    omega
theorem firstsP_len (l : List S26) : 0 < (firstsP l).length ∧ (firstsP l).length ≤ 1 + 2 * l.length := by
  have h := fold_len l [0]
  unfold firstsP
  simp only [List.length_cons, List.length_nil] at h
  omega
def spec_l4Firsts.f (l0 : List S26) : Option (List Int) := if (decide (l0.length ≤ 1000) && l0.all fun x => Pure.okB x.f0 x.f1) = true then some (firstsP l0) else none
theorem putR {W : World} {base : Nat} {v : Value} {xs : List Int} (n : Int) (h : Kd.R (Kd.int .i64) 3 W base (fun _ => True) v xs) (hb : base ≤ W.heap.size) (hp : 0 < xs.length) (hl : xs.length ≤ 100000) :
    Calls Try.prog 131 #[v, .int .i64 n] W fun e w' => ∃ v' : Value, e = .returned v' ∧ Below W.heap.size W w' ∧ Kd.R (Kd.int .i64) 3 w' base (fun _ => True) v' (putP xs n) := by
  obtain ⟨A, c, rfl⟩ := Kd.R_slice h
  obtain ⟨_, hc, hC⟩ := Kd.R_reads' h
  refine (put_any A c xs n W hC hc hl hp).mono ?_
  rintro e w' ⟨v, rfl, hB, h2⟩
  refine ⟨v, rfl, hB, ?_⟩
  rcases h2 with ⟨rfl, e⟩ | h2
  · rw [e]
    exact Kd.R_below h hB
  · exact Kd.R_lower h2 hb
set_option maxHeartbeats 8000000 in
set_option maxRecDepth 100000 in
theorem spec_l4Firsts.calls (A0 : Option Addr) (c0 : Nat) (l0 : List (S26)) (r : List Int) (w : World) (hr0 : Kd.C k26 w A0 l0.length l0) (hc0 : l0.length ≤ c0) (h : spec_l4Firsts.f l0 = some r) :
  Calls Try.prog 115 #[.slice A0 l0.length c0] w fun e w' => ∃ v0_ : Value, e = .returned (v0_) ∧ Kd.R (Kd.int .i64) 3 w' w.heap.size (fun _ => True) v0_ r ∧ Below w.heap.size w w' := by
 unfold spec_l4Firsts.f at h
 by_cases hcond : (decide (l0.length ≤ 1000) && l0.all fun x => Pure.okB x.f0 x.f1) = true
 ·rw [if_pos hcond] at h
  simp only [Bool.and_eq_true, decide_eq_true_eq] at hcond
  have HE := Aside0.mk (Option.some.inj h)
  have HL := Aside0.mk hcond.1
  have HK := Aside0.mk (List.all_eq_true.1 hcond.2)
  have hu26 := Try.underlying26
  have HR := Aside0.mk hr0
  have HB := Aside0.mk (Below.refl w.heap.size w)
  clear hr0 hcond h
  go_enter Try.func115, Try.ntmps115
  go_wp2_with (first | ((with_reducible refine gate_dst (N := 5) rfl ?_); refine Kd.R_lit (Kd.int .i64) _ 3 ?hg (N := 5) ?hd (xs := ([0] : List Int)) (inner := [.int .i64 0]) (ok := fun _ => True) (okp := fun _ => True) ?hr ?hp (fun _ hk => hk) trivial (Below.refl _ _) (Nat.le_refl _) (by simp) ?_; (case hd => rfl); (case hg => rfl); (case hr => first | (go_simp; done) | (go_simp; rfl)); (case hp => exact (Reps.one (show Kd.M (Kd.int .i64) _ _ _ 0 [.int .i64 0] from rfl) (Reps.none _ _))); intro v10 w2 ho3 hb hg_ hnew_; clear hg_ hnew_; have HO := Aside0.mk ho3; have HB2 := Aside0.mk hb; clear ho3 hb HB))
  go_loopg [3, 4] l0.length (fun gg s3 s4 wr => ∃ i : Nat, i ≤ l0.length ∧ l0.length - i ≤ gg ∧ s4 = .int .i64 i ∧ Aside0 (Kd.R (Kd.int .i64) 3 wr w.heap.size (fun _ => True) s3 (firstsP (l0.take i))) ∧ Aside0 (Below w.heap.size w wr))
  case atStart => exact ⟨0, Nat.zero_le _, by omega, rfl, ⟨by simpa [firstsP] using HO.out⟩, HB2⟩
  case round =>
   obtain ⟨i, hi, hg, rfl, RO, BW⟩ := hrel
   by_cases hlt : i < l0.length
   ·have hltz : (i : Int) < (l0.length : Int) := by omega
    obtain ⟨ad, hA, x0, x1⟩ := at_T26 (Kd.C_below HR.out BW.out) i (by omega) (by omega)
    subst hA
    have hx : l0[i]? = some (rd_T26 l0 i) := by simp [rd_T26, List.getD_eq_getElem?_getD, hlt]
    have NX : Aside0 (firstsP (l0.take (i + 1)) = put2P (firstsP (l0.take i)) (rd_T26 l0 i)) := ⟨by rw [List.take_add_one, hx, ← firstsP_snoc]; rfl⟩
    have OK := Aside0.mk (HK.out (rd_T26 l0 i) (List.mem_of_getElem? hx))
    have LN : Aside0 (0 < (firstsP (l0.take i)).length ∧ (firstsP (l0.take i)).length ≤ 50000) := ⟨by have h9 := firstsP_len (l0.take i); have h8 := HL.out; rw [List.length_take] at h9; omega⟩
    clear hx
    generalize rd_T26 l0 i = x at x0 x1 NX OK
    generalize firstsP (l0.take i) = ys at RO NX LN
    obtain ⟨a, n⟩ := x
    dsimp only at x0 x1 OK
    simp only [Int.toNat_natCast] at x0 x1
    unfold put2P at NX
    dsimp only at NX
    have SZ : Aside0 (∀ W, Calls Try.prog 76 #[.int .i64 n] W fun e w' => e = .returned (.int .i64 (Pure.sz n)) ∧ Below W.heap.size W w') := ⟨fun W => (spec_l1Size.calls 20 n _ W (Pure.size_s (Pure.okB_iff.1 OK.out).1 (Pure.okB_iff.1 OK.out).2.1 (Nat.le_refl _))).mono (by rintro e w' ⟨rfl, ⟨m, rfl⟩⟩; exact ⟨rfl, pw_below_drewN (Below.refl _ _) m⟩)⟩
    have AN : Aside0 (0 ≤ a ∧ a ≤ 65535 ∧ 1 ≤ Pure.sz n ∧ Pure.sz n ≤ 65536) := ⟨(Pure.okB_iff.1 OK.out).2.2.1, (Pure.okB_iff.1 OK.out).2.2.2.1, Pure.sz_pos n, Pure.sz_le (Pure.okB_iff.1 OK.out).1⟩
    generalize Pure.sz n = z at SZ AN NX
    have hwr : IntKind.i64.wrap (a + z) = a + z := by have := AN.out; simp [IntKind.wrap, IntKind.bits, IntKind.signed]; omega
    have hwr2 : wrap64 (a + z) = a + z := by have := AN.out; unfold wrap64; omega
    go_wp2_with fail
    refine (putR a RO.out BW.out.size LN.out.1 (by have := LN.out.2; omega)).mono ?_
    rintro e w3 ⟨v3, rfl, hb3, hr3⟩
    have S3 := stepP BW hb3
    have R3 := Aside0.mk hr3
    replace x0 := (hb3.cell (World.block_lt_of_cell? _ _ x0)).trans x0
    replace x1 := (hb3.cell (World.block_lt_of_cell? _ _ x1)).trans x1
    have LM : Aside0 (0 < (putP ys a).length ∧ (putP ys a).length ≤ 100000) := ⟨by have := putP_len ys a; have := LN.out; omega⟩
    generalize putP ys a = zs at R3 LM NX
    clear RO BW hb3 hr3 LN
    have S3d : Aside0 (Below w.heap.size w w3.drew) := ⟨below_drew S3.out⟩
    have R3d := Aside0.mk (Kd.R_drew R3.out)
    go_wp2_with fail
    go_region_held3 (fun W => W.cell? (ad.add (i * 2)) = some (.int .i64 a) ∧ W.cell? ⟨(ad.add (i * 2)).block, (ad.add (i * 2)).off + 1, none⟩ = some (.int .i64 n) ∧ Aside0 (Below w.heap.size w W)) (first | go_keep | ((try dsimp only); refine ⟨?_, ?_, ?_⟩ <;> first | (with_reducible assumption) | exact S3d | go_keep)) (first
     | (go_at_call 76; (with_reducible refine (SZ.out _).mono ?_); rintro e w7 ⟨rfl, hb7⟩; have S7 : Aside0 (Below w.heap.size w w7) := stepP S3d hb7; have q0 := (hb7.cell (World.block_lt_of_cell? _ _ x0)).trans x0; have q1 := (hb7.cell (World.block_lt_of_cell? _ _ x1)).trans x1; have R7 := Aside0.mk (Kd.R_below R3d.out hb7))
     | (go_at_call 131; refine (putR (a + z) R7.out S7.out.size LM.out.1 LM.out.2).mono ?_; rintro e w8 ⟨v8, rfl, hb8, hr8⟩; have S8 : Aside0 (Below w.heap.size w w8) := stepP S7 hb8; have R8 := Aside0.mk hr8; have u0 := (hb8.cell (World.block_lt_of_cell? _ _ q0)).trans q0; have u1 := (hb8.cell (World.block_lt_of_cell? _ _ q1)).trans q1))
    all_goals
     go_wp2
    all_goals
     go_roundg (l0.length - (i + 1))
     case measure => omega
     case rel => exact ⟨i + 1, by omega, by omega, congrArg (Value.int .i64) (by have h8 := HL.out; first | omega | (rw [Pure.wrap_in (x := (i : Int) + 1) (by omega) (by omega)]; omega)), ⟨by rw [NX.out]; exact R8.out⟩, S8⟩
   have hltz : ¬ (i : Int) < (l0.length : Int) := by omega
   obtain rfl : i = l0.length := by omega
   rw [List.take_length] at RO
   go_wp2
   go_ret
   exact ⟨_, rfl, by rw [← HE.out]; exact RO.out, BW.out⟩
 rw [if_neg hcond] at h
 exact absurd h (by simp)
end Go.Proofs.Ytnakanjhdcakhaa.Q
namespace Go.Proofs.Ytnakanjhdcakhaa.Q
open Go.RowKit Go.Proofs.YtnakanjhdcakhaaW.PrintWords Go.Proofs.YtnakanjhdcakhaaW.PrintLast Go.Proofs.YtnakanjhdcakhaaW.PrintMore
attribute [local go_sem] max2_int min2_int max_two min_two max_three min_three max_four min_four   -- for this text's walks alone
set_option linter.unusedVariables false
set_option linter.unusedSimpArgs false
def spec_l4Froms.l0 : Nat → List (S54) → List (S26) → Int → Option ((List (S26)))
  | 0, _, _, _ => none
  | k + 1, x0, x3, x4 => if x4 < (x0.length : Int) then (if 0 ≤ x4 then (if x3.length < 8796093022208 then (spec_l4Froms.l0 k x0 (x3 ++ [(⟨(rd_T54 x0 x4).f1.f0, (rd_T54 x0 x4).f1.f1⟩ : S26)]) (wrap64 (x4 + 1))) else (none)) else (none)) else (some x3)
def spec_l4Froms.f (k : Nat) (l0 : List (S54)) : Option ((List (S26))) := spec_l4Froms.l0 k l0 (([] : List (S26))) 0
theorem spec_l4Froms.zHB {P : Prop} (h : P := by repeat (first | (with_reducible first | exact HB.out | apply below_alloc | apply pw_below_drewN | apply below_drew1) | exact HB.out)) : P := h
theorem spec_l4Froms.zk {P Q : Prop} (x : Q) (h : Q → P := by intro x_; (with_reducible repeat (first | apply Kd.R_alloc | apply Kd.R_drewN | apply Kd.R_drew)); exact x_) : P := h x
set_option maxHeartbeats 8000000 in
set_option maxRecDepth 100000 in
theorem spec_l4Froms.calls (k : Nat) (A0 : Option Addr) (c0 : Nat) (l0 : List (S54)) (r : List (S26)) (w : World) (hr0 : Kd.C k54 w A0 l0.length l0) (hc0 : l0.length ≤ c0) (h : spec_l4Froms.f k l0 = some r) :
  Calls Try.prog 116 #[.slice A0 l0.length c0] w fun e w' => ∃ v0_ : Value, e = .returned (v0_) ∧ Kd.R k26 26 w' w.heap.size (fun _ => True) v0_ r ∧ Below w.heap.size w w' := by
 have hu26 := Try.underlying26
 have HR0 := Aside0.mk hr0
 have HC0 := Aside0.mk hc0
 clear hr0 hc0
 have HB := Aside0.mk (Below.refl w.heap.size w)
 have H : (spec_l4Froms.l0 k l0 (([] : List (S26))) 0) = some r := h
 clear h
 obtain ⟨y101, hy101⟩ : ∃ y_ : List (S26), y_ = (([] : List (S26))) := ⟨_, rfl⟩
 replace H : (spec_l4Froms.l0 k l0 y101 0) = some r := by first | (rw [hy101]; with_reducible exact H) | (have H2_ := (Option.bind_some _ _).symm.trans H; rw [hy101]; with_reducible exact H2_) | (have H2_ := (Option.bind_some _ _).symm.trans H; with_reducible exact H2_) | with_reducible exact H | (rw [hy101]; exact H) | exact H
 have Ny101 := Aside0.mk hy101
 clear hy101
 have H' := Aside0.mk H
 clear H
 go_enter Try.func116, Try.ntmps116
 go_wp2_with (first | ((with_reducible refine gate_dst (N := 5) rfl ?_); refine Kd.R_lit k26 _ 26 ?hg (N := 5) ?hd (xs := ([] : List (S26))) (inner := []) (ok := fun _ => True) (okp := fun _ => True) ?hr ?hp (fun _ hk => hk) trivial (Below.refl _ _) (Nat.le_refl _) (by simp) ?_; (case hd => rfl); (case hg => rfl); (case hr => first | (go_simp; done) | (go_simp; rfl)); (case hp => exact (Reps.none _ _)); intro v102 w2 ho3 hb hg_ hnew_; clear hg_ hnew_; (first | rw [← Ny101.out] at ho3 | (simp only [Int.reduceToNat] at ho3; rw [← Ny101.out] at ho3)); have n0_ := Aside0.mk (Kd.R_lower ho3 (below_size (zHB))); have n1_ := Aside0.mk (below_step (zHB) hb); clear HB; have HO103 := n0_; have HB := n1_; clear n0_ n1_; clear hb ho3))
 go_loopg [3, 4] k (fun kq v3 v4 w' => ∃ (x3_1 : List (S26)) (x4_1 : Int), v4 = .int .i64 x4_1 ∧ Aside0 (spec_l4Froms.l0 kq l0 x3_1 x4_1 = some r) ∧ Aside0 (kq ≤ k) ∧ Aside0 (Kd.R k26 26 w' w.heap.size (fun _ => True) v3 x3_1) ∧ Aside0 (Below w.heap.size w w'))
 case atStart => exact ⟨(y101), (0), (by first | rfl | (simp; done) | (simp [*]; done)), H', ⟨Nat.le_refl _⟩, ⟨by refine zk ?_; exact HO103.out⟩, ⟨zHB⟩⟩
 case round =>
  clear H'
  try clear c1
  try clear p2
  obtain ⟨x3_1, x4_1, rfl, HA, HK1, HO_3, HB⟩ := hrel
  cases gk with
  | zero => exact absurd HA.out (by simp [spec_l4Froms.l0])
  | succ k1 => ?_
  have H := HA.out
  clear HA
  simp only [spec_l4Froms.l0] at H
  by_cases c4 : x4_1 < (l0.length : Int)
  ·rw [if_pos c4] at H
   have c4b0 : decide (x4_1 < (l0.length : Int)) = true := decide_eq_true c4
   clear c4
   by_cases c5 : 0 ≤ x4_1
   ·rw [if_pos c5] at H
    have c5b0 : decide (0 ≤ x4_1) = true := decide_eq_true c5
    clear c5
    by_cases c6 : x3_1.length < 8796093022208
    ·rw [if_pos c6] at H
     have LMc6 := Aside0.mk c6
     clear c6
     obtain ⟨y105, hy105⟩ : ∃ y_ : List (S26), y_ = (x3_1 ++ [(⟨(rd_T54 l0 x4_1).f1.f0, (rd_T54 l0 x4_1).f1.f1⟩ : S26)]) := ⟨_, rfl⟩
     replace H : (spec_l4Froms.l0 k1 l0 y105 (wrap64 (x4_1 + 1))) = some r := by first | (rw [hy105]; with_reducible exact H) | (have H2_ := (Option.bind_some _ _).symm.trans H; rw [hy105]; with_reducible exact H2_) | (have H2_ := (Option.bind_some _ _).symm.trans H; with_reducible exact H2_) | with_reducible exact H | (rw [hy105]; exact H) | exact H
     have Ny105 := Aside0.mk hy105
     clear hy105
     have H' := Aside0.mk H
     clear H
     have p104 : 0 ≤ (x4_1 : Int) := of_decide_eq_true (by first | (with_reducible assumption) | assumption)
     have q104 : x4_1 < (l0.length : Int) := of_decide_eq_true (by first | (with_reducible assumption) | assumption)
     obtain ⟨ad104, e104, hx104_0, hx104_1, hx104_2, hx104_3, hx104_4, hx104_5⟩ := at_T54 HR0.out x4_1 p104 q104
     cases e104
     replace hx104_0 := (HB.out.cell (World.block_lt_of_cell? w _ hx104_0)).trans hx104_0
     replace hx104_1 := (HB.out.cell (World.block_lt_of_cell? w _ hx104_1)).trans hx104_1
     replace hx104_2 := (HB.out.cell (World.block_lt_of_cell? w _ hx104_2)).trans hx104_2
     replace hx104_3 := (HB.out.cell (World.block_lt_of_cell? w _ hx104_3)).trans hx104_3
     replace hx104_4 := (HB.out.cell (World.block_lt_of_cell? w _ hx104_4)).trans hx104_4
     replace hx104_5 := (HB.out.cell (World.block_lt_of_cell? w _ hx104_5)).trans hx104_5
     replace p104 := eq_true p104
     replace q104 := eq_true q104
     go_wp2_with (first | ((with_reducible refine gate_builtin (b := .append) (xs := #[.tmp 12, .tmp 18]) rfl ?_); at_builtin; refine Kd.R_append k26 (w0 := w) w.heap.size rfl (.tmp 12) (.tmp 18) 58 26 (.agg #[(.int .i64 0), (.int .i64 0)]) 16 rfl Try.underlying58 info26 rfl (by decide) (by omega) u3 x3_1 (⟨(rd_T54 l0 x4_1).f1.f0, (rd_T54 l0 x4_1).f1.f1⟩ : S26) [.int .i64 ((rd_T54 l0 x4_1).f1.f0), .int .i64 ((rd_T54 l0 x4_1).f1.f1)] (fun _ => True) (fun _ => False) rfl rfl ?aP (fun _ hk => hk.elim) ?aF ?aO ?aB ?aS ?aL ?_; (case aP => exact k26_mkM _ _ _ (⟨(rd_T54 l0 x4_1).f1.f0, (rd_T54 l0 x4_1).f1.f1⟩ : S26)); (case aB => exact (zHB)); (case aF => exact (fun _ _ => trivial)); (case aO => exact (by refine zk ?_; exact HO_3.out)); (case aS => exact (below_size (zHB))); (case aL => have := LMc6.out; omega); intro v106 w7 ho hb hg hat; rw [← Ny105.out] at ho; have n0_ := Aside0.mk (hb); have n1_ := Aside0.mk (ho); clear HB; clear HO_3; have HB := n0_; have HO107 := n1_; clear n0_ n1_; clear ho hb hg hat))
     go_roundg k1
     case measure => have := HK1.out; omega
     case rel => exact ⟨(y105), (wrap64 (x4_1 + 1)), (by first | rfl | (simp; done) | (simp [*]; done)), H', ⟨by have := HK1.out; omega⟩, ⟨by refine zk ?_; exact HO107.out⟩, ⟨zHB⟩⟩
    rw [if_neg c6] at H
    exact absurd H (by simp)
   rw [if_neg c5] at H
   exact absurd H (by simp)
  rw [if_neg c4] at H
  have c4b0 : decide (x4_1 < (l0.length : Int)) = false := decide_eq_false c4
  clear c4
  obtain rfl := Option.some.inj H
  go_wp2
  go_ret
  exact ⟨_, by first | rfl | (simp [errW_none, errW_some] <;> rfl) | (simp [*, errW_none, errW_some] <;> rfl), by refine zk ?_; exact HO_3.out, zHB⟩
end Go.Proofs.Ytnakanjhdcakhaa.Q
namespace Go.Proofs.Ytnakanjhdcakhaa.Q
open Go.RowKit Go.Proofs.YtnakanjhdcakhaaW.PrintWords Go.Proofs.YtnakanjhdcakhaaW.PrintLast Go.Proofs.YtnakanjhdcakhaaW.PrintMore
attribute [local go_sem] max2_int min2_int max_two min_two max_three min_three max_four min_four   -- for this text's walks alone
set_option linter.unusedVariables false
set_option linter.unusedSimpArgs false
def spec_l4Tos.l0 : Nat → List (S54) → List (S26) → Int → Option ((List (S26)))
  | 0, _, _, _ => none
  | k + 1, x0, x3, x4 => if x4 < (x0.length : Int) then (if 0 ≤ x4 then (if x3.length < 8796093022208 then (spec_l4Tos.l0 k x0 (x3 ++ [(⟨(rd_T54 x0 x4).f2.f0, (rd_T54 x0 x4).f2.f1⟩ : S26)]) (wrap64 (x4 + 1))) else (none)) else (none)) else (some x3)
def spec_l4Tos.f (k : Nat) (l0 : List (S54)) : Option ((List (S26))) := spec_l4Tos.l0 k l0 (([] : List (S26))) 0
theorem spec_l4Tos.zHB {P : Prop} (h : P := by repeat (first | (with_reducible first | exact HB.out | apply below_alloc | apply pw_below_drewN | apply below_drew1) | exact HB.out)) : P := h
theorem spec_l4Tos.zk {P Q : Prop} (x : Q) (h : Q → P := by intro x_; (with_reducible repeat (first | apply Kd.R_alloc | apply Kd.R_drewN | apply Kd.R_drew)); exact x_) : P := h x
set_option maxHeartbeats 8000000 in
set_option maxRecDepth 100000 in
theorem spec_l4Tos.calls (k : Nat) (A0 : Option Addr) (c0 : Nat) (l0 : List (S54)) (r : List (S26)) (w : World) (hr0 : Kd.C k54 w A0 l0.length l0) (hc0 : l0.length ≤ c0) (h : spec_l4Tos.f k l0 = some r) :
  Calls Try.prog 117 #[.slice A0 l0.length c0] w fun e w' => ∃ v0_ : Value, e = .returned (v0_) ∧ Kd.R k26 26 w' w.heap.size (fun _ => True) v0_ r ∧ Below w.heap.size w w' := by
 have hu26 := Try.underlying26
 have HR0 := Aside0.mk hr0
 have HC0 := Aside0.mk hc0
 clear hr0 hc0
 have HB := Aside0.mk (Below.refl w.heap.size w)
 have H : (spec_l4Tos.l0 k l0 (([] : List (S26))) 0) = some r := h
 clear h
 obtain ⟨y101, hy101⟩ : ∃ y_ : List (S26), y_ = (([] : List (S26))) := ⟨_, rfl⟩
 replace H : (spec_l4Tos.l0 k l0 y101 0) = some r := by first | (rw [hy101]; with_reducible exact H) | (have H2_ := (Option.bind_some _ _).symm.trans H; rw [hy101]; with_reducible exact H2_) | (have H2_ := (Option.bind_some _ _).symm.trans H; with_reducible exact H2_) | with_reducible exact H | (rw [hy101]; exact H) | exact H
 have Ny101 := Aside0.mk hy101
 clear hy101
 have H' := Aside0.mk H
 clear H
 go_enter Try.func117, Try.ntmps117
 go_wp2_with (first | ((with_reducible refine gate_dst (N := 5) rfl ?_); refine Kd.R_lit k26 _ 26 ?hg (N := 5) ?hd (xs := ([] : List (S26))) (inner := []) (ok := fun _ => True) (okp := fun _ => True) ?hr ?hp (fun _ hk => hk) trivial (Below.refl _ _) (Nat.le_refl _) (by simp) ?_; (case hd => rfl); (case hg => rfl); (case hr => first | (go_simp; done) | (go_simp; rfl)); (case hp => exact (Reps.none _ _)); intro v102 w2 ho3 hb hg_ hnew_; clear hg_ hnew_; (first | rw [← Ny101.out] at ho3 | (simp only [Int.reduceToNat] at ho3; rw [← Ny101.out] at ho3)); have n0_ := Aside0.mk (Kd.R_lower ho3 (below_size (zHB))); have n1_ := Aside0.mk (below_step (zHB) hb); clear HB; have HO103 := n0_; have HB := n1_; clear n0_ n1_; clear hb ho3))
 go_loopg [3, 4] k (fun kq v3 v4 w' => ∃ (x3_1 : List (S26)) (x4_1 : Int), v4 = .int .i64 x4_1 ∧ Aside0 (spec_l4Tos.l0 kq l0 x3_1 x4_1 = some r) ∧ Aside0 (kq ≤ k) ∧ Aside0 (Kd.R k26 26 w' w.heap.size (fun _ => True) v3 x3_1) ∧ Aside0 (Below w.heap.size w w'))
 case atStart => exact ⟨(y101), (0), (by first | rfl | (simp; done) | (simp [*]; done)), H', ⟨Nat.le_refl _⟩, ⟨by refine zk ?_; exact HO103.out⟩, ⟨zHB⟩⟩
 case round =>
  clear H'
  try clear c1
  try clear p2
  obtain ⟨x3_1, x4_1, rfl, HA, HK1, HO_3, HB⟩ := hrel
  cases gk with
  | zero => exact absurd HA.out (by simp [spec_l4Tos.l0])
  | succ k1 => ?_
  have H := HA.out
  clear HA
  simp only [spec_l4Tos.l0] at H
  by_cases c4 : x4_1 < (l0.length : Int)
  ·rw [if_pos c4] at H
   have c4b0 : decide (x4_1 < (l0.length : Int)) = true := decide_eq_true c4
   clear c4
   by_cases c5 : 0 ≤ x4_1
   ·rw [if_pos c5] at H
    have c5b0 : decide (0 ≤ x4_1) = true := decide_eq_true c5
    clear c5
    by_cases c6 : x3_1.length < 8796093022208
    ·rw [if_pos c6] at H
     have LMc6 := Aside0.mk c6
     clear c6
     obtain ⟨y105, hy105⟩ : ∃ y_ : List (S26), y_ = (x3_1 ++ [(⟨(rd_T54 l0 x4_1).f2.f0, (rd_T54 l0 x4_1).f2.f1⟩ : S26)]) := ⟨_, rfl⟩
     replace H : (spec_l4Tos.l0 k1 l0 y105 (wrap64 (x4_1 + 1))) = some r := by first | (rw [hy105]; with_reducible exact H) | (have H2_ := (Option.bind_some _ _).symm.trans H; rw [hy105]; with_reducible exact H2_) | (have H2_ := (Option.bind_some _ _).symm.trans H; with_reducible exact H2_) | with_reducible exact H | (rw [hy105]; exact H) | exact H
     have Ny105 := Aside0.mk hy105
     clear hy105
     have H' := Aside0.mk H
     clear H
     have p104 : 0 ≤ (x4_1 : Int) := of_decide_eq_true (by first | (with_reducible assumption) | assumption)
     have q104 : x4_1 < (l0.length : Int) := of_decide_eq_true (by first | (with_reducible assumption) | assumption)
     obtain ⟨ad104, e104, hx104_0, hx104_1, hx104_2, hx104_3, hx104_4, hx104_5⟩ := at_T54 HR0.out x4_1 p104 q104
     cases e104
     replace hx104_0 := (HB.out.cell (World.block_lt_of_cell? w _ hx104_0)).trans hx104_0
     replace hx104_1 := (HB.out.cell (World.block_lt_of_cell? w _ hx104_1)).trans hx104_1
     replace hx104_2 := (HB.out.cell (World.block_lt_of_cell? w _ hx104_2)).trans hx104_2
     replace hx104_3 := (HB.out.cell (World.block_lt_of_cell? w _ hx104_3)).trans hx104_3
     replace hx104_4 := (HB.out.cell (World.block_lt_of_cell? w _ hx104_4)).trans hx104_4
     replace hx104_5 := (HB.out.cell (World.block_lt_of_cell? w _ hx104_5)).trans hx104_5
     replace p104 := eq_true p104
     replace q104 := eq_true q104
     go_wp2_with (first | ((with_reducible refine gate_builtin (b := .append) (xs := #[.tmp 12, .tmp 18]) rfl ?_); at_builtin; refine Kd.R_append k26 (w0 := w) w.heap.size rfl (.tmp 12) (.tmp 18) 58 26 (.agg #[(.int .i64 0), (.int .i64 0)]) 16 rfl Try.underlying58 info26 rfl (by decide) (by omega) u3 x3_1 (⟨(rd_T54 l0 x4_1).f2.f0, (rd_T54 l0 x4_1).f2.f1⟩ : S26) [.int .i64 ((rd_T54 l0 x4_1).f2.f0), .int .i64 ((rd_T54 l0 x4_1).f2.f1)] (fun _ => True) (fun _ => False) rfl rfl ?aP (fun _ hk => hk.elim) ?aF ?aO ?aB ?aS ?aL ?_; (case aP => exact k26_mkM _ _ _ (⟨(rd_T54 l0 x4_1).f2.f0, (rd_T54 l0 x4_1).f2.f1⟩ : S26)); (case aB => exact (zHB)); (case aF => exact (fun _ _ => trivial)); (case aO => exact (by refine zk ?_; exact HO_3.out)); (case aS => exact (below_size (zHB))); (case aL => have := LMc6.out; omega); intro v106 w7 ho hb hg hat; rw [← Ny105.out] at ho; have n0_ := Aside0.mk (hb); have n1_ := Aside0.mk (ho); clear HB; clear HO_3; have HB := n0_; have HO107 := n1_; clear n0_ n1_; clear ho hb hg hat))
     go_roundg k1
     case measure => have := HK1.out; omega
     case rel => exact ⟨(y105), (wrap64 (x4_1 + 1)), (by first | rfl | (simp; done) | (simp [*]; done)), H', ⟨by have := HK1.out; omega⟩, ⟨by refine zk ?_; exact HO107.out⟩, ⟨zHB⟩⟩
    rw [if_neg c6] at H
    exact absurd H (by simp)
   rw [if_neg c5] at H
   exact absurd H (by simp)
  rw [if_neg c4] at H
  have c4b0 : decide (x4_1 < (l0.length : Int)) = false := decide_eq_false c4
  clear c4
  obtain rfl := Option.some.inj H
  go_wp2
  go_ret
  exact ⟨_, by first | rfl | (simp [errW_none, errW_some] <;> rfl) | (simp [*, errW_none, errW_some] <;> rfl), by refine zk ?_; exact HO_3.out, zHB⟩
end Go.Proofs.Ytnakanjhdcakhaa.Q
namespace Go.Proofs.Ytnakanjhdcakhaa.Q
open Go.RowKit Go.Proofs.YtnakanjhdcakhaaW.PrintWords Go.Proofs.YtnakanjhdcakhaaW.PrintLast Go.Proofs.YtnakanjhdcakhaaW.PrintMore
attribute [local go_sem] max2_int min2_int max_two min_two max_three min_three max_four min_four   -- for this text's walks alone
set_option linter.unusedVariables false
set_option linter.unusedSimpArgs false
def spec_l4So.f (k : Nat) (l0 : List (S54)) (l1 : List (S54)) (a2 : Int) (a3_0 : Int) (a3_1 : Int) (a3_2 : Int) : Option (Bool) := (spec_l4Says.f k l0 a3_0 a3_1 a3_2).bind fun bt102 => ((spec_l4Says.f k l1 a3_0 a3_1 a3_2).bind fun bt104 => (if a2 ≥ 0 then (some (bt102.1 == a2)) else (some (bt102.2 != bt104.2))))
theorem spec_l4So.zHB {P : Prop} (h : P := by repeat (first | (with_reducible first | exact HB.out | apply below_alloc | apply pw_below_drewN | apply below_drew1 | refine below_set ?_ GE101.out) | exact HB.out)) : P := h
theorem spec_l4So.zb {P Q : Prop} (x : Q) (h : Q → P := by intro x_; (with_reducible repeat (first | refine blk_drewN ?_ _ | refine blk_drew ?_ | refine blk_alloc ?_ _)); exact x_) : P := h x
theorem spec_l4So.y1 {P : Prop} (h : P := by (try simp only [List.map_toArray, List.map_cons, List.map_nil]); first | done | rfl | (simp only [List.length_drop, List.length_take]; rfl)) : P := h
theorem spec_l4So.y2 {P : Prop} (h : P := by rw [hg]; exact (below_size (zHB))) : P := h
theorem spec_l4So.zA {p : Prop} (h : p) : Aside0 p := ⟨h⟩
set_option maxHeartbeats 8000000 in
set_option maxRecDepth 100000 in
theorem spec_l4So.calls (k : Nat) (A0 : Option Addr) (c0 : Nat) (l0 : List (S54)) (A1 : Option Addr) (c1 : Nat) (l1 : List (S54)) (a2 : Int) (a3_0 : Int) (a3_1 : Int) (a3_2 : Int) (r : Bool) (w : World) (hr0 : Kd.C k54 w A0 l0.length l0) (hc0 : l0.length ≤ c0) (hr1 : Kd.C k54 w A1 l1.length l1) (hc1 : l1.length ≤ c1) (h : spec_l4So.f k l0 l1 a2 a3_0 a3_1 a3_2 = some r) :
  Calls Try.prog 118 #[.slice A0 l0.length c0, .slice A1 l1.length c1, .int .i64 a2, .agg #[.int .i64 a3_0, .int .i64 a3_1, .int .i64 a3_2]] w fun e w' => e = .returned (.bool r) ∧ Below w.heap.size w w' := by
 have hu34 := Try.underlying34
 have HR0 := zA hr0
 have HC0 := zA hc0
 clear hr0 hc0
 have HR1 := zA hr1
 have HC1 := zA hc1
 clear hr1 hc1
 have HB := zA (Below.refl w.heap.size w)
 have H : ((spec_l4Says.f k l0 a3_0 a3_1 a3_2).bind fun bt102 => ((spec_l4Says.f k l1 a3_0 a3_1 a3_2).bind fun bt104 => (if a2 ≥ 0 then (some (bt102.1 == a2)) else (some (bt102.2 != bt104.2))))) = some r := h
 clear h
 replace H := Option.bind_eq_some_iff.mp H
 obtain ⟨⟨t102, t103⟩, A50, H⟩ := H
 replace H : ((spec_l4Says.f k l1 a3_0 a3_1 a3_2).bind fun bt104 => (if a2 ≥ 0 then (some (t102 == a2)) else (some (t103 != bt104.2)))) = some r := H
 have A5 := zA A50
 clear A50
 replace H := Option.bind_eq_some_iff.mp H
 obtain ⟨⟨t104, t105⟩, A60, H⟩ := H
 replace H : (if a2 ≥ 0 then (some (t102 == a2)) else (some (t103 != t105))) = some r := H
 have A6 := zA A60
 clear A60
 by_cases c7 : a2 ≥ 0
 ·rw [if_pos c7] at H
  have c7b0 : decide (0 ≤ a2) = true := decide_eq_true c7
  clear c7
  obtain rfl := Option.some.inj H
  go_enter Try.func118, Try.ntmps118
  go_wp2_with (first | ((with_reducible refine gate_dst (N := 7) rfl ?_); refine box_event ?hg (N := 7) ?hd (cs := #[.int .i64 a3_0, .int .i64 a3_1, .int .i64 a3_2]) (t := 34) ?hr ?_; (case hd => rfl); (case hg => rfl); (case hr => first | (go_simp; done) | (go_simp; rfl)); intro gb101 hg w8 hbox hb; have n0_ := zA (below_step (zHB) hb); have n1_ := zA (hbox); have n2_ := zA ((show w.heap.size ≤ gb101 from y2)); have n3_ := zA ((show w.heap.size ≤ gb101 from y2)); clear HB; have HB := n0_; have BK101 := n1_; have GW101 := n2_; have GE101 := n3_; clear n0_ n1_ n2_ n3_; clear hb hbox hg; have hcz9_0 : w8.cell? ⟨gb101, 0, none⟩ = some (.int .i64 a3_0) := (blk_cell BK101.out 0).trans rfl; have hcz9_1 : w8.cell? ⟨gb101, 1, none⟩ = some (.int .i64 a3_1) := (blk_cell BK101.out 1).trans rfl; have hcz9_2 : w8.cell? ⟨gb101, 2, none⟩ = some (.int .i64 a3_2) := (blk_cell BK101.out 2).trans rfl; have hfz9_0 := blk_frozen BK101.out 0; have hfz9_1 := blk_frozen BK101.out 1; have hfz9_2 := blk_frozen BK101.out 2) | ((with_reducible refine gate_callee (f := 103) rfl ?_); refine goesL_ (some 16) rfl rfl Try.func103 (by kernel_rfl) rfl #[.slice A0 l0.length c0, .agg #[.int .i64 a3_0, .int .i64 a3_1, .int .i64 a3_2]] rfl y1  ?_; (with_reducible refine (spec_l4Says.calls k _ _ l0 a3_0 a3_1 a3_2 t102 t103 _ ?side1 ?side2 A5.out).mono ?_); (case side1 => repeat (first | exact (Kd.C_below HR0.out HB.out) | (with_reducible refine Kd.C_alloc ?_ _) | (with_reducible refine Kd.C_drewN ?_ _) | (with_reducible refine Kd.C_drew ?_))); (case side2 => exact HC0.out); rintro e w10 ⟨rfl, hb⟩; refine ⟨_, rfl, ?_⟩; have n0_ := zA (blk_below (g := gb101) (o := .cells #[.int .i64 a3_0, .int .i64 a3_1, .int .i64 a3_2] 34 (0, 0)) (zb BK101.out) hb); have n1_ := zA (below_step (zHB) hb); clear BK101; clear HB; have BK101 := n0_; have HB := n1_; clear n0_ n1_; (try clear hb); (try clear hb2); (try clear hk); (try clear hi); have hcz11_0 : w10.cell? ⟨gb101, 0, none⟩ = some (.int .i64 a3_0) := (blk_cell BK101.out 0).trans rfl; have hcz11_1 : w10.cell? ⟨gb101, 1, none⟩ = some (.int .i64 a3_1) := (blk_cell BK101.out 1).trans rfl; have hcz11_2 : w10.cell? ⟨gb101, 2, none⟩ = some (.int .i64 a3_2) := (blk_cell BK101.out 2).trans rfl; have hfz11_0 := blk_frozen BK101.out 0; have hfz11_1 := blk_frozen BK101.out 1; have hfz11_2 := blk_frozen BK101.out 2) | ((with_reducible refine gate_callee (f := 103) rfl ?_); refine goesL_ (some 22) rfl rfl Try.func103 (by kernel_rfl) rfl #[.slice A1 l1.length c1, .agg #[.int .i64 a3_0, .int .i64 a3_1, .int .i64 a3_2]] rfl y1  ?_; (with_reducible refine (spec_l4Says.calls k _ _ l1 a3_0 a3_1 a3_2 t104 t105 _ ?side1 ?side2 A6.out).mono ?_); (case side1 => repeat (first | exact (Kd.C_below HR1.out HB.out) | (with_reducible refine Kd.C_alloc ?_ _) | (with_reducible refine Kd.C_drewN ?_ _) | (with_reducible refine Kd.C_drew ?_))); (case side2 => exact HC1.out); rintro e w12 ⟨rfl, hb⟩; refine ⟨_, rfl, ?_⟩; have n0_ := zA (blk_below (g := gb101) (o := .cells #[.int .i64 a3_0, .int .i64 a3_1, .int .i64 a3_2] 34 (0, 0)) (zb BK101.out) hb); have n1_ := zA (below_step (zHB) hb); clear BK101; clear HB; have BK101 := n0_; have HB := n1_; clear n0_ n1_; (try clear hb); (try clear hb2); (try clear hk); (try clear hi)))
  go_ret
  exact ⟨by first | rfl | (simp [errW_none, errW_some] <;> rfl) | (simp [*, errW_none, errW_some] <;> rfl), zHB⟩
 rw [if_neg c7] at H
 have c7b0 : decide (0 ≤ a2) = false := decide_eq_false c7
 clear c7
 obtain rfl := Option.some.inj H
 go_enter Try.func118, Try.ntmps118
 go_wp2_with (first | ((with_reducible refine gate_dst (N := 7) rfl ?_); refine box_event ?hg (N := 7) ?hd (cs := #[.int .i64 a3_0, .int .i64 a3_1, .int .i64 a3_2]) (t := 34) ?hr ?_; (case hd => rfl); (case hg => rfl); (case hr => first | (go_simp; done) | (go_simp; rfl)); intro gb101 hg w13 hbox hb; have n0_ := zA (below_step (zHB) hb); have n1_ := zA (hbox); have n2_ := zA ((show w.heap.size ≤ gb101 from y2)); have n3_ := zA ((show w.heap.size ≤ gb101 from y2)); clear HB; have HB := n0_; have BK101 := n1_; have GW101 := n2_; have GE101 := n3_; clear n0_ n1_ n2_ n3_; clear hb hbox hg; have hcz14_0 : w13.cell? ⟨gb101, 0, none⟩ = some (.int .i64 a3_0) := (blk_cell BK101.out 0).trans rfl; have hcz14_1 : w13.cell? ⟨gb101, 1, none⟩ = some (.int .i64 a3_1) := (blk_cell BK101.out 1).trans rfl; have hcz14_2 : w13.cell? ⟨gb101, 2, none⟩ = some (.int .i64 a3_2) := (blk_cell BK101.out 2).trans rfl; have hfz14_0 := blk_frozen BK101.out 0; have hfz14_1 := blk_frozen BK101.out 1; have hfz14_2 := blk_frozen BK101.out 2) | ((with_reducible refine gate_callee (f := 103) rfl ?_); refine goesL_ (some 16) rfl rfl Try.func103 (by kernel_rfl) rfl #[.slice A0 l0.length c0, .agg #[.int .i64 a3_0, .int .i64 a3_1, .int .i64 a3_2]] rfl y1  ?_; (with_reducible refine (spec_l4Says.calls k _ _ l0 a3_0 a3_1 a3_2 t102 t103 _ ?side1 ?side2 A5.out).mono ?_); (case side1 => repeat (first | exact (Kd.C_below HR0.out HB.out) | (with_reducible refine Kd.C_alloc ?_ _) | (with_reducible refine Kd.C_drewN ?_ _) | (with_reducible refine Kd.C_drew ?_))); (case side2 => exact HC0.out); rintro e w15 ⟨rfl, hb⟩; refine ⟨_, rfl, ?_⟩; have n0_ := zA (blk_below (g := gb101) (o := .cells #[.int .i64 a3_0, .int .i64 a3_1, .int .i64 a3_2] 34 (0, 0)) (zb BK101.out) hb); have n1_ := zA (below_step (zHB) hb); clear BK101; clear HB; have BK101 := n0_; have HB := n1_; clear n0_ n1_; (try clear hb); (try clear hb2); (try clear hk); (try clear hi); have hcz16_0 : w15.cell? ⟨gb101, 0, none⟩ = some (.int .i64 a3_0) := (blk_cell BK101.out 0).trans rfl; have hcz16_1 : w15.cell? ⟨gb101, 1, none⟩ = some (.int .i64 a3_1) := (blk_cell BK101.out 1).trans rfl; have hcz16_2 : w15.cell? ⟨gb101, 2, none⟩ = some (.int .i64 a3_2) := (blk_cell BK101.out 2).trans rfl; have hfz16_0 := blk_frozen BK101.out 0; have hfz16_1 := blk_frozen BK101.out 1; have hfz16_2 := blk_frozen BK101.out 2) | ((with_reducible refine gate_callee (f := 103) rfl ?_); refine goesL_ (some 22) rfl rfl Try.func103 (by kernel_rfl) rfl #[.slice A1 l1.length c1, .agg #[.int .i64 a3_0, .int .i64 a3_1, .int .i64 a3_2]] rfl y1  ?_; (with_reducible refine (spec_l4Says.calls k _ _ l1 a3_0 a3_1 a3_2 t104 t105 _ ?side1 ?side2 A6.out).mono ?_); (case side1 => repeat (first | exact (Kd.C_below HR1.out HB.out) | (with_reducible refine Kd.C_alloc ?_ _) | (with_reducible refine Kd.C_drewN ?_ _) | (with_reducible refine Kd.C_drew ?_))); (case side2 => exact HC1.out); rintro e w17 ⟨rfl, hb⟩; refine ⟨_, rfl, ?_⟩; have n0_ := zA (blk_below (g := gb101) (o := .cells #[.int .i64 a3_0, .int .i64 a3_1, .int .i64 a3_2] 34 (0, 0)) (zb BK101.out) hb); have n1_ := zA (below_step (zHB) hb); clear BK101; clear HB; have BK101 := n0_; have HB := n1_; clear n0_ n1_; (try clear hb); (try clear hb2); (try clear hk); (try clear hi)))
 go_ret
 exact ⟨by first | rfl | (simp [errW_none, errW_some] <;> rfl) | (simp [*, errW_none, errW_some] <;> rfl), zHB⟩
end Go.Proofs.Ytnakanjhdcakhaa.Q
namespace Go.Proofs.Ytnakanjhdcakhaa.Q
open Go.RowKit Go.Proofs.YtnakanjhdcakhaaW.PrintWords Go.Proofs.YtnakanjhdcakhaaW.PrintLast Go.Proofs.YtnakanjhdcakhaaW.PrintMore
attribute [local go_sem] max2_int min2_int max_two min_two max_three min_three max_four min_four   -- for this text's walks alone
set_option linter.unusedVariables false
set_option linter.unusedSimpArgs false
mutual
def spec_l4Least.l0 : Nat → List (S54) → List (S54) → Int → List Int → List Int → Int → Option (Int × Int × Int × Bool)
  | 0, _, _, _, _, _, _ => none
  | k + 1, x0, x1, x2, x9, x10, x11 => if x11 < (x9.length : Int) then (spec_l4Least.l1 k x0 x1 x2 x9 x10 x11 0) else (some (0, 0, 0, false))
def spec_l4Least.l1 : Nat → List (S54) → List (S54) → Int → List Int → List Int → Int → Int → Option (Int × Int × Int × Bool)
  | 0, _, _, _, _, _, _, _ => none
  | k + 1, x0, x1, x2, x9, x10, x11, x12 => if x12 < (x10.length : Int) then (spec_l4Least.l2 k x0 x1 x2 x9 x10 x11 x12 1) else (spec_l4Least.l0 k x0 x1 x2 x9 x10 (wrap64 (x11 + 1)))
def spec_l4Least.l2 : Nat → List (S54) → List (S54) → Int → List Int → List Int → Int → Int → Int → Option (Int × Int × Int × Bool)
  | 0, _, _, _, _, _, _, _, _ => none
  | k + 1, x0, x1, x2, x9, x10, x11, x12, x13 => if x13 ≤ 7 then (if 0 ≤ x11 then (if x11 < (x9.length : Int) then (if 0 ≤ x12 then (if x12 < (x10.length : Int) then ((spec_l4So.f k x0 x1 x2 (rd x9 x11) (rd x10 x12) x13).bind fun t126 => (if t126 = true then (some (rd x9 x11, rd x10 x12, x13, true)) else (spec_l4Least.l2 k x0 x1 x2 x9 x10 x11 x12 (wrap64 (x13 + 1))))) else (none)) else (none)) else (none)) else (none)) else (spec_l4Least.l1 k x0 x1 x2 x9 x10 x11 (wrap64 (x12 + 1)))
end
def spec_l4Least.f (k : Nat) (l0 : List (S54)) (l1 : List (S54)) (a2 : Int) : Option (Int × Int × Int × Bool) := (some (([] : List (S54)) : List (S54))).bind fun y102 => (if y102.length + l0.length < 2932031007402 then ((some (y102 ++ l0 : List (S54))).bind fun y105 => (if y105.length + l1.length < 2932031007402 then ((some (y105 ++ l1 : List (S54))).bind fun y108 => ((spec_l4Froms.f k y108).bind fun t111 => ((spec_l4Firsts.f t111).bind fun t114 => ((spec_l4Tos.f k y108).bind fun t117 => ((spec_l4Firsts.f t117).bind fun t120 => (spec_l4Least.l0 k l0 l1 a2 t114 t120 0)))))) else (none))) else (none))
def spec_l4Least.T13 : Bool × List (List Nat × List Nat) := (true, [([], []), ([], []), ([0, 1], [0, 1]), ([2], [2]), ([], []), ([], []), ([4, 5], [4, 5]), ([6], [6]), ([], []), ([3, 7, 8], [3, 7, 8]), ([], []), ([10, 9, 0, 1, 2, 3, 4, 5, 6, 7, 8, 9, 10], [9, 10])])
def spec_l4Least.B13 : List Nat := [0, 0, 3, 7, 0, 0, 48, 112, 0, 511, 0, 2047]
theorem spec_l4Least.tab13 : rtab .any (opsOf Try.f86 13) = spec_l4Least.T13 := by kernel_rfl
theorem spec_l4Least.bits13 : waitsOk spec_l4Least.T13.2 spec_l4Least.B13 = true := by kernel_rfl
theorem spec_l4Least.zHB {P : Prop} (h : P := by repeat (first | (with_reducible first | exact HB.out | apply below_alloc | apply pw_below_drewN | apply below_drew1 | refine below_set ?_ GE101.out | refine below_set ?_ GE125.out) | exact HB.out)) : P := h
theorem spec_l4Least.zb {P Q : Prop} (x : Q) (h : Q → P := by intro x_; (with_reducible repeat (first | refine blk_drewN ?_ _ | refine blk_drew ?_ | refine blk_alloc ?_ _)); exact x_) : P := h x
theorem spec_l4Least.zr {P Q : Prop} (x : Q) (h : Q → P := by intro x_; (with_reducible repeat (first | apply Kd.R_alloc | apply Kd.R_drewN | apply Kd.R_drew)); exact x_) : P := h x
theorem spec_l4Least.zq {P Q : Prop} (x : Q) (h : Q → P := by intro x_; (with_reducible repeat (first | refine blk_drewN ?_ _ | refine blk_drew ?_ | refine blk_alloc ?_ _)); exact x_) : P := h x
theorem spec_l4Least.zk {P Q : Prop} (x : Q) (h : Q → P := by intro x_; (with_reducible repeat (first | apply Kd.R_alloc | apply Kd.R_drewN | apply Kd.R_drew)); exact x_) : P := h x
def spec_l4Least.zl (n k : Nat) : Array Bool := ((List.range n).map fun i => k.testBit i).toArray
theorem spec_l4Least.y1 {P : Prop} (h : P := by first | exact Kd.own_blk (Kd.R_ne HO_10.out BK125.out (by decide)) | (rw [add_block]; exact Kd.own_blk (Kd.R_ne HO_10.out BK125.out (by decide))) | (show (Addr.add _ _).block ≠ _; rw [add_block]; exact Kd.own_blk (Kd.R_ne HO_10.out BK125.out (by decide))) | (dsimp only; exact Kd.own_blk (Kd.R_ne HO_10.out BK125.out (by decide)))) : P := h
theorem spec_l4Least.y2 {P : Prop} (h : P := by first | exact Kd.own_blk (Kd.R_ne HO_9.out BK125.out (by decide)) | (rw [add_block]; exact Kd.own_blk (Kd.R_ne HO_9.out BK125.out (by decide))) | (show (Addr.add _ _).block ≠ _; rw [add_block]; exact Kd.own_blk (Kd.R_ne HO_9.out BK125.out (by decide))) | (dsimp only; exact Kd.own_blk (Kd.R_ne HO_9.out BK125.out (by decide)))) : P := h
theorem spec_l4Least.y3 {P : Prop} (h : P := by (try simp only [List.map_toArray, List.map_cons, List.map_nil]); first | done | rfl | (simp only [List.length_drop, List.length_take]; rfl)) : P := h
theorem spec_l4Least.y4 {P : Prop} (h : P := by rw [hg]; exact (below_size (zHB))) : P := h
theorem spec_l4Least.y5 {P : Prop} (h : P := by first | (with_reducible assumption) | assumption) : P := h
theorem spec_l4Least.y6 {P : Prop} (h : P := by first | rfl | (simp; done) | (simp [*]; done)) : P := h
theorem spec_l4Least.zA {p : Prop} (h : p) : Aside0 p := ⟨h⟩
set_option maxHeartbeats 8000000 in
set_option maxRecDepth 100000 in
theorem spec_l4Least.calls (k : Nat) (A0 : Option Addr) (c0 : Nat) (l0 : List (S54)) (A1 : Option Addr) (c1 : Nat) (l1 : List (S54)) (a2 : Int) (r1 : Int) (r2 : Int) (r3 : Int) (r4 : Bool) (w : World) (hr0 : Kd.C k54 w A0 l0.length l0) (hc0 : l0.length ≤ c0) (hr1 : Kd.C k54 w A1 l1.length l1) (hc1 : l1.length ≤ c1) (h : spec_l4Least.f k l0 l1 a2 = some (r1, r2, r3, r4)) :
  Calls Try.prog 86 #[.slice A0 l0.length c0, .slice A1 l1.length c1, .int .i64 a2] w fun e w' => e = .returned (.tuple #[.agg #[.int .i64 r1, .int .i64 r2, .int .i64 r3], .bool r4]) ∧ Below w.heap.size w w' := by
 have hu34 := Try.underlying34
 have HR0 := zA hr0
 have HC0 := zA hc0
 clear hr0 hc0
 have HR1 := zA hr1
 have HC1 := zA hc1
 clear hr1 hc1
 have HB := zA (Below.refl w.heap.size w)
 have H : ((some (([] : List (S54)) : List (S54))).bind fun y102 => (if y102.length + l0.length < 2932031007402 then ((some (y102 ++ l0 : List (S54))).bind fun y105 => (if y105.length + l1.length < 2932031007402 then ((some (y105 ++ l1 : List (S54))).bind fun y108 => ((spec_l4Froms.f k y108).bind fun t111 => ((spec_l4Firsts.f t111).bind fun t114 => ((spec_l4Tos.f k y108).bind fun t117 => ((spec_l4Firsts.f t117).bind fun t120 => (spec_l4Least.l0 k l0 l1 a2 t114 t120 0)))))) else (none))) else (none))) = some (r1, r2, r3, r4) := h
 clear h
 obtain ⟨y102, hy102⟩ : ∃ y_ : List (S54), y_ = (([] : List (S54))) := ⟨_, rfl⟩
 replace H : (if y102.length + l0.length < 2932031007402 then ((some (y102 ++ l0 : List (S54))).bind fun y105 => (if y105.length + l1.length < 2932031007402 then ((some (y105 ++ l1 : List (S54))).bind fun y108 => ((spec_l4Froms.f k y108).bind fun t111 => ((spec_l4Firsts.f t111).bind fun t114 => ((spec_l4Tos.f k y108).bind fun t117 => ((spec_l4Firsts.f t117).bind fun t120 => (spec_l4Least.l0 k l0 l1 a2 t114 t120 0)))))) else (none))) else (none)) = some (r1, r2, r3, r4) := by first | (rw [hy102]; with_reducible exact H) | (have H2_ := (Option.bind_some _ _).symm.trans H; rw [hy102]; with_reducible exact H2_) | (have H2_ := (Option.bind_some _ _).symm.trans H; with_reducible exact H2_) | with_reducible exact H | (rw [hy102]; exact H) | exact H
 have Ny102 := zA hy102
 clear hy102
 by_cases c4 : y102.length + l0.length < 2932031007402
 ·rw [if_pos c4] at H
  have LMc4 := zA c4
  clear c4
  obtain ⟨y105, hy105⟩ : ∃ y_ : List (S54), y_ = (y102 ++ l0) := ⟨_, rfl⟩
  replace H : (if y105.length + l1.length < 2932031007402 then ((some (y105 ++ l1 : List (S54))).bind fun y108 => ((spec_l4Froms.f k y108).bind fun t111 => ((spec_l4Firsts.f t111).bind fun t114 => ((spec_l4Tos.f k y108).bind fun t117 => ((spec_l4Firsts.f t117).bind fun t120 => (spec_l4Least.l0 k l0 l1 a2 t114 t120 0)))))) else (none)) = some (r1, r2, r3, r4) := by first | (rw [hy105]; with_reducible exact H) | (have H2_ := (Option.bind_some _ _).symm.trans H; rw [hy105]; with_reducible exact H2_) | (have H2_ := (Option.bind_some _ _).symm.trans H; with_reducible exact H2_) | with_reducible exact H | (rw [hy105]; exact H) | exact H
  have Ny105 := zA hy105
  clear hy105
  by_cases c5 : y105.length + l1.length < 2932031007402
  ·rw [if_pos c5] at H
   have LMc5 := zA c5
   clear c5
   obtain ⟨y108, hy108⟩ : ∃ y_ : List (S54), y_ = (y105 ++ l1) := ⟨_, rfl⟩
   replace H : ((spec_l4Froms.f k y108).bind fun t111 => ((spec_l4Firsts.f t111).bind fun t114 => ((spec_l4Tos.f k y108).bind fun t117 => ((spec_l4Firsts.f t117).bind fun t120 => (spec_l4Least.l0 k l0 l1 a2 t114 t120 0))))) = some (r1, r2, r3, r4) := by first | (rw [hy108]; with_reducible exact H) | (have H2_ := (Option.bind_some _ _).symm.trans H; rw [hy108]; with_reducible exact H2_) | (have H2_ := (Option.bind_some _ _).symm.trans H; with_reducible exact H2_) | with_reducible exact H | (rw [hy108]; exact H) | exact H
   have Ny108 := zA hy108
   clear hy108
   replace H := Option.bind_eq_some_iff.mp H
   obtain ⟨t111, A60, H⟩ := H
   replace H : ((spec_l4Firsts.f t111).bind fun t114 => ((spec_l4Tos.f k y108).bind fun t117 => ((spec_l4Firsts.f t117).bind fun t120 => (spec_l4Least.l0 k l0 l1 a2 t114 t120 0)))) = some (r1, r2, r3, r4) := H
   have A6 := zA A60
   clear A60
   replace H := Option.bind_eq_some_iff.mp H
   obtain ⟨t114, A70, H⟩ := H
   replace H : ((spec_l4Tos.f k y108).bind fun t117 => ((spec_l4Firsts.f t117).bind fun t120 => (spec_l4Least.l0 k l0 l1 a2 t114 t120 0))) = some (r1, r2, r3, r4) := H
   have A7 := zA A70
   clear A70
   replace H := Option.bind_eq_some_iff.mp H
   obtain ⟨t117, A80, H⟩ := H
   replace H : ((spec_l4Firsts.f t117).bind fun t120 => (spec_l4Least.l0 k l0 l1 a2 t114 t120 0)) = some (r1, r2, r3, r4) := H
   have A8 := zA A80
   clear A80
   replace H := Option.bind_eq_some_iff.mp H
   obtain ⟨t120, A90, H⟩ := H
   replace H : (spec_l4Least.l0 k l0 l1 a2 t114 t120 0) = some (r1, r2, r3, r4) := H
   have A9 := zA A90
   clear A90
   have H' := zA H
   clear H
   go_enter Try.func86, Try.ntmps86
   go_wp2_with (first | ((with_reducible refine gate_dst (N := 6) rfl ?_); refine box_event ?hg (N := 6) ?hd (cs := #[.int .i64 0, .int .i64 0, .int .i64 0]) (t := 34) ?hr ?_; (case hd => rfl); (case hg => rfl); (case hr => first | (go_simp; done) | (go_simp; rfl)); intro gb101 hg w10 hbox hb; have n0_ := zA (below_step (zHB) hb); have n1_ := zA (hbox); have n2_ := zA ((by rw [hg]; exact (below_size (zHB)) : w.heap.size ≤ gb101)); have n3_ := zA ((by rw [hg]; exact (below_size (zHB)) : w.heap.size ≤ gb101)); clear HB; have HB := n0_; have BK101 := n1_; have GW101 := n2_; have GE101 := n3_; clear n0_ n1_ n2_ n3_; clear hb hbox hg) | ((with_reducible refine gate_dst (N := 15) rfl ?_); refine Kd.R_lit k54 _ 54 ?hg (N := 15) ?hd (xs := ([] : List (S54))) (inner := []) (ok := fun _ => True) (okp := fun _ => True) ?hr ?hp (fun _ hk => hk) trivial (Below.refl _ _) (Nat.le_refl _) (by simp) ?_; (case hd => rfl); (case hg => rfl); (case hr => first | (go_simp; done) | (go_simp; rfl)); (case hp => exact (Reps.none _ _)); intro v103 w11 ho12 hb hg_ hnew_; clear hg_ hnew_; (first | rw [← Ny102.out] at ho12 | (simp only [Int.reduceToNat] at ho12; rw [← Ny102.out] at ho12)); have n0_ := zA (Kd.R_lower ho12 (below_size (zHB))); have n1_ := zA (blk_below (g := gb101) (o := .cells #[.int .i64 0, .int .i64 0, .int .i64 0] 34 (0, 0)) (zb BK101.out) hb); have n2_ := zA (below_step (zHB) hb); clear BK101; clear HB; have HO104 := n0_; have BK101 := n1_; have HB := n2_; clear n0_ n1_ n2_; clear hb ho12) | ((with_reducible refine gate_builtin (b := .append) (xs := #[.tmp 15, .tmp 16]) rfl ?_); at_builtin; refine Kd.R_append_rows k54 (w0 := w) w.heap.size rfl (.tmp 15) (.tmp 16) 30 54 (.agg #[(.bool false), (.int .i64 0), (.int .i64 0), (.int .i64 0), (.int .i64 0), (.int .i64 0)]) 48 rfl Try.underlying30 info54 rfl (by decide) (by omega) v103 y102 l0 _ _ _ (fun _ => True) (fun _ => False) rfl rfl ?aO ?aR (fun _ _ h => h) (fun _ h => h.elim) ?aF ?aB ?aS ?aL ?_; (case aR => repeat (first | exact (Kd.C_below HR0.out HB.out) | (with_reducible refine Kd.C_alloc ?_ _) | (with_reducible refine Kd.C_drewN ?_ _) | (with_reducible refine Kd.C_drew ?_))); (case aB => exact (zHB)); (case aF => exact (fun _ _ => trivial)); (case aO => exact (zr HO104.out)); (case aS => exact (below_size (zHB))); (case aL => have := LMc4.out; omega); intro v106 w13 ho hb hg hat; rw [← Ny105.out] at ho; have n0_ := zA (blk_grown (g := gb101) (o := .cells #[.int .i64 0, .int .i64 0, .int .i64 0] 34 (0, 0)) (zb BK101.out) hg (Kd.R_ne HO104.out BK101.out (by decide))); have n1_ := zA (hb); have n2_ := zA (ho); clear BK101; clear HB; clear HO104; have BK101 := n0_; have HB := n1_; have HO107 := n2_; clear n0_ n1_ n2_; clear ho hb hg hat) | ((with_reducible refine gate_builtin (b := .append) (xs := #[.tmp 17, .tmp 18]) rfl ?_); at_builtin; refine Kd.R_append_rows k54 (w0 := w) w.heap.size rfl (.tmp 17) (.tmp 18) 30 54 (.agg #[(.bool false), (.int .i64 0), (.int .i64 0), (.int .i64 0), (.int .i64 0), (.int .i64 0)]) 48 rfl Try.underlying30 info54 rfl (by decide) (by omega) v106 y105 l1 _ _ _ (fun _ => True) (fun _ => False) rfl rfl ?aO ?aR (fun _ _ h => h) (fun _ h => h.elim) ?aF ?aB ?aS ?aL ?_; (case aR => repeat (first | exact (Kd.C_below HR1.out HB.out) | (with_reducible refine Kd.C_alloc ?_ _) | (with_reducible refine Kd.C_drewN ?_ _) | (with_reducible refine Kd.C_drew ?_))); (case aB => exact (zHB)); (case aF => exact (fun _ _ => trivial)); (case aO => exact (zr HO107.out)); (case aS => exact (below_size (zHB))); (case aL => have := LMc5.out; omega); intro v109 w14 ho hb hg hat; rw [← Ny108.out] at ho; have n0_ := zA (blk_grown (g := gb101) (o := .cells #[.int .i64 0, .int .i64 0, .int .i64 0] 34 (0, 0)) (zb BK101.out) hg (Kd.R_ne HO107.out BK101.out (by decide))); have n1_ := zA (hb); have n2_ := zA (ho); clear BK101; clear HB; clear HO107; have BK101 := n0_; have HB := n1_; have HO110 := n2_; clear n0_ n1_ n2_; clear ho hb hg hat; obtain ⟨Ao15, co15, eo15⟩ := Kd.R_slice HO110.out; subst eo15) | ((with_reducible refine gate_callee (f := 116) rfl ?_); refine goesL_ (some 21) rfl rfl Try.func116 (by kernel_rfl) rfl #[.slice Ao15 y108.length co15] rfl y3  ?_; (with_reducible refine (spec_l4Froms.calls k _ _ y108 t111 _ ?side1 ?side2 A6.out).mono ?_); (case side1 => repeat (first | exact (Kd.R_reads' HO110.out).2.2 | (with_reducible refine Kd.C_alloc ?_ _) | (with_reducible refine Kd.C_drewN ?_ _) | (with_reducible refine Kd.C_drew ?_))); (case side2 => exact (Kd.R_reads' HO110.out).2.1); rintro e w16 ⟨v112, rfl, ho0, hb⟩; refine ⟨_, rfl, ?_⟩; have n0_ := zA (Kd.R_below (zr HO110.out) hb); have n1_ := zA (Kd.R_lower ho0 (below_size (zHB))); have n2_ := zA (blk_below (g := gb101) (o := .cells #[.int .i64 0, .int .i64 0, .int .i64 0] 34 (0, 0)) (zb BK101.out) hb); have n3_ := zA (below_step (zHB) hb); clear HO110; clear BK101; clear HB; have HO110 := n0_; have HO113 := n1_; have BK101 := n2_; have HB := n3_; clear n0_ n1_ n2_ n3_; (try clear hb); (try clear hb2); (try clear hk); (try clear hi); (try clear ho0); obtain ⟨Ao17, co17, eo17⟩ := Kd.R_slice HO113.out; subst eo17) | ((with_reducible refine gate_callee (f := 115) rfl ?_); refine goesL_ (some 22) rfl rfl Try.func115 (by kernel_rfl) rfl #[.slice Ao17 t111.length co17] rfl y3  ?_; (with_reducible refine (spec_l4Firsts.calls _ _ t111 t114 _ ?side1 ?side2 A7.out).mono ?_); (case side1 => repeat (first | exact (Kd.R_reads' HO113.out).2.2 | (with_reducible refine Kd.C_alloc ?_ _) | (with_reducible refine Kd.C_drewN ?_ _) | (with_reducible refine Kd.C_drew ?_))); (case side2 => exact (Kd.R_reads' HO113.out).2.1); rintro e w18 ⟨v115, rfl, ho0, hb⟩; refine ⟨_, rfl, ?_⟩; have n0_ := zA (Kd.R_below (zr HO110.out) hb); have n1_ := zA (Kd.R_below (zr HO113.out) hb); have n2_ := zA (Kd.R_lower ho0 (below_size (zHB))); have n3_ := zA (blk_below (g := gb101) (o := .cells #[.int .i64 0, .int .i64 0, .int .i64 0] 34 (0, 0)) (zb BK101.out) hb); have n4_ := zA (below_step (zHB) hb); clear HO110; clear HO113; clear BK101; clear HB; have HO110 := n0_; have HO113 := n1_; have HO116 := n2_; have BK101 := n3_; have HB := n4_; clear n0_ n1_ n2_ n3_ n4_; (try clear hb); (try clear hb2); (try clear hk); (try clear hi); (try clear ho0)) | ((with_reducible refine gate_callee (f := 117) rfl ?_); refine goesL_ (some 24) rfl rfl Try.func117 (by kernel_rfl) rfl #[.slice Ao15 y108.length co15] rfl y3  ?_; (with_reducible refine (spec_l4Tos.calls k _ _ y108 t117 _ ?side1 ?side2 A8.out).mono ?_); (case side1 => repeat (first | exact (Kd.R_reads' HO110.out).2.2 | (with_reducible refine Kd.C_alloc ?_ _) | (with_reducible refine Kd.C_drewN ?_ _) | (with_reducible refine Kd.C_drew ?_))); (case side2 => exact (Kd.R_reads' HO110.out).2.1); rintro e w19 ⟨v118, rfl, ho0, hb⟩; refine ⟨_, rfl, ?_⟩; have n0_ := zA (Kd.R_below (zr HO110.out) hb); have n1_ := zA (Kd.R_elder' (zr HO113.out) (Kd.R_base ho0) hb); have n2_ := zA (Kd.R_below (zr HO116.out) hb); have n3_ := zA (Kd.R_lower (Kd.R_new' ho0 (Kd.R_lt (zr HO113.out))) (below_size (zHB))); have n4_ := zA (blk_below (g := gb101) (o := .cells #[.int .i64 0, .int .i64 0, .int .i64 0] 34 (0, 0)) (zb BK101.out) hb); have n5_ := zA (below_step (zHB) hb); clear HO110; clear HO113; clear HO116; clear BK101; clear HB; have HO110 := n0_; have HO113 := n1_; have HO116 := n2_; have HO119 := n3_; have BK101 := n4_; have HB := n5_; clear n0_ n1_ n2_ n3_ n4_ n5_; (try clear hb); (try clear hb2); (try clear hk); (try clear hi); (try clear ho0); obtain ⟨Ao20, co20, eo20⟩ := Kd.R_slice HO119.out; subst eo20) | ((with_reducible refine gate_callee (f := 115) rfl ?_); refine goesL_ (some 25) rfl rfl Try.func115 (by kernel_rfl) rfl #[.slice Ao20 t117.length co20] rfl y3  ?_; (with_reducible refine (spec_l4Firsts.calls _ _ t117 t120 _ ?side1 ?side2 A9.out).mono ?_); (case side1 => repeat (first | exact (Kd.R_reads' HO119.out).2.2 | (with_reducible refine Kd.C_alloc ?_ _) | (with_reducible refine Kd.C_drewN ?_ _) | (with_reducible refine Kd.C_drew ?_))); (case side2 => exact (Kd.R_reads' HO119.out).2.1); rintro e w21 ⟨v121, rfl, ho0, hb⟩; refine ⟨_, rfl, ?_⟩; have n0_ := zA (Kd.R_below (zr HO110.out) hb); have n1_ := zA (Kd.R_below (zr HO113.out) hb); have n2_ := zA (Kd.R_elder' (zr HO116.out) (Kd.R_base ho0) hb); have n3_ := zA (Kd.R_below (zr HO119.out) hb); have n4_ := zA (Kd.R_lower (Kd.R_new' ho0 (Kd.R_lt (zr HO116.out))) (below_size (zHB))); have n5_ := zA (blk_below (g := gb101) (o := .cells #[.int .i64 0, .int .i64 0, .int .i64 0] 34 (0, 0)) (zb BK101.out) hb); have n6_ := zA (below_step (zHB) hb); clear HO110; clear HO113; clear HO116; clear HO119; clear BK101; clear HB; have HO110 := n0_; have HO113 := n1_; have HO116 := n2_; have HO119 := n3_; have HO122 := n4_; have BK101 := n5_; have HB := n6_; clear n0_ n1_ n2_ n3_ n4_ n5_ n6_; (try clear hb); (try clear hb2); (try clear hk); (try clear hi); (try clear ho0)))
   go_loopg [11] k (fun kq v11 w' => ∃ (x11_1 : Int) (x102000_1 : Int) (x102001_1 : Int) (x102002_1 : Int), v11 = .int .i64 x11_1 ∧ Aside0 (spec_l4Least.l0 kq l0 l1 a2 t114 t120 x11_1 = some (r1, r2, r3, r4)) ∧ Aside0 (kq ≤ k) ∧ Aside0 (Kd.R (Kd.int .i64) 3 w' w.heap.size (fun k_ => some k_ ≠ (v121 : Value).ownBlock) v115 t114) ∧ Aside0 (Kd.R (Kd.int .i64) 3 w' w.heap.size (fun k_ => some k_ ≠ (v115 : Value).ownBlock) v121 t120) ∧ Aside0 (w'.heap[gb101]? = some (.cells #[.int .i64 x102000_1, .int .i64 x102001_1, .int .i64 x102002_1] 34 (0, 0))) ∧ Aside0 (Below w.heap.size w w'))
   case atStart => exact ⟨(0), (0), (0), (0), y6 , H', ⟨Nat.le_refl _⟩, ⟨by refine zk ?_; exact Kd.R_mono HO116.out (fun _ hk => hk.2)⟩, ⟨by refine zk ?_; exact Kd.R_mono HO122.out (fun _ hk => hk.2)⟩, ⟨by refine zq ?_; exact BK101.out⟩, ⟨zHB⟩⟩
   case round =>
    clear H'
    try clear c1
    try clear p2
    try clear c4
    try clear c5
    try clear c8
    try clear c11
    obtain ⟨x11_1, x102000_1, x102001_1, x102002_1, rfl, HA, HK1, HO_9, HO_10, BK101, HB⟩ := hrel
    cases gk with
    | zero => exact absurd HA.out (by simp [spec_l4Least.l0])
    | succ k1 => ?_
    have H := HA.out
    clear HA
    simp only [spec_l4Least.l0] at H
    by_cases c22 : x11_1 < (t114.length : Int)
    ·rw [if_pos c22] at H
     have c22b0 : decide (x11_1 < (t114.length : Int)) = true := decide_eq_true c22
     clear c22
     have H' := zA H
     clear H
     obtain ⟨Ao23, co23, eo23⟩ := Kd.R_slice HO_9.out
     subst eo23
     go_wp2
     go_loopg [12] k1 (fun kq v12 w' => ∃ (x12_2 : Int) (x102000_2 : Int) (x102001_2 : Int) (x102002_2 : Int), v12 = .int .i64 x12_2 ∧ Aside0 (spec_l4Least.l1 kq l0 l1 a2 t114 t120 x11_1 x12_2 = some (r1, r2, r3, r4)) ∧ Aside0 (kq ≤ k1) ∧ Aside0 (Kd.R (Kd.int .i64) 3 w' w.heap.size (fun k_ => some k_ ≠ (v121 : Value).ownBlock) (.slice Ao23 t114.length co23) t114) ∧ Aside0 (Kd.R (Kd.int .i64) 3 w' w.heap.size (fun k_ => some k_ ≠ ((.slice Ao23 t114.length co23) : Value).ownBlock) v121 t120) ∧ Aside0 (w'.heap[gb101]? = some (.cells #[.int .i64 x102000_2, .int .i64 x102001_2, .int .i64 x102002_2] 34 (0, 0))) ∧ Aside0 (Below w.heap.size w w'))
     case atStart => exact ⟨(0), (x102000_1), (x102001_1), (x102002_1), y6 , H', ⟨Nat.le_refl _⟩, ⟨by refine zk ?_; exact HO_9.out⟩, ⟨by refine zk ?_; exact HO_10.out⟩, ⟨by refine zq ?_; exact BK101.out⟩, ⟨zHB⟩⟩
     case round =>
      clear H'
      try clear c1
      try clear c2
      try clear p2
      try clear c4
      try clear c5
      try clear c8
      try clear c11
      try clear c22
      try clear c22b0
      try clear p2
      obtain ⟨x12_2, x102000_2, x102001_2, x102002_2, rfl, HA, HK2, HO_9, HO_10, BK101, HB⟩ := hrel
      cases gk with
      | zero => exact absurd HA.out (by simp [spec_l4Least.l1])
      | succ k2 => ?_
      have H := HA.out
      clear HA
      simp only [spec_l4Least.l1] at H
      by_cases c24 : x12_2 < (t120.length : Int)
      ·rw [if_pos c24] at H
       have c24b0 : decide (x12_2 < (t120.length : Int)) = true := decide_eq_true c24
       clear c24
       have H' := zA H
       clear H
       obtain ⟨Ao25, co25, eo25⟩ := Kd.R_slice HO_10.out
       subst eo25
       go_wp2
       go_loopg [13] k2 (fun kq v13 w' => ∃ (x13_3 : Int) (x102000_3 : Int) (x102001_3 : Int) (x102002_3 : Int), v13 = .int .i64 x13_3 ∧ Aside0 (spec_l4Least.l2 kq l0 l1 a2 t114 t120 x11_1 x12_2 x13_3 = some (r1, r2, r3, r4)) ∧ Aside0 (kq ≤ k2) ∧ Aside0 (Kd.R (Kd.int .i64) 3 w' w.heap.size (fun k_ => some k_ ≠ ((.slice Ao25 t120.length co25) : Value).ownBlock) (.slice Ao23 t114.length co23) t114) ∧ Aside0 (Kd.R (Kd.int .i64) 3 w' w.heap.size (fun k_ => some k_ ≠ ((.slice Ao23 t114.length co23) : Value).ownBlock) (.slice Ao25 t120.length co25) t120) ∧ Aside0 (w'.heap[gb101]? = some (.cells #[.int .i64 x102000_3, .int .i64 x102001_3, .int .i64 x102002_3] 34 (0, 0))) ∧ Aside0 (Below w.heap.size w w'))
       case atStart => exact ⟨(1), (x102000_2), (x102001_2), (x102002_2), y6 , H', ⟨Nat.le_refl _⟩, ⟨by refine zk ?_; exact HO_9.out⟩, ⟨by refine zk ?_; exact HO_10.out⟩, ⟨by refine zq ?_; exact BK101.out⟩, ⟨zHB⟩⟩
       case round =>
        clear H'
        try clear c1
        try clear c2
        try clear p2
        try clear c4
        try clear c5
        try clear c8
        try clear c11
        try clear c22
        try clear c22b0
        try clear c24
        try clear c24b0
        try clear p2
        obtain ⟨x13_3, x102000_3, x102001_3, x102002_3, rfl, HA, HK3, HO_9, HO_10, BK101, HB⟩ := hrel
        cases gk with
        | zero => exact absurd HA.out (by simp [spec_l4Least.l2])
        | succ k3 => ?_
        have H := HA.out
        clear HA
        simp only [spec_l4Least.l2] at H
        by_cases c26 : x13_3 ≤ 7
        ·rw [if_pos c26] at H
         have c26b0 : decide (x13_3 ≤ 7) = true := decide_eq_true c26
         clear c26
         by_cases c27 : 0 ≤ x11_1
         ·rw [if_pos c27] at H
          have c27b0 : decide (0 ≤ x11_1) = true := decide_eq_true c27
          clear c27
          by_cases c28 : x11_1 < (t114.length : Int)
          ·rw [if_pos c28] at H
           have c28b0 : decide (x11_1 < (t114.length : Int)) = true := decide_eq_true c28
           clear c28
           by_cases c29 : 0 ≤ x12_2
           ·rw [if_pos c29] at H
            have c29b0 : decide (0 ≤ x12_2) = true := decide_eq_true c29
            clear c29
            by_cases c30 : x12_2 < (t120.length : Int)
            ·rw [if_pos c30] at H
             have c30b0 : decide (x12_2 < (t120.length : Int)) = true := decide_eq_true c30
             clear c30
             replace H := Option.bind_eq_some_iff.mp H
             obtain ⟨t126, A310, H⟩ := H
             replace H : (if t126 = true then (some (rd t114 x11_1, rd t120 x12_2, x13_3, true)) else (spec_l4Least.l2 k3 l0 l1 a2 t114 t120 x11_1 x12_2 (wrap64 (x13_3 + 1)))) = some (r1, r2, r3, r4) := H
             have A31 := zA A310
             clear A310
             by_cases c32 : t126 = true
             ·subst c32
              have H1 : (some (rd t114 x11_1, rd t120 x12_2, x13_3, true)) = some (r1, r2, r3, r4) := by rw [if_pos rfl] at H; exact H
              clear H
              have H := H1
              clear H1
              simp only [Option.some.injEq, Prod.mk.injEq] at H
              obtain ⟨rfl, rfl, rfl, rfl⟩ := H
              try go_wp2
              have n0_ := zA (Kd.R_drew HO_9.out)
              have n1_ := zA (Kd.R_drew HO_10.out)
              have n2_ := zA (blk_drew BK101.out)
              have n3_ := zA (below_drew1 HB.out)
              clear HO_9
              clear HO_10
              clear BK101
              clear HB
              have HO_9 := n0_
              have HO_10 := n1_
              have BK101 := n2_
              have HB := n3_
              clear n0_ n1_ n2_ n3_
              have p123 : 0 ≤ (x11_1 : Int) := of_decide_eq_true y5 
              have q123 : x11_1 < (t114.length : Int) := of_decide_eq_true y5 
              obtain ⟨ad123, e123, hx123_0⟩ := Kd.at_int (Kd.R_reads' HO_9.out).2.2 x11_1 p123 q123
              cases e123
              replace p123 := eq_true p123
              replace q123 := eq_true q123
              have p124 : 0 ≤ (x12_2 : Int) := of_decide_eq_true y5 
              have q124 : x12_2 < (t120.length : Int) := of_decide_eq_true y5 
              obtain ⟨ad124, e124, hx124_0⟩ := Kd.at_int (Kd.R_reads' HO_10.out).2.2 x12_2 p124 q124
              cases e124
              replace p124 := eq_true p124
              replace q124 := eq_true q124
              refine start_ (n := 12) (S := fun w' => w'.cell? (ad123.add (x11_1).toNat) = some (.int .i64 (rd t114 x11_1)) ∧ w'.cell? (ad124.add (x12_2).toNat) = some (.int .i64 (rd t120 x12_2))) (ds := []) (zl 12 0) (by kernel_rfl) rfl rfl ⟨hx123_0, hx124_0⟩ (fun hHeld => ?_); refine with_tabW spec_l4Least.tab13 spec_l4Least.bits13 (fun HT_ HW_ => ?_)
              generalize wr.drew = w33 at HO_9 HO_10 BK101 HB hx123_0 hx124_0 hHeld ⊢
              refine pure_ (i := 0) (N := some 42) (v := ?_) (a' := ?_) (zl 12 1) rfl rfl (any_of HT_.out (by kernel_rfl)) (fun _ _ _ h => h) (Or.inl ⟨by rfl, ?_⟩) ?_ ?_
              rotate_left
              ·intro w'
               go_simp
               with_reducible rfl
              rotate_left
              ·simp only [Act.put, List.setIfInBounds_toArray, List.set_cons_zero, List.set_cons_succ, i64_w, i32_w]
               rfl
              refine pure_ (i := 1) (N := some 43) (v := ?_) (a' := ?_) (zl 12 3) rfl rfl (any_of HT_.out (by kernel_rfl)) (fun _ _ _ h => h) (Or.inl ⟨by rfl, ?_⟩) ?_ ?_
              rotate_left
              ·intro w'
               go_simp
               with_reducible rfl
              rotate_left
              ·simp only [Act.put, List.setIfInBounds_toArray, List.set_cons_zero, List.set_cons_succ, i64_w, i32_w]
               rfl
              refine pure_ (i := 2) (N := some 44) (v := ?_) (a' := ?_) (zl 12 7) rfl rfl (any_of HT_.out (by kernel_rfl)) (fun _ _ _ h => h) (Or.inl ⟨by rfl, ?_⟩) ?_ ?_
              rotate_left
              ·intro w'
               go_simp
               with_reducible rfl
              rotate_left
              ·simp only [Act.put, List.setIfInBounds_toArray, List.set_cons_zero, List.set_cons_succ, i64_w, i32_w]
               rfl
              refine pure_ (i := 4) (N := some 46) (v := ?_) (a' := ?_) (zl 12 23) rfl rfl (any_of HT_.out (by kernel_rfl)) (fun _ _ _ h => h) (Or.inl ⟨by rfl, ?_⟩) ?_ ?_
              rotate_left
              ·intro w'
               go_simp
               with_reducible rfl
              rotate_left
              ·simp only [Act.put, List.setIfInBounds_toArray, List.set_cons_zero, List.set_cons_succ, i64_w, i32_w]
               rfl
              refine pure_ (i := 5) (N := some 47) (v := ?_) (a' := ?_) (zl 12 55) rfl rfl (any_of HT_.out (by kernel_rfl)) (fun _ _ _ h => h) (Or.inl ⟨by rfl, ?_⟩) ?_ ?_
              rotate_left
              ·intro w'
               go_simp
               with_reducible rfl
              rotate_left
              ·simp only [Act.put, List.setIfInBounds_toArray, List.set_cons_zero, List.set_cons_succ, i64_w, i32_w]
               rfl
              refine pure_ (i := 6) (N := some 48) (v := ?_) (a' := ?_) (zl 12 119) rfl rfl (any_of HT_.out (by kernel_rfl)) (fun _ _ _ h => h) (Or.inl ⟨by rfl, ?_⟩) ?_ ?_
              rotate_left
              ·intro w'
               go_simp
               with_reducible rfl
              rotate_left
              ·simp only [Act.put, List.setIfInBounds_toArray, List.set_cons_zero, List.set_cons_succ, i64_w, i32_w]
               rfl
              refine pure_ (i := 8) (N := some 50) (v := ?_) (a' := ?_) (zl 12 375) rfl rfl (any_of HT_.out (by kernel_rfl)) (fun _ _ _ h => h) (Or.inl ⟨by rfl, ?_⟩) ?_ ?_
              rotate_left
              ·intro w'
               go_simp
               with_reducible rfl
              rotate_left
              ·simp only [Act.put, List.setIfInBounds_toArray, List.set_cons_zero, List.set_cons_succ, i64_w, i32_w]
               rfl
              refine take_ (i := 3) (N := some 45) (v := ?_) (a' := ?_) (zl 12 383) rfl rfl (take_ofW HT_.out HW_.out (by kernel_rfl)) (fun _ _ _ h => h) (Or.inl ⟨by rfl, ?_⟩) hHeld ?_ ?_
              rotate_left
              ·rintro w' ⟨s0, s1⟩
               go_simp
               with_reducible rfl
              rotate_left
              ·simp only [Act.put, List.setIfInBounds_toArray, List.set_cons_zero, List.set_cons_succ, i64_w, i32_w]
               rfl
              refine take_ (i := 7) (N := some 49) (v := ?_) (a' := ?_) (zl 12 511) rfl rfl (take_ofW HT_.out HW_.out (by kernel_rfl)) (fun _ _ _ h => h) (Or.inl ⟨by rfl, ?_⟩) hHeld ?_ ?_
              rotate_left
              ·rintro w' ⟨s0, s1⟩
               go_simp
               with_reducible rfl
              rotate_left
              ·simp only [Act.put, List.setIfInBounds_toArray, List.set_cons_zero, List.set_cons_succ, i64_w, i32_w]
               rfl
              refine pure_ (i := 9) (N := some 51) (v := ?_) (a' := ?_) (zl 12 1023) rfl rfl (any_of HT_.out (by kernel_rfl)) (fun _ _ _ h => h) (Or.inl ⟨by rfl, ?_⟩) ?_ ?_
              rotate_left
              ·intro w'
               go_simp
               with_reducible rfl
              rotate_left
              ·simp only [Act.put, List.setIfInBounds_toArray, List.set_cons_zero, List.set_cons_succ, i64_w, i32_w]
               rfl
              refine one_ (i := 10) (N := some 14) (zl 12 2047) rfl rfl (one_of HT_.out (by kernel_rfl)) (by decide) (fun K hK => ?_)
              refine box_step ?hg (N := 14) ?hd (cs := #[.int .i64 0, .int .i64 0, .int .i64 0]) (t := 34) ?hr ?_; (case hd => rfl); (case hg => rfl); (case hr => first | (go_simp; done) | (go_simp; rfl))
              intro gb125 hg w34 hbox hb
              have HS0_ := (hb.cell (World.block_lt_of_cell? _ _ (hHeld.1))).trans (hHeld.1)
              have HS1_ := (hb.cell (World.block_lt_of_cell? _ _ (hHeld.2))).trans (hHeld.2)
              have n0_ := zA (Kd.R_below (zr HO_9.out) hb)
              have n1_ := zA (Kd.R_below (zr HO_10.out) hb)
              have n2_ := zA (blk_below (g := gb101) (o := .cells #[.int .i64 x102000_3, .int .i64 x102001_3, .int .i64 x102002_3] 34 (0, 0)) (zb BK101.out) hb)
              have n3_ := zA (below_step (zHB) hb)
              have n4_ := zA (hbox)
              have n5_ := zA ((show w.heap.size ≤ gb125 from y4))
              have n6_ := zA ((show w.heap.size ≤ gb125 from y4))
              have n7_ := zA ((by rw [hg]; exact Nat.ne_of_lt (blk_lt (g := gb101) (o := .cells #[.int .i64 x102000_3, .int .i64 x102001_3, .int .i64 x102002_3] 34 (0, 0)) (zb BK101.out)) : gb101 ≠ gb125))
              have n8_ := zA ((by rw [hg]; exact Nat.ne_of_gt (blk_lt (g := gb101) (o := .cells #[.int .i64 x102000_3, .int .i64 x102001_3, .int .i64 x102002_3] 34 (0, 0)) (zb BK101.out)) : gb125 ≠ gb101))
              clear HO_9
              clear HO_10
              clear BK101
              clear HB
              have HO_9 := n0_
              have HO_10 := n1_
              have BK101 := n2_
              have HB := n3_
              have BK125 := n4_
              have GW125 := n5_
              have GE125 := n6_
              have NB101_125 := n7_
              have NB125_101 := n8_
              clear n0_ n1_ n2_ n3_ n4_ n5_ n6_ n7_ n8_
              clear hb hbox hg
              refine hK.out _ _ ⟨HS0_, HS1_⟩ (fun hHeld => ?_)
              clear hK K
              refine norm_ (a' := ?_) ?_ ?_
              rotate_left
              ·show Act.put _ (some 14) _ = _
               simp only [Act.put, List.setIfInBounds_toArray, List.set_cons_zero, List.set_cons_succ, i64_w, i32_w]
               rfl
              refine one_ (i := 11) (N := none) (zl 12 4095) rfl rfl (one_of HT_.out (by kernel_rfl)) (by decide) (fun K hK => ?_)
              have hs35 : w34.cell? ⟨gb125, 0, none⟩ = some (.int .i64 0) := (blk_cell BK125.out 0).trans rfl
              have hfs35 := blk_frozen BK125.out 0
              have hns35_0 := NB101_125.out
              have hms35_0 := NB125_101.out
              have hs36 : w34.cell? ⟨gb125, 1, none⟩ = some (.int .i64 0) := (blk_cell BK125.out 1).trans rfl
              have hfs36 := blk_frozen BK125.out 1
              have hns36_0 := NB101_125.out
              have hms36_0 := NB125_101.out
              have hs37 : w34.cell? ⟨gb125, 2, none⟩ = some (.int .i64 0) := (blk_cell BK125.out 2).trans rfl
              have hfs37 := blk_frozen BK125.out 2
              have hns37_0 := NB101_125.out
              have hms37_0 := NB125_101.out
              refine skip_ (w1 := ?_) (by rfl) rfl ?_ ?_
              rotate_left
              ·go_simp
               rfl
              refine hK.out _ _ ⟨((cell_far (p := ⟨gb125, _, none⟩) y2  _).trans (((cell_far (p := ⟨gb125, _, none⟩) y2  _).trans (((cell_far (p := ⟨gb125, _, none⟩) y2  _).trans (hHeld.1)))))), ((cell_far (p := ⟨gb125, _, none⟩) y1  _).trans (((cell_far (p := ⟨gb125, _, none⟩) y1  _).trans (((cell_far (p := ⟨gb125, _, none⟩) y1  _).trans (hHeld.2))))))⟩ (fun hHeld => ?_)
              clear hK K
              refine done_ (done_of HT_.out (by kernel_rfl)) ?_
              have hnb38 := NB125_101.out
              have hnc38 := NB101_125.out
              have hcz39_0 : w34.cell? ⟨gb125, 0, none⟩ = some (.int .i64 0) := (blk_cell BK125.out 0).trans rfl
              have hcz39_1 : w34.cell? ⟨gb125, 1, none⟩ = some (.int .i64 0) := (blk_cell BK125.out 1).trans rfl
              have hcz39_2 : w34.cell? ⟨gb125, 2, none⟩ = some (.int .i64 0) := (blk_cell BK125.out 2).trans rfl
              have hfz39_0 := blk_frozen BK125.out 0
              have hfz39_1 := blk_frozen BK125.out 1
              have hfz39_2 := blk_frozen BK125.out 2
              try go_wp2_with (first | ((with_reducible refine gate_callee (f := 118) rfl ?_); refine goesL_ (some 56) rfl rfl Try.func118 (by kernel_rfl) rfl #[.slice A0 l0.length c0, .slice A1 l1.length c1, .int .i64 a2, .agg #[.int .i64 (rd t114 x11_1), .int .i64 (rd t120 x12_2), .int .i64 x13_3]] rfl y3  ?_; (with_reducible refine (spec_l4So.calls k3 _ _ l0 _ _ l1 a2 (rd t114 x11_1) (rd t120 x12_2) x13_3 true _ ?side1 ?side2 ?side3 ?side4 A31.out).mono ?_); (case side1 => exact Kd.C_below HR0.out (zHB)); (case side2 => exact HC0.out); (case side3 => exact Kd.C_below HR1.out (zHB)); (case side4 => exact HC1.out); rintro e w40 ⟨rfl, hb⟩; refine ⟨_, rfl, ?_⟩; have n0_ := zA (Kd.R_below (by refine zk ?_; exact (Kd.R_mono (Kd.R_far (p := ⟨gb125, 2, none⟩) (Kd.R_far (p := ⟨gb125, 1, none⟩) (Kd.R_far (p := ⟨gb125, 0, none⟩) (Kd.R_types HO_9.out BK125.out (by decide)) (fun _ hk => hk.2) (.int .i64 (rd t114 x11_1))) (fun _ hk => hk.2) (.int .i64 (rd t120 x12_2))) (fun _ hk => hk.2) (.int .i64 x13_3)) (fun _ h_ => h_.1))) hb); have n1_ := zA (Kd.R_below (by refine zk ?_; exact (Kd.R_mono (Kd.R_far (p := ⟨gb125, 2, none⟩) (Kd.R_far (p := ⟨gb125, 1, none⟩) (Kd.R_far (p := ⟨gb125, 0, none⟩) (Kd.R_types HO_10.out BK125.out (by decide)) (fun _ hk => hk.2) (.int .i64 (rd t114 x11_1))) (fun _ hk => hk.2) (.int .i64 (rd t120 x12_2))) (fun _ hk => hk.2) (.int .i64 x13_3)) (fun _ h_ => h_.1))) hb); have n2_ := zA (blk_below (g := gb101) (o := .cells #[.int .i64 x102000_3, .int .i64 x102001_3, .int .i64 x102002_3] 34 (0, 0)) (by refine zq ?_; refine blk_far ?_ NB101_125.out _; refine zq ?_; refine blk_far ?_ NB101_125.out _; refine zq ?_; refine blk_far ?_ NB101_125.out _; refine zq ?_; exact BK101.out) hb); have n3_ := zA (blk_below (g := gb125) (o := .cells #[.int .i64 (rd t114 x11_1), .int .i64 (rd t120 x12_2), .int .i64 x13_3] 34 (0, 0)) (by refine zq ?_; refine blk_put (cs := #[.int .i64 (rd t114 x11_1), .int .i64 (rd t120 x12_2), .int .i64 0]) ?_ 2 _ rfl; refine zq ?_; refine blk_put (cs := #[.int .i64 (rd t114 x11_1), .int .i64 0, .int .i64 0]) ?_ 1 _ rfl; refine zq ?_; refine blk_put (cs := #[.int .i64 0, .int .i64 0, .int .i64 0]) ?_ 0 _ rfl; refine zq ?_; exact BK125.out) hb); have n4_ := zA (below_step (zHB) hb); clear HO_9; clear HO_10; clear BK101; clear BK125; clear HB; have HO_9 := n0_; have HO_10 := n1_; have BK101 := n2_; have BK125 := n3_; have HB := n4_; clear n0_ n1_ n2_ n3_ n4_; (try clear hb); (try clear hb2); (try clear hk); (try clear hi); have hcz41_0 : w40.cell? ⟨gb125, 0, none⟩ = some (.int .i64 (rd t114 x11_1)) := (blk_cell BK125.out 0).trans rfl; have hcz41_1 : w40.cell? ⟨gb125, 1, none⟩ = some (.int .i64 (rd t120 x12_2)) := (blk_cell BK125.out 1).trans rfl; have hcz41_2 : w40.cell? ⟨gb125, 2, none⟩ = some (.int .i64 x13_3) := (blk_cell BK125.out 2).trans rfl; have hfz41_0 := blk_frozen BK125.out 0; have hfz41_1 := blk_frozen BK125.out 1; have hfz41_2 := blk_frozen BK125.out 2; have hcz42_0 : w40.cell? ⟨gb101, 0, none⟩ = some (.int .i64 x102000_3) := (blk_cell BK101.out 0).trans rfl; have hcz42_1 : w40.cell? ⟨gb101, 1, none⟩ = some (.int .i64 x102001_3) := (blk_cell BK101.out 1).trans rfl; have hcz42_2 : w40.cell? ⟨gb101, 2, none⟩ = some (.int .i64 x102002_3) := (blk_cell BK101.out 2).trans rfl; have hfz42_0 := blk_frozen BK101.out 0; have hfz42_1 := blk_frozen BK101.out 1; have hfz42_2 := blk_frozen BK101.out 2))
              refine bodyPost_ret (results_ct rfl _ _ gb101 34 #[.int .i64 (rd t114 x11_1), .int .i64 (rd t120 x12_2), .int .i64 x13_3] (0, 0) _ rfl (by refine zq ?_; refine blk_put (cs := #[.int .i64 (rd t114 x11_1), .int .i64 (rd t120 x12_2), .int .i64 x102002_3]) ?_ 2 _ rfl; refine zq ?_; refine blk_put (cs := #[.int .i64 (rd t114 x11_1), .int .i64 x102001_3, .int .i64 x102002_3]) ?_ 1 _ rfl; refine zq ?_; refine blk_put (cs := #[.int .i64 x102000_3, .int .i64 x102001_3, .int .i64 x102002_3]) ?_ 0 _ rfl; refine zq ?_; exact BK101.out) Try.underlying34 rfl (by kernel_rfl)) rfl ?_
              exact ⟨by first | rfl | (simp [errW_none, errW_some] <;> rfl) | (simp [*, errW_none, errW_some] <;> rfl), zHB⟩
             replace c32 := Bool.eq_false_iff.mpr c32
             subst c32
             have H1 : (spec_l4Least.l2 k3 l0 l1 a2 t114 t120 x11_1 x12_2 (wrap64 (x13_3 + 1))) = some (r1, r2, r3, r4) := by rw [if_neg (show ¬ (false = true) by decide)] at H; exact H
             clear H
             have H := H1
             clear H1
             have H' := zA H
             clear H
             try go_wp2
             have n0_ := zA (Kd.R_drew HO_9.out)
             have n1_ := zA (Kd.R_drew HO_10.out)
             have n2_ := zA (blk_drew BK101.out)
             have n3_ := zA (below_drew1 HB.out)
             clear HO_9
             clear HO_10
             clear BK101
             clear HB
             have HO_9 := n0_
             have HO_10 := n1_
             have BK101 := n2_
             have HB := n3_
             clear n0_ n1_ n2_ n3_
             have p123 : 0 ≤ (x11_1 : Int) := of_decide_eq_true y5 
             have q123 : x11_1 < (t114.length : Int) := of_decide_eq_true y5 
             obtain ⟨ad123, e123, hx123_0⟩ := Kd.at_int (Kd.R_reads' HO_9.out).2.2 x11_1 p123 q123
             cases e123
             replace p123 := eq_true p123
             replace q123 := eq_true q123
             have p124 : 0 ≤ (x12_2 : Int) := of_decide_eq_true y5 
             have q124 : x12_2 < (t120.length : Int) := of_decide_eq_true y5 
             obtain ⟨ad124, e124, hx124_0⟩ := Kd.at_int (Kd.R_reads' HO_10.out).2.2 x12_2 p124 q124
             cases e124
             replace p124 := eq_true p124
             replace q124 := eq_true q124
             refine start_ (n := 12) (S := fun w' => w'.cell? (ad123.add (x11_1).toNat) = some (.int .i64 (rd t114 x11_1)) ∧ w'.cell? (ad124.add (x12_2).toNat) = some (.int .i64 (rd t120 x12_2))) (ds := []) (zl 12 0) (by kernel_rfl) rfl rfl ⟨hx123_0, hx124_0⟩ (fun hHeld => ?_); refine with_tabW spec_l4Least.tab13 spec_l4Least.bits13 (fun HT_ HW_ => ?_)
             generalize wr.drew = w43 at HO_9 HO_10 BK101 HB hx123_0 hx124_0 hHeld ⊢
             refine pure_ (i := 0) (N := some 42) (v := ?_) (a' := ?_) (zl 12 1) rfl rfl (any_of HT_.out (by kernel_rfl)) (fun _ _ _ h => h) (Or.inl ⟨by rfl, ?_⟩) ?_ ?_
             rotate_left
             ·intro w'
              go_simp
              with_reducible rfl
             rotate_left
             ·simp only [Act.put, List.setIfInBounds_toArray, List.set_cons_zero, List.set_cons_succ, i64_w, i32_w]
              rfl
             refine pure_ (i := 1) (N := some 43) (v := ?_) (a' := ?_) (zl 12 3) rfl rfl (any_of HT_.out (by kernel_rfl)) (fun _ _ _ h => h) (Or.inl ⟨by rfl, ?_⟩) ?_ ?_
             rotate_left
             ·intro w'
              go_simp
              with_reducible rfl
             rotate_left
             ·simp only [Act.put, List.setIfInBounds_toArray, List.set_cons_zero, List.set_cons_succ, i64_w, i32_w]
              rfl
             refine pure_ (i := 2) (N := some 44) (v := ?_) (a' := ?_) (zl 12 7) rfl rfl (any_of HT_.out (by kernel_rfl)) (fun _ _ _ h => h) (Or.inl ⟨by rfl, ?_⟩) ?_ ?_
             rotate_left
             ·intro w'
              go_simp
              with_reducible rfl
             rotate_left
             ·simp only [Act.put, List.setIfInBounds_toArray, List.set_cons_zero, List.set_cons_succ, i64_w, i32_w]
              rfl
             refine pure_ (i := 4) (N := some 46) (v := ?_) (a' := ?_) (zl 12 23) rfl rfl (any_of HT_.out (by kernel_rfl)) (fun _ _ _ h => h) (Or.inl ⟨by rfl, ?_⟩) ?_ ?_
             rotate_left
             ·intro w'
              go_simp
              with_reducible rfl
             rotate_left
             ·simp only [Act.put, List.setIfInBounds_toArray, List.set_cons_zero, List.set_cons_succ, i64_w, i32_w]
              rfl
             refine pure_ (i := 5) (N := some 47) (v := ?_) (a' := ?_) (zl 12 55) rfl rfl (any_of HT_.out (by kernel_rfl)) (fun _ _ _ h => h) (Or.inl ⟨by rfl, ?_⟩) ?_ ?_
             rotate_left
             ·intro w'
              go_simp
              with_reducible rfl
             rotate_left
             ·simp only [Act.put, List.setIfInBounds_toArray, List.set_cons_zero, List.set_cons_succ, i64_w, i32_w]
              rfl
             refine pure_ (i := 6) (N := some 48) (v := ?_) (a' := ?_) (zl 12 119) rfl rfl (any_of HT_.out (by kernel_rfl)) (fun _ _ _ h => h) (Or.inl ⟨by rfl, ?_⟩) ?_ ?_
             rotate_left
             ·intro w'
              go_simp
              with_reducible rfl
             rotate_left
             ·simp only [Act.put, List.setIfInBounds_toArray, List.set_cons_zero, List.set_cons_succ, i64_w, i32_w]
              rfl
             refine pure_ (i := 8) (N := some 50) (v := ?_) (a' := ?_) (zl 12 375) rfl rfl (any_of HT_.out (by kernel_rfl)) (fun _ _ _ h => h) (Or.inl ⟨by rfl, ?_⟩) ?_ ?_
             rotate_left
             ·intro w'
              go_simp
              with_reducible rfl
             rotate_left
             ·simp only [Act.put, List.setIfInBounds_toArray, List.set_cons_zero, List.set_cons_succ, i64_w, i32_w]
              rfl
             refine take_ (i := 3) (N := some 45) (v := ?_) (a' := ?_) (zl 12 383) rfl rfl (take_ofW HT_.out HW_.out (by kernel_rfl)) (fun _ _ _ h => h) (Or.inl ⟨by rfl, ?_⟩) hHeld ?_ ?_
             rotate_left
             ·rintro w' ⟨s0, s1⟩
              go_simp
              with_reducible rfl
             rotate_left
             ·simp only [Act.put, List.setIfInBounds_toArray, List.set_cons_zero, List.set_cons_succ, i64_w, i32_w]
              rfl
             refine take_ (i := 7) (N := some 49) (v := ?_) (a' := ?_) (zl 12 511) rfl rfl (take_ofW HT_.out HW_.out (by kernel_rfl)) (fun _ _ _ h => h) (Or.inl ⟨by rfl, ?_⟩) hHeld ?_ ?_
             rotate_left
             ·rintro w' ⟨s0, s1⟩
              go_simp
              with_reducible rfl
             rotate_left
             ·simp only [Act.put, List.setIfInBounds_toArray, List.set_cons_zero, List.set_cons_succ, i64_w, i32_w]
              rfl
             refine pure_ (i := 9) (N := some 51) (v := ?_) (a' := ?_) (zl 12 1023) rfl rfl (any_of HT_.out (by kernel_rfl)) (fun _ _ _ h => h) (Or.inl ⟨by rfl, ?_⟩) ?_ ?_
             rotate_left
             ·intro w'
              go_simp
              with_reducible rfl
             rotate_left
             ·simp only [Act.put, List.setIfInBounds_toArray, List.set_cons_zero, List.set_cons_succ, i64_w, i32_w]
              rfl
             refine one_ (i := 10) (N := some 14) (zl 12 2047) rfl rfl (one_of HT_.out (by kernel_rfl)) (by decide) (fun K hK => ?_)
             refine box_step ?hg (N := 14) ?hd (cs := #[.int .i64 0, .int .i64 0, .int .i64 0]) (t := 34) ?hr ?_; (case hd => rfl); (case hg => rfl); (case hr => first | (go_simp; done) | (go_simp; rfl))
             intro gb125 hg w44 hbox hb
             have HS0_ := (hb.cell (World.block_lt_of_cell? _ _ (hHeld.1))).trans (hHeld.1)
             have HS1_ := (hb.cell (World.block_lt_of_cell? _ _ (hHeld.2))).trans (hHeld.2)
             have n0_ := zA (Kd.R_below (zr HO_9.out) hb)
             have n1_ := zA (Kd.R_below (zr HO_10.out) hb)
             have n2_ := zA (blk_below (g := gb101) (o := .cells #[.int .i64 x102000_3, .int .i64 x102001_3, .int .i64 x102002_3] 34 (0, 0)) (zb BK101.out) hb)
             have n3_ := zA (below_step (zHB) hb)
             have n4_ := zA (hbox)
             have n5_ := zA ((show w.heap.size ≤ gb125 from y4))
             have n6_ := zA ((show w.heap.size ≤ gb125 from y4))
             have n7_ := zA ((by rw [hg]; exact Nat.ne_of_lt (blk_lt (g := gb101) (o := .cells #[.int .i64 x102000_3, .int .i64 x102001_3, .int .i64 x102002_3] 34 (0, 0)) (zb BK101.out)) : gb101 ≠ gb125))
             have n8_ := zA ((by rw [hg]; exact Nat.ne_of_gt (blk_lt (g := gb101) (o := .cells #[.int .i64 x102000_3, .int .i64 x102001_3, .int .i64 x102002_3] 34 (0, 0)) (zb BK101.out)) : gb125 ≠ gb101))
             clear HO_9
             clear HO_10
             clear BK101
             clear HB
             have HO_9 := n0_
             have HO_10 := n1_
             have BK101 := n2_
             have HB := n3_
             have BK125 := n4_
             have GW125 := n5_
             have GE125 := n6_
             have NB101_125 := n7_
             have NB125_101 := n8_
             clear n0_ n1_ n2_ n3_ n4_ n5_ n6_ n7_ n8_
             clear hb hbox hg
             refine hK.out _ _ ⟨HS0_, HS1_⟩ (fun hHeld => ?_)
             clear hK K
             refine norm_ (a' := ?_) ?_ ?_
             rotate_left
             ·show Act.put _ (some 14) _ = _
              simp only [Act.put, List.setIfInBounds_toArray, List.set_cons_zero, List.set_cons_succ, i64_w, i32_w]
              rfl
             refine one_ (i := 11) (N := none) (zl 12 4095) rfl rfl (one_of HT_.out (by kernel_rfl)) (by decide) (fun K hK => ?_)
             have hs45 : w44.cell? ⟨gb125, 0, none⟩ = some (.int .i64 0) := (blk_cell BK125.out 0).trans rfl
             have hfs45 := blk_frozen BK125.out 0
             have hns45_0 := NB101_125.out
             have hms45_0 := NB125_101.out
             have hs46 : w44.cell? ⟨gb125, 1, none⟩ = some (.int .i64 0) := (blk_cell BK125.out 1).trans rfl
             have hfs46 := blk_frozen BK125.out 1
             have hns46_0 := NB101_125.out
             have hms46_0 := NB125_101.out
             have hs47 : w44.cell? ⟨gb125, 2, none⟩ = some (.int .i64 0) := (blk_cell BK125.out 2).trans rfl
             have hfs47 := blk_frozen BK125.out 2
             have hns47_0 := NB101_125.out
             have hms47_0 := NB125_101.out
             refine skip_ (w1 := ?_) (by rfl) rfl ?_ ?_
             rotate_left
             ·go_simp
              rfl
             refine hK.out _ _ ⟨((cell_far (p := ⟨gb125, _, none⟩) y2  _).trans (((cell_far (p := ⟨gb125, _, none⟩) y2  _).trans (((cell_far (p := ⟨gb125, _, none⟩) y2  _).trans (hHeld.1)))))), ((cell_far (p := ⟨gb125, _, none⟩) y1  _).trans (((cell_far (p := ⟨gb125, _, none⟩) y1  _).trans (((cell_far (p := ⟨gb125, _, none⟩) y1  _).trans (hHeld.2))))))⟩ (fun hHeld => ?_)
             clear hK K
             refine done_ (done_of HT_.out (by kernel_rfl)) ?_
             have hnb48 := NB125_101.out
             have hnc48 := NB101_125.out
             have hcz49_0 : w44.cell? ⟨gb125, 0, none⟩ = some (.int .i64 0) := (blk_cell BK125.out 0).trans rfl
             have hcz49_1 : w44.cell? ⟨gb125, 1, none⟩ = some (.int .i64 0) := (blk_cell BK125.out 1).trans rfl
             have hcz49_2 : w44.cell? ⟨gb125, 2, none⟩ = some (.int .i64 0) := (blk_cell BK125.out 2).trans rfl
             have hfz49_0 := blk_frozen BK125.out 0
             have hfz49_1 := blk_frozen BK125.out 1
             have hfz49_2 := blk_frozen BK125.out 2
             try go_wp2_with (first | ((with_reducible refine gate_callee (f := 118) rfl ?_); refine goesL_ (some 56) rfl rfl Try.func118 (by kernel_rfl) rfl #[.slice A0 l0.length c0, .slice A1 l1.length c1, .int .i64 a2, .agg #[.int .i64 (rd t114 x11_1), .int .i64 (rd t120 x12_2), .int .i64 x13_3]] rfl y3  ?_; (with_reducible refine (spec_l4So.calls k3 _ _ l0 _ _ l1 a2 (rd t114 x11_1) (rd t120 x12_2) x13_3 false _ ?side1 ?side2 ?side3 ?side4 A31.out).mono ?_); (case side1 => exact Kd.C_below HR0.out (zHB)); (case side2 => exact HC0.out); (case side3 => exact Kd.C_below HR1.out (zHB)); (case side4 => exact HC1.out); rintro e w50 ⟨rfl, hb⟩; refine ⟨_, rfl, ?_⟩; have n0_ := zA (Kd.R_below (by refine zk ?_; exact (Kd.R_mono (Kd.R_far (p := ⟨gb125, 2, none⟩) (Kd.R_far (p := ⟨gb125, 1, none⟩) (Kd.R_far (p := ⟨gb125, 0, none⟩) (Kd.R_types HO_9.out BK125.out (by decide)) (fun _ hk => hk.2) (.int .i64 (rd t114 x11_1))) (fun _ hk => hk.2) (.int .i64 (rd t120 x12_2))) (fun _ hk => hk.2) (.int .i64 x13_3)) (fun _ h_ => h_.1))) hb); have n1_ := zA (Kd.R_below (by refine zk ?_; exact (Kd.R_mono (Kd.R_far (p := ⟨gb125, 2, none⟩) (Kd.R_far (p := ⟨gb125, 1, none⟩) (Kd.R_far (p := ⟨gb125, 0, none⟩) (Kd.R_types HO_10.out BK125.out (by decide)) (fun _ hk => hk.2) (.int .i64 (rd t114 x11_1))) (fun _ hk => hk.2) (.int .i64 (rd t120 x12_2))) (fun _ hk => hk.2) (.int .i64 x13_3)) (fun _ h_ => h_.1))) hb); have n2_ := zA (blk_below (g := gb101) (o := .cells #[.int .i64 x102000_3, .int .i64 x102001_3, .int .i64 x102002_3] 34 (0, 0)) (by refine zq ?_; refine blk_far ?_ NB101_125.out _; refine zq ?_; refine blk_far ?_ NB101_125.out _; refine zq ?_; refine blk_far ?_ NB101_125.out _; refine zq ?_; exact BK101.out) hb); have n3_ := zA (blk_below (g := gb125) (o := .cells #[.int .i64 (rd t114 x11_1), .int .i64 (rd t120 x12_2), .int .i64 x13_3] 34 (0, 0)) (by refine zq ?_; refine blk_put (cs := #[.int .i64 (rd t114 x11_1), .int .i64 (rd t120 x12_2), .int .i64 0]) ?_ 2 _ rfl; refine zq ?_; refine blk_put (cs := #[.int .i64 (rd t114 x11_1), .int .i64 0, .int .i64 0]) ?_ 1 _ rfl; refine zq ?_; refine blk_put (cs := #[.int .i64 0, .int .i64 0, .int .i64 0]) ?_ 0 _ rfl; refine zq ?_; exact BK125.out) hb); have n4_ := zA (below_step (zHB) hb); clear HO_9; clear HO_10; clear BK101; clear BK125; clear HB; have HO_9 := n0_; have HO_10 := n1_; have BK101 := n2_; have BK125 := n3_; have HB := n4_; clear n0_ n1_ n2_ n3_ n4_; (try clear hb); (try clear hb2); (try clear hk); (try clear hi)))
             go_roundg k3
             case measure => have := HK1.out; have := HK2.out; have := HK3.out; omega
             case rel => exact ⟨(wrap64 (x13_3 + 1)), (x102000_3), (x102001_3), (x102002_3), y6 , H', ⟨by have := HK1.out; have := HK2.out; have := HK3.out; omega⟩, ⟨by refine zk ?_; exact HO_9.out⟩, ⟨by refine zk ?_; exact HO_10.out⟩, ⟨by refine zq ?_; exact BK101.out⟩, ⟨zHB⟩⟩
            rw [if_neg c30] at H
            exact absurd H (by simp)
           rw [if_neg c29] at H
           exact absurd H (by simp)
          rw [if_neg c28] at H
          exact absurd H (by simp)
         rw [if_neg c27] at H
         exact absurd H (by simp)
        rw [if_neg c26] at H
        have c26b0 : decide (x13_3 ≤ 7) = false := decide_eq_false c26
        clear c26
        have H' := zA H
        clear H
        go_wp2
        go_roundg k3
        case measure => have := HK1.out; have := HK2.out; have := HK3.out; omega
        case rel => exact ⟨(wrap64 (x12_2 + 1)), (x102000_3), (x102001_3), (x102002_3), y6 , H', ⟨by have := HK1.out; have := HK2.out; have := HK3.out; omega⟩, ⟨by refine zk ?_; exact HO_9.out⟩, ⟨by refine zk ?_; exact HO_10.out⟩, ⟨by refine zq ?_; exact BK101.out⟩, ⟨zHB⟩⟩
      rw [if_neg c24] at H
      have c24b0 : decide (x12_2 < (t120.length : Int)) = false := decide_eq_false c24
      clear c24
      have H' := zA H
      clear H
      obtain ⟨Ao51, co51, eo51⟩ := Kd.R_slice HO_10.out
      subst eo51
      go_wp2
      go_roundg k2
      case measure => have := HK1.out; have := HK2.out; omega
      case rel => exact ⟨(wrap64 (x11_1 + 1)), (x102000_2), (x102001_2), (x102002_2), y6 , H', ⟨by have := HK1.out; have := HK2.out; omega⟩, ⟨by refine zk ?_; exact HO_9.out⟩, ⟨by refine zk ?_; exact HO_10.out⟩, ⟨by refine zq ?_; exact BK101.out⟩, ⟨zHB⟩⟩
    rw [if_neg c22] at H
    have c22b0 : decide (x11_1 < (t114.length : Int)) = false := decide_eq_false c22
    clear c22
    simp only [Option.some.injEq, Prod.mk.injEq] at H
    obtain ⟨rfl, rfl, rfl, rfl⟩ := H
    obtain ⟨Ao52, co52, eo52⟩ := Kd.R_slice HO_9.out
    subst eo52
    have hcz53_0 : wr.cell? ⟨gb101, 0, none⟩ = some (.int .i64 x102000_1) := (blk_cell BK101.out 0).trans rfl
    have hcz53_1 : wr.cell? ⟨gb101, 1, none⟩ = some (.int .i64 x102001_1) := (blk_cell BK101.out 1).trans rfl
    have hcz53_2 : wr.cell? ⟨gb101, 2, none⟩ = some (.int .i64 x102002_1) := (blk_cell BK101.out 2).trans rfl
    have hfz53_0 := blk_frozen BK101.out 0
    have hfz53_1 := blk_frozen BK101.out 1
    have hfz53_2 := blk_frozen BK101.out 2
    go_wp2
    refine bodyPost_ret (results_ct rfl _ _ gb101 34 #[.int .i64 0, .int .i64 0, .int .i64 0] (0, 0) _ rfl (by refine zq ?_; refine blk_put (cs := #[.int .i64 0, .int .i64 0, .int .i64 x102002_1]) ?_ 2 _ rfl; refine zq ?_; refine blk_put (cs := #[.int .i64 0, .int .i64 x102001_1, .int .i64 x102002_1]) ?_ 1 _ rfl; refine zq ?_; refine blk_put (cs := #[.int .i64 x102000_1, .int .i64 x102001_1, .int .i64 x102002_1]) ?_ 0 _ rfl; refine zq ?_; exact BK101.out) Try.underlying34 rfl (by kernel_rfl)) rfl ?_
    exact ⟨by first | rfl | (simp [errW_none, errW_some] <;> rfl) | (simp [*, errW_none, errW_some] <;> rfl), zHB⟩
  rw [if_neg c5] at H
  exact absurd H (by simp)
 rw [if_neg c4] at H
 exact absurd H (by simp)
end Go.Proofs.Ytnakanjhdcakhaa.Q
namespace Go.Proofs.Ytnakanjhdcakhaa.Q
open Go.RowKit Go.Proofs.YtnakanjhdcakhaaW.PrintWords Go.Proofs.YtnakanjhdcakhaaW.PrintLast Go.Proofs.YtnakanjhdcakhaaW.PrintMore
attribute [local go_sem] max2_int min2_int max_two min_two max_three min_three max_four min_four   -- for this text's walks alone
set_option linter.unusedVariables false
set_option linter.unusedSimpArgs false
def spec_AclWitness.f (k : Nat) (l0 : List (S54)) (a1 : Int) : Option (Int × Int × Int × Bool) := (spec_AclOk.f k l0).bind fun t102 => (if t102 = true then ((spec_l1In.f a1 0 (wrap64 ((l0.length : Int) - 1))).bind fun t103 => (if t103 = true then ((spec_l4Least.f k l0 (([] : List (S54))) a1).bind fun bt107 => (some (bt107.1, bt107.2.1, bt107.2.2.1, bt107.2.2.2))) else (some (0, 0, 0, false)))) else (some (0, 0, 0, false)))
theorem spec_AclWitness.zHB {P : Prop} (h : P := by repeat (first | (with_reducible first | exact HB.out | apply below_alloc | apply pw_below_drewN | apply below_drew1 | refine below_set ?_ GE101.out) | exact HB.out)) : P := h
theorem spec_AclWitness.zb {P Q : Prop} (x : Q) (h : Q → P := by intro x_; (with_reducible repeat (first | refine blk_drewN ?_ _ | refine blk_drew ?_ | refine blk_alloc ?_ _)); exact x_) : P := h x
theorem spec_AclWitness.zq {P Q : Prop} (x : Q) (h : Q → P := by intro x_; (with_reducible repeat (first | refine blk_drewN ?_ _ | refine blk_drew ?_ | refine blk_alloc ?_ _)); exact x_) : P := h x
theorem spec_AclWitness.y1 {P : Prop} (h : P := by (try simp only [List.map_toArray, List.map_cons, List.map_nil]); first | done | rfl | (simp only [List.length_drop, List.length_take]; rfl)) : P := h
theorem spec_AclWitness.y2 {P : Prop} (h : P := by rw [hg]; exact (below_size (zHB))) : P := h
theorem spec_AclWitness.zA {p : Prop} (h : p) : Aside0 p := ⟨h⟩
set_option maxHeartbeats 8000000 in
set_option maxRecDepth 100000 in
theorem spec_AclWitness.calls (k : Nat) (A0 : Option Addr) (c0 : Nat) (l0 : List (S54)) (a1 : Int) (r1 : Int) (r2 : Int) (r3 : Int) (r4 : Bool) (w : World) (hr0 : Kd.C k54 w A0 l0.length l0) (hc0 : l0.length ≤ c0) (h : spec_AclWitness.f k l0 a1 = some (r1, r2, r3, r4)) :
  Calls Try.prog 70 #[.slice A0 l0.length c0, .int .i64 a1] w fun e w' => e = .returned (.tuple #[.agg #[.int .i64 r1, .int .i64 r2, .int .i64 r3], .bool r4]) ∧ Below w.heap.size w w' := by
 have hu34 := Try.underlying34
 have HR0 := zA hr0
 have HC0 := zA hc0
 clear hr0 hc0
 have HB := zA (Below.refl w.heap.size w)
 have H : ((spec_AclOk.f k l0).bind fun t102 => (if t102 = true then ((spec_l1In.f a1 0 (wrap64 ((l0.length : Int) - 1))).bind fun t103 => (if t103 = true then ((spec_l4Least.f k l0 (([] : List (S54))) a1).bind fun bt107 => (some (bt107.1, bt107.2.1, bt107.2.2.1, bt107.2.2.2))) else (some (0, 0, 0, false)))) else (some (0, 0, 0, false)))) = some (r1, r2, r3, r4) := h
 clear h
 replace H := Option.bind_eq_some_iff.mp H
 obtain ⟨t102, A30, H⟩ := H
 replace H : (if t102 = true then ((spec_l1In.f a1 0 (wrap64 ((l0.length : Int) - 1))).bind fun t103 => (if t103 = true then ((spec_l4Least.f k l0 (([] : List (S54))) a1).bind fun bt107 => (some (bt107.1, bt107.2.1, bt107.2.2.1, bt107.2.2.2))) else (some (0, 0, 0, false)))) else (some (0, 0, 0, false))) = some (r1, r2, r3, r4) := H
 have A3 := zA A30
 clear A30
 by_cases c4 : t102 = true
 ·subst c4
  have H1 : ((spec_l1In.f a1 0 (wrap64 ((l0.length : Int) - 1))).bind fun t103 => (if t103 = true then ((spec_l4Least.f k l0 (([] : List (S54))) a1).bind fun bt107 => (some (bt107.1, bt107.2.1, bt107.2.2.1, bt107.2.2.2))) else (some (0, 0, 0, false)))) = some (r1, r2, r3, r4) := by rw [if_pos rfl] at H; exact H
  clear H
  have H := H1
  clear H1
  replace H := Option.bind_eq_some_iff.mp H
  obtain ⟨t103, A50, H⟩ := H
  replace H : (if t103 = true then ((spec_l4Least.f k l0 (([] : List (S54))) a1).bind fun bt107 => (some (bt107.1, bt107.2.1, bt107.2.2.1, bt107.2.2.2))) else (some (0, 0, 0, false))) = some (r1, r2, r3, r4) := H
  have A5 := zA A50
  clear A50
  by_cases c6 : t103 = true
  ·subst c6
   have H1 : ((spec_l4Least.f k l0 (([] : List (S54))) a1).bind fun bt107 => (some (bt107.1, bt107.2.1, bt107.2.2.1, bt107.2.2.2))) = some (r1, r2, r3, r4) := by rw [if_pos rfl] at H; exact H
   clear H
   have H := H1
   clear H1
   obtain ⟨y104, hy104⟩ : ∃ y_ : List (S54), y_ = (([] : List (S54))) := ⟨_, rfl⟩
   replace H : ((spec_l4Least.f k l0 y104 a1).bind fun bt107 => (some (bt107.1, bt107.2.1, bt107.2.2.1, bt107.2.2.2))) = some (r1, r2, r3, r4) := by first | (rw [hy104]; with_reducible exact H) | (have H2_ := (Option.bind_some _ _).symm.trans H; rw [hy104]; with_reducible exact H2_) | (have H2_ := (Option.bind_some _ _).symm.trans H; with_reducible exact H2_) | with_reducible exact H | (rw [hy104]; exact H) | exact H
   have Ny104 := zA hy104
   clear hy104
   replace H := Option.bind_eq_some_iff.mp H
   obtain ⟨⟨t107, t108, t109, t110⟩, A70, H⟩ := H
   replace H : (some (t107, t108, t109, t110)) = some (r1, r2, r3, r4) := H
   have A7 := zA A70
   clear A70
   simp only [Option.some.injEq, Prod.mk.injEq] at H
   obtain ⟨rfl, rfl, rfl, rfl⟩ := H
   go_enter Try.func70, Try.ntmps70
   go_wp2_with (first | ((with_reducible refine gate_dst (N := 4) rfl ?_); (try (refine gate_guard (by rfl) ?_; dsimp only)); refine box_event ?hg (N := 4) ?hd (cs := #[.int .i64 0, .int .i64 0, .int .i64 0]) (t := 34) ?hr ?_; (case hd => rfl); (case hg => rfl); (case hr => first | (go_simp; done) | (go_simp; rfl)); intro gb101 hg w8 hbox hb; have n0_ := zA (below_step (zHB) hb); have n1_ := zA (hbox); have n2_ := zA ((show w.heap.size ≤ gb101 from y2)); have n3_ := zA ((show w.heap.size ≤ gb101 from y2)); clear HB; have HB := n0_; have BK101 := n1_; have GW101 := n2_; have GE101 := n3_; clear n0_ n1_ n2_ n3_; clear hb hbox hg) | ((with_reducible refine gate_callee (f := 32) rfl ?_); refine goesL_ (some 7) rfl rfl Try.func32 (by kernel_rfl) rfl #[.slice A0 l0.length c0] rfl y1  ?_; (with_reducible refine (spec_AclOk.calls k _ _ l0 true _ ?side1 ?side2 A3.out).mono ?_); (case side1 => repeat (first | exact (Kd.C_below HR0.out HB.out) | (with_reducible refine Kd.C_alloc ?_ _) | (with_reducible refine Kd.C_drewN ?_ _) | (with_reducible refine Kd.C_drew ?_))); (case side2 => exact HC0.out); rintro e w9 ⟨rfl, hb⟩; refine ⟨_, rfl, ?_⟩; have n0_ := zA (blk_below (g := gb101) (o := .cells #[.int .i64 0, .int .i64 0, .int .i64 0] 34 (0, 0)) (zb BK101.out) hb); have n1_ := zA (below_step (zHB) hb); clear BK101; clear HB; have BK101 := n0_; have HB := n1_; clear n0_ n1_; (try clear hb); (try clear hb2); (try clear hk); (try clear hi)) | (go_at_call 75; (with_reducible refine (spec_l1In.calls a1 0 (wrap64 ((l0.length : Int) - 1)) true _ A5.out).mono ?_); rintro e w' ⟨rfl, ⟨nd, rfl⟩⟩; (try (rw [drewN_self w9]; generalize hq_ : World.drewN w9 _ = w9; have n0_ : Aside0 (w9.heap[gb101]? = some (.cells #[.int .i64 0, .int .i64 0, .int .i64 0] 34 (0, 0))) := ⟨by rw [← hq_]; exact (zb BK101.out)⟩; have n1_ : Aside0 (Below w.heap.size w w9) := ⟨by rw [← hq_]; exact (zHB)⟩; clear BK101 HB hq_; have BK101 := n0_; have HB := n1_; clear n0_ n1_))) | ((with_reducible refine gate_dst (N := 19) rfl ?_); (try (refine gate_guard (by rfl) ?_; dsimp only)); refine Kd.R_lit k54 _ 54 ?hg (N := 19) ?hd (xs := ([] : List (S54))) (inner := []) (ok := fun _ => True) (okp := fun _ => True) ?hr ?hp (fun _ hk => hk) trivial (Below.refl _ _) (Nat.le_refl _) (by simp) ?_; (case hd => rfl); (case hg => rfl); (case hr => first | (go_simp; done) | (go_simp; rfl)); (case hp => exact (Reps.none _ _)); intro v105 w10 ho11 hb hg_ hnew_; clear hg_ hnew_; (first | rw [← Ny104.out] at ho11 | (simp only [Int.reduceToNat] at ho11; rw [← Ny104.out] at ho11)); have n0_ := zA (Kd.R_lower ho11 (below_size (zHB))); have n1_ := zA (blk_below (g := gb101) (o := .cells #[.int .i64 0, .int .i64 0, .int .i64 0] 34 (0, 0)) (zb BK101.out) hb); have n2_ := zA (below_step (zHB) hb); clear BK101; clear HB; have HO106 := n0_; have BK101 := n1_; have HB := n2_; clear n0_ n1_ n2_; clear hb ho11; obtain ⟨Ao12, co12, eo12⟩ := Kd.R_slice HO106.out; subst eo12) | ((with_reducible refine gate_callee (f := 86) rfl ?_); refine goesL_ (some 21) rfl rfl Try.func86 (by kernel_rfl) rfl #[.slice A0 l0.length c0, .slice Ao12 y104.length co12, .int .i64 a1] rfl y1  ?_; (with_reducible refine (spec_l4Least.calls k _ _ l0 _ _ y104 a1 t107 t108 t109 t110 _ ?side1 ?side2 ?side3 ?side4 A7.out).mono ?_); (case side1 => repeat (first | exact (Kd.C_below HR0.out HB.out) | (with_reducible refine Kd.C_alloc ?_ _) | (with_reducible refine Kd.C_drewN ?_ _) | (with_reducible refine Kd.C_drew ?_))); (case side2 => exact HC0.out); (case side3 => repeat (first | exact (Kd.R_reads' HO106.out).2.2 | (with_reducible refine Kd.C_alloc ?_ _) | (with_reducible refine Kd.C_drewN ?_ _) | (with_reducible refine Kd.C_drew ?_))); (case side4 => exact (Kd.R_reads' HO106.out).2.1); rintro e w13 ⟨rfl, hb⟩; refine ⟨_, rfl, ?_⟩; have n0_ := zA (Kd.R_below (by (with_reducible repeat (first | apply Kd.R_alloc | apply Kd.R_drewN | apply Kd.R_drew)); exact HO106.out) hb); have n1_ := zA (blk_below (g := gb101) (o := .cells #[.int .i64 0, .int .i64 0, .int .i64 0] 34 (0, 0)) (zb BK101.out) hb); have n2_ := zA (below_step (zHB) hb); clear HO106; clear BK101; clear HB; have HO106 := n0_; have BK101 := n1_; have HB := n2_; clear n0_ n1_ n2_; (try clear hb); (try clear hb2); (try clear hk); (try clear hi); have hcz14_0 : w13.cell? ⟨gb101, 0, none⟩ = some (.int .i64 0) := (blk_cell BK101.out 0).trans rfl; have hcz14_1 : w13.cell? ⟨gb101, 1, none⟩ = some (.int .i64 0) := (blk_cell BK101.out 1).trans rfl; have hcz14_2 : w13.cell? ⟨gb101, 2, none⟩ = some (.int .i64 0) := (blk_cell BK101.out 2).trans rfl; have hfz14_0 := blk_frozen BK101.out 0; have hfz14_1 := blk_frozen BK101.out 1; have hfz14_2 := blk_frozen BK101.out 2))
   refine bodyPost_ret (results_ct rfl _ _ gb101 34 #[.int .i64 t107, .int .i64 t108, .int .i64 t109] (0, 0) _ rfl (by refine zq ?_; refine blk_put (cs := #[.int .i64 t107, .int .i64 t108, .int .i64 0]) ?_ 2 _ rfl; refine zq ?_; refine blk_put (cs := #[.int .i64 t107, .int .i64 0, .int .i64 0]) ?_ 1 _ rfl; refine zq ?_; refine blk_put (cs := #[.int .i64 0, .int .i64 0, .int .i64 0]) ?_ 0 _ rfl; refine zq ?_; exact BK101.out) Try.underlying34 rfl (by kernel_rfl)) rfl ?_
   exact ⟨by first | rfl | (simp [errW_none, errW_some] <;> rfl) | (simp [*, errW_none, errW_some] <;> rfl), zHB⟩
  replace c6 := Bool.eq_false_iff.mpr c6
  subst c6
  have H1 : (some (0, 0, 0, false)) = some (r1, r2, r3, r4) := by rw [if_neg (show ¬ (false = true) by decide)] at H; exact H
  clear H
  have H := H1
  clear H1
  simp only [Option.some.injEq, Prod.mk.injEq] at H
  obtain ⟨rfl, rfl, rfl, rfl⟩ := H
  go_enter Try.func70, Try.ntmps70
  go_wp2_with (first | ((with_reducible refine gate_dst (N := 4) rfl ?_); (try (refine gate_guard (by rfl) ?_; dsimp only)); refine box_event ?hg (N := 4) ?hd (cs := #[.int .i64 0, .int .i64 0, .int .i64 0]) (t := 34) ?hr ?_; (case hd => rfl); (case hg => rfl); (case hr => first | (go_simp; done) | (go_simp; rfl)); intro gb101 hg w15 hbox hb; have n0_ := zA (below_step (zHB) hb); have n1_ := zA (hbox); have n2_ := zA ((show w.heap.size ≤ gb101 from y2)); have n3_ := zA ((show w.heap.size ≤ gb101 from y2)); clear HB; have HB := n0_; have BK101 := n1_; have GW101 := n2_; have GE101 := n3_; clear n0_ n1_ n2_ n3_; clear hb hbox hg) | ((with_reducible refine gate_callee (f := 32) rfl ?_); refine goesL_ (some 7) rfl rfl Try.func32 (by kernel_rfl) rfl #[.slice A0 l0.length c0] rfl y1  ?_; (with_reducible refine (spec_AclOk.calls k _ _ l0 true _ ?side1 ?side2 A3.out).mono ?_); (case side1 => repeat (first | exact (Kd.C_below HR0.out HB.out) | (with_reducible refine Kd.C_alloc ?_ _) | (with_reducible refine Kd.C_drewN ?_ _) | (with_reducible refine Kd.C_drew ?_))); (case side2 => exact HC0.out); rintro e w16 ⟨rfl, hb⟩; refine ⟨_, rfl, ?_⟩; have n0_ := zA (blk_below (g := gb101) (o := .cells #[.int .i64 0, .int .i64 0, .int .i64 0] 34 (0, 0)) (zb BK101.out) hb); have n1_ := zA (below_step (zHB) hb); clear BK101; clear HB; have BK101 := n0_; have HB := n1_; clear n0_ n1_; (try clear hb); (try clear hb2); (try clear hk); (try clear hi)) | (go_at_call 75; (with_reducible refine (spec_l1In.calls a1 0 (wrap64 ((l0.length : Int) - 1)) false _ A5.out).mono ?_); rintro e w' ⟨rfl, ⟨nd, rfl⟩⟩; (try (rw [drewN_self w16]; generalize hq_ : World.drewN w16 _ = w16; have n0_ : Aside0 (w16.heap[gb101]? = some (.cells #[.int .i64 0, .int .i64 0, .int .i64 0] 34 (0, 0))) := ⟨by rw [← hq_]; exact (zb BK101.out)⟩; have n1_ : Aside0 (Below w.heap.size w w16) := ⟨by rw [← hq_]; exact (zHB)⟩; clear BK101 HB hq_; have BK101 := n0_; have HB := n1_; clear n0_ n1_)); have hcz17_0 : w16.cell? ⟨gb101, 0, none⟩ = some (.int .i64 0) := (blk_cell BK101.out 0).trans rfl; have hcz17_1 : w16.cell? ⟨gb101, 1, none⟩ = some (.int .i64 0) := (blk_cell BK101.out 1).trans rfl; have hcz17_2 : w16.cell? ⟨gb101, 2, none⟩ = some (.int .i64 0) := (blk_cell BK101.out 2).trans rfl; have hfz17_0 := blk_frozen BK101.out 0; have hfz17_1 := blk_frozen BK101.out 1; have hfz17_2 := blk_frozen BK101.out 2))
  refine bodyPost_ret (results_ct rfl _ _ gb101 34 #[.int .i64 0, .int .i64 0, .int .i64 0] (0, 0) _ rfl (by refine zq ?_; refine blk_put (cs := #[.int .i64 0, .int .i64 0, .int .i64 0]) ?_ 2 _ rfl; refine zq ?_; refine blk_put (cs := #[.int .i64 0, .int .i64 0, .int .i64 0]) ?_ 1 _ rfl; refine zq ?_; refine blk_put (cs := #[.int .i64 0, .int .i64 0, .int .i64 0]) ?_ 0 _ rfl; refine zq ?_; exact BK101.out) Try.underlying34 rfl (by kernel_rfl)) rfl ?_
  exact ⟨by first | rfl | (simp [errW_none, errW_some] <;> rfl) | (simp [*, errW_none, errW_some] <;> rfl), zHB⟩
 replace c4 := Bool.eq_false_iff.mpr c4
 subst c4
 have H1 : (some (0, 0, 0, false)) = some (r1, r2, r3, r4) := by rw [if_neg (show ¬ (false = true) by decide)] at H; exact H
 clear H
 have H := H1
 clear H1
 simp only [Option.some.injEq, Prod.mk.injEq] at H
 obtain ⟨rfl, rfl, rfl, rfl⟩ := H
 go_enter Try.func70, Try.ntmps70
 go_wp2_with (first | ((with_reducible refine gate_dst (N := 4) rfl ?_); (try (refine gate_guard (by rfl) ?_; dsimp only)); refine box_event ?hg (N := 4) ?hd (cs := #[.int .i64 0, .int .i64 0, .int .i64 0]) (t := 34) ?hr ?_; (case hd => rfl); (case hg => rfl); (case hr => first | (go_simp; done) | (go_simp; rfl)); intro gb101 hg w18 hbox hb; have n0_ := zA (below_step (zHB) hb); have n1_ := zA (hbox); have n2_ := zA ((show w.heap.size ≤ gb101 from y2)); have n3_ := zA ((show w.heap.size ≤ gb101 from y2)); clear HB; have HB := n0_; have BK101 := n1_; have GW101 := n2_; have GE101 := n3_; clear n0_ n1_ n2_ n3_; clear hb hbox hg) | ((with_reducible refine gate_callee (f := 32) rfl ?_); refine goesL_ (some 7) rfl rfl Try.func32 (by kernel_rfl) rfl #[.slice A0 l0.length c0] rfl y1  ?_; (with_reducible refine (spec_AclOk.calls k _ _ l0 false _ ?side1 ?side2 A3.out).mono ?_); (case side1 => repeat (first | exact (Kd.C_below HR0.out HB.out) | (with_reducible refine Kd.C_alloc ?_ _) | (with_reducible refine Kd.C_drewN ?_ _) | (with_reducible refine Kd.C_drew ?_))); (case side2 => exact HC0.out); rintro e w19 ⟨rfl, hb⟩; refine ⟨_, rfl, ?_⟩; have n0_ := zA (blk_below (g := gb101) (o := .cells #[.int .i64 0, .int .i64 0, .int .i64 0] 34 (0, 0)) (zb BK101.out) hb); have n1_ := zA (below_step (zHB) hb); clear BK101; clear HB; have BK101 := n0_; have HB := n1_; clear n0_ n1_; (try clear hb); (try clear hb2); (try clear hk); (try clear hi); have hcz20_0 : w19.cell? ⟨gb101, 0, none⟩ = some (.int .i64 0) := (blk_cell BK101.out 0).trans rfl; have hcz20_1 : w19.cell? ⟨gb101, 1, none⟩ = some (.int .i64 0) := (blk_cell BK101.out 1).trans rfl; have hcz20_2 : w19.cell? ⟨gb101, 2, none⟩ = some (.int .i64 0) := (blk_cell BK101.out 2).trans rfl; have hfz20_0 := blk_frozen BK101.out 0; have hfz20_1 := blk_frozen BK101.out 1; have hfz20_2 := blk_frozen BK101.out 2))
 refine bodyPost_ret (results_ct rfl _ _ gb101 34 #[.int .i64 0, .int .i64 0, .int .i64 0] (0, 0) _ rfl (by refine zq ?_; refine blk_put (cs := #[.int .i64 0, .int .i64 0, .int .i64 0]) ?_ 2 _ rfl; refine zq ?_; refine blk_put (cs := #[.int .i64 0, .int .i64 0, .int .i64 0]) ?_ 1 _ rfl; refine zq ?_; refine blk_put (cs := #[.int .i64 0, .int .i64 0, .int .i64 0]) ?_ 0 _ rfl; refine zq ?_; exact BK101.out) Try.underlying34 rfl (by kernel_rfl)) rfl ?_
 exact ⟨by first | rfl | (simp [errW_none, errW_some] <;> rfl) | (simp [*, errW_none, errW_some] <;> rfl), zHB⟩
end Go.Proofs.Ytnakanjhdcakhaa.Q
namespace Go.Proofs.Ytnakanjhdcakhaa.Q
open Go.RowKit Go.Proofs.YtnakanjhdcakhaaW.PrintWords Go.Proofs.YtnakanjhdcakhaaW.PrintLast Go.Proofs.YtnakanjhdcakhaaW.PrintMore
attribute [local go_sem] max2_int min2_int max_two min_two max_three min_three max_four min_four   -- for this text's walks alone
set_option linter.unusedVariables false
set_option linter.unusedSimpArgs false
def spec_AclLean.l0 : Nat → List (S54) → List (S54) → Int → Option ((List (S54)))
  | 0, _, _, _ => none
  | k + 1, x0, x3, x4 => if x4 < (x0.length : Int) then ((spec_AclWitness.f k x0 x4).bind fun bt104 => (if bt104.2.2.2 = true then (if 0 ≤ x4 then (if x3.length < 2932031007402 then (spec_AclLean.l0 k x0 (x3 ++ [(⟨(rd_T54 x0 x4).f0, (⟨(rd_T54 x0 x4).f1.f0, (rd_T54 x0 x4).f1.f1⟩ : S26), (⟨(rd_T54 x0 x4).f2.f0, (rd_T54 x0 x4).f2.f1⟩ : S26), (rd_T54 x0 x4).f3⟩ : S54)]) (wrap64 (x4 + 1))) else (none)) else (none)) else (spec_AclLean.l0 k x0 x3 (wrap64 (x4 + 1))))) else (some x3)
def spec_AclLean.f (k : Nat) (l0 : List (S54)) : Option ((List (S54))) := spec_AclLean.l0 k l0 (([] : List (S54))) 0
theorem spec_AclLean.zHB {P : Prop} (h : P := by repeat (first | (with_reducible first | exact HB.out | apply below_alloc | apply pw_below_drewN | apply below_drew1 | refine below_set ?_ GE108.out) | exact HB.out)) : P := h
theorem spec_AclLean.zr {P Q : Prop} (x : Q) (h : Q → P := by intro x_; (with_reducible repeat (first | apply Kd.R_alloc | apply Kd.R_drewN | apply Kd.R_drew)); exact x_) : P := h x
theorem spec_AclLean.zq {P Q : Prop} (x : Q) (h : Q → P := by intro x_; (with_reducible repeat (first | refine blk_drewN ?_ _ | refine blk_drew ?_ | refine blk_alloc ?_ _)); exact x_) : P := h x
theorem spec_AclLean.zk {P Q : Prop} (x : Q) (h : Q → P := by intro x_; (with_reducible repeat (first | apply Kd.R_alloc | apply Kd.R_drewN | apply Kd.R_drew)); exact x_) : P := h x
theorem spec_AclLean.y1 {P : Prop} (h : P := by first | (rw [add_block]; exact hn109_0) | (show (Addr.add _ _).block ≠ _; rw [add_block]; exact hn109_0) | exact hn109_0) : P := h
theorem spec_AclLean.y2 {P : Prop} (h : P := by first | (rw [add_block]; exact hn109_1) | (show (Addr.add _ _).block ≠ _; rw [add_block]; exact hn109_1) | exact hn109_1) : P := h
theorem spec_AclLean.y3 {P : Prop} (h : P := by first | (rw [add_block]; exact hn109_2) | (show (Addr.add _ _).block ≠ _; rw [add_block]; exact hn109_2) | exact hn109_2) : P := h
theorem spec_AclLean.y4 {P : Prop} (h : P := by have := World.block_lt_of_cell? _ _ hx109_0; first | rwa [add_block] at this | exact this) : P := h
theorem spec_AclLean.y5 {P : Prop} (h : P := by rw [hg]; exact (below_size (zHB))) : P := h
theorem spec_AclLean.zA {p : Prop} (h : p) : Aside0 p := ⟨h⟩
set_option maxHeartbeats 8000000 in
set_option maxRecDepth 100000 in
theorem spec_AclLean.calls (k : Nat) (A0 : Option Addr) (c0 : Nat) (l0 : List (S54)) (r : List (S54)) (w : World) (hr0 : Kd.C k54 w A0 l0.length l0) (hc0 : l0.length ≤ c0) (h : spec_AclLean.f k l0 = some r) :
  Calls Try.prog 43 #[.slice A0 l0.length c0] w fun e w' => ∃ v0_ : Value, e = .returned (v0_) ∧ Kd.R k54 54 w' w.heap.size (fun _ => True) v0_ r ∧ Below w.heap.size w w' := by
 have hu34 := Try.underlying34
 have hu54 := Try.underlying54
 have HR0 := zA hr0
 have HC0 := zA hc0
 clear hr0 hc0
 have HB := zA (Below.refl w.heap.size w)
 have H : (spec_AclLean.l0 k l0 (([] : List (S54))) 0) = some r := h
 clear h
 obtain ⟨y101, hy101⟩ : ∃ y_ : List (S54), y_ = (([] : List (S54))) := ⟨_, rfl⟩
 replace H : (spec_AclLean.l0 k l0 y101 0) = some r := by first | (rw [hy101]; with_reducible exact H) | (have H2_ := (Option.bind_some _ _).symm.trans H; rw [hy101]; with_reducible exact H2_) | (have H2_ := (Option.bind_some _ _).symm.trans H; with_reducible exact H2_) | with_reducible exact H | (rw [hy101]; exact H) | exact H
 have Ny101 := zA hy101
 clear hy101
 have H' := zA H
 clear H
 go_enter Try.func43, Try.ntmps43
 go_wp2_with (first | ((with_reducible refine gate_dst (N := 7) rfl ?_); refine Kd.R_lit k54 _ 54 ?hg (N := 7) ?hd (xs := ([] : List (S54))) (inner := []) (ok := fun _ => True) (okp := fun _ => True) ?hr ?hp (fun _ hk => hk) trivial (Below.refl _ _) (Nat.le_refl _) (by simp) ?_; (case hd => rfl); (case hg => rfl); (case hr => first | (go_simp; done) | (go_simp; rfl)); (case hp => exact (Reps.none _ _)); intro v102 w2 ho3 hb hg_ hnew_; clear hg_ hnew_; (first | rw [← Ny101.out] at ho3 | (simp only [Int.reduceToNat] at ho3; rw [← Ny101.out] at ho3)); have n0_ := zA (Kd.R_lower ho3 (below_size (zHB))); have n1_ := zA (below_step (zHB) hb); clear HB; have HO103 := n0_; have HB := n1_; clear n0_ n1_; clear hb ho3))
 go_loopg [3, 4] k (fun kq v3 v4 w' => ∃ (x3_1 : List (S54)) (x4_1 : Int), v4 = .int .i64 x4_1 ∧ Aside0 (spec_AclLean.l0 kq l0 x3_1 x4_1 = some r) ∧ Aside0 (kq ≤ k) ∧ Aside0 (Kd.R k54 54 w' w.heap.size (fun _ => True) v3 x3_1) ∧ Aside0 (Below w.heap.size w w'))
 case atStart => exact ⟨(y101), (0), (by first | rfl | (simp; done) | (simp [*]; done)), H', ⟨Nat.le_refl _⟩, ⟨by refine zk ?_; exact HO103.out⟩, ⟨zHB⟩⟩
 case round =>
  clear H'
  try clear p2
  obtain ⟨x3_1, x4_1, rfl, HA, HK1, HO_3, HB⟩ := hrel
  cases gk with
  | zero => exact absurd HA.out (by simp [spec_AclLean.l0])
  | succ k1 => ?_
  have H := HA.out
  clear HA
  simp only [spec_AclLean.l0] at H
  by_cases c4 : x4_1 < (l0.length : Int)
  ·rw [if_pos c4] at H
   have c4b0 : decide (x4_1 < (l0.length : Int)) = true := decide_eq_true c4
   clear c4
   replace H := Option.bind_eq_some_iff.mp H
   obtain ⟨⟨t104, t105, t106, t107⟩, A50, H⟩ := H
   replace H : (if t107 = true then (if 0 ≤ x4_1 then (if x3_1.length < 2932031007402 then (spec_AclLean.l0 k1 l0 (x3_1 ++ [(⟨(rd_T54 l0 x4_1).f0, (⟨(rd_T54 l0 x4_1).f1.f0, (rd_T54 l0 x4_1).f1.f1⟩ : S26), (⟨(rd_T54 l0 x4_1).f2.f0, (rd_T54 l0 x4_1).f2.f1⟩ : S26), (rd_T54 l0 x4_1).f3⟩ : S54)]) (wrap64 (x4_1 + 1))) else (none)) else (none)) else (spec_AclLean.l0 k1 l0 x3_1 (wrap64 (x4_1 + 1)))) = some r := H
   have A5 := zA A50
   clear A50
   by_cases c6 : t107 = true
   ·subst c6
    have H1 : (if 0 ≤ x4_1 then (if x3_1.length < 2932031007402 then (spec_AclLean.l0 k1 l0 (x3_1 ++ [(⟨(rd_T54 l0 x4_1).f0, (⟨(rd_T54 l0 x4_1).f1.f0, (rd_T54 l0 x4_1).f1.f1⟩ : S26), (⟨(rd_T54 l0 x4_1).f2.f0, (rd_T54 l0 x4_1).f2.f1⟩ : S26), (rd_T54 l0 x4_1).f3⟩ : S54)]) (wrap64 (x4_1 + 1))) else (none)) else (none)) = some r := by rw [if_pos rfl] at H; exact H
    clear H
    have H := H1
    clear H1
    by_cases c7 : 0 ≤ x4_1
    ·rw [if_pos c7] at H
     have c7b0 : decide (0 ≤ x4_1) = true := decide_eq_true c7
     clear c7
     by_cases c8 : x3_1.length < 2932031007402
     ·rw [if_pos c8] at H
      have LMc8 := zA c8
      clear c8
      obtain ⟨y110, hy110⟩ : ∃ y_ : List (S54), y_ = (x3_1 ++ [(⟨(rd_T54 l0 x4_1).f0, (⟨(rd_T54 l0 x4_1).f1.f0, (rd_T54 l0 x4_1).f1.f1⟩ : S26), (⟨(rd_T54 l0 x4_1).f2.f0, (rd_T54 l0 x4_1).f2.f1⟩ : S26), (rd_T54 l0 x4_1).f3⟩ : S54)]) := ⟨_, rfl⟩
      replace H : (spec_AclLean.l0 k1 l0 y110 (wrap64 (x4_1 + 1))) = some r := by first | (rw [hy110]; with_reducible exact H) | (have H2_ := (Option.bind_some _ _).symm.trans H; rw [hy110]; with_reducible exact H2_) | (have H2_ := (Option.bind_some _ _).symm.trans H; with_reducible exact H2_) | with_reducible exact H | (rw [hy110]; exact H) | exact H
      have Ny110 := zA hy110
      clear hy110
      have H' := zA H
      clear H
      go_wp2_with (first | ((with_reducible refine gate_callee (f := 70) rfl ?_); refine goesL_ (some 17) rfl rfl Try.func70 (by kernel_rfl) rfl #[.slice A0 l0.length c0, .int .i64 x4_1] rfl (by (try simp only [List.map_toArray, List.map_cons, List.map_nil]); first | done | rfl | (simp only [List.length_drop, List.length_take]; rfl)) ?_; (with_reducible refine (spec_AclWitness.calls k1 _ _ l0 x4_1 t104 t105 t106 true _ ?side1 ?side2 A5.out).mono ?_); (case side1 => repeat (first | exact (Kd.C_below HR0.out HB.out) | (with_reducible refine Kd.C_alloc ?_ _) | (with_reducible refine Kd.C_drewN ?_ _) | (with_reducible refine Kd.C_drew ?_))); (case side2 => exact HC0.out); rintro e w9 ⟨rfl, hb⟩; refine ⟨_, rfl, ?_⟩; have n0_ := zA (Kd.R_below (zr HO_3.out) hb); have n1_ := zA (below_step (zHB) hb); clear HO_3; clear HB; have HO_3 := n0_; have HB := n1_; clear n0_ n1_; (try clear hb); (try clear hb2); (try clear hk); (try clear hi)) | ((with_reducible refine gate_dst (N := 5) rfl ?_); refine box_event ?hg (N := 5) ?hd (cs := #[.int .i64 0, .int .i64 0, .int .i64 0]) (t := 34) ?hr ?_; (case hd => rfl); (case hg => rfl); (case hr => first | (go_simp; done) | (go_simp; rfl)); intro gb108 hg w10 hbox hb; have n0_ := zA (Kd.R_below (zr HO_3.out) hb); have n1_ := zA (below_step (zHB) hb); have n2_ := zA (hbox); have n3_ := zA ((show w.heap.size ≤ gb108 from y5)); have n4_ := zA ((show w.heap.size ≤ gb108 from y5)); clear HO_3; clear HB; have HO_3 := n0_; have HB := n1_; have BK108 := n2_; have GW108 := n3_; have GE108 := n4_; clear n0_ n1_ n2_ n3_ n4_; clear hb hbox hg; have hcz11_0 : w10.cell? ⟨gb108, 0, none⟩ = some (.int .i64 0) := (blk_cell BK108.out 0).trans rfl; have hcz11_1 : w10.cell? ⟨gb108, 1, none⟩ = some (.int .i64 0) := (blk_cell BK108.out 1).trans rfl; have hcz11_2 : w10.cell? ⟨gb108, 2, none⟩ = some (.int .i64 0) := (blk_cell BK108.out 2).trans rfl; have hfz11_0 := blk_frozen BK108.out 0; have hfz11_1 := blk_frozen BK108.out 1; have hfz11_2 := blk_frozen BK108.out 2; have p109 : 0 ≤ (x4_1 : Int) := of_decide_eq_true (by first | (with_reducible assumption) | assumption); have q109 : x4_1 < (l0.length : Int) := of_decide_eq_true (by first | (with_reducible assumption) | assumption); obtain ⟨ad109, e109, hx109_0, hx109_1, hx109_2, hx109_3, hx109_4, hx109_5⟩ := at_T54 HR0.out x4_1 p109 q109; cases e109; have hn109_0 : ad109.block ≠ gb108 := Nat.ne_of_lt (Nat.lt_of_lt_of_le y4  GW108.out); have hn109_1 : ad109.block ≠ gb108 := Nat.ne_of_lt (Nat.lt_of_lt_of_le y4  GW108.out); have hn109_2 : ad109.block ≠ gb108 := Nat.ne_of_lt (Nat.lt_of_lt_of_le y4  GW108.out); replace hx109_0 := (HB.out.cell (World.block_lt_of_cell? w _ hx109_0)).trans hx109_0; replace hx109_1 := (HB.out.cell (World.block_lt_of_cell? w _ hx109_1)).trans hx109_1; replace hx109_2 := (HB.out.cell (World.block_lt_of_cell? w _ hx109_2)).trans hx109_2; replace hx109_3 := (HB.out.cell (World.block_lt_of_cell? w _ hx109_3)).trans hx109_3; replace hx109_4 := (HB.out.cell (World.block_lt_of_cell? w _ hx109_4)).trans hx109_4; replace hx109_5 := (HB.out.cell (World.block_lt_of_cell? w _ hx109_5)).trans hx109_5; replace hx109_0 := (cell_far (p := ⟨gb108, 0, none⟩) y1  (.int .i64 t104)).trans hx109_0; replace hx109_1 := (cell_far (p := ⟨gb108, 0, none⟩) y1  (.int .i64 t104)).trans hx109_1; replace hx109_2 := (cell_far (p := ⟨gb108, 0, none⟩) y1  (.int .i64 t104)).trans hx109_2; replace hx109_3 := (cell_far (p := ⟨gb108, 0, none⟩) y1  (.int .i64 t104)).trans hx109_3; replace hx109_4 := (cell_far (p := ⟨gb108, 0, none⟩) y1  (.int .i64 t104)).trans hx109_4; replace hx109_5 := (cell_far (p := ⟨gb108, 0, none⟩) y1  (.int .i64 t104)).trans hx109_5; replace hx109_0 := (cell_far (p := ⟨gb108, 1, none⟩) y2  (.int .i64 t105)).trans hx109_0; replace hx109_1 := (cell_far (p := ⟨gb108, 1, none⟩) y2  (.int .i64 t105)).trans hx109_1; replace hx109_2 := (cell_far (p := ⟨gb108, 1, none⟩) y2  (.int .i64 t105)).trans hx109_2; replace hx109_3 := (cell_far (p := ⟨gb108, 1, none⟩) y2  (.int .i64 t105)).trans hx109_3; replace hx109_4 := (cell_far (p := ⟨gb108, 1, none⟩) y2  (.int .i64 t105)).trans hx109_4; replace hx109_5 := (cell_far (p := ⟨gb108, 1, none⟩) y2  (.int .i64 t105)).trans hx109_5; replace hx109_0 := (cell_far (p := ⟨gb108, 2, none⟩) y3  (.int .i64 t106)).trans hx109_0; replace hx109_1 := (cell_far (p := ⟨gb108, 2, none⟩) y3  (.int .i64 t106)).trans hx109_1; replace hx109_2 := (cell_far (p := ⟨gb108, 2, none⟩) y3  (.int .i64 t106)).trans hx109_2; replace hx109_3 := (cell_far (p := ⟨gb108, 2, none⟩) y3  (.int .i64 t106)).trans hx109_3; replace hx109_4 := (cell_far (p := ⟨gb108, 2, none⟩) y3  (.int .i64 t106)).trans hx109_4; replace hx109_5 := (cell_far (p := ⟨gb108, 2, none⟩) y3  (.int .i64 t106)).trans hx109_5; clear hn109_0; clear hn109_1; clear hn109_2; replace p109 := eq_true p109; replace q109 := eq_true q109) | ((with_reducible refine gate_builtin (b := .append) (xs := #[.tmp 21, .tmp 26]) rfl ?_); at_builtin; refine Kd.R_append k54 (w0 := w) w.heap.size rfl (.tmp 21) (.tmp 26) 30 54 (.agg #[(.bool false), (.int .i64 0), (.int .i64 0), (.int .i64 0), (.int .i64 0), (.int .i64 0)]) 48 rfl Try.underlying30 info54 rfl (by decide) (by omega) u3 x3_1 (⟨(rd_T54 l0 x4_1).f0, (⟨(rd_T54 l0 x4_1).f1.f0, (rd_T54 l0 x4_1).f1.f1⟩ : S26), (⟨(rd_T54 l0 x4_1).f2.f0, (rd_T54 l0 x4_1).f2.f1⟩ : S26), (rd_T54 l0 x4_1).f3⟩ : S54) [.bool ((rd_T54 l0 x4_1).f0), .int .i64 ((rd_T54 l0 x4_1).f1.f0), .int .i64 ((rd_T54 l0 x4_1).f1.f1), .int .i64 ((rd_T54 l0 x4_1).f2.f0), .int .i64 ((rd_T54 l0 x4_1).f2.f1), .int .i64 ((rd_T54 l0 x4_1).f3)] (fun _ => True) (fun _ => False) rfl (by first | (go_simp; done) | (go_simp; rfl)) ?aP (fun _ hk => hk.elim) ?aF ?aO ?aB ?aS ?aL ?_; (case aP => exact k54_mkM _ _ _ (⟨(rd_T54 l0 x4_1).f0, (⟨(rd_T54 l0 x4_1).f1.f0, (rd_T54 l0 x4_1).f1.f1⟩ : S26), (⟨(rd_T54 l0 x4_1).f2.f0, (rd_T54 l0 x4_1).f2.f1⟩ : S26), (rd_T54 l0 x4_1).f3⟩ : S54)); (case aB => exact (zHB)); (case aF => exact (fun _ _ => trivial)); (case aO => exact (by refine zk ?_; exact Kd.R_mono (Kd.R_far (p := ⟨gb108, 2, none⟩) (Kd.R_far (p := ⟨gb108, 1, none⟩) (Kd.R_far (p := ⟨gb108, 0, none⟩) (Kd.R_types HO_3.out BK108.out (by decide)) (fun _ hk => hk.2) (.int .i64 t104)) (fun _ hk => hk.2) (.int .i64 t105)) (fun _ hk => hk.2) (.int .i64 t106)) (fun _ hk => trivial))); (case aS => exact (below_size (zHB))); (case aL => have := LMc8.out; omega); intro v111 w12 ho hb hg hat; rw [← Ny110.out] at ho; have n0_ := zA (blk_grown (g := gb108) (o := .cells #[.int .i64 t104, .int .i64 t105, .int .i64 t106] 34 (0, 0)) (by refine zq ?_; refine blk_put (cs := #[.int .i64 t104, .int .i64 t105, .int .i64 0]) ?_ 2 _ rfl; refine zq ?_; refine blk_put (cs := #[.int .i64 t104, .int .i64 0, .int .i64 0]) ?_ 1 _ rfl; refine zq ?_; refine blk_put (cs := #[.int .i64 0, .int .i64 0, .int .i64 0]) ?_ 0 _ rfl; refine zq ?_; exact BK108.out) hg (Kd.R_ne HO_3.out BK108.out (by decide))); have n1_ := zA (hb); have n2_ := zA (ho); clear BK108; clear HB; clear HO_3; have BK108 := n0_; have HB := n1_; have HO112 := n2_; clear n0_ n1_ n2_; clear ho hb hg hat))
      go_roundg k1
      case measure => have := HK1.out; omega
      case rel => exact ⟨(y110), (wrap64 (x4_1 + 1)), (by first | rfl | (simp; done) | (simp [*]; done)), H', ⟨by have := HK1.out; omega⟩, ⟨by refine zk ?_; exact HO112.out⟩, ⟨zHB⟩⟩
     rw [if_neg c8] at H
     exact absurd H (by simp)
    rw [if_neg c7] at H
    exact absurd H (by simp)
   replace c6 := Bool.eq_false_iff.mpr c6
   subst c6
   have H1 : (spec_AclLean.l0 k1 l0 x3_1 (wrap64 (x4_1 + 1))) = some r := by rw [if_neg (show ¬ (false = true) by decide)] at H; exact H
   clear H
   have H := H1
   clear H1
   have H' := zA H
   clear H
   go_wp2_with (first | ((with_reducible refine gate_callee (f := 70) rfl ?_); refine goesL_ (some 17) rfl rfl Try.func70 (by kernel_rfl) rfl #[.slice A0 l0.length c0, .int .i64 x4_1] rfl (by (try simp only [List.map_toArray, List.map_cons, List.map_nil]); first | done | rfl | (simp only [List.length_drop, List.length_take]; rfl)) ?_; (with_reducible refine (spec_AclWitness.calls k1 _ _ l0 x4_1 t104 t105 t106 false _ ?side1 ?side2 A5.out).mono ?_); (case side1 => repeat (first | exact (Kd.C_below HR0.out HB.out) | (with_reducible refine Kd.C_alloc ?_ _) | (with_reducible refine Kd.C_drewN ?_ _) | (with_reducible refine Kd.C_drew ?_))); (case side2 => exact HC0.out); rintro e w13 ⟨rfl, hb⟩; refine ⟨_, rfl, ?_⟩; have n0_ := zA (Kd.R_below (zr HO_3.out) hb); have n1_ := zA (below_step (zHB) hb); clear HO_3; clear HB; have HO_3 := n0_; have HB := n1_; clear n0_ n1_; (try clear hb); (try clear hb2); (try clear hk); (try clear hi)) | ((with_reducible refine gate_dst (N := 5) rfl ?_); refine box_event ?hg (N := 5) ?hd (cs := #[.int .i64 0, .int .i64 0, .int .i64 0]) (t := 34) ?hr ?_; (case hd => rfl); (case hg => rfl); (case hr => first | (go_simp; done) | (go_simp; rfl)); intro gb108 hg w14 hbox hb; have n0_ := zA (Kd.R_below (zr HO_3.out) hb); have n1_ := zA (below_step (zHB) hb); have n2_ := zA (hbox); have n3_ := zA ((show w.heap.size ≤ gb108 from y5)); have n4_ := zA ((show w.heap.size ≤ gb108 from y5)); clear HO_3; clear HB; have HO_3 := n0_; have HB := n1_; have BK108 := n2_; have GW108 := n3_; have GE108 := n4_; clear n0_ n1_ n2_ n3_ n4_; clear hb hbox hg; have hcz15_0 : w14.cell? ⟨gb108, 0, none⟩ = some (.int .i64 0) := (blk_cell BK108.out 0).trans rfl; have hcz15_1 : w14.cell? ⟨gb108, 1, none⟩ = some (.int .i64 0) := (blk_cell BK108.out 1).trans rfl; have hcz15_2 : w14.cell? ⟨gb108, 2, none⟩ = some (.int .i64 0) := (blk_cell BK108.out 2).trans rfl; have hfz15_0 := blk_frozen BK108.out 0; have hfz15_1 := blk_frozen BK108.out 1; have hfz15_2 := blk_frozen BK108.out 2))
   go_roundg k1
   case measure => have := HK1.out; omega
   case rel => exact ⟨(x3_1), (wrap64 (x4_1 + 1)), (by first | rfl | (simp; done) | (simp [*]; done)), H', ⟨by have := HK1.out; omega⟩, ⟨by refine zk ?_; exact Kd.R_mono (Kd.R_far (p := ⟨gb108, 2, none⟩) (Kd.R_far (p := ⟨gb108, 1, none⟩) (Kd.R_far (p := ⟨gb108, 0, none⟩) (Kd.R_types HO_3.out BK108.out (by decide)) (fun _ hk => hk.2) (.int .i64 t104)) (fun _ hk => hk.2) (.int .i64 t105)) (fun _ hk => hk.2) (.int .i64 t106)) (fun _ hk => trivial)⟩, ⟨zHB⟩⟩
  rw [if_neg c4] at H
  have c4b0 : decide (x4_1 < (l0.length : Int)) = false := decide_eq_false c4
  clear c4
  obtain rfl := Option.some.inj H
  go_wp2
  go_ret
  exact ⟨_, by first | rfl | (simp [errW_none, errW_some] <;> rfl) | (simp [*, errW_none, errW_some] <;> rfl), by refine zk ?_; exact HO_3.out, zHB⟩
end Go.Proofs.Ytnakanjhdcakhaa.Q
namespace Go.Proofs.Ytnakanjhdcakhaa.Q
open Go.RowKit Go.Proofs.YtnakanjhdcakhaaW.PrintWords Go.Proofs.YtnakanjhdcakhaaW.PrintLast Go.Proofs.YtnakanjhdcakhaaW.PrintMore
attribute [local go_sem] max2_int min2_int max_two min_two max_three min_three max_four min_four   -- for this text's walks alone
set_option linter.unusedVariables false
set_option linter.unusedSimpArgs false
mutual
def laws_FnAclLean.j0 : Nat → List Int → List Int → Bool → Option (Bool)
  | 0, _, _, _ => none
  | k + 1, x0, x1, x27 => if x27 = true then (some true) else ((spec_DrawAclLean.f k x0).bind fun t101 => ((impl_AclLean.f k t101).bind fun t104 => ((spec_AclLean.f k t101).bind fun t107 => ((laws_waRules.f k t104 t107).bind fun t110 => (if t110 = true then ((impl_AclOk.f t101).bind fun t111 => ((spec_AclOk.f k t101).bind fun t112 => (laws_FnAclLean.j1 k x1 t101 t104 (t111 != t112)))) else (laws_FnAclLean.j1 k x1 t101 t104 true))))))
def laws_FnAclLean.j1 : Nat → List Int → List (S54) → List (S54) → Bool → Option (Bool)
  | 0, _, _, _, _ => none
  | k + 1, x1, x5, x6, x43 => if x43 = true then (some false) else ((spec_AclOk.f k x5).bind fun t113 => (if t113 = true then ((impl_AclDiffer.f x5 x6).bind fun bt114 => (if bt114.2.2.2 = true then (laws_FnAclLean.j2 k x1 x5 x6 true) else ((impl_AclLean.f k x6).bind fun t119 => ((laws_waRules.f k t119 x6).bind fun t122 => (laws_FnAclLean.j2 k x1 x5 x6 (!t122)))))) else (some ((x6.length : Int) == 0))))
def laws_FnAclLean.j2 : Nat → List Int → List (S54) → List (S54) → Bool → Option (Bool)
  | 0, _, _, _, _ => none
  | k + 1, x1, x5, x6, x63 => if x63 = true then (some false) else (laws_FnAclLean.l0 k x1 x5 x6 0)
def laws_FnAclLean.l0 : Nat → List Int → List (S54) → List (S54) → Int → Option (Bool)
  | 0, _, _, _, _ => none
  | k + 1, x1, x5, x6, x9 => if x9 < (x6.length : Int) then ((impl_AclWitness.f x6 x9).bind fun bt134 => ((impl_AclSays.f k x6 bt134.1 bt134.2.1 bt134.2.2.1).bind fun bt139 => (if bt134.2.2.2 = true then (if bt139.1 = x9 then (if 0 ≤ x9 then (if (bt139.2 != ((rd_T54 x6 x9).f0)) = true then (some false) else (laws_FnAclLean.l0 k x1 x5 x6 (wrap64 (x9 + 1)))) else (none)) else (some false)) else (some false)))) else ((spec_DrawAclSays.f k x1).bind fun bt123 => ((impl_AclSays.f k x5 bt123.2.1 bt123.2.2.1 bt123.2.2.2).bind fun bt130 => ((impl_AclSays.f k x6 bt123.2.1 bt123.2.2.1 bt123.2.2.2).bind fun bt132 => (some (bt130.2 == bt132.2)))))
end
def laws_FnAclLean.f (k : Nat) (l0 : List Int) (l1 : List Int) : Option (Bool) := if (l0.length : Int) > 1048576 then (laws_FnAclLean.j0 k l0 l1 true) else (laws_FnAclLean.j0 k l0 l1 (decide ((l1.length : Int) > 1048576)))
theorem laws_FnAclLean.zHB {P : Prop} (h : P := by repeat (first | (with_reducible first | exact HB.out | apply below_alloc | apply pw_below_drewN | apply below_drew1 | refine below_set ?_ GE118.out | refine below_set ?_ GE138.out | refine below_set ?_ GE129.out) | exact HB.out)) : P := h
theorem laws_FnAclLean.zb {P Q : Prop} (x : Q) (h : Q → P := by intro x_; (with_reducible repeat (first | refine blk_drewN ?_ _ | refine blk_drew ?_ | refine blk_alloc ?_ _)); exact x_) : P := h x
theorem laws_FnAclLean.zr {P Q : Prop} (x : Q) (h : Q → P := by intro x_; (with_reducible repeat (first | apply Kd.R_alloc | apply Kd.R_drewN | apply Kd.R_drew)); exact x_) : P := h x
theorem laws_FnAclLean.zq {P Q : Prop} (x : Q) (h : Q → P := by intro x_; (with_reducible repeat (first | refine blk_drewN ?_ _ | refine blk_drew ?_ | refine blk_alloc ?_ _)); exact x_) : P := h x
theorem laws_FnAclLean.zk {P Q : Prop} (x : Q) (h : Q → P := by intro x_; (with_reducible repeat (first | apply Kd.R_alloc | apply Kd.R_drewN | apply Kd.R_drew)); exact x_) : P := h x
theorem laws_FnAclLean.y1 {P : Prop} (h : P := by refine zq ?_; refine blk_put (cs := #[.int .i64 t134, .int .i64 t135, .int .i64 0]) ?_ 2 _ rfl; refine zq ?_; refine blk_put (cs := #[.int .i64 t134, .int .i64 0, .int .i64 0]) ?_ 1 _ rfl; refine zq ?_; refine blk_put (cs := #[.int .i64 0, .int .i64 0, .int .i64 0]) ?_ 0 _ rfl; refine zq ?_; exact BK138.out) : P := h
theorem laws_FnAclLean.y2 {P : Prop} (h : P := by refine zk ?_; exact (Kd.R_mono (Kd.R_far (p := ⟨gb118, 2, none⟩) (Kd.R_far (p := ⟨gb118, 1, none⟩) (Kd.R_far (p := ⟨gb118, 0, none⟩) (Kd.R_types HO_6.out BK118.out (by decide)) (fun _ hk => hk.2) (.int .i64 t114)) (fun _ hk => hk.2) (.int .i64 t115)) (fun _ hk => hk.2) (.int .i64 t116)) (fun _ h_ => h_.1))) : P := h
theorem laws_FnAclLean.y3 {P : Prop} (h : P := by refine zk ?_; exact (Kd.R_mono (Kd.R_far (p := ⟨gb138, 2, none⟩) (Kd.R_far (p := ⟨gb138, 1, none⟩) (Kd.R_far (p := ⟨gb138, 0, none⟩) (Kd.R_types HO_6.out BK138.out (by decide)) (fun _ hk => hk.2) (.int .i64 t134)) (fun _ hk => hk.2) (.int .i64 t135)) (fun _ hk => hk.2) (.int .i64 t136)) (fun _ h_ => h_.1))) : P := h
theorem laws_FnAclLean.y4 {P : Prop} (h : P := by refine zk ?_; exact (Kd.R_mono (Kd.R_far (p := ⟨gb138, 2, none⟩) (Kd.R_far (p := ⟨gb138, 1, none⟩) (Kd.R_far (p := ⟨gb138, 0, none⟩) (Kd.R_types HO_5.out BK138.out (by decide)) (fun _ hk => hk.2) (.int .i64 t134)) (fun _ hk => hk.2) (.int .i64 t135)) (fun _ hk => hk.2) (.int .i64 t136)) (fun _ h_ => h_.1))) : P := h
theorem laws_FnAclLean.y5 {P : Prop} (h : P := by refine zq ?_; refine blk_far ?_ NB118_138.out _; refine zq ?_; refine blk_far ?_ NB118_138.out _; refine zq ?_; refine blk_far ?_ NB118_138.out _; refine zq ?_; exact BK118.out) : P := h
theorem laws_FnAclLean.y6 {P : Prop} (h : P := by rw [hg]; exact Nat.ne_of_lt (blk_lt (g := gb118) (o := .cells #[.int .i64 t114, .int .i64 t115, .int .i64 t116] 34 (0, 0)) (zb BK118.out))) : P := h
theorem laws_FnAclLean.y7 {P : Prop} (h : P := by rw [hg]; exact Nat.ne_of_gt (blk_lt (g := gb118) (o := .cells #[.int .i64 t114, .int .i64 t115, .int .i64 t116] 34 (0, 0)) (zb BK118.out))) : P := h
theorem laws_FnAclLean.y8 {P : Prop} (h : P := by (try simp only [List.map_toArray, List.map_cons, List.map_nil]); first | done | rfl | (simp only [List.length_drop, List.length_take]; rfl)) : P := h
theorem laws_FnAclLean.y9 {P : Prop} (h : P := by rw [hg]; exact (below_size (zHB))) : P := h
theorem laws_FnAclLean.y10 {P : Prop} (h : P := by first | (with_reducible assumption) | assumption) : P := h
theorem laws_FnAclLean.y11 {P : Prop} (h : P := by first | rfl | (simp; done) | (simp [*]; done)) : P := h
theorem laws_FnAclLean.zA {p : Prop} (h : p) : Aside0 p := ⟨h⟩
set_option maxHeartbeats 8000000 in
set_option maxRecDepth 100000 in
theorem laws_FnAclLean.calls (k : Nat) (A0 : Option Addr) (c0 : Nat) (l0 : List Int) (A1 : Option Addr) (c1 : Nat) (l1 : List Int) (r : Bool) (w : World) (hr0 : Kd.C (Kd.int .u8) w A0 l0.length l0) (hc0 : l0.length ≤ c0) (hr1 : Kd.C (Kd.int .u8) w A1 l1.length l1) (hc1 : l1.length ≤ c1) (h : laws_FnAclLean.f k l0 l1 = some r) :
  Calls Try.prog 9 #[.slice A0 l0.length c0, .slice A1 l1.length c1] w fun e w' => e = .returned (.bool r) ∧ Below w.heap.size w w' := by
 have hu34 := Try.underlying34
 have HR0 := zA hr0
 have HC0 := zA hc0
 clear hr0 hc0
 have HR1 := zA hr1
 have HC1 := zA hc1
 clear hr1 hc1
 have HB := zA (Below.refl w.heap.size w)
 have H : (if (l0.length : Int) > 1048576 then (laws_FnAclLean.j0 k l0 l1 true) else (laws_FnAclLean.j0 k l0 l1 (decide ((l1.length : Int) > 1048576)))) = some r := h
 clear h
 have HC3 := zA H
 clear H
 go_enter Try.func9, Try.ntmps9
 go_upto_region 1 with (fail)
 go_cut [27] (fun v27 wc => ∃ (kq : Nat) (x27_2 : Bool), v27 = .bool x27_2 ∧ Aside0 (laws_FnAclLean.j0 kq l0 l1 x27_2 = some r) ∧ Aside0 (kq ≤ k) ∧ Aside0 (Below w.heap.size w wc))
 case first =>
  have H := HC3.out
  clear HC3
  by_cases c4 : (l0.length : Int) > 1048576
  ·rw [if_pos c4] at H
   have c4b0 : decide (1048576 < (l0.length : Int)) = true := decide_eq_true c4
   have c4b1 : decide (1048576 < l0.length) = true := decide_eq_true (by omega)
   clear c4
   (first | rw [c4b0] | (simp only [i64_w, i32_w]; rw [c4b0]) | skip)
   have H' := zA H
   clear H
   go_wp2
   go_meet
   case rel => exact ⟨_, (true), y11 , H', ⟨by first | omega | exact Nat.le_refl _⟩, ⟨zHB⟩⟩
  rw [if_neg c4] at H
  have c4b0 : decide (1048576 < (l0.length : Int)) = false := decide_eq_false c4
  have c4b1 : decide (1048576 < l0.length) = false := decide_eq_false (by omega)
  clear c4
  (first | rw [c4b0] | (simp only [i64_w, i32_w]; rw [c4b0]) | skip)
  have H' := zA H
  clear H
  go_wp2
  go_meet
  case rel => exact ⟨_, (decide ((l1.length : Int) > 1048576)), y11 , H', ⟨by first | omega | exact Nat.le_refl _⟩, ⟨zHB⟩⟩
 case rest =>
  clear HC3
  try clear c1
  try clear p2
  try clear c4
  try clear c4b0
  try clear c4b1
  obtain ⟨kq, x27_2, rfl, HA, HJ2, HB⟩ := hcut
  cases kq with
  | zero => exact absurd HA.out (by simp [laws_FnAclLean.j0])
  | succ kj2 => ?_
  have H := HA.out
  clear HA
  simp only [laws_FnAclLean.j0] at H
  by_cases c5 : x27_2 = true
  ·subst c5
   have H1 : (some true) = some r := by rw [if_pos rfl] at H; exact H
   clear H
   have H := H1
   clear H1
   obtain rfl := Option.some.inj H
   go_wp2
   go_ret
   exact ⟨by first | rfl | (simp [errW_none, errW_some] <;> rfl) | (simp [*, errW_none, errW_some] <;> rfl), zHB⟩
  replace c5 := Bool.eq_false_iff.mpr c5
  subst c5
  have H1 : ((spec_DrawAclLean.f kj2 l0).bind fun t101 => ((impl_AclLean.f kj2 t101).bind fun t104 => ((spec_AclLean.f kj2 t101).bind fun t107 => ((laws_waRules.f kj2 t104 t107).bind fun t110 => (if t110 = true then ((impl_AclOk.f t101).bind fun t111 => ((spec_AclOk.f kj2 t101).bind fun t112 => (laws_FnAclLean.j1 kj2 l1 t101 t104 (t111 != t112)))) else (laws_FnAclLean.j1 kj2 l1 t101 t104 true)))))) = some r := by rw [if_neg (show ¬ (false = true) by decide)] at H; exact H
  clear H
  have H := H1
  clear H1
  replace H := Option.bind_eq_some_iff.mp H
  obtain ⟨t101, A60, H⟩ := H
  replace H : ((impl_AclLean.f kj2 t101).bind fun t104 => ((spec_AclLean.f kj2 t101).bind fun t107 => ((laws_waRules.f kj2 t104 t107).bind fun t110 => (if t110 = true then ((impl_AclOk.f t101).bind fun t111 => ((spec_AclOk.f kj2 t101).bind fun t112 => (laws_FnAclLean.j1 kj2 l1 t101 t104 (t111 != t112)))) else (laws_FnAclLean.j1 kj2 l1 t101 t104 true))))) = some r := H
  have A6 := zA A60
  clear A60
  replace H := Option.bind_eq_some_iff.mp H
  obtain ⟨t104, A70, H⟩ := H
  replace H : ((spec_AclLean.f kj2 t101).bind fun t107 => ((laws_waRules.f kj2 t104 t107).bind fun t110 => (if t110 = true then ((impl_AclOk.f t101).bind fun t111 => ((spec_AclOk.f kj2 t101).bind fun t112 => (laws_FnAclLean.j1 kj2 l1 t101 t104 (t111 != t112)))) else (laws_FnAclLean.j1 kj2 l1 t101 t104 true)))) = some r := H
  have A7 := zA A70
  clear A70
  have HC8 := zA H
  clear H
  go_upto_region 5 with (first | ((with_reducible refine gate_callee (f := 40) rfl ?_); refine goesL_ (some 29) rfl rfl Try.func40 (by kernel_rfl) rfl #[.slice A0 l0.length c0] rfl y8  ?_; (with_reducible refine (spec_DrawAclLean.calls kj2 _ _ l0 t101 _ ?side1 ?side2 A6.out).mono ?_); (case side1 => repeat (first | exact (Kd.C_below HR0.out HB.out) | (with_reducible refine Kd.C_alloc ?_ _) | (with_reducible refine Kd.C_drewN ?_ _) | (with_reducible refine Kd.C_drew ?_))); (case side2 => exact HC0.out); rintro e w9 ⟨v102, rfl, ho0, hb⟩; refine ⟨_, rfl, ?_⟩; have n0_ := zA (Kd.R_lower ho0 (below_size (zHB))); have n1_ := zA (below_step (zHB) hb); clear HB; have HO103 := n0_; have HB := n1_; clear n0_ n1_; (try clear hb); (try clear hb2); (try clear hk); (try clear hi); (try clear ho0); obtain ⟨Ao10, co10, eo10⟩ := Kd.R_slice HO103.out; subst eo10) | ((with_reducible refine gate_callee (f := 41) rfl ?_); refine goesL_ (some 31) rfl rfl Try.func41 (by kernel_rfl) rfl #[.slice Ao10 t101.length co10] rfl y8  ?_; (with_reducible refine (impl_AclLean.calls kj2 _ _ t101 t104 _ ?side1 ?side2 A7.out).mono ?_); (case side1 => repeat (first | exact (Kd.R_reads' HO103.out).2.2 | (with_reducible refine Kd.C_alloc ?_ _) | (with_reducible refine Kd.C_drewN ?_ _) | (with_reducible refine Kd.C_drew ?_))); (case side2 => exact (Kd.R_reads' HO103.out).2.1); rintro e w11 ⟨v105, rfl, ho0, hb⟩; refine ⟨_, rfl, ?_⟩; have n0_ := zA (Kd.R_elder' (zr HO103.out) (Kd.R_base ho0) hb); have n1_ := zA (Kd.R_lower (Kd.R_new' ho0 (Kd.R_lt (zr HO103.out))) (below_size (zHB))); have n2_ := zA (below_step (zHB) hb); clear HO103; clear HB; have HO103 := n0_; have HO106 := n1_; have HB := n2_; clear n0_ n1_ n2_; (try clear hb); (try clear hb2); (try clear hk); (try clear hi); (try clear ho0)))
  (try simp only [Act.put, List.setIfInBounds_toArray, List.set_cons_zero, List.set_cons_succ])
  go_cut [43] (fun v43 wc => ∃ (kq : Nat) (x43_7 : Bool), v43 = .bool x43_7 ∧ Aside0 (laws_FnAclLean.j1 kq l1 t101 t104 x43_7 = some r) ∧ Aside0 (kq ≤ kj2) ∧ Aside0 (Kd.R k54 54 wc w.heap.size (fun k_ => some k_ ≠ (v105 : Value).ownBlock) (.slice Ao10 t101.length co10) t101) ∧ Aside0 (Kd.R k54 54 wc w.heap.size (fun k_ => some k_ ≠ ((.slice Ao10 t101.length co10) : Value).ownBlock) v105 t104) ∧ Aside0 (Below w.heap.size w wc))
  case first =>
   have H := HC8.out
   clear HC8
   replace H := Option.bind_eq_some_iff.mp H
   obtain ⟨t107, A120, H⟩ := H
   replace H : ((laws_waRules.f kj2 t104 t107).bind fun t110 => (if t110 = true then ((impl_AclOk.f t101).bind fun t111 => ((spec_AclOk.f kj2 t101).bind fun t112 => (laws_FnAclLean.j1 kj2 l1 t101 t104 (t111 != t112)))) else (laws_FnAclLean.j1 kj2 l1 t101 t104 true))) = some r := H
   have A12 := zA A120
   clear A120
   replace H := Option.bind_eq_some_iff.mp H
   obtain ⟨t110, A130, H⟩ := H
   replace H : (if t110 = true then ((impl_AclOk.f t101).bind fun t111 => ((spec_AclOk.f kj2 t101).bind fun t112 => (laws_FnAclLean.j1 kj2 l1 t101 t104 (t111 != t112)))) else (laws_FnAclLean.j1 kj2 l1 t101 t104 true)) = some r := H
   have A13 := zA A130
   clear A130
   by_cases c14 : t110 = true
   ·subst c14
    have H1 : ((impl_AclOk.f t101).bind fun t111 => ((spec_AclOk.f kj2 t101).bind fun t112 => (laws_FnAclLean.j1 kj2 l1 t101 t104 (t111 != t112)))) = some r := by rw [if_pos rfl] at H; exact H
    clear H
    have H := H1
    clear H1
    replace H := Option.bind_eq_some_iff.mp H
    obtain ⟨t111, A150, H⟩ := H
    replace H : ((spec_AclOk.f kj2 t101).bind fun t112 => (laws_FnAclLean.j1 kj2 l1 t101 t104 (t111 != t112))) = some r := H
    have A15 := zA A150
    clear A150
    replace H := Option.bind_eq_some_iff.mp H
    obtain ⟨t112, A160, H⟩ := H
    replace H : (laws_FnAclLean.j1 kj2 l1 t101 t104 (t111 != t112)) = some r := H
    have A16 := zA A160
    clear A160
    have H' := zA H
    clear H
    go_wp2_with (first | ((with_reducible refine gate_callee (f := 43) rfl ?_); refine goesL_ (some 34) rfl rfl Try.func43 (by kernel_rfl) rfl #[.slice Ao10 t101.length co10] rfl y8  ?_; (with_reducible refine (spec_AclLean.calls kj2 _ _ t101 t107 _ ?side1 ?side2 A12.out).mono ?_); (case side1 => repeat (first | exact (Kd.R_reads' HO103.out).2.2 | (with_reducible refine Kd.C_alloc ?_ _) | (with_reducible refine Kd.C_drewN ?_ _) | (with_reducible refine Kd.C_drew ?_))); (case side2 => exact (Kd.R_reads' HO103.out).2.1); rintro e w17 ⟨v108, rfl, ho0, hb⟩; refine ⟨_, rfl, ?_⟩; have n0_ := zA (Kd.R_elder' (zr HO103.out) (Kd.R_base ho0) hb); have n1_ := zA (Kd.R_elder' (zr HO106.out) (Kd.R_base ho0) hb); have n2_ := zA (Kd.R_lower (Kd.R_new' (Kd.R_new' ho0 (Kd.R_lt (zr HO103.out))) (Kd.R_lt (zr HO106.out))) (below_size (zHB))); have n3_ := zA (below_step (zHB) hb); clear HO103; clear HO106; clear HB; have HO103 := n0_; have HO106 := n1_; have HO109 := n2_; have HB := n3_; clear n0_ n1_ n2_ n3_; (try clear hb); (try clear hb2); (try clear hk); (try clear hi); (try clear ho0); obtain ⟨Ao18, co18, eo18⟩ := Kd.R_slice HO106.out; subst eo18; obtain ⟨Ao19, co19, eo19⟩ := Kd.R_slice HO109.out; subst eo19) | ((with_reducible refine gate_callee (f := 42) rfl ?_); refine goesL_ (some 35) rfl rfl Try.func42 (by kernel_rfl) rfl #[.slice Ao18 t104.length co18, .slice Ao19 t107.length co19] rfl y8  ?_; (with_reducible refine (laws_waRules.calls kj2 _ _ t104 _ _ t107 true _ ?side1 ?side2 ?side3 ?side4 A13.out).mono ?_); (case side1 => repeat (first | exact (Kd.R_reads' HO106.out).2.2 | (with_reducible refine Kd.C_alloc ?_ _) | (with_reducible refine Kd.C_drewN ?_ _) | (with_reducible refine Kd.C_drew ?_))); (case side2 => exact (Kd.R_reads' HO106.out).2.1); (case side3 => repeat (first | exact (Kd.R_reads' HO109.out).2.2 | (with_reducible refine Kd.C_alloc ?_ _) | (with_reducible refine Kd.C_drewN ?_ _) | (with_reducible refine Kd.C_drew ?_))); (case side4 => exact (Kd.R_reads' HO109.out).2.1); rintro e w' ⟨rfl, ⟨nd, rfl⟩⟩; refine ⟨_, rfl, ?_⟩) | (go_at_call 44; (with_reducible refine (impl_AclOk.calls _ _ t101 t111 _ ?side1 ?side2 A15.out).mono ?_); (case side1 => repeat (first | exact (Kd.R_reads' HO103.out).2.2 | (with_reducible refine Kd.C_alloc ?_ _) | (with_reducible refine Kd.C_drewN ?_ _) | (with_reducible refine Kd.C_drew ?_))); (case side2 => exact (Kd.R_reads' HO103.out).2.1); rintro e w20 ⟨rfl, hb⟩; have n0_ := zA (Kd.R_below (zr HO103.out) hb); have n1_ := zA (Kd.R_below (zr HO106.out) hb); have n2_ := zA (Kd.R_below (zr HO109.out) hb); have n3_ := zA (below_step (zHB) hb); clear HO103; clear HO106; clear HO109; clear HB; have HO103 := n0_; have HO106 := n1_; have HO109 := n2_; have HB := n3_; clear n0_ n1_ n2_ n3_; (try clear hb); (try clear hb2); (try clear hk); (try clear hi)) | (go_at_call 32; (with_reducible refine (spec_AclOk.calls kj2 _ _ t101 t112 _ ?side1 ?side2 A16.out).mono ?_); (case side1 => repeat (first | exact (Kd.R_reads' HO103.out).2.2 | (with_reducible refine Kd.C_alloc ?_ _) | (with_reducible refine Kd.C_drewN ?_ _) | (with_reducible refine Kd.C_drew ?_))); (case side2 => exact (Kd.R_reads' HO103.out).2.1); rintro e w21 ⟨rfl, hb⟩; have n0_ := zA (Kd.R_below (zr HO103.out) hb); have n1_ := zA (Kd.R_below (zr HO106.out) hb); have n2_ := zA (Kd.R_below (zr HO109.out) hb); have n3_ := zA (below_step (zHB) hb); clear HO103; clear HO106; clear HO109; clear HB; have HO103 := n0_; have HO106 := n1_; have HO109 := n2_; have HB := n3_; clear n0_ n1_ n2_ n3_; (try clear hb); (try clear hb2); (try clear hk); (try clear hi)))
    go_meet
    case rel => exact ⟨_, ((t111 != t112)), y11 , H', ⟨by have := HJ2.out; first | omega | exact Nat.le_refl _⟩, ⟨by refine zk ?_; exact Kd.R_mono HO103.out (fun _ hk => hk.1.2)⟩, ⟨by refine zk ?_; exact Kd.R_mono HO106.out (fun _ hk => hk.1.2)⟩, ⟨zHB⟩⟩
   replace c14 := Bool.eq_false_iff.mpr c14
   subst c14
   have H1 : (laws_FnAclLean.j1 kj2 l1 t101 t104 true) = some r := by rw [if_neg (show ¬ (false = true) by decide)] at H; exact H
   clear H
   have H := H1
   clear H1
   have H' := zA H
   clear H
   go_wp2_with (first | ((with_reducible refine gate_callee (f := 43) rfl ?_); refine goesL_ (some 34) rfl rfl Try.func43 (by kernel_rfl) rfl #[.slice Ao10 t101.length co10] rfl y8  ?_; (with_reducible refine (spec_AclLean.calls kj2 _ _ t101 t107 _ ?side1 ?side2 A12.out).mono ?_); (case side1 => repeat (first | exact (Kd.R_reads' HO103.out).2.2 | (with_reducible refine Kd.C_alloc ?_ _) | (with_reducible refine Kd.C_drewN ?_ _) | (with_reducible refine Kd.C_drew ?_))); (case side2 => exact (Kd.R_reads' HO103.out).2.1); rintro e w22 ⟨v108, rfl, ho0, hb⟩; refine ⟨_, rfl, ?_⟩; have n0_ := zA (Kd.R_elder' (zr HO103.out) (Kd.R_base ho0) hb); have n1_ := zA (Kd.R_elder' (zr HO106.out) (Kd.R_base ho0) hb); have n2_ := zA (Kd.R_lower (Kd.R_new' (Kd.R_new' ho0 (Kd.R_lt (zr HO103.out))) (Kd.R_lt (zr HO106.out))) (below_size (zHB))); have n3_ := zA (below_step (zHB) hb); clear HO103; clear HO106; clear HB; have HO103 := n0_; have HO106 := n1_; have HO109 := n2_; have HB := n3_; clear n0_ n1_ n2_ n3_; (try clear hb); (try clear hb2); (try clear hk); (try clear hi); (try clear ho0); obtain ⟨Ao23, co23, eo23⟩ := Kd.R_slice HO106.out; subst eo23; obtain ⟨Ao24, co24, eo24⟩ := Kd.R_slice HO109.out; subst eo24) | ((with_reducible refine gate_callee (f := 42) rfl ?_); refine goesL_ (some 35) rfl rfl Try.func42 (by kernel_rfl) rfl #[.slice Ao23 t104.length co23, .slice Ao24 t107.length co24] rfl y8  ?_; (with_reducible refine (laws_waRules.calls kj2 _ _ t104 _ _ t107 false _ ?side1 ?side2 ?side3 ?side4 A13.out).mono ?_); (case side1 => repeat (first | exact (Kd.R_reads' HO106.out).2.2 | (with_reducible refine Kd.C_alloc ?_ _) | (with_reducible refine Kd.C_drewN ?_ _) | (with_reducible refine Kd.C_drew ?_))); (case side2 => exact (Kd.R_reads' HO106.out).2.1); (case side3 => repeat (first | exact (Kd.R_reads' HO109.out).2.2 | (with_reducible refine Kd.C_alloc ?_ _) | (with_reducible refine Kd.C_drewN ?_ _) | (with_reducible refine Kd.C_drew ?_))); (case side4 => exact (Kd.R_reads' HO109.out).2.1); rintro e w' ⟨rfl, ⟨nd, rfl⟩⟩; refine ⟨_, rfl, ?_⟩))
   go_meet
   case rel => exact ⟨_, (true), y11 , H', ⟨by have := HJ2.out; first | omega | exact Nat.le_refl _⟩, ⟨by refine zk ?_; exact Kd.R_mono HO103.out (fun _ hk => hk.1.2)⟩, ⟨by refine zk ?_; exact Kd.R_mono HO106.out (fun _ hk => hk.1.2)⟩, ⟨zHB⟩⟩
  case rest =>
   clear HC8
   try clear c1
   try clear p2
   try clear c4
   try clear c4b0
   try clear c4b1
   try clear c5
   try clear c9
   try clear c14
   try clear p2
   obtain ⟨kq, x43_7, rfl, HA, HJ7, HO_5, HO_6, HB⟩ := hcut
   cases kq with
   | zero => exact absurd HA.out (by simp [laws_FnAclLean.j1])
   | succ kj7 => ?_
   have H := HA.out
   clear HA
   simp only [laws_FnAclLean.j1] at H
   by_cases c25 : x43_7 = true
   ·subst c25
    have H1 : (some false) = some r := by rw [if_pos rfl] at H; exact H
    clear H
    have H := H1
    clear H1
    obtain rfl := Option.some.inj H
    go_wp2
    go_ret
    exact ⟨by first | rfl | (simp [errW_none, errW_some] <;> rfl) | (simp [*, errW_none, errW_some] <;> rfl), zHB⟩
   replace c25 := Bool.eq_false_iff.mpr c25
   subst c25
   have H1 : ((spec_AclOk.f kj7 t101).bind fun t113 => (if t113 = true then ((impl_AclDiffer.f t101 t104).bind fun bt114 => (if bt114.2.2.2 = true then (laws_FnAclLean.j2 kj7 l1 t101 t104 true) else ((impl_AclLean.f kj7 t104).bind fun t119 => ((laws_waRules.f kj7 t119 t104).bind fun t122 => (laws_FnAclLean.j2 kj7 l1 t101 t104 (!t122)))))) else (some ((t104.length : Int) == 0)))) = some r := by rw [if_neg (show ¬ (false = true) by decide)] at H; exact H
   clear H
   have H := H1
   clear H1
   replace H := Option.bind_eq_some_iff.mp H
   obtain ⟨t113, A260, H⟩ := H
   replace H : (if t113 = true then ((impl_AclDiffer.f t101 t104).bind fun bt114 => (if bt114.2.2.2 = true then (laws_FnAclLean.j2 kj7 l1 t101 t104 true) else ((impl_AclLean.f kj7 t104).bind fun t119 => ((laws_waRules.f kj7 t119 t104).bind fun t122 => (laws_FnAclLean.j2 kj7 l1 t101 t104 (!t122)))))) else (some ((t104.length : Int) == 0))) = some r := H
   have A26 := zA A260
   clear A260
   by_cases c27 : t113 = true
   ·subst c27
    have H1 : ((impl_AclDiffer.f t101 t104).bind fun bt114 => (if bt114.2.2.2 = true then (laws_FnAclLean.j2 kj7 l1 t101 t104 true) else ((impl_AclLean.f kj7 t104).bind fun t119 => ((laws_waRules.f kj7 t119 t104).bind fun t122 => (laws_FnAclLean.j2 kj7 l1 t101 t104 (!t122)))))) = some r := by rw [if_pos rfl] at H; exact H
    clear H
    have H := H1
    clear H1
    replace H := Option.bind_eq_some_iff.mp H
    obtain ⟨⟨t114, t115, t116, t117⟩, A280, H⟩ := H
    replace H : (if t117 = true then (laws_FnAclLean.j2 kj7 l1 t101 t104 true) else ((impl_AclLean.f kj7 t104).bind fun t119 => ((laws_waRules.f kj7 t119 t104).bind fun t122 => (laws_FnAclLean.j2 kj7 l1 t101 t104 (!t122))))) = some r := H
    have A28 := zA A280
    clear A280
    have HC29 := zA H
    clear H
    go_upto_region 10 with (first | ((with_reducible refine gate_callee (f := 32) rfl ?_); refine goesL_ (some 45) rfl rfl Try.func32 (by kernel_rfl) rfl #[.slice Ao10 t101.length co10] rfl y8  ?_; (with_reducible refine (spec_AclOk.calls kj7 _ _ t101 true _ ?side1 ?side2 A26.out).mono ?_); (case side1 => repeat (first | exact (Kd.R_reads' HO_5.out).2.2 | (with_reducible refine Kd.C_alloc ?_ _) | (with_reducible refine Kd.C_drewN ?_ _) | (with_reducible refine Kd.C_drew ?_))); (case side2 => exact (Kd.R_reads' HO_5.out).2.1); rintro e w30 ⟨rfl, hb⟩; refine ⟨_, rfl, ?_⟩; have n0_ := zA (Kd.R_below (zr HO_5.out) hb); have n1_ := zA (Kd.R_below (zr HO_6.out) hb); have n2_ := zA (below_step (zHB) hb); clear HO_5; clear HO_6; clear HB; have HO_5 := n0_; have HO_6 := n1_; have HB := n2_; clear n0_ n1_ n2_; (try clear hb); (try clear hb2); (try clear hk); (try clear hi); obtain ⟨Ao31, co31, eo31⟩ := Kd.R_slice HO_6.out; subst eo31) | ((with_reducible refine gate_callee (f := 28) rfl ?_); refine goesL_ (some 53) rfl rfl Try.func28 (by kernel_rfl) rfl #[.slice Ao10 t101.length co10, .slice Ao31 t104.length co31] rfl y8  ?_; (with_reducible refine (impl_AclDiffer.calls _ _ t101 _ _ t104 t114 t115 t116 t117 _ ?side1 ?side2 ?side3 ?side4 A28.out).mono ?_); (case side1 => repeat (first | exact (Kd.R_reads' HO_5.out).2.2 | (with_reducible refine Kd.C_alloc ?_ _) | (with_reducible refine Kd.C_drewN ?_ _) | (with_reducible refine Kd.C_drew ?_))); (case side2 => exact (Kd.R_reads' HO_5.out).2.1); (case side3 => repeat (first | exact (Kd.R_reads' HO_6.out).2.2 | (with_reducible refine Kd.C_alloc ?_ _) | (with_reducible refine Kd.C_drewN ?_ _) | (with_reducible refine Kd.C_drew ?_))); (case side4 => exact (Kd.R_reads' HO_6.out).2.1); rintro e w32 ⟨rfl, hb⟩; refine ⟨_, rfl, ?_⟩; have n0_ := zA (Kd.R_below (zr HO_5.out) hb); have n1_ := zA (Kd.R_below (zr HO_6.out) hb); have n2_ := zA (below_step (zHB) hb); clear HO_5; clear HO_6; clear HB; have HO_5 := n0_; have HO_6 := n1_; have HB := n2_; clear n0_ n1_ n2_; (try clear hb); (try clear hb2); (try clear hk); (try clear hi)) | ((with_reducible refine gate_dst (N := 7) rfl ?_); (try (refine gate_guard (by rfl) ?_; dsimp only)); refine box_event ?hg (N := 7) ?hd (cs := #[.int .i64 0, .int .i64 0, .int .i64 0]) (t := 34) ?hr ?_; (case hd => rfl); (case hg => rfl); (case hr => first | (go_simp; done) | (go_simp; rfl)); intro gb118 hg w33 hbox hb; have n0_ := zA (Kd.R_below (zr HO_5.out) hb); have n1_ := zA (Kd.R_below (zr HO_6.out) hb); have n2_ := zA (below_step (zHB) hb); have n3_ := zA (hbox); have n4_ := zA ((by rw [hg]; exact (below_size (zHB)) : w.heap.size ≤ gb118)); have n5_ := zA ((by rw [hg]; exact (below_size (zHB)) : w.heap.size ≤ gb118)); clear HO_5; clear HO_6; clear HB; have HO_5 := n0_; have HO_6 := n1_; have HB := n2_; have BK118 := n3_; have GW118 := n4_; have GE118 := n5_; clear n0_ n1_ n2_ n3_ n4_ n5_; clear hb hbox hg; have hcz34_0 : w33.cell? ⟨gb118, 0, none⟩ = some (.int .i64 0) := (blk_cell BK118.out 0).trans rfl; have hcz34_1 : w33.cell? ⟨gb118, 1, none⟩ = some (.int .i64 0) := (blk_cell BK118.out 1).trans rfl; have hcz34_2 : w33.cell? ⟨gb118, 2, none⟩ = some (.int .i64 0) := (blk_cell BK118.out 2).trans rfl; have hfz34_0 := blk_frozen BK118.out 0; have hfz34_1 := blk_frozen BK118.out 1; have hfz34_2 := blk_frozen BK118.out 2))
    (try simp only [Act.put, List.setIfInBounds_toArray, List.set_cons_zero, List.set_cons_succ])
    go_cut [63] (fun v63 wc => ∃ (kq : Nat) (x63_28 : Bool), v63 = .bool x63_28 ∧ Aside0 (laws_FnAclLean.j2 kq l1 t101 t104 x63_28 = some r) ∧ Aside0 (kq ≤ kj7) ∧ Aside0 (Kd.R k54 54 wc w.heap.size (fun k_ => some k_ ≠ ((.slice Ao31 t104.length co31) : Value).ownBlock) (.slice Ao10 t101.length co10) t101) ∧ Aside0 (Kd.R k54 54 wc w.heap.size (fun k_ => some k_ ≠ ((.slice Ao10 t101.length co10) : Value).ownBlock) (.slice Ao31 t104.length co31) t104) ∧ Aside0 (wc.heap[gb118]? = some (.cells #[.int .i64 t114, .int .i64 t115, .int .i64 t116] 34 (0, 0))) ∧ Aside0 (Below w.heap.size w wc))
    case first =>
     have H := HC29.out
     clear HC29
     by_cases c35 : t117 = true
     ·subst c35
      have H1 : (laws_FnAclLean.j2 kj7 l1 t101 t104 true) = some r := by rw [if_pos rfl] at H; exact H
      clear H
      have H := H1
      clear H1
      have H' := zA H
      clear H
      go_wp2
      go_meet
      case rel => exact ⟨_, (true), y11 , H', ⟨by have := HJ2.out; have := HJ7.out; first | omega | exact Nat.le_refl _⟩, ⟨by refine zk ?_; exact Kd.R_mono (Kd.R_far (p := ⟨gb118, 2, none⟩) (Kd.R_far (p := ⟨gb118, 1, none⟩) (Kd.R_far (p := ⟨gb118, 0, none⟩) (Kd.R_types HO_5.out BK118.out (by decide)) (fun _ hk => hk.2) (.int .i64 t114)) (fun _ hk => hk.2) (.int .i64 t115)) (fun _ hk => hk.2) (.int .i64 t116)) (fun _ hk => hk.1)⟩, ⟨by refine zk ?_; exact Kd.R_mono (Kd.R_far (p := ⟨gb118, 2, none⟩) (Kd.R_far (p := ⟨gb118, 1, none⟩) (Kd.R_far (p := ⟨gb118, 0, none⟩) (Kd.R_types HO_6.out BK118.out (by decide)) (fun _ hk => hk.2) (.int .i64 t114)) (fun _ hk => hk.2) (.int .i64 t115)) (fun _ hk => hk.2) (.int .i64 t116)) (fun _ hk => hk.1)⟩, ⟨by refine zq ?_; refine blk_put (cs := #[.int .i64 t114, .int .i64 t115, .int .i64 0]) ?_ 2 _ rfl; refine zq ?_; refine blk_put (cs := #[.int .i64 t114, .int .i64 0, .int .i64 0]) ?_ 1 _ rfl; refine zq ?_; refine blk_put (cs := #[.int .i64 0, .int .i64 0, .int .i64 0]) ?_ 0 _ rfl; refine zq ?_; exact BK118.out⟩, ⟨zHB⟩⟩
     replace c35 := Bool.eq_false_iff.mpr c35
     subst c35
     have H1 : ((impl_AclLean.f kj7 t104).bind fun t119 => ((laws_waRules.f kj7 t119 t104).bind fun t122 => (laws_FnAclLean.j2 kj7 l1 t101 t104 (!t122)))) = some r := by rw [if_neg (show ¬ (false = true) by decide)] at H; exact H
     clear H
     have H := H1
     clear H1
     replace H := Option.bind_eq_some_iff.mp H
     obtain ⟨t119, A360, H⟩ := H
     replace H : ((laws_waRules.f kj7 t119 t104).bind fun t122 => (laws_FnAclLean.j2 kj7 l1 t101 t104 (!t122))) = some r := H
     have A36 := zA A360
     clear A360
     replace H := Option.bind_eq_some_iff.mp H
     obtain ⟨t122, A370, H⟩ := H
     replace H : (laws_FnAclLean.j2 kj7 l1 t101 t104 (!t122)) = some r := H
     have A37 := zA A370
     clear A370
     have H' := zA H
     clear H
     go_wp2_with (first | (go_at_call 41; (with_reducible refine (impl_AclLean.calls kj7 _ _ t104 t119 _ ?side1 ?side2 A36.out).mono ?_); (case side1 => refine (Kd.R_reads' (e := 54) (base := w.heap.size) (ok := fun k_ => some k_ ≠ (.slice Ao10 t101.length co10 : Value).ownBlock) (n := t104.length) (c := co31) ?_).2.2; exact y2 ); (case side2 => exact (Kd.R_reads' HO_6.out).2.1); rintro e w38 ⟨v120, rfl, ho0, hb⟩; have n0_ := zA (Kd.R_elder' (by refine zk ?_; exact (Kd.R_mono (Kd.R_far (p := ⟨gb118, 2, none⟩) (Kd.R_far (p := ⟨gb118, 1, none⟩) (Kd.R_far (p := ⟨gb118, 0, none⟩) (Kd.R_types HO_5.out BK118.out (by decide)) (fun _ hk => hk.2) (.int .i64 t114)) (fun _ hk => hk.2) (.int .i64 t115)) (fun _ hk => hk.2) (.int .i64 t116)) (fun _ h_ => h_.1))) (Kd.R_base ho0) hb); have n1_ := zA (Kd.R_elder' y2  (Kd.R_base ho0) hb); have n2_ := zA (Kd.R_lower (Kd.R_new' (Kd.R_new' ho0 (Kd.R_lt (by refine zk ?_; exact (Kd.R_mono (Kd.R_far (p := ⟨gb118, 2, none⟩) (Kd.R_far (p := ⟨gb118, 1, none⟩) (Kd.R_far (p := ⟨gb118, 0, none⟩) (Kd.R_types HO_5.out BK118.out (by decide)) (fun _ hk => hk.2) (.int .i64 t114)) (fun _ hk => hk.2) (.int .i64 t115)) (fun _ hk => hk.2) (.int .i64 t116)) (fun _ h_ => h_.1))))) (Kd.R_lt y2 )) (below_size (zHB))); have n3_ := zA (blk_below (g := gb118) (o := .cells #[.int .i64 t114, .int .i64 t115, .int .i64 t116] 34 (0, 0)) (by refine zq ?_; refine blk_put (cs := #[.int .i64 t114, .int .i64 t115, .int .i64 0]) ?_ 2 _ rfl; refine zq ?_; refine blk_put (cs := #[.int .i64 t114, .int .i64 0, .int .i64 0]) ?_ 1 _ rfl; refine zq ?_; refine blk_put (cs := #[.int .i64 0, .int .i64 0, .int .i64 0]) ?_ 0 _ rfl; refine zq ?_; exact BK118.out) hb); have n4_ := zA (below_step (zHB) hb); clear HO_5; clear HO_6; clear BK118; clear HB; have HO_5 := n0_; have HO_6 := n1_; have HO121 := n2_; have BK118 := n3_; have HB := n4_; clear n0_ n1_ n2_ n3_ n4_; (try clear hb); (try clear hb2); (try clear hk); (try clear hi); (try clear ho0); obtain ⟨Ao39, co39, eo39⟩ := Kd.R_slice HO121.out; subst eo39) | (go_at_call 42; (with_reducible refine (laws_waRules.calls kj7 _ _ t119 _ _ t104 t122 _ ?side1 ?side2 ?side3 ?side4 A37.out).mono ?_); (case side1 => repeat (first | exact (Kd.R_reads' HO121.out).2.2 | (with_reducible refine Kd.C_alloc ?_ _) | (with_reducible refine Kd.C_drewN ?_ _) | (with_reducible refine Kd.C_drew ?_))); (case side2 => exact (Kd.R_reads' HO121.out).2.1); (case side3 => repeat (first | exact (Kd.R_reads' HO_6.out).2.2 | (with_reducible refine Kd.C_alloc ?_ _) | (with_reducible refine Kd.C_drewN ?_ _) | (with_reducible refine Kd.C_drew ?_))); (case side4 => exact (Kd.R_reads' HO_6.out).2.1); rintro e w' ⟨rfl, ⟨nd, rfl⟩⟩))
     go_meet
     case rel => exact ⟨_, (!t122), y11 , H', ⟨by have := HJ2.out; have := HJ7.out; first | omega | exact Nat.le_refl _⟩, ⟨by refine zk ?_; exact Kd.R_mono HO_5.out (fun _ hk => hk.1)⟩, ⟨by refine zk ?_; exact Kd.R_mono HO_6.out (fun _ hk => hk.1)⟩, ⟨by refine zq ?_; exact BK118.out⟩, ⟨zHB⟩⟩
    case rest =>
     clear HC29
     try clear c1
     try clear c2
     try clear p2
     try clear c3
     try clear c4
     try clear c4b0
     try clear c4b1
     try clear c5
     try clear c9
     try clear c14
     try clear c25
     try clear c27
     try clear c28
     try clear c32
     try clear c35
     try clear hcz34_0
     try clear hcz34_1
     try clear hcz34_2
     try clear hfz34_0
     try clear hfz34_1
     try clear hfz34_2
     try clear p2
     obtain ⟨kq, x63_28, rfl, HA, HJ28, HO_5, HO_6, BK118, HB⟩ := hcut
     cases kq with
     | zero => exact absurd HA.out (by simp [laws_FnAclLean.j2])
     | succ kj28 => ?_
     have H := HA.out
     clear HA
     simp only [laws_FnAclLean.j2] at H
     by_cases c40 : x63_28 = true
     ·subst c40
      have H1 : (some false) = some r := by rw [if_pos rfl] at H; exact H
      clear H
      have H := H1
      clear H1
      obtain rfl := Option.some.inj H
      go_wp2
      go_ret
      exact ⟨by first | rfl | (simp [errW_none, errW_some] <;> rfl) | (simp [*, errW_none, errW_some] <;> rfl), zHB⟩
     replace c40 := Bool.eq_false_iff.mpr c40
     subst c40
     have H1 : (laws_FnAclLean.l0 kj28 l1 t101 t104 0) = some r := by rw [if_neg (show ¬ (false = true) by decide)] at H; exact H
     clear H
     have H := H1
     clear H1
     have H' := zA H
     clear H
     go_wp2
     go_loopg [9] kj28 (fun kq v9 w' => ∃ (x9_4 : Int), v9 = .int .i64 x9_4 ∧ Aside0 (laws_FnAclLean.l0 kq l1 t101 t104 x9_4 = some r) ∧ Aside0 (kq ≤ kj28) ∧ Aside0 (Kd.R k54 54 w' w.heap.size (fun k_ => some k_ ≠ ((.slice Ao31 t104.length co31) : Value).ownBlock) (.slice Ao10 t101.length co10) t101) ∧ Aside0 (Kd.R k54 54 w' w.heap.size (fun k_ => some k_ ≠ ((.slice Ao10 t101.length co10) : Value).ownBlock) (.slice Ao31 t104.length co31) t104) ∧ Aside0 (w'.heap[gb118]? = some (.cells #[.int .i64 t114, .int .i64 t115, .int .i64 t116] 34 (0, 0))) ∧ Aside0 (Below w.heap.size w w'))
     case atStart => exact ⟨(0), y11 , H', ⟨Nat.le_refl _⟩, ⟨by refine zk ?_; exact HO_5.out⟩, ⟨by refine zk ?_; exact HO_6.out⟩, ⟨by refine zq ?_; exact BK118.out⟩, ⟨zHB⟩⟩
     case round =>
      clear H'
      try clear c1
      try clear c2
      try clear p2
      try clear c3
      try clear c4
      try clear c4b0
      try clear c4b1
      try clear c5
      try clear c9
      try clear c14
      try clear c25
      try clear c27
      try clear c28
      try clear c32
      try clear c35
      try clear c40
      try clear hcz34_0
      try clear hcz34_1
      try clear hcz34_2
      try clear hfz34_0
      try clear hfz34_1
      try clear hfz34_2
      try clear p2
      obtain ⟨x9_4, rfl, HA, HK4, HO_5, HO_6, BK118, HB⟩ := hrel
      cases gk with
      | zero => exact absurd HA.out (by simp [laws_FnAclLean.l0])
      | succ k4 => ?_
      have H := HA.out
      clear HA
      simp only [laws_FnAclLean.l0] at H
      by_cases c41 : x9_4 < (t104.length : Int)
      ·rw [if_pos c41] at H
       have c41b0 : decide (x9_4 < (t104.length : Int)) = true := decide_eq_true c41
       clear c41
       replace H := Option.bind_eq_some_iff.mp H
       obtain ⟨⟨t134, t135, t136, t137⟩, A420, H⟩ := H
       replace H : ((impl_AclSays.f k4 t104 t134 t135 t136).bind fun bt139 => (if t137 = true then (if bt139.1 = x9_4 then (if 0 ≤ x9_4 then (if (bt139.2 != ((rd_T54 t104 x9_4).f0)) = true then (some false) else (laws_FnAclLean.l0 k4 l1 t101 t104 (wrap64 (x9_4 + 1)))) else (none)) else (some false)) else (some false))) = some r := H
       have A42 := zA A420
       clear A420
       replace H := Option.bind_eq_some_iff.mp H
       obtain ⟨⟨t139, t140⟩, A430, H⟩ := H
       replace H : (if t137 = true then (if t139 = x9_4 then (if 0 ≤ x9_4 then (if (t140 != ((rd_T54 t104 x9_4).f0)) = true then (some false) else (laws_FnAclLean.l0 k4 l1 t101 t104 (wrap64 (x9_4 + 1)))) else (none)) else (some false)) else (some false)) = some r := H
       have A43 := zA A430
       clear A430
       by_cases c44 : t137 = true
       ·subst c44
        have H1 : (if t139 = x9_4 then (if 0 ≤ x9_4 then (if (t140 != ((rd_T54 t104 x9_4).f0)) = true then (some false) else (laws_FnAclLean.l0 k4 l1 t101 t104 (wrap64 (x9_4 + 1)))) else (none)) else (some false)) = some r := by rw [if_pos rfl] at H; exact H
        clear H
        have H := H1
        clear H1
        by_cases c45 : t139 = x9_4
        ·rw [if_pos c45] at H
         have c45b0 : (t139 == x9_4) = true := beq_iff_eq.mpr c45
         have c45b1 : (t139 != x9_4) = false := bne_eq_false_iff_eq.mpr c45
         clear c45
         by_cases c46 : 0 ≤ x9_4
         ·rw [if_pos c46] at H
          have c46b0 : decide (0 ≤ x9_4) = true := decide_eq_true c46
          clear c46
          by_cases c47 : (t140 != ((rd_T54 t104 x9_4).f0)) = true
          ·rw [if_pos c47] at H
           have c47b0 : (t140 != ((rd_T54 t104 x9_4).f0)) = true := c47
           (try (have c47b1 : decide (t140 = ((rd_T54 t104 x9_4).f0)) = false := by simpa using c47))
           (try (have c47b2 : (t140 == ((rd_T54 t104 x9_4).f0)) = false := by simpa using c47))
           (try (have c47b3 : ¬ (t140 = ((rd_T54 t104 x9_4).f0)) := by simpa using c47))
           clear c47
           obtain rfl := Option.some.inj H
           go_wp2_with (first | ((with_reducible refine gate_callee (f := 45) rfl ?_); refine goesL_ (some 73) rfl rfl Try.func45 (by kernel_rfl) rfl #[.slice Ao31 t104.length co31, .int .i64 x9_4] rfl y8  ?_; (with_reducible refine (impl_AclWitness.calls _ _ t104 x9_4 t134 t135 t136 true _ ?side1 ?side2 A42.out).mono ?_); (case side1 => repeat (first | exact (Kd.R_reads' HO_6.out).2.2 | (with_reducible refine Kd.C_alloc ?_ _) | (with_reducible refine Kd.C_drewN ?_ _) | (with_reducible refine Kd.C_drew ?_))); (case side2 => exact (Kd.R_reads' HO_6.out).2.1); rintro e w48 ⟨rfl, hb⟩; refine ⟨_, rfl, ?_⟩; have n0_ := zA (Kd.R_below (zr HO_5.out) hb); have n1_ := zA (Kd.R_below (zr HO_6.out) hb); have n2_ := zA (blk_below (g := gb118) (o := .cells #[.int .i64 t114, .int .i64 t115, .int .i64 t116] 34 (0, 0)) (zb BK118.out) hb); have n3_ := zA (below_step (zHB) hb); clear HO_5; clear HO_6; clear BK118; clear HB; have HO_5 := n0_; have HO_6 := n1_; have BK118 := n2_; have HB := n3_; clear n0_ n1_ n2_ n3_; (try clear hb); (try clear hb2); (try clear hk); (try clear hi)) | ((with_reducible refine gate_dst (N := 10) rfl ?_); (try (refine gate_guard (by rfl) ?_; dsimp only)); refine box_event ?hg (N := 10) ?hd (cs := #[.int .i64 0, .int .i64 0, .int .i64 0]) (t := 34) ?hr ?_; (case hd => rfl); (case hg => rfl); (case hr => first | (go_simp; done) | (go_simp; rfl)); intro gb138 hg w49 hbox hb; have n0_ := zA (Kd.R_below (zr HO_5.out) hb); have n1_ := zA (Kd.R_below (zr HO_6.out) hb); have n2_ := zA (blk_below (g := gb118) (o := .cells #[.int .i64 t114, .int .i64 t115, .int .i64 t116] 34 (0, 0)) (zb BK118.out) hb); have n3_ := zA (below_step (zHB) hb); have n4_ := zA (hbox); have n5_ := zA ((show w.heap.size ≤ gb138 from y9)); have n6_ := zA ((show w.heap.size ≤ gb138 from y9)); have n7_ := zA ((show gb118 ≠ gb138 from y6)); have n8_ := zA ((show gb138 ≠ gb118 from y7)); clear HO_5; clear HO_6; clear BK118; clear HB; have HO_5 := n0_; have HO_6 := n1_; have BK118 := n2_; have HB := n3_; have BK138 := n4_; have GW138 := n5_; have GE138 := n6_; have NB118_138 := n7_; have NB138_118 := n8_; clear n0_ n1_ n2_ n3_ n4_ n5_ n6_ n7_ n8_; clear hb hbox hg; have hnb50 := NB138_118.out; have hnc50 := NB118_138.out; have hcz51_0 : w49.cell? ⟨gb138, 0, none⟩ = some (.int .i64 0) := (blk_cell BK138.out 0).trans rfl; have hcz51_1 : w49.cell? ⟨gb138, 1, none⟩ = some (.int .i64 0) := (blk_cell BK138.out 1).trans rfl; have hcz51_2 : w49.cell? ⟨gb138, 2, none⟩ = some (.int .i64 0) := (blk_cell BK138.out 2).trans rfl; have hfz51_0 := blk_frozen BK138.out 0; have hfz51_1 := blk_frozen BK138.out 1; have hfz51_2 := blk_frozen BK138.out 2) | ((with_reducible refine gate_callee (f := 31) rfl ?_); refine goesL_ (some 79) rfl rfl Try.func31 (by kernel_rfl) rfl #[.slice Ao31 t104.length co31, .agg #[.int .i64 t134, .int .i64 t135, .int .i64 t136]] rfl y8  ?_; (with_reducible refine (impl_AclSays.calls k4 _ _ t104 t134 t135 t136 t139 t140 _ ?side1 ?side2 A43.out).mono ?_); (case side1 => refine (Kd.R_reads' (e := 54) (base := w.heap.size) (ok := fun k_ => some k_ ≠ (.slice Ao10 t101.length co10 : Value).ownBlock) (n := t104.length) (c := co31) ?_).2.2; exact y3 ); (case side2 => exact (Kd.R_reads' HO_6.out).2.1); rintro e w52 ⟨rfl, hb⟩; refine ⟨_, rfl, ?_⟩; have n0_ := zA (Kd.R_below y4  hb); have n1_ := zA (Kd.R_below y3  hb); have n2_ := zA (blk_below (g := gb118) (o := .cells #[.int .i64 t114, .int .i64 t115, .int .i64 t116] 34 (0, 0)) y5  hb); have n3_ := zA (blk_below (g := gb138) (o := .cells #[.int .i64 t134, .int .i64 t135, .int .i64 t136] 34 (0, 0)) y1  hb); have n4_ := zA (below_step (zHB) hb); clear HO_5; clear HO_6; clear BK118; clear BK138; clear HB; have HO_5 := n0_; have HO_6 := n1_; have BK118 := n2_; have BK138 := n3_; have HB := n4_; clear n0_ n1_ n2_ n3_ n4_; (try clear hb); (try clear hb2); (try clear hk); (try clear hi); have p141 : 0 ≤ (x9_4 : Int) := of_decide_eq_true y10 ; have q141 : x9_4 < (t104.length : Int) := of_decide_eq_true y10 ; obtain ⟨ad141, e141, hx141_0, hx141_1, hx141_2, hx141_3, hx141_4, hx141_5⟩ := at_T54 (Kd.R_reads' HO_6.out).2.2 x9_4 p141 q141; cases e141; replace p141 := eq_true p141; replace q141 := eq_true q141))
           go_ret
           exact ⟨by first | rfl | (simp [errW_none, errW_some] <;> rfl) | (simp [*, errW_none, errW_some] <;> rfl), zHB⟩
          rw [if_neg c47] at H
          have c47b0 : (t140 != ((rd_T54 t104 x9_4).f0)) = false := by simpa using c47
          (try (have c47b1 : decide (t140 = ((rd_T54 t104 x9_4).f0)) = true := by simpa using c47))
          (try (have c47b2 : (t140 == ((rd_T54 t104 x9_4).f0)) = true := by simpa using c47))
          clear c47
          have H' := zA H
          clear H
          go_wp2_with (first | ((with_reducible refine gate_callee (f := 45) rfl ?_); refine goesL_ (some 73) rfl rfl Try.func45 (by kernel_rfl) rfl #[.slice Ao31 t104.length co31, .int .i64 x9_4] rfl y8  ?_; (with_reducible refine (impl_AclWitness.calls _ _ t104 x9_4 t134 t135 t136 true _ ?side1 ?side2 A42.out).mono ?_); (case side1 => repeat (first | exact (Kd.R_reads' HO_6.out).2.2 | (with_reducible refine Kd.C_alloc ?_ _) | (with_reducible refine Kd.C_drewN ?_ _) | (with_reducible refine Kd.C_drew ?_))); (case side2 => exact (Kd.R_reads' HO_6.out).2.1); rintro e w53 ⟨rfl, hb⟩; refine ⟨_, rfl, ?_⟩; have n0_ := zA (Kd.R_below (zr HO_5.out) hb); have n1_ := zA (Kd.R_below (zr HO_6.out) hb); have n2_ := zA (blk_below (g := gb118) (o := .cells #[.int .i64 t114, .int .i64 t115, .int .i64 t116] 34 (0, 0)) (zb BK118.out) hb); have n3_ := zA (below_step (zHB) hb); clear HO_5; clear HO_6; clear BK118; clear HB; have HO_5 := n0_; have HO_6 := n1_; have BK118 := n2_; have HB := n3_; clear n0_ n1_ n2_ n3_; (try clear hb); (try clear hb2); (try clear hk); (try clear hi)) | ((with_reducible refine gate_dst (N := 10) rfl ?_); (try (refine gate_guard (by rfl) ?_; dsimp only)); refine box_event ?hg (N := 10) ?hd (cs := #[.int .i64 0, .int .i64 0, .int .i64 0]) (t := 34) ?hr ?_; (case hd => rfl); (case hg => rfl); (case hr => first | (go_simp; done) | (go_simp; rfl)); intro gb138 hg w54 hbox hb; have n0_ := zA (Kd.R_below (zr HO_5.out) hb); have n1_ := zA (Kd.R_below (zr HO_6.out) hb); have n2_ := zA (blk_below (g := gb118) (o := .cells #[.int .i64 t114, .int .i64 t115, .int .i64 t116] 34 (0, 0)) (zb BK118.out) hb); have n3_ := zA (below_step (zHB) hb); have n4_ := zA (hbox); have n5_ := zA ((show w.heap.size ≤ gb138 from y9)); have n6_ := zA ((show w.heap.size ≤ gb138 from y9)); have n7_ := zA ((show gb118 ≠ gb138 from y6)); have n8_ := zA ((show gb138 ≠ gb118 from y7)); clear HO_5; clear HO_6; clear BK118; clear HB; have HO_5 := n0_; have HO_6 := n1_; have BK118 := n2_; have HB := n3_; have BK138 := n4_; have GW138 := n5_; have GE138 := n6_; have NB118_138 := n7_; have NB138_118 := n8_; clear n0_ n1_ n2_ n3_ n4_ n5_ n6_ n7_ n8_; clear hb hbox hg; have hnb55 := NB138_118.out; have hnc55 := NB118_138.out; have hcz56_0 : w54.cell? ⟨gb138, 0, none⟩ = some (.int .i64 0) := (blk_cell BK138.out 0).trans rfl; have hcz56_1 : w54.cell? ⟨gb138, 1, none⟩ = some (.int .i64 0) := (blk_cell BK138.out 1).trans rfl; have hcz56_2 : w54.cell? ⟨gb138, 2, none⟩ = some (.int .i64 0) := (blk_cell BK138.out 2).trans rfl; have hfz56_0 := blk_frozen BK138.out 0; have hfz56_1 := blk_frozen BK138.out 1; have hfz56_2 := blk_frozen BK138.out 2) | ((with_reducible refine gate_callee (f := 31) rfl ?_); refine goesL_ (some 79) rfl rfl Try.func31 (by kernel_rfl) rfl #[.slice Ao31 t104.length co31, .agg #[.int .i64 t134, .int .i64 t135, .int .i64 t136]] rfl y8  ?_; (with_reducible refine (impl_AclSays.calls k4 _ _ t104 t134 t135 t136 t139 t140 _ ?side1 ?side2 A43.out).mono ?_); (case side1 => refine (Kd.R_reads' (e := 54) (base := w.heap.size) (ok := fun k_ => some k_ ≠ (.slice Ao10 t101.length co10 : Value).ownBlock) (n := t104.length) (c := co31) ?_).2.2; exact y3 ); (case side2 => exact (Kd.R_reads' HO_6.out).2.1); rintro e w57 ⟨rfl, hb⟩; refine ⟨_, rfl, ?_⟩; have n0_ := zA (Kd.R_below y4  hb); have n1_ := zA (Kd.R_below y3  hb); have n2_ := zA (blk_below (g := gb118) (o := .cells #[.int .i64 t114, .int .i64 t115, .int .i64 t116] 34 (0, 0)) y5  hb); have n3_ := zA (blk_below (g := gb138) (o := .cells #[.int .i64 t134, .int .i64 t135, .int .i64 t136] 34 (0, 0)) y1  hb); have n4_ := zA (below_step (zHB) hb); clear HO_5; clear HO_6; clear BK118; clear BK138; clear HB; have HO_5 := n0_; have HO_6 := n1_; have BK118 := n2_; have BK138 := n3_; have HB := n4_; clear n0_ n1_ n2_ n3_ n4_; (try clear hb); (try clear hb2); (try clear hk); (try clear hi); have p141 : 0 ≤ (x9_4 : Int) := of_decide_eq_true y10 ; have q141 : x9_4 < (t104.length : Int) := of_decide_eq_true y10 ; obtain ⟨ad141, e141, hx141_0, hx141_1, hx141_2, hx141_3, hx141_4, hx141_5⟩ := at_T54 (Kd.R_reads' HO_6.out).2.2 x9_4 p141 q141; cases e141; replace p141 := eq_true p141; replace q141 := eq_true q141))
          go_roundg k4
          case measure => have := HJ2.out; have := HJ7.out; have := HJ28.out; have := HK4.out; omega
          case rel => exact ⟨(wrap64 (x9_4 + 1)), y11 , H', ⟨by have := HJ2.out; have := HJ7.out; have := HJ28.out; have := HK4.out; omega⟩, ⟨by refine zk ?_; exact HO_5.out⟩, ⟨by refine zk ?_; exact HO_6.out⟩, ⟨by refine zq ?_; exact BK118.out⟩, ⟨zHB⟩⟩
         rw [if_neg c46] at H
         exact absurd H (by simp)
        rw [if_neg c45] at H
        have c45b0 : (t139 == x9_4) = false := beq_eq_false_iff_ne.mpr c45
        have c45b1 : (t139 != x9_4) = true := bne_iff_ne.mpr c45
        obtain rfl := Option.some.inj H
        go_wp2_with (first | ((with_reducible refine gate_callee (f := 45) rfl ?_); refine goesL_ (some 73) rfl rfl Try.func45 (by kernel_rfl) rfl #[.slice Ao31 t104.length co31, .int .i64 x9_4] rfl y8  ?_; (with_reducible refine (impl_AclWitness.calls _ _ t104 x9_4 t134 t135 t136 true _ ?side1 ?side2 A42.out).mono ?_); (case side1 => repeat (first | exact (Kd.R_reads' HO_6.out).2.2 | (with_reducible refine Kd.C_alloc ?_ _) | (with_reducible refine Kd.C_drewN ?_ _) | (with_reducible refine Kd.C_drew ?_))); (case side2 => exact (Kd.R_reads' HO_6.out).2.1); rintro e w58 ⟨rfl, hb⟩; refine ⟨_, rfl, ?_⟩; have n0_ := zA (Kd.R_below (zr HO_5.out) hb); have n1_ := zA (Kd.R_below (zr HO_6.out) hb); have n2_ := zA (blk_below (g := gb118) (o := .cells #[.int .i64 t114, .int .i64 t115, .int .i64 t116] 34 (0, 0)) (zb BK118.out) hb); have n3_ := zA (below_step (zHB) hb); clear HO_5; clear HO_6; clear BK118; clear HB; have HO_5 := n0_; have HO_6 := n1_; have BK118 := n2_; have HB := n3_; clear n0_ n1_ n2_ n3_; (try clear hb); (try clear hb2); (try clear hk); (try clear hi)) | ((with_reducible refine gate_dst (N := 10) rfl ?_); (try (refine gate_guard (by rfl) ?_; dsimp only)); refine box_event ?hg (N := 10) ?hd (cs := #[.int .i64 0, .int .i64 0, .int .i64 0]) (t := 34) ?hr ?_; (case hd => rfl); (case hg => rfl); (case hr => first | (go_simp; done) | (go_simp; rfl)); intro gb138 hg w59 hbox hb; have n0_ := zA (Kd.R_below (zr HO_5.out) hb); have n1_ := zA (Kd.R_below (zr HO_6.out) hb); have n2_ := zA (blk_below (g := gb118) (o := .cells #[.int .i64 t114, .int .i64 t115, .int .i64 t116] 34 (0, 0)) (zb BK118.out) hb); have n3_ := zA (below_step (zHB) hb); have n4_ := zA (hbox); have n5_ := zA ((show w.heap.size ≤ gb138 from y9)); have n6_ := zA ((show w.heap.size ≤ gb138 from y9)); have n7_ := zA ((show gb118 ≠ gb138 from y6)); have n8_ := zA ((show gb138 ≠ gb118 from y7)); clear HO_5; clear HO_6; clear BK118; clear HB; have HO_5 := n0_; have HO_6 := n1_; have BK118 := n2_; have HB := n3_; have BK138 := n4_; have GW138 := n5_; have GE138 := n6_; have NB118_138 := n7_; have NB138_118 := n8_; clear n0_ n1_ n2_ n3_ n4_ n5_ n6_ n7_ n8_; clear hb hbox hg; have hnb60 := NB138_118.out; have hnc60 := NB118_138.out; have hcz61_0 : w59.cell? ⟨gb138, 0, none⟩ = some (.int .i64 0) := (blk_cell BK138.out 0).trans rfl; have hcz61_1 : w59.cell? ⟨gb138, 1, none⟩ = some (.int .i64 0) := (blk_cell BK138.out 1).trans rfl; have hcz61_2 : w59.cell? ⟨gb138, 2, none⟩ = some (.int .i64 0) := (blk_cell BK138.out 2).trans rfl; have hfz61_0 := blk_frozen BK138.out 0; have hfz61_1 := blk_frozen BK138.out 1; have hfz61_2 := blk_frozen BK138.out 2) | ((with_reducible refine gate_callee (f := 31) rfl ?_); refine goesL_ (some 79) rfl rfl Try.func31 (by kernel_rfl) rfl #[.slice Ao31 t104.length co31, .agg #[.int .i64 t134, .int .i64 t135, .int .i64 t136]] rfl y8  ?_; (with_reducible refine (impl_AclSays.calls k4 _ _ t104 t134 t135 t136 t139 t140 _ ?side1 ?side2 A43.out).mono ?_); (case side1 => refine (Kd.R_reads' (e := 54) (base := w.heap.size) (ok := fun k_ => some k_ ≠ (.slice Ao10 t101.length co10 : Value).ownBlock) (n := t104.length) (c := co31) ?_).2.2; exact y3 ); (case side2 => exact (Kd.R_reads' HO_6.out).2.1); rintro e w62 ⟨rfl, hb⟩; refine ⟨_, rfl, ?_⟩; have n0_ := zA (Kd.R_below y4  hb); have n1_ := zA (Kd.R_below y3  hb); have n2_ := zA (blk_below (g := gb118) (o := .cells #[.int .i64 t114, .int .i64 t115, .int .i64 t116] 34 (0, 0)) y5  hb); have n3_ := zA (blk_below (g := gb138) (o := .cells #[.int .i64 t134, .int .i64 t135, .int .i64 t136] 34 (0, 0)) y1  hb); have n4_ := zA (below_step (zHB) hb); clear HO_5; clear HO_6; clear BK118; clear BK138; clear HB; have HO_5 := n0_; have HO_6 := n1_; have BK118 := n2_; have BK138 := n3_; have HB := n4_; clear n0_ n1_ n2_ n3_ n4_; (try clear hb); (try clear hb2); (try clear hk); (try clear hi)))
        go_ret
        exact ⟨by first | rfl | (simp [errW_none, errW_some] <;> rfl) | (simp [*, errW_none, errW_some] <;> rfl), zHB⟩
       replace c44 := Bool.eq_false_iff.mpr c44
       subst c44
       have H1 : (some false) = some r := by rw [if_neg (show ¬ (false = true) by decide)] at H; exact H
       clear H
       have H := H1
       clear H1
       obtain rfl := Option.some.inj H
       go_wp2_with (first | ((with_reducible refine gate_callee (f := 45) rfl ?_); refine goesL_ (some 73) rfl rfl Try.func45 (by kernel_rfl) rfl #[.slice Ao31 t104.length co31, .int .i64 x9_4] rfl y8  ?_; (with_reducible refine (impl_AclWitness.calls _ _ t104 x9_4 t134 t135 t136 false _ ?side1 ?side2 A42.out).mono ?_); (case side1 => repeat (first | exact (Kd.R_reads' HO_6.out).2.2 | (with_reducible refine Kd.C_alloc ?_ _) | (with_reducible refine Kd.C_drewN ?_ _) | (with_reducible refine Kd.C_drew ?_))); (case side2 => exact (Kd.R_reads' HO_6.out).2.1); rintro e w63 ⟨rfl, hb⟩; refine ⟨_, rfl, ?_⟩; have n0_ := zA (Kd.R_below (zr HO_5.out) hb); have n1_ := zA (Kd.R_below (zr HO_6.out) hb); have n2_ := zA (blk_below (g := gb118) (o := .cells #[.int .i64 t114, .int .i64 t115, .int .i64 t116] 34 (0, 0)) (zb BK118.out) hb); have n3_ := zA (below_step (zHB) hb); clear HO_5; clear HO_6; clear BK118; clear HB; have HO_5 := n0_; have HO_6 := n1_; have BK118 := n2_; have HB := n3_; clear n0_ n1_ n2_ n3_; (try clear hb); (try clear hb2); (try clear hk); (try clear hi)) | ((with_reducible refine gate_dst (N := 10) rfl ?_); (try (refine gate_guard (by rfl) ?_; dsimp only)); refine box_event ?hg (N := 10) ?hd (cs := #[.int .i64 0, .int .i64 0, .int .i64 0]) (t := 34) ?hr ?_; (case hd => rfl); (case hg => rfl); (case hr => first | (go_simp; done) | (go_simp; rfl)); intro gb138 hg w64 hbox hb; have n0_ := zA (Kd.R_below (zr HO_5.out) hb); have n1_ := zA (Kd.R_below (zr HO_6.out) hb); have n2_ := zA (blk_below (g := gb118) (o := .cells #[.int .i64 t114, .int .i64 t115, .int .i64 t116] 34 (0, 0)) (zb BK118.out) hb); have n3_ := zA (below_step (zHB) hb); have n4_ := zA (hbox); have n5_ := zA ((show w.heap.size ≤ gb138 from y9)); have n6_ := zA ((show w.heap.size ≤ gb138 from y9)); have n7_ := zA ((show gb118 ≠ gb138 from y6)); have n8_ := zA ((show gb138 ≠ gb118 from y7)); clear HO_5; clear HO_6; clear BK118; clear HB; have HO_5 := n0_; have HO_6 := n1_; have BK118 := n2_; have HB := n3_; have BK138 := n4_; have GW138 := n5_; have GE138 := n6_; have NB118_138 := n7_; have NB138_118 := n8_; clear n0_ n1_ n2_ n3_ n4_ n5_ n6_ n7_ n8_; clear hb hbox hg; have hnb65 := NB138_118.out; have hnc65 := NB118_138.out; have hcz66_0 : w64.cell? ⟨gb138, 0, none⟩ = some (.int .i64 0) := (blk_cell BK138.out 0).trans rfl; have hcz66_1 : w64.cell? ⟨gb138, 1, none⟩ = some (.int .i64 0) := (blk_cell BK138.out 1).trans rfl; have hcz66_2 : w64.cell? ⟨gb138, 2, none⟩ = some (.int .i64 0) := (blk_cell BK138.out 2).trans rfl; have hfz66_0 := blk_frozen BK138.out 0; have hfz66_1 := blk_frozen BK138.out 1; have hfz66_2 := blk_frozen BK138.out 2) | ((with_reducible refine gate_callee (f := 31) rfl ?_); refine goesL_ (some 79) rfl rfl Try.func31 (by kernel_rfl) rfl #[.slice Ao31 t104.length co31, .agg #[.int .i64 t134, .int .i64 t135, .int .i64 t136]] rfl y8  ?_; (with_reducible refine (impl_AclSays.calls k4 _ _ t104 t134 t135 t136 t139 t140 _ ?side1 ?side2 A43.out).mono ?_); (case side1 => refine (Kd.R_reads' (e := 54) (base := w.heap.size) (ok := fun k_ => some k_ ≠ (.slice Ao10 t101.length co10 : Value).ownBlock) (n := t104.length) (c := co31) ?_).2.2; exact y3 ); (case side2 => exact (Kd.R_reads' HO_6.out).2.1); rintro e w67 ⟨rfl, hb⟩; refine ⟨_, rfl, ?_⟩; have n0_ := zA (Kd.R_below y4  hb); have n1_ := zA (Kd.R_below y3  hb); have n2_ := zA (blk_below (g := gb118) (o := .cells #[.int .i64 t114, .int .i64 t115, .int .i64 t116] 34 (0, 0)) y5  hb); have n3_ := zA (blk_below (g := gb138) (o := .cells #[.int .i64 t134, .int .i64 t135, .int .i64 t136] 34 (0, 0)) y1  hb); have n4_ := zA (below_step (zHB) hb); clear HO_5; clear HO_6; clear BK118; clear BK138; clear HB; have HO_5 := n0_; have HO_6 := n1_; have BK118 := n2_; have BK138 := n3_; have HB := n4_; clear n0_ n1_ n2_ n3_ n4_; (try clear hb); (try clear hb2); (try clear hk); (try clear hi)))
       go_ret
       exact ⟨by first | rfl | (simp [errW_none, errW_some] <;> rfl) | (simp [*, errW_none, errW_some] <;> rfl), zHB⟩
      rw [if_neg c41] at H
      have c41b0 : decide (x9_4 < (t104.length : Int)) = false := decide_eq_false c41
      clear c41
      replace H := Option.bind_eq_some_iff.mp H
      obtain ⟨⟨t123, t126, t127, t128⟩, A680, H⟩ := H
      replace H : ((impl_AclSays.f k4 t101 t126 t127 t128).bind fun bt130 => ((impl_AclSays.f k4 t104 t126 t127 t128).bind fun bt132 => (some (bt130.2 == bt132.2)))) = some r := H
      have A68 := zA A680
      clear A680
      replace H := Option.bind_eq_some_iff.mp H
      obtain ⟨⟨t130, t131⟩, A690, H⟩ := H
      replace H : ((impl_AclSays.f k4 t104 t126 t127 t128).bind fun bt132 => (some (t131 == bt132.2))) = some r := H
      have A69 := zA A690
      clear A690
      replace H := Option.bind_eq_some_iff.mp H
      obtain ⟨⟨t132, t133⟩, A700, H⟩ := H
      replace H : (some (t131 == t133)) = some r := H
      have A70 := zA A700
      clear A700
      obtain rfl := Option.some.inj H
      go_wp2_with (first | ((with_reducible refine gate_callee (f := 30) rfl ?_); refine goesL_ (some 100) rfl rfl Try.func30 (by kernel_rfl) rfl #[.slice A1 l1.length c1] rfl y8  ?_; (with_reducible refine (spec_DrawAclSays.calls k4 _ _ l1 t123 t126 t127 t128 _ ?side1 ?side2 A68.out).mono ?_); (case side1 => repeat (first | exact (Kd.C_below HR1.out HB.out) | (with_reducible refine Kd.C_alloc ?_ _) | (with_reducible refine Kd.C_drewN ?_ _) | (with_reducible refine Kd.C_drew ?_))); (case side2 => exact HC1.out); rintro e w71 ⟨v124, rfl, ho0, hb⟩; refine ⟨_, rfl, ?_⟩; have n0_ := zA (Kd.R_elder' (zr HO_5.out) (Kd.R_base ho0) hb); have n1_ := zA (Kd.R_elder' (zr HO_6.out) (Kd.R_base ho0) hb); have n2_ := zA (Kd.R_lower (Kd.R_new' (Kd.R_new' ho0 (Kd.R_lt (zr HO_5.out))) (Kd.R_lt (zr HO_6.out))) (below_size (zHB))); have n3_ := zA (blk_below (g := gb118) (o := .cells #[.int .i64 t114, .int .i64 t115, .int .i64 t116] 34 (0, 0)) (zb BK118.out) hb); have n4_ := zA (below_step (zHB) hb); clear HO_5; clear HO_6; clear BK118; clear HB; have HO_5 := n0_; have HO_6 := n1_; have HO125 := n2_; have BK118 := n3_; have HB := n4_; clear n0_ n1_ n2_ n3_ n4_; (try clear hb); (try clear hb2); (try clear hk); (try clear hi); (try clear ho0)) | ((with_reducible refine gate_dst (N := 15) rfl ?_); (try (refine gate_guard (by rfl) ?_; dsimp only)); refine box_event ?hg (N := 15) ?hd (cs := #[.int .i64 0, .int .i64 0, .int .i64 0]) (t := 34) ?hr ?_; (case hd => rfl); (case hg => rfl); (case hr => first | (go_simp; done) | (go_simp; rfl)); intro gb129 hg w72 hbox hb; have n0_ := zA (Kd.R_below (zr HO_5.out) hb); have n1_ := zA (Kd.R_below (zr HO_6.out) hb); have n2_ := zA (Kd.R_below (zr HO125.out) hb); have n3_ := zA (blk_below (g := gb118) (o := .cells #[.int .i64 t114, .int .i64 t115, .int .i64 t116] 34 (0, 0)) (zb BK118.out) hb); have n4_ := zA (below_step (zHB) hb); have n5_ := zA (hbox); have n6_ := zA ((by rw [hg]; exact (below_size (zHB)) : w.heap.size ≤ gb129)); have n7_ := zA ((by rw [hg]; exact (below_size (zHB)) : w.heap.size ≤ gb129)); have n8_ := zA ((by rw [hg]; exact Nat.ne_of_lt (blk_lt (g := gb118) (o := .cells #[.int .i64 t114, .int .i64 t115, .int .i64 t116] 34 (0, 0)) (zb BK118.out)) : gb118 ≠ gb129)); have n9_ := zA ((by rw [hg]; exact Nat.ne_of_gt (blk_lt (g := gb118) (o := .cells #[.int .i64 t114, .int .i64 t115, .int .i64 t116] 34 (0, 0)) (zb BK118.out)) : gb129 ≠ gb118)); clear HO_5; clear HO_6; clear HO125; clear BK118; clear HB; have HO_5 := n0_; have HO_6 := n1_; have HO125 := n2_; have BK118 := n3_; have HB := n4_; have BK129 := n5_; have GW129 := n6_; have GE129 := n7_; have NB118_129 := n8_; have NB129_118 := n9_; clear n0_ n1_ n2_ n3_ n4_ n5_ n6_ n7_ n8_ n9_; clear hb hbox hg; have hnb73 := NB129_118.out; have hnc73 := NB118_129.out; have hcz74_0 : w72.cell? ⟨gb129, 0, none⟩ = some (.int .i64 0) := (blk_cell BK129.out 0).trans rfl; have hcz74_1 : w72.cell? ⟨gb129, 1, none⟩ = some (.int .i64 0) := (blk_cell BK129.out 1).trans rfl; have hcz74_2 : w72.cell? ⟨gb129, 2, none⟩ = some (.int .i64 0) := (blk_cell BK129.out 2).trans rfl; have hfz74_0 := blk_frozen BK129.out 0; have hfz74_1 := blk_frozen BK129.out 1; have hfz74_2 := blk_frozen BK129.out 2) | ((with_reducible refine gate_callee (f := 31) rfl ?_); refine goesL_ (some 106) rfl rfl Try.func31 (by kernel_rfl) rfl #[.slice Ao10 t101.length co10, .agg #[.int .i64 t126, .int .i64 t127, .int .i64 t128]] rfl y8  ?_; (with_reducible refine (impl_AclSays.calls k4 _ _ t101 t126 t127 t128 t130 t131 _ ?side1 ?side2 A69.out).mono ?_); (case side1 => refine (Kd.R_reads' (e := 54) (base := w.heap.size) (ok := fun k_ => (some k_ ≠ (.slice Ao31 t104.length co31 : Value).ownBlock ∧ some k_ ≠ (v124 : Value).ownBlock)) (n := t101.length) (c := co10) ?_).2.2; exact (by refine zk ?_; exact (Kd.R_mono (Kd.R_far (p := ⟨gb129, 2, none⟩) (Kd.R_far (p := ⟨gb129, 1, none⟩) (Kd.R_far (p := ⟨gb129, 0, none⟩) (Kd.R_types HO_5.out BK129.out (by decide)) (fun _ hk => hk.2) (.int .i64 t126)) (fun _ hk => hk.2) (.int .i64 t127)) (fun _ hk => hk.2) (.int .i64 t128)) (fun _ h_ => h_.1)))); (case side2 => exact (Kd.R_reads' HO_5.out).2.1); rintro e w75 ⟨rfl, hb⟩; refine ⟨_, rfl, ?_⟩; have n0_ := zA (Kd.R_below (by refine zk ?_; exact (Kd.R_mono (Kd.R_far (p := ⟨gb129, 2, none⟩) (Kd.R_far (p := ⟨gb129, 1, none⟩) (Kd.R_far (p := ⟨gb129, 0, none⟩) (Kd.R_types HO_5.out BK129.out (by decide)) (fun _ hk => hk.2) (.int .i64 t126)) (fun _ hk => hk.2) (.int .i64 t127)) (fun _ hk => hk.2) (.int .i64 t128)) (fun _ h_ => h_.1))) hb); have n1_ := zA (Kd.R_below (by refine zk ?_; exact (Kd.R_mono (Kd.R_far (p := ⟨gb129, 2, none⟩) (Kd.R_far (p := ⟨gb129, 1, none⟩) (Kd.R_far (p := ⟨gb129, 0, none⟩) (Kd.R_types HO_6.out BK129.out (by decide)) (fun _ hk => hk.2) (.int .i64 t126)) (fun _ hk => hk.2) (.int .i64 t127)) (fun _ hk => hk.2) (.int .i64 t128)) (fun _ h_ => h_.1))) hb); have n2_ := zA (Kd.R_below (by refine zk ?_; exact (Kd.R_mono (Kd.R_far (p := ⟨gb129, 2, none⟩) (Kd.R_far (p := ⟨gb129, 1, none⟩) (Kd.R_far (p := ⟨gb129, 0, none⟩) (Kd.R_types HO125.out BK129.out (by decide)) (fun _ hk => hk.2) (.int .i64 t126)) (fun _ hk => hk.2) (.int .i64 t127)) (fun _ hk => hk.2) (.int .i64 t128)) (fun _ h_ => h_.1))) hb); have n3_ := zA (blk_below (g := gb118) (o := .cells #[.int .i64 t114, .int .i64 t115, .int .i64 t116] 34 (0, 0)) (by refine zq ?_; refine blk_far ?_ NB118_129.out _; refine zq ?_; refine blk_far ?_ NB118_129.out _; refine zq ?_; refine blk_far ?_ NB118_129.out _; refine zq ?_; exact BK118.out) hb); have n4_ := zA (blk_below (g := gb129) (o := .cells #[.int .i64 t126, .int .i64 t127, .int .i64 t128] 34 (0, 0)) (by refine zq ?_; refine blk_put (cs := #[.int .i64 t126, .int .i64 t127, .int .i64 0]) ?_ 2 _ rfl; refine zq ?_; refine blk_put (cs := #[.int .i64 t126, .int .i64 0, .int .i64 0]) ?_ 1 _ rfl; refine zq ?_; refine blk_put (cs := #[.int .i64 0, .int .i64 0, .int .i64 0]) ?_ 0 _ rfl; refine zq ?_; exact BK129.out) hb); have n5_ := zA (below_step (zHB) hb); clear HO_5; clear HO_6; clear HO125; clear BK118; clear BK129; clear HB; have HO_5 := n0_; have HO_6 := n1_; have HO125 := n2_; have BK118 := n3_; have BK129 := n4_; have HB := n5_; clear n0_ n1_ n2_ n3_ n4_ n5_; (try clear hb); (try clear hb2); (try clear hk); (try clear hi); have hcz76_0 : w75.cell? ⟨gb129, 0, none⟩ = some (.int .i64 t126) := (blk_cell BK129.out 0).trans rfl; have hcz76_1 : w75.cell? ⟨gb129, 1, none⟩ = some (.int .i64 t127) := (blk_cell BK129.out 1).trans rfl; have hcz76_2 : w75.cell? ⟨gb129, 2, none⟩ = some (.int .i64 t128) := (blk_cell BK129.out 2).trans rfl; have hfz76_0 := blk_frozen BK129.out 0; have hfz76_1 := blk_frozen BK129.out 1; have hfz76_2 := blk_frozen BK129.out 2) | ((with_reducible refine gate_callee (f := 31) rfl ?_); refine goesL_ (some 112) rfl rfl Try.func31 (by kernel_rfl) rfl #[.slice Ao31 t104.length co31, .agg #[.int .i64 t126, .int .i64 t127, .int .i64 t128]] rfl y8  ?_; (with_reducible refine (impl_AclSays.calls k4 _ _ t104 t126 t127 t128 t132 t133 _ ?side1 ?side2 A70.out).mono ?_); (case side1 => repeat (first | exact (Kd.R_reads' HO_6.out).2.2 | (with_reducible refine Kd.C_alloc ?_ _) | (with_reducible refine Kd.C_drewN ?_ _) | (with_reducible refine Kd.C_drew ?_))); (case side2 => exact (Kd.R_reads' HO_6.out).2.1); rintro e w77 ⟨rfl, hb⟩; refine ⟨_, rfl, ?_⟩; have n0_ := zA (Kd.R_below (zr HO_5.out) hb); have n1_ := zA (Kd.R_below (zr HO_6.out) hb); have n2_ := zA (Kd.R_below (zr HO125.out) hb); have n3_ := zA (blk_below (g := gb118) (o := .cells #[.int .i64 t114, .int .i64 t115, .int .i64 t116] 34 (0, 0)) (zb BK118.out) hb); have n4_ := zA (blk_below (g := gb129) (o := .cells #[.int .i64 t126, .int .i64 t127, .int .i64 t128] 34 (0, 0)) (zb BK129.out) hb); have n5_ := zA (below_step (zHB) hb); clear HO_5; clear HO_6; clear HO125; clear BK118; clear BK129; clear HB; have HO_5 := n0_; have HO_6 := n1_; have HO125 := n2_; have BK118 := n3_; have BK129 := n4_; have HB := n5_; clear n0_ n1_ n2_ n3_ n4_ n5_; (try clear hb); (try clear hb2); (try clear hk); (try clear hi)))
      go_ret
      exact ⟨by first | rfl | (simp [errW_none, errW_some] <;> rfl) | (simp [*, errW_none, errW_some] <;> rfl), zHB⟩
   replace c27 := Bool.eq_false_iff.mpr c27
   subst c27
   have H1 : (some ((t104.length : Int) == 0)) = some r := by rw [if_neg (show ¬ (false = true) by decide)] at H; exact H
   clear H
   have H := H1
   clear H1
   obtain rfl := Option.some.inj H
   go_wp2_with (first | ((with_reducible refine gate_callee (f := 32) rfl ?_); refine goesL_ (some 45) rfl rfl Try.func32 (by kernel_rfl) rfl #[.slice Ao10 t101.length co10] rfl y8  ?_; (with_reducible refine (spec_AclOk.calls kj7 _ _ t101 false _ ?side1 ?side2 A26.out).mono ?_); (case side1 => repeat (first | exact (Kd.R_reads' HO_5.out).2.2 | (with_reducible refine Kd.C_alloc ?_ _) | (with_reducible refine Kd.C_drewN ?_ _) | (with_reducible refine Kd.C_drew ?_))); (case side2 => exact (Kd.R_reads' HO_5.out).2.1); rintro e w78 ⟨rfl, hb⟩; refine ⟨_, rfl, ?_⟩; have n0_ := zA (Kd.R_below (zr HO_5.out) hb); have n1_ := zA (Kd.R_below (zr HO_6.out) hb); have n2_ := zA (below_step (zHB) hb); clear HO_5; clear HO_6; clear HB; have HO_5 := n0_; have HO_6 := n1_; have HB := n2_; clear n0_ n1_ n2_; (try clear hb); (try clear hb2); (try clear hk); (try clear hi); obtain ⟨Ao79, co79, eo79⟩ := Kd.R_slice HO_6.out; subst eo79))
   go_ret
   exact ⟨by first | rfl | (simp [errW_none, errW_some] <;> rfl) | (simp [*, errW_none, errW_some] <;> rfl), zHB⟩
end Go.Proofs.Ytnakanjhdcakhaa.Q
namespace Go.Proofs.Ytnakanjhdcakhaa.Pure
open Q Go.RowKit Go.Proofs.YtnakanjhdcakhaaW.PrintWords
set_option linter.unusedSimpArgs false
theorem xor_pos {x y : Int} (hx : 0 ≤ x) (hx1 : x < 4611686018427387904) (hy : 0 ≤ y) (hy1 : y < 4611686018427387904) : 0 ≤ Go.bits .xor .i64 x y ∧ Go.bits .xor .i64 x y < 4611686018427387904 := by
  obtain ⟨a, rfl⟩ := Int.eq_ofNat_of_zero_le hx
  obtain ⟨b, rfl⟩ := Int.eq_ofNat_of_zero_le hy
  have ha : a < 2 ^ 62 := by omega
  have hb : b < 2 ^ 62 := by omega
  have hxor : a ^^^ b < 2 ^ 62 := Nat.xor_lt_two_pow ha hb
  have e : ((BitVec.ofInt 64 (a : Int)) ^^^ (BitVec.ofInt 64 (b : Int))).toNat = a ^^^ b := by
    rw [BitVec.toNat_xor, BitVec.toNat_ofInt, BitVec.toNat_ofInt]
    congr 1 <;> omega
  have main : Go.bits .xor .i64 (a : Int) (b : Int) = IntKind.i64.wrap ((((BitVec.ofInt 64 (a : Int)) ^^^ (BitVec.ofInt 64 (b : Int))).toNat : Nat) : Int) := rfl
  rw [main, e]
  have : IntKind.i64.wrap ((a ^^^ b : Nat) : Int) = ((a ^^^ b : Nat) : Int) := by
    simp [IntKind.wrap, IntKind.bits, IntKind.signed]
    omega
  rw [this]
  omega
def Bytes (b : List Int) : Prop := b.length ≤ 2000 ∧ ∀ x ∈ b, 0 ≤ x ∧ x ≤ 255
theorem rd_byte {b : List Int} (h : Bytes b) (i : Int) : 0 ≤ rd b i ∧ rd b i ≤ 255 := by
  unfold rd
  rw [List.getD_eq_getElem?_getD]
  cases hq : b[i.toNat]? with
  | none => simp
  | some x => simpa using h.2 x (List.mem_of_getElem? hq)
theorem tmod_range {a n : Int} (ha : 0 ≤ a) (hn : 0 < n) : 0 ≤ Int.tmod a n ∧ Int.tmod a n < n := ⟨Int.tmod_nonneg _ ha, Int.tmod_lt_of_pos _ hn⟩
theorem pick_s {b : List Int} (h : Bytes b) {p n : Int} (hp : 0 ≤ p) (hp1 : p ≤ 1000000000000) (hn : 1 ≤ n) {k : Nat} (hk : 0 < k) : ∃ v, spec_l1Rd_pick.f k b p n = some (v, p + 1) ∧ 0 ≤ v ∧ v < n := by
  obtain ⟨k, rfl⟩ : ∃ m, k = m + 1 := ⟨k - 1, by omega⟩
  have hl := h.1
  unfold spec_l1Rd_pick.f
  rw [if_neg (by omega)]
  simp only [spec_l1Rd_pick.j0]
  rw [wrap_in (x := p + 1) (by omega) (by omega), wrap_in (x := p + 1 - 1) (by omega) (by omega), show p + 1 - 1 = p by omega]
  by_cases h0 : (b.length : Int) = 0
  · rw [if_pos (by simp [h0])]
    exact ⟨0, rfl, Int.le_refl _, by omega⟩
  · rw [if_neg (by simpa using h0)]
    by_cases hlt : p < (b.length : Int)
    · have hb := rd_byte h p
      rw [if_pos hlt, if_pos hp, if_neg (by omega), wrap_in (x := rd b p) (by omega) (by omega)]
      exact ⟨_, rfl, tmod_range hb.1 (by omega)⟩
    · rw [if_neg hlt, if_neg h0]
      have r1 := tmod_range hp (show 0 < (b.length : Int) by omega)
      have w7 : wrap64 (p * 7) = p * 7 := wrap_in (by omega) (by omega)
      have w73 : wrap64 (p * 7 + 3) = p * 7 + 3 := wrap_in (by omega) (by omega)
      have r2 := tmod_range (show 0 ≤ p * 7 + 3 by omega) (show 0 < (b.length : Int) by omega)
      rw [if_pos r1.1, if_pos r1.2, w7, w73, if_pos r2.1, if_pos r2.2, if_neg (by omega)]
      have b1 := rd_byte h (Int.tmod p (b.length : Int))
      have b2 := rd_byte h (Int.tmod (p * 7 + 3) (b.length : Int))
      generalize rd b (Int.tmod p (b.length : Int)) = x at b1 ⊢
      generalize rd b (Int.tmod (p * 7 + 3) (b.length : Int)) = y at b2 ⊢
      have hd : 0 ≤ Int.tdiv p (b.length : Int) ∧ Int.tdiv p (b.length : Int) ≤ p := ⟨Int.tdiv_nonneg hp (by omega), Int.tdiv_le_self _ hp⟩
      generalize Int.tdiv p (b.length : Int) = q at hd ⊢
      rw [wrap_in (x := x) (by omega) (by omega), wrap_in (x := y) (by omega) (by omega), wrap_in (x := x * 131) (by omega) (by omega), wrap_in (x := y * 1117) (by omega) (by omega), wrap_in (x := q) (by omega) (by omega), wrap_in (x := p * 29) (by omega) (by omega), wrap_in (x := q * 53) (by omega) (by omega), wrap_in (x := x * 131 + y * 1117) (by omega) (by omega), wrap_in (x := x * 131 + y * 1117 + p * 29) (by omega) (by omega), wrap_in (x := x * 131 + y * 1117 + p * 29 + q * 53) (by omega) (by omega)]
      have hz : 0 ≤ x * 131 + y * 1117 + p * 29 + q * 53 ∧ x * 131 + y * 1117 + p * 29 + q * 53 < 4611686018427387904 := by omega
      generalize x * 131 + y * 1117 + p * 29 + q * 53 = z at hz ⊢
      have h64 : 0 ≤ Int.tdiv z 64 ∧ Int.tdiv z 64 ≤ z := ⟨Int.tdiv_nonneg hz.1 (by omega), Int.tdiv_le_self _ hz.1⟩
      rw [wrap_in (x := Int.tdiv z 64) (by omega) (by omega)]
      have hx := xor_pos hz.1 hz.2 h64.1 (show Int.tdiv z 64 < 4611686018427387904 by omega)
      exact ⟨_, rfl, tmod_range hx.1 (by omega)⟩
end Go.Proofs.Ytnakanjhdcakhaa.Pure
namespace Go.Proofs.Ytnakanjhdcakhaa.Pure
open Q Go.RowKit Go.Proofs.YtnakanjhdcakhaaW.PrintWords
set_option linter.unusedSimpArgs false
theorem five {i : Int} (h0 : 0 ≤ i) (h1 : i < 5) (x0 x1 x2 x3 x4 : Int) (P : Int → Prop) (p0 : P x0) (p1 : P x1) (p2 : P x2) (p3 : P x3) (p4 : P x4) : P (rd [x0, x1, x2, x3, x4] i) := by
  have : i = 0 ∨ i = 1 ∨ i = 2 ∨ i = 3 ∨ i = 4 := by omega
  rcases this with rfl | rfl | rfl | rfl | rfl
  · exact p0
  · exact p1
  · exact p2
  · exact p3
  · exact p4
theorem prefix_j {b : List Int} (h : Bytes b) {p n : Int} (hp : 0 ≤ p) (hp1 : p ≤ 900000000000) (hn0 : 0 ≤ n) (hn1 : n ≤ 16) {k : Nat} (hk : 30 ≤ k) : ∃ a, spec_l5Prefix.j0 k n b p = some (a, n, p + 6) ∧ okB a n = true := by
  obtain ⟨k, rfl⟩ : ∃ m, k = m + 1 := ⟨k - 1, by omega⟩
  obtain ⟨v1, e1, l1, u1⟩ := pick_s h (p := p) (n := 65536) (by omega) (by omega) (by omega) (k := k) (by omega)
  obtain ⟨v2, e2, l2, u2⟩ := pick_s h (p := p + 1) (n := 4) (by omega) (by omega) (by omega) (k := k) (by omega)
  obtain ⟨v3, e3, l3, u3⟩ := pick_s h (p := p + 1 + 1) (n := 9) (by omega) (by omega) (by omega) (k := k) (by omega)
  obtain ⟨v4, e4, l4, u4⟩ := pick_s h (p := p + 1 + 1 + 1) (n := 16) (by omega) (by omega) (by omega) (k := k) (by omega)
  obtain ⟨v5, e5, l5, u5⟩ := pick_s h (p := p + 1 + 1 + 1 + 1) (n := 16) (by omega) (by omega) (by omega) (k := k) (by omega)
  obtain ⟨v6, e6, l6, u6⟩ := pick_s h (p := p + 1 + 1 + 1 + 1 + 1) (n := 5) (by omega) (by omega) (by omega) (k := k) (by omega)
  simp only [spec_l5Prefix.j0, e1, e2, e3, e4, e5, e6, Option.bind_some]
  have hz := sz_pos n
  have hr : 0 ≤ rd [v1, wrap64 (256 * v2), wrap64 (65535 - v3), v4, wrap64 (4656 + v5)] v6 ∧ rd [v1, wrap64 (256 * v2), wrap64 (65535 - v3), v4, wrap64 (4656 + v5)] v6 ≤ 65535 := by
    refine five (P := fun x => 0 ≤ x ∧ x ≤ 65535) l6 u6 _ _ _ _ _ (by omega) ?_ ?_ (by omega) ?_
    · rw [wrap_in (by omega) (by omega)]; omega
    · rw [wrap_in (by omega) (by omega)]; omega
    · rw [wrap_in (by omega) (by omega)]; omega
  rw [if_pos l6, if_pos (by simpa using u6), size_s hn0 hn1 (by omega)]
  simp only [Option.bind_some]
  rw [if_neg (by omega)]
  generalize rd [v1, wrap64 (256 * v2), wrap64 (65535 - v3), v4, wrap64 (4656 + v5)] v6 = a at hr ⊢
  have hm : Int.tmod a (sz n) = a % sz n := Int.tmod_eq_emod_of_nonneg hr.1
  have h0 := Int.emod_nonneg a (show sz n ≠ 0 by omega)
  have h1 := Int.emod_lt_of_pos a (show 0 < sz n by omega)
  have h2 : a % sz n ≤ a := by
    have := Int.mul_ediv_add_emod a (sz n)
    have := Int.mul_nonneg (show 0 ≤ sz n by omega) (Int.ediv_nonneg hr.1 (show 0 ≤ sz n by omega))
    omega
  rw [hm, wrap_in (by omega) (by omega)]
  refine ⟨a - a % sz n, by simp; omega, okB_iff.2 ⟨hn0, hn1, by omega, by omega, ?_⟩⟩
  have := Int.mul_ediv_add_emod a (sz n)
  rw [show a - a % sz n = sz n * (a / sz n) by omega]
  exact Int.mul_emod_right _ _
theorem six {i : Int} (h0 : 0 ≤ i) (h1 : i < 6) (x0 x1 x2 x3 x4 x5 : Int) (P : Int → Prop) (p0 : P x0) (p1 : P x1) (p2 : P x2) (p3 : P x3) (p4 : P x4) (p5 : P x5) : P (rd [x0, x1, x2, x3, x4, x5] i) := by
  have : i = 0 ∨ i = 1 ∨ i = 2 ∨ i = 3 ∨ i = 4 ∨ i = 5 := by omega
  rcases this with rfl | rfl | rfl | rfl | rfl | rfl
  · exact p0
  · exact p1
  · exact p2
  · exact p3
  · exact p4
  · exact p5
theorem prefix_s {b : List Int} (h : Bytes b) {p : Int} (hp : 0 ≤ p) (hp1 : p ≤ 800000000000) {k : Nat} (hk : 30 ≤ k) : ∃ a n q, spec_l5Prefix.f k b p = some (a, n, q) ∧ okB a n = true ∧ p ≤ q ∧ q ≤ p + 9 := by
  obtain ⟨v1, e1, l1, u1⟩ := pick_s h (p := p) (n := 17) (by omega) (by omega) (by omega) (k := k) (by omega)
  obtain ⟨v2, e2, l2, u2⟩ := pick_s h (p := p + 1) (n := 3) (by omega) (by omega) (by omega) (k := k) (by omega)
  obtain ⟨v3, e3, l3, u3⟩ := pick_s h (p := p + 1 + 1) (n := 6) (by omega) (by omega) (by omega) (k := k) (by omega)
  unfold spec_l5Prefix.f
  simp only [e1, e2, e3, Option.bind_some]
  by_cases h0 : v2 = 0
  · have hr : 0 ≤ rd [0, 1, 2, 8, 15, 16] v3 ∧ rd [0, 1, 2, 8, 15, 16] v3 ≤ 16 := six (P := fun x => 0 ≤ x ∧ x ≤ 16) l3 u3 _ _ _ _ _ _ (by omega) (by omega) (by omega) (by omega) (by omega) (by omega)
    rw [if_pos h0, if_pos l3, if_pos (by simpa using u3)]
    obtain ⟨a, e, ok⟩ := prefix_j h (p := p + 1 + 1 + 1) (by omega) (by omega) hr.1 hr.2 hk
    exact ⟨a, _, _, e, ok, by omega, by omega⟩
  · rw [if_neg h0]
    obtain ⟨a, e, ok⟩ := prefix_j h (p := p + 1 + 1) (by omega) (by omega) l1 (show v1 ≤ 16 by omega) hk
    exact ⟨a, _, _, e, ok, by omega, by omega⟩
end Go.Proofs.Ytnakanjhdcakhaa.Pure
namespace Go.Proofs.Ytnakanjhdcakhaa.Pure
open Q Go.RowKit Go.Proofs.YtnakanjhdcakhaaW.PrintWords
set_option linter.unusedSimpArgs false
theorem spoil_s {b : List Int} (h : Bytes b) {p : Int} (hp : 0 ≤ p) (hp1 : p ≤ 800000000000) (a n : Int) {k : Nat} (hk : 0 < k) : ∃ a' n' q, spec_l5Spoil.f k b p a n = some (a', n', q) ∧ p ≤ q ∧ q ≤ p + 2 := by
  obtain ⟨v1, e1, l1, u1⟩ := pick_s h (p := p) (n := 4) (by omega) (by omega) (by omega) (k := k) (by omega)
  obtain ⟨v2, e2, l2, u2⟩ := pick_s h (p := p + 1) (n := 4) (by omega) (by omega) (by omega) (k := k) (by omega)
  unfold spec_l5Spoil.f
  simp only [e1, e2, Option.bind_some]
  by_cases h0 : v1 = 0
  · rw [if_pos h0, if_pos l2, if_pos (by simpa using u2)]
    exact ⟨_, _, _, rfl, by omega, by omega⟩
  · rw [if_neg h0]
    by_cases h1 : v1 = 1
    · rw [if_pos h1]
      exact ⟨_, _, _, rfl, by omega, by omega⟩
    · rw [if_neg h1]
      by_cases h2 : v1 = 2
      · rw [if_pos h2, if_pos l2, if_pos (by simpa using u2)]
        exact ⟨_, _, _, rfl, by omega, by omega⟩
      · rw [if_neg h2]
        exact ⟨_, _, _, rfl, by omega, by omega⟩
theorem addr_j1 {b : List Int} (h : Bytes b) {p : Int} (hp : 0 ≤ p) (hp1 : p ≤ 800000000000) (a n : Int) {k : Nat} (hk : 1 < k) : ∃ x q, spec_l5Addr.j0 k true b p a n = some (x, q) ∧ p ≤ q ∧ q ≤ p + 2 := by
  obtain ⟨k, rfl⟩ : ∃ m, k = m + 1 := ⟨k - 1, by omega⟩
  obtain ⟨v1, e1, l1, u1⟩ := pick_s h (p := p) (n := 65536) (by omega) (by omega) (by omega) (k := k) (by omega)
  obtain ⟨v2, e2, l2, u2⟩ := pick_s h (p := p + 1) (n := 5) (by omega) (by omega) (by omega) (k := k) (by omega)
  simp only [spec_l5Addr.j0, if_true, e1, e2, Option.bind_some]
  rw [if_pos l2, if_pos (by simpa using u2)]
  exact ⟨_, _, rfl, by omega, by omega⟩
theorem addr_j2 {b : List Int} (h : Bytes b) {p : Int} (hp : 0 ≤ p) (hp1 : p ≤ 800000000000) {a n : Int} (hok : okB a n = true) {k : Nat} (hk : 30 < k) : ∃ x q, spec_l5Addr.j0 k false b p a n = some (x, q) ∧ p ≤ q ∧ q ≤ p + 2 := by
  obtain ⟨k, rfl⟩ : ∃ m, k = m + 1 := ⟨k - 1, by omega⟩
  have hz := okB_iff.1 hok
  have hs := sz_pos n
  obtain ⟨v1, e1, l1, u1⟩ := pick_s h (p := p) (n := sz n) (by omega) (by omega) (by omega) (k := k) (by omega)
  obtain ⟨v2, e2, l2, u2⟩ := pick_s h (p := p + 1) (n := 5) (by omega) (by omega) (by omega) (k := k) (by omega)
  simp only [spec_l5Addr.j0, Bool.false_eq_true, if_false, size_s hz.1 hz.2.1 (show 20 ≤ k by omega), e1, e2, Option.bind_some]
  rw [if_pos l2, if_pos (by simpa using u2)]
  exact ⟨_, _, rfl, by omega, by omega⟩
theorem addr_s {b : List Int} (h : Bytes b) {p : Int} (hp : 0 ≤ p) (hp1 : p ≤ 700000000000) (a n : Int) {k : Nat} (hk : 30 < k) : ∃ x q, spec_l5Addr.f k b p a n = some (x, q) ∧ p ≤ q ∧ q ≤ p + 3 := by
  unfold spec_l5Addr.f
  rw [ok_s (by omega), Option.bind_some]
  by_cases hok : okB a n = true
  · rw [if_pos hok]
    obtain ⟨v1, e1, l1, u1⟩ := pick_s h (p := p) (n := 4) (by omega) (by omega) (by omega) (k := k) (by omega)
    rw [e1, Option.bind_some]
    cases hv : v1 == 0 with
    | true =>
      obtain ⟨x, q, e, l, u⟩ := addr_j1 h (p := p + 1) (by omega) (by omega) a n (k := k) (by omega)
      exact ⟨x, q, e, by omega, by omega⟩
    | false =>
      obtain ⟨x, q, e, l, u⟩ := addr_j2 h (p := p + 1) (by omega) (by omega) hok (k := k) (by omega)
      exact ⟨x, q, e, by omega, by omega⟩
  · rw [if_neg hok]
    obtain ⟨x, q, e, l, u⟩ := addr_j1 h hp (by omega) a n (k := k) (by omega)
    exact ⟨x, q, e, by omega, by omega⟩
end Go.Proofs.Ytnakanjhdcakhaa.Pure
namespace Go.Proofs.Ytnakanjhdcakhaa.Pure
open Go.RowKit Go.Proofs.YtnakanjhdcakhaaW.PrintWords Go.Proofs.YtnakanjhdcakhaaW.PrintMore
open Q
set_option linter.unusedVariables false
set_option linter.unusedSimpArgs false
theorem half_ok {a n : Int} (h : okB a n = true) (hn : n < 16) : okB a (n + 1) = true ∧ okB (a + sz (n + 1)) (n + 1) = true := by
  obtain ⟨h0, h1, h2, h3, h4⟩ := okB_iff.1 h
  have hh := sz_half hn
  have hp := sz_pos (n + 1)
  have hd : sz n ∣ a := Int.dvd_of_emod_eq_zero h4
  have hd1 : sz (n + 1) ∣ a := Int.dvd_trans (sz_dvd (by omega)) hd
  have htop : a + sz n ≤ 65536 := by
    have h5 : sz n ∣ 65536 := by rw [← sz0]; exact sz_dvd h0
    obtain ⟨x, hx⟩ := hd
    obtain ⟨y, hy⟩ := h5
    have hps := sz_pos n
    have : x < y := by
      rcases Int.lt_or_le x y with h | h
      · exact h
      · have := Int.mul_le_mul_of_nonneg_left h (show 0 ≤ sz n by omega)
        omega
    have := Int.mul_le_mul_of_nonneg_left (show x + 1 ≤ y by omega) (show 0 ≤ sz n by omega)
    rw [Int.mul_add] at this
    omega
  refine ⟨okB_iff.2 ⟨by omega, by omega, h2, h3, Int.emod_eq_zero_of_dvd hd1⟩, okB_iff.2 ⟨by omega, by omega, by omega, by omega, Int.emod_eq_zero_of_dvd (Int.dvd_add hd1 (Int.dvd_refl _))⟩⟩
theorem root_ok : okB 0 0 = true := by decide +kernel
end Go.Proofs.Ytnakanjhdcakhaa.Pure
