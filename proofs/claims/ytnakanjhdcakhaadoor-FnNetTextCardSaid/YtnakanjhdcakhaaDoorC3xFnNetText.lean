/- Lemmas for FnNetText, part 3 of 3: the program's functions as Lean functions, what each Go function comes to, and plain lemmas on them. No statement of its own. -/
import Derived.Lib.ItoaLen
import Derived.ProofKit
import Derived.Deep.Slices
import Derived.ChangeSame
import Derived.WideShapes
import Derived.Test.YtnakanjhdcakhaaDoorC1xFnNetText
import Derived.Test.YtnakanjhdcakhaaDoorC2xFnNetText
namespace Go.Proofs.YtnakanjhdcakhaaDoor.Q
open Go.RowKit Go.Proofs.YtnakanjhdcakhaaDoorW.PrintWords Go.Proofs.YtnakanjhdcakhaaDoorW.PrintLast Go.Proofs.YtnakanjhdcakhaaDoorW.PrintMore
attribute [local go_sem] max2_int min2_int max_two min_two max_three min_three max_four min_four   -- for this text's walks alone
set_option linter.unusedVariables false
set_option linter.unusedSimpArgs false
def spec_DrawNetAddr.f (k : Nat) (l0 : List Int) : Option (ByteArray) := (spec_l1Open.f l0).bind fun bt101 => ((spec_l1Rd_pick.f k bt101.1 bt101.2 3).bind fun bt104 => (if bt104.1 = 0 then ((spec_l1Rd_of.f k bt101.1 bt104.2 (([(⟨#[]⟩ : ByteArray), (⟨#[46]⟩ : ByteArray), (⟨#[49, 46]⟩ : ByteArray), (⟨#[46, 49]⟩ : ByteArray), (⟨#[50, 53, 54, 46, 48]⟩ : ByteArray), (⟨#[48, 46, 50, 53, 54]⟩ : ByteArray), (⟨#[48, 49, 46, 50]⟩ : ByteArray), (⟨#[49, 46, 50, 46, 51]⟩ : ByteArray), (⟨#[49]⟩ : ByteArray), (⟨#[45, 49, 46, 50]⟩ : ByteArray), (⟨#[49, 46, 50, 32]⟩ : ByteArray), (⟨#[57, 57, 57, 57, 57, 46, 49]⟩ : ByteArray), (⟨#[48, 46, 48]⟩ : ByteArray), (⟨#[50, 53, 53, 46, 50, 53, 53]⟩ : ByteArray), (⟨#[49, 46, 48, 48]⟩ : ByteArray)] : List ByteArray))).bind fun bt109 => (some bt109.1)) else ((spec_l1Rd_pick.f k bt101.1 bt104.2 65536).bind fun bt111 => ((spec_NetAddrText.f k bt111.1).bind fun t113 => (some t113)))))
set_option maxHeartbeats 8000000 in
set_option maxRecDepth 100000 in
theorem spec_DrawNetAddr.calls (k : Nat) (A0 : Option Addr) (c0 : Nat) (l0 : List Int) (r : ByteArray) (w : World) (hr0 : Kd.C (Kd.int .u8) w A0 l0.length l0) (hc0 : l0.length ≤ c0) (h : spec_DrawNetAddr.f k l0 = some r) :
    Calls Tryd.prog 18 #[.slice A0 l0.length c0] w fun e w' => e = .returned (.string r) ∧ Below w.heap.size w w' := by
  have HR0 := Aside0.mk hr0
  have HC0 := Aside0.mk hc0
  clear hr0 hc0
  have HB := Aside0.mk (Below.refl w.heap.size w)
  have H : ((spec_l1Open.f l0).bind fun bt101 => ((spec_l1Rd_pick.f k bt101.1 bt101.2 3).bind fun bt104 => (if bt104.1 = 0 then ((spec_l1Rd_of.f k bt101.1 bt104.2 (([(⟨#[]⟩ : ByteArray), (⟨#[46]⟩ : ByteArray), (⟨#[49, 46]⟩ : ByteArray), (⟨#[46, 49]⟩ : ByteArray), (⟨#[50, 53, 54, 46, 48]⟩ : ByteArray), (⟨#[48, 46, 50, 53, 54]⟩ : ByteArray), (⟨#[48, 49, 46, 50]⟩ : ByteArray), (⟨#[49, 46, 50, 46, 51]⟩ : ByteArray), (⟨#[49]⟩ : ByteArray), (⟨#[45, 49, 46, 50]⟩ : ByteArray), (⟨#[49, 46, 50, 32]⟩ : ByteArray), (⟨#[57, 57, 57, 57, 57, 46, 49]⟩ : ByteArray), (⟨#[48, 46, 48]⟩ : ByteArray), (⟨#[50, 53, 53, 46, 50, 53, 53]⟩ : ByteArray), (⟨#[49, 46, 48, 48]⟩ : ByteArray)] : List ByteArray))).bind fun bt109 => (some bt109.1)) else ((spec_l1Rd_pick.f k bt101.1 bt104.2 65536).bind fun bt111 => ((spec_NetAddrText.f k bt111.1).bind fun t113 => (some t113)))))) = some r := h
  clear h
  replace H := Option.bind_eq_some_iff.mp H
  obtain ⟨⟨t101, t102⟩, A20, H⟩ := H
  replace H : ((spec_l1Rd_pick.f k t101 t102 3).bind fun bt104 => (if bt104.1 = 0 then ((spec_l1Rd_of.f k t101 bt104.2 (([(⟨#[]⟩ : ByteArray), (⟨#[46]⟩ : ByteArray), (⟨#[49, 46]⟩ : ByteArray), (⟨#[46, 49]⟩ : ByteArray), (⟨#[50, 53, 54, 46, 48]⟩ : ByteArray), (⟨#[48, 46, 50, 53, 54]⟩ : ByteArray), (⟨#[48, 49, 46, 50]⟩ : ByteArray), (⟨#[49, 46, 50, 46, 51]⟩ : ByteArray), (⟨#[49]⟩ : ByteArray), (⟨#[45, 49, 46, 50]⟩ : ByteArray), (⟨#[49, 46, 50, 32]⟩ : ByteArray), (⟨#[57, 57, 57, 57, 57, 46, 49]⟩ : ByteArray), (⟨#[48, 46, 48]⟩ : ByteArray), (⟨#[50, 53, 53, 46, 50, 53, 53]⟩ : ByteArray), (⟨#[49, 46, 48, 48]⟩ : ByteArray)] : List ByteArray))).bind fun bt109 => (some bt109.1)) else ((spec_l1Rd_pick.f k t101 bt104.2 65536).bind fun bt111 => ((spec_NetAddrText.f k bt111.1).bind fun t113 => (some t113))))) = some r := H
  have A2 := Aside0.mk A20
  clear A20
  replace H := Option.bind_eq_some_iff.mp H
  obtain ⟨⟨t104, t105⟩, A30, H⟩ := H
  replace H : (if t104 = 0 then ((spec_l1Rd_of.f k t101 t105 (([(⟨#[]⟩ : ByteArray), (⟨#[46]⟩ : ByteArray), (⟨#[49, 46]⟩ : ByteArray), (⟨#[46, 49]⟩ : ByteArray), (⟨#[50, 53, 54, 46, 48]⟩ : ByteArray), (⟨#[48, 46, 50, 53, 54]⟩ : ByteArray), (⟨#[48, 49, 46, 50]⟩ : ByteArray), (⟨#[49, 46, 50, 46, 51]⟩ : ByteArray), (⟨#[49]⟩ : ByteArray), (⟨#[45, 49, 46, 50]⟩ : ByteArray), (⟨#[49, 46, 50, 32]⟩ : ByteArray), (⟨#[57, 57, 57, 57, 57, 46, 49]⟩ : ByteArray), (⟨#[48, 46, 48]⟩ : ByteArray), (⟨#[50, 53, 53, 46, 50, 53, 53]⟩ : ByteArray), (⟨#[49, 46, 48, 48]⟩ : ByteArray)] : List ByteArray))).bind fun bt109 => (some bt109.1)) else ((spec_l1Rd_pick.f k t101 t105 65536).bind fun bt111 => ((spec_NetAddrText.f k bt111.1).bind fun t113 => (some t113)))) = some r := H
  have A3 := Aside0.mk A30
  clear A30
  by_cases c4 : t104 = 0
  · rw [if_pos c4] at H
    have c4b0 : (t104 == 0) = true := beq_iff_eq.mpr c4
    have c4b1 : (t104 != 0) = false := bne_eq_false_iff_eq.mpr c4
    clear c4
    obtain ⟨y106, hy106⟩ : ∃ y_ : List ByteArray, y_ = (([(⟨#[]⟩ : ByteArray), (⟨#[46]⟩ : ByteArray), (⟨#[49, 46]⟩ : ByteArray), (⟨#[46, 49]⟩ : ByteArray), (⟨#[50, 53, 54, 46, 48]⟩ : ByteArray), (⟨#[48, 46, 50, 53, 54]⟩ : ByteArray), (⟨#[48, 49, 46, 50]⟩ : ByteArray), (⟨#[49, 46, 50, 46, 51]⟩ : ByteArray), (⟨#[49]⟩ : ByteArray), (⟨#[45, 49, 46, 50]⟩ : ByteArray), (⟨#[49, 46, 50, 32]⟩ : ByteArray), (⟨#[57, 57, 57, 57, 57, 46, 49]⟩ : ByteArray), (⟨#[48, 46, 48]⟩ : ByteArray), (⟨#[50, 53, 53, 46, 50, 53, 53]⟩ : ByteArray), (⟨#[49, 46, 48, 48]⟩ : ByteArray)] : List ByteArray)) := ⟨_, rfl⟩
    replace H : ((spec_l1Rd_of.f k t101 t105 y106).bind fun bt109 => (some bt109.1)) = some r := by first | (rw [hy106]; with_reducible exact H) | (have H2_ := (Option.bind_some _ _).symm.trans H; rw [hy106]; with_reducible exact H2_) | (have H2_ := (Option.bind_some _ _).symm.trans H; with_reducible exact H2_) | with_reducible exact H | (rw [hy106]; exact H) | exact H
    have Ny106 := Aside0.mk hy106
    clear hy106
    replace H := Option.bind_eq_some_iff.mp H
    obtain ⟨⟨t109, t110⟩, A50, H⟩ := H
    replace H : (some t109) = some r := H
    have A5 := Aside0.mk A50
    clear A50
    obtain rfl := Option.some.inj H
    go_enter Tryd.func18, Tryd.ntmps18
    go_wp2_with (first | ((with_reducible refine gate_callee (f := 24) rfl ?_); refine goesL_ (some 5) rfl rfl Tryd.func24 (by kernel_rfl) rfl #[.slice A0 l0.length c0] rfl (by (try simp only [List.map_toArray, List.map_cons, List.map_nil]); first | done | rfl | (simp only [List.length_drop, List.length_take]; rfl)) ?_; (with_reducible refine (spec_l1Open.calls _ _ l0 t101 t102 w _ ?side1 ?side2 ?side3 A2.out).mono ?_); (case side1 => repeat (first | (with_reducible first | exact HB.out | apply below_alloc | apply pw_below_drewN | apply below_drew1) | exact HB.out)); (case side2 => exact HR0.out); (case side3 => exact HC0.out); rintro e w6 ⟨g103, rfl, hi, hb, hb2⟩; refine ⟨_, rfl, ?_⟩; have n0_ := Aside0.mk (hb); have n1_ := Aside0.mk (hi); clear HB; have HB := n0_; have HI103 := n1_; clear n0_ n1_; (try clear hb); (try clear hb2); (try clear hk); (try clear hi)) | ((with_reducible refine gate_callee (f := 26) rfl ?_); refine goesL_ (some 7) rfl rfl Tryd.func26 (by kernel_rfl) rfl #[.pointer (some ⟨g103, 0, none⟩), .int .i64 3] rfl (by (try simp only [List.map_toArray, List.map_cons, List.map_nil]); first | done | rfl | (simp only [List.length_drop, List.length_take]; rfl)) ?_; (with_reducible refine (spec_l1Rd_pick.calls k g103 t101 t102 3 t104 t105 w _ ?side1 ?side2 A3.out).mono ?_); (case side1 => repeat (first | (with_reducible first | exact HI103.out | apply IsS55.alloc | apply IsS55.drewN | apply IsS55.drew | apply IsS55.set_1) | exact HI103.out)); (case side2 => repeat (first | (with_reducible first | exact HB.out | apply below_alloc | apply pw_below_drewN | apply below_drew1 | refine below_set ?_ (IsS55.ge HI103.out)) | exact HB.out)); rintro e w7 ⟨rfl, hi, hb, hk⟩; refine ⟨_, rfl, ?_⟩; have n0_ := Aside0.mk (hb); have n1_ := Aside0.mk (hi); clear HB; clear HI103; have HB := n0_; have HI103 := n1_; clear n0_ n1_; (try clear hb); (try clear hb2); (try clear hk); (try clear hi)) | ((with_reducible refine gate_dst (N := 11) rfl ?_); refine Kd.R_lit Kd.string _ 9 ?hg (N := 11) ?hd (xs := ([(⟨#[]⟩ : ByteArray), (⟨#[46]⟩ : ByteArray), (⟨#[49, 46]⟩ : ByteArray), (⟨#[46, 49]⟩ : ByteArray), (⟨#[50, 53, 54, 46, 48]⟩ : ByteArray), (⟨#[48, 46, 50, 53, 54]⟩ : ByteArray), (⟨#[48, 49, 46, 50]⟩ : ByteArray), (⟨#[49, 46, 50, 46, 51]⟩ : ByteArray), (⟨#[49]⟩ : ByteArray), (⟨#[45, 49, 46, 50]⟩ : ByteArray), (⟨#[49, 46, 50, 32]⟩ : ByteArray), (⟨#[57, 57, 57, 57, 57, 46, 49]⟩ : ByteArray), (⟨#[48, 46, 48]⟩ : ByteArray), (⟨#[50, 53, 53, 46, 50, 53, 53]⟩ : ByteArray), (⟨#[49, 46, 48, 48]⟩ : ByteArray)] : List ByteArray)) (inner := [.string (⟨#[]⟩ : ByteArray), .string (⟨#[46]⟩ : ByteArray), .string (⟨#[49, 46]⟩ : ByteArray), .string (⟨#[46, 49]⟩ : ByteArray), .string (⟨#[50, 53, 54, 46, 48]⟩ : ByteArray), .string (⟨#[48, 46, 50, 53, 54]⟩ : ByteArray), .string (⟨#[48, 49, 46, 50]⟩ : ByteArray), .string (⟨#[49, 46, 50, 46, 51]⟩ : ByteArray), .string (⟨#[49]⟩ : ByteArray), .string (⟨#[45, 49, 46, 50]⟩ : ByteArray), .string (⟨#[49, 46, 50, 32]⟩ : ByteArray), .string (⟨#[57, 57, 57, 57, 57, 46, 49]⟩ : ByteArray), .string (⟨#[48, 46, 48]⟩ : ByteArray), .string (⟨#[50, 53, 53, 46, 50, 53, 53]⟩ : ByteArray), .string (⟨#[49, 46, 48, 48]⟩ : ByteArray)]) (ok := fun _ => True) (okp := fun _ => True) ?hr ?hp (fun _ hk => hk) trivial (Below.refl _ _) (Nat.le_refl _) (by simp) ?_; (case hd => rfl); (case hg => rfl); (case hr => first | (go_simp; done) | (go_simp; rfl)); (case hp => exact (Reps.one (show Kd.M Kd.string _ _ _ (⟨#[]⟩ : ByteArray) [.string (⟨#[]⟩ : ByteArray)] from rfl) (Reps.one (show Kd.M Kd.string _ _ _ (⟨#[46]⟩ : ByteArray) [.string (⟨#[46]⟩ : ByteArray)] from rfl) (Reps.one (show Kd.M Kd.string _ _ _ (⟨#[49, 46]⟩ : ByteArray) [.string (⟨#[49, 46]⟩ : ByteArray)] from rfl) (Reps.one (show Kd.M Kd.string _ _ _ (⟨#[46, 49]⟩ : ByteArray) [.string (⟨#[46, 49]⟩ : ByteArray)] from rfl) (Reps.one (show Kd.M Kd.string _ _ _ (⟨#[50, 53, 54, 46, 48]⟩ : ByteArray) [.string (⟨#[50, 53, 54, 46, 48]⟩ : ByteArray)] from rfl) (Reps.one (show Kd.M Kd.string _ _ _ (⟨#[48, 46, 50, 53, 54]⟩ : ByteArray) [.string (⟨#[48, 46, 50, 53, 54]⟩ : ByteArray)] from rfl) (Reps.one (show Kd.M Kd.string _ _ _ (⟨#[48, 49, 46, 50]⟩ : ByteArray) [.string (⟨#[48, 49, 46, 50]⟩ : ByteArray)] from rfl) (Reps.one (show Kd.M Kd.string _ _ _ (⟨#[49, 46, 50, 46, 51]⟩ : ByteArray) [.string (⟨#[49, 46, 50, 46, 51]⟩ : ByteArray)] from rfl) (Reps.one (show Kd.M Kd.string _ _ _ (⟨#[49]⟩ : ByteArray) [.string (⟨#[49]⟩ : ByteArray)] from rfl) (Reps.one (show Kd.M Kd.string _ _ _ (⟨#[45, 49, 46, 50]⟩ : ByteArray) [.string (⟨#[45, 49, 46, 50]⟩ : ByteArray)] from rfl) (Reps.one (show Kd.M Kd.string _ _ _ (⟨#[49, 46, 50, 32]⟩ : ByteArray) [.string (⟨#[49, 46, 50, 32]⟩ : ByteArray)] from rfl) (Reps.one (show Kd.M Kd.string _ _ _ (⟨#[57, 57, 57, 57, 57, 46, 49]⟩ : ByteArray) [.string (⟨#[57, 57, 57, 57, 57, 46, 49]⟩ : ByteArray)] from rfl) (Reps.one (show Kd.M Kd.string _ _ _ (⟨#[48, 46, 48]⟩ : ByteArray) [.string (⟨#[48, 46, 48]⟩ : ByteArray)] from rfl) (Reps.one (show Kd.M Kd.string _ _ _ (⟨#[50, 53, 53, 46, 50, 53, 53]⟩ : ByteArray) [.string (⟨#[50, 53, 53, 46, 50, 53, 53]⟩ : ByteArray)] from rfl) (Reps.one (show Kd.M Kd.string _ _ _ (⟨#[49, 46, 48, 48]⟩ : ByteArray) [.string (⟨#[49, 46, 48, 48]⟩ : ByteArray)] from rfl) (Reps.none _ _))))))))))))))))); intro v107 w8 ho9 hb hg_ hnew_; clear hg_ hnew_; (first | rw [← Ny106.out] at ho9 | (simp only [Int.reduceToNat] at ho9; rw [← Ny106.out] at ho9)); have n0_ := Aside0.mk (Kd.R_lower ho9 (below_size (by repeat (first | (with_reducible first | exact HB.out | apply below_alloc | apply pw_below_drewN | apply below_drew1 | refine below_set ?_ (IsS55.ge HI103.out)) | exact HB.out)))); have n1_ := Aside0.mk (IsS55.below (by repeat (first | (with_reducible first | exact HI103.out | apply IsS55.alloc | apply IsS55.drewN | apply IsS55.drew | apply IsS55.set_1) | exact HI103.out)) hb); have n2_ := Aside0.mk (below_step (by repeat (first | (with_reducible first | exact HB.out | apply below_alloc | apply pw_below_drewN | apply below_drew1 | refine below_set ?_ (IsS55.ge HI103.out)) | exact HB.out)) hb); clear HI103; clear HB; have HO108 := n0_; have HI103 := n1_; have HB := n2_; clear n0_ n1_ n2_; clear hb ho9; obtain ⟨Ao10, co10, eo10⟩ := Kd.R_slice HO108.out; subst eo10) | ((with_reducible refine gate_callee (f := 27) rfl ?_); refine goesL_ (some 12) rfl rfl Tryd.func27 (by kernel_rfl) rfl #[.pointer (some ⟨g103, 0, none⟩), .slice Ao10 y106.length co10] rfl (by (try simp only [List.map_toArray, List.map_cons, List.map_nil]); first | done | rfl | (simp only [List.length_drop, List.length_take]; rfl)) ?_; (with_reducible refine (spec_l1Rd_of.calls k g103 t101 t105 _ _ y106 t109 t110 w _ ?side1 ?side2 ?side3 ?side4 ?side5 A5.out).mono ?_); (case side1 => repeat (first | (with_reducible first | exact HI103.out | apply IsS55.alloc | apply IsS55.drewN | apply IsS55.drew | apply IsS55.set_1) | exact HI103.out)); (case side2 => repeat (first | (with_reducible first | exact HB.out | apply below_alloc | apply pw_below_drewN | apply below_drew1 | refine below_set ?_ (IsS55.ge HI103.out)) | exact HB.out)); (case side3 => repeat (first | exact (Kd.R_reads' HO108.out).2.2 | (with_reducible refine Kd.C_alloc ?_ _) | (with_reducible refine Kd.C_drewN ?_ _) | (with_reducible refine Kd.C_drew ?_))); (case side4 => exact (Kd.R_reads' HO108.out).2.1); (case side5 => exact far_slice (IsS55.own_ne HI103.out HO108.out (by decide))); rintro e w11 ⟨rfl, hi, hb, hk⟩; refine ⟨_, rfl, ?_⟩; have n0_ := Aside0.mk (Kd.R_mono (Kd.R_keep (IsS55.apart (show IsS55 w _ g103 t101 t105 from by repeat (first | (with_reducible first | exact HI103.out | apply IsS55.alloc | apply IsS55.drewN | apply IsS55.drew | apply IsS55.set_1) | exact HI103.out)) (by (with_reducible repeat (first | apply Kd.R_alloc | apply Kd.R_drewN | apply Kd.R_drew)); exact HO108.out) (by decide)) hk (fun _ h => h.2)) (fun _ h => h.1)); have n1_ := Aside0.mk (hb); have n2_ := Aside0.mk (hi); clear HO108; clear HB; clear HI103; have HO108 := n0_; have HB := n1_; have HI103 := n2_; clear n0_ n1_ n2_; (try clear hb); (try clear hb2); (try clear hk); (try clear hi)))
    go_ret
    exact ⟨by first | rfl | (simp [errW_none, errW_some] <;> rfl) | (simp [*, errW_none, errW_some] <;> rfl), by repeat (first | (with_reducible first | exact HB.out | apply below_alloc | apply pw_below_drewN | apply below_drew1 | refine below_set ?_ (IsS55.ge HI103.out)) | exact HB.out)⟩
  · rw [if_neg c4] at H
    have c4b0 : (t104 == 0) = false := beq_eq_false_iff_ne.mpr c4
    have c4b1 : (t104 != 0) = true := bne_iff_ne.mpr c4
    replace H := Option.bind_eq_some_iff.mp H
    obtain ⟨⟨t111, t112⟩, A120, H⟩ := H
    replace H : ((spec_NetAddrText.f k t111).bind fun t113 => (some t113)) = some r := H
    have A12 := Aside0.mk A120
    clear A120
    replace H := Option.bind_eq_some_iff.mp H
    obtain ⟨t113, A130, H⟩ := H
    replace H : (some t113) = some r := H
    have A13 := Aside0.mk A130
    clear A130
    obtain rfl := Option.some.inj H
    go_enter Tryd.func18, Tryd.ntmps18
    go_wp2_with (first | ((with_reducible refine gate_callee (f := 24) rfl ?_); refine goesL_ (some 5) rfl rfl Tryd.func24 (by kernel_rfl) rfl #[.slice A0 l0.length c0] rfl (by (try simp only [List.map_toArray, List.map_cons, List.map_nil]); first | done | rfl | (simp only [List.length_drop, List.length_take]; rfl)) ?_; (with_reducible refine (spec_l1Open.calls _ _ l0 t101 t102 w _ ?side1 ?side2 ?side3 A2.out).mono ?_); (case side1 => repeat (first | (with_reducible first | exact HB.out | apply below_alloc | apply pw_below_drewN | apply below_drew1) | exact HB.out)); (case side2 => exact HR0.out); (case side3 => exact HC0.out); rintro e w14 ⟨g103, rfl, hi, hb, hb2⟩; refine ⟨_, rfl, ?_⟩; have n0_ := Aside0.mk (hb); have n1_ := Aside0.mk (hi); clear HB; have HB := n0_; have HI103 := n1_; clear n0_ n1_; (try clear hb); (try clear hb2); (try clear hk); (try clear hi)) | ((with_reducible refine gate_callee (f := 26) rfl ?_); refine goesL_ (some 7) rfl rfl Tryd.func26 (by kernel_rfl) rfl #[.pointer (some ⟨g103, 0, none⟩), .int .i64 3] rfl (by (try simp only [List.map_toArray, List.map_cons, List.map_nil]); first | done | rfl | (simp only [List.length_drop, List.length_take]; rfl)) ?_; (with_reducible refine (spec_l1Rd_pick.calls k g103 t101 t102 3 t104 t105 w _ ?side1 ?side2 A3.out).mono ?_); (case side1 => repeat (first | (with_reducible first | exact HI103.out | apply IsS55.alloc | apply IsS55.drewN | apply IsS55.drew | apply IsS55.set_1) | exact HI103.out)); (case side2 => repeat (first | (with_reducible first | exact HB.out | apply below_alloc | apply pw_below_drewN | apply below_drew1 | refine below_set ?_ (IsS55.ge HI103.out)) | exact HB.out)); rintro e w15 ⟨rfl, hi, hb, hk⟩; refine ⟨_, rfl, ?_⟩; have n0_ := Aside0.mk (hb); have n1_ := Aside0.mk (hi); clear HB; clear HI103; have HB := n0_; have HI103 := n1_; clear n0_ n1_; (try clear hb); (try clear hb2); (try clear hk); (try clear hi)) | ((with_reducible refine gate_callee (f := 26) rfl ?_); refine goesL_ (some 14) rfl rfl Tryd.func26 (by kernel_rfl) rfl #[.pointer (some ⟨g103, 0, none⟩), .int .i64 65536] rfl (by (try simp only [List.map_toArray, List.map_cons, List.map_nil]); first | done | rfl | (simp only [List.length_drop, List.length_take]; rfl)) ?_; (with_reducible refine (spec_l1Rd_pick.calls k g103 t101 t105 65536 t111 t112 w _ ?side1 ?side2 A12.out).mono ?_); (case side1 => repeat (first | (with_reducible first | exact HI103.out | apply IsS55.alloc | apply IsS55.drewN | apply IsS55.drew | apply IsS55.set_1) | exact HI103.out)); (case side2 => repeat (first | (with_reducible first | exact HB.out | apply below_alloc | apply pw_below_drewN | apply below_drew1 | refine below_set ?_ (IsS55.ge HI103.out)) | exact HB.out)); rintro e w16 ⟨rfl, hi, hb, hk⟩; refine ⟨_, rfl, ?_⟩; have n0_ := Aside0.mk (hb); have n1_ := Aside0.mk (hi); clear HB; clear HI103; have HB := n0_; have HI103 := n1_; clear n0_ n1_; (try clear hb); (try clear hb2); (try clear hk); (try clear hi)) | ((with_reducible refine gate_callee (f := 20) rfl ?_); refine goesL_ (some 15) rfl rfl Tryd.func20 (by kernel_rfl) rfl #[.int .i64 t111] rfl (by (try simp only [List.map_toArray, List.map_cons, List.map_nil]); first | done | rfl | (simp only [List.length_drop, List.length_take]; rfl)) ?_; (with_reducible refine (spec_NetAddrText.calls k t111 t113 _ A13.out).mono ?_); rintro e w17 ⟨rfl, hb⟩; refine ⟨_, rfl, ?_⟩; have n0_ := Aside0.mk (IsS55.below (by repeat (first | (with_reducible first | exact HI103.out | apply IsS55.alloc | apply IsS55.drewN | apply IsS55.drew | apply IsS55.set_1) | exact HI103.out)) hb); have n1_ := Aside0.mk (below_step (by repeat (first | (with_reducible first | exact HB.out | apply below_alloc | apply pw_below_drewN | apply below_drew1 | refine below_set ?_ (IsS55.ge HI103.out)) | exact HB.out)) hb); clear HI103; clear HB; have HI103 := n0_; have HB := n1_; clear n0_ n1_; (try clear hb); (try clear hb2); (try clear hk); (try clear hi)))
    go_ret
    exact ⟨by first | rfl | (simp [errW_none, errW_some] <;> rfl) | (simp [*, errW_none, errW_some] <;> rfl), by repeat (first | (with_reducible first | exact HB.out | apply below_alloc | apply pw_below_drewN | apply below_drew1 | refine below_set ?_ (IsS55.ge HI103.out)) | exact HB.out)⟩
end Go.Proofs.YtnakanjhdcakhaaDoor.Q
namespace Go.Proofs.YtnakanjhdcakhaaDoor.Q
open Go.RowKit Go.Proofs.YtnakanjhdcakhaaDoorW.PrintWords Go.Proofs.YtnakanjhdcakhaaDoorW.PrintLast Go.Proofs.YtnakanjhdcakhaaDoorW.PrintMore
attribute [local go_sem] max2_int min2_int max_two min_two max_three min_three max_four min_four   -- for this text's walks alone
set_option linter.unusedVariables false
set_option linter.unusedSimpArgs false
attribute [local go_sem high] eqA25
mutual
def laws_FnNetText.j0 : Nat → List Int → List Int → Bool → Option (Bool)
  | 0, _, _, _ => none
  | k + 1, x0, x1, x25 => if x25 = true then (some true) else ((spec_DrawNetParse.f k x0).bind fun t101 => ((impl_NetParse.f t101).bind fun bt102 => ((spec_NetParse.f k t101).bind fun bt106 => (if (!(bt102.1 == bt106.1) || (!(bt102.2.1 == bt106.2.1))) = true then (laws_FnNetText.j1 k x0 x1 true) else (if (bt102.2.2 != bt106.2.2) = true then (laws_FnNetText.j1 k x0 x1 true) else (if bt102.2.2 = true then ((impl_NetOk.f bt102.1 bt102.2.1).bind fun t110 => (if t110 = true then ((impl_NetText.f bt102.1 bt102.2.1).bind fun t111 => (laws_FnNetText.j1 k x0 x1 (t111.toList != t101.toList))) else (laws_FnNetText.j1 k x0 x1 true))) else (laws_FnNetText.j1 k x0 x1 false)))))))
def laws_FnNetText.j1 : Nat → List Int → List Int → Bool → Option (Bool)
  | 0, _, _, _ => none
  | k + 1, x0, x1, x59 => if x59 = true then (some false) else ((spec_DrawNetText.f k x1).bind fun bt112 => ((impl_NetText.f bt112.1 bt112.2).bind fun t115 => ((impl_NetParse.f t115).bind fun bt116 => ((spec_NetText.f k bt112.1 bt112.2).bind fun t120 => (if t115.toList = t120.toList then ((spec_NetOk.f k bt112.1 bt112.2).bind fun t121 => (if (bt116.2.2 != t121) = true then (laws_FnNetText.j2 k x0 x1 true) else (if bt116.2.2 = true then (laws_FnNetText.j2 k x0 x1 (!(bt116.1 == bt112.1) || (!(bt116.2.1 == bt112.2)))) else (laws_FnNetText.j2 k x0 x1 false)))) else (laws_FnNetText.j2 k x0 x1 true))))))
def laws_FnNetText.j2 : Nat → List Int → List Int → Bool → Option (Bool)
  | 0, _, _, _ => none
  | k + 1, x0, x1, x86 => if x86 = true then (some false) else ((spec_DrawNetAddrText.f k x0).bind fun t122 => ((impl_NetAddrText.f t122).bind fun t123 => ((spec_DrawNetAddr.f k x1).bind fun t124 => ((impl_NetAddr.f t124).bind fun t125 => ((spec_NetAddrText.f k t122).bind fun t126 => (if t123.toList = t126.toList then ((spec_NetAddr.f k t124).bind fun t127 => (if t125 = t127 then (if t122 < 0 then (if t125 < 0 then (some true) else ((impl_NetAddrText.f t125).bind fun t128 => (some (t128.toList == t124.toList)))) else (if t122 > 65535 then (if t125 < 0 then (some true) else ((impl_NetAddrText.f t125).bind fun t129 => (some (t129.toList == t124.toList)))) else ((impl_NetAddr.f t123).bind fun t130 => (if t130 = t122 then (if t125 < 0 then (some true) else ((impl_NetAddrText.f t125).bind fun t131 => (some (t131.toList == t124.toList)))) else (some false))))) else (some false))) else (some false)))))))
end
def laws_FnNetText.f (k : Nat) (l0 : List Int) (l1 : List Int) : Option (Bool) := if (l0.length : Int) > 1048576 then (laws_FnNetText.j0 k l0 l1 true) else (laws_FnNetText.j0 k l0 l1 (decide ((l1.length : Int) > 1048576)))
theorem laws_FnNetText.zHB {P : Prop} (h : P := by repeat (first | (with_reducible first | exact HB.out | apply below_alloc | apply pw_below_drewN | apply below_drew1 | refine below_set ?_ GE105.out | refine below_set ?_ GE109.out | refine below_set ?_ GE114.out | refine below_set ?_ GE119.out) | exact HB.out)) : P := h
theorem laws_FnNetText.zb {P Q : Prop} (x : Q) (h : Q → P := by intro x_; (with_reducible repeat (first | refine blk_drewN ?_ _ | refine blk_drew ?_ | refine blk_alloc ?_ _)); exact x_) : P := h x
theorem laws_FnNetText.zq {P Q : Prop} (x : Q) (h : Q → P := by intro x_; (with_reducible repeat (first | refine blk_drewN ?_ _ | refine blk_drew ?_ | refine blk_alloc ?_ _)); exact x_) : P := h x
theorem laws_FnNetText.y1 {P : Prop} (h : P := by refine zq ?_; refine blk_put (cs := #[.int .i64 t116, .int .i64 0]) ?_ 1 _ rfl; refine zq ?_; refine blk_put (cs := #[.int .i64 0, .int .i64 0]) ?_ 0 _ rfl; refine zq ?_; exact BK119.out) : P := h
theorem laws_FnNetText.y2 {P : Prop} (h : P := by (try simp only [List.map_toArray, List.map_cons, List.map_nil]); first | done | rfl | (simp only [List.length_drop, List.length_take]; rfl)) : P := h
theorem laws_FnNetText.y3 {P : Prop} (h : P := by refine zq ?_; refine blk_far ?_ NB105_119.out _; refine zq ?_; refine blk_far ?_ NB105_119.out _; refine zq ?_; exact BK105.out) : P := h
theorem laws_FnNetText.y4 {P : Prop} (h : P := by refine zq ?_; refine blk_far ?_ NB109_119.out _; refine zq ?_; refine blk_far ?_ NB109_119.out _; refine zq ?_; exact BK109.out) : P := h
theorem laws_FnNetText.y5 {P : Prop} (h : P := by refine zq ?_; refine blk_far ?_ NB114_119.out _; refine zq ?_; refine blk_far ?_ NB114_119.out _; refine zq ?_; exact BK114.out) : P := h
theorem laws_FnNetText.y6 {P : Prop} (h : P := by first | rfl | (simp; done) | (simp [*]; done)) : P := h
theorem laws_FnNetText.zA {p : Prop} (h : p) : Aside0 p := ⟨h⟩
set_option maxHeartbeats 8000000 in
set_option maxRecDepth 100000 in
theorem laws_FnNetText.calls (k : Nat) (A0 : Option Addr) (c0 : Nat) (l0 : List Int) (A1 : Option Addr) (c1 : Nat) (l1 : List Int) (r : Bool) (w : World) (hG : GA w) (hr0 : Kd.C (Kd.int .u8) w A0 l0.length l0) (hc0 : l0.length ≤ c0) (hr1 : Kd.C (Kd.int .u8) w A1 l1.length l1) (hc1 : l1.length ≤ c1) (h : laws_FnNetText.f k l0 l1 = some r) :
  Calls Tryd.prog 3 #[.slice A0 l0.length c0, .slice A1 l1.length c1] w fun e w' => e = .returned (.bool r) ∧ Below w.heap.size w w' := by
 have HG := zA hG
 clear hG
 have hu25 := Tryd.underlying25
 have HR0 := zA hr0
 have HC0 := zA hc0
 clear hr0 hc0
 have HR1 := zA hr1
 have HC1 := zA hc1
 clear hr1 hc1
 have HB := zA (Below.refl w.heap.size w)
 have H : (if (l0.length : Int) > 1048576 then (laws_FnNetText.j0 k l0 l1 true) else (laws_FnNetText.j0 k l0 l1 (decide ((l1.length : Int) > 1048576)))) = some r := h
 clear h
 have HC3 := zA H
 clear H
 go_enter Tryd.func3, Tryd.ntmps3
 go_upto_region 1 with (fail)
 go_cut [25] (fun v25 wc => ∃ (kq : Nat) (x25_2 : Bool), v25 = .bool x25_2 ∧ Aside0 (laws_FnNetText.j0 kq l0 l1 x25_2 = some r) ∧ Aside0 (kq ≤ k) ∧ Aside0 (Below w.heap.size w wc))
 case first =>
  have H := HC3.out
  clear HC3
  by_cases c4 : (l0.length : Int) > 1048576
  ·rw [if_pos c4] at H
   have c4b0 : decide (1048576 < (l0.length : Int)) = true := decide_eq_true c4
   have c4b1 : decide (1048576 < l0.length) = true := decide_eq_true (by omega)
   clear c4
   (first | rw [c4b0] | (simp only [i64_w, i32_w]; rw [c4b0]) | skip)
   have H' := zA H
   clear H
   go_wp2
   go_meet
   case rel => exact ⟨_, (true), y6 , H', ⟨by first | omega | exact Nat.le_refl _⟩, ⟨zHB⟩⟩
  rw [if_neg c4] at H
  have c4b0 : decide (1048576 < (l0.length : Int)) = false := decide_eq_false c4
  have c4b1 : decide (1048576 < l0.length) = false := decide_eq_false (by omega)
  clear c4
  (first | rw [c4b0] | (simp only [i64_w, i32_w]; rw [c4b0]) | skip)
  have H' := zA H
  clear H
  go_wp2
  go_meet
  case rel => exact ⟨_, (decide ((l1.length : Int) > 1048576)), y6 , H', ⟨by first | omega | exact Nat.le_refl _⟩, ⟨zHB⟩⟩
 case rest =>
  clear HC3
  try clear c1
  try clear p2
  try clear c3
  try clear c4
  try clear c4b0
  try clear c4b1
  obtain ⟨kq, x25_2, rfl, HA, HJ2, HB⟩ := hcut
  cases kq with
  | zero => exact absurd HA.out (by simp [laws_FnNetText.j0])
  | succ kj2 => ?_
  have H := HA.out
  clear HA
  simp only [laws_FnNetText.j0] at H
  by_cases c5 : x25_2 = true
  ·subst c5
   have H1 : (some true) = some r := by rw [if_pos rfl] at H; exact H
   clear H
   have H := H1
   clear H1
   obtain rfl := Option.some.inj H
   go_wp2
   go_ret
   exact ⟨by first | rfl | (simp [errW_none, errW_some] <;> rfl) | (simp [*, errW_none, errW_some] <;> rfl), zHB⟩
  replace c5 := Bool.eq_false_iff.mpr c5
  subst c5
  have H1 : ((spec_DrawNetParse.f kj2 l0).bind fun t101 => ((impl_NetParse.f t101).bind fun bt102 => ((spec_NetParse.f kj2 t101).bind fun bt106 => (if (!(bt102.1 == bt106.1) || (!(bt102.2.1 == bt106.2.1))) = true then (laws_FnNetText.j1 kj2 l0 l1 true) else (if (bt102.2.2 != bt106.2.2) = true then (laws_FnNetText.j1 kj2 l0 l1 true) else (if bt102.2.2 = true then ((impl_NetOk.f bt102.1 bt102.2.1).bind fun t110 => (if t110 = true then ((impl_NetText.f bt102.1 bt102.2.1).bind fun t111 => (laws_FnNetText.j1 kj2 l0 l1 (t111.toList != t101.toList))) else (laws_FnNetText.j1 kj2 l0 l1 true))) else (laws_FnNetText.j1 kj2 l0 l1 false))))))) = some r := by rw [if_neg (show ¬ (false = true) by decide)] at H; exact H
  clear H
  have H := H1
  clear H1
  replace H := Option.bind_eq_some_iff.mp H
  obtain ⟨t101, A60, H⟩ := H
  replace H : ((impl_NetParse.f t101).bind fun bt102 => ((spec_NetParse.f kj2 t101).bind fun bt106 => (if (!(bt102.1 == bt106.1) || (!(bt102.2.1 == bt106.2.1))) = true then (laws_FnNetText.j1 kj2 l0 l1 true) else (if (bt102.2.2 != bt106.2.2) = true then (laws_FnNetText.j1 kj2 l0 l1 true) else (if bt102.2.2 = true then ((impl_NetOk.f bt102.1 bt102.2.1).bind fun t110 => (if t110 = true then ((impl_NetText.f bt102.1 bt102.2.1).bind fun t111 => (laws_FnNetText.j1 kj2 l0 l1 (t111.toList != t101.toList))) else (laws_FnNetText.j1 kj2 l0 l1 true))) else (laws_FnNetText.j1 kj2 l0 l1 false)))))) = some r := H
  have A6 := zA A60
  clear A60
  replace H := Option.bind_eq_some_iff.mp H
  obtain ⟨⟨t102, t103, t104⟩, A70, H⟩ := H
  replace H : ((spec_NetParse.f kj2 t101).bind fun bt106 => (if (!(t102 == bt106.1) || (!(t103 == bt106.2.1))) = true then (laws_FnNetText.j1 kj2 l0 l1 true) else (if (t104 != bt106.2.2) = true then (laws_FnNetText.j1 kj2 l0 l1 true) else (if t104 = true then ((impl_NetOk.f t102 t103).bind fun t110 => (if t110 = true then ((impl_NetText.f t102 t103).bind fun t111 => (laws_FnNetText.j1 kj2 l0 l1 (t111.toList != t101.toList))) else (laws_FnNetText.j1 kj2 l0 l1 true))) else (laws_FnNetText.j1 kj2 l0 l1 false))))) = some r := H
  have A7 := zA A70
  clear A70
  replace H := Option.bind_eq_some_iff.mp H
  obtain ⟨⟨t106, t107, t108⟩, A80, H⟩ := H
  replace H : (if (!(t102 == t106) || (!(t103 == t107))) = true then (laws_FnNetText.j1 kj2 l0 l1 true) else (if (t104 != t108) = true then (laws_FnNetText.j1 kj2 l0 l1 true) else (if t104 = true then ((impl_NetOk.f t102 t103).bind fun t110 => (if t110 = true then ((impl_NetText.f t102 t103).bind fun t111 => (laws_FnNetText.j1 kj2 l0 l1 (t111.toList != t101.toList))) else (laws_FnNetText.j1 kj2 l0 l1 true))) else (laws_FnNetText.j1 kj2 l0 l1 false)))) = some r := H
  have A8 := zA A80
  clear A80
  have HC9 := zA H
  clear H
  go_upto_region 6 with (first | ((with_reducible refine gate_callee (f := 8) rfl ?_); refine goesL_ (some 27) rfl rfl Tryd.func8 (by kernel_rfl) rfl #[.slice A0 l0.length c0] rfl y2  ?_; (with_reducible refine (spec_DrawNetParse.calls kj2 _ _ l0 t101 _ ?side1 ?side2 A6.out).mono ?_); (case side1 => repeat (first | exact (Kd.C_below HR0.out HB.out) | (with_reducible refine Kd.C_alloc ?_ _) | (with_reducible refine Kd.C_drewN ?_ _) | (with_reducible refine Kd.C_drew ?_))); (case side2 => exact HC0.out); rintro e w10 ⟨rfl, hb⟩; refine ⟨_, rfl, ?_⟩; have n0_ := zA (below_step (zHB) hb); clear HB; have HB := n0_; clear n0_; (try clear hb); (try clear hb2); (try clear hk); (try clear hi)) | ((with_reducible refine gate_callee (f := 9) rfl ?_); refine goesL_ (some 30) rfl rfl Tryd.func9 (by kernel_rfl) rfl #[.string t101] rfl y2  ?_; (with_reducible refine (impl_NetParse.calls t101 t102 t103 t104 _ (HG.out.step (zHB)) A7.out).mono ?_); rintro e w11 ⟨rfl, hb⟩; refine ⟨_, rfl, ?_⟩; have n0_ := zA (below_step (zHB) hb); clear HB; have HB := n0_; clear n0_; (try clear hb); (try clear hb2); (try clear hk); (try clear hi)) | ((with_reducible refine gate_dst (N := 6) rfl ?_); (try (refine gate_guard (by rfl) ?_; dsimp only)); refine box_event ?hg (N := 6) ?hd (cs := #[.int .i64 0, .int .i64 0]) (t := 25) ?hr ?_; (case hd => rfl); (case hg => rfl); (case hr => first | (go_simp; done) | (go_simp; rfl)); intro gb105 hg w12 hbox hb; have n0_ := zA (below_step (zHB) hb); have n1_ := zA (hbox); have n2_ := zA ((by rw [hg]; exact (below_size (zHB)) : w.heap.size ≤ gb105)); have n3_ := zA ((by rw [hg]; exact (below_size (zHB)) : w.heap.size ≤ gb105)); clear HB; have HB := n0_; have BK105 := n1_; have GW105 := n2_; have GE105 := n3_; clear n0_ n1_ n2_ n3_; clear hb hbox hg; have hcz13_0 : w12.cell? ⟨gb105, 0, none⟩ = some (.int .i64 0) := (blk_cell BK105.out 0).trans rfl; have hcz13_1 : w12.cell? ⟨gb105, 1, none⟩ = some (.int .i64 0) := (blk_cell BK105.out 1).trans rfl; have hfz13_0 := blk_frozen BK105.out 0; have hfz13_1 := blk_frozen BK105.out 1) | ((with_reducible refine gate_callee (f := 10) rfl ?_); refine goesL_ (some 35) rfl rfl Tryd.func10 (by kernel_rfl) rfl #[.string t101] rfl y2  ?_; (with_reducible refine (spec_NetParse.calls kj2 t101 t106 t107 t108 _ A8.out).mono ?_); rintro e w14 ⟨rfl, hb⟩; refine ⟨_, rfl, ?_⟩; have n0_ := zA (blk_below (g := gb105) (o := .cells #[.int .i64 t102, .int .i64 t103] 25 (0, 0)) (by refine zq ?_; refine blk_put (cs := #[.int .i64 t102, .int .i64 0]) ?_ 1 _ rfl; refine zq ?_; refine blk_put (cs := #[.int .i64 0, .int .i64 0]) ?_ 0 _ rfl; refine zq ?_; exact BK105.out) hb); have n1_ := zA (below_step (zHB) hb); clear BK105; clear HB; have BK105 := n0_; have HB := n1_; clear n0_ n1_; (try clear hb); (try clear hb2); (try clear hk); (try clear hi)) | ((with_reducible refine gate_dst (N := 8) rfl ?_); (try (refine gate_guard (by rfl) ?_; dsimp only)); refine box_event ?hg (N := 8) ?hd (cs := #[.int .i64 0, .int .i64 0]) (t := 25) ?hr ?_; (case hd => rfl); (case hg => rfl); (case hr => first | (go_simp; done) | (go_simp; rfl)); intro gb109 hg w15 hbox hb; have n0_ := zA (blk_below (g := gb105) (o := .cells #[.int .i64 t102, .int .i64 t103] 25 (0, 0)) (zb BK105.out) hb); have n1_ := zA (below_step (zHB) hb); have n2_ := zA (hbox); have n3_ := zA ((by rw [hg]; exact (below_size (zHB)) : w.heap.size ≤ gb109)); have n4_ := zA ((by rw [hg]; exact (below_size (zHB)) : w.heap.size ≤ gb109)); have n5_ := zA ((by rw [hg]; exact Nat.ne_of_lt (blk_lt (g := gb105) (o := .cells #[.int .i64 t102, .int .i64 t103] 25 (0, 0)) (zb BK105.out)) : gb105 ≠ gb109)); have n6_ := zA ((by rw [hg]; exact Nat.ne_of_gt (blk_lt (g := gb105) (o := .cells #[.int .i64 t102, .int .i64 t103] 25 (0, 0)) (zb BK105.out)) : gb109 ≠ gb105)); clear BK105; clear HB; have BK105 := n0_; have HB := n1_; have BK109 := n2_; have GW109 := n3_; have GE109 := n4_; have NB105_109 := n5_; have NB109_105 := n6_; clear n0_ n1_ n2_ n3_ n4_ n5_ n6_; clear hb hbox hg; have hnb16 := NB109_105.out; have hnc16 := NB105_109.out; have hcz17_0 : w15.cell? ⟨gb109, 0, none⟩ = some (.int .i64 0) := (blk_cell BK109.out 0).trans rfl; have hcz17_1 : w15.cell? ⟨gb109, 1, none⟩ = some (.int .i64 0) := (blk_cell BK109.out 1).trans rfl; have hfz17_0 := blk_frozen BK109.out 0; have hfz17_1 := blk_frozen BK109.out 1))
  (try simp only [Act.put, List.setIfInBounds_toArray, List.set_cons_zero, List.set_cons_succ])
  go_cut [59] (fun v59 wc => ∃ (kq : Nat) (x59_8 : Bool), v59 = .bool x59_8 ∧ Aside0 (laws_FnNetText.j1 kq l0 l1 x59_8 = some r) ∧ Aside0 (kq ≤ kj2) ∧ Aside0 (wc.heap[gb105]? = some (.cells #[.int .i64 t102, .int .i64 t103] 25 (0, 0))) ∧ Aside0 (wc.heap[gb109]? = some (.cells #[.int .i64 t106, .int .i64 t107] 25 (0, 0))) ∧ Aside0 (Below w.heap.size w wc))
  case first =>
   have H := HC9.out
   clear HC9
   by_cases c18 : (!(t102 == t106) || (!(t103 == t107))) = true
   ·rw [if_pos c18] at H
    have c18b0 : (!(t102 == t106) || (!(t103 == t107))) = true := c18
    clear c18
    (first | rw [c18b0] | (simp only [i64_w, i32_w]; rw [c18b0]) | skip)
    have H' := zA H
    clear H
    have hnb19 := NB105_109.out
    have hnc19 := NB109_105.out
    have hcz20_0 : w15.cell? ⟨gb105, 0, none⟩ = some (.int .i64 t102) := (blk_cell BK105.out 0).trans rfl
    have hcz20_1 : w15.cell? ⟨gb105, 1, none⟩ = some (.int .i64 t103) := (blk_cell BK105.out 1).trans rfl
    have hfz20_0 := blk_frozen BK105.out 0
    have hfz20_1 := blk_frozen BK105.out 1
    have hcz21_0 : w15.cell? ⟨gb109, 0, none⟩ = some (.int .i64 0) := (blk_cell BK109.out 0).trans rfl
    have hcz21_1 : w15.cell? ⟨gb109, 1, none⟩ = some (.int .i64 0) := (blk_cell BK109.out 1).trans rfl
    have hfz21_0 := blk_frozen BK109.out 0
    have hfz21_1 := blk_frozen BK109.out 1
    go_wp2
    go_meet
    case rel => exact ⟨_, (true), y6 , H', ⟨by have := HJ2.out; first | omega | exact Nat.le_refl _⟩, ⟨by refine zq ?_; refine blk_far ?_ NB105_109.out _; refine zq ?_; refine blk_far ?_ NB105_109.out _; refine zq ?_; exact BK105.out⟩, ⟨by refine zq ?_; refine blk_put (cs := #[.int .i64 t106, .int .i64 0]) ?_ 1 _ rfl; refine zq ?_; refine blk_put (cs := #[.int .i64 0, .int .i64 0]) ?_ 0 _ rfl; refine zq ?_; exact BK109.out⟩, ⟨zHB⟩⟩
   rw [if_neg c18] at H
   have c18b0 : (!(t102 == t106) || (!(t103 == t107))) = false := by simpa using c18
   clear c18
   (first | rw [c18b0] | (simp only [i64_w, i32_w]; rw [c18b0]) | skip)
   by_cases c22 : (t104 != t108) = true
   ·rw [if_pos c22] at H
    have c22b0 : (t104 != t108) = true := c22
    (try (have c22b1 : decide (t104 = t108) = false := by simpa using c22))
    (try (have c22b2 : (t104 == t108) = false := by simpa using c22))
    (try (have c22b3 : ¬ (t104 = t108) := by simpa using c22))
    clear c22
    have H' := zA H
    clear H
    have hnb23 := NB105_109.out
    have hnc23 := NB109_105.out
    have hcz24_0 : w15.cell? ⟨gb105, 0, none⟩ = some (.int .i64 t102) := (blk_cell BK105.out 0).trans rfl
    have hcz24_1 : w15.cell? ⟨gb105, 1, none⟩ = some (.int .i64 t103) := (blk_cell BK105.out 1).trans rfl
    have hfz24_0 := blk_frozen BK105.out 0
    have hfz24_1 := blk_frozen BK105.out 1
    have hcz25_0 : w15.cell? ⟨gb109, 0, none⟩ = some (.int .i64 0) := (blk_cell BK109.out 0).trans rfl
    have hcz25_1 : w15.cell? ⟨gb109, 1, none⟩ = some (.int .i64 0) := (blk_cell BK109.out 1).trans rfl
    have hfz25_0 := blk_frozen BK109.out 0
    have hfz25_1 := blk_frozen BK109.out 1
    go_wp2
    go_meet
    case rel => exact ⟨_, (true), y6 , H', ⟨by have := HJ2.out; first | omega | exact Nat.le_refl _⟩, ⟨by refine zq ?_; refine blk_far ?_ NB105_109.out _; refine zq ?_; refine blk_far ?_ NB105_109.out _; refine zq ?_; exact BK105.out⟩, ⟨by refine zq ?_; refine blk_put (cs := #[.int .i64 t106, .int .i64 0]) ?_ 1 _ rfl; refine zq ?_; refine blk_put (cs := #[.int .i64 0, .int .i64 0]) ?_ 0 _ rfl; refine zq ?_; exact BK109.out⟩, ⟨zHB⟩⟩
   rw [if_neg c22] at H
   have c22b0 : (t104 != t108) = false := by simpa using c22
   (try (have c22b1 : decide (t104 = t108) = true := by simpa using c22))
   (try (have c22b2 : (t104 == t108) = true := by simpa using c22))
   clear c22
   by_cases c26 : t104 = true
   ·subst c26
    have H1 : ((impl_NetOk.f t102 t103).bind fun t110 => (if t110 = true then ((impl_NetText.f t102 t103).bind fun t111 => (laws_FnNetText.j1 kj2 l0 l1 (t111.toList != t101.toList))) else (laws_FnNetText.j1 kj2 l0 l1 true))) = some r := by rw [if_pos rfl] at H; exact H
    clear H
    have H := H1
    clear H1
    replace H := Option.bind_eq_some_iff.mp H
    obtain ⟨t110, A270, H⟩ := H
    replace H : (if t110 = true then ((impl_NetText.f t102 t103).bind fun t111 => (laws_FnNetText.j1 kj2 l0 l1 (t111.toList != t101.toList))) else (laws_FnNetText.j1 kj2 l0 l1 true)) = some r := H
    have A27 := zA A270
    clear A270
    by_cases c28 : t110 = true
    ·subst c28
     have H1 : ((impl_NetText.f t102 t103).bind fun t111 => (laws_FnNetText.j1 kj2 l0 l1 (t111.toList != t101.toList))) = some r := by rw [if_pos rfl] at H; exact H
     clear H
     have H := H1
     clear H1
     replace H := Option.bind_eq_some_iff.mp H
     obtain ⟨t111, A290, H⟩ := H
     replace H : (laws_FnNetText.j1 kj2 l0 l1 (t111.toList != t101.toList)) = some r := H
     have A29 := zA A290
     clear A290
     have H' := zA H
     clear H
     have hnb30 := NB105_109.out
     have hnc30 := NB109_105.out
     have hcz31_0 : w15.cell? ⟨gb105, 0, none⟩ = some (.int .i64 t102) := (blk_cell BK105.out 0).trans rfl
     have hcz31_1 : w15.cell? ⟨gb105, 1, none⟩ = some (.int .i64 t103) := (blk_cell BK105.out 1).trans rfl
     have hfz31_0 := blk_frozen BK105.out 0
     have hfz31_1 := blk_frozen BK105.out 1
     have hcz32_0 : w15.cell? ⟨gb109, 0, none⟩ = some (.int .i64 0) := (blk_cell BK109.out 0).trans rfl
     have hcz32_1 : w15.cell? ⟨gb109, 1, none⟩ = some (.int .i64 0) := (blk_cell BK109.out 1).trans rfl
     have hfz32_0 := blk_frozen BK109.out 0
     have hfz32_1 := blk_frozen BK109.out 1
     go_wp2_with (first | (go_at_call 11; (with_reducible refine (impl_NetOk.calls t102 t103 true _ A27.out).mono ?_); rintro e w33 ⟨rfl, hb⟩; have n0_ := zA (blk_below (g := gb105) (o := .cells #[.int .i64 t102, .int .i64 t103] 25 (0, 0)) (by refine zq ?_; refine blk_far ?_ NB105_109.out _; refine zq ?_; refine blk_far ?_ NB105_109.out _; refine zq ?_; exact BK105.out) hb); have n1_ := zA (blk_below (g := gb109) (o := .cells #[.int .i64 t106, .int .i64 t107] 25 (0, 0)) (by refine zq ?_; refine blk_put (cs := #[.int .i64 t106, .int .i64 0]) ?_ 1 _ rfl; refine zq ?_; refine blk_put (cs := #[.int .i64 0, .int .i64 0]) ?_ 0 _ rfl; refine zq ?_; exact BK109.out) hb); have n2_ := zA (below_step (zHB) hb); clear BK105; clear BK109; clear HB; have BK105 := n0_; have BK109 := n1_; have HB := n2_; clear n0_ n1_ n2_; (try clear hb); (try clear hb2); (try clear hk); (try clear hi); have hcz34_0 : w33.cell? ⟨gb105, 0, none⟩ = some (.int .i64 t102) := (blk_cell BK105.out 0).trans rfl; have hcz34_1 : w33.cell? ⟨gb105, 1, none⟩ = some (.int .i64 t103) := (blk_cell BK105.out 1).trans rfl; have hfz34_0 := blk_frozen BK105.out 0; have hfz34_1 := blk_frozen BK105.out 1) | (go_at_call 12; (with_reducible refine (impl_NetText.calls t102 t103 t111 _ (HG.out.step (zHB)).t A29.out).mono ?_); rintro e w35 ⟨rfl, hb⟩; have n0_ := zA (blk_below (g := gb105) (o := .cells #[.int .i64 t102, .int .i64 t103] 25 (0, 0)) (zb BK105.out) hb); have n1_ := zA (blk_below (g := gb109) (o := .cells #[.int .i64 t106, .int .i64 t107] 25 (0, 0)) (zb BK109.out) hb); have n2_ := zA (below_step (zHB) hb); clear BK105; clear BK109; clear HB; have BK105 := n0_; have BK109 := n1_; have HB := n2_; clear n0_ n1_ n2_; (try clear hb); (try clear hb2); (try clear hk); (try clear hi)))
     go_meet
     case rel => exact ⟨_, ((t111.toList != t101.toList)), y6 , H', ⟨by have := HJ2.out; first | omega | exact Nat.le_refl _⟩, ⟨by refine zq ?_; exact BK105.out⟩, ⟨by refine zq ?_; exact BK109.out⟩, ⟨zHB⟩⟩
    replace c28 := Bool.eq_false_iff.mpr c28
    subst c28
    have H1 : (laws_FnNetText.j1 kj2 l0 l1 true) = some r := by rw [if_neg (show ¬ (false = true) by decide)] at H; exact H
    clear H
    have H := H1
    clear H1
    have H' := zA H
    clear H
    have hnb36 := NB105_109.out
    have hnc36 := NB109_105.out
    have hcz37_0 : w15.cell? ⟨gb105, 0, none⟩ = some (.int .i64 t102) := (blk_cell BK105.out 0).trans rfl
    have hcz37_1 : w15.cell? ⟨gb105, 1, none⟩ = some (.int .i64 t103) := (blk_cell BK105.out 1).trans rfl
    have hfz37_0 := blk_frozen BK105.out 0
    have hfz37_1 := blk_frozen BK105.out 1
    have hcz38_0 : w15.cell? ⟨gb109, 0, none⟩ = some (.int .i64 0) := (blk_cell BK109.out 0).trans rfl
    have hcz38_1 : w15.cell? ⟨gb109, 1, none⟩ = some (.int .i64 0) := (blk_cell BK109.out 1).trans rfl
    have hfz38_0 := blk_frozen BK109.out 0
    have hfz38_1 := blk_frozen BK109.out 1
    go_wp2_with (first | (go_at_call 11; (with_reducible refine (impl_NetOk.calls t102 t103 false _ A27.out).mono ?_); rintro e w39 ⟨rfl, hb⟩; have n0_ := zA (blk_below (g := gb105) (o := .cells #[.int .i64 t102, .int .i64 t103] 25 (0, 0)) (by refine zq ?_; refine blk_far ?_ NB105_109.out _; refine zq ?_; refine blk_far ?_ NB105_109.out _; refine zq ?_; exact BK105.out) hb); have n1_ := zA (blk_below (g := gb109) (o := .cells #[.int .i64 t106, .int .i64 t107] 25 (0, 0)) (by refine zq ?_; refine blk_put (cs := #[.int .i64 t106, .int .i64 0]) ?_ 1 _ rfl; refine zq ?_; refine blk_put (cs := #[.int .i64 0, .int .i64 0]) ?_ 0 _ rfl; refine zq ?_; exact BK109.out) hb); have n2_ := zA (below_step (zHB) hb); clear BK105; clear BK109; clear HB; have BK105 := n0_; have BK109 := n1_; have HB := n2_; clear n0_ n1_ n2_; (try clear hb); (try clear hb2); (try clear hk); (try clear hi)))
    go_meet
    case rel => exact ⟨_, (true), y6 , H', ⟨by have := HJ2.out; first | omega | exact Nat.le_refl _⟩, ⟨by refine zq ?_; exact BK105.out⟩, ⟨by refine zq ?_; exact BK109.out⟩, ⟨zHB⟩⟩
   replace c26 := Bool.eq_false_iff.mpr c26
   subst c26
   have H1 : (laws_FnNetText.j1 kj2 l0 l1 false) = some r := by rw [if_neg (show ¬ (false = true) by decide)] at H; exact H
   clear H
   have H := H1
   clear H1
   have H' := zA H
   clear H
   have hnb40 := NB105_109.out
   have hnc40 := NB109_105.out
   have hcz41_0 : w15.cell? ⟨gb105, 0, none⟩ = some (.int .i64 t102) := (blk_cell BK105.out 0).trans rfl
   have hcz41_1 : w15.cell? ⟨gb105, 1, none⟩ = some (.int .i64 t103) := (blk_cell BK105.out 1).trans rfl
   have hfz41_0 := blk_frozen BK105.out 0
   have hfz41_1 := blk_frozen BK105.out 1
   have hcz42_0 : w15.cell? ⟨gb109, 0, none⟩ = some (.int .i64 0) := (blk_cell BK109.out 0).trans rfl
   have hcz42_1 : w15.cell? ⟨gb109, 1, none⟩ = some (.int .i64 0) := (blk_cell BK109.out 1).trans rfl
   have hfz42_0 := blk_frozen BK109.out 0
   have hfz42_1 := blk_frozen BK109.out 1
   go_wp2
   go_meet
   case rel => exact ⟨_, (false), y6 , H', ⟨by have := HJ2.out; first | omega | exact Nat.le_refl _⟩, ⟨by refine zq ?_; refine blk_far ?_ NB105_109.out _; refine zq ?_; refine blk_far ?_ NB105_109.out _; refine zq ?_; exact BK105.out⟩, ⟨by refine zq ?_; refine blk_put (cs := #[.int .i64 t106, .int .i64 0]) ?_ 1 _ rfl; refine zq ?_; refine blk_put (cs := #[.int .i64 0, .int .i64 0]) ?_ 0 _ rfl; refine zq ?_; exact BK109.out⟩, ⟨zHB⟩⟩
  case rest =>
   clear HC9
   try clear c1
   try clear c2
   try clear p2
   try clear c3
   try clear c4
   try clear c4b0
   try clear c4b1
   try clear c5
   try clear c8
   try clear c9
   try clear c10
   try clear c16
   try clear c18
   try clear c18b0
   try clear c19
   try clear c22
   try clear c22b0
   try clear c22b1
   try clear c22b2
   try clear c23
   try clear c26
   try clear c28
   try clear c30
   try clear c36
   try clear c40
   try clear hcz13_0
   try clear hcz13_1
   try clear hcz17_0
   try clear hcz17_1
   try clear hcz20_0
   try clear hcz20_1
   try clear hcz21_0
   try clear hcz21_1
   try clear hcz24_0
   try clear hcz24_1
   try clear hcz25_0
   try clear hcz25_1
   try clear hcz31_0
   try clear hcz31_1
   try clear hcz32_0
   try clear hcz32_1
   try clear hcz34_0
   try clear hcz34_1
   try clear hcz37_0
   try clear hcz37_1
   try clear hcz38_0
   try clear hcz38_1
   try clear hcz41_0
   try clear hcz41_1
   try clear hcz42_0
   try clear hcz42_1
   try clear hfz13_0
   try clear hfz13_1
   try clear hfz17_0
   try clear hfz17_1
   try clear hfz20_0
   try clear hfz20_1
   try clear hfz21_0
   try clear hfz21_1
   try clear hfz24_0
   try clear hfz24_1
   try clear hfz25_0
   try clear hfz25_1
   try clear hfz31_0
   try clear hfz31_1
   try clear hfz32_0
   try clear hfz32_1
   try clear hfz34_0
   try clear hfz34_1
   try clear hfz37_0
   try clear hfz37_1
   try clear hfz38_0
   try clear hfz38_1
   try clear hfz41_0
   try clear hfz41_1
   try clear hfz42_0
   try clear hfz42_1
   try clear p2
   obtain ⟨kq, x59_8, rfl, HA, HJ8, BK105, BK109, HB⟩ := hcut
   cases kq with
   | zero => exact absurd HA.out (by simp [laws_FnNetText.j1])
   | succ kj8 => ?_
   have H := HA.out
   clear HA
   simp only [laws_FnNetText.j1] at H
   by_cases c43 : x59_8 = true
   ·subst c43
    have H1 : (some false) = some r := by rw [if_pos rfl] at H; exact H
    clear H
    have H := H1
    clear H1
    obtain rfl := Option.some.inj H
    go_wp2
    go_ret
    exact ⟨by first | rfl | (simp [errW_none, errW_some] <;> rfl) | (simp [*, errW_none, errW_some] <;> rfl), zHB⟩
   replace c43 := Bool.eq_false_iff.mpr c43
   subst c43
   have H1 : ((spec_DrawNetText.f kj8 l1).bind fun bt112 => ((impl_NetText.f bt112.1 bt112.2).bind fun t115 => ((impl_NetParse.f t115).bind fun bt116 => ((spec_NetText.f kj8 bt112.1 bt112.2).bind fun t120 => (if t115.toList = t120.toList then ((spec_NetOk.f kj8 bt112.1 bt112.2).bind fun t121 => (if (bt116.2.2 != t121) = true then (laws_FnNetText.j2 kj8 l0 l1 true) else (if bt116.2.2 = true then (laws_FnNetText.j2 kj8 l0 l1 (!(bt116.1 == bt112.1) || (!(bt116.2.1 == bt112.2)))) else (laws_FnNetText.j2 kj8 l0 l1 false)))) else (laws_FnNetText.j2 kj8 l0 l1 true)))))) = some r := by rw [if_neg (show ¬ (false = true) by decide)] at H; exact H
   clear H
   have H := H1
   clear H1
   replace H := Option.bind_eq_some_iff.mp H
   obtain ⟨⟨t112, t113⟩, A440, H⟩ := H
   replace H : ((impl_NetText.f t112 t113).bind fun t115 => ((impl_NetParse.f t115).bind fun bt116 => ((spec_NetText.f kj8 t112 t113).bind fun t120 => (if t115.toList = t120.toList then ((spec_NetOk.f kj8 t112 t113).bind fun t121 => (if (bt116.2.2 != t121) = true then (laws_FnNetText.j2 kj8 l0 l1 true) else (if bt116.2.2 = true then (laws_FnNetText.j2 kj8 l0 l1 (!(bt116.1 == t112) || (!(bt116.2.1 == t113)))) else (laws_FnNetText.j2 kj8 l0 l1 false)))) else (laws_FnNetText.j2 kj8 l0 l1 true))))) = some r := H
   have A44 := zA A440
   clear A440
   replace H := Option.bind_eq_some_iff.mp H
   obtain ⟨t115, A450, H⟩ := H
   replace H : ((impl_NetParse.f t115).bind fun bt116 => ((spec_NetText.f kj8 t112 t113).bind fun t120 => (if t115.toList = t120.toList then ((spec_NetOk.f kj8 t112 t113).bind fun t121 => (if (bt116.2.2 != t121) = true then (laws_FnNetText.j2 kj8 l0 l1 true) else (if bt116.2.2 = true then (laws_FnNetText.j2 kj8 l0 l1 (!(bt116.1 == t112) || (!(bt116.2.1 == t113)))) else (laws_FnNetText.j2 kj8 l0 l1 false)))) else (laws_FnNetText.j2 kj8 l0 l1 true)))) = some r := H
   have A45 := zA A450
   clear A450
   replace H := Option.bind_eq_some_iff.mp H
   obtain ⟨⟨t116, t117, t118⟩, A460, H⟩ := H
   replace H : ((spec_NetText.f kj8 t112 t113).bind fun t120 => (if t115.toList = t120.toList then ((spec_NetOk.f kj8 t112 t113).bind fun t121 => (if (t118 != t121) = true then (laws_FnNetText.j2 kj8 l0 l1 true) else (if t118 = true then (laws_FnNetText.j2 kj8 l0 l1 (!(t116 == t112) || (!(t117 == t113)))) else (laws_FnNetText.j2 kj8 l0 l1 false)))) else (laws_FnNetText.j2 kj8 l0 l1 true))) = some r := H
   have A46 := zA A460
   clear A460
   have HC47 := zA H
   clear H
   go_upto_region 11 with (first | ((with_reducible refine gate_callee (f := 13) rfl ?_); refine goesL_ (some 61) rfl rfl Tryd.func13 (by kernel_rfl) rfl #[.slice A1 l1.length c1] rfl y2  ?_; (with_reducible refine (spec_DrawNetText.calls kj8 _ _ l1 t112 t113 _ ?side1 ?side2 A44.out).mono ?_); (case side1 => repeat (first | exact (Kd.C_below HR1.out HB.out) | (with_reducible refine Kd.C_alloc ?_ _) | (with_reducible refine Kd.C_drewN ?_ _) | (with_reducible refine Kd.C_drew ?_))); (case side2 => exact HC1.out); rintro e w48 ⟨rfl, hb⟩; refine ⟨_, rfl, ?_⟩; have n0_ := zA (blk_below (g := gb105) (o := .cells #[.int .i64 t102, .int .i64 t103] 25 (0, 0)) (zb BK105.out) hb); have n1_ := zA (blk_below (g := gb109) (o := .cells #[.int .i64 t106, .int .i64 t107] 25 (0, 0)) (zb BK109.out) hb); have n2_ := zA (below_step (zHB) hb); clear BK105; clear BK109; clear HB; have BK105 := n0_; have BK109 := n1_; have HB := n2_; clear n0_ n1_ n2_; (try clear hb); (try clear hb2); (try clear hk); (try clear hi)) | ((with_reducible refine gate_dst (N := 10) rfl ?_); (try (refine gate_guard (by rfl) ?_; dsimp only)); refine box_event ?hg (N := 10) ?hd (cs := #[.int .i64 0, .int .i64 0]) (t := 25) ?hr ?_; (case hd => rfl); (case hg => rfl); (case hr => first | (go_simp; done) | (go_simp; rfl)); intro gb114 hg w49 hbox hb; have n0_ := zA (blk_below (g := gb105) (o := .cells #[.int .i64 t102, .int .i64 t103] 25 (0, 0)) (zb BK105.out) hb); have n1_ := zA (blk_below (g := gb109) (o := .cells #[.int .i64 t106, .int .i64 t107] 25 (0, 0)) (zb BK109.out) hb); have n2_ := zA (below_step (zHB) hb); have n3_ := zA (hbox); have n4_ := zA ((by rw [hg]; exact (below_size (zHB)) : w.heap.size ≤ gb114)); have n5_ := zA ((by rw [hg]; exact (below_size (zHB)) : w.heap.size ≤ gb114)); have n6_ := zA ((by rw [hg]; exact Nat.ne_of_lt (blk_lt (g := gb105) (o := .cells #[.int .i64 t102, .int .i64 t103] 25 (0, 0)) (zb BK105.out)) : gb105 ≠ gb114)); have n7_ := zA ((by rw [hg]; exact Nat.ne_of_gt (blk_lt (g := gb105) (o := .cells #[.int .i64 t102, .int .i64 t103] 25 (0, 0)) (zb BK105.out)) : gb114 ≠ gb105)); have n8_ := zA ((by rw [hg]; exact Nat.ne_of_lt (blk_lt (g := gb109) (o := .cells #[.int .i64 t106, .int .i64 t107] 25 (0, 0)) (zb BK109.out)) : gb109 ≠ gb114)); have n9_ := zA ((by rw [hg]; exact Nat.ne_of_gt (blk_lt (g := gb109) (o := .cells #[.int .i64 t106, .int .i64 t107] 25 (0, 0)) (zb BK109.out)) : gb114 ≠ gb109)); clear BK105; clear BK109; clear HB; have BK105 := n0_; have BK109 := n1_; have HB := n2_; have BK114 := n3_; have GW114 := n4_; have GE114 := n5_; have NB105_114 := n6_; have NB114_105 := n7_; have NB109_114 := n8_; have NB114_109 := n9_; clear n0_ n1_ n2_ n3_ n4_ n5_ n6_ n7_ n8_ n9_; clear hb hbox hg; have hnb50 := NB114_105.out; have hnc50 := NB105_114.out; have hnb51 := NB114_109.out; have hnc51 := NB109_114.out; have hcz52_0 : w49.cell? ⟨gb114, 0, none⟩ = some (.int .i64 0) := (blk_cell BK114.out 0).trans rfl; have hcz52_1 : w49.cell? ⟨gb114, 1, none⟩ = some (.int .i64 0) := (blk_cell BK114.out 1).trans rfl; have hfz52_0 := blk_frozen BK114.out 0; have hfz52_1 := blk_frozen BK114.out 1) | ((with_reducible refine gate_callee (f := 12) rfl ?_); refine goesL_ (some 63) rfl rfl Tryd.func12 (by kernel_rfl) rfl #[.agg #[.int .i64 t112, .int .i64 t113]] rfl y2  ?_; (with_reducible refine (impl_NetText.calls t112 t113 t115 _ (HG.out.step (zHB)).t A45.out).mono ?_); rintro e w53 ⟨rfl, hb⟩; refine ⟨_, rfl, ?_⟩; have n0_ := zA (blk_below (g := gb105) (o := .cells #[.int .i64 t102, .int .i64 t103] 25 (0, 0)) (by refine zq ?_; refine blk_far ?_ NB105_114.out _; refine zq ?_; refine blk_far ?_ NB105_114.out _; refine zq ?_; exact BK105.out) hb); have n1_ := zA (blk_below (g := gb109) (o := .cells #[.int .i64 t106, .int .i64 t107] 25 (0, 0)) (by refine zq ?_; refine blk_far ?_ NB109_114.out _; refine zq ?_; refine blk_far ?_ NB109_114.out _; refine zq ?_; exact BK109.out) hb); have n2_ := zA (blk_below (g := gb114) (o := .cells #[.int .i64 t112, .int .i64 t113] 25 (0, 0)) (by refine zq ?_; refine blk_put (cs := #[.int .i64 t112, .int .i64 0]) ?_ 1 _ rfl; refine zq ?_; refine blk_put (cs := #[.int .i64 0, .int .i64 0]) ?_ 0 _ rfl; refine zq ?_; exact BK114.out) hb); have n3_ := zA (below_step (zHB) hb); clear BK105; clear BK109; clear BK114; clear HB; have BK105 := n0_; have BK109 := n1_; have BK114 := n2_; have HB := n3_; clear n0_ n1_ n2_ n3_; (try clear hb); (try clear hb2); (try clear hk); (try clear hi)) | ((with_reducible refine gate_callee (f := 9) rfl ?_); refine goesL_ (some 66) rfl rfl Tryd.func9 (by kernel_rfl) rfl #[.string t115] rfl y2  ?_; (with_reducible refine (impl_NetParse.calls t115 t116 t117 t118 _ (HG.out.step (zHB)) A46.out).mono ?_); rintro e w54 ⟨rfl, hb⟩; refine ⟨_, rfl, ?_⟩; have n0_ := zA (blk_below (g := gb105) (o := .cells #[.int .i64 t102, .int .i64 t103] 25 (0, 0)) (zb BK105.out) hb); have n1_ := zA (blk_below (g := gb109) (o := .cells #[.int .i64 t106, .int .i64 t107] 25 (0, 0)) (zb BK109.out) hb); have n2_ := zA (blk_below (g := gb114) (o := .cells #[.int .i64 t112, .int .i64 t113] 25 (0, 0)) (zb BK114.out) hb); have n3_ := zA (below_step (zHB) hb); clear BK105; clear BK109; clear BK114; clear HB; have BK105 := n0_; have BK109 := n1_; have BK114 := n2_; have HB := n3_; clear n0_ n1_ n2_ n3_; (try clear hb); (try clear hb2); (try clear hk); (try clear hi)) | ((with_reducible refine gate_dst (N := 12) rfl ?_); (try (refine gate_guard (by rfl) ?_; dsimp only)); refine box_event ?hg (N := 12) ?hd (cs := #[.int .i64 0, .int .i64 0]) (t := 25) ?hr ?_; (case hd => rfl); (case hg => rfl); (case hr => first | (go_simp; done) | (go_simp; rfl)); intro gb119 hg w55 hbox hb; have n0_ := zA (blk_below (g := gb105) (o := .cells #[.int .i64 t102, .int .i64 t103] 25 (0, 0)) (zb BK105.out) hb); have n1_ := zA (blk_below (g := gb109) (o := .cells #[.int .i64 t106, .int .i64 t107] 25 (0, 0)) (zb BK109.out) hb); have n2_ := zA (blk_below (g := gb114) (o := .cells #[.int .i64 t112, .int .i64 t113] 25 (0, 0)) (zb BK114.out) hb); have n3_ := zA (below_step (zHB) hb); have n4_ := zA (hbox); have n5_ := zA ((by rw [hg]; exact (below_size (zHB)) : w.heap.size ≤ gb119)); have n6_ := zA ((by rw [hg]; exact (below_size (zHB)) : w.heap.size ≤ gb119)); have n7_ := zA ((by rw [hg]; exact Nat.ne_of_lt (blk_lt (g := gb105) (o := .cells #[.int .i64 t102, .int .i64 t103] 25 (0, 0)) (zb BK105.out)) : gb105 ≠ gb119)); have n8_ := zA ((by rw [hg]; exact Nat.ne_of_gt (blk_lt (g := gb105) (o := .cells #[.int .i64 t102, .int .i64 t103] 25 (0, 0)) (zb BK105.out)) : gb119 ≠ gb105)); have n9_ := zA ((by rw [hg]; exact Nat.ne_of_lt (blk_lt (g := gb109) (o := .cells #[.int .i64 t106, .int .i64 t107] 25 (0, 0)) (zb BK109.out)) : gb109 ≠ gb119)); have n10_ := zA ((by rw [hg]; exact Nat.ne_of_gt (blk_lt (g := gb109) (o := .cells #[.int .i64 t106, .int .i64 t107] 25 (0, 0)) (zb BK109.out)) : gb119 ≠ gb109)); have n11_ := zA ((by rw [hg]; exact Nat.ne_of_lt (blk_lt (g := gb114) (o := .cells #[.int .i64 t112, .int .i64 t113] 25 (0, 0)) (zb BK114.out)) : gb114 ≠ gb119)); have n12_ := zA ((by rw [hg]; exact Nat.ne_of_gt (blk_lt (g := gb114) (o := .cells #[.int .i64 t112, .int .i64 t113] 25 (0, 0)) (zb BK114.out)) : gb119 ≠ gb114)); clear BK105; clear BK109; clear BK114; clear HB; have BK105 := n0_; have BK109 := n1_; have BK114 := n2_; have HB := n3_; have BK119 := n4_; have GW119 := n5_; have GE119 := n6_; have NB105_119 := n7_; have NB119_105 := n8_; have NB109_119 := n9_; have NB119_109 := n10_; have NB114_119 := n11_; have NB119_114 := n12_; clear n0_ n1_ n2_ n3_ n4_ n5_ n6_ n7_ n8_ n9_ n10_ n11_ n12_; clear hb hbox hg; have hnb56 := NB119_105.out; have hnc56 := NB105_119.out; have hnb57 := NB119_109.out; have hnc57 := NB109_119.out; have hnb58 := NB119_114.out; have hnc58 := NB114_119.out; have hcz59_0 : w55.cell? ⟨gb119, 0, none⟩ = some (.int .i64 0) := (blk_cell BK119.out 0).trans rfl; have hcz59_1 : w55.cell? ⟨gb119, 1, none⟩ = some (.int .i64 0) := (blk_cell BK119.out 1).trans rfl; have hfz59_0 := blk_frozen BK119.out 0; have hfz59_1 := blk_frozen BK119.out 1))
   (try simp only [Act.put, List.setIfInBounds_toArray, List.set_cons_zero, List.set_cons_succ])
   go_cut [86] (fun v86 wc => ∃ (kq : Nat) (x86_46 : Bool), v86 = .bool x86_46 ∧ Aside0 (laws_FnNetText.j2 kq l0 l1 x86_46 = some r) ∧ Aside0 (kq ≤ kj8) ∧ Aside0 (wc.heap[gb105]? = some (.cells #[.int .i64 t102, .int .i64 t103] 25 (0, 0))) ∧ Aside0 (wc.heap[gb109]? = some (.cells #[.int .i64 t106, .int .i64 t107] 25 (0, 0))) ∧ Aside0 (wc.heap[gb114]? = some (.cells #[.int .i64 t112, .int .i64 t113] 25 (0, 0))) ∧ Aside0 (wc.heap[gb119]? = some (.cells #[.int .i64 t116, .int .i64 t117] 25 (0, 0))) ∧ Aside0 (Below w.heap.size w wc))
   case first =>
    have H := HC47.out
    clear HC47
    replace H := Option.bind_eq_some_iff.mp H
    obtain ⟨t120, A600, H⟩ := H
    replace H : (if t115.toList = t120.toList then ((spec_NetOk.f kj8 t112 t113).bind fun t121 => (if (t118 != t121) = true then (laws_FnNetText.j2 kj8 l0 l1 true) else (if t118 = true then (laws_FnNetText.j2 kj8 l0 l1 (!(t116 == t112) || (!(t117 == t113)))) else (laws_FnNetText.j2 kj8 l0 l1 false)))) else (laws_FnNetText.j2 kj8 l0 l1 true)) = some r := H
    have A60 := zA A600
    clear A600
    by_cases c61 : t115.toList = t120.toList
    ·rw [if_pos c61] at H
     have c61b0 : (t115.toList == t120.toList) = true := beq_iff_eq.mpr c61
     have c61b1 : (t115.toList != t120.toList) = false := bne_eq_false_iff_eq.mpr c61
     clear c61
     (first | rw [c61b0] | (simp only [i64_w, i32_w]; rw [c61b0]) | skip)
     replace H := Option.bind_eq_some_iff.mp H
     obtain ⟨t121, A620, H⟩ := H
     replace H : (if (t118 != t121) = true then (laws_FnNetText.j2 kj8 l0 l1 true) else (if t118 = true then (laws_FnNetText.j2 kj8 l0 l1 (!(t116 == t112) || (!(t117 == t113)))) else (laws_FnNetText.j2 kj8 l0 l1 false))) = some r := H
     have A62 := zA A620
     clear A620
     by_cases c63 : (t118 != t121) = true
     ·rw [if_pos c63] at H
      have c63b0 : (t118 != t121) = true := c63
      (try (have c63b1 : decide (t118 = t121) = false := by simpa using c63))
      (try (have c63b2 : (t118 == t121) = false := by simpa using c63))
      (try (have c63b3 : ¬ (t118 = t121) := by simpa using c63))
      clear c63
      have H' := zA H
      clear H
      have hnb64 := NB114_105.out
      have hnc64 := NB105_114.out
      have hnb65 := NB114_109.out
      have hnc65 := NB109_114.out
      have hnb66 := NB114_119.out
      have hnc66 := NB119_114.out
      have hcz67_0 : w55.cell? ⟨gb114, 0, none⟩ = some (.int .i64 t112) := (blk_cell BK114.out 0).trans rfl
      have hcz67_1 : w55.cell? ⟨gb114, 1, none⟩ = some (.int .i64 t113) := (blk_cell BK114.out 1).trans rfl
      have hfz67_0 := blk_frozen BK114.out 0
      have hfz67_1 := blk_frozen BK114.out 1
      go_wp2_with (first | ((with_reducible refine gate_callee (f := 14) rfl ?_); refine goesL_ (some 71) rfl rfl Tryd.func14 (by kernel_rfl) rfl #[.agg #[.int .i64 t112, .int .i64 t113]] rfl y2  ?_; (with_reducible refine (spec_NetText.calls kj8 t112 t113 t120 _ A60.out).mono ?_); rintro e w68 ⟨rfl, hb⟩; refine ⟨_, rfl, ?_⟩; have n0_ := zA (blk_below (g := gb105) (o := .cells #[.int .i64 t102, .int .i64 t103] 25 (0, 0)) y3  hb); have n1_ := zA (blk_below (g := gb109) (o := .cells #[.int .i64 t106, .int .i64 t107] 25 (0, 0)) y4  hb); have n2_ := zA (blk_below (g := gb114) (o := .cells #[.int .i64 t112, .int .i64 t113] 25 (0, 0)) y5  hb); have n3_ := zA (blk_below (g := gb119) (o := .cells #[.int .i64 t116, .int .i64 t117] 25 (0, 0)) y1  hb); have n4_ := zA (below_step (zHB) hb); clear BK105; clear BK109; clear BK114; clear BK119; clear HB; have BK105 := n0_; have BK109 := n1_; have BK114 := n2_; have BK119 := n3_; have HB := n4_; clear n0_ n1_ n2_ n3_ n4_; (try clear hb); (try clear hb2); (try clear hk); (try clear hi); have hcz69_0 : w68.cell? ⟨gb114, 0, none⟩ = some (.int .i64 t112) := (blk_cell BK114.out 0).trans rfl; have hcz69_1 : w68.cell? ⟨gb114, 1, none⟩ = some (.int .i64 t113) := (blk_cell BK114.out 1).trans rfl; have hfz69_0 := blk_frozen BK114.out 0; have hfz69_1 := blk_frozen BK114.out 1) | (go_at_call 15; (with_reducible refine (spec_NetOk.calls kj8 t112 t113 t121 _ A62.out).mono ?_); rintro e w70 ⟨rfl, hb⟩; have n0_ := zA (blk_below (g := gb105) (o := .cells #[.int .i64 t102, .int .i64 t103] 25 (0, 0)) (zb BK105.out) hb); have n1_ := zA (blk_below (g := gb109) (o := .cells #[.int .i64 t106, .int .i64 t107] 25 (0, 0)) (zb BK109.out) hb); have n2_ := zA (blk_below (g := gb114) (o := .cells #[.int .i64 t112, .int .i64 t113] 25 (0, 0)) (zb BK114.out) hb); have n3_ := zA (blk_below (g := gb119) (o := .cells #[.int .i64 t116, .int .i64 t117] 25 (0, 0)) (zb BK119.out) hb); have n4_ := zA (below_step (zHB) hb); clear BK105; clear BK109; clear BK114; clear BK119; clear HB; have BK105 := n0_; have BK109 := n1_; have BK114 := n2_; have BK119 := n3_; have HB := n4_; clear n0_ n1_ n2_ n3_ n4_; (try clear hb); (try clear hb2); (try clear hk); (try clear hi)))
      go_meet
      case rel => exact ⟨_, (true), y6 , H', ⟨by have := HJ2.out; have := HJ8.out; first | omega | exact Nat.le_refl _⟩, ⟨by refine zq ?_; exact BK105.out⟩, ⟨by refine zq ?_; exact BK109.out⟩, ⟨by refine zq ?_; exact BK114.out⟩, ⟨by refine zq ?_; exact BK119.out⟩, ⟨zHB⟩⟩
     rw [if_neg c63] at H
     have c63b0 : (t118 != t121) = false := by simpa using c63
     (try (have c63b1 : decide (t118 = t121) = true := by simpa using c63))
     (try (have c63b2 : (t118 == t121) = true := by simpa using c63))
     clear c63
     by_cases c71 : t118 = true
     ·subst c71
      have H1 : (laws_FnNetText.j2 kj8 l0 l1 (!(t116 == t112) || (!(t117 == t113)))) = some r := by rw [if_pos rfl] at H; exact H
      clear H
      have H := H1
      clear H1
      have H' := zA H
      clear H
      have hnb72 := NB114_105.out
      have hnc72 := NB105_114.out
      have hnb73 := NB114_109.out
      have hnc73 := NB109_114.out
      have hnb74 := NB114_119.out
      have hnc74 := NB119_114.out
      have hcz75_0 : w55.cell? ⟨gb114, 0, none⟩ = some (.int .i64 t112) := (blk_cell BK114.out 0).trans rfl
      have hcz75_1 : w55.cell? ⟨gb114, 1, none⟩ = some (.int .i64 t113) := (blk_cell BK114.out 1).trans rfl
      have hfz75_0 := blk_frozen BK114.out 0
      have hfz75_1 := blk_frozen BK114.out 1
      go_wp2_with (first | ((with_reducible refine gate_callee (f := 14) rfl ?_); refine goesL_ (some 71) rfl rfl Tryd.func14 (by kernel_rfl) rfl #[.agg #[.int .i64 t112, .int .i64 t113]] rfl y2  ?_; (with_reducible refine (spec_NetText.calls kj8 t112 t113 t120 _ A60.out).mono ?_); rintro e w76 ⟨rfl, hb⟩; refine ⟨_, rfl, ?_⟩; have n0_ := zA (blk_below (g := gb105) (o := .cells #[.int .i64 t102, .int .i64 t103] 25 (0, 0)) y3  hb); have n1_ := zA (blk_below (g := gb109) (o := .cells #[.int .i64 t106, .int .i64 t107] 25 (0, 0)) y4  hb); have n2_ := zA (blk_below (g := gb114) (o := .cells #[.int .i64 t112, .int .i64 t113] 25 (0, 0)) y5  hb); have n3_ := zA (blk_below (g := gb119) (o := .cells #[.int .i64 t116, .int .i64 t117] 25 (0, 0)) y1  hb); have n4_ := zA (below_step (zHB) hb); clear BK105; clear BK109; clear BK114; clear BK119; clear HB; have BK105 := n0_; have BK109 := n1_; have BK114 := n2_; have BK119 := n3_; have HB := n4_; clear n0_ n1_ n2_ n3_ n4_; (try clear hb); (try clear hb2); (try clear hk); (try clear hi); have hcz77_0 : w76.cell? ⟨gb114, 0, none⟩ = some (.int .i64 t112) := (blk_cell BK114.out 0).trans rfl; have hcz77_1 : w76.cell? ⟨gb114, 1, none⟩ = some (.int .i64 t113) := (blk_cell BK114.out 1).trans rfl; have hfz77_0 := blk_frozen BK114.out 0; have hfz77_1 := blk_frozen BK114.out 1) | (go_at_call 15; (with_reducible refine (spec_NetOk.calls kj8 t112 t113 t121 _ A62.out).mono ?_); rintro e w78 ⟨rfl, hb⟩; have n0_ := zA (blk_below (g := gb105) (o := .cells #[.int .i64 t102, .int .i64 t103] 25 (0, 0)) (zb BK105.out) hb); have n1_ := zA (blk_below (g := gb109) (o := .cells #[.int .i64 t106, .int .i64 t107] 25 (0, 0)) (zb BK109.out) hb); have n2_ := zA (blk_below (g := gb114) (o := .cells #[.int .i64 t112, .int .i64 t113] 25 (0, 0)) (zb BK114.out) hb); have n3_ := zA (blk_below (g := gb119) (o := .cells #[.int .i64 t116, .int .i64 t117] 25 (0, 0)) (zb BK119.out) hb); have n4_ := zA (below_step (zHB) hb); clear BK105; clear BK109; clear BK114; clear BK119; clear HB; have BK105 := n0_; have BK109 := n1_; have BK114 := n2_; have BK119 := n3_; have HB := n4_; clear n0_ n1_ n2_ n3_ n4_; (try clear hb); (try clear hb2); (try clear hk); (try clear hi); have hnb79 := NB119_105.out; have hnc79 := NB105_119.out; have hnb80 := NB119_109.out; have hnc80 := NB109_119.out; have hcz81_0 : w78.cell? ⟨gb119, 0, none⟩ = some (.int .i64 t116) := (blk_cell BK119.out 0).trans rfl; have hcz81_1 : w78.cell? ⟨gb119, 1, none⟩ = some (.int .i64 t117) := (blk_cell BK119.out 1).trans rfl; have hfz81_0 := blk_frozen BK119.out 0; have hfz81_1 := blk_frozen BK119.out 1; have hcz82_0 : w78.cell? ⟨gb114, 0, none⟩ = some (.int .i64 t112) := (blk_cell BK114.out 0).trans rfl; have hcz82_1 : w78.cell? ⟨gb114, 1, none⟩ = some (.int .i64 t113) := (blk_cell BK114.out 1).trans rfl; have hfz82_0 := blk_frozen BK114.out 0; have hfz82_1 := blk_frozen BK114.out 1))
      go_meet
      case rel => exact ⟨_, ((!(t116 == t112) || (!(t117 == t113)))), y6 , H', ⟨by have := HJ2.out; have := HJ8.out; first | omega | exact Nat.le_refl _⟩, ⟨by refine zq ?_; exact BK105.out⟩, ⟨by refine zq ?_; exact BK109.out⟩, ⟨by refine zq ?_; exact BK114.out⟩, ⟨by refine zq ?_; exact BK119.out⟩, ⟨zHB⟩⟩
     replace c71 := Bool.eq_false_iff.mpr c71
     subst c71
     have H1 : (laws_FnNetText.j2 kj8 l0 l1 false) = some r := by rw [if_neg (show ¬ (false = true) by decide)] at H; exact H
     clear H
     have H := H1
     clear H1
     have H' := zA H
     clear H
     have hnb83 := NB114_105.out
     have hnc83 := NB105_114.out
     have hnb84 := NB114_109.out
     have hnc84 := NB109_114.out
     have hnb85 := NB114_119.out
     have hnc85 := NB119_114.out
     have hcz86_0 : w55.cell? ⟨gb114, 0, none⟩ = some (.int .i64 t112) := (blk_cell BK114.out 0).trans rfl
     have hcz86_1 : w55.cell? ⟨gb114, 1, none⟩ = some (.int .i64 t113) := (blk_cell BK114.out 1).trans rfl
     have hfz86_0 := blk_frozen BK114.out 0
     have hfz86_1 := blk_frozen BK114.out 1
     go_wp2_with (first | ((with_reducible refine gate_callee (f := 14) rfl ?_); refine goesL_ (some 71) rfl rfl Tryd.func14 (by kernel_rfl) rfl #[.agg #[.int .i64 t112, .int .i64 t113]] rfl y2  ?_; (with_reducible refine (spec_NetText.calls kj8 t112 t113 t120 _ A60.out).mono ?_); rintro e w87 ⟨rfl, hb⟩; refine ⟨_, rfl, ?_⟩; have n0_ := zA (blk_below (g := gb105) (o := .cells #[.int .i64 t102, .int .i64 t103] 25 (0, 0)) y3  hb); have n1_ := zA (blk_below (g := gb109) (o := .cells #[.int .i64 t106, .int .i64 t107] 25 (0, 0)) y4  hb); have n2_ := zA (blk_below (g := gb114) (o := .cells #[.int .i64 t112, .int .i64 t113] 25 (0, 0)) y5  hb); have n3_ := zA (blk_below (g := gb119) (o := .cells #[.int .i64 t116, .int .i64 t117] 25 (0, 0)) y1  hb); have n4_ := zA (below_step (zHB) hb); clear BK105; clear BK109; clear BK114; clear BK119; clear HB; have BK105 := n0_; have BK109 := n1_; have BK114 := n2_; have BK119 := n3_; have HB := n4_; clear n0_ n1_ n2_ n3_ n4_; (try clear hb); (try clear hb2); (try clear hk); (try clear hi); have hcz88_0 : w87.cell? ⟨gb114, 0, none⟩ = some (.int .i64 t112) := (blk_cell BK114.out 0).trans rfl; have hcz88_1 : w87.cell? ⟨gb114, 1, none⟩ = some (.int .i64 t113) := (blk_cell BK114.out 1).trans rfl; have hfz88_0 := blk_frozen BK114.out 0; have hfz88_1 := blk_frozen BK114.out 1) | (go_at_call 15; (with_reducible refine (spec_NetOk.calls kj8 t112 t113 t121 _ A62.out).mono ?_); rintro e w89 ⟨rfl, hb⟩; have n0_ := zA (blk_below (g := gb105) (o := .cells #[.int .i64 t102, .int .i64 t103] 25 (0, 0)) (zb BK105.out) hb); have n1_ := zA (blk_below (g := gb109) (o := .cells #[.int .i64 t106, .int .i64 t107] 25 (0, 0)) (zb BK109.out) hb); have n2_ := zA (blk_below (g := gb114) (o := .cells #[.int .i64 t112, .int .i64 t113] 25 (0, 0)) (zb BK114.out) hb); have n3_ := zA (blk_below (g := gb119) (o := .cells #[.int .i64 t116, .int .i64 t117] 25 (0, 0)) (zb BK119.out) hb); have n4_ := zA (below_step (zHB) hb); clear BK105; clear BK109; clear BK114; clear BK119; clear HB; have BK105 := n0_; have BK109 := n1_; have BK114 := n2_; have BK119 := n3_; have HB := n4_; clear n0_ n1_ n2_ n3_ n4_; (try clear hb); (try clear hb2); (try clear hk); (try clear hi)))
     go_meet
     case rel => exact ⟨_, (false), y6 , H', ⟨by have := HJ2.out; have := HJ8.out; first | omega | exact Nat.le_refl _⟩, ⟨by refine zq ?_; exact BK105.out⟩, ⟨by refine zq ?_; exact BK109.out⟩, ⟨by refine zq ?_; exact BK114.out⟩, ⟨by refine zq ?_; exact BK119.out⟩, ⟨zHB⟩⟩
    rw [if_neg c61] at H
    have c61b0 : (t115.toList == t120.toList) = false := beq_eq_false_iff_ne.mpr c61
    have c61b1 : (t115.toList != t120.toList) = true := bne_iff_ne.mpr c61
    (first | rw [c61b0] | (simp only [i64_w, i32_w]; rw [c61b0]) | skip)
    have H' := zA H
    clear H
    have hnb90 := NB114_105.out
    have hnc90 := NB105_114.out
    have hnb91 := NB114_109.out
    have hnc91 := NB109_114.out
    have hnb92 := NB114_119.out
    have hnc92 := NB119_114.out
    have hcz93_0 : w55.cell? ⟨gb114, 0, none⟩ = some (.int .i64 t112) := (blk_cell BK114.out 0).trans rfl
    have hcz93_1 : w55.cell? ⟨gb114, 1, none⟩ = some (.int .i64 t113) := (blk_cell BK114.out 1).trans rfl
    have hfz93_0 := blk_frozen BK114.out 0
    have hfz93_1 := blk_frozen BK114.out 1
    go_wp2_with (first | ((with_reducible refine gate_callee (f := 14) rfl ?_); refine goesL_ (some 71) rfl rfl Tryd.func14 (by kernel_rfl) rfl #[.agg #[.int .i64 t112, .int .i64 t113]] rfl y2  ?_; (with_reducible refine (spec_NetText.calls kj8 t112 t113 t120 _ A60.out).mono ?_); rintro e w94 ⟨rfl, hb⟩; refine ⟨_, rfl, ?_⟩; have n0_ := zA (blk_below (g := gb105) (o := .cells #[.int .i64 t102, .int .i64 t103] 25 (0, 0)) y3  hb); have n1_ := zA (blk_below (g := gb109) (o := .cells #[.int .i64 t106, .int .i64 t107] 25 (0, 0)) y4  hb); have n2_ := zA (blk_below (g := gb114) (o := .cells #[.int .i64 t112, .int .i64 t113] 25 (0, 0)) y5  hb); have n3_ := zA (blk_below (g := gb119) (o := .cells #[.int .i64 t116, .int .i64 t117] 25 (0, 0)) y1  hb); have n4_ := zA (below_step (zHB) hb); clear BK105; clear BK109; clear BK114; clear BK119; clear HB; have BK105 := n0_; have BK109 := n1_; have BK114 := n2_; have BK119 := n3_; have HB := n4_; clear n0_ n1_ n2_ n3_ n4_; (try clear hb); (try clear hb2); (try clear hk); (try clear hi)))
    go_meet
    case rel => exact ⟨_, (true), y6 , H', ⟨by have := HJ2.out; have := HJ8.out; first | omega | exact Nat.le_refl _⟩, ⟨by refine zq ?_; exact BK105.out⟩, ⟨by refine zq ?_; exact BK109.out⟩, ⟨by refine zq ?_; exact BK114.out⟩, ⟨by refine zq ?_; exact BK119.out⟩, ⟨zHB⟩⟩
   case rest =>
    clear HC47
    try clear c1
    try clear c2
    try clear p2
    try clear c3
    try clear c4
    try clear c4b0
    try clear c4b1
    try clear c5
    try clear c6
    try clear c7
    try clear c8
    try clear c9
    try clear c10
    try clear c12
    try clear c13
    try clear c14
    try clear c16
    try clear c18
    try clear c18b0
    try clear c19
    try clear c22
    try clear c22b0
    try clear c22b1
    try clear c22b2
    try clear c23
    try clear c26
    try clear c28
    try clear c30
    try clear c36
    try clear c40
    try clear c43
    try clear c50
    try clear c51
    try clear c56
    try clear c57
    try clear c58
    try clear c61
    try clear c61b0
    try clear c61b1
    try clear c63
    try clear c63b0
    try clear c63b1
    try clear c63b2
    try clear c64
    try clear c65
    try clear c66
    try clear c71
    try clear c72
    try clear c73
    try clear c74
    try clear c79
    try clear c80
    try clear c83
    try clear c84
    try clear c85
    try clear c90
    try clear c91
    try clear c92
    try clear hcz13_0
    try clear hcz13_1
    try clear hcz17_0
    try clear hcz17_1
    try clear hcz20_0
    try clear hcz20_1
    try clear hcz21_0
    try clear hcz21_1
    try clear hcz24_0
    try clear hcz24_1
    try clear hcz25_0
    try clear hcz25_1
    try clear hcz31_0
    try clear hcz31_1
    try clear hcz32_0
    try clear hcz32_1
    try clear hcz34_0
    try clear hcz34_1
    try clear hcz37_0
    try clear hcz37_1
    try clear hcz38_0
    try clear hcz38_1
    try clear hcz41_0
    try clear hcz41_1
    try clear hcz42_0
    try clear hcz42_1
    try clear hcz52_0
    try clear hcz52_1
    try clear hcz59_0
    try clear hcz59_1
    try clear hcz67_0
    try clear hcz67_1
    try clear hcz69_0
    try clear hcz69_1
    try clear hcz75_0
    try clear hcz75_1
    try clear hcz77_0
    try clear hcz77_1
    try clear hcz81_0
    try clear hcz81_1
    try clear hcz82_0
    try clear hcz82_1
    try clear hcz86_0
    try clear hcz86_1
    try clear hcz88_0
    try clear hcz88_1
    try clear hcz93_0
    try clear hcz93_1
    try clear hfz13_0
    try clear hfz13_1
    try clear hfz17_0
    try clear hfz17_1
    try clear hfz20_0
    try clear hfz20_1
    try clear hfz21_0
    try clear hfz21_1
    try clear hfz24_0
    try clear hfz24_1
    try clear hfz25_0
    try clear hfz25_1
    try clear hfz31_0
    try clear hfz31_1
    try clear hfz32_0
    try clear hfz32_1
    try clear hfz34_0
    try clear hfz34_1
    try clear hfz37_0
    try clear hfz37_1
    try clear hfz38_0
    try clear hfz38_1
    try clear hfz41_0
    try clear hfz41_1
    try clear hfz42_0
    try clear hfz42_1
    try clear hfz52_0
    try clear hfz52_1
    try clear hfz59_0
    try clear hfz59_1
    try clear hfz67_0
    try clear hfz67_1
    try clear hfz69_0
    try clear hfz69_1
    try clear hfz75_0
    try clear hfz75_1
    try clear hfz77_0
    try clear hfz77_1
    try clear hfz81_0
    try clear hfz81_1
    try clear hfz82_0
    try clear hfz82_1
    try clear hfz86_0
    try clear hfz86_1
    try clear hfz88_0
    try clear hfz88_1
    try clear hfz93_0
    try clear hfz93_1
    try clear p2
    obtain ⟨kq, x86_46, rfl, HA, HJ46, BK105, BK109, BK114, BK119, HB⟩ := hcut
    cases kq with
    | zero => exact absurd HA.out (by simp [laws_FnNetText.j2])
    | succ kj46 => ?_
    have H := HA.out
    clear HA
    simp only [laws_FnNetText.j2] at H
    by_cases c95 : x86_46 = true
    ·subst c95
     have H1 : (some false) = some r := by rw [if_pos rfl] at H; exact H
     clear H
     have H := H1
     clear H1
     obtain rfl := Option.some.inj H
     go_wp2
     go_ret
     exact ⟨by first | rfl | (simp [errW_none, errW_some] <;> rfl) | (simp [*, errW_none, errW_some] <;> rfl), zHB⟩
    replace c95 := Bool.eq_false_iff.mpr c95
    subst c95
    have H1 : ((spec_DrawNetAddrText.f kj46 l0).bind fun t122 => ((impl_NetAddrText.f t122).bind fun t123 => ((spec_DrawNetAddr.f kj46 l1).bind fun t124 => ((impl_NetAddr.f t124).bind fun t125 => ((spec_NetAddrText.f kj46 t122).bind fun t126 => (if t123.toList = t126.toList then ((spec_NetAddr.f kj46 t124).bind fun t127 => (if t125 = t127 then (if t122 < 0 then (if t125 < 0 then (some true) else ((impl_NetAddrText.f t125).bind fun t128 => (some (t128.toList == t124.toList)))) else (if t122 > 65535 then (if t125 < 0 then (some true) else ((impl_NetAddrText.f t125).bind fun t129 => (some (t129.toList == t124.toList)))) else ((impl_NetAddr.f t123).bind fun t130 => (if t130 = t122 then (if t125 < 0 then (some true) else ((impl_NetAddrText.f t125).bind fun t131 => (some (t131.toList == t124.toList)))) else (some false))))) else (some false))) else (some false))))))) = some r := by rw [if_neg (show ¬ (false = true) by decide)] at H; exact H
    clear H
    have H := H1
    clear H1
    replace H := Option.bind_eq_some_iff.mp H
    obtain ⟨t122, A960, H⟩ := H
    replace H : ((impl_NetAddrText.f t122).bind fun t123 => ((spec_DrawNetAddr.f kj46 l1).bind fun t124 => ((impl_NetAddr.f t124).bind fun t125 => ((spec_NetAddrText.f kj46 t122).bind fun t126 => (if t123.toList = t126.toList then ((spec_NetAddr.f kj46 t124).bind fun t127 => (if t125 = t127 then (if t122 < 0 then (if t125 < 0 then (some true) else ((impl_NetAddrText.f t125).bind fun t128 => (some (t128.toList == t124.toList)))) else (if t122 > 65535 then (if t125 < 0 then (some true) else ((impl_NetAddrText.f t125).bind fun t129 => (some (t129.toList == t124.toList)))) else ((impl_NetAddr.f t123).bind fun t130 => (if t130 = t122 then (if t125 < 0 then (some true) else ((impl_NetAddrText.f t125).bind fun t131 => (some (t131.toList == t124.toList)))) else (some false))))) else (some false))) else (some false)))))) = some r := H
    have A96 := zA A960
    clear A960
    replace H := Option.bind_eq_some_iff.mp H
    obtain ⟨t123, A970, H⟩ := H
    replace H : ((spec_DrawNetAddr.f kj46 l1).bind fun t124 => ((impl_NetAddr.f t124).bind fun t125 => ((spec_NetAddrText.f kj46 t122).bind fun t126 => (if t123.toList = t126.toList then ((spec_NetAddr.f kj46 t124).bind fun t127 => (if t125 = t127 then (if t122 < 0 then (if t125 < 0 then (some true) else ((impl_NetAddrText.f t125).bind fun t128 => (some (t128.toList == t124.toList)))) else (if t122 > 65535 then (if t125 < 0 then (some true) else ((impl_NetAddrText.f t125).bind fun t129 => (some (t129.toList == t124.toList)))) else ((impl_NetAddr.f t123).bind fun t130 => (if t130 = t122 then (if t125 < 0 then (some true) else ((impl_NetAddrText.f t125).bind fun t131 => (some (t131.toList == t124.toList)))) else (some false))))) else (some false))) else (some false))))) = some r := H
    have A97 := zA A970
    clear A970
    replace H := Option.bind_eq_some_iff.mp H
    obtain ⟨t124, A980, H⟩ := H
    replace H : ((impl_NetAddr.f t124).bind fun t125 => ((spec_NetAddrText.f kj46 t122).bind fun t126 => (if t123.toList = t126.toList then ((spec_NetAddr.f kj46 t124).bind fun t127 => (if t125 = t127 then (if t122 < 0 then (if t125 < 0 then (some true) else ((impl_NetAddrText.f t125).bind fun t128 => (some (t128.toList == t124.toList)))) else (if t122 > 65535 then (if t125 < 0 then (some true) else ((impl_NetAddrText.f t125).bind fun t129 => (some (t129.toList == t124.toList)))) else ((impl_NetAddr.f t123).bind fun t130 => (if t130 = t122 then (if t125 < 0 then (some true) else ((impl_NetAddrText.f t125).bind fun t131 => (some (t131.toList == t124.toList)))) else (some false))))) else (some false))) else (some false)))) = some r := H
    have A98 := zA A980
    clear A980
    replace H := Option.bind_eq_some_iff.mp H
    obtain ⟨t125, A990, H⟩ := H
    replace H : ((spec_NetAddrText.f kj46 t122).bind fun t126 => (if t123.toList = t126.toList then ((spec_NetAddr.f kj46 t124).bind fun t127 => (if t125 = t127 then (if t122 < 0 then (if t125 < 0 then (some true) else ((impl_NetAddrText.f t125).bind fun t128 => (some (t128.toList == t124.toList)))) else (if t122 > 65535 then (if t125 < 0 then (some true) else ((impl_NetAddrText.f t125).bind fun t129 => (some (t129.toList == t124.toList)))) else ((impl_NetAddr.f t123).bind fun t130 => (if t130 = t122 then (if t125 < 0 then (some true) else ((impl_NetAddrText.f t125).bind fun t131 => (some (t131.toList == t124.toList)))) else (some false))))) else (some false))) else (some false))) = some r := H
    have A99 := zA A990
    clear A990
    replace H := Option.bind_eq_some_iff.mp H
    obtain ⟨t126, A1000, H⟩ := H
    replace H : (if t123.toList = t126.toList then ((spec_NetAddr.f kj46 t124).bind fun t127 => (if t125 = t127 then (if t122 < 0 then (if t125 < 0 then (some true) else ((impl_NetAddrText.f t125).bind fun t128 => (some (t128.toList == t124.toList)))) else (if t122 > 65535 then (if t125 < 0 then (some true) else ((impl_NetAddrText.f t125).bind fun t129 => (some (t129.toList == t124.toList)))) else ((impl_NetAddr.f t123).bind fun t130 => (if t130 = t122 then (if t125 < 0 then (some true) else ((impl_NetAddrText.f t125).bind fun t131 => (some (t131.toList == t124.toList)))) else (some false))))) else (some false))) else (some false)) = some r := H
    have A100 := zA A1000
    clear A1000
    by_cases c101 : t123.toList = t126.toList
    ·rw [if_pos c101] at H
     have c101b0 : (t123.toList == t126.toList) = true := beq_iff_eq.mpr c101
     have c101b1 : (t123.toList != t126.toList) = false := bne_eq_false_iff_eq.mpr c101
     clear c101
     replace H := Option.bind_eq_some_iff.mp H
     obtain ⟨t127, A1020, H⟩ := H
     replace H : (if t125 = t127 then (if t122 < 0 then (if t125 < 0 then (some true) else ((impl_NetAddrText.f t125).bind fun t128 => (some (t128.toList == t124.toList)))) else (if t122 > 65535 then (if t125 < 0 then (some true) else ((impl_NetAddrText.f t125).bind fun t129 => (some (t129.toList == t124.toList)))) else ((impl_NetAddr.f t123).bind fun t130 => (if t130 = t122 then (if t125 < 0 then (some true) else ((impl_NetAddrText.f t125).bind fun t131 => (some (t131.toList == t124.toList)))) else (some false))))) else (some false)) = some r := H
     have A102 := zA A1020
     clear A1020
     by_cases c103 : t125 = t127
     ·rw [if_pos c103] at H
      have c103b0 : (t125 == t127) = true := beq_iff_eq.mpr c103
      have c103b1 : (t125 != t127) = false := bne_eq_false_iff_eq.mpr c103
      clear c103
      by_cases c104 : t122 < 0
      ·rw [if_pos c104] at H
       have c104b0 : decide (t122 < 0) = true := decide_eq_true c104
       clear c104
       by_cases c105 : t125 < 0
       ·rw [if_pos c105] at H
        have c105b0 : decide (t125 < 0) = true := decide_eq_true c105
        clear c105
        obtain rfl := Option.some.inj H
        go_wp2_with (first | ((with_reducible refine gate_callee (f := 16) rfl ?_); refine goesL_ (some 88) rfl rfl Tryd.func16 (by kernel_rfl) rfl #[.slice A0 l0.length c0] rfl y2  ?_; (with_reducible refine (spec_DrawNetAddrText.calls kj46 _ _ l0 t122 _ ?side1 ?side2 A96.out).mono ?_); (case side1 => repeat (first | exact (Kd.C_below HR0.out HB.out) | (with_reducible refine Kd.C_alloc ?_ _) | (with_reducible refine Kd.C_drewN ?_ _) | (with_reducible refine Kd.C_drew ?_))); (case side2 => exact HC0.out); rintro e w106 ⟨rfl, hb⟩; refine ⟨_, rfl, ?_⟩; have n0_ := zA (blk_below (g := gb105) (o := .cells #[.int .i64 t102, .int .i64 t103] 25 (0, 0)) (zb BK105.out) hb); have n1_ := zA (blk_below (g := gb109) (o := .cells #[.int .i64 t106, .int .i64 t107] 25 (0, 0)) (zb BK109.out) hb); have n2_ := zA (blk_below (g := gb114) (o := .cells #[.int .i64 t112, .int .i64 t113] 25 (0, 0)) (zb BK114.out) hb); have n3_ := zA (blk_below (g := gb119) (o := .cells #[.int .i64 t116, .int .i64 t117] 25 (0, 0)) (zb BK119.out) hb); have n4_ := zA (below_step (zHB) hb); clear BK105; clear BK109; clear BK114; clear BK119; clear HB; have BK105 := n0_; have BK109 := n1_; have BK114 := n2_; have BK119 := n3_; have HB := n4_; clear n0_ n1_ n2_ n3_ n4_; (try clear hb); (try clear hb2); (try clear hk); (try clear hi)) | ((with_reducible refine gate_callee (f := 17) rfl ?_); refine goesL_ (some 90) rfl rfl Tryd.func17 (by kernel_rfl) rfl #[.int .i64 t122] rfl y2  ?_; (with_reducible refine (impl_NetAddrText.calls t122 t123 _ (HG.out.step (zHB)).t A97.out).mono ?_); rintro e w107 ⟨rfl, hb⟩; refine ⟨_, rfl, ?_⟩; have n0_ := zA (blk_below (g := gb105) (o := .cells #[.int .i64 t102, .int .i64 t103] 25 (0, 0)) (zb BK105.out) hb); have n1_ := zA (blk_below (g := gb109) (o := .cells #[.int .i64 t106, .int .i64 t107] 25 (0, 0)) (zb BK109.out) hb); have n2_ := zA (blk_below (g := gb114) (o := .cells #[.int .i64 t112, .int .i64 t113] 25 (0, 0)) (zb BK114.out) hb); have n3_ := zA (blk_below (g := gb119) (o := .cells #[.int .i64 t116, .int .i64 t117] 25 (0, 0)) (zb BK119.out) hb); have n4_ := zA (below_step (zHB) hb); clear BK105; clear BK109; clear BK114; clear BK119; clear HB; have BK105 := n0_; have BK109 := n1_; have BK114 := n2_; have BK119 := n3_; have HB := n4_; clear n0_ n1_ n2_ n3_ n4_; (try clear hb); (try clear hb2); (try clear hk); (try clear hi)) | ((with_reducible refine gate_callee (f := 18) rfl ?_); refine goesL_ (some 92) rfl rfl Tryd.func18 (by kernel_rfl) rfl #[.slice A1 l1.length c1] rfl y2  ?_; (with_reducible refine (spec_DrawNetAddr.calls kj46 _ _ l1 t124 _ ?side1 ?side2 A98.out).mono ?_); (case side1 => repeat (first | exact (Kd.C_below HR1.out HB.out) | (with_reducible refine Kd.C_alloc ?_ _) | (with_reducible refine Kd.C_drewN ?_ _) | (with_reducible refine Kd.C_drew ?_))); (case side2 => exact HC1.out); rintro e w108 ⟨rfl, hb⟩; refine ⟨_, rfl, ?_⟩; have n0_ := zA (blk_below (g := gb105) (o := .cells #[.int .i64 t102, .int .i64 t103] 25 (0, 0)) (zb BK105.out) hb); have n1_ := zA (blk_below (g := gb109) (o := .cells #[.int .i64 t106, .int .i64 t107] 25 (0, 0)) (zb BK109.out) hb); have n2_ := zA (blk_below (g := gb114) (o := .cells #[.int .i64 t112, .int .i64 t113] 25 (0, 0)) (zb BK114.out) hb); have n3_ := zA (blk_below (g := gb119) (o := .cells #[.int .i64 t116, .int .i64 t117] 25 (0, 0)) (zb BK119.out) hb); have n4_ := zA (below_step (zHB) hb); clear BK105; clear BK109; clear BK114; clear BK119; clear HB; have BK105 := n0_; have BK109 := n1_; have BK114 := n2_; have BK119 := n3_; have HB := n4_; clear n0_ n1_ n2_ n3_ n4_; (try clear hb); (try clear hb2); (try clear hk); (try clear hi)) | ((with_reducible refine gate_callee (f := 19) rfl ?_); refine goesL_ (some 94) rfl rfl Tryd.func19 (by kernel_rfl) rfl #[.string t124] rfl y2  ?_; (with_reducible refine (impl_NetAddr.calls t124 t125 _ (HG.out.step (zHB)) A99.out).mono ?_); rintro e w109 ⟨rfl, hb⟩; refine ⟨_, rfl, ?_⟩; have n0_ := zA (blk_below (g := gb105) (o := .cells #[.int .i64 t102, .int .i64 t103] 25 (0, 0)) (zb BK105.out) hb); have n1_ := zA (blk_below (g := gb109) (o := .cells #[.int .i64 t106, .int .i64 t107] 25 (0, 0)) (zb BK109.out) hb); have n2_ := zA (blk_below (g := gb114) (o := .cells #[.int .i64 t112, .int .i64 t113] 25 (0, 0)) (zb BK114.out) hb); have n3_ := zA (blk_below (g := gb119) (o := .cells #[.int .i64 t116, .int .i64 t117] 25 (0, 0)) (zb BK119.out) hb); have n4_ := zA (below_step (zHB) hb); clear BK105; clear BK109; clear BK114; clear BK119; clear HB; have BK105 := n0_; have BK109 := n1_; have BK114 := n2_; have BK119 := n3_; have HB := n4_; clear n0_ n1_ n2_ n3_ n4_; (try clear hb); (try clear hb2); (try clear hk); (try clear hi)) | ((with_reducible refine gate_callee (f := 20) rfl ?_); refine goesL_ (some 97) rfl rfl Tryd.func20 (by kernel_rfl) rfl #[.int .i64 t122] rfl y2  ?_; (with_reducible refine (spec_NetAddrText.calls kj46 t122 t126 _ A100.out).mono ?_); rintro e w110 ⟨rfl, hb⟩; refine ⟨_, rfl, ?_⟩; have n0_ := zA (blk_below (g := gb105) (o := .cells #[.int .i64 t102, .int .i64 t103] 25 (0, 0)) (zb BK105.out) hb); have n1_ := zA (blk_below (g := gb109) (o := .cells #[.int .i64 t106, .int .i64 t107] 25 (0, 0)) (zb BK109.out) hb); have n2_ := zA (blk_below (g := gb114) (o := .cells #[.int .i64 t112, .int .i64 t113] 25 (0, 0)) (zb BK114.out) hb); have n3_ := zA (blk_below (g := gb119) (o := .cells #[.int .i64 t116, .int .i64 t117] 25 (0, 0)) (zb BK119.out) hb); have n4_ := zA (below_step (zHB) hb); clear BK105; clear BK109; clear BK114; clear BK119; clear HB; have BK105 := n0_; have BK109 := n1_; have BK114 := n2_; have BK119 := n3_; have HB := n4_; clear n0_ n1_ n2_ n3_ n4_; (try clear hb); (try clear hb2); (try clear hk); (try clear hi)) | (go_at_call 21; (with_reducible refine (spec_NetAddr.calls kj46 t124 t127 _ A102.out).mono ?_); rintro e w111 ⟨rfl, hb⟩; have n0_ := zA (blk_below (g := gb105) (o := .cells #[.int .i64 t102, .int .i64 t103] 25 (0, 0)) (zb BK105.out) hb); have n1_ := zA (blk_below (g := gb109) (o := .cells #[.int .i64 t106, .int .i64 t107] 25 (0, 0)) (zb BK109.out) hb); have n2_ := zA (blk_below (g := gb114) (o := .cells #[.int .i64 t112, .int .i64 t113] 25 (0, 0)) (zb BK114.out) hb); have n3_ := zA (blk_below (g := gb119) (o := .cells #[.int .i64 t116, .int .i64 t117] 25 (0, 0)) (zb BK119.out) hb); have n4_ := zA (below_step (zHB) hb); clear BK105; clear BK109; clear BK114; clear BK119; clear HB; have BK105 := n0_; have BK109 := n1_; have BK114 := n2_; have BK119 := n3_; have HB := n4_; clear n0_ n1_ n2_ n3_ n4_; (try clear hb); (try clear hb2); (try clear hk); (try clear hi)))
        go_ret
        exact ⟨by first | rfl | (simp [errW_none, errW_some] <;> rfl) | (simp [*, errW_none, errW_some] <;> rfl), zHB⟩
       rw [if_neg c105] at H
       have c105b0 : decide (t125 < 0) = false := decide_eq_false c105
       clear c105
       replace H := Option.bind_eq_some_iff.mp H
       obtain ⟨t128, A1120, H⟩ := H
       replace H : (some (t128.toList == t124.toList)) = some r := H
       have A112 := zA A1120
       clear A1120
       obtain rfl := Option.some.inj H
       go_wp2_with (first | ((with_reducible refine gate_callee (f := 16) rfl ?_); refine goesL_ (some 88) rfl rfl Tryd.func16 (by kernel_rfl) rfl #[.slice A0 l0.length c0] rfl y2  ?_; (with_reducible refine (spec_DrawNetAddrText.calls kj46 _ _ l0 t122 _ ?side1 ?side2 A96.out).mono ?_); (case side1 => repeat (first | exact (Kd.C_below HR0.out HB.out) | (with_reducible refine Kd.C_alloc ?_ _) | (with_reducible refine Kd.C_drewN ?_ _) | (with_reducible refine Kd.C_drew ?_))); (case side2 => exact HC0.out); rintro e w113 ⟨rfl, hb⟩; refine ⟨_, rfl, ?_⟩; have n0_ := zA (blk_below (g := gb105) (o := .cells #[.int .i64 t102, .int .i64 t103] 25 (0, 0)) (zb BK105.out) hb); have n1_ := zA (blk_below (g := gb109) (o := .cells #[.int .i64 t106, .int .i64 t107] 25 (0, 0)) (zb BK109.out) hb); have n2_ := zA (blk_below (g := gb114) (o := .cells #[.int .i64 t112, .int .i64 t113] 25 (0, 0)) (zb BK114.out) hb); have n3_ := zA (blk_below (g := gb119) (o := .cells #[.int .i64 t116, .int .i64 t117] 25 (0, 0)) (zb BK119.out) hb); have n4_ := zA (below_step (zHB) hb); clear BK105; clear BK109; clear BK114; clear BK119; clear HB; have BK105 := n0_; have BK109 := n1_; have BK114 := n2_; have BK119 := n3_; have HB := n4_; clear n0_ n1_ n2_ n3_ n4_; (try clear hb); (try clear hb2); (try clear hk); (try clear hi)) | ((with_reducible refine gate_callee (f := 17) rfl ?_); refine goesL_ (some 90) rfl rfl Tryd.func17 (by kernel_rfl) rfl #[.int .i64 t122] rfl y2  ?_; (with_reducible refine (impl_NetAddrText.calls t122 t123 _ (HG.out.step (zHB)).t A97.out).mono ?_); rintro e w114 ⟨rfl, hb⟩; refine ⟨_, rfl, ?_⟩; have n0_ := zA (blk_below (g := gb105) (o := .cells #[.int .i64 t102, .int .i64 t103] 25 (0, 0)) (zb BK105.out) hb); have n1_ := zA (blk_below (g := gb109) (o := .cells #[.int .i64 t106, .int .i64 t107] 25 (0, 0)) (zb BK109.out) hb); have n2_ := zA (blk_below (g := gb114) (o := .cells #[.int .i64 t112, .int .i64 t113] 25 (0, 0)) (zb BK114.out) hb); have n3_ := zA (blk_below (g := gb119) (o := .cells #[.int .i64 t116, .int .i64 t117] 25 (0, 0)) (zb BK119.out) hb); have n4_ := zA (below_step (zHB) hb); clear BK105; clear BK109; clear BK114; clear BK119; clear HB; have BK105 := n0_; have BK109 := n1_; have BK114 := n2_; have BK119 := n3_; have HB := n4_; clear n0_ n1_ n2_ n3_ n4_; (try clear hb); (try clear hb2); (try clear hk); (try clear hi)) | ((with_reducible refine gate_callee (f := 18) rfl ?_); refine goesL_ (some 92) rfl rfl Tryd.func18 (by kernel_rfl) rfl #[.slice A1 l1.length c1] rfl y2  ?_; (with_reducible refine (spec_DrawNetAddr.calls kj46 _ _ l1 t124 _ ?side1 ?side2 A98.out).mono ?_); (case side1 => repeat (first | exact (Kd.C_below HR1.out HB.out) | (with_reducible refine Kd.C_alloc ?_ _) | (with_reducible refine Kd.C_drewN ?_ _) | (with_reducible refine Kd.C_drew ?_))); (case side2 => exact HC1.out); rintro e w115 ⟨rfl, hb⟩; refine ⟨_, rfl, ?_⟩; have n0_ := zA (blk_below (g := gb105) (o := .cells #[.int .i64 t102, .int .i64 t103] 25 (0, 0)) (zb BK105.out) hb); have n1_ := zA (blk_below (g := gb109) (o := .cells #[.int .i64 t106, .int .i64 t107] 25 (0, 0)) (zb BK109.out) hb); have n2_ := zA (blk_below (g := gb114) (o := .cells #[.int .i64 t112, .int .i64 t113] 25 (0, 0)) (zb BK114.out) hb); have n3_ := zA (blk_below (g := gb119) (o := .cells #[.int .i64 t116, .int .i64 t117] 25 (0, 0)) (zb BK119.out) hb); have n4_ := zA (below_step (zHB) hb); clear BK105; clear BK109; clear BK114; clear BK119; clear HB; have BK105 := n0_; have BK109 := n1_; have BK114 := n2_; have BK119 := n3_; have HB := n4_; clear n0_ n1_ n2_ n3_ n4_; (try clear hb); (try clear hb2); (try clear hk); (try clear hi)) | ((with_reducible refine gate_callee (f := 19) rfl ?_); refine goesL_ (some 94) rfl rfl Tryd.func19 (by kernel_rfl) rfl #[.string t124] rfl y2  ?_; (with_reducible refine (impl_NetAddr.calls t124 t125 _ (HG.out.step (zHB)) A99.out).mono ?_); rintro e w116 ⟨rfl, hb⟩; refine ⟨_, rfl, ?_⟩; have n0_ := zA (blk_below (g := gb105) (o := .cells #[.int .i64 t102, .int .i64 t103] 25 (0, 0)) (zb BK105.out) hb); have n1_ := zA (blk_below (g := gb109) (o := .cells #[.int .i64 t106, .int .i64 t107] 25 (0, 0)) (zb BK109.out) hb); have n2_ := zA (blk_below (g := gb114) (o := .cells #[.int .i64 t112, .int .i64 t113] 25 (0, 0)) (zb BK114.out) hb); have n3_ := zA (blk_below (g := gb119) (o := .cells #[.int .i64 t116, .int .i64 t117] 25 (0, 0)) (zb BK119.out) hb); have n4_ := zA (below_step (zHB) hb); clear BK105; clear BK109; clear BK114; clear BK119; clear HB; have BK105 := n0_; have BK109 := n1_; have BK114 := n2_; have BK119 := n3_; have HB := n4_; clear n0_ n1_ n2_ n3_ n4_; (try clear hb); (try clear hb2); (try clear hk); (try clear hi)) | ((with_reducible refine gate_callee (f := 20) rfl ?_); refine goesL_ (some 97) rfl rfl Tryd.func20 (by kernel_rfl) rfl #[.int .i64 t122] rfl y2  ?_; (with_reducible refine (spec_NetAddrText.calls kj46 t122 t126 _ A100.out).mono ?_); rintro e w117 ⟨rfl, hb⟩; refine ⟨_, rfl, ?_⟩; have n0_ := zA (blk_below (g := gb105) (o := .cells #[.int .i64 t102, .int .i64 t103] 25 (0, 0)) (zb BK105.out) hb); have n1_ := zA (blk_below (g := gb109) (o := .cells #[.int .i64 t106, .int .i64 t107] 25 (0, 0)) (zb BK109.out) hb); have n2_ := zA (blk_below (g := gb114) (o := .cells #[.int .i64 t112, .int .i64 t113] 25 (0, 0)) (zb BK114.out) hb); have n3_ := zA (blk_below (g := gb119) (o := .cells #[.int .i64 t116, .int .i64 t117] 25 (0, 0)) (zb BK119.out) hb); have n4_ := zA (below_step (zHB) hb); clear BK105; clear BK109; clear BK114; clear BK119; clear HB; have BK105 := n0_; have BK109 := n1_; have BK114 := n2_; have BK119 := n3_; have HB := n4_; clear n0_ n1_ n2_ n3_ n4_; (try clear hb); (try clear hb2); (try clear hk); (try clear hi)) | (go_at_call 21; (with_reducible refine (spec_NetAddr.calls kj46 t124 t127 _ A102.out).mono ?_); rintro e w118 ⟨rfl, hb⟩; have n0_ := zA (blk_below (g := gb105) (o := .cells #[.int .i64 t102, .int .i64 t103] 25 (0, 0)) (zb BK105.out) hb); have n1_ := zA (blk_below (g := gb109) (o := .cells #[.int .i64 t106, .int .i64 t107] 25 (0, 0)) (zb BK109.out) hb); have n2_ := zA (blk_below (g := gb114) (o := .cells #[.int .i64 t112, .int .i64 t113] 25 (0, 0)) (zb BK114.out) hb); have n3_ := zA (blk_below (g := gb119) (o := .cells #[.int .i64 t116, .int .i64 t117] 25 (0, 0)) (zb BK119.out) hb); have n4_ := zA (below_step (zHB) hb); clear BK105; clear BK109; clear BK114; clear BK119; clear HB; have BK105 := n0_; have BK109 := n1_; have BK114 := n2_; have BK119 := n3_; have HB := n4_; clear n0_ n1_ n2_ n3_ n4_; (try clear hb); (try clear hb2); (try clear hk); (try clear hi)) | (go_at_call 17; (with_reducible refine (impl_NetAddrText.calls t125 t128 _ (HG.out.step (zHB)).t A112.out).mono ?_); rintro e w119 ⟨rfl, hb⟩; have n0_ := zA (blk_below (g := gb105) (o := .cells #[.int .i64 t102, .int .i64 t103] 25 (0, 0)) (zb BK105.out) hb); have n1_ := zA (blk_below (g := gb109) (o := .cells #[.int .i64 t106, .int .i64 t107] 25 (0, 0)) (zb BK109.out) hb); have n2_ := zA (blk_below (g := gb114) (o := .cells #[.int .i64 t112, .int .i64 t113] 25 (0, 0)) (zb BK114.out) hb); have n3_ := zA (blk_below (g := gb119) (o := .cells #[.int .i64 t116, .int .i64 t117] 25 (0, 0)) (zb BK119.out) hb); have n4_ := zA (below_step (zHB) hb); clear BK105; clear BK109; clear BK114; clear BK119; clear HB; have BK105 := n0_; have BK109 := n1_; have BK114 := n2_; have BK119 := n3_; have HB := n4_; clear n0_ n1_ n2_ n3_ n4_; (try clear hb); (try clear hb2); (try clear hk); (try clear hi)))
       go_ret
       exact ⟨by first | rfl | (simp [errW_none, errW_some] <;> rfl) | (simp [*, errW_none, errW_some] <;> rfl), zHB⟩
      rw [if_neg c104] at H
      have c104b0 : decide (t122 < 0) = false := decide_eq_false c104
      clear c104
      by_cases c120 : t122 > 65535
      ·rw [if_pos c120] at H
       have c120b0 : decide (65535 < t122) = true := decide_eq_true c120
       clear c120
       by_cases c121 : t125 < 0
       ·rw [if_pos c121] at H
        have c121b0 : decide (t125 < 0) = true := decide_eq_true c121
        clear c121
        obtain rfl := Option.some.inj H
        go_wp2_with (first | ((with_reducible refine gate_callee (f := 16) rfl ?_); refine goesL_ (some 88) rfl rfl Tryd.func16 (by kernel_rfl) rfl #[.slice A0 l0.length c0] rfl y2  ?_; (with_reducible refine (spec_DrawNetAddrText.calls kj46 _ _ l0 t122 _ ?side1 ?side2 A96.out).mono ?_); (case side1 => repeat (first | exact (Kd.C_below HR0.out HB.out) | (with_reducible refine Kd.C_alloc ?_ _) | (with_reducible refine Kd.C_drewN ?_ _) | (with_reducible refine Kd.C_drew ?_))); (case side2 => exact HC0.out); rintro e w122 ⟨rfl, hb⟩; refine ⟨_, rfl, ?_⟩; have n0_ := zA (blk_below (g := gb105) (o := .cells #[.int .i64 t102, .int .i64 t103] 25 (0, 0)) (zb BK105.out) hb); have n1_ := zA (blk_below (g := gb109) (o := .cells #[.int .i64 t106, .int .i64 t107] 25 (0, 0)) (zb BK109.out) hb); have n2_ := zA (blk_below (g := gb114) (o := .cells #[.int .i64 t112, .int .i64 t113] 25 (0, 0)) (zb BK114.out) hb); have n3_ := zA (blk_below (g := gb119) (o := .cells #[.int .i64 t116, .int .i64 t117] 25 (0, 0)) (zb BK119.out) hb); have n4_ := zA (below_step (zHB) hb); clear BK105; clear BK109; clear BK114; clear BK119; clear HB; have BK105 := n0_; have BK109 := n1_; have BK114 := n2_; have BK119 := n3_; have HB := n4_; clear n0_ n1_ n2_ n3_ n4_; (try clear hb); (try clear hb2); (try clear hk); (try clear hi)) | ((with_reducible refine gate_callee (f := 17) rfl ?_); refine goesL_ (some 90) rfl rfl Tryd.func17 (by kernel_rfl) rfl #[.int .i64 t122] rfl y2  ?_; (with_reducible refine (impl_NetAddrText.calls t122 t123 _ (HG.out.step (zHB)).t A97.out).mono ?_); rintro e w123 ⟨rfl, hb⟩; refine ⟨_, rfl, ?_⟩; have n0_ := zA (blk_below (g := gb105) (o := .cells #[.int .i64 t102, .int .i64 t103] 25 (0, 0)) (zb BK105.out) hb); have n1_ := zA (blk_below (g := gb109) (o := .cells #[.int .i64 t106, .int .i64 t107] 25 (0, 0)) (zb BK109.out) hb); have n2_ := zA (blk_below (g := gb114) (o := .cells #[.int .i64 t112, .int .i64 t113] 25 (0, 0)) (zb BK114.out) hb); have n3_ := zA (blk_below (g := gb119) (o := .cells #[.int .i64 t116, .int .i64 t117] 25 (0, 0)) (zb BK119.out) hb); have n4_ := zA (below_step (zHB) hb); clear BK105; clear BK109; clear BK114; clear BK119; clear HB; have BK105 := n0_; have BK109 := n1_; have BK114 := n2_; have BK119 := n3_; have HB := n4_; clear n0_ n1_ n2_ n3_ n4_; (try clear hb); (try clear hb2); (try clear hk); (try clear hi)) | ((with_reducible refine gate_callee (f := 18) rfl ?_); refine goesL_ (some 92) rfl rfl Tryd.func18 (by kernel_rfl) rfl #[.slice A1 l1.length c1] rfl y2  ?_; (with_reducible refine (spec_DrawNetAddr.calls kj46 _ _ l1 t124 _ ?side1 ?side2 A98.out).mono ?_); (case side1 => repeat (first | exact (Kd.C_below HR1.out HB.out) | (with_reducible refine Kd.C_alloc ?_ _) | (with_reducible refine Kd.C_drewN ?_ _) | (with_reducible refine Kd.C_drew ?_))); (case side2 => exact HC1.out); rintro e w124 ⟨rfl, hb⟩; refine ⟨_, rfl, ?_⟩; have n0_ := zA (blk_below (g := gb105) (o := .cells #[.int .i64 t102, .int .i64 t103] 25 (0, 0)) (zb BK105.out) hb); have n1_ := zA (blk_below (g := gb109) (o := .cells #[.int .i64 t106, .int .i64 t107] 25 (0, 0)) (zb BK109.out) hb); have n2_ := zA (blk_below (g := gb114) (o := .cells #[.int .i64 t112, .int .i64 t113] 25 (0, 0)) (zb BK114.out) hb); have n3_ := zA (blk_below (g := gb119) (o := .cells #[.int .i64 t116, .int .i64 t117] 25 (0, 0)) (zb BK119.out) hb); have n4_ := zA (below_step (zHB) hb); clear BK105; clear BK109; clear BK114; clear BK119; clear HB; have BK105 := n0_; have BK109 := n1_; have BK114 := n2_; have BK119 := n3_; have HB := n4_; clear n0_ n1_ n2_ n3_ n4_; (try clear hb); (try clear hb2); (try clear hk); (try clear hi)) | ((with_reducible refine gate_callee (f := 19) rfl ?_); refine goesL_ (some 94) rfl rfl Tryd.func19 (by kernel_rfl) rfl #[.string t124] rfl y2  ?_; (with_reducible refine (impl_NetAddr.calls t124 t125 _ (HG.out.step (zHB)) A99.out).mono ?_); rintro e w125 ⟨rfl, hb⟩; refine ⟨_, rfl, ?_⟩; have n0_ := zA (blk_below (g := gb105) (o := .cells #[.int .i64 t102, .int .i64 t103] 25 (0, 0)) (zb BK105.out) hb); have n1_ := zA (blk_below (g := gb109) (o := .cells #[.int .i64 t106, .int .i64 t107] 25 (0, 0)) (zb BK109.out) hb); have n2_ := zA (blk_below (g := gb114) (o := .cells #[.int .i64 t112, .int .i64 t113] 25 (0, 0)) (zb BK114.out) hb); have n3_ := zA (blk_below (g := gb119) (o := .cells #[.int .i64 t116, .int .i64 t117] 25 (0, 0)) (zb BK119.out) hb); have n4_ := zA (below_step (zHB) hb); clear BK105; clear BK109; clear BK114; clear BK119; clear HB; have BK105 := n0_; have BK109 := n1_; have BK114 := n2_; have BK119 := n3_; have HB := n4_; clear n0_ n1_ n2_ n3_ n4_; (try clear hb); (try clear hb2); (try clear hk); (try clear hi)) | ((with_reducible refine gate_callee (f := 20) rfl ?_); refine goesL_ (some 97) rfl rfl Tryd.func20 (by kernel_rfl) rfl #[.int .i64 t122] rfl y2  ?_; (with_reducible refine (spec_NetAddrText.calls kj46 t122 t126 _ A100.out).mono ?_); rintro e w126 ⟨rfl, hb⟩; refine ⟨_, rfl, ?_⟩; have n0_ := zA (blk_below (g := gb105) (o := .cells #[.int .i64 t102, .int .i64 t103] 25 (0, 0)) (zb BK105.out) hb); have n1_ := zA (blk_below (g := gb109) (o := .cells #[.int .i64 t106, .int .i64 t107] 25 (0, 0)) (zb BK109.out) hb); have n2_ := zA (blk_below (g := gb114) (o := .cells #[.int .i64 t112, .int .i64 t113] 25 (0, 0)) (zb BK114.out) hb); have n3_ := zA (blk_below (g := gb119) (o := .cells #[.int .i64 t116, .int .i64 t117] 25 (0, 0)) (zb BK119.out) hb); have n4_ := zA (below_step (zHB) hb); clear BK105; clear BK109; clear BK114; clear BK119; clear HB; have BK105 := n0_; have BK109 := n1_; have BK114 := n2_; have BK119 := n3_; have HB := n4_; clear n0_ n1_ n2_ n3_ n4_; (try clear hb); (try clear hb2); (try clear hk); (try clear hi)) | (go_at_call 21; (with_reducible refine (spec_NetAddr.calls kj46 t124 t127 _ A102.out).mono ?_); rintro e w127 ⟨rfl, hb⟩; have n0_ := zA (blk_below (g := gb105) (o := .cells #[.int .i64 t102, .int .i64 t103] 25 (0, 0)) (zb BK105.out) hb); have n1_ := zA (blk_below (g := gb109) (o := .cells #[.int .i64 t106, .int .i64 t107] 25 (0, 0)) (zb BK109.out) hb); have n2_ := zA (blk_below (g := gb114) (o := .cells #[.int .i64 t112, .int .i64 t113] 25 (0, 0)) (zb BK114.out) hb); have n3_ := zA (blk_below (g := gb119) (o := .cells #[.int .i64 t116, .int .i64 t117] 25 (0, 0)) (zb BK119.out) hb); have n4_ := zA (below_step (zHB) hb); clear BK105; clear BK109; clear BK114; clear BK119; clear HB; have BK105 := n0_; have BK109 := n1_; have BK114 := n2_; have BK119 := n3_; have HB := n4_; clear n0_ n1_ n2_ n3_ n4_; (try clear hb); (try clear hb2); (try clear hk); (try clear hi)))
        go_ret
        exact ⟨by first | rfl | (simp [errW_none, errW_some] <;> rfl) | (simp [*, errW_none, errW_some] <;> rfl), zHB⟩
       rw [if_neg c121] at H
       have c121b0 : decide (t125 < 0) = false := decide_eq_false c121
       clear c121
       replace H := Option.bind_eq_some_iff.mp H
       obtain ⟨t129, A1280, H⟩ := H
       replace H : (some (t129.toList == t124.toList)) = some r := H
       have A128 := zA A1280
       clear A1280
       obtain rfl := Option.some.inj H
       go_wp2_with (first | ((with_reducible refine gate_callee (f := 16) rfl ?_); refine goesL_ (some 88) rfl rfl Tryd.func16 (by kernel_rfl) rfl #[.slice A0 l0.length c0] rfl y2  ?_; (with_reducible refine (spec_DrawNetAddrText.calls kj46 _ _ l0 t122 _ ?side1 ?side2 A96.out).mono ?_); (case side1 => repeat (first | exact (Kd.C_below HR0.out HB.out) | (with_reducible refine Kd.C_alloc ?_ _) | (with_reducible refine Kd.C_drewN ?_ _) | (with_reducible refine Kd.C_drew ?_))); (case side2 => exact HC0.out); rintro e w129 ⟨rfl, hb⟩; refine ⟨_, rfl, ?_⟩; have n0_ := zA (blk_below (g := gb105) (o := .cells #[.int .i64 t102, .int .i64 t103] 25 (0, 0)) (zb BK105.out) hb); have n1_ := zA (blk_below (g := gb109) (o := .cells #[.int .i64 t106, .int .i64 t107] 25 (0, 0)) (zb BK109.out) hb); have n2_ := zA (blk_below (g := gb114) (o := .cells #[.int .i64 t112, .int .i64 t113] 25 (0, 0)) (zb BK114.out) hb); have n3_ := zA (blk_below (g := gb119) (o := .cells #[.int .i64 t116, .int .i64 t117] 25 (0, 0)) (zb BK119.out) hb); have n4_ := zA (below_step (zHB) hb); clear BK105; clear BK109; clear BK114; clear BK119; clear HB; have BK105 := n0_; have BK109 := n1_; have BK114 := n2_; have BK119 := n3_; have HB := n4_; clear n0_ n1_ n2_ n3_ n4_; (try clear hb); (try clear hb2); (try clear hk); (try clear hi)) | ((with_reducible refine gate_callee (f := 17) rfl ?_); refine goesL_ (some 90) rfl rfl Tryd.func17 (by kernel_rfl) rfl #[.int .i64 t122] rfl y2  ?_; (with_reducible refine (impl_NetAddrText.calls t122 t123 _ (HG.out.step (zHB)).t A97.out).mono ?_); rintro e w130 ⟨rfl, hb⟩; refine ⟨_, rfl, ?_⟩; have n0_ := zA (blk_below (g := gb105) (o := .cells #[.int .i64 t102, .int .i64 t103] 25 (0, 0)) (zb BK105.out) hb); have n1_ := zA (blk_below (g := gb109) (o := .cells #[.int .i64 t106, .int .i64 t107] 25 (0, 0)) (zb BK109.out) hb); have n2_ := zA (blk_below (g := gb114) (o := .cells #[.int .i64 t112, .int .i64 t113] 25 (0, 0)) (zb BK114.out) hb); have n3_ := zA (blk_below (g := gb119) (o := .cells #[.int .i64 t116, .int .i64 t117] 25 (0, 0)) (zb BK119.out) hb); have n4_ := zA (below_step (zHB) hb); clear BK105; clear BK109; clear BK114; clear BK119; clear HB; have BK105 := n0_; have BK109 := n1_; have BK114 := n2_; have BK119 := n3_; have HB := n4_; clear n0_ n1_ n2_ n3_ n4_; (try clear hb); (try clear hb2); (try clear hk); (try clear hi)) | ((with_reducible refine gate_callee (f := 18) rfl ?_); refine goesL_ (some 92) rfl rfl Tryd.func18 (by kernel_rfl) rfl #[.slice A1 l1.length c1] rfl y2  ?_; (with_reducible refine (spec_DrawNetAddr.calls kj46 _ _ l1 t124 _ ?side1 ?side2 A98.out).mono ?_); (case side1 => repeat (first | exact (Kd.C_below HR1.out HB.out) | (with_reducible refine Kd.C_alloc ?_ _) | (with_reducible refine Kd.C_drewN ?_ _) | (with_reducible refine Kd.C_drew ?_))); (case side2 => exact HC1.out); rintro e w131 ⟨rfl, hb⟩; refine ⟨_, rfl, ?_⟩; have n0_ := zA (blk_below (g := gb105) (o := .cells #[.int .i64 t102, .int .i64 t103] 25 (0, 0)) (zb BK105.out) hb); have n1_ := zA (blk_below (g := gb109) (o := .cells #[.int .i64 t106, .int .i64 t107] 25 (0, 0)) (zb BK109.out) hb); have n2_ := zA (blk_below (g := gb114) (o := .cells #[.int .i64 t112, .int .i64 t113] 25 (0, 0)) (zb BK114.out) hb); have n3_ := zA (blk_below (g := gb119) (o := .cells #[.int .i64 t116, .int .i64 t117] 25 (0, 0)) (zb BK119.out) hb); have n4_ := zA (below_step (zHB) hb); clear BK105; clear BK109; clear BK114; clear BK119; clear HB; have BK105 := n0_; have BK109 := n1_; have BK114 := n2_; have BK119 := n3_; have HB := n4_; clear n0_ n1_ n2_ n3_ n4_; (try clear hb); (try clear hb2); (try clear hk); (try clear hi)) | ((with_reducible refine gate_callee (f := 19) rfl ?_); refine goesL_ (some 94) rfl rfl Tryd.func19 (by kernel_rfl) rfl #[.string t124] rfl y2  ?_; (with_reducible refine (impl_NetAddr.calls t124 t125 _ (HG.out.step (zHB)) A99.out).mono ?_); rintro e w132 ⟨rfl, hb⟩; refine ⟨_, rfl, ?_⟩; have n0_ := zA (blk_below (g := gb105) (o := .cells #[.int .i64 t102, .int .i64 t103] 25 (0, 0)) (zb BK105.out) hb); have n1_ := zA (blk_below (g := gb109) (o := .cells #[.int .i64 t106, .int .i64 t107] 25 (0, 0)) (zb BK109.out) hb); have n2_ := zA (blk_below (g := gb114) (o := .cells #[.int .i64 t112, .int .i64 t113] 25 (0, 0)) (zb BK114.out) hb); have n3_ := zA (blk_below (g := gb119) (o := .cells #[.int .i64 t116, .int .i64 t117] 25 (0, 0)) (zb BK119.out) hb); have n4_ := zA (below_step (zHB) hb); clear BK105; clear BK109; clear BK114; clear BK119; clear HB; have BK105 := n0_; have BK109 := n1_; have BK114 := n2_; have BK119 := n3_; have HB := n4_; clear n0_ n1_ n2_ n3_ n4_; (try clear hb); (try clear hb2); (try clear hk); (try clear hi)) | ((with_reducible refine gate_callee (f := 20) rfl ?_); refine goesL_ (some 97) rfl rfl Tryd.func20 (by kernel_rfl) rfl #[.int .i64 t122] rfl y2  ?_; (with_reducible refine (spec_NetAddrText.calls kj46 t122 t126 _ A100.out).mono ?_); rintro e w133 ⟨rfl, hb⟩; refine ⟨_, rfl, ?_⟩; have n0_ := zA (blk_below (g := gb105) (o := .cells #[.int .i64 t102, .int .i64 t103] 25 (0, 0)) (zb BK105.out) hb); have n1_ := zA (blk_below (g := gb109) (o := .cells #[.int .i64 t106, .int .i64 t107] 25 (0, 0)) (zb BK109.out) hb); have n2_ := zA (blk_below (g := gb114) (o := .cells #[.int .i64 t112, .int .i64 t113] 25 (0, 0)) (zb BK114.out) hb); have n3_ := zA (blk_below (g := gb119) (o := .cells #[.int .i64 t116, .int .i64 t117] 25 (0, 0)) (zb BK119.out) hb); have n4_ := zA (below_step (zHB) hb); clear BK105; clear BK109; clear BK114; clear BK119; clear HB; have BK105 := n0_; have BK109 := n1_; have BK114 := n2_; have BK119 := n3_; have HB := n4_; clear n0_ n1_ n2_ n3_ n4_; (try clear hb); (try clear hb2); (try clear hk); (try clear hi)) | (go_at_call 21; (with_reducible refine (spec_NetAddr.calls kj46 t124 t127 _ A102.out).mono ?_); rintro e w134 ⟨rfl, hb⟩; have n0_ := zA (blk_below (g := gb105) (o := .cells #[.int .i64 t102, .int .i64 t103] 25 (0, 0)) (zb BK105.out) hb); have n1_ := zA (blk_below (g := gb109) (o := .cells #[.int .i64 t106, .int .i64 t107] 25 (0, 0)) (zb BK109.out) hb); have n2_ := zA (blk_below (g := gb114) (o := .cells #[.int .i64 t112, .int .i64 t113] 25 (0, 0)) (zb BK114.out) hb); have n3_ := zA (blk_below (g := gb119) (o := .cells #[.int .i64 t116, .int .i64 t117] 25 (0, 0)) (zb BK119.out) hb); have n4_ := zA (below_step (zHB) hb); clear BK105; clear BK109; clear BK114; clear BK119; clear HB; have BK105 := n0_; have BK109 := n1_; have BK114 := n2_; have BK119 := n3_; have HB := n4_; clear n0_ n1_ n2_ n3_ n4_; (try clear hb); (try clear hb2); (try clear hk); (try clear hi)) | (go_at_call 17; (with_reducible refine (impl_NetAddrText.calls t125 t129 _ (HG.out.step (zHB)).t A128.out).mono ?_); rintro e w135 ⟨rfl, hb⟩; have n0_ := zA (blk_below (g := gb105) (o := .cells #[.int .i64 t102, .int .i64 t103] 25 (0, 0)) (zb BK105.out) hb); have n1_ := zA (blk_below (g := gb109) (o := .cells #[.int .i64 t106, .int .i64 t107] 25 (0, 0)) (zb BK109.out) hb); have n2_ := zA (blk_below (g := gb114) (o := .cells #[.int .i64 t112, .int .i64 t113] 25 (0, 0)) (zb BK114.out) hb); have n3_ := zA (blk_below (g := gb119) (o := .cells #[.int .i64 t116, .int .i64 t117] 25 (0, 0)) (zb BK119.out) hb); have n4_ := zA (below_step (zHB) hb); clear BK105; clear BK109; clear BK114; clear BK119; clear HB; have BK105 := n0_; have BK109 := n1_; have BK114 := n2_; have BK119 := n3_; have HB := n4_; clear n0_ n1_ n2_ n3_ n4_; (try clear hb); (try clear hb2); (try clear hk); (try clear hi)))
       go_ret
       exact ⟨by first | rfl | (simp [errW_none, errW_some] <;> rfl) | (simp [*, errW_none, errW_some] <;> rfl), zHB⟩
      rw [if_neg c120] at H
      have c120b0 : decide (65535 < t122) = false := decide_eq_false c120
      clear c120
      replace H := Option.bind_eq_some_iff.mp H
      obtain ⟨t130, A1360, H⟩ := H
      replace H : (if t130 = t122 then (if t125 < 0 then (some true) else ((impl_NetAddrText.f t125).bind fun t131 => (some (t131.toList == t124.toList)))) else (some false)) = some r := H
      have A136 := zA A1360
      clear A1360
      by_cases c137 : t130 = t122
      ·rw [if_pos c137] at H
       have c137b0 : (t130 == t122) = true := beq_iff_eq.mpr c137
       have c137b1 : (t130 != t122) = false := bne_eq_false_iff_eq.mpr c137
       clear c137
       by_cases c138 : t125 < 0
       ·rw [if_pos c138] at H
        have c138b0 : decide (t125 < 0) = true := decide_eq_true c138
        clear c138
        obtain rfl := Option.some.inj H
        go_wp2_with (first | ((with_reducible refine gate_callee (f := 16) rfl ?_); refine goesL_ (some 88) rfl rfl Tryd.func16 (by kernel_rfl) rfl #[.slice A0 l0.length c0] rfl y2  ?_; (with_reducible refine (spec_DrawNetAddrText.calls kj46 _ _ l0 t122 _ ?side1 ?side2 A96.out).mono ?_); (case side1 => repeat (first | exact (Kd.C_below HR0.out HB.out) | (with_reducible refine Kd.C_alloc ?_ _) | (with_reducible refine Kd.C_drewN ?_ _) | (with_reducible refine Kd.C_drew ?_))); (case side2 => exact HC0.out); rintro e w139 ⟨rfl, hb⟩; refine ⟨_, rfl, ?_⟩; have n0_ := zA (blk_below (g := gb105) (o := .cells #[.int .i64 t102, .int .i64 t103] 25 (0, 0)) (zb BK105.out) hb); have n1_ := zA (blk_below (g := gb109) (o := .cells #[.int .i64 t106, .int .i64 t107] 25 (0, 0)) (zb BK109.out) hb); have n2_ := zA (blk_below (g := gb114) (o := .cells #[.int .i64 t112, .int .i64 t113] 25 (0, 0)) (zb BK114.out) hb); have n3_ := zA (blk_below (g := gb119) (o := .cells #[.int .i64 t116, .int .i64 t117] 25 (0, 0)) (zb BK119.out) hb); have n4_ := zA (below_step (zHB) hb); clear BK105; clear BK109; clear BK114; clear BK119; clear HB; have BK105 := n0_; have BK109 := n1_; have BK114 := n2_; have BK119 := n3_; have HB := n4_; clear n0_ n1_ n2_ n3_ n4_; (try clear hb); (try clear hb2); (try clear hk); (try clear hi)) | ((with_reducible refine gate_callee (f := 17) rfl ?_); refine goesL_ (some 90) rfl rfl Tryd.func17 (by kernel_rfl) rfl #[.int .i64 t122] rfl y2  ?_; (with_reducible refine (impl_NetAddrText.calls t122 t123 _ (HG.out.step (zHB)).t A97.out).mono ?_); rintro e w140 ⟨rfl, hb⟩; refine ⟨_, rfl, ?_⟩; have n0_ := zA (blk_below (g := gb105) (o := .cells #[.int .i64 t102, .int .i64 t103] 25 (0, 0)) (zb BK105.out) hb); have n1_ := zA (blk_below (g := gb109) (o := .cells #[.int .i64 t106, .int .i64 t107] 25 (0, 0)) (zb BK109.out) hb); have n2_ := zA (blk_below (g := gb114) (o := .cells #[.int .i64 t112, .int .i64 t113] 25 (0, 0)) (zb BK114.out) hb); have n3_ := zA (blk_below (g := gb119) (o := .cells #[.int .i64 t116, .int .i64 t117] 25 (0, 0)) (zb BK119.out) hb); have n4_ := zA (below_step (zHB) hb); clear BK105; clear BK109; clear BK114; clear BK119; clear HB; have BK105 := n0_; have BK109 := n1_; have BK114 := n2_; have BK119 := n3_; have HB := n4_; clear n0_ n1_ n2_ n3_ n4_; (try clear hb); (try clear hb2); (try clear hk); (try clear hi)) | ((with_reducible refine gate_callee (f := 18) rfl ?_); refine goesL_ (some 92) rfl rfl Tryd.func18 (by kernel_rfl) rfl #[.slice A1 l1.length c1] rfl y2  ?_; (with_reducible refine (spec_DrawNetAddr.calls kj46 _ _ l1 t124 _ ?side1 ?side2 A98.out).mono ?_); (case side1 => repeat (first | exact (Kd.C_below HR1.out HB.out) | (with_reducible refine Kd.C_alloc ?_ _) | (with_reducible refine Kd.C_drewN ?_ _) | (with_reducible refine Kd.C_drew ?_))); (case side2 => exact HC1.out); rintro e w141 ⟨rfl, hb⟩; refine ⟨_, rfl, ?_⟩; have n0_ := zA (blk_below (g := gb105) (o := .cells #[.int .i64 t102, .int .i64 t103] 25 (0, 0)) (zb BK105.out) hb); have n1_ := zA (blk_below (g := gb109) (o := .cells #[.int .i64 t106, .int .i64 t107] 25 (0, 0)) (zb BK109.out) hb); have n2_ := zA (blk_below (g := gb114) (o := .cells #[.int .i64 t112, .int .i64 t113] 25 (0, 0)) (zb BK114.out) hb); have n3_ := zA (blk_below (g := gb119) (o := .cells #[.int .i64 t116, .int .i64 t117] 25 (0, 0)) (zb BK119.out) hb); have n4_ := zA (below_step (zHB) hb); clear BK105; clear BK109; clear BK114; clear BK119; clear HB; have BK105 := n0_; have BK109 := n1_; have BK114 := n2_; have BK119 := n3_; have HB := n4_; clear n0_ n1_ n2_ n3_ n4_; (try clear hb); (try clear hb2); (try clear hk); (try clear hi)) | ((with_reducible refine gate_callee (f := 19) rfl ?_); refine goesL_ (some 94) rfl rfl Tryd.func19 (by kernel_rfl) rfl #[.string t124] rfl y2  ?_; (with_reducible refine (impl_NetAddr.calls t124 t125 _ (HG.out.step (zHB)) A99.out).mono ?_); rintro e w142 ⟨rfl, hb⟩; refine ⟨_, rfl, ?_⟩; have n0_ := zA (blk_below (g := gb105) (o := .cells #[.int .i64 t102, .int .i64 t103] 25 (0, 0)) (zb BK105.out) hb); have n1_ := zA (blk_below (g := gb109) (o := .cells #[.int .i64 t106, .int .i64 t107] 25 (0, 0)) (zb BK109.out) hb); have n2_ := zA (blk_below (g := gb114) (o := .cells #[.int .i64 t112, .int .i64 t113] 25 (0, 0)) (zb BK114.out) hb); have n3_ := zA (blk_below (g := gb119) (o := .cells #[.int .i64 t116, .int .i64 t117] 25 (0, 0)) (zb BK119.out) hb); have n4_ := zA (below_step (zHB) hb); clear BK105; clear BK109; clear BK114; clear BK119; clear HB; have BK105 := n0_; have BK109 := n1_; have BK114 := n2_; have BK119 := n3_; have HB := n4_; clear n0_ n1_ n2_ n3_ n4_; (try clear hb); (try clear hb2); (try clear hk); (try clear hi)) | ((with_reducible refine gate_callee (f := 20) rfl ?_); refine goesL_ (some 97) rfl rfl Tryd.func20 (by kernel_rfl) rfl #[.int .i64 t122] rfl y2  ?_; (with_reducible refine (spec_NetAddrText.calls kj46 t122 t126 _ A100.out).mono ?_); rintro e w143 ⟨rfl, hb⟩; refine ⟨_, rfl, ?_⟩; have n0_ := zA (blk_below (g := gb105) (o := .cells #[.int .i64 t102, .int .i64 t103] 25 (0, 0)) (zb BK105.out) hb); have n1_ := zA (blk_below (g := gb109) (o := .cells #[.int .i64 t106, .int .i64 t107] 25 (0, 0)) (zb BK109.out) hb); have n2_ := zA (blk_below (g := gb114) (o := .cells #[.int .i64 t112, .int .i64 t113] 25 (0, 0)) (zb BK114.out) hb); have n3_ := zA (blk_below (g := gb119) (o := .cells #[.int .i64 t116, .int .i64 t117] 25 (0, 0)) (zb BK119.out) hb); have n4_ := zA (below_step (zHB) hb); clear BK105; clear BK109; clear BK114; clear BK119; clear HB; have BK105 := n0_; have BK109 := n1_; have BK114 := n2_; have BK119 := n3_; have HB := n4_; clear n0_ n1_ n2_ n3_ n4_; (try clear hb); (try clear hb2); (try clear hk); (try clear hi)) | (go_at_call 21; (with_reducible refine (spec_NetAddr.calls kj46 t124 t127 _ A102.out).mono ?_); rintro e w144 ⟨rfl, hb⟩; have n0_ := zA (blk_below (g := gb105) (o := .cells #[.int .i64 t102, .int .i64 t103] 25 (0, 0)) (zb BK105.out) hb); have n1_ := zA (blk_below (g := gb109) (o := .cells #[.int .i64 t106, .int .i64 t107] 25 (0, 0)) (zb BK109.out) hb); have n2_ := zA (blk_below (g := gb114) (o := .cells #[.int .i64 t112, .int .i64 t113] 25 (0, 0)) (zb BK114.out) hb); have n3_ := zA (blk_below (g := gb119) (o := .cells #[.int .i64 t116, .int .i64 t117] 25 (0, 0)) (zb BK119.out) hb); have n4_ := zA (below_step (zHB) hb); clear BK105; clear BK109; clear BK114; clear BK119; clear HB; have BK105 := n0_; have BK109 := n1_; have BK114 := n2_; have BK119 := n3_; have HB := n4_; clear n0_ n1_ n2_ n3_ n4_; (try clear hb); (try clear hb2); (try clear hk); (try clear hi)) | (go_at_call 19; (with_reducible refine (impl_NetAddr.calls t123 t130 _ (HG.out.step (zHB)) A136.out).mono ?_); rintro e w145 ⟨rfl, hb⟩; have n0_ := zA (blk_below (g := gb105) (o := .cells #[.int .i64 t102, .int .i64 t103] 25 (0, 0)) (zb BK105.out) hb); have n1_ := zA (blk_below (g := gb109) (o := .cells #[.int .i64 t106, .int .i64 t107] 25 (0, 0)) (zb BK109.out) hb); have n2_ := zA (blk_below (g := gb114) (o := .cells #[.int .i64 t112, .int .i64 t113] 25 (0, 0)) (zb BK114.out) hb); have n3_ := zA (blk_below (g := gb119) (o := .cells #[.int .i64 t116, .int .i64 t117] 25 (0, 0)) (zb BK119.out) hb); have n4_ := zA (below_step (zHB) hb); clear BK105; clear BK109; clear BK114; clear BK119; clear HB; have BK105 := n0_; have BK109 := n1_; have BK114 := n2_; have BK119 := n3_; have HB := n4_; clear n0_ n1_ n2_ n3_ n4_; (try clear hb); (try clear hb2); (try clear hk); (try clear hi)))
        go_ret
        exact ⟨by first | rfl | (simp [errW_none, errW_some] <;> rfl) | (simp [*, errW_none, errW_some] <;> rfl), zHB⟩
       rw [if_neg c138] at H
       have c138b0 : decide (t125 < 0) = false := decide_eq_false c138
       clear c138
       replace H := Option.bind_eq_some_iff.mp H
       obtain ⟨t131, A1460, H⟩ := H
       replace H : (some (t131.toList == t124.toList)) = some r := H
       have A146 := zA A1460
       clear A1460
       obtain rfl := Option.some.inj H
       go_wp2_with (first | ((with_reducible refine gate_callee (f := 16) rfl ?_); refine goesL_ (some 88) rfl rfl Tryd.func16 (by kernel_rfl) rfl #[.slice A0 l0.length c0] rfl y2  ?_; (with_reducible refine (spec_DrawNetAddrText.calls kj46 _ _ l0 t122 _ ?side1 ?side2 A96.out).mono ?_); (case side1 => repeat (first | exact (Kd.C_below HR0.out HB.out) | (with_reducible refine Kd.C_alloc ?_ _) | (with_reducible refine Kd.C_drewN ?_ _) | (with_reducible refine Kd.C_drew ?_))); (case side2 => exact HC0.out); rintro e w147 ⟨rfl, hb⟩; refine ⟨_, rfl, ?_⟩; have n0_ := zA (blk_below (g := gb105) (o := .cells #[.int .i64 t102, .int .i64 t103] 25 (0, 0)) (zb BK105.out) hb); have n1_ := zA (blk_below (g := gb109) (o := .cells #[.int .i64 t106, .int .i64 t107] 25 (0, 0)) (zb BK109.out) hb); have n2_ := zA (blk_below (g := gb114) (o := .cells #[.int .i64 t112, .int .i64 t113] 25 (0, 0)) (zb BK114.out) hb); have n3_ := zA (blk_below (g := gb119) (o := .cells #[.int .i64 t116, .int .i64 t117] 25 (0, 0)) (zb BK119.out) hb); have n4_ := zA (below_step (zHB) hb); clear BK105; clear BK109; clear BK114; clear BK119; clear HB; have BK105 := n0_; have BK109 := n1_; have BK114 := n2_; have BK119 := n3_; have HB := n4_; clear n0_ n1_ n2_ n3_ n4_; (try clear hb); (try clear hb2); (try clear hk); (try clear hi)) | ((with_reducible refine gate_callee (f := 17) rfl ?_); refine goesL_ (some 90) rfl rfl Tryd.func17 (by kernel_rfl) rfl #[.int .i64 t122] rfl y2  ?_; (with_reducible refine (impl_NetAddrText.calls t122 t123 _ (HG.out.step (zHB)).t A97.out).mono ?_); rintro e w148 ⟨rfl, hb⟩; refine ⟨_, rfl, ?_⟩; have n0_ := zA (blk_below (g := gb105) (o := .cells #[.int .i64 t102, .int .i64 t103] 25 (0, 0)) (zb BK105.out) hb); have n1_ := zA (blk_below (g := gb109) (o := .cells #[.int .i64 t106, .int .i64 t107] 25 (0, 0)) (zb BK109.out) hb); have n2_ := zA (blk_below (g := gb114) (o := .cells #[.int .i64 t112, .int .i64 t113] 25 (0, 0)) (zb BK114.out) hb); have n3_ := zA (blk_below (g := gb119) (o := .cells #[.int .i64 t116, .int .i64 t117] 25 (0, 0)) (zb BK119.out) hb); have n4_ := zA (below_step (zHB) hb); clear BK105; clear BK109; clear BK114; clear BK119; clear HB; have BK105 := n0_; have BK109 := n1_; have BK114 := n2_; have BK119 := n3_; have HB := n4_; clear n0_ n1_ n2_ n3_ n4_; (try clear hb); (try clear hb2); (try clear hk); (try clear hi)) | ((with_reducible refine gate_callee (f := 18) rfl ?_); refine goesL_ (some 92) rfl rfl Tryd.func18 (by kernel_rfl) rfl #[.slice A1 l1.length c1] rfl y2  ?_; (with_reducible refine (spec_DrawNetAddr.calls kj46 _ _ l1 t124 _ ?side1 ?side2 A98.out).mono ?_); (case side1 => repeat (first | exact (Kd.C_below HR1.out HB.out) | (with_reducible refine Kd.C_alloc ?_ _) | (with_reducible refine Kd.C_drewN ?_ _) | (with_reducible refine Kd.C_drew ?_))); (case side2 => exact HC1.out); rintro e w149 ⟨rfl, hb⟩; refine ⟨_, rfl, ?_⟩; have n0_ := zA (blk_below (g := gb105) (o := .cells #[.int .i64 t102, .int .i64 t103] 25 (0, 0)) (zb BK105.out) hb); have n1_ := zA (blk_below (g := gb109) (o := .cells #[.int .i64 t106, .int .i64 t107] 25 (0, 0)) (zb BK109.out) hb); have n2_ := zA (blk_below (g := gb114) (o := .cells #[.int .i64 t112, .int .i64 t113] 25 (0, 0)) (zb BK114.out) hb); have n3_ := zA (blk_below (g := gb119) (o := .cells #[.int .i64 t116, .int .i64 t117] 25 (0, 0)) (zb BK119.out) hb); have n4_ := zA (below_step (zHB) hb); clear BK105; clear BK109; clear BK114; clear BK119; clear HB; have BK105 := n0_; have BK109 := n1_; have BK114 := n2_; have BK119 := n3_; have HB := n4_; clear n0_ n1_ n2_ n3_ n4_; (try clear hb); (try clear hb2); (try clear hk); (try clear hi)) | ((with_reducible refine gate_callee (f := 19) rfl ?_); refine goesL_ (some 94) rfl rfl Tryd.func19 (by kernel_rfl) rfl #[.string t124] rfl y2  ?_; (with_reducible refine (impl_NetAddr.calls t124 t125 _ (HG.out.step (zHB)) A99.out).mono ?_); rintro e w150 ⟨rfl, hb⟩; refine ⟨_, rfl, ?_⟩; have n0_ := zA (blk_below (g := gb105) (o := .cells #[.int .i64 t102, .int .i64 t103] 25 (0, 0)) (zb BK105.out) hb); have n1_ := zA (blk_below (g := gb109) (o := .cells #[.int .i64 t106, .int .i64 t107] 25 (0, 0)) (zb BK109.out) hb); have n2_ := zA (blk_below (g := gb114) (o := .cells #[.int .i64 t112, .int .i64 t113] 25 (0, 0)) (zb BK114.out) hb); have n3_ := zA (blk_below (g := gb119) (o := .cells #[.int .i64 t116, .int .i64 t117] 25 (0, 0)) (zb BK119.out) hb); have n4_ := zA (below_step (zHB) hb); clear BK105; clear BK109; clear BK114; clear BK119; clear HB; have BK105 := n0_; have BK109 := n1_; have BK114 := n2_; have BK119 := n3_; have HB := n4_; clear n0_ n1_ n2_ n3_ n4_; (try clear hb); (try clear hb2); (try clear hk); (try clear hi)) | ((with_reducible refine gate_callee (f := 20) rfl ?_); refine goesL_ (some 97) rfl rfl Tryd.func20 (by kernel_rfl) rfl #[.int .i64 t122] rfl y2  ?_; (with_reducible refine (spec_NetAddrText.calls kj46 t122 t126 _ A100.out).mono ?_); rintro e w151 ⟨rfl, hb⟩; refine ⟨_, rfl, ?_⟩; have n0_ := zA (blk_below (g := gb105) (o := .cells #[.int .i64 t102, .int .i64 t103] 25 (0, 0)) (zb BK105.out) hb); have n1_ := zA (blk_below (g := gb109) (o := .cells #[.int .i64 t106, .int .i64 t107] 25 (0, 0)) (zb BK109.out) hb); have n2_ := zA (blk_below (g := gb114) (o := .cells #[.int .i64 t112, .int .i64 t113] 25 (0, 0)) (zb BK114.out) hb); have n3_ := zA (blk_below (g := gb119) (o := .cells #[.int .i64 t116, .int .i64 t117] 25 (0, 0)) (zb BK119.out) hb); have n4_ := zA (below_step (zHB) hb); clear BK105; clear BK109; clear BK114; clear BK119; clear HB; have BK105 := n0_; have BK109 := n1_; have BK114 := n2_; have BK119 := n3_; have HB := n4_; clear n0_ n1_ n2_ n3_ n4_; (try clear hb); (try clear hb2); (try clear hk); (try clear hi)) | (go_at_call 21; (with_reducible refine (spec_NetAddr.calls kj46 t124 t127 _ A102.out).mono ?_); rintro e w152 ⟨rfl, hb⟩; have n0_ := zA (blk_below (g := gb105) (o := .cells #[.int .i64 t102, .int .i64 t103] 25 (0, 0)) (zb BK105.out) hb); have n1_ := zA (blk_below (g := gb109) (o := .cells #[.int .i64 t106, .int .i64 t107] 25 (0, 0)) (zb BK109.out) hb); have n2_ := zA (blk_below (g := gb114) (o := .cells #[.int .i64 t112, .int .i64 t113] 25 (0, 0)) (zb BK114.out) hb); have n3_ := zA (blk_below (g := gb119) (o := .cells #[.int .i64 t116, .int .i64 t117] 25 (0, 0)) (zb BK119.out) hb); have n4_ := zA (below_step (zHB) hb); clear BK105; clear BK109; clear BK114; clear BK119; clear HB; have BK105 := n0_; have BK109 := n1_; have BK114 := n2_; have BK119 := n3_; have HB := n4_; clear n0_ n1_ n2_ n3_ n4_; (try clear hb); (try clear hb2); (try clear hk); (try clear hi)) | (go_at_call 19; (with_reducible refine (impl_NetAddr.calls t123 t130 _ (HG.out.step (zHB)) A136.out).mono ?_); rintro e w153 ⟨rfl, hb⟩; have n0_ := zA (blk_below (g := gb105) (o := .cells #[.int .i64 t102, .int .i64 t103] 25 (0, 0)) (zb BK105.out) hb); have n1_ := zA (blk_below (g := gb109) (o := .cells #[.int .i64 t106, .int .i64 t107] 25 (0, 0)) (zb BK109.out) hb); have n2_ := zA (blk_below (g := gb114) (o := .cells #[.int .i64 t112, .int .i64 t113] 25 (0, 0)) (zb BK114.out) hb); have n3_ := zA (blk_below (g := gb119) (o := .cells #[.int .i64 t116, .int .i64 t117] 25 (0, 0)) (zb BK119.out) hb); have n4_ := zA (below_step (zHB) hb); clear BK105; clear BK109; clear BK114; clear BK119; clear HB; have BK105 := n0_; have BK109 := n1_; have BK114 := n2_; have BK119 := n3_; have HB := n4_; clear n0_ n1_ n2_ n3_ n4_; (try clear hb); (try clear hb2); (try clear hk); (try clear hi)) | (go_at_call 17; (with_reducible refine (impl_NetAddrText.calls t125 t131 _ (HG.out.step (zHB)).t A146.out).mono ?_); rintro e w154 ⟨rfl, hb⟩; have n0_ := zA (blk_below (g := gb105) (o := .cells #[.int .i64 t102, .int .i64 t103] 25 (0, 0)) (zb BK105.out) hb); have n1_ := zA (blk_below (g := gb109) (o := .cells #[.int .i64 t106, .int .i64 t107] 25 (0, 0)) (zb BK109.out) hb); have n2_ := zA (blk_below (g := gb114) (o := .cells #[.int .i64 t112, .int .i64 t113] 25 (0, 0)) (zb BK114.out) hb); have n3_ := zA (blk_below (g := gb119) (o := .cells #[.int .i64 t116, .int .i64 t117] 25 (0, 0)) (zb BK119.out) hb); have n4_ := zA (below_step (zHB) hb); clear BK105; clear BK109; clear BK114; clear BK119; clear HB; have BK105 := n0_; have BK109 := n1_; have BK114 := n2_; have BK119 := n3_; have HB := n4_; clear n0_ n1_ n2_ n3_ n4_; (try clear hb); (try clear hb2); (try clear hk); (try clear hi)))
       go_ret
       exact ⟨by first | rfl | (simp [errW_none, errW_some] <;> rfl) | (simp [*, errW_none, errW_some] <;> rfl), zHB⟩
      rw [if_neg c137] at H
      have c137b0 : (t130 == t122) = false := beq_eq_false_iff_ne.mpr c137
      have c137b1 : (t130 != t122) = true := bne_iff_ne.mpr c137
      obtain rfl := Option.some.inj H
      go_wp2_with (first | ((with_reducible refine gate_callee (f := 16) rfl ?_); refine goesL_ (some 88) rfl rfl Tryd.func16 (by kernel_rfl) rfl #[.slice A0 l0.length c0] rfl y2  ?_; (with_reducible refine (spec_DrawNetAddrText.calls kj46 _ _ l0 t122 _ ?side1 ?side2 A96.out).mono ?_); (case side1 => repeat (first | exact (Kd.C_below HR0.out HB.out) | (with_reducible refine Kd.C_alloc ?_ _) | (with_reducible refine Kd.C_drewN ?_ _) | (with_reducible refine Kd.C_drew ?_))); (case side2 => exact HC0.out); rintro e w155 ⟨rfl, hb⟩; refine ⟨_, rfl, ?_⟩; have n0_ := zA (blk_below (g := gb105) (o := .cells #[.int .i64 t102, .int .i64 t103] 25 (0, 0)) (zb BK105.out) hb); have n1_ := zA (blk_below (g := gb109) (o := .cells #[.int .i64 t106, .int .i64 t107] 25 (0, 0)) (zb BK109.out) hb); have n2_ := zA (blk_below (g := gb114) (o := .cells #[.int .i64 t112, .int .i64 t113] 25 (0, 0)) (zb BK114.out) hb); have n3_ := zA (blk_below (g := gb119) (o := .cells #[.int .i64 t116, .int .i64 t117] 25 (0, 0)) (zb BK119.out) hb); have n4_ := zA (below_step (zHB) hb); clear BK105; clear BK109; clear BK114; clear BK119; clear HB; have BK105 := n0_; have BK109 := n1_; have BK114 := n2_; have BK119 := n3_; have HB := n4_; clear n0_ n1_ n2_ n3_ n4_; (try clear hb); (try clear hb2); (try clear hk); (try clear hi)) | ((with_reducible refine gate_callee (f := 17) rfl ?_); refine goesL_ (some 90) rfl rfl Tryd.func17 (by kernel_rfl) rfl #[.int .i64 t122] rfl y2  ?_; (with_reducible refine (impl_NetAddrText.calls t122 t123 _ (HG.out.step (zHB)).t A97.out).mono ?_); rintro e w156 ⟨rfl, hb⟩; refine ⟨_, rfl, ?_⟩; have n0_ := zA (blk_below (g := gb105) (o := .cells #[.int .i64 t102, .int .i64 t103] 25 (0, 0)) (zb BK105.out) hb); have n1_ := zA (blk_below (g := gb109) (o := .cells #[.int .i64 t106, .int .i64 t107] 25 (0, 0)) (zb BK109.out) hb); have n2_ := zA (blk_below (g := gb114) (o := .cells #[.int .i64 t112, .int .i64 t113] 25 (0, 0)) (zb BK114.out) hb); have n3_ := zA (blk_below (g := gb119) (o := .cells #[.int .i64 t116, .int .i64 t117] 25 (0, 0)) (zb BK119.out) hb); have n4_ := zA (below_step (zHB) hb); clear BK105; clear BK109; clear BK114; clear BK119; clear HB; have BK105 := n0_; have BK109 := n1_; have BK114 := n2_; have BK119 := n3_; have HB := n4_; clear n0_ n1_ n2_ n3_ n4_; (try clear hb); (try clear hb2); (try clear hk); (try clear hi)) | ((with_reducible refine gate_callee (f := 18) rfl ?_); refine goesL_ (some 92) rfl rfl Tryd.func18 (by kernel_rfl) rfl #[.slice A1 l1.length c1] rfl y2  ?_; (with_reducible refine (spec_DrawNetAddr.calls kj46 _ _ l1 t124 _ ?side1 ?side2 A98.out).mono ?_); (case side1 => repeat (first | exact (Kd.C_below HR1.out HB.out) | (with_reducible refine Kd.C_alloc ?_ _) | (with_reducible refine Kd.C_drewN ?_ _) | (with_reducible refine Kd.C_drew ?_))); (case side2 => exact HC1.out); rintro e w157 ⟨rfl, hb⟩; refine ⟨_, rfl, ?_⟩; have n0_ := zA (blk_below (g := gb105) (o := .cells #[.int .i64 t102, .int .i64 t103] 25 (0, 0)) (zb BK105.out) hb); have n1_ := zA (blk_below (g := gb109) (o := .cells #[.int .i64 t106, .int .i64 t107] 25 (0, 0)) (zb BK109.out) hb); have n2_ := zA (blk_below (g := gb114) (o := .cells #[.int .i64 t112, .int .i64 t113] 25 (0, 0)) (zb BK114.out) hb); have n3_ := zA (blk_below (g := gb119) (o := .cells #[.int .i64 t116, .int .i64 t117] 25 (0, 0)) (zb BK119.out) hb); have n4_ := zA (below_step (zHB) hb); clear BK105; clear BK109; clear BK114; clear BK119; clear HB; have BK105 := n0_; have BK109 := n1_; have BK114 := n2_; have BK119 := n3_; have HB := n4_; clear n0_ n1_ n2_ n3_ n4_; (try clear hb); (try clear hb2); (try clear hk); (try clear hi)) | ((with_reducible refine gate_callee (f := 19) rfl ?_); refine goesL_ (some 94) rfl rfl Tryd.func19 (by kernel_rfl) rfl #[.string t124] rfl y2  ?_; (with_reducible refine (impl_NetAddr.calls t124 t125 _ (HG.out.step (zHB)) A99.out).mono ?_); rintro e w158 ⟨rfl, hb⟩; refine ⟨_, rfl, ?_⟩; have n0_ := zA (blk_below (g := gb105) (o := .cells #[.int .i64 t102, .int .i64 t103] 25 (0, 0)) (zb BK105.out) hb); have n1_ := zA (blk_below (g := gb109) (o := .cells #[.int .i64 t106, .int .i64 t107] 25 (0, 0)) (zb BK109.out) hb); have n2_ := zA (blk_below (g := gb114) (o := .cells #[.int .i64 t112, .int .i64 t113] 25 (0, 0)) (zb BK114.out) hb); have n3_ := zA (blk_below (g := gb119) (o := .cells #[.int .i64 t116, .int .i64 t117] 25 (0, 0)) (zb BK119.out) hb); have n4_ := zA (below_step (zHB) hb); clear BK105; clear BK109; clear BK114; clear BK119; clear HB; have BK105 := n0_; have BK109 := n1_; have BK114 := n2_; have BK119 := n3_; have HB := n4_; clear n0_ n1_ n2_ n3_ n4_; (try clear hb); (try clear hb2); (try clear hk); (try clear hi)) | ((with_reducible refine gate_callee (f := 20) rfl ?_); refine goesL_ (some 97) rfl rfl Tryd.func20 (by kernel_rfl) rfl #[.int .i64 t122] rfl y2  ?_; (with_reducible refine (spec_NetAddrText.calls kj46 t122 t126 _ A100.out).mono ?_); rintro e w159 ⟨rfl, hb⟩; refine ⟨_, rfl, ?_⟩; have n0_ := zA (blk_below (g := gb105) (o := .cells #[.int .i64 t102, .int .i64 t103] 25 (0, 0)) (zb BK105.out) hb); have n1_ := zA (blk_below (g := gb109) (o := .cells #[.int .i64 t106, .int .i64 t107] 25 (0, 0)) (zb BK109.out) hb); have n2_ := zA (blk_below (g := gb114) (o := .cells #[.int .i64 t112, .int .i64 t113] 25 (0, 0)) (zb BK114.out) hb); have n3_ := zA (blk_below (g := gb119) (o := .cells #[.int .i64 t116, .int .i64 t117] 25 (0, 0)) (zb BK119.out) hb); have n4_ := zA (below_step (zHB) hb); clear BK105; clear BK109; clear BK114; clear BK119; clear HB; have BK105 := n0_; have BK109 := n1_; have BK114 := n2_; have BK119 := n3_; have HB := n4_; clear n0_ n1_ n2_ n3_ n4_; (try clear hb); (try clear hb2); (try clear hk); (try clear hi)) | (go_at_call 21; (with_reducible refine (spec_NetAddr.calls kj46 t124 t127 _ A102.out).mono ?_); rintro e w160 ⟨rfl, hb⟩; have n0_ := zA (blk_below (g := gb105) (o := .cells #[.int .i64 t102, .int .i64 t103] 25 (0, 0)) (zb BK105.out) hb); have n1_ := zA (blk_below (g := gb109) (o := .cells #[.int .i64 t106, .int .i64 t107] 25 (0, 0)) (zb BK109.out) hb); have n2_ := zA (blk_below (g := gb114) (o := .cells #[.int .i64 t112, .int .i64 t113] 25 (0, 0)) (zb BK114.out) hb); have n3_ := zA (blk_below (g := gb119) (o := .cells #[.int .i64 t116, .int .i64 t117] 25 (0, 0)) (zb BK119.out) hb); have n4_ := zA (below_step (zHB) hb); clear BK105; clear BK109; clear BK114; clear BK119; clear HB; have BK105 := n0_; have BK109 := n1_; have BK114 := n2_; have BK119 := n3_; have HB := n4_; clear n0_ n1_ n2_ n3_ n4_; (try clear hb); (try clear hb2); (try clear hk); (try clear hi)) | (go_at_call 19; (with_reducible refine (impl_NetAddr.calls t123 t130 _ (HG.out.step (zHB)) A136.out).mono ?_); rintro e w161 ⟨rfl, hb⟩; have n0_ := zA (blk_below (g := gb105) (o := .cells #[.int .i64 t102, .int .i64 t103] 25 (0, 0)) (zb BK105.out) hb); have n1_ := zA (blk_below (g := gb109) (o := .cells #[.int .i64 t106, .int .i64 t107] 25 (0, 0)) (zb BK109.out) hb); have n2_ := zA (blk_below (g := gb114) (o := .cells #[.int .i64 t112, .int .i64 t113] 25 (0, 0)) (zb BK114.out) hb); have n3_ := zA (blk_below (g := gb119) (o := .cells #[.int .i64 t116, .int .i64 t117] 25 (0, 0)) (zb BK119.out) hb); have n4_ := zA (below_step (zHB) hb); clear BK105; clear BK109; clear BK114; clear BK119; clear HB; have BK105 := n0_; have BK109 := n1_; have BK114 := n2_; have BK119 := n3_; have HB := n4_; clear n0_ n1_ n2_ n3_ n4_; (try clear hb); (try clear hb2); (try clear hk); (try clear hi)))
      go_ret
      exact ⟨by first | rfl | (simp [errW_none, errW_some] <;> rfl) | (simp [*, errW_none, errW_some] <;> rfl), zHB⟩
     rw [if_neg c103] at H
     have c103b0 : (t125 == t127) = false := beq_eq_false_iff_ne.mpr c103
     have c103b1 : (t125 != t127) = true := bne_iff_ne.mpr c103
     obtain rfl := Option.some.inj H
     go_wp2_with (first | ((with_reducible refine gate_callee (f := 16) rfl ?_); refine goesL_ (some 88) rfl rfl Tryd.func16 (by kernel_rfl) rfl #[.slice A0 l0.length c0] rfl y2  ?_; (with_reducible refine (spec_DrawNetAddrText.calls kj46 _ _ l0 t122 _ ?side1 ?side2 A96.out).mono ?_); (case side1 => repeat (first | exact (Kd.C_below HR0.out HB.out) | (with_reducible refine Kd.C_alloc ?_ _) | (with_reducible refine Kd.C_drewN ?_ _) | (with_reducible refine Kd.C_drew ?_))); (case side2 => exact HC0.out); rintro e w162 ⟨rfl, hb⟩; refine ⟨_, rfl, ?_⟩; have n0_ := zA (blk_below (g := gb105) (o := .cells #[.int .i64 t102, .int .i64 t103] 25 (0, 0)) (zb BK105.out) hb); have n1_ := zA (blk_below (g := gb109) (o := .cells #[.int .i64 t106, .int .i64 t107] 25 (0, 0)) (zb BK109.out) hb); have n2_ := zA (blk_below (g := gb114) (o := .cells #[.int .i64 t112, .int .i64 t113] 25 (0, 0)) (zb BK114.out) hb); have n3_ := zA (blk_below (g := gb119) (o := .cells #[.int .i64 t116, .int .i64 t117] 25 (0, 0)) (zb BK119.out) hb); have n4_ := zA (below_step (zHB) hb); clear BK105; clear BK109; clear BK114; clear BK119; clear HB; have BK105 := n0_; have BK109 := n1_; have BK114 := n2_; have BK119 := n3_; have HB := n4_; clear n0_ n1_ n2_ n3_ n4_; (try clear hb); (try clear hb2); (try clear hk); (try clear hi)) | ((with_reducible refine gate_callee (f := 17) rfl ?_); refine goesL_ (some 90) rfl rfl Tryd.func17 (by kernel_rfl) rfl #[.int .i64 t122] rfl y2  ?_; (with_reducible refine (impl_NetAddrText.calls t122 t123 _ (HG.out.step (zHB)).t A97.out).mono ?_); rintro e w163 ⟨rfl, hb⟩; refine ⟨_, rfl, ?_⟩; have n0_ := zA (blk_below (g := gb105) (o := .cells #[.int .i64 t102, .int .i64 t103] 25 (0, 0)) (zb BK105.out) hb); have n1_ := zA (blk_below (g := gb109) (o := .cells #[.int .i64 t106, .int .i64 t107] 25 (0, 0)) (zb BK109.out) hb); have n2_ := zA (blk_below (g := gb114) (o := .cells #[.int .i64 t112, .int .i64 t113] 25 (0, 0)) (zb BK114.out) hb); have n3_ := zA (blk_below (g := gb119) (o := .cells #[.int .i64 t116, .int .i64 t117] 25 (0, 0)) (zb BK119.out) hb); have n4_ := zA (below_step (zHB) hb); clear BK105; clear BK109; clear BK114; clear BK119; clear HB; have BK105 := n0_; have BK109 := n1_; have BK114 := n2_; have BK119 := n3_; have HB := n4_; clear n0_ n1_ n2_ n3_ n4_; (try clear hb); (try clear hb2); (try clear hk); (try clear hi)) | ((with_reducible refine gate_callee (f := 18) rfl ?_); refine goesL_ (some 92) rfl rfl Tryd.func18 (by kernel_rfl) rfl #[.slice A1 l1.length c1] rfl y2  ?_; (with_reducible refine (spec_DrawNetAddr.calls kj46 _ _ l1 t124 _ ?side1 ?side2 A98.out).mono ?_); (case side1 => repeat (first | exact (Kd.C_below HR1.out HB.out) | (with_reducible refine Kd.C_alloc ?_ _) | (with_reducible refine Kd.C_drewN ?_ _) | (with_reducible refine Kd.C_drew ?_))); (case side2 => exact HC1.out); rintro e w164 ⟨rfl, hb⟩; refine ⟨_, rfl, ?_⟩; have n0_ := zA (blk_below (g := gb105) (o := .cells #[.int .i64 t102, .int .i64 t103] 25 (0, 0)) (zb BK105.out) hb); have n1_ := zA (blk_below (g := gb109) (o := .cells #[.int .i64 t106, .int .i64 t107] 25 (0, 0)) (zb BK109.out) hb); have n2_ := zA (blk_below (g := gb114) (o := .cells #[.int .i64 t112, .int .i64 t113] 25 (0, 0)) (zb BK114.out) hb); have n3_ := zA (blk_below (g := gb119) (o := .cells #[.int .i64 t116, .int .i64 t117] 25 (0, 0)) (zb BK119.out) hb); have n4_ := zA (below_step (zHB) hb); clear BK105; clear BK109; clear BK114; clear BK119; clear HB; have BK105 := n0_; have BK109 := n1_; have BK114 := n2_; have BK119 := n3_; have HB := n4_; clear n0_ n1_ n2_ n3_ n4_; (try clear hb); (try clear hb2); (try clear hk); (try clear hi)) | ((with_reducible refine gate_callee (f := 19) rfl ?_); refine goesL_ (some 94) rfl rfl Tryd.func19 (by kernel_rfl) rfl #[.string t124] rfl y2  ?_; (with_reducible refine (impl_NetAddr.calls t124 t125 _ (HG.out.step (zHB)) A99.out).mono ?_); rintro e w165 ⟨rfl, hb⟩; refine ⟨_, rfl, ?_⟩; have n0_ := zA (blk_below (g := gb105) (o := .cells #[.int .i64 t102, .int .i64 t103] 25 (0, 0)) (zb BK105.out) hb); have n1_ := zA (blk_below (g := gb109) (o := .cells #[.int .i64 t106, .int .i64 t107] 25 (0, 0)) (zb BK109.out) hb); have n2_ := zA (blk_below (g := gb114) (o := .cells #[.int .i64 t112, .int .i64 t113] 25 (0, 0)) (zb BK114.out) hb); have n3_ := zA (blk_below (g := gb119) (o := .cells #[.int .i64 t116, .int .i64 t117] 25 (0, 0)) (zb BK119.out) hb); have n4_ := zA (below_step (zHB) hb); clear BK105; clear BK109; clear BK114; clear BK119; clear HB; have BK105 := n0_; have BK109 := n1_; have BK114 := n2_; have BK119 := n3_; have HB := n4_; clear n0_ n1_ n2_ n3_ n4_; (try clear hb); (try clear hb2); (try clear hk); (try clear hi)) | ((with_reducible refine gate_callee (f := 20) rfl ?_); refine goesL_ (some 97) rfl rfl Tryd.func20 (by kernel_rfl) rfl #[.int .i64 t122] rfl y2  ?_; (with_reducible refine (spec_NetAddrText.calls kj46 t122 t126 _ A100.out).mono ?_); rintro e w166 ⟨rfl, hb⟩; refine ⟨_, rfl, ?_⟩; have n0_ := zA (blk_below (g := gb105) (o := .cells #[.int .i64 t102, .int .i64 t103] 25 (0, 0)) (zb BK105.out) hb); have n1_ := zA (blk_below (g := gb109) (o := .cells #[.int .i64 t106, .int .i64 t107] 25 (0, 0)) (zb BK109.out) hb); have n2_ := zA (blk_below (g := gb114) (o := .cells #[.int .i64 t112, .int .i64 t113] 25 (0, 0)) (zb BK114.out) hb); have n3_ := zA (blk_below (g := gb119) (o := .cells #[.int .i64 t116, .int .i64 t117] 25 (0, 0)) (zb BK119.out) hb); have n4_ := zA (below_step (zHB) hb); clear BK105; clear BK109; clear BK114; clear BK119; clear HB; have BK105 := n0_; have BK109 := n1_; have BK114 := n2_; have BK119 := n3_; have HB := n4_; clear n0_ n1_ n2_ n3_ n4_; (try clear hb); (try clear hb2); (try clear hk); (try clear hi)) | (go_at_call 21; (with_reducible refine (spec_NetAddr.calls kj46 t124 t127 _ A102.out).mono ?_); rintro e w167 ⟨rfl, hb⟩; have n0_ := zA (blk_below (g := gb105) (o := .cells #[.int .i64 t102, .int .i64 t103] 25 (0, 0)) (zb BK105.out) hb); have n1_ := zA (blk_below (g := gb109) (o := .cells #[.int .i64 t106, .int .i64 t107] 25 (0, 0)) (zb BK109.out) hb); have n2_ := zA (blk_below (g := gb114) (o := .cells #[.int .i64 t112, .int .i64 t113] 25 (0, 0)) (zb BK114.out) hb); have n3_ := zA (blk_below (g := gb119) (o := .cells #[.int .i64 t116, .int .i64 t117] 25 (0, 0)) (zb BK119.out) hb); have n4_ := zA (below_step (zHB) hb); clear BK105; clear BK109; clear BK114; clear BK119; clear HB; have BK105 := n0_; have BK109 := n1_; have BK114 := n2_; have BK119 := n3_; have HB := n4_; clear n0_ n1_ n2_ n3_ n4_; (try clear hb); (try clear hb2); (try clear hk); (try clear hi)))
     go_ret
     exact ⟨by first | rfl | (simp [errW_none, errW_some] <;> rfl) | (simp [*, errW_none, errW_some] <;> rfl), zHB⟩
    rw [if_neg c101] at H
    have c101b0 : (t123.toList == t126.toList) = false := beq_eq_false_iff_ne.mpr c101
    have c101b1 : (t123.toList != t126.toList) = true := bne_iff_ne.mpr c101
    obtain rfl := Option.some.inj H
    go_wp2_with (first | ((with_reducible refine gate_callee (f := 16) rfl ?_); refine goesL_ (some 88) rfl rfl Tryd.func16 (by kernel_rfl) rfl #[.slice A0 l0.length c0] rfl y2  ?_; (with_reducible refine (spec_DrawNetAddrText.calls kj46 _ _ l0 t122 _ ?side1 ?side2 A96.out).mono ?_); (case side1 => repeat (first | exact (Kd.C_below HR0.out HB.out) | (with_reducible refine Kd.C_alloc ?_ _) | (with_reducible refine Kd.C_drewN ?_ _) | (with_reducible refine Kd.C_drew ?_))); (case side2 => exact HC0.out); rintro e w168 ⟨rfl, hb⟩; refine ⟨_, rfl, ?_⟩; have n0_ := zA (blk_below (g := gb105) (o := .cells #[.int .i64 t102, .int .i64 t103] 25 (0, 0)) (zb BK105.out) hb); have n1_ := zA (blk_below (g := gb109) (o := .cells #[.int .i64 t106, .int .i64 t107] 25 (0, 0)) (zb BK109.out) hb); have n2_ := zA (blk_below (g := gb114) (o := .cells #[.int .i64 t112, .int .i64 t113] 25 (0, 0)) (zb BK114.out) hb); have n3_ := zA (blk_below (g := gb119) (o := .cells #[.int .i64 t116, .int .i64 t117] 25 (0, 0)) (zb BK119.out) hb); have n4_ := zA (below_step (zHB) hb); clear BK105; clear BK109; clear BK114; clear BK119; clear HB; have BK105 := n0_; have BK109 := n1_; have BK114 := n2_; have BK119 := n3_; have HB := n4_; clear n0_ n1_ n2_ n3_ n4_; (try clear hb); (try clear hb2); (try clear hk); (try clear hi)) | ((with_reducible refine gate_callee (f := 17) rfl ?_); refine goesL_ (some 90) rfl rfl Tryd.func17 (by kernel_rfl) rfl #[.int .i64 t122] rfl y2  ?_; (with_reducible refine (impl_NetAddrText.calls t122 t123 _ (HG.out.step (zHB)).t A97.out).mono ?_); rintro e w169 ⟨rfl, hb⟩; refine ⟨_, rfl, ?_⟩; have n0_ := zA (blk_below (g := gb105) (o := .cells #[.int .i64 t102, .int .i64 t103] 25 (0, 0)) (zb BK105.out) hb); have n1_ := zA (blk_below (g := gb109) (o := .cells #[.int .i64 t106, .int .i64 t107] 25 (0, 0)) (zb BK109.out) hb); have n2_ := zA (blk_below (g := gb114) (o := .cells #[.int .i64 t112, .int .i64 t113] 25 (0, 0)) (zb BK114.out) hb); have n3_ := zA (blk_below (g := gb119) (o := .cells #[.int .i64 t116, .int .i64 t117] 25 (0, 0)) (zb BK119.out) hb); have n4_ := zA (below_step (zHB) hb); clear BK105; clear BK109; clear BK114; clear BK119; clear HB; have BK105 := n0_; have BK109 := n1_; have BK114 := n2_; have BK119 := n3_; have HB := n4_; clear n0_ n1_ n2_ n3_ n4_; (try clear hb); (try clear hb2); (try clear hk); (try clear hi)) | ((with_reducible refine gate_callee (f := 18) rfl ?_); refine goesL_ (some 92) rfl rfl Tryd.func18 (by kernel_rfl) rfl #[.slice A1 l1.length c1] rfl y2  ?_; (with_reducible refine (spec_DrawNetAddr.calls kj46 _ _ l1 t124 _ ?side1 ?side2 A98.out).mono ?_); (case side1 => repeat (first | exact (Kd.C_below HR1.out HB.out) | (with_reducible refine Kd.C_alloc ?_ _) | (with_reducible refine Kd.C_drewN ?_ _) | (with_reducible refine Kd.C_drew ?_))); (case side2 => exact HC1.out); rintro e w170 ⟨rfl, hb⟩; refine ⟨_, rfl, ?_⟩; have n0_ := zA (blk_below (g := gb105) (o := .cells #[.int .i64 t102, .int .i64 t103] 25 (0, 0)) (zb BK105.out) hb); have n1_ := zA (blk_below (g := gb109) (o := .cells #[.int .i64 t106, .int .i64 t107] 25 (0, 0)) (zb BK109.out) hb); have n2_ := zA (blk_below (g := gb114) (o := .cells #[.int .i64 t112, .int .i64 t113] 25 (0, 0)) (zb BK114.out) hb); have n3_ := zA (blk_below (g := gb119) (o := .cells #[.int .i64 t116, .int .i64 t117] 25 (0, 0)) (zb BK119.out) hb); have n4_ := zA (below_step (zHB) hb); clear BK105; clear BK109; clear BK114; clear BK119; clear HB; have BK105 := n0_; have BK109 := n1_; have BK114 := n2_; have BK119 := n3_; have HB := n4_; clear n0_ n1_ n2_ n3_ n4_; (try clear hb); (try clear hb2); (try clear hk); (try clear hi)) | ((with_reducible refine gate_callee (f := 19) rfl ?_); refine goesL_ (some 94) rfl rfl Tryd.func19 (by kernel_rfl) rfl #[.string t124] rfl y2  ?_; (with_reducible refine (impl_NetAddr.calls t124 t125 _ (HG.out.step (zHB)) A99.out).mono ?_); rintro e w171 ⟨rfl, hb⟩; refine ⟨_, rfl, ?_⟩; have n0_ := zA (blk_below (g := gb105) (o := .cells #[.int .i64 t102, .int .i64 t103] 25 (0, 0)) (zb BK105.out) hb); have n1_ := zA (blk_below (g := gb109) (o := .cells #[.int .i64 t106, .int .i64 t107] 25 (0, 0)) (zb BK109.out) hb); have n2_ := zA (blk_below (g := gb114) (o := .cells #[.int .i64 t112, .int .i64 t113] 25 (0, 0)) (zb BK114.out) hb); have n3_ := zA (blk_below (g := gb119) (o := .cells #[.int .i64 t116, .int .i64 t117] 25 (0, 0)) (zb BK119.out) hb); have n4_ := zA (below_step (zHB) hb); clear BK105; clear BK109; clear BK114; clear BK119; clear HB; have BK105 := n0_; have BK109 := n1_; have BK114 := n2_; have BK119 := n3_; have HB := n4_; clear n0_ n1_ n2_ n3_ n4_; (try clear hb); (try clear hb2); (try clear hk); (try clear hi)) | ((with_reducible refine gate_callee (f := 20) rfl ?_); refine goesL_ (some 97) rfl rfl Tryd.func20 (by kernel_rfl) rfl #[.int .i64 t122] rfl y2  ?_; (with_reducible refine (spec_NetAddrText.calls kj46 t122 t126 _ A100.out).mono ?_); rintro e w172 ⟨rfl, hb⟩; refine ⟨_, rfl, ?_⟩; have n0_ := zA (blk_below (g := gb105) (o := .cells #[.int .i64 t102, .int .i64 t103] 25 (0, 0)) (zb BK105.out) hb); have n1_ := zA (blk_below (g := gb109) (o := .cells #[.int .i64 t106, .int .i64 t107] 25 (0, 0)) (zb BK109.out) hb); have n2_ := zA (blk_below (g := gb114) (o := .cells #[.int .i64 t112, .int .i64 t113] 25 (0, 0)) (zb BK114.out) hb); have n3_ := zA (blk_below (g := gb119) (o := .cells #[.int .i64 t116, .int .i64 t117] 25 (0, 0)) (zb BK119.out) hb); have n4_ := zA (below_step (zHB) hb); clear BK105; clear BK109; clear BK114; clear BK119; clear HB; have BK105 := n0_; have BK109 := n1_; have BK114 := n2_; have BK119 := n3_; have HB := n4_; clear n0_ n1_ n2_ n3_ n4_; (try clear hb); (try clear hb2); (try clear hk); (try clear hi)))
    go_ret
    exact ⟨by first | rfl | (simp [errW_none, errW_some] <;> rfl) | (simp [*, errW_none, errW_some] <;> rfl), zHB⟩
end Go.Proofs.YtnakanjhdcakhaaDoor.Q
namespace Go.Proofs.YtnakanjhdcakhaaDoor.Pure
open Go.RowKit Go.Proofs.YtnakanjhdcakhaaDoorW.PrintWords Go.Proofs.YtnakanjhdcakhaaDoorW.PrintMore
open Q
/-- How many addresses a prefix of a length has. -/
def sz (n : Int) : Int := 2 ^ (16 - n).toNat
def okB (a n : Int) : Bool := decide (0 ≤ n ∧ n ≤ 16 ∧ 0 ≤ a ∧ a ≤ 65535 ∧ a % sz n = 0)
theorem okB_iff {a n : Int} : okB a n = true ↔ 0 ≤ n ∧ n ≤ 16 ∧ 0 ≤ a ∧ a ≤ 65535 ∧ a % sz n = 0 := by unfold okB; simp
theorem len_cases {n : Int} (h0 : 0 ≤ n) (h1 : n ≤ 16) : n = 0 ∨ n = 1 ∨ n = 2 ∨ n = 3 ∨ n = 4 ∨ n = 5 ∨ n = 6 ∨ n = 7 ∨ n = 8 ∨ n = 9 ∨ n = 10 ∨ n = 11 ∨ n = 12 ∨ n = 13 ∨ n = 14 ∨ n = 15 ∨ n = 16 := by omega
theorem sz_pos (n : Int) : 1 ≤ sz n := by
  unfold sz
  have : (0 : Int) < 2 ^ (16 - n).toNat := Int.pow_pos (by decide)
  omega
theorem size_i (a : Int) {n : Int} (h0 : 0 ≤ n) (h1 : n ≤ 16) : impl_size.f a n = some (sz n) := by
  unfold impl_size.f
  rcases len_cases h0 h1 with rfl | rfl | rfl | rfl | rfl | rfl | rfl | rfl | rfl | rfl | rfl | rfl | rfl | rfl | rfl | rfl | rfl <;> decide +kernel
theorem size_s {k : Nat} {n : Int} (h0 : 0 ≤ n) (h1 : n ≤ 16) (hk : 20 ≤ k) : spec_l1Size.f k n = some (sz n) := by
  refine at_rounds (k := 20) (fun k => spec_l1Size.mono n k) hk ?_
  rcases len_cases h0 h1 with rfl | rfl | rfl | rfl | rfl | rfl | rfl | rfl | rfl | rfl | rfl | rfl | rfl | rfl | rfl | rfl | rfl <;> decide +kernel
theorem wrap_in {x : Int} (h0 : -9223372036854775808 ≤ x) (h1 : x ≤ 9223372036854775807) : wrap64 x = x := by unfold wrap64; omega
theorem ok_i (a n : Int) : impl_NetOk.f a n = some (okB a n) := by
  unfold impl_NetOk.f impl_isAddr.f okB
  by_cases h0 : n ≥ 0
  · by_cases h1 : n ≤ 16
    · by_cases h2 : a ≥ 0
      · by_cases h3 : a ≤ 65535
        · have hp := sz_pos n
          have hm : a.tmod (sz n) = a % sz n := Int.tmod_eq_emod_of_nonneg h2
          rw [if_pos h0, if_pos h1, if_pos h2]
          simp only [h3, decide_true, Option.bind_some, if_true, size_i a h0 h1, if_neg (show ¬ sz n = 0 by omega), hm]
          simp [h0, h1, h2]
          rfl
        · rw [if_pos h0, if_pos h1, if_pos h2]
          simp [h3]
      · rw [if_pos h0, if_pos h1, if_neg h2]
        simp [show ¬ 0 ≤ a by omega]
    · rw [if_pos h0, if_neg h1]
      simp [h1]
  · rw [if_neg h0]
    simp [show ¬ 0 ≤ n by omega]
theorem ok_s {k : Nat} (hk : 20 ≤ k) (a n : Int) : spec_NetOk.f k a n = some (okB a n) := by
  unfold spec_NetOk.f spec_l1In.f okB
  by_cases h0 : n ≥ 0
  · by_cases h1 : n ≤ 16
    · by_cases h2 : a ≥ 0
      · by_cases h3 : a ≤ 65535
        · have hp := sz_pos n
          have hm : a.tmod (sz n) = a % sz n := Int.tmod_eq_emod_of_nonneg h2
          rw [if_pos h0, if_pos h2]
          simp only [h1, h3, decide_true, Option.bind_some, if_true, size_s h0 h1 hk, if_neg (show ¬ sz n = 0 by omega), hm]
          simp [h0, h2]
          rfl
        · rw [if_pos h0, if_pos h2]
          simp [h1, h3]
      · rw [if_pos h0, if_neg h2]
        simp [h1, show ¬ 0 ≤ a by omega]
    · rw [if_pos h0]
      simp [h1]
  · rw [if_neg h0]
    simp [show ¬ 0 ≤ n by omega]
end Go.Proofs.YtnakanjhdcakhaaDoor.Pure
namespace Go.Proofs.YtnakanjhdcakhaaDoor.Pure
open Go.RowKit Go.Proofs.YtnakanjhdcakhaaDoorW.PrintWords Go.Proofs.YtnakanjhdcakhaaDoorW.PrintMore
open Q
set_option linter.unusedVariables false
set_option linter.unusedSimpArgs false
/-- The decimal digits of a number below 1000. -/
def dd (v : Nat) : List UInt8 := if v < 10 then [UInt8.ofNat (48 + v)] else if v < 100 then [UInt8.ofNat (48 + v / 10), UInt8.ofNat (48 + v % 10)] else [UInt8.ofNat (48 + v / 100), UInt8.ofNat (48 + v / 10 % 10), UInt8.ofNat (48 + v % 10)]
theorem dec_dd {v : Nat} (h : v < 1000) : Lib.decDigits v = dd v := by
  unfold dd
  by_cases h1 : v < 10
  · rw [if_pos h1, Lib.decDigits_one h1]
  · rw [if_neg h1]
    by_cases h2 : v < 100
    · rw [if_pos h2, Lib.decDigits_two h1 h2]
    · rw [if_neg h2, Lib.decDigits, dif_neg h1, Lib.decDigits_two (by omega) (by omega), show v / 10 / 10 = v / 100 by omega]
      rfl
theorem itoa_dd {v : Int} (h0 : 0 ≤ v) (h1 : v < 1000) : Lib.itoa v = dd v.toNat := by
  unfold Lib.itoa
  rw [if_neg (by omega), dec_dd (by omega)]
/-- What the reference reckons of figures. -/
def decP : Int → List UInt8 → Int
  | acc, [] => acc
  | acc, c :: r => if c.toNat < 48 then -1 else if 57 < c.toNat then -1 else decP (acc * 10 + ((c.toNat : Int) - 48)) r
def numS (l : List UInt8) : Int := if 1 ≤ l.length ∧ l.length ≤ 5 then (if 1 < l.length ∧ l.head? = some 48 then -1 else decP 0 l) else -1
theorem dd_atoi : ∀ v : Fin 256, Lib.atoiAll (dd v.val) = .ok (v.val : Int) := by decide +kernel
theorem dd_num : ∀ v : Fin 256, numS (dd v.val) = (v.val : Int) := by decide +kernel
theorem byte_of {c : UInt8} {n : Nat} (h : c.toNat = n) : c = UInt8.ofNat n := by
  apply UInt8.toNat_inj.1
  have := c.toNat_lt
  simp
  omega
theorem num_dd {l : List UInt8} {v : Nat} (h : numS l = (v : Int)) (hv : v ≤ 255) : l = dd v := by
  unfold numS at h
  split at h
  · rename_i hl
    split at h
    · omega
    · rename_i hz
      match l, hl, hz, h with
      | [a], _, _, h =>
        simp only [decP] at h
        split at h
        · omega
        · split at h
          · omega
          · unfold dd
            rw [if_pos (by omega), byte_of (c := a) (n := 48 + v) (by omega)]
      | [a, b], _, hz, h =>
        simp only [decP] at h
        have ha : a.toNat ≠ 48 := fun e => hz ⟨by simp, by simp only [List.head?_cons]; rw [byte_of e]; rfl⟩
        split at h
        · omega
        · split at h
          · omega
          · split at h
            · omega
            · split at h
              · omega
              · unfold dd
                rw [if_neg (by omega), if_pos (by omega), byte_of (c := a) (n := 48 + v / 10) (by omega), byte_of (c := b) (n := 48 + v % 10) (by omega)]
      | [a, b, c], _, hz, h =>
        simp only [decP] at h
        have ha : a.toNat ≠ 48 := fun e => hz ⟨by simp, by simp only [List.head?_cons]; rw [byte_of e]; rfl⟩
        split at h
        · omega
        · split at h
          · omega
          · split at h
            · omega
            · split at h
              · omega
              · split at h
                · omega
                · split at h
                  · omega
                  · unfold dd
                    rw [if_neg (by omega), if_neg (by omega), byte_of (c := a) (n := 48 + v / 100) (by omega), byte_of (c := b) (n := 48 + v / 10 % 10) (by omega), byte_of (c := c) (n := 48 + v % 10) (by omega)]
      | [a, b, c, d], _, hz, h =>
        simp only [decP] at h
        have ha : a.toNat ≠ 48 := fun e => hz ⟨by simp, by simp only [List.head?_cons]; rw [byte_of e]; rfl⟩
        repeat' split at h
        all_goals omega
      | [a, b, c, d, e], _, hz, h =>
        simp only [decP] at h
        have ha : a.toNat ≠ 48 := fun e => hz ⟨by simp, by simp only [List.head?_cons]; rw [byte_of e]; rfl⟩
        repeat' split at h
        all_goals omega
      | a :: b :: c :: d :: e :: f :: r, hl, _, _ => simp at hl
  · omega
/-- The program's reader of numbers, by the reference's. -/
theorem number_is (s : ByteArray) {most : Int} (h0 : 0 ≤ most) (h1 : most ≤ 255) : numP s most = if 0 ≤ numS s.data.toList ∧ numS s.data.toList ≤ most then numS s.data.toList else -1 := by
  by_cases hc : 0 ≤ numS s.data.toList ∧ numS s.data.toList ≤ most
  · rw [if_pos hc]
    obtain ⟨v, hv⟩ := Int.eq_ofNat_of_zero_le hc.1
    have hl := num_dd hv (by omega)
    have ha := dd_atoi ⟨v, by omega⟩
    unfold numP
    rw [hv]
    simp only at ha
    rw [hl, ha]
    simp only
    rw [if_neg]
    rintro (h | h | h)
    · omega
    · omega
    · rw [itoa_dd (by omega) (by omega)] at h
      exact h (by simp)
  · rw [if_neg hc]
    unfold numP
    split
    · rename_i v hq
      split
      · rfl
      · rename_i hn
        exfalso
        apply hc
        have h3 : 0 ≤ v := by
          rcases Int.lt_or_le v 0 with h | h
          · exact absurd (.inl h) hn
          · exact h
        have h4 : v ≤ most := by
          rcases Int.lt_or_le most v with h | h
          · exact absurd (.inr (.inl h)) hn
          · exact h
        have h5 : Lib.itoa v = s.data.toList := Decidable.not_not.1 (fun h => hn (.inr (.inr h)))
        rw [itoa_dd h3 (by omega)] at h5
        have := dd_num ⟨v.toNat, by omega⟩
        simp only at this
        rw [← h5, this]
        omega
    · rfl
theorem strOf_one {n : Nat} (h : n < 10) : strOfNums [(wrap64 (48 + (n : Int))) % 256] = ⟨#[UInt8.ofNat (48 + n)]⟩ := by
  have e : ((wrap64 (48 + (n : Int))) % 256).toNat = 48 + n := by
    rw [wrap_in (by omega) (by omega), Int.emod_eq_of_lt (by omega) (by omega)]
    omega
  unfold strOfNums
  rw [List.map_cons, List.map_nil, e]
theorem dec_s (n : Nat) : ∀ k, n < k → n < 1000000 → spec_l2Dec.f k n = some ⟨(Lib.decDigits n).toArray⟩ := by
  induction n using Nat.strongRecOn with
  | _ n ih =>
    intro k hk hn
    obtain ⟨k, rfl⟩ : ∃ m, k = m + 1 := ⟨k - 1, by omega⟩
    simp only [spec_l2Dec.f]
    by_cases h : n < 10
    · rw [if_pos (by omega), Lib.decDigits_one h, strOf_one h]
    · have e1 : wrap64 (Int.tdiv (n : Int) 10) = ((n / 10 : Nat) : Int) := by
        rw [show Int.tdiv (n : Int) 10 = ((n / 10 : Nat) : Int) from (Int.ofNat_tdiv n 10).symm, wrap_in (by omega) (by omega)]
      have e2 : Int.tmod (n : Int) 10 = ((n % 10 : Nat) : Int) := (Int.ofNat_tmod n 10).symm
      rw [if_neg (by omega), e1, e2, ih (n / 10) (by omega) k (by omega) (by omega)]
      simp only [Option.bind_some]
      rw [strOf_one (by omega)]
      have hlen : (Lib.decDigits (n / 10)).length ≤ 10 := by
        rw [Lib.decDigits_length]
        have := Lib.nDigits_unique
        have h7 : ∀ m j, m < 10 ^ (j + 1) → Lib.nDigits m ≤ j + 1 := by
          intro m j
          induction j generalizing m with
          | zero => intro hm; rw [Lib.nDigits_small (by simpa using hm)]; omega
          | succ j ihj =>
            intro hm
            by_cases hs : m < 10
            · rw [Lib.nDigits_small hs]; omega
            · rw [Lib.nDigits_big hs]
              have := ihj (m / 10) (by rw [Nat.pow_succ] at hm; omega)
              omega
        have := h7 (n / 10) 6 (by omega)
        omega
      rw [if_pos]
      · congr 1
        have e : Lib.decDigits n = Lib.decDigits (n / 10) ++ [UInt8.ofNat (48 + n % 10)] := by
          conv => lhs; rw [Lib.decDigits, dif_neg h]
        rw [e]
        apply ByteArray.ext
        simp
      · simp [ByteArray.size]
        omega
theorem l1In_d (n a b : Int) : spec_l1In.f n a b = some (decide (a ≤ n ∧ n ≤ b)) := by
  unfold spec_l1In.f
  by_cases h : n ≥ a
  · rw [if_pos h]
    congr 1
    exact decide_eq_decide.2 (by omega)
  · rw [if_neg h, decide_eq_false (by omega)]
theorem bt_list (s : ByteArray) (i : Nat) (h : i < s.data.toList.length) : bt s (i : Int) = ((s.data.toList[i]).toNat : Int) := by
  have e : s.size = s.data.toList.length := by rw [Array.length_toList]; rfl
  have h' : ((i : Int)).toNat < s.size := by rw [e]; exact h
  unfold bt
  rw [dif_pos h']
  rfl
theorem size_list (s : ByteArray) : (s.size : Int) = (s.data.toList.length : Int) := by rw [Array.length_toList]; rfl
theorem num_loop (s : ByteArray) (hl : s.data.toList.length ≤ 5) (d : Nat) : ∀ (i k : Nat) (acc : Int), i + d = s.data.toList.length → d < k → 0 ≤ acc → acc < 10 ^ i → spec_l2Num.l0 k s acc i = some (decP acc (s.data.toList.drop i)) := by
  induction d with
  | zero =>
    intro i k acc hi hk h0 h1
    obtain ⟨k, rfl⟩ : ∃ m, k = m + 1 := ⟨k - 1, by omega⟩
    simp only [spec_l2Num.l0]
    rw [size_list, if_neg (by omega), List.drop_eq_nil_of_le (by omega)]
    rfl
  | succ d ih =>
    intro i k acc hi hk h0 h1
    obtain ⟨k, rfl⟩ : ∃ m, k = m + 1 := ⟨k - 1, by omega⟩
    have hb := (s.data.toList[i]'(by omega)).toNat_lt
    have hp : (10 : Int) ^ i ≤ 10 ^ 5 := by
      have : i = 0 ∨ i = 1 ∨ i = 2 ∨ i = 3 ∨ i = 4 := by omega
      rcases this with rfl | rfl | rfl | rfl | rfl <;> decide
    have e5 : (10 : Int) ^ 5 = 100000 := by decide
    simp only [spec_l2Num.l0]
    rw [size_list, if_pos (by omega), if_pos (by omega), bt_list s i (by omega), List.drop_eq_getElem_cons (by omega)]
    simp only [decP]
    by_cases c0 : (s.data.toList[i]'(by omega)).toNat < 48
    · rw [if_pos (by omega), if_pos c0]
    · rw [if_neg (by omega), if_neg c0]
      by_cases c1 : 57 < (s.data.toList[i]'(by omega)).toNat
      · rw [if_pos (by omega), if_pos c1]
      · rw [if_neg (by omega), if_neg c1, wrap_in (x := acc * 10) (by omega) (by omega), wrap_in (x := (i : Int) + 1) (by omega) (by omega), Int.emod_eq_of_lt (by omega) (by omega), wrap_in (by omega) (by omega)]
        exact ih (i + 1) k _ (by omega) (by omega) (by omega) (by rw [Int.pow_succ]; omega)
theorem num_s (s : ByteArray) {k : Nat} (hk : 10 ≤ k) : spec_l2Num.f k s = some (numS s.data.toList) := by
  unfold spec_l2Num.f numS
  rw [l1In_d, Option.bind_some, size_list]
  by_cases hl : 1 ≤ s.data.toList.length ∧ s.data.toList.length ≤ 5
  · obtain ⟨k, rfl⟩ : ∃ m, k = m + 1 := ⟨k - 1, by omega⟩
    have hn := num_loop s hl.2 s.data.toList.length 0 k 0 (by omega) (by omega) (by omega) (by decide)
    have h0 : ((0 : Nat) : Int) = 0 := rfl
    rw [h0, List.drop_zero] at hn
    rw [if_pos (decide_eq_true (by omega)), if_pos hl]
    by_cases h1 : (s.data.toList.length : Int) > 1
    · rw [if_pos h1, if_pos (by omega)]
      have hb := bt_list s 0 (by omega)
      rw [h0] at hb
      rw [hb]
      simp only [spec_l2Num.j0]
      have eh : s.data.toList.head? = some (s.data.toList[0]'(by omega)) := by
        rw [List.head?_eq_getElem?, List.getElem?_eq_getElem]
      by_cases h2 : (s.data.toList[0]'(by omega)).toNat = 48
      · rw [if_pos (by rw [h2]; rfl), if_pos ⟨by omega, by rw [eh, byte_of h2]; rfl⟩]
      · have hne : ((((s.data.toList[0]'(by omega)).toNat : Int)) == 48) = false := by
          rw [beq_eq_false_iff_ne]
          omega
        rw [hne]
        simp only [Bool.false_eq_true, if_false]
        rw [if_neg]
        · exact hn
        · rintro ⟨_, h⟩
          rw [eh] at h
          simp only [Option.some.injEq] at h
          rw [h] at h2
          exact h2 rfl
    · rw [if_neg h1]
      simp only [spec_l2Num.j0, Bool.false_eq_true, if_false]
      rw [hn, if_neg (by omega)]
  · rw [if_neg (by rw [decide_eq_false (by omega)]; simp), if_neg hl]
    obtain ⟨k, rfl⟩ : ∃ m, k = m + 1 := ⟨k - 1, by omega⟩
    simp only [spec_l2Num.j0, if_true]
theorem number_s (s : ByteArray) (hs : s.size ≤ 281474976710656) {most : Int} (h0 : 0 ≤ most) (h1 : most ≤ 255) : impl_number.f s most = some (if 0 ≤ numS s.data.toList ∧ numS s.data.toList ≤ most then numS s.data.toList else -1) := by
  unfold impl_number.f
  rw [if_pos hs, number_is s h0 h1]
end Go.Proofs.YtnakanjhdcakhaaDoor.Pure
namespace Go.Proofs.YtnakanjhdcakhaaDoor.Pure
open Go.RowKit Go.Proofs.YtnakanjhdcakhaaDoorW.PrintWords Go.Proofs.YtnakanjhdcakhaaDoorW.PrintMore
open Q
set_option linter.unusedVariables false
set_option linter.unusedSimpArgs false
theorem index_miss {c : UInt8} : ∀ {l : List UInt8}, c ∉ l → Lib.index l [c] = -1
  | [], _ => rfl
  | b :: l, h => by
    have hb : c ≠ b := fun e => h (by simp [e])
    have hl : c ∉ l := fun e => h (by simp [e])
    have e : ([c] : List UInt8).isPrefixOf (b :: l) = false := by simp [List.isPrefixOf, hb]
    unfold Lib.index
    rw [e, index_miss hl]
    rfl
theorem index_hit {c : UInt8} (B : List UInt8) : ∀ {A : List UInt8}, c ∉ A → Lib.index (A ++ c :: B) [c] = (A.length : Int)
  | [], _ => by
    have e : ([c] : List UInt8).isPrefixOf (c :: B) = true := by simp [List.isPrefixOf]
    rw [List.nil_append]
    unfold Lib.index
    rw [e]
    rfl
  | b :: A, h => by
    have hb : c ≠ b := fun e => h (by simp [e])
    have hl : c ∉ A := fun e => h (by simp [e])
    have e : ([c] : List UInt8).isPrefixOf (b :: (A ++ c :: B)) = false := by simp [List.isPrefixOf, hb]
    rw [List.cons_append]
    unfold Lib.index
    rw [e, index_hit B hl]
    have : ((A.length : Int) == -1) = false := by rw [beq_eq_false_iff_ne]; omega
    rw [this]
    simp
theorem cut_miss {c : UInt8} {l : List UInt8} (h : c ∉ l) : Lib.cut l [c] = (l, [], false) := by
  unfold Lib.cut
  rw [index_miss h]
  rfl
theorem cut_hit {c : UInt8} {A B : List UInt8} (h : c ∉ A) : Lib.cut (A ++ c :: B) [c] = (A, B, true) := by
  unfold Lib.cut
  rw [index_hit B h, if_pos (by omega)]
  simp
/-- A text cut at each byte c: P is what stands ahead of the first cut. -/
def piecesP (c : UInt8) (P : List UInt8) : List UInt8 → List (List UInt8)
  | [] => [P]
  | b :: r => if b = c then P :: piecesP c [] r else piecesP c (P ++ [b]) r
theorem pieces_miss {c : UInt8} : ∀ (l P : List UInt8), c ∉ l → piecesP c P l = [P ++ l]
  | [], P, _ => by simp [piecesP]
  | b :: l, P, h => by
    have hb : b ≠ c := fun e => h (by simp [e])
    have hl : c ∉ l := fun e => h (by simp [e])
    rw [piecesP, if_neg hb, pieces_miss l (P ++ [b]) hl]
    simp
theorem pieces_hit {c : UInt8} (B : List UInt8) : ∀ (A P : List UInt8), c ∉ A → piecesP c P (A ++ c :: B) = (P ++ A) :: piecesP c [] B
  | [], P, _ => by simp [piecesP]
  | b :: A, P, h => by
    have hb : b ≠ c := fun e => h (by simp [e])
    have hl : c ∉ A := fun e => h (by simp [e])
    rw [List.cons_append, piecesP, if_neg hb, pieces_hit B A (P ++ [b]) hl]
    simp
theorem pieces_len {c : UInt8} : ∀ (l P : List UInt8), 1 ≤ (piecesP c P l).length ∧ (piecesP c P l).length ≤ l.length + 1
  | [], P => by simp [piecesP]
  | b :: l, P => by
    rw [piecesP]
    split
    · have := pieces_len (c := c) l []
      simp only [List.length_cons]
      omega
    · have := pieces_len (c := c) l (P ++ [b])
      simp only [List.length_cons]
      omega
def mkB (l : List UInt8) : ByteArray := ⟨l.toArray⟩
theorem mkB_list (l : List UInt8) : (mkB l).data.toList = l := by simp [mkB]
theorem mkB_size (l : List UInt8) : (mkB l).size = l.length := by simp [mkB, ByteArray.size]
theorem mkB_of (s : ByteArray) : mkB s.data.toList = s := by simp [mkB]
theorem extract_mk (s : ByteArray) (a b : Nat) (h : a ≤ b) (hb : b ≤ s.data.toList.length) : s.extract a b = mkB ((s.data.toList.drop a).take (b - a)) := by
  apply ByteArray.ext
  apply Array.toList_inj.1
  rw [ByteArray.data_extract, Array.toList_extract, mkB_list]
theorem size_nat (s : ByteArray) : s.size = s.data.toList.length := by rw [Array.length_toList]; rfl
theorem cut_loop (s : ByteArray) (c : UInt8) (hs : s.data.toList.length ≤ 100000000) (d : Nat) : ∀ (i frm k : Nat) (out : List ByteArray), i + d = s.data.toList.length → frm ≤ i → out.length ≤ i → d < k →
    spec_l2Cut.l0 k s (c.toNat : Int) out frm i = some (out ++ (piecesP c ((s.data.toList.drop frm).take (i - frm)) (s.data.toList.drop i)).map mkB) := by
  induction d with
  | zero =>
    intro i frm k out hi hf ho hk
    obtain ⟨k, rfl⟩ : ∃ m, k = m + 1 := ⟨k - 1, by omega⟩
    simp only [spec_l2Cut.l0]
    rw [size_list, if_neg (by omega), if_pos (by omega), if_pos (by omega), if_pos (by omega), List.drop_eq_nil_of_le (show s.data.toList.length ≤ i by omega)]
    simp only [piecesP, List.map_cons, List.map_nil]
    rw [size_nat, show ((frm : Int)).toNat = frm from rfl, extract_mk s frm _ (by omega) (Nat.le_refl _), show i = s.data.toList.length by omega]
  | succ d ih =>
    intro i frm k out hi hf ho hk
    obtain ⟨k, rfl⟩ : ∃ m, k = m + 1 := ⟨k - 1, by omega⟩
    have hil : i < s.data.toList.length := by omega
    simp only [spec_l2Cut.l0]
    rw [size_list, if_pos (by omega), if_pos (by omega), bt_list s i hil, List.drop_eq_getElem_cons hil, piecesP]
    have hw : wrap64 ((i : Int) + 1) = ((i + 1 : Nat) : Int) := by rw [wrap_in (by omega) (by omega)]; omega
    rw [hw]
    by_cases hc : s.data.toList[i] = c
    · rw [if_pos (by rw [hc]), if_pos hc, if_pos (by omega), if_pos (by omega), if_pos (by omega), if_pos (by omega), show ((frm : Int)).toNat = frm from rfl, show ((i : Int)).toNat = i from rfl, extract_mk s frm i hf (by omega), ih (i + 1) (i + 1) k _ (by omega) (by omega) (by simp; omega) (by omega)]
      simp
    · have hne : ¬ ((s.data.toList[i].toNat : Int) = (c.toNat : Int)) := fun e => hc (UInt8.toNat_inj.1 (by omega))
      rw [if_neg hne, if_neg hc, ih (i + 1) frm k out (by omega) (by omega) (by omega) (by omega)]
      have e : (s.data.toList.drop frm).take (i + 1 - frm) = (s.data.toList.drop frm).take (i - frm) ++ [s.data.toList[i]] := by
        rw [show i + 1 - frm = (i - frm) + 1 by omega, List.take_add_one]
        congr 1
        rw [List.getElem?_drop, show frm + (i - frm) = i by omega, List.getElem?_eq_getElem hil]
        rfl
      rw [e]
theorem cut_s (s : ByteArray) (c : UInt8) (hs : s.data.toList.length ≤ 100000000) {k : Nat} (hk : s.data.toList.length < k) : spec_l2Cut.f k s (c.toNat : Int) = some ((piecesP c [] s.data.toList).map mkB) := by
  have := cut_loop s c hs s.data.toList.length 0 0 k [] (by omega) (Nat.le_refl _) (by simp) hk
  unfold spec_l2Cut.f
  simpa using this
theorem cut_i (s : ByteArray) (c : UInt8) (hs : s.data.toList.length ≤ 100000000) : strings_Cut.f s ⟨#[c]⟩ = some (mkB (Lib.cut s.data.toList [c]).1, mkB (Lib.cut s.data.toList [c]).2.1, (Lib.cut s.data.toList [c]).2.2) := by
  unfold strings_Cut.f
  rw [if_pos (by rw [size_nat]; omega)]
  rfl
/-- What both readers of addresses say. -/
def addrP (l : List UInt8) : Int := let r := Lib.cut l [46]; let x := numS r.1; let y := numS r.2.1; if r.2.2 = true ∧ (0 ≤ x ∧ x ≤ 255) ∧ (0 ≤ y ∧ y ≤ 255) then 256 * x + y else -1
theorem num_bad {l : List UInt8} {c : UInt8} (hc : c ∈ l) (h : c.toNat < 48) : ¬ 0 ≤ numS l := by
  have key : ∀ (l : List UInt8) (acc : Int), c ∈ l → decP acc l = -1 := by
    intro l
    induction l with
    | nil => intro acc hm; simp at hm
    | cons b r ih =>
      intro acc hm
      rw [decP]
      split
      · rfl
      · split
        · rfl
        · rcases List.mem_cons.1 hm with rfl | hm
          · omega
          · exact ih _ hm
  unfold numS
  split
  · split
    · omega
    · rw [key l 0 hc]; omega
  · omega
theorem addr_i (s : ByteArray) (hs : s.data.toList.length ≤ 100000000) : impl_NetAddr.f s = some (addrP s.data.toList) := by
  unfold impl_NetAddr.f
  have e46 : (⟨#[46]⟩ : ByteArray) = ⟨#[(46 : UInt8)]⟩ := rfl
  have hl1 : (Lib.cut s.data.toList [46]).1.length ≤ s.data.toList.length ∧ (Lib.cut s.data.toList [46]).2.1.length ≤ s.data.toList.length := by
    unfold Lib.cut
    split
    · simp only [List.length_take, List.length_drop]; omega
    · simp
  rw [cut_i s 46 hs, Option.bind_some]
  simp only []
  rw [number_s _ (by rw [mkB_size]; omega) (by omega) (by omega), number_s _ (by rw [mkB_size]; omega) (by omega) (by omega), mkB_list, mkB_list]
  simp only [Option.bind_some]
  unfold addrP
  simp only []
  generalize numS (Lib.cut s.data.toList [46]).1 = x
  generalize numS (Lib.cut s.data.toList [46]).2.1 = y
  generalize (Lib.cut s.data.toList [46]).2.2 = b
  cases b with
  | false => simp
  | true =>
    rw [if_pos rfl]
    by_cases hx : 0 ≤ x ∧ x ≤ 255
    · rw [if_pos hx, if_neg (by omega)]
      by_cases hy : 0 ≤ y ∧ y ≤ 255
      · rw [if_pos hy, if_neg (by omega), if_pos ⟨rfl, hx, hy⟩, wrap_in (x := 256 * x) (by omega) (by omega), wrap_in (by omega) (by omega)]
      · rw [if_neg hy, if_pos (by omega), if_neg (fun h => hy h.2.2)]
    · rw [if_neg hx, if_pos (by omega), if_neg (fun h => hx h.2.1)]
theorem rdOf_0 (a b : ByteArray) : rdOf ByteArray.empty [a, b] 0 = a := rfl
theorem rdOf_1 (a b : ByteArray) : rdOf ByteArray.empty [a, b] 1 = b := rfl
theorem addr_s (s : ByteArray) (hs : s.data.toList.length ≤ 100000000) {k : Nat} (hk : s.data.toList.length + 10 < k) : spec_NetAddr.f k s = some (addrP s.data.toList) := by
  unfold spec_NetAddr.f
  have hcut := cut_s s 46 hs (k := k) (by omega)
  have e46 : (((46 : UInt8).toNat : Nat) : Int) = 46 := rfl
  rw [e46] at hcut
  rw [hcut, Option.bind_some]
  unfold addrP
  by_cases hm : (46 : UInt8) ∈ s.data.toList
  · obtain ⟨A, B, e, hA⟩ := List.eq_append_cons_of_mem hm
    rw [e, pieces_hit B A [] hA, cut_hit hA]
    simp only [List.nil_append, List.map_cons, List.length_cons, List.length_map]
    by_cases hB : (46 : UInt8) ∈ B
    · obtain ⟨A', B', e', hA'⟩ := List.eq_append_cons_of_mem hB
      have h2 := (pieces_len (c := 46) B' []).1
      have h1 : (piecesP 46 [] B).length = (piecesP 46 [] B').length + 1 := by rw [e', pieces_hit B' A' [] hA']; simp
      have := num_bad hB (by decide)
      rw [if_neg (by omega), if_neg (fun h => this h.2.2.1)]
    · rw [pieces_miss B [] hB]
      simp only [List.nil_append, List.map_cons, List.map_nil, List.length_cons, List.length_nil]
      rw [if_pos (by rfl), if_pos (by decide), rdOf_0, rdOf_1, num_s _ (by omega), num_s _ (by omega), mkB_list, mkB_list]
      simp only [Option.bind_some]
      rw [if_pos (by decide), l1In_d, l1In_d]
      simp only [Option.bind_some]
      generalize numS A = x
      generalize numS B = y
      by_cases hx : 0 ≤ x ∧ x ≤ 255
      · rw [if_pos (decide_eq_true hx)]
        by_cases hy : 0 ≤ y ∧ y ≤ 255
        · rw [if_pos (decide_eq_true hy), if_pos ⟨trivial, hx, hy⟩, wrap_in (x := 256 * x) (by omega) (by omega), wrap_in (by omega) (by omega)]
        · rw [if_neg (by simpa using hy), if_neg (fun h => hy h.2.2)]
      · rw [if_neg (by simpa using hx), if_neg (fun h => hx h.2.1)]
  · rw [pieces_miss _ [] hm, cut_miss hm]
    simp
/-- What both readers of prefixes say. -/
def parseP (l : List UInt8) : Int × Int × Bool := let r := Lib.cut l [47]; let a := addrP r.1; let n := numS r.2.1; if r.2.2 = true ∧ okB a n = true then (a, n, true) else (0, 0, false)
theorem cut_lens (l : List UInt8) (c : UInt8) : (Lib.cut l [c]).1.length ≤ l.length ∧ (Lib.cut l [c]).2.1.length ≤ l.length := by
  unfold Lib.cut
  split
  · simp only [List.length_take, List.length_drop]; omega
  · simp
theorem parse_i (s : ByteArray) (hs : s.data.toList.length ≤ 100000000) : impl_NetParse.f s = some (parseP s.data.toList) := by
  have hl := cut_lens s.data.toList 47
  unfold impl_NetParse.f
  rw [cut_i s 47 hs, Option.bind_some]
  simp only []
  rw [addr_i _ (by rw [mkB_list]; omega), number_s _ (by rw [mkB_size]; omega) (by omega) (by omega), mkB_list, mkB_list]
  simp only [Option.bind_some]
  unfold parseP
  simp only []
  generalize addrP (Lib.cut s.data.toList [47]).1 = x
  generalize numS (Lib.cut s.data.toList [47]).2.1 = y
  generalize (Lib.cut s.data.toList [47]).2.2 = b
  cases b with
  | false => simp
  | true =>
    rw [if_pos rfl, ok_i, Option.bind_some]
    by_cases hy : 0 ≤ y ∧ y ≤ 16
    · rw [if_pos hy]
      by_cases ho : okB x y = true
      · rw [if_pos ho, if_pos ⟨rfl, ho⟩]
      · rw [if_neg ho, if_neg (fun h => ho h.2)]
    · have h1 : okB x (-1) ≠ true := fun h => by have := okB_iff.1 h; omega
      have h2 : okB x y ≠ true := fun h => by have := okB_iff.1 h; omega
      rw [if_neg hy, if_neg h1, if_neg (fun h => h2 h.2)]
theorem parse_s (s : ByteArray) (hs : s.data.toList.length ≤ 100000000) {k : Nat} (hk : s.data.toList.length + 30 < k) : spec_NetParse.f k s = some (parseP s.data.toList) := by
  unfold spec_NetParse.f
  have hcut := cut_s s 47 hs (k := k) (by omega)
  have e47 : (((47 : UInt8).toNat : Nat) : Int) = 47 := rfl
  rw [e47] at hcut
  rw [hcut, Option.bind_some]
  unfold parseP
  by_cases hm : (47 : UInt8) ∈ s.data.toList
  · obtain ⟨A, B, e, hA⟩ := List.eq_append_cons_of_mem hm
    have hlen : A.length + (B.length + 1) = s.data.toList.length := by rw [e]; simp
    rw [e, pieces_hit B A [] hA, cut_hit hA]
    simp only [List.nil_append, List.map_cons, List.length_cons, List.length_map]
    by_cases hB : (47 : UInt8) ∈ B
    · obtain ⟨A', B', e', hA'⟩ := List.eq_append_cons_of_mem hB
      have h2 := (pieces_len (c := 47) B' []).1
      have h1 : (piecesP 47 [] B).length = (piecesP 47 [] B').length + 1 := by rw [e', pieces_hit B' A' [] hA']; simp
      have hb := num_bad hB (by decide)
      have h3 : okB (addrP A) (numS B) ≠ true := fun h => by have := okB_iff.1 h; omega
      rw [if_neg (by omega), if_neg (fun h => h3 h.2)]
    · rw [pieces_miss B [] hB]
      simp only [List.nil_append, List.map_cons, List.map_nil, List.length_cons, List.length_nil]
      rw [if_pos (by rfl), if_pos (by decide), rdOf_0, rdOf_1, addr_s _ (by rw [mkB_list]; omega) (by rw [mkB_list]; omega), num_s _ (by omega), mkB_list, mkB_list]
      simp only [Option.bind_some]
      rw [if_pos (by decide), ok_s (by omega), Option.bind_some]
      by_cases ho : okB (addrP A) (numS B) = true
      · rw [if_pos ho, if_pos ⟨trivial, ho⟩]
      · rw [if_neg ho, if_neg (fun h => ho h.2)]
  · rw [pieces_miss _ [] hm, cut_miss hm]
    simp
/-- What both writers of addresses write. -/
def addrT (a : Int) : List UInt8 := if 0 ≤ a ∧ a ≤ 65535 then Lib.itoa (a / 256) ++ 46 :: Lib.itoa (a % 256) else []
theorem itoa_i {v : Int} (h0 : 0 ≤ v) (h1 : v ≤ 70000) : strconv_Itoa.f v = some (mkB (Lib.itoa v)) := by
  unfold strconv_Itoa.f
  rw [if_pos (by omega)]
  rfl
theorem itoa_s {v : Int} (h0 : 0 ≤ v) (h1 : v ≤ 70000) {k : Nat} (hk : 70001 ≤ k) : spec_l2Dec.f k v = some (mkB (Lib.itoa v)) := by
  obtain ⟨n, rfl⟩ := Int.eq_ofNat_of_zero_le h0
  rw [dec_s n k (by omega) (by omega)]
  unfold Lib.itoa mkB
  rw [if_neg (by omega)]
  rfl
theorem itoa_len {v : Int} (h0 : 0 ≤ v) (h1 : v ≤ 70000) : (Lib.itoa v).length ≤ 21 := Lib.itoa_length_le v (by omega) (by omega)
theorem isAddr_i (a : Int) : impl_isAddr.f a = some (decide (0 ≤ a ∧ a ≤ 65535)) := by
  unfold impl_isAddr.f
  by_cases h : a ≥ 0
  · rw [if_pos h]
    congr 1
    exact decide_eq_decide.2 (by omega)
  · rw [if_neg h, decide_eq_false (by omega)]
theorem join_mk (a b : List UInt8) (c : UInt8) : (mkB a ++ (⟨#[c]⟩ : ByteArray)) ++ mkB b = mkB (a ++ c :: b) := by
  apply ByteArray.ext
  apply Array.toList_inj.1
  simp [mkB]
theorem join_size (a : List UInt8) (c : UInt8) : (mkB a ++ (⟨#[c]⟩ : ByteArray)).size = a.length + 1 := by
  rw [ByteArray.size_append, mkB_size]
  rfl
theorem addrT_i (a : Int) : impl_NetAddrText.f a = some (mkB (addrT a)) := by
  unfold impl_NetAddrText.f addrT
  rw [isAddr_i, Option.bind_some]
  by_cases h : 0 ≤ a ∧ a ≤ 65535
  · have e1 : Int.tdiv a 256 = a / 256 := Int.tdiv_eq_ediv_of_nonneg h.1
    have e2 : Int.tmod a 256 = a % 256 := Int.tmod_eq_emod_of_nonneg h.1
    have l1 := itoa_len (v := a / 256) (by omega) (by omega)
    have l2 := itoa_len (v := a % 256) (by omega) (by omega)
    rw [if_pos (decide_eq_true h), if_pos h, e1, e2, wrap_in (x := a / 256) (by omega) (by omega), itoa_i (by omega) (by omega), itoa_i (by omega) (by omega)]
    simp only [Option.bind_some]
    rw [if_pos (by rw [mkB_size]; omega), if_pos (by rw [join_size, mkB_size]; omega), join_mk]
  · rw [if_neg (by simpa using h), if_neg h]
    rfl
theorem addrT_s (a : Int) {k : Nat} (hk : 70001 ≤ k) : spec_NetAddrText.f k a = some (mkB (addrT a)) := by
  unfold spec_NetAddrText.f addrT
  rw [l1In_d, Option.bind_some]
  by_cases h : 0 ≤ a ∧ a ≤ 65535
  · have e1 : Int.tdiv a 256 = a / 256 := Int.tdiv_eq_ediv_of_nonneg h.1
    have e2 : Int.tmod a 256 = a % 256 := Int.tmod_eq_emod_of_nonneg h.1
    have l1 := itoa_len (v := a / 256) (by omega) (by omega)
    have l2 := itoa_len (v := a % 256) (by omega) (by omega)
    rw [if_pos (decide_eq_true h), if_pos h, e1, e2, wrap_in (x := a / 256) (by omega) (by omega), itoa_s (by omega) (by omega) hk, itoa_s (by omega) (by omega) hk]
    simp only [Option.bind_some]
    rw [if_pos (by rw [mkB_size]; omega), if_pos (by rw [join_size, mkB_size]; omega), join_mk]
  · rw [if_neg (by simpa using h), if_neg h]
    rfl
def preT (a n : Int) : List UInt8 := if okB a n = true then addrT a ++ 47 :: Lib.itoa n else []
theorem addrT_len (a : Int) : (addrT a).length ≤ 50 := by
  unfold addrT
  split
  · have l1 := itoa_len (v := a / 256) (by omega) (by omega)
    have l2 := itoa_len (v := a % 256) (by omega) (by omega)
    simp only [List.length_append, List.length_cons]
    omega
  · simp
theorem preT_i (a n : Int) : impl_NetText.f a n = some (mkB (preT a n)) := by
  unfold impl_NetText.f preT
  rw [ok_i, Option.bind_some]
  by_cases h : okB a n = true
  · have ho := okB_iff.1 h
    have l1 := addrT_len a
    have l2 := itoa_len (v := n) (by omega) (by omega)
    rw [if_pos h, if_pos h, addrT_i, Option.bind_some, if_pos (by rw [mkB_size]; omega), itoa_i (by omega) (by omega), Option.bind_some, if_pos (by rw [join_size, mkB_size]; omega), join_mk]
  · rw [if_neg h, if_neg h]
    rfl
theorem preT_s (a n : Int) {k : Nat} (hk : 70001 ≤ k) : spec_NetText.f k a n = some (mkB (preT a n)) := by
  unfold spec_NetText.f preT
  rw [ok_s (by omega), Option.bind_some]
  by_cases h : okB a n = true
  · have ho := okB_iff.1 h
    have l1 := addrT_len a
    have l2 := itoa_len (v := n) (by omega) (by omega)
    rw [if_pos h, if_pos h, addrT_s a hk, Option.bind_some, if_pos (by rw [mkB_size]; omega), itoa_s (by omega) (by omega) hk, Option.bind_some, if_pos (by rw [join_size, mkB_size]; omega), join_mk]
  · rw [if_neg h, if_neg h]
    rfl
end Go.Proofs.YtnakanjhdcakhaaDoor.Pure
namespace Go.Proofs.YtnakanjhdcakhaaDoor.Pure
open Q Go.RowKit Go.Proofs.YtnakanjhdcakhaaDoorW.PrintWords Go.Proofs.YtnakanjhdcakhaaDoorW.PrintMore
set_option linter.unusedSimpArgs false
set_option linter.unusedVariables false
theorem xor_pos {x y : Int} (hx : 0 ≤ x) (hx1 : x < 4611686018427387904) (hy : 0 ≤ y) (hy1 : y < 4611686018427387904) : 0 ≤ Go.bits .xor .i64 x y ∧ Go.bits .xor .i64 x y < 4611686018427387904 := by
  obtain ⟨a, rfl⟩ := Int.eq_ofNat_of_zero_le hx
  obtain ⟨b, rfl⟩ := Int.eq_ofNat_of_zero_le hy
  have ha : a < 2 ^ 62 := by omega
  have hb : b < 2 ^ 62 := by omega
  have hxor : a ^^^ b < 2 ^ 62 := Nat.xor_lt_two_pow ha hb
  have e : ((BitVec.ofInt 64 (a : Int)) ^^^ (BitVec.ofInt 64 (b : Int))).toNat = a ^^^ b := by
    rw [BitVec.toNat_xor, BitVec.toNat_ofInt, BitVec.toNat_ofInt]
    congr 1 <;> omega
  have main : Go.bits .xor .i64 (a : Int) (b : Int) = IntKind.i64.wrap ((((BitVec.ofInt 64 (a : Int)) ^^^ (BitVec.ofInt 64 (b : Int))).toNat : Nat) : Int) := rfl
  rw [main, e]
  have : IntKind.i64.wrap ((a ^^^ b : Nat) : Int) = ((a ^^^ b : Nat) : Int) := by
    simp [IntKind.wrap, IntKind.bits, IntKind.signed]
    omega
  rw [this]
  omega
def Bytes (b : List Int) : Prop := b.length ≤ 2000 ∧ ∀ x ∈ b, 0 ≤ x ∧ x ≤ 255
theorem rd_byte {b : List Int} (h : Bytes b) (i : Int) : 0 ≤ rd b i ∧ rd b i ≤ 255 := by
  unfold rd
  rw [List.getD_eq_getElem?_getD]
  cases hq : b[i.toNat]? with
  | none => simp
  | some x => simpa using h.2 x (List.mem_of_getElem? hq)
theorem tmod_range {a n : Int} (ha : 0 ≤ a) (hn : 0 < n) : 0 ≤ Int.tmod a n ∧ Int.tmod a n < n := ⟨Int.tmod_nonneg _ ha, Int.tmod_lt_of_pos _ hn⟩
theorem pick_s {b : List Int} (h : Bytes b) {p n : Int} (hp : 0 ≤ p) (hp1 : p ≤ 1000000000000) (hn : 1 ≤ n) {k : Nat} (hk : 0 < k) : ∃ v, spec_l1Rd_pick.f k b p n = some (v, p + 1) ∧ 0 ≤ v ∧ v < n := by
  obtain ⟨k, rfl⟩ : ∃ m, k = m + 1 := ⟨k - 1, by omega⟩
  have hl := h.1
  unfold spec_l1Rd_pick.f
  rw [if_neg (by omega)]
  simp only [spec_l1Rd_pick.j0]
  rw [wrap_in (x := p + 1) (by omega) (by omega), wrap_in (x := p + 1 - 1) (by omega) (by omega), show p + 1 - 1 = p by omega]
  by_cases h0 : (b.length : Int) = 0
  · rw [if_pos (by simp [h0])]
    exact ⟨0, rfl, Int.le_refl _, by omega⟩
  · rw [if_neg (by simpa using h0)]
    by_cases hlt : p < (b.length : Int)
    · have hb := rd_byte h p
      rw [if_pos hlt, if_pos hp, if_neg (by omega), wrap_in (x := rd b p) (by omega) (by omega)]
      exact ⟨_, rfl, tmod_range hb.1 (by omega)⟩
    · rw [if_neg hlt, if_neg h0]
      have r1 := tmod_range hp (show 0 < (b.length : Int) by omega)
      have w7 : wrap64 (p * 7) = p * 7 := wrap_in (by omega) (by omega)
      have w73 : wrap64 (p * 7 + 3) = p * 7 + 3 := wrap_in (by omega) (by omega)
      have r2 := tmod_range (show 0 ≤ p * 7 + 3 by omega) (show 0 < (b.length : Int) by omega)
      rw [if_pos r1.1, if_pos r1.2, w7, w73, if_pos r2.1, if_pos r2.2, if_neg (by omega)]
      have b1 := rd_byte h (Int.tmod p (b.length : Int))
      have b2 := rd_byte h (Int.tmod (p * 7 + 3) (b.length : Int))
      generalize rd b (Int.tmod p (b.length : Int)) = x at b1 ⊢
      generalize rd b (Int.tmod (p * 7 + 3) (b.length : Int)) = y at b2 ⊢
      have hd : 0 ≤ Int.tdiv p (b.length : Int) ∧ Int.tdiv p (b.length : Int) ≤ p := ⟨Int.tdiv_nonneg hp (by omega), Int.tdiv_le_self _ hp⟩
      generalize Int.tdiv p (b.length : Int) = q at hd ⊢
      rw [wrap_in (x := x) (by omega) (by omega), wrap_in (x := y) (by omega) (by omega), wrap_in (x := x * 131) (by omega) (by omega), wrap_in (x := y * 1117) (by omega) (by omega), wrap_in (x := q) (by omega) (by omega), wrap_in (x := p * 29) (by omega) (by omega), wrap_in (x := q * 53) (by omega) (by omega), wrap_in (x := x * 131 + y * 1117) (by omega) (by omega), wrap_in (x := x * 131 + y * 1117 + p * 29) (by omega) (by omega), wrap_in (x := x * 131 + y * 1117 + p * 29 + q * 53) (by omega) (by omega)]
      have hz : 0 ≤ x * 131 + y * 1117 + p * 29 + q * 53 ∧ x * 131 + y * 1117 + p * 29 + q * 53 < 4611686018427387904 := by omega
      generalize x * 131 + y * 1117 + p * 29 + q * 53 = z at hz ⊢
      have h64 : 0 ≤ Int.tdiv z 64 ∧ Int.tdiv z 64 ≤ z := ⟨Int.tdiv_nonneg hz.1 (by omega), Int.tdiv_le_self _ hz.1⟩
      rw [wrap_in (x := Int.tdiv z 64) (by omega) (by omega)]
      have hx := xor_pos hz.1 hz.2 h64.1 (show Int.tdiv z 64 < 4611686018427387904 by omega)
      exact ⟨_, rfl, tmod_range hx.1 (by omega)⟩
theorem five {i : Int} (h0 : 0 ≤ i) (h1 : i < 5) (x0 x1 x2 x3 x4 : Int) (P : Int → Prop) (p0 : P x0) (p1 : P x1) (p2 : P x2) (p3 : P x3) (p4 : P x4) : P (rd [x0, x1, x2, x3, x4] i) := by
  have : i = 0 ∨ i = 1 ∨ i = 2 ∨ i = 3 ∨ i = 4 := by omega
  rcases this with rfl | rfl | rfl | rfl | rfl
  · exact p0
  · exact p1
  · exact p2
  · exact p3
  · exact p4
theorem prefix_j {b : List Int} (h : Bytes b) {p n : Int} (hp : 0 ≤ p) (hp1 : p ≤ 900000000000) (hn0 : 0 ≤ n) (hn1 : n ≤ 16) {k : Nat} (hk : 30 ≤ k) : ∃ a, spec_l5Prefix.j0 k n b p = some (a, n, p + 6) ∧ okB a n = true := by
  obtain ⟨k, rfl⟩ : ∃ m, k = m + 1 := ⟨k - 1, by omega⟩
  obtain ⟨v1, e1, l1, u1⟩ := pick_s h (p := p) (n := 65536) (by omega) (by omega) (by omega) (k := k) (by omega)
  obtain ⟨v2, e2, l2, u2⟩ := pick_s h (p := p + 1) (n := 4) (by omega) (by omega) (by omega) (k := k) (by omega)
  obtain ⟨v3, e3, l3, u3⟩ := pick_s h (p := p + 1 + 1) (n := 9) (by omega) (by omega) (by omega) (k := k) (by omega)
  obtain ⟨v4, e4, l4, u4⟩ := pick_s h (p := p + 1 + 1 + 1) (n := 16) (by omega) (by omega) (by omega) (k := k) (by omega)
  obtain ⟨v5, e5, l5, u5⟩ := pick_s h (p := p + 1 + 1 + 1 + 1) (n := 16) (by omega) (by omega) (by omega) (k := k) (by omega)
  obtain ⟨v6, e6, l6, u6⟩ := pick_s h (p := p + 1 + 1 + 1 + 1 + 1) (n := 5) (by omega) (by omega) (by omega) (k := k) (by omega)
  simp only [spec_l5Prefix.j0, e1, e2, e3, e4, e5, e6, Option.bind_some]
  have hz := sz_pos n
  have hr : 0 ≤ rd [v1, wrap64 (256 * v2), wrap64 (65535 - v3), v4, wrap64 (4656 + v5)] v6 ∧ rd [v1, wrap64 (256 * v2), wrap64 (65535 - v3), v4, wrap64 (4656 + v5)] v6 ≤ 65535 := by
    refine five (P := fun x => 0 ≤ x ∧ x ≤ 65535) l6 u6 _ _ _ _ _ (by omega) ?_ ?_ (by omega) ?_
    · rw [wrap_in (by omega) (by omega)]; omega
    · rw [wrap_in (by omega) (by omega)]; omega
    · rw [wrap_in (by omega) (by omega)]; omega
  rw [if_pos l6, if_pos (by simpa using u6), size_s hn0 hn1 (by omega)]
  simp only [Option.bind_some]
  rw [if_neg (by omega)]
  generalize rd [v1, wrap64 (256 * v2), wrap64 (65535 - v3), v4, wrap64 (4656 + v5)] v6 = a at hr ⊢
  have hm : Int.tmod a (sz n) = a % sz n := Int.tmod_eq_emod_of_nonneg hr.1
  have h0 := Int.emod_nonneg a (show sz n ≠ 0 by omega)
  have h1 := Int.emod_lt_of_pos a (show 0 < sz n by omega)
  have h2 : a % sz n ≤ a := by
    have := Int.mul_ediv_add_emod a (sz n)
    have := Int.mul_nonneg (show 0 ≤ sz n by omega) (Int.ediv_nonneg hr.1 (show 0 ≤ sz n by omega))
    omega
  rw [hm, wrap_in (by omega) (by omega)]
  refine ⟨a - a % sz n, by simp; omega, okB_iff.2 ⟨hn0, hn1, by omega, by omega, ?_⟩⟩
  have := Int.mul_ediv_add_emod a (sz n)
  rw [show a - a % sz n = sz n * (a / sz n) by omega]
  exact Int.mul_emod_right _ _
theorem six {i : Int} (h0 : 0 ≤ i) (h1 : i < 6) (x0 x1 x2 x3 x4 x5 : Int) (P : Int → Prop) (p0 : P x0) (p1 : P x1) (p2 : P x2) (p3 : P x3) (p4 : P x4) (p5 : P x5) : P (rd [x0, x1, x2, x3, x4, x5] i) := by
  have : i = 0 ∨ i = 1 ∨ i = 2 ∨ i = 3 ∨ i = 4 ∨ i = 5 := by omega
  rcases this with rfl | rfl | rfl | rfl | rfl | rfl
  · exact p0
  · exact p1
  · exact p2
  · exact p3
  · exact p4
  · exact p5
theorem prefix_s {b : List Int} (h : Bytes b) {p : Int} (hp : 0 ≤ p) (hp1 : p ≤ 800000000000) {k : Nat} (hk : 30 ≤ k) : ∃ a n q, spec_l5Prefix.f k b p = some (a, n, q) ∧ okB a n = true ∧ p ≤ q ∧ q ≤ p + 9 := by
  obtain ⟨v1, e1, l1, u1⟩ := pick_s h (p := p) (n := 17) (by omega) (by omega) (by omega) (k := k) (by omega)
  obtain ⟨v2, e2, l2, u2⟩ := pick_s h (p := p + 1) (n := 3) (by omega) (by omega) (by omega) (k := k) (by omega)
  obtain ⟨v3, e3, l3, u3⟩ := pick_s h (p := p + 1 + 1) (n := 6) (by omega) (by omega) (by omega) (k := k) (by omega)
  unfold spec_l5Prefix.f
  simp only [e1, e2, e3, Option.bind_some]
  by_cases h0 : v2 = 0
  · have hr : 0 ≤ rd [0, 1, 2, 8, 15, 16] v3 ∧ rd [0, 1, 2, 8, 15, 16] v3 ≤ 16 := six (P := fun x => 0 ≤ x ∧ x ≤ 16) l3 u3 _ _ _ _ _ _ (by omega) (by omega) (by omega) (by omega) (by omega) (by omega)
    rw [if_pos h0, if_pos l3, if_pos (by simpa using u3)]
    obtain ⟨a, e, ok⟩ := prefix_j h (p := p + 1 + 1 + 1) (by omega) (by omega) hr.1 hr.2 hk
    exact ⟨a, _, _, e, ok, by omega, by omega⟩
  · rw [if_neg h0]
    obtain ⟨a, e, ok⟩ := prefix_j h (p := p + 1 + 1) (by omega) (by omega) l1 (show v1 ≤ 16 by omega) hk
    exact ⟨a, _, _, e, ok, by omega, by omega⟩
theorem spoil_s {b : List Int} (h : Bytes b) {p : Int} (hp : 0 ≤ p) (hp1 : p ≤ 800000000000) (a n : Int) {k : Nat} (hk : 0 < k) : ∃ a' n' q, spec_l5Spoil.f k b p a n = some (a', n', q) ∧ p ≤ q ∧ q ≤ p + 2 := by
  obtain ⟨v1, e1, l1, u1⟩ := pick_s h (p := p) (n := 4) (by omega) (by omega) (by omega) (k := k) (by omega)
  obtain ⟨v2, e2, l2, u2⟩ := pick_s h (p := p + 1) (n := 4) (by omega) (by omega) (by omega) (k := k) (by omega)
  unfold spec_l5Spoil.f
  simp only [e1, e2, Option.bind_some]
  by_cases h0 : v1 = 0
  · rw [if_pos h0, if_pos l2, if_pos (by simpa using u2)]
    exact ⟨_, _, _, rfl, by omega, by omega⟩
  · rw [if_neg h0]
    by_cases h1 : v1 = 1
    · rw [if_pos h1]
      exact ⟨_, _, _, rfl, by omega, by omega⟩
    · rw [if_neg h1]
      by_cases h2 : v1 = 2
      · rw [if_pos h2, if_pos l2, if_pos (by simpa using u2)]
        exact ⟨_, _, _, rfl, by omega, by omega⟩
      · rw [if_neg h2]
        exact ⟨_, _, _, rfl, by omega, by omega⟩
theorem open_s {l : List Int} (h : ∀ x ∈ l, 0 ≤ x ∧ x ≤ 255) : ∃ b, spec_l1Open.f l = some (b, 0) ∧ Bytes b := by
  unfold spec_l1Open.f
  by_cases hc : (l.length : Int) > 2000
  · rw [if_pos hc, if_pos (by omega)]
    exact ⟨_, rfl, by rw [List.length_take]; omega, fun x hx => h x (List.mem_of_mem_take hx)⟩
  · rw [if_neg hc]
    exact ⟨_, rfl, by omega, h⟩
theorem of_s {b : List Int} (hb : Bytes b) {p : Int} (hp : 0 ≤ p) (hp1 : p ≤ 1000000) (ts : List ByteArray) (ht : 1 ≤ ts.length) (hts : ts.length ≤ 100) (hsz : ∀ t ∈ ts, t.size ≤ 100) {k : Nat} (hk : 0 < k) : ∃ t q, spec_l1Rd_of.f k b p ts = some (t, q) ∧ t.size ≤ 100 := by
  obtain ⟨v, e, l, u⟩ := pick_s hb (p := p) (n := (ts.length : Int)) hp (by omega) (by omega) hk
  obtain ⟨n, rfl⟩ := Int.eq_ofNat_of_zero_le l
  have hn : n < ts.length := by omega
  unfold spec_l1Rd_of.f
  rw [e, Option.bind_some, if_pos (by dsimp only; omega), if_pos (by dsimp only; omega)]
  refine ⟨_, _, rfl, hsz _ ?_⟩
  have e2 : rdOf ByteArray.empty ts ((n : Nat) : Int) = ts[n] := by simp [rdOf, List.getD_eq_getElem?_getD, hn]
  rw [e2]
  exact List.getElem_mem hn
theorem drawParse_s {l : List Int} (h : ∀ x ∈ l, 0 ≤ x ∧ x ≤ 255) {k : Nat} (hk : 70001 ≤ k) : ∃ t, spec_DrawNetParse.f k l = some t ∧ t.size ≤ 1000 := by
  obtain ⟨b, e, hb⟩ := open_s h
  obtain ⟨a, n, q, f1, o1, g1, g1'⟩ := prefix_s hb (p := 0) (by omega) (by omega) (k := k) (by omega)
  obtain ⟨v1, e1, l1, u1⟩ := pick_s hb (p := q) (n := 5) (by omega) (by omega) (by omega) (k := k) (by omega)
  have hts : (mkB (preT a n)).size ≤ 100 := by
    have h1 := addrT_len a
    rw [mkB_size]
    unfold preT
    rw [if_pos o1]
    have ho := okB_iff.1 o1
    have h2 := itoa_len (v := n) (by omega) (by omega)
    simp only [List.length_append, List.length_cons]
    omega
  unfold spec_DrawNetParse.f
  rw [e, Option.bind_some, f1, Option.bind_some, preT_s a n hk, Option.bind_some, e1, Option.bind_some]
  generalize mkB (preT a n) = t at hts ⊢
  by_cases c0 : v1 = 0
  · obtain ⟨t', q', e2, g2⟩ := of_s hb (p := q + 1) (by omega) (by omega) [(⟨#[]⟩ : ByteArray), (⟨#[47]⟩ : ByteArray), (⟨#[48, 46, 48]⟩ : ByteArray), (⟨#[48, 46, 48, 47]⟩ : ByteArray), (⟨#[47, 48]⟩ : ByteArray), (⟨#[48, 46, 48, 47, 49, 55]⟩ : ByteArray), (⟨#[48, 46, 49, 47, 49, 53]⟩ : ByteArray), (⟨#[49, 46, 50, 47, 49, 54, 47]⟩ : ByteArray), (⟨#[48, 46, 48, 47, 48, 48]⟩ : ByteArray), (⟨#[48, 46, 48, 47, 45, 49]⟩ : ByteArray), (⟨#[49, 46, 48, 47, 55]⟩ : ByteArray), (⟨#[50, 53, 54, 46, 48, 47, 49, 54]⟩ : ByteArray), (⟨#[32, 48, 46, 48, 47, 48]⟩ : ByteArray)] (by decide) (by decide) (by decide) (k := k) (by omega)
    rw [if_pos c0, e2, Option.bind_some]
    exact ⟨_, rfl, by dsimp only; omega⟩
  · rw [if_neg c0]
    by_cases c1 : v1 = 1
    · obtain ⟨v2, e2, l2, u2⟩ := pick_s hb (p := q + 1) (n := (t.size : Int) + 1) (by omega) (by omega) (by omega) (k := k) (by omega)
      obtain ⟨t', q', e3, g3⟩ := of_s hb (p := q + 1 + 1) (by omega) (by omega) [(⟨#[48]⟩ : ByteArray), (⟨#[49]⟩ : ByteArray), (⟨#[46]⟩ : ByteArray), (⟨#[47]⟩ : ByteArray), (⟨#[32]⟩ : ByteArray), (⟨#[120]⟩ : ByteArray)] (by decide) (by decide) (by decide) (k := k) (by omega)
      have h1 : (t.extract 0 (v2 : Int).toNat).size ≤ 100 := by rw [ByteArray.size_extract]; omega
      have h2 : (t.extract (v2 : Int).toNat t.size).size ≤ 100 := by rw [ByteArray.size_extract]; omega
      rw [if_pos c1, wrap_in (x := (t.size : Int) + 1) (by omega) (by omega), e2, Option.bind_some, if_pos l2, if_pos (by dsimp only; omega), e3, Option.bind_some, if_pos (by dsimp only; omega), if_pos (by rw [ByteArray.size_append]; dsimp only; omega)]
      refine ⟨_, rfl, ?_⟩
      rw [ByteArray.size_append, ByteArray.size_append]
      dsimp only
      omega
    · rw [if_neg c1]
      exact ⟨_, rfl, by omega⟩
theorem drawText_s {l : List Int} (h : ∀ x ∈ l, 0 ≤ x ∧ x ≤ 255) {k : Nat} (hk : 100 ≤ k) : ∃ a n, spec_DrawNetText.f k l = some (a, n) := by
  obtain ⟨b, e, hb⟩ := open_s h
  obtain ⟨a, n, q, f1, o1, g1, g1'⟩ := prefix_s hb (p := 0) (by omega) (by omega) (k := k) (by omega)
  obtain ⟨v1, e1, l1, u1⟩ := pick_s hb (p := q) (n := 24) (by omega) (by omega) (by omega) (k := k) (by omega)
  unfold spec_DrawNetText.f spec_l5Any.f
  rw [e, Option.bind_some]
  simp only []
  rw [f1, Option.bind_some, e1, Option.bind_some]
  by_cases c0 : v1 = 0
  · obtain ⟨a', n', q', e2, _, _⟩ := spoil_s hb (p := q + 1) (by omega) (by omega) a n (k := k) (by omega)
    rw [if_pos c0, e2]
    exact ⟨_, _, rfl⟩
  · rw [if_neg c0]
    exact ⟨_, _, rfl⟩
theorem drawAddrText_s {l : List Int} (h : ∀ x ∈ l, 0 ≤ x ∧ x ≤ 255) {k : Nat} (hk : 100 ≤ k) : ∃ a, spec_DrawNetAddrText.f k l = some a := by
  obtain ⟨b, e, hb⟩ := open_s h
  obtain ⟨v1, e1, l1, u1⟩ := pick_s hb (p := 0) (n := 65536) (by omega) (by omega) (by omega) (k := k) (by omega)
  obtain ⟨v2, e2, l2, u2⟩ := pick_s hb (p := 0 + 1) (n := 6) (by omega) (by omega) (by omega) (k := k) (by omega)
  unfold spec_DrawNetAddrText.f
  rw [e, Option.bind_some, e1, Option.bind_some, Option.bind_some, e2, Option.bind_some, if_pos l2, if_pos (by simpa using u2)]
  exact ⟨_, rfl⟩
theorem drawAddr_s {l : List Int} (h : ∀ x ∈ l, 0 ≤ x ∧ x ≤ 255) {k : Nat} (hk : 70001 ≤ k) : ∃ t, spec_DrawNetAddr.f k l = some t ∧ t.size ≤ 1000 := by
  obtain ⟨b, e, hb⟩ := open_s h
  obtain ⟨v1, e1, l1, u1⟩ := pick_s hb (p := 0) (n := 3) (by omega) (by omega) (by omega) (k := k) (by omega)
  unfold spec_DrawNetAddr.f
  rw [e, Option.bind_some, e1, Option.bind_some]
  by_cases c0 : v1 = 0
  · obtain ⟨t', q', e2, g2⟩ := of_s hb (p := 0 + 1) (by omega) (by omega) [(⟨#[]⟩ : ByteArray), (⟨#[46]⟩ : ByteArray), (⟨#[49, 46]⟩ : ByteArray), (⟨#[46, 49]⟩ : ByteArray), (⟨#[50, 53, 54, 46, 48]⟩ : ByteArray), (⟨#[48, 46, 50, 53, 54]⟩ : ByteArray), (⟨#[48, 49, 46, 50]⟩ : ByteArray), (⟨#[49, 46, 50, 46, 51]⟩ : ByteArray), (⟨#[49]⟩ : ByteArray), (⟨#[45, 49, 46, 50]⟩ : ByteArray), (⟨#[49, 46, 50, 32]⟩ : ByteArray), (⟨#[57, 57, 57, 57, 57, 46, 49]⟩ : ByteArray), (⟨#[48, 46, 48]⟩ : ByteArray), (⟨#[50, 53, 53, 46, 50, 53, 53]⟩ : ByteArray), (⟨#[49, 46, 48, 48]⟩ : ByteArray)] (by decide) (by decide) (by decide) (k := k) (by omega)
    rw [if_pos c0, e2, Option.bind_some]
    exact ⟨_, rfl, by dsimp only; omega⟩
  · obtain ⟨v2, e2, l2, u2⟩ := pick_s hb (p := 0 + 1) (n := 65536) (by omega) (by omega) (by omega) (k := k) (by omega)
    have h1 := addrT_len v2
    rw [if_neg c0, e2, Option.bind_some, addrT_s v2 hk, Option.bind_some]
    exact ⟨_, rfl, by rw [mkB_size]; omega⟩
end Go.Proofs.YtnakanjhdcakhaaDoor.Pure
namespace Go.Proofs.YtnakanjhdcakhaaDoor.Pure
open Q Go.RowKit Go.Proofs.YtnakanjhdcakhaaDoorW.PrintWords Go.Proofs.YtnakanjhdcakhaaDoorW.PrintMore
set_option linter.unusedSimpArgs false
set_option linter.unusedVariables false
theorem dd_plain : ∀ v : Fin 256, (46 : UInt8) ∉ dd v.val ∧ (47 : UInt8) ∉ dd v.val := by decide +kernel
theorem cut_true {l : List UInt8} {c : UInt8} (h : (Lib.cut l [c]).2.2 = true) : ∃ A B, l = A ++ c :: B ∧ c ∉ A ∧ Lib.cut l [c] = (A, B, true) := by
  by_cases hm : c ∈ l
  · obtain ⟨A, B, e, hA⟩ := List.eq_append_cons_of_mem hm
    exact ⟨A, B, e, hA, by rw [e, cut_hit hA]⟩
  · rw [cut_miss hm] at h
    simp at h
theorem itoa_num {v : Int} (h0 : 0 ≤ v) (h1 : v ≤ 255) : numS (Lib.itoa v) = v ∧ (46 : UInt8) ∉ Lib.itoa v ∧ (47 : UInt8) ∉ Lib.itoa v := by
  obtain ⟨n, rfl⟩ := Int.eq_ofNat_of_zero_le h0
  have hn : n < 256 := by omega
  rw [itoa_dd h0 (by omega)]
  exact ⟨dd_num ⟨n, hn⟩, (dd_plain ⟨n, hn⟩).1, (dd_plain ⟨n, hn⟩).2⟩
theorem num_itoa {l : List UInt8} (h0 : 0 ≤ numS l) (h1 : numS l ≤ 255) : Lib.itoa (numS l) = l := by
  obtain ⟨n, hn⟩ := Int.eq_ofNat_of_zero_le h0
  rw [itoa_dd h0 (by omega), hn]
  exact (num_dd hn (by omega)).symm
theorem addr_of {a : Int} (h0 : 0 ≤ a) (h1 : a ≤ 65535) : addrP (addrT a) = a := by
  obtain ⟨n1, p1, _⟩ := itoa_num (v := a / 256) (by omega) (by omega)
  obtain ⟨n2, _, _⟩ := itoa_num (v := a % 256) (by omega) (by omega)
  have e : addrT a = Lib.itoa (a / 256) ++ 46 :: Lib.itoa (a % 256) := by
    unfold addrT
    rw [if_pos ⟨h0, h1⟩]
  rw [e]
  unfold addrP
  rw [cut_hit p1]
  simp only [n1, n2]
  rw [if_pos ⟨trivial, by omega, by omega⟩]
  omega
theorem addr_back {l : List UInt8} (h : 0 ≤ addrP l) : addrT (addrP l) = l := by
  unfold addrP at h ⊢
  simp only [] at h ⊢
  split at h
  · rename_i hc
    obtain ⟨A, B, e, hA, ec⟩ := cut_true hc.1
    rw [ec] at hc ⊢
    obtain ⟨hc1, hc2⟩ := hc.2
    simp only at hc1 hc2
    have i1 := num_itoa hc1.1 hc1.2
    have i2 := num_itoa hc2.1 hc2.2
    simp only [hc1, hc2, and_self, if_true]
    unfold addrT
    rw [if_pos (by omega), show (256 * numS A + numS B) / 256 = numS A by omega, show (256 * numS A + numS B) % 256 = numS B by omega, i1, i2, e]
  · omega
theorem pre_of {a n : Int} : parseP (preT a n) = if okB a n = true then (a, n, true) else (0, 0, false) := by
  by_cases ho : okB a n = true
  · have h := okB_iff.1 ho
    obtain ⟨n1, _, p1⟩ := itoa_num (v := a / 256) (by omega) (by omega)
    obtain ⟨n2, _, p2⟩ := itoa_num (v := a % 256) (by omega) (by omega)
    obtain ⟨n3, _, _⟩ := itoa_num (v := n) (by omega) (by omega)
    have hp : (47 : UInt8) ∉ addrT a := by
      unfold addrT
      rw [if_pos (by omega)]
      intro hm
      rcases List.mem_append.1 hm with hm | hm
      · exact p1 hm
      · rcases List.mem_cons.1 hm with hm | hm
        · exact absurd hm (by decide)
        · exact p2 hm
    unfold parseP preT
    rw [if_pos ho, cut_hit hp]
    simp only [addr_of h.2.2.1 h.2.2.2.1, n3]
    rw [if_pos ⟨trivial, ho⟩, if_pos ho]
  · unfold preT
    rw [if_neg ho, if_neg ho]
    decide +kernel
theorem pre_back {l : List UInt8} (h : (parseP l).2.2 = true) : okB (parseP l).1 (parseP l).2.1 = true ∧ preT (parseP l).1 (parseP l).2.1 = l := by
  unfold parseP at h ⊢
  simp only [] at h ⊢
  split at h
  · rename_i hc
    obtain ⟨A, B, e, hA, ec⟩ := cut_true hc.1
    rw [ec] at hc ⊢
    have ho := hc.2
    simp only at ho
    have h5 := okB_iff.1 ho
    have b1 := addr_back h5.2.2.1
    have b2 := num_itoa (l := B) h5.1 (by omega)
    simp only [ho, and_self, if_true, true_and]
    unfold preT
    rw [if_pos ho, b1, b2, e]
  · simp at h
theorem textlaw_j2 {l0 l1 : List Int} (h0 : ∀ x ∈ l0, 0 ≤ x ∧ x ≤ 255) (h1 : ∀ x ∈ l1, 0 ≤ x ∧ x ≤ 255) {k : Nat} (hk : 100000 ≤ k) : laws_FnNetText.j2 k l0 l1 false = some true := by
  obtain ⟨k, rfl⟩ : ∃ m, k = m + 1 := ⟨k - 1, by omega⟩
  obtain ⟨a, e1⟩ := drawAddrText_s h0 (k := k) (by omega)
  obtain ⟨u, e2, hu⟩ := drawAddr_s h1 (k := k) (by omega)
  have hu' : u.data.toList.length ≤ 1000 := by rw [← size_nat]; exact hu
  have hal := addrT_len a
  simp only [laws_FnNetText.j2, Bool.false_eq_true, if_false]
  rw [e1, Option.bind_some, addrT_i, Option.bind_some, e2, Option.bind_some, addr_i u (by omega), Option.bind_some, addrT_s a (by omega), Option.bind_some, if_pos rfl, addr_s u (by omega) (by omega), Option.bind_some, if_pos rfl, addr_i (mkB (addrT a)) (by rw [mkB_list]; omega), mkB_list, addrT_i]
  simp only [Option.bind_some]
  have hback : 0 ≤ addrP u.data.toList → (some ((mkB (addrT (addrP u.data.toList))).toList == u.toList) : Option Bool) = some true := fun h => by
    rw [addr_back h, mkB_of, beq_self_eq_true]
  have fin : (if addrP u.data.toList < 0 then some true else some ((mkB (addrT (addrP u.data.toList))).toList == u.toList) : Option Bool) = some true := by
    by_cases h : addrP u.data.toList < 0
    · rw [if_pos h]
    · rw [if_neg h, hback (by omega)]
  rw [fin]
  by_cases c0 : a < 0
  · rw [if_pos c0]
  · rw [if_neg c0]
    by_cases c1 : a > 65535
    · rw [if_pos c1]
    · rw [if_neg c1, addr_of (by omega) (by omega), if_pos rfl]
theorem textlaw_j1 {l0 l1 : List Int} (h0 : ∀ x ∈ l0, 0 ≤ x ∧ x ≤ 255) (h1 : ∀ x ∈ l1, 0 ≤ x ∧ x ≤ 255) {k : Nat} (hk : 100001 ≤ k) : laws_FnNetText.j1 k l0 l1 false = some true := by
  obtain ⟨k, rfl⟩ : ∃ m, k = m + 1 := ⟨k - 1, by omega⟩
  obtain ⟨a, n, e1⟩ := drawText_s h1 (k := k) (by omega)
  have hl : (preT a n).length ≤ 100 := by
    have := addrT_len a
    unfold preT
    split
    · rename_i ho
      have h := okB_iff.1 ho
      have := itoa_len (v := n) (by omega) (by omega)
      simp only [List.length_append, List.length_cons]
      omega
    · simp
  simp only [laws_FnNetText.j1, Bool.false_eq_true, if_false]
  rw [e1, Option.bind_some]
  simp only []
  rw [preT_i, Option.bind_some, parse_i (mkB (preT a n)) (by rw [mkB_list]; omega), mkB_list, Option.bind_some, preT_s a n (by omega), Option.bind_some, if_pos rfl, ok_s (by omega), Option.bind_some, pre_of]
  have hj := textlaw_j2 h0 h1 (k := k) (by omega)
  cases ho : okB a n with
  | true => simpa using hj
  | false => simpa using hj
theorem FnNetText (l0 : List Int) (hl : l0.length ≤ maxLen) (h0 : ∀ x ∈ l0, 0 ≤ x ∧ x ≤ 255) (l1 : List Int) (hl1 : l1.length ≤ maxLen) (h1 : ∀ x ∈ l1, 0 ≤ x ∧ x ≤ 255) : ∃ k, laws_FnNetText.f k l0 l1 = some true := by
  obtain ⟨k, hk⟩ : ∃ k, k = 200000 := ⟨_, rfl⟩
  refine ⟨k + 1, ?_⟩
  unfold laws_FnNetText.f
  by_cases hc : (l0.length : Int) > 1048576
  · rw [if_pos hc]
    simp only [laws_FnNetText.j0, if_true]
  · rw [if_neg hc]
    by_cases hc1 : (l1.length : Int) > 1048576
    · rw [decide_eq_true hc1]
      simp only [laws_FnNetText.j0, if_true]
    · rw [decide_eq_false hc1]
      obtain ⟨t, e1, ht⟩ := drawParse_s h0 (k := k) (by omega)
      have ht' : t.data.toList.length ≤ 1000 := by rw [← size_nat]; exact ht
      have hj := textlaw_j1 h0 h1 (k := k) (by omega)
      simp only [laws_FnNetText.j0, Bool.false_eq_true, if_false]
      rw [e1, Option.bind_some, parse_i t (by omega), Option.bind_some, parse_s t (by omega) (by omega), Option.bind_some]
      simp only [beq_self_eq_true, Bool.not_true, Bool.or_self, Bool.false_eq_true, if_false, bne_self_eq_false]
      by_cases hb : (parseP t.data.toList).2.2 = true
      · obtain ⟨g1, g2⟩ := pre_back hb
        rw [if_pos hb, ok_i, g1, Option.bind_some, if_pos rfl, preT_i, g2, mkB_of, Option.bind_some, bne_self_eq_false]
        exact hj
      · rw [if_neg hb]
        exact hj
end Go.Proofs.YtnakanjhdcakhaaDoor.Pure
namespace Go.Proofs.YtnakanjhdcakhaaDoor
open Go.ChangeShapes Go.WideShapes Go.ChangeAt Go.RowKit Go.Deep
open Go.Proofs.YtnakanjhdcakhaaDoorW.PrintWords
open Q
section
variable {H : Type} {enc : TypeId × Value → H} {w : World} {base : Nat} {spare : Nat → Bool} {held : Bool}
structure Byte where
  val : Int
  le : 0 ≤ val ∧ val ≤ 255
def kB : Kd Byte := Kd.iso (Kd.int .u8) (fun x : Byte => x.val)
theorem cellsOf5 : Tryd.prog.cellsOf 5 = 1 := by kernel_rfl
theorem choose_list {α : Type} (Q : Nat → α → Prop) : ∀ n : Nat, (∀ i, i < n → ∃ x, Q i x) → ∃ l : List α, l.length = n ∧ ∀ (i : Nat) (p : α), l[i]? = some p → Q i p
  | 0, _ => ⟨[], rfl, fun i p h => by simp at h⟩
  | n + 1, h => by
    obtain ⟨l, hl, hq⟩ := choose_list Q n (fun i hi => h i (by omega))
    obtain ⟨x, hx⟩ := h n (by omega)
    refine ⟨l ++ [x], by simp [hl], fun i p hp => ?_⟩
    rcases Nat.lt_or_ge i n with hi | hi
    · rw [List.getElem?_append_left (by omega)] at hp
      exact hq i p hp
    · rw [List.getElem?_append_right (by omega)] at hp
      have : i = n := by
        rcases Nat.lt_or_ge (i - l.length) 1 with h1 | h1
        · omega
        · rw [List.getElem?_eq_none (by simpa using h1)] at hp
          cases hp
      subst this
      simp [hl] at hp
      exact hp ▸ hx
/-- A slice whose elements read so: as the printed functions take it. -/
theorem open_row {α : Type} {d : Kd α} {t e : TypeId} {a : Option Addr} {len cap : Nat} {D : DataW H} {p : List MemPlace} (ht : Tryd.prog.underlying t = some (.slice e)) (hc : Tryd.prog.cellsOf e = d.sz)
    (hel : ∀ (n : Nat) (cs : List Value) (y : DataW H × List MemPlace), DataW.trod enc Tryd.prog w 0 (fun _ => true) held n e cs = some y → ∃ x : α, d.K w x cs)
    (h : DataW.Trod enc Tryd.prog w 0 (fun _ => true) held t (.slice a len cap) D p) : ∃ l : List α, l.length = len ∧ len ≤ cap ∧ cap ≤ maxLen ∧ Kd.C d w a len l := by
  obtain ⟨fuel, hf⟩ := h
  rcases open_slice ht hf with ⟨hcs, _⟩ | ⟨a0, len0, cap0, m, n, D0, Pl, hcs, _, hl, hm, hmm, _, hi⟩
  · simp [Value.cells] at hcs
    obtain ⟨rfl, rfl, rfl⟩ := hcs
    exact ⟨[], rfl, Nat.le_refl _, Nat.zero_le _, rfl, by omega, fun h => absurd h (Nat.lt_irrefl _)⟩
  · simp [Value.cells] at hcs
    obtain ⟨rfl, rfl, rfl⟩ := hcs
    simp only [if_true] at hmm
    obtain ⟨l, hll, hlq⟩ := choose_list (fun i (x : α) => ∃ c : List Value, c.length = d.sz ∧ d.K w x c ∧ ∀ i' u, c[i']? = some u → w.cell? (a0.add (i * d.sz + i')) = some u) len (fun i hlt => by
      obtain ⟨cs', hcc, hy⟩ := hi i (by omega)
      obtain ⟨x, hx⟩ := hel _ _ _ hy
      obtain ⟨_, hcl, hat⟩ := World.cells?_some hcc
      rw [hc] at hcl hat
      refine ⟨x, cs', hcl, hx, fun i' u hu => ?_⟩
      have hlt' : i' < cs'.length := (List.getElem?_eq_some_iff.1 hu).1
      rw [← Go.Deep.add_add]
      exact (hat i' (by omega)).trans hu)
    unfold maxLen at hm
    exact ⟨l, hll, hl, by unfold maxLen; exact hm, hll, by omega, fun _ => ⟨a0, rfl, hlq⟩⟩
theorem byte_of {n : Nat} {cs : List Value} {y : DataW H × List MemPlace} (h : DataW.trod enc Tryd.prog w base spare held n 5 cs = some y) : ∃ x : Byte, kB.K w x cs := by
  obtain ⟨x, rfl, _, hw⟩ := DataW.trod_int Tryd.underlying5 h
  have hb : 0 ≤ x ∧ x ≤ 255 := by
    simp [Lit.wf, IntKind.min, IntKind.max, IntKind.signed, IntKind.bits] at hw
    omega
  exact ⟨⟨x, hb⟩, rfl⟩
theorem open_bytes {a : Option Addr} {len cap : Nat} {D : DataW H} {p : List MemPlace} (h : DataW.Trod enc Tryd.prog w 0 (fun _ => true) held 22 (.slice a len cap) D p) : ∃ l : List Int, l.length = len ∧ len ≤ cap ∧ cap ≤ maxLen ∧ Kd.C (Kd.int .u8) w a len l ∧ ∀ x ∈ l, 0 ≤ x ∧ x ≤ 255 := by
  obtain ⟨l, h1, h2, h3, h4⟩ := open_row (d := kB) Tryd.underlying22 cellsOf5 (fun n cs y hy => byte_of hy) h
  refine ⟨l.map Byte.val, by rw [List.length_map]; exact h1, h2, h3, ?_, fun x hx => ?_⟩
  · refine ⟨by rw [List.length_map]; exact h4.1, h4.2.1, fun hp => ?_⟩
    obtain ⟨ad, e, hq⟩ := h4.2.2 hp
    refine ⟨ad, e, fun i q hi => ?_⟩
    rw [List.getElem?_map] at hi
    obtain ⟨b, hb, rfl⟩ := Option.map_eq_some_iff.1 hi
    exact hq i b hb
  · obtain ⟨b, _, rfl⟩ := List.mem_map.1 hx
    exact b.le
end
end Go.Proofs.YtnakanjhdcakhaaDoor
