/- Lemmas for FnAclDiffer, part 4 of 5: the program's functions as Lean functions, what each Go function comes to, and plain lemmas on them. No statement of its own. -/
import Derived.Test.YtnakanjhdcakhaaC1xFnAclDiffer
import Derived.Test.YtnakanjhdcakhaaC2xFnAclDiffer
import Derived.Test.YtnakanjhdcakhaaC3xFnAclDiffer
namespace Go.Proofs.Ytnakanjhdcakhaa.Q
open Go.RowKit Go.Proofs.YtnakanjhdcakhaaW.PrintWords Go.Proofs.YtnakanjhdcakhaaW.PrintLast Go.Proofs.YtnakanjhdcakhaaW.PrintMore
set_option linter.unusedVariables false
set_option linter.unusedSimpArgs false
def putK (xs : List Int) (n : Int) : Nat := (xs.takeWhile fun x => decide (x < n)).length
def putP (xs : List Int) (n : Int) : List Int := if 65535 < n ∨ xs[putK xs n]? = some n then xs else xs.take (putK xs n) ++ [n] ++ xs.drop (putK xs n)
theorem putK_of {xs : List Int} {n : Int} {k : Nat} (h : ∀ j x, j < k → xs[j]? = some x → x < n) (hk : k ≤ xs.length) (hn : ∀ x, xs[k]? = some x → ¬ x < n) : putK xs n = k := by
  unfold putK
  induction xs generalizing k with
  | nil => simp at hk; simp [hk]
  | cons a l ih =>
    cases k with
    | zero =>
      have := hn a rfl
      simp [List.takeWhile_cons, this]
    | succ k =>
      have ha := h 0 a (by omega) rfl
      rw [List.takeWhile_cons, if_pos (by simpa using ha)]
      simp only [List.length_cons]
      rw [ih (k := k) (fun j x hj hx => h (j + 1) x (by omega) (by simpa using hx)) (by simpa using hk) (fun x hx => hn x (by simpa using hx))]
theorem stepP {w W W' : World} (h : Aside0 (Below w.heap.size w W)) (hb : Below W.heap.size W W') : Aside0 (Below w.heap.size w W') := ⟨below_then h.out h.out.size hb⟩
theorem rdP {l : List Int} {i : Nat} (h : i < l.length) : l[i]? = some (rd l (i : Int)) := by
  simp [rd, List.getD_eq_getElem?_getD, h]
theorem mkE (W : World) (base b : Nat) (hb : base ≤ W.heap.size) (e : b = W.heap.size) : Kd.R (Kd.int .i64) 3 (W.alloc (.cells #[] 3)) base (fun _ => True) (.slice (some ⟨b, 0, none⟩) 0 0) [] := by
  subst e
  exact ⟨fun _ _ => trivial, [], World.ownsRow_made W #[] 0 hb (Nat.zero_le _) (by simp), Reps.none _ _⟩
theorem mkN (W : World) (base b : Nat) (n : Int) (hb : base ≤ W.heap.size) (e : b = W.heap.size) : Kd.R (Kd.int .i64) 3 (W.alloc (.cells #[.int .i64 n] 3)) base (fun k => k = b) (.slice (some ⟨b, 0, none⟩) 1 1) [n] := by
  subst e
  exact Kd.R_of_own (enc := Value.int .i64) (World.ownsRow_lit (base := base) (e := 3) (size := 1) W #[.int .i64 n] 1 hb (by decide) (by rfl)) (fun k hk => by injection hk with hk; exact hk.symm)
set_option maxHeartbeats 8000000 in
set_option maxRecDepth 100000 in
theorem put_any (A : Option Addr) (c : Nat) (xs : List Int) (n : Int) (w : World) (hr : Kd.C (Kd.int .i64) w A xs.length xs) (hc : xs.length ≤ c) (hl : xs.length ≤ 100000) (hpos : 0 < xs.length) :
    Calls Try.prog 131 #[.slice A xs.length c, .int .i64 n] w fun e w' => ∃ v : Value, e = .returned v ∧ Below w.heap.size w w' ∧ ((v = .slice A xs.length c ∧ putP xs n = xs) ∨ Kd.R (Kd.int .i64) 3 w' w.heap.size (fun _ => True) v (putP xs n)) := by
  have HR := Aside0.mk hr
  have HL := Aside0.mk hl
  have HB := Aside0.mk (Below.refl w.heap.size w)
  obtain ⟨ad, hA, _⟩ := Kd.at_int hr 0 (by omega) (by omega)
  subst hA
  clear hr hl hpos
  go_enter Try.func131, Try.ntmps131
  go_wp2
  go_loopg [5] xs.length (fun gg s5 wr => ∃ kk : Nat, kk ≤ xs.length ∧ xs.length - kk ≤ gg ∧ s5 = .int .i64 kk ∧ wr = w ∧ Aside0 (∀ j x, j < kk → xs[j]? = some x → x < n))
  case atStart => exact ⟨0, Nat.zero_le _, by omega, rfl, rfl, ⟨fun j x h => absurd h (Nat.not_lt_zero _)⟩⟩
  case round =>
    obtain ⟨kk, hkk, hg, rfl, rfl, AN⟩ := hrel
    by_cases hlt : kk < xs.length
    · have hltz : (kk : Int) < (xs.length : Int) := by omega
      obtain ⟨ad', hA, x0⟩ := Kd.at_int HR.out kk (by omega) (by omega)
      cases hA
      have FX := Aside0.mk (rdP hlt)
      generalize rd xs kk = x at x0 FX
      simp only [Int.toNat_natCast] at x0
      by_cases hx : x < n
      · go_wp2
        go_roundg (xs.length - (kk + 1))
        case measure => omega
        case rel =>
          refine ⟨kk + 1, by omega, by omega, congrArg (Value.int .i64) (by have h8 := HL.out; first | omega | (rw [Pure.wrap_in (x := (kk : Int) + 1) (by omega) (by omega)]; omega)), rfl, ⟨fun j y hj hy => ?_⟩⟩
          by_cases e : j = kk
          · subst e
            exact (Option.some.inj (FX.out.symm.trans hy)) ▸ hx
          · exact AN.out j y (by omega) hy
      · have PK : Aside0 (putK xs n = kk) := ⟨putK_of AN.out hkk (fun y hy => by have := Option.some.inj (FX.out.symm.trans hy); omega)⟩
        by_cases hn : 65535 < n
        · go_wp2
          go_ret
          exact ⟨_, rfl, HB.out, .inl ⟨rfl, by unfold putP; rw [if_pos (.inl hn)]⟩⟩
        · by_cases he : x = n
          · subst he
            go_wp2
            go_ret
            exact ⟨_, rfl, HB.out, .inl ⟨rfl, by unfold putP; rw [if_pos (.inr (by rw [PK.out]; exact FX.out))]⟩⟩
          · have PP : Aside0 (putP xs n = xs.take kk ++ [n] ++ xs.drop kk) := ⟨by unfold putP; rw [PK.out, if_neg]; rintro (h | h); exact hn h; exact he (Option.some.inj (FX.out.symm.trans h))⟩
            have hxb : (x == n) = false := beq_eq_false_iff_ne.mpr he
            go_wp2_with fail
            have S0d : Aside0 (Below wr.heap.size wr wr.drew) := ⟨below_drew HB.out⟩
            have KL := Aside0.mk (show kk ≤ 100000 from by have := HL.out; omega)
            have CT : Aside0 (∀ W, Below wr.heap.size wr W → Kd.C (Kd.int .i64) W (some ad) kk (xs.take kk)) := ⟨fun W h => by
              have h9 := Kd.C_take (m := kk) (Kd.C_below HR.out h) (by omega)
              rw [List.length_take, Nat.min_eq_left (by omega)] at h9
              exact h9⟩
            have CD : Aside0 (∀ W, Below wr.heap.size wr W → Kd.C (Kd.int .i64) W (if c = kk then some ad else some (ad.add kk)) (xs.length - kk) (xs.drop kk)) := ⟨fun W h => by
              have h9 := Kd.C_drop (m := kk) (c := c) (Kd.C_below HR.out h) (by omega) hc
              rw [List.length_drop] at h9
              have h8 : kk * (Kd.int .i64).sz = kk := Nat.mul_one kk
              rw [h8] at h9
              exact h9⟩
            have TL : Aside0 ((xs.take kk).length ≤ 100000 ∧ xs.length - kk ≤ 100000) := ⟨by have := HL.out; rw [List.length_take]; omega⟩
            generalize xs.take kk = ts at CT TL PP
            generalize xs.drop kk = ds at CD PP
            have b1 : (0 : Int) ≤ (kk : Int) := by omega
            have b2 : (kk : Int) ≤ (xs.length : Int) := by omega
            have b3 : (kk : Int) ≤ (c : Int) := by omega
            have b4 : (xs.length : Int) ≤ (c : Int) := by omega
            go_region_held3 (fun W => Aside0 (Below wr.heap.size wr W)) (first | (with_reducible assumption) | exact S0d | exact ⟨(by repeat (first | exact HB.out | exact S0d.out | exact S41.out | exact S44.out | apply below_alloc | apply below_drew1))⟩) (first
              | ((refine Kd.R_append_rows_step (Kd.int .i64) (w0 := wr) wr.heap.size (by rfl) (.tmp 37) (.tmp 40) 119 3 (.int .i64 0) 8 rfl Try.underlying119 info3 rfl (by decide) (by omega) _ [] ts _ _ _ (fun _ => True) (fun _ => False) rfl rfl ?aO ?aR (fun _ _ h => h) (fun _ h => h.elim) (fun _ _ => trivial) ?aB ?aS ?aL ?_); (case aO => first | exact Kd.R_drew (mkE wr _ _ (Nat.le_refl _) rfl) | exact mkE _ _ _ (by simp) (by simp) | exact Kd.R_alloc (mkE _ _ _ (by simp) (by simp)) _); (case aR => exact CT.out _ (by repeat (first | exact HB.out | exact S0d.out | exact S41.out | exact S44.out | apply below_alloc | apply below_drew1))); (case aB => exact (by repeat (first | exact HB.out | exact S0d.out | exact S41.out | exact S44.out | apply below_alloc | apply below_drew1))); (case aS => exact below_size (by repeat (first | exact HB.out | exact S0d.out | exact S41.out | exact S44.out | apply below_alloc | apply below_drew1))); (case aL => have := KL.out; simp only [List.length_nil]; omega); intro v41 w41 ho hb hg hat; have S41 : Aside0 (Below wr.heap.size wr w41) := ⟨hb⟩; have R41 : Aside0 (Kd.R (Kd.int .i64) 3 w41 wr.heap.size (fun _ => True) v41 ts) := ⟨ho⟩; (try have N41 : Aside0 (Kd.R (Kd.int .i64) 3 w41 wr.heap.size (fun k => k = wr.heap.size + 1) (.slice (some ⟨wr.heap.size + 1, 0, none⟩) 1 1) [n]) := ⟨Kd.R_grown (Kd.R_drew (mkN (wr.alloc (.cells #[] 3)) wr.heap.size (wr.heap.size + 1) n (by simp) (by simp))) hg (fun k e => by subst e; show some (wr.heap.size + 1) ≠ some wr.heap.size; simp)⟩); (try have N41 : Aside0 (Kd.R (Kd.int .i64) 3 w41 wr.heap.size (fun k => k = wr.heap.size) (.slice (some ⟨wr.heap.size, 0, none⟩) 1 1) [n]) := ⟨Kd.R_grown (Kd.R_drew (Kd.R_alloc (mkN wr wr.heap.size wr.heap.size n (Nat.le_refl _) rfl) _)) hg (fun k e => by subst e; show some wr.heap.size ≠ some (wr.heap.size + 1); simp)⟩); clear ho hb hg hat)
              | ((refine Kd.R_append_rows_step (Kd.int .i64) (w0 := wr) wr.heap.size (by rfl) (.tmp 41) (.tmp 43) 119 3 (.int .i64 0) 8 rfl Try.underlying119 info3 rfl (by decide) (by omega) v41 ts [n] _ _ _ (fun _ => True) (fun _ => False) rfl rfl ?aO ?aR (fun _ _ h => h) (fun _ h => h.elim) (fun _ _ => trivial) ?aB ?aS ?aL ?_); (case aO => first | exact R41.out | exact Kd.R_alloc R41.out _); (case aR => first | exact (Kd.R_reads' (mkN _ wr.heap.size _ n (below_size (by repeat (first | exact HB.out | exact S0d.out | exact S41.out | exact S44.out | apply below_alloc | apply below_drew1))) (by first | rfl | simp))).2.2 | exact (Kd.R_reads' N41.out).2.2); (case aB => exact (by repeat (first | exact HB.out | exact S0d.out | exact S41.out | exact S44.out | apply below_alloc | apply below_drew1))); (case aS => exact below_size (by repeat (first | exact HB.out | exact S0d.out | exact S41.out | exact S44.out | apply below_alloc | apply below_drew1))); (case aL => have := TL.out; omega); intro v44 w44 ho hb hg hat; have S44 : Aside0 (Below wr.heap.size wr w44) := ⟨hb⟩; have R44 : Aside0 (Kd.R (Kd.int .i64) 3 w44 wr.heap.size (fun _ => True) v44 (ts ++ [n])) := ⟨ho⟩; clear ho hb hg hat)
              | ((refine Kd.R_append_rows_step (Kd.int .i64) (w0 := wr) wr.heap.size (by rfl) (.tmp 44) (.tmp 47) 119 3 (.int .i64 0) 8 rfl Try.underlying119 info3 rfl (by decide) (by omega) v44 (ts ++ [n]) ds _ _ _ (fun _ => True) (fun _ => False) rfl rfl ?aO ?aR (fun _ _ h => h) (fun _ h => h.elim) (fun _ _ => trivial) ?aB ?aS ?aL ?_); (case aO => exact R44.out); (case aR => exact CD.out _ (by repeat (first | exact HB.out | exact S0d.out | exact S41.out | exact S44.out | apply below_alloc | apply below_drew1))); (case aB => exact (by repeat (first | exact HB.out | exact S0d.out | exact S41.out | exact S44.out | apply below_alloc | apply below_drew1))); (case aS => exact below_size (by repeat (first | exact HB.out | exact S0d.out | exact S41.out | exact S44.out | apply below_alloc | apply below_drew1))); (case aL => have := TL.out; simp only [List.length_append, List.length_cons, List.length_nil]; omega); intro v48 w48 ho hb hg hat; have S48 : Aside0 (Below wr.heap.size wr w48) := ⟨hb⟩; have R48 : Aside0 (Kd.R (Kd.int .i64) 3 w48 wr.heap.size (fun _ => True) v48 (ts ++ [n] ++ ds)) := ⟨ho⟩; clear ho hb hg hat))
            all_goals
              go_wp2
            all_goals
              go_ret
              exact ⟨_, rfl, S48.out, .inr (by rw [PP.out]; exact R48.out)⟩
    · have hltz : ¬ (kk : Int) < (xs.length : Int) := by omega
      have hkn : kk = xs.length := by omega
      have PK : Aside0 (putK xs n = kk) := ⟨putK_of AN.out hkk (fun y hy => by rw [hkn] at hy; simp at hy)⟩
      by_cases hn : 65535 < n
      · go_wp2
        go_ret
        exact ⟨_, rfl, HB.out, .inl ⟨rfl, by unfold putP; rw [if_pos (.inl hn)]⟩⟩
      · have PP : Aside0 (putP xs n = xs.take kk ++ [n] ++ xs.drop kk) := ⟨by unfold putP; rw [PK.out, if_neg]; rintro (h | h); exact hn h; rw [hkn] at h; simp at h⟩
        clear hkn
        go_wp2_with fail
        have S0d : Aside0 (Below wr.heap.size wr wr.drew) := ⟨below_drew HB.out⟩
        have KL := Aside0.mk (show kk ≤ 100000 from by have := HL.out; omega)
        have CT : Aside0 (∀ W, Below wr.heap.size wr W → Kd.C (Kd.int .i64) W (some ad) kk (xs.take kk)) := ⟨fun W h => by
          have h9 := Kd.C_take (m := kk) (Kd.C_below HR.out h) (by omega)
          rw [List.length_take, Nat.min_eq_left (by omega)] at h9
          exact h9⟩
        have CD : Aside0 (∀ W, Below wr.heap.size wr W → Kd.C (Kd.int .i64) W (if c = kk then some ad else some (ad.add kk)) (xs.length - kk) (xs.drop kk)) := ⟨fun W h => by
          have h9 := Kd.C_drop (m := kk) (c := c) (Kd.C_below HR.out h) (by omega) hc
          rw [List.length_drop] at h9
          have h8 : kk * (Kd.int .i64).sz = kk := Nat.mul_one kk
          rw [h8] at h9
          exact h9⟩
        have TL : Aside0 ((xs.take kk).length ≤ 100000 ∧ xs.length - kk ≤ 100000) := ⟨by have := HL.out; rw [List.length_take]; omega⟩
        generalize xs.take kk = ts at CT TL PP
        generalize xs.drop kk = ds at CD PP
        have b1 : (0 : Int) ≤ (kk : Int) := by omega
        have b2 : (kk : Int) ≤ (xs.length : Int) := by omega
        have b3 : (kk : Int) ≤ (c : Int) := by omega
        have b4 : (xs.length : Int) ≤ (c : Int) := by omega
        go_region_held3 (fun W => Aside0 (Below wr.heap.size wr W)) (first | (with_reducible assumption) | exact S0d | exact ⟨(by repeat (first | exact HB.out | exact S0d.out | exact S41.out | exact S44.out | apply below_alloc | apply below_drew1))⟩) (first
          | ((refine Kd.R_append_rows_step (Kd.int .i64) (w0 := wr) wr.heap.size (by rfl) (.tmp 37) (.tmp 40) 119 3 (.int .i64 0) 8 rfl Try.underlying119 info3 rfl (by decide) (by omega) _ [] ts _ _ _ (fun _ => True) (fun _ => False) rfl rfl ?aO ?aR (fun _ _ h => h) (fun _ h => h.elim) (fun _ _ => trivial) ?aB ?aS ?aL ?_); (case aO => first | exact Kd.R_drew (mkE wr _ _ (Nat.le_refl _) rfl) | exact mkE _ _ _ (by simp) (by simp) | exact Kd.R_alloc (mkE _ _ _ (by simp) (by simp)) _); (case aR => exact CT.out _ (by repeat (first | exact HB.out | exact S0d.out | exact S41.out | exact S44.out | apply below_alloc | apply below_drew1))); (case aB => exact (by repeat (first | exact HB.out | exact S0d.out | exact S41.out | exact S44.out | apply below_alloc | apply below_drew1))); (case aS => exact below_size (by repeat (first | exact HB.out | exact S0d.out | exact S41.out | exact S44.out | apply below_alloc | apply below_drew1))); (case aL => have := KL.out; simp only [List.length_nil]; omega); intro v41 w41 ho hb hg hat; have S41 : Aside0 (Below wr.heap.size wr w41) := ⟨hb⟩; have R41 : Aside0 (Kd.R (Kd.int .i64) 3 w41 wr.heap.size (fun _ => True) v41 ts) := ⟨ho⟩; (try have N41 : Aside0 (Kd.R (Kd.int .i64) 3 w41 wr.heap.size (fun k => k = wr.heap.size + 1) (.slice (some ⟨wr.heap.size + 1, 0, none⟩) 1 1) [n]) := ⟨Kd.R_grown (Kd.R_drew (mkN (wr.alloc (.cells #[] 3)) wr.heap.size (wr.heap.size + 1) n (by simp) (by simp))) hg (fun k e => by subst e; show some (wr.heap.size + 1) ≠ some wr.heap.size; simp)⟩); (try have N41 : Aside0 (Kd.R (Kd.int .i64) 3 w41 wr.heap.size (fun k => k = wr.heap.size) (.slice (some ⟨wr.heap.size, 0, none⟩) 1 1) [n]) := ⟨Kd.R_grown (Kd.R_drew (Kd.R_alloc (mkN wr wr.heap.size wr.heap.size n (Nat.le_refl _) rfl) _)) hg (fun k e => by subst e; show some wr.heap.size ≠ some (wr.heap.size + 1); simp)⟩); clear ho hb hg hat)
          | ((refine Kd.R_append_rows_step (Kd.int .i64) (w0 := wr) wr.heap.size (by rfl) (.tmp 41) (.tmp 43) 119 3 (.int .i64 0) 8 rfl Try.underlying119 info3 rfl (by decide) (by omega) v41 ts [n] _ _ _ (fun _ => True) (fun _ => False) rfl rfl ?aO ?aR (fun _ _ h => h) (fun _ h => h.elim) (fun _ _ => trivial) ?aB ?aS ?aL ?_); (case aO => first | exact R41.out | exact Kd.R_alloc R41.out _); (case aR => first | exact (Kd.R_reads' (mkN _ wr.heap.size _ n (below_size (by repeat (first | exact HB.out | exact S0d.out | exact S41.out | exact S44.out | apply below_alloc | apply below_drew1))) (by first | rfl | simp))).2.2 | exact (Kd.R_reads' N41.out).2.2); (case aB => exact (by repeat (first | exact HB.out | exact S0d.out | exact S41.out | exact S44.out | apply below_alloc | apply below_drew1))); (case aS => exact below_size (by repeat (first | exact HB.out | exact S0d.out | exact S41.out | exact S44.out | apply below_alloc | apply below_drew1))); (case aL => have := TL.out; omega); intro v44 w44 ho hb hg hat; have S44 : Aside0 (Below wr.heap.size wr w44) := ⟨hb⟩; have R44 : Aside0 (Kd.R (Kd.int .i64) 3 w44 wr.heap.size (fun _ => True) v44 (ts ++ [n])) := ⟨ho⟩; clear ho hb hg hat)
          | ((refine Kd.R_append_rows_step (Kd.int .i64) (w0 := wr) wr.heap.size (by rfl) (.tmp 44) (.tmp 47) 119 3 (.int .i64 0) 8 rfl Try.underlying119 info3 rfl (by decide) (by omega) v44 (ts ++ [n]) ds _ _ _ (fun _ => True) (fun _ => False) rfl rfl ?aO ?aR (fun _ _ h => h) (fun _ h => h.elim) (fun _ _ => trivial) ?aB ?aS ?aL ?_); (case aO => exact R44.out); (case aR => exact CD.out _ (by repeat (first | exact HB.out | exact S0d.out | exact S41.out | exact S44.out | apply below_alloc | apply below_drew1))); (case aB => exact (by repeat (first | exact HB.out | exact S0d.out | exact S41.out | exact S44.out | apply below_alloc | apply below_drew1))); (case aS => exact below_size (by repeat (first | exact HB.out | exact S0d.out | exact S41.out | exact S44.out | apply below_alloc | apply below_drew1))); (case aL => have := TL.out; simp only [List.length_append, List.length_cons, List.length_nil]; omega); intro v48 w48 ho hb hg hat; have S48 : Aside0 (Below wr.heap.size wr w48) := ⟨hb⟩; have R48 : Aside0 (Kd.R (Kd.int .i64) 3 w48 wr.heap.size (fun _ => True) v48 (ts ++ [n] ++ ds)) := ⟨ho⟩; clear ho hb hg hat))
        all_goals
          go_wp2
        all_goals
          go_ret
          exact ⟨_, rfl, S48.out, .inr (by rw [PP.out]; exact R48.out)⟩
end Go.Proofs.Ytnakanjhdcakhaa.Q
namespace Go.Proofs.Ytnakanjhdcakhaa.Q
open Go.RowKit Go.Proofs.YtnakanjhdcakhaaW.PrintWords Go.Proofs.YtnakanjhdcakhaaW.PrintLast Go.Proofs.YtnakanjhdcakhaaW.PrintMore
attribute [local go_sem] max2_int min2_int max_two min_two max_three min_three max_four min_four   -- for this text's walks alone
set_option linter.unusedVariables false
set_option linter.unusedSimpArgs false
def put2P (out : List Int) (x : S26) : List Int := putP (putP out x.f0) (x.f0 + Pure.sz x.f1)
def firstsP (l : List S26) : List Int := l.foldl put2P [0]
theorem putP_len (xs : List Int) (n : Int) : xs.length ≤ (putP xs n).length ∧ (putP xs n).length ≤ xs.length + 1 := by
  unfold putP
  split
  · omega
  · simp only [List.length_append, List.length_take, List.length_drop, List.length_cons, List.length_nil]
    omega
theorem firstsP_snoc (l : List S26) (x : S26) : firstsP (l ++ [x]) = put2P (firstsP l) x := by simp [firstsP]
theorem put2P_len (o : List Int) (x : S26) : o.length ≤ (put2P o x).length ∧ (put2P o x).length ≤ o.length + 2 := by
  have h1 := putP_len o x.f0
  have h2 := putP_len (putP o x.f0) (x.f0 + Pure.sz x.f1)
  unfold put2P
  omega
theorem fold_len (l : List S26) : ∀ o : List Int, o.length ≤ (l.foldl put2P o).length ∧ (l.foldl put2P o).length ≤ o.length + 2 * l.length := by
  induction l with
  | nil => intro o; simp
  | cons x l ih =>
    intro o
    have h1 := put2P_len o x
    have h2 := ih (put2P o x)
    simp only [List.foldl_cons, List.length_cons]
    omega
theorem firstsP_len (l : List S26) : 0 < (firstsP l).length ∧ (firstsP l).length ≤ 1 + 2 * l.length := by
  have h := fold_len l [0]
  unfold firstsP
  simp only [List.length_cons, List.length_nil] at h
  omega
def spec_l4Firsts.f (l0 : List S26) : Option (List Int) := if (decide (l0.length ≤ 1000) && l0.all fun x => Pure.okB x.f0 x.f1) = true then some (firstsP l0) else none
theorem putR {W : World} {base : Nat} {v : Value} {xs : List Int} (n : Int) (h : Kd.R (Kd.int .i64) 3 W base (fun _ => True) v xs) (hb : base ≤ W.heap.size) (hp : 0 < xs.length) (hl : xs.length ≤ 100000) :
    Calls Try.prog 131 #[v, .int .i64 n] W fun e w' => ∃ v' : Value, e = .returned v' ∧ Below W.heap.size W w' ∧ Kd.R (Kd.int .i64) 3 w' base (fun _ => True) v' (putP xs n) := by
  obtain ⟨A, c, rfl⟩ := Kd.R_slice h
  obtain ⟨_, hc, hC⟩ := Kd.R_reads' h
  refine (put_any A c xs n W hC hc hl hp).mono ?_
  rintro e w' ⟨v, rfl, hB, h2⟩
  refine ⟨v, rfl, hB, ?_⟩
  rcases h2 with ⟨rfl, e⟩ | h2
  · rw [e]
    exact Kd.R_below h hB
  · exact Kd.R_lower h2 hb
set_option maxHeartbeats 8000000 in
set_option maxRecDepth 100000 in
theorem spec_l4Firsts.calls (A0 : Option Addr) (c0 : Nat) (l0 : List (S26)) (r : List Int) (w : World) (hr0 : Kd.C k26 w A0 l0.length l0) (hc0 : l0.length ≤ c0) (h : spec_l4Firsts.f l0 = some r) :
    Calls Try.prog 115 #[.slice A0 l0.length c0] w fun e w' => ∃ v0_ : Value, e = .returned (v0_) ∧ Kd.R (Kd.int .i64) 3 w' w.heap.size (fun _ => True) v0_ r ∧ Below w.heap.size w w' := by
  unfold spec_l4Firsts.f at h
  by_cases hcond : (decide (l0.length ≤ 1000) && l0.all fun x => Pure.okB x.f0 x.f1) = true
  · rw [if_pos hcond] at h
    simp only [Bool.and_eq_true, decide_eq_true_eq] at hcond
    have HE := Aside0.mk (Option.some.inj h)
    have HL := Aside0.mk hcond.1
    have HK := Aside0.mk (List.all_eq_true.1 hcond.2)
    have hu26 := Try.underlying26
    have HR := Aside0.mk hr0
    have HB := Aside0.mk (Below.refl w.heap.size w)
    clear hr0 hcond h
    go_enter Try.func115, Try.ntmps115
    go_wp2_with (first | ((with_reducible refine gate_dst (N := 5) rfl ?_); refine Kd.R_lit (Kd.int .i64) _ 3 ?hg (N := 5) ?hd (xs := ([0] : List Int)) (inner := [.int .i64 0]) (ok := fun _ => True) (okp := fun _ => True) ?hr ?hp (fun _ hk => hk) trivial (Below.refl _ _) (Nat.le_refl _) (by simp) ?_; (case hd => rfl); (case hg => rfl); (case hr => first | (go_simp; done) | (go_simp; rfl)); (case hp => exact (Reps.one (show Kd.M (Kd.int .i64) _ _ _ 0 [.int .i64 0] from rfl) (Reps.none _ _))); intro v10 w2 ho3 hb hg_ hnew_; clear hg_ hnew_; have HO := Aside0.mk ho3; have HB2 := Aside0.mk hb; clear ho3 hb HB))
    go_loopg [3, 4] l0.length (fun gg s3 s4 wr => ∃ i : Nat, i ≤ l0.length ∧ l0.length - i ≤ gg ∧ s4 = .int .i64 i ∧ Aside0 (Kd.R (Kd.int .i64) 3 wr w.heap.size (fun _ => True) s3 (firstsP (l0.take i))) ∧ Aside0 (Below w.heap.size w wr))
    case atStart => exact ⟨0, Nat.zero_le _, by omega, rfl, ⟨by simpa [firstsP] using HO.out⟩, HB2⟩
    case round =>
      obtain ⟨i, hi, hg, rfl, RO, BW⟩ := hrel
      by_cases hlt : i < l0.length
      · have hltz : (i : Int) < (l0.length : Int) := by omega
        obtain ⟨ad, hA, x0, x1⟩ := at_T26 (Kd.C_below HR.out BW.out) i (by omega) (by omega)
        subst hA
        have hx : l0[i]? = some (rd_T26 l0 i) := by simp [rd_T26, List.getD_eq_getElem?_getD, hlt]
        have NX : Aside0 (firstsP (l0.take (i + 1)) = put2P (firstsP (l0.take i)) (rd_T26 l0 i)) := ⟨by rw [List.take_add_one, hx, ← firstsP_snoc]; rfl⟩
        have OK := Aside0.mk (HK.out (rd_T26 l0 i) (List.mem_of_getElem? hx))
        have LN : Aside0 (0 < (firstsP (l0.take i)).length ∧ (firstsP (l0.take i)).length ≤ 50000) := ⟨by have h9 := firstsP_len (l0.take i); have h8 := HL.out; rw [List.length_take] at h9; omega⟩
        clear hx
        generalize rd_T26 l0 i = x at x0 x1 NX OK
        generalize firstsP (l0.take i) = ys at RO NX LN
        obtain ⟨a, n⟩ := x
        dsimp only at x0 x1 OK
        simp only [Int.toNat_natCast] at x0 x1
        unfold put2P at NX
        dsimp only at NX
        have SZ : Aside0 (∀ W, Calls Try.prog 76 #[.int .i64 n] W fun e w' => e = .returned (.int .i64 (Pure.sz n)) ∧ Below W.heap.size W w') := ⟨fun W => (spec_l1Size.calls 20 n _ W (Pure.size_s (Pure.okB_iff.1 OK.out).1 (Pure.okB_iff.1 OK.out).2.1 (Nat.le_refl _))).mono (by rintro e w' ⟨rfl, ⟨m, rfl⟩⟩; exact ⟨rfl, pw_below_drewN (Below.refl _ _) m⟩)⟩
        have AN : Aside0 (0 ≤ a ∧ a ≤ 65535 ∧ 1 ≤ Pure.sz n ∧ Pure.sz n ≤ 65536) := ⟨(Pure.okB_iff.1 OK.out).2.2.1, (Pure.okB_iff.1 OK.out).2.2.2.1, Pure.sz_pos n, Pure.sz_le (Pure.okB_iff.1 OK.out).1⟩
        generalize Pure.sz n = z at SZ AN NX
        have hwr : IntKind.i64.wrap (a + z) = a + z := by have := AN.out; simp [IntKind.wrap, IntKind.bits, IntKind.signed]; omega
        have hwr2 : wrap64 (a + z) = a + z := by have := AN.out; unfold wrap64; omega
        go_wp2_with fail
        refine (putR a RO.out BW.out.size LN.out.1 (by have := LN.out.2; omega)).mono ?_
        rintro e w3 ⟨v3, rfl, hb3, hr3⟩
        have S3 := stepP BW hb3
        have R3 := Aside0.mk hr3
        replace x0 := (hb3.cell (World.block_lt_of_cell? _ _ x0)).trans x0
        replace x1 := (hb3.cell (World.block_lt_of_cell? _ _ x1)).trans x1
        have LM : Aside0 (0 < (putP ys a).length ∧ (putP ys a).length ≤ 100000) := ⟨by have := putP_len ys a; have := LN.out; omega⟩
        generalize putP ys a = zs at R3 LM NX
        clear RO BW hb3 hr3 LN
        have S3d : Aside0 (Below w.heap.size w w3.drew) := ⟨below_drew S3.out⟩
        have R3d := Aside0.mk (Kd.R_drew R3.out)
        go_wp2_with fail
        go_region_held3 (fun W => W.cell? (ad.add (i * 2)) = some (.int .i64 a) ∧ W.cell? ⟨(ad.add (i * 2)).block, (ad.add (i * 2)).off + 1, none⟩ = some (.int .i64 n) ∧ Aside0 (Below w.heap.size w W)) (first | go_keep | ((try dsimp only); refine ⟨?_, ?_, ?_⟩ <;> first | (with_reducible assumption) | exact S3d | go_keep)) (first
          | (go_at_call 76; (with_reducible refine (SZ.out _).mono ?_); rintro e w7 ⟨rfl, hb7⟩; have S7 : Aside0 (Below w.heap.size w w7) := stepP S3d hb7; have q0 := (hb7.cell (World.block_lt_of_cell? _ _ x0)).trans x0; have q1 := (hb7.cell (World.block_lt_of_cell? _ _ x1)).trans x1; have R7 := Aside0.mk (Kd.R_below R3d.out hb7))
          | (go_at_call 131; refine (putR (a + z) R7.out S7.out.size LM.out.1 LM.out.2).mono ?_; rintro e w8 ⟨v8, rfl, hb8, hr8⟩; have S8 : Aside0 (Below w.heap.size w w8) := stepP S7 hb8; have R8 := Aside0.mk hr8; have u0 := (hb8.cell (World.block_lt_of_cell? _ _ q0)).trans q0; have u1 := (hb8.cell (World.block_lt_of_cell? _ _ q1)).trans q1))
        all_goals
          go_wp2
        all_goals
          go_roundg (l0.length - (i + 1))
          case measure => omega
          case rel => exact ⟨i + 1, by omega, by omega, congrArg (Value.int .i64) (by have h8 := HL.out; first | omega | (rw [Pure.wrap_in (x := (i : Int) + 1) (by omega) (by omega)]; omega)), ⟨by rw [NX.out]; exact R8.out⟩, S8⟩
      · have hltz : ¬ (i : Int) < (l0.length : Int) := by omega
        obtain rfl : i = l0.length := by omega
        rw [List.take_length] at RO
        go_wp2
        go_ret
        exact ⟨_, rfl, by rw [← HE.out]; exact RO.out, BW.out⟩
  · rw [if_neg hcond] at h
    exact absurd h (by simp)
end Go.Proofs.Ytnakanjhdcakhaa.Q
namespace Go.Proofs.Ytnakanjhdcakhaa.Q
open Go.RowKit Go.Proofs.YtnakanjhdcakhaaW.PrintWords Go.Proofs.YtnakanjhdcakhaaW.PrintLast Go.Proofs.YtnakanjhdcakhaaW.PrintMore
attribute [local go_sem] max2_int min2_int max_two min_two max_three min_three max_four min_four   -- for this text's walks alone
set_option linter.unusedVariables false
set_option linter.unusedSimpArgs false
def spec_l4Froms.l0 : Nat → List (S54) → List (S26) → Int → Option ((List (S26)))
  | 0, _, _, _ => none
  | k + 1, x0, x3, x4 => if x4 < (x0.length : Int) then (if 0 ≤ x4 then (if x3.length < 8796093022208 then (spec_l4Froms.l0 k x0 (x3 ++ [(⟨(rd_T54 x0 x4).f1.f0, (rd_T54 x0 x4).f1.f1⟩ : S26)]) (wrap64 (x4 + 1))) else (none)) else (none)) else (some x3)
def spec_l4Froms.f (k : Nat) (l0 : List (S54)) : Option ((List (S26))) := spec_l4Froms.l0 k l0 (([] : List (S26))) 0
set_option maxHeartbeats 8000000 in
set_option maxRecDepth 100000 in
theorem spec_l4Froms.calls (k : Nat) (A0 : Option Addr) (c0 : Nat) (l0 : List (S54)) (r : List (S26)) (w : World) (hr0 : Kd.C k54 w A0 l0.length l0) (hc0 : l0.length ≤ c0) (h : spec_l4Froms.f k l0 = some r) :
    Calls Try.prog 116 #[.slice A0 l0.length c0] w fun e w' => ∃ v0_ : Value, e = .returned (v0_) ∧ Kd.R k26 26 w' w.heap.size (fun _ => True) v0_ r ∧ Below w.heap.size w w' := by
  have hu26 := Try.underlying26
  have HR0 := Aside0.mk hr0
  have HC0 := Aside0.mk hc0
  clear hr0 hc0
  have HB := Aside0.mk (Below.refl w.heap.size w)
  have H : (spec_l4Froms.l0 k l0 (([] : List (S26))) 0) = some r := h
  clear h
  obtain ⟨y101, hy101⟩ : ∃ y_ : List (S26), y_ = (([] : List (S26))) := ⟨_, rfl⟩
  replace H : (spec_l4Froms.l0 k l0 y101 0) = some r := by first | (rw [hy101]; with_reducible exact H) | (have H2_ := (Option.bind_some _ _).symm.trans H; rw [hy101]; with_reducible exact H2_) | (have H2_ := (Option.bind_some _ _).symm.trans H; with_reducible exact H2_) | with_reducible exact H | (rw [hy101]; exact H) | exact H
  have Ny101 := Aside0.mk hy101
  clear hy101
  have H' := Aside0.mk H
  clear H
  go_enter Try.func116, Try.ntmps116
  go_wp2_with (first | ((with_reducible refine gate_dst (N := 5) rfl ?_); refine Kd.R_lit k26 _ 26 ?hg (N := 5) ?hd (xs := ([] : List (S26))) (inner := []) (ok := fun _ => True) (okp := fun _ => True) ?hr ?hp (fun _ hk => hk) trivial (Below.refl _ _) (Nat.le_refl _) (by simp) ?_; (case hd => rfl); (case hg => rfl); (case hr => first | (go_simp; done) | (go_simp; rfl)); (case hp => exact (Reps.none _ _)); intro v102 w2 ho3 hb hg_ hnew_; clear hg_ hnew_; (first | rw [← Ny101.out] at ho3 | (simp only [Int.reduceToNat] at ho3; rw [← Ny101.out] at ho3)); have n0_ := Aside0.mk (Kd.R_lower ho3 (below_size (by repeat (first | (with_reducible first | exact HB.out | apply below_alloc | apply pw_below_drewN | apply below_drew1) | exact HB.out)))); have n1_ := Aside0.mk (below_step (by repeat (first | (with_reducible first | exact HB.out | apply below_alloc | apply pw_below_drewN | apply below_drew1) | exact HB.out)) hb); clear HB; have HO103 := n0_; have HB := n1_; clear n0_ n1_; clear hb ho3))
  go_loopg [3, 4] k (fun kq v3 v4 w' => ∃ (x3_1 : List (S26)) (x4_1 : Int), v4 = .int .i64 x4_1 ∧ Aside0 (spec_l4Froms.l0 kq l0 x3_1 x4_1 = some r) ∧ Aside0 (kq ≤ k) ∧ Aside0 (Kd.R k26 26 w' w.heap.size (fun _ => True) v3 x3_1) ∧ Aside0 (Below w.heap.size w w'))
  case atStart => exact ⟨(y101), (0), (by first | rfl | (simp; done) | (simp [*]; done)), H', ⟨Nat.le_refl _⟩, ⟨by (with_reducible repeat (first | apply Kd.R_alloc | apply Kd.R_drewN | apply Kd.R_drew)); exact HO103.out⟩, ⟨by repeat (first | (with_reducible first | exact HB.out | apply below_alloc | apply pw_below_drewN | apply below_drew1) | exact HB.out)⟩⟩
  case round =>
    clear H'
    try clear c1
    try clear p2
    obtain ⟨x3_1, x4_1, rfl, HA, HK1, HO_3, HB⟩ := hrel
    cases gk with
    | zero => exact absurd HA.out (by simp [spec_l4Froms.l0])
    | succ k1 =>
      have H := HA.out
      clear HA
      simp only [spec_l4Froms.l0] at H
      by_cases c4 : x4_1 < (l0.length : Int)
      · rw [if_pos c4] at H
        have c4b0 : decide (x4_1 < (l0.length : Int)) = true := decide_eq_true c4
        clear c4
        by_cases c5 : 0 ≤ x4_1
        · rw [if_pos c5] at H
          have c5b0 : decide (0 ≤ x4_1) = true := decide_eq_true c5
          clear c5
          by_cases c6 : x3_1.length < 8796093022208
          · rw [if_pos c6] at H
            have LMc6 := Aside0.mk c6
            clear c6
            obtain ⟨y105, hy105⟩ : ∃ y_ : List (S26), y_ = (x3_1 ++ [(⟨(rd_T54 l0 x4_1).f1.f0, (rd_T54 l0 x4_1).f1.f1⟩ : S26)]) := ⟨_, rfl⟩
            replace H : (spec_l4Froms.l0 k1 l0 y105 (wrap64 (x4_1 + 1))) = some r := by first | (rw [hy105]; with_reducible exact H) | (have H2_ := (Option.bind_some _ _).symm.trans H; rw [hy105]; with_reducible exact H2_) | (have H2_ := (Option.bind_some _ _).symm.trans H; with_reducible exact H2_) | with_reducible exact H | (rw [hy105]; exact H) | exact H
            have Ny105 := Aside0.mk hy105
            clear hy105
            have H' := Aside0.mk H
            clear H
            have p104 : 0 ≤ (x4_1 : Int) := of_decide_eq_true (by first | (with_reducible assumption) | assumption)
            have q104 : x4_1 < (l0.length : Int) := of_decide_eq_true (by first | (with_reducible assumption) | assumption)
            obtain ⟨ad104, e104, hx104_0, hx104_1, hx104_2, hx104_3, hx104_4, hx104_5⟩ := at_T54 HR0.out x4_1 p104 q104
            cases e104
            replace hx104_0 := (HB.out.cell (World.block_lt_of_cell? w _ hx104_0)).trans hx104_0
            replace hx104_1 := (HB.out.cell (World.block_lt_of_cell? w _ hx104_1)).trans hx104_1
            replace hx104_2 := (HB.out.cell (World.block_lt_of_cell? w _ hx104_2)).trans hx104_2
            replace hx104_3 := (HB.out.cell (World.block_lt_of_cell? w _ hx104_3)).trans hx104_3
            replace hx104_4 := (HB.out.cell (World.block_lt_of_cell? w _ hx104_4)).trans hx104_4
            replace hx104_5 := (HB.out.cell (World.block_lt_of_cell? w _ hx104_5)).trans hx104_5
            replace p104 := eq_true p104
            replace q104 := eq_true q104
            go_wp2_with (first | ((with_reducible refine gate_builtin (b := .append) (xs := #[.tmp 12, .tmp 18]) rfl ?_); at_builtin; refine Kd.R_append k26 (w0 := w) w.heap.size rfl (.tmp 12) (.tmp 18) 58 26 (.agg #[(.int .i64 0), (.int .i64 0)]) 16 rfl Try.underlying58 info26 rfl (by decide) (by omega) u3 x3_1 (⟨(rd_T54 l0 x4_1).f1.f0, (rd_T54 l0 x4_1).f1.f1⟩ : S26) [.int .i64 ((rd_T54 l0 x4_1).f1.f0), .int .i64 ((rd_T54 l0 x4_1).f1.f1)] (fun _ => True) (fun _ => False) rfl rfl ?aP (fun _ hk => hk.elim) ?aF ?aO ?aB ?aS ?aL ?_; (case aP => exact k26_mkM _ _ _ (⟨(rd_T54 l0 x4_1).f1.f0, (rd_T54 l0 x4_1).f1.f1⟩ : S26)); (case aB => exact (by repeat (first | (with_reducible first | exact HB.out | apply below_alloc | apply pw_below_drewN | apply below_drew1) | exact HB.out))); (case aF => exact (fun _ _ => trivial)); (case aO => exact (by (with_reducible repeat (first | apply Kd.R_alloc | apply Kd.R_drewN | apply Kd.R_drew)); exact HO_3.out)); (case aS => exact (below_size (by repeat (first | (with_reducible first | exact HB.out | apply below_alloc | apply pw_below_drewN | apply below_drew1) | exact HB.out)))); (case aL => have := LMc6.out; omega); intro v106 w7 ho hb hg hat; rw [← Ny105.out] at ho; have n0_ := Aside0.mk (hb); have n1_ := Aside0.mk (ho); clear HB; clear HO_3; have HB := n0_; have HO107 := n1_; clear n0_ n1_; clear ho hb hg hat))
            go_roundg k1
            case measure => have := HK1.out; omega
            case rel => exact ⟨(y105), (wrap64 (x4_1 + 1)), (by first | rfl | (simp; done) | (simp [*]; done)), H', ⟨by have := HK1.out; omega⟩, ⟨by (with_reducible repeat (first | apply Kd.R_alloc | apply Kd.R_drewN | apply Kd.R_drew)); exact HO107.out⟩, ⟨by repeat (first | (with_reducible first | exact HB.out | apply below_alloc | apply pw_below_drewN | apply below_drew1) | exact HB.out)⟩⟩
          · rw [if_neg c6] at H
            exact absurd H (by simp)
        · rw [if_neg c5] at H
          exact absurd H (by simp)
      · rw [if_neg c4] at H
        have c4b0 : decide (x4_1 < (l0.length : Int)) = false := decide_eq_false c4
        clear c4
        obtain rfl := Option.some.inj H
        go_wp2
        go_ret
        exact ⟨_, by first | rfl | (simp [errW_none, errW_some] <;> rfl) | (simp [*, errW_none, errW_some] <;> rfl), by (with_reducible repeat (first | apply Kd.R_alloc | apply Kd.R_drewN | apply Kd.R_drew)); exact HO_3.out, by repeat (first | (with_reducible first | exact HB.out | apply below_alloc | apply pw_below_drewN | apply below_drew1) | exact HB.out)⟩
end Go.Proofs.Ytnakanjhdcakhaa.Q
namespace Go.Proofs.Ytnakanjhdcakhaa.Q
open Go.RowKit Go.Proofs.YtnakanjhdcakhaaW.PrintWords Go.Proofs.YtnakanjhdcakhaaW.PrintLast Go.Proofs.YtnakanjhdcakhaaW.PrintMore
attribute [local go_sem] max2_int min2_int max_two min_two max_three min_three max_four min_four   -- for this text's walks alone
set_option linter.unusedVariables false
set_option linter.unusedSimpArgs false
def spec_l4Tos.l0 : Nat → List (S54) → List (S26) → Int → Option ((List (S26)))
  | 0, _, _, _ => none
  | k + 1, x0, x3, x4 => if x4 < (x0.length : Int) then (if 0 ≤ x4 then (if x3.length < 8796093022208 then (spec_l4Tos.l0 k x0 (x3 ++ [(⟨(rd_T54 x0 x4).f2.f0, (rd_T54 x0 x4).f2.f1⟩ : S26)]) (wrap64 (x4 + 1))) else (none)) else (none)) else (some x3)
def spec_l4Tos.f (k : Nat) (l0 : List (S54)) : Option ((List (S26))) := spec_l4Tos.l0 k l0 (([] : List (S26))) 0
set_option maxHeartbeats 8000000 in
set_option maxRecDepth 100000 in
theorem spec_l4Tos.calls (k : Nat) (A0 : Option Addr) (c0 : Nat) (l0 : List (S54)) (r : List (S26)) (w : World) (hr0 : Kd.C k54 w A0 l0.length l0) (hc0 : l0.length ≤ c0) (h : spec_l4Tos.f k l0 = some r) :
    Calls Try.prog 117 #[.slice A0 l0.length c0] w fun e w' => ∃ v0_ : Value, e = .returned (v0_) ∧ Kd.R k26 26 w' w.heap.size (fun _ => True) v0_ r ∧ Below w.heap.size w w' := by
  have hu26 := Try.underlying26
  have HR0 := Aside0.mk hr0
  have HC0 := Aside0.mk hc0
  clear hr0 hc0
  have HB := Aside0.mk (Below.refl w.heap.size w)
  have H : (spec_l4Tos.l0 k l0 (([] : List (S26))) 0) = some r := h
  clear h
  obtain ⟨y101, hy101⟩ : ∃ y_ : List (S26), y_ = (([] : List (S26))) := ⟨_, rfl⟩
  replace H : (spec_l4Tos.l0 k l0 y101 0) = some r := by first | (rw [hy101]; with_reducible exact H) | (have H2_ := (Option.bind_some _ _).symm.trans H; rw [hy101]; with_reducible exact H2_) | (have H2_ := (Option.bind_some _ _).symm.trans H; with_reducible exact H2_) | with_reducible exact H | (rw [hy101]; exact H) | exact H
  have Ny101 := Aside0.mk hy101
  clear hy101
  have H' := Aside0.mk H
  clear H
  go_enter Try.func117, Try.ntmps117
  go_wp2_with (first | ((with_reducible refine gate_dst (N := 5) rfl ?_); refine Kd.R_lit k26 _ 26 ?hg (N := 5) ?hd (xs := ([] : List (S26))) (inner := []) (ok := fun _ => True) (okp := fun _ => True) ?hr ?hp (fun _ hk => hk) trivial (Below.refl _ _) (Nat.le_refl _) (by simp) ?_; (case hd => rfl); (case hg => rfl); (case hr => first | (go_simp; done) | (go_simp; rfl)); (case hp => exact (Reps.none _ _)); intro v102 w2 ho3 hb hg_ hnew_; clear hg_ hnew_; (first | rw [← Ny101.out] at ho3 | (simp only [Int.reduceToNat] at ho3; rw [← Ny101.out] at ho3)); have n0_ := Aside0.mk (Kd.R_lower ho3 (below_size (by repeat (first | (with_reducible first | exact HB.out | apply below_alloc | apply pw_below_drewN | apply below_drew1) | exact HB.out)))); have n1_ := Aside0.mk (below_step (by repeat (first | (with_reducible first | exact HB.out | apply below_alloc | apply pw_below_drewN | apply below_drew1) | exact HB.out)) hb); clear HB; have HO103 := n0_; have HB := n1_; clear n0_ n1_; clear hb ho3))
  go_loopg [3, 4] k (fun kq v3 v4 w' => ∃ (x3_1 : List (S26)) (x4_1 : Int), v4 = .int .i64 x4_1 ∧ Aside0 (spec_l4Tos.l0 kq l0 x3_1 x4_1 = some r) ∧ Aside0 (kq ≤ k) ∧ Aside0 (Kd.R k26 26 w' w.heap.size (fun _ => True) v3 x3_1) ∧ Aside0 (Below w.heap.size w w'))
  case atStart => exact ⟨(y101), (0), (by first | rfl | (simp; done) | (simp [*]; done)), H', ⟨Nat.le_refl _⟩, ⟨by (with_reducible repeat (first | apply Kd.R_alloc | apply Kd.R_drewN | apply Kd.R_drew)); exact HO103.out⟩, ⟨by repeat (first | (with_reducible first | exact HB.out | apply below_alloc | apply pw_below_drewN | apply below_drew1) | exact HB.out)⟩⟩
  case round =>
    clear H'
    try clear c1
    try clear p2
    obtain ⟨x3_1, x4_1, rfl, HA, HK1, HO_3, HB⟩ := hrel
    cases gk with
    | zero => exact absurd HA.out (by simp [spec_l4Tos.l0])
    | succ k1 =>
      have H := HA.out
      clear HA
      simp only [spec_l4Tos.l0] at H
      by_cases c4 : x4_1 < (l0.length : Int)
      · rw [if_pos c4] at H
        have c4b0 : decide (x4_1 < (l0.length : Int)) = true := decide_eq_true c4
        clear c4
        by_cases c5 : 0 ≤ x4_1
        · rw [if_pos c5] at H
          have c5b0 : decide (0 ≤ x4_1) = true := decide_eq_true c5
          clear c5
          by_cases c6 : x3_1.length < 8796093022208
          · rw [if_pos c6] at H
            have LMc6 := Aside0.mk c6
            clear c6
            obtain ⟨y105, hy105⟩ : ∃ y_ : List (S26), y_ = (x3_1 ++ [(⟨(rd_T54 l0 x4_1).f2.f0, (rd_T54 l0 x4_1).f2.f1⟩ : S26)]) := ⟨_, rfl⟩
            replace H : (spec_l4Tos.l0 k1 l0 y105 (wrap64 (x4_1 + 1))) = some r := by first | (rw [hy105]; with_reducible exact H) | (have H2_ := (Option.bind_some _ _).symm.trans H; rw [hy105]; with_reducible exact H2_) | (have H2_ := (Option.bind_some _ _).symm.trans H; with_reducible exact H2_) | with_reducible exact H | (rw [hy105]; exact H) | exact H
            have Ny105 := Aside0.mk hy105
            clear hy105
            have H' := Aside0.mk H
            clear H
            have p104 : 0 ≤ (x4_1 : Int) := of_decide_eq_true (by first | (with_reducible assumption) | assumption)
            have q104 : x4_1 < (l0.length : Int) := of_decide_eq_true (by first | (with_reducible assumption) | assumption)
            obtain ⟨ad104, e104, hx104_0, hx104_1, hx104_2, hx104_3, hx104_4, hx104_5⟩ := at_T54 HR0.out x4_1 p104 q104
            cases e104
            replace hx104_0 := (HB.out.cell (World.block_lt_of_cell? w _ hx104_0)).trans hx104_0
            replace hx104_1 := (HB.out.cell (World.block_lt_of_cell? w _ hx104_1)).trans hx104_1
            replace hx104_2 := (HB.out.cell (World.block_lt_of_cell? w _ hx104_2)).trans hx104_2
            replace hx104_3 := (HB.out.cell (World.block_lt_of_cell? w _ hx104_3)).trans hx104_3
            replace hx104_4 := (HB.out.cell (World.block_lt_of_cell? w _ hx104_4)).trans hx104_4
            replace hx104_5 := (HB.out.cell (World.block_lt_of_cell? w _ hx104_5)).trans hx104_5
            replace p104 := eq_true p104
            replace q104 := eq_true q104
            go_wp2_with (first | ((with_reducible refine gate_builtin (b := .append) (xs := #[.tmp 12, .tmp 18]) rfl ?_); at_builtin; refine Kd.R_append k26 (w0 := w) w.heap.size rfl (.tmp 12) (.tmp 18) 58 26 (.agg #[(.int .i64 0), (.int .i64 0)]) 16 rfl Try.underlying58 info26 rfl (by decide) (by omega) u3 x3_1 (⟨(rd_T54 l0 x4_1).f2.f0, (rd_T54 l0 x4_1).f2.f1⟩ : S26) [.int .i64 ((rd_T54 l0 x4_1).f2.f0), .int .i64 ((rd_T54 l0 x4_1).f2.f1)] (fun _ => True) (fun _ => False) rfl rfl ?aP (fun _ hk => hk.elim) ?aF ?aO ?aB ?aS ?aL ?_; (case aP => exact k26_mkM _ _ _ (⟨(rd_T54 l0 x4_1).f2.f0, (rd_T54 l0 x4_1).f2.f1⟩ : S26)); (case aB => exact (by repeat (first | (with_reducible first | exact HB.out | apply below_alloc | apply pw_below_drewN | apply below_drew1) | exact HB.out))); (case aF => exact (fun _ _ => trivial)); (case aO => exact (by (with_reducible repeat (first | apply Kd.R_alloc | apply Kd.R_drewN | apply Kd.R_drew)); exact HO_3.out)); (case aS => exact (below_size (by repeat (first | (with_reducible first | exact HB.out | apply below_alloc | apply pw_below_drewN | apply below_drew1) | exact HB.out)))); (case aL => have := LMc6.out; omega); intro v106 w7 ho hb hg hat; rw [← Ny105.out] at ho; have n0_ := Aside0.mk (hb); have n1_ := Aside0.mk (ho); clear HB; clear HO_3; have HB := n0_; have HO107 := n1_; clear n0_ n1_; clear ho hb hg hat))
            go_roundg k1
            case measure => have := HK1.out; omega
            case rel => exact ⟨(y105), (wrap64 (x4_1 + 1)), (by first | rfl | (simp; done) | (simp [*]; done)), H', ⟨by have := HK1.out; omega⟩, ⟨by (with_reducible repeat (first | apply Kd.R_alloc | apply Kd.R_drewN | apply Kd.R_drew)); exact HO107.out⟩, ⟨by repeat (first | (with_reducible first | exact HB.out | apply below_alloc | apply pw_below_drewN | apply below_drew1) | exact HB.out)⟩⟩
          · rw [if_neg c6] at H
            exact absurd H (by simp)
        · rw [if_neg c5] at H
          exact absurd H (by simp)
      · rw [if_neg c4] at H
        have c4b0 : decide (x4_1 < (l0.length : Int)) = false := decide_eq_false c4
        clear c4
        obtain rfl := Option.some.inj H
        go_wp2
        go_ret
        exact ⟨_, by first | rfl | (simp [errW_none, errW_some] <;> rfl) | (simp [*, errW_none, errW_some] <;> rfl), by (with_reducible repeat (first | apply Kd.R_alloc | apply Kd.R_drewN | apply Kd.R_drew)); exact HO_3.out, by repeat (first | (with_reducible first | exact HB.out | apply below_alloc | apply pw_below_drewN | apply below_drew1) | exact HB.out)⟩
end Go.Proofs.Ytnakanjhdcakhaa.Q
namespace Go.Proofs.Ytnakanjhdcakhaa.Q
open Go.RowKit Go.Proofs.YtnakanjhdcakhaaW.PrintWords Go.Proofs.YtnakanjhdcakhaaW.PrintLast Go.Proofs.YtnakanjhdcakhaaW.PrintMore
attribute [local go_sem] max2_int min2_int max_two min_two max_three min_three max_four min_four   -- for this text's walks alone
set_option linter.unusedVariables false
set_option linter.unusedSimpArgs false
def spec_l4So.f (k : Nat) (l0 : List (S54)) (l1 : List (S54)) (a2 : Int) (a3_0 : Int) (a3_1 : Int) (a3_2 : Int) : Option (Bool) := (spec_l4Says.f k l0 a3_0 a3_1 a3_2).bind fun bt102 => ((spec_l4Says.f k l1 a3_0 a3_1 a3_2).bind fun bt104 => (if a2 ≥ 0 then (some (bt102.1 == a2)) else (some (bt102.2 != bt104.2))))
set_option maxHeartbeats 8000000 in
set_option maxRecDepth 100000 in
theorem spec_l4So.calls (k : Nat) (A0 : Option Addr) (c0 : Nat) (l0 : List (S54)) (A1 : Option Addr) (c1 : Nat) (l1 : List (S54)) (a2 : Int) (a3_0 : Int) (a3_1 : Int) (a3_2 : Int) (r : Bool) (w : World) (hr0 : Kd.C k54 w A0 l0.length l0) (hc0 : l0.length ≤ c0) (hr1 : Kd.C k54 w A1 l1.length l1) (hc1 : l1.length ≤ c1) (h : spec_l4So.f k l0 l1 a2 a3_0 a3_1 a3_2 = some r) :
    Calls Try.prog 118 #[.slice A0 l0.length c0, .slice A1 l1.length c1, .int .i64 a2, .agg #[.int .i64 a3_0, .int .i64 a3_1, .int .i64 a3_2]] w fun e w' => e = .returned (.bool r) ∧ Below w.heap.size w w' := by
  have hu34 := Try.underlying34
  have HR0 := Aside0.mk hr0
  have HC0 := Aside0.mk hc0
  clear hr0 hc0
  have HR1 := Aside0.mk hr1
  have HC1 := Aside0.mk hc1
  clear hr1 hc1
  have HB := Aside0.mk (Below.refl w.heap.size w)
  have H : ((spec_l4Says.f k l0 a3_0 a3_1 a3_2).bind fun bt102 => ((spec_l4Says.f k l1 a3_0 a3_1 a3_2).bind fun bt104 => (if a2 ≥ 0 then (some (bt102.1 == a2)) else (some (bt102.2 != bt104.2))))) = some r := h
  clear h
  replace H := Option.bind_eq_some_iff.mp H
  obtain ⟨⟨t102, t103⟩, A50, H⟩ := H
  replace H : ((spec_l4Says.f k l1 a3_0 a3_1 a3_2).bind fun bt104 => (if a2 ≥ 0 then (some (t102 == a2)) else (some (t103 != bt104.2)))) = some r := H
  have A5 := Aside0.mk A50
  clear A50
  replace H := Option.bind_eq_some_iff.mp H
  obtain ⟨⟨t104, t105⟩, A60, H⟩ := H
  replace H : (if a2 ≥ 0 then (some (t102 == a2)) else (some (t103 != t105))) = some r := H
  have A6 := Aside0.mk A60
  clear A60
  by_cases c7 : a2 ≥ 0
  · rw [if_pos c7] at H
    have c7b0 : decide (0 ≤ a2) = true := decide_eq_true c7
    clear c7
    obtain rfl := Option.some.inj H
    go_enter Try.func118, Try.ntmps118
    go_wp2_with (first | ((with_reducible refine gate_dst (N := 7) rfl ?_); refine box_event ?hg (N := 7) ?hd (cs := #[.int .i64 a3_0, .int .i64 a3_1, .int .i64 a3_2]) (t := 34) ?hr ?_; (case hd => rfl); (case hg => rfl); (case hr => first | (go_simp; done) | (go_simp; rfl)); intro gb101 hg w8 hbox hb; have n0_ := Aside0.mk (below_step (by repeat (first | (with_reducible first | exact HB.out | apply below_alloc | apply pw_below_drewN | apply below_drew1) | exact HB.out)) hb); have n1_ := Aside0.mk (hbox); have n2_ := Aside0.mk ((by rw [hg]; exact (below_size (by repeat (first | (with_reducible first | exact HB.out | apply below_alloc | apply pw_below_drewN | apply below_drew1) | exact HB.out))) : w.heap.size ≤ gb101)); have n3_ := Aside0.mk ((by rw [hg]; exact (below_size (by repeat (first | (with_reducible first | exact HB.out | apply below_alloc | apply pw_below_drewN | apply below_drew1) | exact HB.out))) : w.heap.size ≤ gb101)); clear HB; have HB := n0_; have BK101 := n1_; have GW101 := n2_; have GE101 := n3_; clear n0_ n1_ n2_ n3_; clear hb hbox hg; have hcz9_0 : w8.cell? ⟨gb101, 0, none⟩ = some (.int .i64 a3_0) := (blk_cell BK101.out 0).trans rfl; have hcz9_1 : w8.cell? ⟨gb101, 1, none⟩ = some (.int .i64 a3_1) := (blk_cell BK101.out 1).trans rfl; have hcz9_2 : w8.cell? ⟨gb101, 2, none⟩ = some (.int .i64 a3_2) := (blk_cell BK101.out 2).trans rfl; have hfz9_0 := blk_frozen BK101.out 0; have hfz9_1 := blk_frozen BK101.out 1; have hfz9_2 := blk_frozen BK101.out 2) | ((with_reducible refine gate_callee (f := 103) rfl ?_); refine goesL_ (some 16) rfl rfl Try.func103 (by kernel_rfl) rfl #[.slice A0 l0.length c0, .agg #[.int .i64 a3_0, .int .i64 a3_1, .int .i64 a3_2]] rfl (by (try simp only [List.map_toArray, List.map_cons, List.map_nil]); first | done | rfl | (simp only [List.length_drop, List.length_take]; rfl)) ?_; (with_reducible refine (spec_l4Says.calls k _ _ l0 a3_0 a3_1 a3_2 t102 t103 _ ?side1 ?side2 A5.out).mono ?_); (case side1 => repeat (first | exact (Kd.C_below HR0.out HB.out) | (with_reducible refine Kd.C_alloc ?_ _) | (with_reducible refine Kd.C_drewN ?_ _) | (with_reducible refine Kd.C_drew ?_))); (case side2 => exact HC0.out); rintro e w10 ⟨rfl, hb⟩; refine ⟨_, rfl, ?_⟩; have n0_ := Aside0.mk (blk_below (g := gb101) (o := .cells #[.int .i64 a3_0, .int .i64 a3_1, .int .i64 a3_2] 34 (0, 0)) (by (with_reducible repeat (first | refine blk_drewN ?_ _ | refine blk_drew ?_ | refine blk_alloc ?_ _)); exact BK101.out) hb); have n1_ := Aside0.mk (below_step (by repeat (first | (with_reducible first | exact HB.out | apply below_alloc | apply pw_below_drewN | apply below_drew1 | refine below_set ?_ GE101.out) | exact HB.out)) hb); clear BK101; clear HB; have BK101 := n0_; have HB := n1_; clear n0_ n1_; (try clear hb); (try clear hb2); (try clear hk); (try clear hi); have hcz11_0 : w10.cell? ⟨gb101, 0, none⟩ = some (.int .i64 a3_0) := (blk_cell BK101.out 0).trans rfl; have hcz11_1 : w10.cell? ⟨gb101, 1, none⟩ = some (.int .i64 a3_1) := (blk_cell BK101.out 1).trans rfl; have hcz11_2 : w10.cell? ⟨gb101, 2, none⟩ = some (.int .i64 a3_2) := (blk_cell BK101.out 2).trans rfl; have hfz11_0 := blk_frozen BK101.out 0; have hfz11_1 := blk_frozen BK101.out 1; have hfz11_2 := blk_frozen BK101.out 2) | ((with_reducible refine gate_callee (f := 103) rfl ?_); refine goesL_ (some 22) rfl rfl Try.func103 (by kernel_rfl) rfl #[.slice A1 l1.length c1, .agg #[.int .i64 a3_0, .int .i64 a3_1, .int .i64 a3_2]] rfl (by (try simp only [List.map_toArray, List.map_cons, List.map_nil]); first | done | rfl | (simp only [List.length_drop, List.length_take]; rfl)) ?_; (with_reducible refine (spec_l4Says.calls k _ _ l1 a3_0 a3_1 a3_2 t104 t105 _ ?side1 ?side2 A6.out).mono ?_); (case side1 => repeat (first | exact (Kd.C_below HR1.out HB.out) | (with_reducible refine Kd.C_alloc ?_ _) | (with_reducible refine Kd.C_drewN ?_ _) | (with_reducible refine Kd.C_drew ?_))); (case side2 => exact HC1.out); rintro e w12 ⟨rfl, hb⟩; refine ⟨_, rfl, ?_⟩; have n0_ := Aside0.mk (blk_below (g := gb101) (o := .cells #[.int .i64 a3_0, .int .i64 a3_1, .int .i64 a3_2] 34 (0, 0)) (by (with_reducible repeat (first | refine blk_drewN ?_ _ | refine blk_drew ?_ | refine blk_alloc ?_ _)); exact BK101.out) hb); have n1_ := Aside0.mk (below_step (by repeat (first | (with_reducible first | exact HB.out | apply below_alloc | apply pw_below_drewN | apply below_drew1 | refine below_set ?_ GE101.out) | exact HB.out)) hb); clear BK101; clear HB; have BK101 := n0_; have HB := n1_; clear n0_ n1_; (try clear hb); (try clear hb2); (try clear hk); (try clear hi)))
    go_ret
    exact ⟨by first | rfl | (simp [errW_none, errW_some] <;> rfl) | (simp [*, errW_none, errW_some] <;> rfl), by repeat (first | (with_reducible first | exact HB.out | apply below_alloc | apply pw_below_drewN | apply below_drew1 | refine below_set ?_ GE101.out) | exact HB.out)⟩
  · rw [if_neg c7] at H
    have c7b0 : decide (0 ≤ a2) = false := decide_eq_false c7
    clear c7
    obtain rfl := Option.some.inj H
    go_enter Try.func118, Try.ntmps118
    go_wp2_with (first | ((with_reducible refine gate_dst (N := 7) rfl ?_); refine box_event ?hg (N := 7) ?hd (cs := #[.int .i64 a3_0, .int .i64 a3_1, .int .i64 a3_2]) (t := 34) ?hr ?_; (case hd => rfl); (case hg => rfl); (case hr => first | (go_simp; done) | (go_simp; rfl)); intro gb101 hg w13 hbox hb; have n0_ := Aside0.mk (below_step (by repeat (first | (with_reducible first | exact HB.out | apply below_alloc | apply pw_below_drewN | apply below_drew1) | exact HB.out)) hb); have n1_ := Aside0.mk (hbox); have n2_ := Aside0.mk ((by rw [hg]; exact (below_size (by repeat (first | (with_reducible first | exact HB.out | apply below_alloc | apply pw_below_drewN | apply below_drew1) | exact HB.out))) : w.heap.size ≤ gb101)); have n3_ := Aside0.mk ((by rw [hg]; exact (below_size (by repeat (first | (with_reducible first | exact HB.out | apply below_alloc | apply pw_below_drewN | apply below_drew1) | exact HB.out))) : w.heap.size ≤ gb101)); clear HB; have HB := n0_; have BK101 := n1_; have GW101 := n2_; have GE101 := n3_; clear n0_ n1_ n2_ n3_; clear hb hbox hg; have hcz14_0 : w13.cell? ⟨gb101, 0, none⟩ = some (.int .i64 a3_0) := (blk_cell BK101.out 0).trans rfl; have hcz14_1 : w13.cell? ⟨gb101, 1, none⟩ = some (.int .i64 a3_1) := (blk_cell BK101.out 1).trans rfl; have hcz14_2 : w13.cell? ⟨gb101, 2, none⟩ = some (.int .i64 a3_2) := (blk_cell BK101.out 2).trans rfl; have hfz14_0 := blk_frozen BK101.out 0; have hfz14_1 := blk_frozen BK101.out 1; have hfz14_2 := blk_frozen BK101.out 2) | ((with_reducible refine gate_callee (f := 103) rfl ?_); refine goesL_ (some 16) rfl rfl Try.func103 (by kernel_rfl) rfl #[.slice A0 l0.length c0, .agg #[.int .i64 a3_0, .int .i64 a3_1, .int .i64 a3_2]] rfl (by (try simp only [List.map_toArray, List.map_cons, List.map_nil]); first | done | rfl | (simp only [List.length_drop, List.length_take]; rfl)) ?_; (with_reducible refine (spec_l4Says.calls k _ _ l0 a3_0 a3_1 a3_2 t102 t103 _ ?side1 ?side2 A5.out).mono ?_); (case side1 => repeat (first | exact (Kd.C_below HR0.out HB.out) | (with_reducible refine Kd.C_alloc ?_ _) | (with_reducible refine Kd.C_drewN ?_ _) | (with_reducible refine Kd.C_drew ?_))); (case side2 => exact HC0.out); rintro e w15 ⟨rfl, hb⟩; refine ⟨_, rfl, ?_⟩; have n0_ := Aside0.mk (blk_below (g := gb101) (o := .cells #[.int .i64 a3_0, .int .i64 a3_1, .int .i64 a3_2] 34 (0, 0)) (by (with_reducible repeat (first | refine blk_drewN ?_ _ | refine blk_drew ?_ | refine blk_alloc ?_ _)); exact BK101.out) hb); have n1_ := Aside0.mk (below_step (by repeat (first | (with_reducible first | exact HB.out | apply below_alloc | apply pw_below_drewN | apply below_drew1 | refine below_set ?_ GE101.out) | exact HB.out)) hb); clear BK101; clear HB; have BK101 := n0_; have HB := n1_; clear n0_ n1_; (try clear hb); (try clear hb2); (try clear hk); (try clear hi); have hcz16_0 : w15.cell? ⟨gb101, 0, none⟩ = some (.int .i64 a3_0) := (blk_cell BK101.out 0).trans rfl; have hcz16_1 : w15.cell? ⟨gb101, 1, none⟩ = some (.int .i64 a3_1) := (blk_cell BK101.out 1).trans rfl; have hcz16_2 : w15.cell? ⟨gb101, 2, none⟩ = some (.int .i64 a3_2) := (blk_cell BK101.out 2).trans rfl; have hfz16_0 := blk_frozen BK101.out 0; have hfz16_1 := blk_frozen BK101.out 1; have hfz16_2 := blk_frozen BK101.out 2) | ((with_reducible refine gate_callee (f := 103) rfl ?_); refine goesL_ (some 22) rfl rfl Try.func103 (by kernel_rfl) rfl #[.slice A1 l1.length c1, .agg #[.int .i64 a3_0, .int .i64 a3_1, .int .i64 a3_2]] rfl (by (try simp only [List.map_toArray, List.map_cons, List.map_nil]); first | done | rfl | (simp only [List.length_drop, List.length_take]; rfl)) ?_; (with_reducible refine (spec_l4Says.calls k _ _ l1 a3_0 a3_1 a3_2 t104 t105 _ ?side1 ?side2 A6.out).mono ?_); (case side1 => repeat (first | exact (Kd.C_below HR1.out HB.out) | (with_reducible refine Kd.C_alloc ?_ _) | (with_reducible refine Kd.C_drewN ?_ _) | (with_reducible refine Kd.C_drew ?_))); (case side2 => exact HC1.out); rintro e w17 ⟨rfl, hb⟩; refine ⟨_, rfl, ?_⟩; have n0_ := Aside0.mk (blk_below (g := gb101) (o := .cells #[.int .i64 a3_0, .int .i64 a3_1, .int .i64 a3_2] 34 (0, 0)) (by (with_reducible repeat (first | refine blk_drewN ?_ _ | refine blk_drew ?_ | refine blk_alloc ?_ _)); exact BK101.out) hb); have n1_ := Aside0.mk (below_step (by repeat (first | (with_reducible first | exact HB.out | apply below_alloc | apply pw_below_drewN | apply below_drew1 | refine below_set ?_ GE101.out) | exact HB.out)) hb); clear BK101; clear HB; have BK101 := n0_; have HB := n1_; clear n0_ n1_; (try clear hb); (try clear hb2); (try clear hk); (try clear hi)))
    go_ret
    exact ⟨by first | rfl | (simp [errW_none, errW_some] <;> rfl) | (simp [*, errW_none, errW_some] <;> rfl), by repeat (first | (with_reducible first | exact HB.out | apply below_alloc | apply pw_below_drewN | apply below_drew1 | refine below_set ?_ GE101.out) | exact HB.out)⟩
end Go.Proofs.Ytnakanjhdcakhaa.Q
namespace Go.Proofs.Ytnakanjhdcakhaa.Q
open Go.RowKit Go.Proofs.YtnakanjhdcakhaaW.PrintWords Go.Proofs.YtnakanjhdcakhaaW.PrintLast Go.Proofs.YtnakanjhdcakhaaW.PrintMore
attribute [local go_sem] max2_int min2_int max_two min_two max_three min_three max_four min_four   -- for this text's walks alone
set_option linter.unusedVariables false
set_option linter.unusedSimpArgs false
mutual
def spec_l4Least.l0 : Nat → List (S54) → List (S54) → Int → List Int → List Int → Int → Option (Int × Int × Int × Bool)
  | 0, _, _, _, _, _, _ => none
  | k + 1, x0, x1, x2, x9, x10, x11 => if x11 < (x9.length : Int) then (spec_l4Least.l1 k x0 x1 x2 x9 x10 x11 0) else (some (0, 0, 0, false))
def spec_l4Least.l1 : Nat → List (S54) → List (S54) → Int → List Int → List Int → Int → Int → Option (Int × Int × Int × Bool)
  | 0, _, _, _, _, _, _, _ => none
  | k + 1, x0, x1, x2, x9, x10, x11, x12 => if x12 < (x10.length : Int) then (spec_l4Least.l2 k x0 x1 x2 x9 x10 x11 x12 1) else (spec_l4Least.l0 k x0 x1 x2 x9 x10 (wrap64 (x11 + 1)))
def spec_l4Least.l2 : Nat → List (S54) → List (S54) → Int → List Int → List Int → Int → Int → Int → Option (Int × Int × Int × Bool)
  | 0, _, _, _, _, _, _, _, _ => none
  | k + 1, x0, x1, x2, x9, x10, x11, x12, x13 => if x13 ≤ 7 then (if 0 ≤ x11 then (if x11 < (x9.length : Int) then (if 0 ≤ x12 then (if x12 < (x10.length : Int) then ((spec_l4So.f k x0 x1 x2 (rd x9 x11) (rd x10 x12) x13).bind fun t126 => (if t126 = true then (some (rd x9 x11, rd x10 x12, x13, true)) else (spec_l4Least.l2 k x0 x1 x2 x9 x10 x11 x12 (wrap64 (x13 + 1))))) else (none)) else (none)) else (none)) else (none)) else (spec_l4Least.l1 k x0 x1 x2 x9 x10 x11 (wrap64 (x12 + 1)))
end
def spec_l4Least.f (k : Nat) (l0 : List (S54)) (l1 : List (S54)) (a2 : Int) : Option (Int × Int × Int × Bool) := (some (([] : List (S54)) : List (S54))).bind fun y102 => (if y102.length + l0.length < 2932031007402 then ((some (y102 ++ l0 : List (S54))).bind fun y105 => (if y105.length + l1.length < 2932031007402 then ((some (y105 ++ l1 : List (S54))).bind fun y108 => ((spec_l4Froms.f k y108).bind fun t111 => ((spec_l4Firsts.f t111).bind fun t114 => ((spec_l4Tos.f k y108).bind fun t117 => ((spec_l4Firsts.f t117).bind fun t120 => (spec_l4Least.l0 k l0 l1 a2 t114 t120 0)))))) else (none))) else (none))
def spec_l4Least.T13 : Bool × List (List Nat × List Nat) := (true, [([], []), ([], []), ([0, 1], [0, 1]), ([2], [2]), ([], []), ([], []), ([4, 5], [4, 5]), ([6], [6]), ([], []), ([3, 7, 8], [3, 7, 8]), ([], []), ([10, 9, 0, 1, 2, 3, 4, 5, 6, 7, 8, 9, 10], [9, 10])])
def spec_l4Least.B13 : List Nat := [0, 0, 3, 7, 0, 0, 48, 112, 0, 511, 0, 2047]
theorem spec_l4Least.tab13 : rtab .any (opsOf Try.f86 13) = spec_l4Least.T13 := by kernel_rfl
theorem spec_l4Least.bits13 : waitsOk spec_l4Least.T13.2 spec_l4Least.B13 = true := by kernel_rfl
theorem spec_l4Least.zHB {P : Prop} (h : P := by repeat (first | (with_reducible first | exact HB.out | apply below_alloc | apply pw_below_drewN | apply below_drew1 | refine below_set ?_ GE101.out | refine below_set ?_ GE125.out) | exact HB.out)) : P := h
theorem spec_l4Least.zb {P Q : Prop} (x : Q) (h : Q → P := by intro x_; (with_reducible repeat (first | refine blk_drewN ?_ _ | refine blk_drew ?_ | refine blk_alloc ?_ _)); exact x_) : P := h x
theorem spec_l4Least.zr {P Q : Prop} (x : Q) (h : Q → P := by intro x_; (with_reducible repeat (first | apply Kd.R_alloc | apply Kd.R_drewN | apply Kd.R_drew)); exact x_) : P := h x
theorem spec_l4Least.zq {P Q : Prop} (x : Q) (h : Q → P := by intro x_; (with_reducible repeat (first | refine blk_drewN ?_ _ | refine blk_drew ?_ | refine blk_alloc ?_ _)); exact x_) : P := h x
theorem spec_l4Least.zk {P Q : Prop} (x : Q) (h : Q → P := by intro x_; (with_reducible repeat (first | apply Kd.R_alloc | apply Kd.R_drewN | apply Kd.R_drew)); exact x_) : P := h x
def spec_l4Least.zl (n k : Nat) : Array Bool := ((List.range n).map fun i => k.testBit i).toArray
theorem spec_l4Least.y1 {P : Prop} (h : P := by first | exact Kd.own_blk (Kd.R_ne HO_10.out BK125.out (by decide)) | (rw [add_block]; exact Kd.own_blk (Kd.R_ne HO_10.out BK125.out (by decide))) | (show (Addr.add _ _).block ≠ _; rw [add_block]; exact Kd.own_blk (Kd.R_ne HO_10.out BK125.out (by decide))) | (dsimp only; exact Kd.own_blk (Kd.R_ne HO_10.out BK125.out (by decide)))) : P := h
theorem spec_l4Least.y2 {P : Prop} (h : P := by first | exact Kd.own_blk (Kd.R_ne HO_9.out BK125.out (by decide)) | (rw [add_block]; exact Kd.own_blk (Kd.R_ne HO_9.out BK125.out (by decide))) | (show (Addr.add _ _).block ≠ _; rw [add_block]; exact Kd.own_blk (Kd.R_ne HO_9.out BK125.out (by decide))) | (dsimp only; exact Kd.own_blk (Kd.R_ne HO_9.out BK125.out (by decide)))) : P := h
theorem spec_l4Least.y3 {P : Prop} (h : P := by (try simp only [List.map_toArray, List.map_cons, List.map_nil]); first | done | rfl | (simp only [List.length_drop, List.length_take]; rfl)) : P := h
theorem spec_l4Least.y4 {P : Prop} (h : P := by rw [hg]; exact (below_size (zHB))) : P := h
theorem spec_l4Least.y5 {P : Prop} (h : P := by first | (with_reducible assumption) | assumption) : P := h
theorem spec_l4Least.y6 {P : Prop} (h : P := by first | rfl | (simp; done) | (simp [*]; done)) : P := h
theorem spec_l4Least.zA {p : Prop} (h : p) : Aside0 p := ⟨h⟩
set_option maxHeartbeats 8000000 in
set_option maxRecDepth 100000 in
theorem spec_l4Least.calls (k : Nat) (A0 : Option Addr) (c0 : Nat) (l0 : List (S54)) (A1 : Option Addr) (c1 : Nat) (l1 : List (S54)) (a2 : Int) (r1 : Int) (r2 : Int) (r3 : Int) (r4 : Bool) (w : World) (hr0 : Kd.C k54 w A0 l0.length l0) (hc0 : l0.length ≤ c0) (hr1 : Kd.C k54 w A1 l1.length l1) (hc1 : l1.length ≤ c1) (h : spec_l4Least.f k l0 l1 a2 = some (r1, r2, r3, r4)) :
  Calls Try.prog 86 #[.slice A0 l0.length c0, .slice A1 l1.length c1, .int .i64 a2] w fun e w' => e = .returned (.tuple #[.agg #[.int .i64 r1, .int .i64 r2, .int .i64 r3], .bool r4]) ∧ Below w.heap.size w w' := by
 have hu34 := Try.underlying34
 have HR0 := zA hr0
 have HC0 := zA hc0
 clear hr0 hc0
 have HR1 := zA hr1
 have HC1 := zA hc1
 clear hr1 hc1
 have HB := zA (Below.refl w.heap.size w)
 have H : ((some (([] : List (S54)) : List (S54))).bind fun y102 => (if y102.length + l0.length < 2932031007402 then ((some (y102 ++ l0 : List (S54))).bind fun y105 => (if y105.length + l1.length < 2932031007402 then ((some (y105 ++ l1 : List (S54))).bind fun y108 => ((spec_l4Froms.f k y108).bind fun t111 => ((spec_l4Firsts.f t111).bind fun t114 => ((spec_l4Tos.f k y108).bind fun t117 => ((spec_l4Firsts.f t117).bind fun t120 => (spec_l4Least.l0 k l0 l1 a2 t114 t120 0)))))) else (none))) else (none))) = some (r1, r2, r3, r4) := h
 clear h
 obtain ⟨y102, hy102⟩ : ∃ y_ : List (S54), y_ = (([] : List (S54))) := ⟨_, rfl⟩
 replace H : (if y102.length + l0.length < 2932031007402 then ((some (y102 ++ l0 : List (S54))).bind fun y105 => (if y105.length + l1.length < 2932031007402 then ((some (y105 ++ l1 : List (S54))).bind fun y108 => ((spec_l4Froms.f k y108).bind fun t111 => ((spec_l4Firsts.f t111).bind fun t114 => ((spec_l4Tos.f k y108).bind fun t117 => ((spec_l4Firsts.f t117).bind fun t120 => (spec_l4Least.l0 k l0 l1 a2 t114 t120 0)))))) else (none))) else (none)) = some (r1, r2, r3, r4) := by first | (rw [hy102]; with_reducible exact H) | (have H2_ := (Option.bind_some _ _).symm.trans H; rw [hy102]; with_reducible exact H2_) | (have H2_ := (Option.bind_some _ _).symm.trans H; with_reducible exact H2_) | with_reducible exact H | (rw [hy102]; exact H) | exact H
 have Ny102 := zA hy102
 clear hy102
 by_cases c4 : y102.length + l0.length < 2932031007402
 ·rw [if_pos c4] at H
  have LMc4 := zA c4
  clear c4
  obtain ⟨y105, hy105⟩ : ∃ y_ : List (S54), y_ = (y102 ++ l0) := ⟨_, rfl⟩
  replace H : (if y105.length + l1.length < 2932031007402 then ((some (y105 ++ l1 : List (S54))).bind fun y108 => ((spec_l4Froms.f k y108).bind fun t111 => ((spec_l4Firsts.f t111).bind fun t114 => ((spec_l4Tos.f k y108).bind fun t117 => ((spec_l4Firsts.f t117).bind fun t120 => (spec_l4Least.l0 k l0 l1 a2 t114 t120 0)))))) else (none)) = some (r1, r2, r3, r4) := by first | (rw [hy105]; with_reducible exact H) | (have H2_ := (Option.bind_some _ _).symm.trans H; rw [hy105]; with_reducible exact H2_) | (have H2_ := (Option.bind_some _ _).symm.trans H; with_reducible exact H2_) | with_reducible exact H | (rw [hy105]; exact H) | exact H
  have Ny105 := zA hy105
  clear hy105
  by_cases c5 : y105.length + l1.length < 2932031007402
  ·rw [if_pos c5] at H
   have LMc5 := zA c5
   clear c5
   obtain ⟨y108, hy108⟩ : ∃ y_ : List (S54), y_ = (y105 ++ l1) := ⟨_, rfl⟩
   replace H : ((spec_l4Froms.f k y108).bind fun t111 => ((spec_l4Firsts.f t111).bind fun t114 => ((spec_l4Tos.f k y108).bind fun t117 => ((spec_l4Firsts.f t117).bind fun t120 => (spec_l4Least.l0 k l0 l1 a2 t114 t120 0))))) = some (r1, r2, r3, r4) := by first | (rw [hy108]; with_reducible exact H) | (have H2_ := (Option.bind_some _ _).symm.trans H; rw [hy108]; with_reducible exact H2_) | (have H2_ := (Option.bind_some _ _).symm.trans H; with_reducible exact H2_) | with_reducible exact H | (rw [hy108]; exact H) | exact H
   have Ny108 := zA hy108
   clear hy108
   replace H := Option.bind_eq_some_iff.mp H
   obtain ⟨t111, A60, H⟩ := H
   replace H : ((spec_l4Firsts.f t111).bind fun t114 => ((spec_l4Tos.f k y108).bind fun t117 => ((spec_l4Firsts.f t117).bind fun t120 => (spec_l4Least.l0 k l0 l1 a2 t114 t120 0)))) = some (r1, r2, r3, r4) := H
   have A6 := zA A60
   clear A60
   replace H := Option.bind_eq_some_iff.mp H
   obtain ⟨t114, A70, H⟩ := H
   replace H : ((spec_l4Tos.f k y108).bind fun t117 => ((spec_l4Firsts.f t117).bind fun t120 => (spec_l4Least.l0 k l0 l1 a2 t114 t120 0))) = some (r1, r2, r3, r4) := H
   have A7 := zA A70
   clear A70
   replace H := Option.bind_eq_some_iff.mp H
   obtain ⟨t117, A80, H⟩ := H
   replace H : ((spec_l4Firsts.f t117).bind fun t120 => (spec_l4Least.l0 k l0 l1 a2 t114 t120 0)) = some (r1, r2, r3, r4) := H
   have A8 := zA A80
   clear A80
   replace H := Option.bind_eq_some_iff.mp H
   obtain ⟨t120, A90, H⟩ := H
   replace H : (spec_l4Least.l0 k l0 l1 a2 t114 t120 0) = some (r1, r2, r3, r4) := H
   have A9 := zA A90
   clear A90
   have H' := zA H
   clear H
   go_enter Try.func86, Try.ntmps86
   go_wp2_with (first | ((with_reducible refine gate_dst (N := 6) rfl ?_); refine box_event ?hg (N := 6) ?hd (cs := #[.int .i64 0, .int .i64 0, .int .i64 0]) (t := 34) ?hr ?_; (case hd => rfl); (case hg => rfl); (case hr => first | (go_simp; done) | (go_simp; rfl)); intro gb101 hg w10 hbox hb; have n0_ := zA (below_step (zHB) hb); have n1_ := zA (hbox); have n2_ := zA ((by rw [hg]; exact (below_size (zHB)) : w.heap.size ≤ gb101)); have n3_ := zA ((by rw [hg]; exact (below_size (zHB)) : w.heap.size ≤ gb101)); clear HB; have HB := n0_; have BK101 := n1_; have GW101 := n2_; have GE101 := n3_; clear n0_ n1_ n2_ n3_; clear hb hbox hg) | ((with_reducible refine gate_dst (N := 15) rfl ?_); refine Kd.R_lit k54 _ 54 ?hg (N := 15) ?hd (xs := ([] : List (S54))) (inner := []) (ok := fun _ => True) (okp := fun _ => True) ?hr ?hp (fun _ hk => hk) trivial (Below.refl _ _) (Nat.le_refl _) (by simp) ?_; (case hd => rfl); (case hg => rfl); (case hr => first | (go_simp; done) | (go_simp; rfl)); (case hp => exact (Reps.none _ _)); intro v103 w11 ho12 hb hg_ hnew_; clear hg_ hnew_; (first | rw [← Ny102.out] at ho12 | (simp only [Int.reduceToNat] at ho12; rw [← Ny102.out] at ho12)); have n0_ := zA (Kd.R_lower ho12 (below_size (zHB))); have n1_ := zA (blk_below (g := gb101) (o := .cells #[.int .i64 0, .int .i64 0, .int .i64 0] 34 (0, 0)) (zb BK101.out) hb); have n2_ := zA (below_step (zHB) hb); clear BK101; clear HB; have HO104 := n0_; have BK101 := n1_; have HB := n2_; clear n0_ n1_ n2_; clear hb ho12) | ((with_reducible refine gate_builtin (b := .append) (xs := #[.tmp 15, .tmp 16]) rfl ?_); at_builtin; refine Kd.R_append_rows k54 (w0 := w) w.heap.size rfl (.tmp 15) (.tmp 16) 30 54 (.agg #[(.bool false), (.int .i64 0), (.int .i64 0), (.int .i64 0), (.int .i64 0), (.int .i64 0)]) 48 rfl Try.underlying30 info54 rfl (by decide) (by omega) v103 y102 l0 _ _ _ (fun _ => True) (fun _ => False) rfl rfl ?aO ?aR (fun _ _ h => h) (fun _ h => h.elim) ?aF ?aB ?aS ?aL ?_; (case aR => repeat (first | exact (Kd.C_below HR0.out HB.out) | (with_reducible refine Kd.C_alloc ?_ _) | (with_reducible refine Kd.C_drewN ?_ _) | (with_reducible refine Kd.C_drew ?_))); (case aB => exact (zHB)); (case aF => exact (fun _ _ => trivial)); (case aO => exact (zr HO104.out)); (case aS => exact (below_size (zHB))); (case aL => have := LMc4.out; omega); intro v106 w13 ho hb hg hat; rw [← Ny105.out] at ho; have n0_ := zA (blk_grown (g := gb101) (o := .cells #[.int .i64 0, .int .i64 0, .int .i64 0] 34 (0, 0)) (zb BK101.out) hg (Kd.R_ne HO104.out BK101.out (by decide))); have n1_ := zA (hb); have n2_ := zA (ho); clear BK101; clear HB; clear HO104; have BK101 := n0_; have HB := n1_; have HO107 := n2_; clear n0_ n1_ n2_; clear ho hb hg hat) | ((with_reducible refine gate_builtin (b := .append) (xs := #[.tmp 17, .tmp 18]) rfl ?_); at_builtin; refine Kd.R_append_rows k54 (w0 := w) w.heap.size rfl (.tmp 17) (.tmp 18) 30 54 (.agg #[(.bool false), (.int .i64 0), (.int .i64 0), (.int .i64 0), (.int .i64 0), (.int .i64 0)]) 48 rfl Try.underlying30 info54 rfl (by decide) (by omega) v106 y105 l1 _ _ _ (fun _ => True) (fun _ => False) rfl rfl ?aO ?aR (fun _ _ h => h) (fun _ h => h.elim) ?aF ?aB ?aS ?aL ?_; (case aR => repeat (first | exact (Kd.C_below HR1.out HB.out) | (with_reducible refine Kd.C_alloc ?_ _) | (with_reducible refine Kd.C_drewN ?_ _) | (with_reducible refine Kd.C_drew ?_))); (case aB => exact (zHB)); (case aF => exact (fun _ _ => trivial)); (case aO => exact (zr HO107.out)); (case aS => exact (below_size (zHB))); (case aL => have := LMc5.out; omega); intro v109 w14 ho hb hg hat; rw [← Ny108.out] at ho; have n0_ := zA (blk_grown (g := gb101) (o := .cells #[.int .i64 0, .int .i64 0, .int .i64 0] 34 (0, 0)) (zb BK101.out) hg (Kd.R_ne HO107.out BK101.out (by decide))); have n1_ := zA (hb); have n2_ := zA (ho); clear BK101; clear HB; clear HO107; have BK101 := n0_; have HB := n1_; have HO110 := n2_; clear n0_ n1_ n2_; clear ho hb hg hat; obtain ⟨Ao15, co15, eo15⟩ := Kd.R_slice HO110.out; subst eo15) | ((with_reducible refine gate_callee (f := 116) rfl ?_); refine goesL_ (some 21) rfl rfl Try.func116 (by kernel_rfl) rfl #[.slice Ao15 y108.length co15] rfl y3  ?_; (with_reducible refine (spec_l4Froms.calls k _ _ y108 t111 _ ?side1 ?side2 A6.out).mono ?_); (case side1 => repeat (first | exact (Kd.R_reads' HO110.out).2.2 | (with_reducible refine Kd.C_alloc ?_ _) | (with_reducible refine Kd.C_drewN ?_ _) | (with_reducible refine Kd.C_drew ?_))); (case side2 => exact (Kd.R_reads' HO110.out).2.1); rintro e w16 ⟨v112, rfl, ho0, hb⟩; refine ⟨_, rfl, ?_⟩; have n0_ := zA (Kd.R_below (zr HO110.out) hb); have n1_ := zA (Kd.R_lower ho0 (below_size (zHB))); have n2_ := zA (blk_below (g := gb101) (o := .cells #[.int .i64 0, .int .i64 0, .int .i64 0] 34 (0, 0)) (zb BK101.out) hb); have n3_ := zA (below_step (zHB) hb); clear HO110; clear BK101; clear HB; have HO110 := n0_; have HO113 := n1_; have BK101 := n2_; have HB := n3_; clear n0_ n1_ n2_ n3_; (try clear hb); (try clear hb2); (try clear hk); (try clear hi); (try clear ho0); obtain ⟨Ao17, co17, eo17⟩ := Kd.R_slice HO113.out; subst eo17) | ((with_reducible refine gate_callee (f := 115) rfl ?_); refine goesL_ (some 22) rfl rfl Try.func115 (by kernel_rfl) rfl #[.slice Ao17 t111.length co17] rfl y3  ?_; (with_reducible refine (spec_l4Firsts.calls _ _ t111 t114 _ ?side1 ?side2 A7.out).mono ?_); (case side1 => repeat (first | exact (Kd.R_reads' HO113.out).2.2 | (with_reducible refine Kd.C_alloc ?_ _) | (with_reducible refine Kd.C_drewN ?_ _) | (with_reducible refine Kd.C_drew ?_))); (case side2 => exact (Kd.R_reads' HO113.out).2.1); rintro e w18 ⟨v115, rfl, ho0, hb⟩; refine ⟨_, rfl, ?_⟩; have n0_ := zA (Kd.R_below (zr HO110.out) hb); have n1_ := zA (Kd.R_below (zr HO113.out) hb); have n2_ := zA (Kd.R_lower ho0 (below_size (zHB))); have n3_ := zA (blk_below (g := gb101) (o := .cells #[.int .i64 0, .int .i64 0, .int .i64 0] 34 (0, 0)) (zb BK101.out) hb); have n4_ := zA (below_step (zHB) hb); clear HO110; clear HO113; clear BK101; clear HB; have HO110 := n0_; have HO113 := n1_; have HO116 := n2_; have BK101 := n3_; have HB := n4_; clear n0_ n1_ n2_ n3_ n4_; (try clear hb); (try clear hb2); (try clear hk); (try clear hi); (try clear ho0)) | ((with_reducible refine gate_callee (f := 117) rfl ?_); refine goesL_ (some 24) rfl rfl Try.func117 (by kernel_rfl) rfl #[.slice Ao15 y108.length co15] rfl y3  ?_; (with_reducible refine (spec_l4Tos.calls k _ _ y108 t117 _ ?side1 ?side2 A8.out).mono ?_); (case side1 => repeat (first | exact (Kd.R_reads' HO110.out).2.2 | (with_reducible refine Kd.C_alloc ?_ _) | (with_reducible refine Kd.C_drewN ?_ _) | (with_reducible refine Kd.C_drew ?_))); (case side2 => exact (Kd.R_reads' HO110.out).2.1); rintro e w19 ⟨v118, rfl, ho0, hb⟩; refine ⟨_, rfl, ?_⟩; have n0_ := zA (Kd.R_below (zr HO110.out) hb); have n1_ := zA (Kd.R_elder' (zr HO113.out) (Kd.R_base ho0) hb); have n2_ := zA (Kd.R_below (zr HO116.out) hb); have n3_ := zA (Kd.R_lower (Kd.R_new' ho0 (Kd.R_lt (zr HO113.out))) (below_size (zHB))); have n4_ := zA (blk_below (g := gb101) (o := .cells #[.int .i64 0, .int .i64 0, .int .i64 0] 34 (0, 0)) (zb BK101.out) hb); have n5_ := zA (below_step (zHB) hb); clear HO110; clear HO113; clear HO116; clear BK101; clear HB; have HO110 := n0_; have HO113 := n1_; have HO116 := n2_; have HO119 := n3_; have BK101 := n4_; have HB := n5_; clear n0_ n1_ n2_ n3_ n4_ n5_; (try clear hb); (try clear hb2); (try clear hk); (try clear hi); (try clear ho0); obtain ⟨Ao20, co20, eo20⟩ := Kd.R_slice HO119.out; subst eo20) | ((with_reducible refine gate_callee (f := 115) rfl ?_); refine goesL_ (some 25) rfl rfl Try.func115 (by kernel_rfl) rfl #[.slice Ao20 t117.length co20] rfl y3  ?_; (with_reducible refine (spec_l4Firsts.calls _ _ t117 t120 _ ?side1 ?side2 A9.out).mono ?_); (case side1 => repeat (first | exact (Kd.R_reads' HO119.out).2.2 | (with_reducible refine Kd.C_alloc ?_ _) | (with_reducible refine Kd.C_drewN ?_ _) | (with_reducible refine Kd.C_drew ?_))); (case side2 => exact (Kd.R_reads' HO119.out).2.1); rintro e w21 ⟨v121, rfl, ho0, hb⟩; refine ⟨_, rfl, ?_⟩; have n0_ := zA (Kd.R_below (zr HO110.out) hb); have n1_ := zA (Kd.R_below (zr HO113.out) hb); have n2_ := zA (Kd.R_elder' (zr HO116.out) (Kd.R_base ho0) hb); have n3_ := zA (Kd.R_below (zr HO119.out) hb); have n4_ := zA (Kd.R_lower (Kd.R_new' ho0 (Kd.R_lt (zr HO116.out))) (below_size (zHB))); have n5_ := zA (blk_below (g := gb101) (o := .cells #[.int .i64 0, .int .i64 0, .int .i64 0] 34 (0, 0)) (zb BK101.out) hb); have n6_ := zA (below_step (zHB) hb); clear HO110; clear HO113; clear HO116; clear HO119; clear BK101; clear HB; have HO110 := n0_; have HO113 := n1_; have HO116 := n2_; have HO119 := n3_; have HO122 := n4_; have BK101 := n5_; have HB := n6_; clear n0_ n1_ n2_ n3_ n4_ n5_ n6_; (try clear hb); (try clear hb2); (try clear hk); (try clear hi); (try clear ho0)))
   go_loopg [11] k (fun kq v11 w' => ∃ (x11_1 : Int) (x102000_1 : Int) (x102001_1 : Int) (x102002_1 : Int), v11 = .int .i64 x11_1 ∧ Aside0 (spec_l4Least.l0 kq l0 l1 a2 t114 t120 x11_1 = some (r1, r2, r3, r4)) ∧ Aside0 (kq ≤ k) ∧ Aside0 (Kd.R (Kd.int .i64) 3 w' w.heap.size (fun k_ => some k_ ≠ (v121 : Value).ownBlock) v115 t114) ∧ Aside0 (Kd.R (Kd.int .i64) 3 w' w.heap.size (fun k_ => some k_ ≠ (v115 : Value).ownBlock) v121 t120) ∧ Aside0 (w'.heap[gb101]? = some (.cells #[.int .i64 x102000_1, .int .i64 x102001_1, .int .i64 x102002_1] 34 (0, 0))) ∧ Aside0 (Below w.heap.size w w'))
   case atStart => exact ⟨(0), (0), (0), (0), y6 , H', ⟨Nat.le_refl _⟩, ⟨by refine zk ?_; exact Kd.R_mono HO116.out (fun _ hk => hk.2)⟩, ⟨by refine zk ?_; exact Kd.R_mono HO122.out (fun _ hk => hk.2)⟩, ⟨by refine zq ?_; exact BK101.out⟩, ⟨zHB⟩⟩
   case round =>
    clear H'
    try clear c1
    try clear p2
    try clear c4
    try clear c5
    try clear c8
    try clear c11
    obtain ⟨x11_1, x102000_1, x102001_1, x102002_1, rfl, HA, HK1, HO_9, HO_10, BK101, HB⟩ := hrel
    cases gk with
    | zero => exact absurd HA.out (by simp [spec_l4Least.l0])
    | succ k1 => ?_
    have H := HA.out
    clear HA
    simp only [spec_l4Least.l0] at H
    by_cases c22 : x11_1 < (t114.length : Int)
    ·rw [if_pos c22] at H
     have c22b0 : decide (x11_1 < (t114.length : Int)) = true := decide_eq_true c22
     clear c22
     have H' := zA H
     clear H
     obtain ⟨Ao23, co23, eo23⟩ := Kd.R_slice HO_9.out
     subst eo23
     go_wp2
     go_loopg [12] k1 (fun kq v12 w' => ∃ (x12_2 : Int) (x102000_2 : Int) (x102001_2 : Int) (x102002_2 : Int), v12 = .int .i64 x12_2 ∧ Aside0 (spec_l4Least.l1 kq l0 l1 a2 t114 t120 x11_1 x12_2 = some (r1, r2, r3, r4)) ∧ Aside0 (kq ≤ k1) ∧ Aside0 (Kd.R (Kd.int .i64) 3 w' w.heap.size (fun k_ => some k_ ≠ (v121 : Value).ownBlock) (.slice Ao23 t114.length co23) t114) ∧ Aside0 (Kd.R (Kd.int .i64) 3 w' w.heap.size (fun k_ => some k_ ≠ ((.slice Ao23 t114.length co23) : Value).ownBlock) v121 t120) ∧ Aside0 (w'.heap[gb101]? = some (.cells #[.int .i64 x102000_2, .int .i64 x102001_2, .int .i64 x102002_2] 34 (0, 0))) ∧ Aside0 (Below w.heap.size w w'))
     case atStart => exact ⟨(0), (x102000_1), (x102001_1), (x102002_1), y6 , H', ⟨Nat.le_refl _⟩, ⟨by refine zk ?_; exact HO_9.out⟩, ⟨by refine zk ?_; exact HO_10.out⟩, ⟨by refine zq ?_; exact BK101.out⟩, ⟨zHB⟩⟩
     case round =>
      clear H'
      try clear c1
      try clear c2
      try clear p2
      try clear c4
      try clear c5
      try clear c8
      try clear c11
      try clear c22
      try clear c22b0
      try clear p2
      obtain ⟨x12_2, x102000_2, x102001_2, x102002_2, rfl, HA, HK2, HO_9, HO_10, BK101, HB⟩ := hrel
      cases gk with
      | zero => exact absurd HA.out (by simp [spec_l4Least.l1])
      | succ k2 => ?_
      have H := HA.out
      clear HA
      simp only [spec_l4Least.l1] at H
      by_cases c24 : x12_2 < (t120.length : Int)
      ·rw [if_pos c24] at H
       have c24b0 : decide (x12_2 < (t120.length : Int)) = true := decide_eq_true c24
       clear c24
       have H' := zA H
       clear H
       obtain ⟨Ao25, co25, eo25⟩ := Kd.R_slice HO_10.out
       subst eo25
       go_wp2
       go_loopg [13] k2 (fun kq v13 w' => ∃ (x13_3 : Int) (x102000_3 : Int) (x102001_3 : Int) (x102002_3 : Int), v13 = .int .i64 x13_3 ∧ Aside0 (spec_l4Least.l2 kq l0 l1 a2 t114 t120 x11_1 x12_2 x13_3 = some (r1, r2, r3, r4)) ∧ Aside0 (kq ≤ k2) ∧ Aside0 (Kd.R (Kd.int .i64) 3 w' w.heap.size (fun k_ => some k_ ≠ ((.slice Ao25 t120.length co25) : Value).ownBlock) (.slice Ao23 t114.length co23) t114) ∧ Aside0 (Kd.R (Kd.int .i64) 3 w' w.heap.size (fun k_ => some k_ ≠ ((.slice Ao23 t114.length co23) : Value).ownBlock) (.slice Ao25 t120.length co25) t120) ∧ Aside0 (w'.heap[gb101]? = some (.cells #[.int .i64 x102000_3, .int .i64 x102001_3, .int .i64 x102002_3] 34 (0, 0))) ∧ Aside0 (Below w.heap.size w w'))
       case atStart => exact ⟨(1), (x102000_2), (x102001_2), (x102002_2), y6 , H', ⟨Nat.le_refl _⟩, ⟨by refine zk ?_; exact HO_9.out⟩, ⟨by refine zk ?_; exact HO_10.out⟩, ⟨by refine zq ?_; exact BK101.out⟩, ⟨zHB⟩⟩
       case round =>
        clear H'
        try clear c1
        try clear c2
        try clear p2
        try clear c4
        try clear c5
        try clear c8
        try clear c11
        try clear c22
        try clear c22b0
        try clear c24
        try clear c24b0
        try clear p2
        obtain ⟨x13_3, x102000_3, x102001_3, x102002_3, rfl, HA, HK3, HO_9, HO_10, BK101, HB⟩ := hrel
        cases gk with
        | zero => exact absurd HA.out (by simp [spec_l4Least.l2])
        | succ k3 => ?_
        have H := HA.out
        clear HA
        simp only [spec_l4Least.l2] at H
        by_cases c26 : x13_3 ≤ 7
        ·rw [if_pos c26] at H
         have c26b0 : decide (x13_3 ≤ 7) = true := decide_eq_true c26
         clear c26
         by_cases c27 : 0 ≤ x11_1
         ·rw [if_pos c27] at H
          have c27b0 : decide (0 ≤ x11_1) = true := decide_eq_true c27
          clear c27
          by_cases c28 : x11_1 < (t114.length : Int)
          ·rw [if_pos c28] at H
           have c28b0 : decide (x11_1 < (t114.length : Int)) = true := decide_eq_true c28
           clear c28
           by_cases c29 : 0 ≤ x12_2
           ·rw [if_pos c29] at H
            have c29b0 : decide (0 ≤ x12_2) = true := decide_eq_true c29
            clear c29
            by_cases c30 : x12_2 < (t120.length : Int)
            ·rw [if_pos c30] at H
             have c30b0 : decide (x12_2 < (t120.length : Int)) = true := decide_eq_true c30
             clear c30
             replace H := Option.bind_eq_some_iff.mp H
             obtain ⟨t126, A310, H⟩ := H
             replace H : (if t126 = true then (some (rd t114 x11_1, rd t120 x12_2, x13_3, true)) else (spec_l4Least.l2 k3 l0 l1 a2 t114 t120 x11_1 x12_2 (wrap64 (x13_3 + 1)))) = some (r1, r2, r3, r4) := H
             have A31 := zA A310
             clear A310
             by_cases c32 : t126 = true
             ·subst c32
              have H1 : (some (rd t114 x11_1, rd t120 x12_2, x13_3, true)) = some (r1, r2, r3, r4) := by rw [if_pos rfl] at H; exact H
              clear H
              have H := H1
              clear H1
              simp only [Option.some.injEq, Prod.mk.injEq] at H
              obtain ⟨rfl, rfl, rfl, rfl⟩ := H
              try go_wp2
              have n0_ := zA (Kd.R_drew HO_9.out)
              have n1_ := zA (Kd.R_drew HO_10.out)
              have n2_ := zA (blk_drew BK101.out)
              have n3_ := zA (below_drew1 HB.out)
              clear HO_9
              clear HO_10
              clear BK101
              clear HB
              have HO_9 := n0_
              have HO_10 := n1_
              have BK101 := n2_
              have HB := n3_
              clear n0_ n1_ n2_ n3_
              have p123 : 0 ≤ (x11_1 : Int) := of_decide_eq_true y5 
              have q123 : x11_1 < (t114.length : Int) := of_decide_eq_true y5 
              obtain ⟨ad123, e123, hx123_0⟩ := Kd.at_int (Kd.R_reads' HO_9.out).2.2 x11_1 p123 q123
              cases e123
              replace p123 := eq_true p123
              replace q123 := eq_true q123
              have p124 : 0 ≤ (x12_2 : Int) := of_decide_eq_true y5 
              have q124 : x12_2 < (t120.length : Int) := of_decide_eq_true y5 
              obtain ⟨ad124, e124, hx124_0⟩ := Kd.at_int (Kd.R_reads' HO_10.out).2.2 x12_2 p124 q124
              cases e124
              replace p124 := eq_true p124
              replace q124 := eq_true q124
              refine start_ (n := 12) (S := fun w' => w'.cell? (ad123.add (x11_1).toNat) = some (.int .i64 (rd t114 x11_1)) ∧ w'.cell? (ad124.add (x12_2).toNat) = some (.int .i64 (rd t120 x12_2))) (ds := []) (zl 12 0) (by kernel_rfl) rfl rfl ⟨hx123_0, hx124_0⟩ (fun hHeld => ?_); refine with_tabW spec_l4Least.tab13 spec_l4Least.bits13 (fun HT_ HW_ => ?_)
              generalize wr.drew = w33 at HO_9 HO_10 BK101 HB hx123_0 hx124_0 hHeld ⊢
              refine pure_ (i := 0) (N := some 42) (v := ?_) (a' := ?_) (zl 12 1) rfl rfl (any_of HT_.out (by kernel_rfl)) (fun _ _ _ h => h) (Or.inl ⟨by rfl, ?_⟩) ?_ ?_
              rotate_left
              ·intro w'
               go_simp
               with_reducible rfl
              rotate_left
              ·simp only [Act.put, List.setIfInBounds_toArray, List.set_cons_zero, List.set_cons_succ, i64_w, i32_w]
               rfl
              refine pure_ (i := 1) (N := some 43) (v := ?_) (a' := ?_) (zl 12 3) rfl rfl (any_of HT_.out (by kernel_rfl)) (fun _ _ _ h => h) (Or.inl ⟨by rfl, ?_⟩) ?_ ?_
              rotate_left
              ·intro w'
               go_simp
               with_reducible rfl
              rotate_left
              ·simp only [Act.put, List.setIfInBounds_toArray, List.set_cons_zero, List.set_cons_succ, i64_w, i32_w]
               rfl
              refine pure_ (i := 2) (N := some 44) (v := ?_) (a' := ?_) (zl 12 7) rfl rfl (any_of HT_.out (by kernel_rfl)) (fun _ _ _ h => h) (Or.inl ⟨by rfl, ?_⟩) ?_ ?_
              rotate_left
              ·intro w'
               go_simp
               with_reducible rfl
              rotate_left
              ·simp only [Act.put, List.setIfInBounds_toArray, List.set_cons_zero, List.set_cons_succ, i64_w, i32_w]
               rfl
              refine pure_ (i := 4) (N := some 46) (v := ?_) (a' := ?_) (zl 12 23) rfl rfl (any_of HT_.out (by kernel_rfl)) (fun _ _ _ h => h) (Or.inl ⟨by rfl, ?_⟩) ?_ ?_
              rotate_left
              ·intro w'
               go_simp
               with_reducible rfl
              rotate_left
              ·simp only [Act.put, List.setIfInBounds_toArray, List.set_cons_zero, List.set_cons_succ, i64_w, i32_w]
               rfl
              refine pure_ (i := 5) (N := some 47) (v := ?_) (a' := ?_) (zl 12 55) rfl rfl (any_of HT_.out (by kernel_rfl)) (fun _ _ _ h => h) (Or.inl ⟨by rfl, ?_⟩) ?_ ?_
              rotate_left
              ·intro w'
               go_simp
               with_reducible rfl
              rotate_left
              ·simp only [Act.put, List.setIfInBounds_toArray, List.set_cons_zero, List.set_cons_succ, i64_w, i32_w]
               rfl
              refine pure_ (i := 6) (N := some 48) (v := ?_) (a' := ?_) (zl 12 119) rfl rfl (any_of HT_.out (by kernel_rfl)) (fun _ _ _ h => h) (Or.inl ⟨by rfl, ?_⟩) ?_ ?_
              rotate_left
              ·intro w'
               go_simp
               with_reducible rfl
              rotate_left
              ·simp only [Act.put, List.setIfInBounds_toArray, List.set_cons_zero, List.set_cons_succ, i64_w, i32_w]
               rfl
              refine pure_ (i := 8) (N := some 50) (v := ?_) (a' := ?_) (zl 12 375) rfl rfl (any_of HT_.out (by kernel_rfl)) (fun _ _ _ h => h) (Or.inl ⟨by rfl, ?_⟩) ?_ ?_
              rotate_left
              ·intro w'
               go_simp
               with_reducible rfl
              rotate_left
              ·simp only [Act.put, List.setIfInBounds_toArray, List.set_cons_zero, List.set_cons_succ, i64_w, i32_w]
               rfl
              refine take_ (i := 3) (N := some 45) (v := ?_) (a' := ?_) (zl 12 383) rfl rfl (take_ofW HT_.out HW_.out (by kernel_rfl)) (fun _ _ _ h => h) (Or.inl ⟨by rfl, ?_⟩) hHeld ?_ ?_
              rotate_left
              ·rintro w' ⟨s0, s1⟩
               go_simp
               with_reducible rfl
              rotate_left
              ·simp only [Act.put, List.setIfInBounds_toArray, List.set_cons_zero, List.set_cons_succ, i64_w, i32_w]
               rfl
              refine take_ (i := 7) (N := some 49) (v := ?_) (a' := ?_) (zl 12 511) rfl rfl (take_ofW HT_.out HW_.out (by kernel_rfl)) (fun _ _ _ h => h) (Or.inl ⟨by rfl, ?_⟩) hHeld ?_ ?_
              rotate_left
              ·rintro w' ⟨s0, s1⟩
               go_simp
               with_reducible rfl
              rotate_left
              ·simp only [Act.put, List.setIfInBounds_toArray, List.set_cons_zero, List.set_cons_succ, i64_w, i32_w]
               rfl
              refine pure_ (i := 9) (N := some 51) (v := ?_) (a' := ?_) (zl 12 1023) rfl rfl (any_of HT_.out (by kernel_rfl)) (fun _ _ _ h => h) (Or.inl ⟨by rfl, ?_⟩) ?_ ?_
              rotate_left
              ·intro w'
               go_simp
               with_reducible rfl
              rotate_left
              ·simp only [Act.put, List.setIfInBounds_toArray, List.set_cons_zero, List.set_cons_succ, i64_w, i32_w]
               rfl
              refine one_ (i := 10) (N := some 14) (zl 12 2047) rfl rfl (one_of HT_.out (by kernel_rfl)) (by decide) (fun K hK => ?_)
              refine box_step ?hg (N := 14) ?hd (cs := #[.int .i64 0, .int .i64 0, .int .i64 0]) (t := 34) ?hr ?_; (case hd => rfl); (case hg => rfl); (case hr => first | (go_simp; done) | (go_simp; rfl))
              intro gb125 hg w34 hbox hb
              have HS0_ := (hb.cell (World.block_lt_of_cell? _ _ (hHeld.1))).trans (hHeld.1)
              have HS1_ := (hb.cell (World.block_lt_of_cell? _ _ (hHeld.2))).trans (hHeld.2)
              have n0_ := zA (Kd.R_below (zr HO_9.out) hb)
              have n1_ := zA (Kd.R_below (zr HO_10.out) hb)
              have n2_ := zA (blk_below (g := gb101) (o := .cells #[.int .i64 x102000_3, .int .i64 x102001_3, .int .i64 x102002_3] 34 (0, 0)) (zb BK101.out) hb)
              have n3_ := zA (below_step (zHB) hb)
              have n4_ := zA (hbox)
              have n5_ := zA ((show w.heap.size ≤ gb125 from y4))
              have n6_ := zA ((show w.heap.size ≤ gb125 from y4))
              have n7_ := zA ((by rw [hg]; exact Nat.ne_of_lt (blk_lt (g := gb101) (o := .cells #[.int .i64 x102000_3, .int .i64 x102001_3, .int .i64 x102002_3] 34 (0, 0)) (zb BK101.out)) : gb101 ≠ gb125))
              have n8_ := zA ((by rw [hg]; exact Nat.ne_of_gt (blk_lt (g := gb101) (o := .cells #[.int .i64 x102000_3, .int .i64 x102001_3, .int .i64 x102002_3] 34 (0, 0)) (zb BK101.out)) : gb125 ≠ gb101))
              clear HO_9
              clear HO_10
              clear BK101
              clear HB
              have HO_9 := n0_
              have HO_10 := n1_
              have BK101 := n2_
              have HB := n3_
              have BK125 := n4_
              have GW125 := n5_
              have GE125 := n6_
              have NB101_125 := n7_
              have NB125_101 := n8_
              clear n0_ n1_ n2_ n3_ n4_ n5_ n6_ n7_ n8_
              clear hb hbox hg
              refine hK.out _ _ ⟨HS0_, HS1_⟩ (fun hHeld => ?_)
              clear hK K
              refine norm_ (a' := ?_) ?_ ?_
              rotate_left
              ·show Act.put _ (some 14) _ = _
               simp only [Act.put, List.setIfInBounds_toArray, List.set_cons_zero, List.set_cons_succ, i64_w, i32_w]
               rfl
              refine one_ (i := 11) (N := none) (zl 12 4095) rfl rfl (one_of HT_.out (by kernel_rfl)) (by decide) (fun K hK => ?_)
              have hs35 : w34.cell? ⟨gb125, 0, none⟩ = some (.int .i64 0) := (blk_cell BK125.out 0).trans rfl
              have hfs35 := blk_frozen BK125.out 0
              have hns35_0 := NB101_125.out
              have hms35_0 := NB125_101.out
              have hs36 : w34.cell? ⟨gb125, 1, none⟩ = some (.int .i64 0) := (blk_cell BK125.out 1).trans rfl
              have hfs36 := blk_frozen BK125.out 1
              have hns36_0 := NB101_125.out
              have hms36_0 := NB125_101.out
              have hs37 : w34.cell? ⟨gb125, 2, none⟩ = some (.int .i64 0) := (blk_cell BK125.out 2).trans rfl
              have hfs37 := blk_frozen BK125.out 2
              have hns37_0 := NB101_125.out
              have hms37_0 := NB125_101.out
              refine skip_ (w1 := ?_) (by rfl) rfl ?_ ?_
              rotate_left
              ·go_simp
               rfl
              refine hK.out _ _ ⟨((cell_far (p := ⟨gb125, _, none⟩) y2  _).trans (((cell_far (p := ⟨gb125, _, none⟩) y2  _).trans (((cell_far (p := ⟨gb125, _, none⟩) y2  _).trans (hHeld.1)))))), ((cell_far (p := ⟨gb125, _, none⟩) y1  _).trans (((cell_far (p := ⟨gb125, _, none⟩) y1  _).trans (((cell_far (p := ⟨gb125, _, none⟩) y1  _).trans (hHeld.2))))))⟩ (fun hHeld => ?_)
              clear hK K
              refine done_ (done_of HT_.out (by kernel_rfl)) ?_
              have hnb38 := NB125_101.out
              have hnc38 := NB101_125.out
              have hcz39_0 : w34.cell? ⟨gb125, 0, none⟩ = some (.int .i64 0) := (blk_cell BK125.out 0).trans rfl
              have hcz39_1 : w34.cell? ⟨gb125, 1, none⟩ = some (.int .i64 0) := (blk_cell BK125.out 1).trans rfl
              have hcz39_2 : w34.cell? ⟨gb125, 2, none⟩ = some (.int .i64 0) := (blk_cell BK125.out 2).trans rfl
              have hfz39_0 := blk_frozen BK125.out 0
              have hfz39_1 := blk_frozen BK125.out 1
              have hfz39_2 := blk_frozen BK125.out 2
              try go_wp2_with (first | ((with_reducible refine gate_callee (f := 118) rfl ?_); refine goesL_ (some 56) rfl rfl Try.func118 (by kernel_rfl) rfl #[.slice A0 l0.length c0, .slice A1 l1.length c1, .int .i64 a2, .agg #[.int .i64 (rd t114 x11_1), .int .i64 (rd t120 x12_2), .int .i64 x13_3]] rfl y3  ?_; (with_reducible refine (spec_l4So.calls k3 _ _ l0 _ _ l1 a2 (rd t114 x11_1) (rd t120 x12_2) x13_3 true _ ?side1 ?side2 ?side3 ?side4 A31.out).mono ?_); (case side1 => exact Kd.C_below HR0.out (zHB)); (case side2 => exact HC0.out); (case side3 => exact Kd.C_below HR1.out (zHB)); (case side4 => exact HC1.out); rintro e w40 ⟨rfl, hb⟩; refine ⟨_, rfl, ?_⟩; have n0_ := zA (Kd.R_below (by refine zk ?_; exact (Kd.R_mono (Kd.R_far (p := ⟨gb125, 2, none⟩) (Kd.R_far (p := ⟨gb125, 1, none⟩) (Kd.R_far (p := ⟨gb125, 0, none⟩) (Kd.R_types HO_9.out BK125.out (by decide)) (fun _ hk => hk.2) (.int .i64 (rd t114 x11_1))) (fun _ hk => hk.2) (.int .i64 (rd t120 x12_2))) (fun _ hk => hk.2) (.int .i64 x13_3)) (fun _ h_ => h_.1))) hb); have n1_ := zA (Kd.R_below (by refine zk ?_; exact (Kd.R_mono (Kd.R_far (p := ⟨gb125, 2, none⟩) (Kd.R_far (p := ⟨gb125, 1, none⟩) (Kd.R_far (p := ⟨gb125, 0, none⟩) (Kd.R_types HO_10.out BK125.out (by decide)) (fun _ hk => hk.2) (.int .i64 (rd t114 x11_1))) (fun _ hk => hk.2) (.int .i64 (rd t120 x12_2))) (fun _ hk => hk.2) (.int .i64 x13_3)) (fun _ h_ => h_.1))) hb); have n2_ := zA (blk_below (g := gb101) (o := .cells #[.int .i64 x102000_3, .int .i64 x102001_3, .int .i64 x102002_3] 34 (0, 0)) (by refine zq ?_; refine blk_far ?_ NB101_125.out _; refine zq ?_; refine blk_far ?_ NB101_125.out _; refine zq ?_; refine blk_far ?_ NB101_125.out _; refine zq ?_; exact BK101.out) hb); have n3_ := zA (blk_below (g := gb125) (o := .cells #[.int .i64 (rd t114 x11_1), .int .i64 (rd t120 x12_2), .int .i64 x13_3] 34 (0, 0)) (by refine zq ?_; refine blk_put (cs := #[.int .i64 (rd t114 x11_1), .int .i64 (rd t120 x12_2), .int .i64 0]) ?_ 2 _ rfl; refine zq ?_; refine blk_put (cs := #[.int .i64 (rd t114 x11_1), .int .i64 0, .int .i64 0]) ?_ 1 _ rfl; refine zq ?_; refine blk_put (cs := #[.int .i64 0, .int .i64 0, .int .i64 0]) ?_ 0 _ rfl; refine zq ?_; exact BK125.out) hb); have n4_ := zA (below_step (zHB) hb); clear HO_9; clear HO_10; clear BK101; clear BK125; clear HB; have HO_9 := n0_; have HO_10 := n1_; have BK101 := n2_; have BK125 := n3_; have HB := n4_; clear n0_ n1_ n2_ n3_ n4_; (try clear hb); (try clear hb2); (try clear hk); (try clear hi); have hcz41_0 : w40.cell? ⟨gb125, 0, none⟩ = some (.int .i64 (rd t114 x11_1)) := (blk_cell BK125.out 0).trans rfl; have hcz41_1 : w40.cell? ⟨gb125, 1, none⟩ = some (.int .i64 (rd t120 x12_2)) := (blk_cell BK125.out 1).trans rfl; have hcz41_2 : w40.cell? ⟨gb125, 2, none⟩ = some (.int .i64 x13_3) := (blk_cell BK125.out 2).trans rfl; have hfz41_0 := blk_frozen BK125.out 0; have hfz41_1 := blk_frozen BK125.out 1; have hfz41_2 := blk_frozen BK125.out 2; have hcz42_0 : w40.cell? ⟨gb101, 0, none⟩ = some (.int .i64 x102000_3) := (blk_cell BK101.out 0).trans rfl; have hcz42_1 : w40.cell? ⟨gb101, 1, none⟩ = some (.int .i64 x102001_3) := (blk_cell BK101.out 1).trans rfl; have hcz42_2 : w40.cell? ⟨gb101, 2, none⟩ = some (.int .i64 x102002_3) := (blk_cell BK101.out 2).trans rfl; have hfz42_0 := blk_frozen BK101.out 0; have hfz42_1 := blk_frozen BK101.out 1; have hfz42_2 := blk_frozen BK101.out 2))
              refine bodyPost_ret (results_ct rfl _ _ gb101 34 #[.int .i64 (rd t114 x11_1), .int .i64 (rd t120 x12_2), .int .i64 x13_3] (0, 0) _ rfl (by refine zq ?_; refine blk_put (cs := #[.int .i64 (rd t114 x11_1), .int .i64 (rd t120 x12_2), .int .i64 x102002_3]) ?_ 2 _ rfl; refine zq ?_; refine blk_put (cs := #[.int .i64 (rd t114 x11_1), .int .i64 x102001_3, .int .i64 x102002_3]) ?_ 1 _ rfl; refine zq ?_; refine blk_put (cs := #[.int .i64 x102000_3, .int .i64 x102001_3, .int .i64 x102002_3]) ?_ 0 _ rfl; refine zq ?_; exact BK101.out) Try.underlying34 rfl (by kernel_rfl)) rfl ?_
              exact ⟨by first | rfl | (simp [errW_none, errW_some] <;> rfl) | (simp [*, errW_none, errW_some] <;> rfl), zHB⟩
             replace c32 := Bool.eq_false_iff.mpr c32
             subst c32
             have H1 : (spec_l4Least.l2 k3 l0 l1 a2 t114 t120 x11_1 x12_2 (wrap64 (x13_3 + 1))) = some (r1, r2, r3, r4) := by rw [if_neg (show ¬ (false = true) by decide)] at H; exact H
             clear H
             have H := H1
             clear H1
             have H' := zA H
             clear H
             try go_wp2
             have n0_ := zA (Kd.R_drew HO_9.out)
             have n1_ := zA (Kd.R_drew HO_10.out)
             have n2_ := zA (blk_drew BK101.out)
             have n3_ := zA (below_drew1 HB.out)
             clear HO_9
             clear HO_10
             clear BK101
             clear HB
             have HO_9 := n0_
             have HO_10 := n1_
             have BK101 := n2_
             have HB := n3_
             clear n0_ n1_ n2_ n3_
             have p123 : 0 ≤ (x11_1 : Int) := of_decide_eq_true y5 
             have q123 : x11_1 < (t114.length : Int) := of_decide_eq_true y5 
             obtain ⟨ad123, e123, hx123_0⟩ := Kd.at_int (Kd.R_reads' HO_9.out).2.2 x11_1 p123 q123
             cases e123
             replace p123 := eq_true p123
             replace q123 := eq_true q123
             have p124 : 0 ≤ (x12_2 : Int) := of_decide_eq_true y5 
             have q124 : x12_2 < (t120.length : Int) := of_decide_eq_true y5 
             obtain ⟨ad124, e124, hx124_0⟩ := Kd.at_int (Kd.R_reads' HO_10.out).2.2 x12_2 p124 q124
             cases e124
             replace p124 := eq_true p124
             replace q124 := eq_true q124
             refine start_ (n := 12) (S := fun w' => w'.cell? (ad123.add (x11_1).toNat) = some (.int .i64 (rd t114 x11_1)) ∧ w'.cell? (ad124.add (x12_2).toNat) = some (.int .i64 (rd t120 x12_2))) (ds := []) (zl 12 0) (by kernel_rfl) rfl rfl ⟨hx123_0, hx124_0⟩ (fun hHeld => ?_); refine with_tabW spec_l4Least.tab13 spec_l4Least.bits13 (fun HT_ HW_ => ?_)
             generalize wr.drew = w43 at HO_9 HO_10 BK101 HB hx123_0 hx124_0 hHeld ⊢
             refine pure_ (i := 0) (N := some 42) (v := ?_) (a' := ?_) (zl 12 1) rfl rfl (any_of HT_.out (by kernel_rfl)) (fun _ _ _ h => h) (Or.inl ⟨by rfl, ?_⟩) ?_ ?_
             rotate_left
             ·intro w'
              go_simp
              with_reducible rfl
             rotate_left
             ·simp only [Act.put, List.setIfInBounds_toArray, List.set_cons_zero, List.set_cons_succ, i64_w, i32_w]
              rfl
             refine pure_ (i := 1) (N := some 43) (v := ?_) (a' := ?_) (zl 12 3) rfl rfl (any_of HT_.out (by kernel_rfl)) (fun _ _ _ h => h) (Or.inl ⟨by rfl, ?_⟩) ?_ ?_
             rotate_left
             ·intro w'
              go_simp
              with_reducible rfl
             rotate_left
             ·simp only [Act.put, List.setIfInBounds_toArray, List.set_cons_zero, List.set_cons_succ, i64_w, i32_w]
              rfl
             refine pure_ (i := 2) (N := some 44) (v := ?_) (a' := ?_) (zl 12 7) rfl rfl (any_of HT_.out (by kernel_rfl)) (fun _ _ _ h => h) (Or.inl ⟨by rfl, ?_⟩) ?_ ?_
             rotate_left
             ·intro w'
              go_simp
              with_reducible rfl
             rotate_left
             ·simp only [Act.put, List.setIfInBounds_toArray, List.set_cons_zero, List.set_cons_succ, i64_w, i32_w]
              rfl
             refine pure_ (i := 4) (N := some 46) (v := ?_) (a' := ?_) (zl 12 23) rfl rfl (any_of HT_.out (by kernel_rfl)) (fun _ _ _ h => h) (Or.inl ⟨by rfl, ?_⟩) ?_ ?_
             rotate_left
             ·intro w'
              go_simp
              with_reducible rfl
             rotate_left
             ·simp only [Act.put, List.setIfInBounds_toArray, List.set_cons_zero, List.set_cons_succ, i64_w, i32_w]
              rfl
             refine pure_ (i := 5) (N := some 47) (v := ?_) (a' := ?_) (zl 12 55) rfl rfl (any_of HT_.out (by kernel_rfl)) (fun _ _ _ h => h) (Or.inl ⟨by rfl, ?_⟩) ?_ ?_
             rotate_left
             ·intro w'
              go_simp
              with_reducible rfl
             rotate_left
             ·simp only [Act.put, List.setIfInBounds_toArray, List.set_cons_zero, List.set_cons_succ, i64_w, i32_w]
              rfl
             refine pure_ (i := 6) (N := some 48) (v := ?_) (a' := ?_) (zl 12 119) rfl rfl (any_of HT_.out (by kernel_rfl)) (fun _ _ _ h => h) (Or.inl ⟨by rfl, ?_⟩) ?_ ?_
             rotate_left
             ·intro w'
              go_simp
              with_reducible rfl
             rotate_left
             ·simp only [Act.put, List.setIfInBounds_toArray, List.set_cons_zero, List.set_cons_succ, i64_w, i32_w]
              rfl
             refine pure_ (i := 8) (N := some 50) (v := ?_) (a' := ?_) (zl 12 375) rfl rfl (any_of HT_.out (by kernel_rfl)) (fun _ _ _ h => h) (Or.inl ⟨by rfl, ?_⟩) ?_ ?_
             rotate_left
             ·intro w'
              go_simp
              with_reducible rfl
             rotate_left
             ·simp only [Act.put, List.setIfInBounds_toArray, List.set_cons_zero, List.set_cons_succ, i64_w, i32_w]
              rfl
             refine take_ (i := 3) (N := some 45) (v := ?_) (a' := ?_) (zl 12 383) rfl rfl (take_ofW HT_.out HW_.out (by kernel_rfl)) (fun _ _ _ h => h) (Or.inl ⟨by rfl, ?_⟩) hHeld ?_ ?_
             rotate_left
             ·rintro w' ⟨s0, s1⟩
              go_simp
              with_reducible rfl
             rotate_left
             ·simp only [Act.put, List.setIfInBounds_toArray, List.set_cons_zero, List.set_cons_succ, i64_w, i32_w]
              rfl
             refine take_ (i := 7) (N := some 49) (v := ?_) (a' := ?_) (zl 12 511) rfl rfl (take_ofW HT_.out HW_.out (by kernel_rfl)) (fun _ _ _ h => h) (Or.inl ⟨by rfl, ?_⟩) hHeld ?_ ?_
             rotate_left
             ·rintro w' ⟨s0, s1⟩
              go_simp
              with_reducible rfl
             rotate_left
             ·simp only [Act.put, List.setIfInBounds_toArray, List.set_cons_zero, List.set_cons_succ, i64_w, i32_w]
              rfl
             refine pure_ (i := 9) (N := some 51) (v := ?_) (a' := ?_) (zl 12 1023) rfl rfl (any_of HT_.out (by kernel_rfl)) (fun _ _ _ h => h) (Or.inl ⟨by rfl, ?_⟩) ?_ ?_
             rotate_left
             ·intro w'
              go_simp
              with_reducible rfl
             rotate_left
             ·simp only [Act.put, List.setIfInBounds_toArray, List.set_cons_zero, List.set_cons_succ, i64_w, i32_w]
              rfl
             refine one_ (i := 10) (N := some 14) (zl 12 2047) rfl rfl (one_of HT_.out (by kernel_rfl)) (by decide) (fun K hK => ?_)
             refine box_step ?hg (N := 14) ?hd (cs := #[.int .i64 0, .int .i64 0, .int .i64 0]) (t := 34) ?hr ?_; (case hd => rfl); (case hg => rfl); (case hr => first | (go_simp; done) | (go_simp; rfl))
             intro gb125 hg w44 hbox hb
             have HS0_ := (hb.cell (World.block_lt_of_cell? _ _ (hHeld.1))).trans (hHeld.1)
             have HS1_ := (hb.cell (World.block_lt_of_cell? _ _ (hHeld.2))).trans (hHeld.2)
             have n0_ := zA (Kd.R_below (zr HO_9.out) hb)
             have n1_ := zA (Kd.R_below (zr HO_10.out) hb)
             have n2_ := zA (blk_below (g := gb101) (o := .cells #[.int .i64 x102000_3, .int .i64 x102001_3, .int .i64 x102002_3] 34 (0, 0)) (zb BK101.out) hb)
             have n3_ := zA (below_step (zHB) hb)
             have n4_ := zA (hbox)
             have n5_ := zA ((show w.heap.size ≤ gb125 from y4))
             have n6_ := zA ((show w.heap.size ≤ gb125 from y4))
             have n7_ := zA ((by rw [hg]; exact Nat.ne_of_lt (blk_lt (g := gb101) (o := .cells #[.int .i64 x102000_3, .int .i64 x102001_3, .int .i64 x102002_3] 34 (0, 0)) (zb BK101.out)) : gb101 ≠ gb125))
             have n8_ := zA ((by rw [hg]; exact Nat.ne_of_gt (blk_lt (g := gb101) (o := .cells #[.int .i64 x102000_3, .int .i64 x102001_3, .int .i64 x102002_3] 34 (0, 0)) (zb BK101.out)) : gb125 ≠ gb101))
             clear HO_9
             clear HO_10
             clear BK101
             clear HB
             have HO_9 := n0_
             have HO_10 := n1_
             have BK101 := n2_
             have HB := n3_
             have BK125 := n4_
             have GW125 := n5_
             have GE125 := n6_
             have NB101_125 := n7_
             have NB125_101 := n8_
             clear n0_ n1_ n2_ n3_ n4_ n5_ n6_ n7_ n8_
             clear hb hbox hg
             refine hK.out _ _ ⟨HS0_, HS1_⟩ (fun hHeld => ?_)
             clear hK K
             refine norm_ (a' := ?_) ?_ ?_
             rotate_left
             ·show Act.put _ (some 14) _ = _
              simp only [Act.put, List.setIfInBounds_toArray, List.set_cons_zero, List.set_cons_succ, i64_w, i32_w]
              rfl
             refine one_ (i := 11) (N := none) (zl 12 4095) rfl rfl (one_of HT_.out (by kernel_rfl)) (by decide) (fun K hK => ?_)
             have hs45 : w44.cell? ⟨gb125, 0, none⟩ = some (.int .i64 0) := (blk_cell BK125.out 0).trans rfl
             have hfs45 := blk_frozen BK125.out 0
             have hns45_0 := NB101_125.out
             have hms45_0 := NB125_101.out
             have hs46 : w44.cell? ⟨gb125, 1, none⟩ = some (.int .i64 0) := (blk_cell BK125.out 1).trans rfl
             have hfs46 := blk_frozen BK125.out 1
             have hns46_0 := NB101_125.out
             have hms46_0 := NB125_101.out
             have hs47 : w44.cell? ⟨gb125, 2, none⟩ = some (.int .i64 0) := (blk_cell BK125.out 2).trans rfl
             have hfs47 := blk_frozen BK125.out 2
             have hns47_0 := NB101_125.out
             have hms47_0 := NB125_101.out
             refine skip_ (w1 := ?_) (by rfl) rfl ?_ ?_
             rotate_left
             ·go_simp
              rfl
             refine hK.out _ _ ⟨((cell_far (p := ⟨gb125, _, none⟩) y2  _).trans (((cell_far (p := ⟨gb125, _, none⟩) y2  _).trans (((cell_far (p := ⟨gb125, _, none⟩) y2  _).trans (hHeld.1)))))), ((cell_far (p := ⟨gb125, _, none⟩) y1  _).trans (((cell_far (p := ⟨gb125, _, none⟩) y1  _).trans (((cell_far (p := ⟨gb125, _, none⟩) y1  _).trans (hHeld.2))))))⟩ (fun hHeld => ?_)
             clear hK K
             refine done_ (done_of HT_.out (by kernel_rfl)) ?_
             have hnb48 := NB125_101.out
             have hnc48 := NB101_125.out
             have hcz49_0 : w44.cell? ⟨gb125, 0, none⟩ = some (.int .i64 0) := (blk_cell BK125.out 0).trans rfl
             have hcz49_1 : w44.cell? ⟨gb125, 1, none⟩ = some (.int .i64 0) := (blk_cell BK125.out 1).trans rfl
             have hcz49_2 : w44.cell? ⟨gb125, 2, none⟩ = some (.int .i64 0) := (blk_cell BK125.out 2).trans rfl
             have hfz49_0 := blk_frozen BK125.out 0
             have hfz49_1 := blk_frozen BK125.out 1
             have hfz49_2 := blk_frozen BK125.out 2
             try go_wp2_with (first | ((with_reducible refine gate_callee (f := 118) rfl ?_); refine goesL_ (some 56) rfl rfl Try.func118 (by kernel_rfl) rfl #[.slice A0 l0.length c0, .slice A1 l1.length c1, .int .i64 a2, .agg #[.int .i64 (rd t114 x11_1), .int .i64 (rd t120 x12_2), .int .i64 x13_3]] rfl y3  ?_; (with_reducible refine (spec_l4So.calls k3 _ _ l0 _ _ l1 a2 (rd t114 x11_1) (rd t120 x12_2) x13_3 false _ ?side1 ?side2 ?side3 ?side4 A31.out).mono ?_); (case side1 => exact Kd.C_below HR0.out (zHB)); (case side2 => exact HC0.out); (case side3 => exact Kd.C_below HR1.out (zHB)); (case side4 => exact HC1.out); rintro e w50 ⟨rfl, hb⟩; refine ⟨_, rfl, ?_⟩; have n0_ := zA (Kd.R_below (by refine zk ?_; exact (Kd.R_mono (Kd.R_far (p := ⟨gb125, 2, none⟩) (Kd.R_far (p := ⟨gb125, 1, none⟩) (Kd.R_far (p := ⟨gb125, 0, none⟩) (Kd.R_types HO_9.out BK125.out (by decide)) (fun _ hk => hk.2) (.int .i64 (rd t114 x11_1))) (fun _ hk => hk.2) (.int .i64 (rd t120 x12_2))) (fun _ hk => hk.2) (.int .i64 x13_3)) (fun _ h_ => h_.1))) hb); have n1_ := zA (Kd.R_below (by refine zk ?_; exact (Kd.R_mono (Kd.R_far (p := ⟨gb125, 2, none⟩) (Kd.R_far (p := ⟨gb125, 1, none⟩) (Kd.R_far (p := ⟨gb125, 0, none⟩) (Kd.R_types HO_10.out BK125.out (by decide)) (fun _ hk => hk.2) (.int .i64 (rd t114 x11_1))) (fun _ hk => hk.2) (.int .i64 (rd t120 x12_2))) (fun _ hk => hk.2) (.int .i64 x13_3)) (fun _ h_ => h_.1))) hb); have n2_ := zA (blk_below (g := gb101) (o := .cells #[.int .i64 x102000_3, .int .i64 x102001_3, .int .i64 x102002_3] 34 (0, 0)) (by refine zq ?_; refine blk_far ?_ NB101_125.out _; refine zq ?_; refine blk_far ?_ NB101_125.out _; refine zq ?_; refine blk_far ?_ NB101_125.out _; refine zq ?_; exact BK101.out) hb); have n3_ := zA (blk_below (g := gb125) (o := .cells #[.int .i64 (rd t114 x11_1), .int .i64 (rd t120 x12_2), .int .i64 x13_3] 34 (0, 0)) (by refine zq ?_; refine blk_put (cs := #[.int .i64 (rd t114 x11_1), .int .i64 (rd t120 x12_2), .int .i64 0]) ?_ 2 _ rfl; refine zq ?_; refine blk_put (cs := #[.int .i64 (rd t114 x11_1), .int .i64 0, .int .i64 0]) ?_ 1 _ rfl; refine zq ?_; refine blk_put (cs := #[.int .i64 0, .int .i64 0, .int .i64 0]) ?_ 0 _ rfl; refine zq ?_; exact BK125.out) hb); have n4_ := zA (below_step (zHB) hb); clear HO_9; clear HO_10; clear BK101; clear BK125; clear HB; have HO_9 := n0_; have HO_10 := n1_; have BK101 := n2_; have BK125 := n3_; have HB := n4_; clear n0_ n1_ n2_ n3_ n4_; (try clear hb); (try clear hb2); (try clear hk); (try clear hi)))
             go_roundg k3
             case measure => have := HK1.out; have := HK2.out; have := HK3.out; omega
             case rel => exact ⟨(wrap64 (x13_3 + 1)), (x102000_3), (x102001_3), (x102002_3), y6 , H', ⟨by have := HK1.out; have := HK2.out; have := HK3.out; omega⟩, ⟨by refine zk ?_; exact HO_9.out⟩, ⟨by refine zk ?_; exact HO_10.out⟩, ⟨by refine zq ?_; exact BK101.out⟩, ⟨zHB⟩⟩
            rw [if_neg c30] at H
            exact absurd H (by simp)
           rw [if_neg c29] at H
           exact absurd H (by simp)
          rw [if_neg c28] at H
          exact absurd H (by simp)
         rw [if_neg c27] at H
         exact absurd H (by simp)
        rw [if_neg c26] at H
        have c26b0 : decide (x13_3 ≤ 7) = false := decide_eq_false c26
        clear c26
        have H' := zA H
        clear H
        go_wp2
        go_roundg k3
        case measure => have := HK1.out; have := HK2.out; have := HK3.out; omega
        case rel => exact ⟨(wrap64 (x12_2 + 1)), (x102000_3), (x102001_3), (x102002_3), y6 , H', ⟨by have := HK1.out; have := HK2.out; have := HK3.out; omega⟩, ⟨by refine zk ?_; exact HO_9.out⟩, ⟨by refine zk ?_; exact HO_10.out⟩, ⟨by refine zq ?_; exact BK101.out⟩, ⟨zHB⟩⟩
      rw [if_neg c24] at H
      have c24b0 : decide (x12_2 < (t120.length : Int)) = false := decide_eq_false c24
      clear c24
      have H' := zA H
      clear H
      obtain ⟨Ao51, co51, eo51⟩ := Kd.R_slice HO_10.out
      subst eo51
      go_wp2
      go_roundg k2
      case measure => have := HK1.out; have := HK2.out; omega
      case rel => exact ⟨(wrap64 (x11_1 + 1)), (x102000_2), (x102001_2), (x102002_2), y6 , H', ⟨by have := HK1.out; have := HK2.out; omega⟩, ⟨by refine zk ?_; exact HO_9.out⟩, ⟨by refine zk ?_; exact HO_10.out⟩, ⟨by refine zq ?_; exact BK101.out⟩, ⟨zHB⟩⟩
    rw [if_neg c22] at H
    have c22b0 : decide (x11_1 < (t114.length : Int)) = false := decide_eq_false c22
    clear c22
    simp only [Option.some.injEq, Prod.mk.injEq] at H
    obtain ⟨rfl, rfl, rfl, rfl⟩ := H
    obtain ⟨Ao52, co52, eo52⟩ := Kd.R_slice HO_9.out
    subst eo52
    have hcz53_0 : wr.cell? ⟨gb101, 0, none⟩ = some (.int .i64 x102000_1) := (blk_cell BK101.out 0).trans rfl
    have hcz53_1 : wr.cell? ⟨gb101, 1, none⟩ = some (.int .i64 x102001_1) := (blk_cell BK101.out 1).trans rfl
    have hcz53_2 : wr.cell? ⟨gb101, 2, none⟩ = some (.int .i64 x102002_1) := (blk_cell BK101.out 2).trans rfl
    have hfz53_0 := blk_frozen BK101.out 0
    have hfz53_1 := blk_frozen BK101.out 1
    have hfz53_2 := blk_frozen BK101.out 2
    go_wp2
    refine bodyPost_ret (results_ct rfl _ _ gb101 34 #[.int .i64 0, .int .i64 0, .int .i64 0] (0, 0) _ rfl (by refine zq ?_; refine blk_put (cs := #[.int .i64 0, .int .i64 0, .int .i64 x102002_1]) ?_ 2 _ rfl; refine zq ?_; refine blk_put (cs := #[.int .i64 0, .int .i64 x102001_1, .int .i64 x102002_1]) ?_ 1 _ rfl; refine zq ?_; refine blk_put (cs := #[.int .i64 x102000_1, .int .i64 x102001_1, .int .i64 x102002_1]) ?_ 0 _ rfl; refine zq ?_; exact BK101.out) Try.underlying34 rfl (by kernel_rfl)) rfl ?_
    exact ⟨by first | rfl | (simp [errW_none, errW_some] <;> rfl) | (simp [*, errW_none, errW_some] <;> rfl), zHB⟩
  rw [if_neg c5] at H
  exact absurd H (by simp)
 rw [if_neg c4] at H
 exact absurd H (by simp)
end Go.Proofs.Ytnakanjhdcakhaa.Q
namespace Go.Proofs.Ytnakanjhdcakhaa.Q
open Go.RowKit Go.Proofs.YtnakanjhdcakhaaW.PrintWords Go.Proofs.YtnakanjhdcakhaaW.PrintLast Go.Proofs.YtnakanjhdcakhaaW.PrintMore
attribute [local go_sem] max2_int min2_int max_two min_two max_three min_three max_four min_four   -- for this text's walks alone
set_option linter.unusedVariables false
set_option linter.unusedSimpArgs false
def spec_AclDiffer.f (k : Nat) (l0 : List (S54)) (l1 : List (S54)) : Option (Int × Int × Int × Bool) := (spec_AclOk.f k l0).bind fun t102 => (if t102 = true then ((spec_AclOk.f k l1).bind fun t103 => (if t103 = true then ((spec_l4Least.f k l0 l1 (-1)).bind fun bt104 => (some (bt104.1, bt104.2.1, bt104.2.2.1, bt104.2.2.2))) else (some (0, 0, 0, false)))) else (some (0, 0, 0, false)))
set_option maxHeartbeats 8000000 in
set_option maxRecDepth 100000 in
theorem spec_AclDiffer.calls (k : Nat) (A0 : Option Addr) (c0 : Nat) (l0 : List (S54)) (A1 : Option Addr) (c1 : Nat) (l1 : List (S54)) (r1 : Int) (r2 : Int) (r3 : Int) (r4 : Bool) (w : World) (hr0 : Kd.C k54 w A0 l0.length l0) (hc0 : l0.length ≤ c0) (hr1 : Kd.C k54 w A1 l1.length l1) (hc1 : l1.length ≤ c1) (h : spec_AclDiffer.f k l0 l1 = some (r1, r2, r3, r4)) :
    Calls Try.prog 29 #[.slice A0 l0.length c0, .slice A1 l1.length c1] w fun e w' => e = .returned (.tuple #[.agg #[.int .i64 r1, .int .i64 r2, .int .i64 r3], .bool r4]) ∧ Below w.heap.size w w' := by
  have hu34 := Try.underlying34
  have HR0 := Aside0.mk hr0
  have HC0 := Aside0.mk hc0
  clear hr0 hc0
  have HR1 := Aside0.mk hr1
  have HC1 := Aside0.mk hc1
  clear hr1 hc1
  have HB := Aside0.mk (Below.refl w.heap.size w)
  have H : ((spec_AclOk.f k l0).bind fun t102 => (if t102 = true then ((spec_AclOk.f k l1).bind fun t103 => (if t103 = true then ((spec_l4Least.f k l0 l1 (-1)).bind fun bt104 => (some (bt104.1, bt104.2.1, bt104.2.2.1, bt104.2.2.2))) else (some (0, 0, 0, false)))) else (some (0, 0, 0, false)))) = some (r1, r2, r3, r4) := h
  clear h
  replace H := Option.bind_eq_some_iff.mp H
  obtain ⟨t102, A30, H⟩ := H
  replace H : (if t102 = true then ((spec_AclOk.f k l1).bind fun t103 => (if t103 = true then ((spec_l4Least.f k l0 l1 (-1)).bind fun bt104 => (some (bt104.1, bt104.2.1, bt104.2.2.1, bt104.2.2.2))) else (some (0, 0, 0, false)))) else (some (0, 0, 0, false))) = some (r1, r2, r3, r4) := H
  have A3 := Aside0.mk A30
  clear A30
  by_cases c4 : t102 = true
  · subst c4
    have H1 : ((spec_AclOk.f k l1).bind fun t103 => (if t103 = true then ((spec_l4Least.f k l0 l1 (-1)).bind fun bt104 => (some (bt104.1, bt104.2.1, bt104.2.2.1, bt104.2.2.2))) else (some (0, 0, 0, false)))) = some (r1, r2, r3, r4) := by rw [if_pos rfl] at H; exact H
    clear H
    have H := H1
    clear H1
    replace H := Option.bind_eq_some_iff.mp H
    obtain ⟨t103, A50, H⟩ := H
    replace H : (if t103 = true then ((spec_l4Least.f k l0 l1 (-1)).bind fun bt104 => (some (bt104.1, bt104.2.1, bt104.2.2.1, bt104.2.2.2))) else (some (0, 0, 0, false))) = some (r1, r2, r3, r4) := H
    have A5 := Aside0.mk A50
    clear A50
    by_cases c6 : t103 = true
    · subst c6
      have H1 : ((spec_l4Least.f k l0 l1 (-1)).bind fun bt104 => (some (bt104.1, bt104.2.1, bt104.2.2.1, bt104.2.2.2))) = some (r1, r2, r3, r4) := by rw [if_pos rfl] at H; exact H
      clear H
      have H := H1
      clear H1
      replace H := Option.bind_eq_some_iff.mp H
      obtain ⟨⟨t104, t105, t106, t107⟩, A70, H⟩ := H
      replace H : (some (t104, t105, t106, t107)) = some (r1, r2, r3, r4) := H
      have A7 := Aside0.mk A70
      clear A70
      simp only [Option.some.injEq, Prod.mk.injEq] at H
      obtain ⟨rfl, rfl, rfl, rfl⟩ := H
      go_enter Try.func29, Try.ntmps29
      go_wp2_with (first | ((with_reducible refine gate_dst (N := 4) rfl ?_); refine box_event ?hg (N := 4) ?hd (cs := #[.int .i64 0, .int .i64 0, .int .i64 0]) (t := 34) ?hr ?_; (case hd => rfl); (case hg => rfl); (case hr => first | (go_simp; done) | (go_simp; rfl)); intro gb101 hg w8 hbox hb; have n0_ := Aside0.mk (below_step (by repeat (first | (with_reducible first | exact HB.out | apply below_alloc | apply pw_below_drewN | apply below_drew1) | exact HB.out)) hb); have n1_ := Aside0.mk (hbox); have n2_ := Aside0.mk ((by rw [hg]; exact (below_size (by repeat (first | (with_reducible first | exact HB.out | apply below_alloc | apply pw_below_drewN | apply below_drew1) | exact HB.out))) : w.heap.size ≤ gb101)); have n3_ := Aside0.mk ((by rw [hg]; exact (below_size (by repeat (first | (with_reducible first | exact HB.out | apply below_alloc | apply pw_below_drewN | apply below_drew1) | exact HB.out))) : w.heap.size ≤ gb101)); clear HB; have HB := n0_; have BK101 := n1_; have GW101 := n2_; have GE101 := n3_; clear n0_ n1_ n2_ n3_; clear hb hbox hg) | ((with_reducible refine gate_callee (f := 32) rfl ?_); refine goesL_ (some 7) rfl rfl Try.func32 (by kernel_rfl) rfl #[.slice A0 l0.length c0] rfl (by (try simp only [List.map_toArray, List.map_cons, List.map_nil]); first | done | rfl | (simp only [List.length_drop, List.length_take]; rfl)) ?_; (with_reducible refine (spec_AclOk.calls k _ _ l0 true _ ?side1 ?side2 A3.out).mono ?_); (case side1 => repeat (first | exact (Kd.C_below HR0.out HB.out) | (with_reducible refine Kd.C_alloc ?_ _) | (with_reducible refine Kd.C_drewN ?_ _) | (with_reducible refine Kd.C_drew ?_))); (case side2 => exact HC0.out); rintro e w9 ⟨rfl, hb⟩; refine ⟨_, rfl, ?_⟩; have n0_ := Aside0.mk (blk_below (g := gb101) (o := .cells #[.int .i64 0, .int .i64 0, .int .i64 0] 34 (0, 0)) (by (with_reducible repeat (first | refine blk_drewN ?_ _ | refine blk_drew ?_ | refine blk_alloc ?_ _)); exact BK101.out) hb); have n1_ := Aside0.mk (below_step (by repeat (first | (with_reducible first | exact HB.out | apply below_alloc | apply pw_below_drewN | apply below_drew1 | refine below_set ?_ GE101.out) | exact HB.out)) hb); clear BK101; clear HB; have BK101 := n0_; have HB := n1_; clear n0_ n1_; (try clear hb); (try clear hb2); (try clear hk); (try clear hi)) | (go_at_call 32; (with_reducible refine (spec_AclOk.calls k _ _ l1 true _ ?side1 ?side2 A5.out).mono ?_); (case side1 => repeat (first | exact (Kd.C_below HR1.out HB.out) | (with_reducible refine Kd.C_alloc ?_ _) | (with_reducible refine Kd.C_drewN ?_ _) | (with_reducible refine Kd.C_drew ?_))); (case side2 => exact HC1.out); rintro e w10 ⟨rfl, hb⟩; have n0_ := Aside0.mk (blk_below (g := gb101) (o := .cells #[.int .i64 0, .int .i64 0, .int .i64 0] 34 (0, 0)) (by (with_reducible repeat (first | refine blk_drewN ?_ _ | refine blk_drew ?_ | refine blk_alloc ?_ _)); exact BK101.out) hb); have n1_ := Aside0.mk (below_step (by repeat (first | (with_reducible first | exact HB.out | apply below_alloc | apply pw_below_drewN | apply below_drew1 | refine below_set ?_ GE101.out) | exact HB.out)) hb); clear BK101; clear HB; have BK101 := n0_; have HB := n1_; clear n0_ n1_; (try clear hb); (try clear hb2); (try clear hk); (try clear hi)) | ((with_reducible refine gate_callee (f := 86) rfl ?_); refine goesL_ (some 17) rfl rfl Try.func86 (by kernel_rfl) rfl #[.slice A0 l0.length c0, .slice A1 l1.length c1, .int .i64 (-1)] rfl (by (try simp only [List.map_toArray, List.map_cons, List.map_nil]); first | done | rfl | (simp only [List.length_drop, List.length_take]; rfl)) ?_; (with_reducible refine (spec_l4Least.calls k _ _ l0 _ _ l1 (-1) t104 t105 t106 t107 _ ?side1 ?side2 ?side3 ?side4 A7.out).mono ?_); (case side1 => repeat (first | exact (Kd.C_below HR0.out HB.out) | (with_reducible refine Kd.C_alloc ?_ _) | (with_reducible refine Kd.C_drewN ?_ _) | (with_reducible refine Kd.C_drew ?_))); (case side2 => exact HC0.out); (case side3 => repeat (first | exact (Kd.C_below HR1.out HB.out) | (with_reducible refine Kd.C_alloc ?_ _) | (with_reducible refine Kd.C_drewN ?_ _) | (with_reducible refine Kd.C_drew ?_))); (case side4 => exact HC1.out); rintro e w11 ⟨rfl, hb⟩; refine ⟨_, rfl, ?_⟩; have n0_ := Aside0.mk (blk_below (g := gb101) (o := .cells #[.int .i64 0, .int .i64 0, .int .i64 0] 34 (0, 0)) (by (with_reducible repeat (first | refine blk_drewN ?_ _ | refine blk_drew ?_ | refine blk_alloc ?_ _)); exact BK101.out) hb); have n1_ := Aside0.mk (below_step (by repeat (first | (with_reducible first | exact HB.out | apply below_alloc | apply pw_below_drewN | apply below_drew1 | refine below_set ?_ GE101.out) | exact HB.out)) hb); clear BK101; clear HB; have BK101 := n0_; have HB := n1_; clear n0_ n1_; (try clear hb); (try clear hb2); (try clear hk); (try clear hi); have hcz12_0 : w11.cell? ⟨gb101, 0, none⟩ = some (.int .i64 0) := (blk_cell BK101.out 0).trans rfl; have hcz12_1 : w11.cell? ⟨gb101, 1, none⟩ = some (.int .i64 0) := (blk_cell BK101.out 1).trans rfl; have hcz12_2 : w11.cell? ⟨gb101, 2, none⟩ = some (.int .i64 0) := (blk_cell BK101.out 2).trans rfl; have hfz12_0 := blk_frozen BK101.out 0; have hfz12_1 := blk_frozen BK101.out 1; have hfz12_2 := blk_frozen BK101.out 2))
      refine bodyPost_ret (results_ct rfl _ _ gb101 34 #[.int .i64 t104, .int .i64 t105, .int .i64 t106] (0, 0) _ rfl (by (with_reducible repeat (first | refine blk_drewN ?_ _ | refine blk_drew ?_ | refine blk_alloc ?_ _)); refine blk_put (cs := #[.int .i64 t104, .int .i64 t105, .int .i64 0]) ?_ 2 _ rfl; (with_reducible repeat (first | refine blk_drewN ?_ _ | refine blk_drew ?_ | refine blk_alloc ?_ _)); refine blk_put (cs := #[.int .i64 t104, .int .i64 0, .int .i64 0]) ?_ 1 _ rfl; (with_reducible repeat (first | refine blk_drewN ?_ _ | refine blk_drew ?_ | refine blk_alloc ?_ _)); refine blk_put (cs := #[.int .i64 0, .int .i64 0, .int .i64 0]) ?_ 0 _ rfl; (with_reducible repeat (first | refine blk_drewN ?_ _ | refine blk_drew ?_ | refine blk_alloc ?_ _)); exact BK101.out) Try.underlying34 rfl (by kernel_rfl)) rfl ?_
      exact ⟨by first | rfl | (simp [errW_none, errW_some] <;> rfl) | (simp [*, errW_none, errW_some] <;> rfl), by repeat (first | (with_reducible first | exact HB.out | apply below_alloc | apply pw_below_drewN | apply below_drew1 | refine below_set ?_ GE101.out) | exact HB.out)⟩
    · replace c6 := Bool.eq_false_iff.mpr c6
      subst c6
      have H1 : (some (0, 0, 0, false)) = some (r1, r2, r3, r4) := by rw [if_neg (show ¬ (false = true) by decide)] at H; exact H
      clear H
      have H := H1
      clear H1
      simp only [Option.some.injEq, Prod.mk.injEq] at H
      obtain ⟨rfl, rfl, rfl, rfl⟩ := H
      go_enter Try.func29, Try.ntmps29
      go_wp2_with (first | ((with_reducible refine gate_dst (N := 4) rfl ?_); refine box_event ?hg (N := 4) ?hd (cs := #[.int .i64 0, .int .i64 0, .int .i64 0]) (t := 34) ?hr ?_; (case hd => rfl); (case hg => rfl); (case hr => first | (go_simp; done) | (go_simp; rfl)); intro gb101 hg w13 hbox hb; have n0_ := Aside0.mk (below_step (by repeat (first | (with_reducible first | exact HB.out | apply below_alloc | apply pw_below_drewN | apply below_drew1) | exact HB.out)) hb); have n1_ := Aside0.mk (hbox); have n2_ := Aside0.mk ((by rw [hg]; exact (below_size (by repeat (first | (with_reducible first | exact HB.out | apply below_alloc | apply pw_below_drewN | apply below_drew1) | exact HB.out))) : w.heap.size ≤ gb101)); have n3_ := Aside0.mk ((by rw [hg]; exact (below_size (by repeat (first | (with_reducible first | exact HB.out | apply below_alloc | apply pw_below_drewN | apply below_drew1) | exact HB.out))) : w.heap.size ≤ gb101)); clear HB; have HB := n0_; have BK101 := n1_; have GW101 := n2_; have GE101 := n3_; clear n0_ n1_ n2_ n3_; clear hb hbox hg) | ((with_reducible refine gate_callee (f := 32) rfl ?_); refine goesL_ (some 7) rfl rfl Try.func32 (by kernel_rfl) rfl #[.slice A0 l0.length c0] rfl (by (try simp only [List.map_toArray, List.map_cons, List.map_nil]); first | done | rfl | (simp only [List.length_drop, List.length_take]; rfl)) ?_; (with_reducible refine (spec_AclOk.calls k _ _ l0 true _ ?side1 ?side2 A3.out).mono ?_); (case side1 => repeat (first | exact (Kd.C_below HR0.out HB.out) | (with_reducible refine Kd.C_alloc ?_ _) | (with_reducible refine Kd.C_drewN ?_ _) | (with_reducible refine Kd.C_drew ?_))); (case side2 => exact HC0.out); rintro e w14 ⟨rfl, hb⟩; refine ⟨_, rfl, ?_⟩; have n0_ := Aside0.mk (blk_below (g := gb101) (o := .cells #[.int .i64 0, .int .i64 0, .int .i64 0] 34 (0, 0)) (by (with_reducible repeat (first | refine blk_drewN ?_ _ | refine blk_drew ?_ | refine blk_alloc ?_ _)); exact BK101.out) hb); have n1_ := Aside0.mk (below_step (by repeat (first | (with_reducible first | exact HB.out | apply below_alloc | apply pw_below_drewN | apply below_drew1 | refine below_set ?_ GE101.out) | exact HB.out)) hb); clear BK101; clear HB; have BK101 := n0_; have HB := n1_; clear n0_ n1_; (try clear hb); (try clear hb2); (try clear hk); (try clear hi)) | (go_at_call 32; (with_reducible refine (spec_AclOk.calls k _ _ l1 false _ ?side1 ?side2 A5.out).mono ?_); (case side1 => repeat (first | exact (Kd.C_below HR1.out HB.out) | (with_reducible refine Kd.C_alloc ?_ _) | (with_reducible refine Kd.C_drewN ?_ _) | (with_reducible refine Kd.C_drew ?_))); (case side2 => exact HC1.out); rintro e w15 ⟨rfl, hb⟩; have n0_ := Aside0.mk (blk_below (g := gb101) (o := .cells #[.int .i64 0, .int .i64 0, .int .i64 0] 34 (0, 0)) (by (with_reducible repeat (first | refine blk_drewN ?_ _ | refine blk_drew ?_ | refine blk_alloc ?_ _)); exact BK101.out) hb); have n1_ := Aside0.mk (below_step (by repeat (first | (with_reducible first | exact HB.out | apply below_alloc | apply pw_below_drewN | apply below_drew1 | refine below_set ?_ GE101.out) | exact HB.out)) hb); clear BK101; clear HB; have BK101 := n0_; have HB := n1_; clear n0_ n1_; (try clear hb); (try clear hb2); (try clear hk); (try clear hi); have hcz16_0 : w15.cell? ⟨gb101, 0, none⟩ = some (.int .i64 0) := (blk_cell BK101.out 0).trans rfl; have hcz16_1 : w15.cell? ⟨gb101, 1, none⟩ = some (.int .i64 0) := (blk_cell BK101.out 1).trans rfl; have hcz16_2 : w15.cell? ⟨gb101, 2, none⟩ = some (.int .i64 0) := (blk_cell BK101.out 2).trans rfl; have hfz16_0 := blk_frozen BK101.out 0; have hfz16_1 := blk_frozen BK101.out 1; have hfz16_2 := blk_frozen BK101.out 2))
      refine bodyPost_ret (results_ct rfl _ _ gb101 34 #[.int .i64 0, .int .i64 0, .int .i64 0] (0, 0) _ rfl (by (with_reducible repeat (first | refine blk_drewN ?_ _ | refine blk_drew ?_ | refine blk_alloc ?_ _)); refine blk_put (cs := #[.int .i64 0, .int .i64 0, .int .i64 0]) ?_ 2 _ rfl; (with_reducible repeat (first | refine blk_drewN ?_ _ | refine blk_drew ?_ | refine blk_alloc ?_ _)); refine blk_put (cs := #[.int .i64 0, .int .i64 0, .int .i64 0]) ?_ 1 _ rfl; (with_reducible repeat (first | refine blk_drewN ?_ _ | refine blk_drew ?_ | refine blk_alloc ?_ _)); refine blk_put (cs := #[.int .i64 0, .int .i64 0, .int .i64 0]) ?_ 0 _ rfl; (with_reducible repeat (first | refine blk_drewN ?_ _ | refine blk_drew ?_ | refine blk_alloc ?_ _)); exact BK101.out) Try.underlying34 rfl (by kernel_rfl)) rfl ?_
      exact ⟨by first | rfl | (simp [errW_none, errW_some] <;> rfl) | (simp [*, errW_none, errW_some] <;> rfl), by repeat (first | (with_reducible first | exact HB.out | apply below_alloc | apply pw_below_drewN | apply below_drew1 | refine below_set ?_ GE101.out) | exact HB.out)⟩
  · replace c4 := Bool.eq_false_iff.mpr c4
    subst c4
    have H1 : (some (0, 0, 0, false)) = some (r1, r2, r3, r4) := by rw [if_neg (show ¬ (false = true) by decide)] at H; exact H
    clear H
    have H := H1
    clear H1
    simp only [Option.some.injEq, Prod.mk.injEq] at H
    obtain ⟨rfl, rfl, rfl, rfl⟩ := H
    go_enter Try.func29, Try.ntmps29
    go_wp2_with (first | ((with_reducible refine gate_dst (N := 4) rfl ?_); refine box_event ?hg (N := 4) ?hd (cs := #[.int .i64 0, .int .i64 0, .int .i64 0]) (t := 34) ?hr ?_; (case hd => rfl); (case hg => rfl); (case hr => first | (go_simp; done) | (go_simp; rfl)); intro gb101 hg w17 hbox hb; have n0_ := Aside0.mk (below_step (by repeat (first | (with_reducible first | exact HB.out | apply below_alloc | apply pw_below_drewN | apply below_drew1) | exact HB.out)) hb); have n1_ := Aside0.mk (hbox); have n2_ := Aside0.mk ((by rw [hg]; exact (below_size (by repeat (first | (with_reducible first | exact HB.out | apply below_alloc | apply pw_below_drewN | apply below_drew1) | exact HB.out))) : w.heap.size ≤ gb101)); have n3_ := Aside0.mk ((by rw [hg]; exact (below_size (by repeat (first | (with_reducible first | exact HB.out | apply below_alloc | apply pw_below_drewN | apply below_drew1) | exact HB.out))) : w.heap.size ≤ gb101)); clear HB; have HB := n0_; have BK101 := n1_; have GW101 := n2_; have GE101 := n3_; clear n0_ n1_ n2_ n3_; clear hb hbox hg) | ((with_reducible refine gate_callee (f := 32) rfl ?_); refine goesL_ (some 7) rfl rfl Try.func32 (by kernel_rfl) rfl #[.slice A0 l0.length c0] rfl (by (try simp only [List.map_toArray, List.map_cons, List.map_nil]); first | done | rfl | (simp only [List.length_drop, List.length_take]; rfl)) ?_; (with_reducible refine (spec_AclOk.calls k _ _ l0 false _ ?side1 ?side2 A3.out).mono ?_); (case side1 => repeat (first | exact (Kd.C_below HR0.out HB.out) | (with_reducible refine Kd.C_alloc ?_ _) | (with_reducible refine Kd.C_drewN ?_ _) | (with_reducible refine Kd.C_drew ?_))); (case side2 => exact HC0.out); rintro e w18 ⟨rfl, hb⟩; refine ⟨_, rfl, ?_⟩; have n0_ := Aside0.mk (blk_below (g := gb101) (o := .cells #[.int .i64 0, .int .i64 0, .int .i64 0] 34 (0, 0)) (by (with_reducible repeat (first | refine blk_drewN ?_ _ | refine blk_drew ?_ | refine blk_alloc ?_ _)); exact BK101.out) hb); have n1_ := Aside0.mk (below_step (by repeat (first | (with_reducible first | exact HB.out | apply below_alloc | apply pw_below_drewN | apply below_drew1 | refine below_set ?_ GE101.out) | exact HB.out)) hb); clear BK101; clear HB; have BK101 := n0_; have HB := n1_; clear n0_ n1_; (try clear hb); (try clear hb2); (try clear hk); (try clear hi); have hcz19_0 : w18.cell? ⟨gb101, 0, none⟩ = some (.int .i64 0) := (blk_cell BK101.out 0).trans rfl; have hcz19_1 : w18.cell? ⟨gb101, 1, none⟩ = some (.int .i64 0) := (blk_cell BK101.out 1).trans rfl; have hcz19_2 : w18.cell? ⟨gb101, 2, none⟩ = some (.int .i64 0) := (blk_cell BK101.out 2).trans rfl; have hfz19_0 := blk_frozen BK101.out 0; have hfz19_1 := blk_frozen BK101.out 1; have hfz19_2 := blk_frozen BK101.out 2))
    refine bodyPost_ret (results_ct rfl _ _ gb101 34 #[.int .i64 0, .int .i64 0, .int .i64 0] (0, 0) _ rfl (by (with_reducible repeat (first | refine blk_drewN ?_ _ | refine blk_drew ?_ | refine blk_alloc ?_ _)); refine blk_put (cs := #[.int .i64 0, .int .i64 0, .int .i64 0]) ?_ 2 _ rfl; (with_reducible repeat (first | refine blk_drewN ?_ _ | refine blk_drew ?_ | refine blk_alloc ?_ _)); refine blk_put (cs := #[.int .i64 0, .int .i64 0, .int .i64 0]) ?_ 1 _ rfl; (with_reducible repeat (first | refine blk_drewN ?_ _ | refine blk_drew ?_ | refine blk_alloc ?_ _)); refine blk_put (cs := #[.int .i64 0, .int .i64 0, .int .i64 0]) ?_ 0 _ rfl; (with_reducible repeat (first | refine blk_drewN ?_ _ | refine blk_drew ?_ | refine blk_alloc ?_ _)); exact BK101.out) Try.underlying34 rfl (by kernel_rfl)) rfl ?_
    exact ⟨by first | rfl | (simp [errW_none, errW_some] <;> rfl) | (simp [*, errW_none, errW_some] <;> rfl), by repeat (first | (with_reducible first | exact HB.out | apply below_alloc | apply pw_below_drewN | apply below_drew1 | refine below_set ?_ GE101.out) | exact HB.out)⟩
end Go.Proofs.Ytnakanjhdcakhaa.Q
namespace Go.Proofs.Ytnakanjhdcakhaa.Q
open Go.RowKit Go.Proofs.YtnakanjhdcakhaaW.PrintWords Go.Proofs.YtnakanjhdcakhaaW.PrintLast Go.Proofs.YtnakanjhdcakhaaW.PrintMore
attribute [local go_sem] max2_int min2_int max_two min_two max_three min_three max_four min_four   -- for this text's walks alone
set_option linter.unusedVariables false
set_option linter.unusedSimpArgs false
def spec_l5Addr.j0 : Nat → Bool → List Int → Int → Int → Int → Option (Int × Int)
  | 0, _, _, _, _, _ => none
  | k + 1, x12, x1000, x1001, x102000, x102001 => if x12 = true then ((spec_l1Rd_pick.f k x1000 x1001 65536).bind fun bt105 => ((some (([bt105.1, (-1), 65536, 0, 65535] : List Int) : List Int)).bind fun y107 => ((spec_l1Rd_pick.f k x1000 bt105.2 5).bind fun bt110 => (if 0 ≤ bt110.1 then (if bt110.1 < (y107.length : Int) then (some (rd y107 bt110.1, bt110.2)) else (none)) else (none))))) else ((spec_l1Size.f k x102001).bind fun t113 => ((spec_l1Size.f k x102001).bind fun t114 => ((spec_l1Size.f k x102001).bind fun t115 => ((spec_l1Rd_pick.f k x1000 x1001 t115).bind fun bt116 => ((some (([0, (-1), t113, wrap64 (t114 - 1), bt116.1] : List Int) : List Int)).bind fun y118 => ((spec_l1Rd_pick.f k x1000 bt116.2 5).bind fun bt121 => (if 0 ≤ bt121.1 then (if bt121.1 < (y118.length : Int) then (some (wrap64 (x102000 + (rd y118 bt121.1)), bt121.2)) else (none)) else (none))))))))
def spec_l5Addr.f (k : Nat) (s0_0 : List Int) (s0_1 : Int) (a1_0 : Int) (a1_1 : Int) : Option (Int × Int) := (spec_NetOk.f k a1_0 a1_1).bind fun t102 => (if t102 = true then ((spec_l1Rd_pick.f k s0_0 s0_1 4).bind fun bt103 => (spec_l5Addr.j0 k (bt103.1 == 0) s0_0 bt103.2 a1_0 a1_1)) else (spec_l5Addr.j0 k true s0_0 s0_1 a1_0 a1_1))
def spec_l5Addr.T3 : Bool × List (List Nat × List Nat) := (true, [([], []), ([0], [0]), ([], []), ([2], [2]), ([3], [3]), ([], []), ([5], [5]), ([6, 4], [6]), ([7], [7]), ([], []), ([], []), ([10], [10]), ([11, 7], [11]), ([9, 12, 12], [9, 12]), ([4, 8, 13], [4, 8, 13]), ([], []), ([15, 13], [15]), ([14, 16], [14, 16]), ([17], [17]), ([1, 18], [1, 18]), ([19, 16, 0, 1, 2, 3, 4, 5, 6, 7, 8, 9, 10, 11, 12, 13, 14, 15, 16, 17, 18, 19], [19])])
def spec_l5Addr.B3 : List Nat := [0, 1, 0, 4, 12, 0, 32, 124, 252, 0, 0, 1024, 3324, 7932, 16380, 0, 48892, 131068, 262140, 524287, 1048575]
theorem spec_l5Addr.tab3 : rtab .any (opsOf Try.f100 3) = spec_l5Addr.T3 := by kernel_rfl
theorem spec_l5Addr.bits3 : waitsOk spec_l5Addr.T3.2 spec_l5Addr.B3 = true := by kernel_rfl
theorem spec_l5Addr.zHI0 {P : Prop} (h : P := by repeat (first | (with_reducible first | exact HI0.out | apply IsS117.alloc | apply IsS117.drewN | apply IsS117.drew | apply IsS117.set_1 | refine IsS117.far ?_ NB0_101.out _) | exact HI0.out)) : P := h
theorem spec_l5Addr.zHK {P : Prop} (h : P := by repeat (first | (with_reducible first | exact HK.out | apply KeepBut.set_ | apply keep_drewN | apply keep_drew | apply keep_alloc | refine keep_far ?_ GW101.out _) | exact HK.out)) : P := h
theorem spec_l5Addr.zHB {P : Prop} (h : P := by repeat (first | (with_reducible first | exact HB.out | apply below_alloc | apply pw_below_drewN | apply below_drew1 | refine below_set ?_ (IsS117.ge HI0.out) | refine below_set ?_ GE101.out) | exact HB.out)) : P := h
theorem spec_l5Addr.zb {P Q : Prop} (x : Q) (h : Q → P := by intro x_; (with_reducible repeat (first | refine blk_drewN ?_ _ | refine blk_drew ?_ | refine blk_alloc ?_ _)); exact x_) : P := h x
theorem spec_l5Addr.zr {P Q : Prop} (x : Q) (h : Q → P := by intro x_; (with_reducible repeat (first | apply Kd.R_alloc | apply Kd.R_drewN | apply Kd.R_drew)); exact x_) : P := h x
def spec_l5Addr.zl (n k : Nat) : Array Bool := ((List.range n).map fun i => k.testBit i).toArray
theorem spec_l5Addr.y1 {P : Prop} (h : P := by (try simp only [List.map_toArray, List.map_cons, List.map_nil]); first | done | rfl | (simp only [List.length_drop, List.length_take]; rfl)) : P := h
theorem spec_l5Addr.y2 {P : Prop} (h : P := by first | (with_reducible assumption) | assumption) : P := h
theorem spec_l5Addr.zA {p : Prop} (h : p) : Aside0 p := ⟨h⟩
set_option maxHeartbeats 8000000 in
set_option maxRecDepth 100000 in
theorem spec_l5Addr.calls (k : Nat) (g : Nat) (s0_0 : List Int) (s0_1 : Int) (a1_0 : Int) (a1_1 : Int) (r1 : Int) (r2 : Int) (w0 w : World) (hI : IsS117 w0 w g s0_0 s0_1) (hB : Below w0.heap.size w0 w) (h : spec_l5Addr.f k s0_0 s0_1 a1_0 a1_1 = some (r1, r2)) :
  Calls Try.prog 100 #[.pointer (some ⟨g, 0, none⟩), .agg #[.int .i64 a1_0, .int .i64 a1_1]] w fun e w' => e = .returned (.int .i64 r1) ∧ IsS117 w0 w' g s0_0 r2 ∧ Below w0.heap.size w0 w' ∧ KeepBut w w' g none := by
 have hu26 := Try.underlying26
 have HI0 := zA hI
 have HK := zA (KeepBut.refl w g none)
 have HL := zA hB.size
 clear hI
 have HW0 := zA hB.size
 have HB := zA hB
 clear hB
 have H : ((spec_NetOk.f k a1_0 a1_1).bind fun t102 => (if t102 = true then ((spec_l1Rd_pick.f k s0_0 s0_1 4).bind fun bt103 => (spec_l5Addr.j0 k (bt103.1 == 0) s0_0 bt103.2 a1_0 a1_1)) else (spec_l5Addr.j0 k true s0_0 s0_1 a1_0 a1_1))) = some (r1, r2) := h
 clear h
 have HC3 := zA H
 clear H
 go_enter Try.func100, Try.ntmps100
 go_upto_region 1 with (first | ((with_reducible refine gate_dst (N := 3) rfl ?_); refine box_event ?hg (N := 3) ?hd (cs := #[.int .i64 a1_0, .int .i64 a1_1]) (t := 26) ?hr ?_; (case hd => rfl); (case hg => rfl); (case hr => first | (go_simp; done) | (go_simp; rfl)); intro gb101 hg w4 hbox hb; have n0_ := zA (IsS117.below (zHI0) hb); have n1_ := zA (KeepBut.trans (zHK) (KeepBut.of_below hb g none) (.inl rfl)); have n2_ := zA (below_step (zHB) hb); have n3_ := zA (hbox); have n4_ := zA ((by rw [hg]; exact (keep_size (w := w) (g := g) (row := none) (zHK)) : w.heap.size ≤ gb101)); have n5_ := zA ((Nat.le_trans HW0.out (by rw [hg]; exact (keep_size (w := w) (g := g) (row := none) (zHK)) : w.heap.size ≤ gb101) : w0.heap.size ≤ gb101)); have n6_ := zA ((by rw [hg]; exact Nat.ne_of_lt (IsS117.lt (show IsS117 w0 _ g s0_0 s0_1 from zHI0)) : g ≠ gb101)); have n7_ := zA ((by rw [hg]; exact Nat.ne_of_gt (IsS117.lt (show IsS117 w0 _ g s0_0 s0_1 from zHI0)) : gb101 ≠ g)); clear HI0; clear HK; clear HB; have HI0 := n0_; have HK := n1_; have HB := n2_; have BK101 := n3_; have GW101 := n4_; have GE101 := n5_; have NB0_101 := n6_; have NB101_0 := n7_; clear n0_ n1_ n2_ n3_ n4_ n5_ n6_ n7_; clear hb hbox hg))
 (try simp only [Act.put, List.setIfInBounds_toArray, List.set_cons_zero, List.set_cons_succ])
 go_cut [12] (fun v12 wc => ∃ (kq : Nat) (x12_2 : Bool) (x1001_2 : Int), v12 = .bool x12_2 ∧ Aside0 (spec_l5Addr.j0 kq x12_2 s0_0 x1001_2 a1_0 a1_1 = some (r1, r2)) ∧ Aside0 (kq ≤ k) ∧ Aside0 (wc.heap[gb101]? = some (.cells #[.int .i64 a1_0, .int .i64 a1_1] 26 (0, 0))) ∧ Aside0 (IsS117 w0 wc g s0_0 x1001_2) ∧ Aside0 (KeepBut w wc g none) ∧ Aside0 (Below w0.heap.size w0 wc))
 case first =>
  have H := HC3.out
  clear HC3
  replace H := Option.bind_eq_some_iff.mp H
  obtain ⟨t102, A50, H⟩ := H
  replace H : (if t102 = true then ((spec_l1Rd_pick.f k s0_0 s0_1 4).bind fun bt103 => (spec_l5Addr.j0 k (bt103.1 == 0) s0_0 bt103.2 a1_0 a1_1)) else (spec_l5Addr.j0 k true s0_0 s0_1 a1_0 a1_1)) = some (r1, r2) := H
  have A5 := zA A50
  clear A50
  by_cases c6 : t102 = true
  ·subst c6
   have H1 : ((spec_l1Rd_pick.f k s0_0 s0_1 4).bind fun bt103 => (spec_l5Addr.j0 k (bt103.1 == 0) s0_0 bt103.2 a1_0 a1_1)) = some (r1, r2) := by rw [if_pos rfl] at H; exact H
   clear H
   have H := H1
   clear H1
   replace H := Option.bind_eq_some_iff.mp H
   obtain ⟨⟨t103, t104⟩, A70, H⟩ := H
   replace H : (spec_l5Addr.j0 k (t103 == 0) s0_0 t104 a1_0 a1_1) = some (r1, r2) := H
   have A7 := zA A70
   clear A70
   have H' := zA H
   clear H
   have hnb8 := NB101_0.out
   have hnc8 := NB0_101.out
   have hcz9_0 : w4.cell? ⟨gb101, 0, none⟩ = some (.int .i64 a1_0) := (blk_cell BK101.out 0).trans rfl
   have hcz9_1 : w4.cell? ⟨gb101, 1, none⟩ = some (.int .i64 a1_1) := (blk_cell BK101.out 1).trans rfl
   have hfz9_0 := blk_frozen BK101.out 0
   have hfz9_1 := blk_frozen BK101.out 1
   go_wp2_with (first | ((with_reducible refine gate_callee (f := 24) rfl ?_); refine goesL_ (some 6) rfl rfl Try.func24 (by kernel_rfl) rfl #[.agg #[.int .i64 a1_0, .int .i64 a1_1]] rfl y1  ?_; (with_reducible refine (spec_NetOk.calls k a1_0 a1_1 true _ A5.out).mono ?_); rintro e w10 ⟨rfl, hb⟩; refine ⟨_, rfl, ?_⟩; have n0_ := zA (IsS117.below (zHI0) hb); have n1_ := zA (blk_below (g := gb101) (o := .cells #[.int .i64 a1_0, .int .i64 a1_1] 26 (0, 0)) (zb BK101.out) hb); have n2_ := zA (KeepBut.trans (zHK) (KeepBut.of_below hb g none) (.inl rfl)); have n3_ := zA (below_step (zHB) hb); clear HI0; clear BK101; clear HK; clear HB; have HI0 := n0_; have BK101 := n1_; have HK := n2_; have HB := n3_; clear n0_ n1_ n2_ n3_; (try clear hb); (try clear hb2); (try clear hk); (try clear hi)) | (go_at_call 81; (with_reducible refine (spec_l1Rd_pick.calls k g s0_0 s0_1 4 t103 t104 w0 _ ?side1 ?side2 A7.out).mono ?_); (case side1 => exact zHI0); (case side2 => exact zHB); rintro e w11 ⟨rfl, hi, hb, hk⟩; have n0_ := zA (KeepBut.blk hk (g' := gb101) (o := .cells #[.int .i64 a1_0, .int .i64 a1_1] 26 (0, 0)) (zb BK101.out) NB101_0.out (by simp)); have n1_ := zA (KeepBut.trans (zHK) hk (.inl rfl)); have n2_ := zA (hb); have n3_ := zA (hi); clear BK101; clear HK; clear HB; clear HI0; have BK101 := n0_; have HK := n1_; have HB := n2_; have HI0 := n3_; clear n0_ n1_ n2_ n3_; (try clear hb); (try clear hb2); (try clear hk); (try clear hi)))
   go_meet
   case rel => exact ⟨_, ((t103 == 0)), (t104), (by first | rfl | (simp; done) | (simp [*]; done)), H', ⟨by first | omega | exact Nat.le_refl _⟩, ⟨by (with_reducible repeat (first | refine blk_drewN ?_ _ | refine blk_drew ?_ | refine blk_alloc ?_ _)); exact BK101.out⟩, ⟨zHI0⟩, ⟨zHK⟩, ⟨zHB⟩⟩
  replace c6 := Bool.eq_false_iff.mpr c6
  subst c6
  have H1 : (spec_l5Addr.j0 k true s0_0 s0_1 a1_0 a1_1) = some (r1, r2) := by rw [if_neg (show ¬ (false = true) by decide)] at H; exact H
  clear H
  have H := H1
  clear H1
  have H' := zA H
  clear H
  have hnb12 := NB101_0.out
  have hnc12 := NB0_101.out
  have hcz13_0 : w4.cell? ⟨gb101, 0, none⟩ = some (.int .i64 a1_0) := (blk_cell BK101.out 0).trans rfl
  have hcz13_1 : w4.cell? ⟨gb101, 1, none⟩ = some (.int .i64 a1_1) := (blk_cell BK101.out 1).trans rfl
  have hfz13_0 := blk_frozen BK101.out 0
  have hfz13_1 := blk_frozen BK101.out 1
  go_wp2_with (first | ((with_reducible refine gate_callee (f := 24) rfl ?_); refine goesL_ (some 6) rfl rfl Try.func24 (by kernel_rfl) rfl #[.agg #[.int .i64 a1_0, .int .i64 a1_1]] rfl y1  ?_; (with_reducible refine (spec_NetOk.calls k a1_0 a1_1 false _ A5.out).mono ?_); rintro e w14 ⟨rfl, hb⟩; refine ⟨_, rfl, ?_⟩; have n0_ := zA (IsS117.below (zHI0) hb); have n1_ := zA (blk_below (g := gb101) (o := .cells #[.int .i64 a1_0, .int .i64 a1_1] 26 (0, 0)) (zb BK101.out) hb); have n2_ := zA (KeepBut.trans (zHK) (KeepBut.of_below hb g none) (.inl rfl)); have n3_ := zA (below_step (zHB) hb); clear HI0; clear BK101; clear HK; clear HB; have HI0 := n0_; have BK101 := n1_; have HK := n2_; have HB := n3_; clear n0_ n1_ n2_ n3_; (try clear hb); (try clear hb2); (try clear hk); (try clear hi)))
  go_meet
  case rel => exact ⟨_, (true), (s0_1), (by first | rfl | (simp; done) | (simp [*]; done)), H', ⟨by first | omega | exact Nat.le_refl _⟩, ⟨by (with_reducible repeat (first | refine blk_drewN ?_ _ | refine blk_drew ?_ | refine blk_alloc ?_ _)); exact BK101.out⟩, ⟨zHI0⟩, ⟨zHK⟩, ⟨zHB⟩⟩
 case rest =>
  clear HC3
  try clear c1
  try clear c2
  try clear p2
  try clear c6
  try clear c8
  try clear c10
  try clear c12
  try clear hcz13_0
  try clear hcz13_1
  try clear hcz9_0
  try clear hcz9_1
  try clear hfz13_0
  try clear hfz13_1
  try clear hfz9_0
  try clear hfz9_1
  obtain ⟨kq, x12_2, x1001_2, rfl, HA, HJ2, BK101, HI0, HK, HB⟩ := hcut
  cases kq with
  | zero => exact absurd HA.out (by simp [spec_l5Addr.j0])
  | succ kj2 => ?_
  have H := HA.out
  clear HA
  simp only [spec_l5Addr.j0] at H
  by_cases c15 : x12_2 = true
  ·subst c15
   have H1 : ((spec_l1Rd_pick.f kj2 s0_0 x1001_2 65536).bind fun bt105 => ((some (([bt105.1, (-1), 65536, 0, 65535] : List Int) : List Int)).bind fun y107 => ((spec_l1Rd_pick.f kj2 s0_0 bt105.2 5).bind fun bt110 => (if 0 ≤ bt110.1 then (if bt110.1 < (y107.length : Int) then (some (rd y107 bt110.1, bt110.2)) else (none)) else (none))))) = some (r1, r2) := by rw [if_pos rfl] at H; exact H
   clear H
   have H := H1
   clear H1
   replace H := Option.bind_eq_some_iff.mp H
   obtain ⟨⟨t105, t106⟩, A160, H⟩ := H
   replace H : ((some (([t105, (-1), 65536, 0, 65535] : List Int) : List Int)).bind fun y107 => ((spec_l1Rd_pick.f kj2 s0_0 t106 5).bind fun bt110 => (if 0 ≤ bt110.1 then (if bt110.1 < (y107.length : Int) then (some (rd y107 bt110.1, bt110.2)) else (none)) else (none)))) = some (r1, r2) := H
   have A16 := zA A160
   clear A160
   obtain ⟨y107, hy107⟩ : ∃ y_ : List Int, y_ = (([t105, (-1), 65536, 0, 65535] : List Int)) := ⟨_, rfl⟩
   replace H : ((spec_l1Rd_pick.f kj2 s0_0 t106 5).bind fun bt110 => (if 0 ≤ bt110.1 then (if bt110.1 < (y107.length : Int) then (some (rd y107 bt110.1, bt110.2)) else (none)) else (none))) = some (r1, r2) := by first | (rw [hy107]; with_reducible exact H) | (have H2_ := (Option.bind_some _ _).symm.trans H; rw [hy107]; with_reducible exact H2_) | (have H2_ := (Option.bind_some _ _).symm.trans H; with_reducible exact H2_) | with_reducible exact H | (rw [hy107]; exact H) | exact H
   have Ny107 := zA hy107
   clear hy107
   replace H := Option.bind_eq_some_iff.mp H
   obtain ⟨⟨t110, t111⟩, A170, H⟩ := H
   replace H : (if 0 ≤ t110 then (if t110 < (y107.length : Int) then (some (rd y107 t110, t111)) else (none)) else (none)) = some (r1, r2) := H
   have A17 := zA A170
   clear A170
   by_cases c18 : 0 ≤ t110
   ·rw [if_pos c18] at H
    have c18b0 : decide (0 ≤ t110) = true := decide_eq_true c18
    clear c18
    by_cases c19 : t110 < (y107.length : Int)
    ·rw [if_pos c19] at H
     have c19b0 : decide (t110 < (y107.length : Int)) = true := decide_eq_true c19
     clear c19
     simp only [Option.some.injEq, Prod.mk.injEq] at H
     obtain ⟨rfl, rfl⟩ := H
     go_wp2_with (first | ((with_reducible refine gate_callee (f := 81) rfl ?_); refine goesL_ (some 14) rfl rfl Try.func81 (by kernel_rfl) rfl #[.pointer (some ⟨g, 0, none⟩), .int .i64 65536] rfl y1  ?_; (with_reducible refine (spec_l1Rd_pick.calls kj2 g s0_0 x1001_2 65536 t105 t106 w0 _ ?side1 ?side2 A16.out).mono ?_); (case side1 => exact zHI0); (case side2 => exact zHB); rintro e w20 ⟨rfl, hi, hb, hk⟩; refine ⟨_, rfl, ?_⟩; have n0_ := zA (KeepBut.blk hk (g' := gb101) (o := .cells #[.int .i64 a1_0, .int .i64 a1_1] 26 (0, 0)) (zb BK101.out) NB101_0.out (by simp)); have n1_ := zA (KeepBut.trans (zHK) hk (.inl rfl)); have n2_ := zA (hb); have n3_ := zA (hi); clear BK101; clear HK; clear HB; clear HI0; have BK101 := n0_; have HK := n1_; have HB := n2_; have HI0 := n3_; clear n0_ n1_ n2_ n3_; (try clear hb); (try clear hb2); (try clear hk); (try clear hi)) | ((with_reducible refine gate_dst (N := 15) rfl ?_); refine Kd.R_lit (Kd.int .i64) _ 3 ?hg (N := 15) ?hd (xs := ([t105, (-1), 65536, 0, 65535] : List Int)) (inner := [.int .i64 t105, .int .i64 (-1), .int .i64 65536, .int .i64 0, .int .i64 65535]) (ok := fun _ => True) (okp := fun _ => True) ?hr ?hp (fun _ hk => hk) trivial (Below.refl _ _) (Nat.le_refl _) (by simp) ?_; (case hd => rfl); (case hg => rfl); (case hr => first | (go_simp; done) | (go_simp; rfl)); (case hp => exact (Reps.one (show Kd.M (Kd.int .i64) _ _ _ t105 [.int .i64 t105] from rfl) (Reps.one (show Kd.M (Kd.int .i64) _ _ _ (-1) [.int .i64 (-1)] from rfl) (Reps.one (show Kd.M (Kd.int .i64) _ _ _ 65536 [.int .i64 65536] from rfl) (Reps.one (show Kd.M (Kd.int .i64) _ _ _ 0 [.int .i64 0] from rfl) (Reps.one (show Kd.M (Kd.int .i64) _ _ _ 65535 [.int .i64 65535] from rfl) (Reps.none _ _))))))); intro v108 w21 ho22 hb hg_ hnew_; clear hg_ hnew_; (first | rw [← Ny107.out] at ho22 | (simp only [Int.reduceToNat] at ho22; rw [← Ny107.out] at ho22)); have n0_ := zA (Kd.R_lower ho22 (keep_size (w := w) (g := g) (row := none) (zHK))); have n1_ := zA (blk_below (g := gb101) (o := .cells #[.int .i64 a1_0, .int .i64 a1_1] 26 (0, 0)) (zb BK101.out) hb); have n2_ := zA (IsS117.below (zHI0) hb); have n3_ := zA (KeepBut.trans (zHK) (KeepBut.of_below hb g none) (.inl rfl)); have n4_ := zA (below_step (zHB) hb); clear BK101; clear HI0; clear HK; clear HB; have HO109 := n0_; have BK101 := n1_; have HI0 := n2_; have HK := n3_; have HB := n4_; clear n0_ n1_ n2_ n3_ n4_; clear hb ho22) | ((with_reducible refine gate_callee (f := 81) rfl ?_); refine goesL_ (some 17) rfl rfl Try.func81 (by kernel_rfl) rfl #[.pointer (some ⟨g, 0, none⟩), .int .i64 5] rfl y1  ?_; (with_reducible refine (spec_l1Rd_pick.calls kj2 g s0_0 t106 5 t110 t111 w0 _ ?side1 ?side2 A17.out).mono ?_); (case side1 => exact zHI0); (case side2 => exact zHB); rintro e w23 ⟨rfl, hi, hb, hk⟩; refine ⟨_, rfl, ?_⟩; have n0_ := zA (KeepBut.blk hk (g' := gb101) (o := .cells #[.int .i64 a1_0, .int .i64 a1_1] 26 (0, 0)) (zb BK101.out) NB101_0.out (by simp)); have n1_ := zA (Kd.R_mono (Kd.R_keep (IsS117.apart (show IsS117 w0 _ g s0_0 t106 from zHI0) (zr HO109.out) (by decide)) hk (fun _ h => h.2)) (fun _ h => h.1)); have n2_ := zA (KeepBut.trans (zHK) hk (.inl rfl)); have n3_ := zA (hb); have n4_ := zA (hi); clear BK101; clear HO109; clear HK; clear HB; clear HI0; have BK101 := n0_; have HO109 := n1_; have HK := n2_; have HB := n3_; have HI0 := n4_; clear n0_ n1_ n2_ n3_ n4_; (try clear hb); (try clear hb2); (try clear hk); (try clear hi); obtain ⟨Ao24, co24, eo24⟩ := Kd.R_slice HO109.out; subst eo24; have p112 : 0 ≤ (t110 : Int) := of_decide_eq_true y2 ; have q112 : t110 < (y107.length : Int) := of_decide_eq_true y2 ; obtain ⟨ad112, e112, hx112_0⟩ := Kd.at_int (Kd.R_reads' HO109.out).2.2 t110 p112 q112; cases e112; replace p112 := eq_true p112; replace q112 := eq_true q112))
     go_ret
     exact ⟨by first | rfl | (simp [errW_none, errW_some] <;> rfl) | (simp [*, errW_none, errW_some] <;> rfl), zHI0, zHB, zHK⟩
    rw [if_neg c19] at H
    exact absurd H (by simp)
   rw [if_neg c18] at H
   exact absurd H (by simp)
  replace c15 := Bool.eq_false_iff.mpr c15
  subst c15
  have H1 : ((spec_l1Size.f kj2 a1_1).bind fun t113 => ((spec_l1Size.f kj2 a1_1).bind fun t114 => ((spec_l1Size.f kj2 a1_1).bind fun t115 => ((spec_l1Rd_pick.f kj2 s0_0 x1001_2 t115).bind fun bt116 => ((some (([0, (-1), t113, wrap64 (t114 - 1), bt116.1] : List Int) : List Int)).bind fun y118 => ((spec_l1Rd_pick.f kj2 s0_0 bt116.2 5).bind fun bt121 => (if 0 ≤ bt121.1 then (if bt121.1 < (y118.length : Int) then (some (wrap64 (a1_0 + (rd y118 bt121.1)), bt121.2)) else (none)) else (none)))))))) = some (r1, r2) := by rw [if_neg (show ¬ (false = true) by decide)] at H; exact H
  clear H
  have H := H1
  clear H1
  replace H := Option.bind_eq_some_iff.mp H
  obtain ⟨t113, A250, H⟩ := H
  replace H : ((spec_l1Size.f kj2 a1_1).bind fun t114 => ((spec_l1Size.f kj2 a1_1).bind fun t115 => ((spec_l1Rd_pick.f kj2 s0_0 x1001_2 t115).bind fun bt116 => ((some (([0, (-1), t113, wrap64 (t114 - 1), bt116.1] : List Int) : List Int)).bind fun y118 => ((spec_l1Rd_pick.f kj2 s0_0 bt116.2 5).bind fun bt121 => (if 0 ≤ bt121.1 then (if bt121.1 < (y118.length : Int) then (some (wrap64 (a1_0 + (rd y118 bt121.1)), bt121.2)) else (none)) else (none))))))) = some (r1, r2) := H
  have A25 := zA A250
  clear A250
  replace H := Option.bind_eq_some_iff.mp H
  obtain ⟨t114, A260, H⟩ := H
  replace H : ((spec_l1Size.f kj2 a1_1).bind fun t115 => ((spec_l1Rd_pick.f kj2 s0_0 x1001_2 t115).bind fun bt116 => ((some (([0, (-1), t113, wrap64 (t114 - 1), bt116.1] : List Int) : List Int)).bind fun y118 => ((spec_l1Rd_pick.f kj2 s0_0 bt116.2 5).bind fun bt121 => (if 0 ≤ bt121.1 then (if bt121.1 < (y118.length : Int) then (some (wrap64 (a1_0 + (rd y118 bt121.1)), bt121.2)) else (none)) else (none)))))) = some (r1, r2) := H
  have A26 := zA A260
  clear A260
  replace H := Option.bind_eq_some_iff.mp H
  obtain ⟨t115, A270, H⟩ := H
  replace H : ((spec_l1Rd_pick.f kj2 s0_0 x1001_2 t115).bind fun bt116 => ((some (([0, (-1), t113, wrap64 (t114 - 1), bt116.1] : List Int) : List Int)).bind fun y118 => ((spec_l1Rd_pick.f kj2 s0_0 bt116.2 5).bind fun bt121 => (if 0 ≤ bt121.1 then (if bt121.1 < (y118.length : Int) then (some (wrap64 (a1_0 + (rd y118 bt121.1)), bt121.2)) else (none)) else (none))))) = some (r1, r2) := H
  have A27 := zA A270
  clear A270
  replace H := Option.bind_eq_some_iff.mp H
  obtain ⟨⟨t116, t117⟩, A280, H⟩ := H
  replace H : ((some (([0, (-1), t113, wrap64 (t114 - 1), t116] : List Int) : List Int)).bind fun y118 => ((spec_l1Rd_pick.f kj2 s0_0 t117 5).bind fun bt121 => (if 0 ≤ bt121.1 then (if bt121.1 < (y118.length : Int) then (some (wrap64 (a1_0 + (rd y118 bt121.1)), bt121.2)) else (none)) else (none)))) = some (r1, r2) := H
  have A28 := zA A280
  clear A280
  obtain ⟨y118, hy118⟩ : ∃ y_ : List Int, y_ = (([0, (-1), t113, wrap64 (t114 - 1), t116] : List Int)) := ⟨_, rfl⟩
  replace H : ((spec_l1Rd_pick.f kj2 s0_0 t117 5).bind fun bt121 => (if 0 ≤ bt121.1 then (if bt121.1 < (y118.length : Int) then (some (wrap64 (a1_0 + (rd y118 bt121.1)), bt121.2)) else (none)) else (none))) = some (r1, r2) := by first | (rw [hy118]; with_reducible exact H) | (have H2_ := (Option.bind_some _ _).symm.trans H; rw [hy118]; with_reducible exact H2_) | (have H2_ := (Option.bind_some _ _).symm.trans H; with_reducible exact H2_) | with_reducible exact H | (rw [hy118]; exact H) | exact H
  have Ny118 := zA hy118
  clear hy118
  replace H := Option.bind_eq_some_iff.mp H
  obtain ⟨⟨t121, t122⟩, A290, H⟩ := H
  replace H : (if 0 ≤ t121 then (if t121 < (y118.length : Int) then (some (wrap64 (a1_0 + (rd y118 t121)), t122)) else (none)) else (none)) = some (r1, r2) := H
  have A29 := zA A290
  clear A290
  by_cases c30 : 0 ≤ t121
  ·rw [if_pos c30] at H
   have c30b0 : decide (0 ≤ t121) = true := decide_eq_true c30
   clear c30
   by_cases c31 : t121 < (y118.length : Int)
   ·rw [if_pos c31] at H
    have c31b0 : decide (t121 < (y118.length : Int)) = true := decide_eq_true c31
    clear c31
    simp only [Option.some.injEq, Prod.mk.injEq] at H
    obtain ⟨rfl, rfl⟩ := H
    try go_wp2
    have pi123 : (0 ≤ (t121 : Int)) = True := eq_true (of_decide_eq_true y2 )
    have qi123 : (t121 < (y118.length : Int)) = True := eq_true (of_decide_eq_true y2 )
    have n0_ := zA (blk_drew BK101.out)
    have n1_ := zA (IsS117.drew HI0.out)
    have n2_ := zA (keep_drew HK.out)
    have n3_ := zA (below_drew1 HB.out)
    clear BK101
    clear HI0
    clear HK
    clear HB
    have BK101 := n0_
    have HI0 := n1_
    have HK := n2_
    have HB := n3_
    clear n0_ n1_ n2_ n3_
    refine start_ (n := 21) (S := fun w' => w'.cell? ⟨gb101, 0, none⟩ = some (.int .i64 a1_0) ∧ w'.cell? ⟨gb101, 1, none⟩ = some (.int .i64 a1_1)) (ds := []) (zl 21 0) (by kernel_rfl) rfl rfl ⟨(blk_cell BK101.out 0).trans rfl, (blk_cell BK101.out 1).trans rfl⟩ (fun hHeld => ?_); refine with_tabW spec_l5Addr.tab3 spec_l5Addr.bits3 (fun HT_ HW_ => ?_)
    generalize wc.drew = w32 at BK101 HI0 HK HB hHeld ⊢
    refine pure_ (i := 0) (N := some 20) (v := ?_) (a' := ?_) (zl 21 1) rfl rfl (any_of HT_.out (by kernel_rfl)) (fun _ _ _ h => h) (Or.inl ⟨by rfl, ?_⟩) ?_ ?_
    rotate_left
    ·intro w'
     go_simp
     with_reducible rfl
    rotate_left
    ·simp only [Act.put, List.setIfInBounds_toArray, List.set_cons_zero, List.set_cons_succ, i64_w, i32_w]
     rfl
    refine pure_ (i := 2) (N := some 22) (v := ?_) (a' := ?_) (zl 21 5) rfl rfl (any_of HT_.out (by kernel_rfl)) (fun _ _ _ h => h) (Or.inl ⟨by rfl, ?_⟩) ?_ ?_
    rotate_left
    ·intro w'
     go_simp
     with_reducible rfl
    rotate_left
    ·simp only [Act.put, List.setIfInBounds_toArray, List.set_cons_zero, List.set_cons_succ, i64_w, i32_w]
     rfl
    refine pure_ (i := 5) (N := some 25) (v := ?_) (a' := ?_) (zl 21 37) rfl rfl (any_of HT_.out (by kernel_rfl)) (fun _ _ _ h => h) (Or.inl ⟨by rfl, ?_⟩) ?_ ?_
    rotate_left
    ·intro w'
     go_simp
     with_reducible rfl
    rotate_left
    ·simp only [Act.put, List.setIfInBounds_toArray, List.set_cons_zero, List.set_cons_succ, i64_w, i32_w]
     rfl
    refine pure_ (i := 9) (N := some 29) (v := ?_) (a' := ?_) (zl 21 549) rfl rfl (any_of HT_.out (by kernel_rfl)) (fun _ _ _ h => h) (Or.inl ⟨by rfl, ?_⟩) ?_ ?_
    rotate_left
    ·intro w'
     go_simp
     with_reducible rfl
    rotate_left
    ·simp only [Act.put, List.setIfInBounds_toArray, List.set_cons_zero, List.set_cons_succ, i64_w, i32_w]
     rfl
    refine pure_ (i := 10) (N := some 30) (v := ?_) (a' := ?_) (zl 21 1573) rfl rfl (any_of HT_.out (by kernel_rfl)) (fun _ _ _ h => h) (Or.inl ⟨by rfl, ?_⟩) ?_ ?_
    rotate_left
    ·intro w'
     go_simp
     with_reducible rfl
    rotate_left
    ·simp only [Act.put, List.setIfInBounds_toArray, List.set_cons_zero, List.set_cons_succ, i64_w, i32_w]
     rfl
    refine pure_ (i := 15) (N := some 35) (v := ?_) (a' := ?_) (zl 21 34341) rfl rfl (any_of HT_.out (by kernel_rfl)) (fun _ _ _ h => h) (Or.inl ⟨by rfl, ?_⟩) ?_ ?_
    rotate_left
    ·intro w'
     go_simp
     with_reducible rfl
    rotate_left
    ·simp only [Act.put, List.setIfInBounds_toArray, List.set_cons_zero, List.set_cons_succ, i64_w, i32_w]
     rfl
    refine take_ (i := 1) (N := some 21) (v := ?_) (a' := ?_) (zl 21 34343) rfl rfl (take_ofW HT_.out HW_.out (by kernel_rfl)) (fun _ _ _ h => h) (Or.inl ⟨by rfl, ?_⟩) hHeld ?_ ?_
    rotate_left
    ·rintro w' ⟨s0, s1⟩
     go_simp
     with_reducible rfl
    rotate_left
    ·simp only [Act.put, List.setIfInBounds_toArray, List.set_cons_zero, List.set_cons_succ, i64_w, i32_w]
     rfl
    refine take_ (i := 3) (N := some 23) (v := ?_) (a' := ?_) (zl 21 34351) rfl rfl (take_ofW HT_.out HW_.out (by kernel_rfl)) (fun _ _ _ h => h) (Or.inl ⟨by rfl, ?_⟩) hHeld ?_ ?_
    rotate_left
    ·rintro w' ⟨s0, s1⟩
     go_simp
     with_reducible rfl
    rotate_left
    ·simp only [Act.put, List.setIfInBounds_toArray, List.set_cons_zero, List.set_cons_succ, i64_w, i32_w]
     rfl
    refine take_ (i := 6) (N := some 26) (v := ?_) (a' := ?_) (zl 21 34415) rfl rfl (take_ofW HT_.out HW_.out (by kernel_rfl)) (fun _ _ _ h => h) (Or.inl ⟨by rfl, ?_⟩) hHeld ?_ ?_
    rotate_left
    ·rintro w' ⟨s0, s1⟩
     go_simp
     with_reducible rfl
    rotate_left
    ·simp only [Act.put, List.setIfInBounds_toArray, List.set_cons_zero, List.set_cons_succ, i64_w, i32_w]
     rfl
    refine take_ (i := 11) (N := some 31) (v := ?_) (a' := ?_) (zl 21 36463) rfl rfl (take_ofW HT_.out HW_.out (by kernel_rfl)) (fun _ _ _ h => h) (Or.inl ⟨by rfl, ?_⟩) hHeld ?_ ?_
    rotate_left
    ·rintro w' ⟨s0, s1⟩
     go_simp
     with_reducible rfl
    rotate_left
    ·simp only [Act.put, List.setIfInBounds_toArray, List.set_cons_zero, List.set_cons_succ, i64_w, i32_w]
     rfl
    refine one_ (i := 4) (N := some 24) (zl 21 36479) rfl rfl (one_of HT_.out (by kernel_rfl)) (by decide) (fun K hK => ?_)
    refine goes_ Try.func76 (by kernel_rfl) rfl #[.int .i64 a1_1] (by rfl) rfl rfl y1  ?_
    with_reducible refine (spec_l1Size.calls kj2 a1_1 t113 _ A25.out).mono ?_
    rintro e w' ⟨rfl, ⟨nd, rfl⟩⟩
    refine ⟨_, rfl, ?_⟩
    refine hK.out _ _ ⟨(blk_cell BK101.out 0).trans rfl, (blk_cell BK101.out 1).trans rfl⟩ (fun hHeld => ?_)
    clear hK K
    refine norm_ (a' := ?_) ?_ ?_
    rotate_left
    ·show Act.put _ (some 24) _ = _
     simp only [Act.put, List.setIfInBounds_toArray, List.set_cons_zero, List.set_cons_succ, i64_w, i32_w]
     rfl
    refine one_ (i := 7) (N := some 27) (zl 21 36607) rfl rfl (one_of HT_.out (by kernel_rfl)) (by decide) (fun K hK => ?_)
    refine goes_ Try.func76 (by kernel_rfl) rfl #[.int .i64 a1_1] (by rfl) rfl rfl y1  ?_
    with_reducible refine (spec_l1Size.calls kj2 a1_1 t114 _ A26.out).mono ?_
    rintro e w' ⟨rfl, ⟨nd, rfl⟩⟩
    refine ⟨_, rfl, ?_⟩
    refine hK.out _ _ ⟨(blk_cell BK101.out 0).trans rfl, (blk_cell BK101.out 1).trans rfl⟩ (fun hHeld => ?_)
    clear hK K
    refine norm_ (a' := ?_) ?_ ?_
    rotate_left
    ·show Act.put _ (some 27) _ = _
     simp only [Act.put, List.setIfInBounds_toArray, List.set_cons_zero, List.set_cons_succ, i64_w, i32_w]
     rfl
    refine pure_ (i := 8) (N := some 28) (v := ?_) (a' := ?_) (zl 21 36863) rfl rfl (any_of HT_.out (by kernel_rfl)) (fun _ _ _ h => h) (Or.inl ⟨by rfl, ?_⟩) ?_ ?_
    rotate_left
    ·intro w'
     go_simp
     with_reducible rfl
    rotate_left
    ·simp only [Act.put, List.setIfInBounds_toArray, List.set_cons_zero, List.set_cons_succ, i64_w, i32_w]
     rfl
    refine one_ (i := 12) (N := some 32) (zl 21 40959) rfl rfl (one_of HT_.out (by kernel_rfl)) (by decide) (fun K hK => ?_)
    refine goes_ Try.func76 (by kernel_rfl) rfl #[.int .i64 a1_1] (by rfl) rfl rfl y1  ?_
    with_reducible refine (spec_l1Size.calls kj2 a1_1 t115 _ A27.out).mono ?_
    rintro e w' ⟨rfl, ⟨nd, rfl⟩⟩
    refine ⟨_, rfl, ?_⟩
    refine hK.out _ _ ⟨(blk_cell BK101.out 0).trans rfl, (blk_cell BK101.out 1).trans rfl⟩ (fun hHeld => ?_)
    clear hK K
    refine norm_ (a' := ?_) ?_ ?_
    rotate_left
    ·show Act.put _ (some 32) _ = _
     simp only [Act.put, List.setIfInBounds_toArray, List.set_cons_zero, List.set_cons_succ, i64_w, i32_w]
     rfl
    refine one_ (i := 13) (N := some 33) (zl 21 49151) rfl rfl (one_of HT_.out (by kernel_rfl)) (by decide) (fun K hK => ?_)
    refine goes_ Try.func81 (by kernel_rfl) rfl #[.pointer (some ⟨g, 0, none⟩), .int .i64 t115] (by rfl) rfl rfl y1  ?_
    with_reducible refine (spec_l1Rd_pick.calls kj2 g s0_0 x1001_2 t115 t116 t117 w0 _ ?side1 ?side2 A28.out).mono ?_
    (case side1 => exact zHI0)
    (case side2 => exact zHB)
    rintro e w33 ⟨rfl, hi, hb, hk⟩
    refine ⟨_, rfl, ?_⟩
    have n0_ := zA (KeepBut.blk hk (g' := gb101) (o := .cells #[.int .i64 a1_0, .int .i64 a1_1] 26 (0, 0)) (zb BK101.out) NB101_0.out (by simp))
    have n1_ := zA (KeepBut.trans (zHK) hk (.inl rfl))
    have n2_ := zA (hb)
    have n3_ := zA (hi)
    clear BK101
    clear HK
    clear HB
    clear HI0
    have BK101 := n0_
    have HK := n1_
    have HB := n2_
    have HI0 := n3_
    clear n0_ n1_ n2_ n3_
    (try clear hb)
    (try clear hb2)
    (try clear hk)
    (try clear hi)
    refine hK.out _ _ ⟨(blk_cell BK101.out 0).trans rfl, (blk_cell BK101.out 1).trans rfl⟩ (fun hHeld => ?_)
    clear hK K
    refine norm_ (a' := ?_) ?_ ?_
    rotate_left
    ·show Act.put _ (some 33) _ = _
     simp only [Act.put, List.setIfInBounds_toArray, List.set_cons_zero, List.set_cons_succ, i64_w, i32_w]
     rfl
    refine join_ (σ := Value × Addr) 4 (zl 21 131071) (fun s_ => [(34, s_.1), (36, .int .i64 t121)]) (fun s_ w' => (w'.cell? ⟨gb101, 0, none⟩ = some (.int .i64 a1_0) ∧ w'.cell? ⟨gb101, 1, none⟩ = some (.int .i64 a1_1)) ∧ (Kd.R (Kd.int .i64) 3 w' w.heap.size (fun _ => True) s_.1 y118) ∧ (∃ c_, (s_.1 : Value) = .slice (some s_.2) y118.length c_) ∧ (w'.heap[gb101]? = some (.cells #[.int .i64 a1_0, .int .i64 a1_1] 26 (0, 0))) ∧ (IsS117 w0 w' g s0_0 t122) ∧ (KeepBut w w' g none) ∧ (Below w0.heap.size w0 w')) ?_ ?_
    rotate_left
    ·intro hCont
     refine two_ (i := 14) (j := 16) (Ni := some 34) (Nj := some 36) (zl 21 65535) (zl 21 114687) rfl rfl rfl rfl (two_of HT_.out (by kernel_rfl)) (by decide) (by decide) (fun K hK => ?_) (fun K hK => ?_)
     ·skip
      refine Kd.R_lit_step (Kd.int .i64) _ 3 ?hg (N := 34) ?hd (xs := ([0, (-1), t113, wrap64 (t114 - 1), t116] : List Int)) (inner := [.int .i64 0, .int .i64 (-1), .int .i64 t113, .int .i64 (wrap64 (t114 - 1)), .int .i64 t116]) (ok := fun _ => True) (okp := fun _ => True) ?hr ?hp (fun _ hk => hk) trivial (Below.refl _ _) (Nat.le_refl _) (by simp) ?_; (case hd => rfl); (case hg => rfl); (case hr => first | (go_simp; done) | (go_simp; rfl)); (case hp => exact (Reps.one (show Kd.M (Kd.int .i64) _ _ _ 0 [.int .i64 0] from rfl) (Reps.one (show Kd.M (Kd.int .i64) _ _ _ (-1) [.int .i64 (-1)] from rfl) (Reps.one (show Kd.M (Kd.int .i64) _ _ _ t113 [.int .i64 t113] from rfl) (Reps.one (show Kd.M (Kd.int .i64) _ _ _ (wrap64 (t114 - 1)) [.int .i64 (wrap64 (t114 - 1))] from rfl) (Reps.one (show Kd.M (Kd.int .i64) _ _ _ t116 [.int .i64 t116] from rfl) (Reps.none _ _)))))))
      intro v119 w34 ho35 hb hg_ hnew_
      clear hg_ hnew_
      (first | rw [← Ny118.out] at ho35 | (simp only [Int.reduceToNat] at ho35; rw [← Ny118.out] at ho35))
      have n0_ := zA (Kd.R_lower ho35 (keep_size (w := w) (g := g) (row := none) (zHK)))
      have n1_ := zA (blk_below (g := gb101) (o := .cells #[.int .i64 a1_0, .int .i64 a1_1] 26 (0, 0)) (zb BK101.out) hb)
      have n2_ := zA (IsS117.below (zHI0) hb)
      have n3_ := zA (KeepBut.trans (zHK) (KeepBut.of_below hb g none) (.inl rfl))
      have n4_ := zA (below_step (zHB) hb)
      clear BK101
      clear HI0
      clear HK
      clear HB
      have HO120 := n0_
      have BK101 := n1_
      have HI0 := n2_
      have HK := n3_
      have HB := n4_
      clear n0_ n1_ n2_ n3_ n4_
      clear hb ho35
      obtain ⟨Ao36, co36, eo36⟩ := Kd.R_slice HO120.out
      subst eo36
      obtain ⟨ado36, fo36, _⟩ := Kd.at_int (Kd.R_reads' HO120.out).2.2 0 (by decide) (by rw [Ny118.out]; simp)
      cases fo36
      refine hK.out _ _ ⟨(blk_cell BK101.out 0).trans rfl, (blk_cell BK101.out 1).trans rfl⟩ (fun hHeld => ?_)
      clear hK K
      refine norm_ (a' := ?_) ?_ ?_
      rotate_left
      ·show Act.put _ (some 34) _ = _
       simp only [Act.put, List.setIfInBounds_toArray, List.set_cons_zero, List.set_cons_succ, i64_w, i32_w]
       rfl
      refine one_ (i := 16) (N := some 36) (zl 21 131071) rfl rfl (one_of HT_.out (by kernel_rfl)) (by decide) (fun K hK => ?_)
      refine goes_ Try.func81 (by kernel_rfl) rfl #[.pointer (some ⟨g, 0, none⟩), .int .i64 5] (by rfl) rfl rfl y1  ?_
      with_reducible refine (spec_l1Rd_pick.calls kj2 g s0_0 t117 5 t121 t122 w0 _ ?side1 ?side2 A29.out).mono ?_
      (case side1 => exact zHI0)
      (case side2 => exact zHB)
      rintro e w37 ⟨rfl, hi, hb, hk⟩
      refine ⟨_, rfl, ?_⟩
      have n0_ := zA (KeepBut.blk hk (g' := gb101) (o := .cells #[.int .i64 a1_0, .int .i64 a1_1] 26 (0, 0)) (zb BK101.out) NB101_0.out (by simp))
      have n1_ := zA (Kd.R_mono (Kd.R_keep (IsS117.apart (show IsS117 w0 _ g s0_0 t117 from zHI0) (zr HO120.out) (by decide)) hk (fun _ h => h.2)) (fun _ h => h.1))
      have n2_ := zA (KeepBut.trans (zHK) hk (.inl rfl))
      have n3_ := zA (hb)
      have n4_ := zA (hi)
      clear BK101
      clear HO120
      clear HK
      clear HB
      clear HI0
      have BK101 := n0_
      have HO120 := n1_
      have HK := n2_
      have HB := n3_
      have HI0 := n4_
      clear n0_ n1_ n2_ n3_ n4_
      (try clear hb)
      (try clear hb2)
      (try clear hk)
      (try clear hi)
      refine hK.out _ _ ⟨(blk_cell BK101.out 0).trans rfl, (blk_cell BK101.out 1).trans rfl⟩ (fun hHeld => ?_)
      clear hK K
      refine norm_ (a' := ?_) ?_ ?_
      rotate_left
      ·show Act.put _ (some 36) _ = _
       simp only [Act.put, List.setIfInBounds_toArray, List.set_cons_zero, List.set_cons_succ, i64_w, i32_w]
       rfl
      exact norm_ (by simp only [putAll, Act.put, List.setIfInBounds_toArray, List.set_cons_zero, List.set_cons_succ]) (hCont (.slice (some ado36) y118.length co36, ado36) _ ⟨hHeld, (zr HO120.out), ⟨_, rfl⟩, (zb BK101.out), (zHI0), (zHK), (zHB)⟩)
     skip
     refine goes_ Try.func81 (by kernel_rfl) rfl #[.pointer (some ⟨g, 0, none⟩), .int .i64 5] (by rfl) rfl rfl y1  ?_
     with_reducible refine (spec_l1Rd_pick.calls kj2 g s0_0 t117 5 t121 t122 w0 _ ?side1 ?side2 A29.out).mono ?_
     (case side1 => exact zHI0)
     (case side2 => exact zHB)
     rintro e w34 ⟨rfl, hi, hb, hk⟩
     refine ⟨_, rfl, ?_⟩
     have n0_ := zA (KeepBut.blk hk (g' := gb101) (o := .cells #[.int .i64 a1_0, .int .i64 a1_1] 26 (0, 0)) (zb BK101.out) NB101_0.out (by simp))
     have n1_ := zA (KeepBut.trans (zHK) hk (.inl rfl))
     have n2_ := zA (hb)
     have n3_ := zA (hi)
     clear BK101
     clear HK
     clear HB
     clear HI0
     have BK101 := n0_
     have HK := n1_
     have HB := n2_
     have HI0 := n3_
     clear n0_ n1_ n2_ n3_
     (try clear hb)
     (try clear hb2)
     (try clear hk)
     (try clear hi)
     refine hK.out _ _ ⟨(blk_cell BK101.out 0).trans rfl, (blk_cell BK101.out 1).trans rfl⟩ (fun hHeld => ?_)
     clear hK K
     refine norm_ (a' := ?_) ?_ ?_
     rotate_left
     ·show Act.put _ (some 36) _ = _
      simp only [Act.put, List.setIfInBounds_toArray, List.set_cons_zero, List.set_cons_succ, i64_w, i32_w]
      rfl
     refine one_ (i := 14) (N := some 34) (zl 21 131071) rfl rfl (one_of HT_.out (by kernel_rfl)) (by decide) (fun K hK => ?_)
     refine Kd.R_lit_step (Kd.int .i64) _ 3 ?hg (N := 34) ?hd (xs := ([0, (-1), t113, wrap64 (t114 - 1), t116] : List Int)) (inner := [.int .i64 0, .int .i64 (-1), .int .i64 t113, .int .i64 (wrap64 (t114 - 1)), .int .i64 t116]) (ok := fun _ => True) (okp := fun _ => True) ?hr ?hp (fun _ hk => hk) trivial (Below.refl _ _) (Nat.le_refl _) (by simp) ?_; (case hd => rfl); (case hg => rfl); (case hr => first | (go_simp; done) | (go_simp; rfl)); (case hp => exact (Reps.one (show Kd.M (Kd.int .i64) _ _ _ 0 [.int .i64 0] from rfl) (Reps.one (show Kd.M (Kd.int .i64) _ _ _ (-1) [.int .i64 (-1)] from rfl) (Reps.one (show Kd.M (Kd.int .i64) _ _ _ t113 [.int .i64 t113] from rfl) (Reps.one (show Kd.M (Kd.int .i64) _ _ _ (wrap64 (t114 - 1)) [.int .i64 (wrap64 (t114 - 1))] from rfl) (Reps.one (show Kd.M (Kd.int .i64) _ _ _ t116 [.int .i64 t116] from rfl) (Reps.none _ _)))))))
     intro v119 w35 ho36 hb hg_ hnew_
     clear hg_ hnew_
     (first | rw [← Ny118.out] at ho36 | (simp only [Int.reduceToNat] at ho36; rw [← Ny118.out] at ho36))
     have n0_ := zA (Kd.R_lower ho36 (keep_size (w := w) (g := g) (row := none) (zHK)))
     have n1_ := zA (blk_below (g := gb101) (o := .cells #[.int .i64 a1_0, .int .i64 a1_1] 26 (0, 0)) (zb BK101.out) hb)
     have n2_ := zA (IsS117.below (zHI0) hb)
     have n3_ := zA (KeepBut.trans (zHK) (KeepBut.of_below hb g none) (.inl rfl))
     have n4_ := zA (below_step (zHB) hb)
     clear BK101
     clear HI0
     clear HK
     clear HB
     have HO120 := n0_
     have BK101 := n1_
     have HI0 := n2_
     have HK := n3_
     have HB := n4_
     clear n0_ n1_ n2_ n3_ n4_
     clear hb ho36
     obtain ⟨Ao37, co37, eo37⟩ := Kd.R_slice HO120.out
     subst eo37
     obtain ⟨ado37, fo37, _⟩ := Kd.at_int (Kd.R_reads' HO120.out).2.2 0 (by decide) (by rw [Ny118.out]; simp)
     cases fo37
     refine hK.out _ _ ⟨(blk_cell BK101.out 0).trans rfl, (blk_cell BK101.out 1).trans rfl⟩ (fun hHeld => ?_)
     clear hK K
     refine norm_ (a' := ?_) ?_ ?_
     rotate_left
     ·show Act.put _ (some 34) _ = _
      simp only [Act.put, List.setIfInBounds_toArray, List.set_cons_zero, List.set_cons_succ, i64_w, i32_w]
      rfl
     exact norm_ (by simp only [putAll, Act.put, List.setIfInBounds_toArray, List.set_cons_zero, List.set_cons_succ]) (hCont (.slice (some ado37) y118.length co37, ado37) _ ⟨hHeld, (zr HO120.out), ⟨_, rfl⟩, (zb BK101.out), (zHI0), (zHK), (zHB)⟩)
    rintro ⟨v119, adz_v119⟩ w38 ⟨hS_, h0_, h1_, h2_, h3_, h4_, h5_⟩
    have n0_ : Aside0 (Kd.R (Kd.int .i64) 3 w38 w.heap.size (fun _ => True) v119 y118) := ⟨h0_⟩
    have n1_ : Aside0 (∃ c_, (v119 : Value) = .slice (some adz_v119) y118.length c_) := ⟨h1_⟩
    have n2_ : Aside0 (w38.heap[gb101]? = some (.cells #[.int .i64 a1_0, .int .i64 a1_1] 26 (0, 0))) := ⟨h2_⟩
    have n3_ : Aside0 (IsS117 w0 w38 g s0_0 t122) := ⟨h3_⟩
    have n4_ : Aside0 (KeepBut w w38 g none) := ⟨h4_⟩
    have n5_ : Aside0 (Below w0.heap.size w0 w38) := ⟨h5_⟩
    clear BK101
    clear HI0
    clear HK
    clear HB
    clear h0_ h1_ h2_ h3_ h4_ h5_
    have HO120 := n0_
    have HA_HO120 := n1_
    have BK101 := n2_
    have HI0 := n3_
    have HK := n4_
    have HB := n5_
    clear n0_ n1_ n2_ n3_ n4_ n5_
    have hHeld : w38.cell? ⟨gb101, 0, none⟩ = some (.int .i64 a1_0) ∧ w38.cell? ⟨gb101, 1, none⟩ = some (.int .i64 a1_1) := hS_
    obtain ⟨co39, eo39⟩ := HA_HO120.out
    clear HA_HO120
    subst eo39
    refine norm_ (a' := ?_) ?_ ?_
    rotate_left
    ·simp only [putAll, Act.put, List.setIfInBounds_toArray, List.set_cons_zero, List.set_cons_succ]
     rfl
    refine pure_ (i := 17) (N := some 37) (v := ?_) (a' := ?_) (zl 21 262143) rfl rfl (any_of HT_.out (by kernel_rfl)) (fun _ _ _ h => h) (Or.inl ⟨by rfl, ?_⟩) ?_ ?_
    rotate_left
    ·intro w'
     go_simp
     with_reducible rfl
    rotate_left
    ·simp only [Act.put, List.setIfInBounds_toArray, List.set_cons_zero, List.set_cons_succ, i64_w, i32_w]
     rfl
    refine one_ (i := 18) (N := some 38) (zl 21 524287) rfl rfl (one_of HT_.out (by kernel_rfl)) (by decide) (fun K hK => ?_)
    (have p123 : 0 ≤ (t121 : Int) := of_decide_eq_true y2 ; have q123 : t121 < (y118.length : Int) := of_decide_eq_true y2 ; obtain ⟨ad123, e123, hx123_0⟩ := Kd.at_int (Kd.R_reads' HO120.out).2.2 t121 p123 q123; obtain rfl : adz_v119 = ad123 := (by injection e123))
    refine value_ (w1 := ?_) (v := ?_) (by rfl) rfl ?_ ?_
    rotate_left 2
    ·go_simp
     constructor
     ·rfl
     rfl
    clear hx123_0
    refine hK.out _ _ ⟨(blk_cell BK101.out 0).trans rfl, (blk_cell BK101.out 1).trans rfl⟩ (fun hHeld => ?_)
    clear hK K
    refine norm_ (a' := ?_) ?_ ?_
    rotate_left
    ·show Act.put _ (some 38) _ = _
     simp only [Act.put, List.setIfInBounds_toArray, List.set_cons_zero, List.set_cons_succ, i64_w, i32_w]
     rfl
    refine pure_ (i := 19) (N := some 39) (v := ?_) (a' := ?_) (zl 21 1048575) rfl rfl (any_of HT_.out (by kernel_rfl)) (fun _ _ _ h => h) (Or.inl ⟨by rfl, ?_⟩) ?_ ?_
    rotate_left
    ·intro w'
     go_simp
     with_reducible rfl
    rotate_left
    ·simp only [Act.put, List.setIfInBounds_toArray, List.set_cons_zero, List.set_cons_succ, i64_w, i32_w]
     rfl
    refine pure_ (i := 20) (N := some 4) (v := ?_) (a' := ?_) (zl 21 2097151) rfl rfl (any_of HT_.out (by kernel_rfl)) (fun _ _ _ h => h) (Or.inl ⟨by rfl, ?_⟩) ?_ ?_
    rotate_left
    ·intro w'
     go_simp
     with_reducible rfl
    rotate_left
    ·simp only [Act.put, List.setIfInBounds_toArray, List.set_cons_zero, List.set_cons_succ, i64_w, i32_w]
     rfl
    refine done_ (done_of HT_.out (by kernel_rfl)) ?_
    try go_wp2
    go_ret
    exact ⟨by first | rfl | (simp [errW_none, errW_some] <;> rfl) | (simp [*, errW_none, errW_some] <;> rfl), zHI0, zHB, zHK⟩
   rw [if_neg c31] at H
   exact absurd H (by simp)
  rw [if_neg c30] at H
  exact absurd H (by simp)
end Go.Proofs.Ytnakanjhdcakhaa.Q
namespace Go.Proofs.Ytnakanjhdcakhaa.Q
open Go.RowKit Go.Proofs.YtnakanjhdcakhaaW.PrintWords Go.Proofs.YtnakanjhdcakhaaW.PrintLast Go.Proofs.YtnakanjhdcakhaaW.PrintMore
attribute [local go_sem] max2_int min2_int max_two min_two max_three min_three max_four min_four   -- for this text's walks alone
set_option linter.unusedVariables false
set_option linter.unusedSimpArgs false
mutual
def spec_l5Packet.j0 : Nat → List (S54) → Bool → List Int → Int → Int → Int → Int → Option (Int × Int × Int × Int)
  | 0, _, _, _, _, _, _, _ => none
  | k + 1, x1, x22, x1000, x1001, x109000, x109001, x109002 => if x22 = true then ((spec_l1Rd_pick.f k x1000 x1001 (x1.length : Int)).bind fun bt111 => (if 0 ≤ bt111.1 then (if bt111.1 < (x1.length : Int) then ((spec_l5Addr.f k x1000 bt111.2 ((rd_T54 x1 bt111.1).f1.f0) ((rd_T54 x1 bt111.1).f1.f1)).bind fun bt115 => ((spec_l5Addr.f k x1000 bt115.2 ((rd_T54 x1 bt111.1).f2.f0) ((rd_T54 x1 bt111.1).f2.f1)).bind fun bt117 => (if ((rd_T54 x1 bt111.1).f3) > 0 then ((spec_l1Rd_pick.f k x1000 bt117.2 3).bind fun bt119 => (if bt119.1 > 0 then (spec_l5Packet.j1 k x1000 bt119.2 bt115.1 bt117.1 ((rd_T54 x1 bt111.1).f3)) else (spec_l5Packet.j1 k x1000 bt119.2 bt115.1 bt117.1 x109002))) else (spec_l5Packet.j1 k x1000 bt117.2 bt115.1 bt117.1 x109002)))) else (none)) else (none))) else (spec_l5Packet.j1 k x1000 x1001 x109000 x109001 x109002)
def spec_l5Packet.j1 : Nat → List Int → Int → Int → Int → Int → Option (Int × Int × Int × Int)
  | 0, _, _, _, _, _ => none
  | k + 1, x1000, x1001, x109000, x109001, x109002 => (spec_l1Rd_pick.f k x1000 x1001 24).bind fun bt121 => (if bt121.1 = 0 then ((some (([0, 8, (-1)] : List Int) : List Int)).bind fun y123 => ((spec_l1Rd_pick.f k x1000 bt121.2 3).bind fun bt126 => (if 0 ≤ bt126.1 then (if bt126.1 < (y123.length : Int) then (some (x109000, x109001, rd y123 bt126.1, bt126.2)) else (none)) else (none)))) else (some (x109000, x109001, x109002, bt121.2)))
end
def spec_l5Packet.f (k : Nat) (s0_0 : List Int) (s0_1 : Int) (l1 : List (S54)) : Option (Int × Int × Int × Int) := (spec_l1Rd_pick.f k s0_0 s0_1 65536).bind fun bt102 => ((spec_l1Rd_pick.f k s0_0 bt102.2 65536).bind fun bt104 => ((spec_l1Rd_pick.f k s0_0 bt104.2 7).bind fun bt106 => (if (l1.length : Int) > 0 then ((spec_l1Rd_pick.f k s0_0 bt106.2 5).bind fun bt109 => (spec_l5Packet.j0 k l1 (decide (bt109.1 > 0)) s0_0 bt109.2 bt102.1 bt104.1 (wrap64 (1 + bt106.1)))) else (spec_l5Packet.j0 k l1 false s0_0 bt106.2 bt102.1 bt104.1 (wrap64 (1 + bt106.1))))))
theorem spec_l5Packet.zHI0 {P : Prop} (h : P := by repeat (first | (with_reducible first | exact HI0.out | apply IsS117.alloc | apply IsS117.drewN | apply IsS117.drew | apply IsS117.set_1 | refine IsS117.far ?_ NB0_101.out _ | refine IsS117.far ?_ NB0_108.out _ | refine IsS117.far ?_ NB0_114.out _) | exact HI0.out)) : P := h
theorem spec_l5Packet.zHK {P : Prop} (h : P := by repeat (first | (with_reducible first | exact HK.out | apply KeepBut.set_ | apply keep_drewN | apply keep_drew | apply keep_alloc | refine keep_far ?_ GW101.out _ | refine keep_far ?_ GW108.out _ | refine keep_far ?_ GW114.out _) | exact HK.out)) : P := h
theorem spec_l5Packet.zHB {P : Prop} (h : P := by repeat (first | (with_reducible first | exact HB.out | apply below_alloc | apply pw_below_drewN | apply below_drew1 | refine below_set ?_ (IsS117.ge HI0.out) | refine below_set ?_ GE101.out | refine below_set ?_ GE108.out | refine below_set ?_ GE114.out) | exact HB.out)) : P := h
theorem spec_l5Packet.zb {P Q : Prop} (x : Q) (h : Q → P := by intro x_; (with_reducible repeat (first | refine blk_drewN ?_ _ | refine blk_drew ?_ | refine blk_alloc ?_ _)); exact x_) : P := h x
theorem spec_l5Packet.zq {P Q : Prop} (x : Q) (h : Q → P := by intro x_; (with_reducible repeat (first | refine blk_drewN ?_ _ | refine blk_drew ?_ | refine blk_alloc ?_ _)); exact x_) : P := h x
theorem spec_l5Packet.y1 {P : Prop} (h : P := by refine zq ?_; refine blk_put (cs := #[.bool ((rd_T54 l1 t111).f0), .int .i64 ((rd_T54 l1 t111).f1.f0), .int .i64 ((rd_T54 l1 t111).f1.f1), .int .i64 ((rd_T54 l1 t111).f2.f0), .int .i64 ((rd_T54 l1 t111).f2.f1), .int .i64 0]) ?_ 5 _ rfl; refine zq ?_; refine blk_put (cs := #[.bool ((rd_T54 l1 t111).f0), .int .i64 ((rd_T54 l1 t111).f1.f0), .int .i64 ((rd_T54 l1 t111).f1.f1), .int .i64 ((rd_T54 l1 t111).f2.f0), .int .i64 0, .int .i64 0]) ?_ 4 _ rfl; refine zq ?_; refine blk_put (cs := #[.bool ((rd_T54 l1 t111).f0), .int .i64 ((rd_T54 l1 t111).f1.f0), .int .i64 ((rd_T54 l1 t111).f1.f1), .int .i64 0, .int .i64 0, .int .i64 0]) ?_ 3 _ rfl; refine zq ?_; refine blk_put (cs := #[.bool ((rd_T54 l1 t111).f0), .int .i64 ((rd_T54 l1 t111).f1.f0), .int .i64 0, .int .i64 0, .int .i64 0, .int .i64 0]) ?_ 2 _ rfl; refine zq ?_; refine blk_put (cs := #[.bool ((rd_T54 l1 t111).f0), .int .i64 0, .int .i64 0, .int .i64 0, .int .i64 0, .int .i64 0]) ?_ 1 _ rfl; refine zq ?_; refine blk_put (cs := #[.bool false, .int .i64 0, .int .i64 0, .int .i64 0, .int .i64 0, .int .i64 0]) ?_ 0 _ rfl; refine zq ?_; exact BK114.out) : P := h
theorem spec_l5Packet.y2 {P : Prop} (h : P := by refine zq ?_; refine blk_far ?_ NB101_114.out _; refine zq ?_; refine blk_far ?_ NB101_114.out _; refine zq ?_; refine blk_far ?_ NB101_114.out _; refine zq ?_; refine blk_far ?_ NB101_114.out _; refine zq ?_; refine blk_far ?_ NB101_114.out _; refine zq ?_; refine blk_far ?_ NB101_114.out _; refine zq ?_; exact BK101.out) : P := h
theorem spec_l5Packet.y3 {P : Prop} (h : P := by refine zq ?_; refine blk_far ?_ NB108_114.out _; refine zq ?_; refine blk_far ?_ NB108_114.out _; refine zq ?_; refine blk_far ?_ NB108_114.out _; refine zq ?_; refine blk_far ?_ NB108_114.out _; refine zq ?_; refine blk_far ?_ NB108_114.out _; refine zq ?_; refine blk_far ?_ NB108_114.out _; refine zq ?_; exact BK108.out) : P := h
theorem spec_l5Packet.y4 {P : Prop} (h : P := by rw [hg]; exact Nat.ne_of_lt (blk_lt (g := gb108) (o := .cells #[.int .i64 t102, .int .i64 t104, .int .i64 (wrap64 (1 + t106))] 34 (0, 0)) (zb BK108.out))) : P := h
theorem spec_l5Packet.y5 {P : Prop} (h : P := by rw [hg]; exact Nat.ne_of_gt (blk_lt (g := gb108) (o := .cells #[.int .i64 t102, .int .i64 t104, .int .i64 (wrap64 (1 + t106))] 34 (0, 0)) (zb BK108.out))) : P := h
theorem spec_l5Packet.y6 {P : Prop} (h : P := by rw [hg]; exact Nat.ne_of_lt (blk_lt (g := gb101) (o := .cells #[.int .i64 0, .int .i64 0, .int .i64 0] 34 (0, 0)) (zb BK101.out))) : P := h
theorem spec_l5Packet.y7 {P : Prop} (h : P := by rw [hg]; exact Nat.ne_of_gt (blk_lt (g := gb101) (o := .cells #[.int .i64 0, .int .i64 0, .int .i64 0] 34 (0, 0)) (zb BK101.out))) : P := h
theorem spec_l5Packet.y8 {P : Prop} (h : P := by refine zq ?_; refine blk_put (cs := #[.int .i64 t102, .int .i64 t104, .int .i64 (wrap64 (1 + t106))]) ?_ 0 _ rfl; refine zq ?_; exact BK108.out) : P := h
theorem spec_l5Packet.y9 {P : Prop} (h : P := by (try simp only [List.map_toArray, List.map_cons, List.map_nil]); first | done | rfl | (simp only [List.length_drop, List.length_take]; rfl)) : P := h
theorem spec_l5Packet.y10 {P : Prop} (h : P := by rw [hg]; exact Nat.ne_of_lt (IsS117.lt (show IsS117 w0 _ g s0_0 t112 from zHI0))) : P := h
theorem spec_l5Packet.y11 {P : Prop} (h : P := by rw [hg]; exact Nat.ne_of_gt (IsS117.lt (show IsS117 w0 _ g s0_0 t112 from zHI0))) : P := h
theorem spec_l5Packet.y12 {P : Prop} (h : P := by rw [hg]; exact (keep_size (w := w) (g := g) (row := none) (zHK))) : P := h
theorem spec_l5Packet.y13 {P : Prop} (h : P := by refine zq ?_; refine blk_far ?_ NB101_108.out _; refine zq ?_; exact BK101.out) : P := h
theorem spec_l5Packet.y14 {P : Prop} (h : P := by refine zq ?_; refine blk_far ?_ NB114_108.out _; refine zq ?_; exact BK114.out) : P := h
theorem spec_l5Packet.y15 {P : Prop} (h : P := by first | (with_reducible assumption) | assumption) : P := h
theorem spec_l5Packet.zA {p : Prop} (h : p) : Aside0 p := ⟨h⟩
set_option maxHeartbeats 8000000 in
set_option maxRecDepth 100000 in
theorem spec_l5Packet.calls (k : Nat) (g : Nat) (s0_0 : List Int) (s0_1 : Int) (A1 : Option Addr) (c1 : Nat) (l1 : List (S54)) (r1 : Int) (r2 : Int) (r3 : Int) (r4 : Int) (w0 w : World) (hI : IsS117 w0 w g s0_0 s0_1) (hB : Below w0.heap.size w0 w) (hr1 : ∀ W_, KeepBut w W_ g none → Kd.C k54 W_ A1 l1.length l1) (hc1 : l1.length ≤ c1) (h : spec_l5Packet.f k s0_0 s0_1 l1 = some (r1, r2, r3, r4)) :
  Calls Try.prog 87 #[.pointer (some ⟨g, 0, none⟩), .slice A1 l1.length c1] w fun e w' => e = .returned (.agg #[.int .i64 r1, .int .i64 r2, .int .i64 r3]) ∧ IsS117 w0 w' g s0_0 r4 ∧ Below w0.heap.size w0 w' ∧ KeepBut w w' g none := by
 have hu34 := Try.underlying34
 have hu54 := Try.underlying54
 have hu26 := Try.underlying26
 have HR1 := zA hr1
 have HC1 := zA hc1
 clear hr1 hc1
 have HI0 := zA hI
 have HK := zA (KeepBut.refl w g none)
 have HL := zA hB.size
 clear hI
 have HW0 := zA hB.size
 have HB := zA hB
 clear hB
 have H : ((spec_l1Rd_pick.f k s0_0 s0_1 65536).bind fun bt102 => ((spec_l1Rd_pick.f k s0_0 bt102.2 65536).bind fun bt104 => ((spec_l1Rd_pick.f k s0_0 bt104.2 7).bind fun bt106 => (if (l1.length : Int) > 0 then ((spec_l1Rd_pick.f k s0_0 bt106.2 5).bind fun bt109 => (spec_l5Packet.j0 k l1 (decide (bt109.1 > 0)) s0_0 bt109.2 bt102.1 bt104.1 (wrap64 (1 + bt106.1)))) else (spec_l5Packet.j0 k l1 false s0_0 bt106.2 bt102.1 bt104.1 (wrap64 (1 + bt106.1))))))) = some (r1, r2, r3, r4) := h
 clear h
 replace H := Option.bind_eq_some_iff.mp H
 obtain ⟨⟨t102, t103⟩, A30, H⟩ := H
 replace H : ((spec_l1Rd_pick.f k s0_0 t103 65536).bind fun bt104 => ((spec_l1Rd_pick.f k s0_0 bt104.2 7).bind fun bt106 => (if (l1.length : Int) > 0 then ((spec_l1Rd_pick.f k s0_0 bt106.2 5).bind fun bt109 => (spec_l5Packet.j0 k l1 (decide (bt109.1 > 0)) s0_0 bt109.2 t102 bt104.1 (wrap64 (1 + bt106.1)))) else (spec_l5Packet.j0 k l1 false s0_0 bt106.2 t102 bt104.1 (wrap64 (1 + bt106.1)))))) = some (r1, r2, r3, r4) := H
 have A3 := zA A30
 clear A30
 replace H := Option.bind_eq_some_iff.mp H
 obtain ⟨⟨t104, t105⟩, A40, H⟩ := H
 replace H : ((spec_l1Rd_pick.f k s0_0 t105 7).bind fun bt106 => (if (l1.length : Int) > 0 then ((spec_l1Rd_pick.f k s0_0 bt106.2 5).bind fun bt109 => (spec_l5Packet.j0 k l1 (decide (bt109.1 > 0)) s0_0 bt109.2 t102 t104 (wrap64 (1 + bt106.1)))) else (spec_l5Packet.j0 k l1 false s0_0 bt106.2 t102 t104 (wrap64 (1 + bt106.1))))) = some (r1, r2, r3, r4) := H
 have A4 := zA A40
 clear A40
 replace H := Option.bind_eq_some_iff.mp H
 obtain ⟨⟨t106, t107⟩, A50, H⟩ := H
 replace H : (if (l1.length : Int) > 0 then ((spec_l1Rd_pick.f k s0_0 t107 5).bind fun bt109 => (spec_l5Packet.j0 k l1 (decide (bt109.1 > 0)) s0_0 bt109.2 t102 t104 (wrap64 (1 + t106)))) else (spec_l5Packet.j0 k l1 false s0_0 t107 t102 t104 (wrap64 (1 + t106)))) = some (r1, r2, r3, r4) := H
 have A5 := zA A50
 clear A50
 have HC6 := zA H
 clear H
 go_enter Try.func87, Try.ntmps87
 go_upto_region 2 with (first | ((with_reducible refine gate_dst (N := 4) rfl ?_); refine box_event ?hg (N := 4) ?hd (cs := #[.int .i64 0, .int .i64 0, .int .i64 0]) (t := 34) ?hr ?_; (case hd => rfl); (case hg => rfl); (case hr => first | (go_simp; done) | (go_simp; rfl)); intro gb101 hg w7 hbox hb; have n0_ := zA (IsS117.below (zHI0) hb); have n1_ := zA (KeepBut.trans (zHK) (KeepBut.of_below hb g none) (.inl rfl)); have n2_ := zA (below_step (zHB) hb); have n3_ := zA (hbox); have n4_ := zA ((by rw [hg]; exact (keep_size (w := w) (g := g) (row := none) (zHK)) : w.heap.size ≤ gb101)); have n5_ := zA ((Nat.le_trans HW0.out (by rw [hg]; exact (keep_size (w := w) (g := g) (row := none) (zHK)) : w.heap.size ≤ gb101) : w0.heap.size ≤ gb101)); have n6_ := zA ((by rw [hg]; exact Nat.ne_of_lt (IsS117.lt (show IsS117 w0 _ g s0_0 s0_1 from zHI0)) : g ≠ gb101)); have n7_ := zA ((by rw [hg]; exact Nat.ne_of_gt (IsS117.lt (show IsS117 w0 _ g s0_0 s0_1 from zHI0)) : gb101 ≠ g)); clear HI0; clear HK; clear HB; have HI0 := n0_; have HK := n1_; have HB := n2_; have BK101 := n3_; have GW101 := n4_; have GE101 := n5_; have NB0_101 := n6_; have NB101_0 := n7_; clear n0_ n1_ n2_ n3_ n4_ n5_ n6_ n7_; clear hb hbox hg) | ((with_reducible refine gate_callee (f := 81) rfl ?_); refine goesL_ (some 8) rfl rfl Try.func81 (by kernel_rfl) rfl #[.pointer (some ⟨g, 0, none⟩), .int .i64 65536] rfl y9  ?_; (with_reducible refine (spec_l1Rd_pick.calls k g s0_0 s0_1 65536 t102 t103 w0 _ ?side1 ?side2 A3.out).mono ?_); (case side1 => exact zHI0); (case side2 => exact zHB); rintro e w8 ⟨rfl, hi, hb, hk⟩; refine ⟨_, rfl, ?_⟩; have n0_ := zA (KeepBut.blk hk (g' := gb101) (o := .cells #[.int .i64 0, .int .i64 0, .int .i64 0] 34 (0, 0)) (zb BK101.out) NB101_0.out (by simp)); have n1_ := zA (KeepBut.trans (zHK) hk (.inl rfl)); have n2_ := zA (hb); have n3_ := zA (hi); clear BK101; clear HK; clear HB; clear HI0; have BK101 := n0_; have HK := n1_; have HB := n2_; have HI0 := n3_; clear n0_ n1_ n2_ n3_; (try clear hb); (try clear hb2); (try clear hk); (try clear hi)) | ((with_reducible refine gate_callee (f := 81) rfl ?_); refine goesL_ (some 10) rfl rfl Try.func81 (by kernel_rfl) rfl #[.pointer (some ⟨g, 0, none⟩), .int .i64 65536] rfl y9  ?_; (with_reducible refine (spec_l1Rd_pick.calls k g s0_0 t103 65536 t104 t105 w0 _ ?side1 ?side2 A4.out).mono ?_); (case side1 => exact zHI0); (case side2 => exact zHB); rintro e w9 ⟨rfl, hi, hb, hk⟩; refine ⟨_, rfl, ?_⟩; have n0_ := zA (KeepBut.blk hk (g' := gb101) (o := .cells #[.int .i64 0, .int .i64 0, .int .i64 0] 34 (0, 0)) (zb BK101.out) NB101_0.out (by simp)); have n1_ := zA (KeepBut.trans (zHK) hk (.inl rfl)); have n2_ := zA (hb); have n3_ := zA (hi); clear BK101; clear HK; clear HB; clear HI0; have BK101 := n0_; have HK := n1_; have HB := n2_; have HI0 := n3_; clear n0_ n1_ n2_ n3_; (try clear hb); (try clear hb2); (try clear hk); (try clear hi)) | ((with_reducible refine gate_callee (f := 81) rfl ?_); refine goesL_ (some 12) rfl rfl Try.func81 (by kernel_rfl) rfl #[.pointer (some ⟨g, 0, none⟩), .int .i64 7] rfl y9  ?_; (with_reducible refine (spec_l1Rd_pick.calls k g s0_0 t105 7 t106 t107 w0 _ ?side1 ?side2 A5.out).mono ?_); (case side1 => exact zHI0); (case side2 => exact zHB); rintro e w10 ⟨rfl, hi, hb, hk⟩; refine ⟨_, rfl, ?_⟩; have n0_ := zA (KeepBut.blk hk (g' := gb101) (o := .cells #[.int .i64 0, .int .i64 0, .int .i64 0] 34 (0, 0)) (zb BK101.out) NB101_0.out (by simp)); have n1_ := zA (KeepBut.trans (zHK) hk (.inl rfl)); have n2_ := zA (hb); have n3_ := zA (hi); clear BK101; clear HK; clear HB; clear HI0; have BK101 := n0_; have HK := n1_; have HB := n2_; have HI0 := n3_; clear n0_ n1_ n2_ n3_; (try clear hb); (try clear hb2); (try clear hk); (try clear hi)) | ((with_reducible refine gate_dst (N := 5) rfl ?_); refine box_event ?hg (N := 5) ?hd (cs := #[.int .i64 0, .int .i64 0, .int .i64 0]) (t := 34) ?hr ?_; (case hd => rfl); (case hg => rfl); (case hr => first | (go_simp; done) | (go_simp; rfl)); intro gb108 hg w11 hbox hb; have n0_ := zA (IsS117.below (zHI0) hb); have n1_ := zA (blk_below (g := gb101) (o := .cells #[.int .i64 0, .int .i64 0, .int .i64 0] 34 (0, 0)) (zb BK101.out) hb); have n2_ := zA (KeepBut.trans (zHK) (KeepBut.of_below hb g none) (.inl rfl)); have n3_ := zA (below_step (zHB) hb); have n4_ := zA (hbox); have n5_ := zA ((by rw [hg]; exact (keep_size (w := w) (g := g) (row := none) (zHK)) : w.heap.size ≤ gb108)); have n6_ := zA ((Nat.le_trans HW0.out (by rw [hg]; exact (keep_size (w := w) (g := g) (row := none) (zHK)) : w.heap.size ≤ gb108) : w0.heap.size ≤ gb108)); have n7_ := zA ((by rw [hg]; exact Nat.ne_of_lt (blk_lt (g := gb101) (o := .cells #[.int .i64 0, .int .i64 0, .int .i64 0] 34 (0, 0)) (zb BK101.out)) : gb101 ≠ gb108)); have n8_ := zA ((by rw [hg]; exact Nat.ne_of_gt (blk_lt (g := gb101) (o := .cells #[.int .i64 0, .int .i64 0, .int .i64 0] 34 (0, 0)) (zb BK101.out)) : gb108 ≠ gb101)); have n9_ := zA ((by rw [hg]; exact Nat.ne_of_lt (IsS117.lt (show IsS117 w0 _ g s0_0 t107 from zHI0)) : g ≠ gb108)); have n10_ := zA ((by rw [hg]; exact Nat.ne_of_gt (IsS117.lt (show IsS117 w0 _ g s0_0 t107 from zHI0)) : gb108 ≠ g)); clear HI0; clear BK101; clear HK; clear HB; have HI0 := n0_; have BK101 := n1_; have HK := n2_; have HB := n3_; have BK108 := n4_; have GW108 := n5_; have GE108 := n6_; have NB101_108 := n7_; have NB108_101 := n8_; have NB0_108 := n9_; have NB108_0 := n10_; clear n0_ n1_ n2_ n3_ n4_ n5_ n6_ n7_ n8_ n9_ n10_; clear hb hbox hg; have hnb12 := NB108_101.out; have hnc12 := NB101_108.out; have hnb13 := NB108_0.out; have hnc13 := NB0_108.out; have hcz14_0 : w11.cell? ⟨gb108, 0, none⟩ = some (.int .i64 0) := (blk_cell BK108.out 0).trans rfl; have hcz14_1 : w11.cell? ⟨gb108, 1, none⟩ = some (.int .i64 0) := (blk_cell BK108.out 1).trans rfl; have hcz14_2 : w11.cell? ⟨gb108, 2, none⟩ = some (.int .i64 0) := (blk_cell BK108.out 2).trans rfl; have hfz14_0 := blk_frozen BK108.out 0; have hfz14_1 := blk_frozen BK108.out 1; have hfz14_2 := blk_frozen BK108.out 2))
 (try simp only [Act.put, List.setIfInBounds_toArray, List.set_cons_zero, List.set_cons_succ])
 go_cut [22] (fun v22 wc => ∃ (kq : Nat) (x22_5 : Bool) (x1001_5 : Int), v22 = .bool x22_5 ∧ Aside0 (spec_l5Packet.j0 kq l1 x22_5 s0_0 x1001_5 t102 t104 (wrap64 (1 + t106)) = some (r1, r2, r3, r4)) ∧ Aside0 (kq ≤ k) ∧ Aside0 (wc.heap[gb101]? = some (.cells #[.int .i64 0, .int .i64 0, .int .i64 0] 34 (0, 0))) ∧ Aside0 (wc.heap[gb108]? = some (.cells #[.int .i64 t102, .int .i64 t104, .int .i64 (wrap64 (1 + t106))] 34 (0, 0))) ∧ Aside0 (IsS117 w0 wc g s0_0 x1001_5) ∧ Aside0 (KeepBut w wc g none) ∧ Aside0 (Below w0.heap.size w0 wc))
 case first =>
  have H := HC6.out
  clear HC6
  by_cases c15 : (l1.length : Int) > 0
  ·rw [if_pos c15] at H
   have c15b0 : decide (0 < (l1.length : Int)) = true := decide_eq_true c15
   have c15b1 : decide (0 < l1.length) = true := decide_eq_true (by omega)
   clear c15
   (first | rw [c15b0] | (simp only [i64_w, i32_w]; rw [c15b0]) | skip)
   replace H := Option.bind_eq_some_iff.mp H
   obtain ⟨⟨t109, t110⟩, A160, H⟩ := H
   replace H : (spec_l5Packet.j0 k l1 (decide (t109 > 0)) s0_0 t110 t102 t104 (wrap64 (1 + t106))) = some (r1, r2, r3, r4) := H
   have A16 := zA A160
   clear A160
   have H' := zA H
   clear H
   go_wp2_with (first | (go_at_call 81; (with_reducible refine (spec_l1Rd_pick.calls k g s0_0 t107 5 t109 t110 w0 _ ?side1 ?side2 A16.out).mono ?_); (case side1 => exact zHI0); (case side2 => exact zHB); rintro e w17 ⟨rfl, hi, hb, hk⟩; have n0_ := zA (KeepBut.blk hk (g' := gb101) (o := .cells #[.int .i64 0, .int .i64 0, .int .i64 0] 34 (0, 0)) (by refine zq ?_; refine blk_far ?_ NB101_108.out _; refine zq ?_; refine blk_far ?_ NB101_108.out _; refine zq ?_; refine blk_far ?_ NB101_108.out _; refine zq ?_; exact BK101.out) NB101_0.out (by simp)); have n1_ := zA (KeepBut.blk hk (g' := gb108) (o := .cells #[.int .i64 t102, .int .i64 t104, .int .i64 (wrap64 (1 + t106))] 34 (0, 0)) (by refine zq ?_; refine blk_put (cs := #[.int .i64 t102, .int .i64 t104, .int .i64 0]) ?_ 2 _ rfl; refine zq ?_; refine blk_put (cs := #[.int .i64 t102, .int .i64 0, .int .i64 0]) ?_ 1 _ rfl; refine zq ?_; refine blk_put (cs := #[.int .i64 0, .int .i64 0, .int .i64 0]) ?_ 0 _ rfl; refine zq ?_; exact BK108.out) NB108_0.out (by simp)); have n2_ := zA (KeepBut.trans (zHK) hk (.inl rfl)); have n3_ := zA (hb); have n4_ := zA (hi); clear BK101; clear BK108; clear HK; clear HB; clear HI0; have BK101 := n0_; have BK108 := n1_; have HK := n2_; have HB := n3_; have HI0 := n4_; clear n0_ n1_ n2_ n3_ n4_; (try clear hb); (try clear hb2); (try clear hk); (try clear hi)))
   go_meet
   case rel => exact ⟨_, (decide (t109 > 0)), (t110), (by first | rfl | (simp; done) | (simp [*]; done)), H', ⟨by first | omega | exact Nat.le_refl _⟩, ⟨by refine zq ?_; exact BK101.out⟩, ⟨by refine zq ?_; exact BK108.out⟩, ⟨zHI0⟩, ⟨zHK⟩, ⟨zHB⟩⟩
  rw [if_neg c15] at H
  have c15b0 : decide (0 < (l1.length : Int)) = false := decide_eq_false c15
  have c15b1 : decide (0 < l1.length) = false := decide_eq_false (by omega)
  clear c15
  (first | rw [c15b0] | (simp only [i64_w, i32_w]; rw [c15b0]) | skip)
  have H' := zA H
  clear H
  go_wp2
  go_meet
  case rel => exact ⟨_, (false), (t107), (by first | rfl | (simp; done) | (simp [*]; done)), H', ⟨by first | omega | exact Nat.le_refl _⟩, ⟨by refine zq ?_; refine blk_far ?_ NB101_108.out _; refine zq ?_; refine blk_far ?_ NB101_108.out _; refine zq ?_; refine blk_far ?_ NB101_108.out _; refine zq ?_; exact BK101.out⟩, ⟨by refine zq ?_; refine blk_put (cs := #[.int .i64 t102, .int .i64 t104, .int .i64 0]) ?_ 2 _ rfl; refine zq ?_; refine blk_put (cs := #[.int .i64 t102, .int .i64 0, .int .i64 0]) ?_ 1 _ rfl; refine zq ?_; refine blk_put (cs := #[.int .i64 0, .int .i64 0, .int .i64 0]) ?_ 0 _ rfl; refine zq ?_; exact BK108.out⟩, ⟨zHI0⟩, ⟨zHK⟩, ⟨zHB⟩⟩
 case rest =>
  clear HC6
  try clear c1
  try clear p2
  try clear p6
  try clear c8
  try clear c12
  try clear c13
  try clear c15
  try clear c15b0
  try clear c15b1
  try clear hcz14_0
  try clear hcz14_1
  try clear hcz14_2
  try clear hfz14_0
  try clear hfz14_1
  try clear hfz14_2
  obtain ⟨kq, x22_5, x1001_5, rfl, HA, HJ5, BK101, BK108, HI0, HK, HB⟩ := hcut
  cases kq with
  | zero => exact absurd HA.out (by simp [spec_l5Packet.j0])
  | succ kj5 => ?_
  have H := HA.out
  clear HA
  simp only [spec_l5Packet.j0] at H
  have HC18 := zA H
  clear H
  go_upto_if 22 with (fail)
  go_cut [] (fun wc => ∃ (kq : Nat) (x1001_17 : Int) (x109000_17 : Int) (x109001_17 : Int) (x109002_17 : Int), Aside0 (spec_l5Packet.j1 kq s0_0 x1001_17 x109000_17 x109001_17 x109002_17 = some (r1, r2, r3, r4)) ∧ Aside0 (kq ≤ kj5) ∧ Aside0 (wc.heap[gb101]? = some (.cells #[.int .i64 0, .int .i64 0, .int .i64 0] 34 (0, 0))) ∧ Aside0 (wc.heap[gb108]? = some (.cells #[.int .i64 x109000_17, .int .i64 x109001_17, .int .i64 x109002_17] 34 (0, 0))) ∧ Aside0 (IsS117 w0 wc g s0_0 x1001_17) ∧ Aside0 (KeepBut w wc g none) ∧ Aside0 (Below w0.heap.size w0 wc))
  case first =>
   have H := HC18.out
   clear HC18
   by_cases c19 : x22_5 = true
   ·subst c19
    have H1 : ((spec_l1Rd_pick.f kj5 s0_0 x1001_5 (l1.length : Int)).bind fun bt111 => (if 0 ≤ bt111.1 then (if bt111.1 < (l1.length : Int) then ((spec_l5Addr.f kj5 s0_0 bt111.2 ((rd_T54 l1 bt111.1).f1.f0) ((rd_T54 l1 bt111.1).f1.f1)).bind fun bt115 => ((spec_l5Addr.f kj5 s0_0 bt115.2 ((rd_T54 l1 bt111.1).f2.f0) ((rd_T54 l1 bt111.1).f2.f1)).bind fun bt117 => (if ((rd_T54 l1 bt111.1).f3) > 0 then ((spec_l1Rd_pick.f kj5 s0_0 bt117.2 3).bind fun bt119 => (if bt119.1 > 0 then (spec_l5Packet.j1 kj5 s0_0 bt119.2 bt115.1 bt117.1 ((rd_T54 l1 bt111.1).f3)) else (spec_l5Packet.j1 kj5 s0_0 bt119.2 bt115.1 bt117.1 (wrap64 (1 + t106))))) else (spec_l5Packet.j1 kj5 s0_0 bt117.2 bt115.1 bt117.1 (wrap64 (1 + t106)))))) else (none)) else (none))) = some (r1, r2, r3, r4) := by rw [if_pos rfl] at H; exact H
    clear H
    have H := H1
    clear H1
    replace H := Option.bind_eq_some_iff.mp H
    obtain ⟨⟨t111, t112⟩, A200, H⟩ := H
    replace H : (if 0 ≤ t111 then (if t111 < (l1.length : Int) then ((spec_l5Addr.f kj5 s0_0 t112 ((rd_T54 l1 t111).f1.f0) ((rd_T54 l1 t111).f1.f1)).bind fun bt115 => ((spec_l5Addr.f kj5 s0_0 bt115.2 ((rd_T54 l1 t111).f2.f0) ((rd_T54 l1 t111).f2.f1)).bind fun bt117 => (if ((rd_T54 l1 t111).f3) > 0 then ((spec_l1Rd_pick.f kj5 s0_0 bt117.2 3).bind fun bt119 => (if bt119.1 > 0 then (spec_l5Packet.j1 kj5 s0_0 bt119.2 bt115.1 bt117.1 ((rd_T54 l1 t111).f3)) else (spec_l5Packet.j1 kj5 s0_0 bt119.2 bt115.1 bt117.1 (wrap64 (1 + t106))))) else (spec_l5Packet.j1 kj5 s0_0 bt117.2 bt115.1 bt117.1 (wrap64 (1 + t106)))))) else (none)) else (none)) = some (r1, r2, r3, r4) := H
    have A20 := zA A200
    clear A200
    by_cases c21 : 0 ≤ t111
    ·rw [if_pos c21] at H
     have c21b0 : decide (0 ≤ t111) = true := decide_eq_true c21
     clear c21
     (first | rw [c21b0] | (simp only [i64_w, i32_w]; rw [c21b0]) | skip)
     by_cases c22 : t111 < (l1.length : Int)
     ·rw [if_pos c22] at H
      have c22b0 : decide (t111 < (l1.length : Int)) = true := decide_eq_true c22
      clear c22
      replace H := Option.bind_eq_some_iff.mp H
      obtain ⟨⟨t115, t116⟩, A230, H⟩ := H
      replace H : ((spec_l5Addr.f kj5 s0_0 t116 ((rd_T54 l1 t111).f2.f0) ((rd_T54 l1 t111).f2.f1)).bind fun bt117 => (if ((rd_T54 l1 t111).f3) > 0 then ((spec_l1Rd_pick.f kj5 s0_0 bt117.2 3).bind fun bt119 => (if bt119.1 > 0 then (spec_l5Packet.j1 kj5 s0_0 bt119.2 t115 bt117.1 ((rd_T54 l1 t111).f3)) else (spec_l5Packet.j1 kj5 s0_0 bt119.2 t115 bt117.1 (wrap64 (1 + t106))))) else (spec_l5Packet.j1 kj5 s0_0 bt117.2 t115 bt117.1 (wrap64 (1 + t106))))) = some (r1, r2, r3, r4) := H
      have A23 := zA A230
      clear A230
      replace H := Option.bind_eq_some_iff.mp H
      obtain ⟨⟨t117, t118⟩, A240, H⟩ := H
      replace H : (if ((rd_T54 l1 t111).f3) > 0 then ((spec_l1Rd_pick.f kj5 s0_0 t118 3).bind fun bt119 => (if bt119.1 > 0 then (spec_l5Packet.j1 kj5 s0_0 bt119.2 t115 t117 ((rd_T54 l1 t111).f3)) else (spec_l5Packet.j1 kj5 s0_0 bt119.2 t115 t117 (wrap64 (1 + t106))))) else (spec_l5Packet.j1 kj5 s0_0 t118 t115 t117 (wrap64 (1 + t106)))) = some (r1, r2, r3, r4) := H
      have A24 := zA A240
      clear A240
      by_cases c25 : ((rd_T54 l1 t111).f3) > 0
      ·rw [if_pos c25] at H
       have c25b0 : decide (0 < ((rd_T54 l1 t111).f3)) = true := decide_eq_true c25
       clear c25
       replace H := Option.bind_eq_some_iff.mp H
       obtain ⟨⟨t119, t120⟩, A260, H⟩ := H
       replace H : (if t119 > 0 then (spec_l5Packet.j1 kj5 s0_0 t120 t115 t117 ((rd_T54 l1 t111).f3)) else (spec_l5Packet.j1 kj5 s0_0 t120 t115 t117 (wrap64 (1 + t106)))) = some (r1, r2, r3, r4) := H
       have A26 := zA A260
       clear A260
       by_cases c27 : t119 > 0
       ·rw [if_pos c27] at H
        have c27b0 : decide (0 < t119) = true := decide_eq_true c27
        clear c27
        have H' := zA H
        clear H
        go_wp2_with (first | ((with_reducible refine gate_callee (f := 81) rfl ?_); refine goesL_ (some 27) rfl rfl Try.func81 (by kernel_rfl) rfl #[.pointer (some ⟨g, 0, none⟩), .int .i64 (l1.length : Int)] rfl y9  ?_; (with_reducible refine (spec_l1Rd_pick.calls kj5 g s0_0 x1001_5 (l1.length : Int) t111 t112 w0 _ ?side1 ?side2 A20.out).mono ?_); (case side1 => exact zHI0); (case side2 => exact zHB); rintro e w28 ⟨rfl, hi, hb, hk⟩; refine ⟨_, rfl, ?_⟩; have n0_ := zA (KeepBut.blk hk (g' := gb101) (o := .cells #[.int .i64 0, .int .i64 0, .int .i64 0] 34 (0, 0)) (zb BK101.out) NB101_0.out (by simp)); have n1_ := zA (KeepBut.blk hk (g' := gb108) (o := .cells #[.int .i64 t102, .int .i64 t104, .int .i64 (wrap64 (1 + t106))] 34 (0, 0)) (zb BK108.out) NB108_0.out (by simp)); have n2_ := zA (KeepBut.trans (zHK) hk (.inl rfl)); have n3_ := zA (hb); have n4_ := zA (hi); clear BK101; clear BK108; clear HK; clear HB; clear HI0; have BK101 := n0_; have BK108 := n1_; have HK := n2_; have HB := n3_; have HI0 := n4_; clear n0_ n1_ n2_ n3_ n4_; (try clear hb); (try clear hb2); (try clear hk); (try clear hi); have p113 : 0 ≤ (t111 : Int) := of_decide_eq_true y15 ; have q113 : t111 < (l1.length : Int) := of_decide_eq_true y15 ; obtain ⟨ad113, e113, hx113_0, hx113_1, hx113_2, hx113_3, hx113_4, hx113_5⟩ := at_T54 (Kd.C_foot_now HR1.out HK.out) t111 p113 q113; cases e113; replace p113 := eq_true p113; replace q113 := eq_true q113) | ((with_reducible refine gate_dst (N := 6) rfl ?_); refine box_event ?hg (N := 6) ?hd (cs := #[.bool false, .int .i64 0, .int .i64 0, .int .i64 0, .int .i64 0, .int .i64 0]) (t := 54) ?hr ?_; (case hd => rfl); (case hg => rfl); (case hr => first | (go_simp; done) | (go_simp; rfl)); intro gb114 hg w29 hbox hb; have n0_ := zA (blk_below (g := gb101) (o := .cells #[.int .i64 0, .int .i64 0, .int .i64 0] 34 (0, 0)) (zb BK101.out) hb); have n1_ := zA (blk_below (g := gb108) (o := .cells #[.int .i64 t102, .int .i64 t104, .int .i64 (wrap64 (1 + t106))] 34 (0, 0)) (zb BK108.out) hb); have n2_ := zA (IsS117.below (zHI0) hb); have n3_ := zA (KeepBut.trans (zHK) (KeepBut.of_below hb g none) (.inl rfl)); have n4_ := zA (below_step (zHB) hb); have n5_ := zA (hbox); have n6_ := zA ((show w.heap.size ≤ gb114 from y12)); have n7_ := zA ((Nat.le_trans HW0.out (show w.heap.size ≤ gb114 from y12) : w0.heap.size ≤ gb114)); have n8_ := zA ((show gb101 ≠ gb114 from y6)); have n9_ := zA ((show gb114 ≠ gb101 from y7)); have n10_ := zA ((show gb108 ≠ gb114 from y4)); have n11_ := zA ((show gb114 ≠ gb108 from y5)); have n12_ := zA ((show g ≠ gb114 from y10)); have n13_ := zA ((show gb114 ≠ g from y11)); clear BK101; clear BK108; clear HI0; clear HK; clear HB; have BK101 := n0_; have BK108 := n1_; have HI0 := n2_; have HK := n3_; have HB := n4_; have BK114 := n5_; have GW114 := n6_; have GE114 := n7_; have NB101_114 := n8_; have NB114_101 := n9_; have NB108_114 := n10_; have NB114_108 := n11_; have NB0_114 := n12_; have NB114_0 := n13_; clear n0_ n1_ n2_ n3_ n4_ n5_ n6_ n7_ n8_ n9_ n10_ n11_ n12_ n13_; clear hb hbox hg; have hnb30 := NB114_101.out; have hnc30 := NB101_114.out; have hnb31 := NB114_108.out; have hnc31 := NB108_114.out; have hnb32 := NB114_0.out; have hnc32 := NB0_114.out; have hcz33_0 : w29.cell? ⟨gb114, 0, none⟩ = some (.bool false) := (blk_cell BK114.out 0).trans rfl; have hcz33_1 : w29.cell? ⟨gb114, 1, none⟩ = some (.int .i64 0) := (blk_cell BK114.out 1).trans rfl; have hcz33_2 : w29.cell? ⟨gb114, 2, none⟩ = some (.int .i64 0) := (blk_cell BK114.out 2).trans rfl; have hcz33_3 : w29.cell? ⟨gb114, 3, none⟩ = some (.int .i64 0) := (blk_cell BK114.out 3).trans rfl; have hcz33_4 : w29.cell? ⟨gb114, 4, none⟩ = some (.int .i64 0) := (blk_cell BK114.out 4).trans rfl; have hcz33_5 : w29.cell? ⟨gb114, 5, none⟩ = some (.int .i64 0) := (blk_cell BK114.out 5).trans rfl; have hfz33_0 := blk_frozen BK114.out 0; have hfz33_1 := blk_frozen BK114.out 1; have hfz33_2 := blk_frozen BK114.out 2; have hfz33_3 := blk_frozen BK114.out 3; have hfz33_4 := blk_frozen BK114.out 4; have hfz33_5 := blk_frozen BK114.out 5) | ((with_reducible refine gate_callee (f := 100) rfl ?_); refine goesL_ (some 33) rfl rfl Try.func100 (by kernel_rfl) rfl #[.pointer (some ⟨g, 0, none⟩), .agg #[.int .i64 ((rd_T54 l1 t111).f1.f0), .int .i64 ((rd_T54 l1 t111).f1.f1)]] rfl y9  ?_; (with_reducible refine (spec_l5Addr.calls kj5 g s0_0 t112 ((rd_T54 l1 t111).f1.f0) ((rd_T54 l1 t111).f1.f1) t115 t116 w0 _ ?side1 ?side2 A23.out).mono ?_); (case side1 => exact zHI0); (case side2 => exact zHB); rintro e w34 ⟨rfl, hi, hb, hk⟩; refine ⟨_, rfl, ?_⟩; have n0_ := zA (KeepBut.blk hk (g' := gb101) (o := .cells #[.int .i64 0, .int .i64 0, .int .i64 0] 34 (0, 0)) y2  NB101_0.out (by simp)); have n1_ := zA (KeepBut.blk hk (g' := gb108) (o := .cells #[.int .i64 t102, .int .i64 t104, .int .i64 (wrap64 (1 + t106))] 34 (0, 0)) y3  NB108_0.out (by simp)); have n2_ := zA (KeepBut.blk hk (g' := gb114) (o := .cells #[.bool ((rd_T54 l1 t111).f0), .int .i64 ((rd_T54 l1 t111).f1.f0), .int .i64 ((rd_T54 l1 t111).f1.f1), .int .i64 ((rd_T54 l1 t111).f2.f0), .int .i64 ((rd_T54 l1 t111).f2.f1), .int .i64 ((rd_T54 l1 t111).f3)] 54 (0, 0)) y1  NB114_0.out (by simp)); have n3_ := zA (KeepBut.trans (zHK) hk (.inl rfl)); have n4_ := zA (hb); have n5_ := zA (hi); clear BK101; clear BK108; clear BK114; clear HK; clear HB; clear HI0; have BK101 := n0_; have BK108 := n1_; have BK114 := n2_; have HK := n3_; have HB := n4_; have HI0 := n5_; clear n0_ n1_ n2_ n3_ n4_ n5_; (try clear hb); (try clear hb2); (try clear hk); (try clear hi); have hnb35 := NB108_101.out; have hnc35 := NB101_108.out; have hnb36 := NB108_0.out; have hnc36 := NB0_108.out; have hcz37_0 : w34.cell? ⟨gb108, 0, none⟩ = some (.int .i64 t102) := (blk_cell BK108.out 0).trans rfl; have hcz37_1 : w34.cell? ⟨gb108, 1, none⟩ = some (.int .i64 t104) := (blk_cell BK108.out 1).trans rfl; have hcz37_2 : w34.cell? ⟨gb108, 2, none⟩ = some (.int .i64 (wrap64 (1 + t106))) := (blk_cell BK108.out 2).trans rfl; have hfz37_0 := blk_frozen BK108.out 0; have hfz37_1 := blk_frozen BK108.out 1; have hfz37_2 := blk_frozen BK108.out 2; have hcz38_0 : w34.cell? ⟨gb114, 0, none⟩ = some (.bool ((rd_T54 l1 t111).f0)) := (blk_cell BK114.out 0).trans rfl; have hcz38_1 : w34.cell? ⟨gb114, 1, none⟩ = some (.int .i64 ((rd_T54 l1 t111).f1.f0)) := (blk_cell BK114.out 1).trans rfl; have hcz38_2 : w34.cell? ⟨gb114, 2, none⟩ = some (.int .i64 ((rd_T54 l1 t111).f1.f1)) := (blk_cell BK114.out 2).trans rfl; have hcz38_3 : w34.cell? ⟨gb114, 3, none⟩ = some (.int .i64 ((rd_T54 l1 t111).f2.f0)) := (blk_cell BK114.out 3).trans rfl; have hcz38_4 : w34.cell? ⟨gb114, 4, none⟩ = some (.int .i64 ((rd_T54 l1 t111).f2.f1)) := (blk_cell BK114.out 4).trans rfl; have hcz38_5 : w34.cell? ⟨gb114, 5, none⟩ = some (.int .i64 ((rd_T54 l1 t111).f3)) := (blk_cell BK114.out 5).trans rfl; have hfz38_0 := blk_frozen BK114.out 0; have hfz38_1 := blk_frozen BK114.out 1; have hfz38_2 := blk_frozen BK114.out 2; have hfz38_3 := blk_frozen BK114.out 3; have hfz38_4 := blk_frozen BK114.out 4; have hfz38_5 := blk_frozen BK114.out 5) | ((with_reducible refine gate_callee (f := 100) rfl ?_); refine goesL_ (some 38) rfl rfl Try.func100 (by kernel_rfl) rfl #[.pointer (some ⟨g, 0, none⟩), .agg #[.int .i64 ((rd_T54 l1 t111).f2.f0), .int .i64 ((rd_T54 l1 t111).f2.f1)]] rfl y9  ?_; (with_reducible refine (spec_l5Addr.calls kj5 g s0_0 t116 ((rd_T54 l1 t111).f2.f0) ((rd_T54 l1 t111).f2.f1) t117 t118 w0 _ ?side1 ?side2 A24.out).mono ?_); (case side1 => exact zHI0); (case side2 => exact zHB); rintro e w39 ⟨rfl, hi, hb, hk⟩; refine ⟨_, rfl, ?_⟩; have n0_ := zA (KeepBut.blk hk (g' := gb101) (o := .cells #[.int .i64 0, .int .i64 0, .int .i64 0] 34 (0, 0)) y13  NB101_0.out (by simp)); have n1_ := zA (KeepBut.blk hk (g' := gb108) (o := .cells #[.int .i64 t115, .int .i64 t104, .int .i64 (wrap64 (1 + t106))] 34 (0, 0)) y8  NB108_0.out (by simp)); have n2_ := zA (KeepBut.blk hk (g' := gb114) (o := .cells #[.bool ((rd_T54 l1 t111).f0), .int .i64 ((rd_T54 l1 t111).f1.f0), .int .i64 ((rd_T54 l1 t111).f1.f1), .int .i64 ((rd_T54 l1 t111).f2.f0), .int .i64 ((rd_T54 l1 t111).f2.f1), .int .i64 ((rd_T54 l1 t111).f3)] 54 (0, 0)) y14  NB114_0.out (by simp)); have n3_ := zA (KeepBut.trans (zHK) hk (.inl rfl)); have n4_ := zA (hb); have n5_ := zA (hi); clear BK101; clear BK108; clear BK114; clear HK; clear HB; clear HI0; have BK101 := n0_; have BK108 := n1_; have BK114 := n2_; have HK := n3_; have HB := n4_; have HI0 := n5_; clear n0_ n1_ n2_ n3_ n4_ n5_; (try clear hb); (try clear hb2); (try clear hk); (try clear hi); have hcz40_0 : w39.cell? ⟨gb108, 0, none⟩ = some (.int .i64 t115) := (blk_cell BK108.out 0).trans rfl; have hcz40_1 : w39.cell? ⟨gb108, 1, none⟩ = some (.int .i64 t104) := (blk_cell BK108.out 1).trans rfl; have hcz40_2 : w39.cell? ⟨gb108, 2, none⟩ = some (.int .i64 (wrap64 (1 + t106))) := (blk_cell BK108.out 2).trans rfl; have hfz40_0 := blk_frozen BK108.out 0; have hfz40_1 := blk_frozen BK108.out 1; have hfz40_2 := blk_frozen BK108.out 2; have hcz41_0 : w39.cell? ⟨gb114, 0, none⟩ = some (.bool ((rd_T54 l1 t111).f0)) := (blk_cell BK114.out 0).trans rfl; have hcz41_1 : w39.cell? ⟨gb114, 1, none⟩ = some (.int .i64 ((rd_T54 l1 t111).f1.f0)) := (blk_cell BK114.out 1).trans rfl; have hcz41_2 : w39.cell? ⟨gb114, 2, none⟩ = some (.int .i64 ((rd_T54 l1 t111).f1.f1)) := (blk_cell BK114.out 2).trans rfl; have hcz41_3 : w39.cell? ⟨gb114, 3, none⟩ = some (.int .i64 ((rd_T54 l1 t111).f2.f0)) := (blk_cell BK114.out 3).trans rfl; have hcz41_4 : w39.cell? ⟨gb114, 4, none⟩ = some (.int .i64 ((rd_T54 l1 t111).f2.f1)) := (blk_cell BK114.out 4).trans rfl; have hcz41_5 : w39.cell? ⟨gb114, 5, none⟩ = some (.int .i64 ((rd_T54 l1 t111).f3)) := (blk_cell BK114.out 5).trans rfl; have hfz41_0 := blk_frozen BK114.out 0; have hfz41_1 := blk_frozen BK114.out 1; have hfz41_2 := blk_frozen BK114.out 2; have hfz41_3 := blk_frozen BK114.out 3; have hfz41_4 := blk_frozen BK114.out 4; have hfz41_5 := blk_frozen BK114.out 5) | (go_at_call 81; (with_reducible refine (spec_l1Rd_pick.calls kj5 g s0_0 t118 3 t119 t120 w0 _ ?side1 ?side2 A26.out).mono ?_); (case side1 => exact zHI0); (case side2 => exact zHB); rintro e w42 ⟨rfl, hi, hb, hk⟩; have n0_ := zA (KeepBut.blk hk (g' := gb101) (o := .cells #[.int .i64 0, .int .i64 0, .int .i64 0] 34 (0, 0)) y13  NB101_0.out (by simp)); have n1_ := zA (KeepBut.blk hk (g' := gb108) (o := .cells #[.int .i64 t115, .int .i64 t117, .int .i64 (wrap64 (1 + t106))] 34 (0, 0)) (by refine zq ?_; refine blk_put (cs := #[.int .i64 t115, .int .i64 t104, .int .i64 (wrap64 (1 + t106))]) ?_ 1 _ rfl; refine zq ?_; exact BK108.out) NB108_0.out (by simp)); have n2_ := zA (KeepBut.blk hk (g' := gb114) (o := .cells #[.bool ((rd_T54 l1 t111).f0), .int .i64 ((rd_T54 l1 t111).f1.f0), .int .i64 ((rd_T54 l1 t111).f1.f1), .int .i64 ((rd_T54 l1 t111).f2.f0), .int .i64 ((rd_T54 l1 t111).f2.f1), .int .i64 ((rd_T54 l1 t111).f3)] 54 (0, 0)) y14  NB114_0.out (by simp)); have n3_ := zA (KeepBut.trans (zHK) hk (.inl rfl)); have n4_ := zA (hb); have n5_ := zA (hi); clear BK101; clear BK108; clear BK114; clear HK; clear HB; clear HI0; have BK101 := n0_; have BK108 := n1_; have BK114 := n2_; have HK := n3_; have HB := n4_; have HI0 := n5_; clear n0_ n1_ n2_ n3_ n4_ n5_; (try clear hb); (try clear hb2); (try clear hk); (try clear hi); have hcz43_0 : w42.cell? ⟨gb114, 0, none⟩ = some (.bool ((rd_T54 l1 t111).f0)) := (blk_cell BK114.out 0).trans rfl; have hcz43_1 : w42.cell? ⟨gb114, 1, none⟩ = some (.int .i64 ((rd_T54 l1 t111).f1.f0)) := (blk_cell BK114.out 1).trans rfl; have hcz43_2 : w42.cell? ⟨gb114, 2, none⟩ = some (.int .i64 ((rd_T54 l1 t111).f1.f1)) := (blk_cell BK114.out 2).trans rfl; have hcz43_3 : w42.cell? ⟨gb114, 3, none⟩ = some (.int .i64 ((rd_T54 l1 t111).f2.f0)) := (blk_cell BK114.out 3).trans rfl; have hcz43_4 : w42.cell? ⟨gb114, 4, none⟩ = some (.int .i64 ((rd_T54 l1 t111).f2.f1)) := (blk_cell BK114.out 4).trans rfl; have hcz43_5 : w42.cell? ⟨gb114, 5, none⟩ = some (.int .i64 ((rd_T54 l1 t111).f3)) := (blk_cell BK114.out 5).trans rfl; have hfz43_0 := blk_frozen BK114.out 0; have hfz43_1 := blk_frozen BK114.out 1; have hfz43_2 := blk_frozen BK114.out 2; have hfz43_3 := blk_frozen BK114.out 3; have hfz43_4 := blk_frozen BK114.out 4; have hfz43_5 := blk_frozen BK114.out 5; have hcz44_0 : w42.cell? ⟨gb108, 0, none⟩ = some (.int .i64 t115) := (blk_cell BK108.out 0).trans rfl; have hcz44_1 : w42.cell? ⟨gb108, 1, none⟩ = some (.int .i64 t117) := (blk_cell BK108.out 1).trans rfl; have hcz44_2 : w42.cell? ⟨gb108, 2, none⟩ = some (.int .i64 (wrap64 (1 + t106))) := (blk_cell BK108.out 2).trans rfl; have hfz44_0 := blk_frozen BK108.out 0; have hfz44_1 := blk_frozen BK108.out 1; have hfz44_2 := blk_frozen BK108.out 2))
        go_meet
        case rel => exact ⟨_, (t120), (t115), (t117), ((rd_T54 l1 t111).f3), H', ⟨by have := HJ5.out; first | omega | exact Nat.le_refl _⟩, ⟨by refine zq ?_; refine blk_far ?_ NB101_108.out _; refine zq ?_; exact BK101.out⟩, ⟨by refine zq ?_; refine blk_put (cs := #[.int .i64 t115, .int .i64 t117, .int .i64 (wrap64 (1 + t106))]) ?_ 2 _ rfl; refine zq ?_; exact BK108.out⟩, ⟨zHI0⟩, ⟨zHK⟩, ⟨zHB⟩⟩
       rw [if_neg c27] at H
       have c27b0 : decide (0 < t119) = false := decide_eq_false c27
       clear c27
       have H' := zA H
       clear H
       go_wp2_with (first | ((with_reducible refine gate_callee (f := 81) rfl ?_); refine goesL_ (some 27) rfl rfl Try.func81 (by kernel_rfl) rfl #[.pointer (some ⟨g, 0, none⟩), .int .i64 (l1.length : Int)] rfl y9  ?_; (with_reducible refine (spec_l1Rd_pick.calls kj5 g s0_0 x1001_5 (l1.length : Int) t111 t112 w0 _ ?side1 ?side2 A20.out).mono ?_); (case side1 => exact zHI0); (case side2 => exact zHB); rintro e w45 ⟨rfl, hi, hb, hk⟩; refine ⟨_, rfl, ?_⟩; have n0_ := zA (KeepBut.blk hk (g' := gb101) (o := .cells #[.int .i64 0, .int .i64 0, .int .i64 0] 34 (0, 0)) (zb BK101.out) NB101_0.out (by simp)); have n1_ := zA (KeepBut.blk hk (g' := gb108) (o := .cells #[.int .i64 t102, .int .i64 t104, .int .i64 (wrap64 (1 + t106))] 34 (0, 0)) (zb BK108.out) NB108_0.out (by simp)); have n2_ := zA (KeepBut.trans (zHK) hk (.inl rfl)); have n3_ := zA (hb); have n4_ := zA (hi); clear BK101; clear BK108; clear HK; clear HB; clear HI0; have BK101 := n0_; have BK108 := n1_; have HK := n2_; have HB := n3_; have HI0 := n4_; clear n0_ n1_ n2_ n3_ n4_; (try clear hb); (try clear hb2); (try clear hk); (try clear hi); have p113 : 0 ≤ (t111 : Int) := of_decide_eq_true y15 ; have q113 : t111 < (l1.length : Int) := of_decide_eq_true y15 ; obtain ⟨ad113, e113, hx113_0, hx113_1, hx113_2, hx113_3, hx113_4, hx113_5⟩ := at_T54 (Kd.C_foot_now HR1.out HK.out) t111 p113 q113; cases e113; replace p113 := eq_true p113; replace q113 := eq_true q113) | ((with_reducible refine gate_dst (N := 6) rfl ?_); refine box_event ?hg (N := 6) ?hd (cs := #[.bool false, .int .i64 0, .int .i64 0, .int .i64 0, .int .i64 0, .int .i64 0]) (t := 54) ?hr ?_; (case hd => rfl); (case hg => rfl); (case hr => first | (go_simp; done) | (go_simp; rfl)); intro gb114 hg w46 hbox hb; have n0_ := zA (blk_below (g := gb101) (o := .cells #[.int .i64 0, .int .i64 0, .int .i64 0] 34 (0, 0)) (zb BK101.out) hb); have n1_ := zA (blk_below (g := gb108) (o := .cells #[.int .i64 t102, .int .i64 t104, .int .i64 (wrap64 (1 + t106))] 34 (0, 0)) (zb BK108.out) hb); have n2_ := zA (IsS117.below (zHI0) hb); have n3_ := zA (KeepBut.trans (zHK) (KeepBut.of_below hb g none) (.inl rfl)); have n4_ := zA (below_step (zHB) hb); have n5_ := zA (hbox); have n6_ := zA ((show w.heap.size ≤ gb114 from y12)); have n7_ := zA ((Nat.le_trans HW0.out (show w.heap.size ≤ gb114 from y12) : w0.heap.size ≤ gb114)); have n8_ := zA ((show gb101 ≠ gb114 from y6)); have n9_ := zA ((show gb114 ≠ gb101 from y7)); have n10_ := zA ((show gb108 ≠ gb114 from y4)); have n11_ := zA ((show gb114 ≠ gb108 from y5)); have n12_ := zA ((show g ≠ gb114 from y10)); have n13_ := zA ((show gb114 ≠ g from y11)); clear BK101; clear BK108; clear HI0; clear HK; clear HB; have BK101 := n0_; have BK108 := n1_; have HI0 := n2_; have HK := n3_; have HB := n4_; have BK114 := n5_; have GW114 := n6_; have GE114 := n7_; have NB101_114 := n8_; have NB114_101 := n9_; have NB108_114 := n10_; have NB114_108 := n11_; have NB0_114 := n12_; have NB114_0 := n13_; clear n0_ n1_ n2_ n3_ n4_ n5_ n6_ n7_ n8_ n9_ n10_ n11_ n12_ n13_; clear hb hbox hg; have hnb47 := NB114_101.out; have hnc47 := NB101_114.out; have hnb48 := NB114_108.out; have hnc48 := NB108_114.out; have hnb49 := NB114_0.out; have hnc49 := NB0_114.out; have hcz50_0 : w46.cell? ⟨gb114, 0, none⟩ = some (.bool false) := (blk_cell BK114.out 0).trans rfl; have hcz50_1 : w46.cell? ⟨gb114, 1, none⟩ = some (.int .i64 0) := (blk_cell BK114.out 1).trans rfl; have hcz50_2 : w46.cell? ⟨gb114, 2, none⟩ = some (.int .i64 0) := (blk_cell BK114.out 2).trans rfl; have hcz50_3 : w46.cell? ⟨gb114, 3, none⟩ = some (.int .i64 0) := (blk_cell BK114.out 3).trans rfl; have hcz50_4 : w46.cell? ⟨gb114, 4, none⟩ = some (.int .i64 0) := (blk_cell BK114.out 4).trans rfl; have hcz50_5 : w46.cell? ⟨gb114, 5, none⟩ = some (.int .i64 0) := (blk_cell BK114.out 5).trans rfl; have hfz50_0 := blk_frozen BK114.out 0; have hfz50_1 := blk_frozen BK114.out 1; have hfz50_2 := blk_frozen BK114.out 2; have hfz50_3 := blk_frozen BK114.out 3; have hfz50_4 := blk_frozen BK114.out 4; have hfz50_5 := blk_frozen BK114.out 5) | ((with_reducible refine gate_callee (f := 100) rfl ?_); refine goesL_ (some 33) rfl rfl Try.func100 (by kernel_rfl) rfl #[.pointer (some ⟨g, 0, none⟩), .agg #[.int .i64 ((rd_T54 l1 t111).f1.f0), .int .i64 ((rd_T54 l1 t111).f1.f1)]] rfl y9  ?_; (with_reducible refine (spec_l5Addr.calls kj5 g s0_0 t112 ((rd_T54 l1 t111).f1.f0) ((rd_T54 l1 t111).f1.f1) t115 t116 w0 _ ?side1 ?side2 A23.out).mono ?_); (case side1 => exact zHI0); (case side2 => exact zHB); rintro e w51 ⟨rfl, hi, hb, hk⟩; refine ⟨_, rfl, ?_⟩; have n0_ := zA (KeepBut.blk hk (g' := gb101) (o := .cells #[.int .i64 0, .int .i64 0, .int .i64 0] 34 (0, 0)) y2  NB101_0.out (by simp)); have n1_ := zA (KeepBut.blk hk (g' := gb108) (o := .cells #[.int .i64 t102, .int .i64 t104, .int .i64 (wrap64 (1 + t106))] 34 (0, 0)) y3  NB108_0.out (by simp)); have n2_ := zA (KeepBut.blk hk (g' := gb114) (o := .cells #[.bool ((rd_T54 l1 t111).f0), .int .i64 ((rd_T54 l1 t111).f1.f0), .int .i64 ((rd_T54 l1 t111).f1.f1), .int .i64 ((rd_T54 l1 t111).f2.f0), .int .i64 ((rd_T54 l1 t111).f2.f1), .int .i64 ((rd_T54 l1 t111).f3)] 54 (0, 0)) y1  NB114_0.out (by simp)); have n3_ := zA (KeepBut.trans (zHK) hk (.inl rfl)); have n4_ := zA (hb); have n5_ := zA (hi); clear BK101; clear BK108; clear BK114; clear HK; clear HB; clear HI0; have BK101 := n0_; have BK108 := n1_; have BK114 := n2_; have HK := n3_; have HB := n4_; have HI0 := n5_; clear n0_ n1_ n2_ n3_ n4_ n5_; (try clear hb); (try clear hb2); (try clear hk); (try clear hi); have hnb52 := NB108_101.out; have hnc52 := NB101_108.out; have hnb53 := NB108_0.out; have hnc53 := NB0_108.out; have hcz54_0 : w51.cell? ⟨gb108, 0, none⟩ = some (.int .i64 t102) := (blk_cell BK108.out 0).trans rfl; have hcz54_1 : w51.cell? ⟨gb108, 1, none⟩ = some (.int .i64 t104) := (blk_cell BK108.out 1).trans rfl; have hcz54_2 : w51.cell? ⟨gb108, 2, none⟩ = some (.int .i64 (wrap64 (1 + t106))) := (blk_cell BK108.out 2).trans rfl; have hfz54_0 := blk_frozen BK108.out 0; have hfz54_1 := blk_frozen BK108.out 1; have hfz54_2 := blk_frozen BK108.out 2; have hcz55_0 : w51.cell? ⟨gb114, 0, none⟩ = some (.bool ((rd_T54 l1 t111).f0)) := (blk_cell BK114.out 0).trans rfl; have hcz55_1 : w51.cell? ⟨gb114, 1, none⟩ = some (.int .i64 ((rd_T54 l1 t111).f1.f0)) := (blk_cell BK114.out 1).trans rfl; have hcz55_2 : w51.cell? ⟨gb114, 2, none⟩ = some (.int .i64 ((rd_T54 l1 t111).f1.f1)) := (blk_cell BK114.out 2).trans rfl; have hcz55_3 : w51.cell? ⟨gb114, 3, none⟩ = some (.int .i64 ((rd_T54 l1 t111).f2.f0)) := (blk_cell BK114.out 3).trans rfl; have hcz55_4 : w51.cell? ⟨gb114, 4, none⟩ = some (.int .i64 ((rd_T54 l1 t111).f2.f1)) := (blk_cell BK114.out 4).trans rfl; have hcz55_5 : w51.cell? ⟨gb114, 5, none⟩ = some (.int .i64 ((rd_T54 l1 t111).f3)) := (blk_cell BK114.out 5).trans rfl; have hfz55_0 := blk_frozen BK114.out 0; have hfz55_1 := blk_frozen BK114.out 1; have hfz55_2 := blk_frozen BK114.out 2; have hfz55_3 := blk_frozen BK114.out 3; have hfz55_4 := blk_frozen BK114.out 4; have hfz55_5 := blk_frozen BK114.out 5) | ((with_reducible refine gate_callee (f := 100) rfl ?_); refine goesL_ (some 38) rfl rfl Try.func100 (by kernel_rfl) rfl #[.pointer (some ⟨g, 0, none⟩), .agg #[.int .i64 ((rd_T54 l1 t111).f2.f0), .int .i64 ((rd_T54 l1 t111).f2.f1)]] rfl y9  ?_; (with_reducible refine (spec_l5Addr.calls kj5 g s0_0 t116 ((rd_T54 l1 t111).f2.f0) ((rd_T54 l1 t111).f2.f1) t117 t118 w0 _ ?side1 ?side2 A24.out).mono ?_); (case side1 => exact zHI0); (case side2 => exact zHB); rintro e w56 ⟨rfl, hi, hb, hk⟩; refine ⟨_, rfl, ?_⟩; have n0_ := zA (KeepBut.blk hk (g' := gb101) (o := .cells #[.int .i64 0, .int .i64 0, .int .i64 0] 34 (0, 0)) y13  NB101_0.out (by simp)); have n1_ := zA (KeepBut.blk hk (g' := gb108) (o := .cells #[.int .i64 t115, .int .i64 t104, .int .i64 (wrap64 (1 + t106))] 34 (0, 0)) y8  NB108_0.out (by simp)); have n2_ := zA (KeepBut.blk hk (g' := gb114) (o := .cells #[.bool ((rd_T54 l1 t111).f0), .int .i64 ((rd_T54 l1 t111).f1.f0), .int .i64 ((rd_T54 l1 t111).f1.f1), .int .i64 ((rd_T54 l1 t111).f2.f0), .int .i64 ((rd_T54 l1 t111).f2.f1), .int .i64 ((rd_T54 l1 t111).f3)] 54 (0, 0)) y14  NB114_0.out (by simp)); have n3_ := zA (KeepBut.trans (zHK) hk (.inl rfl)); have n4_ := zA (hb); have n5_ := zA (hi); clear BK101; clear BK108; clear BK114; clear HK; clear HB; clear HI0; have BK101 := n0_; have BK108 := n1_; have BK114 := n2_; have HK := n3_; have HB := n4_; have HI0 := n5_; clear n0_ n1_ n2_ n3_ n4_ n5_; (try clear hb); (try clear hb2); (try clear hk); (try clear hi); have hcz57_0 : w56.cell? ⟨gb108, 0, none⟩ = some (.int .i64 t115) := (blk_cell BK108.out 0).trans rfl; have hcz57_1 : w56.cell? ⟨gb108, 1, none⟩ = some (.int .i64 t104) := (blk_cell BK108.out 1).trans rfl; have hcz57_2 : w56.cell? ⟨gb108, 2, none⟩ = some (.int .i64 (wrap64 (1 + t106))) := (blk_cell BK108.out 2).trans rfl; have hfz57_0 := blk_frozen BK108.out 0; have hfz57_1 := blk_frozen BK108.out 1; have hfz57_2 := blk_frozen BK108.out 2; have hcz58_0 : w56.cell? ⟨gb114, 0, none⟩ = some (.bool ((rd_T54 l1 t111).f0)) := (blk_cell BK114.out 0).trans rfl; have hcz58_1 : w56.cell? ⟨gb114, 1, none⟩ = some (.int .i64 ((rd_T54 l1 t111).f1.f0)) := (blk_cell BK114.out 1).trans rfl; have hcz58_2 : w56.cell? ⟨gb114, 2, none⟩ = some (.int .i64 ((rd_T54 l1 t111).f1.f1)) := (blk_cell BK114.out 2).trans rfl; have hcz58_3 : w56.cell? ⟨gb114, 3, none⟩ = some (.int .i64 ((rd_T54 l1 t111).f2.f0)) := (blk_cell BK114.out 3).trans rfl; have hcz58_4 : w56.cell? ⟨gb114, 4, none⟩ = some (.int .i64 ((rd_T54 l1 t111).f2.f1)) := (blk_cell BK114.out 4).trans rfl; have hcz58_5 : w56.cell? ⟨gb114, 5, none⟩ = some (.int .i64 ((rd_T54 l1 t111).f3)) := (blk_cell BK114.out 5).trans rfl; have hfz58_0 := blk_frozen BK114.out 0; have hfz58_1 := blk_frozen BK114.out 1; have hfz58_2 := blk_frozen BK114.out 2; have hfz58_3 := blk_frozen BK114.out 3; have hfz58_4 := blk_frozen BK114.out 4; have hfz58_5 := blk_frozen BK114.out 5) | (go_at_call 81; (with_reducible refine (spec_l1Rd_pick.calls kj5 g s0_0 t118 3 t119 t120 w0 _ ?side1 ?side2 A26.out).mono ?_); (case side1 => exact zHI0); (case side2 => exact zHB); rintro e w59 ⟨rfl, hi, hb, hk⟩; have n0_ := zA (KeepBut.blk hk (g' := gb101) (o := .cells #[.int .i64 0, .int .i64 0, .int .i64 0] 34 (0, 0)) y13  NB101_0.out (by simp)); have n1_ := zA (KeepBut.blk hk (g' := gb108) (o := .cells #[.int .i64 t115, .int .i64 t117, .int .i64 (wrap64 (1 + t106))] 34 (0, 0)) (by refine zq ?_; refine blk_put (cs := #[.int .i64 t115, .int .i64 t104, .int .i64 (wrap64 (1 + t106))]) ?_ 1 _ rfl; refine zq ?_; exact BK108.out) NB108_0.out (by simp)); have n2_ := zA (KeepBut.blk hk (g' := gb114) (o := .cells #[.bool ((rd_T54 l1 t111).f0), .int .i64 ((rd_T54 l1 t111).f1.f0), .int .i64 ((rd_T54 l1 t111).f1.f1), .int .i64 ((rd_T54 l1 t111).f2.f0), .int .i64 ((rd_T54 l1 t111).f2.f1), .int .i64 ((rd_T54 l1 t111).f3)] 54 (0, 0)) y14  NB114_0.out (by simp)); have n3_ := zA (KeepBut.trans (zHK) hk (.inl rfl)); have n4_ := zA (hb); have n5_ := zA (hi); clear BK101; clear BK108; clear BK114; clear HK; clear HB; clear HI0; have BK101 := n0_; have BK108 := n1_; have BK114 := n2_; have HK := n3_; have HB := n4_; have HI0 := n5_; clear n0_ n1_ n2_ n3_ n4_ n5_; (try clear hb); (try clear hb2); (try clear hk); (try clear hi)))
       go_meet
       case rel => exact ⟨_, (t120), (t115), (t117), ((wrap64 (1 + t106))), H', ⟨by have := HJ5.out; first | omega | exact Nat.le_refl _⟩, ⟨by refine zq ?_; exact BK101.out⟩, ⟨by refine zq ?_; exact BK108.out⟩, ⟨zHI0⟩, ⟨zHK⟩, ⟨zHB⟩⟩
      rw [if_neg c25] at H
      have c25b0 : decide (0 < ((rd_T54 l1 t111).f3)) = false := decide_eq_false c25
      clear c25
      have H' := zA H
      clear H
      go_wp2_with (first | ((with_reducible refine gate_callee (f := 81) rfl ?_); refine goesL_ (some 27) rfl rfl Try.func81 (by kernel_rfl) rfl #[.pointer (some ⟨g, 0, none⟩), .int .i64 (l1.length : Int)] rfl y9  ?_; (with_reducible refine (spec_l1Rd_pick.calls kj5 g s0_0 x1001_5 (l1.length : Int) t111 t112 w0 _ ?side1 ?side2 A20.out).mono ?_); (case side1 => exact zHI0); (case side2 => exact zHB); rintro e w60 ⟨rfl, hi, hb, hk⟩; refine ⟨_, rfl, ?_⟩; have n0_ := zA (KeepBut.blk hk (g' := gb101) (o := .cells #[.int .i64 0, .int .i64 0, .int .i64 0] 34 (0, 0)) (zb BK101.out) NB101_0.out (by simp)); have n1_ := zA (KeepBut.blk hk (g' := gb108) (o := .cells #[.int .i64 t102, .int .i64 t104, .int .i64 (wrap64 (1 + t106))] 34 (0, 0)) (zb BK108.out) NB108_0.out (by simp)); have n2_ := zA (KeepBut.trans (zHK) hk (.inl rfl)); have n3_ := zA (hb); have n4_ := zA (hi); clear BK101; clear BK108; clear HK; clear HB; clear HI0; have BK101 := n0_; have BK108 := n1_; have HK := n2_; have HB := n3_; have HI0 := n4_; clear n0_ n1_ n2_ n3_ n4_; (try clear hb); (try clear hb2); (try clear hk); (try clear hi); have p113 : 0 ≤ (t111 : Int) := of_decide_eq_true y15 ; have q113 : t111 < (l1.length : Int) := of_decide_eq_true y15 ; obtain ⟨ad113, e113, hx113_0, hx113_1, hx113_2, hx113_3, hx113_4, hx113_5⟩ := at_T54 (Kd.C_foot_now HR1.out HK.out) t111 p113 q113; cases e113; replace p113 := eq_true p113; replace q113 := eq_true q113) | ((with_reducible refine gate_dst (N := 6) rfl ?_); refine box_event ?hg (N := 6) ?hd (cs := #[.bool false, .int .i64 0, .int .i64 0, .int .i64 0, .int .i64 0, .int .i64 0]) (t := 54) ?hr ?_; (case hd => rfl); (case hg => rfl); (case hr => first | (go_simp; done) | (go_simp; rfl)); intro gb114 hg w61 hbox hb; have n0_ := zA (blk_below (g := gb101) (o := .cells #[.int .i64 0, .int .i64 0, .int .i64 0] 34 (0, 0)) (zb BK101.out) hb); have n1_ := zA (blk_below (g := gb108) (o := .cells #[.int .i64 t102, .int .i64 t104, .int .i64 (wrap64 (1 + t106))] 34 (0, 0)) (zb BK108.out) hb); have n2_ := zA (IsS117.below (zHI0) hb); have n3_ := zA (KeepBut.trans (zHK) (KeepBut.of_below hb g none) (.inl rfl)); have n4_ := zA (below_step (zHB) hb); have n5_ := zA (hbox); have n6_ := zA ((show w.heap.size ≤ gb114 from y12)); have n7_ := zA ((Nat.le_trans HW0.out (show w.heap.size ≤ gb114 from y12) : w0.heap.size ≤ gb114)); have n8_ := zA ((show gb101 ≠ gb114 from y6)); have n9_ := zA ((show gb114 ≠ gb101 from y7)); have n10_ := zA ((show gb108 ≠ gb114 from y4)); have n11_ := zA ((show gb114 ≠ gb108 from y5)); have n12_ := zA ((show g ≠ gb114 from y10)); have n13_ := zA ((show gb114 ≠ g from y11)); clear BK101; clear BK108; clear HI0; clear HK; clear HB; have BK101 := n0_; have BK108 := n1_; have HI0 := n2_; have HK := n3_; have HB := n4_; have BK114 := n5_; have GW114 := n6_; have GE114 := n7_; have NB101_114 := n8_; have NB114_101 := n9_; have NB108_114 := n10_; have NB114_108 := n11_; have NB0_114 := n12_; have NB114_0 := n13_; clear n0_ n1_ n2_ n3_ n4_ n5_ n6_ n7_ n8_ n9_ n10_ n11_ n12_ n13_; clear hb hbox hg; have hnb62 := NB114_101.out; have hnc62 := NB101_114.out; have hnb63 := NB114_108.out; have hnc63 := NB108_114.out; have hnb64 := NB114_0.out; have hnc64 := NB0_114.out; have hcz65_0 : w61.cell? ⟨gb114, 0, none⟩ = some (.bool false) := (blk_cell BK114.out 0).trans rfl; have hcz65_1 : w61.cell? ⟨gb114, 1, none⟩ = some (.int .i64 0) := (blk_cell BK114.out 1).trans rfl; have hcz65_2 : w61.cell? ⟨gb114, 2, none⟩ = some (.int .i64 0) := (blk_cell BK114.out 2).trans rfl; have hcz65_3 : w61.cell? ⟨gb114, 3, none⟩ = some (.int .i64 0) := (blk_cell BK114.out 3).trans rfl; have hcz65_4 : w61.cell? ⟨gb114, 4, none⟩ = some (.int .i64 0) := (blk_cell BK114.out 4).trans rfl; have hcz65_5 : w61.cell? ⟨gb114, 5, none⟩ = some (.int .i64 0) := (blk_cell BK114.out 5).trans rfl; have hfz65_0 := blk_frozen BK114.out 0; have hfz65_1 := blk_frozen BK114.out 1; have hfz65_2 := blk_frozen BK114.out 2; have hfz65_3 := blk_frozen BK114.out 3; have hfz65_4 := blk_frozen BK114.out 4; have hfz65_5 := blk_frozen BK114.out 5) | ((with_reducible refine gate_callee (f := 100) rfl ?_); refine goesL_ (some 33) rfl rfl Try.func100 (by kernel_rfl) rfl #[.pointer (some ⟨g, 0, none⟩), .agg #[.int .i64 ((rd_T54 l1 t111).f1.f0), .int .i64 ((rd_T54 l1 t111).f1.f1)]] rfl y9  ?_; (with_reducible refine (spec_l5Addr.calls kj5 g s0_0 t112 ((rd_T54 l1 t111).f1.f0) ((rd_T54 l1 t111).f1.f1) t115 t116 w0 _ ?side1 ?side2 A23.out).mono ?_); (case side1 => exact zHI0); (case side2 => exact zHB); rintro e w66 ⟨rfl, hi, hb, hk⟩; refine ⟨_, rfl, ?_⟩; have n0_ := zA (KeepBut.blk hk (g' := gb101) (o := .cells #[.int .i64 0, .int .i64 0, .int .i64 0] 34 (0, 0)) y2  NB101_0.out (by simp)); have n1_ := zA (KeepBut.blk hk (g' := gb108) (o := .cells #[.int .i64 t102, .int .i64 t104, .int .i64 (wrap64 (1 + t106))] 34 (0, 0)) y3  NB108_0.out (by simp)); have n2_ := zA (KeepBut.blk hk (g' := gb114) (o := .cells #[.bool ((rd_T54 l1 t111).f0), .int .i64 ((rd_T54 l1 t111).f1.f0), .int .i64 ((rd_T54 l1 t111).f1.f1), .int .i64 ((rd_T54 l1 t111).f2.f0), .int .i64 ((rd_T54 l1 t111).f2.f1), .int .i64 ((rd_T54 l1 t111).f3)] 54 (0, 0)) y1  NB114_0.out (by simp)); have n3_ := zA (KeepBut.trans (zHK) hk (.inl rfl)); have n4_ := zA (hb); have n5_ := zA (hi); clear BK101; clear BK108; clear BK114; clear HK; clear HB; clear HI0; have BK101 := n0_; have BK108 := n1_; have BK114 := n2_; have HK := n3_; have HB := n4_; have HI0 := n5_; clear n0_ n1_ n2_ n3_ n4_ n5_; (try clear hb); (try clear hb2); (try clear hk); (try clear hi); have hnb67 := NB108_101.out; have hnc67 := NB101_108.out; have hnb68 := NB108_0.out; have hnc68 := NB0_108.out; have hcz69_0 : w66.cell? ⟨gb108, 0, none⟩ = some (.int .i64 t102) := (blk_cell BK108.out 0).trans rfl; have hcz69_1 : w66.cell? ⟨gb108, 1, none⟩ = some (.int .i64 t104) := (blk_cell BK108.out 1).trans rfl; have hcz69_2 : w66.cell? ⟨gb108, 2, none⟩ = some (.int .i64 (wrap64 (1 + t106))) := (blk_cell BK108.out 2).trans rfl; have hfz69_0 := blk_frozen BK108.out 0; have hfz69_1 := blk_frozen BK108.out 1; have hfz69_2 := blk_frozen BK108.out 2; have hcz70_0 : w66.cell? ⟨gb114, 0, none⟩ = some (.bool ((rd_T54 l1 t111).f0)) := (blk_cell BK114.out 0).trans rfl; have hcz70_1 : w66.cell? ⟨gb114, 1, none⟩ = some (.int .i64 ((rd_T54 l1 t111).f1.f0)) := (blk_cell BK114.out 1).trans rfl; have hcz70_2 : w66.cell? ⟨gb114, 2, none⟩ = some (.int .i64 ((rd_T54 l1 t111).f1.f1)) := (blk_cell BK114.out 2).trans rfl; have hcz70_3 : w66.cell? ⟨gb114, 3, none⟩ = some (.int .i64 ((rd_T54 l1 t111).f2.f0)) := (blk_cell BK114.out 3).trans rfl; have hcz70_4 : w66.cell? ⟨gb114, 4, none⟩ = some (.int .i64 ((rd_T54 l1 t111).f2.f1)) := (blk_cell BK114.out 4).trans rfl; have hcz70_5 : w66.cell? ⟨gb114, 5, none⟩ = some (.int .i64 ((rd_T54 l1 t111).f3)) := (blk_cell BK114.out 5).trans rfl; have hfz70_0 := blk_frozen BK114.out 0; have hfz70_1 := blk_frozen BK114.out 1; have hfz70_2 := blk_frozen BK114.out 2; have hfz70_3 := blk_frozen BK114.out 3; have hfz70_4 := blk_frozen BK114.out 4; have hfz70_5 := blk_frozen BK114.out 5) | ((with_reducible refine gate_callee (f := 100) rfl ?_); refine goesL_ (some 38) rfl rfl Try.func100 (by kernel_rfl) rfl #[.pointer (some ⟨g, 0, none⟩), .agg #[.int .i64 ((rd_T54 l1 t111).f2.f0), .int .i64 ((rd_T54 l1 t111).f2.f1)]] rfl y9  ?_; (with_reducible refine (spec_l5Addr.calls kj5 g s0_0 t116 ((rd_T54 l1 t111).f2.f0) ((rd_T54 l1 t111).f2.f1) t117 t118 w0 _ ?side1 ?side2 A24.out).mono ?_); (case side1 => exact zHI0); (case side2 => exact zHB); rintro e w71 ⟨rfl, hi, hb, hk⟩; refine ⟨_, rfl, ?_⟩; have n0_ := zA (KeepBut.blk hk (g' := gb101) (o := .cells #[.int .i64 0, .int .i64 0, .int .i64 0] 34 (0, 0)) y13  NB101_0.out (by simp)); have n1_ := zA (KeepBut.blk hk (g' := gb108) (o := .cells #[.int .i64 t115, .int .i64 t104, .int .i64 (wrap64 (1 + t106))] 34 (0, 0)) y8  NB108_0.out (by simp)); have n2_ := zA (KeepBut.blk hk (g' := gb114) (o := .cells #[.bool ((rd_T54 l1 t111).f0), .int .i64 ((rd_T54 l1 t111).f1.f0), .int .i64 ((rd_T54 l1 t111).f1.f1), .int .i64 ((rd_T54 l1 t111).f2.f0), .int .i64 ((rd_T54 l1 t111).f2.f1), .int .i64 ((rd_T54 l1 t111).f3)] 54 (0, 0)) y14  NB114_0.out (by simp)); have n3_ := zA (KeepBut.trans (zHK) hk (.inl rfl)); have n4_ := zA (hb); have n5_ := zA (hi); clear BK101; clear BK108; clear BK114; clear HK; clear HB; clear HI0; have BK101 := n0_; have BK108 := n1_; have BK114 := n2_; have HK := n3_; have HB := n4_; have HI0 := n5_; clear n0_ n1_ n2_ n3_ n4_ n5_; (try clear hb); (try clear hb2); (try clear hk); (try clear hi); have hcz72_0 : w71.cell? ⟨gb108, 0, none⟩ = some (.int .i64 t115) := (blk_cell BK108.out 0).trans rfl; have hcz72_1 : w71.cell? ⟨gb108, 1, none⟩ = some (.int .i64 t104) := (blk_cell BK108.out 1).trans rfl; have hcz72_2 : w71.cell? ⟨gb108, 2, none⟩ = some (.int .i64 (wrap64 (1 + t106))) := (blk_cell BK108.out 2).trans rfl; have hfz72_0 := blk_frozen BK108.out 0; have hfz72_1 := blk_frozen BK108.out 1; have hfz72_2 := blk_frozen BK108.out 2; have hcz73_0 : w71.cell? ⟨gb114, 0, none⟩ = some (.bool ((rd_T54 l1 t111).f0)) := (blk_cell BK114.out 0).trans rfl; have hcz73_1 : w71.cell? ⟨gb114, 1, none⟩ = some (.int .i64 ((rd_T54 l1 t111).f1.f0)) := (blk_cell BK114.out 1).trans rfl; have hcz73_2 : w71.cell? ⟨gb114, 2, none⟩ = some (.int .i64 ((rd_T54 l1 t111).f1.f1)) := (blk_cell BK114.out 2).trans rfl; have hcz73_3 : w71.cell? ⟨gb114, 3, none⟩ = some (.int .i64 ((rd_T54 l1 t111).f2.f0)) := (blk_cell BK114.out 3).trans rfl; have hcz73_4 : w71.cell? ⟨gb114, 4, none⟩ = some (.int .i64 ((rd_T54 l1 t111).f2.f1)) := (blk_cell BK114.out 4).trans rfl; have hcz73_5 : w71.cell? ⟨gb114, 5, none⟩ = some (.int .i64 ((rd_T54 l1 t111).f3)) := (blk_cell BK114.out 5).trans rfl; have hfz73_0 := blk_frozen BK114.out 0; have hfz73_1 := blk_frozen BK114.out 1; have hfz73_2 := blk_frozen BK114.out 2; have hfz73_3 := blk_frozen BK114.out 3; have hfz73_4 := blk_frozen BK114.out 4; have hfz73_5 := blk_frozen BK114.out 5))
      go_meet
      case rel => exact ⟨_, (t118), (t115), (t117), ((wrap64 (1 + t106))), H', ⟨by have := HJ5.out; first | omega | exact Nat.le_refl _⟩, ⟨by refine zq ?_; refine blk_far ?_ NB101_108.out _; refine zq ?_; exact BK101.out⟩, ⟨by refine zq ?_; refine blk_put (cs := #[.int .i64 t115, .int .i64 t104, .int .i64 (wrap64 (1 + t106))]) ?_ 1 _ rfl; refine zq ?_; exact BK108.out⟩, ⟨zHI0⟩, ⟨zHK⟩, ⟨zHB⟩⟩
     rw [if_neg c22] at H
     exact absurd H (by simp)
    rw [if_neg c21] at H
    exact absurd H (by simp)
   replace c19 := Bool.eq_false_iff.mpr c19
   subst c19
   have H1 : (spec_l5Packet.j1 kj5 s0_0 x1001_5 t102 t104 (wrap64 (1 + t106))) = some (r1, r2, r3, r4) := by rw [if_neg (show ¬ (false = true) by decide)] at H; exact H
   clear H
   have H := H1
   clear H1
   have H' := zA H
   clear H
   go_wp2
   go_meet
   case rel => exact ⟨_, (x1001_5), (t102), (t104), ((wrap64 (1 + t106))), H', ⟨by have := HJ5.out; first | omega | exact Nat.le_refl _⟩, ⟨by refine zq ?_; exact BK101.out⟩, ⟨by refine zq ?_; exact BK108.out⟩, ⟨zHI0⟩, ⟨zHK⟩, ⟨zHB⟩⟩
  case rest =>
   clear HC18
   try clear c1
   try clear p1
   try clear q1
   try clear hx1
   try clear c2
   try clear p2
   try clear c3
   try clear c4
   try clear c5
   try clear c6
   try clear p6
   try clear c8
   try clear c10
   try clear p11
   try clear q11
   try clear hx11
   try clear c12
   try clear c13
   try clear c15
   try clear c15b0
   try clear c15b1
   try clear c19
   try clear c21
   try clear c21b0
   try clear c22
   try clear c22b0
   try clear c25
   try clear c25b0
   try clear c27
   try clear c27b0
   try clear c30
   try clear c31
   try clear c32
   try clear c35
   try clear c36
   try clear c47
   try clear c48
   try clear c49
   try clear c52
   try clear c53
   try clear c62
   try clear c63
   try clear c64
   try clear p64
   try clear c67
   try clear c68
   try clear hcz14_0
   try clear hcz14_1
   try clear hcz14_2
   try clear hcz33_0
   try clear hcz33_1
   try clear hcz33_2
   try clear hcz33_3
   try clear hcz33_4
   try clear hcz33_5
   try clear hcz37_0
   try clear hcz37_1
   try clear hcz37_2
   try clear hcz38_0
   try clear hcz38_1
   try clear hcz38_2
   try clear hcz38_3
   try clear hcz38_4
   try clear hcz38_5
   try clear hcz40_0
   try clear hcz40_1
   try clear hcz40_2
   try clear hcz41_0
   try clear hcz41_1
   try clear hcz41_2
   try clear hcz41_3
   try clear hcz41_4
   try clear hcz41_5
   try clear hcz43_0
   try clear hcz43_1
   try clear hcz43_2
   try clear hcz43_3
   try clear hcz43_4
   try clear hcz43_5
   try clear hcz44_0
   try clear hcz44_1
   try clear hcz44_2
   try clear hcz50_0
   try clear hcz50_1
   try clear hcz50_2
   try clear hcz50_3
   try clear hcz50_4
   try clear hcz50_5
   try clear hcz54_0
   try clear hcz54_1
   try clear hcz54_2
   try clear hcz55_0
   try clear hcz55_1
   try clear hcz55_2
   try clear hcz55_3
   try clear hcz55_4
   try clear hcz55_5
   try clear hcz57_0
   try clear hcz57_1
   try clear hcz57_2
   try clear hcz58_0
   try clear hcz58_1
   try clear hcz58_2
   try clear hcz58_3
   try clear hcz58_4
   try clear hcz58_5
   try clear hcz65_0
   try clear hcz65_1
   try clear hcz65_2
   try clear hcz65_3
   try clear hcz65_4
   try clear hcz65_5
   try clear hcz69_0
   try clear hcz69_1
   try clear hcz69_2
   try clear hcz70_0
   try clear hcz70_1
   try clear hcz70_2
   try clear hcz70_3
   try clear hcz70_4
   try clear hcz70_5
   try clear hcz72_0
   try clear hcz72_1
   try clear hcz72_2
   try clear hcz73_0
   try clear hcz73_1
   try clear hcz73_2
   try clear hcz73_3
   try clear hcz73_4
   try clear hcz73_5
   try clear hfz14_0
   try clear hfz14_1
   try clear hfz14_2
   try clear hfz33_0
   try clear hfz33_1
   try clear hfz33_2
   try clear hfz33_3
   try clear hfz33_4
   try clear hfz33_5
   try clear hfz37_0
   try clear hfz37_1
   try clear hfz37_2
   try clear hfz38_0
   try clear hfz38_1
   try clear hfz38_2
   try clear hfz38_3
   try clear hfz38_4
   try clear hfz38_5
   try clear hfz40_0
   try clear hfz40_1
   try clear hfz40_2
   try clear hfz41_0
   try clear hfz41_1
   try clear hfz41_2
   try clear hfz41_3
   try clear hfz41_4
   try clear hfz41_5
   try clear hfz43_0
   try clear hfz43_1
   try clear hfz43_2
   try clear hfz43_3
   try clear hfz43_4
   try clear hfz43_5
   try clear hfz44_0
   try clear hfz44_1
   try clear hfz44_2
   try clear hfz50_0
   try clear hfz50_1
   try clear hfz50_2
   try clear hfz50_3
   try clear hfz50_4
   try clear hfz50_5
   try clear hfz54_0
   try clear hfz54_1
   try clear hfz54_2
   try clear hfz55_0
   try clear hfz55_1
   try clear hfz55_2
   try clear hfz55_3
   try clear hfz55_4
   try clear hfz55_5
   try clear hfz57_0
   try clear hfz57_1
   try clear hfz57_2
   try clear hfz58_0
   try clear hfz58_1
   try clear hfz58_2
   try clear hfz58_3
   try clear hfz58_4
   try clear hfz58_5
   try clear hfz65_0
   try clear hfz65_1
   try clear hfz65_2
   try clear hfz65_3
   try clear hfz65_4
   try clear hfz65_5
   try clear hfz69_0
   try clear hfz69_1
   try clear hfz69_2
   try clear hfz70_0
   try clear hfz70_1
   try clear hfz70_2
   try clear hfz70_3
   try clear hfz70_4
   try clear hfz70_5
   try clear hfz72_0
   try clear hfz72_1
   try clear hfz72_2
   try clear hfz73_0
   try clear hfz73_1
   try clear hfz73_2
   try clear hfz73_3
   try clear hfz73_4
   try clear hfz73_5
   try clear hx113_0
   try clear hx113_1
   try clear hx113_2
   try clear hx113_3
   try clear hx113_4
   try clear hx113_5
   try clear p113
   try clear p2
   try clear p6
   try clear q113
   obtain ⟨kq, x1001_17, x109000_17, x109001_17, x109002_17, HA, HJ17, BK101, BK108, HI0, HK, HB⟩ := hcut
   cases kq with
   | zero => exact absurd HA.out (by simp [spec_l5Packet.j1])
   | succ kj17 => ?_
   have H := HA.out
   clear HA
   simp only [spec_l5Packet.j1] at H
   replace H := Option.bind_eq_some_iff.mp H
   obtain ⟨⟨t121, t122⟩, A740, H⟩ := H
   replace H : (if t121 = 0 then ((some (([0, 8, (-1)] : List Int) : List Int)).bind fun y123 => ((spec_l1Rd_pick.f kj17 s0_0 t122 3).bind fun bt126 => (if 0 ≤ bt126.1 then (if bt126.1 < (y123.length : Int) then (some (x109000_17, x109001_17, rd y123 bt126.1, bt126.2)) else (none)) else (none)))) else (some (x109000_17, x109001_17, x109002_17, t122))) = some (r1, r2, r3, r4) := H
   have A74 := zA A740
   clear A740
   by_cases c75 : t121 = 0
   ·rw [if_pos c75] at H
    have c75b0 : (t121 == 0) = true := beq_iff_eq.mpr c75
    have c75b1 : (t121 != 0) = false := bne_eq_false_iff_eq.mpr c75
    clear c75
    obtain ⟨y123, hy123⟩ : ∃ y_ : List Int, y_ = (([0, 8, (-1)] : List Int)) := ⟨_, rfl⟩
    replace H : ((spec_l1Rd_pick.f kj17 s0_0 t122 3).bind fun bt126 => (if 0 ≤ bt126.1 then (if bt126.1 < (y123.length : Int) then (some (x109000_17, x109001_17, rd y123 bt126.1, bt126.2)) else (none)) else (none))) = some (r1, r2, r3, r4) := by first | (rw [hy123]; with_reducible exact H) | (have H2_ := (Option.bind_some _ _).symm.trans H; rw [hy123]; with_reducible exact H2_) | (have H2_ := (Option.bind_some _ _).symm.trans H; with_reducible exact H2_) | with_reducible exact H | (rw [hy123]; exact H) | exact H
    have Ny123 := zA hy123
    clear hy123
    replace H := Option.bind_eq_some_iff.mp H
    obtain ⟨⟨t126, t127⟩, A760, H⟩ := H
    replace H : (if 0 ≤ t126 then (if t126 < (y123.length : Int) then (some (x109000_17, x109001_17, rd y123 t126, t127)) else (none)) else (none)) = some (r1, r2, r3, r4) := H
    have A76 := zA A760
    clear A760
    by_cases c77 : 0 ≤ t126
    ·rw [if_pos c77] at H
     have c77b0 : decide (0 ≤ t126) = true := decide_eq_true c77
     clear c77
     by_cases c78 : t126 < (y123.length : Int)
     ·rw [if_pos c78] at H
      have c78b0 : decide (t126 < (y123.length : Int)) = true := decide_eq_true c78
      clear c78
      simp only [Option.some.injEq, Prod.mk.injEq] at H
      obtain ⟨rfl, rfl, rfl, rfl⟩ := H
      go_wp2_with (first | ((with_reducible refine gate_callee (f := 81) rfl ?_); refine goesL_ (some 52) rfl rfl Try.func81 (by kernel_rfl) rfl #[.pointer (some ⟨g, 0, none⟩), .int .i64 24] rfl y9  ?_; (with_reducible refine (spec_l1Rd_pick.calls kj17 g s0_0 x1001_17 24 t121 t122 w0 _ ?side1 ?side2 A74.out).mono ?_); (case side1 => exact zHI0); (case side2 => exact zHB); rintro e w79 ⟨rfl, hi, hb, hk⟩; refine ⟨_, rfl, ?_⟩; have n0_ := zA (KeepBut.blk hk (g' := gb101) (o := .cells #[.int .i64 0, .int .i64 0, .int .i64 0] 34 (0, 0)) (zb BK101.out) NB101_0.out (by simp)); have n1_ := zA (KeepBut.blk hk (g' := gb108) (o := .cells #[.int .i64 x109000_17, .int .i64 x109001_17, .int .i64 x109002_17] 34 (0, 0)) (zb BK108.out) NB108_0.out (by simp)); have n2_ := zA (KeepBut.trans (zHK) hk (.inl rfl)); have n3_ := zA (hb); have n4_ := zA (hi); clear BK101; clear BK108; clear HK; clear HB; clear HI0; have BK101 := n0_; have BK108 := n1_; have HK := n2_; have HB := n3_; have HI0 := n4_; clear n0_ n1_ n2_ n3_ n4_; (try clear hb); (try clear hb2); (try clear hk); (try clear hi)) | ((with_reducible refine gate_dst (N := 54) rfl ?_); refine Kd.R_lit (Kd.int .i64) _ 3 ?hg (N := 54) ?hd (xs := ([0, 8, (-1)] : List Int)) (inner := [.int .i64 0, .int .i64 8, .int .i64 (-1)]) (ok := fun _ => True) (okp := fun _ => True) ?hr ?hp (fun _ hk => hk) trivial (Below.refl _ _) (Nat.le_refl _) (by simp) ?_; (case hd => rfl); (case hg => rfl); (case hr => first | (go_simp; done) | (go_simp; rfl)); (case hp => exact (Reps.one (show Kd.M (Kd.int .i64) _ _ _ 0 [.int .i64 0] from rfl) (Reps.one (show Kd.M (Kd.int .i64) _ _ _ 8 [.int .i64 8] from rfl) (Reps.one (show Kd.M (Kd.int .i64) _ _ _ (-1) [.int .i64 (-1)] from rfl) (Reps.none _ _))))); intro v124 w80 ho81 hb hg_ hnew_; clear hg_ hnew_; (first | rw [← Ny123.out] at ho81 | (simp only [Int.reduceToNat] at ho81; rw [← Ny123.out] at ho81)); have n0_ := zA (Kd.R_lower ho81 (keep_size (w := w) (g := g) (row := none) (zHK))); have n1_ := zA (blk_below (g := gb101) (o := .cells #[.int .i64 0, .int .i64 0, .int .i64 0] 34 (0, 0)) (zb BK101.out) hb); have n2_ := zA (blk_below (g := gb108) (o := .cells #[.int .i64 x109000_17, .int .i64 x109001_17, .int .i64 x109002_17] 34 (0, 0)) (zb BK108.out) hb); have n3_ := zA (IsS117.below (zHI0) hb); have n4_ := zA (KeepBut.trans (zHK) (KeepBut.of_below hb g none) (.inl rfl)); have n5_ := zA (below_step (zHB) hb); clear BK101; clear BK108; clear HI0; clear HK; clear HB; have HO125 := n0_; have BK101 := n1_; have BK108 := n2_; have HI0 := n3_; have HK := n4_; have HB := n5_; clear n0_ n1_ n2_ n3_ n4_ n5_; clear hb ho81) | ((with_reducible refine gate_callee (f := 81) rfl ?_); refine goesL_ (some 56) rfl rfl Try.func81 (by kernel_rfl) rfl #[.pointer (some ⟨g, 0, none⟩), .int .i64 3] rfl y9  ?_; (with_reducible refine (spec_l1Rd_pick.calls kj17 g s0_0 t122 3 t126 t127 w0 _ ?side1 ?side2 A76.out).mono ?_); (case side1 => exact zHI0); (case side2 => exact zHB); rintro e w82 ⟨rfl, hi, hb, hk⟩; refine ⟨_, rfl, ?_⟩; have n0_ := zA (KeepBut.blk hk (g' := gb101) (o := .cells #[.int .i64 0, .int .i64 0, .int .i64 0] 34 (0, 0)) (zb BK101.out) NB101_0.out (by simp)); have n1_ := zA (KeepBut.blk hk (g' := gb108) (o := .cells #[.int .i64 x109000_17, .int .i64 x109001_17, .int .i64 x109002_17] 34 (0, 0)) (zb BK108.out) NB108_0.out (by simp)); have n2_ := zA (Kd.R_mono (Kd.R_keep (IsS117.apart (show IsS117 w0 _ g s0_0 t122 from zHI0) (by (with_reducible repeat (first | apply Kd.R_alloc | apply Kd.R_drewN | apply Kd.R_drew)); exact HO125.out) (by decide)) hk (fun _ h => h.2)) (fun _ h => h.1)); have n3_ := zA (KeepBut.trans (zHK) hk (.inl rfl)); have n4_ := zA (hb); have n5_ := zA (hi); clear BK101; clear BK108; clear HO125; clear HK; clear HB; clear HI0; have BK101 := n0_; have BK108 := n1_; have HO125 := n2_; have HK := n3_; have HB := n4_; have HI0 := n5_; clear n0_ n1_ n2_ n3_ n4_ n5_; (try clear hb); (try clear hb2); (try clear hk); (try clear hi); obtain ⟨Ao83, co83, eo83⟩ := Kd.R_slice HO125.out; subst eo83; have p128 : 0 ≤ (t126 : Int) := of_decide_eq_true y15 ; have q128 : t126 < (y123.length : Int) := of_decide_eq_true y15 ; obtain ⟨ad128, e128, hx128_0⟩ := Kd.at_int (Kd.R_reads' HO125.out).2.2 t126 p128 q128; cases e128; replace p128 := eq_true p128; replace q128 := eq_true q128; have hnb84 := NB108_101.out; have hnc84 := NB101_108.out; have hnb85 := NB108_0.out; have hnc85 := NB0_108.out; have hcz86_0 : w82.cell? ⟨gb108, 0, none⟩ = some (.int .i64 x109000_17) := (blk_cell BK108.out 0).trans rfl; have hcz86_1 : w82.cell? ⟨gb108, 1, none⟩ = some (.int .i64 x109001_17) := (blk_cell BK108.out 1).trans rfl; have hcz86_2 : w82.cell? ⟨gb108, 2, none⟩ = some (.int .i64 x109002_17) := (blk_cell BK108.out 2).trans rfl; have hfz86_0 := blk_frozen BK108.out 0; have hfz86_1 := blk_frozen BK108.out 1; have hfz86_2 := blk_frozen BK108.out 2; have hnb87 := NB101_0.out; have hnc87 := NB0_101.out; have hcz88_0 : w82.cell? ⟨gb101, 0, none⟩ = some (.int .i64 0) := (blk_cell BK101.out 0).trans rfl; have hcz88_1 : w82.cell? ⟨gb101, 1, none⟩ = some (.int .i64 0) := (blk_cell BK101.out 1).trans rfl; have hcz88_2 : w82.cell? ⟨gb101, 2, none⟩ = some (.int .i64 0) := (blk_cell BK101.out 2).trans rfl; have hfz88_0 := blk_frozen BK101.out 0; have hfz88_1 := blk_frozen BK101.out 1; have hfz88_2 := blk_frozen BK101.out 2))
      refine bodyPost_ret (results_cell_row rfl _ _ gb101 34 #[.int .i64 x109000_17, .int .i64 x109001_17, .int .i64 (rd y123 t126)] (0, 0) _ rfl (by refine zq ?_; refine blk_put (cs := #[.int .i64 x109000_17, .int .i64 x109001_17, .int .i64 0]) ?_ 2 _ rfl; refine zq ?_; refine blk_put (cs := #[.int .i64 x109000_17, .int .i64 0, .int .i64 0]) ?_ 1 _ rfl; refine zq ?_; refine blk_put (cs := #[.int .i64 0, .int .i64 0, .int .i64 0]) ?_ 0 _ rfl; refine zq ?_; refine blk_far ?_ NB101_108.out _; refine zq ?_; exact BK101.out) Try.underlying34 rfl (by kernel_rfl)) rfl ?_
      exact ⟨by first | rfl | (simp [errW_none, errW_some] <;> rfl) | (simp [*, errW_none, errW_some] <;> rfl), zHI0, zHB, zHK⟩
     rw [if_neg c78] at H
     exact absurd H (by simp)
    rw [if_neg c77] at H
    exact absurd H (by simp)
   rw [if_neg c75] at H
   have c75b0 : (t121 == 0) = false := beq_eq_false_iff_ne.mpr c75
   have c75b1 : (t121 != 0) = true := bne_iff_ne.mpr c75
   simp only [Option.some.injEq, Prod.mk.injEq] at H
   obtain ⟨rfl, rfl, rfl, rfl⟩ := H
   go_wp2_with (first | ((with_reducible refine gate_callee (f := 81) rfl ?_); refine goesL_ (some 52) rfl rfl Try.func81 (by kernel_rfl) rfl #[.pointer (some ⟨g, 0, none⟩), .int .i64 24] rfl y9  ?_; (with_reducible refine (spec_l1Rd_pick.calls kj17 g s0_0 x1001_17 24 t121 t122 w0 _ ?side1 ?side2 A74.out).mono ?_); (case side1 => exact zHI0); (case side2 => exact zHB); rintro e w89 ⟨rfl, hi, hb, hk⟩; refine ⟨_, rfl, ?_⟩; have n0_ := zA (KeepBut.blk hk (g' := gb101) (o := .cells #[.int .i64 0, .int .i64 0, .int .i64 0] 34 (0, 0)) (zb BK101.out) NB101_0.out (by simp)); have n1_ := zA (KeepBut.blk hk (g' := gb108) (o := .cells #[.int .i64 x109000_17, .int .i64 x109001_17, .int .i64 x109002_17] 34 (0, 0)) (zb BK108.out) NB108_0.out (by simp)); have n2_ := zA (KeepBut.trans (zHK) hk (.inl rfl)); have n3_ := zA (hb); have n4_ := zA (hi); clear BK101; clear BK108; clear HK; clear HB; clear HI0; have BK101 := n0_; have BK108 := n1_; have HK := n2_; have HB := n3_; have HI0 := n4_; clear n0_ n1_ n2_ n3_ n4_; (try clear hb); (try clear hb2); (try clear hk); (try clear hi); have hnb90 := NB108_101.out; have hnc90 := NB101_108.out; have hnb91 := NB108_0.out; have hnc91 := NB0_108.out; have hcz92_0 : w89.cell? ⟨gb108, 0, none⟩ = some (.int .i64 x109000_17) := (blk_cell BK108.out 0).trans rfl; have hcz92_1 : w89.cell? ⟨gb108, 1, none⟩ = some (.int .i64 x109001_17) := (blk_cell BK108.out 1).trans rfl; have hcz92_2 : w89.cell? ⟨gb108, 2, none⟩ = some (.int .i64 x109002_17) := (blk_cell BK108.out 2).trans rfl; have hfz92_0 := blk_frozen BK108.out 0; have hfz92_1 := blk_frozen BK108.out 1; have hfz92_2 := blk_frozen BK108.out 2; have hnb93 := NB101_0.out; have hnc93 := NB0_101.out; have hcz94_0 : w89.cell? ⟨gb101, 0, none⟩ = some (.int .i64 0) := (blk_cell BK101.out 0).trans rfl; have hcz94_1 : w89.cell? ⟨gb101, 1, none⟩ = some (.int .i64 0) := (blk_cell BK101.out 1).trans rfl; have hcz94_2 : w89.cell? ⟨gb101, 2, none⟩ = some (.int .i64 0) := (blk_cell BK101.out 2).trans rfl; have hfz94_0 := blk_frozen BK101.out 0; have hfz94_1 := blk_frozen BK101.out 1; have hfz94_2 := blk_frozen BK101.out 2))
   refine bodyPost_ret (results_cell_row rfl _ _ gb101 34 #[.int .i64 x109000_17, .int .i64 x109001_17, .int .i64 x109002_17] (0, 0) _ rfl (by refine zq ?_; refine blk_put (cs := #[.int .i64 x109000_17, .int .i64 x109001_17, .int .i64 0]) ?_ 2 _ rfl; refine zq ?_; refine blk_put (cs := #[.int .i64 x109000_17, .int .i64 0, .int .i64 0]) ?_ 1 _ rfl; refine zq ?_; refine blk_put (cs := #[.int .i64 0, .int .i64 0, .int .i64 0]) ?_ 0 _ rfl; refine zq ?_; exact BK101.out) Try.underlying34 rfl (by kernel_rfl)) rfl ?_
   exact ⟨by first | rfl | (simp [errW_none, errW_some] <;> rfl) | (simp [*, errW_none, errW_some] <;> rfl), zHI0, zHB, zHK⟩
end Go.Proofs.Ytnakanjhdcakhaa.Q
namespace Go.Proofs.Ytnakanjhdcakhaa.Q
open Go.RowKit Go.Proofs.YtnakanjhdcakhaaW.PrintWords Go.Proofs.YtnakanjhdcakhaaW.PrintLast Go.Proofs.YtnakanjhdcakhaaW.PrintMore
attribute [local go_sem] max2_int min2_int max_two min_two max_three min_three max_four min_four   -- for this text's walks alone
set_option linter.unusedVariables false
set_option linter.unusedSimpArgs false
def spec_DrawAclSays.f (k : Nat) (l0 : List Int) : Option ((List (S54)) × Int × Int × Int) := (spec_l1Open.f l0).bind fun bt102 => ((spec_l5AnyRules.f k bt102.1 bt102.2).bind fun bt105 => ((spec_l5Packet.f k bt102.1 bt105.2 bt105.1).bind fun bt109 => (some (bt105.1, bt109.1, bt109.2.1, bt109.2.2.1))))
set_option maxHeartbeats 8000000 in
set_option maxRecDepth 100000 in
theorem spec_DrawAclSays.calls (k : Nat) (A0 : Option Addr) (c0 : Nat) (l0 : List Int) (r1 : List (S54)) (r2 : Int) (r3 : Int) (r4 : Int) (w : World) (hr0 : Kd.C (Kd.int .u8) w A0 l0.length l0) (hc0 : l0.length ≤ c0) (h : spec_DrawAclSays.f k l0 = some (r1, r2, r3, r4)) :
    Calls Try.prog 30 #[.slice A0 l0.length c0] w fun e w' => ∃ v0_ : Value, e = .returned (.tuple #[v0_, .agg #[.int .i64 r2, .int .i64 r3, .int .i64 r4]]) ∧ Kd.R k54 54 w' w.heap.size (fun _ => True) v0_ r1 ∧ Below w.heap.size w w' := by
  have hu34 := Try.underlying34
  have HR0 := Aside0.mk hr0
  have HC0 := Aside0.mk hc0
  clear hr0 hc0
  have HB := Aside0.mk (Below.refl w.heap.size w)
  have H : ((spec_l1Open.f l0).bind fun bt102 => ((spec_l5AnyRules.f k bt102.1 bt102.2).bind fun bt105 => ((spec_l5Packet.f k bt102.1 bt105.2 bt105.1).bind fun bt109 => (some (bt105.1, bt109.1, bt109.2.1, bt109.2.2.1))))) = some (r1, r2, r3, r4) := h
  clear h
  replace H := Option.bind_eq_some_iff.mp H
  obtain ⟨⟨t102, t103⟩, A20, H⟩ := H
  replace H : ((spec_l5AnyRules.f k t102 t103).bind fun bt105 => ((spec_l5Packet.f k t102 bt105.2 bt105.1).bind fun bt109 => (some (bt105.1, bt109.1, bt109.2.1, bt109.2.2.1)))) = some (r1, r2, r3, r4) := H
  have A2 := Aside0.mk A20
  clear A20
  replace H := Option.bind_eq_some_iff.mp H
  obtain ⟨⟨t105, t108⟩, A30, H⟩ := H
  replace H : ((spec_l5Packet.f k t102 t108 t105).bind fun bt109 => (some (t105, bt109.1, bt109.2.1, bt109.2.2.1))) = some (r1, r2, r3, r4) := H
  have A3 := Aside0.mk A30
  clear A30
  replace H := Option.bind_eq_some_iff.mp H
  obtain ⟨⟨t109, t110, t111, t112⟩, A40, H⟩ := H
  replace H : (some (t105, t109, t110, t111)) = some (r1, r2, r3, r4) := H
  have A4 := Aside0.mk A40
  clear A40
  simp only [Option.some.injEq, Prod.mk.injEq] at H
  obtain ⟨rfl, rfl, rfl, rfl⟩ := H
  go_enter Try.func30, Try.ntmps30
  go_wp2_with (first | ((with_reducible refine gate_dst (N := 3) rfl ?_); refine box_event ?hg (N := 3) ?hd (cs := #[.int .i64 0, .int .i64 0, .int .i64 0]) (t := 34) ?hr ?_; (case hd => rfl); (case hg => rfl); (case hr => first | (go_simp; done) | (go_simp; rfl)); intro gb101 hg w5 hbox hb; have n0_ := Aside0.mk (below_step (by repeat (first | (with_reducible first | exact HB.out | apply below_alloc | apply pw_below_drewN | apply below_drew1) | exact HB.out)) hb); have n1_ := Aside0.mk (hbox); have n2_ := Aside0.mk ((by rw [hg]; exact (below_size (by repeat (first | (with_reducible first | exact HB.out | apply below_alloc | apply pw_below_drewN | apply below_drew1) | exact HB.out))) : w.heap.size ≤ gb101)); have n3_ := Aside0.mk ((by rw [hg]; exact (below_size (by repeat (first | (with_reducible first | exact HB.out | apply below_alloc | apply pw_below_drewN | apply below_drew1) | exact HB.out))) : w.heap.size ≤ gb101)); clear HB; have HB := n0_; have BK101 := n1_; have GW101 := n2_; have GE101 := n3_; clear n0_ n1_ n2_ n3_; clear hb hbox hg) | ((with_reducible refine gate_callee (f := 79) rfl ?_); refine goesL_ (some 7) rfl rfl Try.func79 (by kernel_rfl) rfl #[.slice A0 l0.length c0] rfl (by (try simp only [List.map_toArray, List.map_cons, List.map_nil]); first | done | rfl | (simp only [List.length_drop, List.length_take]; rfl)) ?_; (with_reducible refine (spec_l1Open.calls _ _ l0 t102 t103 w _ ?side1 ?side2 ?side3 A2.out).mono ?_); (case side1 => repeat (first | (with_reducible first | exact HB.out | apply below_alloc | apply pw_below_drewN | apply below_drew1 | refine below_set ?_ GE101.out) | exact HB.out)); (case side2 => exact HR0.out); (case side3 => exact HC0.out); rintro e w6 ⟨g104, rfl, hi, hb, hb2⟩; refine ⟨_, rfl, ?_⟩; have n0_ := Aside0.mk (blk_below (g := gb101) (o := .cells #[.int .i64 0, .int .i64 0, .int .i64 0] 34 (0, 0)) (by (with_reducible repeat (first | refine blk_drewN ?_ _ | refine blk_drew ?_ | refine blk_alloc ?_ _)); exact BK101.out) hb2); have n1_ := Aside0.mk (hb); have n2_ := Aside0.mk (hi); have n3_ := Aside0.mk (IsS117.ne_blk hi (blk_below (g := gb101) (o := .cells #[.int .i64 0, .int .i64 0, .int .i64 0] 34 (0, 0)) (by (with_reducible repeat (first | refine blk_drewN ?_ _ | refine blk_drew ?_ | refine blk_alloc ?_ _)); exact BK101.out) hb2) (by decide)); have n4_ := Aside0.mk (Ne.symm (IsS117.ne_blk hi (blk_below (g := gb101) (o := .cells #[.int .i64 0, .int .i64 0, .int .i64 0] 34 (0, 0)) (by (with_reducible repeat (first | refine blk_drewN ?_ _ | refine blk_drew ?_ | refine blk_alloc ?_ _)); exact BK101.out) hb2) (by decide))); clear BK101; clear HB; have BK101 := n0_; have HB := n1_; have HI104 := n2_; have NB104_101 := n3_; have NB101_104 := n4_; clear n0_ n1_ n2_ n3_ n4_; (try clear hb); (try clear hb2); (try clear hk); (try clear hi)) | ((with_reducible refine gate_callee (f := 80) rfl ?_); refine goesL_ (some 9) rfl rfl Try.func80 (by kernel_rfl) rfl #[.pointer (some ⟨g104, 0, none⟩)] rfl (by (try simp only [List.map_toArray, List.map_cons, List.map_nil]); first | done | rfl | (simp only [List.length_drop, List.length_take]; rfl)) ?_; (with_reducible refine (spec_l5AnyRules.calls k g104 t102 t103 t105 t108 w _ ?side1 ?side2 A3.out).mono ?_); (case side1 => repeat (first | (with_reducible first | exact HI104.out | apply IsS117.alloc | apply IsS117.drewN | apply IsS117.drew | apply IsS117.set_1 | refine IsS117.far ?_ NB104_101.out _) | exact HI104.out)); (case side2 => repeat (first | (with_reducible first | exact HB.out | apply below_alloc | apply pw_below_drewN | apply below_drew1 | refine below_set ?_ (IsS117.ge HI104.out) | refine below_set ?_ GE101.out) | exact HB.out)); rintro e w7 ⟨v106, rfl, ho0, hi, hb, hk⟩; refine ⟨_, rfl, ?_⟩; have n0_ := Aside0.mk (KeepBut.blk hk (g' := gb101) (o := .cells #[.int .i64 0, .int .i64 0, .int .i64 0] 34 (0, 0)) (by (with_reducible repeat (first | refine blk_drewN ?_ _ | refine blk_drew ?_ | refine blk_alloc ?_ _)); exact BK101.out) NB101_104.out (by simp)); have n1_ := Aside0.mk (Kd.R_lower ho0 (below_size (by repeat (first | (with_reducible first | exact HB.out | apply below_alloc | apply pw_below_drewN | apply below_drew1 | refine below_set ?_ (IsS117.ge HI104.out) | refine below_set ?_ GE101.out) | exact HB.out)))); have n2_ := Aside0.mk (hb); have n3_ := Aside0.mk (hi); clear BK101; clear HB; clear HI104; have BK101 := n0_; have HO107 := n1_; have HB := n2_; have HI104 := n3_; clear n0_ n1_ n2_ n3_; (try clear hb); (try clear hb2); (try clear hk); (try clear hi); (try clear ho0); obtain ⟨Ao8, co8, eo8⟩ := Kd.R_slice HO107.out; subst eo8) | ((with_reducible refine gate_callee (f := 87) rfl ?_); refine goesL_ (some 13) rfl rfl Try.func87 (by kernel_rfl) rfl #[.pointer (some ⟨g104, 0, none⟩), .slice Ao8 t105.length co8] rfl (by (try simp only [List.map_toArray, List.map_cons, List.map_nil]); first | done | rfl | (simp only [List.length_drop, List.length_take]; rfl)) ?_; (with_reducible refine (spec_l5Packet.calls k g104 t102 t108 _ _ t105 t109 t110 t111 t112 w _ ?side1 ?side2 ?side3 ?side4 A4.out).mono ?_); (case side1 => repeat (first | (with_reducible first | exact HI104.out | apply IsS117.alloc | apply IsS117.drewN | apply IsS117.drew | apply IsS117.set_1 | refine IsS117.far ?_ NB104_101.out _) | exact HI104.out)); (case side2 => repeat (first | (with_reducible first | exact HB.out | apply below_alloc | apply pw_below_drewN | apply below_drew1 | refine below_set ?_ (IsS117.ge HI104.out) | refine below_set ?_ GE101.out) | exact HB.out)); (case side3 => exact Kd.C_foot_own (IsS117.apart (show IsS117 w _ g104 t102 t108 from by repeat (first | (with_reducible first | exact HI104.out | apply IsS117.alloc | apply IsS117.drewN | apply IsS117.drew | apply IsS117.set_1 | refine IsS117.far ?_ NB104_101.out _) | exact HI104.out)) (by (with_reducible repeat (first | apply Kd.R_alloc | apply Kd.R_drewN | apply Kd.R_drew)); exact HO107.out) (by decide)) (fun _ h_ => h_.2)); (case side4 => exact (Kd.R_reads' HO107.out).2.1); rintro e w9 ⟨rfl, hi, hb, hk⟩; refine ⟨_, rfl, ?_⟩; have n0_ := Aside0.mk (KeepBut.blk hk (g' := gb101) (o := .cells #[.int .i64 0, .int .i64 0, .int .i64 0] 34 (0, 0)) (by (with_reducible repeat (first | refine blk_drewN ?_ _ | refine blk_drew ?_ | refine blk_alloc ?_ _)); exact BK101.out) NB101_104.out (by simp)); have n1_ := Aside0.mk (Kd.R_mono (Kd.R_keep (IsS117.apart (show IsS117 w _ g104 t102 t108 from by repeat (first | (with_reducible first | exact HI104.out | apply IsS117.alloc | apply IsS117.drewN | apply IsS117.drew | apply IsS117.set_1 | refine IsS117.far ?_ NB104_101.out _) | exact HI104.out)) (by (with_reducible repeat (first | apply Kd.R_alloc | apply Kd.R_drewN | apply Kd.R_drew)); exact HO107.out) (by decide)) hk (fun _ h => h.2)) (fun _ h => h.1)); have n2_ := Aside0.mk (hb); have n3_ := Aside0.mk (hi); clear BK101; clear HO107; clear HB; clear HI104; have BK101 := n0_; have HO107 := n1_; have HB := n2_; have HI104 := n3_; clear n0_ n1_ n2_ n3_; (try clear hb); (try clear hb2); (try clear hk); (try clear hi); have hnb10 := NB101_104.out; have hnc10 := NB104_101.out; have hcz11_0 : w9.cell? ⟨gb101, 0, none⟩ = some (.int .i64 0) := (blk_cell BK101.out 0).trans rfl; have hcz11_1 : w9.cell? ⟨gb101, 1, none⟩ = some (.int .i64 0) := (blk_cell BK101.out 1).trans rfl; have hcz11_2 : w9.cell? ⟨gb101, 2, none⟩ = some (.int .i64 0) := (blk_cell BK101.out 2).trans rfl; have hfz11_0 := blk_frozen BK101.out 0; have hfz11_1 := blk_frozen BK101.out 1; have hfz11_2 := blk_frozen BK101.out 2))
  refine bodyPost_ret (results_tc rfl _ _ gb101 34 #[.int .i64 t109, .int .i64 t110, .int .i64 t111] (0, 0) _ rfl (by (with_reducible repeat (first | refine blk_drewN ?_ _ | refine blk_drew ?_ | refine blk_alloc ?_ _)); refine blk_put (cs := #[.int .i64 t109, .int .i64 t110, .int .i64 0]) ?_ 2 _ rfl; (with_reducible repeat (first | refine blk_drewN ?_ _ | refine blk_drew ?_ | refine blk_alloc ?_ _)); refine blk_put (cs := #[.int .i64 t109, .int .i64 0, .int .i64 0]) ?_ 1 _ rfl; (with_reducible repeat (first | refine blk_drewN ?_ _ | refine blk_drew ?_ | refine blk_alloc ?_ _)); refine blk_put (cs := #[.int .i64 0, .int .i64 0, .int .i64 0]) ?_ 0 _ rfl; (with_reducible repeat (first | refine blk_drewN ?_ _ | refine blk_drew ?_ | refine blk_alloc ?_ _)); exact BK101.out) Try.underlying34 rfl (by kernel_rfl)) rfl ?_
  exact ⟨_, by first | rfl | (simp [errW_none, errW_some] <;> rfl) | (simp [*, errW_none, errW_some] <;> rfl), by (with_reducible repeat (first | apply Kd.R_alloc | apply Kd.R_drewN | apply Kd.R_drew)); exact Kd.R_mono (Kd.R_far (p := ⟨gb101, 2, none⟩) (Kd.R_far (p := ⟨gb101, 1, none⟩) (Kd.R_far (p := ⟨gb101, 0, none⟩) (Kd.R_types HO107.out BK101.out (by decide)) (fun _ hk => hk.2) (.int .i64 t109)) (fun _ hk => hk.2) (.int .i64 t110)) (fun _ hk => hk.2) (.int .i64 t111)) (fun _ hk => trivial), by repeat (first | (with_reducible first | exact HB.out | apply below_alloc | apply pw_below_drewN | apply below_drew1 | refine below_set ?_ (IsS117.ge HI104.out) | refine below_set ?_ GE101.out) | exact HB.out)⟩
end Go.Proofs.Ytnakanjhdcakhaa.Q
