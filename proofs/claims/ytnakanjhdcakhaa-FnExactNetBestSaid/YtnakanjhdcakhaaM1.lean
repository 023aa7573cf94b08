/- Prefixes, in plain Lean: how many addresses a length has, what is ok, what has an address, what lies within; and that the program's and the reference's functions say just this. Lemmas alone. -/
import Derived.Test.YtnakanjhdcakhaaQF34
import Derived.Test.YtnakanjhdcakhaaQF36
import Derived.Test.YtnakanjhdcakhaaQF38
import Derived.Test.YtnakanjhdcakhaaQF33
import Derived.Test.YtnakanjhdcakhaaQF35
import Derived.Test.YtnakanjhdcakhaaQF37
namespace Go.Proofs.Ytnakanjhdcakhaa.Pure
open Go.RowKit Go.Proofs.YtnakanjhdcakhaaW.PrintWords Go.Proofs.YtnakanjhdcakhaaW.PrintMore
open Q
/-- How many addresses a prefix of a length has. -/
def sz (n : Int) : Int := 2 ^ (16 - n).toNat
def okB (a n : Int) : Bool := decide (0 ≤ n ∧ n ≤ 16 ∧ 0 ≤ a ∧ a ≤ 65535 ∧ a % sz n = 0)
def hasB (a n x : Int) : Bool := decide (a ≤ x ∧ x < a + sz n)
def insB (a n b m : Int) : Bool := decide (m ≤ n) && hasB b m a
theorem okB_iff {a n : Int} : okB a n = true ↔ 0 ≤ n ∧ n ≤ 16 ∧ 0 ≤ a ∧ a ≤ 65535 ∧ a % sz n = 0 := by unfold okB; simp
theorem hasB_iff {a n x : Int} : hasB a n x = true ↔ a ≤ x ∧ x < a + sz n := by unfold hasB; simp
theorem insB_iff {a n b m : Int} : insB a n b m = true ↔ m ≤ n ∧ b ≤ a ∧ a < b + sz m := by unfold insB; simp [hasB_iff]
theorem len_cases {n : Int} (h0 : 0 ≤ n) (h1 : n ≤ 16) : n = 0 ∨ n = 1 ∨ n = 2 ∨ n = 3 ∨ n = 4 ∨ n = 5 ∨ n = 6 ∨ n = 7 ∨ n = 8 ∨ n = 9 ∨ n = 10 ∨ n = 11 ∨ n = 12 ∨ n = 13 ∨ n = 14 ∨ n = 15 ∨ n = 16 := by omega
theorem sz_pos (n : Int) : 1 ≤ sz n := by
  unfold sz
  have : (0 : Int) < 2 ^ (16 - n).toNat := Int.pow_pos (by decide)
  omega
theorem sz_le {n : Int} (h0 : 0 ≤ n) : sz n ≤ 65536 := by
  by_cases h : n ≤ 16
  · rcases len_cases h0 h with rfl | rfl | rfl | rfl | rfl | rfl | rfl | rfl | rfl | rfl | rfl | rfl | rfl | rfl | rfl | rfl | rfl <;> decide
  · unfold sz
    rw [show (16 - n).toNat = 0 by omega]
    decide
theorem sz_half {n : Int} (h1 : n < 16) : sz n = 2 * sz (n + 1) := by
  unfold sz
  rw [show (16 - n).toNat = (16 - (n + 1)).toNat + 1 by omega, Int.pow_succ]
  omega
theorem sz16 : sz 16 = 1 := by decide
theorem sz0 : sz 0 = 65536 := by decide
theorem sz_dvd {m n : Int} (h : m ≤ n) : sz n ∣ sz m := by
  unfold sz
  obtain ⟨d, hd⟩ : ∃ d, (16 - m).toNat = (16 - n).toNat + d := ⟨(16 - m).toNat - (16 - n).toNat, by omega⟩
  rw [hd, Int.pow_add]
  exact Int.dvd_mul_right _ _
theorem size_i (a : Int) {n : Int} (h0 : 0 ≤ n) (h1 : n ≤ 16) : impl_size.f a n = some (sz n) := by
  unfold impl_size.f
  rcases len_cases h0 h1 with rfl | rfl | rfl | rfl | rfl | rfl | rfl | rfl | rfl | rfl | rfl | rfl | rfl | rfl | rfl | rfl | rfl <;> decide +kernel
theorem size_s {k : Nat} {n : Int} (h0 : 0 ≤ n) (h1 : n ≤ 16) (hk : 20 ≤ k) : spec_l1Size.f k n = some (sz n) := by
  refine at_rounds (k := 20) (fun k => spec_l1Size.mono n k) hk ?_
  rcases len_cases h0 h1 with rfl | rfl | rfl | rfl | rfl | rfl | rfl | rfl | rfl | rfl | rfl | rfl | rfl | rfl | rfl | rfl | rfl <;> decide +kernel
theorem wrap_in {x : Int} (h0 : -9223372036854775808 ≤ x) (h1 : x ≤ 9223372036854775807) : wrap64 x = x := by unfold wrap64; omega
theorem ok_i (a n : Int) : impl_NetOk.f a n = some (okB a n) := by
  unfold impl_NetOk.f impl_isAddr.f okB
  by_cases h0 : n ≥ 0
  · by_cases h1 : n ≤ 16
    · by_cases h2 : a ≥ 0
      · by_cases h3 : a ≤ 65535
        · have hp := sz_pos n
          have hm : a.tmod (sz n) = a % sz n := Int.tmod_eq_emod_of_nonneg h2
          rw [if_pos h0, if_pos h1, if_pos h2]
          simp only [h3, decide_true, Option.bind_some, if_true, size_i a h0 h1, if_neg (show ¬ sz n = 0 by omega), hm]
          simp [h0, h1, h2]
          rfl
        · rw [if_pos h0, if_pos h1, if_pos h2]
          simp [h3]
      · rw [if_pos h0, if_pos h1, if_neg h2]
        simp [show ¬ 0 ≤ a by omega]
    · rw [if_pos h0, if_neg h1]
      simp [h1]
  · rw [if_neg h0]
    simp [show ¬ 0 ≤ n by omega]
theorem ok_s {k : Nat} (hk : 20 ≤ k) (a n : Int) : spec_NetOk.f k a n = some (okB a n) := by
  unfold spec_NetOk.f spec_l1In.f okB
  by_cases h0 : n ≥ 0
  · by_cases h1 : n ≤ 16
    · by_cases h2 : a ≥ 0
      · by_cases h3 : a ≤ 65535
        · have hp := sz_pos n
          have hm : a.tmod (sz n) = a % sz n := Int.tmod_eq_emod_of_nonneg h2
          rw [if_pos h0, if_pos h2]
          simp only [h1, h3, decide_true, Option.bind_some, if_true, size_s h0 h1 hk, if_neg (show ¬ sz n = 0 by omega), hm]
          simp [h0, h2]
          rfl
        · rw [if_pos h0, if_pos h2]
          simp [h1, h3]
      · rw [if_pos h0, if_neg h2]
        simp [h1, show ¬ 0 ≤ a by omega]
    · rw [if_pos h0]
      simp [h1]
  · rw [if_neg h0]
    simp [show ¬ 0 ≤ n by omega]
theorem has_i {a n : Int} (x : Int) (h : okB a n = true) : impl_has.f a n x = some (hasB a n x) := by
  obtain ⟨h0, h1, h2, h3, _⟩ := okB_iff.1 h
  have hp := sz_pos n
  have hl := sz_le h0
  unfold impl_has.f hasB
  by_cases hx : x ≥ a
  · rw [if_pos hx, size_i a h0 h1]
    simp only [Option.bind_some]
    rw [wrap_in (by omega) (by omega)]
    simp [hx]
  · rw [if_neg hx]
    simp [show ¬ a ≤ x by omega]
theorem has_s {k : Nat} (hk : 20 ≤ k) {a n : Int} (x : Int) (h : okB a n = true) : spec_l1Has.f k a n x = some (hasB a n x) := by
  obtain ⟨h0, h1, h2, h3, _⟩ := okB_iff.1 h
  have hp := sz_pos n
  have hl := sz_le h0
  unfold spec_l1Has.f hasB
  by_cases hx : x ≥ a
  · rw [if_pos hx, size_s h0 h1 hk]
    simp only [Option.bind_some]
    rw [wrap_in (by omega) (by omega)]
    simp [hx]
  · rw [if_neg hx]
    simp [show ¬ a ≤ x by omega]
theorem nethas_i (a n x : Int) : impl_NetHas.f a n x = some (okB a n && hasB a n x) := by
  unfold impl_NetHas.f
  rw [ok_i]
  cases h : okB a n with
  | false => rfl
  | true => simp only [Option.bind_some, if_true, has_i x h, Bool.true_and]
theorem nethas_s {k : Nat} (hk : 20 ≤ k) (a n x : Int) : spec_NetHas.f k a n x = some (okB a n && hasB a n x) := by
  unfold spec_NetHas.f
  rw [ok_s hk]
  cases h : okB a n with
  | false => rfl
  | true => simp only [Option.bind_some, if_true, has_s hk x h, Bool.true_and]
theorem ins_i {b m : Int} (a n : Int) (h : okB b m = true) : impl_inside.f a n b m = some (insB a n b m) := by
  unfold impl_inside.f insB
  by_cases hx : n ≥ m
  · rw [if_pos hx, has_i a h]
    simp [show m ≤ n from hx]
  · rw [if_neg hx]
    simp [show ¬ m ≤ n by omega]
theorem ins_s {k : Nat} (hk : 20 ≤ k) {b m : Int} (a n : Int) (h : okB b m = true) : spec_l1Within.f k a n b m = some (insB a n b m) := by
  unfold spec_l1Within.f insB
  by_cases hx : n ≥ m
  · rw [if_pos hx, has_s hk a h]
    simp [show m ≤ n from hx]
  · rw [if_neg hx]
    simp [show ¬ m ≤ n by omega]
theorem netin_i (a n b m : Int) : impl_NetIn.f a n b m = some (okB a n && (okB b m && insB a n b m)) := by
  unfold impl_NetIn.f
  rw [ok_i]
  cases h : okB a n with
  | false => rfl
  | true =>
    simp only [Option.bind_some, if_true, ok_i]
    cases h' : okB b m with
    | false => rfl
    | true => simp only [if_true, ins_i a n h', Option.bind_some, Bool.true_and]
theorem netin_s {k : Nat} (hk : 20 ≤ k) (a n b m : Int) : spec_NetIn.f k a n b m = some (okB a n && (okB b m && insB a n b m)) := by
  unfold spec_NetIn.f
  rw [ok_s hk]
  cases h : okB a n with
  | false => rfl
  | true =>
    simp only [Option.bind_some, if_true, ok_s hk]
    cases h' : okB b m with
    | false => rfl
    | true => simp only [if_true, ins_s hk a n h', Option.bind_some, Bool.true_and]
/-- The halves, as five parts of an answer. -/
def halvesB (a n : Int) : Int × Int × Int × Int × Bool := if okB a n = true ∧ n ≠ 16 then (a, n + 1, a + sz (n + 1), n + 1, true) else (0, 0, 0, 0, false)
theorem halves_i (a n : Int) : impl_NetHalves.f a n = some (halvesB a n) := by
  unfold impl_NetHalves.f halvesB
  rw [ok_i]
  cases h : okB a n with
  | false => rfl
  | true =>
    obtain ⟨h0, h1, h2, h3, _⟩ := okB_iff.1 h
    by_cases h16 : n = 16
    · simp [h16]
    · have hh := sz_half (n := n) (by omega)
      have hp := sz_pos (n + 1)
      have hl := sz_le h0
      have ht : (sz n).tdiv 2 = sz (n + 1) := by rw [Int.tdiv_eq_ediv_of_nonneg (by omega), hh]; omega
      simp only [Option.bind_some, if_true, if_neg h16, size_i a h0 h1, ht]
      rw [wrap_in (x := n + 1) (by omega) (by omega), wrap_in (x := sz (n + 1)) (by omega) (by omega), wrap_in (by omega) (by omega)]
      simp [h16]
theorem l1halves_s {k : Nat} (hk : 20 ≤ k) {a n : Int} (h0 : 0 ≤ n) (h1 : n < 16) (h2 : 0 ≤ a) (h3 : a ≤ 65535) : spec_l1Halves.f k a n = some (a, n + 1, a + sz (n + 1), n + 1) := by
  have hp := sz_pos (n + 1)
  have hl := sz_le (n := n + 1) (by omega)
  unfold spec_l1Halves.f
  rw [wrap_in (x := n + 1) (by omega) (by omega), size_s (by omega) (by omega) hk]
  simp only [Option.bind_some]
  rw [wrap_in (by omega) (by omega)]
theorem halves_s {k : Nat} (hk : 20 ≤ k) (a n : Int) : spec_NetHalves.f k a n = some (halvesB a n) := by
  unfold spec_NetHalves.f halvesB
  rw [ok_s hk]
  cases h : okB a n with
  | false => rfl
  | true =>
    obtain ⟨h0, h1, h2, h3, _⟩ := okB_iff.1 h
    by_cases h16 : n = 16
    · simp [h16]
    · simp only [Option.bind_some, if_true, if_neg h16, l1halves_s hk h0 (by omega) h2 h3]
      simp [h16]
end Go.Proofs.Ytnakanjhdcakhaa.Pure
