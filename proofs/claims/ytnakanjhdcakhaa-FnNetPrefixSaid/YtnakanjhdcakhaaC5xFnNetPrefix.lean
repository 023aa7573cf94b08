/- Lemmas for FnNetPrefix, part 5 of 5: the program's functions as Lean functions, what each Go function comes to, and plain lemmas on them. No statement of its own. -/
import Derived.Test.YtnakanjhdcakhaaC1xFnNetPrefix
import Derived.Test.YtnakanjhdcakhaaC2xFnNetPrefix
import Derived.Test.YtnakanjhdcakhaaC3xFnNetPrefix
import Derived.Test.YtnakanjhdcakhaaC4xFnNetPrefix
namespace Go.Proofs.Ytnakanjhdcakhaa.Pure
open Go.RowKit Go.Proofs.YtnakanjhdcakhaaW.PrintWords Go.Proofs.YtnakanjhdcakhaaW.PrintMore
open Q
/-- How many addresses a prefix of a length has. -/
def sz (n : Int) : Int := 2 ^ (16 - n).toNat
def okB (a n : Int) : Bool := decide (0 ≤ n ∧ n ≤ 16 ∧ 0 ≤ a ∧ a ≤ 65535 ∧ a % sz n = 0)
def hasB (a n x : Int) : Bool := decide (a ≤ x ∧ x < a + sz n)
def insB (a n b m : Int) : Bool := decide (m ≤ n) && hasB b m a
theorem okB_iff {a n : Int} : okB a n = true ↔ 0 ≤ n ∧ n ≤ 16 ∧ 0 ≤ a ∧ a ≤ 65535 ∧ a % sz n = 0 := by unfold okB; simp
theorem hasB_iff {a n x : Int} : hasB a n x = true ↔ a ≤ x ∧ x < a + sz n := by unfold hasB; simp
theorem insB_iff {a n b m : Int} : insB a n b m = true ↔ m ≤ n ∧ b ≤ a ∧ a < b + sz m := by unfold insB; simp [hasB_iff]
theorem len_cases {n : Int} (h0 : 0 ≤ n) (h1 : n ≤ 16) : n = 0 ∨ n = 1 ∨ n = 2 ∨ n = 3 ∨ n = 4 ∨ n = 5 ∨ n = 6 ∨ n = 7 ∨ n = 8 ∨ n = 9 ∨ n = 10 ∨ n = 11 ∨ n = 12 ∨ n = 13 ∨ n = 14 ∨ n = 15 ∨ n = 16 := by omega
theorem sz_pos (n : Int) : 1 ≤ sz n := by
  unfold sz
  have : (0 : Int) < 2 ^ (16 - n).toNat := Int.pow_pos (by decide)
  omega
theorem sz_le {n : Int} (h0 : 0 ≤ n) : sz n ≤ 65536 := by
  by_cases h : n ≤ 16
  · rcases len_cases h0 h with rfl | rfl | rfl | rfl | rfl | rfl | rfl | rfl | rfl | rfl | rfl | rfl | rfl | rfl | rfl | rfl | rfl <;> decide
  · unfold sz
    rw [show (16 - n).toNat = 0 by omega]
    decide
theorem sz_half {n : Int} (h1 : n < 16) : sz n = 2 * sz (n + 1) := by
  unfold sz
  rw [show (16 - n).toNat = (16 - (n + 1)).toNat + 1 by omega, Int.pow_succ]
  omega
theorem sz0 : sz 0 = 65536 := by decide
theorem sz_dvd {m n : Int} (h : m ≤ n) : sz n ∣ sz m := by
  unfold sz
  obtain ⟨d, hd⟩ : ∃ d, (16 - m).toNat = (16 - n).toNat + d := ⟨(16 - m).toNat - (16 - n).toNat, by omega⟩
  rw [hd, Int.pow_add]
  exact Int.dvd_mul_right _ _
theorem size_i (a : Int) {n : Int} (h0 : 0 ≤ n) (h1 : n ≤ 16) : impl_size.f a n = some (sz n) := by
  unfold impl_size.f
  rcases len_cases h0 h1 with rfl | rfl | rfl | rfl | rfl | rfl | rfl | rfl | rfl | rfl | rfl | rfl | rfl | rfl | rfl | rfl | rfl <;> decide +kernel
theorem size_s {k : Nat} {n : Int} (h0 : 0 ≤ n) (h1 : n ≤ 16) (hk : 20 ≤ k) : spec_l1Size.f k n = some (sz n) := by
  refine at_rounds (k := 20) (fun k => spec_l1Size.mono n k) hk ?_
  rcases len_cases h0 h1 with rfl | rfl | rfl | rfl | rfl | rfl | rfl | rfl | rfl | rfl | rfl | rfl | rfl | rfl | rfl | rfl | rfl <;> decide +kernel
theorem wrap_in {x : Int} (h0 : -9223372036854775808 ≤ x) (h1 : x ≤ 9223372036854775807) : wrap64 x = x := by unfold wrap64; omega
theorem ok_i (a n : Int) : impl_NetOk.f a n = some (okB a n) := by
  unfold impl_NetOk.f impl_isAddr.f okB
  by_cases h0 : n ≥ 0
  · by_cases h1 : n ≤ 16
    · by_cases h2 : a ≥ 0
      · by_cases h3 : a ≤ 65535
        · have hp := sz_pos n
          have hm : a.tmod (sz n) = a % sz n := Int.tmod_eq_emod_of_nonneg h2
          rw [if_pos h0, if_pos h1, if_pos h2]
          simp only [h3, decide_true, Option.bind_some, if_true, size_i a h0 h1, if_neg (show ¬ sz n = 0 by omega), hm]
          simp [h0, h1, h2]
          rfl
        · rw [if_pos h0, if_pos h1, if_pos h2]
          simp [h3]
      · rw [if_pos h0, if_pos h1, if_neg h2]
        simp [show ¬ 0 ≤ a by omega]
    · rw [if_pos h0, if_neg h1]
      simp [h1]
  · rw [if_neg h0]
    simp [show ¬ 0 ≤ n by omega]
theorem ok_s {k : Nat} (hk : 20 ≤ k) (a n : Int) : spec_NetOk.f k a n = some (okB a n) := by
  unfold spec_NetOk.f spec_l1In.f okB
  by_cases h0 : n ≥ 0
  · by_cases h1 : n ≤ 16
    · by_cases h2 : a ≥ 0
      · by_cases h3 : a ≤ 65535
        · have hp := sz_pos n
          have hm : a.tmod (sz n) = a % sz n := Int.tmod_eq_emod_of_nonneg h2
          rw [if_pos h0, if_pos h2]
          simp only [h1, h3, decide_true, Option.bind_some, if_true, size_s h0 h1 hk, if_neg (show ¬ sz n = 0 by omega), hm]
          simp [h0, h2]
          rfl
        · rw [if_pos h0, if_pos h2]
          simp [h1, h3]
      · rw [if_pos h0, if_neg h2]
        simp [h1, show ¬ 0 ≤ a by omega]
    · rw [if_pos h0]
      simp [h1]
  · rw [if_neg h0]
    simp [show ¬ 0 ≤ n by omega]
theorem has_i {a n : Int} (x : Int) (h : okB a n = true) : impl_has.f a n x = some (hasB a n x) := by
  obtain ⟨h0, h1, h2, h3, _⟩ := okB_iff.1 h
  have hp := sz_pos n
  have hl := sz_le h0
  unfold impl_has.f hasB
  by_cases hx : x ≥ a
  · rw [if_pos hx, size_i a h0 h1]
    simp only [Option.bind_some]
    rw [wrap_in (by omega) (by omega)]
    simp [hx]
  · rw [if_neg hx]
    simp [show ¬ a ≤ x by omega]
theorem has_s {k : Nat} (hk : 20 ≤ k) {a n : Int} (x : Int) (h : okB a n = true) : spec_l1Has.f k a n x = some (hasB a n x) := by
  obtain ⟨h0, h1, h2, h3, _⟩ := okB_iff.1 h
  have hp := sz_pos n
  have hl := sz_le h0
  unfold spec_l1Has.f hasB
  by_cases hx : x ≥ a
  · rw [if_pos hx, size_s h0 h1 hk]
    simp only [Option.bind_some]
    rw [wrap_in (by omega) (by omega)]
    simp [hx]
  · rw [if_neg hx]
    simp [show ¬ a ≤ x by omega]
theorem nethas_i (a n x : Int) : impl_NetHas.f a n x = some (okB a n && hasB a n x) := by
  unfold impl_NetHas.f
  rw [ok_i]
  cases h : okB a n with
  | false => rfl
  | true => simp only [Option.bind_some, if_true, has_i x h, Bool.true_and]
theorem nethas_s {k : Nat} (hk : 20 ≤ k) (a n x : Int) : spec_NetHas.f k a n x = some (okB a n && hasB a n x) := by
  unfold spec_NetHas.f
  rw [ok_s hk]
  cases h : okB a n with
  | false => rfl
  | true => simp only [Option.bind_some, if_true, has_s hk x h, Bool.true_and]
theorem ins_i {b m : Int} (a n : Int) (h : okB b m = true) : impl_inside.f a n b m = some (insB a n b m) := by
  unfold impl_inside.f insB
  by_cases hx : n ≥ m
  · rw [if_pos hx, has_i a h]
    simp [show m ≤ n from hx]
  · rw [if_neg hx]
    simp [show ¬ m ≤ n by omega]
theorem ins_s {k : Nat} (hk : 20 ≤ k) {b m : Int} (a n : Int) (h : okB b m = true) : spec_l1Within.f k a n b m = some (insB a n b m) := by
  unfold spec_l1Within.f insB
  by_cases hx : n ≥ m
  · rw [if_pos hx, has_s hk a h]
    simp [show m ≤ n from hx]
  · rw [if_neg hx]
    simp [show ¬ m ≤ n by omega]
theorem netin_i (a n b m : Int) : impl_NetIn.f a n b m = some (okB a n && (okB b m && insB a n b m)) := by
  unfold impl_NetIn.f
  rw [ok_i]
  cases h : okB a n with
  | false => rfl
  | true =>
    simp only [Option.bind_some, if_true, ok_i]
    cases h' : okB b m with
    | false => rfl
    | true => simp only [if_true, ins_i a n h', Option.bind_some, Bool.true_and]
theorem netin_s {k : Nat} (hk : 20 ≤ k) (a n b m : Int) : spec_NetIn.f k a n b m = some (okB a n && (okB b m && insB a n b m)) := by
  unfold spec_NetIn.f
  rw [ok_s hk]
  cases h : okB a n with
  | false => rfl
  | true =>
    simp only [Option.bind_some, if_true, ok_s hk]
    cases h' : okB b m with
    | false => rfl
    | true => simp only [if_true, ins_s hk a n h', Option.bind_some, Bool.true_and]
/-- The halves, as five parts of an answer. -/
def halvesB (a n : Int) : Int × Int × Int × Int × Bool := if okB a n = true ∧ n ≠ 16 then (a, n + 1, a + sz (n + 1), n + 1, true) else (0, 0, 0, 0, false)
theorem halves_i (a n : Int) : impl_NetHalves.f a n = some (halvesB a n) := by
  unfold impl_NetHalves.f halvesB
  rw [ok_i]
  cases h : okB a n with
  | false => rfl
  | true =>
    obtain ⟨h0, h1, h2, h3, _⟩ := okB_iff.1 h
    by_cases h16 : n = 16
    · simp [h16]
    · have hh := sz_half (n := n) (by omega)
      have hp := sz_pos (n + 1)
      have hl := sz_le h0
      have ht : (sz n).tdiv 2 = sz (n + 1) := by rw [Int.tdiv_eq_ediv_of_nonneg (by omega), hh]; omega
      simp only [Option.bind_some, if_true, if_neg h16, size_i a h0 h1, ht]
      rw [wrap_in (x := n + 1) (by omega) (by omega), wrap_in (x := sz (n + 1)) (by omega) (by omega), wrap_in (by omega) (by omega)]
      simp [h16]
theorem l1halves_s {k : Nat} (hk : 20 ≤ k) {a n : Int} (h0 : 0 ≤ n) (h1 : n < 16) (h2 : 0 ≤ a) (h3 : a ≤ 65535) : spec_l1Halves.f k a n = some (a, n + 1, a + sz (n + 1), n + 1) := by
  have hp := sz_pos (n + 1)
  have hl := sz_le (n := n + 1) (by omega)
  unfold spec_l1Halves.f
  rw [wrap_in (x := n + 1) (by omega) (by omega), size_s (by omega) (by omega) hk]
  simp only [Option.bind_some]
  rw [wrap_in (by omega) (by omega)]
theorem halves_s {k : Nat} (hk : 20 ≤ k) (a n : Int) : spec_NetHalves.f k a n = some (halvesB a n) := by
  unfold spec_NetHalves.f halvesB
  rw [ok_s hk]
  cases h : okB a n with
  | false => rfl
  | true =>
    obtain ⟨h0, h1, h2, h3, _⟩ := okB_iff.1 h
    by_cases h16 : n = 16
    · simp [h16]
    · simp only [Option.bind_some, if_true, if_neg h16, l1halves_s hk h0 (by omega) h2 h3]
      simp [h16]
end Go.Proofs.Ytnakanjhdcakhaa.Pure
namespace Go.Proofs.Ytnakanjhdcakhaa.Pure
open Q Go.RowKit Go.Proofs.YtnakanjhdcakhaaW.PrintWords
set_option linter.unusedSimpArgs false
theorem xor_pos {x y : Int} (hx : 0 ≤ x) (hx1 : x < 4611686018427387904) (hy : 0 ≤ y) (hy1 : y < 4611686018427387904) : 0 ≤ Go.bits .xor .i64 x y ∧ Go.bits .xor .i64 x y < 4611686018427387904 := by
  obtain ⟨a, rfl⟩ := Int.eq_ofNat_of_zero_le hx
  obtain ⟨b, rfl⟩ := Int.eq_ofNat_of_zero_le hy
  have ha : a < 2 ^ 62 := by omega
  have hb : b < 2 ^ 62 := by omega
  have hxor : a ^^^ b < 2 ^ 62 := Nat.xor_lt_two_pow ha hb
  have e : ((BitVec.ofInt 64 (a : Int)) ^^^ (BitVec.ofInt 64 (b : Int))).toNat = a ^^^ b := by
    rw [BitVec.toNat_xor, BitVec.toNat_ofInt, BitVec.toNat_ofInt]
    congr 1 <;> omega
  have main : Go.bits .xor .i64 (a : Int) (b : Int) = IntKind.i64.wrap ((((BitVec.ofInt 64 (a : Int)) ^^^ (BitVec.ofInt 64 (b : Int))).toNat : Nat) : Int) := rfl
  rw [main, e]
  have : IntKind.i64.wrap ((a ^^^ b : Nat) : Int) = ((a ^^^ b : Nat) : Int) := by
    simp [IntKind.wrap, IntKind.bits, IntKind.signed]
    omega
  rw [this]
  omega
def Bytes (b : List Int) : Prop := b.length ≤ 2000 ∧ ∀ x ∈ b, 0 ≤ x ∧ x ≤ 255
theorem rd_byte {b : List Int} (h : Bytes b) (i : Int) : 0 ≤ rd b i ∧ rd b i ≤ 255 := by
  unfold rd
  rw [List.getD_eq_getElem?_getD]
  cases hq : b[i.toNat]? with
  | none => simp
  | some x => simpa using h.2 x (List.mem_of_getElem? hq)
theorem tmod_range {a n : Int} (ha : 0 ≤ a) (hn : 0 < n) : 0 ≤ Int.tmod a n ∧ Int.tmod a n < n := ⟨Int.tmod_nonneg _ ha, Int.tmod_lt_of_pos _ hn⟩
theorem pick_s {b : List Int} (h : Bytes b) {p n : Int} (hp : 0 ≤ p) (hp1 : p ≤ 1000000000000) (hn : 1 ≤ n) {k : Nat} (hk : 0 < k) : ∃ v, spec_l1Rd_pick.f k b p n = some (v, p + 1) ∧ 0 ≤ v ∧ v < n := by
  obtain ⟨k, rfl⟩ : ∃ m, k = m + 1 := ⟨k - 1, by omega⟩
  have hl := h.1
  unfold spec_l1Rd_pick.f
  rw [if_neg (by omega)]
  simp only [spec_l1Rd_pick.j0]
  rw [wrap_in (x := p + 1) (by omega) (by omega), wrap_in (x := p + 1 - 1) (by omega) (by omega), show p + 1 - 1 = p by omega]
  by_cases h0 : (b.length : Int) = 0
  · rw [if_pos (by simp [h0])]
    exact ⟨0, rfl, Int.le_refl _, by omega⟩
  · rw [if_neg (by simpa using h0)]
    by_cases hlt : p < (b.length : Int)
    · have hb := rd_byte h p
      rw [if_pos hlt, if_pos hp, if_neg (by omega), wrap_in (x := rd b p) (by omega) (by omega)]
      exact ⟨_, rfl, tmod_range hb.1 (by omega)⟩
    · rw [if_neg hlt, if_neg h0]
      have r1 := tmod_range hp (show 0 < (b.length : Int) by omega)
      have w7 : wrap64 (p * 7) = p * 7 := wrap_in (by omega) (by omega)
      have w73 : wrap64 (p * 7 + 3) = p * 7 + 3 := wrap_in (by omega) (by omega)
      have r2 := tmod_range (show 0 ≤ p * 7 + 3 by omega) (show 0 < (b.length : Int) by omega)
      rw [if_pos r1.1, if_pos r1.2, w7, w73, if_pos r2.1, if_pos r2.2, if_neg (by omega)]
      have b1 := rd_byte h (Int.tmod p (b.length : Int))
      have b2 := rd_byte h (Int.tmod (p * 7 + 3) (b.length : Int))
      generalize rd b (Int.tmod p (b.length : Int)) = x at b1 ⊢
      generalize rd b (Int.tmod (p * 7 + 3) (b.length : Int)) = y at b2 ⊢
      have hd : 0 ≤ Int.tdiv p (b.length : Int) ∧ Int.tdiv p (b.length : Int) ≤ p := ⟨Int.tdiv_nonneg hp (by omega), Int.tdiv_le_self _ hp⟩
      generalize Int.tdiv p (b.length : Int) = q at hd ⊢
      rw [wrap_in (x := x) (by omega) (by omega), wrap_in (x := y) (by omega) (by omega), wrap_in (x := x * 131) (by omega) (by omega), wrap_in (x := y * 1117) (by omega) (by omega), wrap_in (x := q) (by omega) (by omega), wrap_in (x := p * 29) (by omega) (by omega), wrap_in (x := q * 53) (by omega) (by omega), wrap_in (x := x * 131 + y * 1117) (by omega) (by omega), wrap_in (x := x * 131 + y * 1117 + p * 29) (by omega) (by omega), wrap_in (x := x * 131 + y * 1117 + p * 29 + q * 53) (by omega) (by omega)]
      have hz : 0 ≤ x * 131 + y * 1117 + p * 29 + q * 53 ∧ x * 131 + y * 1117 + p * 29 + q * 53 < 4611686018427387904 := by omega
      generalize x * 131 + y * 1117 + p * 29 + q * 53 = z at hz ⊢
      have h64 : 0 ≤ Int.tdiv z 64 ∧ Int.tdiv z 64 ≤ z := ⟨Int.tdiv_nonneg hz.1 (by omega), Int.tdiv_le_self _ hz.1⟩
      rw [wrap_in (x := Int.tdiv z 64) (by omega) (by omega)]
      have hx := xor_pos hz.1 hz.2 h64.1 (show Int.tdiv z 64 < 4611686018427387904 by omega)
      exact ⟨_, rfl, tmod_range hx.1 (by omega)⟩
end Go.Proofs.Ytnakanjhdcakhaa.Pure
namespace Go.Proofs.Ytnakanjhdcakhaa.Pure
open Q Go.RowKit Go.Proofs.YtnakanjhdcakhaaW.PrintWords
set_option linter.unusedSimpArgs false
theorem five {i : Int} (h0 : 0 ≤ i) (h1 : i < 5) (x0 x1 x2 x3 x4 : Int) (P : Int → Prop) (p0 : P x0) (p1 : P x1) (p2 : P x2) (p3 : P x3) (p4 : P x4) : P (rd [x0, x1, x2, x3, x4] i) := by
  have : i = 0 ∨ i = 1 ∨ i = 2 ∨ i = 3 ∨ i = 4 := by omega
  rcases this with rfl | rfl | rfl | rfl | rfl
  · exact p0
  · exact p1
  · exact p2
  · exact p3
  · exact p4
theorem prefix_j {b : List Int} (h : Bytes b) {p n : Int} (hp : 0 ≤ p) (hp1 : p ≤ 900000000000) (hn0 : 0 ≤ n) (hn1 : n ≤ 16) {k : Nat} (hk : 30 ≤ k) : ∃ a, spec_l5Prefix.j0 k n b p = some (a, n, p + 6) ∧ okB a n = true := by
  obtain ⟨k, rfl⟩ : ∃ m, k = m + 1 := ⟨k - 1, by omega⟩
  obtain ⟨v1, e1, l1, u1⟩ := pick_s h (p := p) (n := 65536) (by omega) (by omega) (by omega) (k := k) (by omega)
  obtain ⟨v2, e2, l2, u2⟩ := pick_s h (p := p + 1) (n := 4) (by omega) (by omega) (by omega) (k := k) (by omega)
  obtain ⟨v3, e3, l3, u3⟩ := pick_s h (p := p + 1 + 1) (n := 9) (by omega) (by omega) (by omega) (k := k) (by omega)
  obtain ⟨v4, e4, l4, u4⟩ := pick_s h (p := p + 1 + 1 + 1) (n := 16) (by omega) (by omega) (by omega) (k := k) (by omega)
  obtain ⟨v5, e5, l5, u5⟩ := pick_s h (p := p + 1 + 1 + 1 + 1) (n := 16) (by omega) (by omega) (by omega) (k := k) (by omega)
  obtain ⟨v6, e6, l6, u6⟩ := pick_s h (p := p + 1 + 1 + 1 + 1 + 1) (n := 5) (by omega) (by omega) (by omega) (k := k) (by omega)
  simp only [spec_l5Prefix.j0, e1, e2, e3, e4, e5, e6, Option.bind_some]
  have hz := sz_pos n
  have hr : 0 ≤ rd [v1, wrap64 (256 * v2), wrap64 (65535 - v3), v4, wrap64 (4656 + v5)] v6 ∧ rd [v1, wrap64 (256 * v2), wrap64 (65535 - v3), v4, wrap64 (4656 + v5)] v6 ≤ 65535 := by
    refine five (P := fun x => 0 ≤ x ∧ x ≤ 65535) l6 u6 _ _ _ _ _ (by omega) ?_ ?_ (by omega) ?_
    · rw [wrap_in (by omega) (by omega)]; omega
    · rw [wrap_in (by omega) (by omega)]; omega
    · rw [wrap_in (by omega) (by omega)]; omega
  rw [if_pos l6, if_pos (by simpa using u6), size_s hn0 hn1 (by omega)]
  simp only [Option.bind_some]
  rw [if_neg (by omega)]
  generalize rd [v1, wrap64 (256 * v2), wrap64 (65535 - v3), v4, wrap64 (4656 + v5)] v6 = a at hr ⊢
  have hm : Int.tmod a (sz n) = a % sz n := Int.tmod_eq_emod_of_nonneg hr.1
  have h0 := Int.emod_nonneg a (show sz n ≠ 0 by omega)
  have h1 := Int.emod_lt_of_pos a (show 0 < sz n by omega)
  have h2 : a % sz n ≤ a := by
    have := Int.mul_ediv_add_emod a (sz n)
    have := Int.mul_nonneg (show 0 ≤ sz n by omega) (Int.ediv_nonneg hr.1 (show 0 ≤ sz n by omega))
    omega
  rw [hm, wrap_in (by omega) (by omega)]
  refine ⟨a - a % sz n, by simp; omega, okB_iff.2 ⟨hn0, hn1, by omega, by omega, ?_⟩⟩
  have := Int.mul_ediv_add_emod a (sz n)
  rw [show a - a % sz n = sz n * (a / sz n) by omega]
  exact Int.mul_emod_right _ _
theorem six {i : Int} (h0 : 0 ≤ i) (h1 : i < 6) (x0 x1 x2 x3 x4 x5 : Int) (P : Int → Prop) (p0 : P x0) (p1 : P x1) (p2 : P x2) (p3 : P x3) (p4 : P x4) (p5 : P x5) : P (rd [x0, x1, x2, x3, x4, x5] i) := by
  have : i = 0 ∨ i = 1 ∨ i = 2 ∨ i = 3 ∨ i = 4 ∨ i = 5 := by omega
  rcases this with rfl | rfl | rfl | rfl | rfl | rfl
  · exact p0
  · exact p1
  · exact p2
  · exact p3
  · exact p4
  · exact p5
theorem prefix_s {b : List Int} (h : Bytes b) {p : Int} (hp : 0 ≤ p) (hp1 : p ≤ 800000000000) {k : Nat} (hk : 30 ≤ k) : ∃ a n q, spec_l5Prefix.f k b p = some (a, n, q) ∧ okB a n = true ∧ p ≤ q ∧ q ≤ p + 9 := by
  obtain ⟨v1, e1, l1, u1⟩ := pick_s h (p := p) (n := 17) (by omega) (by omega) (by omega) (k := k) (by omega)
  obtain ⟨v2, e2, l2, u2⟩ := pick_s h (p := p + 1) (n := 3) (by omega) (by omega) (by omega) (k := k) (by omega)
  obtain ⟨v3, e3, l3, u3⟩ := pick_s h (p := p + 1 + 1) (n := 6) (by omega) (by omega) (by omega) (k := k) (by omega)
  unfold spec_l5Prefix.f
  simp only [e1, e2, e3, Option.bind_some]
  by_cases h0 : v2 = 0
  · have hr : 0 ≤ rd [0, 1, 2, 8, 15, 16] v3 ∧ rd [0, 1, 2, 8, 15, 16] v3 ≤ 16 := six (P := fun x => 0 ≤ x ∧ x ≤ 16) l3 u3 _ _ _ _ _ _ (by omega) (by omega) (by omega) (by omega) (by omega) (by omega)
    rw [if_pos h0, if_pos l3, if_pos (by simpa using u3)]
    obtain ⟨a, e, ok⟩ := prefix_j h (p := p + 1 + 1 + 1) (by omega) (by omega) hr.1 hr.2 hk
    exact ⟨a, _, _, e, ok, by omega, by omega⟩
  · rw [if_neg h0]
    obtain ⟨a, e, ok⟩ := prefix_j h (p := p + 1 + 1) (by omega) (by omega) l1 (show v1 ≤ 16 by omega) hk
    exact ⟨a, _, _, e, ok, by omega, by omega⟩
end Go.Proofs.Ytnakanjhdcakhaa.Pure
namespace Go.Proofs.Ytnakanjhdcakhaa.Pure
open Q Go.RowKit Go.Proofs.YtnakanjhdcakhaaW.PrintWords
set_option linter.unusedSimpArgs false
theorem spoil_s {b : List Int} (h : Bytes b) {p : Int} (hp : 0 ≤ p) (hp1 : p ≤ 800000000000) (a n : Int) {k : Nat} (hk : 0 < k) : ∃ a' n' q, spec_l5Spoil.f k b p a n = some (a', n', q) ∧ p ≤ q ∧ q ≤ p + 2 := by
  obtain ⟨v1, e1, l1, u1⟩ := pick_s h (p := p) (n := 4) (by omega) (by omega) (by omega) (k := k) (by omega)
  obtain ⟨v2, e2, l2, u2⟩ := pick_s h (p := p + 1) (n := 4) (by omega) (by omega) (by omega) (k := k) (by omega)
  unfold spec_l5Spoil.f
  simp only [e1, e2, Option.bind_some]
  by_cases h0 : v1 = 0
  · rw [if_pos h0, if_pos l2, if_pos (by simpa using u2)]
    exact ⟨_, _, _, rfl, by omega, by omega⟩
  · rw [if_neg h0]
    by_cases h1 : v1 = 1
    · rw [if_pos h1]
      exact ⟨_, _, _, rfl, by omega, by omega⟩
    · rw [if_neg h1]
      by_cases h2 : v1 = 2
      · rw [if_pos h2, if_pos l2, if_pos (by simpa using u2)]
        exact ⟨_, _, _, rfl, by omega, by omega⟩
      · rw [if_neg h2]
        exact ⟨_, _, _, rfl, by omega, by omega⟩
theorem addr_j1 {b : List Int} (h : Bytes b) {p : Int} (hp : 0 ≤ p) (hp1 : p ≤ 800000000000) (a n : Int) {k : Nat} (hk : 1 < k) : ∃ x q, spec_l5Addr.j0 k true b p a n = some (x, q) ∧ p ≤ q ∧ q ≤ p + 2 := by
  obtain ⟨k, rfl⟩ : ∃ m, k = m + 1 := ⟨k - 1, by omega⟩
  obtain ⟨v1, e1, l1, u1⟩ := pick_s h (p := p) (n := 65536) (by omega) (by omega) (by omega) (k := k) (by omega)
  obtain ⟨v2, e2, l2, u2⟩ := pick_s h (p := p + 1) (n := 5) (by omega) (by omega) (by omega) (k := k) (by omega)
  simp only [spec_l5Addr.j0, if_true, e1, e2, Option.bind_some]
  rw [if_pos l2, if_pos (by simpa using u2)]
  exact ⟨_, _, rfl, by omega, by omega⟩
theorem addr_j2 {b : List Int} (h : Bytes b) {p : Int} (hp : 0 ≤ p) (hp1 : p ≤ 800000000000) {a n : Int} (hok : okB a n = true) {k : Nat} (hk : 30 < k) : ∃ x q, spec_l5Addr.j0 k false b p a n = some (x, q) ∧ p ≤ q ∧ q ≤ p + 2 := by
  obtain ⟨k, rfl⟩ : ∃ m, k = m + 1 := ⟨k - 1, by omega⟩
  have hz := okB_iff.1 hok
  have hs := sz_pos n
  obtain ⟨v1, e1, l1, u1⟩ := pick_s h (p := p) (n := sz n) (by omega) (by omega) (by omega) (k := k) (by omega)
  obtain ⟨v2, e2, l2, u2⟩ := pick_s h (p := p + 1) (n := 5) (by omega) (by omega) (by omega) (k := k) (by omega)
  simp only [spec_l5Addr.j0, Bool.false_eq_true, if_false, size_s hz.1 hz.2.1 (show 20 ≤ k by omega), e1, e2, Option.bind_some]
  rw [if_pos l2, if_pos (by simpa using u2)]
  exact ⟨_, _, rfl, by omega, by omega⟩
theorem addr_s {b : List Int} (h : Bytes b) {p : Int} (hp : 0 ≤ p) (hp1 : p ≤ 700000000000) (a n : Int) {k : Nat} (hk : 30 < k) : ∃ x q, spec_l5Addr.f k b p a n = some (x, q) ∧ p ≤ q ∧ q ≤ p + 3 := by
  unfold spec_l5Addr.f
  rw [ok_s (by omega), Option.bind_some]
  by_cases hok : okB a n = true
  · rw [if_pos hok]
    obtain ⟨v1, e1, l1, u1⟩ := pick_s h (p := p) (n := 4) (by omega) (by omega) (by omega) (k := k) (by omega)
    rw [e1, Option.bind_some]
    cases hv : v1 == 0 with
    | true =>
      obtain ⟨x, q, e, l, u⟩ := addr_j1 h (p := p + 1) (by omega) (by omega) a n (k := k) (by omega)
      exact ⟨x, q, e, by omega, by omega⟩
    | false =>
      obtain ⟨x, q, e, l, u⟩ := addr_j2 h (p := p + 1) (by omega) (by omega) hok (k := k) (by omega)
      exact ⟨x, q, e, by omega, by omega⟩
  · rw [if_neg hok]
    obtain ⟨x, q, e, l, u⟩ := addr_j1 h hp (by omega) a n (k := k) (by omega)
    exact ⟨x, q, e, by omega, by omega⟩
end Go.Proofs.Ytnakanjhdcakhaa.Pure
namespace Go.Proofs.Ytnakanjhdcakhaa.Pure
open Go.RowKit Go.Proofs.YtnakanjhdcakhaaW.PrintWords Go.Proofs.YtnakanjhdcakhaaW.PrintMore
open Q
set_option linter.unusedVariables false
set_option linter.unusedSimpArgs false
instance : DecidableEq S26 := fun a b => by
  cases a with
  | mk a0 a1 =>
    cases b with
    | mk b0 b1 =>
      rw [S26.mk.injEq]
      exact inferInstance
end Go.Proofs.Ytnakanjhdcakhaa.Pure
namespace Go.Proofs.Ytnakanjhdcakhaa.Pure
open Go.RowKit Go.Proofs.YtnakanjhdcakhaaW.PrintWords Go.Proofs.YtnakanjhdcakhaaW.PrintMore
open Q
set_option linter.unusedVariables false
set_option linter.unusedSimpArgs false
theorem half_ok {a n : Int} (h : okB a n = true) (hn : n < 16) : okB a (n + 1) = true ∧ okB (a + sz (n + 1)) (n + 1) = true := by
  obtain ⟨h0, h1, h2, h3, h4⟩ := okB_iff.1 h
  have hh := sz_half hn
  have hp := sz_pos (n + 1)
  have hd : sz n ∣ a := Int.dvd_of_emod_eq_zero h4
  have hd1 : sz (n + 1) ∣ a := Int.dvd_trans (sz_dvd (by omega)) hd
  have htop : a + sz n ≤ 65536 := by
    have h5 : sz n ∣ 65536 := by rw [← sz0]; exact sz_dvd h0
    obtain ⟨x, hx⟩ := hd
    obtain ⟨y, hy⟩ := h5
    have hps := sz_pos n
    have : x < y := by
      rcases Int.lt_or_le x y with h | h
      · exact h
      · have := Int.mul_le_mul_of_nonneg_left h (show 0 ≤ sz n by omega)
        omega
    have := Int.mul_le_mul_of_nonneg_left (show x + 1 ≤ y by omega) (show 0 ≤ sz n by omega)
    rw [Int.mul_add] at this
    omega
  refine ⟨okB_iff.2 ⟨by omega, by omega, h2, h3, Int.emod_eq_zero_of_dvd hd1⟩, okB_iff.2 ⟨by omega, by omega, by omega, by omega, Int.emod_eq_zero_of_dvd (Int.dvd_add hd1 (Int.dvd_refl _))⟩⟩
end Go.Proofs.Ytnakanjhdcakhaa.Pure
namespace Go.Proofs.Ytnakanjhdcakhaa.Pure
open Q Go.RowKit Go.Proofs.YtnakanjhdcakhaaW.PrintWords
set_option linter.unusedSimpArgs false
theorem open_s {l : List Int} (h : ∀ x ∈ l, 0 ≤ x ∧ x ≤ 255) : ∃ b, spec_l1Open.f l = some (b, 0) ∧ Bytes b := by
  unfold spec_l1Open.f
  by_cases hc : (l.length : Int) > 2000
  · rw [if_pos hc, if_pos (by omega)]
    exact ⟨_, rfl, by rw [List.length_take]; omega, fun x hx => h x (List.mem_of_mem_take hx)⟩
  · rw [if_neg hc]
    exact ⟨_, rfl, by omega, h⟩
end Go.Proofs.Ytnakanjhdcakhaa.Pure
namespace Go.Proofs.Ytnakanjhdcakhaa.Pure
open Go.RowKit Go.Proofs.YtnakanjhdcakhaaW.PrintWords Go.Proofs.YtnakanjhdcakhaaW.PrintMore
open Q
set_option linter.unusedVariables false
set_option linter.unusedSimpArgs false
/-- The addresses that some of l have and none of o. -/
def anyB (l : List S26) (x : Int) : Bool := l.any fun q => hasB q.f0 q.f1 x
theorem nest {a n b m x : Int} (hp : okB a n = true) (hq : okB b m = true) (hmn : m ≤ n) (h1 : hasB a n x = true) (h2 : hasB b m x = true) : b ≤ a ∧ a + sz n ≤ b + sz m := by
  obtain ⟨p0, p1, p2, p3, p4⟩ := okB_iff.1 hp
  obtain ⟨q0, q1, q2, q3, q4⟩ := okB_iff.1 hq
  rw [hasB_iff] at h1 h2
  have hs := sz_pos n
  obtain ⟨i, hi⟩ := Int.dvd_of_emod_eq_zero p4
  obtain ⟨k, hk⟩ := sz_dvd hmn
  obtain ⟨j, hj⟩ := Int.dvd_trans (sz_dvd hmn) (Int.dvd_of_emod_eq_zero q4)
  generalize sz n = s at *
  generalize sz m = r at *
  subst hi hk hj
  have g1 : j < i + 1 := Int.lt_of_mul_lt_mul_left (a := s) (by rw [Int.mul_add]; omega) (by omega)
  have g2 : i < j + k := Int.lt_of_mul_lt_mul_left (a := s) (by rw [Int.mul_add]; omega) (by omega)
  have g3 := Int.mul_le_mul_of_nonneg_left (show j ≤ i by omega) (show 0 ≤ s by omega)
  have g4 := Int.mul_le_mul_of_nonneg_left (show i + 1 ≤ j + k by omega) (show 0 ≤ s by omega)
  rw [Int.mul_add, Int.mul_add] at g4
  omega
theorem has_first {a n : Int} : hasB a n a = true := by
  have := sz_pos n
  exact hasB_iff.2 ⟨by omega, by omega⟩
theorem has_half {a n x : Int} (hn : n < 16) : hasB a n x = true ↔ hasB a (n + 1) x = true ∨ hasB (a + sz (n + 1)) (n + 1) x = true := by
  have h1 := sz_half hn
  have h2 := sz_pos (n + 1)
  rw [hasB_iff, hasB_iff, hasB_iff]
  omega
end Go.Proofs.Ytnakanjhdcakhaa.Pure
namespace Go.Proofs.Ytnakanjhdcakhaa.Pure
open Q Go.RowKit Go.Proofs.YtnakanjhdcakhaaW.PrintWords
set_option linter.unusedSimpArgs false
set_option linter.unusedVariables false
theorem any_s {b : List Int} (hb : Bytes b) {p : Int} (hp : 0 ≤ p) (hp1 : p ≤ 600000000000) {k : Nat} (hk : 30 ≤ k) : ∃ a n q, spec_l5Any.f k b p = some (a, n, q) ∧ 0 ≤ q ∧ q ≤ p + 20 := by
  obtain ⟨a, n, q, f1, o1, g1, g1'⟩ := prefix_s hb (p := p) hp (by omega) (k := k) hk
  obtain ⟨v1, e1, l1, u1⟩ := pick_s hb (p := q) (n := 24) (by omega) (by omega) (by omega) (k := k) (by omega)
  unfold spec_l5Any.f
  rw [f1, Option.bind_some, e1, Option.bind_some]
  by_cases c0 : v1 = 0
  · obtain ⟨a', n', q', e2, g2, g3⟩ := spoil_s hb (p := q + 1) (by omega) (by omega) a n (k := k) (by omega)
    rw [if_pos c0, e2, Option.bind_some]
    exact ⟨_, _, _, rfl, by dsimp only; omega, by dsimp only; omega⟩
  · rw [if_neg c0]
    exact ⟨_, _, _, rfl, by dsimp only; omega, by dsimp only; omega⟩
theorem drawIn_j {b : List Int} (hb : Bytes b) {p : Int} (hp : 0 ≤ p) (hp1 : p ≤ 600000000000) (x : Bool) {a n c m : Int} (hx : x = true → okB a n = true) {k : Nat} (hk : 50 ≤ k) : ∃ a' n' c' m', spec_DrawNetIn.j0 k x b p a n c m = some (a', n', c', m') := by
  obtain ⟨k, rfl⟩ : ∃ m, k = m + 1 := ⟨k - 1, by omega⟩
  simp only [spec_DrawNetIn.j0]
  by_cases h : x = true
  · have ho := okB_iff.1 (hx h)
    obtain ⟨v1, e1, l1, u1⟩ := pick_s hb (p := p) (n := n + 1) hp (by omega) (by omega) (k := k) (by omega)
    have hz := sz_pos v1
    rw [if_pos h, wrap_in (x := n + 1) (by omega) (by omega), e1, Option.bind_some, size_s l1 (by omega) (by omega), Option.bind_some, if_neg (by omega)]
    exact ⟨_, _, _, _, rfl⟩
  · rw [if_neg h]
    exact ⟨_, _, _, _, rfl⟩
theorem drawIn_s {l : List Int} (h : ∀ x ∈ l, 0 ≤ x ∧ x ≤ 255) {k : Nat} (hk : 100 ≤ k) : ∃ a n c m, spec_DrawNetIn.f k l = some (a, n, c, m) := by
  obtain ⟨b, e, hb⟩ := open_s h
  obtain ⟨a, n, q, f1, g1, g1'⟩ := any_s hb (p := 0) (by omega) (by omega) (k := k) (by omega)
  obtain ⟨c, m, q2, f2, g2, g2'⟩ := any_s hb (p := q) (by omega) (by omega) (k := k) (by omega)
  obtain ⟨v1, e1, l1, u1⟩ := pick_s hb (p := q2) (n := 2) (by omega) (by omega) (by omega) (k := k) (by omega)
  unfold spec_DrawNetIn.f
  rw [e, Option.bind_some, f1, Option.bind_some, f2, Option.bind_some, ok_s (by omega), Option.bind_some]
  by_cases ho : okB a n = true
  · rw [if_pos ho]
    by_cases hn : n > 0
    · rw [if_pos hn, e1, Option.bind_some]
      exact drawIn_j hb (by dsimp only; omega) (by dsimp only; omega) _ (fun _ => ho) (by omega)
    · rw [if_neg hn]
      exact drawIn_j hb (by dsimp only; omega) (by dsimp only; omega) _ (fun hq => by simp at hq) (by omega)
  · rw [if_neg ho]
    exact drawIn_j hb (by dsimp only; omega) (by dsimp only; omega) _ (fun hq => by simp at hq) (by omega)
theorem drawHas_s {l : List Int} (h : ∀ x ∈ l, 0 ≤ x ∧ x ≤ 255) {k : Nat} (hk : 100 ≤ k) : ∃ a n x, spec_DrawNetHas.f k l = some (a, n, x) := by
  obtain ⟨b, e, hb⟩ := open_s h
  obtain ⟨a, n, q, f1, g1, g1'⟩ := any_s hb (p := 0) (by omega) (by omega) (k := k) (by omega)
  obtain ⟨x, q2, f2, g2, g2'⟩ := addr_s hb (p := q) (by omega) (by omega) a n (k := k) (by omega)
  unfold spec_DrawNetHas.f
  rw [e, Option.bind_some, f1, Option.bind_some, f2, Option.bind_some]
  exact ⟨_, _, _, rfl⟩
theorem shl_sz' {n : Int} (h0 : 0 ≤ n) (h1 : n ≤ 16) : shl .i64 1 (wrap64 (16 - n)) = sz n := by
  rcases len_cases h0 h1 with rfl | rfl | rfl | rfl | rfl | rfl | rfl | rfl | rfl | rfl | rfl | rfl | rfl | rfl | rfl | rfl | rfl <;> decide +kernel
/-- One is in another just if all its addresses are. -/
theorem ins_all {a n b m : Int} (hp : okB a n = true) (hq : okB b m = true) : insB a n b m = true ↔ ∀ y, a ≤ y → y < a + sz n → hasB b m y = true := by
  have p := okB_iff.1 hp
  have q := okB_iff.1 hq
  have hz := sz_pos n
  constructor
  · intro h y h0 h1
    obtain ⟨i1, i2, i3⟩ := insB_iff.1 h
    have := nest hp hq i1 has_first (hasB_iff.2 ⟨i2, i3⟩)
    exact hasB_iff.2 ⟨by omega, by omega⟩
  · intro h
    have h1 := hasB_iff.1 (h a (Int.le_refl _) (by omega))
    have h2 := hasB_iff.1 (h (a + sz n - 1) (by omega) (by omega))
    refine insB_iff.2 ⟨?_, h1.1, h1.2⟩
    rcases Int.lt_or_le n m with hc | hc
    · have hh := sz_half (n := n) (by omega)
      have hd := sz_dvd (m := n + 1) (n := m) (by omega)
      have hz1 := sz_pos (n + 1)
      have := Int.le_of_dvd (by omega) hd
      omega
    · exact hc
theorem prelaw_j5 {a n x : Int} {k : Nat} (hk : 1 ≤ k) : laws_FnNetPrefix.j5 k x (halvesB a n).2.2.2.2 false a n (halvesB a n).1 (halvesB a n).2.1 (halvesB a n).2.2.1 (halvesB a n).2.2.2.1 = some true := by
  obtain ⟨k, rfl⟩ : ∃ m, k = m + 1 := ⟨k - 1, by omega⟩
  simp only [laws_FnNetPrefix.j5, Bool.false_eq_true, if_false]
  unfold halvesB
  by_cases hc : okB a n = true ∧ n ≠ 16
  · have ho := okB_iff.1 hc.1
    have hn : n < 16 := by omega
    have hh := half_ok hc.1 hn
    have hs := sz_half hn
    have hz := sz_pos (n + 1)
    have i1 : insB a (n + 1) a n = true := insB_iff.2 ⟨by omega, by omega, by omega⟩
    have i2 : insB (a + sz (n + 1)) (n + 1) a n = true := insB_iff.2 ⟨by omega, by omega, by omega⟩
    have i3 : insB a (n + 1) (a + sz (n + 1)) (n + 1) = false := by
      cases hq : insB a (n + 1) (a + sz (n + 1)) (n + 1) with
      | false => rfl
      | true => have := insB_iff.1 hq; omega
    have i4 : insB (a + sz (n + 1)) (n + 1) a (n + 1) = false := by
      cases hq : insB (a + sz (n + 1)) (n + 1) a (n + 1) with
      | false => rfl
      | true => have := insB_iff.1 hq; omega
    simp only [if_pos hc]
    rw [netin_i, netin_i, netin_i, netin_i, nethas_i, nethas_i, nethas_i, hc.1, hh.1, hh.2, i1, i2, i3, i4]
    simp only [Option.bind_some, Bool.true_and, Bool.and_self, Bool.and_false, Bool.false_eq_true, if_true, if_false]
    have e : hasB a n x = (hasB a (n + 1) x || hasB (a + sz (n + 1)) (n + 1) x) := by
      rw [Bool.eq_iff_iff, Bool.or_eq_true]
      exact has_half hn
    rw [e]
    cases hasB a (n + 1) x <;> cases hasB (a + sz (n + 1)) (n + 1) x <;> rfl
  · simp only [if_neg hc]
    simp
theorem prelaw_j4 {l1 : List Int} (hb1 : ∀ x ∈ l1, 0 ≤ x ∧ x ≤ 255) {k : Nat} (hk : 200 ≤ k) : laws_FnNetPrefix.j4 k l1 = some true := by
  obtain ⟨k, rfl⟩ : ∃ m, k = m + 1 := ⟨k - 1, by omega⟩
  obtain ⟨a, n, x, e⟩ := drawHas_s hb1 (k := k) (by omega)
  simp only [laws_FnNetPrefix.j4]
  rw [e, Option.bind_some]
  simp only []
  rw [nethas_i, nethas_s (by omega), Option.bind_some, Option.bind_some, bne_self_eq_false, if_neg (by simp), halves_i, halves_s (by omega), Option.bind_some, Option.bind_some]
  simp only [beq_self_eq_true, Bool.not_true, Bool.or_self, Bool.false_eq_true, if_false, bne_self_eq_false]
  rw [ok_s (by omega), Option.bind_some]
  have hj := prelaw_j5 (a := a) (n := n) (x := x) (k := k) (by omega)
  by_cases ho : okB a n = true
  · have h := okB_iff.1 ho
    have e2 : ((halvesB a n).2.2.2.2 != decide (n < 16)) = false := by
      unfold halvesB
      by_cases hn : n = 16
      · rw [if_neg (by simp [hn])]
        simp
        omega
      · rw [if_pos ⟨ho, hn⟩]
        simp
        omega
    rw [if_pos ho, e2]
    exact hj
  · have e2 : ((halvesB a n).2.2.2.2 != false) = false := by
      unfold halvesB
      rw [if_neg (fun h => ho h.1)]
      rfl
    rw [if_neg ho, e2]
    exact hj
theorem prelaw_l0 {l1 : List Int} (hb1 : ∀ x ∈ l1, 0 ≤ x ∧ x ≤ 255) {a n b m : Int} (hp : okB a n = true) (hq : okB b m = true) (x7 : Bool) (d : Nat) : ∀ (x9 : Int) (x8 : Bool) (k : Nat), a ≤ x9 → x9 + d = a + sz n → (x7 = true ↔ x8 = true ∧ ∀ y, x9 ≤ y → y < a + sz n → hasB b m y = true) → d + 300 ≤ k → laws_FnNetPrefix.l0 k l1 x7 x8 x9 a n b m = some true := by
  have h := okB_iff.1 hp
  have hzl := sz_le h.1
  have hzp := sz_pos n
  induction d with
  | zero =>
    intro x9 x8 k h0 hx hi hk
    obtain ⟨k, rfl⟩ : ∃ m, k = m + 1 := ⟨k - 1, by omega⟩
    simp only [laws_FnNetPrefix.l0]
    have e : x7 = x8 := by
      rw [Bool.eq_iff_iff, hi]
      exact ⟨fun h => h.1, fun h => ⟨h, fun y h1 h2 => by omega⟩⟩
    rw [shl_sz' h.1 h.2.1, wrap_in (x := 16 - n) (by omega) (by omega), if_pos (by omega), wrap_in (x := a + sz n) (by omega) (by omega), if_neg (by omega), e, bne_self_eq_false, if_neg (by simp)]
    exact prelaw_j4 hb1 (by omega)
  | succ d ih =>
    intro x9 x8 k h0 hx hi hk
    obtain ⟨k, rfl⟩ : ∃ m, k = m + 1 := ⟨k - 1, by omega⟩
    simp only [laws_FnNetPrefix.l0]
    rw [shl_sz' h.1 h.2.1, wrap_in (x := 16 - n) (by omega) (by omega), if_pos (by omega), wrap_in (x := a + sz n) (by omega) (by omega), if_pos (by omega), wrap_in (x := x9 + 1) (by omega) (by omega)]
    cases x8 with
    | true =>
      rw [if_pos rfl, nethas_i, hq, Option.bind_some, Bool.true_and]
      refine ih (x9 + 1) _ k (by omega) (by omega) ?_ (by omega)
      rw [hi]
      constructor
      · rintro ⟨_, h1⟩
        exact ⟨h1 x9 (Int.le_refl _) (by omega), fun y h2 h3 => h1 y (by omega) h3⟩
      · rintro ⟨h1, h2⟩
        refine ⟨rfl, fun y h3 h4 => ?_⟩
        by_cases he : y = x9
        · rw [he]; exact h1
        · exact h2 y (by omega) h4
    | false =>
      rw [if_neg (by simp)]
      refine ih (x9 + 1) false k (by omega) (by omega) ?_ (by omega)
      rw [hi]
      simp
theorem FnNetPrefix (l0 : List Int) (hl : l0.length ≤ maxLen) (hb : ∀ x ∈ l0, 0 ≤ x ∧ x ≤ 255) (l1 : List Int) (hl1 : l1.length ≤ maxLen) (hb1 : ∀ x ∈ l1, 0 ≤ x ∧ x ≤ 255) : ∃ k, laws_FnNetPrefix.f k l0 l1 = some true := by
  obtain ⟨k, hk⟩ : ∃ k, k = 200000 := ⟨_, rfl⟩
  refine ⟨k + 3, ?_⟩
  unfold laws_FnNetPrefix.f
  by_cases hc : (l0.length : Int) > 1048576
  · rw [if_pos hc]
    simp only [laws_FnNetPrefix.j0, if_true]
  · rw [if_neg hc]
    by_cases hc1 : (l1.length : Int) > 1048576
    · rw [decide_eq_true hc1]
      simp only [laws_FnNetPrefix.j0, if_true]
    · rw [decide_eq_false hc1]
      obtain ⟨a, n, b, m, e⟩ := drawIn_s hb (k := k + 2) (by omega)
      simp only [laws_FnNetPrefix.j0, Bool.false_eq_true, if_false]
      rw [e, Option.bind_some]
      simp only []
      rw [netin_i, netin_s (by omega), Option.bind_some, Option.bind_some, bne_self_eq_false, if_neg (by simp), ok_i, ok_s (by omega), Option.bind_some, Option.bind_some, bne_self_eq_false]
      simp only [laws_FnNetPrefix.j1, Bool.false_eq_true, if_false]
      rw [ok_s (by omega), ok_s (by omega), Option.bind_some]
      by_cases hp : okB a n = true
      · rw [if_pos hp, Option.bind_some]
        cases hq : okB b m with
        | true =>
          have h := okB_iff.1 hp
          have hzl := sz_le h.1
          have hzp := sz_pos n
          simp only [laws_FnNetPrefix.j2, if_true]
          refine prelaw_l0 hb1 hp hq _ (sz n).toNat a true k (Int.le_refl _) (by omega) ?_ (by omega)
          rw [hp, Bool.true_and, Bool.true_and, ins_all hp hq]
          exact ⟨fun h => ⟨rfl, h⟩, fun h => h.2⟩
        | false =>
          simp only [laws_FnNetPrefix.j2, Bool.false_eq_true, if_false]
          exact prelaw_j4 hb1 (by omega)
      · rw [if_neg hp]
        simp only [laws_FnNetPrefix.j2, Bool.false_eq_true, if_false]
        exact prelaw_j4 hb1 (by omega)
end Go.Proofs.Ytnakanjhdcakhaa.Pure
