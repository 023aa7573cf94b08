/- Lists of prefixes, in plain Lean: the copies that the laws make, their comparison, and the longest prefix that has an address. Lemmas alone. -/
import Derived.Test.YtnakanjhdcakhaaQF46
import Derived.Test.YtnakanjhdcakhaaQF47
import Derived.Test.YtnakanjhdcakhaaQF48
import Derived.Test.YtnakanjhdcakhaaQF49
import Derived.Test.YtnakanjhdcakhaaQF50
import Derived.Test.YtnakanjhdcakhaaM1
namespace Go.Proofs.Ytnakanjhdcakhaa.Pure
open Go.RowKit Go.Proofs.YtnakanjhdcakhaaW.PrintWords Go.Proofs.YtnakanjhdcakhaaW.PrintMore
open Q
set_option linter.unusedVariables false
set_option linter.unusedSimpArgs false
instance : DecidableEq S26 := fun a b => by
  cases a with
  | mk a0 a1 =>
    cases b with
    | mk b0 b1 =>
      rw [S26.mk.injEq]
      exact inferInstance
/-- The program's copy of a law's list. -/
def toS (l : List S24) : List S26 := l.map fun x => ⟨x.f0, x.f1⟩
theorem toS_length (l : List S24) : (toS l).length = l.length := by simp [toS]
theorem wrap_succ {i : Int} (h0 : 0 ≤ i) (h1 : i < 9223372036854775807) : wrap64 (i + 1) = i + 1 := by unfold wrap64; omega
theorem set_grow {α β : Type} (f : α → β) (z : β) (l : List α) (i : Nat) (h : i < l.length) (x : α) (hx : l[i]? = some x) :
    ((l.take i).map f ++ List.replicate (l.length - i) z).set i (f x) = (l.take (i + 1)).map f ++ List.replicate (l.length - (i + 1)) z := by
  have hl : ((l.take i).map f).length = i := by simp; omega
  rw [List.set_append_right _ _ (by omega), hl, Nat.sub_self]
  obtain ⟨m, hm⟩ : ∃ m, l.length - i = m + 1 := ⟨l.length - i - 1, by omega⟩
  rw [hm, List.replicate_succ, List.set_cons_zero, List.take_add_one, hx, List.map_append, List.append_assoc, show l.length - (i + 1) = m by omega]
  rfl
theorem rd24_at (l : List S24) (i : Nat) (h : i < l.length) : rd_T24 l i = l[i] := by
  unfold rd_T24
  simp [List.getD_eq_getElem?_getD, h]
theorem rd26_at (l : List S26) (i : Nat) (h : i < l.length) : rd_T26 l i = l[i] := by
  unfold rd_T26
  simp [List.getD_eq_getElem?_getD, h]
theorem toS_loop (l : List S24) (hl : l.length ≤ 9223372036854775807) (d : Nat) : ∀ (i : Nat) (k : Nat), i + d = l.length → d < k →
    laws_toNetPrefixS.l0 k l ((l.take i).map (fun x => (⟨x.f0, x.f1⟩ : S26)) ++ List.replicate (l.length - i) z26) i = some (toS l) := by
  induction d with
  | zero =>
    intro i k hi hk
    obtain ⟨k, rfl⟩ : ∃ m, k = m + 1 := ⟨k - 1, by omega⟩
    simp only [laws_toNetPrefixS.l0]
    rw [if_neg (by omega), show i = l.length by omega]
    simp [toS]
  | succ d ih =>
    intro i k hi hk
    obtain ⟨k, rfl⟩ : ∃ m, k = m + 1 := ⟨k - 1, by omega⟩
    have hlt : i < l.length := by omega
    simp only [laws_toNetPrefixS.l0]
    rw [if_pos (by omega), if_pos (by omega)]
    simp only [laws_toNetPrefix.f, Option.bind_some]
    rw [if_pos (by simp; omega), rd24_at l i hlt, Int.toNat_natCast, set_grow (fun x : S24 => (⟨x.f0, x.f1⟩ : S26)) z26 l i hlt l[i] (by simp [hlt]), wrap_succ (by omega) (by omega)]
    exact ih (i + 1) k (by omega) (by omega)
theorem toS_s {l : List S24} {k : Nat} (hl : l.length ≤ 1048576) (hk : l.length < k) : laws_toNetPrefixS.f k l = some (toS l) := by
  unfold laws_toNetPrefixS.f
  rw [if_pos (by omega), if_pos (by omega), Int.toNat_natCast]
  have := toS_loop l (by omega) l.length 0 k (by omega) hk
  simpa using this
theorem same_loop (a b : List S26) (h : a.length = b.length) (hl : a.length ≤ 9223372036854775807) (d : Nat) : ∀ (i k : Nat), i + d = a.length → d < k → a.take i = b.take i → laws_eqNetPrefixS.l0 k a b i = some (decide (a = b)) := by
  induction d with
  | zero =>
    intro i k hi hk he
    obtain ⟨k, rfl⟩ : ∃ m, k = m + 1 := ⟨k - 1, by omega⟩
    simp only [laws_eqNetPrefixS.l0]
    rw [if_neg (by omega)]
    rw [List.take_of_length_le (by omega), List.take_of_length_le (by omega)] at he
    simp [he]
  | succ d ih =>
    intro i k hi hk he
    obtain ⟨k, rfl⟩ : ∃ m, k = m + 1 := ⟨k - 1, by omega⟩
    have hlt : i < a.length := by omega
    have hlt' : i < b.length := by omega
    simp only [laws_eqNetPrefixS.l0]
    rw [if_pos (by omega), if_pos (by omega), if_pos (by omega), rd26_at a i hlt, rd26_at b i hlt']
    unfold laws_eqNetPrefix.f
    have hne : ¬ a[i] = b[i] → ¬ a = b := by
      rintro hn rfl
      exact hn rfl
    by_cases h0 : a[i].f0 = b[i].f0
    · by_cases h1 : a[i].f1 = b[i].f1
      · rw [if_pos h0, if_pos h1]
        simp only [Option.bind_some, if_true]
        rw [wrap_succ (by omega) (by omega)]
        refine ih (i + 1) k (by omega) (by omega) ?_
        rw [List.take_add_one, List.take_add_one, he, List.getElem?_eq_getElem hlt, List.getElem?_eq_getElem hlt']
        have : a[i] = b[i] := by
          cases ha : a[i]
          cases hb : b[i]
          rw [ha, hb] at h0 h1
          simp only at h0 h1
          rw [h0, h1]
        rw [this]
      · rw [if_pos h0, if_neg h1]
        have : ¬ a = b := hne (fun e => h1 (by rw [e]))
        simp [this]
    · rw [if_neg h0]
      have : ¬ a = b := hne (fun e => h0 (by rw [e]))
      simp [this]
theorem same_s (a b : List S26) {k : Nat} (hl : a.length ≤ 9223372036854775807) (hk : a.length < k) : laws_eqNetPrefixS.f k a b = some (decide (a = b)) := by
  unfold laws_eqNetPrefixS.f
  by_cases h : a.length = b.length
  · rw [if_pos (by omega)]
    exact same_loop a b h hl a.length 0 k (by omega) hk rfl
  · rw [if_neg (by omega)]
    have : ¬ a = b := by
      rintro rfl
      exact h rfl
    simp [this]
/-- Is the prefix at this place ok, and has it the address? -/
def hitB (l : List S26) (x : Int) (j : Int) : Bool := okB (rd_T26 l j).f0 (rd_T26 l j).f1 && hasB (rd_T26 l j).f0 (rd_T26 l j).f1 x
/-- Of the first i prefixes, b is the place of the longest that has x, the first of several; -1: none. -/
def Best (l : List S26) (x b i : Int) : Prop :=
  (b = -1 ∧ ∀ j, 0 ≤ j → j < i → hitB l x j = false) ∨
  (0 ≤ b ∧ b < i ∧ hitB l x b = true ∧ ∀ j, 0 ≤ j → j < i → hitB l x j = true → (rd_T26 l j).f1 ≤ (rd_T26 l b).f1 ∧ ((rd_T26 l j).f1 = (rd_T26 l b).f1 → b ≤ j))
theorem best_start (l : List S26) (x : Int) : Best l x (-1) 0 := .inl ⟨rfl, fun j h0 h1 => by omega⟩
theorem best_miss {l : List S26} {x b i : Int} (h : Best l x b i) (hm : hitB l x i = false) : Best l x b (i + 1) := by
  rcases h with ⟨rfl, h⟩ | ⟨h0, h1, h2, h⟩
  · exact .inl ⟨rfl, fun j j0 j1 => by
      by_cases e : j = i
      · rw [e]; exact hm
      · exact h j j0 (by omega)⟩
  · refine .inr ⟨h0, by omega, h2, fun j j0 j1 hj => ?_⟩
    by_cases e : j = i
    · rw [e, hm] at hj; cases hj
    · exact h j j0 (by omega) hj
theorem best_first {l : List S26} {x b i : Int} (h : Best l x b i) (hb : b < 0) (h0 : 0 ≤ i) (hh : hitB l x i = true) : Best l x i (i + 1) := by
  rcases h with ⟨rfl, h⟩ | ⟨b0, _, _, _⟩
  · refine .inr ⟨h0, by omega, hh, fun j j0 j1 hj => ?_⟩
    by_cases e : j = i
    · subst e; exact ⟨Int.le_refl _, fun _ => Int.le_refl _⟩
    · rw [h j j0 (by omega)] at hj; cases hj
  · omega
theorem best_more {l : List S26} {x b i : Int} (h : Best l x b i) (hb : 0 ≤ b) (hh : hitB l x i = true) (hm : (rd_T26 l b).f1 < (rd_T26 l i).f1) : Best l x i (i + 1) := by
  rcases h with ⟨rfl, h⟩ | ⟨b0, b1, b2, h⟩
  · omega
  · refine .inr ⟨by omega, by omega, hh, fun j j0 j1 hj => ?_⟩
    by_cases e : j = i
    · subst e; exact ⟨Int.le_refl _, fun _ => Int.le_refl _⟩
    · have := h j j0 (by omega) hj
      exact ⟨by omega, fun e => by omega⟩
theorem best_less {l : List S26} {x b i : Int} (h : Best l x b i) (hb : 0 ≤ b) (hm : ¬ (rd_T26 l b).f1 < (rd_T26 l i).f1) : Best l x b (i + 1) := by
  rcases h with ⟨rfl, h⟩ | ⟨b0, b1, b2, h⟩
  · omega
  · refine .inr ⟨b0, by omega, b2, fun j j0 j1 hj => ?_⟩
    by_cases e : j = i
    · subst e; exact ⟨by omega, fun _ => by omega⟩
    · exact h j j0 (by omega) hj
theorem best_range {l : List S26} {x b i : Int} (h : Best l x b i) : b < 0 ∨ 0 ≤ b ∧ b < i := by
  rcases h with ⟨rfl, _⟩ | ⟨b0, b1, _⟩
  · left; omega
  · right; exact ⟨b0, b1⟩
theorem best_loop (l : List S26) (x : Int) (hl : l.length < 9223372036854775807) (d : Nat) : ∀ (i : Nat) (b : Int), i + d = l.length → Best l x b i →
    ∃ r, Best l x r l.length ∧ (∀ k, d + 20 < k → spec_NetBest.l0 k l x b i = some r) ∧ (∀ k, d < k → impl_NetBest.l0 k l x b l l.length i = some r) := by
  induction d with
  | zero =>
    intro i b hi hB
    rw [show i = l.length by omega] at hB ⊢
    refine ⟨b, hB, fun k hk => ?_, fun k hk => ?_⟩
    · obtain ⟨k, rfl⟩ : ∃ m, k = m + 1 := ⟨k - 1, by omega⟩
      simp only [spec_NetBest.l0]
      rw [if_neg (by omega)]
    · obtain ⟨k, rfl⟩ : ∃ m, k = m + 1 := ⟨k - 1, by omega⟩
      simp only [impl_NetBest.l0]
      rw [if_neg (by omega)]
  | succ d ih =>
    intro i b hi hB
    have hr := best_range hB
    cases hh : hitB l x i with
    | false =>
      obtain ⟨r, h0, h1, h2⟩ := ih (i + 1) b (by omega) (best_miss hB hh)
      unfold hitB at hh
      refine ⟨r, h0, fun k hk => ?_, fun k hk => ?_⟩
      · obtain ⟨k, rfl⟩ : ∃ m, k = m + 1 := ⟨k - 1, by omega⟩
        simp only [spec_NetBest.l0]
        rw [if_pos (by omega), if_pos (by omega), nethas_s (by omega), hh]
        simp only [Option.bind_some]
        rw [if_neg (by simp), wrap_succ (by omega) (by omega)]
        exact h1 k (by omega)
      · obtain ⟨k, rfl⟩ : ∃ m, k = m + 1 := ⟨k - 1, by omega⟩
        simp only [impl_NetBest.l0]
        rw [if_pos (by omega), if_pos (by omega), if_pos (by omega), nethas_i, hh]
        simp only [Option.bind_some]
        rw [if_neg (by simp), wrap_succ (by omega) (by omega)]
        exact h2 k (by omega)
    | true =>
      have step : ∃ b', Best l x b' (i + 1) ∧ ((b < 0 ∧ b' = i) ∨ (0 ≤ b ∧ (rd_T26 l i).f1 > (rd_T26 l b).f1 ∧ b' = i) ∨ (0 ≤ b ∧ ¬ (rd_T26 l i).f1 > (rd_T26 l b).f1 ∧ b' = b)) := by
        by_cases hb : b < 0
        · exact ⟨i, best_first hB hb (by omega) hh, .inl ⟨hb, rfl⟩⟩
        · by_cases hm : (rd_T26 l i).f1 > (rd_T26 l b).f1
          · exact ⟨i, best_more hB (by omega) hh hm, .inr (.inl ⟨by omega, hm, rfl⟩)⟩
          · exact ⟨b, best_less hB (by omega) hm, .inr (.inr ⟨by omega, hm, rfl⟩)⟩
      obtain ⟨b', hB', hc⟩ := step
      obtain ⟨r, h0, h1, h2⟩ := ih (i + 1) b' (by omega) hB'
      unfold hitB at hh
      refine ⟨r, h0, fun k hk => ?_, fun k hk => ?_⟩
      · obtain ⟨k, rfl⟩ : ∃ m, k = m + 1 := ⟨k - 1, by omega⟩
        simp only [spec_NetBest.l0]
        rw [if_pos (by omega), if_pos (by omega), nethas_s (by omega), hh]
        simp only [Option.bind_some, if_true]
        rw [wrap_succ (by omega) (by omega)]
        rcases hc with ⟨hb, rfl⟩ | ⟨hb, hm, rfl⟩ | ⟨hb, hm, rfl⟩
        · rw [if_pos hb]; exact h1 k (by omega)
        · rw [if_neg (by omega), if_pos hb, if_pos (by omega), if_pos hm]; exact h1 k (by omega)
        · rw [if_neg (by omega), if_pos hb, if_pos (by omega), if_neg hm]; exact h1 k (by omega)
      · obtain ⟨k, rfl⟩ : ∃ m, k = m + 1 := ⟨k - 1, by omega⟩
        simp only [impl_NetBest.l0]
        rw [if_pos (by omega), if_pos (by omega), if_pos (by omega), nethas_i, hh]
        simp only [Option.bind_some, if_true]
        rw [wrap_succ (by omega) (by omega)]
        rcases hc with ⟨hb, rfl⟩ | ⟨hb, hm, rfl⟩ | ⟨hb, hm, rfl⟩
        · rw [if_pos hb]; exact h2 k (by omega)
        · rw [if_neg (by omega), if_pos hb, if_pos (by omega), if_pos hm]; exact h2 k (by omega)
        · rw [if_neg (by omega), if_pos hb, if_pos (by omega), if_neg hm]; exact h2 k (by omega)
/-- What both NetBests say. -/
theorem best_both (l : List S26) (x : Int) (hl : l.length < 9223372036854775807) :
    ∃ r, Best l x r l.length ∧ (∀ k, l.length + 20 < k → spec_NetBest.f k l x = some r) ∧ (∀ k, l.length < k → impl_NetBest.f k l x = some r) :=
  best_loop l x hl l.length 0 (-1) (by omega) (best_start l x)
theorem left_s {l : List S24} (hl : l.length ≤ 9223372036854775807) : laws_szNetPrefixS.f l 1048576 = some (if l.length ≤ 1048576 then 1048576 - (l.length : Int) else -1) := by
  unfold laws_szNetPrefixS.f
  rw [wrap_in (by omega) (by omega)]
  by_cases h : l.length ≤ 1048576
  · rw [if_neg (by omega), if_pos h]
  · rw [if_pos (by omega), if_neg h]
end Go.Proofs.Ytnakanjhdcakhaa.Pure
