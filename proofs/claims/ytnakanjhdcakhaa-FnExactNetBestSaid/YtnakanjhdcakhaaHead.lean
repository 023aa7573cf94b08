/- The head of the translation of this seat, read word by word: what the program's make is. Lemmas for the rows' closed facts; no statement of its own. -/
import Derived.Test.YtnakanjhdcakhaaRows
import Derived.JoinedOf
import Derived.KernelRfl
namespace Go.Proofs.Ytnakanjhdcakhaa
open Go
/-- The sign between two words. -/
def sp : Char := Char.ofNat 32
theorem toList_of {s : String} {l : List Char} (h : s = String.ofList l) : s.toList = l := by rw [h, String.toList_ofList]
theorem words_sp (t : List Char) : wordsSigns (sp :: t) = [] :: wordsSigns t := by
  show wordsSigns (Char.ofNat 32 :: t) = _
  rw [wordsSigns]
theorem words_step {c : Char} (hc : ¬ c = sp) {t w : List Char} {ws : List (List Char)} (h : wordsSigns t = w :: ws) : wordsSigns (c :: t) = (c :: w) :: ws := by
  rw [wordsSigns, h]
  exact fun he => hc he
theorem words_some : ∀ t : List Char, ∃ w ws, wordsSigns t = w :: ws
  | [] => ⟨[], [], by rw [wordsSigns]⟩
  | c :: t => by
    obtain ⟨w, ws, h⟩ := words_some t
    by_cases hc : c = sp
    · subst hc
      exact ⟨_, _, words_sp t⟩
    · exact ⟨_, _, words_step hc h⟩
theorem words_at (a r : List Char) : wordsSigns (a ++ sp :: r) = wordsSigns a ++ wordsSigns r := by
  induction a with
  | nil => rw [List.nil_append, words_sp, wordsSigns]; rfl
  | cons c a ih =>
    obtain ⟨w, ws, h⟩ := words_some a
    by_cases hc : c = sp
    · subst hc
      rw [List.cons_append, words_sp, words_sp, ih]
      rfl
    · rw [List.cons_append, words_step hc h, words_step hc (w := w) (ws := ws ++ wordsSigns r) (by rw [ih, h]; rfl)]
      rfl
theorem words_split (l : List Char) (n : Nat) (h : l[n]? = some sp) : wordsSigns l = wordsSigns (l.take n) ++ wordsSigns (l.drop (n + 1)) := by
  rw [← words_at]
  congr 1
  have he := (List.getElem?_eq_some_iff.1 h).2
  rw [← he]
  simp
theorem head_of {s : String} {l : List Char} (n : Nat) (ws : List (List Char)) (h : s = String.ofList l) (h1 : l[n]? = some sp) (h2 : wordsSigns (l.take n) = ws) : ∃ r, wordsSigns s.toList = ws ++ r :=
  ⟨_, by rw [toList_of h, words_split _ n h1, h2]⟩
set_option maxRecDepth 100000 in
theorem head3 : ∃ r, wordsSigns Try.prog.initOrder.toList = ["harness".toList, "462ad7bf8e1ea79014f7e8d723ac1231ad674e9abd73c42faf8348eef3736fe3".toList, "cut".toList] ++ r :=
  head_of 76 _ (show Try.prog.initOrder = String.ofList _ from rfl) (by kernel_rfl) (by kernel_rfl)
theorem behind_main (r : List (List Char)) : behindMainWord (["harness".toList, "462ad7bf8e1ea79014f7e8d723ac1231ad674e9abd73c42faf8348eef3736fe3".toList, "cut".toList] ++ r) = "cut".toList :: r := by kernel_rfl
theorem make_of (P : Program) (r : List (List Char)) (h : behindMainWord (wordsSigns P.initOrder.toList) = "cut".toList :: r) : P.make = some .cut := by
  unfold Program.make
  rw [h]
  kernel_rfl
theorem lifts_of (P : Program) (r : List (List Char)) (h : behindMainWord (wordsSigns P.initOrder.toList) = "cut".toList :: r) : P.liftsFinal = false := by
  unfold Program.liftsFinal Program.headLifts
  rw [h]
  cases r with
  | nil => kernel_rfl
  | cons a r => kernel_rfl
theorem strip_cut (r : List (List Char)) : stripLifts liftWords ("cut".toList :: r) = ([], "cut".toList :: r) := by kernel_rfl
theorem enter_of (P : Program) (r : List (List Char)) (h : behindMainWord (wordsSigns P.initOrder.toList) = "cut".toList :: r) (h1 : P.laysLater = false) (h2 : P.bearsReflect = false) (h3 : P.doorFits [] = true) : P.mayEnter = true := by
  unfold Program.mayEnter
  rw [h]
  simp only [strip_cut, h1, h2, h3]
  kernel_rfl
theorem head1 : ∃ r, behindMainWord (wordsSigns Try.prog.initOrder.toList) = "cut".toList :: r := by
  obtain ⟨r, hr⟩ := head3
  exact ⟨r, by rw [hr]; exact behind_main r⟩
theorem make_cut : Try.prog.make = some .cut := by
  obtain ⟨r, hr⟩ := head1
  exact make_of _ r hr
theorem lifts_no : Try.prog.liftsFinal = false := by
  obtain ⟨r, hr⟩ := head1
  exact lifts_of _ r hr
theorem may_enter : Try.prog.mayEnter = true := by
  obtain ⟨r, hr⟩ := head1
  exact enter_of _ r hr (by kernel_rfl) (by kernel_rfl) (by kernel_rfl)
theorem and_of {a b : Bool} (h1 : a = true) (h2 : b = true) : (a && b) = true := by rw [h1, h2]; rfl
theorem beq_of {α : Type} [BEq α] [LawfulBEq α] {a b : α} (h : a = b) : (a == b) = true := by rw [h]; exact beq_self_eq_true b
theorem beq_make {a b : Option Make} (h : a = b) (hb : (b == b) = true) : (a == b) = true := by rw [h]; exact hb
end Go.Proofs.Ytnakanjhdcakhaa
