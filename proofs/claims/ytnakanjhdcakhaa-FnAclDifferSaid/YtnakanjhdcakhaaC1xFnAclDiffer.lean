/- Lemmas for FnAclDiffer, part 1 of 5: the program's functions as Lean functions, what each Go function comes to, and plain lemmas on them. No statement of its own. -/
import Derived.Test.YtnakanjhdcakhaaRows
import Derived.JoinedOf
import Derived.KernelRfl
import Derived.Test.YtnakanjhdcakhaaProg
import Derived.Below
import Derived.Deep.Draws
import Derived.Deep.AppendLies
import Derived.Maps.AppendAt
import Derived.OwnWalk
import Derived.Laws.BytesArg
import Derived.Laws.MakeOwn
import Derived.Laws.OwnMore
import Derived.Deep.OwnRows
import Derived.Tactics
import Derived.Lib.ConvBytes
import Derived.Laws.Slices
import Derived.WalkKit
import Derived.RowKit3
import Derived.Deep.LoopGhost
import Derived.Deep.QuietTactic
import Derived.BigQuiet
import Derived.WideLaws
import Derived.Deep.DeepCutAuto
import Derived.Deep.CutBlock
import Derived.Deep.RegionHeld3
import Derived.Laws.Rows
import Derived.Lib.AppendStr
import Derived.ArgAppend
import Derived.Laws.IdiomCopy
import Derived.OrdersHeld
import Derived.Laws.BitsLemmas
import Derived.RowKit
import Derived.Test.YtnakanjhdcakhaaVWordsxFnAclDiffer
import Derived.Test.YtnakanjhdcakhaaVLastxFnAclDiffer
import Derived.Test.YtnakanjhdcakhaaVTabxFnAclDiffer
import Derived.Test.YtnakanjhdcakhaaVFourxFnAclDiffer
import Derived.Test.YtnakanjhdcakhaaVQPutxFnAclDiffer
import Derived.Test.YtnakanjhdcakhaaVApartxFnAclDiffer
import Derived.Test.YtnakanjhdcakhaaVArrxFnAclDiffer
import Derived.Test.YtnakanjhdcakhaaVZerosxFnAclDiffer
import Derived.Test.YtnakanjhdcakhaaVFootxFnAclDiffer
import Derived.Test.YtnakanjhdcakhaaVKeptxFnAclDiffer
import Derived.Test.YtnakanjhdcakhaaVSharexFnAclDiffer
import Derived.Test.YtnakanjhdcakhaaVNxFnAclDiffer
import Derived.Test.YtnakanjhdcakhaaVFootNexFnAclDiffer
import Derived.Test.YtnakanjhdcakhaaVAtxFnAclDiffer
import Derived.Test.YtnakanjhdcakhaaVEqStructxFnAclDiffer
import Derived.Test.YtnakanjhdcakhaaVRepsOnexFnAclDiffer
import Derived.Test.YtnakanjhdcakhaaVInvxFnAclDiffer
import Derived.Test.YtnakanjhdcakhaaVInvWordsxFnAclDiffer
import Derived.Test.YtnakanjhdcakhaaVGuardxFnAclDiffer
import Derived.Test.YtnakanjhdcakhaaVNEvxFnAclDiffer
import Derived.Test.YtnakanjhdcakhaaVMorexFnAclDiffer
import Derived.ProofKit
import Derived.Deep.Slices
import Derived.ChangeSame
import Derived.WideShapes
namespace Go.Proofs.Ytnakanjhdcakhaa
open Go
/-- The sign between two words. -/
def sp : Char := Char.ofNat 32
theorem toList_of {s : String} {l : List Char} (h : s = String.ofList l) : s.toList = l := by rw [h, String.toList_ofList]
theorem words_sp (t : List Char) : wordsSigns (sp :: t) = [] :: wordsSigns t := by
  show wordsSigns (Char.ofNat 32 :: t) = _
  rw [wordsSigns]
theorem words_step {c : Char} (hc : ¬ c = sp) {t w : List Char} {ws : List (List Char)} (h : wordsSigns t = w :: ws) : wordsSigns (c :: t) = (c :: w) :: ws := by
  rw [wordsSigns, h]
  exact fun he => hc he
theorem words_some : ∀ t : List Char, ∃ w ws, wordsSigns t = w :: ws
  | [] => ⟨[], [], by rw [wordsSigns]⟩
  | c :: t => by
    obtain ⟨w, ws, h⟩ := words_some t
    by_cases hc : c = sp
    · subst hc
      exact ⟨_, _, words_sp t⟩
    · exact ⟨_, _, words_step hc h⟩
theorem words_at (a r : List Char) : wordsSigns (a ++ sp :: r) = wordsSigns a ++ wordsSigns r := by
  induction a with
  | nil => rw [List.nil_append, words_sp, wordsSigns]; rfl
  | cons c a ih =>
    obtain ⟨w, ws, h⟩ := words_some a
    by_cases hc : c = sp
    · subst hc
      rw [List.cons_append, words_sp, words_sp, ih]
      rfl
    · rw [List.cons_append, words_step hc h, words_step hc (w := w) (ws := ws ++ wordsSigns r) (by rw [ih, h]; rfl)]
      rfl
theorem words_split (l : List Char) (n : Nat) (h : l[n]? = some sp) : wordsSigns l = wordsSigns (l.take n) ++ wordsSigns (l.drop (n + 1)) := by
  rw [← words_at]
  congr 1
  have he := (List.getElem?_eq_some_iff.1 h).2
  rw [← he]
  simp
theorem head_of {s : String} {l : List Char} (n : Nat) (ws : List (List Char)) (h : s = String.ofList l) (h1 : l[n]? = some sp) (h2 : wordsSigns (l.take n) = ws) : ∃ r, wordsSigns s.toList = ws ++ r :=
  ⟨_, by rw [toList_of h, words_split _ n h1, h2]⟩
set_option maxRecDepth 100000 in
theorem head3 : ∃ r, wordsSigns Try.prog.initOrder.toList = ["harness".toList, "462ad7bf8e1ea79014f7e8d723ac1231ad674e9abd73c42faf8348eef3736fe3".toList, "cut".toList] ++ r :=
  head_of 76 _ (show Try.prog.initOrder = String.ofList _ from rfl) (by kernel_rfl) (by kernel_rfl)
theorem behind_main (r : List (List Char)) : behindMainWord (["harness".toList, "462ad7bf8e1ea79014f7e8d723ac1231ad674e9abd73c42faf8348eef3736fe3".toList, "cut".toList] ++ r) = "cut".toList :: r := by kernel_rfl
theorem make_of (P : Program) (r : List (List Char)) (h : behindMainWord (wordsSigns P.initOrder.toList) = "cut".toList :: r) : P.make = some .cut := by
  unfold Program.make
  rw [h]
  kernel_rfl
theorem lifts_of (P : Program) (r : List (List Char)) (h : behindMainWord (wordsSigns P.initOrder.toList) = "cut".toList :: r) : P.liftsFinal = false := by
  unfold Program.liftsFinal Program.headLifts
  rw [h]
  cases r with
  | nil => kernel_rfl
  | cons a r => kernel_rfl
theorem strip_cut (r : List (List Char)) : stripLifts liftWords ("cut".toList :: r) = ([], "cut".toList :: r) := by kernel_rfl
theorem enter_of (P : Program) (r : List (List Char)) (h : behindMainWord (wordsSigns P.initOrder.toList) = "cut".toList :: r) (h1 : P.laysLater = false) (h2 : P.bearsReflect = false) (h3 : P.doorFits [] = true) : P.mayEnter = true := by
  unfold Program.mayEnter
  rw [h]
  simp only [strip_cut, h1, h2, h3]
  kernel_rfl
theorem head1 : ∃ r, behindMainWord (wordsSigns Try.prog.initOrder.toList) = "cut".toList :: r := by
  obtain ⟨r, hr⟩ := head3
  exact ⟨r, by rw [hr]; exact behind_main r⟩
theorem make_cut : Try.prog.make = some .cut := by
  obtain ⟨r, hr⟩ := head1
  exact make_of _ r hr
theorem lifts_no : Try.prog.liftsFinal = false := by
  obtain ⟨r, hr⟩ := head1
  exact lifts_of _ r hr
theorem may_enter : Try.prog.mayEnter = true := by
  obtain ⟨r, hr⟩ := head1
  exact enter_of _ r hr (by kernel_rfl) (by kernel_rfl) (by kernel_rfl)
theorem and_of {a b : Bool} (h1 : a = true) (h2 : b = true) : (a && b) = true := by rw [h1, h2]; rfl
theorem beq_of {α : Type} [BEq α] [LawfulBEq α] {a b : α} (h : a = b) : (a == b) = true := by rw [h]; exact beq_self_eq_true b
theorem beq_make {a b : Option Make} (h : a = b) (hb : (b == b) = true) : (a == b) = true := by rw [h]; exact hb
end Go.Proofs.Ytnakanjhdcakhaa
namespace Go.Proofs.Ytnakanjhdcakhaa.Q
open Go.RowKit Go.Proofs.YtnakanjhdcakhaaW.PrintWords Go.Proofs.YtnakanjhdcakhaaW.PrintLast Go.Proofs.YtnakanjhdcakhaaW.PrintMore
attribute [local go_sem] max2_int min2_int max_two min_two max_three min_three max_four min_four   -- for this text's walks alone
set_option linter.unusedVariables false
set_option linter.unusedSimpArgs false
def errW : Option Int → Value
  | none => .nilIface
  | some c => .iface 0 (.int .i64 c)
theorem errW_none : errW none = .nilIface := rfl
theorem errW_some (c : Int) : errW (some c) = .iface 0 (.int .i64 c) := rfl
theorem info3 : (Try.prog.info? 3).map (fun i => (i.zero, i.size, i.bytes)) = some (some (.int .i64 0), 1, 8) := by kernel_rfl
theorem info5 : (Try.prog.info? 5).map (fun i => (i.zero, i.size, i.bytes)) = some (some (.int .u8 0), 1, 1) := by kernel_rfl
theorem info26 : (Try.prog.info? 26).map (fun i => (i.zero, i.size, i.bytes)) = some (some (.agg #[(.int .i64 0), (.int .i64 0)]), 2, 16) := by kernel_rfl
theorem info54 : (Try.prog.info? 54).map (fun i => (i.zero, i.size, i.bytes)) = some (some (.agg #[(.bool false), (.int .i64 0), (.int .i64 0), (.int .i64 0), (.int .i64 0), (.int .i64 0)]), 6, 48) := by kernel_rfl
structure S26 where
  f0 : Int
  f1 : Int
def z26 : S26 := ⟨(0 : Int), (0 : Int)⟩
def k26 : Kd S26 := Kd.iso (Kd.pair (Kd.int .i64) (Kd.int .i64)) (fun x : S26 => (x.f0, x.f1))
theorem k26_open {w : World} {x : S26} {cs : List Value} (h : k26.K w x cs) : cs = [.int .i64 x.f0, .int .i64 x.f1] := by
  obtain ⟨_, _, rfl, rfl, rfl⟩ := h
  exact rfl
theorem k26_openM {w : World} {base : Nat} {ok : Nat → Prop} {x : S26} {cs : List Value} (h : k26.M w base ok x cs) : cs = [.int .i64 x.f0, .int .i64 x.f1] := by
  obtain ⟨_, _, rfl, rfl, rfl⟩ := h
  exact rfl
theorem k26_mkM (w : World) (base : Nat) (ok : Nat → Prop) (x : S26)  : k26.M w base ok x [.int .i64 x.f0, .int .i64 x.f1] := ⟨[.int .i64 x.f0], [.int .i64 x.f1], rfl, rfl, rfl⟩
def rd_T26 (xs : List S26) (i : Int) : S26 := xs.getD i.toNat z26
theorem at_T26 {w : World} {A : Option Addr} {n : Nat} {xs : List S26} (h : Kd.C k26 w A n xs) (i : Int) (h0 : 0 ≤ i) (h1 : i < n) : ∃ ad , A = some ad ∧ w.cell? (ad.add (i.toNat * 2)) = some (.int .i64 (rd_T26 xs i).f0) ∧ w.cell? ⟨(ad.add (i.toNat * 2)).block, (ad.add (i.toNat * 2)).off + 1, none⟩ = some (.int .i64 (rd_T26 xs i).f1) := by
  obtain ⟨ad, c, e, _, hK, hc0⟩ := Kd.C_get h z26 i h0 h1
  have hc : ∀ j u, c[j]? = some u → w.cell? (ad.add (i.toNat * 2 + j)) = some u := hc0
  obtain rfl := k26_open hK
  exact ⟨ad, e, hc 0 _ rfl, by rw [← add_field _ _ 1 (by omega)]; exact hc 1 _ rfl⟩
structure S54 where
  f0 : Bool
  f1 : S26
  f2 : S26
  f3 : Int
def z54 : S54 := ⟨false, z26, z26, (0 : Int)⟩
def k54 : Kd S54 := Kd.iso (Kd.pair Kd.bool (Kd.pair k26 (Kd.pair k26 (Kd.int .i64)))) (fun x : S54 => (x.f0, x.f1, x.f2, x.f3))
theorem k54_open {w : World} {x : S54} {cs : List Value} (h : k54.K w x cs) : cs = [.bool x.f0, .int .i64 x.f1.f0, .int .i64 x.f1.f1, .int .i64 x.f2.f0, .int .i64 x.f2.f1, .int .i64 x.f3] := by
  obtain ⟨_, _, rfl, rfl, ⟨_, _, rfl, s1, ⟨_, _, rfl, s3, rfl⟩⟩⟩ := h
  obtain rfl := k26_open s1
  obtain rfl := k26_open s3
  exact rfl
theorem k54_openM {w : World} {base : Nat} {ok : Nat → Prop} {x : S54} {cs : List Value} (h : k54.M w base ok x cs) : cs = [.bool x.f0, .int .i64 x.f1.f0, .int .i64 x.f1.f1, .int .i64 x.f2.f0, .int .i64 x.f2.f1, .int .i64 x.f3] := by
  obtain ⟨_, _, rfl, rfl, ⟨_, _, rfl, s1, ⟨_, _, rfl, s3, rfl⟩⟩⟩ := h
  obtain rfl := k26_openM s1
  obtain rfl := k26_openM s3
  exact rfl
theorem k54_mkM (w : World) (base : Nat) (ok : Nat → Prop) (x : S54)  : k54.M w base ok x [.bool x.f0, .int .i64 x.f1.f0, .int .i64 x.f1.f1, .int .i64 x.f2.f0, .int .i64 x.f2.f1, .int .i64 x.f3] := ⟨[.bool x.f0], [.int .i64 x.f1.f0, .int .i64 x.f1.f1, .int .i64 x.f2.f0, .int .i64 x.f2.f1, .int .i64 x.f3], rfl, rfl, ⟨[.int .i64 x.f1.f0, .int .i64 x.f1.f1], [.int .i64 x.f2.f0, .int .i64 x.f2.f1, .int .i64 x.f3], rfl, (k26_mkM w base ok x.f1 ), ⟨[.int .i64 x.f2.f0, .int .i64 x.f2.f1], [.int .i64 x.f3], rfl, (k26_mkM w base ok x.f2 ), rfl⟩⟩⟩
def rd_T54 (xs : List S54) (i : Int) : S54 := xs.getD i.toNat z54
theorem at_T54 {w : World} {A : Option Addr} {n : Nat} {xs : List S54} (h : Kd.C k54 w A n xs) (i : Int) (h0 : 0 ≤ i) (h1 : i < n) : ∃ ad , A = some ad ∧ w.cell? (ad.add (i.toNat * 6)) = some (.bool (rd_T54 xs i).f0) ∧ w.cell? ⟨(ad.add (i.toNat * 6)).block, (ad.add (i.toNat * 6)).off + 1, none⟩ = some (.int .i64 (rd_T54 xs i).f1.f0) ∧ w.cell? ⟨(ad.add (i.toNat * 6)).block, (ad.add (i.toNat * 6)).off + 2, none⟩ = some (.int .i64 (rd_T54 xs i).f1.f1) ∧ w.cell? ⟨(ad.add (i.toNat * 6)).block, (ad.add (i.toNat * 6)).off + 3, none⟩ = some (.int .i64 (rd_T54 xs i).f2.f0) ∧ w.cell? ⟨(ad.add (i.toNat * 6)).block, (ad.add (i.toNat * 6)).off + 4, none⟩ = some (.int .i64 (rd_T54 xs i).f2.f1) ∧ w.cell? ⟨(ad.add (i.toNat * 6)).block, (ad.add (i.toNat * 6)).off + 5, none⟩ = some (.int .i64 (rd_T54 xs i).f3) := by
  obtain ⟨ad, c, e, _, hK, hc0⟩ := Kd.C_get h z54 i h0 h1
  have hc : ∀ j u, c[j]? = some u → w.cell? (ad.add (i.toNat * 6 + j)) = some u := hc0
  obtain rfl := k54_open hK
  exact ⟨ad, e, hc 0 _ rfl, by rw [← add_field _ _ 1 (by omega)]; exact hc 1 _ rfl, by rw [← add_field _ _ 2 (by omega)]; exact hc 2 _ rfl, by rw [← add_field _ _ 3 (by omega)]; exact hc 3 _ rfl, by rw [← add_field _ _ 4 (by omega)]; exact hc 4 _ rfl, by rw [← add_field _ _ 5 (by omega)]; exact hc 5 _ rfl⟩
end Go.Proofs.Ytnakanjhdcakhaa.Q
namespace Go.Proofs.Ytnakanjhdcakhaa
open Go.ChangeShapes Go.WideShapes Go.ChangeAt Go.RowKit Go.Deep
open Go.Proofs.YtnakanjhdcakhaaW.PrintWords
open Q
section
variable {H : Type} {enc : TypeId × Value → H} {w : World} {base : Nat} {spare : Nat → Bool} {held : Bool}
theorem choose_list {α : Type} (Q : Nat → α → Prop) : ∀ n : Nat, (∀ i, i < n → ∃ x, Q i x) → ∃ l : List α, l.length = n ∧ ∀ (i : Nat) (p : α), l[i]? = some p → Q i p
  | 0, _ => ⟨[], rfl, fun i p h => by simp at h⟩
  | n + 1, h => by
    obtain ⟨l, hl, hq⟩ := choose_list Q n (fun i hi => h i (by omega))
    obtain ⟨x, hx⟩ := h n (by omega)
    refine ⟨l ++ [x], by simp [hl], fun i p hp => ?_⟩
    rcases Nat.lt_or_ge i n with hi | hi
    · rw [List.getElem?_append_left (by omega)] at hp
      exact hq i p hp
    · rw [List.getElem?_append_right (by omega)] at hp
      have : i = n := by
        rcases Nat.lt_or_ge (i - l.length) 1 with h1 | h1
        · omega
        · rw [List.getElem?_eq_none (by simpa using h1)] at hp
          cases hp
      subst this
      simp [hl] at hp
      exact hp ▸ hx
/-- A slice whose elements read so: as the printed functions take it. -/
theorem open_row {α : Type} {d : Kd α} {t e : TypeId} {a : Option Addr} {len cap : Nat} {D : DataW H} {p : List MemPlace} (ht : Try.prog.underlying t = some (.slice e)) (hc : Try.prog.cellsOf e = d.sz)
    (hel : ∀ (n : Nat) (cs : List Value) (y : DataW H × List MemPlace), DataW.trod enc Try.prog w 0 (fun _ => true) held n e cs = some y → ∃ x : α, d.K w x cs)
    (h : DataW.Trod enc Try.prog w 0 (fun _ => true) held t (.slice a len cap) D p) : ∃ l : List α, l.length = len ∧ len ≤ cap ∧ cap ≤ maxLen ∧ Kd.C d w a len l := by
  obtain ⟨fuel, hf⟩ := h
  rcases open_slice ht hf with ⟨hcs, _⟩ | ⟨a0, len0, cap0, m, n, D0, Pl, hcs, _, hl, hm, hmm, _, hi⟩
  · simp [Value.cells] at hcs
    obtain ⟨rfl, rfl, rfl⟩ := hcs
    exact ⟨[], rfl, Nat.le_refl _, Nat.zero_le _, rfl, by omega, fun h => absurd h (Nat.lt_irrefl _)⟩
  · simp [Value.cells] at hcs
    obtain ⟨rfl, rfl, rfl⟩ := hcs
    simp only [if_true] at hmm
    obtain ⟨l, hll, hlq⟩ := choose_list (fun i (x : α) => ∃ c : List Value, c.length = d.sz ∧ d.K w x c ∧ ∀ i' u, c[i']? = some u → w.cell? (a0.add (i * d.sz + i')) = some u) len (fun i hlt => by
      obtain ⟨cs', hcc, hy⟩ := hi i (by omega)
      obtain ⟨x, hx⟩ := hel _ _ _ hy
      obtain ⟨_, hcl, hat⟩ := World.cells?_some hcc
      rw [hc] at hcl hat
      refine ⟨x, cs', hcl, hx, fun i' u hu => ?_⟩
      have hlt' : i' < cs'.length := (List.getElem?_eq_some_iff.1 hu).1
      rw [← Go.Deep.add_add]
      exact (hat i' (by omega)).trans hu)
    unfold maxLen at hm
    exact ⟨l, hll, hl, by unfold maxLen; exact hm, hll, by omega, fun _ => ⟨a0, rfl, hlq⟩⟩
end
end Go.Proofs.Ytnakanjhdcakhaa
namespace Go.Proofs.Ytnakanjhdcakhaa
open Go.ChangeShapes Go.WideShapes Go.ChangeAt Go.RowKit Go.Deep
open Go.Proofs.YtnakanjhdcakhaaW.PrintWords
open Q
section
variable {H : Type} {enc : TypeId × Value → H} {w : World} {base : Nat} {spare : Nat → Bool} {held : Bool}
structure Byte where
  val : Int
  le : 0 ≤ val ∧ val ≤ 255
def kB : Kd Byte := Kd.iso (Kd.int .u8) (fun x : Byte => x.val)
theorem cellsOf5 : Try.prog.cellsOf 5 = 1 := by kernel_rfl
theorem byte_of {n : Nat} {cs : List Value} {y : DataW H × List MemPlace} (h : DataW.trod enc Try.prog w base spare held n 5 cs = some y) : ∃ x : Byte, kB.K w x cs := by
  obtain ⟨x, rfl, _, hw⟩ := DataW.trod_int Try.underlying5 h
  have hb : 0 ≤ x ∧ x ≤ 255 := by
    simp [Lit.wf, IntKind.min, IntKind.max, IntKind.signed, IntKind.bits] at hw
    omega
  exact ⟨⟨x, hb⟩, rfl⟩
theorem open_bytes {a : Option Addr} {len cap : Nat} {D : DataW H} {p : List MemPlace} (h : DataW.Trod enc Try.prog w 0 (fun _ => true) held 29 (.slice a len cap) D p) : ∃ l : List Int, l.length = len ∧ len ≤ cap ∧ cap ≤ maxLen ∧ Kd.C (Kd.int .u8) w a len l ∧ ∀ x ∈ l, 0 ≤ x ∧ x ≤ 255 := by
  obtain ⟨l, h1, h2, h3, h4⟩ := open_row (d := kB) Try.underlying29 cellsOf5 (fun n cs y hy => byte_of hy) h
  refine ⟨l.map Byte.val, by rw [List.length_map]; exact h1, h2, h3, ?_, fun x hx => ?_⟩
  · refine ⟨by rw [List.length_map]; exact h4.1, h4.2.1, fun hp => ?_⟩
    obtain ⟨ad, e, hq⟩ := h4.2.2 hp
    refine ⟨ad, e, fun i q hi => ?_⟩
    rw [List.getElem?_map] at hi
    obtain ⟨b, hb, rfl⟩ := Option.map_eq_some_iff.1 hi
    exact hq i b hb
  · obtain ⟨b, _, rfl⟩ := List.mem_map.1 hx
    exact b.le
end
end Go.Proofs.Ytnakanjhdcakhaa
namespace Go.Proofs.Ytnakanjhdcakhaa.Q
open Go.RowKit Go.Proofs.YtnakanjhdcakhaaW.PrintWords Go.Proofs.YtnakanjhdcakhaaW.PrintLast Go.Proofs.YtnakanjhdcakhaaW.PrintMore
attribute [local go_sem] max2_int min2_int max_two min_two max_three min_three max_four min_four   -- for this text's walks alone
set_option linter.unusedVariables false
set_option linter.unusedSimpArgs false
theorem eqA34 (d : Nat) (w : World) (x0 y0 : Int) (x1 y1 : Int) (x2 y2 : Int) :
    (Op.equalIn (d + 2) 34 (.agg #[.int .i64 x0, .int .i64 x1, .int .i64 x2]) (.agg #[.int .i64 y0, .int .i64 y1, .int .i64 y2])).run Try.prog w = .ok (x0 == y0 && (x1 == y1 && (x2 == y2))) w := by
  refine eqA_of Try.underlying34 (by kernel_rfl) ?_
  refine eqf_cons (by rfl) (by go_simp; rfl) (by go_simp; rfl) (by go_simp) ?_
  refine eqf_cons (by rfl) (by go_simp; rfl) (by go_simp; rfl) (by go_simp) ?_
  exact eqf_last (by rfl) (by go_simp; rfl) (by go_simp; rfl) (by go_simp)
end Go.Proofs.Ytnakanjhdcakhaa.Q
namespace Go.Proofs.Ytnakanjhdcakhaa.Q
open Go.RowKit Go.Proofs.YtnakanjhdcakhaaW.PrintWords Go.Proofs.YtnakanjhdcakhaaW.PrintLast Go.Proofs.YtnakanjhdcakhaaW.PrintMore
attribute [local go_sem] max2_int min2_int max_two min_two max_three min_three max_four min_four   -- for this text's walks alone
set_option linter.unusedVariables false
set_option linter.unusedSimpArgs false
/-- A state of type 117 at block g of W; what its slices lead to came in by w0. -/
def IsS117 (w0 W : World) (g : Nat) (f0 : List Int) (f1 : Int) : Prop := ∃ A0 c0, W.heap[g]? = some (.cells #[.slice A0 f0.length c0, .int .i64 f1] 117 (0, 0)) ∧ w0.heap.size ≤ g ∧ Kd.C (Kd.int .u8) w0 A0 f0.length f0
theorem IsS117.grown {w0 W : World} {g : Nat} {f0 : List Int} {f1 : Int} {W1 : World} {row : Option Nat} (h : IsS117 w0 W g f0 f1) (hw : W.grownBy W1 row) (hne : some g ≠ row) : IsS117 w0 W1 g f0 f1 := by
  obtain ⟨A0, c0, hb, hg, hr0⟩ := h
  exact ⟨A0, c0, blk_grown hb hw hne, hg, hr0⟩
theorem IsS117.kept {w0 W : World} {g : Nat} {f0 : List Int} {f1 : Int} {W1 : World} {S : Nat → Prop} (h : IsS117 w0 W g f0 f1) (hk : Kept W W1 S) (hne : ¬ S g) : IsS117 w0 W1 g f0 f1 := by
  obtain ⟨A0, c0, hb, hg, hr0⟩ := h
  exact ⟨A0, c0, blk_kept hb hk hne, hg, hr0⟩
theorem IsS117.below {w0 W : World} {g : Nat} {f0 : List Int} {f1 : Int} {W1 : World} (h : IsS117 w0 W g f0 f1) (hw : Below W.heap.size W W1) : IsS117 w0 W1 g f0 f1 := h.grown (grown_of_below hw none) (by simp)
theorem IsS117.alloc {w0 W : World} {g : Nat} {f0 : List Int} {f1 : Int} (h : IsS117 w0 W g f0 f1) (o : Obj) : IsS117 w0 (W.alloc o) g f0 f1 := h.below (below_alloc (Below.refl _ _) o)
theorem IsS117.drewN {w0 W : World} {g : Nat} {f0 : List Int} {f1 : Int} (h : IsS117 w0 W g f0 f1) (m : Nat) : IsS117 w0 (W.drewN m) g f0 f1 := h
theorem IsS117.drew {w0 W : World} {g : Nat} {f0 : List Int} {f1 : Int} (h : IsS117 w0 W g f0 f1) : IsS117 w0 W.drew g f0 f1 := h
theorem IsS117.at_ {w0 W : World} {g : Nat} {f0 : List Int} {f1 : Int} {w' : World} {m : Nat} (hq : W.drewN m = w') (h : IsS117 w0 W g f0 f1) : IsS117 w0 w' g f0 f1 := by subst hq; exact IsS117.drewN h m
theorem IsS117.apart {w0 W : World} {g : Nat} {f0 : List Int} {f1 : Int} {α : Type} {d : Kd α} {e : Nat} {base : Nat} {ok : Nat → Prop} {v : Value} {xs : List α} (h : IsS117 w0 W g f0 f1) (ho : d.R e W base ok v xs) (ht : ∀ q, q ∈ e :: d.E → q ≠ 117) : d.R e W base (fun k => ok k ∧ k ≠ g) v xs := by
  obtain ⟨A0, c0, hb, hg, hr0⟩ := h
  exact Kd.R_types ho hb ht
theorem IsS117.own_ne {w0 W : World} {g : Nat} {f0 : List Int} {f1 : Int} {α : Type} {d : Kd α} {e : Nat} {base : Nat} {ok : Nat → Prop} {v : Value} {xs : List α} (h : IsS117 w0 W g f0 f1) (ho : d.R e W base ok v xs) (ht : e ≠ 117) : some g ≠ v.ownBlock := by
  obtain ⟨A0, c0, hb, hg, hr0⟩ := h
  exact Kd.R_ne ho hb ht
theorem IsS117.lt {w0 W : World} {g : Nat} {f0 : List Int} {f1 : Int} (h : IsS117 w0 W g f0 f1) : g < W.heap.size := by
  obtain ⟨A0, c0, hb, hg, hr0⟩ := h
  exact blk_lt hb
theorem IsS117.ge {w0 W : World} {g : Nat} {f0 : List Int} {f1 : Int} (h : IsS117 w0 W g f0 f1) : w0.heap.size ≤ g := by
  obtain ⟨A0, c0, hb, hg, hr0⟩ := h
  exact hg
theorem IsS117.ne_blk {w0 W : World} {g : Nat} {f0 : List Int} {f1 : Int} {a : Nat} {cs : Array Value} {t : TypeId} {fr : Nat × Nat} (h : IsS117 w0 W g f0 f1) (hb2 : W.heap[a]? = some (.cells cs t fr)) (ht : t ≠ 117) : g ≠ a := by
  obtain ⟨A0, c0, hb, hg, hr0⟩ := h
  rintro rfl
  rw [hb] at hb2
  injection hb2 with hb2
  injection hb2 with _ ht2
  exact ht ht2.symm
theorem IsS117.far {w0 W : World} {g : Nat} {f0 : List Int} {f1 : Int} {p : Addr} (h : IsS117 w0 W g f0 f1) (hne : g ≠ p.block) (u : Value) : IsS117 w0 (W.setCell p u) g f0 f1 := by
  obtain ⟨A0, c0, hb, hg, hr0⟩ := h
  exact ⟨A0, c0, blk_far hb hne u, hg, hr0⟩
theorem cellS117_0 {W : World} {g : Nat} {A0 : Option Addr} {c0 : Nat} {f0 : List Int} {f1 : Int} (h : W.heap[g]? = some (.cells #[.slice A0 f0.length c0, .int .i64 f1] 117 (0, 0))) : W.cell? ⟨g, 0, none⟩ = some (.slice A0 f0.length c0) := (blk_cell h 0).trans rfl
theorem cellS117_1 {W : World} {g : Nat} {A0 : Option Addr} {c0 : Nat} {f0 : List Int} {f1 : Int} (h : W.heap[g]? = some (.cells #[.slice A0 f0.length c0, .int .i64 f1] 117 (0, 0))) : W.cell? ⟨g, 1, none⟩ = some (.int .i64 f1) := (blk_cell h 1).trans rfl
theorem IsS117.set_1 {w0 W : World} {g : Nat} {f0 : List Int} {f1 : Int} (h : IsS117 w0 W g f0 f1) (x : Int) : IsS117 w0 (W.setCell ⟨g, 1, none⟩ (.int .i64 x)) g f0 x := by
  obtain ⟨A0, c0, hb, hg, hr0⟩ := h
  exact ⟨A0, c0, by simpa using blk_set hb 1 (.int .i64 x), hg, hr0⟩
theorem IsS117.new (w0 W : World) (A0 : Option Addr) (c0 : Nat) (f0 : List Int) (f1 : Int) (hB : Below w0.heap.size w0 W) (hr0 : Kd.C (Kd.int .u8) w0 A0 f0.length f0) : IsS117 w0 (W.alloc (.cells #[.slice A0 f0.length c0, .int .i64 f1] 117)) W.heap.size f0 f1 := ⟨A0, c0, by simpa using heap_alloc_new W _, hB.size, hr0⟩
def spec_l1Open.f (l0 : List Int) : Option (List Int × Int) := if (l0.length : Int) > 2000 then (if 2000 ≤ (l0.length : Int) then (some (l0.take 2000, 0)) else (none)) else (some (l0, 0))
set_option maxHeartbeats 8000000 in
set_option maxRecDepth 100000 in
theorem spec_l1Open.calls (A0 : Option Addr) (c0 : Nat) (l0 : List Int) (r1 : List Int) (r2 : Int) (w0 w : World) (hB : Below w0.heap.size w0 w) (hr0 : Kd.C (Kd.int .u8) w0 A0 l0.length l0) (hc0 : l0.length ≤ c0) (h : spec_l1Open.f l0 = some (r1, r2)) :
    Calls Try.prog 79 #[.slice A0 l0.length c0] w fun e w' => ∃ g_ : Nat, e = .returned (.pointer (some ⟨g_, 0, none⟩)) ∧ IsS117 w0 w' g_ r1 r2 ∧ Below w0.heap.size w0 w' ∧ Below w.heap.size w w' := by
  have hu117 := Try.underlying117
  have HR0 := Aside0.mk hr0
  have HC0 := Aside0.mk hc0
  clear hr0 hc0
  have HBW := Aside0.mk (Below.refl w.heap.size w)
  have HW0 := Aside0.mk hB.size
  have HB := Aside0.mk hB
  clear hB
  have H : (if (l0.length : Int) > 2000 then (if 2000 ≤ (l0.length : Int) then (some (l0.take 2000, 0)) else (none)) else (some (l0, 0))) = some (r1, r2) := h
  clear h
  by_cases c2 : (l0.length : Int) > 2000
  · rw [if_pos c2] at H
    have c2b0 : decide (2000 < (l0.length : Int)) = true := decide_eq_true c2
    have c2b1 : decide (2000 < l0.length) = true := decide_eq_true (by omega)
    clear c2
    by_cases c3 : 2000 ≤ (l0.length : Int)
    · rw [if_pos c3] at H
      have c3b0 := eq_true c3
      have c3b1 : decide (2000 ≤ (l0.length : Int)) = true := decide_eq_true c3
      clear c3
      simp only [Option.some.injEq, Prod.mk.injEq] at H
      obtain ⟨rfl, rfl⟩ := H
      obtain ⟨i04, hi04, _, hsz4, _⟩ := info_parts info5
      obtain ⟨hcut4, hA4, hC4⟩ := print_take_of (P := Try.prog) (Value.int .u8) 0 29 5 .i64 Try.underlying29 hi04 hsz4 A0 c0 l0 2000 (by omega) (of_decide_eq_true (by first | (with_reducible assumption) | assumption)) HC0.out
      have HR101 := Aside0.mk (Kd.C_of_reads (h1 := fun _ => rfl) (hA4 _ (Kd.reads_of_C HR0.out)))
      have HC101 := Aside0.mk hC4
      clear hA4 hC4 hi04 hsz4
      go_enter Try.func79, Try.ntmps79
      go_wp2_with (first | ((with_reducible refine gate_dst (N := 10) rfl ?_); refine box_event ?hg (N := 10) ?hd (cs := #[.slice A0 (l0.take 2000).length c0, .int .i64 0]) (t := 117) ?hr ?_; (case hd => rfl); (case hg => rfl); (case hr => first | (go_simp; done) | (go_simp; rfl)); intro gb102 hg w5 hbox hb; have n0_ := Aside0.mk (below_step HBW.out hb); have n1_ := Aside0.mk (below_step (by repeat (first | (with_reducible first | exact HB.out | apply below_alloc | apply pw_below_drewN | apply below_drew1) | exact HB.out)) hb); have n2_ := Aside0.mk (hbox); have n3_ := Aside0.mk ((by rw [hg]; exact (below_size (by repeat (first | (with_reducible first | exact HBW.out | apply below_alloc | apply pw_below_drewN | apply below_drew1) | exact HBW.out))) : w.heap.size ≤ gb102)); have n4_ := Aside0.mk ((Nat.le_trans HW0.out (by rw [hg]; exact (below_size (by repeat (first | (with_reducible first | exact HBW.out | apply below_alloc | apply pw_below_drewN | apply below_drew1) | exact HBW.out))) : w.heap.size ≤ gb102) : w0.heap.size ≤ gb102)); clear HBW; clear HB; have HBW := n0_; have HB := n1_; have BK102 := n2_; have GW102 := n3_; have GE102 := n4_; clear n0_ n1_ n2_ n3_ n4_; clear hb hbox hg))
      go_ret
      exact ⟨_, rfl, (show IsS117 w0 _ gb102 (l0.take 2000) 0 from ⟨_, _, by (with_reducible repeat (first | refine blk_drewN ?_ _ | refine blk_drew ?_ | refine blk_alloc ?_ _)); exact BK102.out, GE102.out, HR101.out⟩), by repeat (first | (with_reducible first | exact HB.out | apply below_alloc | apply pw_below_drewN | apply below_drew1 | refine below_set ?_ GE102.out) | exact HB.out), by repeat (first | (with_reducible first | exact HBW.out | apply below_alloc | apply pw_below_drewN | apply below_drew1 | refine below_set ?_ GW102.out) | exact HBW.out)⟩
    · rw [if_neg c3] at H
      exact absurd H (by simp)
  · rw [if_neg c2] at H
    have c2b0 : decide (2000 < (l0.length : Int)) = false := decide_eq_false c2
    have c2b1 : decide (2000 < l0.length) = false := decide_eq_false (by omega)
    clear c2
    simp only [Option.some.injEq, Prod.mk.injEq] at H
    obtain ⟨rfl, rfl⟩ := H
    go_enter Try.func79, Try.ntmps79
    go_wp2_with (first | ((with_reducible refine gate_dst (N := 10) rfl ?_); refine box_event ?hg (N := 10) ?hd (cs := #[.slice A0 l0.length c0, .int .i64 0]) (t := 117) ?hr ?_; (case hd => rfl); (case hg => rfl); (case hr => first | (go_simp; done) | (go_simp; rfl)); intro gb103 hg w6 hbox hb; have n0_ := Aside0.mk (below_step HBW.out hb); have n1_ := Aside0.mk (below_step (by repeat (first | (with_reducible first | exact HB.out | apply below_alloc | apply pw_below_drewN | apply below_drew1) | exact HB.out)) hb); have n2_ := Aside0.mk (hbox); have n3_ := Aside0.mk ((by rw [hg]; exact (below_size (by repeat (first | (with_reducible first | exact HBW.out | apply below_alloc | apply pw_below_drewN | apply below_drew1) | exact HBW.out))) : w.heap.size ≤ gb103)); have n4_ := Aside0.mk ((Nat.le_trans HW0.out (by rw [hg]; exact (below_size (by repeat (first | (with_reducible first | exact HBW.out | apply below_alloc | apply pw_below_drewN | apply below_drew1) | exact HBW.out))) : w.heap.size ≤ gb103) : w0.heap.size ≤ gb103)); clear HBW; clear HB; have HBW := n0_; have HB := n1_; have BK103 := n2_; have GW103 := n3_; have GE103 := n4_; clear n0_ n1_ n2_ n3_ n4_; clear hb hbox hg))
    go_ret
    exact ⟨_, rfl, (show IsS117 w0 _ gb103 l0 0 from ⟨_, _, by (with_reducible repeat (first | refine blk_drewN ?_ _ | refine blk_drew ?_ | refine blk_alloc ?_ _)); exact BK103.out, GE103.out, HR0.out⟩), by repeat (first | (with_reducible first | exact HB.out | apply below_alloc | apply pw_below_drewN | apply below_drew1 | refine below_set ?_ GE103.out) | exact HB.out), by repeat (first | (with_reducible first | exact HBW.out | apply below_alloc | apply pw_below_drewN | apply below_drew1 | refine below_set ?_ GW103.out) | exact HBW.out)⟩
end Go.Proofs.Ytnakanjhdcakhaa.Q
namespace Go.Proofs.Ytnakanjhdcakhaa.Q
open Go.RowKit Go.Proofs.YtnakanjhdcakhaaW.PrintWords Go.Proofs.YtnakanjhdcakhaaW.PrintLast Go.Proofs.YtnakanjhdcakhaaW.PrintMore
attribute [local go_sem] max2_int min2_int max_two min_two max_three min_three max_four min_four   -- for this text's walks alone
set_option linter.unusedVariables false
set_option linter.unusedSimpArgs false
def spec_l1Rd_pick.j0 : Nat → Int → Bool → List Int → Int → Option (Int × Int)
  | 0, _, _, _, _ => none
  | k + 1, x1, x24, x1000, x1001 => if x24 = true then (some (0, x1001)) else (if (wrap64 (x1001 - 1)) < (x1000.length : Int) then (if 0 ≤ (wrap64 (x1001 - 1)) then (if x1 = 0 then (none) else (some (Int.tmod (wrap64 (rd x1000 (wrap64 (x1001 - 1)))) x1, x1001))) else (none)) else (if (x1000.length : Int) = 0 then (none) else (if 0 ≤ (Int.tmod (wrap64 (x1001 - 1)) (x1000.length : Int)) then (if (Int.tmod (wrap64 (x1001 - 1)) (x1000.length : Int)) < (x1000.length : Int) then (if 0 ≤ (Int.tmod (wrap64 ((wrap64 ((wrap64 (x1001 - 1)) * 7)) + 3)) (x1000.length : Int)) then (if (Int.tmod (wrap64 ((wrap64 ((wrap64 (x1001 - 1)) * 7)) + 3)) (x1000.length : Int)) < (x1000.length : Int) then (if x1 = 0 then (none) else (some (Int.tmod (Go.bits .xor .i64 (wrap64 ((wrap64 ((wrap64 ((wrap64 ((wrap64 (rd x1000 (Int.tmod (wrap64 (x1001 - 1)) (x1000.length : Int)))) * 131)) + (wrap64 ((wrap64 (rd x1000 (Int.tmod (wrap64 ((wrap64 ((wrap64 (x1001 - 1)) * 7)) + 3)) (x1000.length : Int)))) * 1117)))) + (wrap64 ((wrap64 (x1001 - 1)) * 29)))) + (wrap64 ((wrap64 (Int.tdiv (wrap64 (x1001 - 1)) (x1000.length : Int))) * 53)))) (wrap64 (Int.tdiv (wrap64 ((wrap64 ((wrap64 ((wrap64 ((wrap64 (rd x1000 (Int.tmod (wrap64 (x1001 - 1)) (x1000.length : Int)))) * 131)) + (wrap64 ((wrap64 (rd x1000 (Int.tmod (wrap64 ((wrap64 ((wrap64 (x1001 - 1)) * 7)) + 3)) (x1000.length : Int)))) * 1117)))) + (wrap64 ((wrap64 (x1001 - 1)) * 29)))) + (wrap64 ((wrap64 (Int.tdiv (wrap64 (x1001 - 1)) (x1000.length : Int))) * 53)))) 64))) x1, x1001))) else (none)) else (none)) else (none)) else (none))))
def spec_l1Rd_pick.f (k : Nat) (s0_0 : List Int) (s0_1 : Int) (a1 : Int) : Option (Int × Int) := if a1 < 1 then (spec_l1Rd_pick.j0 k a1 true s0_0 (wrap64 (s0_1 + 1))) else (spec_l1Rd_pick.j0 k a1 ((s0_0.length : Int) == 0) s0_0 (wrap64 (s0_1 + 1)))
set_option maxHeartbeats 8000000 in
set_option maxRecDepth 100000 in
theorem spec_l1Rd_pick.calls (k : Nat) (g : Nat) (s0_0 : List Int) (s0_1 : Int) (a1 : Int) (r1 : Int) (r2 : Int) (w0 w : World) (hI : IsS117 w0 w g s0_0 s0_1) (hB : Below w0.heap.size w0 w) (h : spec_l1Rd_pick.f k s0_0 s0_1 a1 = some (r1, r2)) :
    Calls Try.prog 81 #[.pointer (some ⟨g, 0, none⟩), .int .i64 a1] w fun e w' => e = .returned (.int .i64 r1) ∧ IsS117 w0 w' g s0_0 r2 ∧ Below w0.heap.size w0 w' ∧ KeepBut w w' g none := by
  have HI0 := Aside0.mk hI
  have HK := Aside0.mk (KeepBut.refl w g none)
  have HL := Aside0.mk hB.size
  clear hI
  have HW0 := Aside0.mk hB.size
  have HB := Aside0.mk hB
  clear hB
  have H : (if a1 < 1 then (spec_l1Rd_pick.j0 k a1 true s0_0 (wrap64 (s0_1 + 1))) else (spec_l1Rd_pick.j0 k a1 ((s0_0.length : Int) == 0) s0_0 (wrap64 (s0_1 + 1)))) = some (r1, r2) := h
  clear h
  have HC3 := Aside0.mk H
  clear H
  obtain ⟨ASz4_0, cSz4_0, HGz4, hgz4, HSz4_0⟩ := HI0.out
  have hcz4_0 := cellS117_0 HGz4
  have hcz4_1 := cellS117_1 HGz4
  have hfz4_1 := blk_frozen HGz4 1
  clear HGz4 hgz4
  go_enter Try.func81, Try.ntmps81
  go_upto_region 2 with (fail)
  repeat (go_quiet (fail); go_upto_region 2 with (fail))
  go_cut [24] (fun v24 wc => ∃ (kq : Nat) (x24_2 : Bool), v24 = .bool x24_2 ∧ Aside0 (spec_l1Rd_pick.j0 kq a1 x24_2 s0_0 (wrap64 (s0_1 + 1)) = some (r1, r2)) ∧ Aside0 (kq ≤ k) ∧ Aside0 (IsS117 w0 wc g s0_0 (wrap64 (s0_1 + 1))) ∧ Aside0 (KeepBut w wc g none) ∧ Aside0 (Below w0.heap.size w0 wc))
  case first =>
    have H := HC3.out
    clear HC3
    by_cases c5 : a1 < 1
    · rw [if_pos c5] at H
      have c5b0 : decide (a1 < 1) = true := decide_eq_true c5
      clear c5
      (first | rw [c5b0] | (simp only [i64_w, i32_w]; rw [c5b0]) | skip)
      have H' := Aside0.mk H
      clear H
      go_wp2
      repeat (go_quiet (fail); try go_wp2)
      go_meet
      case rel => exact ⟨_, (true), (by first | rfl | (simp; done) | (simp [*]; done)), H', ⟨by first | omega | exact Nat.le_refl _⟩, ⟨by repeat (first | (with_reducible first | exact HI0.out | apply IsS117.alloc | apply IsS117.drewN | apply IsS117.drew | apply IsS117.set_1) | exact HI0.out)⟩, ⟨by repeat (first | (with_reducible first | exact HK.out | apply KeepBut.set_ | apply keep_drewN | apply keep_drew | apply keep_alloc) | exact HK.out)⟩, ⟨by repeat (first | (with_reducible first | exact HB.out | apply below_alloc | apply pw_below_drewN | apply below_drew1 | refine below_set ?_ (IsS117.ge HI0.out)) | exact HB.out)⟩⟩
    · rw [if_neg c5] at H
      have c5b0 : decide (a1 < 1) = false := decide_eq_false c5
      clear c5
      (first | rw [c5b0] | (simp only [i64_w, i32_w]; rw [c5b0]) | skip)
      have H' := Aside0.mk H
      clear H
      obtain ⟨ASz6_0, cSz6_0, HGz6, hgz6, HSz6_0⟩ := HI0.out
      have hcz6_0 := cellS117_0 HGz6
      have hcz6_1 := cellS117_1 HGz6
      have hfz6_1 := blk_frozen HGz6 1
      clear HGz6 hgz6
      go_wp2
      repeat (go_quiet (fail); try go_wp2)
      go_meet
      case rel => exact ⟨_, (((s0_0.length : Int) == 0)), (by first | rfl | (simp; done) | (simp [*]; done)), H', ⟨by first | omega | exact Nat.le_refl _⟩, ⟨by repeat (first | (with_reducible first | exact HI0.out | apply IsS117.alloc | apply IsS117.drewN | apply IsS117.drew | apply IsS117.set_1) | exact HI0.out)⟩, ⟨by repeat (first | (with_reducible first | exact HK.out | apply KeepBut.set_ | apply keep_drewN | apply keep_drew | apply keep_alloc) | exact HK.out)⟩, ⟨by repeat (first | (with_reducible first | exact HB.out | apply below_alloc | apply pw_below_drewN | apply below_drew1 | refine below_set ?_ (IsS117.ge HI0.out)) | exact HB.out)⟩⟩
  case rest =>
    clear HC3
    try clear p2
    try clear c5
    try clear c5b0
    try clear p6
    try clear hcz4_0
    try clear hcz4_1
    try clear hcz6_0
    try clear hcz6_1
    try clear hfz4_1
    try clear hfz6_1
    obtain ⟨kq, x24_2, rfl, HA, HJ2, HI0, HK, HB⟩ := hcut
    cases kq with
    | zero => exact absurd HA.out (by simp [spec_l1Rd_pick.j0])
    | succ kj2 =>
      have H := HA.out
      clear HA
      simp only [spec_l1Rd_pick.j0] at H
      by_cases c7 : x24_2 = true
      · subst c7
        have H1 : (some (0, (wrap64 (s0_1 + 1)))) = some (r1, r2) := by rw [if_pos rfl] at H; exact H
        clear H
        have H := H1
        clear H1
        simp only [Option.some.injEq, Prod.mk.injEq] at H
        obtain ⟨rfl, rfl⟩ := H
        go_wp2
        repeat (go_quiet (fail); try go_wp2)
        go_ret
        exact ⟨by first | rfl | (simp [errW_none, errW_some] <;> rfl) | (simp [*, errW_none, errW_some] <;> rfl), by repeat (first | (with_reducible first | exact HI0.out | apply IsS117.alloc | apply IsS117.drewN | apply IsS117.drew | apply IsS117.set_1) | exact HI0.out), by repeat (first | (with_reducible first | exact HB.out | apply below_alloc | apply pw_below_drewN | apply below_drew1 | refine below_set ?_ (IsS117.ge HI0.out)) | exact HB.out), by repeat (first | (with_reducible first | exact HK.out | apply KeepBut.set_ | apply keep_drewN | apply keep_drew | apply keep_alloc) | exact HK.out)⟩
      · replace c7 := Bool.eq_false_iff.mpr c7
        subst c7
        have H1 : (if (wrap64 ((wrap64 (s0_1 + 1)) - 1)) < (s0_0.length : Int) then (if 0 ≤ (wrap64 ((wrap64 (s0_1 + 1)) - 1)) then (if a1 = 0 then (none) else (some (Int.tmod (wrap64 (rd s0_0 (wrap64 ((wrap64 (s0_1 + 1)) - 1)))) a1, (wrap64 (s0_1 + 1))))) else (none)) else (if (s0_0.length : Int) = 0 then (none) else (if 0 ≤ (Int.tmod (wrap64 ((wrap64 (s0_1 + 1)) - 1)) (s0_0.length : Int)) then (if (Int.tmod (wrap64 ((wrap64 (s0_1 + 1)) - 1)) (s0_0.length : Int)) < (s0_0.length : Int) then (if 0 ≤ (Int.tmod (wrap64 ((wrap64 ((wrap64 ((wrap64 (s0_1 + 1)) - 1)) * 7)) + 3)) (s0_0.length : Int)) then (if (Int.tmod (wrap64 ((wrap64 ((wrap64 ((wrap64 (s0_1 + 1)) - 1)) * 7)) + 3)) (s0_0.length : Int)) < (s0_0.length : Int) then (if a1 = 0 then (none) else (some (Int.tmod (Go.bits .xor .i64 (wrap64 ((wrap64 ((wrap64 ((wrap64 ((wrap64 (rd s0_0 (Int.tmod (wrap64 ((wrap64 (s0_1 + 1)) - 1)) (s0_0.length : Int)))) * 131)) + (wrap64 ((wrap64 (rd s0_0 (Int.tmod (wrap64 ((wrap64 ((wrap64 ((wrap64 (s0_1 + 1)) - 1)) * 7)) + 3)) (s0_0.length : Int)))) * 1117)))) + (wrap64 ((wrap64 ((wrap64 (s0_1 + 1)) - 1)) * 29)))) + (wrap64 ((wrap64 (Int.tdiv (wrap64 ((wrap64 (s0_1 + 1)) - 1)) (s0_0.length : Int))) * 53)))) (wrap64 (Int.tdiv (wrap64 ((wrap64 ((wrap64 ((wrap64 ((wrap64 (rd s0_0 (Int.tmod (wrap64 ((wrap64 (s0_1 + 1)) - 1)) (s0_0.length : Int)))) * 131)) + (wrap64 ((wrap64 (rd s0_0 (Int.tmod (wrap64 ((wrap64 ((wrap64 ((wrap64 (s0_1 + 1)) - 1)) * 7)) + 3)) (s0_0.length : Int)))) * 1117)))) + (wrap64 ((wrap64 ((wrap64 (s0_1 + 1)) - 1)) * 29)))) + (wrap64 ((wrap64 (Int.tdiv (wrap64 ((wrap64 (s0_1 + 1)) - 1)) (s0_0.length : Int))) * 53)))) 64))) a1, (wrap64 (s0_1 + 1))))) else (none)) else (none)) else (none)) else (none)))) = some (r1, r2) := by rw [if_neg (show ¬ (false = true) by decide)] at H; exact H
        clear H
        have H := H1
        clear H1
        by_cases c8 : (wrap64 ((wrap64 (s0_1 + 1)) - 1)) < (s0_0.length : Int)
        · rw [if_pos c8] at H
          have c8b0 : decide ((wrap64 ((wrap64 (s0_1 + 1)) - 1)) < (s0_0.length : Int)) = true := decide_eq_true c8
          clear c8
          obtain ⟨ji9, hji9⟩ : ∃ j_ : Int, (wrap64 ((wrap64 (s0_1 + 1)) - 1)) = j_ := ⟨_, rfl⟩
          replace H : (if 0 ≤ (ji9) then (if a1 = 0 then (none) else (some (Int.tmod (wrap64 (rd s0_0 (ji9))) a1, (wrap64 (s0_1 + 1))))) else (none)) = some (r1, r2) := by first | (rw [hji9] at H; exact H) | (simp only [hji9] at H ⊢; exact H)
          (try rw [hji9] at c8b0)
          have hji9w : (IntKind.i64.wrap ((wrap64 (s0_1 + 1)) - 1)) = ji9 := (i64_w _).trans hji9
          by_cases c10 : 0 ≤ (ji9)
          · rw [if_pos c10] at H
            have c10b0 : decide (0 ≤ (ji9)) = true := decide_eq_true c10
            clear c10
            by_cases c11 : a1 = 0
            · rw [if_pos c11] at H
              exact absurd H (by simp)
            · rw [if_neg c11] at H
              have c11b0 : (a1 == 0) = false := beq_eq_false_iff_ne.mpr c11
              have c11b1 : (a1 != 0) = true := bne_iff_ne.mpr c11
              simp only [Option.some.injEq, Prod.mk.injEq] at H
              obtain ⟨rfl, rfl⟩ := H
              obtain ⟨ASz12_0, cSz12_0, HGz12, hgz12, HSz12_0⟩ := HI0.out
              have hcz12_0 := cellS117_0 HGz12
              have hcz12_1 := cellS117_1 HGz12
              have hfz12_1 := blk_frozen HGz12 1
              clear HGz12 hgz12
              have p101 : 0 ≤ ((ji9) : Int) := of_decide_eq_true (by first | (with_reducible assumption) | assumption)
              have q101 : (ji9) < (s0_0.length : Int) := of_decide_eq_true (by first | (with_reducible assumption) | assumption)
              obtain ⟨ad101, e101, hx101_0⟩ := Kd.at_int HSz12_0 (ji9) p101 q101
              cases e101
              replace hx101_0 := pw_cell_below HB.out hx101_0
              replace p101 := eq_true p101
              replace q101 := eq_true q101
              go_wp2
              repeat (go_quiet (fail); try go_wp2)
              go_ret
              exact ⟨by first | rfl | (simp [errW_none, errW_some] <;> rfl) | (simp only [← hji9]; first | rfl | (simp [errW_none, errW_some] <;> rfl)) | (simp [*, errW_none, errW_some] <;> rfl), by repeat (first | (with_reducible first | exact HI0.out | apply IsS117.alloc | apply IsS117.drewN | apply IsS117.drew | apply IsS117.set_1) | exact HI0.out), by repeat (first | (with_reducible first | exact HB.out | apply below_alloc | apply pw_below_drewN | apply below_drew1 | refine below_set ?_ (IsS117.ge HI0.out)) | exact HB.out), by repeat (first | (with_reducible first | exact HK.out | apply KeepBut.set_ | apply keep_drewN | apply keep_drew | apply keep_alloc) | exact HK.out)⟩
          · rw [if_neg c10] at H
            exact absurd H (by simp)
        · rw [if_neg c8] at H
          have c8b0 : decide ((wrap64 ((wrap64 (s0_1 + 1)) - 1)) < (s0_0.length : Int)) = false := decide_eq_false c8
          clear c8
          by_cases c13 : (s0_0.length : Int) = 0
          · rw [if_pos c13] at H
            exact absurd H (by simp)
          · rw [if_neg c13] at H
            have c13b0 : ((s0_0.length : Int) == 0) = false := beq_eq_false_iff_ne.mpr c13
            have c13b1 : ((s0_0.length : Int) != 0) = true := bne_iff_ne.mpr c13
            have c13b2 : ¬ (s0_0 = []) := fun h_ => c13 (by rw [h_]; rfl)
            obtain ⟨ji14, hji14⟩ : ∃ j_ : Int, (Int.tmod (wrap64 ((wrap64 (s0_1 + 1)) - 1)) (s0_0.length : Int)) = j_ := ⟨_, rfl⟩
            replace H : (if 0 ≤ (ji14) then (if (ji14) < (s0_0.length : Int) then (if 0 ≤ (Int.tmod (wrap64 ((wrap64 ((wrap64 ((wrap64 (s0_1 + 1)) - 1)) * 7)) + 3)) (s0_0.length : Int)) then (if (Int.tmod (wrap64 ((wrap64 ((wrap64 ((wrap64 (s0_1 + 1)) - 1)) * 7)) + 3)) (s0_0.length : Int)) < (s0_0.length : Int) then (if a1 = 0 then (none) else (some (Int.tmod (Go.bits .xor .i64 (wrap64 ((wrap64 ((wrap64 ((wrap64 ((wrap64 (rd s0_0 (ji14))) * 131)) + (wrap64 ((wrap64 (rd s0_0 (Int.tmod (wrap64 ((wrap64 ((wrap64 ((wrap64 (s0_1 + 1)) - 1)) * 7)) + 3)) (s0_0.length : Int)))) * 1117)))) + (wrap64 ((wrap64 ((wrap64 (s0_1 + 1)) - 1)) * 29)))) + (wrap64 ((wrap64 (Int.tdiv (wrap64 ((wrap64 (s0_1 + 1)) - 1)) (s0_0.length : Int))) * 53)))) (wrap64 (Int.tdiv (wrap64 ((wrap64 ((wrap64 ((wrap64 ((wrap64 (rd s0_0 (ji14))) * 131)) + (wrap64 ((wrap64 (rd s0_0 (Int.tmod (wrap64 ((wrap64 ((wrap64 ((wrap64 (s0_1 + 1)) - 1)) * 7)) + 3)) (s0_0.length : Int)))) * 1117)))) + (wrap64 ((wrap64 ((wrap64 (s0_1 + 1)) - 1)) * 29)))) + (wrap64 ((wrap64 (Int.tdiv (wrap64 ((wrap64 (s0_1 + 1)) - 1)) (s0_0.length : Int))) * 53)))) 64))) a1, (wrap64 (s0_1 + 1))))) else (none)) else (none)) else (none)) else (none)) = some (r1, r2) := by first | (rw [hji14] at H; exact H) | (simp only [hji14] at H ⊢; exact H)
            by_cases c15 : 0 ≤ (ji14)
            · rw [if_pos c15] at H
              have c15b0 : decide (0 ≤ (ji14)) = true := decide_eq_true c15
              clear c15
              by_cases c16 : (ji14) < (s0_0.length : Int)
              · rw [if_pos c16] at H
                have c16b0 : decide ((ji14) < (s0_0.length : Int)) = true := decide_eq_true c16
                clear c16
                obtain ⟨ji17, hji17⟩ : ∃ j_ : Int, (Int.tmod (wrap64 ((wrap64 ((wrap64 ((wrap64 (s0_1 + 1)) - 1)) * 7)) + 3)) (s0_0.length : Int)) = j_ := ⟨_, rfl⟩
                replace H : (if 0 ≤ (ji17) then (if (ji17) < (s0_0.length : Int) then (if a1 = 0 then (none) else (some (Int.tmod (Go.bits .xor .i64 (wrap64 ((wrap64 ((wrap64 ((wrap64 ((wrap64 (rd s0_0 (ji14))) * 131)) + (wrap64 ((wrap64 (rd s0_0 (ji17))) * 1117)))) + (wrap64 ((wrap64 ((wrap64 (s0_1 + 1)) - 1)) * 29)))) + (wrap64 ((wrap64 (Int.tdiv (wrap64 ((wrap64 (s0_1 + 1)) - 1)) (s0_0.length : Int))) * 53)))) (wrap64 (Int.tdiv (wrap64 ((wrap64 ((wrap64 ((wrap64 ((wrap64 (rd s0_0 (ji14))) * 131)) + (wrap64 ((wrap64 (rd s0_0 (ji17))) * 1117)))) + (wrap64 ((wrap64 ((wrap64 (s0_1 + 1)) - 1)) * 29)))) + (wrap64 ((wrap64 (Int.tdiv (wrap64 ((wrap64 (s0_1 + 1)) - 1)) (s0_0.length : Int))) * 53)))) 64))) a1, (wrap64 (s0_1 + 1))))) else (none)) else (none)) = some (r1, r2) := by first | (rw [hji17] at H; exact H) | (simp only [hji17] at H ⊢; exact H)
                by_cases c18 : 0 ≤ (ji17)
                · rw [if_pos c18] at H
                  have c18b0 : decide (0 ≤ (ji17)) = true := decide_eq_true c18
                  clear c18
                  by_cases c19 : (ji17) < (s0_0.length : Int)
                  · rw [if_pos c19] at H
                    have c19b0 : decide ((ji17) < (s0_0.length : Int)) = true := decide_eq_true c19
                    clear c19
                    by_cases c20 : a1 = 0
                    · rw [if_pos c20] at H
                      exact absurd H (by simp)
                    · rw [if_neg c20] at H
                      have c20b0 : (a1 == 0) = false := beq_eq_false_iff_ne.mpr c20
                      have c20b1 : (a1 != 0) = true := bne_iff_ne.mpr c20
                      simp only [Option.some.injEq, Prod.mk.injEq] at H
                      obtain ⟨rfl, rfl⟩ := H
                      obtain ⟨ASz21_0, cSz21_0, HGz21, hgz21, HSz21_0⟩ := HI0.out
                      have hcz21_0 := cellS117_0 HGz21
                      have hcz21_1 := cellS117_1 HGz21
                      have hfz21_1 := blk_frozen HGz21 1
                      clear HGz21 hgz21
                      have p102 : 0 ≤ ((ji14) : Int) := of_decide_eq_true (by first | (with_reducible assumption) | assumption)
                      have q102 : (ji14) < (s0_0.length : Int) := of_decide_eq_true (by first | (with_reducible assumption) | assumption)
                      obtain ⟨ad102, e102, hx102_0⟩ := Kd.at_int HSz21_0 (ji14) p102 q102
                      cases e102
                      replace hx102_0 := pw_cell_below HB.out hx102_0
                      replace p102 := eq_true p102
                      replace q102 := eq_true q102
                      have p103 : 0 ≤ ((ji17) : Int) := of_decide_eq_true (by first | (with_reducible assumption) | assumption)
                      have q103 : (ji17) < (s0_0.length : Int) := of_decide_eq_true (by first | (with_reducible assumption) | assumption)
                      obtain ⟨ad103, e103, hx103_0⟩ := Kd.at_int HSz21_0 (ji17) p103 q103
                      obtain rfl : ad102 = ad103 := (by injection e103)
                      replace hx103_0 := pw_cell_below HB.out hx103_0
                      replace p103 := eq_true p103
                      replace q103 := eq_true q103
                      go_wp2
                      repeat (go_quiet (fail); try go_wp2)
                      go_ret
                      exact ⟨by first | rfl | (simp [errW_none, errW_some] <;> rfl) | (simp only [← hji14, ← hji17]; first | rfl | (simp [errW_none, errW_some] <;> rfl)) | (simp [*, errW_none, errW_some] <;> rfl), by repeat (first | (with_reducible first | exact HI0.out | apply IsS117.alloc | apply IsS117.drewN | apply IsS117.drew | apply IsS117.set_1) | exact HI0.out), by repeat (first | (with_reducible first | exact HB.out | apply below_alloc | apply pw_below_drewN | apply below_drew1 | refine below_set ?_ (IsS117.ge HI0.out)) | exact HB.out), by repeat (first | (with_reducible first | exact HK.out | apply KeepBut.set_ | apply keep_drewN | apply keep_drew | apply keep_alloc) | exact HK.out)⟩
                  · rw [if_neg c19] at H
                    exact absurd H (by simp)
                · rw [if_neg c18] at H
                  exact absurd H (by simp)
              · rw [if_neg c16] at H
                exact absurd H (by simp)
            · rw [if_neg c15] at H
              exact absurd H (by simp)
end Go.Proofs.Ytnakanjhdcakhaa.Q
namespace Go.Proofs.Ytnakanjhdcakhaa.Q
open Go.RowKit Go.Proofs.YtnakanjhdcakhaaW.PrintWords Go.Proofs.YtnakanjhdcakhaaW.PrintLast Go.Proofs.YtnakanjhdcakhaaW.PrintMore
attribute [local go_sem] max2_int min2_int max_two min_two max_three min_three max_four min_four   -- for this text's walks alone
set_option linter.unusedVariables false
set_option linter.unusedSimpArgs false
def spec_l1Size.l0 : Nat → Int → Int → Option (Int)
  | 0, _, _ => none
  | k + 1, x3, x4 => if x4 < 16 then (spec_l1Size.l0 k (wrap64 (x3 * 2)) (wrap64 (x4 + 1))) else (some x3)
def spec_l1Size.f (k : Nat) (a0 : Int) : Option (Int) := spec_l1Size.l0 k 1 a0
theorem spec_l1Size.mono_l : ∀ k, (∀ y0 y1, LeO (spec_l1Size.l0 k y0 y1) (spec_l1Size.l0 (k + 1) y0 y1))
  | 0 => fun _ _ r h => by simp [spec_l1Size.l0] at h
  | k + 1 => by
    have ih0 := spec_l1Size.mono_l k
    · intro y0 y1
      unfold spec_l1Size.l0
      repeat' first
      | (with_reducible exact ih0 _ _)
      | (with_reducible exact LeO.refl _)
      | (with_reducible exact LeO.none _)
      | (with_reducible refine LeO.ite ?_ ?_)
      | (with_reducible refine LeO.bind ?_ (fun _ => ?_))
      | exact ih0 _ _
      | exact LeO.none _
      | refine LeO.ite ?_ ?_
      | refine LeO.bind ?_ (fun _ => ?_)
theorem spec_l1Size.mono : ∀ a0 k, LeO (spec_l1Size.f k a0) (spec_l1Size.f (k + 1) a0) := by
  intro a0 k
  have ih0 := spec_l1Size.mono_l k
  unfold spec_l1Size.f
  repeat' first
      | (with_reducible exact ih0 _ _)
      | (with_reducible exact LeO.refl _)
      | (with_reducible exact LeO.none _)
      | (with_reducible refine LeO.ite ?_ ?_)
      | (with_reducible refine LeO.bind ?_ (fun _ => ?_))
      | exact ih0 _ _
      | exact LeO.none _
      | refine LeO.ite ?_ ?_
      | refine LeO.bind ?_ (fun _ => ?_)
set_option maxHeartbeats 8000000 in
set_option maxRecDepth 100000 in
theorem spec_l1Size.calls (k : Nat) (a0 : Int) (r : Int) (w : World) (h : spec_l1Size.f k a0 = some r) :
    Calls Try.prog 76 #[.int .i64 a0] w fun e w' => e = .returned (.int .i64 r) ∧ Drawn0 w w' := by
  have H : (spec_l1Size.l0 k 1 a0) = some r := h
  clear h
  have H' := Aside0.mk H
  clear H
  go_enter Try.func76, Try.ntmps76
  go_wp2
  go_loopg [3, 4] k (fun kq v3 v4 w' => ∃ (x3_1 : Int) (x4_1 : Int), v3 = .int .i64 x3_1 ∧ v4 = .int .i64 x4_1 ∧ Aside0 (spec_l1Size.l0 kq x3_1 x4_1 = some r) ∧ Aside0 (kq ≤ k) ∧ Drawn0 w w')
  case atStart => exact ⟨(1), (a0), (by first | rfl | (simp; done) | (simp [*]; done)), (by first | rfl | (simp; done) | (simp [*]; done)), H', ⟨Nat.le_refl _⟩, by repeat (first | exact Drawn0.refl _ | apply Drawn0.step)⟩
  case round =>
    clear H'
    obtain ⟨x3_1, x4_1, rfl, rfl, HA, HK1, ⟨m1, rfl⟩⟩ := hrel
    cases gk with
    | zero => exact absurd HA.out (by simp [spec_l1Size.l0])
    | succ k1 =>
      have H := HA.out
      clear HA
      simp only [spec_l1Size.l0] at H
      by_cases c2 : x4_1 < 16
      · rw [if_pos c2] at H
        have c2b0 : decide (x4_1 < 16) = true := decide_eq_true c2
        clear c2
        have H' := Aside0.mk H
        clear H
        go_wp2
        go_roundg k1
        case measure => have := HK1.out; omega
        case rel => exact ⟨(wrap64 (x3_1 * 2)), (wrap64 (x4_1 + 1)), (by first | rfl | (simp; done) | (simp [*]; done)), (by first | rfl | (simp; done) | (simp [*]; done)), H', ⟨by have := HK1.out; omega⟩, by repeat (first | exact Drawn0.refl _ | apply Drawn0.step)⟩
      · rw [if_neg c2] at H
        have c2b0 : decide (x4_1 < 16) = false := decide_eq_false c2
        clear c2
        obtain rfl := Option.some.inj H
        go_wp2
        go_ret
        exact ⟨by first | rfl | (simp; done) | (simp [*]; done), by repeat (first | exact Drawn0.refl _ | apply Drawn0.step)⟩
end Go.Proofs.Ytnakanjhdcakhaa.Q
namespace Go.Proofs.Ytnakanjhdcakhaa.Q
open Go.RowKit Go.Proofs.YtnakanjhdcakhaaW.PrintWords Go.Proofs.YtnakanjhdcakhaaW.PrintLast Go.Proofs.YtnakanjhdcakhaaW.PrintMore
attribute [local go_sem] max2_int min2_int max_two min_two max_three min_three max_four min_four   -- for this text's walks alone
set_option linter.unusedVariables false
set_option linter.unusedSimpArgs false
def spec_l1Halves.f (k : Nat) (a0_0 : Int) (a0_1 : Int) : Option (Int × Int × Int × Int) := (spec_l1Size.f k (wrap64 (a0_1 + 1))).bind fun t104 => (some (a0_0, wrap64 (a0_1 + 1), wrap64 (a0_0 + t104), wrap64 (a0_1 + 1)))
def spec_l1Halves.T1 : Bool × List (List Nat × List Nat) := (true, [([], []), ([0], [0]), ([], []), ([2], [2]), ([3], [3]), ([1, 4], [1, 4]), ([], []), ([6], [6]), ([], []), ([8], [8]), ([9], [9]), ([10], [10]), ([7, 11], [7, 11]), ([], []), ([13], [13]), ([14], [14]), ([12, 15], [12, 15]), ([5, 11, 0, 1, 2, 3, 4, 5], [5]), ([16, 17, 0, 1, 2, 3, 4, 5, 6, 7, 8, 9, 10, 11, 12, 13, 14, 15, 16, 17], [16])])
def spec_l1Halves.B1 : List Nat := [0, 1, 0, 4, 12, 31, 0, 64, 0, 256, 768, 1792, 4032, 0, 8192, 24576, 65472, 3903, 262143]
theorem spec_l1Halves.tab1 : rtab .any (opsOf Try.f93 1) = spec_l1Halves.T1 := by kernel_rfl
theorem spec_l1Halves.bits1 : waitsOk spec_l1Halves.T1.2 spec_l1Halves.B1 = true := by kernel_rfl
set_option maxHeartbeats 8000000 in
set_option maxRecDepth 100000 in
theorem spec_l1Halves.calls (k : Nat) (a0_0 : Int) (a0_1 : Int) (r1 : Int) (r2 : Int) (r3 : Int) (r4 : Int) (w : World) (h : spec_l1Halves.f k a0_0 a0_1 = some (r1, r2, r3, r4)) :
    Calls Try.prog 93 #[.agg #[.int .i64 a0_0, .int .i64 a0_1]] w fun e w' => e = .returned (.tuple #[.agg #[.int .i64 r1, .int .i64 r2], .agg #[.int .i64 r3, .int .i64 r4]]) ∧ Below w.heap.size w w' := by
  have hu26 := Try.underlying26
  have HB := Aside0.mk (Below.refl w.heap.size w)
  have H : ((spec_l1Size.f k (wrap64 (a0_1 + 1))).bind fun t104 => (some (a0_0, wrap64 (a0_1 + 1), wrap64 (a0_0 + t104), wrap64 (a0_1 + 1)))) = some (r1, r2, r3, r4) := h
  clear h
  replace H := Option.bind_eq_some_iff.mp H
  obtain ⟨t104, A20, H⟩ := H
  replace H : (some (a0_0, wrap64 (a0_1 + 1), wrap64 (a0_0 + t104), wrap64 (a0_1 + 1))) = some (r1, r2, r3, r4) := H
  have A2 := Aside0.mk A20
  clear A20
  simp only [Option.some.injEq, Prod.mk.injEq] at H
  obtain ⟨rfl, rfl, rfl, rfl⟩ := H
  go_enter Try.func93, Try.ntmps93
  try go_wp2_with (first | ((with_reducible refine gate_dst (N := 1) rfl ?_); refine box_event ?hg (N := 1) ?hd (cs := #[.int .i64 a0_0, .int .i64 a0_1]) (t := 26) ?hr ?_; (case hd => rfl); (case hg => rfl); (case hr => first | (go_simp; done) | (go_simp; rfl)); intro gb101 hg w3 hbox hb; have n0_ := Aside0.mk (below_step (by repeat (first | (with_reducible first | exact HB.out | apply below_alloc | apply pw_below_drewN | apply below_drew1) | exact HB.out)) hb); have n1_ := Aside0.mk (hbox); have n2_ := Aside0.mk ((by rw [hg]; exact (below_size (by repeat (first | (with_reducible first | exact HB.out | apply below_alloc | apply pw_below_drewN | apply below_drew1) | exact HB.out))) : w.heap.size ≤ gb101)); have n3_ := Aside0.mk ((by rw [hg]; exact (below_size (by repeat (first | (with_reducible first | exact HB.out | apply below_alloc | apply pw_below_drewN | apply below_drew1) | exact HB.out))) : w.heap.size ≤ gb101)); clear HB; have HB := n0_; have BK101 := n1_; have GW101 := n2_; have GE101 := n3_; clear n0_ n1_ n2_ n3_; clear hb hbox hg) | ((with_reducible refine gate_dst (N := 2) rfl ?_); refine box_event ?hg (N := 2) ?hd (cs := #[.int .i64 0, .int .i64 0]) (t := 26) ?hr ?_; (case hd => rfl); (case hg => rfl); (case hr => first | (go_simp; done) | (go_simp; rfl)); intro gb102 hg w4 hbox hb; have n0_ := Aside0.mk (blk_below (g := gb101) (o := .cells #[.int .i64 a0_0, .int .i64 a0_1] 26 (0, 0)) (by (with_reducible repeat (first | refine blk_drewN ?_ _ | refine blk_drew ?_ | refine blk_alloc ?_ _)); exact BK101.out) hb); have n1_ := Aside0.mk (below_step (by repeat (first | (with_reducible first | exact HB.out | apply below_alloc | apply pw_below_drewN | apply below_drew1 | refine below_set ?_ GE101.out) | exact HB.out)) hb); have n2_ := Aside0.mk (hbox); have n3_ := Aside0.mk ((by rw [hg]; exact (below_size (by repeat (first | (with_reducible first | exact HB.out | apply below_alloc | apply pw_below_drewN | apply below_drew1 | refine below_set ?_ GE101.out) | exact HB.out))) : w.heap.size ≤ gb102)); have n4_ := Aside0.mk ((by rw [hg]; exact (below_size (by repeat (first | (with_reducible first | exact HB.out | apply below_alloc | apply pw_below_drewN | apply below_drew1 | refine below_set ?_ GE101.out) | exact HB.out))) : w.heap.size ≤ gb102)); have n5_ := Aside0.mk ((by rw [hg]; exact Nat.ne_of_lt (blk_lt (g := gb101) (o := .cells #[.int .i64 a0_0, .int .i64 a0_1] 26 (0, 0)) (by (with_reducible repeat (first | refine blk_drewN ?_ _ | refine blk_drew ?_ | refine blk_alloc ?_ _)); exact BK101.out)) : gb101 ≠ gb102)); have n6_ := Aside0.mk ((by rw [hg]; exact Nat.ne_of_gt (blk_lt (g := gb101) (o := .cells #[.int .i64 a0_0, .int .i64 a0_1] 26 (0, 0)) (by (with_reducible repeat (first | refine blk_drewN ?_ _ | refine blk_drew ?_ | refine blk_alloc ?_ _)); exact BK101.out)) : gb102 ≠ gb101)); clear BK101; clear HB; have BK101 := n0_; have HB := n1_; have BK102 := n2_; have GW102 := n3_; have GE102 := n4_; have NB101_102 := n5_; have NB102_101 := n6_; clear n0_ n1_ n2_ n3_ n4_ n5_ n6_; clear hb hbox hg) | ((with_reducible refine gate_dst (N := 3) rfl ?_); refine box_event ?hg (N := 3) ?hd (cs := #[.int .i64 0, .int .i64 0]) (t := 26) ?hr ?_; (case hd => rfl); (case hg => rfl); (case hr => first | (go_simp; done) | (go_simp; rfl)); intro gb103 hg w5 hbox hb; have n0_ := Aside0.mk (blk_below (g := gb101) (o := .cells #[.int .i64 a0_0, .int .i64 a0_1] 26 (0, 0)) (by (with_reducible repeat (first | refine blk_drewN ?_ _ | refine blk_drew ?_ | refine blk_alloc ?_ _)); exact BK101.out) hb); have n1_ := Aside0.mk (blk_below (g := gb102) (o := .cells #[.int .i64 0, .int .i64 0] 26 (0, 0)) (by (with_reducible repeat (first | refine blk_drewN ?_ _ | refine blk_drew ?_ | refine blk_alloc ?_ _)); exact BK102.out) hb); have n2_ := Aside0.mk (below_step (by repeat (first | (with_reducible first | exact HB.out | apply below_alloc | apply pw_below_drewN | apply below_drew1 | refine below_set ?_ GE101.out | refine below_set ?_ GE102.out) | exact HB.out)) hb); have n3_ := Aside0.mk (hbox); have n4_ := Aside0.mk ((by rw [hg]; exact (below_size (by repeat (first | (with_reducible first | exact HB.out | apply below_alloc | apply pw_below_drewN | apply below_drew1 | refine below_set ?_ GE101.out | refine below_set ?_ GE102.out) | exact HB.out))) : w.heap.size ≤ gb103)); have n5_ := Aside0.mk ((by rw [hg]; exact (below_size (by repeat (first | (with_reducible first | exact HB.out | apply below_alloc | apply pw_below_drewN | apply below_drew1 | refine below_set ?_ GE101.out | refine below_set ?_ GE102.out) | exact HB.out))) : w.heap.size ≤ gb103)); have n6_ := Aside0.mk ((by rw [hg]; exact Nat.ne_of_lt (blk_lt (g := gb101) (o := .cells #[.int .i64 a0_0, .int .i64 a0_1] 26 (0, 0)) (by (with_reducible repeat (first | refine blk_drewN ?_ _ | refine blk_drew ?_ | refine blk_alloc ?_ _)); exact BK101.out)) : gb101 ≠ gb103)); have n7_ := Aside0.mk ((by rw [hg]; exact Nat.ne_of_gt (blk_lt (g := gb101) (o := .cells #[.int .i64 a0_0, .int .i64 a0_1] 26 (0, 0)) (by (with_reducible repeat (first | refine blk_drewN ?_ _ | refine blk_drew ?_ | refine blk_alloc ?_ _)); exact BK101.out)) : gb103 ≠ gb101)); have n8_ := Aside0.mk ((by rw [hg]; exact Nat.ne_of_lt (blk_lt (g := gb102) (o := .cells #[.int .i64 0, .int .i64 0] 26 (0, 0)) (by (with_reducible repeat (first | refine blk_drewN ?_ _ | refine blk_drew ?_ | refine blk_alloc ?_ _)); exact BK102.out)) : gb102 ≠ gb103)); have n9_ := Aside0.mk ((by rw [hg]; exact Nat.ne_of_gt (blk_lt (g := gb102) (o := .cells #[.int .i64 0, .int .i64 0] 26 (0, 0)) (by (with_reducible repeat (first | refine blk_drewN ?_ _ | refine blk_drew ?_ | refine blk_alloc ?_ _)); exact BK102.out)) : gb103 ≠ gb102)); clear BK101; clear BK102; clear HB; have BK101 := n0_; have BK102 := n1_; have HB := n2_; have BK103 := n3_; have GW103 := n4_; have GE103 := n5_; have NB101_103 := n6_; have NB103_101 := n7_; have NB102_103 := n8_; have NB103_102 := n9_; clear n0_ n1_ n2_ n3_ n4_ n5_ n6_ n7_ n8_ n9_; clear hb hbox hg))
  have n0_ := Aside0.mk (blk_drew BK101.out)
  have n1_ := Aside0.mk (blk_drew BK102.out)
  have n2_ := Aside0.mk (blk_drew BK103.out)
  have n3_ := Aside0.mk (below_drew1 HB.out)
  clear BK101
  clear BK102
  clear BK103
  clear HB
  have BK101 := n0_
  have BK102 := n1_
  have BK103 := n2_
  have HB := n3_
  clear n0_ n1_ n2_ n3_
  refine start_ (n := 19) (S := fun w' => w'.cell? ⟨gb101, 0, none⟩ = some (.int .i64 a0_0) ∧ w'.cell? ⟨gb101, 1, none⟩ = some (.int .i64 a0_1)) (ds := []) #[false, false, false, false, false, false, false, false, false, false, false, false, false, false, false, false, false, false, false] (by kernel_rfl) rfl rfl ⟨(blk_cell BK101.out 0).trans rfl, (blk_cell BK101.out 1).trans rfl⟩ (fun hHeld => ?_); refine with_tabW spec_l1Halves.tab1 spec_l1Halves.bits1 (fun HT_ HW_ => ?_)
  generalize w5.drew = w6 at BK101 BK102 BK103 HB hHeld ⊢
  refine pure_ (i := 0) (N := some 4) (v := ?_) (a' := ?_) #[true, false, false, false, false, false, false, false, false, false, false, false, false, false, false, false, false, false, false] rfl rfl (any_of HT_.out (by kernel_rfl)) (fun _ _ _ h => h) (Or.inl ⟨by rfl, ?_⟩) ?_ ?_
  rotate_left
  · intro w'
    go_simp
    with_reducible rfl
  rotate_left
  · simp only [Act.put, List.setIfInBounds_toArray, List.set_cons_zero, List.set_cons_succ, i64_w, i32_w]
    rfl
  refine pure_ (i := 2) (N := some 6) (v := ?_) (a' := ?_) #[true, false, true, false, false, false, false, false, false, false, false, false, false, false, false, false, false, false, false] rfl rfl (any_of HT_.out (by kernel_rfl)) (fun _ _ _ h => h) (Or.inl ⟨by rfl, ?_⟩) ?_ ?_
  rotate_left
  · intro w'
    go_simp
    with_reducible rfl
  rotate_left
  · simp only [Act.put, List.setIfInBounds_toArray, List.set_cons_zero, List.set_cons_succ, i64_w, i32_w]
    rfl
  refine pure_ (i := 6) (N := some 10) (v := ?_) (a' := ?_) #[true, false, true, false, false, false, true, false, false, false, false, false, false, false, false, false, false, false, false] rfl rfl (any_of HT_.out (by kernel_rfl)) (fun _ _ _ h => h) (Or.inl ⟨by rfl, ?_⟩) ?_ ?_
  rotate_left
  · intro w'
    go_simp
    with_reducible rfl
  rotate_left
  · simp only [Act.put, List.setIfInBounds_toArray, List.set_cons_zero, List.set_cons_succ, i64_w, i32_w]
    rfl
  refine pure_ (i := 8) (N := some 12) (v := ?_) (a' := ?_) #[true, false, true, false, false, false, true, false, true, false, false, false, false, false, false, false, false, false, false] rfl rfl (any_of HT_.out (by kernel_rfl)) (fun _ _ _ h => h) (Or.inl ⟨by rfl, ?_⟩) ?_ ?_
  rotate_left
  · intro w'
    go_simp
    with_reducible rfl
  rotate_left
  · simp only [Act.put, List.setIfInBounds_toArray, List.set_cons_zero, List.set_cons_succ, i64_w, i32_w]
    rfl
  refine pure_ (i := 13) (N := some 17) (v := ?_) (a' := ?_) #[true, false, true, false, false, false, true, false, true, false, false, false, false, true, false, false, false, false, false] rfl rfl (any_of HT_.out (by kernel_rfl)) (fun _ _ _ h => h) (Or.inl ⟨by rfl, ?_⟩) ?_ ?_
  rotate_left
  · intro w'
    go_simp
    with_reducible rfl
  rotate_left
  · simp only [Act.put, List.setIfInBounds_toArray, List.set_cons_zero, List.set_cons_succ, i64_w, i32_w]
    rfl
  refine take_ (i := 1) (N := some 5) (v := ?_) (a' := ?_) #[true, true, true, false, false, false, true, false, true, false, false, false, false, true, false, false, false, false, false] rfl rfl (take_ofW HT_.out HW_.out (by kernel_rfl)) (fun _ _ _ h => h) (Or.inl ⟨by rfl, ?_⟩) hHeld ?_ ?_
  rotate_left
  · rintro w' ⟨s0, s1⟩
    go_simp
    with_reducible rfl
  rotate_left
  · simp only [Act.put, List.setIfInBounds_toArray, List.set_cons_zero, List.set_cons_succ, i64_w, i32_w]
    rfl
  refine take_ (i := 3) (N := some 7) (v := ?_) (a' := ?_) #[true, true, true, true, false, false, true, false, true, false, false, false, false, true, false, false, false, false, false] rfl rfl (take_ofW HT_.out HW_.out (by kernel_rfl)) (fun _ _ _ h => h) (Or.inl ⟨by rfl, ?_⟩) hHeld ?_ ?_
  rotate_left
  · rintro w' ⟨s0, s1⟩
    go_simp
    with_reducible rfl
  rotate_left
  · simp only [Act.put, List.setIfInBounds_toArray, List.set_cons_zero, List.set_cons_succ, i64_w, i32_w]
    rfl
  refine pure_ (i := 4) (N := some 8) (v := ?_) (a' := ?_) #[true, true, true, true, true, false, true, false, true, false, false, false, false, true, false, false, false, false, false] rfl rfl (any_of HT_.out (by kernel_rfl)) (fun _ _ _ h => h) (Or.inl ⟨by rfl, ?_⟩) ?_ ?_
  rotate_left
  · intro w'
    go_simp
    with_reducible rfl
  rotate_left
  · simp only [Act.put, List.setIfInBounds_toArray, List.set_cons_zero, List.set_cons_succ, i64_w, i32_w]
    rfl
  refine pure_ (i := 5) (N := some 9) (v := ?_) (a' := ?_) #[true, true, true, true, true, true, true, false, true, false, false, false, false, true, false, false, false, false, false] rfl rfl (any_of HT_.out (by kernel_rfl)) (fun _ _ _ h => h) (Or.inl ⟨by rfl, ?_⟩) ?_ ?_
  rotate_left
  · intro w'
    go_simp
    with_reducible rfl
  rotate_left
  · simp only [Act.put, List.setIfInBounds_toArray, List.set_cons_zero, List.set_cons_succ, i64_w, i32_w]
    rfl
  refine take_ (i := 7) (N := some 11) (v := ?_) (a' := ?_) #[true, true, true, true, true, true, true, true, true, false, false, false, false, true, false, false, false, false, false] rfl rfl (take_ofW HT_.out HW_.out (by kernel_rfl)) (fun _ _ _ h => h) (Or.inl ⟨by rfl, ?_⟩) hHeld ?_ ?_
  rotate_left
  · rintro w' ⟨s0, s1⟩
    go_simp
    with_reducible rfl
  rotate_left
  · simp only [Act.put, List.setIfInBounds_toArray, List.set_cons_zero, List.set_cons_succ, i64_w, i32_w]
    rfl
  refine take_ (i := 9) (N := some 13) (v := ?_) (a' := ?_) #[true, true, true, true, true, true, true, true, true, true, false, false, false, true, false, false, false, false, false] rfl rfl (take_ofW HT_.out HW_.out (by kernel_rfl)) (fun _ _ _ h => h) (Or.inl ⟨by rfl, ?_⟩) hHeld ?_ ?_
  rotate_left
  · rintro w' ⟨s0, s1⟩
    go_simp
    with_reducible rfl
  rotate_left
  · simp only [Act.put, List.setIfInBounds_toArray, List.set_cons_zero, List.set_cons_succ, i64_w, i32_w]
    rfl
  refine pure_ (i := 10) (N := some 14) (v := ?_) (a' := ?_) #[true, true, true, true, true, true, true, true, true, true, true, false, false, true, false, false, false, false, false] rfl rfl (any_of HT_.out (by kernel_rfl)) (fun _ _ _ h => h) (Or.inl ⟨by rfl, ?_⟩) ?_ ?_
  rotate_left
  · intro w'
    go_simp
    with_reducible rfl
  rotate_left
  · simp only [Act.put, List.setIfInBounds_toArray, List.set_cons_zero, List.set_cons_succ, i64_w, i32_w]
    rfl
  refine take_ (i := 14) (N := some 18) (v := ?_) (a' := ?_) #[true, true, true, true, true, true, true, true, true, true, true, false, false, true, true, false, false, false, false] rfl rfl (take_ofW HT_.out HW_.out (by kernel_rfl)) (fun _ _ _ h => h) (Or.inl ⟨by rfl, ?_⟩) hHeld ?_ ?_
  rotate_left
  · rintro w' ⟨s0, s1⟩
    go_simp
    with_reducible rfl
  rotate_left
  · simp only [Act.put, List.setIfInBounds_toArray, List.set_cons_zero, List.set_cons_succ, i64_w, i32_w]
    rfl
  refine pure_ (i := 15) (N := some 19) (v := ?_) (a' := ?_) #[true, true, true, true, true, true, true, true, true, true, true, false, false, true, true, true, false, false, false] rfl rfl (any_of HT_.out (by kernel_rfl)) (fun _ _ _ h => h) (Or.inl ⟨by rfl, ?_⟩) ?_ ?_
  rotate_left
  · intro w'
    go_simp
    with_reducible rfl
  rotate_left
  · simp only [Act.put, List.setIfInBounds_toArray, List.set_cons_zero, List.set_cons_succ, i64_w, i32_w]
    rfl
  refine one_ (i := 11) (N := some 15) #[true, true, true, true, true, true, true, true, true, true, true, true, false, true, true, true, false, false, false] rfl rfl (one_of HT_.out (by kernel_rfl)) (by decide) (fun K hK => ?_)
  refine goes_ Try.func76 (by kernel_rfl) rfl #[.int .i64 (wrap64 (a0_1 + 1))] (by rfl) rfl rfl (by (try simp only [List.map_toArray, List.map_cons, List.map_nil]); first | done | rfl | (simp only [List.length_drop, List.length_take]; rfl)) ?_
  with_reducible refine (spec_l1Size.calls k (wrap64 (a0_1 + 1)) t104 _ A2.out).mono ?_
  rintro e w' ⟨rfl, ⟨nd, rfl⟩⟩
  refine ⟨_, rfl, ?_⟩
  refine hK.out _ _ ⟨(blk_cell BK101.out 0).trans rfl, (blk_cell BK101.out 1).trans rfl⟩ (fun hHeld => ?_)
  clear hK K
  refine norm_ (a' := ?_) ?_ ?_
  rotate_left
  · show Act.put _ (some 15) _ = _
    simp only [Act.put, List.setIfInBounds_toArray, List.set_cons_zero, List.set_cons_succ, i64_w, i32_w]
    rfl
  refine pure_ (i := 12) (N := some 16) (v := ?_) (a' := ?_) #[true, true, true, true, true, true, true, true, true, true, true, true, true, true, true, true, false, false, false] rfl rfl (any_of HT_.out (by kernel_rfl)) (fun _ _ _ h => h) (Or.inl ⟨by rfl, ?_⟩) ?_ ?_
  rotate_left
  · intro w'
    go_simp
    with_reducible rfl
  rotate_left
  · simp only [Act.put, List.setIfInBounds_toArray, List.set_cons_zero, List.set_cons_succ, i64_w, i32_w]
    rfl
  refine pure_ (i := 16) (N := some 20) (v := ?_) (a' := ?_) #[true, true, true, true, true, true, true, true, true, true, true, true, true, true, true, true, true, false, false] rfl rfl (any_of HT_.out (by kernel_rfl)) (fun _ _ _ h => h) (Or.inl ⟨by rfl, ?_⟩) ?_ ?_
  rotate_left
  · intro w'
    go_simp
    with_reducible rfl
  rotate_left
  · simp only [Act.put, List.setIfInBounds_toArray, List.set_cons_zero, List.set_cons_succ, i64_w, i32_w]
    rfl
  refine one_ (i := 17) (N := none) #[true, true, true, true, true, true, true, true, true, true, true, true, true, true, true, true, true, true, false] rfl rfl (one_of HT_.out (by kernel_rfl)) (by decide) (fun K hK => ?_)
  have hs7 : w6.cell? ⟨gb102, 0, none⟩ = some (.int .i64 0) := (blk_cell BK102.out 0).trans rfl
  have hfs7 := blk_frozen BK102.out 0
  have hns7_0 := NB101_102.out
  have hns7_2 := NB103_102.out
  have hms7_0 := NB102_101.out
  have hms7_2 := NB102_103.out
  have hs8 : w6.cell? ⟨gb102, 1, none⟩ = some (.int .i64 0) := (blk_cell BK102.out 1).trans rfl
  have hfs8 := blk_frozen BK102.out 1
  have hns8_0 := NB101_102.out
  have hns8_2 := NB103_102.out
  have hms8_0 := NB102_101.out
  have hms8_2 := NB102_103.out
  refine skip_ (w1 := ?_) (by rfl) rfl ?_ ?_
  rotate_left
  · go_simp
    rfl
  refine hK.out _ _ ⟨((cell_far (p := ⟨gb102, _, none⟩) NB101_102.out _).trans (((cell_far (p := ⟨gb102, _, none⟩) NB101_102.out _).trans (hHeld.1)))), ((cell_far (p := ⟨gb102, _, none⟩) NB101_102.out _).trans (((cell_far (p := ⟨gb102, _, none⟩) NB101_102.out _).trans (hHeld.2))))⟩ (fun hHeld => ?_)
  clear hK K
  refine one_ (i := 18) (N := none) #[true, true, true, true, true, true, true, true, true, true, true, true, true, true, true, true, true, true, true] rfl rfl (one_of HT_.out (by kernel_rfl)) (by decide) (fun K hK => ?_)
  have hs9 : w6.cell? ⟨gb103, 0, none⟩ = some (.int .i64 0) := (blk_cell BK103.out 0).trans rfl
  have hfs9 := blk_frozen BK103.out 0
  have hns9_0 := NB101_103.out
  have hns9_1 := NB102_103.out
  have hms9_0 := NB103_101.out
  have hms9_1 := NB103_102.out
  have hs10 : w6.cell? ⟨gb103, 1, none⟩ = some (.int .i64 0) := (blk_cell BK103.out 1).trans rfl
  have hfs10 := blk_frozen BK103.out 1
  have hns10_0 := NB101_103.out
  have hns10_1 := NB102_103.out
  have hms10_0 := NB103_101.out
  have hms10_1 := NB103_102.out
  refine skip_ (w1 := ?_) (by rfl) rfl ?_ ?_
  rotate_left
  · go_simp
    rfl
  refine hK.out _ _ ⟨((cell_far (p := ⟨gb103, _, none⟩) NB101_103.out _).trans (((cell_far (p := ⟨gb103, _, none⟩) NB101_103.out _).trans (hHeld.1)))), ((cell_far (p := ⟨gb103, _, none⟩) NB101_103.out _).trans (((cell_far (p := ⟨gb103, _, none⟩) NB101_103.out _).trans (hHeld.2))))⟩ (fun hHeld => ?_)
  clear hK K
  refine done_ (done_of HT_.out (by kernel_rfl)) ?_
  try go_wp2
  refine bodyPost_ret (results_cc rfl _ _ gb102 gb103 26 26 #[.int .i64 a0_0, .int .i64 (wrap64 (a0_1 + 1))] #[.int .i64 (wrap64 (a0_0 + t104)), .int .i64 (wrap64 (a0_1 + 1))] (0, 0) (0, 0) _ _ rfl (by (with_reducible repeat (first | refine blk_drewN ?_ _ | refine blk_drew ?_ | refine blk_alloc ?_ _)); refine blk_far ?_ NB102_103.out _; (with_reducible repeat (first | refine blk_drewN ?_ _ | refine blk_drew ?_ | refine blk_alloc ?_ _)); refine blk_far ?_ NB102_103.out _; (with_reducible repeat (first | refine blk_drewN ?_ _ | refine blk_drew ?_ | refine blk_alloc ?_ _)); refine blk_put (cs := #[.int .i64 a0_0, .int .i64 0]) ?_ 1 _ rfl; (with_reducible repeat (first | refine blk_drewN ?_ _ | refine blk_drew ?_ | refine blk_alloc ?_ _)); refine blk_put (cs := #[.int .i64 0, .int .i64 0]) ?_ 0 _ rfl; (with_reducible repeat (first | refine blk_drewN ?_ _ | refine blk_drew ?_ | refine blk_alloc ?_ _)); exact BK102.out) Try.underlying26 rfl (by kernel_rfl) rfl (by (with_reducible repeat (first | refine blk_drewN ?_ _ | refine blk_drew ?_ | refine blk_alloc ?_ _)); refine blk_put (cs := #[.int .i64 (wrap64 (a0_0 + t104)), .int .i64 0]) ?_ 1 _ rfl; (with_reducible repeat (first | refine blk_drewN ?_ _ | refine blk_drew ?_ | refine blk_alloc ?_ _)); refine blk_put (cs := #[.int .i64 0, .int .i64 0]) ?_ 0 _ rfl; (with_reducible repeat (first | refine blk_drewN ?_ _ | refine blk_drew ?_ | refine blk_alloc ?_ _)); refine blk_far ?_ NB103_102.out _; (with_reducible repeat (first | refine blk_drewN ?_ _ | refine blk_drew ?_ | refine blk_alloc ?_ _)); refine blk_far ?_ NB103_102.out _; (with_reducible repeat (first | refine blk_drewN ?_ _ | refine blk_drew ?_ | refine blk_alloc ?_ _)); exact BK103.out) Try.underlying26 rfl (by kernel_rfl)) rfl ?_
  exact ⟨by first | rfl | (simp [errW_none, errW_some] <;> rfl) | (simp [*, errW_none, errW_some] <;> rfl), by repeat (first | (with_reducible first | exact HB.out | apply below_alloc | apply pw_below_drewN | apply below_drew1 | refine below_set ?_ GE101.out | refine below_set ?_ GE102.out | refine below_set ?_ GE103.out) | exact HB.out)⟩
end Go.Proofs.Ytnakanjhdcakhaa.Q
namespace Go.Proofs.Ytnakanjhdcakhaa.Q
open Go.RowKit Go.Proofs.YtnakanjhdcakhaaW.PrintWords Go.Proofs.YtnakanjhdcakhaaW.PrintLast Go.Proofs.YtnakanjhdcakhaaW.PrintMore
attribute [local go_sem] max2_int min2_int max_two min_two max_three min_three max_four min_four   -- for this text's walks alone
set_option linter.unusedVariables false
set_option linter.unusedSimpArgs false
def spec_l5Prefix.j0 : Nat → Int → List Int → Int → Option (Int × Int × Int)
  | 0, _, _, _ => none
  | k + 1, x3, x1000, x1001 => (spec_l1Rd_pick.f k x1000 x1001 65536).bind fun bt112 => ((spec_l1Rd_pick.f k x1000 bt112.2 4).bind fun bt114 => ((spec_l1Rd_pick.f k x1000 bt114.2 9).bind fun bt116 => ((spec_l1Rd_pick.f k x1000 bt116.2 16).bind fun bt118 => ((spec_l1Rd_pick.f k x1000 bt118.2 16).bind fun bt120 => ((some (([bt112.1, wrap64 (256 * bt114.1), wrap64 (65535 - bt116.1), bt118.1, wrap64 (4656 + bt120.1)] : List Int) : List Int)).bind fun y122 => ((spec_l1Rd_pick.f k x1000 bt120.2 5).bind fun bt125 => (if 0 ≤ bt125.1 then (if bt125.1 < (y122.length : Int) then ((spec_l1Size.f k x3).bind fun t128 => (if t128 = 0 then (none) else (some (wrap64 ((rd y122 bt125.1) - (Int.tmod (rd y122 bt125.1) t128)), x3, bt125.2)))) else (none)) else (none))))))))
def spec_l5Prefix.f (k : Nat) (s0_0 : List Int) (s0_1 : Int) : Option (Int × Int × Int) := (spec_l1Rd_pick.f k s0_0 s0_1 17).bind fun bt102 => ((spec_l1Rd_pick.f k s0_0 bt102.2 3).bind fun bt104 => (if bt104.1 = 0 then ((some (([0, 1, 2, 8, 15, 16] : List Int) : List Int)).bind fun y106 => ((spec_l1Rd_pick.f k s0_0 bt104.2 6).bind fun bt109 => (if 0 ≤ bt109.1 then (if bt109.1 < (y106.length : Int) then (spec_l5Prefix.j0 k (rd y106 bt109.1) s0_0 bt109.2) else (none)) else (none)))) else (spec_l5Prefix.j0 k bt102.1 s0_0 bt104.2)))
theorem spec_l5Prefix.zHI0 {P : Prop} (h : P := by repeat (first | (with_reducible first | exact HI0.out | apply IsS117.alloc | apply IsS117.drewN | apply IsS117.drew | apply IsS117.set_1 | refine IsS117.far ?_ NB0_101.out _) | exact HI0.out)) : P := h
theorem spec_l5Prefix.zHK {P : Prop} (h : P := by repeat (first | (with_reducible first | exact HK.out | apply KeepBut.set_ | apply keep_drewN | apply keep_drew | apply keep_alloc | refine keep_far ?_ GW101.out _) | exact HK.out)) : P := h
theorem spec_l5Prefix.zHB {P : Prop} (h : P := by repeat (first | (with_reducible first | exact HB.out | apply below_alloc | apply pw_below_drewN | apply below_drew1 | refine below_set ?_ (IsS117.ge HI0.out) | refine below_set ?_ GE101.out) | exact HB.out)) : P := h
theorem spec_l5Prefix.zb {P Q : Prop} (x : Q) (h : Q → P := by intro x_; (with_reducible repeat (first | refine blk_drewN ?_ _ | refine blk_drew ?_ | refine blk_alloc ?_ _)); exact x_) : P := h x
theorem spec_l5Prefix.zq {P Q : Prop} (x : Q) (h : Q → P := by intro x_; (with_reducible repeat (first | refine blk_drewN ?_ _ | refine blk_drew ?_ | refine blk_alloc ?_ _)); exact x_) : P := h x
theorem spec_l5Prefix.y1 {P : Prop} (h : P := by (try simp only [List.map_toArray, List.map_cons, List.map_nil]); first | done | rfl | (simp only [List.length_drop, List.length_take]; rfl)) : P := h
theorem spec_l5Prefix.y2 {P : Prop} (h : P := by first | (with_reducible assumption) | assumption) : P := h
theorem spec_l5Prefix.zA {p : Prop} (h : p) : Aside0 p := ⟨h⟩
set_option maxHeartbeats 8000000 in
set_option maxRecDepth 100000 in
theorem spec_l5Prefix.calls (k : Nat) (g : Nat) (s0_0 : List Int) (s0_1 : Int) (r1 : Int) (r2 : Int) (r3 : Int) (w0 w : World) (hI : IsS117 w0 w g s0_0 s0_1) (hB : Below w0.heap.size w0 w) (h : spec_l5Prefix.f k s0_0 s0_1 = some (r1, r2, r3)) :
  Calls Try.prog 121 #[.pointer (some ⟨g, 0, none⟩)] w fun e w' => e = .returned (.agg #[.int .i64 r1, .int .i64 r2]) ∧ IsS117 w0 w' g s0_0 r3 ∧ Below w0.heap.size w0 w' ∧ KeepBut w w' g none := by
 have hu26 := Try.underlying26
 have HI0 := zA hI
 have HK := zA (KeepBut.refl w g none)
 have HL := zA hB.size
 clear hI
 have HW0 := zA hB.size
 have HB := zA hB
 clear hB
 have H : ((spec_l1Rd_pick.f k s0_0 s0_1 17).bind fun bt102 => ((spec_l1Rd_pick.f k s0_0 bt102.2 3).bind fun bt104 => (if bt104.1 = 0 then ((some (([0, 1, 2, 8, 15, 16] : List Int) : List Int)).bind fun y106 => ((spec_l1Rd_pick.f k s0_0 bt104.2 6).bind fun bt109 => (if 0 ≤ bt109.1 then (if bt109.1 < (y106.length : Int) then (spec_l5Prefix.j0 k (rd y106 bt109.1) s0_0 bt109.2) else (none)) else (none)))) else (spec_l5Prefix.j0 k bt102.1 s0_0 bt104.2)))) = some (r1, r2, r3) := h
 clear h
 replace H := Option.bind_eq_some_iff.mp H
 obtain ⟨⟨t102, t103⟩, A20, H⟩ := H
 replace H : ((spec_l1Rd_pick.f k s0_0 t103 3).bind fun bt104 => (if bt104.1 = 0 then ((some (([0, 1, 2, 8, 15, 16] : List Int) : List Int)).bind fun y106 => ((spec_l1Rd_pick.f k s0_0 bt104.2 6).bind fun bt109 => (if 0 ≤ bt109.1 then (if bt109.1 < (y106.length : Int) then (spec_l5Prefix.j0 k (rd y106 bt109.1) s0_0 bt109.2) else (none)) else (none)))) else (spec_l5Prefix.j0 k t102 s0_0 bt104.2))) = some (r1, r2, r3) := H
 have A2 := zA A20
 clear A20
 replace H := Option.bind_eq_some_iff.mp H
 obtain ⟨⟨t104, t105⟩, A30, H⟩ := H
 replace H : (if t104 = 0 then ((some (([0, 1, 2, 8, 15, 16] : List Int) : List Int)).bind fun y106 => ((spec_l1Rd_pick.f k s0_0 t105 6).bind fun bt109 => (if 0 ≤ bt109.1 then (if bt109.1 < (y106.length : Int) then (spec_l5Prefix.j0 k (rd y106 bt109.1) s0_0 bt109.2) else (none)) else (none)))) else (spec_l5Prefix.j0 k t102 s0_0 t105)) = some (r1, r2, r3) := H
 have A3 := zA A30
 clear A30
 have HC4 := zA H
 clear H
 go_enter Try.func121, Try.ntmps121
 go_upto_if 9 with (first | ((with_reducible refine gate_dst (N := 2) rfl ?_); refine box_event ?hg (N := 2) ?hd (cs := #[.int .i64 0, .int .i64 0]) (t := 26) ?hr ?_; (case hd => rfl); (case hg => rfl); (case hr => first | (go_simp; done) | (go_simp; rfl)); intro gb101 hg w5 hbox hb; have n0_ := zA (IsS117.below (zHI0) hb); have n1_ := zA (KeepBut.trans (zHK) (KeepBut.of_below hb g none) (.inl rfl)); have n2_ := zA (below_step (zHB) hb); have n3_ := zA (hbox); have n4_ := zA ((by rw [hg]; exact (keep_size (w := w) (g := g) (row := none) (zHK)) : w.heap.size ≤ gb101)); have n5_ := zA ((Nat.le_trans HW0.out (by rw [hg]; exact (keep_size (w := w) (g := g) (row := none) (zHK)) : w.heap.size ≤ gb101) : w0.heap.size ≤ gb101)); have n6_ := zA ((by rw [hg]; exact Nat.ne_of_lt (IsS117.lt (show IsS117 w0 _ g s0_0 s0_1 from zHI0)) : g ≠ gb101)); have n7_ := zA ((by rw [hg]; exact Nat.ne_of_gt (IsS117.lt (show IsS117 w0 _ g s0_0 s0_1 from zHI0)) : gb101 ≠ g)); clear HI0; clear HK; clear HB; have HI0 := n0_; have HK := n1_; have HB := n2_; have BK101 := n3_; have GW101 := n4_; have GE101 := n5_; have NB0_101 := n6_; have NB101_0 := n7_; clear n0_ n1_ n2_ n3_ n4_ n5_ n6_ n7_; clear hb hbox hg) | ((with_reducible refine gate_callee (f := 81) rfl ?_); refine goesL_ (some 6) rfl rfl Try.func81 (by kernel_rfl) rfl #[.pointer (some ⟨g, 0, none⟩), .int .i64 17] rfl y1  ?_; (with_reducible refine (spec_l1Rd_pick.calls k g s0_0 s0_1 17 t102 t103 w0 _ ?side1 ?side2 A2.out).mono ?_); (case side1 => exact zHI0); (case side2 => exact zHB); rintro e w6 ⟨rfl, hi, hb, hk⟩; refine ⟨_, rfl, ?_⟩; have n0_ := zA (KeepBut.blk hk (g' := gb101) (o := .cells #[.int .i64 0, .int .i64 0] 26 (0, 0)) (zb BK101.out) NB101_0.out (by simp)); have n1_ := zA (KeepBut.trans (zHK) hk (.inl rfl)); have n2_ := zA (hb); have n3_ := zA (hi); clear BK101; clear HK; clear HB; clear HI0; have BK101 := n0_; have HK := n1_; have HB := n2_; have HI0 := n3_; clear n0_ n1_ n2_ n3_; (try clear hb); (try clear hb2); (try clear hk); (try clear hi)) | ((with_reducible refine gate_callee (f := 81) rfl ?_); refine goesL_ (some 8) rfl rfl Try.func81 (by kernel_rfl) rfl #[.pointer (some ⟨g, 0, none⟩), .int .i64 3] rfl y1  ?_; (with_reducible refine (spec_l1Rd_pick.calls k g s0_0 t103 3 t104 t105 w0 _ ?side1 ?side2 A3.out).mono ?_); (case side1 => exact zHI0); (case side2 => exact zHB); rintro e w7 ⟨rfl, hi, hb, hk⟩; refine ⟨_, rfl, ?_⟩; have n0_ := zA (KeepBut.blk hk (g' := gb101) (o := .cells #[.int .i64 0, .int .i64 0] 26 (0, 0)) (zb BK101.out) NB101_0.out (by simp)); have n1_ := zA (KeepBut.trans (zHK) hk (.inl rfl)); have n2_ := zA (hb); have n3_ := zA (hi); clear BK101; clear HK; clear HB; clear HI0; have BK101 := n0_; have HK := n1_; have HB := n2_; have HI0 := n3_; clear n0_ n1_ n2_ n3_; (try clear hb); (try clear hb2); (try clear hk); (try clear hi)))
 (try simp only [Act.put, List.setIfInBounds_toArray, List.set_cons_zero, List.set_cons_succ])
 go_cut [3] (fun v3 wc => ∃ (kq : Nat) (x3_3 : Int) (x1001_3 : Int), v3 = .int .i64 x3_3 ∧ Aside0 (spec_l5Prefix.j0 kq x3_3 s0_0 x1001_3 = some (r1, r2, r3)) ∧ Aside0 (kq ≤ k) ∧ Aside0 (wc.heap[gb101]? = some (.cells #[.int .i64 0, .int .i64 0] 26 (0, 0))) ∧ Aside0 (IsS117 w0 wc g s0_0 x1001_3) ∧ Aside0 (KeepBut w wc g none) ∧ Aside0 (Below w0.heap.size w0 wc))
 case first =>
  have H := HC4.out
  clear HC4
  by_cases c8 : t104 = 0
  ·rw [if_pos c8] at H
   have c8b0 : (t104 == 0) = true := beq_iff_eq.mpr c8
   have c8b1 : (t104 != 0) = false := bne_eq_false_iff_eq.mpr c8
   clear c8
   (first | rw [c8b0] | (simp only [i64_w, i32_w]; rw [c8b0]) | skip)
   obtain ⟨y106, hy106⟩ : ∃ y_ : List Int, y_ = (([0, 1, 2, 8, 15, 16] : List Int)) := ⟨_, rfl⟩
   replace H : ((spec_l1Rd_pick.f k s0_0 t105 6).bind fun bt109 => (if 0 ≤ bt109.1 then (if bt109.1 < (y106.length : Int) then (spec_l5Prefix.j0 k (rd y106 bt109.1) s0_0 bt109.2) else (none)) else (none))) = some (r1, r2, r3) := by first | (rw [hy106]; with_reducible exact H) | (have H2_ := (Option.bind_some _ _).symm.trans H; rw [hy106]; with_reducible exact H2_) | (have H2_ := (Option.bind_some _ _).symm.trans H; with_reducible exact H2_) | with_reducible exact H | (rw [hy106]; exact H) | exact H
   have Ny106 := zA hy106
   clear hy106
   replace H := Option.bind_eq_some_iff.mp H
   obtain ⟨⟨t109, t110⟩, A90, H⟩ := H
   replace H : (if 0 ≤ t109 then (if t109 < (y106.length : Int) then (spec_l5Prefix.j0 k (rd y106 t109) s0_0 t110) else (none)) else (none)) = some (r1, r2, r3) := H
   have A9 := zA A90
   clear A90
   by_cases c10 : 0 ≤ t109
   ·rw [if_pos c10] at H
    have c10b0 : decide (0 ≤ t109) = true := decide_eq_true c10
    clear c10
    by_cases c11 : t109 < (y106.length : Int)
    ·rw [if_pos c11] at H
     have c11b0 : decide (t109 < (y106.length : Int)) = true := decide_eq_true c11
     clear c11
     have H' := zA H
     clear H
     go_wp2_with (first | ((with_reducible refine gate_dst (N := 10) rfl ?_); refine Kd.R_lit (Kd.int .i64) _ 3 ?hg (N := 10) ?hd (xs := ([0, 1, 2, 8, 15, 16] : List Int)) (inner := [.int .i64 0, .int .i64 1, .int .i64 2, .int .i64 8, .int .i64 15, .int .i64 16]) (ok := fun _ => True) (okp := fun _ => True) ?hr ?hp (fun _ hk => hk) trivial (Below.refl _ _) (Nat.le_refl _) (by simp) ?_; (case hd => rfl); (case hg => rfl); (case hr => first | (go_simp; done) | (go_simp; rfl)); (case hp => exact (Reps.one (show Kd.M (Kd.int .i64) _ _ _ 0 [.int .i64 0] from rfl) (Reps.one (show Kd.M (Kd.int .i64) _ _ _ 1 [.int .i64 1] from rfl) (Reps.one (show Kd.M (Kd.int .i64) _ _ _ 2 [.int .i64 2] from rfl) (Reps.one (show Kd.M (Kd.int .i64) _ _ _ 8 [.int .i64 8] from rfl) (Reps.one (show Kd.M (Kd.int .i64) _ _ _ 15 [.int .i64 15] from rfl) (Reps.one (show Kd.M (Kd.int .i64) _ _ _ 16 [.int .i64 16] from rfl) (Reps.none _ _)))))))); intro v107 w12 ho13 hb hg_ hnew_; clear hg_ hnew_; (first | rw [← Ny106.out] at ho13 | (simp only [Int.reduceToNat] at ho13; rw [← Ny106.out] at ho13)); have n0_ := zA (Kd.R_lower ho13 (keep_size (w := w) (g := g) (row := none) (zHK))); have n1_ := zA (IsS117.below (zHI0) hb); have n2_ := zA (blk_below (g := gb101) (o := .cells #[.int .i64 0, .int .i64 0] 26 (0, 0)) (zb BK101.out) hb); have n3_ := zA (KeepBut.trans (zHK) (KeepBut.of_below hb g none) (.inl rfl)); have n4_ := zA (below_step (zHB) hb); clear HI0; clear BK101; clear HK; clear HB; have HO108 := n0_; have HI0 := n1_; have BK101 := n2_; have HK := n3_; have HB := n4_; clear n0_ n1_ n2_ n3_ n4_; clear hb ho13) | ((with_reducible refine gate_callee (f := 81) rfl ?_); refine goesL_ (some 12) rfl rfl Try.func81 (by kernel_rfl) rfl #[.pointer (some ⟨g, 0, none⟩), .int .i64 6] rfl y1  ?_; (with_reducible refine (spec_l1Rd_pick.calls k g s0_0 t105 6 t109 t110 w0 _ ?side1 ?side2 A9.out).mono ?_); (case side1 => exact zHI0); (case side2 => exact zHB); rintro e w14 ⟨rfl, hi, hb, hk⟩; refine ⟨_, rfl, ?_⟩; have n0_ := zA (KeepBut.blk hk (g' := gb101) (o := .cells #[.int .i64 0, .int .i64 0] 26 (0, 0)) (zb BK101.out) NB101_0.out (by simp)); have n1_ := zA (Kd.R_mono (Kd.R_keep (IsS117.apart (show IsS117 w0 _ g s0_0 t105 from zHI0) (by (with_reducible repeat (first | apply Kd.R_alloc | apply Kd.R_drewN | apply Kd.R_drew)); exact HO108.out) (by decide)) hk (fun _ h => h.2)) (fun _ h => h.1)); have n2_ := zA (KeepBut.trans (zHK) hk (.inl rfl)); have n3_ := zA (hb); have n4_ := zA (hi); clear BK101; clear HO108; clear HK; clear HB; clear HI0; have BK101 := n0_; have HO108 := n1_; have HK := n2_; have HB := n3_; have HI0 := n4_; clear n0_ n1_ n2_ n3_ n4_; (try clear hb); (try clear hb2); (try clear hk); (try clear hi); obtain ⟨Ao15, co15, eo15⟩ := Kd.R_slice HO108.out; subst eo15; have p111 : 0 ≤ (t109 : Int) := of_decide_eq_true y2 ; have q111 : t109 < (y106.length : Int) := of_decide_eq_true y2 ; obtain ⟨ad111, e111, hx111_0⟩ := Kd.at_int (Kd.R_reads' HO108.out).2.2 t109 p111 q111; cases e111; replace p111 := eq_true p111; replace q111 := eq_true q111))
     go_meet
     case rel => exact ⟨_, (rd y106 t109), (t110), (by first | rfl | (simp; done) | (simp [*]; done)), H', ⟨by first | omega | exact Nat.le_refl _⟩, ⟨by refine zq ?_; exact BK101.out⟩, ⟨zHI0⟩, ⟨zHK⟩, ⟨zHB⟩⟩
    rw [if_neg c11] at H
    exact absurd H (by simp)
   rw [if_neg c10] at H
   exact absurd H (by simp)
  rw [if_neg c8] at H
  have c8b0 : (t104 == 0) = false := beq_eq_false_iff_ne.mpr c8
  have c8b1 : (t104 != 0) = true := bne_iff_ne.mpr c8
  (first | rw [c8b0] | (simp only [i64_w, i32_w]; rw [c8b0]) | skip)
  have H' := zA H
  clear H
  go_wp2
  go_meet
  case rel => exact ⟨_, (t102), (t105), (by first | rfl | (simp; done) | (simp [*]; done)), H', ⟨by first | omega | exact Nat.le_refl _⟩, ⟨by refine zq ?_; exact BK101.out⟩, ⟨zHI0⟩, ⟨zHK⟩, ⟨zHB⟩⟩
 case rest =>
  clear HC4
  try clear c1
  try clear p1
  try clear q1
  try clear hx1
  try clear p2
  try clear c8
  try clear c8b0
  try clear c8b1
  try clear c10
  try clear c10b0
  try clear c11
  try clear c11b0
  try clear p11
  try clear q11
  try clear hx11
  try clear c12
  try clear hx111_0
  try clear p111
  try clear q111
  obtain ⟨kq, x3_3, x1001_3, rfl, HA, HJ3, BK101, HI0, HK, HB⟩ := hcut
  cases kq with
  | zero => exact absurd HA.out (by simp [spec_l5Prefix.j0])
  | succ kj3 => ?_
  have H := HA.out
  clear HA
  simp only [spec_l5Prefix.j0] at H
  replace H := Option.bind_eq_some_iff.mp H
  obtain ⟨⟨t112, t113⟩, A160, H⟩ := H
  replace H : ((spec_l1Rd_pick.f kj3 s0_0 t113 4).bind fun bt114 => ((spec_l1Rd_pick.f kj3 s0_0 bt114.2 9).bind fun bt116 => ((spec_l1Rd_pick.f kj3 s0_0 bt116.2 16).bind fun bt118 => ((spec_l1Rd_pick.f kj3 s0_0 bt118.2 16).bind fun bt120 => ((some (([t112, wrap64 (256 * bt114.1), wrap64 (65535 - bt116.1), bt118.1, wrap64 (4656 + bt120.1)] : List Int) : List Int)).bind fun y122 => ((spec_l1Rd_pick.f kj3 s0_0 bt120.2 5).bind fun bt125 => (if 0 ≤ bt125.1 then (if bt125.1 < (y122.length : Int) then ((spec_l1Size.f kj3 x3_3).bind fun t128 => (if t128 = 0 then (none) else (some (wrap64 ((rd y122 bt125.1) - (Int.tmod (rd y122 bt125.1) t128)), x3_3, bt125.2)))) else (none)) else (none)))))))) = some (r1, r2, r3) := H
  have A16 := zA A160
  clear A160
  replace H := Option.bind_eq_some_iff.mp H
  obtain ⟨⟨t114, t115⟩, A170, H⟩ := H
  replace H : ((spec_l1Rd_pick.f kj3 s0_0 t115 9).bind fun bt116 => ((spec_l1Rd_pick.f kj3 s0_0 bt116.2 16).bind fun bt118 => ((spec_l1Rd_pick.f kj3 s0_0 bt118.2 16).bind fun bt120 => ((some (([t112, wrap64 (256 * t114), wrap64 (65535 - bt116.1), bt118.1, wrap64 (4656 + bt120.1)] : List Int) : List Int)).bind fun y122 => ((spec_l1Rd_pick.f kj3 s0_0 bt120.2 5).bind fun bt125 => (if 0 ≤ bt125.1 then (if bt125.1 < (y122.length : Int) then ((spec_l1Size.f kj3 x3_3).bind fun t128 => (if t128 = 0 then (none) else (some (wrap64 ((rd y122 bt125.1) - (Int.tmod (rd y122 bt125.1) t128)), x3_3, bt125.2)))) else (none)) else (none))))))) = some (r1, r2, r3) := H
  have A17 := zA A170
  clear A170
  replace H := Option.bind_eq_some_iff.mp H
  obtain ⟨⟨t116, t117⟩, A180, H⟩ := H
  replace H : ((spec_l1Rd_pick.f kj3 s0_0 t117 16).bind fun bt118 => ((spec_l1Rd_pick.f kj3 s0_0 bt118.2 16).bind fun bt120 => ((some (([t112, wrap64 (256 * t114), wrap64 (65535 - t116), bt118.1, wrap64 (4656 + bt120.1)] : List Int) : List Int)).bind fun y122 => ((spec_l1Rd_pick.f kj3 s0_0 bt120.2 5).bind fun bt125 => (if 0 ≤ bt125.1 then (if bt125.1 < (y122.length : Int) then ((spec_l1Size.f kj3 x3_3).bind fun t128 => (if t128 = 0 then (none) else (some (wrap64 ((rd y122 bt125.1) - (Int.tmod (rd y122 bt125.1) t128)), x3_3, bt125.2)))) else (none)) else (none)))))) = some (r1, r2, r3) := H
  have A18 := zA A180
  clear A180
  replace H := Option.bind_eq_some_iff.mp H
  obtain ⟨⟨t118, t119⟩, A190, H⟩ := H
  replace H : ((spec_l1Rd_pick.f kj3 s0_0 t119 16).bind fun bt120 => ((some (([t112, wrap64 (256 * t114), wrap64 (65535 - t116), t118, wrap64 (4656 + bt120.1)] : List Int) : List Int)).bind fun y122 => ((spec_l1Rd_pick.f kj3 s0_0 bt120.2 5).bind fun bt125 => (if 0 ≤ bt125.1 then (if bt125.1 < (y122.length : Int) then ((spec_l1Size.f kj3 x3_3).bind fun t128 => (if t128 = 0 then (none) else (some (wrap64 ((rd y122 bt125.1) - (Int.tmod (rd y122 bt125.1) t128)), x3_3, bt125.2)))) else (none)) else (none))))) = some (r1, r2, r3) := H
  have A19 := zA A190
  clear A190
  replace H := Option.bind_eq_some_iff.mp H
  obtain ⟨⟨t120, t121⟩, A200, H⟩ := H
  replace H : ((some (([t112, wrap64 (256 * t114), wrap64 (65535 - t116), t118, wrap64 (4656 + t120)] : List Int) : List Int)).bind fun y122 => ((spec_l1Rd_pick.f kj3 s0_0 t121 5).bind fun bt125 => (if 0 ≤ bt125.1 then (if bt125.1 < (y122.length : Int) then ((spec_l1Size.f kj3 x3_3).bind fun t128 => (if t128 = 0 then (none) else (some (wrap64 ((rd y122 bt125.1) - (Int.tmod (rd y122 bt125.1) t128)), x3_3, bt125.2)))) else (none)) else (none)))) = some (r1, r2, r3) := H
  have A20 := zA A200
  clear A200
  obtain ⟨y122, hy122⟩ : ∃ y_ : List Int, y_ = (([t112, wrap64 (256 * t114), wrap64 (65535 - t116), t118, wrap64 (4656 + t120)] : List Int)) := ⟨_, rfl⟩
  replace H : ((spec_l1Rd_pick.f kj3 s0_0 t121 5).bind fun bt125 => (if 0 ≤ bt125.1 then (if bt125.1 < (y122.length : Int) then ((spec_l1Size.f kj3 x3_3).bind fun t128 => (if t128 = 0 then (none) else (some (wrap64 ((rd y122 bt125.1) - (Int.tmod (rd y122 bt125.1) t128)), x3_3, bt125.2)))) else (none)) else (none))) = some (r1, r2, r3) := by first | (rw [hy122]; with_reducible exact H) | (have H2_ := (Option.bind_some _ _).symm.trans H; rw [hy122]; with_reducible exact H2_) | (have H2_ := (Option.bind_some _ _).symm.trans H; with_reducible exact H2_) | with_reducible exact H | (rw [hy122]; exact H) | exact H
  have Ny122 := zA hy122
  clear hy122
  replace H := Option.bind_eq_some_iff.mp H
  obtain ⟨⟨t125, t126⟩, A210, H⟩ := H
  replace H : (if 0 ≤ t125 then (if t125 < (y122.length : Int) then ((spec_l1Size.f kj3 x3_3).bind fun t128 => (if t128 = 0 then (none) else (some (wrap64 ((rd y122 t125) - (Int.tmod (rd y122 t125) t128)), x3_3, t126)))) else (none)) else (none)) = some (r1, r2, r3) := H
  have A21 := zA A210
  clear A210
  by_cases c22 : 0 ≤ t125
  ·rw [if_pos c22] at H
   have c22b0 : decide (0 ≤ t125) = true := decide_eq_true c22
   clear c22
   by_cases c23 : t125 < (y122.length : Int)
   ·rw [if_pos c23] at H
    have c23b0 : decide (t125 < (y122.length : Int)) = true := decide_eq_true c23
    clear c23
    replace H := Option.bind_eq_some_iff.mp H
    obtain ⟨t128, A240, H⟩ := H
    replace H : (if t128 = 0 then (none) else (some (wrap64 ((rd y122 t125) - (Int.tmod (rd y122 t125) t128)), x3_3, t126))) = some (r1, r2, r3) := H
    have A24 := zA A240
    clear A240
    by_cases c25 : t128 = 0
    ·rw [if_pos c25] at H
     exact absurd H (by simp)
    rw [if_neg c25] at H
    have c25b0 : (t128 == 0) = false := beq_eq_false_iff_ne.mpr c25
    have c25b1 : (t128 != 0) = true := bne_iff_ne.mpr c25
    simp only [Option.some.injEq, Prod.mk.injEq] at H
    obtain ⟨rfl, rfl, rfl⟩ := H
    go_wp2_with (first | ((with_reducible refine gate_callee (f := 81) rfl ?_); refine goesL_ (some 16) rfl rfl Try.func81 (by kernel_rfl) rfl #[.pointer (some ⟨g, 0, none⟩), .int .i64 65536] rfl y1  ?_; (with_reducible refine (spec_l1Rd_pick.calls kj3 g s0_0 x1001_3 65536 t112 t113 w0 _ ?side1 ?side2 A16.out).mono ?_); (case side1 => exact zHI0); (case side2 => exact zHB); rintro e w26 ⟨rfl, hi, hb, hk⟩; refine ⟨_, rfl, ?_⟩; have n0_ := zA (KeepBut.blk hk (g' := gb101) (o := .cells #[.int .i64 0, .int .i64 0] 26 (0, 0)) (zb BK101.out) NB101_0.out (by simp)); have n1_ := zA (KeepBut.trans (zHK) hk (.inl rfl)); have n2_ := zA (hb); have n3_ := zA (hi); clear BK101; clear HK; clear HB; clear HI0; have BK101 := n0_; have HK := n1_; have HB := n2_; have HI0 := n3_; clear n0_ n1_ n2_ n3_; (try clear hb); (try clear hb2); (try clear hk); (try clear hi)) | ((with_reducible refine gate_callee (f := 81) rfl ?_); refine goesL_ (some 18) rfl rfl Try.func81 (by kernel_rfl) rfl #[.pointer (some ⟨g, 0, none⟩), .int .i64 4] rfl y1  ?_; (with_reducible refine (spec_l1Rd_pick.calls kj3 g s0_0 t113 4 t114 t115 w0 _ ?side1 ?side2 A17.out).mono ?_); (case side1 => exact zHI0); (case side2 => exact zHB); rintro e w27 ⟨rfl, hi, hb, hk⟩; refine ⟨_, rfl, ?_⟩; have n0_ := zA (KeepBut.blk hk (g' := gb101) (o := .cells #[.int .i64 0, .int .i64 0] 26 (0, 0)) (zb BK101.out) NB101_0.out (by simp)); have n1_ := zA (KeepBut.trans (zHK) hk (.inl rfl)); have n2_ := zA (hb); have n3_ := zA (hi); clear BK101; clear HK; clear HB; clear HI0; have BK101 := n0_; have HK := n1_; have HB := n2_; have HI0 := n3_; clear n0_ n1_ n2_ n3_; (try clear hb); (try clear hb2); (try clear hk); (try clear hi)) | ((with_reducible refine gate_callee (f := 81) rfl ?_); refine goesL_ (some 21) rfl rfl Try.func81 (by kernel_rfl) rfl #[.pointer (some ⟨g, 0, none⟩), .int .i64 9] rfl y1  ?_; (with_reducible refine (spec_l1Rd_pick.calls kj3 g s0_0 t115 9 t116 t117 w0 _ ?side1 ?side2 A18.out).mono ?_); (case side1 => exact zHI0); (case side2 => exact zHB); rintro e w28 ⟨rfl, hi, hb, hk⟩; refine ⟨_, rfl, ?_⟩; have n0_ := zA (KeepBut.blk hk (g' := gb101) (o := .cells #[.int .i64 0, .int .i64 0] 26 (0, 0)) (zb BK101.out) NB101_0.out (by simp)); have n1_ := zA (KeepBut.trans (zHK) hk (.inl rfl)); have n2_ := zA (hb); have n3_ := zA (hi); clear BK101; clear HK; clear HB; clear HI0; have BK101 := n0_; have HK := n1_; have HB := n2_; have HI0 := n3_; clear n0_ n1_ n2_ n3_; (try clear hb); (try clear hb2); (try clear hk); (try clear hi)) | ((with_reducible refine gate_callee (f := 81) rfl ?_); refine goesL_ (some 24) rfl rfl Try.func81 (by kernel_rfl) rfl #[.pointer (some ⟨g, 0, none⟩), .int .i64 16] rfl y1  ?_; (with_reducible refine (spec_l1Rd_pick.calls kj3 g s0_0 t117 16 t118 t119 w0 _ ?side1 ?side2 A19.out).mono ?_); (case side1 => exact zHI0); (case side2 => exact zHB); rintro e w29 ⟨rfl, hi, hb, hk⟩; refine ⟨_, rfl, ?_⟩; have n0_ := zA (KeepBut.blk hk (g' := gb101) (o := .cells #[.int .i64 0, .int .i64 0] 26 (0, 0)) (zb BK101.out) NB101_0.out (by simp)); have n1_ := zA (KeepBut.trans (zHK) hk (.inl rfl)); have n2_ := zA (hb); have n3_ := zA (hi); clear BK101; clear HK; clear HB; clear HI0; have BK101 := n0_; have HK := n1_; have HB := n2_; have HI0 := n3_; clear n0_ n1_ n2_ n3_; (try clear hb); (try clear hb2); (try clear hk); (try clear hi)) | ((with_reducible refine gate_callee (f := 81) rfl ?_); refine goesL_ (some 26) rfl rfl Try.func81 (by kernel_rfl) rfl #[.pointer (some ⟨g, 0, none⟩), .int .i64 16] rfl y1  ?_; (with_reducible refine (spec_l1Rd_pick.calls kj3 g s0_0 t119 16 t120 t121 w0 _ ?side1 ?side2 A20.out).mono ?_); (case side1 => exact zHI0); (case side2 => exact zHB); rintro e w30 ⟨rfl, hi, hb, hk⟩; refine ⟨_, rfl, ?_⟩; have n0_ := zA (KeepBut.blk hk (g' := gb101) (o := .cells #[.int .i64 0, .int .i64 0] 26 (0, 0)) (zb BK101.out) NB101_0.out (by simp)); have n1_ := zA (KeepBut.trans (zHK) hk (.inl rfl)); have n2_ := zA (hb); have n3_ := zA (hi); clear BK101; clear HK; clear HB; clear HI0; have BK101 := n0_; have HK := n1_; have HB := n2_; have HI0 := n3_; clear n0_ n1_ n2_ n3_; (try clear hb); (try clear hb2); (try clear hk); (try clear hi)) | ((with_reducible refine gate_dst (N := 28) rfl ?_); refine Kd.R_lit (Kd.int .i64) _ 3 ?hg (N := 28) ?hd (xs := ([t112, wrap64 (256 * t114), wrap64 (65535 - t116), t118, wrap64 (4656 + t120)] : List Int)) (inner := [.int .i64 t112, .int .i64 (wrap64 (256 * t114)), .int .i64 (wrap64 (65535 - t116)), .int .i64 t118, .int .i64 (wrap64 (4656 + t120))]) (ok := fun _ => True) (okp := fun _ => True) ?hr ?hp (fun _ hk => hk) trivial (Below.refl _ _) (Nat.le_refl _) (by simp) ?_; (case hd => rfl); (case hg => rfl); (case hr => first | (go_simp; done) | (go_simp; rfl)); (case hp => exact (Reps.one (show Kd.M (Kd.int .i64) _ _ _ t112 [.int .i64 t112] from rfl) (Reps.one (show Kd.M (Kd.int .i64) _ _ _ (wrap64 (256 * t114)) [.int .i64 (wrap64 (256 * t114))] from rfl) (Reps.one (show Kd.M (Kd.int .i64) _ _ _ (wrap64 (65535 - t116)) [.int .i64 (wrap64 (65535 - t116))] from rfl) (Reps.one (show Kd.M (Kd.int .i64) _ _ _ t118 [.int .i64 t118] from rfl) (Reps.one (show Kd.M (Kd.int .i64) _ _ _ (wrap64 (4656 + t120)) [.int .i64 (wrap64 (4656 + t120))] from rfl) (Reps.none _ _))))))); intro v123 w31 ho32 hb hg_ hnew_; clear hg_ hnew_; (first | rw [← Ny122.out] at ho32 | (simp only [Int.reduceToNat] at ho32; rw [← Ny122.out] at ho32)); have n0_ := zA (Kd.R_lower ho32 (keep_size (w := w) (g := g) (row := none) (zHK))); have n1_ := zA (blk_below (g := gb101) (o := .cells #[.int .i64 0, .int .i64 0] 26 (0, 0)) (zb BK101.out) hb); have n2_ := zA (IsS117.below (zHI0) hb); have n3_ := zA (KeepBut.trans (zHK) (KeepBut.of_below hb g none) (.inl rfl)); have n4_ := zA (below_step (zHB) hb); clear BK101; clear HI0; clear HK; clear HB; have HO124 := n0_; have BK101 := n1_; have HI0 := n2_; have HK := n3_; have HB := n4_; clear n0_ n1_ n2_ n3_ n4_; clear hb ho32) | ((with_reducible refine gate_callee (f := 81) rfl ?_); refine goesL_ (some 30) rfl rfl Try.func81 (by kernel_rfl) rfl #[.pointer (some ⟨g, 0, none⟩), .int .i64 5] rfl y1  ?_; (with_reducible refine (spec_l1Rd_pick.calls kj3 g s0_0 t121 5 t125 t126 w0 _ ?side1 ?side2 A21.out).mono ?_); (case side1 => exact zHI0); (case side2 => exact zHB); rintro e w33 ⟨rfl, hi, hb, hk⟩; refine ⟨_, rfl, ?_⟩; have n0_ := zA (KeepBut.blk hk (g' := gb101) (o := .cells #[.int .i64 0, .int .i64 0] 26 (0, 0)) (zb BK101.out) NB101_0.out (by simp)); have n1_ := zA (Kd.R_mono (Kd.R_keep (IsS117.apart (show IsS117 w0 _ g s0_0 t121 from zHI0) (by (with_reducible repeat (first | apply Kd.R_alloc | apply Kd.R_drewN | apply Kd.R_drew)); exact HO124.out) (by decide)) hk (fun _ h => h.2)) (fun _ h => h.1)); have n2_ := zA (KeepBut.trans (zHK) hk (.inl rfl)); have n3_ := zA (hb); have n4_ := zA (hi); clear BK101; clear HO124; clear HK; clear HB; clear HI0; have BK101 := n0_; have HO124 := n1_; have HK := n2_; have HB := n3_; have HI0 := n4_; clear n0_ n1_ n2_ n3_ n4_; (try clear hb); (try clear hb2); (try clear hk); (try clear hi); obtain ⟨Ao34, co34, eo34⟩ := Kd.R_slice HO124.out; subst eo34; have p127 : 0 ≤ (t125 : Int) := of_decide_eq_true y2 ; have q127 : t125 < (y122.length : Int) := of_decide_eq_true y2 ; obtain ⟨ad127, e127, hx127_0⟩ := Kd.at_int (Kd.R_reads' HO124.out).2.2 t125 p127 q127; cases e127; replace p127 := eq_true p127; replace q127 := eq_true q127) | ((with_reducible refine gate_callee (f := 76) rfl ?_); refine goesL_ (some 36) rfl rfl Try.func76 (by kernel_rfl) rfl #[.int .i64 x3_3] rfl y1  ?_; (with_reducible refine (spec_l1Size.calls kj3 x3_3 t128 _ A24.out).mono ?_); rintro e w' ⟨rfl, ⟨nd, rfl⟩⟩; refine ⟨_, rfl, ?_⟩; (try (rw [drewN_self w33]; generalize hq_ : World.drewN w33 _ = w33; have n0_ : Aside0 (Kd.R (Kd.int .i64) 3 w33 w.heap.size (fun _ => True) (.slice (some ad127) y122.length co34) y122) := ⟨by rw [← hq_]; exact (by (with_reducible repeat (first | apply Kd.R_alloc | apply Kd.R_drewN | apply Kd.R_drew)); exact HO124.out)⟩; have n1_ : Aside0 (w33.heap[gb101]? = some (.cells #[.int .i64 0, .int .i64 0] 26 (0, 0))) := ⟨by rw [← hq_]; exact (zb BK101.out)⟩; have n2_ : Aside0 (IsS117 w0 w33 g s0_0 t126) := ⟨by rw [← hq_]; exact (zHI0)⟩; have n3_ : Aside0 (KeepBut w w33 g none) := ⟨by rw [← hq_]; exact (zHK)⟩; have n4_ : Aside0 (Below w0.heap.size w0 w33) := ⟨by rw [← hq_]; exact (zHB)⟩; clear HO124 BK101 HI0 HK HB hq_; have HO124 := n0_; have BK101 := n1_; have HI0 := n2_; have HK := n3_; have HB := n4_; clear n0_ n1_ n2_ n3_ n4_)); have hnb35 := NB101_0.out; have hnc35 := NB0_101.out; have hcz36_0 : w33.cell? ⟨gb101, 0, none⟩ = some (.int .i64 0) := (blk_cell BK101.out 0).trans rfl; have hcz36_1 : w33.cell? ⟨gb101, 1, none⟩ = some (.int .i64 0) := (blk_cell BK101.out 1).trans rfl; have hfz36_0 := blk_frozen BK101.out 0; have hfz36_1 := blk_frozen BK101.out 1))
    refine bodyPost_ret (results_cell_row rfl _ _ gb101 26 #[.int .i64 (wrap64 ((rd y122 t125) - (Int.tmod (rd y122 t125) t128))), .int .i64 x3_3] (0, 0) _ rfl (by refine zq ?_; refine blk_put (cs := #[.int .i64 (wrap64 ((rd y122 t125) - (Int.tmod (rd y122 t125) t128))), .int .i64 0]) ?_ 1 _ rfl; refine zq ?_; refine blk_put (cs := #[.int .i64 0, .int .i64 0]) ?_ 0 _ rfl; refine zq ?_; exact BK101.out) Try.underlying26 rfl (by kernel_rfl)) rfl ?_
    exact ⟨by first | rfl | (simp [errW_none, errW_some] <;> rfl) | (simp [*, errW_none, errW_some] <;> rfl), zHI0, zHB, zHK⟩
   rw [if_neg c23] at H
   exact absurd H (by simp)
  rw [if_neg c22] at H
  exact absurd H (by simp)
end Go.Proofs.Ytnakanjhdcakhaa.Q
namespace Go.Proofs.Ytnakanjhdcakhaa.Q
open Go.RowKit Go.Proofs.YtnakanjhdcakhaaW.PrintWords Go.Proofs.YtnakanjhdcakhaaW.PrintLast Go.Proofs.YtnakanjhdcakhaaW.PrintMore
attribute [local go_sem] max2_int min2_int max_two min_two max_three min_three max_four min_four   -- for this text's walks alone
set_option linter.unusedVariables false
set_option linter.unusedSimpArgs false
mutual
def spec_l5Rules.l0 : Nat → List (S54) → Int → List Int → Int → Option ((List (S54)) × Int)
  | 0, _, _, _, _ => none
  | k + 1, x3, x4, x1000, x1001 => if x4 > 0 then ((spec_l1Rd_pick.f k x1000 x1001 2).bind fun bt106 => ((spec_l5Prefix.f k x1000 bt106.2).bind fun bt108 => ((spec_l5Prefix.f k x1000 bt108.2.2).bind fun bt111 => ((spec_l1Rd_pick.f k x1000 bt111.2.2 3).bind fun bt114 => ((spec_l1Rd_pick.f k x1000 bt114.2 3).bind fun bt116 => (if (x3.length : Int) > 0 then ((spec_l1Rd_pick.f k x1000 bt116.2 2).bind fun bt119 => (spec_l5Rules.j1 k x3 x4 (bt119.1 == 0) x1000 bt119.2 (bt106.1 == 0) bt108.1 bt108.2.1 bt111.1 bt111.2.1 (wrap64 (bt114.1 * bt116.1)))) else (spec_l5Rules.j1 k x3 x4 false x1000 bt116.2 (bt106.1 == 0) bt108.1 bt108.2.1 bt111.1 bt111.2.1 (wrap64 (bt114.1 * bt116.1))))))))) else (some (x3, x1001))
def spec_l5Rules.j1 : Nat → List (S54) → Int → Bool → List Int → Int → Bool → Int → Int → Int → Int → Int → Option ((List (S54)) × Int)
  | 0, _, _, _, _, _, _, _, _, _, _, _ => none
  | k + 1, x3, x4, x34, x1000, x1001, x119000, x119001, x119002, x119003, x119004, x119005 => if x34 = true then ((spec_l1Rd_pick.f k x1000 x1001 (x3.length : Int)).bind fun bt121 => (if 0 ≤ bt121.1 then (if bt121.1 < (x3.length : Int) then ((spec_l1Rd_pick.f k x1000 bt121.2 2).bind fun bt125 => (if bt125.1 = 0 then (spec_l5Rules.j2 k x3 x4 (decide (((rd_T54 x3 bt121.1).f2.f1) < 16)) x1000 bt125.2 x119000 ((rd_T54 x3 bt121.1).f1.f0) ((rd_T54 x3 bt121.1).f1.f1) x119003 x119004 x119005 ((rd_T54 x3 bt121.1).f0) ((rd_T54 x3 bt121.1).f1.f0) ((rd_T54 x3 bt121.1).f1.f1) ((rd_T54 x3 bt121.1).f2.f0) ((rd_T54 x3 bt121.1).f2.f1) ((rd_T54 x3 bt121.1).f3)) else (spec_l5Rules.j2 k x3 x4 false x1000 bt125.2 x119000 ((rd_T54 x3 bt121.1).f1.f0) ((rd_T54 x3 bt121.1).f1.f1) x119003 x119004 x119005 ((rd_T54 x3 bt121.1).f0) ((rd_T54 x3 bt121.1).f1.f0) ((rd_T54 x3 bt121.1).f1.f1) ((rd_T54 x3 bt121.1).f2.f0) ((rd_T54 x3 bt121.1).f2.f1) ((rd_T54 x3 bt121.1).f3)))) else (none)) else (none))) else ((spec_l1Rd_pick.f k x1000 x1001 5).bind fun bt147 => (if bt147.1 = 0 then (if x3.length < 2932031007402 then (spec_l5Rules.l0 k (x3 ++ [(⟨x119000, (⟨0, 0⟩ : S26), (⟨x119003, x119004⟩ : S26), x119005⟩ : S54)]) (wrap64 (x4 - 1)) x1000 bt147.2) else (none)) else (if x3.length < 2932031007402 then (spec_l5Rules.l0 k (x3 ++ [(⟨x119000, (⟨x119001, x119002⟩ : S26), (⟨x119003, x119004⟩ : S26), x119005⟩ : S54)]) (wrap64 (x4 - 1)) x1000 bt147.2) else (none))))
def spec_l5Rules.j2 : Nat → List (S54) → Int → Bool → List Int → Int → Bool → Int → Int → Int → Int → Int → Bool → Int → Int → Int → Int → Int → Option ((List (S54)) × Int)
  | 0, _, _, _, _, _, _, _, _, _, _, _, _, _, _, _, _, _ => none
  | k + 1, x3, x4, x53, x1000, x1001, x119000, x119001, x119002, x119003, x119004, x119005, x125000, x125001, x125002, x125003, x125004, x125005 => if x53 = true then ((spec_l1Halves.f k x125003 x125004).bind fun bt127 => ((spec_l1Rd_pick.f k x1000 x1001 5).bind fun bt131 => (if bt131.1 = 0 then (if x3.length < 2932031007402 then (spec_l5Rules.l0 k (x3 ++ [(⟨x119000, (⟨0, 0⟩ : S26), (⟨bt127.1, bt127.2.1⟩ : S26), x119005⟩ : S54)]) (wrap64 (x4 - 1)) x1000 bt131.2) else (none)) else (if x3.length < 2932031007402 then (spec_l5Rules.l0 k (x3 ++ [(⟨x119000, (⟨x119001, x119002⟩ : S26), (⟨bt127.1, bt127.2.1⟩ : S26), x119005⟩ : S54)]) (wrap64 (x4 - 1)) x1000 bt131.2) else (none))))) else ((spec_l1Rd_pick.f k x1000 x1001 5).bind fun bt139 => (if bt139.1 = 0 then (if x3.length < 2932031007402 then (spec_l5Rules.l0 k (x3 ++ [(⟨x119000, (⟨0, 0⟩ : S26), (⟨x119003, x119004⟩ : S26), x119005⟩ : S54)]) (wrap64 (x4 - 1)) x1000 bt139.2) else (none)) else (if x3.length < 2932031007402 then (spec_l5Rules.l0 k (x3 ++ [(⟨x119000, (⟨x119001, x119002⟩ : S26), (⟨x119003, x119004⟩ : S26), x119005⟩ : S54)]) (wrap64 (x4 - 1)) x1000 bt139.2) else (none))))
end
def spec_l5Rules.f (k : Nat) (s0_0 : List Int) (s0_1 : Int) : Option ((List (S54)) × Int) := (spec_l1Rd_pick.f k s0_0 s0_1 7).bind fun bt104 => (spec_l5Rules.l0 k (([] : List (S54))) bt104.1 s0_0 bt104.2)
theorem spec_l5Rules.grown117 {w0 W W0 : World} {g : Nat} {f0 : List Int} {f1 : Int} {W1 : World} {row : Option Nat} (_ : IsS117 w0 W0 g f0 f1) (h : IsS117 w0 W g f0 f1) (hw : W.grownBy W1 row) (hne : some g ≠ row) : IsS117 w0 W1 g f0 f1 := IsS117.grown h hw hne
theorem spec_l5Rules.zHK {P : Prop} (h : P := by repeat (first | (with_reducible first | exact HK.out | apply KeepBut.set_ | apply keep_drewN | apply keep_drew | apply keep_alloc | refine keep_far ?_ GW118.out _ | refine keep_far ?_ GW124.out _) | exact HK.out)) : P := h
theorem spec_l5Rules.zHI0 {P : Prop} (h : P := by repeat (first | (with_reducible first | exact HI0.out | apply IsS117.alloc | apply IsS117.drewN | apply IsS117.drew | apply IsS117.set_1 | refine IsS117.far ?_ NB0_118.out _ | refine IsS117.far ?_ NB0_124.out _) | exact HI0.out)) : P := h
theorem spec_l5Rules.zHB {P : Prop} (h : P := by repeat (first | (with_reducible first | exact HB.out | apply below_alloc | apply pw_below_drewN | apply below_drew1 | refine below_set ?_ (IsS117.ge HI0.out) | refine below_set ?_ GE118.out | refine below_set ?_ GE124.out) | exact HB.out)) : P := h
theorem spec_l5Rules.zb {P Q : Prop} (x : Q) (h : Q → P := by intro x_; (with_reducible repeat (first | refine blk_drewN ?_ _ | refine blk_drew ?_ | refine blk_alloc ?_ _)); exact x_) : P := h x
theorem spec_l5Rules.zr {P Q : Prop} (x : Q) (h : Q → P := by intro x_; (with_reducible repeat (first | apply Kd.R_alloc | apply Kd.R_drewN | apply Kd.R_drew)); exact x_) : P := h x
theorem spec_l5Rules.zq {P Q : Prop} (x : Q) (h : Q → P := by intro x_; (with_reducible repeat (first | refine blk_drewN ?_ _ | refine blk_drew ?_ | refine blk_alloc ?_ _)); exact x_) : P := h x
theorem spec_l5Rules.zk {P Q : Prop} (x : Q) (h : Q → P := by intro x_; (with_reducible repeat (first | apply Kd.R_alloc | apply Kd.R_drewN | apply Kd.R_drew)); exact x_) : P := h x
theorem spec_l5Rules.y1 {P : Prop} (h : P := by (try simp only [List.map_toArray, List.map_cons, List.map_nil]); first | done | rfl | (simp only [List.length_drop, List.length_take]; rfl)) : P := h
theorem spec_l5Rules.y2 {P : Prop} (h : P := by refine zq ?_; refine blk_far ?_ NB124_118.out _; refine zq ?_; refine blk_far ?_ NB124_118.out _; refine zq ?_; exact BK124.out) : P := h
theorem spec_l5Rules.y3 {P : Prop} (h : P := by first | rfl | (simp; done) | (simp [*]; done)) : P := h
theorem spec_l5Rules.zA {p : Prop} (h : p) : Aside0 p := ⟨h⟩
set_option maxHeartbeats 8000000 in
set_option maxRecDepth 100000 in
theorem spec_l5Rules.calls (k : Nat) (g : Nat) (s0_0 : List Int) (s0_1 : Int) (r1 : List (S54)) (r2 : Int) (w0 w : World) (hI : IsS117 w0 w g s0_0 s0_1) (hB : Below w0.heap.size w0 w) (h : spec_l5Rules.f k s0_0 s0_1 = some (r1, r2)) :
  Calls Try.prog 110 #[.pointer (some ⟨g, 0, none⟩)] w fun e w' => ∃ v0_ : Value, e = .returned (v0_) ∧ Kd.R k54 54 w' w.heap.size (fun _ => True) v0_ r1 ∧ IsS117 w0 w' g s0_0 r2 ∧ Below w0.heap.size w0 w' ∧ KeepBut w w' g none := by
 have hu54 := Try.underlying54
 have hu26 := Try.underlying26
 have HI0 := zA hI
 have HK := zA (KeepBut.refl w g none)
 have HL := zA hB.size
 clear hI
 have HW0 := zA hB.size
 have HB := zA hB
 clear hB
 have H : ((spec_l1Rd_pick.f k s0_0 s0_1 7).bind fun bt104 => (spec_l5Rules.l0 k (([] : List (S54))) bt104.1 s0_0 bt104.2)) = some (r1, r2) := h
 clear h
 obtain ⟨y101, hy101⟩ : ∃ y_ : List (S54), y_ = (([] : List (S54))) := ⟨_, rfl⟩
 replace H : ((spec_l1Rd_pick.f k s0_0 s0_1 7).bind fun bt104 => (spec_l5Rules.l0 k y101 bt104.1 s0_0 bt104.2)) = some (r1, r2) := by first | (rw [hy101]; with_reducible exact H) | (have H2_ := (Option.bind_some _ _).symm.trans H; rw [hy101]; with_reducible exact H2_) | (have H2_ := (Option.bind_some _ _).symm.trans H; with_reducible exact H2_) | with_reducible exact H | (rw [hy101]; exact H) | exact H
 have Ny101 := zA hy101
 clear hy101
 replace H := Option.bind_eq_some_iff.mp H
 obtain ⟨⟨t104, t105⟩, A20, H⟩ := H
 replace H : (spec_l5Rules.l0 k y101 t104 s0_0 t105) = some (r1, r2) := H
 have A2 := zA A20
 clear A20
 have H' := zA H
 clear H
 go_enter Try.func110, Try.ntmps110
 go_wp2_with (first | ((with_reducible refine gate_dst (N := 7) rfl ?_); refine Kd.R_lit k54 _ 54 ?hg (N := 7) ?hd (xs := ([] : List (S54))) (inner := []) (ok := fun _ => True) (okp := fun _ => True) ?hr ?hp (fun _ hk => hk) trivial (Below.refl _ _) (Nat.le_refl _) (by simp) ?_; (case hd => rfl); (case hg => rfl); (case hr => first | (go_simp; done) | (go_simp; rfl)); (case hp => exact (Reps.none _ _)); intro v102 w3 ho4 hb hg_ hnew_; clear hg_ hnew_; (first | rw [← Ny101.out] at ho4 | (simp only [Int.reduceToNat] at ho4; rw [← Ny101.out] at ho4)); have n0_ := zA (Kd.R_lower ho4 (keep_size (w := w) (g := g) (row := none) (zHK))); have n1_ := zA (IsS117.below (zHI0) hb); have n2_ := zA (KeepBut.trans (zHK) (KeepBut.of_below hb g none) (.inl rfl)); have n3_ := zA (below_step (zHB) hb); clear HI0; clear HK; clear HB; have HO103 := n0_; have HI0 := n1_; have HK := n2_; have HB := n3_; clear n0_ n1_ n2_ n3_; clear hb ho4) | ((with_reducible refine gate_callee (f := 81) rfl ?_); refine goesL_ (some 9) rfl rfl Try.func81 (by kernel_rfl) rfl #[.pointer (some ⟨g, 0, none⟩), .int .i64 7] rfl y1  ?_; (with_reducible refine (spec_l1Rd_pick.calls k g s0_0 s0_1 7 t104 t105 w0 _ ?side1 ?side2 A2.out).mono ?_); (case side1 => exact zHI0); (case side2 => exact zHB); rintro e w5 ⟨rfl, hi, hb, hk⟩; refine ⟨_, rfl, ?_⟩; have n0_ := zA (Kd.R_mono (Kd.R_keep (IsS117.apart (show IsS117 w0 _ g s0_0 s0_1 from zHI0) (zr HO103.out) (by decide)) hk (fun _ h => h.2)) (fun _ h => h.1)); have n1_ := zA (KeepBut.trans (zHK) hk (.inl rfl)); have n2_ := zA (hb); have n3_ := zA (hi); clear HO103; clear HK; clear HB; clear HI0; have HO103 := n0_; have HK := n1_; have HB := n2_; have HI0 := n3_; clear n0_ n1_ n2_ n3_; (try clear hb); (try clear hb2); (try clear hk); (try clear hi)))
 go_loopg [3, 4] k (fun kq v3 v4 w' => ∃ (x3_1 : List (S54)) (x4_1 : Int) (x1001_1 : Int), v4 = .int .i64 x4_1 ∧ Aside0 (spec_l5Rules.l0 kq x3_1 x4_1 s0_0 x1001_1 = some (r1, r2)) ∧ Aside0 (kq ≤ k) ∧ Aside0 (Kd.R k54 54 w' w.heap.size (fun _ => True) v3 x3_1) ∧ Aside0 (IsS117 w0 w' g s0_0 x1001_1) ∧ Aside0 (KeepBut w w' g none) ∧ Aside0 (Below w0.heap.size w0 w'))
 case atStart => exact ⟨(y101), (t104), (t105), y3 , H', ⟨Nat.le_refl _⟩, ⟨by refine zk ?_; exact HO103.out⟩, ⟨zHI0⟩, ⟨zHK⟩, ⟨zHB⟩⟩
 case round =>
  clear H'
  try clear c1
  try clear p2
  obtain ⟨x3_1, x4_1, x1001_1, rfl, HA, HK1, HO_3, HI0, HK, HB⟩ := hrel
  cases gk with
  | zero => exact absurd HA.out (by simp [spec_l5Rules.l0])
  | succ k1 => ?_
  have H := HA.out
  clear HA
  simp only [spec_l5Rules.l0] at H
  by_cases c6 : x4_1 > 0
  ·rw [if_pos c6] at H
   have c6b0 : decide (0 < x4_1) = true := decide_eq_true c6
   clear c6
   replace H := Option.bind_eq_some_iff.mp H
   obtain ⟨⟨t106, t107⟩, A70, H⟩ := H
   replace H : ((spec_l5Prefix.f k1 s0_0 t107).bind fun bt108 => ((spec_l5Prefix.f k1 s0_0 bt108.2.2).bind fun bt111 => ((spec_l1Rd_pick.f k1 s0_0 bt111.2.2 3).bind fun bt114 => ((spec_l1Rd_pick.f k1 s0_0 bt114.2 3).bind fun bt116 => (if (x3_1.length : Int) > 0 then ((spec_l1Rd_pick.f k1 s0_0 bt116.2 2).bind fun bt119 => (spec_l5Rules.j1 k1 x3_1 x4_1 (bt119.1 == 0) s0_0 bt119.2 (t106 == 0) bt108.1 bt108.2.1 bt111.1 bt111.2.1 (wrap64 (bt114.1 * bt116.1)))) else (spec_l5Rules.j1 k1 x3_1 x4_1 false s0_0 bt116.2 (t106 == 0) bt108.1 bt108.2.1 bt111.1 bt111.2.1 (wrap64 (bt114.1 * bt116.1)))))))) = some (r1, r2) := H
   have A7 := zA A70
   clear A70
   replace H := Option.bind_eq_some_iff.mp H
   obtain ⟨⟨t108, t109, t110⟩, A80, H⟩ := H
   replace H : ((spec_l5Prefix.f k1 s0_0 t110).bind fun bt111 => ((spec_l1Rd_pick.f k1 s0_0 bt111.2.2 3).bind fun bt114 => ((spec_l1Rd_pick.f k1 s0_0 bt114.2 3).bind fun bt116 => (if (x3_1.length : Int) > 0 then ((spec_l1Rd_pick.f k1 s0_0 bt116.2 2).bind fun bt119 => (spec_l5Rules.j1 k1 x3_1 x4_1 (bt119.1 == 0) s0_0 bt119.2 (t106 == 0) t108 t109 bt111.1 bt111.2.1 (wrap64 (bt114.1 * bt116.1)))) else (spec_l5Rules.j1 k1 x3_1 x4_1 false s0_0 bt116.2 (t106 == 0) t108 t109 bt111.1 bt111.2.1 (wrap64 (bt114.1 * bt116.1))))))) = some (r1, r2) := H
   have A8 := zA A80
   clear A80
   replace H := Option.bind_eq_some_iff.mp H
   obtain ⟨⟨t111, t112, t113⟩, A90, H⟩ := H
   replace H : ((spec_l1Rd_pick.f k1 s0_0 t113 3).bind fun bt114 => ((spec_l1Rd_pick.f k1 s0_0 bt114.2 3).bind fun bt116 => (if (x3_1.length : Int) > 0 then ((spec_l1Rd_pick.f k1 s0_0 bt116.2 2).bind fun bt119 => (spec_l5Rules.j1 k1 x3_1 x4_1 (bt119.1 == 0) s0_0 bt119.2 (t106 == 0) t108 t109 t111 t112 (wrap64 (bt114.1 * bt116.1)))) else (spec_l5Rules.j1 k1 x3_1 x4_1 false s0_0 bt116.2 (t106 == 0) t108 t109 t111 t112 (wrap64 (bt114.1 * bt116.1)))))) = some (r1, r2) := H
   have A9 := zA A90
   clear A90
   replace H := Option.bind_eq_some_iff.mp H
   obtain ⟨⟨t114, t115⟩, A100, H⟩ := H
   replace H : ((spec_l1Rd_pick.f k1 s0_0 t115 3).bind fun bt116 => (if (x3_1.length : Int) > 0 then ((spec_l1Rd_pick.f k1 s0_0 bt116.2 2).bind fun bt119 => (spec_l5Rules.j1 k1 x3_1 x4_1 (bt119.1 == 0) s0_0 bt119.2 (t106 == 0) t108 t109 t111 t112 (wrap64 (t114 * bt116.1)))) else (spec_l5Rules.j1 k1 x3_1 x4_1 false s0_0 bt116.2 (t106 == 0) t108 t109 t111 t112 (wrap64 (t114 * bt116.1))))) = some (r1, r2) := H
   have A10 := zA A100
   clear A100
   replace H := Option.bind_eq_some_iff.mp H
   obtain ⟨⟨t116, t117⟩, A110, H⟩ := H
   replace H : (if (x3_1.length : Int) > 0 then ((spec_l1Rd_pick.f k1 s0_0 t117 2).bind fun bt119 => (spec_l5Rules.j1 k1 x3_1 x4_1 (bt119.1 == 0) s0_0 bt119.2 (t106 == 0) t108 t109 t111 t112 (wrap64 (t114 * t116)))) else (spec_l5Rules.j1 k1 x3_1 x4_1 false s0_0 t117 (t106 == 0) t108 t109 t111 t112 (wrap64 (t114 * t116)))) = some (r1, r2) := H
   have A11 := zA A110
   clear A110
   have HC12 := zA H
   clear H
   go_upto_region 6 with (first | ((with_reducible refine gate_callee (f := 81) rfl ?_); refine goesL_ (some 15) rfl rfl Try.func81 (by kernel_rfl) rfl #[.pointer (some ⟨g, 0, none⟩), .int .i64 2] rfl y1  ?_; (with_reducible refine (spec_l1Rd_pick.calls k1 g s0_0 x1001_1 2 t106 t107 w0 _ ?side1 ?side2 A7.out).mono ?_); (case side1 => exact zHI0); (case side2 => exact zHB); rintro e w13 ⟨rfl, hi, hb, hk⟩; refine ⟨_, rfl, ?_⟩; have n0_ := zA (Kd.R_mono (Kd.R_keep (IsS117.apart (show IsS117 w0 _ g s0_0 x1001_1 from zHI0) (zr HO_3.out) (by decide)) hk (fun _ h => h.2)) (fun _ h => h.1)); have n1_ := zA (KeepBut.trans (zHK) hk (.inl rfl)); have n2_ := zA (hb); have n3_ := zA (hi); clear HO_3; clear HK; clear HB; clear HI0; have HO_3 := n0_; have HK := n1_; have HB := n2_; have HI0 := n3_; clear n0_ n1_ n2_ n3_; (try clear hb); (try clear hb2); (try clear hk); (try clear hi)) | ((with_reducible refine gate_callee (f := 121) rfl ?_); refine goesL_ (some 18) rfl rfl Try.func121 (by kernel_rfl) rfl #[.pointer (some ⟨g, 0, none⟩)] rfl y1  ?_; (with_reducible refine (spec_l5Prefix.calls k1 g s0_0 t107 t108 t109 t110 w0 _ ?side1 ?side2 A8.out).mono ?_); (case side1 => exact zHI0); (case side2 => exact zHB); rintro e w14 ⟨rfl, hi, hb, hk⟩; refine ⟨_, rfl, ?_⟩; have n0_ := zA (Kd.R_mono (Kd.R_keep (IsS117.apart (show IsS117 w0 _ g s0_0 t107 from zHI0) (zr HO_3.out) (by decide)) hk (fun _ h => h.2)) (fun _ h => h.1)); have n1_ := zA (KeepBut.trans (zHK) hk (.inl rfl)); have n2_ := zA (hb); have n3_ := zA (hi); clear HO_3; clear HK; clear HB; clear HI0; have HO_3 := n0_; have HK := n1_; have HB := n2_; have HI0 := n3_; clear n0_ n1_ n2_ n3_; (try clear hb); (try clear hb2); (try clear hk); (try clear hi)) | ((with_reducible refine gate_callee (f := 121) rfl ?_); refine goesL_ (some 20) rfl rfl Try.func121 (by kernel_rfl) rfl #[.pointer (some ⟨g, 0, none⟩)] rfl y1  ?_; (with_reducible refine (spec_l5Prefix.calls k1 g s0_0 t110 t111 t112 t113 w0 _ ?side1 ?side2 A9.out).mono ?_); (case side1 => exact zHI0); (case side2 => exact zHB); rintro e w15 ⟨rfl, hi, hb, hk⟩; refine ⟨_, rfl, ?_⟩; have n0_ := zA (Kd.R_mono (Kd.R_keep (IsS117.apart (show IsS117 w0 _ g s0_0 t110 from zHI0) (zr HO_3.out) (by decide)) hk (fun _ h => h.2)) (fun _ h => h.1)); have n1_ := zA (KeepBut.trans (zHK) hk (.inl rfl)); have n2_ := zA (hb); have n3_ := zA (hi); clear HO_3; clear HK; clear HB; clear HI0; have HO_3 := n0_; have HK := n1_; have HB := n2_; have HI0 := n3_; clear n0_ n1_ n2_ n3_; (try clear hb); (try clear hb2); (try clear hk); (try clear hi)) | ((with_reducible refine gate_callee (f := 81) rfl ?_); refine goesL_ (some 22) rfl rfl Try.func81 (by kernel_rfl) rfl #[.pointer (some ⟨g, 0, none⟩), .int .i64 3] rfl y1  ?_; (with_reducible refine (spec_l1Rd_pick.calls k1 g s0_0 t113 3 t114 t115 w0 _ ?side1 ?side2 A10.out).mono ?_); (case side1 => exact zHI0); (case side2 => exact zHB); rintro e w16 ⟨rfl, hi, hb, hk⟩; refine ⟨_, rfl, ?_⟩; have n0_ := zA (Kd.R_mono (Kd.R_keep (IsS117.apart (show IsS117 w0 _ g s0_0 t113 from zHI0) (zr HO_3.out) (by decide)) hk (fun _ h => h.2)) (fun _ h => h.1)); have n1_ := zA (KeepBut.trans (zHK) hk (.inl rfl)); have n2_ := zA (hb); have n3_ := zA (hi); clear HO_3; clear HK; clear HB; clear HI0; have HO_3 := n0_; have HK := n1_; have HB := n2_; have HI0 := n3_; clear n0_ n1_ n2_ n3_; (try clear hb); (try clear hb2); (try clear hk); (try clear hi)) | ((with_reducible refine gate_callee (f := 81) rfl ?_); refine goesL_ (some 24) rfl rfl Try.func81 (by kernel_rfl) rfl #[.pointer (some ⟨g, 0, none⟩), .int .i64 3] rfl y1  ?_; (with_reducible refine (spec_l1Rd_pick.calls k1 g s0_0 t115 3 t116 t117 w0 _ ?side1 ?side2 A11.out).mono ?_); (case side1 => exact zHI0); (case side2 => exact zHB); rintro e w17 ⟨rfl, hi, hb, hk⟩; refine ⟨_, rfl, ?_⟩; have n0_ := zA (Kd.R_mono (Kd.R_keep (IsS117.apart (show IsS117 w0 _ g s0_0 t115 from zHI0) (zr HO_3.out) (by decide)) hk (fun _ h => h.2)) (fun _ h => h.1)); have n1_ := zA (KeepBut.trans (zHK) hk (.inl rfl)); have n2_ := zA (hb); have n3_ := zA (hi); clear HO_3; clear HK; clear HB; clear HI0; have HO_3 := n0_; have HK := n1_; have HB := n2_; have HI0 := n3_; clear n0_ n1_ n2_ n3_; (try clear hb); (try clear hb2); (try clear hk); (try clear hi)) | ((with_reducible refine gate_dst (N := 5) rfl ?_); refine box_event ?hg (N := 5) ?hd (cs := #[.bool false, .int .i64 0, .int .i64 0, .int .i64 0, .int .i64 0, .int .i64 0]) (t := 54) ?hr ?_; (case hd => rfl); (case hg => rfl); (case hr => first | (go_simp; done) | (go_simp; rfl)); intro gb118 hg w18 hbox hb; have n0_ := zA (Kd.R_below (Kd.R_elderB (zr HO_3.out) gb118 (Nat.le_of_eq hg.symm)) hb); have n1_ := zA (IsS117.below (zHI0) hb); have n2_ := zA (KeepBut.trans (zHK) (KeepBut.of_below hb g none) (.inl rfl)); have n3_ := zA (below_step (zHB) hb); have n4_ := zA (hbox); have n5_ := zA ((by rw [hg]; exact (keep_size (w := w) (g := g) (row := none) (zHK)) : w.heap.size ≤ gb118)); have n6_ := zA ((Nat.le_trans HW0.out (by rw [hg]; exact (keep_size (w := w) (g := g) (row := none) (zHK)) : w.heap.size ≤ gb118) : w0.heap.size ≤ gb118)); have n7_ := zA ((by rw [hg]; exact Nat.ne_of_lt (IsS117.lt (show IsS117 w0 _ g s0_0 t117 from zHI0)) : g ≠ gb118)); have n8_ := zA ((by rw [hg]; exact Nat.ne_of_gt (IsS117.lt (show IsS117 w0 _ g s0_0 t117 from zHI0)) : gb118 ≠ g)); clear HO_3; clear HI0; clear HK; clear HB; have HO_3 := n0_; have HI0 := n1_; have HK := n2_; have HB := n3_; have BK118 := n4_; have GW118 := n5_; have GE118 := n6_; have NB0_118 := n7_; have NB118_0 := n8_; clear n0_ n1_ n2_ n3_ n4_ n5_ n6_ n7_ n8_; clear hb hbox hg; have hnb19 := NB118_0.out; have hnc19 := NB0_118.out; have hcz20_0 : w18.cell? ⟨gb118, 0, none⟩ = some (.bool false) := (blk_cell BK118.out 0).trans rfl; have hcz20_1 : w18.cell? ⟨gb118, 1, none⟩ = some (.int .i64 0) := (blk_cell BK118.out 1).trans rfl; have hcz20_2 : w18.cell? ⟨gb118, 2, none⟩ = some (.int .i64 0) := (blk_cell BK118.out 2).trans rfl; have hcz20_3 : w18.cell? ⟨gb118, 3, none⟩ = some (.int .i64 0) := (blk_cell BK118.out 3).trans rfl; have hcz20_4 : w18.cell? ⟨gb118, 4, none⟩ = some (.int .i64 0) := (blk_cell BK118.out 4).trans rfl; have hcz20_5 : w18.cell? ⟨gb118, 5, none⟩ = some (.int .i64 0) := (blk_cell BK118.out 5).trans rfl; have hfz20_0 := blk_frozen BK118.out 0; have hfz20_1 := blk_frozen BK118.out 1; have hfz20_2 := blk_frozen BK118.out 2; have hfz20_3 := blk_frozen BK118.out 3; have hfz20_4 := blk_frozen BK118.out 4; have hfz20_5 := blk_frozen BK118.out 5))
   (try simp only [Act.put, List.setIfInBounds_toArray, List.set_cons_zero, List.set_cons_succ])
   go_cut [34] (fun v34 wc => ∃ (kq : Nat) (x34_11 : Bool) (x1001_11 : Int), v34 = .bool x34_11 ∧ Aside0 (spec_l5Rules.j1 kq x3_1 x4_1 x34_11 s0_0 x1001_11 (t106 == 0) t108 t109 t111 t112 (wrap64 (t114 * t116)) = some (r1, r2)) ∧ Aside0 (kq ≤ k1) ∧ Aside0 (Kd.R k54 54 wc w.heap.size (fun k_ => k_ ≠ gb118) u3 x3_1) ∧ Aside0 (wc.heap[gb118]? = some (.cells #[.bool (t106 == 0), .int .i64 t108, .int .i64 t109, .int .i64 t111, .int .i64 t112, .int .i64 (wrap64 (t114 * t116))] 54 (0, 0))) ∧ Aside0 (IsS117 w0 wc g s0_0 x1001_11) ∧ Aside0 (KeepBut w wc g none) ∧ Aside0 (Below w0.heap.size w0 wc))
   case first =>
    have H := HC12.out
    clear HC12
    by_cases c21 : (x3_1.length : Int) > 0
    ·rw [if_pos c21] at H
     have c21b0 : decide (0 < (x3_1.length : Int)) = true := decide_eq_true c21
     have c21b1 : decide (0 < x3_1.length) = true := decide_eq_true (by omega)
     clear c21
     (first | rw [c21b0] | (simp only [i64_w, i32_w]; rw [c21b0]) | skip)
     replace H := Option.bind_eq_some_iff.mp H
     obtain ⟨⟨t119, t120⟩, A220, H⟩ := H
     replace H : (spec_l5Rules.j1 k1 x3_1 x4_1 (t119 == 0) s0_0 t120 (t106 == 0) t108 t109 t111 t112 (wrap64 (t114 * t116))) = some (r1, r2) := H
     have A22 := zA A220
     clear A220
     have H' := zA H
     clear H
     obtain ⟨Ao23, co23, eo23⟩ := Kd.R_slice HO_3.out
     subst eo23
     go_wp2_with (first | (go_at_call 81; (with_reducible refine (spec_l1Rd_pick.calls k1 g s0_0 t117 2 t119 t120 w0 _ ?side1 ?side2 A22.out).mono ?_); (case side1 => exact zHI0); (case side2 => exact zHB); rintro e w24 ⟨rfl, hi, hb, hk⟩; have n0_ := zA (Kd.R_mono (Kd.R_keep (IsS117.apart (show IsS117 w0 _ g s0_0 t117 from zHI0) (by refine zk ?_; exact (Kd.R_mono (Kd.R_far (p := ⟨gb118, 5, none⟩) (Kd.R_far (p := ⟨gb118, 4, none⟩) (Kd.R_far (p := ⟨gb118, 3, none⟩) (Kd.R_far (p := ⟨gb118, 2, none⟩) (Kd.R_far (p := ⟨gb118, 1, none⟩) (Kd.R_far (p := ⟨gb118, 0, none⟩) (Kd.R_mono HO_3.out (fun k_ hk => (⟨hk, hk.2⟩ : _ ∧ k_ ≠ gb118))) (fun _ hk => hk.2) (.bool (t106 == 0))) (fun _ hk => hk.2) (.int .i64 t108)) (fun _ hk => hk.2) (.int .i64 t109)) (fun _ hk => hk.2) (.int .i64 t111)) (fun _ hk => hk.2) (.int .i64 t112)) (fun _ hk => hk.2) (.int .i64 (wrap64 (t114 * t116)))) (fun _ h_ => h_.1))) (by decide)) hk (fun _ h => h.2)) (fun _ h => h.1)); have n1_ := zA (KeepBut.blk hk (g' := gb118) (o := .cells #[.bool (t106 == 0), .int .i64 t108, .int .i64 t109, .int .i64 t111, .int .i64 t112, .int .i64 (wrap64 (t114 * t116))] 54 (0, 0)) (by refine zq ?_; refine blk_put (cs := #[.bool (t106 == 0), .int .i64 t108, .int .i64 t109, .int .i64 t111, .int .i64 t112, .int .i64 0]) ?_ 5 _ rfl; refine zq ?_; refine blk_put (cs := #[.bool (t106 == 0), .int .i64 t108, .int .i64 t109, .int .i64 t111, .int .i64 0, .int .i64 0]) ?_ 4 _ rfl; refine zq ?_; refine blk_put (cs := #[.bool (t106 == 0), .int .i64 t108, .int .i64 t109, .int .i64 0, .int .i64 0, .int .i64 0]) ?_ 3 _ rfl; refine zq ?_; refine blk_put (cs := #[.bool (t106 == 0), .int .i64 t108, .int .i64 0, .int .i64 0, .int .i64 0, .int .i64 0]) ?_ 2 _ rfl; refine zq ?_; refine blk_put (cs := #[.bool (t106 == 0), .int .i64 0, .int .i64 0, .int .i64 0, .int .i64 0, .int .i64 0]) ?_ 1 _ rfl; refine zq ?_; refine blk_put (cs := #[.bool false, .int .i64 0, .int .i64 0, .int .i64 0, .int .i64 0, .int .i64 0]) ?_ 0 _ rfl; refine zq ?_; exact BK118.out) NB118_0.out (by simp)); have n2_ := zA (KeepBut.trans (zHK) hk (.inl rfl)); have n3_ := zA (hb); have n4_ := zA (hi); clear HO_3; clear BK118; clear HK; clear HB; clear HI0; have HO_3 := n0_; have BK118 := n1_; have HK := n2_; have HB := n3_; have HI0 := n4_; clear n0_ n1_ n2_ n3_ n4_; (try clear hb); (try clear hb2); (try clear hk); (try clear hi)))
     go_meet
     case rel => exact ⟨_, ((t119 == 0)), (t120), y3 , H', ⟨by have := HK1.out; first | omega | exact Nat.le_refl _⟩, ⟨by refine zk ?_; exact Kd.R_mono HO_3.out (fun _ hk => hk.2)⟩, ⟨by refine zq ?_; exact BK118.out⟩, ⟨zHI0⟩, ⟨zHK⟩, ⟨zHB⟩⟩
    rw [if_neg c21] at H
    have c21b0 : decide (0 < (x3_1.length : Int)) = false := decide_eq_false c21
    have c21b1 : decide (0 < x3_1.length) = false := decide_eq_false (by omega)
    clear c21
    (first | rw [c21b0] | (simp only [i64_w, i32_w]; rw [c21b0]) | skip)
    have H' := zA H
    clear H
    obtain ⟨Ao25, co25, eo25⟩ := Kd.R_slice HO_3.out
    subst eo25
    go_wp2
    go_meet
    case rel => exact ⟨_, (false), (t117), y3 , H', ⟨by have := HK1.out; first | omega | exact Nat.le_refl _⟩, ⟨by refine zk ?_; exact Kd.R_mono (Kd.R_far (p := ⟨gb118, 5, none⟩) (Kd.R_far (p := ⟨gb118, 4, none⟩) (Kd.R_far (p := ⟨gb118, 3, none⟩) (Kd.R_far (p := ⟨gb118, 2, none⟩) (Kd.R_far (p := ⟨gb118, 1, none⟩) (Kd.R_far (p := ⟨gb118, 0, none⟩) (Kd.R_mono HO_3.out (fun k_ hk => (⟨hk, hk.2⟩ : _ ∧ k_ ≠ gb118))) (fun _ hk => hk.2) (.bool (t106 == 0))) (fun _ hk => hk.2) (.int .i64 t108)) (fun _ hk => hk.2) (.int .i64 t109)) (fun _ hk => hk.2) (.int .i64 t111)) (fun _ hk => hk.2) (.int .i64 t112)) (fun _ hk => hk.2) (.int .i64 (wrap64 (t114 * t116)))) (fun _ hk => hk.1.2)⟩, ⟨by refine zq ?_; refine blk_put (cs := #[.bool (t106 == 0), .int .i64 t108, .int .i64 t109, .int .i64 t111, .int .i64 t112, .int .i64 0]) ?_ 5 _ rfl; refine zq ?_; refine blk_put (cs := #[.bool (t106 == 0), .int .i64 t108, .int .i64 t109, .int .i64 t111, .int .i64 0, .int .i64 0]) ?_ 4 _ rfl; refine zq ?_; refine blk_put (cs := #[.bool (t106 == 0), .int .i64 t108, .int .i64 t109, .int .i64 0, .int .i64 0, .int .i64 0]) ?_ 3 _ rfl; refine zq ?_; refine blk_put (cs := #[.bool (t106 == 0), .int .i64 t108, .int .i64 0, .int .i64 0, .int .i64 0, .int .i64 0]) ?_ 2 _ rfl; refine zq ?_; refine blk_put (cs := #[.bool (t106 == 0), .int .i64 0, .int .i64 0, .int .i64 0, .int .i64 0, .int .i64 0]) ?_ 1 _ rfl; refine zq ?_; refine blk_put (cs := #[.bool false, .int .i64 0, .int .i64 0, .int .i64 0, .int .i64 0, .int .i64 0]) ?_ 0 _ rfl; refine zq ?_; exact BK118.out⟩, ⟨zHI0⟩, ⟨zHK⟩, ⟨zHB⟩⟩
   case rest =>
    clear HC12
    try clear c1
    try clear c2
    try clear p2
    try clear c6
    try clear c6b0
    try clear p6
    try clear c8
    try clear c11
    try clear c12
    try clear c19
    try clear c21
    try clear c21b0
    try clear c21b1
    try clear hcz20_0
    try clear hcz20_1
    try clear hcz20_2
    try clear hcz20_3
    try clear hcz20_4
    try clear hcz20_5
    try clear hfz20_0
    try clear hfz20_1
    try clear hfz20_2
    try clear hfz20_3
    try clear hfz20_4
    try clear hfz20_5
    try clear p2
    obtain ⟨kq, x34_11, x1001_11, rfl, HA, HJ11, HO_3, BK118, HI0, HK, HB⟩ := hcut
    cases kq with
    | zero => exact absurd HA.out (by simp [spec_l5Rules.j1])
    | succ kj11 => ?_
    have H := HA.out
    clear HA
    simp only [spec_l5Rules.j1] at H
    by_cases c26 : x34_11 = true
    ·subst c26
     have H1 : ((spec_l1Rd_pick.f kj11 s0_0 x1001_11 (x3_1.length : Int)).bind fun bt121 => (if 0 ≤ bt121.1 then (if bt121.1 < (x3_1.length : Int) then ((spec_l1Rd_pick.f kj11 s0_0 bt121.2 2).bind fun bt125 => (if bt125.1 = 0 then (spec_l5Rules.j2 kj11 x3_1 x4_1 (decide (((rd_T54 x3_1 bt121.1).f2.f1) < 16)) s0_0 bt125.2 (t106 == 0) ((rd_T54 x3_1 bt121.1).f1.f0) ((rd_T54 x3_1 bt121.1).f1.f1) t111 t112 (wrap64 (t114 * t116)) ((rd_T54 x3_1 bt121.1).f0) ((rd_T54 x3_1 bt121.1).f1.f0) ((rd_T54 x3_1 bt121.1).f1.f1) ((rd_T54 x3_1 bt121.1).f2.f0) ((rd_T54 x3_1 bt121.1).f2.f1) ((rd_T54 x3_1 bt121.1).f3)) else (spec_l5Rules.j2 kj11 x3_1 x4_1 false s0_0 bt125.2 (t106 == 0) ((rd_T54 x3_1 bt121.1).f1.f0) ((rd_T54 x3_1 bt121.1).f1.f1) t111 t112 (wrap64 (t114 * t116)) ((rd_T54 x3_1 bt121.1).f0) ((rd_T54 x3_1 bt121.1).f1.f0) ((rd_T54 x3_1 bt121.1).f1.f1) ((rd_T54 x3_1 bt121.1).f2.f0) ((rd_T54 x3_1 bt121.1).f2.f1) ((rd_T54 x3_1 bt121.1).f3)))) else (none)) else (none))) = some (r1, r2) := by rw [if_pos rfl] at H; exact H
     clear H
     have H := H1
     clear H1
     replace H := Option.bind_eq_some_iff.mp H
     obtain ⟨⟨t121, t122⟩, A270, H⟩ := H
     replace H : (if 0 ≤ t121 then (if t121 < (x3_1.length : Int) then ((spec_l1Rd_pick.f kj11 s0_0 t122 2).bind fun bt125 => (if bt125.1 = 0 then (spec_l5Rules.j2 kj11 x3_1 x4_1 (decide (((rd_T54 x3_1 t121).f2.f1) < 16)) s0_0 bt125.2 (t106 == 0) ((rd_T54 x3_1 t121).f1.f0) ((rd_T54 x3_1 t121).f1.f1) t111 t112 (wrap64 (t114 * t116)) ((rd_T54 x3_1 t121).f0) ((rd_T54 x3_1 t121).f1.f0) ((rd_T54 x3_1 t121).f1.f1) ((rd_T54 x3_1 t121).f2.f0) ((rd_T54 x3_1 t121).f2.f1) ((rd_T54 x3_1 t121).f3)) else (spec_l5Rules.j2 kj11 x3_1 x4_1 false s0_0 bt125.2 (t106 == 0) ((rd_T54 x3_1 t121).f1.f0) ((rd_T54 x3_1 t121).f1.f1) t111 t112 (wrap64 (t114 * t116)) ((rd_T54 x3_1 t121).f0) ((rd_T54 x3_1 t121).f1.f0) ((rd_T54 x3_1 t121).f1.f1) ((rd_T54 x3_1 t121).f2.f0) ((rd_T54 x3_1 t121).f2.f1) ((rd_T54 x3_1 t121).f3)))) else (none)) else (none)) = some (r1, r2) := H
     have A27 := zA A270
     clear A270
     by_cases c28 : 0 ≤ t121
     ·rw [if_pos c28] at H
      have c28b0 : decide (0 ≤ t121) = true := decide_eq_true c28
      clear c28
      by_cases c29 : t121 < (x3_1.length : Int)
      ·rw [if_pos c29] at H
       have c29b0 : decide (t121 < (x3_1.length : Int)) = true := decide_eq_true c29
       clear c29
       have HC30 := zA H
       clear H
       obtain ⟨Ao31, co31, eo31⟩ := Kd.R_slice HO_3.out
       subst eo31
       go_upto_region 9 with (first | ((with_reducible refine gate_callee (f := 81) rfl ?_); refine goesL_ (some 39) rfl rfl Try.func81 (by kernel_rfl) rfl #[.pointer (some ⟨g, 0, none⟩), .int .i64 (x3_1.length : Int)] rfl y1  ?_; (with_reducible refine (spec_l1Rd_pick.calls kj11 g s0_0 x1001_11 (x3_1.length : Int) t121 t122 w0 _ ?side1 ?side2 A27.out).mono ?_); (case side1 => exact zHI0); (case side2 => exact zHB); rintro e w32 ⟨rfl, hi, hb, hk⟩; refine ⟨_, rfl, ?_⟩; have n0_ := zA (Kd.R_mono (Kd.R_keep (IsS117.apart (show IsS117 w0 _ g s0_0 x1001_11 from zHI0) (zr HO_3.out) (by decide)) hk (fun _ h => h.2)) (fun _ h => h.1)); have n1_ := zA (KeepBut.blk hk (g' := gb118) (o := .cells #[.bool (t106 == 0), .int .i64 t108, .int .i64 t109, .int .i64 t111, .int .i64 t112, .int .i64 (wrap64 (t114 * t116))] 54 (0, 0)) (zb BK118.out) NB118_0.out (by simp)); have n2_ := zA (KeepBut.trans (zHK) hk (.inl rfl)); have n3_ := zA (hb); have n4_ := zA (hi); clear HO_3; clear BK118; clear HK; clear HB; clear HI0; have HO_3 := n0_; have BK118 := n1_; have HK := n2_; have HB := n3_; have HI0 := n4_; clear n0_ n1_ n2_ n3_ n4_; (try clear hb); (try clear hb2); (try clear hk); (try clear hi); have p123 : 0 ≤ (t121 : Int) := of_decide_eq_true (by first | (with_reducible assumption) | assumption); have q123 : t121 < (x3_1.length : Int) := of_decide_eq_true (by first | (with_reducible assumption) | assumption); obtain ⟨ad123, e123, hx123_0, hx123_1, hx123_2, hx123_3, hx123_4, hx123_5⟩ := at_T54 (Kd.R_reads' HO_3.out).2.2 t121 p123 q123; cases e123; replace p123 := eq_true p123; replace q123 := eq_true q123) | ((with_reducible refine gate_dst (N := 6) rfl ?_); refine box_event ?hg (N := 6) ?hd (cs := #[.bool false, .int .i64 0, .int .i64 0, .int .i64 0, .int .i64 0, .int .i64 0]) (t := 54) ?hr ?_; (case hd => rfl); (case hg => rfl); (case hr => first | (go_simp; done) | (go_simp; rfl)); intro gb124 hg w33 hbox hb; have n0_ := zA (Kd.R_below (Kd.R_elderB (zr HO_3.out) gb124 (Nat.le_of_eq hg.symm)) hb); have n1_ := zA (blk_below (g := gb118) (o := .cells #[.bool (t106 == 0), .int .i64 t108, .int .i64 t109, .int .i64 t111, .int .i64 t112, .int .i64 (wrap64 (t114 * t116))] 54 (0, 0)) (zb BK118.out) hb); have n2_ := zA (IsS117.below (zHI0) hb); have n3_ := zA (KeepBut.trans (zHK) (KeepBut.of_below hb g none) (.inl rfl)); have n4_ := zA (below_step (zHB) hb); have n5_ := zA (hbox); have n6_ := zA ((by rw [hg]; exact (keep_size (w := w) (g := g) (row := none) (zHK)) : w.heap.size ≤ gb124)); have n7_ := zA ((Nat.le_trans HW0.out (by rw [hg]; exact (keep_size (w := w) (g := g) (row := none) (zHK)) : w.heap.size ≤ gb124) : w0.heap.size ≤ gb124)); have n8_ := zA ((by rw [hg]; exact Nat.ne_of_lt (blk_lt (g := gb118) (o := .cells #[.bool (t106 == 0), .int .i64 t108, .int .i64 t109, .int .i64 t111, .int .i64 t112, .int .i64 (wrap64 (t114 * t116))] 54 (0, 0)) (zb BK118.out)) : gb118 ≠ gb124)); have n9_ := zA ((by rw [hg]; exact Nat.ne_of_gt (blk_lt (g := gb118) (o := .cells #[.bool (t106 == 0), .int .i64 t108, .int .i64 t109, .int .i64 t111, .int .i64 t112, .int .i64 (wrap64 (t114 * t116))] 54 (0, 0)) (zb BK118.out)) : gb124 ≠ gb118)); have n10_ := zA ((by rw [hg]; exact Nat.ne_of_lt (IsS117.lt (show IsS117 w0 _ g s0_0 t122 from zHI0)) : g ≠ gb124)); have n11_ := zA ((by rw [hg]; exact Nat.ne_of_gt (IsS117.lt (show IsS117 w0 _ g s0_0 t122 from zHI0)) : gb124 ≠ g)); clear HO_3; clear BK118; clear HI0; clear HK; clear HB; have HO_3 := n0_; have BK118 := n1_; have HI0 := n2_; have HK := n3_; have HB := n4_; have BK124 := n5_; have GW124 := n6_; have GE124 := n7_; have NB118_124 := n8_; have NB124_118 := n9_; have NB0_124 := n10_; have NB124_0 := n11_; clear n0_ n1_ n2_ n3_ n4_ n5_ n6_ n7_ n8_ n9_ n10_ n11_; clear hb hbox hg; have hnb34 := NB124_118.out; have hnc34 := NB118_124.out; have hnb35 := NB124_0.out; have hnc35 := NB0_124.out; have hcz36_0 : w33.cell? ⟨gb124, 0, none⟩ = some (.bool false) := (blk_cell BK124.out 0).trans rfl; have hcz36_1 : w33.cell? ⟨gb124, 1, none⟩ = some (.int .i64 0) := (blk_cell BK124.out 1).trans rfl; have hcz36_2 : w33.cell? ⟨gb124, 2, none⟩ = some (.int .i64 0) := (blk_cell BK124.out 2).trans rfl; have hcz36_3 : w33.cell? ⟨gb124, 3, none⟩ = some (.int .i64 0) := (blk_cell BK124.out 3).trans rfl; have hcz36_4 : w33.cell? ⟨gb124, 4, none⟩ = some (.int .i64 0) := (blk_cell BK124.out 4).trans rfl; have hcz36_5 : w33.cell? ⟨gb124, 5, none⟩ = some (.int .i64 0) := (blk_cell BK124.out 5).trans rfl; have hfz36_0 := blk_frozen BK124.out 0; have hfz36_1 := blk_frozen BK124.out 1; have hfz36_2 := blk_frozen BK124.out 2; have hfz36_3 := blk_frozen BK124.out 3; have hfz36_4 := blk_frozen BK124.out 4; have hfz36_5 := blk_frozen BK124.out 5; have hnb37 := NB118_0.out; have hnc37 := NB0_118.out; have hcz38_0 : w33.cell? ⟨gb118, 0, none⟩ = some (.bool (t106 == 0)) := (blk_cell BK118.out 0).trans rfl; have hcz38_1 : w33.cell? ⟨gb118, 1, none⟩ = some (.int .i64 t108) := (blk_cell BK118.out 1).trans rfl; have hcz38_2 : w33.cell? ⟨gb118, 2, none⟩ = some (.int .i64 t109) := (blk_cell BK118.out 2).trans rfl; have hcz38_3 : w33.cell? ⟨gb118, 3, none⟩ = some (.int .i64 t111) := (blk_cell BK118.out 3).trans rfl; have hcz38_4 : w33.cell? ⟨gb118, 4, none⟩ = some (.int .i64 t112) := (blk_cell BK118.out 4).trans rfl; have hcz38_5 : w33.cell? ⟨gb118, 5, none⟩ = some (.int .i64 (wrap64 (t114 * t116))) := (blk_cell BK118.out 5).trans rfl; have hfz38_0 := blk_frozen BK118.out 0; have hfz38_1 := blk_frozen BK118.out 1; have hfz38_2 := blk_frozen BK118.out 2; have hfz38_3 := blk_frozen BK118.out 3; have hfz38_4 := blk_frozen BK118.out 4; have hfz38_5 := blk_frozen BK118.out 5))
       (try simp only [Act.put, List.setIfInBounds_toArray, List.set_cons_zero, List.set_cons_succ])
       go_cut [53] (fun v53 wc => ∃ (kq : Nat) (x53_29 : Bool) (x1001_29 : Int), v53 = .bool x53_29 ∧ Aside0 (spec_l5Rules.j2 kq x3_1 x4_1 x53_29 s0_0 x1001_29 (t106 == 0) ((rd_T54 x3_1 t121).f1.f0) ((rd_T54 x3_1 t121).f1.f1) t111 t112 (wrap64 (t114 * t116)) ((rd_T54 x3_1 t121).f0) ((rd_T54 x3_1 t121).f1.f0) ((rd_T54 x3_1 t121).f1.f1) ((rd_T54 x3_1 t121).f2.f0) ((rd_T54 x3_1 t121).f2.f1) ((rd_T54 x3_1 t121).f3) = some (r1, r2)) ∧ Aside0 (kq ≤ kj11) ∧ Aside0 (Kd.R k54 54 wc w.heap.size (fun k_ => k_ ≠ gb118 ∧ k_ ≠ gb124) (.slice (some ad123) x3_1.length co31) x3_1) ∧ Aside0 (wc.heap[gb118]? = some (.cells #[.bool (t106 == 0), .int .i64 ((rd_T54 x3_1 t121).f1.f0), .int .i64 ((rd_T54 x3_1 t121).f1.f1), .int .i64 t111, .int .i64 t112, .int .i64 (wrap64 (t114 * t116))] 54 (0, 0))) ∧ Aside0 (wc.heap[gb124]? = some (.cells #[.bool ((rd_T54 x3_1 t121).f0), .int .i64 ((rd_T54 x3_1 t121).f1.f0), .int .i64 ((rd_T54 x3_1 t121).f1.f1), .int .i64 ((rd_T54 x3_1 t121).f2.f0), .int .i64 ((rd_T54 x3_1 t121).f2.f1), .int .i64 ((rd_T54 x3_1 t121).f3)] 54 (0, 0))) ∧ Aside0 (IsS117 w0 wc g s0_0 x1001_29) ∧ Aside0 (KeepBut w wc g none) ∧ Aside0 (Below w0.heap.size w0 wc))
       case first =>
        have H := HC30.out
        clear HC30
        replace H := Option.bind_eq_some_iff.mp H
        obtain ⟨⟨t125, t126⟩, A390, H⟩ := H
        replace H : (if t125 = 0 then (spec_l5Rules.j2 kj11 x3_1 x4_1 (decide (((rd_T54 x3_1 t121).f2.f1) < 16)) s0_0 t126 (t106 == 0) ((rd_T54 x3_1 t121).f1.f0) ((rd_T54 x3_1 t121).f1.f1) t111 t112 (wrap64 (t114 * t116)) ((rd_T54 x3_1 t121).f0) ((rd_T54 x3_1 t121).f1.f0) ((rd_T54 x3_1 t121).f1.f1) ((rd_T54 x3_1 t121).f2.f0) ((rd_T54 x3_1 t121).f2.f1) ((rd_T54 x3_1 t121).f3)) else (spec_l5Rules.j2 kj11 x3_1 x4_1 false s0_0 t126 (t106 == 0) ((rd_T54 x3_1 t121).f1.f0) ((rd_T54 x3_1 t121).f1.f1) t111 t112 (wrap64 (t114 * t116)) ((rd_T54 x3_1 t121).f0) ((rd_T54 x3_1 t121).f1.f0) ((rd_T54 x3_1 t121).f1.f1) ((rd_T54 x3_1 t121).f2.f0) ((rd_T54 x3_1 t121).f2.f1) ((rd_T54 x3_1 t121).f3))) = some (r1, r2) := H
        have A39 := zA A390
        clear A390
        by_cases c40 : t125 = 0
        ·rw [if_pos c40] at H
         have c40b0 : (t125 == 0) = true := beq_iff_eq.mpr c40
         have c40b1 : (t125 != 0) = false := bne_eq_false_iff_eq.mpr c40
         clear c40
         (first | rw [c40b0] | (simp only [i64_w, i32_w]; rw [c40b0]) | skip)
         have H' := zA H
         clear H
         go_wp2_with (first | ((with_reducible refine gate_callee (f := 81) rfl ?_); refine goesL_ (some 46) rfl rfl Try.func81 (by kernel_rfl) rfl #[.pointer (some ⟨g, 0, none⟩), .int .i64 2] rfl y1  ?_; (with_reducible refine (spec_l1Rd_pick.calls kj11 g s0_0 t122 2 t125 t126 w0 _ ?side1 ?side2 A39.out).mono ?_); (case side1 => exact zHI0); (case side2 => exact zHB); rintro e w41 ⟨rfl, hi, hb, hk⟩; refine ⟨_, rfl, ?_⟩; have n0_ := zA (Kd.R_mono (Kd.R_keep (IsS117.apart (show IsS117 w0 _ g s0_0 t122 from zHI0) (by refine zk ?_; exact (Kd.R_mono (Kd.R_mono (Kd.R_far (p := ⟨gb118, 2, none⟩) (Kd.R_far (p := ⟨gb118, 1, none⟩) (Kd.R_far (p := ⟨gb124, 5, none⟩) (Kd.R_far (p := ⟨gb124, 4, none⟩) (Kd.R_far (p := ⟨gb124, 3, none⟩) (Kd.R_far (p := ⟨gb124, 2, none⟩) (Kd.R_far (p := ⟨gb124, 1, none⟩) (Kd.R_far (p := ⟨gb124, 0, none⟩) (Kd.R_mono (Kd.R_mono HO_3.out (fun k_ hk => (⟨hk, hk.2⟩ : _ ∧ k_ ≠ gb124))) (fun k_ hk => (⟨hk, hk.1.1⟩ : _ ∧ k_ ≠ gb118))) (fun _ hk => hk.1.2) (.bool ((rd_T54 x3_1 t121).f0))) (fun _ hk => hk.1.2) (.int .i64 ((rd_T54 x3_1 t121).f1.f0))) (fun _ hk => hk.1.2) (.int .i64 ((rd_T54 x3_1 t121).f1.f1))) (fun _ hk => hk.1.2) (.int .i64 ((rd_T54 x3_1 t121).f2.f0))) (fun _ hk => hk.1.2) (.int .i64 ((rd_T54 x3_1 t121).f2.f1))) (fun _ hk => hk.1.2) (.int .i64 ((rd_T54 x3_1 t121).f3))) (fun _ hk => hk.2) (.int .i64 ((rd_T54 x3_1 t121).f1.f0))) (fun _ hk => hk.2) (.int .i64 ((rd_T54 x3_1 t121).f1.f1))) (fun _ h_ => h_.1)) (fun _ h_ => h_.1))) (by decide)) hk (fun _ h => h.2)) (fun _ h => h.1)); have n1_ := zA (KeepBut.blk hk (g' := gb118) (o := .cells #[.bool (t106 == 0), .int .i64 ((rd_T54 x3_1 t121).f1.f0), .int .i64 ((rd_T54 x3_1 t121).f1.f1), .int .i64 t111, .int .i64 t112, .int .i64 (wrap64 (t114 * t116))] 54 (0, 0)) (by refine zq ?_; refine blk_put (cs := #[.bool (t106 == 0), .int .i64 ((rd_T54 x3_1 t121).f1.f0), .int .i64 t109, .int .i64 t111, .int .i64 t112, .int .i64 (wrap64 (t114 * t116))]) ?_ 2 _ rfl; refine zq ?_; refine blk_put (cs := #[.bool (t106 == 0), .int .i64 t108, .int .i64 t109, .int .i64 t111, .int .i64 t112, .int .i64 (wrap64 (t114 * t116))]) ?_ 1 _ rfl; refine zq ?_; refine blk_far ?_ NB118_124.out _; refine zq ?_; refine blk_far ?_ NB118_124.out _; refine zq ?_; refine blk_far ?_ NB118_124.out _; refine zq ?_; refine blk_far ?_ NB118_124.out _; refine zq ?_; refine blk_far ?_ NB118_124.out _; refine zq ?_; refine blk_far ?_ NB118_124.out _; refine zq ?_; exact BK118.out) NB118_0.out (by simp)); have n2_ := zA (KeepBut.blk hk (g' := gb124) (o := .cells #[.bool ((rd_T54 x3_1 t121).f0), .int .i64 ((rd_T54 x3_1 t121).f1.f0), .int .i64 ((rd_T54 x3_1 t121).f1.f1), .int .i64 ((rd_T54 x3_1 t121).f2.f0), .int .i64 ((rd_T54 x3_1 t121).f2.f1), .int .i64 ((rd_T54 x3_1 t121).f3)] 54 (0, 0)) (by refine zq ?_; refine blk_far ?_ NB124_118.out _; refine zq ?_; refine blk_far ?_ NB124_118.out _; refine zq ?_; refine blk_put (cs := #[.bool ((rd_T54 x3_1 t121).f0), .int .i64 ((rd_T54 x3_1 t121).f1.f0), .int .i64 ((rd_T54 x3_1 t121).f1.f1), .int .i64 ((rd_T54 x3_1 t121).f2.f0), .int .i64 ((rd_T54 x3_1 t121).f2.f1), .int .i64 0]) ?_ 5 _ rfl; refine zq ?_; refine blk_put (cs := #[.bool ((rd_T54 x3_1 t121).f0), .int .i64 ((rd_T54 x3_1 t121).f1.f0), .int .i64 ((rd_T54 x3_1 t121).f1.f1), .int .i64 ((rd_T54 x3_1 t121).f2.f0), .int .i64 0, .int .i64 0]) ?_ 4 _ rfl; refine zq ?_; refine blk_put (cs := #[.bool ((rd_T54 x3_1 t121).f0), .int .i64 ((rd_T54 x3_1 t121).f1.f0), .int .i64 ((rd_T54 x3_1 t121).f1.f1), .int .i64 0, .int .i64 0, .int .i64 0]) ?_ 3 _ rfl; refine zq ?_; refine blk_put (cs := #[.bool ((rd_T54 x3_1 t121).f0), .int .i64 ((rd_T54 x3_1 t121).f1.f0), .int .i64 0, .int .i64 0, .int .i64 0, .int .i64 0]) ?_ 2 _ rfl; refine zq ?_; refine blk_put (cs := #[.bool ((rd_T54 x3_1 t121).f0), .int .i64 0, .int .i64 0, .int .i64 0, .int .i64 0, .int .i64 0]) ?_ 1 _ rfl; refine zq ?_; refine blk_put (cs := #[.bool false, .int .i64 0, .int .i64 0, .int .i64 0, .int .i64 0, .int .i64 0]) ?_ 0 _ rfl; refine zq ?_; exact BK124.out) NB124_0.out (by simp)); have n3_ := zA (KeepBut.trans (zHK) hk (.inl rfl)); have n4_ := zA (hb); have n5_ := zA (hi); clear HO_3; clear BK118; clear BK124; clear HK; clear HB; clear HI0; have HO_3 := n0_; have BK118 := n1_; have BK124 := n2_; have HK := n3_; have HB := n4_; have HI0 := n5_; clear n0_ n1_ n2_ n3_ n4_ n5_; (try clear hb); (try clear hb2); (try clear hk); (try clear hi); have hnb42 := NB124_118.out; have hnc42 := NB118_124.out; have hnb43 := NB124_0.out; have hnc43 := NB0_124.out; have hcz44_0 : w41.cell? ⟨gb124, 0, none⟩ = some (.bool ((rd_T54 x3_1 t121).f0)) := (blk_cell BK124.out 0).trans rfl; have hcz44_1 : w41.cell? ⟨gb124, 1, none⟩ = some (.int .i64 ((rd_T54 x3_1 t121).f1.f0)) := (blk_cell BK124.out 1).trans rfl; have hcz44_2 : w41.cell? ⟨gb124, 2, none⟩ = some (.int .i64 ((rd_T54 x3_1 t121).f1.f1)) := (blk_cell BK124.out 2).trans rfl; have hcz44_3 : w41.cell? ⟨gb124, 3, none⟩ = some (.int .i64 ((rd_T54 x3_1 t121).f2.f0)) := (blk_cell BK124.out 3).trans rfl; have hcz44_4 : w41.cell? ⟨gb124, 4, none⟩ = some (.int .i64 ((rd_T54 x3_1 t121).f2.f1)) := (blk_cell BK124.out 4).trans rfl; have hcz44_5 : w41.cell? ⟨gb124, 5, none⟩ = some (.int .i64 ((rd_T54 x3_1 t121).f3)) := (blk_cell BK124.out 5).trans rfl; have hfz44_0 := blk_frozen BK124.out 0; have hfz44_1 := blk_frozen BK124.out 1; have hfz44_2 := blk_frozen BK124.out 2; have hfz44_3 := blk_frozen BK124.out 3; have hfz44_4 := blk_frozen BK124.out 4; have hfz44_5 := blk_frozen BK124.out 5))
         go_meet
         case rel => exact ⟨_, (decide (((rd_T54 x3_1 t121).f2.f1) < 16)), (t126), y3 , H', ⟨by have := HK1.out; have := HJ11.out; first | omega | exact Nat.le_refl _⟩, ⟨by refine zk ?_; exact HO_3.out⟩, ⟨by refine zq ?_; exact BK118.out⟩, ⟨by refine zq ?_; exact BK124.out⟩, ⟨zHI0⟩, ⟨zHK⟩, ⟨zHB⟩⟩
        rw [if_neg c40] at H
        have c40b0 : (t125 == 0) = false := beq_eq_false_iff_ne.mpr c40
        have c40b1 : (t125 != 0) = true := bne_iff_ne.mpr c40
        (first | rw [c40b0] | (simp only [i64_w, i32_w]; rw [c40b0]) | skip)
        have H' := zA H
        clear H
        go_wp2_with (first | ((with_reducible refine gate_callee (f := 81) rfl ?_); refine goesL_ (some 46) rfl rfl Try.func81 (by kernel_rfl) rfl #[.pointer (some ⟨g, 0, none⟩), .int .i64 2] rfl y1  ?_; (with_reducible refine (spec_l1Rd_pick.calls kj11 g s0_0 t122 2 t125 t126 w0 _ ?side1 ?side2 A39.out).mono ?_); (case side1 => exact zHI0); (case side2 => exact zHB); rintro e w45 ⟨rfl, hi, hb, hk⟩; refine ⟨_, rfl, ?_⟩; have n0_ := zA (Kd.R_mono (Kd.R_keep (IsS117.apart (show IsS117 w0 _ g s0_0 t122 from zHI0) (by refine zk ?_; exact (Kd.R_mono (Kd.R_mono (Kd.R_far (p := ⟨gb118, 2, none⟩) (Kd.R_far (p := ⟨gb118, 1, none⟩) (Kd.R_far (p := ⟨gb124, 5, none⟩) (Kd.R_far (p := ⟨gb124, 4, none⟩) (Kd.R_far (p := ⟨gb124, 3, none⟩) (Kd.R_far (p := ⟨gb124, 2, none⟩) (Kd.R_far (p := ⟨gb124, 1, none⟩) (Kd.R_far (p := ⟨gb124, 0, none⟩) (Kd.R_mono (Kd.R_mono HO_3.out (fun k_ hk => (⟨hk, hk.2⟩ : _ ∧ k_ ≠ gb124))) (fun k_ hk => (⟨hk, hk.1.1⟩ : _ ∧ k_ ≠ gb118))) (fun _ hk => hk.1.2) (.bool ((rd_T54 x3_1 t121).f0))) (fun _ hk => hk.1.2) (.int .i64 ((rd_T54 x3_1 t121).f1.f0))) (fun _ hk => hk.1.2) (.int .i64 ((rd_T54 x3_1 t121).f1.f1))) (fun _ hk => hk.1.2) (.int .i64 ((rd_T54 x3_1 t121).f2.f0))) (fun _ hk => hk.1.2) (.int .i64 ((rd_T54 x3_1 t121).f2.f1))) (fun _ hk => hk.1.2) (.int .i64 ((rd_T54 x3_1 t121).f3))) (fun _ hk => hk.2) (.int .i64 ((rd_T54 x3_1 t121).f1.f0))) (fun _ hk => hk.2) (.int .i64 ((rd_T54 x3_1 t121).f1.f1))) (fun _ h_ => h_.1)) (fun _ h_ => h_.1))) (by decide)) hk (fun _ h => h.2)) (fun _ h => h.1)); have n1_ := zA (KeepBut.blk hk (g' := gb118) (o := .cells #[.bool (t106 == 0), .int .i64 ((rd_T54 x3_1 t121).f1.f0), .int .i64 ((rd_T54 x3_1 t121).f1.f1), .int .i64 t111, .int .i64 t112, .int .i64 (wrap64 (t114 * t116))] 54 (0, 0)) (by refine zq ?_; refine blk_put (cs := #[.bool (t106 == 0), .int .i64 ((rd_T54 x3_1 t121).f1.f0), .int .i64 t109, .int .i64 t111, .int .i64 t112, .int .i64 (wrap64 (t114 * t116))]) ?_ 2 _ rfl; refine zq ?_; refine blk_put (cs := #[.bool (t106 == 0), .int .i64 t108, .int .i64 t109, .int .i64 t111, .int .i64 t112, .int .i64 (wrap64 (t114 * t116))]) ?_ 1 _ rfl; refine zq ?_; refine blk_far ?_ NB118_124.out _; refine zq ?_; refine blk_far ?_ NB118_124.out _; refine zq ?_; refine blk_far ?_ NB118_124.out _; refine zq ?_; refine blk_far ?_ NB118_124.out _; refine zq ?_; refine blk_far ?_ NB118_124.out _; refine zq ?_; refine blk_far ?_ NB118_124.out _; refine zq ?_; exact BK118.out) NB118_0.out (by simp)); have n2_ := zA (KeepBut.blk hk (g' := gb124) (o := .cells #[.bool ((rd_T54 x3_1 t121).f0), .int .i64 ((rd_T54 x3_1 t121).f1.f0), .int .i64 ((rd_T54 x3_1 t121).f1.f1), .int .i64 ((rd_T54 x3_1 t121).f2.f0), .int .i64 ((rd_T54 x3_1 t121).f2.f1), .int .i64 ((rd_T54 x3_1 t121).f3)] 54 (0, 0)) (by refine zq ?_; refine blk_far ?_ NB124_118.out _; refine zq ?_; refine blk_far ?_ NB124_118.out _; refine zq ?_; refine blk_put (cs := #[.bool ((rd_T54 x3_1 t121).f0), .int .i64 ((rd_T54 x3_1 t121).f1.f0), .int .i64 ((rd_T54 x3_1 t121).f1.f1), .int .i64 ((rd_T54 x3_1 t121).f2.f0), .int .i64 ((rd_T54 x3_1 t121).f2.f1), .int .i64 0]) ?_ 5 _ rfl; refine zq ?_; refine blk_put (cs := #[.bool ((rd_T54 x3_1 t121).f0), .int .i64 ((rd_T54 x3_1 t121).f1.f0), .int .i64 ((rd_T54 x3_1 t121).f1.f1), .int .i64 ((rd_T54 x3_1 t121).f2.f0), .int .i64 0, .int .i64 0]) ?_ 4 _ rfl; refine zq ?_; refine blk_put (cs := #[.bool ((rd_T54 x3_1 t121).f0), .int .i64 ((rd_T54 x3_1 t121).f1.f0), .int .i64 ((rd_T54 x3_1 t121).f1.f1), .int .i64 0, .int .i64 0, .int .i64 0]) ?_ 3 _ rfl; refine zq ?_; refine blk_put (cs := #[.bool ((rd_T54 x3_1 t121).f0), .int .i64 ((rd_T54 x3_1 t121).f1.f0), .int .i64 0, .int .i64 0, .int .i64 0, .int .i64 0]) ?_ 2 _ rfl; refine zq ?_; refine blk_put (cs := #[.bool ((rd_T54 x3_1 t121).f0), .int .i64 0, .int .i64 0, .int .i64 0, .int .i64 0, .int .i64 0]) ?_ 1 _ rfl; refine zq ?_; refine blk_put (cs := #[.bool false, .int .i64 0, .int .i64 0, .int .i64 0, .int .i64 0, .int .i64 0]) ?_ 0 _ rfl; refine zq ?_; exact BK124.out) NB124_0.out (by simp)); have n3_ := zA (KeepBut.trans (zHK) hk (.inl rfl)); have n4_ := zA (hb); have n5_ := zA (hi); clear HO_3; clear BK118; clear BK124; clear HK; clear HB; clear HI0; have HO_3 := n0_; have BK118 := n1_; have BK124 := n2_; have HK := n3_; have HB := n4_; have HI0 := n5_; clear n0_ n1_ n2_ n3_ n4_ n5_; (try clear hb); (try clear hb2); (try clear hk); (try clear hi)))
        go_meet
        case rel => exact ⟨_, (false), (t126), y3 , H', ⟨by have := HK1.out; have := HJ11.out; first | omega | exact Nat.le_refl _⟩, ⟨by refine zk ?_; exact HO_3.out⟩, ⟨by refine zq ?_; exact BK118.out⟩, ⟨by refine zq ?_; exact BK124.out⟩, ⟨zHI0⟩, ⟨zHK⟩, ⟨zHB⟩⟩
       case rest =>
        clear HC30
        try clear c1
        try clear p1
        try clear q1
        try clear hx1
        try clear c2
        try clear p2
        try clear c3
        try clear c4
        try clear c6
        try clear c6b0
        try clear p6
        try clear c8
        try clear c11
        try clear c12
        try clear p12
        try clear q12
        try clear hx12
        try clear c19
        try clear c21
        try clear c21b0
        try clear c21b1
        try clear c26
        try clear c28
        try clear c28b0
        try clear c29
        try clear c29b0
        try clear c34
        try clear c35
        try clear c37
        try clear c40
        try clear c40b0
        try clear c40b1
        try clear c42
        try clear c43
        try clear hcz20_0
        try clear hcz20_1
        try clear hcz20_2
        try clear hcz20_3
        try clear hcz20_4
        try clear hcz20_5
        try clear hcz36_0
        try clear hcz36_1
        try clear hcz36_2
        try clear hcz36_3
        try clear hcz36_4
        try clear hcz36_5
        try clear hcz38_0
        try clear hcz38_1
        try clear hcz38_2
        try clear hcz38_3
        try clear hcz38_4
        try clear hcz38_5
        try clear hcz44_0
        try clear hcz44_1
        try clear hcz44_2
        try clear hcz44_3
        try clear hcz44_4
        try clear hcz44_5
        try clear hfz20_0
        try clear hfz20_1
        try clear hfz20_2
        try clear hfz20_3
        try clear hfz20_4
        try clear hfz20_5
        try clear hfz36_0
        try clear hfz36_1
        try clear hfz36_2
        try clear hfz36_3
        try clear hfz36_4
        try clear hfz36_5
        try clear hfz38_0
        try clear hfz38_1
        try clear hfz38_2
        try clear hfz38_3
        try clear hfz38_4
        try clear hfz38_5
        try clear hfz44_0
        try clear hfz44_1
        try clear hfz44_2
        try clear hfz44_3
        try clear hfz44_4
        try clear hfz44_5
        try clear hx123_0
        try clear hx123_1
        try clear hx123_2
        try clear hx123_3
        try clear hx123_4
        try clear hx123_5
        try clear p123
        try clear p2
        try clear p6
        try clear q123
        obtain ⟨kq, x53_29, x1001_29, rfl, HA, HJ29, HO_3, BK118, BK124, HI0, HK, HB⟩ := hcut
        cases kq with
        | zero => exact absurd HA.out (by simp [spec_l5Rules.j2])
        | succ kj29 => ?_
        have H := HA.out
        clear HA
        simp only [spec_l5Rules.j2] at H
        by_cases c46 : x53_29 = true
        ·subst c46
         have H1 : ((spec_l1Halves.f kj29 ((rd_T54 x3_1 t121).f2.f0) ((rd_T54 x3_1 t121).f2.f1)).bind fun bt127 => ((spec_l1Rd_pick.f kj29 s0_0 x1001_29 5).bind fun bt131 => (if bt131.1 = 0 then (if x3_1.length < 2932031007402 then (spec_l5Rules.l0 kj29 (x3_1 ++ [(⟨(t106 == 0), (⟨0, 0⟩ : S26), (⟨bt127.1, bt127.2.1⟩ : S26), (wrap64 (t114 * t116))⟩ : S54)]) (wrap64 (x4_1 - 1)) s0_0 bt131.2) else (none)) else (if x3_1.length < 2932031007402 then (spec_l5Rules.l0 kj29 (x3_1 ++ [(⟨(t106 == 0), (⟨((rd_T54 x3_1 t121).f1.f0), ((rd_T54 x3_1 t121).f1.f1)⟩ : S26), (⟨bt127.1, bt127.2.1⟩ : S26), (wrap64 (t114 * t116))⟩ : S54)]) (wrap64 (x4_1 - 1)) s0_0 bt131.2) else (none))))) = some (r1, r2) := by rw [if_pos rfl] at H; exact H
         clear H
         have H := H1
         clear H1
         replace H := Option.bind_eq_some_iff.mp H
         obtain ⟨⟨t127, t128, t129, t130⟩, A470, H⟩ := H
         replace H : ((spec_l1Rd_pick.f kj29 s0_0 x1001_29 5).bind fun bt131 => (if bt131.1 = 0 then (if x3_1.length < 2932031007402 then (spec_l5Rules.l0 kj29 (x3_1 ++ [(⟨(t106 == 0), (⟨0, 0⟩ : S26), (⟨t127, t128⟩ : S26), (wrap64 (t114 * t116))⟩ : S54)]) (wrap64 (x4_1 - 1)) s0_0 bt131.2) else (none)) else (if x3_1.length < 2932031007402 then (spec_l5Rules.l0 kj29 (x3_1 ++ [(⟨(t106 == 0), (⟨((rd_T54 x3_1 t121).f1.f0), ((rd_T54 x3_1 t121).f1.f1)⟩ : S26), (⟨t127, t128⟩ : S26), (wrap64 (t114 * t116))⟩ : S54)]) (wrap64 (x4_1 - 1)) s0_0 bt131.2) else (none)))) = some (r1, r2) := H
         have A47 := zA A470
         clear A470
         replace H := Option.bind_eq_some_iff.mp H
         obtain ⟨⟨t131, t132⟩, A480, H⟩ := H
         replace H : (if t131 = 0 then (if x3_1.length < 2932031007402 then (spec_l5Rules.l0 kj29 (x3_1 ++ [(⟨(t106 == 0), (⟨0, 0⟩ : S26), (⟨t127, t128⟩ : S26), (wrap64 (t114 * t116))⟩ : S54)]) (wrap64 (x4_1 - 1)) s0_0 t132) else (none)) else (if x3_1.length < 2932031007402 then (spec_l5Rules.l0 kj29 (x3_1 ++ [(⟨(t106 == 0), (⟨((rd_T54 x3_1 t121).f1.f0), ((rd_T54 x3_1 t121).f1.f1)⟩ : S26), (⟨t127, t128⟩ : S26), (wrap64 (t114 * t116))⟩ : S54)]) (wrap64 (x4_1 - 1)) s0_0 t132) else (none))) = some (r1, r2) := H
         have A48 := zA A480
         clear A480
         by_cases c49 : t131 = 0
         ·rw [if_pos c49] at H
          have c49b0 : (t131 == 0) = true := beq_iff_eq.mpr c49
          have c49b1 : (t131 != 0) = false := bne_eq_false_iff_eq.mpr c49
          clear c49
          by_cases c50 : x3_1.length < 2932031007402
          ·rw [if_pos c50] at H
           have LMc50 := zA c50
           clear c50
           obtain ⟨y133, hy133⟩ : ∃ y_ : List (S54), y_ = (x3_1 ++ [(⟨(t106 == 0), (⟨0, 0⟩ : S26), (⟨t127, t128⟩ : S26), (wrap64 (t114 * t116))⟩ : S54)]) := ⟨_, rfl⟩
           replace H : (spec_l5Rules.l0 kj29 y133 (wrap64 (x4_1 - 1)) s0_0 t132) = some (r1, r2) := by first | (rw [hy133]; with_reducible exact H) | (have H2_ := (Option.bind_some _ _).symm.trans H; rw [hy133]; with_reducible exact H2_) | (have H2_ := (Option.bind_some _ _).symm.trans H; with_reducible exact H2_) | with_reducible exact H | (rw [hy133]; exact H) | exact H
           have Ny133 := zA hy133
           clear hy133
           have H' := zA H
           clear H
           have hnb51 := NB124_118.out
           have hnc51 := NB118_124.out
           have hnb52 := NB124_0.out
           have hnc52 := NB0_124.out
           have hcz53_0 : wc.cell? ⟨gb124, 0, none⟩ = some (.bool ((rd_T54 x3_1 t121).f0)) := (blk_cell BK124.out 0).trans rfl
           have hcz53_1 : wc.cell? ⟨gb124, 1, none⟩ = some (.int .i64 ((rd_T54 x3_1 t121).f1.f0)) := (blk_cell BK124.out 1).trans rfl
           have hcz53_2 : wc.cell? ⟨gb124, 2, none⟩ = some (.int .i64 ((rd_T54 x3_1 t121).f1.f1)) := (blk_cell BK124.out 2).trans rfl
           have hcz53_3 : wc.cell? ⟨gb124, 3, none⟩ = some (.int .i64 ((rd_T54 x3_1 t121).f2.f0)) := (blk_cell BK124.out 3).trans rfl
           have hcz53_4 : wc.cell? ⟨gb124, 4, none⟩ = some (.int .i64 ((rd_T54 x3_1 t121).f2.f1)) := (blk_cell BK124.out 4).trans rfl
           have hcz53_5 : wc.cell? ⟨gb124, 5, none⟩ = some (.int .i64 ((rd_T54 x3_1 t121).f3)) := (blk_cell BK124.out 5).trans rfl
           have hfz53_0 := blk_frozen BK124.out 0
           have hfz53_1 := blk_frozen BK124.out 1
           have hfz53_2 := blk_frozen BK124.out 2
           have hfz53_3 := blk_frozen BK124.out 3
           have hfz53_4 := blk_frozen BK124.out 4
           have hfz53_5 := blk_frozen BK124.out 5
           go_wp2_with (first | ((with_reducible refine gate_callee (f := 93) rfl ?_); refine goesL_ (some 57) rfl rfl Try.func93 (by kernel_rfl) rfl #[.agg #[.int .i64 ((rd_T54 x3_1 t121).f2.f0), .int .i64 ((rd_T54 x3_1 t121).f2.f1)]] rfl y1  ?_; (with_reducible refine (spec_l1Halves.calls kj29 ((rd_T54 x3_1 t121).f2.f0) ((rd_T54 x3_1 t121).f2.f1) t127 t128 t129 t130 _ A47.out).mono ?_); rintro e w54 ⟨rfl, hb⟩; refine ⟨_, rfl, ?_⟩; have n0_ := zA (Kd.R_below (zr HO_3.out) hb); have n1_ := zA (blk_below (g := gb118) (o := .cells #[.bool (t106 == 0), .int .i64 ((rd_T54 x3_1 t121).f1.f0), .int .i64 ((rd_T54 x3_1 t121).f1.f1), .int .i64 t111, .int .i64 t112, .int .i64 (wrap64 (t114 * t116))] 54 (0, 0)) (zb BK118.out) hb); have n2_ := zA (blk_below (g := gb124) (o := .cells #[.bool ((rd_T54 x3_1 t121).f0), .int .i64 ((rd_T54 x3_1 t121).f1.f0), .int .i64 ((rd_T54 x3_1 t121).f1.f1), .int .i64 ((rd_T54 x3_1 t121).f2.f0), .int .i64 ((rd_T54 x3_1 t121).f2.f1), .int .i64 ((rd_T54 x3_1 t121).f3)] 54 (0, 0)) (zb BK124.out) hb); have n3_ := zA (IsS117.below (zHI0) hb); have n4_ := zA (KeepBut.trans (zHK) (KeepBut.of_below hb g none) (.inl rfl)); have n5_ := zA (below_step (zHB) hb); clear HO_3; clear BK118; clear BK124; clear HI0; clear HK; clear HB; have HO_3 := n0_; have BK118 := n1_; have BK124 := n2_; have HI0 := n3_; have HK := n4_; have HB := n5_; clear n0_ n1_ n2_ n3_ n4_ n5_; (try clear hb); (try clear hb2); (try clear hk); (try clear hi); have hnb55 := NB118_0.out; have hnc55 := NB0_118.out; have hcz56_0 : w54.cell? ⟨gb118, 0, none⟩ = some (.bool (t106 == 0)) := (blk_cell BK118.out 0).trans rfl; have hcz56_1 : w54.cell? ⟨gb118, 1, none⟩ = some (.int .i64 ((rd_T54 x3_1 t121).f1.f0)) := (blk_cell BK118.out 1).trans rfl; have hcz56_2 : w54.cell? ⟨gb118, 2, none⟩ = some (.int .i64 ((rd_T54 x3_1 t121).f1.f1)) := (blk_cell BK118.out 2).trans rfl; have hcz56_3 : w54.cell? ⟨gb118, 3, none⟩ = some (.int .i64 t111) := (blk_cell BK118.out 3).trans rfl; have hcz56_4 : w54.cell? ⟨gb118, 4, none⟩ = some (.int .i64 t112) := (blk_cell BK118.out 4).trans rfl; have hcz56_5 : w54.cell? ⟨gb118, 5, none⟩ = some (.int .i64 (wrap64 (t114 * t116))) := (blk_cell BK118.out 5).trans rfl; have hfz56_0 := blk_frozen BK118.out 0; have hfz56_1 := blk_frozen BK118.out 1; have hfz56_2 := blk_frozen BK118.out 2; have hfz56_3 := blk_frozen BK118.out 3; have hfz56_4 := blk_frozen BK118.out 4; have hfz56_5 := blk_frozen BK118.out 5) | ((with_reducible refine gate_callee (f := 81) rfl ?_); refine goesL_ (some 62) rfl rfl Try.func81 (by kernel_rfl) rfl #[.pointer (some ⟨g, 0, none⟩), .int .i64 5] rfl y1  ?_; (with_reducible refine (spec_l1Rd_pick.calls kj29 g s0_0 x1001_29 5 t131 t132 w0 _ ?side1 ?side2 A48.out).mono ?_); (case side1 => exact zHI0); (case side2 => exact zHB); rintro e w57 ⟨rfl, hi, hb, hk⟩; refine ⟨_, rfl, ?_⟩; have n0_ := zA (Kd.R_mono (Kd.R_keep (IsS117.apart (show IsS117 w0 _ g s0_0 x1001_29 from zHI0) (by refine zk ?_; exact (Kd.R_mono (Kd.R_far (p := ⟨gb118, 4, none⟩) (Kd.R_far (p := ⟨gb118, 3, none⟩) (Kd.R_mono HO_3.out (fun k_ hk => (⟨hk, hk.1⟩ : _ ∧ k_ ≠ gb118))) (fun _ hk => hk.2) (.int .i64 t127)) (fun _ hk => hk.2) (.int .i64 t128)) (fun _ h_ => h_.1))) (by decide)) hk (fun _ h => h.2)) (fun _ h => h.1)); have n1_ := zA (KeepBut.blk hk (g' := gb118) (o := .cells #[.bool (t106 == 0), .int .i64 ((rd_T54 x3_1 t121).f1.f0), .int .i64 ((rd_T54 x3_1 t121).f1.f1), .int .i64 t127, .int .i64 t128, .int .i64 (wrap64 (t114 * t116))] 54 (0, 0)) (by refine zq ?_; refine blk_put (cs := #[.bool (t106 == 0), .int .i64 ((rd_T54 x3_1 t121).f1.f0), .int .i64 ((rd_T54 x3_1 t121).f1.f1), .int .i64 t127, .int .i64 t112, .int .i64 (wrap64 (t114 * t116))]) ?_ 4 _ rfl; refine zq ?_; refine blk_put (cs := #[.bool (t106 == 0), .int .i64 ((rd_T54 x3_1 t121).f1.f0), .int .i64 ((rd_T54 x3_1 t121).f1.f1), .int .i64 t111, .int .i64 t112, .int .i64 (wrap64 (t114 * t116))]) ?_ 3 _ rfl; refine zq ?_; exact BK118.out) NB118_0.out (by simp)); have n2_ := zA (KeepBut.blk hk (g' := gb124) (o := .cells #[.bool ((rd_T54 x3_1 t121).f0), .int .i64 ((rd_T54 x3_1 t121).f1.f0), .int .i64 ((rd_T54 x3_1 t121).f1.f1), .int .i64 ((rd_T54 x3_1 t121).f2.f0), .int .i64 ((rd_T54 x3_1 t121).f2.f1), .int .i64 ((rd_T54 x3_1 t121).f3)] 54 (0, 0)) y2  NB124_0.out (by simp)); have n3_ := zA (KeepBut.trans (zHK) hk (.inl rfl)); have n4_ := zA (hb); have n5_ := zA (hi); clear HO_3; clear BK118; clear BK124; clear HK; clear HB; clear HI0; have HO_3 := n0_; have BK118 := n1_; have BK124 := n2_; have HK := n3_; have HB := n4_; have HI0 := n5_; clear n0_ n1_ n2_ n3_ n4_ n5_; (try clear hb); (try clear hb2); (try clear hk); (try clear hi); have hcz58_0 : w57.cell? ⟨gb118, 0, none⟩ = some (.bool (t106 == 0)) := (blk_cell BK118.out 0).trans rfl; have hcz58_1 : w57.cell? ⟨gb118, 1, none⟩ = some (.int .i64 ((rd_T54 x3_1 t121).f1.f0)) := (blk_cell BK118.out 1).trans rfl; have hcz58_2 : w57.cell? ⟨gb118, 2, none⟩ = some (.int .i64 ((rd_T54 x3_1 t121).f1.f1)) := (blk_cell BK118.out 2).trans rfl; have hcz58_3 : w57.cell? ⟨gb118, 3, none⟩ = some (.int .i64 t127) := (blk_cell BK118.out 3).trans rfl; have hcz58_4 : w57.cell? ⟨gb118, 4, none⟩ = some (.int .i64 t128) := (blk_cell BK118.out 4).trans rfl; have hcz58_5 : w57.cell? ⟨gb118, 5, none⟩ = some (.int .i64 (wrap64 (t114 * t116))) := (blk_cell BK118.out 5).trans rfl; have hfz58_0 := blk_frozen BK118.out 0; have hfz58_1 := blk_frozen BK118.out 1; have hfz58_2 := blk_frozen BK118.out 2; have hfz58_3 := blk_frozen BK118.out 3; have hfz58_4 := blk_frozen BK118.out 4; have hfz58_5 := blk_frozen BK118.out 5) | ((with_reducible refine gate_builtin (b := .append) (xs := #[.tmp 66, .tmp 68]) rfl ?_); at_builtin; refine Kd.R_append k54 w.heap.size rfl (.tmp 66) (.tmp 68) 30 54 (.agg #[(.bool false), (.int .i64 0), (.int .i64 0), (.int .i64 0), (.int .i64 0), (.int .i64 0)]) 48 rfl Try.underlying30 info54 rfl (by decide) (by omega) (.slice (some ad123) x3_1.length co31) x3_1 (⟨(t106 == 0), (⟨0, 0⟩ : S26), (⟨t127, t128⟩ : S26), (wrap64 (t114 * t116))⟩ : S54) [.bool (t106 == 0), .int .i64 0, .int .i64 0, .int .i64 t127, .int .i64 t128, .int .i64 (wrap64 (t114 * t116))] (fun k_ => k_ ≠ gb118 ∧ k_ ≠ gb124) (fun _ => False) rfl (by first | (go_simp; done) | (go_simp; rfl)) ?aP (fun _ hk => hk.elim) ?aF ?aO (Below.refl _ _) ?aS ?aL ?_; (case aP => exact k54_mkM _ _ _ (⟨(t106 == 0), (⟨0, 0⟩ : S26), (⟨t127, t128⟩ : S26), (wrap64 (t114 * t116))⟩ : S54)); (case aF => exact (fun k_ hk => ⟨Kd.freshB (g := gb118) (o := .cells #[.bool (t106 == 0), .int .i64 0, .int .i64 0, .int .i64 t127, .int .i64 t128, .int .i64 (wrap64 (t114 * t116))] 54 (0, 0)) (by refine zq ?_; refine blk_put (cs := #[.bool (t106 == 0), .int .i64 0, .int .i64 ((rd_T54 x3_1 t121).f1.f1), .int .i64 t127, .int .i64 t128, .int .i64 (wrap64 (t114 * t116))]) ?_ 2 _ rfl; refine zq ?_; refine blk_put (cs := #[.bool (t106 == 0), .int .i64 ((rd_T54 x3_1 t121).f1.f0), .int .i64 ((rd_T54 x3_1 t121).f1.f1), .int .i64 t127, .int .i64 t128, .int .i64 (wrap64 (t114 * t116))]) ?_ 1 _ rfl; refine zq ?_; exact BK118.out) k_ hk, Kd.freshB (g := gb124) (o := .cells #[.bool ((rd_T54 x3_1 t121).f0), .int .i64 ((rd_T54 x3_1 t121).f1.f0), .int .i64 ((rd_T54 x3_1 t121).f1.f1), .int .i64 ((rd_T54 x3_1 t121).f2.f0), .int .i64 ((rd_T54 x3_1 t121).f2.f1), .int .i64 ((rd_T54 x3_1 t121).f3)] 54 (0, 0)) y2  k_ hk⟩)); (case aO => exact (by refine zk ?_; exact Kd.R_mono (Kd.R_far (p := ⟨gb118, 2, none⟩) (Kd.R_far (p := ⟨gb118, 1, none⟩) (Kd.R_mono HO_3.out (fun k_ hk => (⟨hk, hk.1⟩ : _ ∧ k_ ≠ gb118))) (fun _ hk => hk.2) (.int .i64 0)) (fun _ hk => hk.2) (.int .i64 0)) (fun _ hk => ⟨hk.1.1, hk.1.2⟩))); (case aS => exact (keep_size (w := w) (g := g) (row := none) (zHK))); (case aL => have := LMc50.out; omega); intro v134 w59 ho hb hg hat; rw [← Ny133.out] at ho; have n0_ := zA (blk_grown (g := gb118) (o := .cells #[.bool (t106 == 0), .int .i64 0, .int .i64 0, .int .i64 t127, .int .i64 t128, .int .i64 (wrap64 (t114 * t116))] 54 (0, 0)) (by refine zq ?_; refine blk_put (cs := #[.bool (t106 == 0), .int .i64 0, .int .i64 ((rd_T54 x3_1 t121).f1.f1), .int .i64 t127, .int .i64 t128, .int .i64 (wrap64 (t114 * t116))]) ?_ 2 _ rfl; refine zq ?_; refine blk_put (cs := #[.bool (t106 == 0), .int .i64 ((rd_T54 x3_1 t121).f1.f0), .int .i64 ((rd_T54 x3_1 t121).f1.f1), .int .i64 t127, .int .i64 t128, .int .i64 (wrap64 (t114 * t116))]) ?_ 1 _ rfl; refine zq ?_; exact BK118.out) hg (Kd.R_away HO_3.out (fun _ hk => hk.1))); have n1_ := zA (blk_grown (g := gb124) (o := .cells #[.bool ((rd_T54 x3_1 t121).f0), .int .i64 ((rd_T54 x3_1 t121).f1.f0), .int .i64 ((rd_T54 x3_1 t121).f1.f1), .int .i64 ((rd_T54 x3_1 t121).f2.f0), .int .i64 ((rd_T54 x3_1 t121).f2.f1), .int .i64 ((rd_T54 x3_1 t121).f3)] 54 (0, 0)) y2  hg (Kd.R_away HO_3.out (fun _ hk => hk.2))); have n2_ := zA (spec_l5Rules.grown117 HI0.out (zHI0) hg (IsS117.own_ne HI0.out HO_3.out (by decide))); have n3_ := zA (below_weaken (zHB) HL.out hb); have n4_ := zA (KeepBut.trans (zHK) (KeepBut.of_grown hg g) (Kd.R_base2 HO_3.out)); have n5_ := zA (ho); clear BK118; clear BK124; clear HI0; clear HB; clear HK; clear HO_3; have BK118 := n0_; have BK124 := n1_; have HI0 := n2_; have HB := n3_; have HK := n4_; have HO135 := n5_; clear n0_ n1_ n2_ n3_ n4_ n5_; clear ho hb hg hat))
           go_roundg kj29
           case measure => have := HK1.out; have := HJ11.out; have := HJ29.out; omega
           case rel => exact ⟨(y133), (wrap64 (x4_1 - 1)), (t132), y3 , H', ⟨by have := HK1.out; have := HJ11.out; have := HJ29.out; omega⟩, ⟨by refine zk ?_; exact Kd.R_mono HO135.out (fun _ hk => trivial)⟩, ⟨zHI0⟩, ⟨zHK⟩, ⟨zHB⟩⟩
          rw [if_neg c50] at H
          exact absurd H (by simp)
         rw [if_neg c49] at H
         have c49b0 : (t131 == 0) = false := beq_eq_false_iff_ne.mpr c49
         have c49b1 : (t131 != 0) = true := bne_iff_ne.mpr c49
         by_cases c60 : x3_1.length < 2932031007402
         ·rw [if_pos c60] at H
          have LMc60 := zA c60
          clear c60
          obtain ⟨y136, hy136⟩ : ∃ y_ : List (S54), y_ = (x3_1 ++ [(⟨(t106 == 0), (⟨((rd_T54 x3_1 t121).f1.f0), ((rd_T54 x3_1 t121).f1.f1)⟩ : S26), (⟨t127, t128⟩ : S26), (wrap64 (t114 * t116))⟩ : S54)]) := ⟨_, rfl⟩
          replace H : (spec_l5Rules.l0 kj29 y136 (wrap64 (x4_1 - 1)) s0_0 t132) = some (r1, r2) := by first | (rw [hy136]; with_reducible exact H) | (have H2_ := (Option.bind_some _ _).symm.trans H; rw [hy136]; with_reducible exact H2_) | (have H2_ := (Option.bind_some _ _).symm.trans H; with_reducible exact H2_) | with_reducible exact H | (rw [hy136]; exact H) | exact H
          have Ny136 := zA hy136
          clear hy136
          have H' := zA H
          clear H
          have hnb61 := NB124_118.out
          have hnc61 := NB118_124.out
          have hnb62 := NB124_0.out
          have hnc62 := NB0_124.out
          have hcz63_0 : wc.cell? ⟨gb124, 0, none⟩ = some (.bool ((rd_T54 x3_1 t121).f0)) := (blk_cell BK124.out 0).trans rfl
          have hcz63_1 : wc.cell? ⟨gb124, 1, none⟩ = some (.int .i64 ((rd_T54 x3_1 t121).f1.f0)) := (blk_cell BK124.out 1).trans rfl
          have hcz63_2 : wc.cell? ⟨gb124, 2, none⟩ = some (.int .i64 ((rd_T54 x3_1 t121).f1.f1)) := (blk_cell BK124.out 2).trans rfl
          have hcz63_3 : wc.cell? ⟨gb124, 3, none⟩ = some (.int .i64 ((rd_T54 x3_1 t121).f2.f0)) := (blk_cell BK124.out 3).trans rfl
          have hcz63_4 : wc.cell? ⟨gb124, 4, none⟩ = some (.int .i64 ((rd_T54 x3_1 t121).f2.f1)) := (blk_cell BK124.out 4).trans rfl
          have hcz63_5 : wc.cell? ⟨gb124, 5, none⟩ = some (.int .i64 ((rd_T54 x3_1 t121).f3)) := (blk_cell BK124.out 5).trans rfl
          have hfz63_0 := blk_frozen BK124.out 0
          have hfz63_1 := blk_frozen BK124.out 1
          have hfz63_2 := blk_frozen BK124.out 2
          have hfz63_3 := blk_frozen BK124.out 3
          have hfz63_4 := blk_frozen BK124.out 4
          have hfz63_5 := blk_frozen BK124.out 5
          go_wp2_with (first | ((with_reducible refine gate_callee (f := 93) rfl ?_); refine goesL_ (some 57) rfl rfl Try.func93 (by kernel_rfl) rfl #[.agg #[.int .i64 ((rd_T54 x3_1 t121).f2.f0), .int .i64 ((rd_T54 x3_1 t121).f2.f1)]] rfl y1  ?_; (with_reducible refine (spec_l1Halves.calls kj29 ((rd_T54 x3_1 t121).f2.f0) ((rd_T54 x3_1 t121).f2.f1) t127 t128 t129 t130 _ A47.out).mono ?_); rintro e w64 ⟨rfl, hb⟩; refine ⟨_, rfl, ?_⟩; have n0_ := zA (Kd.R_below (zr HO_3.out) hb); have n1_ := zA (blk_below (g := gb118) (o := .cells #[.bool (t106 == 0), .int .i64 ((rd_T54 x3_1 t121).f1.f0), .int .i64 ((rd_T54 x3_1 t121).f1.f1), .int .i64 t111, .int .i64 t112, .int .i64 (wrap64 (t114 * t116))] 54 (0, 0)) (zb BK118.out) hb); have n2_ := zA (blk_below (g := gb124) (o := .cells #[.bool ((rd_T54 x3_1 t121).f0), .int .i64 ((rd_T54 x3_1 t121).f1.f0), .int .i64 ((rd_T54 x3_1 t121).f1.f1), .int .i64 ((rd_T54 x3_1 t121).f2.f0), .int .i64 ((rd_T54 x3_1 t121).f2.f1), .int .i64 ((rd_T54 x3_1 t121).f3)] 54 (0, 0)) (zb BK124.out) hb); have n3_ := zA (IsS117.below (zHI0) hb); have n4_ := zA (KeepBut.trans (zHK) (KeepBut.of_below hb g none) (.inl rfl)); have n5_ := zA (below_step (zHB) hb); clear HO_3; clear BK118; clear BK124; clear HI0; clear HK; clear HB; have HO_3 := n0_; have BK118 := n1_; have BK124 := n2_; have HI0 := n3_; have HK := n4_; have HB := n5_; clear n0_ n1_ n2_ n3_ n4_ n5_; (try clear hb); (try clear hb2); (try clear hk); (try clear hi); have hnb65 := NB118_0.out; have hnc65 := NB0_118.out; have hcz66_0 : w64.cell? ⟨gb118, 0, none⟩ = some (.bool (t106 == 0)) := (blk_cell BK118.out 0).trans rfl; have hcz66_1 : w64.cell? ⟨gb118, 1, none⟩ = some (.int .i64 ((rd_T54 x3_1 t121).f1.f0)) := (blk_cell BK118.out 1).trans rfl; have hcz66_2 : w64.cell? ⟨gb118, 2, none⟩ = some (.int .i64 ((rd_T54 x3_1 t121).f1.f1)) := (blk_cell BK118.out 2).trans rfl; have hcz66_3 : w64.cell? ⟨gb118, 3, none⟩ = some (.int .i64 t111) := (blk_cell BK118.out 3).trans rfl; have hcz66_4 : w64.cell? ⟨gb118, 4, none⟩ = some (.int .i64 t112) := (blk_cell BK118.out 4).trans rfl; have hcz66_5 : w64.cell? ⟨gb118, 5, none⟩ = some (.int .i64 (wrap64 (t114 * t116))) := (blk_cell BK118.out 5).trans rfl; have hfz66_0 := blk_frozen BK118.out 0; have hfz66_1 := blk_frozen BK118.out 1; have hfz66_2 := blk_frozen BK118.out 2; have hfz66_3 := blk_frozen BK118.out 3; have hfz66_4 := blk_frozen BK118.out 4; have hfz66_5 := blk_frozen BK118.out 5) | ((with_reducible refine gate_callee (f := 81) rfl ?_); refine goesL_ (some 62) rfl rfl Try.func81 (by kernel_rfl) rfl #[.pointer (some ⟨g, 0, none⟩), .int .i64 5] rfl y1  ?_; (with_reducible refine (spec_l1Rd_pick.calls kj29 g s0_0 x1001_29 5 t131 t132 w0 _ ?side1 ?side2 A48.out).mono ?_); (case side1 => exact zHI0); (case side2 => exact zHB); rintro e w67 ⟨rfl, hi, hb, hk⟩; refine ⟨_, rfl, ?_⟩; have n0_ := zA (Kd.R_mono (Kd.R_keep (IsS117.apart (show IsS117 w0 _ g s0_0 x1001_29 from zHI0) (by refine zk ?_; exact (Kd.R_mono (Kd.R_far (p := ⟨gb118, 4, none⟩) (Kd.R_far (p := ⟨gb118, 3, none⟩) (Kd.R_mono HO_3.out (fun k_ hk => (⟨hk, hk.1⟩ : _ ∧ k_ ≠ gb118))) (fun _ hk => hk.2) (.int .i64 t127)) (fun _ hk => hk.2) (.int .i64 t128)) (fun _ h_ => h_.1))) (by decide)) hk (fun _ h => h.2)) (fun _ h => h.1)); have n1_ := zA (KeepBut.blk hk (g' := gb118) (o := .cells #[.bool (t106 == 0), .int .i64 ((rd_T54 x3_1 t121).f1.f0), .int .i64 ((rd_T54 x3_1 t121).f1.f1), .int .i64 t127, .int .i64 t128, .int .i64 (wrap64 (t114 * t116))] 54 (0, 0)) (by refine zq ?_; refine blk_put (cs := #[.bool (t106 == 0), .int .i64 ((rd_T54 x3_1 t121).f1.f0), .int .i64 ((rd_T54 x3_1 t121).f1.f1), .int .i64 t127, .int .i64 t112, .int .i64 (wrap64 (t114 * t116))]) ?_ 4 _ rfl; refine zq ?_; refine blk_put (cs := #[.bool (t106 == 0), .int .i64 ((rd_T54 x3_1 t121).f1.f0), .int .i64 ((rd_T54 x3_1 t121).f1.f1), .int .i64 t111, .int .i64 t112, .int .i64 (wrap64 (t114 * t116))]) ?_ 3 _ rfl; refine zq ?_; exact BK118.out) NB118_0.out (by simp)); have n2_ := zA (KeepBut.blk hk (g' := gb124) (o := .cells #[.bool ((rd_T54 x3_1 t121).f0), .int .i64 ((rd_T54 x3_1 t121).f1.f0), .int .i64 ((rd_T54 x3_1 t121).f1.f1), .int .i64 ((rd_T54 x3_1 t121).f2.f0), .int .i64 ((rd_T54 x3_1 t121).f2.f1), .int .i64 ((rd_T54 x3_1 t121).f3)] 54 (0, 0)) y2  NB124_0.out (by simp)); have n3_ := zA (KeepBut.trans (zHK) hk (.inl rfl)); have n4_ := zA (hb); have n5_ := zA (hi); clear HO_3; clear BK118; clear BK124; clear HK; clear HB; clear HI0; have HO_3 := n0_; have BK118 := n1_; have BK124 := n2_; have HK := n3_; have HB := n4_; have HI0 := n5_; clear n0_ n1_ n2_ n3_ n4_ n5_; (try clear hb); (try clear hb2); (try clear hk); (try clear hi); have hcz68_0 : w67.cell? ⟨gb118, 0, none⟩ = some (.bool (t106 == 0)) := (blk_cell BK118.out 0).trans rfl; have hcz68_1 : w67.cell? ⟨gb118, 1, none⟩ = some (.int .i64 ((rd_T54 x3_1 t121).f1.f0)) := (blk_cell BK118.out 1).trans rfl; have hcz68_2 : w67.cell? ⟨gb118, 2, none⟩ = some (.int .i64 ((rd_T54 x3_1 t121).f1.f1)) := (blk_cell BK118.out 2).trans rfl; have hcz68_3 : w67.cell? ⟨gb118, 3, none⟩ = some (.int .i64 t127) := (blk_cell BK118.out 3).trans rfl; have hcz68_4 : w67.cell? ⟨gb118, 4, none⟩ = some (.int .i64 t128) := (blk_cell BK118.out 4).trans rfl; have hcz68_5 : w67.cell? ⟨gb118, 5, none⟩ = some (.int .i64 (wrap64 (t114 * t116))) := (blk_cell BK118.out 5).trans rfl; have hfz68_0 := blk_frozen BK118.out 0; have hfz68_1 := blk_frozen BK118.out 1; have hfz68_2 := blk_frozen BK118.out 2; have hfz68_3 := blk_frozen BK118.out 3; have hfz68_4 := blk_frozen BK118.out 4; have hfz68_5 := blk_frozen BK118.out 5) | ((with_reducible refine gate_builtin (b := .append) (xs := #[.tmp 66, .tmp 68]) rfl ?_); at_builtin; refine Kd.R_append k54 w.heap.size rfl (.tmp 66) (.tmp 68) 30 54 (.agg #[(.bool false), (.int .i64 0), (.int .i64 0), (.int .i64 0), (.int .i64 0), (.int .i64 0)]) 48 rfl Try.underlying30 info54 rfl (by decide) (by omega) (.slice (some ad123) x3_1.length co31) x3_1 (⟨(t106 == 0), (⟨((rd_T54 x3_1 t121).f1.f0), ((rd_T54 x3_1 t121).f1.f1)⟩ : S26), (⟨t127, t128⟩ : S26), (wrap64 (t114 * t116))⟩ : S54) [.bool (t106 == 0), .int .i64 ((rd_T54 x3_1 t121).f1.f0), .int .i64 ((rd_T54 x3_1 t121).f1.f1), .int .i64 t127, .int .i64 t128, .int .i64 (wrap64 (t114 * t116))] (fun k_ => k_ ≠ gb118 ∧ k_ ≠ gb124) (fun _ => False) rfl rfl ?aP (fun _ hk => hk.elim) ?aF ?aO (Below.refl _ _) ?aS ?aL ?_; (case aP => exact k54_mkM _ _ _ (⟨(t106 == 0), (⟨((rd_T54 x3_1 t121).f1.f0), ((rd_T54 x3_1 t121).f1.f1)⟩ : S26), (⟨t127, t128⟩ : S26), (wrap64 (t114 * t116))⟩ : S54)); (case aF => exact (fun k_ hk => ⟨Kd.freshB (g := gb118) (o := .cells #[.bool (t106 == 0), .int .i64 ((rd_T54 x3_1 t121).f1.f0), .int .i64 ((rd_T54 x3_1 t121).f1.f1), .int .i64 t127, .int .i64 t128, .int .i64 (wrap64 (t114 * t116))] 54 (0, 0)) (zb BK118.out) k_ hk, Kd.freshB (g := gb124) (o := .cells #[.bool ((rd_T54 x3_1 t121).f0), .int .i64 ((rd_T54 x3_1 t121).f1.f0), .int .i64 ((rd_T54 x3_1 t121).f1.f1), .int .i64 ((rd_T54 x3_1 t121).f2.f0), .int .i64 ((rd_T54 x3_1 t121).f2.f1), .int .i64 ((rd_T54 x3_1 t121).f3)] 54 (0, 0)) (zb BK124.out) k_ hk⟩)); (case aO => exact (zr HO_3.out)); (case aS => exact (keep_size (w := w) (g := g) (row := none) (zHK))); (case aL => have := LMc60.out; omega); intro v137 w69 ho hb hg hat; rw [← Ny136.out] at ho; have n0_ := zA (blk_grown (g := gb118) (o := .cells #[.bool (t106 == 0), .int .i64 ((rd_T54 x3_1 t121).f1.f0), .int .i64 ((rd_T54 x3_1 t121).f1.f1), .int .i64 t127, .int .i64 t128, .int .i64 (wrap64 (t114 * t116))] 54 (0, 0)) (zb BK118.out) hg (Kd.R_away HO_3.out (fun _ hk => hk.1))); have n1_ := zA (blk_grown (g := gb124) (o := .cells #[.bool ((rd_T54 x3_1 t121).f0), .int .i64 ((rd_T54 x3_1 t121).f1.f0), .int .i64 ((rd_T54 x3_1 t121).f1.f1), .int .i64 ((rd_T54 x3_1 t121).f2.f0), .int .i64 ((rd_T54 x3_1 t121).f2.f1), .int .i64 ((rd_T54 x3_1 t121).f3)] 54 (0, 0)) (zb BK124.out) hg (Kd.R_away HO_3.out (fun _ hk => hk.2))); have n2_ := zA (spec_l5Rules.grown117 HI0.out (zHI0) hg (IsS117.own_ne HI0.out HO_3.out (by decide))); have n3_ := zA (below_weaken (zHB) HL.out hb); have n4_ := zA (KeepBut.trans (zHK) (KeepBut.of_grown hg g) (Kd.R_base2 HO_3.out)); have n5_ := zA (ho); clear BK118; clear BK124; clear HI0; clear HB; clear HK; clear HO_3; have BK118 := n0_; have BK124 := n1_; have HI0 := n2_; have HB := n3_; have HK := n4_; have HO138 := n5_; clear n0_ n1_ n2_ n3_ n4_ n5_; clear ho hb hg hat))
          go_roundg kj29
          case measure => have := HK1.out; have := HJ11.out; have := HJ29.out; omega
          case rel => exact ⟨(y136), (wrap64 (x4_1 - 1)), (t132), y3 , H', ⟨by have := HK1.out; have := HJ11.out; have := HJ29.out; omega⟩, ⟨by refine zk ?_; exact Kd.R_mono HO138.out (fun _ hk => trivial)⟩, ⟨zHI0⟩, ⟨zHK⟩, ⟨zHB⟩⟩
         rw [if_neg c60] at H
         exact absurd H (by simp)
        replace c46 := Bool.eq_false_iff.mpr c46
        subst c46
        have H1 : ((spec_l1Rd_pick.f kj29 s0_0 x1001_29 5).bind fun bt139 => (if bt139.1 = 0 then (if x3_1.length < 2932031007402 then (spec_l5Rules.l0 kj29 (x3_1 ++ [(⟨(t106 == 0), (⟨0, 0⟩ : S26), (⟨t111, t112⟩ : S26), (wrap64 (t114 * t116))⟩ : S54)]) (wrap64 (x4_1 - 1)) s0_0 bt139.2) else (none)) else (if x3_1.length < 2932031007402 then (spec_l5Rules.l0 kj29 (x3_1 ++ [(⟨(t106 == 0), (⟨((rd_T54 x3_1 t121).f1.f0), ((rd_T54 x3_1 t121).f1.f1)⟩ : S26), (⟨t111, t112⟩ : S26), (wrap64 (t114 * t116))⟩ : S54)]) (wrap64 (x4_1 - 1)) s0_0 bt139.2) else (none)))) = some (r1, r2) := by rw [if_neg (show ¬ (false = true) by decide)] at H; exact H
        clear H
        have H := H1
        clear H1
        replace H := Option.bind_eq_some_iff.mp H
        obtain ⟨⟨t139, t140⟩, A700, H⟩ := H
        replace H : (if t139 = 0 then (if x3_1.length < 2932031007402 then (spec_l5Rules.l0 kj29 (x3_1 ++ [(⟨(t106 == 0), (⟨0, 0⟩ : S26), (⟨t111, t112⟩ : S26), (wrap64 (t114 * t116))⟩ : S54)]) (wrap64 (x4_1 - 1)) s0_0 t140) else (none)) else (if x3_1.length < 2932031007402 then (spec_l5Rules.l0 kj29 (x3_1 ++ [(⟨(t106 == 0), (⟨((rd_T54 x3_1 t121).f1.f0), ((rd_T54 x3_1 t121).f1.f1)⟩ : S26), (⟨t111, t112⟩ : S26), (wrap64 (t114 * t116))⟩ : S54)]) (wrap64 (x4_1 - 1)) s0_0 t140) else (none))) = some (r1, r2) := H
        have A70 := zA A700
        clear A700
        by_cases c71 : t139 = 0
        ·rw [if_pos c71] at H
         have c71b0 : (t139 == 0) = true := beq_iff_eq.mpr c71
         have c71b1 : (t139 != 0) = false := bne_eq_false_iff_eq.mpr c71
         clear c71
         by_cases c72 : x3_1.length < 2932031007402
         ·rw [if_pos c72] at H
          have LMc72 := zA c72
          clear c72
          obtain ⟨y141, hy141⟩ : ∃ y_ : List (S54), y_ = (x3_1 ++ [(⟨(t106 == 0), (⟨0, 0⟩ : S26), (⟨t111, t112⟩ : S26), (wrap64 (t114 * t116))⟩ : S54)]) := ⟨_, rfl⟩
          replace H : (spec_l5Rules.l0 kj29 y141 (wrap64 (x4_1 - 1)) s0_0 t140) = some (r1, r2) := by first | (rw [hy141]; with_reducible exact H) | (have H2_ := (Option.bind_some _ _).symm.trans H; rw [hy141]; with_reducible exact H2_) | (have H2_ := (Option.bind_some _ _).symm.trans H; with_reducible exact H2_) | with_reducible exact H | (rw [hy141]; exact H) | exact H
          have Ny141 := zA hy141
          clear hy141
          have H' := zA H
          clear H
          go_wp2_with (first | ((with_reducible refine gate_callee (f := 81) rfl ?_); refine goesL_ (some 62) rfl rfl Try.func81 (by kernel_rfl) rfl #[.pointer (some ⟨g, 0, none⟩), .int .i64 5] rfl y1  ?_; (with_reducible refine (spec_l1Rd_pick.calls kj29 g s0_0 x1001_29 5 t139 t140 w0 _ ?side1 ?side2 A70.out).mono ?_); (case side1 => exact zHI0); (case side2 => exact zHB); rintro e w73 ⟨rfl, hi, hb, hk⟩; refine ⟨_, rfl, ?_⟩; have n0_ := zA (Kd.R_mono (Kd.R_keep (IsS117.apart (show IsS117 w0 _ g s0_0 x1001_29 from zHI0) (zr HO_3.out) (by decide)) hk (fun _ h => h.2)) (fun _ h => h.1)); have n1_ := zA (KeepBut.blk hk (g' := gb118) (o := .cells #[.bool (t106 == 0), .int .i64 ((rd_T54 x3_1 t121).f1.f0), .int .i64 ((rd_T54 x3_1 t121).f1.f1), .int .i64 t111, .int .i64 t112, .int .i64 (wrap64 (t114 * t116))] 54 (0, 0)) (zb BK118.out) NB118_0.out (by simp)); have n2_ := zA (KeepBut.blk hk (g' := gb124) (o := .cells #[.bool ((rd_T54 x3_1 t121).f0), .int .i64 ((rd_T54 x3_1 t121).f1.f0), .int .i64 ((rd_T54 x3_1 t121).f1.f1), .int .i64 ((rd_T54 x3_1 t121).f2.f0), .int .i64 ((rd_T54 x3_1 t121).f2.f1), .int .i64 ((rd_T54 x3_1 t121).f3)] 54 (0, 0)) (zb BK124.out) NB124_0.out (by simp)); have n3_ := zA (KeepBut.trans (zHK) hk (.inl rfl)); have n4_ := zA (hb); have n5_ := zA (hi); clear HO_3; clear BK118; clear BK124; clear HK; clear HB; clear HI0; have HO_3 := n0_; have BK118 := n1_; have BK124 := n2_; have HK := n3_; have HB := n4_; have HI0 := n5_; clear n0_ n1_ n2_ n3_ n4_ n5_; (try clear hb); (try clear hb2); (try clear hk); (try clear hi); have hnb74 := NB118_124.out; have hnc74 := NB124_118.out; have hnb75 := NB118_0.out; have hnc75 := NB0_118.out; have hcz76_0 : w73.cell? ⟨gb118, 0, none⟩ = some (.bool (t106 == 0)) := (blk_cell BK118.out 0).trans rfl; have hcz76_1 : w73.cell? ⟨gb118, 1, none⟩ = some (.int .i64 ((rd_T54 x3_1 t121).f1.f0)) := (blk_cell BK118.out 1).trans rfl; have hcz76_2 : w73.cell? ⟨gb118, 2, none⟩ = some (.int .i64 ((rd_T54 x3_1 t121).f1.f1)) := (blk_cell BK118.out 2).trans rfl; have hcz76_3 : w73.cell? ⟨gb118, 3, none⟩ = some (.int .i64 t111) := (blk_cell BK118.out 3).trans rfl; have hcz76_4 : w73.cell? ⟨gb118, 4, none⟩ = some (.int .i64 t112) := (blk_cell BK118.out 4).trans rfl; have hcz76_5 : w73.cell? ⟨gb118, 5, none⟩ = some (.int .i64 (wrap64 (t114 * t116))) := (blk_cell BK118.out 5).trans rfl; have hfz76_0 := blk_frozen BK118.out 0; have hfz76_1 := blk_frozen BK118.out 1; have hfz76_2 := blk_frozen BK118.out 2; have hfz76_3 := blk_frozen BK118.out 3; have hfz76_4 := blk_frozen BK118.out 4; have hfz76_5 := blk_frozen BK118.out 5) | ((with_reducible refine gate_builtin (b := .append) (xs := #[.tmp 66, .tmp 68]) rfl ?_); at_builtin; refine Kd.R_append k54 w.heap.size rfl (.tmp 66) (.tmp 68) 30 54 (.agg #[(.bool false), (.int .i64 0), (.int .i64 0), (.int .i64 0), (.int .i64 0), (.int .i64 0)]) 48 rfl Try.underlying30 info54 rfl (by decide) (by omega) (.slice (some ad123) x3_1.length co31) x3_1 (⟨(t106 == 0), (⟨0, 0⟩ : S26), (⟨t111, t112⟩ : S26), (wrap64 (t114 * t116))⟩ : S54) [.bool (t106 == 0), .int .i64 0, .int .i64 0, .int .i64 t111, .int .i64 t112, .int .i64 (wrap64 (t114 * t116))] (fun k_ => k_ ≠ gb118 ∧ k_ ≠ gb124) (fun _ => False) rfl (by first | (go_simp; done) | (go_simp; rfl)) ?aP (fun _ hk => hk.elim) ?aF ?aO (Below.refl _ _) ?aS ?aL ?_; (case aP => exact k54_mkM _ _ _ (⟨(t106 == 0), (⟨0, 0⟩ : S26), (⟨t111, t112⟩ : S26), (wrap64 (t114 * t116))⟩ : S54)); (case aF => exact (fun k_ hk => ⟨Kd.freshB (g := gb118) (o := .cells #[.bool (t106 == 0), .int .i64 0, .int .i64 0, .int .i64 t111, .int .i64 t112, .int .i64 (wrap64 (t114 * t116))] 54 (0, 0)) (by refine zq ?_; refine blk_put (cs := #[.bool (t106 == 0), .int .i64 0, .int .i64 ((rd_T54 x3_1 t121).f1.f1), .int .i64 t111, .int .i64 t112, .int .i64 (wrap64 (t114 * t116))]) ?_ 2 _ rfl; refine zq ?_; refine blk_put (cs := #[.bool (t106 == 0), .int .i64 ((rd_T54 x3_1 t121).f1.f0), .int .i64 ((rd_T54 x3_1 t121).f1.f1), .int .i64 t111, .int .i64 t112, .int .i64 (wrap64 (t114 * t116))]) ?_ 1 _ rfl; refine zq ?_; exact BK118.out) k_ hk, Kd.freshB (g := gb124) (o := .cells #[.bool ((rd_T54 x3_1 t121).f0), .int .i64 ((rd_T54 x3_1 t121).f1.f0), .int .i64 ((rd_T54 x3_1 t121).f1.f1), .int .i64 ((rd_T54 x3_1 t121).f2.f0), .int .i64 ((rd_T54 x3_1 t121).f2.f1), .int .i64 ((rd_T54 x3_1 t121).f3)] 54 (0, 0)) y2  k_ hk⟩)); (case aO => exact (by refine zk ?_; exact Kd.R_mono (Kd.R_far (p := ⟨gb118, 2, none⟩) (Kd.R_far (p := ⟨gb118, 1, none⟩) (Kd.R_mono HO_3.out (fun k_ hk => (⟨hk, hk.1⟩ : _ ∧ k_ ≠ gb118))) (fun _ hk => hk.2) (.int .i64 0)) (fun _ hk => hk.2) (.int .i64 0)) (fun _ hk => ⟨hk.1.1, hk.1.2⟩))); (case aS => exact (keep_size (w := w) (g := g) (row := none) (zHK))); (case aL => have := LMc72.out; omega); intro v142 w77 ho hb hg hat; rw [← Ny141.out] at ho; have n0_ := zA (blk_grown (g := gb118) (o := .cells #[.bool (t106 == 0), .int .i64 0, .int .i64 0, .int .i64 t111, .int .i64 t112, .int .i64 (wrap64 (t114 * t116))] 54 (0, 0)) (by refine zq ?_; refine blk_put (cs := #[.bool (t106 == 0), .int .i64 0, .int .i64 ((rd_T54 x3_1 t121).f1.f1), .int .i64 t111, .int .i64 t112, .int .i64 (wrap64 (t114 * t116))]) ?_ 2 _ rfl; refine zq ?_; refine blk_put (cs := #[.bool (t106 == 0), .int .i64 ((rd_T54 x3_1 t121).f1.f0), .int .i64 ((rd_T54 x3_1 t121).f1.f1), .int .i64 t111, .int .i64 t112, .int .i64 (wrap64 (t114 * t116))]) ?_ 1 _ rfl; refine zq ?_; exact BK118.out) hg (Kd.R_away HO_3.out (fun _ hk => hk.1))); have n1_ := zA (blk_grown (g := gb124) (o := .cells #[.bool ((rd_T54 x3_1 t121).f0), .int .i64 ((rd_T54 x3_1 t121).f1.f0), .int .i64 ((rd_T54 x3_1 t121).f1.f1), .int .i64 ((rd_T54 x3_1 t121).f2.f0), .int .i64 ((rd_T54 x3_1 t121).f2.f1), .int .i64 ((rd_T54 x3_1 t121).f3)] 54 (0, 0)) y2  hg (Kd.R_away HO_3.out (fun _ hk => hk.2))); have n2_ := zA (spec_l5Rules.grown117 HI0.out (zHI0) hg (IsS117.own_ne HI0.out HO_3.out (by decide))); have n3_ := zA (below_weaken (zHB) HL.out hb); have n4_ := zA (KeepBut.trans (zHK) (KeepBut.of_grown hg g) (Kd.R_base2 HO_3.out)); have n5_ := zA (ho); clear BK118; clear BK124; clear HI0; clear HB; clear HK; clear HO_3; have BK118 := n0_; have BK124 := n1_; have HI0 := n2_; have HB := n3_; have HK := n4_; have HO143 := n5_; clear n0_ n1_ n2_ n3_ n4_ n5_; clear ho hb hg hat))
          go_roundg kj29
          case measure => have := HK1.out; have := HJ11.out; have := HJ29.out; omega
          case rel => exact ⟨(y141), (wrap64 (x4_1 - 1)), (t140), y3 , H', ⟨by have := HK1.out; have := HJ11.out; have := HJ29.out; omega⟩, ⟨by refine zk ?_; exact Kd.R_mono HO143.out (fun _ hk => trivial)⟩, ⟨zHI0⟩, ⟨zHK⟩, ⟨zHB⟩⟩
         rw [if_neg c72] at H
         exact absurd H (by simp)
        rw [if_neg c71] at H
        have c71b0 : (t139 == 0) = false := beq_eq_false_iff_ne.mpr c71
        have c71b1 : (t139 != 0) = true := bne_iff_ne.mpr c71
        by_cases c78 : x3_1.length < 2932031007402
        ·rw [if_pos c78] at H
         have LMc78 := zA c78
         clear c78
         obtain ⟨y144, hy144⟩ : ∃ y_ : List (S54), y_ = (x3_1 ++ [(⟨(t106 == 0), (⟨((rd_T54 x3_1 t121).f1.f0), ((rd_T54 x3_1 t121).f1.f1)⟩ : S26), (⟨t111, t112⟩ : S26), (wrap64 (t114 * t116))⟩ : S54)]) := ⟨_, rfl⟩
         replace H : (spec_l5Rules.l0 kj29 y144 (wrap64 (x4_1 - 1)) s0_0 t140) = some (r1, r2) := by first | (rw [hy144]; with_reducible exact H) | (have H2_ := (Option.bind_some _ _).symm.trans H; rw [hy144]; with_reducible exact H2_) | (have H2_ := (Option.bind_some _ _).symm.trans H; with_reducible exact H2_) | with_reducible exact H | (rw [hy144]; exact H) | exact H
         have Ny144 := zA hy144
         clear hy144
         have H' := zA H
         clear H
         go_wp2_with (first | ((with_reducible refine gate_callee (f := 81) rfl ?_); refine goesL_ (some 62) rfl rfl Try.func81 (by kernel_rfl) rfl #[.pointer (some ⟨g, 0, none⟩), .int .i64 5] rfl y1  ?_; (with_reducible refine (spec_l1Rd_pick.calls kj29 g s0_0 x1001_29 5 t139 t140 w0 _ ?side1 ?side2 A70.out).mono ?_); (case side1 => exact zHI0); (case side2 => exact zHB); rintro e w79 ⟨rfl, hi, hb, hk⟩; refine ⟨_, rfl, ?_⟩; have n0_ := zA (Kd.R_mono (Kd.R_keep (IsS117.apart (show IsS117 w0 _ g s0_0 x1001_29 from zHI0) (zr HO_3.out) (by decide)) hk (fun _ h => h.2)) (fun _ h => h.1)); have n1_ := zA (KeepBut.blk hk (g' := gb118) (o := .cells #[.bool (t106 == 0), .int .i64 ((rd_T54 x3_1 t121).f1.f0), .int .i64 ((rd_T54 x3_1 t121).f1.f1), .int .i64 t111, .int .i64 t112, .int .i64 (wrap64 (t114 * t116))] 54 (0, 0)) (zb BK118.out) NB118_0.out (by simp)); have n2_ := zA (KeepBut.blk hk (g' := gb124) (o := .cells #[.bool ((rd_T54 x3_1 t121).f0), .int .i64 ((rd_T54 x3_1 t121).f1.f0), .int .i64 ((rd_T54 x3_1 t121).f1.f1), .int .i64 ((rd_T54 x3_1 t121).f2.f0), .int .i64 ((rd_T54 x3_1 t121).f2.f1), .int .i64 ((rd_T54 x3_1 t121).f3)] 54 (0, 0)) (zb BK124.out) NB124_0.out (by simp)); have n3_ := zA (KeepBut.trans (zHK) hk (.inl rfl)); have n4_ := zA (hb); have n5_ := zA (hi); clear HO_3; clear BK118; clear BK124; clear HK; clear HB; clear HI0; have HO_3 := n0_; have BK118 := n1_; have BK124 := n2_; have HK := n3_; have HB := n4_; have HI0 := n5_; clear n0_ n1_ n2_ n3_ n4_ n5_; (try clear hb); (try clear hb2); (try clear hk); (try clear hi); have hnb80 := NB118_124.out; have hnc80 := NB124_118.out; have hnb81 := NB118_0.out; have hnc81 := NB0_118.out; have hcz82_0 : w79.cell? ⟨gb118, 0, none⟩ = some (.bool (t106 == 0)) := (blk_cell BK118.out 0).trans rfl; have hcz82_1 : w79.cell? ⟨gb118, 1, none⟩ = some (.int .i64 ((rd_T54 x3_1 t121).f1.f0)) := (blk_cell BK118.out 1).trans rfl; have hcz82_2 : w79.cell? ⟨gb118, 2, none⟩ = some (.int .i64 ((rd_T54 x3_1 t121).f1.f1)) := (blk_cell BK118.out 2).trans rfl; have hcz82_3 : w79.cell? ⟨gb118, 3, none⟩ = some (.int .i64 t111) := (blk_cell BK118.out 3).trans rfl; have hcz82_4 : w79.cell? ⟨gb118, 4, none⟩ = some (.int .i64 t112) := (blk_cell BK118.out 4).trans rfl; have hcz82_5 : w79.cell? ⟨gb118, 5, none⟩ = some (.int .i64 (wrap64 (t114 * t116))) := (blk_cell BK118.out 5).trans rfl; have hfz82_0 := blk_frozen BK118.out 0; have hfz82_1 := blk_frozen BK118.out 1; have hfz82_2 := blk_frozen BK118.out 2; have hfz82_3 := blk_frozen BK118.out 3; have hfz82_4 := blk_frozen BK118.out 4; have hfz82_5 := blk_frozen BK118.out 5) | ((with_reducible refine gate_builtin (b := .append) (xs := #[.tmp 66, .tmp 68]) rfl ?_); at_builtin; refine Kd.R_append k54 w.heap.size rfl (.tmp 66) (.tmp 68) 30 54 (.agg #[(.bool false), (.int .i64 0), (.int .i64 0), (.int .i64 0), (.int .i64 0), (.int .i64 0)]) 48 rfl Try.underlying30 info54 rfl (by decide) (by omega) (.slice (some ad123) x3_1.length co31) x3_1 (⟨(t106 == 0), (⟨((rd_T54 x3_1 t121).f1.f0), ((rd_T54 x3_1 t121).f1.f1)⟩ : S26), (⟨t111, t112⟩ : S26), (wrap64 (t114 * t116))⟩ : S54) [.bool (t106 == 0), .int .i64 ((rd_T54 x3_1 t121).f1.f0), .int .i64 ((rd_T54 x3_1 t121).f1.f1), .int .i64 t111, .int .i64 t112, .int .i64 (wrap64 (t114 * t116))] (fun k_ => k_ ≠ gb118 ∧ k_ ≠ gb124) (fun _ => False) rfl rfl ?aP (fun _ hk => hk.elim) ?aF ?aO (Below.refl _ _) ?aS ?aL ?_; (case aP => exact k54_mkM _ _ _ (⟨(t106 == 0), (⟨((rd_T54 x3_1 t121).f1.f0), ((rd_T54 x3_1 t121).f1.f1)⟩ : S26), (⟨t111, t112⟩ : S26), (wrap64 (t114 * t116))⟩ : S54)); (case aF => exact (fun k_ hk => ⟨Kd.freshB (g := gb118) (o := .cells #[.bool (t106 == 0), .int .i64 ((rd_T54 x3_1 t121).f1.f0), .int .i64 ((rd_T54 x3_1 t121).f1.f1), .int .i64 t111, .int .i64 t112, .int .i64 (wrap64 (t114 * t116))] 54 (0, 0)) (zb BK118.out) k_ hk, Kd.freshB (g := gb124) (o := .cells #[.bool ((rd_T54 x3_1 t121).f0), .int .i64 ((rd_T54 x3_1 t121).f1.f0), .int .i64 ((rd_T54 x3_1 t121).f1.f1), .int .i64 ((rd_T54 x3_1 t121).f2.f0), .int .i64 ((rd_T54 x3_1 t121).f2.f1), .int .i64 ((rd_T54 x3_1 t121).f3)] 54 (0, 0)) (zb BK124.out) k_ hk⟩)); (case aO => exact (zr HO_3.out)); (case aS => exact (keep_size (w := w) (g := g) (row := none) (zHK))); (case aL => have := LMc78.out; omega); intro v145 w83 ho hb hg hat; rw [← Ny144.out] at ho; have n0_ := zA (blk_grown (g := gb118) (o := .cells #[.bool (t106 == 0), .int .i64 ((rd_T54 x3_1 t121).f1.f0), .int .i64 ((rd_T54 x3_1 t121).f1.f1), .int .i64 t111, .int .i64 t112, .int .i64 (wrap64 (t114 * t116))] 54 (0, 0)) (zb BK118.out) hg (Kd.R_away HO_3.out (fun _ hk => hk.1))); have n1_ := zA (blk_grown (g := gb124) (o := .cells #[.bool ((rd_T54 x3_1 t121).f0), .int .i64 ((rd_T54 x3_1 t121).f1.f0), .int .i64 ((rd_T54 x3_1 t121).f1.f1), .int .i64 ((rd_T54 x3_1 t121).f2.f0), .int .i64 ((rd_T54 x3_1 t121).f2.f1), .int .i64 ((rd_T54 x3_1 t121).f3)] 54 (0, 0)) (zb BK124.out) hg (Kd.R_away HO_3.out (fun _ hk => hk.2))); have n2_ := zA (spec_l5Rules.grown117 HI0.out (zHI0) hg (IsS117.own_ne HI0.out HO_3.out (by decide))); have n3_ := zA (below_weaken (zHB) HL.out hb); have n4_ := zA (KeepBut.trans (zHK) (KeepBut.of_grown hg g) (Kd.R_base2 HO_3.out)); have n5_ := zA (ho); clear BK118; clear BK124; clear HI0; clear HB; clear HK; clear HO_3; have BK118 := n0_; have BK124 := n1_; have HI0 := n2_; have HB := n3_; have HK := n4_; have HO146 := n5_; clear n0_ n1_ n2_ n3_ n4_ n5_; clear ho hb hg hat))
         go_roundg kj29
         case measure => have := HK1.out; have := HJ11.out; have := HJ29.out; omega
         case rel => exact ⟨(y144), (wrap64 (x4_1 - 1)), (t140), y3 , H', ⟨by have := HK1.out; have := HJ11.out; have := HJ29.out; omega⟩, ⟨by refine zk ?_; exact Kd.R_mono HO146.out (fun _ hk => trivial)⟩, ⟨zHI0⟩, ⟨zHK⟩, ⟨zHB⟩⟩
        rw [if_neg c78] at H
        exact absurd H (by simp)
      rw [if_neg c29] at H
      exact absurd H (by simp)
     rw [if_neg c28] at H
     exact absurd H (by simp)
    replace c26 := Bool.eq_false_iff.mpr c26
    subst c26
    have H1 : ((spec_l1Rd_pick.f kj11 s0_0 x1001_11 5).bind fun bt147 => (if bt147.1 = 0 then (if x3_1.length < 2932031007402 then (spec_l5Rules.l0 kj11 (x3_1 ++ [(⟨(t106 == 0), (⟨0, 0⟩ : S26), (⟨t111, t112⟩ : S26), (wrap64 (t114 * t116))⟩ : S54)]) (wrap64 (x4_1 - 1)) s0_0 bt147.2) else (none)) else (if x3_1.length < 2932031007402 then (spec_l5Rules.l0 kj11 (x3_1 ++ [(⟨(t106 == 0), (⟨t108, t109⟩ : S26), (⟨t111, t112⟩ : S26), (wrap64 (t114 * t116))⟩ : S54)]) (wrap64 (x4_1 - 1)) s0_0 bt147.2) else (none)))) = some (r1, r2) := by rw [if_neg (show ¬ (false = true) by decide)] at H; exact H
    clear H
    have H := H1
    clear H1
    replace H := Option.bind_eq_some_iff.mp H
    obtain ⟨⟨t147, t148⟩, A840, H⟩ := H
    replace H : (if t147 = 0 then (if x3_1.length < 2932031007402 then (spec_l5Rules.l0 kj11 (x3_1 ++ [(⟨(t106 == 0), (⟨0, 0⟩ : S26), (⟨t111, t112⟩ : S26), (wrap64 (t114 * t116))⟩ : S54)]) (wrap64 (x4_1 - 1)) s0_0 t148) else (none)) else (if x3_1.length < 2932031007402 then (spec_l5Rules.l0 kj11 (x3_1 ++ [(⟨(t106 == 0), (⟨t108, t109⟩ : S26), (⟨t111, t112⟩ : S26), (wrap64 (t114 * t116))⟩ : S54)]) (wrap64 (x4_1 - 1)) s0_0 t148) else (none))) = some (r1, r2) := H
    have A84 := zA A840
    clear A840
    by_cases c85 : t147 = 0
    ·rw [if_pos c85] at H
     have c85b0 : (t147 == 0) = true := beq_iff_eq.mpr c85
     have c85b1 : (t147 != 0) = false := bne_eq_false_iff_eq.mpr c85
     clear c85
     by_cases c86 : x3_1.length < 2932031007402
     ·rw [if_pos c86] at H
      have LMc86 := zA c86
      clear c86
      obtain ⟨y149, hy149⟩ : ∃ y_ : List (S54), y_ = (x3_1 ++ [(⟨(t106 == 0), (⟨0, 0⟩ : S26), (⟨t111, t112⟩ : S26), (wrap64 (t114 * t116))⟩ : S54)]) := ⟨_, rfl⟩
      replace H : (spec_l5Rules.l0 kj11 y149 (wrap64 (x4_1 - 1)) s0_0 t148) = some (r1, r2) := by first | (rw [hy149]; with_reducible exact H) | (have H2_ := (Option.bind_some _ _).symm.trans H; rw [hy149]; with_reducible exact H2_) | (have H2_ := (Option.bind_some _ _).symm.trans H; with_reducible exact H2_) | with_reducible exact H | (rw [hy149]; exact H) | exact H
      have Ny149 := zA hy149
      clear hy149
      have H' := zA H
      clear H
      go_wp2_with (first | ((with_reducible refine gate_callee (f := 81) rfl ?_); refine goesL_ (some 62) rfl rfl Try.func81 (by kernel_rfl) rfl #[.pointer (some ⟨g, 0, none⟩), .int .i64 5] rfl y1  ?_; (with_reducible refine (spec_l1Rd_pick.calls kj11 g s0_0 x1001_11 5 t147 t148 w0 _ ?side1 ?side2 A84.out).mono ?_); (case side1 => exact zHI0); (case side2 => exact zHB); rintro e w87 ⟨rfl, hi, hb, hk⟩; refine ⟨_, rfl, ?_⟩; have n0_ := zA (Kd.R_mono (Kd.R_keep (IsS117.apart (show IsS117 w0 _ g s0_0 x1001_11 from zHI0) (zr HO_3.out) (by decide)) hk (fun _ h => h.2)) (fun _ h => h.1)); have n1_ := zA (KeepBut.blk hk (g' := gb118) (o := .cells #[.bool (t106 == 0), .int .i64 t108, .int .i64 t109, .int .i64 t111, .int .i64 t112, .int .i64 (wrap64 (t114 * t116))] 54 (0, 0)) (zb BK118.out) NB118_0.out (by simp)); have n2_ := zA (KeepBut.trans (zHK) hk (.inl rfl)); have n3_ := zA (hb); have n4_ := zA (hi); clear HO_3; clear BK118; clear HK; clear HB; clear HI0; have HO_3 := n0_; have BK118 := n1_; have HK := n2_; have HB := n3_; have HI0 := n4_; clear n0_ n1_ n2_ n3_ n4_; (try clear hb); (try clear hb2); (try clear hk); (try clear hi); have hnb88 := NB118_0.out; have hnc88 := NB0_118.out; have hcz89_0 : w87.cell? ⟨gb118, 0, none⟩ = some (.bool (t106 == 0)) := (blk_cell BK118.out 0).trans rfl; have hcz89_1 : w87.cell? ⟨gb118, 1, none⟩ = some (.int .i64 t108) := (blk_cell BK118.out 1).trans rfl; have hcz89_2 : w87.cell? ⟨gb118, 2, none⟩ = some (.int .i64 t109) := (blk_cell BK118.out 2).trans rfl; have hcz89_3 : w87.cell? ⟨gb118, 3, none⟩ = some (.int .i64 t111) := (blk_cell BK118.out 3).trans rfl; have hcz89_4 : w87.cell? ⟨gb118, 4, none⟩ = some (.int .i64 t112) := (blk_cell BK118.out 4).trans rfl; have hcz89_5 : w87.cell? ⟨gb118, 5, none⟩ = some (.int .i64 (wrap64 (t114 * t116))) := (blk_cell BK118.out 5).trans rfl; have hfz89_0 := blk_frozen BK118.out 0; have hfz89_1 := blk_frozen BK118.out 1; have hfz89_2 := blk_frozen BK118.out 2; have hfz89_3 := blk_frozen BK118.out 3; have hfz89_4 := blk_frozen BK118.out 4; have hfz89_5 := blk_frozen BK118.out 5) | ((with_reducible refine gate_builtin (b := .append) (xs := #[.tmp 66, .tmp 68]) rfl ?_); at_builtin; refine Kd.R_append k54 w.heap.size rfl (.tmp 66) (.tmp 68) 30 54 (.agg #[(.bool false), (.int .i64 0), (.int .i64 0), (.int .i64 0), (.int .i64 0), (.int .i64 0)]) 48 rfl Try.underlying30 info54 rfl (by decide) (by omega) u3 x3_1 (⟨(t106 == 0), (⟨0, 0⟩ : S26), (⟨t111, t112⟩ : S26), (wrap64 (t114 * t116))⟩ : S54) [.bool (t106 == 0), .int .i64 0, .int .i64 0, .int .i64 t111, .int .i64 t112, .int .i64 (wrap64 (t114 * t116))] (fun k_ => k_ ≠ gb118) (fun _ => False) rfl (by first | (go_simp; done) | (go_simp; rfl)) ?aP (fun _ hk => hk.elim) ?aF ?aO (Below.refl _ _) ?aS ?aL ?_; (case aP => exact k54_mkM _ _ _ (⟨(t106 == 0), (⟨0, 0⟩ : S26), (⟨t111, t112⟩ : S26), (wrap64 (t114 * t116))⟩ : S54)); (case aF => exact (fun k_ hk => Kd.freshB (g := gb118) (o := .cells #[.bool (t106 == 0), .int .i64 0, .int .i64 0, .int .i64 t111, .int .i64 t112, .int .i64 (wrap64 (t114 * t116))] 54 (0, 0)) (by refine zq ?_; refine blk_put (cs := #[.bool (t106 == 0), .int .i64 0, .int .i64 t109, .int .i64 t111, .int .i64 t112, .int .i64 (wrap64 (t114 * t116))]) ?_ 2 _ rfl; refine zq ?_; refine blk_put (cs := #[.bool (t106 == 0), .int .i64 t108, .int .i64 t109, .int .i64 t111, .int .i64 t112, .int .i64 (wrap64 (t114 * t116))]) ?_ 1 _ rfl; refine zq ?_; exact BK118.out) k_ hk)); (case aO => exact (by refine zk ?_; exact Kd.R_mono (Kd.R_far (p := ⟨gb118, 2, none⟩) (Kd.R_far (p := ⟨gb118, 1, none⟩) (Kd.R_mono HO_3.out (fun k_ hk => (⟨hk, hk⟩ : _ ∧ k_ ≠ gb118))) (fun _ hk => hk.2) (.int .i64 0)) (fun _ hk => hk.2) (.int .i64 0)) (fun _ hk => hk.1))); (case aS => exact (keep_size (w := w) (g := g) (row := none) (zHK))); (case aL => have := LMc86.out; omega); intro v150 w90 ho hb hg hat; rw [← Ny149.out] at ho; have n0_ := zA (blk_grown (g := gb118) (o := .cells #[.bool (t106 == 0), .int .i64 0, .int .i64 0, .int .i64 t111, .int .i64 t112, .int .i64 (wrap64 (t114 * t116))] 54 (0, 0)) (by refine zq ?_; refine blk_put (cs := #[.bool (t106 == 0), .int .i64 0, .int .i64 t109, .int .i64 t111, .int .i64 t112, .int .i64 (wrap64 (t114 * t116))]) ?_ 2 _ rfl; refine zq ?_; refine blk_put (cs := #[.bool (t106 == 0), .int .i64 t108, .int .i64 t109, .int .i64 t111, .int .i64 t112, .int .i64 (wrap64 (t114 * t116))]) ?_ 1 _ rfl; refine zq ?_; exact BK118.out) hg (Kd.R_away HO_3.out (fun _ hk => hk))); have n1_ := zA (spec_l5Rules.grown117 HI0.out (zHI0) hg (IsS117.own_ne HI0.out HO_3.out (by decide))); have n2_ := zA (below_weaken (zHB) HL.out hb); have n3_ := zA (KeepBut.trans (zHK) (KeepBut.of_grown hg g) (Kd.R_base2 HO_3.out)); have n4_ := zA (ho); clear BK118; clear HI0; clear HB; clear HK; clear HO_3; have BK118 := n0_; have HI0 := n1_; have HB := n2_; have HK := n3_; have HO151 := n4_; clear n0_ n1_ n2_ n3_ n4_; clear ho hb hg hat))
      go_roundg kj11
      case measure => have := HK1.out; have := HJ11.out; omega
      case rel => exact ⟨(y149), (wrap64 (x4_1 - 1)), (t148), y3 , H', ⟨by have := HK1.out; have := HJ11.out; omega⟩, ⟨by refine zk ?_; exact Kd.R_mono HO151.out (fun _ hk => trivial)⟩, ⟨zHI0⟩, ⟨zHK⟩, ⟨zHB⟩⟩
     rw [if_neg c86] at H
     exact absurd H (by simp)
    rw [if_neg c85] at H
    have c85b0 : (t147 == 0) = false := beq_eq_false_iff_ne.mpr c85
    have c85b1 : (t147 != 0) = true := bne_iff_ne.mpr c85
    by_cases c91 : x3_1.length < 2932031007402
    ·rw [if_pos c91] at H
     have LMc91 := zA c91
     clear c91
     obtain ⟨y152, hy152⟩ : ∃ y_ : List (S54), y_ = (x3_1 ++ [(⟨(t106 == 0), (⟨t108, t109⟩ : S26), (⟨t111, t112⟩ : S26), (wrap64 (t114 * t116))⟩ : S54)]) := ⟨_, rfl⟩
     replace H : (spec_l5Rules.l0 kj11 y152 (wrap64 (x4_1 - 1)) s0_0 t148) = some (r1, r2) := by first | (rw [hy152]; with_reducible exact H) | (have H2_ := (Option.bind_some _ _).symm.trans H; rw [hy152]; with_reducible exact H2_) | (have H2_ := (Option.bind_some _ _).symm.trans H; with_reducible exact H2_) | with_reducible exact H | (rw [hy152]; exact H) | exact H
     have Ny152 := zA hy152
     clear hy152
     have H' := zA H
     clear H
     go_wp2_with (first | ((with_reducible refine gate_callee (f := 81) rfl ?_); refine goesL_ (some 62) rfl rfl Try.func81 (by kernel_rfl) rfl #[.pointer (some ⟨g, 0, none⟩), .int .i64 5] rfl y1  ?_; (with_reducible refine (spec_l1Rd_pick.calls kj11 g s0_0 x1001_11 5 t147 t148 w0 _ ?side1 ?side2 A84.out).mono ?_); (case side1 => exact zHI0); (case side2 => exact zHB); rintro e w92 ⟨rfl, hi, hb, hk⟩; refine ⟨_, rfl, ?_⟩; have n0_ := zA (Kd.R_mono (Kd.R_keep (IsS117.apart (show IsS117 w0 _ g s0_0 x1001_11 from zHI0) (zr HO_3.out) (by decide)) hk (fun _ h => h.2)) (fun _ h => h.1)); have n1_ := zA (KeepBut.blk hk (g' := gb118) (o := .cells #[.bool (t106 == 0), .int .i64 t108, .int .i64 t109, .int .i64 t111, .int .i64 t112, .int .i64 (wrap64 (t114 * t116))] 54 (0, 0)) (zb BK118.out) NB118_0.out (by simp)); have n2_ := zA (KeepBut.trans (zHK) hk (.inl rfl)); have n3_ := zA (hb); have n4_ := zA (hi); clear HO_3; clear BK118; clear HK; clear HB; clear HI0; have HO_3 := n0_; have BK118 := n1_; have HK := n2_; have HB := n3_; have HI0 := n4_; clear n0_ n1_ n2_ n3_ n4_; (try clear hb); (try clear hb2); (try clear hk); (try clear hi); have hnb93 := NB118_0.out; have hnc93 := NB0_118.out; have hcz94_0 : w92.cell? ⟨gb118, 0, none⟩ = some (.bool (t106 == 0)) := (blk_cell BK118.out 0).trans rfl; have hcz94_1 : w92.cell? ⟨gb118, 1, none⟩ = some (.int .i64 t108) := (blk_cell BK118.out 1).trans rfl; have hcz94_2 : w92.cell? ⟨gb118, 2, none⟩ = some (.int .i64 t109) := (blk_cell BK118.out 2).trans rfl; have hcz94_3 : w92.cell? ⟨gb118, 3, none⟩ = some (.int .i64 t111) := (blk_cell BK118.out 3).trans rfl; have hcz94_4 : w92.cell? ⟨gb118, 4, none⟩ = some (.int .i64 t112) := (blk_cell BK118.out 4).trans rfl; have hcz94_5 : w92.cell? ⟨gb118, 5, none⟩ = some (.int .i64 (wrap64 (t114 * t116))) := (blk_cell BK118.out 5).trans rfl; have hfz94_0 := blk_frozen BK118.out 0; have hfz94_1 := blk_frozen BK118.out 1; have hfz94_2 := blk_frozen BK118.out 2; have hfz94_3 := blk_frozen BK118.out 3; have hfz94_4 := blk_frozen BK118.out 4; have hfz94_5 := blk_frozen BK118.out 5) | ((with_reducible refine gate_builtin (b := .append) (xs := #[.tmp 66, .tmp 68]) rfl ?_); at_builtin; refine Kd.R_append k54 w.heap.size rfl (.tmp 66) (.tmp 68) 30 54 (.agg #[(.bool false), (.int .i64 0), (.int .i64 0), (.int .i64 0), (.int .i64 0), (.int .i64 0)]) 48 rfl Try.underlying30 info54 rfl (by decide) (by omega) u3 x3_1 (⟨(t106 == 0), (⟨t108, t109⟩ : S26), (⟨t111, t112⟩ : S26), (wrap64 (t114 * t116))⟩ : S54) [.bool (t106 == 0), .int .i64 t108, .int .i64 t109, .int .i64 t111, .int .i64 t112, .int .i64 (wrap64 (t114 * t116))] (fun k_ => k_ ≠ gb118) (fun _ => False) rfl rfl ?aP (fun _ hk => hk.elim) ?aF ?aO (Below.refl _ _) ?aS ?aL ?_; (case aP => exact k54_mkM _ _ _ (⟨(t106 == 0), (⟨t108, t109⟩ : S26), (⟨t111, t112⟩ : S26), (wrap64 (t114 * t116))⟩ : S54)); (case aF => exact (fun k_ hk => Kd.freshB (g := gb118) (o := .cells #[.bool (t106 == 0), .int .i64 t108, .int .i64 t109, .int .i64 t111, .int .i64 t112, .int .i64 (wrap64 (t114 * t116))] 54 (0, 0)) (zb BK118.out) k_ hk)); (case aO => exact (zr HO_3.out)); (case aS => exact (keep_size (w := w) (g := g) (row := none) (zHK))); (case aL => have := LMc91.out; omega); intro v153 w95 ho hb hg hat; rw [← Ny152.out] at ho; have n0_ := zA (blk_grown (g := gb118) (o := .cells #[.bool (t106 == 0), .int .i64 t108, .int .i64 t109, .int .i64 t111, .int .i64 t112, .int .i64 (wrap64 (t114 * t116))] 54 (0, 0)) (zb BK118.out) hg (Kd.R_away HO_3.out (fun _ hk => hk))); have n1_ := zA (spec_l5Rules.grown117 HI0.out (zHI0) hg (IsS117.own_ne HI0.out HO_3.out (by decide))); have n2_ := zA (below_weaken (zHB) HL.out hb); have n3_ := zA (KeepBut.trans (zHK) (KeepBut.of_grown hg g) (Kd.R_base2 HO_3.out)); have n4_ := zA (ho); clear BK118; clear HI0; clear HB; clear HK; clear HO_3; have BK118 := n0_; have HI0 := n1_; have HB := n2_; have HK := n3_; have HO154 := n4_; clear n0_ n1_ n2_ n3_ n4_; clear ho hb hg hat))
     go_roundg kj11
     case measure => have := HK1.out; have := HJ11.out; omega
     case rel => exact ⟨(y152), (wrap64 (x4_1 - 1)), (t148), y3 , H', ⟨by have := HK1.out; have := HJ11.out; omega⟩, ⟨by refine zk ?_; exact Kd.R_mono HO154.out (fun _ hk => trivial)⟩, ⟨zHI0⟩, ⟨zHK⟩, ⟨zHB⟩⟩
    rw [if_neg c91] at H
    exact absurd H (by simp)
  rw [if_neg c6] at H
  have c6b0 : decide (0 < x4_1) = false := decide_eq_false c6
  clear c6
  simp only [Option.some.injEq, Prod.mk.injEq] at H
  obtain ⟨rfl, rfl⟩ := H
  go_wp2
  go_ret
  exact ⟨_, by first | rfl | (simp [errW_none, errW_some] <;> rfl) | (simp [*, errW_none, errW_some] <;> rfl), by refine zk ?_; exact HO_3.out, zHI0, zHB, zHK⟩
end Go.Proofs.Ytnakanjhdcakhaa.Q
namespace Go.Proofs.Ytnakanjhdcakhaa.Q
open Go.RowKit Go.Proofs.YtnakanjhdcakhaaW.PrintWords Go.Proofs.YtnakanjhdcakhaaW.PrintLast Go.Proofs.YtnakanjhdcakhaaW.PrintMore
attribute [local go_sem] max2_int min2_int max_two min_two max_three min_three max_four min_four   -- for this text's walks alone
set_option linter.unusedVariables false
set_option linter.unusedSimpArgs false
def spec_l5Spoil.f (k : Nat) (s0_0 : List Int) (s0_1 : Int) (a1_0 : Int) (a1_1 : Int) : Option (Int × Int × Int) := (spec_l1Rd_pick.f k s0_0 s0_1 4).bind fun bt103 => (if bt103.1 = 0 then ((some (([(-1), 17, 16, 0] : List Int) : List Int)).bind fun y105 => ((spec_l1Rd_pick.f k s0_0 bt103.2 4).bind fun bt108 => (if 0 ≤ bt108.1 then (if bt108.1 < (y105.length : Int) then (some (a1_0, rd y105 bt108.1, bt108.2)) else (none)) else (none)))) else (if bt103.1 = 1 then (some (wrap64 (a1_0 + 1), a1_1, bt103.2)) else (if bt103.1 = 2 then ((some (([(-1), 65536, (-65536), 1099511627776] : List Int) : List Int)).bind fun y111 => ((spec_l1Rd_pick.f k s0_0 bt103.2 4).bind fun bt114 => (if 0 ≤ bt114.1 then (if bt114.1 < (y111.length : Int) then (some (rd y111 bt114.1, a1_1, bt114.2)) else (none)) else (none)))) else (some (a1_0, wrap64 (a1_1 - 1), bt103.2)))))
theorem spec_l5Spoil.zHI0 {P : Prop} (h : P := by repeat (first | (with_reducible first | exact HI0.out | apply IsS117.alloc | apply IsS117.drewN | apply IsS117.drew | apply IsS117.set_1 | refine IsS117.far ?_ NB0_101.out _ | refine IsS117.far ?_ NB0_102.out _) | exact HI0.out)) : P := h
theorem spec_l5Spoil.zHK {P : Prop} (h : P := by repeat (first | (with_reducible first | exact HK.out | apply KeepBut.set_ | apply keep_drewN | apply keep_drew | apply keep_alloc | refine keep_far ?_ GW101.out _ | refine keep_far ?_ GW102.out _) | exact HK.out)) : P := h
theorem spec_l5Spoil.zHB {P : Prop} (h : P := by repeat (first | (with_reducible first | exact HB.out | apply below_alloc | apply pw_below_drewN | apply below_drew1 | refine below_set ?_ (IsS117.ge HI0.out) | refine below_set ?_ GE101.out | refine below_set ?_ GE102.out) | exact HB.out)) : P := h
theorem spec_l5Spoil.zb {P Q : Prop} (x : Q) (h : Q → P := by intro x_; (with_reducible repeat (first | refine blk_drewN ?_ _ | refine blk_drew ?_ | refine blk_alloc ?_ _)); exact x_) : P := h x
theorem spec_l5Spoil.zq {P Q : Prop} (x : Q) (h : Q → P := by intro x_; (with_reducible repeat (first | refine blk_drewN ?_ _ | refine blk_drew ?_ | refine blk_alloc ?_ _)); exact x_) : P := h x
theorem spec_l5Spoil.y1 {P : Prop} (h : P := by (try simp only [List.map_toArray, List.map_cons, List.map_nil]); first | done | rfl | (simp only [List.length_drop, List.length_take]; rfl)) : P := h
theorem spec_l5Spoil.y2 {P : Prop} (h : P := by rw [hg]; exact Nat.ne_of_lt (blk_lt (g := gb101) (o := .cells #[.int .i64 a1_0, .int .i64 a1_1] 26 (0, 0)) (zb BK101.out))) : P := h
theorem spec_l5Spoil.y3 {P : Prop} (h : P := by rw [hg]; exact Nat.ne_of_gt (blk_lt (g := gb101) (o := .cells #[.int .i64 a1_0, .int .i64 a1_1] 26 (0, 0)) (zb BK101.out))) : P := h
theorem spec_l5Spoil.y4 {P : Prop} (h : P := by rw [hg]; exact Nat.ne_of_lt (IsS117.lt (show IsS117 w0 _ g s0_0 s0_1 from zHI0))) : P := h
theorem spec_l5Spoil.y5 {P : Prop} (h : P := by rw [hg]; exact Nat.ne_of_gt (IsS117.lt (show IsS117 w0 _ g s0_0 s0_1 from zHI0))) : P := h
theorem spec_l5Spoil.y6 {P : Prop} (h : P := by rw [hg]; exact Nat.ne_of_lt (IsS117.lt (show IsS117 w0 _ g s0_0 s0_1 from zHI0))) : P := h
theorem spec_l5Spoil.y7 {P : Prop} (h : P := by rw [hg]; exact Nat.ne_of_gt (IsS117.lt (show IsS117 w0 _ g s0_0 s0_1 from zHI0))) : P := h
theorem spec_l5Spoil.y8 {P : Prop} (h : P := by rw [hg]; exact (keep_size (w := w) (g := g) (row := none) (zHK))) : P := h
theorem spec_l5Spoil.y9 {P : Prop} (h : P := by rw [hg]; exact (keep_size (w := w) (g := g) (row := none) (zHK))) : P := h
theorem spec_l5Spoil.y10 {P : Prop} (h : P := by first | (with_reducible assumption) | assumption) : P := h
theorem spec_l5Spoil.zA {p : Prop} (h : p) : Aside0 p := ⟨h⟩
set_option maxHeartbeats 8000000 in
set_option maxRecDepth 100000 in
theorem spec_l5Spoil.calls (k : Nat) (g : Nat) (s0_0 : List Int) (s0_1 : Int) (a1_0 : Int) (a1_1 : Int) (r1 : Int) (r2 : Int) (r3 : Int) (w0 w : World) (hI : IsS117 w0 w g s0_0 s0_1) (hB : Below w0.heap.size w0 w) (h : spec_l5Spoil.f k s0_0 s0_1 a1_0 a1_1 = some (r1, r2, r3)) :
  Calls Try.prog 122 #[.pointer (some ⟨g, 0, none⟩), .agg #[.int .i64 a1_0, .int .i64 a1_1]] w fun e w' => e = .returned (.agg #[.int .i64 r1, .int .i64 r2]) ∧ IsS117 w0 w' g s0_0 r3 ∧ Below w0.heap.size w0 w' ∧ KeepBut w w' g none := by
 have hu26 := Try.underlying26
 have HI0 := zA hI
 have HK := zA (KeepBut.refl w g none)
 have HL := zA hB.size
 clear hI
 have HW0 := zA hB.size
 have HB := zA hB
 clear hB
 have H : ((spec_l1Rd_pick.f k s0_0 s0_1 4).bind fun bt103 => (if bt103.1 = 0 then ((some (([(-1), 17, 16, 0] : List Int) : List Int)).bind fun y105 => ((spec_l1Rd_pick.f k s0_0 bt103.2 4).bind fun bt108 => (if 0 ≤ bt108.1 then (if bt108.1 < (y105.length : Int) then (some (a1_0, rd y105 bt108.1, bt108.2)) else (none)) else (none)))) else (if bt103.1 = 1 then (some (wrap64 (a1_0 + 1), a1_1, bt103.2)) else (if bt103.1 = 2 then ((some (([(-1), 65536, (-65536), 1099511627776] : List Int) : List Int)).bind fun y111 => ((spec_l1Rd_pick.f k s0_0 bt103.2 4).bind fun bt114 => (if 0 ≤ bt114.1 then (if bt114.1 < (y111.length : Int) then (some (rd y111 bt114.1, a1_1, bt114.2)) else (none)) else (none)))) else (some (a1_0, wrap64 (a1_1 - 1), bt103.2)))))) = some (r1, r2, r3) := h
 clear h
 replace H := Option.bind_eq_some_iff.mp H
 obtain ⟨⟨t103, t104⟩, A30, H⟩ := H
 replace H : (if t103 = 0 then ((some (([(-1), 17, 16, 0] : List Int) : List Int)).bind fun y105 => ((spec_l1Rd_pick.f k s0_0 t104 4).bind fun bt108 => (if 0 ≤ bt108.1 then (if bt108.1 < (y105.length : Int) then (some (a1_0, rd y105 bt108.1, bt108.2)) else (none)) else (none)))) else (if t103 = 1 then (some (wrap64 (a1_0 + 1), a1_1, t104)) else (if t103 = 2 then ((some (([(-1), 65536, (-65536), 1099511627776] : List Int) : List Int)).bind fun y111 => ((spec_l1Rd_pick.f k s0_0 t104 4).bind fun bt114 => (if 0 ≤ bt114.1 then (if bt114.1 < (y111.length : Int) then (some (rd y111 bt114.1, a1_1, bt114.2)) else (none)) else (none)))) else (some (a1_0, wrap64 (a1_1 - 1), t104))))) = some (r1, r2, r3) := H
 have A3 := zA A30
 clear A30
 by_cases c4 : t103 = 0
 ·rw [if_pos c4] at H
  have c4b0 : (t103 == 0) = true := beq_iff_eq.mpr c4
  have c4b1 : (t103 != 0) = false := bne_eq_false_iff_eq.mpr c4
  clear c4
  obtain ⟨y105, hy105⟩ : ∃ y_ : List Int, y_ = (([(-1), 17, 16, 0] : List Int)) := ⟨_, rfl⟩
  replace H : ((spec_l1Rd_pick.f k s0_0 t104 4).bind fun bt108 => (if 0 ≤ bt108.1 then (if bt108.1 < (y105.length : Int) then (some (a1_0, rd y105 bt108.1, bt108.2)) else (none)) else (none))) = some (r1, r2, r3) := by first | (rw [hy105]; with_reducible exact H) | (have H2_ := (Option.bind_some _ _).symm.trans H; rw [hy105]; with_reducible exact H2_) | (have H2_ := (Option.bind_some _ _).symm.trans H; with_reducible exact H2_) | with_reducible exact H | (rw [hy105]; exact H) | exact H
  have Ny105 := zA hy105
  clear hy105
  replace H := Option.bind_eq_some_iff.mp H
  obtain ⟨⟨t108, t109⟩, A50, H⟩ := H
  replace H : (if 0 ≤ t108 then (if t108 < (y105.length : Int) then (some (a1_0, rd y105 t108, t109)) else (none)) else (none)) = some (r1, r2, r3) := H
  have A5 := zA A50
  clear A50
  by_cases c6 : 0 ≤ t108
  ·rw [if_pos c6] at H
   have c6b0 : decide (0 ≤ t108) = true := decide_eq_true c6
   clear c6
   by_cases c7 : t108 < (y105.length : Int)
   ·rw [if_pos c7] at H
    have c7b0 : decide (t108 < (y105.length : Int)) = true := decide_eq_true c7
    clear c7
    simp only [Option.some.injEq, Prod.mk.injEq] at H
    obtain ⟨rfl, rfl, rfl⟩ := H
    go_enter Try.func122, Try.ntmps122
    go_wp2_with (first | ((with_reducible refine gate_dst (N := 3) rfl ?_); refine box_event ?hg (N := 3) ?hd (cs := #[.int .i64 a1_0, .int .i64 a1_1]) (t := 26) ?hr ?_; (case hd => rfl); (case hg => rfl); (case hr => first | (go_simp; done) | (go_simp; rfl)); intro gb101 hg w8 hbox hb; have n0_ := zA (IsS117.below (zHI0) hb); have n1_ := zA (KeepBut.trans (zHK) (KeepBut.of_below hb g none) (.inl rfl)); have n2_ := zA (below_step (zHB) hb); have n3_ := zA (hbox); have n4_ := zA ((show w.heap.size ≤ gb101 from y8)); have n5_ := zA ((Nat.le_trans HW0.out (show w.heap.size ≤ gb101 from y8) : w0.heap.size ≤ gb101)); have n6_ := zA ((show g ≠ gb101 from y4)); have n7_ := zA ((show gb101 ≠ g from y5)); clear HI0; clear HK; clear HB; have HI0 := n0_; have HK := n1_; have HB := n2_; have BK101 := n3_; have GW101 := n4_; have GE101 := n5_; have NB0_101 := n6_; have NB101_0 := n7_; clear n0_ n1_ n2_ n3_ n4_ n5_ n6_ n7_; clear hb hbox hg) | ((with_reducible refine gate_dst (N := 4) rfl ?_); refine box_event ?hg (N := 4) ?hd (cs := #[.int .i64 0, .int .i64 0]) (t := 26) ?hr ?_; (case hd => rfl); (case hg => rfl); (case hr => first | (go_simp; done) | (go_simp; rfl)); intro gb102 hg w9 hbox hb; have n0_ := zA (IsS117.below (zHI0) hb); have n1_ := zA (blk_below (g := gb101) (o := .cells #[.int .i64 a1_0, .int .i64 a1_1] 26 (0, 0)) (zb BK101.out) hb); have n2_ := zA (KeepBut.trans (zHK) (KeepBut.of_below hb g none) (.inl rfl)); have n3_ := zA (below_step (zHB) hb); have n4_ := zA (hbox); have n5_ := zA ((show w.heap.size ≤ gb102 from y9)); have n6_ := zA ((Nat.le_trans HW0.out (show w.heap.size ≤ gb102 from y9) : w0.heap.size ≤ gb102)); have n7_ := zA ((show gb101 ≠ gb102 from y2)); have n8_ := zA ((show gb102 ≠ gb101 from y3)); have n9_ := zA ((show g ≠ gb102 from y6)); have n10_ := zA ((show gb102 ≠ g from y7)); clear HI0; clear BK101; clear HK; clear HB; have HI0 := n0_; have BK101 := n1_; have HK := n2_; have HB := n3_; have BK102 := n4_; have GW102 := n5_; have GE102 := n6_; have NB101_102 := n7_; have NB102_101 := n8_; have NB0_102 := n9_; have NB102_0 := n10_; clear n0_ n1_ n2_ n3_ n4_ n5_ n6_ n7_ n8_ n9_ n10_; clear hb hbox hg) | ((with_reducible refine gate_callee (f := 81) rfl ?_); refine goesL_ (some 6) rfl rfl Try.func81 (by kernel_rfl) rfl #[.pointer (some ⟨g, 0, none⟩), .int .i64 4] rfl y1  ?_; (with_reducible refine (spec_l1Rd_pick.calls k g s0_0 s0_1 4 t103 t104 w0 _ ?side1 ?side2 A3.out).mono ?_); (case side1 => exact zHI0); (case side2 => exact zHB); rintro e w10 ⟨rfl, hi, hb, hk⟩; refine ⟨_, rfl, ?_⟩; have n0_ := zA (KeepBut.blk hk (g' := gb101) (o := .cells #[.int .i64 a1_0, .int .i64 a1_1] 26 (0, 0)) (zb BK101.out) NB101_0.out (by simp)); have n1_ := zA (KeepBut.blk hk (g' := gb102) (o := .cells #[.int .i64 0, .int .i64 0] 26 (0, 0)) (zb BK102.out) NB102_0.out (by simp)); have n2_ := zA (KeepBut.trans (zHK) hk (.inl rfl)); have n3_ := zA (hb); have n4_ := zA (hi); clear BK101; clear BK102; clear HK; clear HB; clear HI0; have BK101 := n0_; have BK102 := n1_; have HK := n2_; have HB := n3_; have HI0 := n4_; clear n0_ n1_ n2_ n3_ n4_; (try clear hb); (try clear hb2); (try clear hk); (try clear hi)) | ((with_reducible refine gate_dst (N := 13) rfl ?_); refine Kd.R_lit (Kd.int .i64) _ 3 ?hg (N := 13) ?hd (xs := ([(-1), 17, 16, 0] : List Int)) (inner := [.int .i64 (-1), .int .i64 17, .int .i64 16, .int .i64 0]) (ok := fun _ => True) (okp := fun _ => True) ?hr ?hp (fun _ hk => hk) trivial (Below.refl _ _) (Nat.le_refl _) (by simp) ?_; (case hd => rfl); (case hg => rfl); (case hr => first | (go_simp; done) | (go_simp; rfl)); (case hp => exact (Reps.one (show Kd.M (Kd.int .i64) _ _ _ (-1) [.int .i64 (-1)] from rfl) (Reps.one (show Kd.M (Kd.int .i64) _ _ _ 17 [.int .i64 17] from rfl) (Reps.one (show Kd.M (Kd.int .i64) _ _ _ 16 [.int .i64 16] from rfl) (Reps.one (show Kd.M (Kd.int .i64) _ _ _ 0 [.int .i64 0] from rfl) (Reps.none _ _)))))); intro v106 w11 ho12 hb hg_ hnew_; clear hg_ hnew_; (first | rw [← Ny105.out] at ho12 | (simp only [Int.reduceToNat] at ho12; rw [← Ny105.out] at ho12)); have n0_ := zA (Kd.R_lower ho12 (keep_size (w := w) (g := g) (row := none) (zHK))); have n1_ := zA (IsS117.below (zHI0) hb); have n2_ := zA (blk_below (g := gb101) (o := .cells #[.int .i64 a1_0, .int .i64 a1_1] 26 (0, 0)) (zb BK101.out) hb); have n3_ := zA (blk_below (g := gb102) (o := .cells #[.int .i64 0, .int .i64 0] 26 (0, 0)) (zb BK102.out) hb); have n4_ := zA (KeepBut.trans (zHK) (KeepBut.of_below hb g none) (.inl rfl)); have n5_ := zA (below_step (zHB) hb); clear HI0; clear BK101; clear BK102; clear HK; clear HB; have HO107 := n0_; have HI0 := n1_; have BK101 := n2_; have BK102 := n3_; have HK := n4_; have HB := n5_; clear n0_ n1_ n2_ n3_ n4_ n5_; clear hb ho12) | ((with_reducible refine gate_callee (f := 81) rfl ?_); refine goesL_ (some 15) rfl rfl Try.func81 (by kernel_rfl) rfl #[.pointer (some ⟨g, 0, none⟩), .int .i64 4] rfl y1  ?_; (with_reducible refine (spec_l1Rd_pick.calls k g s0_0 t104 4 t108 t109 w0 _ ?side1 ?side2 A5.out).mono ?_); (case side1 => exact zHI0); (case side2 => exact zHB); rintro e w13 ⟨rfl, hi, hb, hk⟩; refine ⟨_, rfl, ?_⟩; have n0_ := zA (KeepBut.blk hk (g' := gb101) (o := .cells #[.int .i64 a1_0, .int .i64 a1_1] 26 (0, 0)) (zb BK101.out) NB101_0.out (by simp)); have n1_ := zA (KeepBut.blk hk (g' := gb102) (o := .cells #[.int .i64 0, .int .i64 0] 26 (0, 0)) (zb BK102.out) NB102_0.out (by simp)); have n2_ := zA (Kd.R_mono (Kd.R_keep (IsS117.apart (show IsS117 w0 _ g s0_0 t104 from zHI0) (by (with_reducible repeat (first | apply Kd.R_alloc | apply Kd.R_drewN | apply Kd.R_drew)); exact HO107.out) (by decide)) hk (fun _ h => h.2)) (fun _ h => h.1)); have n3_ := zA (KeepBut.trans (zHK) hk (.inl rfl)); have n4_ := zA (hb); have n5_ := zA (hi); clear BK101; clear BK102; clear HO107; clear HK; clear HB; clear HI0; have BK101 := n0_; have BK102 := n1_; have HO107 := n2_; have HK := n3_; have HB := n4_; have HI0 := n5_; clear n0_ n1_ n2_ n3_ n4_ n5_; (try clear hb); (try clear hb2); (try clear hk); (try clear hi); obtain ⟨Ao14, co14, eo14⟩ := Kd.R_slice HO107.out; subst eo14; have p110 : 0 ≤ (t108 : Int) := of_decide_eq_true y10 ; have q110 : t108 < (y105.length : Int) := of_decide_eq_true y10 ; obtain ⟨ad110, e110, hx110_0⟩ := Kd.at_int (Kd.R_reads' HO107.out).2.2 t108 p110 q110; cases e110; replace p110 := eq_true p110; replace q110 := eq_true q110; have hnb15 := NB101_102.out; have hnc15 := NB102_101.out; have hnb16 := NB101_0.out; have hnc16 := NB0_101.out; have hcz17_0 : w13.cell? ⟨gb101, 0, none⟩ = some (.int .i64 a1_0) := (blk_cell BK101.out 0).trans rfl; have hcz17_1 : w13.cell? ⟨gb101, 1, none⟩ = some (.int .i64 a1_1) := (blk_cell BK101.out 1).trans rfl; have hfz17_0 := blk_frozen BK101.out 0; have hfz17_1 := blk_frozen BK101.out 1; have hnb18 := NB102_0.out; have hnc18 := NB0_102.out; have hcz19_0 : w13.cell? ⟨gb102, 0, none⟩ = some (.int .i64 0) := (blk_cell BK102.out 0).trans rfl; have hcz19_1 : w13.cell? ⟨gb102, 1, none⟩ = some (.int .i64 0) := (blk_cell BK102.out 1).trans rfl; have hfz19_0 := blk_frozen BK102.out 0; have hfz19_1 := blk_frozen BK102.out 1))
    refine bodyPost_ret (results_cell_row rfl _ _ gb102 26 #[.int .i64 a1_0, .int .i64 (rd y105 t108)] (0, 0) _ rfl (by refine zq ?_; refine blk_put (cs := #[.int .i64 a1_0, .int .i64 0]) ?_ 1 _ rfl; refine zq ?_; refine blk_put (cs := #[.int .i64 0, .int .i64 0]) ?_ 0 _ rfl; refine zq ?_; refine blk_far ?_ NB102_101.out _; refine zq ?_; exact BK102.out) Try.underlying26 rfl (by kernel_rfl)) rfl ?_
    exact ⟨by first | rfl | (simp [errW_none, errW_some] <;> rfl) | (simp [*, errW_none, errW_some] <;> rfl), zHI0, zHB, zHK⟩
   rw [if_neg c7] at H
   exact absurd H (by simp)
  rw [if_neg c6] at H
  exact absurd H (by simp)
 rw [if_neg c4] at H
 have c4b0 : (t103 == 0) = false := beq_eq_false_iff_ne.mpr c4
 have c4b1 : (t103 != 0) = true := bne_iff_ne.mpr c4
 by_cases c20 : t103 = 1
 ·rw [if_pos c20] at H
  have c20b0 : (t103 == 1) = true := beq_iff_eq.mpr c20
  have c20b1 : (t103 != 1) = false := bne_eq_false_iff_eq.mpr c20
  clear c20
  simp only [Option.some.injEq, Prod.mk.injEq] at H
  obtain ⟨rfl, rfl, rfl⟩ := H
  go_enter Try.func122, Try.ntmps122
  go_wp2_with (first | ((with_reducible refine gate_dst (N := 3) rfl ?_); refine box_event ?hg (N := 3) ?hd (cs := #[.int .i64 a1_0, .int .i64 a1_1]) (t := 26) ?hr ?_; (case hd => rfl); (case hg => rfl); (case hr => first | (go_simp; done) | (go_simp; rfl)); intro gb101 hg w21 hbox hb; have n0_ := zA (IsS117.below (zHI0) hb); have n1_ := zA (KeepBut.trans (zHK) (KeepBut.of_below hb g none) (.inl rfl)); have n2_ := zA (below_step (zHB) hb); have n3_ := zA (hbox); have n4_ := zA ((show w.heap.size ≤ gb101 from y8)); have n5_ := zA ((Nat.le_trans HW0.out (show w.heap.size ≤ gb101 from y8) : w0.heap.size ≤ gb101)); have n6_ := zA ((show g ≠ gb101 from y4)); have n7_ := zA ((show gb101 ≠ g from y5)); clear HI0; clear HK; clear HB; have HI0 := n0_; have HK := n1_; have HB := n2_; have BK101 := n3_; have GW101 := n4_; have GE101 := n5_; have NB0_101 := n6_; have NB101_0 := n7_; clear n0_ n1_ n2_ n3_ n4_ n5_ n6_ n7_; clear hb hbox hg) | ((with_reducible refine gate_dst (N := 4) rfl ?_); refine box_event ?hg (N := 4) ?hd (cs := #[.int .i64 0, .int .i64 0]) (t := 26) ?hr ?_; (case hd => rfl); (case hg => rfl); (case hr => first | (go_simp; done) | (go_simp; rfl)); intro gb102 hg w22 hbox hb; have n0_ := zA (IsS117.below (zHI0) hb); have n1_ := zA (blk_below (g := gb101) (o := .cells #[.int .i64 a1_0, .int .i64 a1_1] 26 (0, 0)) (zb BK101.out) hb); have n2_ := zA (KeepBut.trans (zHK) (KeepBut.of_below hb g none) (.inl rfl)); have n3_ := zA (below_step (zHB) hb); have n4_ := zA (hbox); have n5_ := zA ((show w.heap.size ≤ gb102 from y9)); have n6_ := zA ((Nat.le_trans HW0.out (show w.heap.size ≤ gb102 from y9) : w0.heap.size ≤ gb102)); have n7_ := zA ((show gb101 ≠ gb102 from y2)); have n8_ := zA ((show gb102 ≠ gb101 from y3)); have n9_ := zA ((show g ≠ gb102 from y6)); have n10_ := zA ((show gb102 ≠ g from y7)); clear HI0; clear BK101; clear HK; clear HB; have HI0 := n0_; have BK101 := n1_; have HK := n2_; have HB := n3_; have BK102 := n4_; have GW102 := n5_; have GE102 := n6_; have NB101_102 := n7_; have NB102_101 := n8_; have NB0_102 := n9_; have NB102_0 := n10_; clear n0_ n1_ n2_ n3_ n4_ n5_ n6_ n7_ n8_ n9_ n10_; clear hb hbox hg) | ((with_reducible refine gate_callee (f := 81) rfl ?_); refine goesL_ (some 6) rfl rfl Try.func81 (by kernel_rfl) rfl #[.pointer (some ⟨g, 0, none⟩), .int .i64 4] rfl y1  ?_; (with_reducible refine (spec_l1Rd_pick.calls k g s0_0 s0_1 4 t103 t104 w0 _ ?side1 ?side2 A3.out).mono ?_); (case side1 => exact zHI0); (case side2 => exact zHB); rintro e w23 ⟨rfl, hi, hb, hk⟩; refine ⟨_, rfl, ?_⟩; have n0_ := zA (KeepBut.blk hk (g' := gb101) (o := .cells #[.int .i64 a1_0, .int .i64 a1_1] 26 (0, 0)) (zb BK101.out) NB101_0.out (by simp)); have n1_ := zA (KeepBut.blk hk (g' := gb102) (o := .cells #[.int .i64 0, .int .i64 0] 26 (0, 0)) (zb BK102.out) NB102_0.out (by simp)); have n2_ := zA (KeepBut.trans (zHK) hk (.inl rfl)); have n3_ := zA (hb); have n4_ := zA (hi); clear BK101; clear BK102; clear HK; clear HB; clear HI0; have BK101 := n0_; have BK102 := n1_; have HK := n2_; have HB := n3_; have HI0 := n4_; clear n0_ n1_ n2_ n3_ n4_; (try clear hb); (try clear hb2); (try clear hk); (try clear hi); have hnb24 := NB101_102.out; have hnc24 := NB102_101.out; have hnb25 := NB101_0.out; have hnc25 := NB0_101.out; have hcz26_0 : w23.cell? ⟨gb101, 0, none⟩ = some (.int .i64 a1_0) := (blk_cell BK101.out 0).trans rfl; have hcz26_1 : w23.cell? ⟨gb101, 1, none⟩ = some (.int .i64 a1_1) := (blk_cell BK101.out 1).trans rfl; have hfz26_0 := blk_frozen BK101.out 0; have hfz26_1 := blk_frozen BK101.out 1; have hnb27 := NB102_0.out; have hnc27 := NB0_102.out; have hcz28_0 : w23.cell? ⟨gb102, 0, none⟩ = some (.int .i64 0) := (blk_cell BK102.out 0).trans rfl; have hcz28_1 : w23.cell? ⟨gb102, 1, none⟩ = some (.int .i64 0) := (blk_cell BK102.out 1).trans rfl; have hfz28_0 := blk_frozen BK102.out 0; have hfz28_1 := blk_frozen BK102.out 1))
  refine bodyPost_ret (results_cell_row rfl _ _ gb102 26 #[.int .i64 (wrap64 (a1_0 + 1)), .int .i64 a1_1] (0, 0) _ rfl (by refine zq ?_; refine blk_put (cs := #[.int .i64 (wrap64 (a1_0 + 1)), .int .i64 0]) ?_ 1 _ rfl; refine zq ?_; refine blk_put (cs := #[.int .i64 0, .int .i64 0]) ?_ 0 _ rfl; refine zq ?_; refine blk_far ?_ NB102_101.out _; refine zq ?_; exact BK102.out) Try.underlying26 rfl (by kernel_rfl)) rfl ?_
  exact ⟨by first | rfl | (simp [errW_none, errW_some] <;> rfl) | (simp [*, errW_none, errW_some] <;> rfl), zHI0, zHB, zHK⟩
 rw [if_neg c20] at H
 have c20b0 : (t103 == 1) = false := beq_eq_false_iff_ne.mpr c20
 have c20b1 : (t103 != 1) = true := bne_iff_ne.mpr c20
 by_cases c29 : t103 = 2
 ·rw [if_pos c29] at H
  have c29b0 : (t103 == 2) = true := beq_iff_eq.mpr c29
  have c29b1 : (t103 != 2) = false := bne_eq_false_iff_eq.mpr c29
  clear c29
  obtain ⟨y111, hy111⟩ : ∃ y_ : List Int, y_ = (([(-1), 65536, (-65536), 1099511627776] : List Int)) := ⟨_, rfl⟩
  replace H : ((spec_l1Rd_pick.f k s0_0 t104 4).bind fun bt114 => (if 0 ≤ bt114.1 then (if bt114.1 < (y111.length : Int) then (some (rd y111 bt114.1, a1_1, bt114.2)) else (none)) else (none))) = some (r1, r2, r3) := by first | (rw [hy111]; with_reducible exact H) | (have H2_ := (Option.bind_some _ _).symm.trans H; rw [hy111]; with_reducible exact H2_) | (have H2_ := (Option.bind_some _ _).symm.trans H; with_reducible exact H2_) | with_reducible exact H | (rw [hy111]; exact H) | exact H
  have Ny111 := zA hy111
  clear hy111
  replace H := Option.bind_eq_some_iff.mp H
  obtain ⟨⟨t114, t115⟩, A300, H⟩ := H
  replace H : (if 0 ≤ t114 then (if t114 < (y111.length : Int) then (some (rd y111 t114, a1_1, t115)) else (none)) else (none)) = some (r1, r2, r3) := H
  have A30 := zA A300
  clear A300
  by_cases c31 : 0 ≤ t114
  ·rw [if_pos c31] at H
   have c31b0 : decide (0 ≤ t114) = true := decide_eq_true c31
   clear c31
   by_cases c32 : t114 < (y111.length : Int)
   ·rw [if_pos c32] at H
    have c32b0 : decide (t114 < (y111.length : Int)) = true := decide_eq_true c32
    clear c32
    simp only [Option.some.injEq, Prod.mk.injEq] at H
    obtain ⟨rfl, rfl, rfl⟩ := H
    go_enter Try.func122, Try.ntmps122
    go_wp2_with (first | ((with_reducible refine gate_dst (N := 3) rfl ?_); refine box_event ?hg (N := 3) ?hd (cs := #[.int .i64 a1_0, .int .i64 a1_1]) (t := 26) ?hr ?_; (case hd => rfl); (case hg => rfl); (case hr => first | (go_simp; done) | (go_simp; rfl)); intro gb101 hg w33 hbox hb; have n0_ := zA (IsS117.below (zHI0) hb); have n1_ := zA (KeepBut.trans (zHK) (KeepBut.of_below hb g none) (.inl rfl)); have n2_ := zA (below_step (zHB) hb); have n3_ := zA (hbox); have n4_ := zA ((show w.heap.size ≤ gb101 from y8)); have n5_ := zA ((Nat.le_trans HW0.out (show w.heap.size ≤ gb101 from y8) : w0.heap.size ≤ gb101)); have n6_ := zA ((show g ≠ gb101 from y4)); have n7_ := zA ((show gb101 ≠ g from y5)); clear HI0; clear HK; clear HB; have HI0 := n0_; have HK := n1_; have HB := n2_; have BK101 := n3_; have GW101 := n4_; have GE101 := n5_; have NB0_101 := n6_; have NB101_0 := n7_; clear n0_ n1_ n2_ n3_ n4_ n5_ n6_ n7_; clear hb hbox hg) | ((with_reducible refine gate_dst (N := 4) rfl ?_); refine box_event ?hg (N := 4) ?hd (cs := #[.int .i64 0, .int .i64 0]) (t := 26) ?hr ?_; (case hd => rfl); (case hg => rfl); (case hr => first | (go_simp; done) | (go_simp; rfl)); intro gb102 hg w34 hbox hb; have n0_ := zA (IsS117.below (zHI0) hb); have n1_ := zA (blk_below (g := gb101) (o := .cells #[.int .i64 a1_0, .int .i64 a1_1] 26 (0, 0)) (zb BK101.out) hb); have n2_ := zA (KeepBut.trans (zHK) (KeepBut.of_below hb g none) (.inl rfl)); have n3_ := zA (below_step (zHB) hb); have n4_ := zA (hbox); have n5_ := zA ((show w.heap.size ≤ gb102 from y9)); have n6_ := zA ((Nat.le_trans HW0.out (show w.heap.size ≤ gb102 from y9) : w0.heap.size ≤ gb102)); have n7_ := zA ((show gb101 ≠ gb102 from y2)); have n8_ := zA ((show gb102 ≠ gb101 from y3)); have n9_ := zA ((show g ≠ gb102 from y6)); have n10_ := zA ((show gb102 ≠ g from y7)); clear HI0; clear BK101; clear HK; clear HB; have HI0 := n0_; have BK101 := n1_; have HK := n2_; have HB := n3_; have BK102 := n4_; have GW102 := n5_; have GE102 := n6_; have NB101_102 := n7_; have NB102_101 := n8_; have NB0_102 := n9_; have NB102_0 := n10_; clear n0_ n1_ n2_ n3_ n4_ n5_ n6_ n7_ n8_ n9_ n10_; clear hb hbox hg) | ((with_reducible refine gate_callee (f := 81) rfl ?_); refine goesL_ (some 6) rfl rfl Try.func81 (by kernel_rfl) rfl #[.pointer (some ⟨g, 0, none⟩), .int .i64 4] rfl y1  ?_; (with_reducible refine (spec_l1Rd_pick.calls k g s0_0 s0_1 4 t103 t104 w0 _ ?side1 ?side2 A3.out).mono ?_); (case side1 => exact zHI0); (case side2 => exact zHB); rintro e w35 ⟨rfl, hi, hb, hk⟩; refine ⟨_, rfl, ?_⟩; have n0_ := zA (KeepBut.blk hk (g' := gb101) (o := .cells #[.int .i64 a1_0, .int .i64 a1_1] 26 (0, 0)) (zb BK101.out) NB101_0.out (by simp)); have n1_ := zA (KeepBut.blk hk (g' := gb102) (o := .cells #[.int .i64 0, .int .i64 0] 26 (0, 0)) (zb BK102.out) NB102_0.out (by simp)); have n2_ := zA (KeepBut.trans (zHK) hk (.inl rfl)); have n3_ := zA (hb); have n4_ := zA (hi); clear BK101; clear BK102; clear HK; clear HB; clear HI0; have BK101 := n0_; have BK102 := n1_; have HK := n2_; have HB := n3_; have HI0 := n4_; clear n0_ n1_ n2_ n3_ n4_; (try clear hb); (try clear hb2); (try clear hk); (try clear hi)) | ((with_reducible refine gate_dst (N := 27) rfl ?_); refine Kd.R_lit (Kd.int .i64) _ 3 ?hg (N := 27) ?hd (xs := ([(-1), 65536, (-65536), 1099511627776] : List Int)) (inner := [.int .i64 (-1), .int .i64 65536, .int .i64 (-65536), .int .i64 1099511627776]) (ok := fun _ => True) (okp := fun _ => True) ?hr ?hp (fun _ hk => hk) trivial (Below.refl _ _) (Nat.le_refl _) (by simp) ?_; (case hd => rfl); (case hg => rfl); (case hr => first | (go_simp; done) | (go_simp; rfl)); (case hp => exact (Reps.one (show Kd.M (Kd.int .i64) _ _ _ (-1) [.int .i64 (-1)] from rfl) (Reps.one (show Kd.M (Kd.int .i64) _ _ _ 65536 [.int .i64 65536] from rfl) (Reps.one (show Kd.M (Kd.int .i64) _ _ _ (-65536) [.int .i64 (-65536)] from rfl) (Reps.one (show Kd.M (Kd.int .i64) _ _ _ 1099511627776 [.int .i64 1099511627776] from rfl) (Reps.none _ _)))))); intro v112 w36 ho37 hb hg_ hnew_; clear hg_ hnew_; (first | rw [← Ny111.out] at ho37 | (simp only [Int.reduceToNat] at ho37; rw [← Ny111.out] at ho37)); have n0_ := zA (Kd.R_lower ho37 (keep_size (w := w) (g := g) (row := none) (zHK))); have n1_ := zA (IsS117.below (zHI0) hb); have n2_ := zA (blk_below (g := gb101) (o := .cells #[.int .i64 a1_0, .int .i64 a1_1] 26 (0, 0)) (zb BK101.out) hb); have n3_ := zA (blk_below (g := gb102) (o := .cells #[.int .i64 0, .int .i64 0] 26 (0, 0)) (zb BK102.out) hb); have n4_ := zA (KeepBut.trans (zHK) (KeepBut.of_below hb g none) (.inl rfl)); have n5_ := zA (below_step (zHB) hb); clear HI0; clear BK101; clear BK102; clear HK; clear HB; have HO113 := n0_; have HI0 := n1_; have BK101 := n2_; have BK102 := n3_; have HK := n4_; have HB := n5_; clear n0_ n1_ n2_ n3_ n4_ n5_; clear hb ho37) | ((with_reducible refine gate_callee (f := 81) rfl ?_); refine goesL_ (some 29) rfl rfl Try.func81 (by kernel_rfl) rfl #[.pointer (some ⟨g, 0, none⟩), .int .i64 4] rfl y1  ?_; (with_reducible refine (spec_l1Rd_pick.calls k g s0_0 t104 4 t114 t115 w0 _ ?side1 ?side2 A30.out).mono ?_); (case side1 => exact zHI0); (case side2 => exact zHB); rintro e w38 ⟨rfl, hi, hb, hk⟩; refine ⟨_, rfl, ?_⟩; have n0_ := zA (KeepBut.blk hk (g' := gb101) (o := .cells #[.int .i64 a1_0, .int .i64 a1_1] 26 (0, 0)) (zb BK101.out) NB101_0.out (by simp)); have n1_ := zA (KeepBut.blk hk (g' := gb102) (o := .cells #[.int .i64 0, .int .i64 0] 26 (0, 0)) (zb BK102.out) NB102_0.out (by simp)); have n2_ := zA (Kd.R_mono (Kd.R_keep (IsS117.apart (show IsS117 w0 _ g s0_0 t104 from zHI0) (by (with_reducible repeat (first | apply Kd.R_alloc | apply Kd.R_drewN | apply Kd.R_drew)); exact HO113.out) (by decide)) hk (fun _ h => h.2)) (fun _ h => h.1)); have n3_ := zA (KeepBut.trans (zHK) hk (.inl rfl)); have n4_ := zA (hb); have n5_ := zA (hi); clear BK101; clear BK102; clear HO113; clear HK; clear HB; clear HI0; have BK101 := n0_; have BK102 := n1_; have HO113 := n2_; have HK := n3_; have HB := n4_; have HI0 := n5_; clear n0_ n1_ n2_ n3_ n4_ n5_; (try clear hb); (try clear hb2); (try clear hk); (try clear hi); obtain ⟨Ao39, co39, eo39⟩ := Kd.R_slice HO113.out; subst eo39; have p116 : 0 ≤ (t114 : Int) := of_decide_eq_true y10 ; have q116 : t114 < (y111.length : Int) := of_decide_eq_true y10 ; obtain ⟨ad116, e116, hx116_0⟩ := Kd.at_int (Kd.R_reads' HO113.out).2.2 t114 p116 q116; cases e116; replace p116 := eq_true p116; replace q116 := eq_true q116; have hnb40 := NB101_102.out; have hnc40 := NB102_101.out; have hnb41 := NB101_0.out; have hnc41 := NB0_101.out; have hcz42_0 : w38.cell? ⟨gb101, 0, none⟩ = some (.int .i64 a1_0) := (blk_cell BK101.out 0).trans rfl; have hcz42_1 : w38.cell? ⟨gb101, 1, none⟩ = some (.int .i64 a1_1) := (blk_cell BK101.out 1).trans rfl; have hfz42_0 := blk_frozen BK101.out 0; have hfz42_1 := blk_frozen BK101.out 1; have hnb43 := NB102_0.out; have hnc43 := NB0_102.out; have hcz44_0 : w38.cell? ⟨gb102, 0, none⟩ = some (.int .i64 0) := (blk_cell BK102.out 0).trans rfl; have hcz44_1 : w38.cell? ⟨gb102, 1, none⟩ = some (.int .i64 0) := (blk_cell BK102.out 1).trans rfl; have hfz44_0 := blk_frozen BK102.out 0; have hfz44_1 := blk_frozen BK102.out 1))
    refine bodyPost_ret (results_cell_row rfl _ _ gb102 26 #[.int .i64 (rd y111 t114), .int .i64 a1_1] (0, 0) _ rfl (by refine zq ?_; refine blk_put (cs := #[.int .i64 (rd y111 t114), .int .i64 0]) ?_ 1 _ rfl; refine zq ?_; refine blk_put (cs := #[.int .i64 0, .int .i64 0]) ?_ 0 _ rfl; refine zq ?_; refine blk_far ?_ NB102_101.out _; refine zq ?_; exact BK102.out) Try.underlying26 rfl (by kernel_rfl)) rfl ?_
    exact ⟨by first | rfl | (simp [errW_none, errW_some] <;> rfl) | (simp [*, errW_none, errW_some] <;> rfl), zHI0, zHB, zHK⟩
   rw [if_neg c32] at H
   exact absurd H (by simp)
  rw [if_neg c31] at H
  exact absurd H (by simp)
 rw [if_neg c29] at H
 have c29b0 : (t103 == 2) = false := beq_eq_false_iff_ne.mpr c29
 have c29b1 : (t103 != 2) = true := bne_iff_ne.mpr c29
 simp only [Option.some.injEq, Prod.mk.injEq] at H
 obtain ⟨rfl, rfl, rfl⟩ := H
 go_enter Try.func122, Try.ntmps122
 go_wp2_with (first | ((with_reducible refine gate_dst (N := 3) rfl ?_); refine box_event ?hg (N := 3) ?hd (cs := #[.int .i64 a1_0, .int .i64 a1_1]) (t := 26) ?hr ?_; (case hd => rfl); (case hg => rfl); (case hr => first | (go_simp; done) | (go_simp; rfl)); intro gb101 hg w45 hbox hb; have n0_ := zA (IsS117.below (zHI0) hb); have n1_ := zA (KeepBut.trans (zHK) (KeepBut.of_below hb g none) (.inl rfl)); have n2_ := zA (below_step (zHB) hb); have n3_ := zA (hbox); have n4_ := zA ((show w.heap.size ≤ gb101 from y8)); have n5_ := zA ((Nat.le_trans HW0.out (show w.heap.size ≤ gb101 from y8) : w0.heap.size ≤ gb101)); have n6_ := zA ((show g ≠ gb101 from y4)); have n7_ := zA ((show gb101 ≠ g from y5)); clear HI0; clear HK; clear HB; have HI0 := n0_; have HK := n1_; have HB := n2_; have BK101 := n3_; have GW101 := n4_; have GE101 := n5_; have NB0_101 := n6_; have NB101_0 := n7_; clear n0_ n1_ n2_ n3_ n4_ n5_ n6_ n7_; clear hb hbox hg) | ((with_reducible refine gate_dst (N := 4) rfl ?_); refine box_event ?hg (N := 4) ?hd (cs := #[.int .i64 0, .int .i64 0]) (t := 26) ?hr ?_; (case hd => rfl); (case hg => rfl); (case hr => first | (go_simp; done) | (go_simp; rfl)); intro gb102 hg w46 hbox hb; have n0_ := zA (IsS117.below (zHI0) hb); have n1_ := zA (blk_below (g := gb101) (o := .cells #[.int .i64 a1_0, .int .i64 a1_1] 26 (0, 0)) (zb BK101.out) hb); have n2_ := zA (KeepBut.trans (zHK) (KeepBut.of_below hb g none) (.inl rfl)); have n3_ := zA (below_step (zHB) hb); have n4_ := zA (hbox); have n5_ := zA ((show w.heap.size ≤ gb102 from y9)); have n6_ := zA ((Nat.le_trans HW0.out (show w.heap.size ≤ gb102 from y9) : w0.heap.size ≤ gb102)); have n7_ := zA ((show gb101 ≠ gb102 from y2)); have n8_ := zA ((show gb102 ≠ gb101 from y3)); have n9_ := zA ((show g ≠ gb102 from y6)); have n10_ := zA ((show gb102 ≠ g from y7)); clear HI0; clear BK101; clear HK; clear HB; have HI0 := n0_; have BK101 := n1_; have HK := n2_; have HB := n3_; have BK102 := n4_; have GW102 := n5_; have GE102 := n6_; have NB101_102 := n7_; have NB102_101 := n8_; have NB0_102 := n9_; have NB102_0 := n10_; clear n0_ n1_ n2_ n3_ n4_ n5_ n6_ n7_ n8_ n9_ n10_; clear hb hbox hg) | ((with_reducible refine gate_callee (f := 81) rfl ?_); refine goesL_ (some 6) rfl rfl Try.func81 (by kernel_rfl) rfl #[.pointer (some ⟨g, 0, none⟩), .int .i64 4] rfl y1  ?_; (with_reducible refine (spec_l1Rd_pick.calls k g s0_0 s0_1 4 t103 t104 w0 _ ?side1 ?side2 A3.out).mono ?_); (case side1 => exact zHI0); (case side2 => exact zHB); rintro e w47 ⟨rfl, hi, hb, hk⟩; refine ⟨_, rfl, ?_⟩; have n0_ := zA (KeepBut.blk hk (g' := gb101) (o := .cells #[.int .i64 a1_0, .int .i64 a1_1] 26 (0, 0)) (zb BK101.out) NB101_0.out (by simp)); have n1_ := zA (KeepBut.blk hk (g' := gb102) (o := .cells #[.int .i64 0, .int .i64 0] 26 (0, 0)) (zb BK102.out) NB102_0.out (by simp)); have n2_ := zA (KeepBut.trans (zHK) hk (.inl rfl)); have n3_ := zA (hb); have n4_ := zA (hi); clear BK101; clear BK102; clear HK; clear HB; clear HI0; have BK101 := n0_; have BK102 := n1_; have HK := n2_; have HB := n3_; have HI0 := n4_; clear n0_ n1_ n2_ n3_ n4_; (try clear hb); (try clear hb2); (try clear hk); (try clear hi); have hnb48 := NB101_102.out; have hnc48 := NB102_101.out; have hnb49 := NB101_0.out; have hnc49 := NB0_101.out; have hcz50_0 : w47.cell? ⟨gb101, 0, none⟩ = some (.int .i64 a1_0) := (blk_cell BK101.out 0).trans rfl; have hcz50_1 : w47.cell? ⟨gb101, 1, none⟩ = some (.int .i64 a1_1) := (blk_cell BK101.out 1).trans rfl; have hfz50_0 := blk_frozen BK101.out 0; have hfz50_1 := blk_frozen BK101.out 1; have hnb51 := NB102_0.out; have hnc51 := NB0_102.out; have hcz52_0 : w47.cell? ⟨gb102, 0, none⟩ = some (.int .i64 0) := (blk_cell BK102.out 0).trans rfl; have hcz52_1 : w47.cell? ⟨gb102, 1, none⟩ = some (.int .i64 0) := (blk_cell BK102.out 1).trans rfl; have hfz52_0 := blk_frozen BK102.out 0; have hfz52_1 := blk_frozen BK102.out 1))
 refine bodyPost_ret (results_cell_row rfl _ _ gb102 26 #[.int .i64 a1_0, .int .i64 (wrap64 (a1_1 - 1))] (0, 0) _ rfl (by refine zq ?_; refine blk_put (cs := #[.int .i64 a1_0, .int .i64 0]) ?_ 1 _ rfl; refine zq ?_; refine blk_put (cs := #[.int .i64 0, .int .i64 0]) ?_ 0 _ rfl; refine zq ?_; refine blk_far ?_ NB102_101.out _; refine zq ?_; exact BK102.out) Try.underlying26 rfl (by kernel_rfl)) rfl ?_
 exact ⟨by first | rfl | (simp [errW_none, errW_some] <;> rfl) | (simp [*, errW_none, errW_some] <;> rfl), zHI0, zHB, zHK⟩
end Go.Proofs.Ytnakanjhdcakhaa.Q
