/-
  No cell of these rows narrows 'for every input' (looked for: loops, veiled, ifaces, maps, wideKeys, modest, calm, conditions, laid).
  DERIVED. THE GIVEN ROWS OF THIS SEAT. 21 by the template 'for every input the law returns true; each argument reads behind the call as it read before'; 0 by the template 'total and deterministic' (their statements: YtnakanjhdcakhaaTotals.lean).
  GIVEN WITH THE SEED: the statements are not yours to turn. If you find one false, say at which input.
  Laid BY PROGRAM, IN A SANDBOX (cutbox-rows.mjs): the forced cells as the released guide's own fill.sh prints them over the translation df16d02796818d9d… (all of the seat's roots in one cut). By AI agents, Wed Nov 11 2026. No macro, syntax, notation, axiom, sorry.
-/
import Derived.Test.YtnakanjhdcakhaaChecked
import GoSem.Claim
import GoSem.ClaimJoined
import GoSem.ClaimMapViews
import Derived.JoinedTies
import Derived.KernelRfl
namespace Go.Proofs.Ytnakanjhdcakhaa
/- THE CELL 'sum', in the pinned program and in every row, IS THE sha256 OF THE DUMP (.gsa) THAT YtnakanjhdcakhaaProg.lean LOADS. Nothing in Lean hashes anything: it is a label: what it is worth is what the hold of that sum in a sandbox is worth. -/
noncomputable def Try.pinned : Pinned := { name := "ytnakanjhdcakhaa", sum := "df16d02796818d9dc894f701aa79dab904648af228933fa43f18d15dad601a8a", checked := Try.checked }
namespace Rows
def none {H : Type} : Left H := { results := [], args := [] }

/-- 'laws.FnExactConstants': WHATEVER THE INPUT: true; the input reads as it did. -/
def fnExactConstantsSpec : ChangeSpec := { name := "fnExactConstants", fn := fun _ => fun
  | [] => { results := [.lit (.bool true)], args := [] }
  | _ => none }
def fnExactConstantsRow : OpenClaim := { program := "ytnakanjhdcakhaa", sum := "df16d02796818d9dc894f701aa79dab904648af228933fa43f18d15dad601a8a", func := "loop.example/ternnet/laws.FnExactConstants", spec := "fnExactConstants", apart := false }
def FnExactConstantsSaid : Prop := fnExactConstantsRow.holds Try.pinned (OpenSpec.ofChange fnExactConstantsSpec)

/-- ITS FALSE NEIGHBOUR: 'it returns false'. Refute it at one input. -/
def fnExactConstantsWrong : ChangeSpec := { name := "fnExactConstants", fn := fun _ => fun
  | [] => { results := [.lit (.bool false)], args := [] }
  | _ => none }
def FnExactConstantsWrongFalsely : Prop := fnExactConstantsRow.holds Try.pinned (OpenSpec.ofChange fnExactConstantsWrong)

/-- 'laws.FnExactNetOk': WHATEVER THE INPUT: true; the input reads as it did. -/
def fnExactNetOkSpec : ChangeSpec := { name := "fnExactNetOk", fn := fun _ => fun
  | [d] => { results := [.lit (.bool true)], args := [d] }
  | _ => none }
def fnExactNetOkRow : OpenClaim := { program := "ytnakanjhdcakhaa", sum := "df16d02796818d9dc894f701aa79dab904648af228933fa43f18d15dad601a8a", func := "loop.example/ternnet/laws.FnExactNetOk", spec := "fnExactNetOk", apart := false }
def FnExactNetOkSaid : Prop := fnExactNetOkRow.holds Try.pinned (OpenSpec.ofChange fnExactNetOkSpec)

/-- ITS FALSE NEIGHBOUR: 'it returns false'. Refute it at one input. -/
def fnExactNetOkWrong : ChangeSpec := { name := "fnExactNetOk", fn := fun _ => fun
  | [d] => { results := [.lit (.bool false)], args := [d] }
  | _ => none }
def FnExactNetOkWrongFalsely : Prop := fnExactNetOkRow.holds Try.pinned (OpenSpec.ofChange fnExactNetOkWrong)

/-- 'laws.FnAclDiffer': WHATEVER THE INPUT: true; the input reads as it did. -/
def fnAclDifferSpec : ChangeSpec := { name := "fnAclDiffer", fn := fun _ => fun
  | [d1, d2] => { results := [.lit (.bool true)], args := [d1, d2] }
  | _ => none }
def fnAclDifferRow : OpenClaim := { program := "ytnakanjhdcakhaa", sum := "df16d02796818d9dc894f701aa79dab904648af228933fa43f18d15dad601a8a", func := "loop.example/ternnet/laws.FnAclDiffer", spec := "fnAclDiffer", unfollowed := true, recurses := true, apart := false }
def FnAclDifferSaid : Prop := fnAclDifferRow.holds Try.pinned (OpenSpec.ofChange fnAclDifferSpec)

/-- ITS FALSE NEIGHBOUR: 'it returns false'. Refute it at one input. -/
def fnAclDifferWrong : ChangeSpec := { name := "fnAclDiffer", fn := fun _ => fun
  | [d1, d2] => { results := [.lit (.bool false)], args := [d1, d2] }
  | _ => none }
def FnAclDifferWrongFalsely : Prop := fnAclDifferRow.holds Try.pinned (OpenSpec.ofChange fnAclDifferWrong)

/-- 'laws.FnExactNetHas': WHATEVER THE INPUT: true; the input reads as it did. -/
def fnExactNetHasSpec : ChangeSpec := { name := "fnExactNetHas", fn := fun _ => fun
  | [d1, d2] => { results := [.lit (.bool true)], args := [d1, d2] }
  | _ => none }
def fnExactNetHasRow : OpenClaim := { program := "ytnakanjhdcakhaa", sum := "df16d02796818d9dc894f701aa79dab904648af228933fa43f18d15dad601a8a", func := "loop.example/ternnet/laws.FnExactNetHas", spec := "fnExactNetHas", apart := false }
def FnExactNetHasSaid : Prop := fnExactNetHasRow.holds Try.pinned (OpenSpec.ofChange fnExactNetHasSpec)

/-- ITS FALSE NEIGHBOUR: 'it returns false'. Refute it at one input. -/
def fnExactNetHasWrong : ChangeSpec := { name := "fnExactNetHas", fn := fun _ => fun
  | [d1, d2] => { results := [.lit (.bool false)], args := [d1, d2] }
  | _ => none }
def FnExactNetHasWrongFalsely : Prop := fnExactNetHasRow.holds Try.pinned (OpenSpec.ofChange fnExactNetHasWrong)

/-- 'laws.FnExactNetIn': WHATEVER THE INPUT: true; the input reads as it did. -/
def fnExactNetInSpec : ChangeSpec := { name := "fnExactNetIn", fn := fun _ => fun
  | [d1, d2] => { results := [.lit (.bool true)], args := [d1, d2] }
  | _ => none }
def fnExactNetInRow : OpenClaim := { program := "ytnakanjhdcakhaa", sum := "df16d02796818d9dc894f701aa79dab904648af228933fa43f18d15dad601a8a", func := "loop.example/ternnet/laws.FnExactNetIn", spec := "fnExactNetIn", apart := false }
def FnExactNetInSaid : Prop := fnExactNetInRow.holds Try.pinned (OpenSpec.ofChange fnExactNetInSpec)

/-- ITS FALSE NEIGHBOUR: 'it returns false'. Refute it at one input. -/
def fnExactNetInWrong : ChangeSpec := { name := "fnExactNetIn", fn := fun _ => fun
  | [d1, d2] => { results := [.lit (.bool false)], args := [d1, d2] }
  | _ => none }
def FnExactNetInWrongFalsely : Prop := fnExactNetInRow.holds Try.pinned (OpenSpec.ofChange fnExactNetInWrong)

/-- 'laws.FnExactNetHalves': WHATEVER THE INPUT: true; the input reads as it did. -/
def fnExactNetHalvesSpec : ChangeSpec := { name := "fnExactNetHalves", fn := fun _ => fun
  | [d] => { results := [.lit (.bool true)], args := [d] }
  | _ => none }
def fnExactNetHalvesRow : OpenClaim := { program := "ytnakanjhdcakhaa", sum := "df16d02796818d9dc894f701aa79dab904648af228933fa43f18d15dad601a8a", func := "loop.example/ternnet/laws.FnExactNetHalves", spec := "fnExactNetHalves", apart := false }
def FnExactNetHalvesSaid : Prop := fnExactNetHalvesRow.holds Try.pinned (OpenSpec.ofChange fnExactNetHalvesSpec)

/-- ITS FALSE NEIGHBOUR: 'it returns false'. Refute it at one input. -/
def fnExactNetHalvesWrong : ChangeSpec := { name := "fnExactNetHalves", fn := fun _ => fun
  | [d] => { results := [.lit (.bool false)], args := [d] }
  | _ => none }
def FnExactNetHalvesWrongFalsely : Prop := fnExactNetHalvesRow.holds Try.pinned (OpenSpec.ofChange fnExactNetHalvesWrong)

/-- 'laws.FnAclLean': WHATEVER THE INPUT: true; the input reads as it did. -/
def fnAclLeanSpec : ChangeSpec := { name := "fnAclLean", fn := fun _ => fun
  | [d1, d2] => { results := [.lit (.bool true)], args := [d1, d2] }
  | _ => none }
def fnAclLeanRow : OpenClaim := { program := "ytnakanjhdcakhaa", sum := "df16d02796818d9dc894f701aa79dab904648af228933fa43f18d15dad601a8a", func := "loop.example/ternnet/laws.FnAclLean", spec := "fnAclLean", unfollowed := true, recurses := true, apart := false }
def FnAclLeanSaid : Prop := fnAclLeanRow.holds Try.pinned (OpenSpec.ofChange fnAclLeanSpec)

/-- ITS FALSE NEIGHBOUR: 'it returns false'. Refute it at one input. -/
def fnAclLeanWrong : ChangeSpec := { name := "fnAclLean", fn := fun _ => fun
  | [d1, d2] => { results := [.lit (.bool false)], args := [d1, d2] }
  | _ => none }
def FnAclLeanWrongFalsely : Prop := fnAclLeanRow.holds Try.pinned (OpenSpec.ofChange fnAclLeanWrong)

/-- 'laws.FnExactNetBest': WHATEVER THE INPUT: true; the input reads as it did. -/
def fnExactNetBestSpec : ChangeSpec := { name := "fnExactNetBest", fn := fun _ => fun
  | [d1, d2] => { results := [.lit (.bool true)], args := [d1, d2] }
  | _ => none }
def fnExactNetBestRow : OpenClaim := { program := "ytnakanjhdcakhaa", sum := "df16d02796818d9dc894f701aa79dab904648af228933fa43f18d15dad601a8a", func := "loop.example/ternnet/laws.FnExactNetBest", spec := "fnExactNetBest", apart := false }
def FnExactNetBestSaid : Prop := fnExactNetBestRow.holds Try.pinned (OpenSpec.ofChange fnExactNetBestSpec)

/-- ITS FALSE NEIGHBOUR: 'it returns false'. Refute it at one input. -/
def fnExactNetBestWrong : ChangeSpec := { name := "fnExactNetBest", fn := fun _ => fun
  | [d1, d2] => { results := [.lit (.bool false)], args := [d1, d2] }
  | _ => none }
def FnExactNetBestWrongFalsely : Prop := fnExactNetBestRow.holds Try.pinned (OpenSpec.ofChange fnExactNetBestWrong)

/-- 'laws.FnExactAclOk': WHATEVER THE INPUT: true; the input reads as it did. -/
def fnExactAclOkSpec : ChangeSpec := { name := "fnExactAclOk", fn := fun _ => fun
  | [d] => { results := [.lit (.bool true)], args := [d] }
  | _ => none }
def fnExactAclOkRow : OpenClaim := { program := "ytnakanjhdcakhaa", sum := "df16d02796818d9dc894f701aa79dab904648af228933fa43f18d15dad601a8a", func := "loop.example/ternnet/laws.FnExactAclOk", spec := "fnExactAclOk", unfollowed := true, recurses := true, apart := false }
def FnExactAclOkSaid : Prop := fnExactAclOkRow.holds Try.pinned (OpenSpec.ofChange fnExactAclOkSpec)

/-- ITS FALSE NEIGHBOUR: 'it returns false'. Refute it at one input. -/
def fnExactAclOkWrong : ChangeSpec := { name := "fnExactAclOk", fn := fun _ => fun
  | [d] => { results := [.lit (.bool false)], args := [d] }
  | _ => none }
def FnExactAclOkWrongFalsely : Prop := fnExactAclOkRow.holds Try.pinned (OpenSpec.ofChange fnExactAclOkWrong)

/-- 'laws.FnNetPrefix': WHATEVER THE INPUT: true; the input reads as it did. -/
def fnNetPrefixSpec : ChangeSpec := { name := "fnNetPrefix", fn := fun _ => fun
  | [d1, d2] => { results := [.lit (.bool true)], args := [d1, d2] }
  | _ => none }
def fnNetPrefixRow : OpenClaim := { program := "ytnakanjhdcakhaa", sum := "df16d02796818d9dc894f701aa79dab904648af228933fa43f18d15dad601a8a", func := "loop.example/ternnet/laws.FnNetPrefix", spec := "fnNetPrefix", apart := false }
def FnNetPrefixSaid : Prop := fnNetPrefixRow.holds Try.pinned (OpenSpec.ofChange fnNetPrefixSpec)

/-- ITS FALSE NEIGHBOUR: 'it returns false'. Refute it at one input. -/
def fnNetPrefixWrong : ChangeSpec := { name := "fnNetPrefix", fn := fun _ => fun
  | [d1, d2] => { results := [.lit (.bool false)], args := [d1, d2] }
  | _ => none }
def FnNetPrefixWrongFalsely : Prop := fnNetPrefixRow.holds Try.pinned (OpenSpec.ofChange fnNetPrefixWrong)

/-- 'laws.FnNetBest': WHATEVER THE INPUT: true; the input reads as it did. -/
def fnNetBestSpec : ChangeSpec := { name := "fnNetBest", fn := fun _ => fun
  | [d] => { results := [.lit (.bool true)], args := [d] }
  | _ => none }
def fnNetBestRow : OpenClaim := { program := "ytnakanjhdcakhaa", sum := "df16d02796818d9dc894f701aa79dab904648af228933fa43f18d15dad601a8a", func := "loop.example/ternnet/laws.FnNetBest", spec := "fnNetBest", apart := false }
def FnNetBestSaid : Prop := fnNetBestRow.holds Try.pinned (OpenSpec.ofChange fnNetBestSpec)

/-- ITS FALSE NEIGHBOUR: 'it returns false'. Refute it at one input. -/
def fnNetBestWrong : ChangeSpec := { name := "fnNetBest", fn := fun _ => fun
  | [d] => { results := [.lit (.bool false)], args := [d] }
  | _ => none }
def FnNetBestWrongFalsely : Prop := fnNetBestRow.holds Try.pinned (OpenSpec.ofChange fnNetBestWrong)

/-- 'laws.FnExactAclSays': WHATEVER THE INPUT: true; the input reads as it did. -/
def fnExactAclSaysSpec : ChangeSpec := { name := "fnExactAclSays", fn := fun _ => fun
  | [d1, d2] => { results := [.lit (.bool true)], args := [d1, d2] }
  | _ => none }
def fnExactAclSaysRow : OpenClaim := { program := "ytnakanjhdcakhaa", sum := "df16d02796818d9dc894f701aa79dab904648af228933fa43f18d15dad601a8a", func := "loop.example/ternnet/laws.FnExactAclSays", spec := "fnExactAclSays", unfollowed := true, recurses := true, apart := false }
def FnExactAclSaysSaid : Prop := fnExactAclSaysRow.holds Try.pinned (OpenSpec.ofChange fnExactAclSaysSpec)

/-- ITS FALSE NEIGHBOUR: 'it returns false'. Refute it at one input. -/
def fnExactAclSaysWrong : ChangeSpec := { name := "fnExactAclSays", fn := fun _ => fun
  | [d1, d2] => { results := [.lit (.bool false)], args := [d1, d2] }
  | _ => none }
def FnExactAclSaysWrongFalsely : Prop := fnExactAclSaysRow.holds Try.pinned (OpenSpec.ofChange fnExactAclSaysWrong)

/-- 'laws.FnExactNetWithout': WHATEVER THE INPUT: true; the input reads as it did. -/
def fnExactNetWithoutSpec : ChangeSpec := { name := "fnExactNetWithout", fn := fun _ => fun
  | [d1, d2] => { results := [.lit (.bool true)], args := [d1, d2] }
  | _ => none }
def fnExactNetWithoutRow : OpenClaim := { program := "ytnakanjhdcakhaa", sum := "df16d02796818d9dc894f701aa79dab904648af228933fa43f18d15dad601a8a", func := "loop.example/ternnet/laws.FnExactNetWithout", spec := "fnExactNetWithout", unfollowed := true, recurses := true, apart := false }
def FnExactNetWithoutSaid : Prop := fnExactNetWithoutRow.holds Try.pinned (OpenSpec.ofChange fnExactNetWithoutSpec)

/-- ITS FALSE NEIGHBOUR: 'it returns false'. Refute it at one input. -/
def fnExactNetWithoutWrong : ChangeSpec := { name := "fnExactNetWithout", fn := fun _ => fun
  | [d1, d2] => { results := [.lit (.bool false)], args := [d1, d2] }
  | _ => none }
def FnExactNetWithoutWrongFalsely : Prop := fnExactNetWithoutRow.holds Try.pinned (OpenSpec.ofChange fnExactNetWithoutWrong)

/-- 'laws.FnExactNetCover': WHATEVER THE INPUT: true; the input reads as it did. -/
def fnExactNetCoverSpec : ChangeSpec := { name := "fnExactNetCover", fn := fun _ => fun
  | [d] => { results := [.lit (.bool true)], args := [d] }
  | _ => none }
def fnExactNetCoverRow : OpenClaim := { program := "ytnakanjhdcakhaa", sum := "df16d02796818d9dc894f701aa79dab904648af228933fa43f18d15dad601a8a", func := "loop.example/ternnet/laws.FnExactNetCover", spec := "fnExactNetCover", unfollowed := true, recurses := true, apart := false }
def FnExactNetCoverSaid : Prop := fnExactNetCoverRow.holds Try.pinned (OpenSpec.ofChange fnExactNetCoverSpec)

/-- ITS FALSE NEIGHBOUR: 'it returns false'. Refute it at one input. -/
def fnExactNetCoverWrong : ChangeSpec := { name := "fnExactNetCover", fn := fun _ => fun
  | [d] => { results := [.lit (.bool false)], args := [d] }
  | _ => none }
def FnExactNetCoverWrongFalsely : Prop := fnExactNetCoverRow.holds Try.pinned (OpenSpec.ofChange fnExactNetCoverWrong)

/-- 'laws.FnAclSays': WHATEVER THE INPUT: true; the input reads as it did. -/
def fnAclSaysSpec : ChangeSpec := { name := "fnAclSays", fn := fun _ => fun
  | [d] => { results := [.lit (.bool true)], args := [d] }
  | _ => none }
def fnAclSaysRow : OpenClaim := { program := "ytnakanjhdcakhaa", sum := "df16d02796818d9dc894f701aa79dab904648af228933fa43f18d15dad601a8a", func := "loop.example/ternnet/laws.FnAclSays", spec := "fnAclSays", unfollowed := true, recurses := true, apart := false }
def FnAclSaysSaid : Prop := fnAclSaysRow.holds Try.pinned (OpenSpec.ofChange fnAclSaysSpec)

/-- ITS FALSE NEIGHBOUR: 'it returns false'. Refute it at one input. -/
def fnAclSaysWrong : ChangeSpec := { name := "fnAclSays", fn := fun _ => fun
  | [d] => { results := [.lit (.bool false)], args := [d] }
  | _ => none }
def FnAclSaysWrongFalsely : Prop := fnAclSaysRow.holds Try.pinned (OpenSpec.ofChange fnAclSaysWrong)

/-- 'laws.FnNetCover': WHATEVER THE INPUT: true; the input reads as it did. -/
def fnNetCoverSpec : ChangeSpec := { name := "fnNetCover", fn := fun _ => fun
  | [d] => { results := [.lit (.bool true)], args := [d] }
  | _ => none }
def fnNetCoverRow : OpenClaim := { program := "ytnakanjhdcakhaa", sum := "df16d02796818d9dc894f701aa79dab904648af228933fa43f18d15dad601a8a", func := "loop.example/ternnet/laws.FnNetCover", spec := "fnNetCover", unfollowed := true, recurses := true, apart := false }
def FnNetCoverSaid : Prop := fnNetCoverRow.holds Try.pinned (OpenSpec.ofChange fnNetCoverSpec)

/-- ITS FALSE NEIGHBOUR: 'it returns false'. Refute it at one input. -/
def fnNetCoverWrong : ChangeSpec := { name := "fnNetCover", fn := fun _ => fun
  | [d] => { results := [.lit (.bool false)], args := [d] }
  | _ => none }
def FnNetCoverWrongFalsely : Prop := fnNetCoverRow.holds Try.pinned (OpenSpec.ofChange fnNetCoverWrong)

/-- 'laws.FnNetTop': WHATEVER THE INPUT: true; the input reads as it did. -/
def fnNetTopSpec : ChangeSpec := { name := "fnNetTop", fn := fun _ => fun
  | [d] => { results := [.lit (.bool true)], args := [d] }
  | _ => none }
def fnNetTopRow : OpenClaim := { program := "ytnakanjhdcakhaa", sum := "df16d02796818d9dc894f701aa79dab904648af228933fa43f18d15dad601a8a", func := "loop.example/ternnet/laws.FnNetTop", spec := "fnNetTop", unfollowed := true, recurses := true, apart := false }
def FnNetTopSaid : Prop := fnNetTopRow.holds Try.pinned (OpenSpec.ofChange fnNetTopSpec)

/-- ITS FALSE NEIGHBOUR: 'it returns false'. Refute it at one input. -/
def fnNetTopWrong : ChangeSpec := { name := "fnNetTop", fn := fun _ => fun
  | [d] => { results := [.lit (.bool false)], args := [d] }
  | _ => none }
def FnNetTopWrongFalsely : Prop := fnNetTopRow.holds Try.pinned (OpenSpec.ofChange fnNetTopWrong)

/-- 'laws.FnExactAclWitness': WHATEVER THE INPUT: true; the input reads as it did. -/
def fnExactAclWitnessSpec : ChangeSpec := { name := "fnExactAclWitness", fn := fun _ => fun
  | [d1, d2] => { results := [.lit (.bool true)], args := [d1, d2] }
  | _ => none }
def fnExactAclWitnessRow : OpenClaim := { program := "ytnakanjhdcakhaa", sum := "df16d02796818d9dc894f701aa79dab904648af228933fa43f18d15dad601a8a", func := "loop.example/ternnet/laws.FnExactAclWitness", spec := "fnExactAclWitness", unfollowed := true, recurses := true, apart := false }
def FnExactAclWitnessSaid : Prop := fnExactAclWitnessRow.holds Try.pinned (OpenSpec.ofChange fnExactAclWitnessSpec)

/-- ITS FALSE NEIGHBOUR: 'it returns false'. Refute it at one input. -/
def fnExactAclWitnessWrong : ChangeSpec := { name := "fnExactAclWitness", fn := fun _ => fun
  | [d1, d2] => { results := [.lit (.bool false)], args := [d1, d2] }
  | _ => none }
def FnExactAclWitnessWrongFalsely : Prop := fnExactAclWitnessRow.holds Try.pinned (OpenSpec.ofChange fnExactAclWitnessWrong)

/-- 'laws.FnExactAclDiffer': WHATEVER THE INPUT: true; the input reads as it did. -/
def fnExactAclDifferSpec : ChangeSpec := { name := "fnExactAclDiffer", fn := fun _ => fun
  | [d1, d2] => { results := [.lit (.bool true)], args := [d1, d2] }
  | _ => none }
def fnExactAclDifferRow : OpenClaim := { program := "ytnakanjhdcakhaa", sum := "df16d02796818d9dc894f701aa79dab904648af228933fa43f18d15dad601a8a", func := "loop.example/ternnet/laws.FnExactAclDiffer", spec := "fnExactAclDiffer", unfollowed := true, recurses := true, apart := false }
def FnExactAclDifferSaid : Prop := fnExactAclDifferRow.holds Try.pinned (OpenSpec.ofChange fnExactAclDifferSpec)

/-- ITS FALSE NEIGHBOUR: 'it returns false'. Refute it at one input. -/
def fnExactAclDifferWrong : ChangeSpec := { name := "fnExactAclDiffer", fn := fun _ => fun
  | [d1, d2] => { results := [.lit (.bool false)], args := [d1, d2] }
  | _ => none }
def FnExactAclDifferWrongFalsely : Prop := fnExactAclDifferRow.holds Try.pinned (OpenSpec.ofChange fnExactAclDifferWrong)

/-- 'laws.FnExactAclLean': WHATEVER THE INPUT: true; the input reads as it did. -/
def fnExactAclLeanSpec : ChangeSpec := { name := "fnExactAclLean", fn := fun _ => fun
  | [d] => { results := [.lit (.bool true)], args := [d] }
  | _ => none }
def fnExactAclLeanRow : OpenClaim := { program := "ytnakanjhdcakhaa", sum := "df16d02796818d9dc894f701aa79dab904648af228933fa43f18d15dad601a8a", func := "loop.example/ternnet/laws.FnExactAclLean", spec := "fnExactAclLean", unfollowed := true, recurses := true, apart := false }
def FnExactAclLeanSaid : Prop := fnExactAclLeanRow.holds Try.pinned (OpenSpec.ofChange fnExactAclLeanSpec)

/-- ITS FALSE NEIGHBOUR: 'it returns false'. Refute it at one input. -/
def fnExactAclLeanWrong : ChangeSpec := { name := "fnExactAclLean", fn := fun _ => fun
  | [d] => { results := [.lit (.bool false)], args := [d] }
  | _ => none }
def FnExactAclLeanWrongFalsely : Prop := fnExactAclLeanRow.holds Try.pinned (OpenSpec.ofChange fnExactAclLeanWrong)

/-- 'laws.FnAclWitness': WHATEVER THE INPUT: true; the input reads as it did. -/
def fnAclWitnessSpec : ChangeSpec := { name := "fnAclWitness", fn := fun _ => fun
  | [d1, d2] => { results := [.lit (.bool true)], args := [d1, d2] }
  | _ => none }
def fnAclWitnessRow : OpenClaim := { program := "ytnakanjhdcakhaa", sum := "df16d02796818d9dc894f701aa79dab904648af228933fa43f18d15dad601a8a", func := "loop.example/ternnet/laws.FnAclWitness", spec := "fnAclWitness", unfollowed := true, recurses := true, apart := false }
def FnAclWitnessSaid : Prop := fnAclWitnessRow.holds Try.pinned (OpenSpec.ofChange fnAclWitnessSpec)

/-- ITS FALSE NEIGHBOUR: 'it returns false'. Refute it at one input. -/
def fnAclWitnessWrong : ChangeSpec := { name := "fnAclWitness", fn := fun _ => fun
  | [d1, d2] => { results := [.lit (.bool false)], args := [d1, d2] }
  | _ => none }
def FnAclWitnessWrongFalsely : Prop := fnAclWitnessRow.holds Try.pinned (OpenSpec.ofChange fnAclWitnessWrong)

/- THE SECOND FORM. 'bulk': how many values and letters a reading holds, each counted each time it is reached (what is shared counts as often as it is met; a slice's spare places count too). A statement '..UptoSaid' is the law's where the arguments, and the package variables that the reading takes, are together of bulk at most 1048576: NARROWER than '..Said'. Prove '..Said' where nothing that the law and all that it calls make is longer than what came in: it says more and counts as full. Else prove '..UptoSaid'. A law counts once. -/
mutual
def uptoBulk {H : Type} : DataW H → Nat
  | .lit (.string bytes) => bytes.length + 1
  | .lit _ => 1
  | .nil => 1
  | .ptr d => uptoBulk d + 1
  | .slice elems spare => uptoBulkAll elems + uptoBulkAll spare + 1
  | .agg parts => uptoBulkAll parts + 1
  | .iface _ d => uptoBulk d + 1
  | .map entries => uptoBulkEntries entries + 1
  | .held _ => 1
def uptoBulkAll {H : Type} : List (DataW H) → Nat
  | [] => 0
  | d :: r => uptoBulk d + uptoBulkAll r
def uptoBulkEntries {H : Type} : List (Lit × DataW H) → Nat
  | [] => 0
  | x :: r => uptoBulkEntry x + uptoBulkEntries r
def uptoBulkEntry {H : Type} : Lit × DataW H → Nat
  | (.string bytes, d) => bytes.length + uptoBulk d + 1
  | (_, d) => uptoBulk d + 1
 end
def uptoSmall : (H : Type) → List (DataW H) → Bool := fun _ ds => decide (uptoBulkAll ds ≤ 1048576)
def OpenSpec.upto (s : _root_.Go.ChangeSpec) : _root_.Go.OpenSpec := { _root_.Go.OpenSpec.ofChange s with cond := some uptoSmall }

/-- 'laws.FnExactConstants', WHERE WHAT IT READS IS OF BULK AT MOST 1048576: true; the input reads as it did. -/
def fnExactConstantsUptoRow : OpenClaim := { program := "ytnakanjhdcakhaa", sum := "df16d02796818d9dc894f701aa79dab904648af228933fa43f18d15dad601a8a", func := "loop.example/ternnet/laws.FnExactConstants", spec := "fnExactConstants", apart := false, narrowed := true }
def FnExactConstantsUptoSaid : Prop := fnExactConstantsUptoRow.holds Try.pinned (OpenSpec.upto fnExactConstantsSpec)

/-- 'laws.FnExactNetOk', WHERE WHAT IT READS IS OF BULK AT MOST 1048576: true; the input reads as it did. -/
def fnExactNetOkUptoRow : OpenClaim := { program := "ytnakanjhdcakhaa", sum := "df16d02796818d9dc894f701aa79dab904648af228933fa43f18d15dad601a8a", func := "loop.example/ternnet/laws.FnExactNetOk", spec := "fnExactNetOk", apart := false, narrowed := true }
def FnExactNetOkUptoSaid : Prop := fnExactNetOkUptoRow.holds Try.pinned (OpenSpec.upto fnExactNetOkSpec)

/-- 'laws.FnAclDiffer', WHERE WHAT IT READS IS OF BULK AT MOST 1048576: true; the input reads as it did. -/
def fnAclDifferUptoRow : OpenClaim := { program := "ytnakanjhdcakhaa", sum := "df16d02796818d9dc894f701aa79dab904648af228933fa43f18d15dad601a8a", func := "loop.example/ternnet/laws.FnAclDiffer", spec := "fnAclDiffer", unfollowed := true, recurses := true, apart := false, narrowed := true }
def FnAclDifferUptoSaid : Prop := fnAclDifferUptoRow.holds Try.pinned (OpenSpec.upto fnAclDifferSpec)

/-- 'laws.FnExactNetHas', WHERE WHAT IT READS IS OF BULK AT MOST 1048576: true; the input reads as it did. -/
def fnExactNetHasUptoRow : OpenClaim := { program := "ytnakanjhdcakhaa", sum := "df16d02796818d9dc894f701aa79dab904648af228933fa43f18d15dad601a8a", func := "loop.example/ternnet/laws.FnExactNetHas", spec := "fnExactNetHas", apart := false, narrowed := true }
def FnExactNetHasUptoSaid : Prop := fnExactNetHasUptoRow.holds Try.pinned (OpenSpec.upto fnExactNetHasSpec)

/-- 'laws.FnExactNetIn', WHERE WHAT IT READS IS OF BULK AT MOST 1048576: true; the input reads as it did. -/
def fnExactNetInUptoRow : OpenClaim := { program := "ytnakanjhdcakhaa", sum := "df16d02796818d9dc894f701aa79dab904648af228933fa43f18d15dad601a8a", func := "loop.example/ternnet/laws.FnExactNetIn", spec := "fnExactNetIn", apart := false, narrowed := true }
def FnExactNetInUptoSaid : Prop := fnExactNetInUptoRow.holds Try.pinned (OpenSpec.upto fnExactNetInSpec)

/-- 'laws.FnExactNetHalves', WHERE WHAT IT READS IS OF BULK AT MOST 1048576: true; the input reads as it did. -/
def fnExactNetHalvesUptoRow : OpenClaim := { program := "ytnakanjhdcakhaa", sum := "df16d02796818d9dc894f701aa79dab904648af228933fa43f18d15dad601a8a", func := "loop.example/ternnet/laws.FnExactNetHalves", spec := "fnExactNetHalves", apart := false, narrowed := true }
def FnExactNetHalvesUptoSaid : Prop := fnExactNetHalvesUptoRow.holds Try.pinned (OpenSpec.upto fnExactNetHalvesSpec)

/-- 'laws.FnAclLean', WHERE WHAT IT READS IS OF BULK AT MOST 1048576: true; the input reads as it did. -/
def fnAclLeanUptoRow : OpenClaim := { program := "ytnakanjhdcakhaa", sum := "df16d02796818d9dc894f701aa79dab904648af228933fa43f18d15dad601a8a", func := "loop.example/ternnet/laws.FnAclLean", spec := "fnAclLean", unfollowed := true, recurses := true, apart := false, narrowed := true }
def FnAclLeanUptoSaid : Prop := fnAclLeanUptoRow.holds Try.pinned (OpenSpec.upto fnAclLeanSpec)

/-- 'laws.FnExactNetBest', WHERE WHAT IT READS IS OF BULK AT MOST 1048576: true; the input reads as it did. -/
def fnExactNetBestUptoRow : OpenClaim := { program := "ytnakanjhdcakhaa", sum := "df16d02796818d9dc894f701aa79dab904648af228933fa43f18d15dad601a8a", func := "loop.example/ternnet/laws.FnExactNetBest", spec := "fnExactNetBest", apart := false, narrowed := true }
def FnExactNetBestUptoSaid : Prop := fnExactNetBestUptoRow.holds Try.pinned (OpenSpec.upto fnExactNetBestSpec)

/-- 'laws.FnExactAclOk', WHERE WHAT IT READS IS OF BULK AT MOST 1048576: true; the input reads as it did. -/
def fnExactAclOkUptoRow : OpenClaim := { program := "ytnakanjhdcakhaa", sum := "df16d02796818d9dc894f701aa79dab904648af228933fa43f18d15dad601a8a", func := "loop.example/ternnet/laws.FnExactAclOk", spec := "fnExactAclOk", unfollowed := true, recurses := true, apart := false, narrowed := true }
def FnExactAclOkUptoSaid : Prop := fnExactAclOkUptoRow.holds Try.pinned (OpenSpec.upto fnExactAclOkSpec)

/-- 'laws.FnNetPrefix', WHERE WHAT IT READS IS OF BULK AT MOST 1048576: true; the input reads as it did. -/
def fnNetPrefixUptoRow : OpenClaim := { program := "ytnakanjhdcakhaa", sum := "df16d02796818d9dc894f701aa79dab904648af228933fa43f18d15dad601a8a", func := "loop.example/ternnet/laws.FnNetPrefix", spec := "fnNetPrefix", apart := false, narrowed := true }
def FnNetPrefixUptoSaid : Prop := fnNetPrefixUptoRow.holds Try.pinned (OpenSpec.upto fnNetPrefixSpec)

/-- 'laws.FnNetBest', WHERE WHAT IT READS IS OF BULK AT MOST 1048576: true; the input reads as it did. -/
def fnNetBestUptoRow : OpenClaim := { program := "ytnakanjhdcakhaa", sum := "df16d02796818d9dc894f701aa79dab904648af228933fa43f18d15dad601a8a", func := "loop.example/ternnet/laws.FnNetBest", spec := "fnNetBest", apart := false, narrowed := true }
def FnNetBestUptoSaid : Prop := fnNetBestUptoRow.holds Try.pinned (OpenSpec.upto fnNetBestSpec)

/-- 'laws.FnExactAclSays', WHERE WHAT IT READS IS OF BULK AT MOST 1048576: true; the input reads as it did. -/
def fnExactAclSaysUptoRow : OpenClaim := { program := "ytnakanjhdcakhaa", sum := "df16d02796818d9dc894f701aa79dab904648af228933fa43f18d15dad601a8a", func := "loop.example/ternnet/laws.FnExactAclSays", spec := "fnExactAclSays", unfollowed := true, recurses := true, apart := false, narrowed := true }
def FnExactAclSaysUptoSaid : Prop := fnExactAclSaysUptoRow.holds Try.pinned (OpenSpec.upto fnExactAclSaysSpec)

/-- 'laws.FnExactNetWithout', WHERE WHAT IT READS IS OF BULK AT MOST 1048576: true; the input reads as it did. -/
def fnExactNetWithoutUptoRow : OpenClaim := { program := "ytnakanjhdcakhaa", sum := "df16d02796818d9dc894f701aa79dab904648af228933fa43f18d15dad601a8a", func := "loop.example/ternnet/laws.FnExactNetWithout", spec := "fnExactNetWithout", unfollowed := true, recurses := true, apart := false, narrowed := true }
def FnExactNetWithoutUptoSaid : Prop := fnExactNetWithoutUptoRow.holds Try.pinned (OpenSpec.upto fnExactNetWithoutSpec)

/-- 'laws.FnExactNetCover', WHERE WHAT IT READS IS OF BULK AT MOST 1048576: true; the input reads as it did. -/
def fnExactNetCoverUptoRow : OpenClaim := { program := "ytnakanjhdcakhaa", sum := "df16d02796818d9dc894f701aa79dab904648af228933fa43f18d15dad601a8a", func := "loop.example/ternnet/laws.FnExactNetCover", spec := "fnExactNetCover", unfollowed := true, recurses := true, apart := false, narrowed := true }
def FnExactNetCoverUptoSaid : Prop := fnExactNetCoverUptoRow.holds Try.pinned (OpenSpec.upto fnExactNetCoverSpec)

/-- 'laws.FnAclSays', WHERE WHAT IT READS IS OF BULK AT MOST 1048576: true; the input reads as it did. -/
def fnAclSaysUptoRow : OpenClaim := { program := "ytnakanjhdcakhaa", sum := "df16d02796818d9dc894f701aa79dab904648af228933fa43f18d15dad601a8a", func := "loop.example/ternnet/laws.FnAclSays", spec := "fnAclSays", unfollowed := true, recurses := true, apart := false, narrowed := true }
def FnAclSaysUptoSaid : Prop := fnAclSaysUptoRow.holds Try.pinned (OpenSpec.upto fnAclSaysSpec)

/-- 'laws.FnNetCover', WHERE WHAT IT READS IS OF BULK AT MOST 1048576: true; the input reads as it did. -/
def fnNetCoverUptoRow : OpenClaim := { program := "ytnakanjhdcakhaa", sum := "df16d02796818d9dc894f701aa79dab904648af228933fa43f18d15dad601a8a", func := "loop.example/ternnet/laws.FnNetCover", spec := "fnNetCover", unfollowed := true, recurses := true, apart := false, narrowed := true }
def FnNetCoverUptoSaid : Prop := fnNetCoverUptoRow.holds Try.pinned (OpenSpec.upto fnNetCoverSpec)

/-- 'laws.FnNetTop', WHERE WHAT IT READS IS OF BULK AT MOST 1048576: true; the input reads as it did. -/
def fnNetTopUptoRow : OpenClaim := { program := "ytnakanjhdcakhaa", sum := "df16d02796818d9dc894f701aa79dab904648af228933fa43f18d15dad601a8a", func := "loop.example/ternnet/laws.FnNetTop", spec := "fnNetTop", unfollowed := true, recurses := true, apart := false, narrowed := true }
def FnNetTopUptoSaid : Prop := fnNetTopUptoRow.holds Try.pinned (OpenSpec.upto fnNetTopSpec)

/-- 'laws.FnExactAclWitness', WHERE WHAT IT READS IS OF BULK AT MOST 1048576: true; the input reads as it did. -/
def fnExactAclWitnessUptoRow : OpenClaim := { program := "ytnakanjhdcakhaa", sum := "df16d02796818d9dc894f701aa79dab904648af228933fa43f18d15dad601a8a", func := "loop.example/ternnet/laws.FnExactAclWitness", spec := "fnExactAclWitness", unfollowed := true, recurses := true, apart := false, narrowed := true }
def FnExactAclWitnessUptoSaid : Prop := fnExactAclWitnessUptoRow.holds Try.pinned (OpenSpec.upto fnExactAclWitnessSpec)

/-- 'laws.FnExactAclDiffer', WHERE WHAT IT READS IS OF BULK AT MOST 1048576: true; the input reads as it did. -/
def fnExactAclDifferUptoRow : OpenClaim := { program := "ytnakanjhdcakhaa", sum := "df16d02796818d9dc894f701aa79dab904648af228933fa43f18d15dad601a8a", func := "loop.example/ternnet/laws.FnExactAclDiffer", spec := "fnExactAclDiffer", unfollowed := true, recurses := true, apart := false, narrowed := true }
def FnExactAclDifferUptoSaid : Prop := fnExactAclDifferUptoRow.holds Try.pinned (OpenSpec.upto fnExactAclDifferSpec)

/-- 'laws.FnExactAclLean', WHERE WHAT IT READS IS OF BULK AT MOST 1048576: true; the input reads as it did. -/
def fnExactAclLeanUptoRow : OpenClaim := { program := "ytnakanjhdcakhaa", sum := "df16d02796818d9dc894f701aa79dab904648af228933fa43f18d15dad601a8a", func := "loop.example/ternnet/laws.FnExactAclLean", spec := "fnExactAclLean", unfollowed := true, recurses := true, apart := false, narrowed := true }
def FnExactAclLeanUptoSaid : Prop := fnExactAclLeanUptoRow.holds Try.pinned (OpenSpec.upto fnExactAclLeanSpec)

/-- 'laws.FnAclWitness', WHERE WHAT IT READS IS OF BULK AT MOST 1048576: true; the input reads as it did. -/
def fnAclWitnessUptoRow : OpenClaim := { program := "ytnakanjhdcakhaa", sum := "df16d02796818d9dc894f701aa79dab904648af228933fa43f18d15dad601a8a", func := "loop.example/ternnet/laws.FnAclWitness", spec := "fnAclWitness", unfollowed := true, recurses := true, apart := false, narrowed := true }
def FnAclWitnessUptoSaid : Prop := fnAclWitnessUptoRow.holds Try.pinned (OpenSpec.upto fnAclWitnessSpec)

end Rows
end Go.Proofs.Ytnakanjhdcakhaa
