/-
  No cell of these rows narrows 'for every input' (looked for: loops, veiled, ifaces, maps, wideKeys, modest, calm, conditions, laid).
  DERIVED. THE GIVEN ROWS OF THIS SEAT. 12 by the template 'for every input the law returns true; each argument reads behind the call as it read before'; 0 by the template 'total and deterministic' (their statements: YtlacmdnhabblcaaGreatTotals.lean).
  GIVEN WITH THE SEED: the statements are not yours to turn. If you find one false, say at which input.
  Laid BY PROGRAM, IN A SANDBOX (cutbox-rows.mjs): the forced cells as the released guide's own fill.sh prints them over the translation a80f7f472d844c08… (all of the seat's roots in one cut). By AI agents, Wed Nov 11 2026. No macro, syntax, notation, axiom, sorry.
-/
import Derived.Test.YtlacmdnhabblcaaGreatChecked
import GoSem.Claim
import GoSem.ClaimJoined
import GoSem.ClaimMapViews
import Derived.JoinedTies
import Derived.KernelRfl
namespace Go.Proofs.YtlacmdnhabblcaaGreat
/- THE CELL 'sum', in the pinned program and in every row, IS THE sha256 OF THE DUMP (.gsa) THAT YtlacmdnhabblcaaGreatProg.lean LOADS. Nothing in Lean hashes anything: it is a label: what it is worth is what the hold of that sum in a sandbox is worth. -/
noncomputable def Tryz.pinned : Pinned := { name := "ytlacmdnhabblcaagreat", sum := "a80f7f472d844c085fecd4ab9668d7ee2c2e9737754f9920322ab0c76c970e9a", checked := Tryz.checked }
namespace Rows
def none {H : Type} : Left H := { results := [], args := [] }

/-- 'cardgamelaw46.BlockCan': WHATEVER THE INPUT: true; the input reads as it did. -/
def blockCanSpec : ChangeSpec := { name := "blockCan", fn := fun _ => fun
  | [d] => { results := [.lit (.bool true)], args := [d] }
  | _ => none }
def blockCanRow : OpenClaim := { program := "ytlacmdnhabblcaagreat", sum := "a80f7f472d844c085fecd4ab9668d7ee2c2e9737754f9920322ab0c76c970e9a", func := "cardgame/cardgamelaw46.BlockCan", spec := "blockCan", inPlace := ["internal/bytealg.IndexByteString", "internal/bytealg.IndexString", "slices.overlaps[string]", "slices.overlaps[cardgame/api.Object]", "slices.overlaps[int]"], unfollowed := true, recurses := true, named := ["internal/bytealg.MaxLen"], apart := false }
def BlockCanSaid : Prop := blockCanRow.holds Tryz.pinned (OpenSpec.ofChange blockCanSpec)

/-- ITS FALSE NEIGHBOUR: 'it returns false'. Refute it at one input. -/
def blockCanWrong : ChangeSpec := { name := "blockCan", fn := fun _ => fun
  | [d] => { results := [.lit (.bool false)], args := [d] }
  | _ => none }
def BlockCanWrongFalsely : Prop := blockCanRow.holds Tryz.pinned (OpenSpec.ofChange blockCanWrong)

/-- 'cardgamelaw46.BlockAble': WHATEVER THE INPUT: true; the input reads as it did. -/
def blockAbleSpec : ChangeSpec := { name := "blockAble", fn := fun _ => fun
  | [d1, d2, d3] => { results := [.lit (.bool true)], args := [d1, d2, d3] }
  | _ => none }
def blockAbleRow : OpenClaim := { program := "ytlacmdnhabblcaagreat", sum := "a80f7f472d844c085fecd4ab9668d7ee2c2e9737754f9920322ab0c76c970e9a", func := "cardgame/cardgamelaw46.BlockAble", spec := "blockAble", inPlace := ["internal/bytealg.IndexByteString", "internal/bytealg.IndexString", "slices.overlaps[string]", "slices.overlaps[cardgame/api.Object]", "slices.overlaps[int]"], unfollowed := true, recurses := true, named := ["internal/bytealg.MaxLen"], apart := false }
def BlockAbleSaid : Prop := blockAbleRow.holds Tryz.pinned (OpenSpec.ofChange blockAbleSpec)

/-- ITS FALSE NEIGHBOUR: 'it returns false'. Refute it at one input. -/
def blockAbleWrong : ChangeSpec := { name := "blockAble", fn := fun _ => fun
  | [d1, d2, d3] => { results := [.lit (.bool false)], args := [d1, d2, d3] }
  | _ => none }
def BlockAbleWrongFalsely : Prop := blockAbleRow.holds Tryz.pinned (OpenSpec.ofChange blockAbleWrong)

/-- 'cardgamelaw46.BlockChecks': WHATEVER THE INPUT: true; the input reads as it did. -/
def blockChecksSpec : ChangeSpec := { name := "blockChecks", fn := fun _ => fun
  | [d1, d2, d3] => { results := [.lit (.bool true)], args := [d1, d2, d3] }
  | _ => none }
def blockChecksRow : OpenClaim := { program := "ytlacmdnhabblcaagreat", sum := "a80f7f472d844c085fecd4ab9668d7ee2c2e9737754f9920322ab0c76c970e9a", func := "cardgame/cardgamelaw46.BlockChecks", spec := "blockChecks", inPlace := ["internal/bytealg.IndexByteString", "internal/bytealg.IndexString", "slices.overlaps[string]", "slices.overlaps[cardgame/api.Object]", "slices.overlaps[int]"], unfollowed := true, recurses := true, named := ["internal/bytealg.MaxLen"], apart := false }
def BlockChecksSaid : Prop := blockChecksRow.holds Tryz.pinned (OpenSpec.ofChange blockChecksSpec)

/-- ITS FALSE NEIGHBOUR: 'it returns false'. Refute it at one input. -/
def blockChecksWrong : ChangeSpec := { name := "blockChecks", fn := fun _ => fun
  | [d1, d2, d3] => { results := [.lit (.bool false)], args := [d1, d2, d3] }
  | _ => none }
def BlockChecksWrongFalsely : Prop := blockChecksRow.holds Tryz.pinned (OpenSpec.ofChange blockChecksWrong)

/-- 'cardgamelaw46.BlockMenace': WHATEVER THE INPUT: true; the input reads as it did. -/
def blockMenaceSpec : ChangeSpec := { name := "blockMenace", fn := fun _ => fun
  | [d1, d2, d3] => { results := [.lit (.bool true)], args := [d1, d2, d3] }
  | _ => none }
def blockMenaceRow : OpenClaim := { program := "ytlacmdnhabblcaagreat", sum := "a80f7f472d844c085fecd4ab9668d7ee2c2e9737754f9920322ab0c76c970e9a", func := "cardgame/cardgamelaw46.BlockMenace", spec := "blockMenace", inPlace := ["internal/bytealg.IndexByteString", "internal/bytealg.IndexString", "slices.overlaps[string]", "slices.overlaps[cardgame/api.Object]", "slices.overlaps[int]"], unfollowed := true, recurses := true, named := ["internal/bytealg.MaxLen"], apart := false }
def BlockMenaceSaid : Prop := blockMenaceRow.holds Tryz.pinned (OpenSpec.ofChange blockMenaceSpec)

/-- ITS FALSE NEIGHBOUR: 'it returns false'. Refute it at one input. -/
def blockMenaceWrong : ChangeSpec := { name := "blockMenace", fn := fun _ => fun
  | [d1, d2, d3] => { results := [.lit (.bool false)], args := [d1, d2, d3] }
  | _ => none }
def BlockMenaceWrongFalsely : Prop := blockMenaceRow.holds Tryz.pinned (OpenSpec.ofChange blockMenaceWrong)

/-- 'cardgamelaw47.CombatLegal': WHATEVER THE INPUT: true; the input reads as it did. -/
def combatLegalSpec : ChangeSpec := { name := "combatLegal", fn := fun _ => fun
  | [d1, d2, d3] => { results := [.lit (.bool true)], args := [d1, d2, d3] }
  | _ => none }
def combatLegalRow : OpenClaim := { program := "ytlacmdnhabblcaagreat", sum := "a80f7f472d844c085fecd4ab9668d7ee2c2e9737754f9920322ab0c76c970e9a", func := "cardgame/cardgamelaw47.CombatLegal", spec := "combatLegal", inPlace := ["internal/bytealg.IndexByteString", "internal/bytealg.IndexString", "slices.overlaps[string]", "slices.overlaps[cardgame/api.Object]", "slices.overlaps[int]"], unfollowed := true, recurses := true, named := ["internal/bytealg.MaxLen"], apart := false }
def CombatLegalSaid : Prop := combatLegalRow.holds Tryz.pinned (OpenSpec.ofChange combatLegalSpec)

/-- ITS FALSE NEIGHBOUR: 'it returns false'. Refute it at one input. -/
def combatLegalWrong : ChangeSpec := { name := "combatLegal", fn := fun _ => fun
  | [d1, d2, d3] => { results := [.lit (.bool false)], args := [d1, d2, d3] }
  | _ => none }
def CombatLegalWrongFalsely : Prop := combatLegalRow.holds Tryz.pinned (OpenSpec.ofChange combatLegalWrong)

/-- 'cardgamelaw47.CombatLethal': WHATEVER THE INPUT: true; the input reads as it did. -/
def combatLethalSpec : ChangeSpec := { name := "combatLethal", fn := fun _ => fun
  | [d1, d2, d3] => { results := [.lit (.bool true)], args := [d1, d2, d3] }
  | _ => none }
def combatLethalRow : OpenClaim := { program := "ytlacmdnhabblcaagreat", sum := "a80f7f472d844c085fecd4ab9668d7ee2c2e9737754f9920322ab0c76c970e9a", func := "cardgame/cardgamelaw47.CombatLethal", spec := "combatLethal", inPlace := ["internal/bytealg.IndexByteString", "internal/bytealg.IndexString", "slices.overlaps[string]", "slices.overlaps[cardgame/api.Object]", "slices.overlaps[int]"], unfollowed := true, recurses := true, named := ["internal/bytealg.MaxLen"], apart := false }
def CombatLethalSaid : Prop := combatLethalRow.holds Tryz.pinned (OpenSpec.ofChange combatLethalSpec)

/-- ITS FALSE NEIGHBOUR: 'it returns false'. Refute it at one input. -/
def combatLethalWrong : ChangeSpec := { name := "combatLethal", fn := fun _ => fun
  | [d1, d2, d3] => { results := [.lit (.bool false)], args := [d1, d2, d3] }
  | _ => none }
def CombatLethalWrongFalsely : Prop := combatLethalRow.holds Tryz.pinned (OpenSpec.ofChange combatLethalWrong)

/-- 'cardgamelaw47.CombatEvents': WHATEVER THE INPUT: true; the input reads as it did. -/
def combatEventsSpec : ChangeSpec := { name := "combatEvents", fn := fun _ => fun
  | [d] => { results := [.lit (.bool true)], args := [d] }
  | _ => none }
def combatEventsRow : OpenClaim := { program := "ytlacmdnhabblcaagreat", sum := "a80f7f472d844c085fecd4ab9668d7ee2c2e9737754f9920322ab0c76c970e9a", func := "cardgame/cardgamelaw47.CombatEvents", spec := "combatEvents", inPlace := ["internal/bytealg.IndexByteString", "internal/bytealg.IndexString", "slices.overlaps[string]", "slices.overlaps[cardgame/api.Object]", "slices.overlaps[int]"], unfollowed := true, recurses := true, named := ["internal/bytealg.MaxLen"], apart := false }
def CombatEventsSaid : Prop := combatEventsRow.holds Tryz.pinned (OpenSpec.ofChange combatEventsSpec)

/-- ITS FALSE NEIGHBOUR: 'it returns false'. Refute it at one input. -/
def combatEventsWrong : ChangeSpec := { name := "combatEvents", fn := fun _ => fun
  | [d] => { results := [.lit (.bool false)], args := [d] }
  | _ => none }
def CombatEventsWrongFalsely : Prop := combatEventsRow.holds Tryz.pinned (OpenSpec.ofChange combatEventsWrong)

/-- 'cardgamelaw47.CombatAssigns': WHATEVER THE INPUT: true; the input reads as it did. -/
def combatAssignsSpec : ChangeSpec := { name := "combatAssigns", fn := fun _ => fun
  | [d] => { results := [.lit (.bool true)], args := [d] }
  | _ => none }
def combatAssignsRow : OpenClaim := { program := "ytlacmdnhabblcaagreat", sum := "a80f7f472d844c085fecd4ab9668d7ee2c2e9737754f9920322ab0c76c970e9a", func := "cardgame/cardgamelaw47.CombatAssigns", spec := "combatAssigns", inPlace := ["internal/bytealg.IndexByteString", "internal/bytealg.IndexString", "slices.overlaps[string]", "slices.overlaps[cardgame/api.Object]", "slices.overlaps[int]"], unfollowed := true, recurses := true, named := ["internal/bytealg.MaxLen"], apart := false }
def CombatAssignsSaid : Prop := combatAssignsRow.holds Tryz.pinned (OpenSpec.ofChange combatAssignsSpec)

/-- ITS FALSE NEIGHBOUR: 'it returns false'. Refute it at one input. -/
def combatAssignsWrong : ChangeSpec := { name := "combatAssigns", fn := fun _ => fun
  | [d] => { results := [.lit (.bool false)], args := [d] }
  | _ => none }
def CombatAssignsWrongFalsely : Prop := combatAssignsRow.holds Tryz.pinned (OpenSpec.ofChange combatAssignsWrong)

/-- 'cardgamelaw47.CombatDefault': WHATEVER THE INPUT: true; the input reads as it did. -/
def combatDefaultSpec : ChangeSpec := { name := "combatDefault", fn := fun _ => fun
  | [d] => { results := [.lit (.bool true)], args := [d] }
  | _ => none }
def combatDefaultRow : OpenClaim := { program := "ytlacmdnhabblcaagreat", sum := "a80f7f472d844c085fecd4ab9668d7ee2c2e9737754f9920322ab0c76c970e9a", func := "cardgame/cardgamelaw47.CombatDefault", spec := "combatDefault", inPlace := ["internal/bytealg.IndexByteString", "internal/bytealg.IndexString", "slices.overlaps[string]", "slices.overlaps[cardgame/api.Object]", "slices.overlaps[int]"], unfollowed := true, recurses := true, named := ["internal/bytealg.MaxLen"], apart := false }
def CombatDefaultSaid : Prop := combatDefaultRow.holds Tryz.pinned (OpenSpec.ofChange combatDefaultSpec)

/-- ITS FALSE NEIGHBOUR: 'it returns false'. Refute it at one input. -/
def combatDefaultWrong : ChangeSpec := { name := "combatDefault", fn := fun _ => fun
  | [d] => { results := [.lit (.bool false)], args := [d] }
  | _ => none }
def CombatDefaultWrongFalsely : Prop := combatDefaultRow.holds Tryz.pinned (OpenSpec.ofChange combatDefaultWrong)

/-- 'cardgamelaw45.AttackAble': WHATEVER THE INPUT: true; the input reads as it did. -/
def attackAbleSpec : ChangeSpec := { name := "attackAble", fn := fun _ => fun
  | [d1, d2] => { results := [.lit (.bool true)], args := [d1, d2] }
  | _ => none }
def attackAbleRow : OpenClaim := { program := "ytlacmdnhabblcaagreat", sum := "a80f7f472d844c085fecd4ab9668d7ee2c2e9737754f9920322ab0c76c970e9a", func := "cardgame/cardgamelaw45.AttackAble", spec := "attackAble", inPlace := ["internal/bytealg.IndexByteString", "internal/bytealg.IndexString", "slices.overlaps[string]", "slices.overlaps[cardgame/api.Object]", "slices.overlaps[int]"], unfollowed := true, recurses := true, named := ["internal/bytealg.MaxLen"], apart := false }
def AttackAbleSaid : Prop := attackAbleRow.holds Tryz.pinned (OpenSpec.ofChange attackAbleSpec)

/-- ITS FALSE NEIGHBOUR: 'it returns false'. Refute it at one input. -/
def attackAbleWrong : ChangeSpec := { name := "attackAble", fn := fun _ => fun
  | [d1, d2] => { results := [.lit (.bool false)], args := [d1, d2] }
  | _ => none }
def AttackAbleWrongFalsely : Prop := attackAbleRow.holds Tryz.pinned (OpenSpec.ofChange attackAbleWrong)

/-- 'cardgamelaw45.AttackCheck': WHATEVER THE INPUT: true; the input reads as it did. -/
def attackCheckSpec : ChangeSpec := { name := "attackCheck", fn := fun _ => fun
  | [d1, d2, d3] => { results := [.lit (.bool true)], args := [d1, d2, d3] }
  | _ => none }
def attackCheckRow : OpenClaim := { program := "ytlacmdnhabblcaagreat", sum := "a80f7f472d844c085fecd4ab9668d7ee2c2e9737754f9920322ab0c76c970e9a", func := "cardgame/cardgamelaw45.AttackCheck", spec := "attackCheck", inPlace := ["internal/bytealg.IndexByteString", "internal/bytealg.IndexString", "slices.overlaps[string]", "slices.overlaps[cardgame/api.Object]", "slices.overlaps[int]"], unfollowed := true, recurses := true, named := ["internal/bytealg.MaxLen"], apart := false }
def AttackCheckSaid : Prop := attackCheckRow.holds Tryz.pinned (OpenSpec.ofChange attackCheckSpec)

/-- ITS FALSE NEIGHBOUR: 'it returns false'. Refute it at one input. -/
def attackCheckWrong : ChangeSpec := { name := "attackCheck", fn := fun _ => fun
  | [d1, d2, d3] => { results := [.lit (.bool false)], args := [d1, d2, d3] }
  | _ => none }
def AttackCheckWrongFalsely : Prop := attackCheckRow.holds Tryz.pinned (OpenSpec.ofChange attackCheckWrong)

/-- 'cardgamelaw39.CostUses': WHATEVER THE INPUT: true; the input reads as it did. -/
def costUsesSpec : ChangeSpec := { name := "costUses", fn := fun _ => fun
  | [d] => { results := [.lit (.bool true)], args := [d] }
  | _ => none }
def costUsesRow : OpenClaim := { program := "ytlacmdnhabblcaagreat", sum := "a80f7f472d844c085fecd4ab9668d7ee2c2e9737754f9920322ab0c76c970e9a", func := "cardgame/cardgamelaw39.CostUses", spec := "costUses", unfollowed := true, recurses := true, apart := false }
def CostUsesSaid : Prop := costUsesRow.holds Tryz.pinned (OpenSpec.ofChange costUsesSpec)

/-- ITS FALSE NEIGHBOUR: 'it returns false'. Refute it at one input. -/
def costUsesWrong : ChangeSpec := { name := "costUses", fn := fun _ => fun
  | [d] => { results := [.lit (.bool false)], args := [d] }
  | _ => none }
def CostUsesWrongFalsely : Prop := costUsesRow.holds Tryz.pinned (OpenSpec.ofChange costUsesWrong)

/- THE SECOND FORM. 'bulk': how many values and letters a reading holds, each counted each time it is reached (what is shared counts as often as it is met; a slice's spare places count too). A statement '..UptoSaid' is the law's where the arguments, and the package variables that the reading takes, are together of bulk at most 1048576: NARROWER than '..Said'. Prove '..Said' where nothing that the law and all that it calls make is longer than what came in: it says more and counts as full. Else prove '..UptoSaid'. A law counts once. -/
mutual
def uptoBulk {H : Type} : DataW H → Nat
  | .lit (.string bytes) => bytes.length + 1
  | .lit _ => 1
  | .nil => 1
  | .ptr d => uptoBulk d + 1
  | .slice elems spare => uptoBulkAll elems + uptoBulkAll spare + 1
  | .agg parts => uptoBulkAll parts + 1
  | .iface _ d => uptoBulk d + 1
  | .map entries => uptoBulkEntries entries + 1
  | .held _ => 1
def uptoBulkAll {H : Type} : List (DataW H) → Nat
  | [] => 0
  | d :: r => uptoBulk d + uptoBulkAll r
def uptoBulkEntries {H : Type} : List (Lit × DataW H) → Nat
  | [] => 0
  | x :: r => uptoBulkEntry x + uptoBulkEntries r
def uptoBulkEntry {H : Type} : Lit × DataW H → Nat
  | (.string bytes, d) => bytes.length + uptoBulk d + 1
  | (_, d) => uptoBulk d + 1
 end
def uptoSmall : (H : Type) → List (DataW H) → Bool := fun _ ds => decide (uptoBulkAll ds ≤ 1048576)
def OpenSpec.upto (s : _root_.Go.ChangeSpec) : _root_.Go.OpenSpec := { _root_.Go.OpenSpec.ofChange s with cond := some uptoSmall }

/-- 'cardgamelaw46.BlockCan', WHERE WHAT IT READS IS OF BULK AT MOST 1048576: true; the input reads as it did. -/
def blockCanUptoRow : OpenClaim := { program := "ytlacmdnhabblcaagreat", sum := "a80f7f472d844c085fecd4ab9668d7ee2c2e9737754f9920322ab0c76c970e9a", func := "cardgame/cardgamelaw46.BlockCan", spec := "blockCan", inPlace := ["internal/bytealg.IndexByteString", "internal/bytealg.IndexString", "slices.overlaps[string]", "slices.overlaps[cardgame/api.Object]", "slices.overlaps[int]"], unfollowed := true, recurses := true, named := ["internal/bytealg.MaxLen"], apart := false, narrowed := true }
def BlockCanUptoSaid : Prop := blockCanUptoRow.holds Tryz.pinned (OpenSpec.upto blockCanSpec)

/-- 'cardgamelaw46.BlockAble', WHERE WHAT IT READS IS OF BULK AT MOST 1048576: true; the input reads as it did. -/
def blockAbleUptoRow : OpenClaim := { program := "ytlacmdnhabblcaagreat", sum := "a80f7f472d844c085fecd4ab9668d7ee2c2e9737754f9920322ab0c76c970e9a", func := "cardgame/cardgamelaw46.BlockAble", spec := "blockAble", inPlace := ["internal/bytealg.IndexByteString", "internal/bytealg.IndexString", "slices.overlaps[string]", "slices.overlaps[cardgame/api.Object]", "slices.overlaps[int]"], unfollowed := true, recurses := true, named := ["internal/bytealg.MaxLen"], apart := false, narrowed := true }
def BlockAbleUptoSaid : Prop := blockAbleUptoRow.holds Tryz.pinned (OpenSpec.upto blockAbleSpec)

/-- 'cardgamelaw46.BlockChecks', WHERE WHAT IT READS IS OF BULK AT MOST 1048576: true; the input reads as it did. -/
def blockChecksUptoRow : OpenClaim := { program := "ytlacmdnhabblcaagreat", sum := "a80f7f472d844c085fecd4ab9668d7ee2c2e9737754f9920322ab0c76c970e9a", func := "cardgame/cardgamelaw46.BlockChecks", spec := "blockChecks", inPlace := ["internal/bytealg.IndexByteString", "internal/bytealg.IndexString", "slices.overlaps[string]", "slices.overlaps[cardgame/api.Object]", "slices.overlaps[int]"], unfollowed := true, recurses := true, named := ["internal/bytealg.MaxLen"], apart := false, narrowed := true }
def BlockChecksUptoSaid : Prop := blockChecksUptoRow.holds Tryz.pinned (OpenSpec.upto blockChecksSpec)

/-- 'cardgamelaw46.BlockMenace', WHERE WHAT IT READS IS OF BULK AT MOST 1048576: true; the input reads as it did. -/
def blockMenaceUptoRow : OpenClaim := { program := "ytlacmdnhabblcaagreat", sum := "a80f7f472d844c085fecd4ab9668d7ee2c2e9737754f9920322ab0c76c970e9a", func := "cardgame/cardgamelaw46.BlockMenace", spec := "blockMenace", inPlace := ["internal/bytealg.IndexByteString", "internal/bytealg.IndexString", "slices.overlaps[string]", "slices.overlaps[cardgame/api.Object]", "slices.overlaps[int]"], unfollowed := true, recurses := true, named := ["internal/bytealg.MaxLen"], apart := false, narrowed := true }
def BlockMenaceUptoSaid : Prop := blockMenaceUptoRow.holds Tryz.pinned (OpenSpec.upto blockMenaceSpec)

/-- 'cardgamelaw47.CombatLegal', WHERE WHAT IT READS IS OF BULK AT MOST 1048576: true; the input reads as it did. -/
def combatLegalUptoRow : OpenClaim := { program := "ytlacmdnhabblcaagreat", sum := "a80f7f472d844c085fecd4ab9668d7ee2c2e9737754f9920322ab0c76c970e9a", func := "cardgame/cardgamelaw47.CombatLegal", spec := "combatLegal", inPlace := ["internal/bytealg.IndexByteString", "internal/bytealg.IndexString", "slices.overlaps[string]", "slices.overlaps[cardgame/api.Object]", "slices.overlaps[int]"], unfollowed := true, recurses := true, named := ["internal/bytealg.MaxLen"], apart := false, narrowed := true }
def CombatLegalUptoSaid : Prop := combatLegalUptoRow.holds Tryz.pinned (OpenSpec.upto combatLegalSpec)

/-- 'cardgamelaw47.CombatLethal', WHERE WHAT IT READS IS OF BULK AT MOST 1048576: true; the input reads as it did. -/
def combatLethalUptoRow : OpenClaim := { program := "ytlacmdnhabblcaagreat", sum := "a80f7f472d844c085fecd4ab9668d7ee2c2e9737754f9920322ab0c76c970e9a", func := "cardgame/cardgamelaw47.CombatLethal", spec := "combatLethal", inPlace := ["internal/bytealg.IndexByteString", "internal/bytealg.IndexString", "slices.overlaps[string]", "slices.overlaps[cardgame/api.Object]", "slices.overlaps[int]"], unfollowed := true, recurses := true, named := ["internal/bytealg.MaxLen"], apart := false, narrowed := true }
def CombatLethalUptoSaid : Prop := combatLethalUptoRow.holds Tryz.pinned (OpenSpec.upto combatLethalSpec)

/-- 'cardgamelaw47.CombatEvents', WHERE WHAT IT READS IS OF BULK AT MOST 1048576: true; the input reads as it did. -/
def combatEventsUptoRow : OpenClaim := { program := "ytlacmdnhabblcaagreat", sum := "a80f7f472d844c085fecd4ab9668d7ee2c2e9737754f9920322ab0c76c970e9a", func := "cardgame/cardgamelaw47.CombatEvents", spec := "combatEvents", inPlace := ["internal/bytealg.IndexByteString", "internal/bytealg.IndexString", "slices.overlaps[string]", "slices.overlaps[cardgame/api.Object]", "slices.overlaps[int]"], unfollowed := true, recurses := true, named := ["internal/bytealg.MaxLen"], apart := false, narrowed := true }
def CombatEventsUptoSaid : Prop := combatEventsUptoRow.holds Tryz.pinned (OpenSpec.upto combatEventsSpec)

/-- 'cardgamelaw47.CombatAssigns', WHERE WHAT IT READS IS OF BULK AT MOST 1048576: true; the input reads as it did. -/
def combatAssignsUptoRow : OpenClaim := { program := "ytlacmdnhabblcaagreat", sum := "a80f7f472d844c085fecd4ab9668d7ee2c2e9737754f9920322ab0c76c970e9a", func := "cardgame/cardgamelaw47.CombatAssigns", spec := "combatAssigns", inPlace := ["internal/bytealg.IndexByteString", "internal/bytealg.IndexString", "slices.overlaps[string]", "slices.overlaps[cardgame/api.Object]", "slices.overlaps[int]"], unfollowed := true, recurses := true, named := ["internal/bytealg.MaxLen"], apart := false, narrowed := true }
def CombatAssignsUptoSaid : Prop := combatAssignsUptoRow.holds Tryz.pinned (OpenSpec.upto combatAssignsSpec)

/-- 'cardgamelaw47.CombatDefault', WHERE WHAT IT READS IS OF BULK AT MOST 1048576: true; the input reads as it did. -/
def combatDefaultUptoRow : OpenClaim := { program := "ytlacmdnhabblcaagreat", sum := "a80f7f472d844c085fecd4ab9668d7ee2c2e9737754f9920322ab0c76c970e9a", func := "cardgame/cardgamelaw47.CombatDefault", spec := "combatDefault", inPlace := ["internal/bytealg.IndexByteString", "internal/bytealg.IndexString", "slices.overlaps[string]", "slices.overlaps[cardgame/api.Object]", "slices.overlaps[int]"], unfollowed := true, recurses := true, named := ["internal/bytealg.MaxLen"], apart := false, narrowed := true }
def CombatDefaultUptoSaid : Prop := combatDefaultUptoRow.holds Tryz.pinned (OpenSpec.upto combatDefaultSpec)

/-- 'cardgamelaw45.AttackAble', WHERE WHAT IT READS IS OF BULK AT MOST 1048576: true; the input reads as it did. -/
def attackAbleUptoRow : OpenClaim := { program := "ytlacmdnhabblcaagreat", sum := "a80f7f472d844c085fecd4ab9668d7ee2c2e9737754f9920322ab0c76c970e9a", func := "cardgame/cardgamelaw45.AttackAble", spec := "attackAble", inPlace := ["internal/bytealg.IndexByteString", "internal/bytealg.IndexString", "slices.overlaps[string]", "slices.overlaps[cardgame/api.Object]", "slices.overlaps[int]"], unfollowed := true, recurses := true, named := ["internal/bytealg.MaxLen"], apart := false, narrowed := true }
def AttackAbleUptoSaid : Prop := attackAbleUptoRow.holds Tryz.pinned (OpenSpec.upto attackAbleSpec)

/-- 'cardgamelaw45.AttackCheck', WHERE WHAT IT READS IS OF BULK AT MOST 1048576: true; the input reads as it did. -/
def attackCheckUptoRow : OpenClaim := { program := "ytlacmdnhabblcaagreat", sum := "a80f7f472d844c085fecd4ab9668d7ee2c2e9737754f9920322ab0c76c970e9a", func := "cardgame/cardgamelaw45.AttackCheck", spec := "attackCheck", inPlace := ["internal/bytealg.IndexByteString", "internal/bytealg.IndexString", "slices.overlaps[string]", "slices.overlaps[cardgame/api.Object]", "slices.overlaps[int]"], unfollowed := true, recurses := true, named := ["internal/bytealg.MaxLen"], apart := false, narrowed := true }
def AttackCheckUptoSaid : Prop := attackCheckUptoRow.holds Tryz.pinned (OpenSpec.upto attackCheckSpec)

/-- 'cardgamelaw39.CostUses', WHERE WHAT IT READS IS OF BULK AT MOST 1048576: true; the input reads as it did. -/
def costUsesUptoRow : OpenClaim := { program := "ytlacmdnhabblcaagreat", sum := "a80f7f472d844c085fecd4ab9668d7ee2c2e9737754f9920322ab0c76c970e9a", func := "cardgame/cardgamelaw39.CostUses", spec := "costUses", unfollowed := true, recurses := true, apart := false, narrowed := true }
def CostUsesUptoSaid : Prop := costUsesUptoRow.holds Tryz.pinned (OpenSpec.upto costUsesSpec)

end Rows
end Go.Proofs.YtlacmdnhabblcaaGreat
