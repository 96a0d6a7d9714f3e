/-
  No cell of these rows narrows 'for every input' (looked for: loops, veiled, ifaces, maps, wideKeys, modest, calm, conditions, laid).
  DERIVED. THE GIVEN ROWS OF THIS SEAT. 9 by the template 'for every input the law returns true; each argument reads behind the call as it read before'; 0 by the template 'total and deterministic' (their statements: YtchmoabpofnbaaaGreatTotals.lean).
  GIVEN WITH THE SEED: the statements are not yours to turn. If you find one false, say at which input.
  Laid BY PROGRAM, IN A SANDBOX (cutbox-rows.mjs): the forced cells as the released guide's own fill.sh prints them over the translation 1d8217a1bd239b9b… (all of the seat's roots in one cut). By AI agents, Wed Nov 11 2026. No macro, syntax, notation, axiom, sorry.
-/
import Derived.Test.YtchmoabpofnbaaaGreatChecked
import GoSem.Claim
import GoSem.ClaimJoined
import GoSem.ClaimMapViews
import Derived.JoinedTies
import Derived.KernelRfl
namespace Go.Proofs.YtchmoabpofnbaaaGreat
/- THE CELL 'sum', in the pinned program and in every row, IS THE sha256 OF THE DUMP (.gsa) THAT YtchmoabpofnbaaaGreatProg.lean LOADS. Nothing in Lean hashes anything: it is a label: what it is worth is what the hold of that sum in a sandbox is worth. -/
noncomputable def Tryz.pinned : Pinned := { name := "ytchmoabpofnbaaagreat", sum := "1d8217a1bd239b9ba6de37698231063f0ad7711a5eff6912c642e03e64739d83", checked := Tryz.checked }
namespace Rows
def none {H : Type} : Left H := { results := [], args := [] }

/-- 'cardgamelaw37.PerformStays': WHATEVER THE INPUT: true; the input reads as it did. -/
def performStaysSpec : ChangeSpec := { name := "performStays", fn := fun _ => fun
  | [d] => { results := [.lit (.bool true)], args := [d] }
  | _ => none }
def performStaysRow : OpenClaim := { program := "ytchmoabpofnbaaagreat", sum := "1d8217a1bd239b9ba6de37698231063f0ad7711a5eff6912c642e03e64739d83", func := "cardgame/cardgamelaw37.PerformStays", spec := "performStays", inPlace := ["internal/bytealg.IndexByteString", "internal/bytealg.IndexString", "slices.overlaps[string]", "slices.overlaps[cardgame/api.Object]", "slices.overlaps[int]"], unfollowed := true, recurses := true, named := ["internal/bytealg.MaxLen"], apart := false }
def PerformStaysSaid : Prop := performStaysRow.holds Tryz.pinned (OpenSpec.ofChange performStaysSpec)

/-- ITS FALSE NEIGHBOUR: 'it returns false'. Refute it at one input. -/
def performStaysWrong : ChangeSpec := { name := "performStays", fn := fun _ => fun
  | [d] => { results := [.lit (.bool false)], args := [d] }
  | _ => none }
def PerformStaysWrongFalsely : Prop := performStaysRow.holds Tryz.pinned (OpenSpec.ofChange performStaysWrong)

/-- 'cardgamelaw37.PerformHurts': WHATEVER THE INPUT: true; the input reads as it did. -/
def performHurtsSpec : ChangeSpec := { name := "performHurts", fn := fun _ => fun
  | [d1, d2, d3] => { results := [.lit (.bool true)], args := [d1, d2, d3] }
  | _ => none }
def performHurtsRow : OpenClaim := { program := "ytchmoabpofnbaaagreat", sum := "1d8217a1bd239b9ba6de37698231063f0ad7711a5eff6912c642e03e64739d83", func := "cardgame/cardgamelaw37.PerformHurts", spec := "performHurts", inPlace := ["internal/bytealg.IndexByteString", "internal/bytealg.IndexString", "slices.overlaps[string]", "slices.overlaps[cardgame/api.Object]", "slices.overlaps[int]"], unfollowed := true, recurses := true, named := ["internal/bytealg.MaxLen"], apart := false }
def PerformHurtsSaid : Prop := performHurtsRow.holds Tryz.pinned (OpenSpec.ofChange performHurtsSpec)

/-- ITS FALSE NEIGHBOUR: 'it returns false'. Refute it at one input. -/
def performHurtsWrong : ChangeSpec := { name := "performHurts", fn := fun _ => fun
  | [d1, d2, d3] => { results := [.lit (.bool false)], args := [d1, d2, d3] }
  | _ => none }
def PerformHurtsWrongFalsely : Prop := performHurtsRow.holds Tryz.pinned (OpenSpec.ofChange performHurtsWrong)

/-- 'cardgamelaw41.SbaQuiet': WHATEVER THE INPUT: true; the input reads as it did. -/
def sbaQuietSpec : ChangeSpec := { name := "sbaQuiet", fn := fun _ => fun
  | [d] => { results := [.lit (.bool true)], args := [d] }
  | _ => none }
def sbaQuietRow : OpenClaim := { program := "ytchmoabpofnbaaagreat", sum := "1d8217a1bd239b9ba6de37698231063f0ad7711a5eff6912c642e03e64739d83", func := "cardgame/cardgamelaw41.SbaQuiet", spec := "sbaQuiet", inPlace := ["internal/bytealg.IndexByteString", "internal/bytealg.IndexString", "slices.overlaps[string]", "slices.overlaps[cardgame/api.Object]", "slices.overlaps[int]"], unfollowed := true, recurses := true, named := ["internal/bytealg.MaxLen"], apart := false }
def SbaQuietSaid : Prop := sbaQuietRow.holds Tryz.pinned (OpenSpec.ofChange sbaQuietSpec)

/-- ITS FALSE NEIGHBOUR: 'it returns false'. Refute it at one input. -/
def sbaQuietWrong : ChangeSpec := { name := "sbaQuiet", fn := fun _ => fun
  | [d] => { results := [.lit (.bool false)], args := [d] }
  | _ => none }
def SbaQuietWrongFalsely : Prop := sbaQuietRow.holds Tryz.pinned (OpenSpec.ofChange sbaQuietWrong)

/-- 'cardgamelaw41.SbaNeeds': WHATEVER THE INPUT: true; the input reads as it did. -/
def sbaNeedsSpec : ChangeSpec := { name := "sbaNeeds", fn := fun _ => fun
  | [d] => { results := [.lit (.bool true)], args := [d] }
  | _ => none }
def sbaNeedsRow : OpenClaim := { program := "ytchmoabpofnbaaagreat", sum := "1d8217a1bd239b9ba6de37698231063f0ad7711a5eff6912c642e03e64739d83", func := "cardgame/cardgamelaw41.SbaNeeds", spec := "sbaNeeds", inPlace := ["internal/bytealg.IndexByteString", "internal/bytealg.IndexString", "slices.overlaps[string]", "slices.overlaps[cardgame/api.Object]", "slices.overlaps[int]"], unfollowed := true, recurses := true, named := ["internal/bytealg.MaxLen"], apart := false }
def SbaNeedsSaid : Prop := sbaNeedsRow.holds Tryz.pinned (OpenSpec.ofChange sbaNeedsSpec)

/-- ITS FALSE NEIGHBOUR: 'it returns false'. Refute it at one input. -/
def sbaNeedsWrong : ChangeSpec := { name := "sbaNeeds", fn := fun _ => fun
  | [d] => { results := [.lit (.bool false)], args := [d] }
  | _ => none }
def SbaNeedsWrongFalsely : Prop := sbaNeedsRow.holds Tryz.pinned (OpenSpec.ofChange sbaNeedsWrong)

/-- 'cardgamelaw41.SbaLeaves': WHATEVER THE INPUT: true; the input reads as it did. -/
def sbaLeavesSpec : ChangeSpec := { name := "sbaLeaves", fn := fun _ => fun
  | [d1, d2] => { results := [.lit (.bool true)], args := [d1, d2] }
  | _ => none }
def sbaLeavesRow : OpenClaim := { program := "ytchmoabpofnbaaagreat", sum := "1d8217a1bd239b9ba6de37698231063f0ad7711a5eff6912c642e03e64739d83", func := "cardgame/cardgamelaw41.SbaLeaves", spec := "sbaLeaves", inPlace := ["internal/bytealg.IndexByteString", "internal/bytealg.IndexString", "slices.overlaps[string]", "slices.overlaps[cardgame/api.Object]", "slices.overlaps[int]"], unfollowed := true, recurses := true, named := ["internal/bytealg.MaxLen"], apart := false }
def SbaLeavesSaid : Prop := sbaLeavesRow.holds Tryz.pinned (OpenSpec.ofChange sbaLeavesSpec)

/-- ITS FALSE NEIGHBOUR: 'it returns false'. Refute it at one input. -/
def sbaLeavesWrong : ChangeSpec := { name := "sbaLeaves", fn := fun _ => fun
  | [d1, d2] => { results := [.lit (.bool false)], args := [d1, d2] }
  | _ => none }
def SbaLeavesWrongFalsely : Prop := sbaLeavesRow.holds Tryz.pinned (OpenSpec.ofChange sbaLeavesWrong)

/-- 'cardgamelaw45.AttackIllegal': WHATEVER THE INPUT: true; the input reads as it did. -/
def attackIllegalSpec : ChangeSpec := { name := "attackIllegal", fn := fun _ => fun
  | [d1, d2, d3] => { results := [.lit (.bool true)], args := [d1, d2, d3] }
  | _ => none }
def attackIllegalRow : OpenClaim := { program := "ytchmoabpofnbaaagreat", sum := "1d8217a1bd239b9ba6de37698231063f0ad7711a5eff6912c642e03e64739d83", func := "cardgame/cardgamelaw45.AttackIllegal", spec := "attackIllegal", inPlace := ["internal/bytealg.IndexByteString", "internal/bytealg.IndexString", "slices.overlaps[string]", "slices.overlaps[cardgame/api.Object]", "slices.overlaps[int]"], unfollowed := true, recurses := true, named := ["internal/bytealg.MaxLen"], apart := false }
def AttackIllegalSaid : Prop := attackIllegalRow.holds Tryz.pinned (OpenSpec.ofChange attackIllegalSpec)

/-- ITS FALSE NEIGHBOUR: 'it returns false'. Refute it at one input. -/
def attackIllegalWrong : ChangeSpec := { name := "attackIllegal", fn := fun _ => fun
  | [d1, d2, d3] => { results := [.lit (.bool false)], args := [d1, d2, d3] }
  | _ => none }
def AttackIllegalWrongFalsely : Prop := attackIllegalRow.holds Tryz.pinned (OpenSpec.ofChange attackIllegalWrong)

/-- 'cardgamelaw45.AttackTaps': WHATEVER THE INPUT: true; the input reads as it did. -/
def attackTapsSpec : ChangeSpec := { name := "attackTaps", fn := fun _ => fun
  | [d1, d2, d3] => { results := [.lit (.bool true)], args := [d1, d2, d3] }
  | _ => none }
def attackTapsRow : OpenClaim := { program := "ytchmoabpofnbaaagreat", sum := "1d8217a1bd239b9ba6de37698231063f0ad7711a5eff6912c642e03e64739d83", func := "cardgame/cardgamelaw45.AttackTaps", spec := "attackTaps", inPlace := ["internal/bytealg.IndexByteString", "internal/bytealg.IndexString", "slices.overlaps[string]", "slices.overlaps[cardgame/api.Object]", "slices.overlaps[int]"], unfollowed := true, recurses := true, named := ["internal/bytealg.MaxLen"], apart := false }
def AttackTapsSaid : Prop := attackTapsRow.holds Tryz.pinned (OpenSpec.ofChange attackTapsSpec)

/-- ITS FALSE NEIGHBOUR: 'it returns false'. Refute it at one input. -/
def attackTapsWrong : ChangeSpec := { name := "attackTaps", fn := fun _ => fun
  | [d1, d2, d3] => { results := [.lit (.bool false)], args := [d1, d2, d3] }
  | _ => none }
def AttackTapsWrongFalsely : Prop := attackTapsRow.holds Tryz.pinned (OpenSpec.ofChange attackTapsWrong)

/-- 'cardgamelaw45.AttackForced': WHATEVER THE INPUT: true; the input reads as it did. -/
def attackForcedSpec : ChangeSpec := { name := "attackForced", fn := fun _ => fun
  | [d1, d2] => { results := [.lit (.bool true)], args := [d1, d2] }
  | _ => none }
def attackForcedRow : OpenClaim := { program := "ytchmoabpofnbaaagreat", sum := "1d8217a1bd239b9ba6de37698231063f0ad7711a5eff6912c642e03e64739d83", func := "cardgame/cardgamelaw45.AttackForced", spec := "attackForced", inPlace := ["internal/bytealg.IndexByteString", "internal/bytealg.IndexString", "slices.overlaps[string]", "slices.overlaps[cardgame/api.Object]", "slices.overlaps[int]"], unfollowed := true, recurses := true, named := ["internal/bytealg.MaxLen"], apart := false }
def AttackForcedSaid : Prop := attackForcedRow.holds Tryz.pinned (OpenSpec.ofChange attackForcedSpec)

/-- ITS FALSE NEIGHBOUR: 'it returns false'. Refute it at one input. -/
def attackForcedWrong : ChangeSpec := { name := "attackForced", fn := fun _ => fun
  | [d1, d2] => { results := [.lit (.bool false)], args := [d1, d2] }
  | _ => none }
def AttackForcedWrongFalsely : Prop := attackForcedRow.holds Tryz.pinned (OpenSpec.ofChange attackForcedWrong)

/-- 'cardgamelaw46.BlockOne': WHATEVER THE INPUT: true; the input reads as it did. -/
def blockOneSpec : ChangeSpec := { name := "blockOne", fn := fun _ => fun
  | [d1, d2, d3] => { results := [.lit (.bool true)], args := [d1, d2, d3] }
  | _ => none }
def blockOneRow : OpenClaim := { program := "ytchmoabpofnbaaagreat", sum := "1d8217a1bd239b9ba6de37698231063f0ad7711a5eff6912c642e03e64739d83", func := "cardgame/cardgamelaw46.BlockOne", spec := "blockOne", inPlace := ["internal/bytealg.IndexByteString", "internal/bytealg.IndexString", "slices.overlaps[string]", "slices.overlaps[cardgame/api.Object]", "slices.overlaps[int]"], unfollowed := true, recurses := true, named := ["internal/bytealg.MaxLen"], apart := false }
def BlockOneSaid : Prop := blockOneRow.holds Tryz.pinned (OpenSpec.ofChange blockOneSpec)

/-- ITS FALSE NEIGHBOUR: 'it returns false'. Refute it at one input. -/
def blockOneWrong : ChangeSpec := { name := "blockOne", fn := fun _ => fun
  | [d1, d2, d3] => { results := [.lit (.bool false)], args := [d1, d2, d3] }
  | _ => none }
def BlockOneWrongFalsely : Prop := blockOneRow.holds Tryz.pinned (OpenSpec.ofChange blockOneWrong)

/- THE SECOND FORM. 'bulk': how many values and letters a reading holds, each counted each time it is reached (what is shared counts as often as it is met; a slice's spare places count too). A statement '..UptoSaid' is the law's where the arguments, and the package variables that the reading takes, are together of bulk at most 1048576: NARROWER than '..Said'. Prove '..Said' where nothing that the law and all that it calls make is longer than what came in: it says more and counts as full. Else prove '..UptoSaid'. A law counts once. -/
mutual
def uptoBulk {H : Type} : DataW H → Nat
  | .lit (.string bytes) => bytes.length + 1
  | .lit _ => 1
  | .nil => 1
  | .ptr d => uptoBulk d + 1
  | .slice elems spare => uptoBulkAll elems + uptoBulkAll spare + 1
  | .agg parts => uptoBulkAll parts + 1
  | .iface _ d => uptoBulk d + 1
  | .map entries => uptoBulkEntries entries + 1
  | .held _ => 1
def uptoBulkAll {H : Type} : List (DataW H) → Nat
  | [] => 0
  | d :: r => uptoBulk d + uptoBulkAll r
def uptoBulkEntries {H : Type} : List (Lit × DataW H) → Nat
  | [] => 0
  | x :: r => uptoBulkEntry x + uptoBulkEntries r
def uptoBulkEntry {H : Type} : Lit × DataW H → Nat
  | (.string bytes, d) => bytes.length + uptoBulk d + 1
  | (_, d) => uptoBulk d + 1
 end
def uptoSmall : (H : Type) → List (DataW H) → Bool := fun _ ds => decide (uptoBulkAll ds ≤ 1048576)
def OpenSpec.upto (s : _root_.Go.ChangeSpec) : _root_.Go.OpenSpec := { _root_.Go.OpenSpec.ofChange s with cond := some uptoSmall }

/-- 'cardgamelaw37.PerformStays', WHERE WHAT IT READS IS OF BULK AT MOST 1048576: true; the input reads as it did. -/
def performStaysUptoRow : OpenClaim := { program := "ytchmoabpofnbaaagreat", sum := "1d8217a1bd239b9ba6de37698231063f0ad7711a5eff6912c642e03e64739d83", func := "cardgame/cardgamelaw37.PerformStays", spec := "performStays", inPlace := ["internal/bytealg.IndexByteString", "internal/bytealg.IndexString", "slices.overlaps[string]", "slices.overlaps[cardgame/api.Object]", "slices.overlaps[int]"], unfollowed := true, recurses := true, named := ["internal/bytealg.MaxLen"], apart := false, narrowed := true }
def PerformStaysUptoSaid : Prop := performStaysUptoRow.holds Tryz.pinned (OpenSpec.upto performStaysSpec)

/-- 'cardgamelaw37.PerformHurts', WHERE WHAT IT READS IS OF BULK AT MOST 1048576: true; the input reads as it did. -/
def performHurtsUptoRow : OpenClaim := { program := "ytchmoabpofnbaaagreat", sum := "1d8217a1bd239b9ba6de37698231063f0ad7711a5eff6912c642e03e64739d83", func := "cardgame/cardgamelaw37.PerformHurts", spec := "performHurts", inPlace := ["internal/bytealg.IndexByteString", "internal/bytealg.IndexString", "slices.overlaps[string]", "slices.overlaps[cardgame/api.Object]", "slices.overlaps[int]"], unfollowed := true, recurses := true, named := ["internal/bytealg.MaxLen"], apart := false, narrowed := true }
def PerformHurtsUptoSaid : Prop := performHurtsUptoRow.holds Tryz.pinned (OpenSpec.upto performHurtsSpec)

/-- 'cardgamelaw41.SbaQuiet', WHERE WHAT IT READS IS OF BULK AT MOST 1048576: true; the input reads as it did. -/
def sbaQuietUptoRow : OpenClaim := { program := "ytchmoabpofnbaaagreat", sum := "1d8217a1bd239b9ba6de37698231063f0ad7711a5eff6912c642e03e64739d83", func := "cardgame/cardgamelaw41.SbaQuiet", spec := "sbaQuiet", inPlace := ["internal/bytealg.IndexByteString", "internal/bytealg.IndexString", "slices.overlaps[string]", "slices.overlaps[cardgame/api.Object]", "slices.overlaps[int]"], unfollowed := true, recurses := true, named := ["internal/bytealg.MaxLen"], apart := false, narrowed := true }
def SbaQuietUptoSaid : Prop := sbaQuietUptoRow.holds Tryz.pinned (OpenSpec.upto sbaQuietSpec)

/-- 'cardgamelaw41.SbaNeeds', WHERE WHAT IT READS IS OF BULK AT MOST 1048576: true; the input reads as it did. -/
def sbaNeedsUptoRow : OpenClaim := { program := "ytchmoabpofnbaaagreat", sum := "1d8217a1bd239b9ba6de37698231063f0ad7711a5eff6912c642e03e64739d83", func := "cardgame/cardgamelaw41.SbaNeeds", spec := "sbaNeeds", inPlace := ["internal/bytealg.IndexByteString", "internal/bytealg.IndexString", "slices.overlaps[string]", "slices.overlaps[cardgame/api.Object]", "slices.overlaps[int]"], unfollowed := true, recurses := true, named := ["internal/bytealg.MaxLen"], apart := false, narrowed := true }
def SbaNeedsUptoSaid : Prop := sbaNeedsUptoRow.holds Tryz.pinned (OpenSpec.upto sbaNeedsSpec)

/-- 'cardgamelaw41.SbaLeaves', WHERE WHAT IT READS IS OF BULK AT MOST 1048576: true; the input reads as it did. -/
def sbaLeavesUptoRow : OpenClaim := { program := "ytchmoabpofnbaaagreat", sum := "1d8217a1bd239b9ba6de37698231063f0ad7711a5eff6912c642e03e64739d83", func := "cardgame/cardgamelaw41.SbaLeaves", spec := "sbaLeaves", inPlace := ["internal/bytealg.IndexByteString", "internal/bytealg.IndexString", "slices.overlaps[string]", "slices.overlaps[cardgame/api.Object]", "slices.overlaps[int]"], unfollowed := true, recurses := true, named := ["internal/bytealg.MaxLen"], apart := false, narrowed := true }
def SbaLeavesUptoSaid : Prop := sbaLeavesUptoRow.holds Tryz.pinned (OpenSpec.upto sbaLeavesSpec)

/-- 'cardgamelaw45.AttackIllegal', WHERE WHAT IT READS IS OF BULK AT MOST 1048576: true; the input reads as it did. -/
def attackIllegalUptoRow : OpenClaim := { program := "ytchmoabpofnbaaagreat", sum := "1d8217a1bd239b9ba6de37698231063f0ad7711a5eff6912c642e03e64739d83", func := "cardgame/cardgamelaw45.AttackIllegal", spec := "attackIllegal", inPlace := ["internal/bytealg.IndexByteString", "internal/bytealg.IndexString", "slices.overlaps[string]", "slices.overlaps[cardgame/api.Object]", "slices.overlaps[int]"], unfollowed := true, recurses := true, named := ["internal/bytealg.MaxLen"], apart := false, narrowed := true }
def AttackIllegalUptoSaid : Prop := attackIllegalUptoRow.holds Tryz.pinned (OpenSpec.upto attackIllegalSpec)

/-- 'cardgamelaw45.AttackTaps', WHERE WHAT IT READS IS OF BULK AT MOST 1048576: true; the input reads as it did. -/
def attackTapsUptoRow : OpenClaim := { program := "ytchmoabpofnbaaagreat", sum := "1d8217a1bd239b9ba6de37698231063f0ad7711a5eff6912c642e03e64739d83", func := "cardgame/cardgamelaw45.AttackTaps", spec := "attackTaps", inPlace := ["internal/bytealg.IndexByteString", "internal/bytealg.IndexString", "slices.overlaps[string]", "slices.overlaps[cardgame/api.Object]", "slices.overlaps[int]"], unfollowed := true, recurses := true, named := ["internal/bytealg.MaxLen"], apart := false, narrowed := true }
def AttackTapsUptoSaid : Prop := attackTapsUptoRow.holds Tryz.pinned (OpenSpec.upto attackTapsSpec)

/-- 'cardgamelaw45.AttackForced', WHERE WHAT IT READS IS OF BULK AT MOST 1048576: true; the input reads as it did. -/
def attackForcedUptoRow : OpenClaim := { program := "ytchmoabpofnbaaagreat", sum := "1d8217a1bd239b9ba6de37698231063f0ad7711a5eff6912c642e03e64739d83", func := "cardgame/cardgamelaw45.AttackForced", spec := "attackForced", inPlace := ["internal/bytealg.IndexByteString", "internal/bytealg.IndexString", "slices.overlaps[string]", "slices.overlaps[cardgame/api.Object]", "slices.overlaps[int]"], unfollowed := true, recurses := true, named := ["internal/bytealg.MaxLen"], apart := false, narrowed := true }
def AttackForcedUptoSaid : Prop := attackForcedUptoRow.holds Tryz.pinned (OpenSpec.upto attackForcedSpec)

/-- 'cardgamelaw46.BlockOne', WHERE WHAT IT READS IS OF BULK AT MOST 1048576: true; the input reads as it did. -/
def blockOneUptoRow : OpenClaim := { program := "ytchmoabpofnbaaagreat", sum := "1d8217a1bd239b9ba6de37698231063f0ad7711a5eff6912c642e03e64739d83", func := "cardgame/cardgamelaw46.BlockOne", spec := "blockOne", inPlace := ["internal/bytealg.IndexByteString", "internal/bytealg.IndexString", "slices.overlaps[string]", "slices.overlaps[cardgame/api.Object]", "slices.overlaps[int]"], unfollowed := true, recurses := true, named := ["internal/bytealg.MaxLen"], apart := false, narrowed := true }
def BlockOneUptoSaid : Prop := blockOneUptoRow.holds Tryz.pinned (OpenSpec.upto blockOneSpec)

end Rows
end Go.Proofs.YtchmoabpofnbaaaGreat
