/-
  NARROWER THAN 'FOR EVERY INPUT', by the rows' own cells (each row's printed sentence says how): ResolveNothing: laid.
  DERIVED. THE GIVEN ROWS OF THIS SEAT. 1 by the template 'for every input the law returns true; each argument reads behind the call as it read before'; 0 by the template 'total and deterministic' (their statements: YthfepelpmalckaaGreatDoorTotals.lean).
  GIVEN WITH THE SEED: the statements are not yours to turn. If you find one false, say at which input.
  Laid BY PROGRAM, IN A SANDBOX (cutbox-rows.mjs): the forced cells as the released guide's own fill.sh prints them over the translation 0ec9b8c490c16710… (all of the seat's roots in one cut). By AI agents, Wed Nov 11 2026. No macro, syntax, notation, axiom, sorry.
-/
import Derived.Test.YthfepelpmalckaaGreatDoorChecked
import GoSem.Claim
import GoSem.ClaimJoined
import GoSem.ClaimMapViews
import Derived.JoinedTies
import Derived.KernelRfl
namespace Go.Proofs.YthfepelpmalckaaGreatDoor
/- THE CELL 'sum', in the pinned program and in every row, IS THE sha256 OF THE DUMP (.gsa) THAT YthfepelpmalckaaGreatDoorProg.lean LOADS. Nothing in Lean hashes anything: it is a label: what it is worth is what the hold of that sum in a sandbox is worth. -/
noncomputable def Tryz.pinned : Pinned := { name := "ythfepelpmalckaagreatdoor", sum := "0ec9b8c490c167100165ca6ad985d737cbd6cd709ff5f10281bcbf958ae60431", checked := Tryz.checked }
namespace Rows
def none {H : Type} : Left H := { results := [], args := [] }

/- WHAT THE LISTED PACKAGE-LEVEL VARIABLES READ AS WHEN THE CALL BEGINS. Each datum BY PROGRAM (the guide's laid-datum.mjs) off the statement by which the dump's own 'gosem.cut.vars' lays the variable. In a bare row this is a premise. The card (YthfepelpmalckaaGreatDoorCards.lean) ties it to the program's text. -/
def laid_cardgame_counter_names {H : Type} : DataW H := .agg [.lit (.string [112, 108, 117, 115]), .lit (.string [109, 105, 110, 117, 115]), .lit (.string [99, 104, 97, 114, 103, 101])]

/-- 'cardgamelaw40.ResolveNothing': WHATEVER THE INPUT: true; the input reads as it did. -/
def resolveNothingSpec : ChangeSpec := { name := "resolveNothing", fn := fun _ => fun
  | [d1, d2, d3] => { results := [.lit (.bool true)], args := [d1, d2, d3] }
  | _ => none }
def resolveNothingRow : OpenClaim := { program := "ythfepelpmalckaagreatdoor", sum := "0ec9b8c490c167100165ca6ad985d737cbd6cd709ff5f10281bcbf958ae60431", func := "cardgame/cardgamelaw40.ResolveNothing", spec := "resolveNothing", inPlace := ["internal/bytealg.IndexByteString", "internal/bytealg.IndexString", "slices.overlaps[string]", "slices.overlaps[cardgame/api.Object]", "slices.overlaps[int]"], unfollowed := true, recurses := true, named := ["internal/bytealg.MaxLen", "cardgame/counter.names"], apart := false, laid := [("cardgame/counter.names", laid_cardgame_counter_names)] }
def ResolveNothingSaid : Prop := resolveNothingRow.holds Tryz.pinned (OpenSpec.ofChange resolveNothingSpec)

/-- ITS FALSE NEIGHBOUR: 'it returns false'. Refute it at one input. -/
def resolveNothingWrong : ChangeSpec := { name := "resolveNothing", fn := fun _ => fun
  | [d1, d2, d3] => { results := [.lit (.bool false)], args := [d1, d2, d3] }
  | _ => none }
def ResolveNothingWrongFalsely : Prop := resolveNothingRow.holds Tryz.pinned (OpenSpec.ofChange resolveNothingWrong)

/- THE SECOND FORM. 'bulk': how many values and letters a reading holds, each counted each time it is reached (what is shared counts as often as it is met; a slice's spare places count too). A statement '..UptoSaid' is the law's where the arguments, and the package variables that the reading takes, are together of bulk at most 1048576: NARROWER than '..Said'. Prove '..Said' where nothing that the law and all that it calls make is longer than what came in: it says more and counts as full. Else prove '..UptoSaid'. A law counts once. -/
mutual
def uptoBulk {H : Type} : DataW H → Nat
  | .lit (.string bytes) => bytes.length + 1
  | .lit _ => 1
  | .nil => 1
  | .ptr d => uptoBulk d + 1
  | .slice elems spare => uptoBulkAll elems + uptoBulkAll spare + 1
  | .agg parts => uptoBulkAll parts + 1
  | .iface _ d => uptoBulk d + 1
  | .map entries => uptoBulkEntries entries + 1
  | .held _ => 1
def uptoBulkAll {H : Type} : List (DataW H) → Nat
  | [] => 0
  | d :: r => uptoBulk d + uptoBulkAll r
def uptoBulkEntries {H : Type} : List (Lit × DataW H) → Nat
  | [] => 0
  | x :: r => uptoBulkEntry x + uptoBulkEntries r
def uptoBulkEntry {H : Type} : Lit × DataW H → Nat
  | (.string bytes, d) => bytes.length + uptoBulk d + 1
  | (_, d) => uptoBulk d + 1
 end
def uptoSmall : (H : Type) → List (DataW H) → Bool := fun _ ds => decide (uptoBulkAll ds ≤ 1048576)
def OpenSpec.upto (s : _root_.Go.ChangeSpec) : _root_.Go.OpenSpec := { _root_.Go.OpenSpec.ofChange s with cond := some uptoSmall }

/-- 'cardgamelaw40.ResolveNothing', WHERE WHAT IT READS IS OF BULK AT MOST 1048576: true; the input reads as it did. -/
def resolveNothingUptoRow : OpenClaim := { program := "ythfepelpmalckaagreatdoor", sum := "0ec9b8c490c167100165ca6ad985d737cbd6cd709ff5f10281bcbf958ae60431", func := "cardgame/cardgamelaw40.ResolveNothing", spec := "resolveNothing", inPlace := ["internal/bytealg.IndexByteString", "internal/bytealg.IndexString", "slices.overlaps[string]", "slices.overlaps[cardgame/api.Object]", "slices.overlaps[int]"], unfollowed := true, recurses := true, named := ["internal/bytealg.MaxLen", "cardgame/counter.names"], apart := false, laid := [("cardgame/counter.names", laid_cardgame_counter_names)], narrowed := true }
def ResolveNothingUptoSaid : Prop := resolveNothingUptoRow.holds Tryz.pinned (OpenSpec.upto resolveNothingSpec)

end Rows
end Go.Proofs.YthfepelpmalckaaGreatDoor
