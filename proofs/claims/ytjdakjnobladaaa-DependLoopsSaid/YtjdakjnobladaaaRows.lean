/-
  No cell of these rows narrows 'for every input' (looked for: loops, veiled, ifaces, maps, wideKeys, modest, calm, conditions, laid).
  DERIVED. THE GIVEN ROWS OF THIS SEAT. 6 by the template 'for every input the law returns true; each argument reads behind the call as it read before'; 0 by the template 'total and deterministic' (their statements: YtjdakjnobladaaaTotals.lean).
  GIVEN WITH THE SEED: the statements are not yours to turn. If you find one false, say at which input.
  Laid BY PROGRAM, IN A SANDBOX (cutbox-rows.mjs): the forced cells as the released guide's own fill.sh prints them over the translation 75c94bcbc89b8b1c… (all of the seat's roots in one cut). By AI agents, Wed Nov 11 2026. No macro, syntax, notation, axiom, sorry.
-/
import Derived.Test.YtjdakjnobladaaaChecked
import GoSem.Claim
import GoSem.ClaimJoined
import GoSem.ClaimMapViews
import Derived.JoinedTies
import Derived.KernelRfl
namespace Go.Proofs.Ytjdakjnobladaaa
/- THE CELL 'sum', in the pinned program and in every row, IS THE sha256 OF THE DUMP (.gsa) THAT YtjdakjnobladaaaProg.lean LOADS. Nothing in Lean hashes anything: it is a label: what it is worth is what the hold of that sum in a sandbox is worth. -/
noncomputable def Try.pinned : Pinned := { name := "ytjdakjnobladaaa", sum := "75c94bcbc89b8b1c36dc59f591fcbb493ceee616af9bf4af4dc20d9ad7a910c3", checked := Try.checked }
namespace Rows
def none {H : Type} : Left H := { results := [], args := [] }

/-- 'cardgamelaw07.DependReady': WHATEVER THE INPUT: true; the input reads as it did. -/
def dependReadySpec : ChangeSpec := { name := "dependReady", fn := fun _ => fun
  | [d1, d2] => { results := [.lit (.bool true)], args := [d1, d2] }
  | _ => none }
def dependReadyRow : OpenClaim := { program := "ytjdakjnobladaaa", sum := "75c94bcbc89b8b1c36dc59f591fcbb493ceee616af9bf4af4dc20d9ad7a910c3", func := "cardgame/cardgamelaw07.DependReady", spec := "dependReady", unfollowed := true, recurses := true, apart := false }
def DependReadySaid : Prop := dependReadyRow.holds Try.pinned (OpenSpec.ofChange dependReadySpec)

/-- ITS FALSE NEIGHBOUR: 'it returns false'. Refute it at one input. -/
def dependReadyWrong : ChangeSpec := { name := "dependReady", fn := fun _ => fun
  | [d1, d2] => { results := [.lit (.bool false)], args := [d1, d2] }
  | _ => none }
def DependReadyWrongFalsely : Prop := dependReadyRow.holds Try.pinned (OpenSpec.ofChange dependReadyWrong)

/-- 'cardgamelaw07.DependNext': WHATEVER THE INPUT: true; the input reads as it did. -/
def dependNextSpec : ChangeSpec := { name := "dependNext", fn := fun _ => fun
  | [d1, d2, d3] => { results := [.lit (.bool true)], args := [d1, d2, d3] }
  | _ => none }
def dependNextRow : OpenClaim := { program := "ytjdakjnobladaaa", sum := "75c94bcbc89b8b1c36dc59f591fcbb493ceee616af9bf4af4dc20d9ad7a910c3", func := "cardgame/cardgamelaw07.DependNext", spec := "dependNext", unfollowed := true, recurses := true, apart := false }
def DependNextSaid : Prop := dependNextRow.holds Try.pinned (OpenSpec.ofChange dependNextSpec)

/-- ITS FALSE NEIGHBOUR: 'it returns false'. Refute it at one input. -/
def dependNextWrong : ChangeSpec := { name := "dependNext", fn := fun _ => fun
  | [d1, d2, d3] => { results := [.lit (.bool false)], args := [d1, d2, d3] }
  | _ => none }
def DependNextWrongFalsely : Prop := dependNextRow.holds Try.pinned (OpenSpec.ofChange dependNextWrong)

/-- 'cardgamelaw07.DependOrder': WHATEVER THE INPUT: true; the input reads as it did. -/
def dependOrderSpec : ChangeSpec := { name := "dependOrder", fn := fun _ => fun
  | [d1, d2] => { results := [.lit (.bool true)], args := [d1, d2] }
  | _ => none }
def dependOrderRow : OpenClaim := { program := "ytjdakjnobladaaa", sum := "75c94bcbc89b8b1c36dc59f591fcbb493ceee616af9bf4af4dc20d9ad7a910c3", func := "cardgame/cardgamelaw07.DependOrder", spec := "dependOrder", unfollowed := true, recurses := true, apart := false }
def DependOrderSaid : Prop := dependOrderRow.holds Try.pinned (OpenSpec.ofChange dependOrderSpec)

/-- ITS FALSE NEIGHBOUR: 'it returns false'. Refute it at one input. -/
def dependOrderWrong : ChangeSpec := { name := "dependOrder", fn := fun _ => fun
  | [d1, d2] => { results := [.lit (.bool false)], args := [d1, d2] }
  | _ => none }
def DependOrderWrongFalsely : Prop := dependOrderRow.holds Try.pinned (OpenSpec.ofChange dependOrderWrong)

/-- 'cardgamelaw07.DependAll': WHATEVER THE INPUT: true; the input reads as it did. -/
def dependAllSpec : ChangeSpec := { name := "dependAll", fn := fun _ => fun
  | [d1, d2] => { results := [.lit (.bool true)], args := [d1, d2] }
  | _ => none }
def dependAllRow : OpenClaim := { program := "ytjdakjnobladaaa", sum := "75c94bcbc89b8b1c36dc59f591fcbb493ceee616af9bf4af4dc20d9ad7a910c3", func := "cardgame/cardgamelaw07.DependAll", spec := "dependAll", unfollowed := true, recurses := true, apart := false }
def DependAllSaid : Prop := dependAllRow.holds Try.pinned (OpenSpec.ofChange dependAllSpec)

/-- ITS FALSE NEIGHBOUR: 'it returns false'. Refute it at one input. -/
def dependAllWrong : ChangeSpec := { name := "dependAll", fn := fun _ => fun
  | [d1, d2] => { results := [.lit (.bool false)], args := [d1, d2] }
  | _ => none }
def DependAllWrongFalsely : Prop := dependAllRow.holds Try.pinned (OpenSpec.ofChange dependAllWrong)

/-- 'cardgamelaw07.DependOrders': WHATEVER THE INPUT: true; the input reads as it did. -/
def dependOrdersSpec : ChangeSpec := { name := "dependOrders", fn := fun _ => fun
  | [d1, d2] => { results := [.lit (.bool true)], args := [d1, d2] }
  | _ => none }
def dependOrdersRow : OpenClaim := { program := "ytjdakjnobladaaa", sum := "75c94bcbc89b8b1c36dc59f591fcbb493ceee616af9bf4af4dc20d9ad7a910c3", func := "cardgame/cardgamelaw07.DependOrders", spec := "dependOrders", unfollowed := true, recurses := true, apart := false }
def DependOrdersSaid : Prop := dependOrdersRow.holds Try.pinned (OpenSpec.ofChange dependOrdersSpec)

/-- ITS FALSE NEIGHBOUR: 'it returns false'. Refute it at one input. -/
def dependOrdersWrong : ChangeSpec := { name := "dependOrders", fn := fun _ => fun
  | [d1, d2] => { results := [.lit (.bool false)], args := [d1, d2] }
  | _ => none }
def DependOrdersWrongFalsely : Prop := dependOrdersRow.holds Try.pinned (OpenSpec.ofChange dependOrdersWrong)

/-- 'cardgamelaw07.DependLoops': WHATEVER THE INPUT: true; the input reads as it did. -/
def dependLoopsSpec : ChangeSpec := { name := "dependLoops", fn := fun _ => fun
  | [d] => { results := [.lit (.bool true)], args := [d] }
  | _ => none }
def dependLoopsRow : OpenClaim := { program := "ytjdakjnobladaaa", sum := "75c94bcbc89b8b1c36dc59f591fcbb493ceee616af9bf4af4dc20d9ad7a910c3", func := "cardgame/cardgamelaw07.DependLoops", spec := "dependLoops", unfollowed := true, recurses := true, apart := false }
def DependLoopsSaid : Prop := dependLoopsRow.holds Try.pinned (OpenSpec.ofChange dependLoopsSpec)

/-- ITS FALSE NEIGHBOUR: 'it returns false'. Refute it at one input. -/
def dependLoopsWrong : ChangeSpec := { name := "dependLoops", fn := fun _ => fun
  | [d] => { results := [.lit (.bool false)], args := [d] }
  | _ => none }
def DependLoopsWrongFalsely : Prop := dependLoopsRow.holds Try.pinned (OpenSpec.ofChange dependLoopsWrong)

/- THE SECOND FORM. 'bulk': how many values and letters a reading holds, each counted each time it is reached (what is shared counts as often as it is met; a slice's spare places count too). A statement '..UptoSaid' is the law's where the arguments, and the package variables that the reading takes, are together of bulk at most 1048576: NARROWER than '..Said'. Prove '..Said' where nothing that the law and all that it calls make is longer than what came in: it says more and counts as full. Else prove '..UptoSaid'. A law counts once. -/
mutual
def uptoBulk {H : Type} : DataW H → Nat
  | .lit (.string bytes) => bytes.length + 1
  | .lit _ => 1
  | .nil => 1
  | .ptr d => uptoBulk d + 1
  | .slice elems spare => uptoBulkAll elems + uptoBulkAll spare + 1
  | .agg parts => uptoBulkAll parts + 1
  | .iface _ d => uptoBulk d + 1
  | .map entries => uptoBulkEntries entries + 1
  | .held _ => 1
def uptoBulkAll {H : Type} : List (DataW H) → Nat
  | [] => 0
  | d :: r => uptoBulk d + uptoBulkAll r
def uptoBulkEntries {H : Type} : List (Lit × DataW H) → Nat
  | [] => 0
  | x :: r => uptoBulkEntry x + uptoBulkEntries r
def uptoBulkEntry {H : Type} : Lit × DataW H → Nat
  | (.string bytes, d) => bytes.length + uptoBulk d + 1
  | (_, d) => uptoBulk d + 1
 end
def uptoSmall : (H : Type) → List (DataW H) → Bool := fun _ ds => decide (uptoBulkAll ds ≤ 1048576)
def OpenSpec.upto (s : _root_.Go.ChangeSpec) : _root_.Go.OpenSpec := { _root_.Go.OpenSpec.ofChange s with cond := some uptoSmall }

/-- 'cardgamelaw07.DependReady', WHERE WHAT IT READS IS OF BULK AT MOST 1048576: true; the input reads as it did. -/
def dependReadyUptoRow : OpenClaim := { program := "ytjdakjnobladaaa", sum := "75c94bcbc89b8b1c36dc59f591fcbb493ceee616af9bf4af4dc20d9ad7a910c3", func := "cardgame/cardgamelaw07.DependReady", spec := "dependReady", unfollowed := true, recurses := true, apart := false, narrowed := true }
def DependReadyUptoSaid : Prop := dependReadyUptoRow.holds Try.pinned (OpenSpec.upto dependReadySpec)

/-- 'cardgamelaw07.DependNext', WHERE WHAT IT READS IS OF BULK AT MOST 1048576: true; the input reads as it did. -/
def dependNextUptoRow : OpenClaim := { program := "ytjdakjnobladaaa", sum := "75c94bcbc89b8b1c36dc59f591fcbb493ceee616af9bf4af4dc20d9ad7a910c3", func := "cardgame/cardgamelaw07.DependNext", spec := "dependNext", unfollowed := true, recurses := true, apart := false, narrowed := true }
def DependNextUptoSaid : Prop := dependNextUptoRow.holds Try.pinned (OpenSpec.upto dependNextSpec)

/-- 'cardgamelaw07.DependOrder', WHERE WHAT IT READS IS OF BULK AT MOST 1048576: true; the input reads as it did. -/
def dependOrderUptoRow : OpenClaim := { program := "ytjdakjnobladaaa", sum := "75c94bcbc89b8b1c36dc59f591fcbb493ceee616af9bf4af4dc20d9ad7a910c3", func := "cardgame/cardgamelaw07.DependOrder", spec := "dependOrder", unfollowed := true, recurses := true, apart := false, narrowed := true }
def DependOrderUptoSaid : Prop := dependOrderUptoRow.holds Try.pinned (OpenSpec.upto dependOrderSpec)

/-- 'cardgamelaw07.DependAll', WHERE WHAT IT READS IS OF BULK AT MOST 1048576: true; the input reads as it did. -/
def dependAllUptoRow : OpenClaim := { program := "ytjdakjnobladaaa", sum := "75c94bcbc89b8b1c36dc59f591fcbb493ceee616af9bf4af4dc20d9ad7a910c3", func := "cardgame/cardgamelaw07.DependAll", spec := "dependAll", unfollowed := true, recurses := true, apart := false, narrowed := true }
def DependAllUptoSaid : Prop := dependAllUptoRow.holds Try.pinned (OpenSpec.upto dependAllSpec)

/-- 'cardgamelaw07.DependOrders', WHERE WHAT IT READS IS OF BULK AT MOST 1048576: true; the input reads as it did. -/
def dependOrdersUptoRow : OpenClaim := { program := "ytjdakjnobladaaa", sum := "75c94bcbc89b8b1c36dc59f591fcbb493ceee616af9bf4af4dc20d9ad7a910c3", func := "cardgame/cardgamelaw07.DependOrders", spec := "dependOrders", unfollowed := true, recurses := true, apart := false, narrowed := true }
def DependOrdersUptoSaid : Prop := dependOrdersUptoRow.holds Try.pinned (OpenSpec.upto dependOrdersSpec)

/-- 'cardgamelaw07.DependLoops', WHERE WHAT IT READS IS OF BULK AT MOST 1048576: true; the input reads as it did. -/
def dependLoopsUptoRow : OpenClaim := { program := "ytjdakjnobladaaa", sum := "75c94bcbc89b8b1c36dc59f591fcbb493ceee616af9bf4af4dc20d9ad7a910c3", func := "cardgame/cardgamelaw07.DependLoops", spec := "dependLoops", unfollowed := true, recurses := true, apart := false, narrowed := true }
def DependLoopsUptoSaid : Prop := dependLoopsUptoRow.holds Try.pinned (OpenSpec.upto dependLoopsSpec)

end Rows
end Go.Proofs.Ytjdakjnobladaaa
