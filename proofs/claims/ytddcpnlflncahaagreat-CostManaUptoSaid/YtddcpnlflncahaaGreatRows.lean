/-
  No cell of these rows narrows 'for every input' (looked for: loops, veiled, ifaces, maps, wideKeys, modest, calm, conditions, laid).
  DERIVED. THE GIVEN ROWS OF THIS SEAT. 5 by the template 'for every input the law returns true; each argument reads behind the call as it read before'; 0 by the template 'total and deterministic' (their statements: YtddcpnlflncahaaGreatTotals.lean).
  GIVEN WITH THE SEED: the statements are not yours to turn. If you find one false, say at which input.
  Laid BY PROGRAM, IN A SANDBOX (cutbox-rows.mjs): the forced cells as the released guide's own fill.sh prints them over the translation e89fc793610aa617… (all of the seat's roots in one cut). By AI agents, Wed Nov 11 2026. No macro, syntax, notation, axiom, sorry.
-/
import Derived.Test.YtddcpnlflncahaaGreatChecked
import GoSem.Claim
import GoSem.ClaimJoined
import GoSem.ClaimMapViews
import Derived.JoinedTies
import Derived.KernelRfl
namespace Go.Proofs.YtddcpnlflncahaaGreat
/- THE CELL 'sum', in the pinned program and in every row, IS THE sha256 OF THE DUMP (.gsa) THAT YtddcpnlflncahaaGreatProg.lean LOADS. Nothing in Lean hashes anything: it is a label: what it is worth is what the hold of that sum in a sandbox is worth. -/
noncomputable def Tryz.pinned : Pinned := { name := "ytddcpnlflncahaagreat", sum := "e89fc793610aa617a5a80cfd3f622127cab760cf1e48506d2d18b1649ca2204c", checked := Tryz.checked }
namespace Rows
def none {H : Type} : Left H := { results := [], args := [] }

/-- 'cardgamelaw48.TurnNext': WHATEVER THE INPUT: true; the input reads as it did. -/
def turnNextSpec : ChangeSpec := { name := "turnNext", fn := fun _ => fun
  | [d1, d2] => { results := [.lit (.bool true)], args := [d1, d2] }
  | _ => none }
def turnNextRow : OpenClaim := { program := "ytddcpnlflncahaagreat", sum := "e89fc793610aa617a5a80cfd3f622127cab760cf1e48506d2d18b1649ca2204c", func := "cardgame/cardgamelaw48.TurnNext", spec := "turnNext", unfollowed := true, recurses := true, apart := false }
def TurnNextSaid : Prop := turnNextRow.holds Tryz.pinned (OpenSpec.ofChange turnNextSpec)

/-- ITS FALSE NEIGHBOUR: 'it returns false'. Refute it at one input. -/
def turnNextWrong : ChangeSpec := { name := "turnNext", fn := fun _ => fun
  | [d1, d2] => { results := [.lit (.bool false)], args := [d1, d2] }
  | _ => none }
def TurnNextWrongFalsely : Prop := turnNextRow.holds Tryz.pinned (OpenSpec.ofChange turnNextWrong)

/-- 'cardgamelaw48.TurnSteps': WHATEVER THE INPUT: true; the input reads as it did. -/
def turnStepsSpec : ChangeSpec := { name := "turnSteps", fn := fun _ => fun
  | [d1, d2] => { results := [.lit (.bool true)], args := [d1, d2] }
  | _ => none }
def turnStepsRow : OpenClaim := { program := "ytddcpnlflncahaagreat", sum := "e89fc793610aa617a5a80cfd3f622127cab760cf1e48506d2d18b1649ca2204c", func := "cardgame/cardgamelaw48.TurnSteps", spec := "turnSteps", unfollowed := true, recurses := true, apart := false }
def TurnStepsSaid : Prop := turnStepsRow.holds Tryz.pinned (OpenSpec.ofChange turnStepsSpec)

/-- ITS FALSE NEIGHBOUR: 'it returns false'. Refute it at one input. -/
def turnStepsWrong : ChangeSpec := { name := "turnSteps", fn := fun _ => fun
  | [d1, d2] => { results := [.lit (.bool false)], args := [d1, d2] }
  | _ => none }
def TurnStepsWrongFalsely : Prop := turnStepsRow.holds Tryz.pinned (OpenSpec.ofChange turnStepsWrong)

/-- 'cardgamelaw48.TurnLast': WHATEVER THE INPUT: true; the input reads as it did. -/
def turnLastSpec : ChangeSpec := { name := "turnLast", fn := fun _ => fun
  | [d1, d2] => { results := [.lit (.bool true)], args := [d1, d2] }
  | _ => none }
def turnLastRow : OpenClaim := { program := "ytddcpnlflncahaagreat", sum := "e89fc793610aa617a5a80cfd3f622127cab760cf1e48506d2d18b1649ca2204c", func := "cardgame/cardgamelaw48.TurnLast", spec := "turnLast", unfollowed := true, recurses := true, apart := false }
def TurnLastSaid : Prop := turnLastRow.holds Tryz.pinned (OpenSpec.ofChange turnLastSpec)

/-- ITS FALSE NEIGHBOUR: 'it returns false'. Refute it at one input. -/
def turnLastWrong : ChangeSpec := { name := "turnLast", fn := fun _ => fun
  | [d1, d2] => { results := [.lit (.bool false)], args := [d1, d2] }
  | _ => none }
def TurnLastWrongFalsely : Prop := turnLastRow.holds Tryz.pinned (OpenSpec.ofChange turnLastWrong)

/-- 'cardgamelaw39.CostMana': WHATEVER THE INPUT: true; the input reads as it did. -/
def costManaSpec : ChangeSpec := { name := "costMana", fn := fun _ => fun
  | [d1, d2, d3] => { results := [.lit (.bool true)], args := [d1, d2, d3] }
  | _ => none }
def costManaRow : OpenClaim := { program := "ytddcpnlflncahaagreat", sum := "e89fc793610aa617a5a80cfd3f622127cab760cf1e48506d2d18b1649ca2204c", func := "cardgame/cardgamelaw39.CostMana", spec := "costMana", unfollowed := true, recurses := true, apart := false }
def CostManaSaid : Prop := costManaRow.holds Tryz.pinned (OpenSpec.ofChange costManaSpec)

/-- ITS FALSE NEIGHBOUR: 'it returns false'. Refute it at one input. -/
def costManaWrong : ChangeSpec := { name := "costMana", fn := fun _ => fun
  | [d1, d2, d3] => { results := [.lit (.bool false)], args := [d1, d2, d3] }
  | _ => none }
def CostManaWrongFalsely : Prop := costManaRow.holds Tryz.pinned (OpenSpec.ofChange costManaWrong)

/-- 'cardgamelaw39.CostUses': WHATEVER THE INPUT: true; the input reads as it did. -/
def costUsesSpec : ChangeSpec := { name := "costUses", fn := fun _ => fun
  | [d] => { results := [.lit (.bool true)], args := [d] }
  | _ => none }
def costUsesRow : OpenClaim := { program := "ytddcpnlflncahaagreat", sum := "e89fc793610aa617a5a80cfd3f622127cab760cf1e48506d2d18b1649ca2204c", func := "cardgame/cardgamelaw39.CostUses", spec := "costUses", unfollowed := true, recurses := true, apart := false }
def CostUsesSaid : Prop := costUsesRow.holds Tryz.pinned (OpenSpec.ofChange costUsesSpec)

/-- ITS FALSE NEIGHBOUR: 'it returns false'. Refute it at one input. -/
def costUsesWrong : ChangeSpec := { name := "costUses", fn := fun _ => fun
  | [d] => { results := [.lit (.bool false)], args := [d] }
  | _ => none }
def CostUsesWrongFalsely : Prop := costUsesRow.holds Tryz.pinned (OpenSpec.ofChange costUsesWrong)

/- THE SECOND FORM. 'bulk': how many values and letters a reading holds, each counted each time it is reached (what is shared counts as often as it is met; a slice's spare places count too). A statement '..UptoSaid' is the law's where the arguments, and the package variables that the reading takes, are together of bulk at most 1048576: NARROWER than '..Said'. Prove '..Said' where nothing that the law and all that it calls make is longer than what came in: it says more and counts as full. Else prove '..UptoSaid'. A law counts once. -/
mutual
def uptoBulk {H : Type} : DataW H → Nat
  | .lit (.string bytes) => bytes.length + 1
  | .lit _ => 1
  | .nil => 1
  | .ptr d => uptoBulk d + 1
  | .slice elems spare => uptoBulkAll elems + uptoBulkAll spare + 1
  | .agg parts => uptoBulkAll parts + 1
  | .iface _ d => uptoBulk d + 1
  | .map entries => uptoBulkEntries entries + 1
  | .held _ => 1
def uptoBulkAll {H : Type} : List (DataW H) → Nat
  | [] => 0
  | d :: r => uptoBulk d + uptoBulkAll r
def uptoBulkEntries {H : Type} : List (Lit × DataW H) → Nat
  | [] => 0
  | x :: r => uptoBulkEntry x + uptoBulkEntries r
def uptoBulkEntry {H : Type} : Lit × DataW H → Nat
  | (.string bytes, d) => bytes.length + uptoBulk d + 1
  | (_, d) => uptoBulk d + 1
 end
def uptoSmall : (H : Type) → List (DataW H) → Bool := fun _ ds => decide (uptoBulkAll ds ≤ 1048576)
def OpenSpec.upto (s : _root_.Go.ChangeSpec) : _root_.Go.OpenSpec := { _root_.Go.OpenSpec.ofChange s with cond := some uptoSmall }

/-- 'cardgamelaw48.TurnNext', WHERE WHAT IT READS IS OF BULK AT MOST 1048576: true; the input reads as it did. -/
def turnNextUptoRow : OpenClaim := { program := "ytddcpnlflncahaagreat", sum := "e89fc793610aa617a5a80cfd3f622127cab760cf1e48506d2d18b1649ca2204c", func := "cardgame/cardgamelaw48.TurnNext", spec := "turnNext", unfollowed := true, recurses := true, apart := false, narrowed := true }
def TurnNextUptoSaid : Prop := turnNextUptoRow.holds Tryz.pinned (OpenSpec.upto turnNextSpec)

/-- 'cardgamelaw48.TurnSteps', WHERE WHAT IT READS IS OF BULK AT MOST 1048576: true; the input reads as it did. -/
def turnStepsUptoRow : OpenClaim := { program := "ytddcpnlflncahaagreat", sum := "e89fc793610aa617a5a80cfd3f622127cab760cf1e48506d2d18b1649ca2204c", func := "cardgame/cardgamelaw48.TurnSteps", spec := "turnSteps", unfollowed := true, recurses := true, apart := false, narrowed := true }
def TurnStepsUptoSaid : Prop := turnStepsUptoRow.holds Tryz.pinned (OpenSpec.upto turnStepsSpec)

/-- 'cardgamelaw48.TurnLast', WHERE WHAT IT READS IS OF BULK AT MOST 1048576: true; the input reads as it did. -/
def turnLastUptoRow : OpenClaim := { program := "ytddcpnlflncahaagreat", sum := "e89fc793610aa617a5a80cfd3f622127cab760cf1e48506d2d18b1649ca2204c", func := "cardgame/cardgamelaw48.TurnLast", spec := "turnLast", unfollowed := true, recurses := true, apart := false, narrowed := true }
def TurnLastUptoSaid : Prop := turnLastUptoRow.holds Tryz.pinned (OpenSpec.upto turnLastSpec)

/-- 'cardgamelaw39.CostMana', WHERE WHAT IT READS IS OF BULK AT MOST 1048576: true; the input reads as it did. -/
def costManaUptoRow : OpenClaim := { program := "ytddcpnlflncahaagreat", sum := "e89fc793610aa617a5a80cfd3f622127cab760cf1e48506d2d18b1649ca2204c", func := "cardgame/cardgamelaw39.CostMana", spec := "costMana", unfollowed := true, recurses := true, apart := false, narrowed := true }
def CostManaUptoSaid : Prop := costManaUptoRow.holds Tryz.pinned (OpenSpec.upto costManaSpec)

/-- 'cardgamelaw39.CostUses', WHERE WHAT IT READS IS OF BULK AT MOST 1048576: true; the input reads as it did. -/
def costUsesUptoRow : OpenClaim := { program := "ytddcpnlflncahaagreat", sum := "e89fc793610aa617a5a80cfd3f622127cab760cf1e48506d2d18b1649ca2204c", func := "cardgame/cardgamelaw39.CostUses", spec := "costUses", unfollowed := true, recurses := true, apart := false, narrowed := true }
def CostUsesUptoSaid : Prop := costUsesUptoRow.holds Tryz.pinned (OpenSpec.upto costUsesSpec)

end Rows
end Go.Proofs.YtddcpnlflncahaaGreat
