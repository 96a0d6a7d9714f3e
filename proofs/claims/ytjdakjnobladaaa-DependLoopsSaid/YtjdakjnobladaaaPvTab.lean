/-
  The table of types of this seat, for the abstract interpreter Pv.
-/
import Derived.Test.YtjdakjnobladaaaPvDec
import Derived.Test.YtjdakjnobladaaaRows
namespace Go.Proofs.Ytjdakjnobladaaa
open Go Go.Pv
set_option linter.all false
def tabL : List (Nat × TI) := [
  (3, ⟨true, false, 1, (some [.int .i64 0]), (some [0]), .int .i64⟩),
  (22, ⟨true, false, 1, (some [.sl 0 [] true]), none, .slice 1 8 (some [.int .i64 0])⟩),
  (23, ⟨true, false, 1, (some [.sl 0 [] true]), none, .slice 1 24 (some [.sl 0 [] true])⟩),
  (31, ⟨true, false, 1, (some [.sl 0 [] true]), none, .slice 1 1 (some [.bool false])⟩),
  (4, ⟨true, false, 1, (some [.bool false]), (some [1]), .oth⟩),
  (35, ⟨true, false, 1, (some [.nilf]), none, .oth⟩)]

def tabF (t : TypeId) : TI := lkT tabL t
def glF (_ : Nat) : Option (List PV) := none
theorem tabLOK : madeT Try.prog tabL = infosT tabL := by kernel_rfl
def tabx (pas : Nat) (cut : List Nat) (own : List (List (Nat × Bool))) : Tab := ⟨tabF, glF, pas, cut, 0, own⟩
theorem tabxOK (pas : Nat) (cut : List Nat) (own : List (List (Nat × Bool))) : TabOK Try.prog (tabx pas cut own) := tabOK_of (gl := glF) (pas := pas) (cut := cut) (nar := 0) (own := own) tabL tabLOK
def tab : Tab := ⟨tabF, glF, 0, [], 0, []⟩
theorem tabOK : TabOK Try.prog tab := tabxOK 0 [] []
def tabc (cut : List Nat) : Tab := ⟨tabF, glF, 0, cut, 0, []⟩
theorem tabcOK (cut : List Nat) : TabOK Try.prog (tabc cut) := tabxOK 0 cut []
def tabn (cut : List Nat) (nar : Nat) : Tab := ⟨tabF, glF, 0, cut, nar, []⟩
theorem tabnOK (cut : List Nat) (nar : Nat) : TabOK Try.prog (tabn cut nar) := tabOK_of (gl := glF) (pas := 0) (cut := cut) (nar := nar) (own := []) tabL tabLOK
theorem wf : PWf Try.prog := wf_of (by kernel_rfl) (by kernel_rfl)
end Go.Proofs.Ytjdakjnobladaaa
