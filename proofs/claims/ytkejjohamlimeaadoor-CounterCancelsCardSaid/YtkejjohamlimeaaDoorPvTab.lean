/-
  The table of types of this seat, and what its package-level variable holds, for the abstract interpreter Pv.
-/
import Derived.Test.YtkejjohamlimeaaDoorPvLoop
import Derived.Test.YtkejjohamlimeaaDoorRows
namespace Go.Proofs.YtkejjohamlimeaaDoor
open Go Go.Pv
set_option linter.all false
def tabL : List (Nat × TI) := [
  (22, ⟨true, true, 3, (some [.int .i64 0, .int .i64 0, .int .i64 0]), (some [0, 0, 0]), .arr 3 1 false⟩),
  (3, ⟨true, false, 1, (some [.int .i64 0]), (some [0]), .int .i64⟩),
  (9, ⟨true, false, 1, (some [.str ⟨#[]⟩]), (some [2]), .str⟩),
  (4, ⟨true, false, 1, (some [.bool false]), (some [1]), .oth⟩),
  (38, ⟨true, false, 1, (some [.sl 0 [] true]), none, .slice 1 16 (some [.str ⟨#[]⟩])⟩),
  (39, ⟨true, true, 3, (some [.str ⟨#[]⟩, .str ⟨#[]⟩, .str ⟨#[]⟩]), (some [2, 2, 2]), .arr 3 1 false⟩),
  (41, ⟨true, false, 1, (some [.sl 0 [] true]), none, .slice 1 8 (some [.int .i64 0])⟩)]

def tabF (t : TypeId) : TI := lkT tabL t
def names : List PV := [.str ⟨#[112, 108, 117, 115]⟩, .str ⟨#[109, 105, 110, 117, 115]⟩, .str ⟨#[99, 104, 97, 114, 103, 101]⟩]
def glF (g : Nat) : Option (List PV) := match g with | 0 => some names | _ => none
def tab : Tab := ⟨tabF, glF, 0, false⟩
theorem tabOK : TabOK Tryd.prog tab := tabOK_of (gl := glF) (pas := 0) (cut := false) tabL (by kernel_rfl)
theorem wf : PWf Tryd.prog := wf_of (by kernel_rfl) (by kernel_rfl)
end Go.Proofs.YtkejjohamlimeaaDoor
