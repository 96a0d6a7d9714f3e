/-
  The table of types of this seat, for the abstract interpreter Pv.
-/
import Derived.Test.YtkejjohamlimeaaPvLoop
import Derived.Test.YtkejjohamlimeaaRows
namespace Go.Proofs.Ytkejjohamlimeaa
open Go Go.Pv
set_option linter.all false
def tabL : List (Nat × TI) := [
  (24, ⟨true, true, 19, (some [.int .i64 0, .int .i64 0, .int .i64 0, .int .i64 0, .int .i64 0, .bool false, .bool false, .bool false, .bool false, .int .i64 0, .int .i64 0, .int .i64 0, .int .i64 0, .int .i64 0, .int .i64 0, .int .i64 0, .bool false, .int .i64 0, .int .i64 0]), (some [0, 0, 0, 0, 0, 1, 1, 1, 1, 0, 0, 0, 0, 0, 0, 0, 1, 0, 0]), .struct [⟨0, 1, false⟩, ⟨1, 1, false⟩, ⟨2, 1, false⟩, ⟨3, 1, false⟩, ⟨4, 1, false⟩, ⟨5, 1, false⟩, ⟨6, 1, false⟩, ⟨7, 1, false⟩, ⟨8, 1, false⟩, ⟨9, 1, false⟩, ⟨10, 3, true⟩, ⟨13, 1, false⟩, ⟨14, 1, false⟩, ⟨15, 1, false⟩, ⟨16, 1, false⟩, ⟨17, 1, false⟩, ⟨18, 1, false⟩]⟩),
  (3, ⟨true, false, 1, (some [.int .i64 0]), (some [0]), .int .i64⟩),
  (25, ⟨true, true, 4, (some [.int .i64 0, .int .i64 0, .int .i64 0, .int .i64 0]), (some [0, 0, 0, 0]), .arr 4 1 false⟩),
  (4, ⟨true, false, 1, (some [.bool false]), (some [1]), .oth⟩),
  (22, ⟨true, true, 3, (some [.int .i64 0, .int .i64 0, .int .i64 0]), (some [0, 0, 0]), .arr 3 1 false⟩),
  (33, ⟨true, true, 2, (some [.int .i64 0, .int .i64 0]), (some [0, 0]), .arr 2 1 false⟩),
  (38, ⟨true, false, 1, (some [.sl 0 [] true]), none, .slice 1 8 (some [.int .i64 0])⟩)]

def tabF (t : TypeId) : TI := lkT tabL t
def glF (_ : Nat) : Option (List PV) := none
def tab : Tab := ⟨tabF, glF, 0, false⟩
theorem tabOK : TabOK Try.prog tab := tabOK_of (gl := glF) (pas := 0) (cut := false) tabL (by kernel_rfl)
theorem wf : PWf Try.prog := wf_of (by kernel_rfl) (by kernel_rfl)
end Go.Proofs.Ytkejjohamlimeaa
