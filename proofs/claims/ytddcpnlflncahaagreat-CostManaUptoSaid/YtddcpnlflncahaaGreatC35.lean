import Derived.Test.YtddcpnlflncahaaGreatRows
import Derived.ProofKit
import Derived.OpenShut
import Derived.JoinedCond
set_option linter.all false
namespace Go.Proofs.YtddcpnlflncahaaGreat.costMana
open Go Go.ChangeShapes Go.WideShapes Go.ChangeAt
theorem own:ownKnob Tryz.prog.godebug=none:=by kernel_rfl
theorem noInit:Tryz.checked.prog.inits.idxOf? 6=none:=by kernel_rfl
theorem fnamed:Tryz.pinned.checked.prog.funcNamed Rows.costManaUptoRow.func=some 6:=by kernel_rfl
theorem j1:(Rows.costManaUptoRow.inPlace==Tryz.pinned.checked.prog.inPlace 6)=true:=by kernel_rfl
theorem j2:(Rows.costManaUptoRow.unfollowed==Tryz.pinned.checked.prog.unfollowed 6)=true:=by kernel_rfl
theorem j3:(Rows.costManaUptoRow.recurses==Tryz.pinned.checked.prog.recurses 6)=true:=by kernel_rfl
theorem j4:(Rows.costManaUptoRow.named==Tryz.pinned.checked.prog.varsNamed 6)=true:=by kernel_rfl
theorem j5:(Rows.costManaUptoRow.plainKeys==Tryz.pinned.checked.prog.plainKeys)=true:=by kernel_rfl
theorem joined:joinedFacts Tryz.pinned.checked.prog 6 Tryz.f6 (Rows.OpenSpec.upto Rows.costManaSpec).bare Rows.costManaUptoRow=true:=by
 unfold joinedFacts
 rw [j1,j2,j3,j4,j5]
 kernel_rfl
theorem inst:Tryz.f6.isInstance Tryz.pinned.checked.prog Rows.costManaUptoRow.origin Rows.costManaUptoRow.targs:=of_decide_eq_true (by kernel_rfl)
theorem wrap:Tryz.f6.isWrapper Tryz.pinned.checked.prog Rows.costManaUptoRow.wrapper Rows.costManaUptoRow.mainSum:=by unfold Func.isWrapper; first | (rw [if_pos (by decide +kernel)]; kernel_rfl) | (rw [if_neg (by decide +kernel)]; exact ⟨rfl,rfl⟩)
end Go.Proofs.YtddcpnlflncahaaGreat.costMana
