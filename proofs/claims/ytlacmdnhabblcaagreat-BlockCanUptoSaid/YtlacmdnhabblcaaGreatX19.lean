import Derived.Test.YtlacmdnhabblcaaGreatRows
import Derived.ProofKit
import Derived.OpenShut
import Derived.JoinedCond
import Derived.Test.YtlacmdnhabblcaaGreatX18
set_option linter.all false
namespace Go.Proofs.YtlacmdnhabblcaaGreat.blockCan
open Go Go.Pv Go.ChangeShapes Go.WideShapes Go.ChangeAt
theorem own:ownKnob Tryz.prog.godebug=none:=by kernel_rfl
theorem noInit:Tryz.checked.prog.inits.idxOf? 3=none:=by kernel_rfl
theorem fnamed:Tryz.pinned.checked.prog.funcNamed Rows.blockCanUptoRow.func=some 3:=by kernel_rfl
theorem j1:(Rows.blockCanUptoRow.inPlace == Tryz.pinned.checked.prog.inPlace 3)=true:=by kernel_rfl
theorem j2:(Rows.blockCanUptoRow.unfollowed == Tryz.pinned.checked.prog.unfollowed 3)=true:=by kernel_rfl
theorem j3:(Rows.blockCanUptoRow.recurses == Tryz.pinned.checked.prog.recurses 3)=true:=by kernel_rfl
theorem j4:(Rows.blockCanUptoRow.named == Tryz.pinned.checked.prog.varsNamed 3)=true:=by kernel_rfl
theorem j5:(Rows.blockCanUptoRow.plainKeys == Tryz.pinned.checked.prog.plainKeys)=true:=by kernel_rfl
theorem k0:(Rows.blockCanUptoRow.wf (OpenSpec.ofChange (Rows.OpenSpec.upto Rows.blockCanSpec).bare))=true:=by kernel_rfl
theorem k1:(laidOutB Tryz.pinned.checked.prog)=true:=by kernel_rfl
theorem k2:(mapsRowed Tryz.pinned.checked.prog)=true:=by kernel_rfl
theorem k3:(Tryz.f3.params.all (Tryz.pinned.checked.prog.readableRec ·))=true:=by kernel_rfl
theorem k4:(namedTie Tryz.pinned.checked.prog Rows.blockCanUptoRow.named (Rows.OpenSpec.upto Rows.blockCanSpec).bare.vars)=true:=by kernel_rfl
theorem k5:((Rows.blockCanUptoRow.stops == []))=true:=by kernel_rfl
theorem k6:((Tryz.pinned.checked.prog.stops == []))=true:=by kernel_rfl
theorem k7:((Rows.blockCanUptoRow.knobs == []))=true:=by kernel_rfl
theorem k8:((Tryz.pinned.checked.prog.stopKnobs == []))=true:=by kernel_rfl
theorem k13:((Rows.blockCanUptoRow.maps == (Tryz.f3.params.toList ++ (Rows.OpenSpec.upto Rows.blockCanSpec).bare.plain.varTypes Tryz.pinned.checked.prog).any (Tryz.pinned.checked.prog.mapsRec ·)))=true:=by kernel_rfl
theorem k14:((Rows.blockCanUptoRow.ifaces == (Tryz.f3.params.toList ++ (Rows.OpenSpec.upto Rows.blockCanSpec).bare.plain.varTypes Tryz.pinned.checked.prog).any (Tryz.pinned.checked.prog.ifacesRec ·)))=true:=by kernel_rfl
theorem k15:((Rows.blockCanUptoRow.mapsOut == Tryz.pinned.checked.prog.mapsAmong Tryz.f3.resultTypes.toList))=true:=by kernel_rfl
theorem k16:((Rows.blockCanUptoRow.loops == (Tryz.f3.params.toList ++ (Rows.OpenSpec.upto Rows.blockCanSpec).bare.plain.varTypes Tryz.pinned.checked.prog).any (Tryz.pinned.checked.prog.loopsFrom ·)))=true:=by kernel_rfl
theorem k17:((Rows.blockCanUptoRow.wideKeys == (Tryz.f3.params.toList ++ (Rows.OpenSpec.upto Rows.blockCanSpec).bare.plain.varTypes Tryz.pinned.checked.prog ++ Tryz.f3.resultTypes.toList).any (Tryz.pinned.checked.prog.wideKeysFrom ·)))=true:=by kernel_rfl
theorem k18:((Rows.OpenSpec.upto Rows.blockCanSpec).bare.vars.all (Tryz.pinned.checked.prog.varReadable ·))=true:=by kernel_rfl
theorem k19:(Tryz.f3.resultTypes.all (fun t=>Tryz.pinned.checked.prog.readableRec t && decide (t<Tryz.pinned.checked.prog.types.size)))=true:=by kernel_rfl
theorem k20:((Rows.blockCanUptoRow.ifacesOut == Tryz.f3.resultTypes.toList.any (Tryz.pinned.checked.prog.ifacesRec ·)))=true:=by kernel_rfl
theorem k21:((Rows.blockCanUptoRow.loopsOut == Tryz.f3.resultTypes.toList.any (Tryz.pinned.checked.prog.loopsFrom ·)))=true:=by kernel_rfl
theorem k23:(Rows.blockCanUptoRow.shortTexts.isNone)=true:=by kernel_rfl
theorem k24:(Tryz.pinned.checked.prog.stopsHeard)=true:=by kernel_rfl
theorem k25:(Tryz.pinned.checked.prog.mayEnter)=true:=by kernel_rfl
theorem k26:((Rows.blockCanUptoRow.lifted == Tryz.pinned.checked.prog.liftsFinal))=true:=by kernel_rfl
theorem k27:((Tryz.pinned.checked.prog.make == some Rows.blockCanUptoRow.make))=true:=by kernel_rfl
theorem k28:Rows.blockCanUptoRow.domain.isEmpty=true:=by kernel_rfl
theorem k32:(Rows.blockCanUptoRow.kinds == [])=true:=by kernel_rfl
theorem k29:((Rows.blockCanUptoRow.pinned == Rows.blockCanUptoRow.pinnedBy))=true:=by kernel_rfl
theorem k30:((Rows.blockCanUptoRow.veiled == (Tryz.f3.params.toList ++ (Rows.OpenSpec.upto Rows.blockCanSpec).bare.plain.varTypes Tryz.pinned.checked.prog ++ Tryz.f3.resultTypes.toList).any (Tryz.pinned.checked.prog.veiledRec ·)))=true:=by kernel_rfl
theorem k31:(Rows.blockCanUptoRow.veiledFits Tryz.pinned.checked.prog Tryz.f3.params.toList (Tryz.f3.params.toList ++ (Rows.OpenSpec.upto Rows.blockCanSpec).bare.plain.varTypes Tryz.pinned.checked.prog ++ Tryz.f3.resultTypes.toList))=true:=by kernel_rfl
theorem joined:joinedFacts Tryz.pinned.checked.prog 3 Tryz.f3 (Rows.OpenSpec.upto Rows.blockCanSpec).bare Rows.blockCanUptoRow=true:=joined_parts (P:=Tryz.pinned.checked.prog) (f:=3) (fn:=Tryz.f3) (s:=(Rows.OpenSpec.upto Rows.blockCanSpec).bare) (c:=Rows.blockCanUptoRow) k0 k1 k2 k3 k4 k5 k6 k7 k8 j1 j2 j3 j4 k13 k14 k15 k16 k17 k18 k19 k20 k21 j5 k23 k24 k25 k26 k27 k28 k32 k29 k30 k31
theorem inst:Tryz.f3.isInstance Tryz.pinned.checked.prog Rows.blockCanUptoRow.origin Rows.blockCanUptoRow.targs:=of_decide_eq_true (by kernel_rfl)
theorem wrap:Tryz.f3.isWrapper Tryz.pinned.checked.prog Rows.blockCanUptoRow.wrapper Rows.blockCanUptoRow.mainSum:=by unfold Func.isWrapper; first | (rw [if_pos (by decide +kernel)]; kernel_rfl) | (rw [if_neg (by decide +kernel)]; exact ⟨rfl,rfl⟩)
end Go.Proofs.YtlacmdnhabblcaaGreat.blockCan
