import Derived.Test.YthfepelpmalckaaGreatDoorRows
import Derived.ProofKit
import Derived.OpenShut
import Derived.JoinedCond
import Derived.Test.YthfepelpmalckaaGreatDoorD27
set_option linter.all false
namespace Go.Proofs.YthfepelpmalckaaGreatDoor.resolveNothing
open Go Go.Pv Go.ChangeShapes Go.WideShapes Go.ChangeAt
theorem own:ownKnob Tryz.prog.godebug=none:=by kernel_rfl
theorem noInit:Tryz.checked.prog.inits.idxOf? 3=none:=by kernel_rfl
theorem fnamed:Tryz.pinned.checked.prog.funcNamed Rows.resolveNothingUptoRow.func=some 3:=by kernel_rfl
theorem j1:(Rows.resolveNothingUptoRow.inPlace == Tryz.pinned.checked.prog.inPlace 3)=true:=by kernel_rfl
theorem j2:(Rows.resolveNothingUptoRow.unfollowed == Tryz.pinned.checked.prog.unfollowed 3)=true:=by kernel_rfl
theorem j3:(Rows.resolveNothingUptoRow.recurses == Tryz.pinned.checked.prog.recurses 3)=true:=by kernel_rfl
theorem j4:(Rows.resolveNothingUptoRow.named == Tryz.pinned.checked.prog.varsNamed 3)=true:=by kernel_rfl
theorem j5:(Rows.resolveNothingUptoRow.plainKeys == Tryz.pinned.checked.prog.plainKeys)=true:=by kernel_rfl
theorem k0:(Rows.resolveNothingUptoRow.wf (OpenSpec.ofChange (Rows.OpenSpec.upto Rows.resolveNothingSpec).bare))=true:=by kernel_rfl
theorem k1:(laidOutB Tryz.pinned.checked.prog)=true:=by kernel_rfl
theorem k2:(mapsRowed Tryz.pinned.checked.prog)=true:=by kernel_rfl
theorem k3:(Tryz.f3.params.all (Tryz.pinned.checked.prog.readableRec ·))=true:=by kernel_rfl
theorem k4:(namedTie Tryz.pinned.checked.prog Rows.resolveNothingUptoRow.named (Rows.OpenSpec.upto Rows.resolveNothingSpec).bare.vars)=true:=by kernel_rfl
theorem k5:((Rows.resolveNothingUptoRow.stops == []))=true:=by kernel_rfl
theorem k6:((Tryz.pinned.checked.prog.stops == []))=true:=by kernel_rfl
theorem k7:((Rows.resolveNothingUptoRow.knobs == []))=true:=by kernel_rfl
theorem k8:((Tryz.pinned.checked.prog.stopKnobs == []))=true:=by kernel_rfl
theorem k13:((Rows.resolveNothingUptoRow.maps == (Tryz.f3.params.toList ++ (Rows.OpenSpec.upto Rows.resolveNothingSpec).bare.plain.varTypes Tryz.pinned.checked.prog).any (Tryz.pinned.checked.prog.mapsRec ·)))=true:=by kernel_rfl
theorem k14:((Rows.resolveNothingUptoRow.ifaces == (Tryz.f3.params.toList ++ (Rows.OpenSpec.upto Rows.resolveNothingSpec).bare.plain.varTypes Tryz.pinned.checked.prog).any (Tryz.pinned.checked.prog.ifacesRec ·)))=true:=by kernel_rfl
theorem k15:((Rows.resolveNothingUptoRow.mapsOut == Tryz.pinned.checked.prog.mapsAmong Tryz.f3.resultTypes.toList))=true:=by kernel_rfl
theorem k16:((Rows.resolveNothingUptoRow.loops == (Tryz.f3.params.toList ++ (Rows.OpenSpec.upto Rows.resolveNothingSpec).bare.plain.varTypes Tryz.pinned.checked.prog).any (Tryz.pinned.checked.prog.loopsFrom ·)))=true:=by kernel_rfl
theorem k17:((Rows.resolveNothingUptoRow.wideKeys == (Tryz.f3.params.toList ++ (Rows.OpenSpec.upto Rows.resolveNothingSpec).bare.plain.varTypes Tryz.pinned.checked.prog ++ Tryz.f3.resultTypes.toList).any (Tryz.pinned.checked.prog.wideKeysFrom ·)))=true:=by kernel_rfl
theorem k18:((Rows.OpenSpec.upto Rows.resolveNothingSpec).bare.vars.all (Tryz.pinned.checked.prog.varReadable ·))=true:=by kernel_rfl
theorem k19:(Tryz.f3.resultTypes.all (fun t=>Tryz.pinned.checked.prog.readableRec t && decide (t<Tryz.pinned.checked.prog.types.size)))=true:=by kernel_rfl
theorem k20:((Rows.resolveNothingUptoRow.ifacesOut == Tryz.f3.resultTypes.toList.any (Tryz.pinned.checked.prog.ifacesRec ·)))=true:=by kernel_rfl
theorem k21:((Rows.resolveNothingUptoRow.loopsOut == Tryz.f3.resultTypes.toList.any (Tryz.pinned.checked.prog.loopsFrom ·)))=true:=by kernel_rfl
theorem k23:(Rows.resolveNothingUptoRow.shortTexts.isNone)=true:=by kernel_rfl
theorem k24:(Tryz.pinned.checked.prog.stopsHeard)=true:=by kernel_rfl
theorem k25:(Tryz.pinned.checked.prog.mayEnter)=true:=by kernel_rfl
theorem k26:((Rows.resolveNothingUptoRow.lifted == Tryz.pinned.checked.prog.liftsFinal))=true:=by kernel_rfl
theorem k27:((Tryz.pinned.checked.prog.make == some Rows.resolveNothingUptoRow.make))=true:=by kernel_rfl
theorem k28:Rows.resolveNothingUptoRow.domain.isEmpty=true:=by kernel_rfl
theorem k32:(Rows.resolveNothingUptoRow.kinds == [])=true:=by kernel_rfl
theorem k29:((Rows.resolveNothingUptoRow.pinned == Rows.resolveNothingUptoRow.pinnedBy))=true:=by kernel_rfl
theorem k30:((Rows.resolveNothingUptoRow.veiled == (Tryz.f3.params.toList ++ (Rows.OpenSpec.upto Rows.resolveNothingSpec).bare.plain.varTypes Tryz.pinned.checked.prog ++ Tryz.f3.resultTypes.toList).any (Tryz.pinned.checked.prog.veiledRec ·)))=true:=by kernel_rfl
theorem k31:(Rows.resolveNothingUptoRow.veiledFits Tryz.pinned.checked.prog Tryz.f3.params.toList (Tryz.f3.params.toList ++ (Rows.OpenSpec.upto Rows.resolveNothingSpec).bare.plain.varTypes Tryz.pinned.checked.prog ++ Tryz.f3.resultTypes.toList))=true:=by kernel_rfl
theorem joined:joinedFacts Tryz.pinned.checked.prog 3 Tryz.f3 (Rows.OpenSpec.upto Rows.resolveNothingSpec).bare Rows.resolveNothingUptoRow=true:=joined_parts (P:=Tryz.pinned.checked.prog) (f:=3) (fn:=Tryz.f3) (s:=(Rows.OpenSpec.upto Rows.resolveNothingSpec).bare) (c:=Rows.resolveNothingUptoRow) k0 k1 k2 k3 k4 k5 k6 k7 k8 j1 j2 j3 j4 k13 k14 k15 k16 k17 k18 k19 k20 k21 j5 k23 k24 k25 k26 k27 k28 k32 k29 k30 k31
theorem inst:Tryz.f3.isInstance Tryz.pinned.checked.prog Rows.resolveNothingUptoRow.origin Rows.resolveNothingUptoRow.targs:=of_decide_eq_true (by kernel_rfl)
theorem wrap:Tryz.f3.isWrapper Tryz.pinned.checked.prog Rows.resolveNothingUptoRow.wrapper Rows.resolveNothingUptoRow.mainSum:=by unfold Func.isWrapper; first | (rw [if_pos (by decide +kernel)]; kernel_rfl) | (rw [if_neg (by decide +kernel)]; exact ⟨rfl,rfl⟩)
end Go.Proofs.YthfepelpmalckaaGreatDoor.resolveNothing
