import Derived.Test.YtchmoabpofnbaaaGreatRows
import Derived.ProofKit
import Derived.OpenShut
import Derived.JoinedCond
import Derived.Test.YtchmoabpofnbaaaGreatC112
set_option linter.all false
namespace Go.Proofs.YtchmoabpofnbaaaGreat.attackForced
open Go Go.Pv Go.ChangeShapes Go.WideShapes Go.ChangeAt
theorem own:ownKnob Tryz.prog.godebug=none:=by kernel_rfl
theorem noInit:Tryz.checked.prog.inits.idxOf? 10=none:=by kernel_rfl
theorem abU:Tryz.pinned.checked.prog.funcNamed Rows.attackForcedUptoRow.func=some 10:=by kernel_rfl
theorem j1:(Rows.attackForcedUptoRow.inPlace==Tryz.pinned.checked.prog.inPlace 10)=true:=by kernel_rfl
theorem j2:(Rows.attackForcedUptoRow.unfollowed==Tryz.pinned.checked.prog.unfollowed 10)=true:=by kernel_rfl
theorem j3:(Rows.attackForcedUptoRow.recurses==Tryz.pinned.checked.prog.recurses 10)=true:=by kernel_rfl
theorem j4:(Rows.attackForcedUptoRow.named==Tryz.pinned.checked.prog.varsNamed 10)=true:=by kernel_rfl
theorem j5:(Rows.attackForcedUptoRow.plainKeys==Tryz.pinned.checked.prog.plainKeys)=true:=by kernel_rfl
theorem k0:(Rows.attackForcedUptoRow.wf (OpenSpec.ofChange (Rows.OpenSpec.upto Rows.attackForcedSpec).bare))=true:=by kernel_rfl
theorem k1:(laidOutB Tryz.pinned.checked.prog)=true:=by kernel_rfl
theorem k2:(mapsRowed Tryz.pinned.checked.prog)=true:=by kernel_rfl
theorem k3:(Tryz.f10.params.all (Tryz.pinned.checked.prog.readableRec ·))=true:=by kernel_rfl
theorem k4:(namedTie Tryz.pinned.checked.prog Rows.attackForcedUptoRow.named (Rows.OpenSpec.upto Rows.attackForcedSpec).bare.vars)=true:=by kernel_rfl
theorem k5:((Rows.attackForcedUptoRow.stops==[]))=true:=by kernel_rfl
theorem k6:((Tryz.pinned.checked.prog.stops==[]))=true:=by kernel_rfl
theorem k7:((Rows.attackForcedUptoRow.knobs==[]))=true:=by kernel_rfl
theorem k8:((Tryz.pinned.checked.prog.stopKnobs==[]))=true:=by kernel_rfl
theorem k13:((Rows.attackForcedUptoRow.maps==(Tryz.f10.params.toList++(Rows.OpenSpec.upto Rows.attackForcedSpec).bare.plain.varTypes Tryz.pinned.checked.prog).any (Tryz.pinned.checked.prog.mapsRec ·)))=true:=by kernel_rfl
theorem k14:((Rows.attackForcedUptoRow.ifaces==(Tryz.f10.params.toList++(Rows.OpenSpec.upto Rows.attackForcedSpec).bare.plain.varTypes Tryz.pinned.checked.prog).any (Tryz.pinned.checked.prog.ifacesRec ·)))=true:=by kernel_rfl
theorem k15:((Rows.attackForcedUptoRow.mapsOut==Tryz.pinned.checked.prog.mapsAmong Tryz.f10.resultTypes.toList))=true:=by kernel_rfl
theorem k16:((Rows.attackForcedUptoRow.loops==(Tryz.f10.params.toList++(Rows.OpenSpec.upto Rows.attackForcedSpec).bare.plain.varTypes Tryz.pinned.checked.prog).any (Tryz.pinned.checked.prog.loopsFrom ·)))=true:=by kernel_rfl
theorem k17:((Rows.attackForcedUptoRow.wideKeys==(Tryz.f10.params.toList++(Rows.OpenSpec.upto Rows.attackForcedSpec).bare.plain.varTypes Tryz.pinned.checked.prog++Tryz.f10.resultTypes.toList).any (Tryz.pinned.checked.prog.wideKeysFrom ·)))=true:=by kernel_rfl
theorem k18:((Rows.OpenSpec.upto Rows.attackForcedSpec).bare.vars.all (Tryz.pinned.checked.prog.varReadable ·))=true:=by kernel_rfl
theorem k19:(Tryz.f10.resultTypes.all (λt=>Tryz.pinned.checked.prog.readableRec t&&decide (t<Tryz.pinned.checked.prog.types.size)))=true:=by kernel_rfl
theorem k20:((Rows.attackForcedUptoRow.ifacesOut==Tryz.f10.resultTypes.toList.any (Tryz.pinned.checked.prog.ifacesRec ·)))=true:=by kernel_rfl
theorem k21:((Rows.attackForcedUptoRow.loopsOut==Tryz.f10.resultTypes.toList.any (Tryz.pinned.checked.prog.loopsFrom ·)))=true:=by kernel_rfl
theorem k23:(Rows.attackForcedUptoRow.shortTexts.isNone)=true:=by kernel_rfl
theorem k24:(Tryz.pinned.checked.prog.stopsHeard)=true:=by kernel_rfl
theorem k25:(Tryz.pinned.checked.prog.mayEnter)=true:=by kernel_rfl
theorem k26:((Rows.attackForcedUptoRow.lifted==Tryz.pinned.checked.prog.liftsFinal))=true:=by kernel_rfl
theorem k27:((Tryz.pinned.checked.prog.make==some Rows.attackForcedUptoRow.make))=true:=by kernel_rfl
theorem k28:Rows.attackForcedUptoRow.domain.isEmpty=true:=by kernel_rfl
theorem k32:(Rows.attackForcedUptoRow.kinds==[])=true:=by kernel_rfl
theorem k29:((Rows.attackForcedUptoRow.pinned==Rows.attackForcedUptoRow.pinnedBy))=true:=by kernel_rfl
theorem k30:((Rows.attackForcedUptoRow.veiled==(Tryz.f10.params.toList++(Rows.OpenSpec.upto Rows.attackForcedSpec).bare.plain.varTypes Tryz.pinned.checked.prog++Tryz.f10.resultTypes.toList).any (Tryz.pinned.checked.prog.veiledRec ·)))=true:=by kernel_rfl
theorem k31:(Rows.attackForcedUptoRow.veiledFits Tryz.pinned.checked.prog Tryz.f10.params.toList (Tryz.f10.params.toList++(Rows.OpenSpec.upto Rows.attackForcedSpec).bare.plain.varTypes Tryz.pinned.checked.prog++Tryz.f10.resultTypes.toList))=true:=by kernel_rfl
theorem joined:joinedFacts Tryz.pinned.checked.prog 10 Tryz.f10 (Rows.OpenSpec.upto Rows.attackForcedSpec).bare Rows.attackForcedUptoRow=true:=RV (P:=Tryz.pinned.checked.prog) (f:=10) (fn:=Tryz.f10) (s:=(Rows.OpenSpec.upto Rows.attackForcedSpec).bare) (c:=Rows.attackForcedUptoRow) k0 k1 k2 k3 k4 k5 k6 k7 k8 j1 j2 j3 j4 k13 k14 k15 k16 k17 k18 k19 k20 k21 j5 k23 k24 k25 k26 k27 k28 k32 k29 k30 k31
theorem inst:Tryz.f10.isInstance Tryz.pinned.checked.prog Rows.attackForcedUptoRow.origin Rows.attackForcedUptoRow.targs:=of_decide_eq_true (by kernel_rfl)
theorem wrap:Tryz.f10.isWrapper Tryz.pinned.checked.prog Rows.attackForcedUptoRow.wrapper Rows.attackForcedUptoRow.mainSum:=by unfold Func.isWrapper;first|(rw[if_pos (by decide +kernel)];kernel_rfl)|(rw[if_neg (by decide +kernel)];exact⟨rfl,rfl⟩)
end Go.Proofs.YtchmoabpofnbaaaGreat.attackForced
