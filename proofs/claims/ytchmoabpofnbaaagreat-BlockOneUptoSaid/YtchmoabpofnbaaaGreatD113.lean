import Derived.Test.YtchmoabpofnbaaaGreatRows
import Derived.ProofKit
import Derived.OpenShut
import Derived.JoinedCond
import Derived.Test.YtchmoabpofnbaaaGreatD112
set_option linter.all false
namespace Go.Proofs.YtchmoabpofnbaaaGreat.blockOne
open Go Go.Pv Go.ChangeShapes Go.WideShapes Go.ChangeAt
theorem own:ownKnob Tryz.prog.godebug=none:=by kernel_rfl
theorem noInit:Tryz.checked.prog.inits.idxOf? 11=none:=by kernel_rfl
theorem akU:Tryz.pinned.checked.prog.funcNamed Rows.blockOneUptoRow.func=some 11:=by kernel_rfl
theorem j1:(Rows.blockOneUptoRow.inPlace==Tryz.pinned.checked.prog.inPlace 11)=true:=by kernel_rfl
theorem j2:(Rows.blockOneUptoRow.unfollowed==Tryz.pinned.checked.prog.unfollowed 11)=true:=by kernel_rfl
theorem j3:(Rows.blockOneUptoRow.recurses==Tryz.pinned.checked.prog.recurses 11)=true:=by kernel_rfl
theorem j4:(Rows.blockOneUptoRow.named==Tryz.pinned.checked.prog.varsNamed 11)=true:=by kernel_rfl
theorem j5:(Rows.blockOneUptoRow.plainKeys==Tryz.pinned.checked.prog.plainKeys)=true:=by kernel_rfl
theorem k0:(Rows.blockOneUptoRow.wf (OpenSpec.ofChange (Rows.OpenSpec.upto Rows.blockOneSpec).bare))=true:=by kernel_rfl
theorem k1:(laidOutB Tryz.pinned.checked.prog)=true:=by kernel_rfl
theorem k2:(mapsRowed Tryz.pinned.checked.prog)=true:=by kernel_rfl
theorem k3:(Tryz.f11.params.all (Tryz.pinned.checked.prog.readableRec ·))=true:=by kernel_rfl
theorem k4:(namedTie Tryz.pinned.checked.prog Rows.blockOneUptoRow.named (Rows.OpenSpec.upto Rows.blockOneSpec).bare.vars)=true:=by kernel_rfl
theorem k5:((Rows.blockOneUptoRow.stops==[]))=true:=by kernel_rfl
theorem k6:((Tryz.pinned.checked.prog.stops==[]))=true:=by kernel_rfl
theorem k7:((Rows.blockOneUptoRow.knobs==[]))=true:=by kernel_rfl
theorem k8:((Tryz.pinned.checked.prog.stopKnobs==[]))=true:=by kernel_rfl
theorem k13:((Rows.blockOneUptoRow.maps==(Tryz.f11.params.toList++(Rows.OpenSpec.upto Rows.blockOneSpec).bare.plain.varTypes Tryz.pinned.checked.prog).any (Tryz.pinned.checked.prog.mapsRec ·)))=true:=by kernel_rfl
theorem k14:((Rows.blockOneUptoRow.ifaces==(Tryz.f11.params.toList++(Rows.OpenSpec.upto Rows.blockOneSpec).bare.plain.varTypes Tryz.pinned.checked.prog).any (Tryz.pinned.checked.prog.ifacesRec ·)))=true:=by kernel_rfl
theorem k15:((Rows.blockOneUptoRow.mapsOut==Tryz.pinned.checked.prog.mapsAmong Tryz.f11.resultTypes.toList))=true:=by kernel_rfl
theorem k16:((Rows.blockOneUptoRow.loops==(Tryz.f11.params.toList++(Rows.OpenSpec.upto Rows.blockOneSpec).bare.plain.varTypes Tryz.pinned.checked.prog).any (Tryz.pinned.checked.prog.loopsFrom ·)))=true:=by kernel_rfl
theorem k17:((Rows.blockOneUptoRow.wideKeys==(Tryz.f11.params.toList++(Rows.OpenSpec.upto Rows.blockOneSpec).bare.plain.varTypes Tryz.pinned.checked.prog++Tryz.f11.resultTypes.toList).any (Tryz.pinned.checked.prog.wideKeysFrom ·)))=true:=by kernel_rfl
theorem k18:((Rows.OpenSpec.upto Rows.blockOneSpec).bare.vars.all (Tryz.pinned.checked.prog.varReadable ·))=true:=by kernel_rfl
theorem k19:(Tryz.f11.resultTypes.all (λt=>Tryz.pinned.checked.prog.readableRec t&&decide (t<Tryz.pinned.checked.prog.types.size)))=true:=by kernel_rfl
theorem k20:((Rows.blockOneUptoRow.ifacesOut==Tryz.f11.resultTypes.toList.any (Tryz.pinned.checked.prog.ifacesRec ·)))=true:=by kernel_rfl
theorem k21:((Rows.blockOneUptoRow.loopsOut==Tryz.f11.resultTypes.toList.any (Tryz.pinned.checked.prog.loopsFrom ·)))=true:=by kernel_rfl
theorem k23:(Rows.blockOneUptoRow.shortTexts.isNone)=true:=by kernel_rfl
theorem k24:(Tryz.pinned.checked.prog.stopsHeard)=true:=by kernel_rfl
theorem k25:(Tryz.pinned.checked.prog.mayEnter)=true:=by kernel_rfl
theorem k26:((Rows.blockOneUptoRow.lifted==Tryz.pinned.checked.prog.liftsFinal))=true:=by kernel_rfl
theorem k27:((Tryz.pinned.checked.prog.make==some Rows.blockOneUptoRow.make))=true:=by kernel_rfl
theorem k28:Rows.blockOneUptoRow.domain.isEmpty=true:=by kernel_rfl
theorem k32:(Rows.blockOneUptoRow.kinds==[])=true:=by kernel_rfl
theorem k29:((Rows.blockOneUptoRow.pinned==Rows.blockOneUptoRow.pinnedBy))=true:=by kernel_rfl
theorem k30:((Rows.blockOneUptoRow.veiled==(Tryz.f11.params.toList++(Rows.OpenSpec.upto Rows.blockOneSpec).bare.plain.varTypes Tryz.pinned.checked.prog++Tryz.f11.resultTypes.toList).any (Tryz.pinned.checked.prog.veiledRec ·)))=true:=by kernel_rfl
theorem k31:(Rows.blockOneUptoRow.veiledFits Tryz.pinned.checked.prog Tryz.f11.params.toList (Tryz.f11.params.toList++(Rows.OpenSpec.upto Rows.blockOneSpec).bare.plain.varTypes Tryz.pinned.checked.prog++Tryz.f11.resultTypes.toList))=true:=by kernel_rfl
theorem joined:joinedFacts Tryz.pinned.checked.prog 11 Tryz.f11 (Rows.OpenSpec.upto Rows.blockOneSpec).bare Rows.blockOneUptoRow=true:=abp (P:=Tryz.pinned.checked.prog) (f:=11) (fn:=Tryz.f11) (s:=(Rows.OpenSpec.upto Rows.blockOneSpec).bare) (c:=Rows.blockOneUptoRow) k0 k1 k2 k3 k4 k5 k6 k7 k8 j1 j2 j3 j4 k13 k14 k15 k16 k17 k18 k19 k20 k21 j5 k23 k24 k25 k26 k27 k28 k32 k29 k30 k31
theorem inst:Tryz.f11.isInstance Tryz.pinned.checked.prog Rows.blockOneUptoRow.origin Rows.blockOneUptoRow.targs:=of_decide_eq_true (by kernel_rfl)
theorem wrap:Tryz.f11.isWrapper Tryz.pinned.checked.prog Rows.blockOneUptoRow.wrapper Rows.blockOneUptoRow.mainSum:=by unfold Func.isWrapper;first|(rw[if_pos (by decide +kernel)];kernel_rfl)|(rw[if_neg (by decide +kernel)];exact⟨rfl,rfl⟩)
end Go.Proofs.YtchmoabpofnbaaaGreat.blockOne
