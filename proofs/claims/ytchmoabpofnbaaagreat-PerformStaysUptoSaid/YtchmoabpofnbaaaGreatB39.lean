import Derived.Test.YtchmoabpofnbaaaGreatRows
import Derived.ProofKit
import Derived.OpenShut
import Derived.JoinedCond
import Derived.Test.YtchmoabpofnbaaaGreatB38
set_option linter.all false
namespace Go.Proofs.YtchmoabpofnbaaaGreat.performStays
open Go Go.Pv Go.ChangeShapes Go.WideShapes Go.ChangeAt
theorem own:ownKnob Tryz.prog.godebug=none:=by kernel_rfl
theorem noInit:Tryz.checked.prog.inits.idxOf? 3=none:=by kernel_rfl
theorem ajk:Tryz.pinned.checked.prog.funcNamed Rows.performStaysUptoRow.func=some 3:=by kernel_rfl
theorem j1:(Rows.performStaysUptoRow.inPlace==Tryz.pinned.checked.prog.inPlace 3)=true:=by kernel_rfl
theorem j2:(Rows.performStaysUptoRow.unfollowed==Tryz.pinned.checked.prog.unfollowed 3)=true:=by kernel_rfl
theorem j3:(Rows.performStaysUptoRow.recurses==Tryz.pinned.checked.prog.recurses 3)=true:=by kernel_rfl
theorem j4:(Rows.performStaysUptoRow.named==Tryz.pinned.checked.prog.varsNamed 3)=true:=by kernel_rfl
theorem j5:(Rows.performStaysUptoRow.plainKeys==Tryz.pinned.checked.prog.plainKeys)=true:=by kernel_rfl
theorem k0:(Rows.performStaysUptoRow.wf (OpenSpec.ofChange (Rows.OpenSpec.upto Rows.performStaysSpec).bare))=true:=by kernel_rfl
theorem k1:(laidOutB Tryz.pinned.checked.prog)=true:=by kernel_rfl
theorem k2:(mapsRowed Tryz.pinned.checked.prog)=true:=by kernel_rfl
theorem k3:(Tryz.f3.params.all (Tryz.pinned.checked.prog.readableRec ·))=true:=by kernel_rfl
theorem k4:(namedTie Tryz.pinned.checked.prog Rows.performStaysUptoRow.named (Rows.OpenSpec.upto Rows.performStaysSpec).bare.vars)=true:=by kernel_rfl
theorem k5:((Rows.performStaysUptoRow.stops==[]))=true:=by kernel_rfl
theorem k6:((Tryz.pinned.checked.prog.stops==[]))=true:=by kernel_rfl
theorem k7:((Rows.performStaysUptoRow.knobs==[]))=true:=by kernel_rfl
theorem k8:((Tryz.pinned.checked.prog.stopKnobs==[]))=true:=by kernel_rfl
theorem k13:((Rows.performStaysUptoRow.maps==(Tryz.f3.params.toList++(Rows.OpenSpec.upto Rows.performStaysSpec).bare.plain.varTypes Tryz.pinned.checked.prog).any (Tryz.pinned.checked.prog.mapsRec ·)))=true:=by kernel_rfl
theorem k14:((Rows.performStaysUptoRow.ifaces==(Tryz.f3.params.toList++(Rows.OpenSpec.upto Rows.performStaysSpec).bare.plain.varTypes Tryz.pinned.checked.prog).any (Tryz.pinned.checked.prog.ifacesRec ·)))=true:=by kernel_rfl
theorem k15:((Rows.performStaysUptoRow.mapsOut==Tryz.pinned.checked.prog.mapsAmong Tryz.f3.resultTypes.toList))=true:=by kernel_rfl
theorem k16:((Rows.performStaysUptoRow.loops==(Tryz.f3.params.toList++(Rows.OpenSpec.upto Rows.performStaysSpec).bare.plain.varTypes Tryz.pinned.checked.prog).any (Tryz.pinned.checked.prog.loopsFrom ·)))=true:=by kernel_rfl
theorem k17:((Rows.performStaysUptoRow.wideKeys==(Tryz.f3.params.toList++(Rows.OpenSpec.upto Rows.performStaysSpec).bare.plain.varTypes Tryz.pinned.checked.prog++Tryz.f3.resultTypes.toList).any (Tryz.pinned.checked.prog.wideKeysFrom ·)))=true:=by kernel_rfl
theorem k18:((Rows.OpenSpec.upto Rows.performStaysSpec).bare.vars.all (Tryz.pinned.checked.prog.varReadable ·))=true:=by kernel_rfl
theorem k19:(Tryz.f3.resultTypes.all (λt=>Tryz.pinned.checked.prog.readableRec t&&decide (t<Tryz.pinned.checked.prog.types.size)))=true:=by kernel_rfl
theorem k20:((Rows.performStaysUptoRow.ifacesOut==Tryz.f3.resultTypes.toList.any (Tryz.pinned.checked.prog.ifacesRec ·)))=true:=by kernel_rfl
theorem k21:((Rows.performStaysUptoRow.loopsOut==Tryz.f3.resultTypes.toList.any (Tryz.pinned.checked.prog.loopsFrom ·)))=true:=by kernel_rfl
theorem k23:(Rows.performStaysUptoRow.shortTexts.isNone)=true:=by kernel_rfl
theorem k24:(Tryz.pinned.checked.prog.stopsHeard)=true:=by kernel_rfl
theorem k25:(Tryz.pinned.checked.prog.mayEnter)=true:=by kernel_rfl
theorem k26:((Rows.performStaysUptoRow.lifted==Tryz.pinned.checked.prog.liftsFinal))=true:=by kernel_rfl
theorem k27:((Tryz.pinned.checked.prog.make==some Rows.performStaysUptoRow.make))=true:=by kernel_rfl
theorem k28:Rows.performStaysUptoRow.domain.isEmpty=true:=by kernel_rfl
theorem k32:(Rows.performStaysUptoRow.kinds==[])=true:=by kernel_rfl
theorem k29:((Rows.performStaysUptoRow.pinned==Rows.performStaysUptoRow.pinnedBy))=true:=by kernel_rfl
theorem k30:((Rows.performStaysUptoRow.veiled==(Tryz.f3.params.toList++(Rows.OpenSpec.upto Rows.performStaysSpec).bare.plain.varTypes Tryz.pinned.checked.prog++Tryz.f3.resultTypes.toList).any (Tryz.pinned.checked.prog.veiledRec ·)))=true:=by kernel_rfl
theorem k31:(Rows.performStaysUptoRow.veiledFits Tryz.pinned.checked.prog Tryz.f3.params.toList (Tryz.f3.params.toList++(Rows.OpenSpec.upto Rows.performStaysSpec).bare.plain.varTypes Tryz.pinned.checked.prog++Tryz.f3.resultTypes.toList))=true:=by kernel_rfl
theorem joined:joinedFacts Tryz.pinned.checked.prog 3 Tryz.f3 (Rows.OpenSpec.upto Rows.performStaysSpec).bare Rows.performStaysUptoRow=true:=Xz (P:=Tryz.pinned.checked.prog) (f:=3) (fn:=Tryz.f3) (s:=(Rows.OpenSpec.upto Rows.performStaysSpec).bare) (c:=Rows.performStaysUptoRow) k0 k1 k2 k3 k4 k5 k6 k7 k8 j1 j2 j3 j4 k13 k14 k15 k16 k17 k18 k19 k20 k21 j5 k23 k24 k25 k26 k27 k28 k32 k29 k30 k31
theorem inst:Tryz.f3.isInstance Tryz.pinned.checked.prog Rows.performStaysUptoRow.origin Rows.performStaysUptoRow.targs:=of_decide_eq_true (by kernel_rfl)
theorem wrap:Tryz.f3.isWrapper Tryz.pinned.checked.prog Rows.performStaysUptoRow.wrapper Rows.performStaysUptoRow.mainSum:=by unfold Func.isWrapper;first|(rw[if_pos (by decide +kernel)];kernel_rfl)|(rw[if_neg (by decide +kernel)];exact⟨rfl,rfl⟩)
end Go.Proofs.YtchmoabpofnbaaaGreat.performStays
