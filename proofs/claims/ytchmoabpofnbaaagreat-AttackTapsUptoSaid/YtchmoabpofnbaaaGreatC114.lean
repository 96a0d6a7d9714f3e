import Derived.Test.YtchmoabpofnbaaaGreatRows
import Derived.ProofKit
import Derived.OpenShut
import Derived.JoinedCond
import Derived.Test.YtchmoabpofnbaaaGreatC112
set_option linter.all false
namespace Go.Proofs.YtchmoabpofnbaaaGreat.attackTaps
open Go Go.Pv Go.ChangeShapes Go.WideShapes Go.ChangeAt
theorem own:ownKnob Tryz.prog.godebug=none:=by kernel_rfl
theorem noInit:Tryz.checked.prog.inits.idxOf? 9=none:=by kernel_rfl
theorem abU:Tryz.pinned.checked.prog.funcNamed Rows.attackTapsUptoRow.func=some 9:=by kernel_rfl
theorem j1:(Rows.attackTapsUptoRow.inPlace==Tryz.pinned.checked.prog.inPlace 9)=true:=by kernel_rfl
theorem j2:(Rows.attackTapsUptoRow.unfollowed==Tryz.pinned.checked.prog.unfollowed 9)=true:=by kernel_rfl
theorem j3:(Rows.attackTapsUptoRow.recurses==Tryz.pinned.checked.prog.recurses 9)=true:=by kernel_rfl
theorem j4:(Rows.attackTapsUptoRow.named==Tryz.pinned.checked.prog.varsNamed 9)=true:=by kernel_rfl
theorem j5:(Rows.attackTapsUptoRow.plainKeys==Tryz.pinned.checked.prog.plainKeys)=true:=by kernel_rfl
theorem k0:(Rows.attackTapsUptoRow.wf (OpenSpec.ofChange (Rows.OpenSpec.upto Rows.attackTapsSpec).bare))=true:=by kernel_rfl
theorem k1:(laidOutB Tryz.pinned.checked.prog)=true:=by kernel_rfl
theorem k2:(mapsRowed Tryz.pinned.checked.prog)=true:=by kernel_rfl
theorem k3:(Tryz.f9.params.all (Tryz.pinned.checked.prog.readableRec ·))=true:=by kernel_rfl
theorem k4:(namedTie Tryz.pinned.checked.prog Rows.attackTapsUptoRow.named (Rows.OpenSpec.upto Rows.attackTapsSpec).bare.vars)=true:=by kernel_rfl
theorem k5:((Rows.attackTapsUptoRow.stops==[]))=true:=by kernel_rfl
theorem k6:((Tryz.pinned.checked.prog.stops==[]))=true:=by kernel_rfl
theorem k7:((Rows.attackTapsUptoRow.knobs==[]))=true:=by kernel_rfl
theorem k8:((Tryz.pinned.checked.prog.stopKnobs==[]))=true:=by kernel_rfl
theorem k13:((Rows.attackTapsUptoRow.maps==(Tryz.f9.params.toList++(Rows.OpenSpec.upto Rows.attackTapsSpec).bare.plain.varTypes Tryz.pinned.checked.prog).any (Tryz.pinned.checked.prog.mapsRec ·)))=true:=by kernel_rfl
theorem k14:((Rows.attackTapsUptoRow.ifaces==(Tryz.f9.params.toList++(Rows.OpenSpec.upto Rows.attackTapsSpec).bare.plain.varTypes Tryz.pinned.checked.prog).any (Tryz.pinned.checked.prog.ifacesRec ·)))=true:=by kernel_rfl
theorem k15:((Rows.attackTapsUptoRow.mapsOut==Tryz.pinned.checked.prog.mapsAmong Tryz.f9.resultTypes.toList))=true:=by kernel_rfl
theorem k16:((Rows.attackTapsUptoRow.loops==(Tryz.f9.params.toList++(Rows.OpenSpec.upto Rows.attackTapsSpec).bare.plain.varTypes Tryz.pinned.checked.prog).any (Tryz.pinned.checked.prog.loopsFrom ·)))=true:=by kernel_rfl
theorem k17:((Rows.attackTapsUptoRow.wideKeys==(Tryz.f9.params.toList++(Rows.OpenSpec.upto Rows.attackTapsSpec).bare.plain.varTypes Tryz.pinned.checked.prog++Tryz.f9.resultTypes.toList).any (Tryz.pinned.checked.prog.wideKeysFrom ·)))=true:=by kernel_rfl
theorem k18:((Rows.OpenSpec.upto Rows.attackTapsSpec).bare.vars.all (Tryz.pinned.checked.prog.varReadable ·))=true:=by kernel_rfl
theorem k19:(Tryz.f9.resultTypes.all (λt=>Tryz.pinned.checked.prog.readableRec t&&decide (t<Tryz.pinned.checked.prog.types.size)))=true:=by kernel_rfl
theorem k20:((Rows.attackTapsUptoRow.ifacesOut==Tryz.f9.resultTypes.toList.any (Tryz.pinned.checked.prog.ifacesRec ·)))=true:=by kernel_rfl
theorem k21:((Rows.attackTapsUptoRow.loopsOut==Tryz.f9.resultTypes.toList.any (Tryz.pinned.checked.prog.loopsFrom ·)))=true:=by kernel_rfl
theorem k23:(Rows.attackTapsUptoRow.shortTexts.isNone)=true:=by kernel_rfl
theorem k24:(Tryz.pinned.checked.prog.stopsHeard)=true:=by kernel_rfl
theorem k25:(Tryz.pinned.checked.prog.mayEnter)=true:=by kernel_rfl
theorem k26:((Rows.attackTapsUptoRow.lifted==Tryz.pinned.checked.prog.liftsFinal))=true:=by kernel_rfl
theorem k27:((Tryz.pinned.checked.prog.make==some Rows.attackTapsUptoRow.make))=true:=by kernel_rfl
theorem k28:Rows.attackTapsUptoRow.domain.isEmpty=true:=by kernel_rfl
theorem k32:(Rows.attackTapsUptoRow.kinds==[])=true:=by kernel_rfl
theorem k29:((Rows.attackTapsUptoRow.pinned==Rows.attackTapsUptoRow.pinnedBy))=true:=by kernel_rfl
theorem k30:((Rows.attackTapsUptoRow.veiled==(Tryz.f9.params.toList++(Rows.OpenSpec.upto Rows.attackTapsSpec).bare.plain.varTypes Tryz.pinned.checked.prog++Tryz.f9.resultTypes.toList).any (Tryz.pinned.checked.prog.veiledRec ·)))=true:=by kernel_rfl
theorem k31:(Rows.attackTapsUptoRow.veiledFits Tryz.pinned.checked.prog Tryz.f9.params.toList (Tryz.f9.params.toList++(Rows.OpenSpec.upto Rows.attackTapsSpec).bare.plain.varTypes Tryz.pinned.checked.prog++Tryz.f9.resultTypes.toList))=true:=by kernel_rfl
theorem joined:joinedFacts Tryz.pinned.checked.prog 9 Tryz.f9 (Rows.OpenSpec.upto Rows.attackTapsSpec).bare Rows.attackTapsUptoRow=true:=RV (P:=Tryz.pinned.checked.prog) (f:=9) (fn:=Tryz.f9) (s:=(Rows.OpenSpec.upto Rows.attackTapsSpec).bare) (c:=Rows.attackTapsUptoRow) k0 k1 k2 k3 k4 k5 k6 k7 k8 j1 j2 j3 j4 k13 k14 k15 k16 k17 k18 k19 k20 k21 j5 k23 k24 k25 k26 k27 k28 k32 k29 k30 k31
theorem inst:Tryz.f9.isInstance Tryz.pinned.checked.prog Rows.attackTapsUptoRow.origin Rows.attackTapsUptoRow.targs:=of_decide_eq_true (by kernel_rfl)
theorem wrap:Tryz.f9.isWrapper Tryz.pinned.checked.prog Rows.attackTapsUptoRow.wrapper Rows.attackTapsUptoRow.mainSum:=by unfold Func.isWrapper;first|(rw[if_pos (by decide +kernel)];kernel_rfl)|(rw[if_neg (by decide +kernel)];exact⟨rfl,rfl⟩)
end Go.Proofs.YtchmoabpofnbaaaGreat.attackTaps
