import Derived.Test.YtchmoabpofnbaaaGreatRows
import Derived.ProofKit
import Derived.OpenShut
import Derived.JoinedCond
import Derived.Test.YtchmoabpofnbaaaGreatC101
set_option linter.all false
namespace Go.Proofs.YtchmoabpofnbaaaGreat.attackIllegal
open Go Go.Pv Go.ChangeShapes Go.WideShapes Go.ChangeAt
theorem own:ownKnob Tryz.prog.godebug=none:=by kernel_rfl
theorem noInit:Tryz.checked.prog.inits.idxOf? 8=none:=by kernel_rfl
theorem ahe:Tryz.pinned.checked.prog.funcNamed Rows.attackIllegalUptoRow.func=some 8:=by kernel_rfl
theorem j1:(Rows.attackIllegalUptoRow.inPlace==Tryz.pinned.checked.prog.inPlace 8)=true:=by kernel_rfl
theorem j2:(Rows.attackIllegalUptoRow.unfollowed==Tryz.pinned.checked.prog.unfollowed 8)=true:=by kernel_rfl
theorem j3:(Rows.attackIllegalUptoRow.recurses==Tryz.pinned.checked.prog.recurses 8)=true:=by kernel_rfl
theorem j4:(Rows.attackIllegalUptoRow.named==Tryz.pinned.checked.prog.varsNamed 8)=true:=by kernel_rfl
theorem j5:(Rows.attackIllegalUptoRow.plainKeys==Tryz.pinned.checked.prog.plainKeys)=true:=by kernel_rfl
theorem k0:(Rows.attackIllegalUptoRow.wf (OpenSpec.ofChange (Rows.OpenSpec.upto Rows.attackIllegalSpec).bare))=true:=by kernel_rfl
theorem k1:(laidOutB Tryz.pinned.checked.prog)=true:=by kernel_rfl
theorem k2:(mapsRowed Tryz.pinned.checked.prog)=true:=by kernel_rfl
theorem k3:(Tryz.f8.params.all (Tryz.pinned.checked.prog.readableRec ·))=true:=by kernel_rfl
theorem k4:(namedTie Tryz.pinned.checked.prog Rows.attackIllegalUptoRow.named (Rows.OpenSpec.upto Rows.attackIllegalSpec).bare.vars)=true:=by kernel_rfl
theorem k5:((Rows.attackIllegalUptoRow.stops==[]))=true:=by kernel_rfl
theorem k6:((Tryz.pinned.checked.prog.stops==[]))=true:=by kernel_rfl
theorem k7:((Rows.attackIllegalUptoRow.knobs==[]))=true:=by kernel_rfl
theorem k8:((Tryz.pinned.checked.prog.stopKnobs==[]))=true:=by kernel_rfl
theorem k13:((Rows.attackIllegalUptoRow.maps==(Tryz.f8.params.toList++(Rows.OpenSpec.upto Rows.attackIllegalSpec).bare.plain.varTypes Tryz.pinned.checked.prog).any (Tryz.pinned.checked.prog.mapsRec ·)))=true:=by kernel_rfl
theorem k14:((Rows.attackIllegalUptoRow.ifaces==(Tryz.f8.params.toList++(Rows.OpenSpec.upto Rows.attackIllegalSpec).bare.plain.varTypes Tryz.pinned.checked.prog).any (Tryz.pinned.checked.prog.ifacesRec ·)))=true:=by kernel_rfl
theorem k15:((Rows.attackIllegalUptoRow.mapsOut==Tryz.pinned.checked.prog.mapsAmong Tryz.f8.resultTypes.toList))=true:=by kernel_rfl
theorem k16:((Rows.attackIllegalUptoRow.loops==(Tryz.f8.params.toList++(Rows.OpenSpec.upto Rows.attackIllegalSpec).bare.plain.varTypes Tryz.pinned.checked.prog).any (Tryz.pinned.checked.prog.loopsFrom ·)))=true:=by kernel_rfl
theorem k17:((Rows.attackIllegalUptoRow.wideKeys==(Tryz.f8.params.toList++(Rows.OpenSpec.upto Rows.attackIllegalSpec).bare.plain.varTypes Tryz.pinned.checked.prog++Tryz.f8.resultTypes.toList).any (Tryz.pinned.checked.prog.wideKeysFrom ·)))=true:=by kernel_rfl
theorem k18:((Rows.OpenSpec.upto Rows.attackIllegalSpec).bare.vars.all (Tryz.pinned.checked.prog.varReadable ·))=true:=by kernel_rfl
theorem k19:(Tryz.f8.resultTypes.all (λt=>Tryz.pinned.checked.prog.readableRec t&&decide (t<Tryz.pinned.checked.prog.types.size)))=true:=by kernel_rfl
theorem k20:((Rows.attackIllegalUptoRow.ifacesOut==Tryz.f8.resultTypes.toList.any (Tryz.pinned.checked.prog.ifacesRec ·)))=true:=by kernel_rfl
theorem k21:((Rows.attackIllegalUptoRow.loopsOut==Tryz.f8.resultTypes.toList.any (Tryz.pinned.checked.prog.loopsFrom ·)))=true:=by kernel_rfl
theorem k23:(Rows.attackIllegalUptoRow.shortTexts.isNone)=true:=by kernel_rfl
theorem k24:(Tryz.pinned.checked.prog.stopsHeard)=true:=by kernel_rfl
theorem k25:(Tryz.pinned.checked.prog.mayEnter)=true:=by kernel_rfl
theorem k26:((Rows.attackIllegalUptoRow.lifted==Tryz.pinned.checked.prog.liftsFinal))=true:=by kernel_rfl
theorem k27:((Tryz.pinned.checked.prog.make==some Rows.attackIllegalUptoRow.make))=true:=by kernel_rfl
theorem k28:Rows.attackIllegalUptoRow.domain.isEmpty=true:=by kernel_rfl
theorem k32:(Rows.attackIllegalUptoRow.kinds==[])=true:=by kernel_rfl
theorem k29:((Rows.attackIllegalUptoRow.pinned==Rows.attackIllegalUptoRow.pinnedBy))=true:=by kernel_rfl
theorem k30:((Rows.attackIllegalUptoRow.veiled==(Tryz.f8.params.toList++(Rows.OpenSpec.upto Rows.attackIllegalSpec).bare.plain.varTypes Tryz.pinned.checked.prog++Tryz.f8.resultTypes.toList).any (Tryz.pinned.checked.prog.veiledRec ·)))=true:=by kernel_rfl
theorem k31:(Rows.attackIllegalUptoRow.veiledFits Tryz.pinned.checked.prog Tryz.f8.params.toList (Tryz.f8.params.toList++(Rows.OpenSpec.upto Rows.attackIllegalSpec).bare.plain.varTypes Tryz.pinned.checked.prog++Tryz.f8.resultTypes.toList))=true:=by kernel_rfl
theorem joined:joinedFacts Tryz.pinned.checked.prog 8 Tryz.f8 (Rows.OpenSpec.upto Rows.attackIllegalSpec).bare Rows.attackIllegalUptoRow=true:=Ym (P:=Tryz.pinned.checked.prog) (f:=8) (fn:=Tryz.f8) (s:=(Rows.OpenSpec.upto Rows.attackIllegalSpec).bare) (c:=Rows.attackIllegalUptoRow) k0 k1 k2 k3 k4 k5 k6 k7 k8 j1 j2 j3 j4 k13 k14 k15 k16 k17 k18 k19 k20 k21 j5 k23 k24 k25 k26 k27 k28 k32 k29 k30 k31
theorem inst:Tryz.f8.isInstance Tryz.pinned.checked.prog Rows.attackIllegalUptoRow.origin Rows.attackIllegalUptoRow.targs:=of_decide_eq_true (by kernel_rfl)
theorem wrap:Tryz.f8.isWrapper Tryz.pinned.checked.prog Rows.attackIllegalUptoRow.wrapper Rows.attackIllegalUptoRow.mainSum:=by unfold Func.isWrapper;first|(rw[if_pos (by decide +kernel)];kernel_rfl)|(rw[if_neg (by decide +kernel)];exact⟨rfl,rfl⟩)
end Go.Proofs.YtchmoabpofnbaaaGreat.attackIllegal
