import Derived.Test.YtlacmdnhabblcaaGreatRows
import Derived.ProofKit
import Derived.OpenShut
import Derived.JoinedCond
import Derived.Test.YtlacmdnhabblcaaGreatB30
set_option linter.all false
namespace Go.Proofs.YtlacmdnhabblcaaGreat.costUses
open Go Go.Pv Go.ChangeShapes Go.WideShapes Go.ChangeAt
theorem own:ownKnob Tryz.prog.godebug=none:=by kernel_rfl
theorem noInit:Tryz.checked.prog.inits.idxOf? 14=none:=by kernel_rfl
theorem zY:Tryz.pinned.checked.prog.funcNamed Rows.costUsesUptoRow.func=some 14:=by kernel_rfl
theorem j1:(Rows.costUsesUptoRow.inPlace==Tryz.pinned.checked.prog.inPlace 14)=true:=by kernel_rfl
theorem j2:(Rows.costUsesUptoRow.unfollowed==Tryz.pinned.checked.prog.unfollowed 14)=true:=by kernel_rfl
theorem j3:(Rows.costUsesUptoRow.recurses==Tryz.pinned.checked.prog.recurses 14)=true:=by kernel_rfl
theorem j4:(Rows.costUsesUptoRow.named==Tryz.pinned.checked.prog.varsNamed 14)=true:=by kernel_rfl
theorem j5:(Rows.costUsesUptoRow.plainKeys==Tryz.pinned.checked.prog.plainKeys)=true:=by kernel_rfl
theorem k0:(Rows.costUsesUptoRow.wf (OpenSpec.ofChange (Rows.OpenSpec.upto Rows.costUsesSpec).bare))=true:=by kernel_rfl
theorem k1:(laidOutB Tryz.pinned.checked.prog)=true:=by kernel_rfl
theorem k2:(mapsRowed Tryz.pinned.checked.prog)=true:=by kernel_rfl
theorem k3:(Tryz.f14.params.all (Tryz.pinned.checked.prog.readableRec ·))=true:=by kernel_rfl
theorem k4:(namedTie Tryz.pinned.checked.prog Rows.costUsesUptoRow.named (Rows.OpenSpec.upto Rows.costUsesSpec).bare.vars)=true:=by kernel_rfl
theorem k5:((Rows.costUsesUptoRow.stops==[]))=true:=by kernel_rfl
theorem k6:((Tryz.pinned.checked.prog.stops==[]))=true:=by kernel_rfl
theorem k7:((Rows.costUsesUptoRow.knobs==[]))=true:=by kernel_rfl
theorem k8:((Tryz.pinned.checked.prog.stopKnobs==[]))=true:=by kernel_rfl
theorem k13:((Rows.costUsesUptoRow.maps==(Tryz.f14.params.toList++(Rows.OpenSpec.upto Rows.costUsesSpec).bare.plain.varTypes Tryz.pinned.checked.prog).any (Tryz.pinned.checked.prog.mapsRec ·)))=true:=by kernel_rfl
theorem k14:((Rows.costUsesUptoRow.ifaces==(Tryz.f14.params.toList++(Rows.OpenSpec.upto Rows.costUsesSpec).bare.plain.varTypes Tryz.pinned.checked.prog).any (Tryz.pinned.checked.prog.ifacesRec ·)))=true:=by kernel_rfl
theorem k15:((Rows.costUsesUptoRow.mapsOut==Tryz.pinned.checked.prog.mapsAmong Tryz.f14.resultTypes.toList))=true:=by kernel_rfl
theorem k16:((Rows.costUsesUptoRow.loops==(Tryz.f14.params.toList++(Rows.OpenSpec.upto Rows.costUsesSpec).bare.plain.varTypes Tryz.pinned.checked.prog).any (Tryz.pinned.checked.prog.loopsFrom ·)))=true:=by kernel_rfl
theorem k17:((Rows.costUsesUptoRow.wideKeys==(Tryz.f14.params.toList++(Rows.OpenSpec.upto Rows.costUsesSpec).bare.plain.varTypes Tryz.pinned.checked.prog++Tryz.f14.resultTypes.toList).any (Tryz.pinned.checked.prog.wideKeysFrom ·)))=true:=by kernel_rfl
theorem k18:((Rows.OpenSpec.upto Rows.costUsesSpec).bare.vars.all (Tryz.pinned.checked.prog.varReadable ·))=true:=by kernel_rfl
theorem k19:(Tryz.f14.resultTypes.all (λt=>Tryz.pinned.checked.prog.readableRec t&&decide (t<Tryz.pinned.checked.prog.types.size)))=true:=by kernel_rfl
theorem k20:((Rows.costUsesUptoRow.ifacesOut==Tryz.f14.resultTypes.toList.any (Tryz.pinned.checked.prog.ifacesRec ·)))=true:=by kernel_rfl
theorem k21:((Rows.costUsesUptoRow.loopsOut==Tryz.f14.resultTypes.toList.any (Tryz.pinned.checked.prog.loopsFrom ·)))=true:=by kernel_rfl
theorem k23:(Rows.costUsesUptoRow.shortTexts.isNone)=true:=by kernel_rfl
theorem k24:(Tryz.pinned.checked.prog.stopsHeard)=true:=by kernel_rfl
theorem k25:(Tryz.pinned.checked.prog.mayEnter)=true:=by kernel_rfl
theorem k26:((Rows.costUsesUptoRow.lifted==Tryz.pinned.checked.prog.liftsFinal))=true:=by kernel_rfl
theorem k27:((Tryz.pinned.checked.prog.make==some Rows.costUsesUptoRow.make))=true:=by kernel_rfl
theorem k28:Rows.costUsesUptoRow.domain.isEmpty=true:=by kernel_rfl
theorem k32:(Rows.costUsesUptoRow.kinds==[])=true:=by kernel_rfl
theorem k29:((Rows.costUsesUptoRow.pinned==Rows.costUsesUptoRow.pinnedBy))=true:=by kernel_rfl
theorem k30:((Rows.costUsesUptoRow.veiled==(Tryz.f14.params.toList++(Rows.OpenSpec.upto Rows.costUsesSpec).bare.plain.varTypes Tryz.pinned.checked.prog++Tryz.f14.resultTypes.toList).any (Tryz.pinned.checked.prog.veiledRec ·)))=true:=by kernel_rfl
theorem k31:(Rows.costUsesUptoRow.veiledFits Tryz.pinned.checked.prog Tryz.f14.params.toList (Tryz.f14.params.toList++(Rows.OpenSpec.upto Rows.costUsesSpec).bare.plain.varTypes Tryz.pinned.checked.prog++Tryz.f14.resultTypes.toList))=true:=by kernel_rfl
theorem joined:joinedFacts Tryz.pinned.checked.prog 14 Tryz.f14 (Rows.OpenSpec.upto Rows.costUsesSpec).bare Rows.costUsesUptoRow=true:=uC (P:=Tryz.pinned.checked.prog) (f:=14) (fn:=Tryz.f14) (s:=(Rows.OpenSpec.upto Rows.costUsesSpec).bare) (c:=Rows.costUsesUptoRow) k0 k1 k2 k3 k4 k5 k6 k7 k8 j1 j2 j3 j4 k13 k14 k15 k16 k17 k18 k19 k20 k21 j5 k23 k24 k25 k26 k27 k28 k32 k29 k30 k31
theorem inst:Tryz.f14.isInstance Tryz.pinned.checked.prog Rows.costUsesUptoRow.origin Rows.costUsesUptoRow.targs:=of_decide_eq_true (by kernel_rfl)
theorem wrap:Tryz.f14.isWrapper Tryz.pinned.checked.prog Rows.costUsesUptoRow.wrapper Rows.costUsesUptoRow.mainSum:=by unfold Func.isWrapper;first|(rw[if_pos (by decide +kernel)];kernel_rfl)|(rw[if_neg (by decide +kernel)];exact⟨rfl,rfl⟩)
end Go.Proofs.YtlacmdnhabblcaaGreat.costUses
