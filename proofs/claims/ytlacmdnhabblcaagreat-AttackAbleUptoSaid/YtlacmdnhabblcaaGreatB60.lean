import Derived.Test.YtlacmdnhabblcaaGreatRows
import Derived.ProofKit
import Derived.OpenShut
import Derived.JoinedCond
import Derived.Test.YtlacmdnhabblcaaGreatB30
set_option linter.all false
namespace Go.Proofs.YtlacmdnhabblcaaGreat.attackAble
open Go Go.Pv Go.ChangeShapes Go.WideShapes Go.ChangeAt
theorem own:ownKnob Tryz.prog.godebug=none:=by kernel_rfl
theorem noInit:Tryz.checked.prog.inits.idxOf? 12=none:=by kernel_rfl
theorem zY:Tryz.pinned.checked.prog.funcNamed Rows.attackAbleUptoRow.func=some 12:=by kernel_rfl
theorem j1:(Rows.attackAbleUptoRow.inPlace==Tryz.pinned.checked.prog.inPlace 12)=true:=by kernel_rfl
theorem j2:(Rows.attackAbleUptoRow.unfollowed==Tryz.pinned.checked.prog.unfollowed 12)=true:=by kernel_rfl
theorem j3:(Rows.attackAbleUptoRow.recurses==Tryz.pinned.checked.prog.recurses 12)=true:=by kernel_rfl
theorem j4:(Rows.attackAbleUptoRow.named==Tryz.pinned.checked.prog.varsNamed 12)=true:=by kernel_rfl
theorem j5:(Rows.attackAbleUptoRow.plainKeys==Tryz.pinned.checked.prog.plainKeys)=true:=by kernel_rfl
theorem k0:(Rows.attackAbleUptoRow.wf (OpenSpec.ofChange (Rows.OpenSpec.upto Rows.attackAbleSpec).bare))=true:=by kernel_rfl
theorem k1:(laidOutB Tryz.pinned.checked.prog)=true:=by kernel_rfl
theorem k2:(mapsRowed Tryz.pinned.checked.prog)=true:=by kernel_rfl
theorem k3:(Tryz.f12.params.all (Tryz.pinned.checked.prog.readableRec ·))=true:=by kernel_rfl
theorem k4:(namedTie Tryz.pinned.checked.prog Rows.attackAbleUptoRow.named (Rows.OpenSpec.upto Rows.attackAbleSpec).bare.vars)=true:=by kernel_rfl
theorem k5:((Rows.attackAbleUptoRow.stops==[]))=true:=by kernel_rfl
theorem k6:((Tryz.pinned.checked.prog.stops==[]))=true:=by kernel_rfl
theorem k7:((Rows.attackAbleUptoRow.knobs==[]))=true:=by kernel_rfl
theorem k8:((Tryz.pinned.checked.prog.stopKnobs==[]))=true:=by kernel_rfl
theorem k13:((Rows.attackAbleUptoRow.maps==(Tryz.f12.params.toList++(Rows.OpenSpec.upto Rows.attackAbleSpec).bare.plain.varTypes Tryz.pinned.checked.prog).any (Tryz.pinned.checked.prog.mapsRec ·)))=true:=by kernel_rfl
theorem k14:((Rows.attackAbleUptoRow.ifaces==(Tryz.f12.params.toList++(Rows.OpenSpec.upto Rows.attackAbleSpec).bare.plain.varTypes Tryz.pinned.checked.prog).any (Tryz.pinned.checked.prog.ifacesRec ·)))=true:=by kernel_rfl
theorem k15:((Rows.attackAbleUptoRow.mapsOut==Tryz.pinned.checked.prog.mapsAmong Tryz.f12.resultTypes.toList))=true:=by kernel_rfl
theorem k16:((Rows.attackAbleUptoRow.loops==(Tryz.f12.params.toList++(Rows.OpenSpec.upto Rows.attackAbleSpec).bare.plain.varTypes Tryz.pinned.checked.prog).any (Tryz.pinned.checked.prog.loopsFrom ·)))=true:=by kernel_rfl
theorem k17:((Rows.attackAbleUptoRow.wideKeys==(Tryz.f12.params.toList++(Rows.OpenSpec.upto Rows.attackAbleSpec).bare.plain.varTypes Tryz.pinned.checked.prog++Tryz.f12.resultTypes.toList).any (Tryz.pinned.checked.prog.wideKeysFrom ·)))=true:=by kernel_rfl
theorem k18:((Rows.OpenSpec.upto Rows.attackAbleSpec).bare.vars.all (Tryz.pinned.checked.prog.varReadable ·))=true:=by kernel_rfl
theorem k19:(Tryz.f12.resultTypes.all (λt=>Tryz.pinned.checked.prog.readableRec t&&decide (t<Tryz.pinned.checked.prog.types.size)))=true:=by kernel_rfl
theorem k20:((Rows.attackAbleUptoRow.ifacesOut==Tryz.f12.resultTypes.toList.any (Tryz.pinned.checked.prog.ifacesRec ·)))=true:=by kernel_rfl
theorem k21:((Rows.attackAbleUptoRow.loopsOut==Tryz.f12.resultTypes.toList.any (Tryz.pinned.checked.prog.loopsFrom ·)))=true:=by kernel_rfl
theorem k23:(Rows.attackAbleUptoRow.shortTexts.isNone)=true:=by kernel_rfl
theorem k24:(Tryz.pinned.checked.prog.stopsHeard)=true:=by kernel_rfl
theorem k25:(Tryz.pinned.checked.prog.mayEnter)=true:=by kernel_rfl
theorem k26:((Rows.attackAbleUptoRow.lifted==Tryz.pinned.checked.prog.liftsFinal))=true:=by kernel_rfl
theorem k27:((Tryz.pinned.checked.prog.make==some Rows.attackAbleUptoRow.make))=true:=by kernel_rfl
theorem k28:Rows.attackAbleUptoRow.domain.isEmpty=true:=by kernel_rfl
theorem k32:(Rows.attackAbleUptoRow.kinds==[])=true:=by kernel_rfl
theorem k29:((Rows.attackAbleUptoRow.pinned==Rows.attackAbleUptoRow.pinnedBy))=true:=by kernel_rfl
theorem k30:((Rows.attackAbleUptoRow.veiled==(Tryz.f12.params.toList++(Rows.OpenSpec.upto Rows.attackAbleSpec).bare.plain.varTypes Tryz.pinned.checked.prog++Tryz.f12.resultTypes.toList).any (Tryz.pinned.checked.prog.veiledRec ·)))=true:=by kernel_rfl
theorem k31:(Rows.attackAbleUptoRow.veiledFits Tryz.pinned.checked.prog Tryz.f12.params.toList (Tryz.f12.params.toList++(Rows.OpenSpec.upto Rows.attackAbleSpec).bare.plain.varTypes Tryz.pinned.checked.prog++Tryz.f12.resultTypes.toList))=true:=by kernel_rfl
theorem joined:joinedFacts Tryz.pinned.checked.prog 12 Tryz.f12 (Rows.OpenSpec.upto Rows.attackAbleSpec).bare Rows.attackAbleUptoRow=true:=uC (P:=Tryz.pinned.checked.prog) (f:=12) (fn:=Tryz.f12) (s:=(Rows.OpenSpec.upto Rows.attackAbleSpec).bare) (c:=Rows.attackAbleUptoRow) k0 k1 k2 k3 k4 k5 k6 k7 k8 j1 j2 j3 j4 k13 k14 k15 k16 k17 k18 k19 k20 k21 j5 k23 k24 k25 k26 k27 k28 k32 k29 k30 k31
theorem inst:Tryz.f12.isInstance Tryz.pinned.checked.prog Rows.attackAbleUptoRow.origin Rows.attackAbleUptoRow.targs:=of_decide_eq_true (by kernel_rfl)
theorem wrap:Tryz.f12.isWrapper Tryz.pinned.checked.prog Rows.attackAbleUptoRow.wrapper Rows.attackAbleUptoRow.mainSum:=by unfold Func.isWrapper;first|(rw[if_pos (by decide +kernel)];kernel_rfl)|(rw[if_neg (by decide +kernel)];exact⟨rfl,rfl⟩)
end Go.Proofs.YtlacmdnhabblcaaGreat.attackAble
