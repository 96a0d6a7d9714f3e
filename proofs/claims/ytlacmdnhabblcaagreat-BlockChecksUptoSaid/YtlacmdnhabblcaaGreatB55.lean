import Derived.Test.YtlacmdnhabblcaaGreatRows
import Derived.ProofKit
import Derived.OpenShut
import Derived.JoinedCond
import Derived.Test.YtlacmdnhabblcaaGreatB30
set_option linter.all false
namespace Go.Proofs.YtlacmdnhabblcaaGreat.blockChecks
open Go Go.Pv Go.ChangeShapes Go.WideShapes Go.ChangeAt
theorem own:ownKnob Tryz.prog.godebug=none:=by kernel_rfl
theorem noInit:Tryz.checked.prog.inits.idxOf? 5=none:=by kernel_rfl
theorem zY:Tryz.pinned.checked.prog.funcNamed Rows.blockChecksUptoRow.func=some 5:=by kernel_rfl
theorem j1:(Rows.blockChecksUptoRow.inPlace==Tryz.pinned.checked.prog.inPlace 5)=true:=by kernel_rfl
theorem j2:(Rows.blockChecksUptoRow.unfollowed==Tryz.pinned.checked.prog.unfollowed 5)=true:=by kernel_rfl
theorem j3:(Rows.blockChecksUptoRow.recurses==Tryz.pinned.checked.prog.recurses 5)=true:=by kernel_rfl
theorem j4:(Rows.blockChecksUptoRow.named==Tryz.pinned.checked.prog.varsNamed 5)=true:=by kernel_rfl
theorem j5:(Rows.blockChecksUptoRow.plainKeys==Tryz.pinned.checked.prog.plainKeys)=true:=by kernel_rfl
theorem k0:(Rows.blockChecksUptoRow.wf (OpenSpec.ofChange (Rows.OpenSpec.upto Rows.blockChecksSpec).bare))=true:=by kernel_rfl
theorem k1:(laidOutB Tryz.pinned.checked.prog)=true:=by kernel_rfl
theorem k2:(mapsRowed Tryz.pinned.checked.prog)=true:=by kernel_rfl
theorem k3:(Tryz.f5.params.all (Tryz.pinned.checked.prog.readableRec ·))=true:=by kernel_rfl
theorem k4:(namedTie Tryz.pinned.checked.prog Rows.blockChecksUptoRow.named (Rows.OpenSpec.upto Rows.blockChecksSpec).bare.vars)=true:=by kernel_rfl
theorem k5:((Rows.blockChecksUptoRow.stops==[]))=true:=by kernel_rfl
theorem k6:((Tryz.pinned.checked.prog.stops==[]))=true:=by kernel_rfl
theorem k7:((Rows.blockChecksUptoRow.knobs==[]))=true:=by kernel_rfl
theorem k8:((Tryz.pinned.checked.prog.stopKnobs==[]))=true:=by kernel_rfl
theorem k13:((Rows.blockChecksUptoRow.maps==(Tryz.f5.params.toList++(Rows.OpenSpec.upto Rows.blockChecksSpec).bare.plain.varTypes Tryz.pinned.checked.prog).any (Tryz.pinned.checked.prog.mapsRec ·)))=true:=by kernel_rfl
theorem k14:((Rows.blockChecksUptoRow.ifaces==(Tryz.f5.params.toList++(Rows.OpenSpec.upto Rows.blockChecksSpec).bare.plain.varTypes Tryz.pinned.checked.prog).any (Tryz.pinned.checked.prog.ifacesRec ·)))=true:=by kernel_rfl
theorem k15:((Rows.blockChecksUptoRow.mapsOut==Tryz.pinned.checked.prog.mapsAmong Tryz.f5.resultTypes.toList))=true:=by kernel_rfl
theorem k16:((Rows.blockChecksUptoRow.loops==(Tryz.f5.params.toList++(Rows.OpenSpec.upto Rows.blockChecksSpec).bare.plain.varTypes Tryz.pinned.checked.prog).any (Tryz.pinned.checked.prog.loopsFrom ·)))=true:=by kernel_rfl
theorem k17:((Rows.blockChecksUptoRow.wideKeys==(Tryz.f5.params.toList++(Rows.OpenSpec.upto Rows.blockChecksSpec).bare.plain.varTypes Tryz.pinned.checked.prog++Tryz.f5.resultTypes.toList).any (Tryz.pinned.checked.prog.wideKeysFrom ·)))=true:=by kernel_rfl
theorem k18:((Rows.OpenSpec.upto Rows.blockChecksSpec).bare.vars.all (Tryz.pinned.checked.prog.varReadable ·))=true:=by kernel_rfl
theorem k19:(Tryz.f5.resultTypes.all (λt=>Tryz.pinned.checked.prog.readableRec t&&decide (t<Tryz.pinned.checked.prog.types.size)))=true:=by kernel_rfl
theorem k20:((Rows.blockChecksUptoRow.ifacesOut==Tryz.f5.resultTypes.toList.any (Tryz.pinned.checked.prog.ifacesRec ·)))=true:=by kernel_rfl
theorem k21:((Rows.blockChecksUptoRow.loopsOut==Tryz.f5.resultTypes.toList.any (Tryz.pinned.checked.prog.loopsFrom ·)))=true:=by kernel_rfl
theorem k23:(Rows.blockChecksUptoRow.shortTexts.isNone)=true:=by kernel_rfl
theorem k24:(Tryz.pinned.checked.prog.stopsHeard)=true:=by kernel_rfl
theorem k25:(Tryz.pinned.checked.prog.mayEnter)=true:=by kernel_rfl
theorem k26:((Rows.blockChecksUptoRow.lifted==Tryz.pinned.checked.prog.liftsFinal))=true:=by kernel_rfl
theorem k27:((Tryz.pinned.checked.prog.make==some Rows.blockChecksUptoRow.make))=true:=by kernel_rfl
theorem k28:Rows.blockChecksUptoRow.domain.isEmpty=true:=by kernel_rfl
theorem k32:(Rows.blockChecksUptoRow.kinds==[])=true:=by kernel_rfl
theorem k29:((Rows.blockChecksUptoRow.pinned==Rows.blockChecksUptoRow.pinnedBy))=true:=by kernel_rfl
theorem k30:((Rows.blockChecksUptoRow.veiled==(Tryz.f5.params.toList++(Rows.OpenSpec.upto Rows.blockChecksSpec).bare.plain.varTypes Tryz.pinned.checked.prog++Tryz.f5.resultTypes.toList).any (Tryz.pinned.checked.prog.veiledRec ·)))=true:=by kernel_rfl
theorem k31:(Rows.blockChecksUptoRow.veiledFits Tryz.pinned.checked.prog Tryz.f5.params.toList (Tryz.f5.params.toList++(Rows.OpenSpec.upto Rows.blockChecksSpec).bare.plain.varTypes Tryz.pinned.checked.prog++Tryz.f5.resultTypes.toList))=true:=by kernel_rfl
theorem joined:joinedFacts Tryz.pinned.checked.prog 5 Tryz.f5 (Rows.OpenSpec.upto Rows.blockChecksSpec).bare Rows.blockChecksUptoRow=true:=uC (P:=Tryz.pinned.checked.prog) (f:=5) (fn:=Tryz.f5) (s:=(Rows.OpenSpec.upto Rows.blockChecksSpec).bare) (c:=Rows.blockChecksUptoRow) k0 k1 k2 k3 k4 k5 k6 k7 k8 j1 j2 j3 j4 k13 k14 k15 k16 k17 k18 k19 k20 k21 j5 k23 k24 k25 k26 k27 k28 k32 k29 k30 k31
theorem inst:Tryz.f5.isInstance Tryz.pinned.checked.prog Rows.blockChecksUptoRow.origin Rows.blockChecksUptoRow.targs:=of_decide_eq_true (by kernel_rfl)
theorem wrap:Tryz.f5.isWrapper Tryz.pinned.checked.prog Rows.blockChecksUptoRow.wrapper Rows.blockChecksUptoRow.mainSum:=by unfold Func.isWrapper;first|(rw[if_pos (by decide +kernel)];kernel_rfl)|(rw[if_neg (by decide +kernel)];exact⟨rfl,rfl⟩)
end Go.Proofs.YtlacmdnhabblcaaGreat.blockChecks
