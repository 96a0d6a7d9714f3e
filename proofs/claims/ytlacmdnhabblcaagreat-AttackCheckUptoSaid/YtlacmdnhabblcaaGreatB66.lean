import Derived.Test.YtlacmdnhabblcaaGreatRows
import Derived.ProofKit
import Derived.OpenShut
import Derived.JoinedCond
import Derived.Test.YtlacmdnhabblcaaGreatB30
set_option linter.all false
namespace Go.Proofs.YtlacmdnhabblcaaGreat.attackCheck
open Go Go.Pv Go.ChangeShapes Go.WideShapes Go.ChangeAt
theorem own:ownKnob Tryz.prog.godebug=none:=by kernel_rfl
theorem noInit:Tryz.checked.prog.inits.idxOf? 13=none:=by kernel_rfl
theorem zY:Tryz.pinned.checked.prog.funcNamed Rows.attackCheckUptoRow.func=some 13:=by kernel_rfl
theorem j1:(Rows.attackCheckUptoRow.inPlace==Tryz.pinned.checked.prog.inPlace 13)=true:=by kernel_rfl
theorem j2:(Rows.attackCheckUptoRow.unfollowed==Tryz.pinned.checked.prog.unfollowed 13)=true:=by kernel_rfl
theorem j3:(Rows.attackCheckUptoRow.recurses==Tryz.pinned.checked.prog.recurses 13)=true:=by kernel_rfl
theorem j4:(Rows.attackCheckUptoRow.named==Tryz.pinned.checked.prog.varsNamed 13)=true:=by kernel_rfl
theorem j5:(Rows.attackCheckUptoRow.plainKeys==Tryz.pinned.checked.prog.plainKeys)=true:=by kernel_rfl
theorem k0:(Rows.attackCheckUptoRow.wf (OpenSpec.ofChange (Rows.OpenSpec.upto Rows.attackCheckSpec).bare))=true:=by kernel_rfl
theorem k1:(laidOutB Tryz.pinned.checked.prog)=true:=by kernel_rfl
theorem k2:(mapsRowed Tryz.pinned.checked.prog)=true:=by kernel_rfl
theorem k3:(Tryz.f13.params.all (Tryz.pinned.checked.prog.readableRec ·))=true:=by kernel_rfl
theorem k4:(namedTie Tryz.pinned.checked.prog Rows.attackCheckUptoRow.named (Rows.OpenSpec.upto Rows.attackCheckSpec).bare.vars)=true:=by kernel_rfl
theorem k5:((Rows.attackCheckUptoRow.stops==[]))=true:=by kernel_rfl
theorem k6:((Tryz.pinned.checked.prog.stops==[]))=true:=by kernel_rfl
theorem k7:((Rows.attackCheckUptoRow.knobs==[]))=true:=by kernel_rfl
theorem k8:((Tryz.pinned.checked.prog.stopKnobs==[]))=true:=by kernel_rfl
theorem k13:((Rows.attackCheckUptoRow.maps==(Tryz.f13.params.toList++(Rows.OpenSpec.upto Rows.attackCheckSpec).bare.plain.varTypes Tryz.pinned.checked.prog).any (Tryz.pinned.checked.prog.mapsRec ·)))=true:=by kernel_rfl
theorem k14:((Rows.attackCheckUptoRow.ifaces==(Tryz.f13.params.toList++(Rows.OpenSpec.upto Rows.attackCheckSpec).bare.plain.varTypes Tryz.pinned.checked.prog).any (Tryz.pinned.checked.prog.ifacesRec ·)))=true:=by kernel_rfl
theorem k15:((Rows.attackCheckUptoRow.mapsOut==Tryz.pinned.checked.prog.mapsAmong Tryz.f13.resultTypes.toList))=true:=by kernel_rfl
theorem k16:((Rows.attackCheckUptoRow.loops==(Tryz.f13.params.toList++(Rows.OpenSpec.upto Rows.attackCheckSpec).bare.plain.varTypes Tryz.pinned.checked.prog).any (Tryz.pinned.checked.prog.loopsFrom ·)))=true:=by kernel_rfl
theorem k17:((Rows.attackCheckUptoRow.wideKeys==(Tryz.f13.params.toList++(Rows.OpenSpec.upto Rows.attackCheckSpec).bare.plain.varTypes Tryz.pinned.checked.prog++Tryz.f13.resultTypes.toList).any (Tryz.pinned.checked.prog.wideKeysFrom ·)))=true:=by kernel_rfl
theorem k18:((Rows.OpenSpec.upto Rows.attackCheckSpec).bare.vars.all (Tryz.pinned.checked.prog.varReadable ·))=true:=by kernel_rfl
theorem k19:(Tryz.f13.resultTypes.all (λt=>Tryz.pinned.checked.prog.readableRec t&&decide (t<Tryz.pinned.checked.prog.types.size)))=true:=by kernel_rfl
theorem k20:((Rows.attackCheckUptoRow.ifacesOut==Tryz.f13.resultTypes.toList.any (Tryz.pinned.checked.prog.ifacesRec ·)))=true:=by kernel_rfl
theorem k21:((Rows.attackCheckUptoRow.loopsOut==Tryz.f13.resultTypes.toList.any (Tryz.pinned.checked.prog.loopsFrom ·)))=true:=by kernel_rfl
theorem k23:(Rows.attackCheckUptoRow.shortTexts.isNone)=true:=by kernel_rfl
theorem k24:(Tryz.pinned.checked.prog.stopsHeard)=true:=by kernel_rfl
theorem k25:(Tryz.pinned.checked.prog.mayEnter)=true:=by kernel_rfl
theorem k26:((Rows.attackCheckUptoRow.lifted==Tryz.pinned.checked.prog.liftsFinal))=true:=by kernel_rfl
theorem k27:((Tryz.pinned.checked.prog.make==some Rows.attackCheckUptoRow.make))=true:=by kernel_rfl
theorem k28:Rows.attackCheckUptoRow.domain.isEmpty=true:=by kernel_rfl
theorem k32:(Rows.attackCheckUptoRow.kinds==[])=true:=by kernel_rfl
theorem k29:((Rows.attackCheckUptoRow.pinned==Rows.attackCheckUptoRow.pinnedBy))=true:=by kernel_rfl
theorem k30:((Rows.attackCheckUptoRow.veiled==(Tryz.f13.params.toList++(Rows.OpenSpec.upto Rows.attackCheckSpec).bare.plain.varTypes Tryz.pinned.checked.prog++Tryz.f13.resultTypes.toList).any (Tryz.pinned.checked.prog.veiledRec ·)))=true:=by kernel_rfl
theorem k31:(Rows.attackCheckUptoRow.veiledFits Tryz.pinned.checked.prog Tryz.f13.params.toList (Tryz.f13.params.toList++(Rows.OpenSpec.upto Rows.attackCheckSpec).bare.plain.varTypes Tryz.pinned.checked.prog++Tryz.f13.resultTypes.toList))=true:=by kernel_rfl
theorem joined:joinedFacts Tryz.pinned.checked.prog 13 Tryz.f13 (Rows.OpenSpec.upto Rows.attackCheckSpec).bare Rows.attackCheckUptoRow=true:=uC (P:=Tryz.pinned.checked.prog) (f:=13) (fn:=Tryz.f13) (s:=(Rows.OpenSpec.upto Rows.attackCheckSpec).bare) (c:=Rows.attackCheckUptoRow) k0 k1 k2 k3 k4 k5 k6 k7 k8 j1 j2 j3 j4 k13 k14 k15 k16 k17 k18 k19 k20 k21 j5 k23 k24 k25 k26 k27 k28 k32 k29 k30 k31
theorem inst:Tryz.f13.isInstance Tryz.pinned.checked.prog Rows.attackCheckUptoRow.origin Rows.attackCheckUptoRow.targs:=of_decide_eq_true (by kernel_rfl)
theorem wrap:Tryz.f13.isWrapper Tryz.pinned.checked.prog Rows.attackCheckUptoRow.wrapper Rows.attackCheckUptoRow.mainSum:=by unfold Func.isWrapper;first|(rw[if_pos (by decide +kernel)];kernel_rfl)|(rw[if_neg (by decide +kernel)];exact⟨rfl,rfl⟩)
end Go.Proofs.YtlacmdnhabblcaaGreat.attackCheck
