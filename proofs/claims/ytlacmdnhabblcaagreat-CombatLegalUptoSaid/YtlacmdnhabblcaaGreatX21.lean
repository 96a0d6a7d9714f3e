import Derived.Test.YtlacmdnhabblcaaGreatRows
import Derived.ProofKit
import Derived.OpenShut
import Derived.JoinedCond
import Derived.Test.YtlacmdnhabblcaaGreatX18
set_option linter.all false
namespace Go.Proofs.YtlacmdnhabblcaaGreat.combatLegal
open Go Go.Pv Go.ChangeShapes Go.WideShapes Go.ChangeAt
theorem own:ownKnob Tryz.prog.godebug=none:=by kernel_rfl
theorem noInit:Tryz.checked.prog.inits.idxOf? 7=none:=by kernel_rfl
theorem fnamed:Tryz.pinned.checked.prog.funcNamed Rows.combatLegalUptoRow.func=some 7:=by kernel_rfl
theorem j1:(Rows.combatLegalUptoRow.inPlace == Tryz.pinned.checked.prog.inPlace 7)=true:=by kernel_rfl
theorem j2:(Rows.combatLegalUptoRow.unfollowed == Tryz.pinned.checked.prog.unfollowed 7)=true:=by kernel_rfl
theorem j3:(Rows.combatLegalUptoRow.recurses == Tryz.pinned.checked.prog.recurses 7)=true:=by kernel_rfl
theorem j4:(Rows.combatLegalUptoRow.named == Tryz.pinned.checked.prog.varsNamed 7)=true:=by kernel_rfl
theorem j5:(Rows.combatLegalUptoRow.plainKeys == Tryz.pinned.checked.prog.plainKeys)=true:=by kernel_rfl
theorem k0:(Rows.combatLegalUptoRow.wf (OpenSpec.ofChange (Rows.OpenSpec.upto Rows.combatLegalSpec).bare))=true:=by kernel_rfl
theorem k1:(laidOutB Tryz.pinned.checked.prog)=true:=by kernel_rfl
theorem k2:(mapsRowed Tryz.pinned.checked.prog)=true:=by kernel_rfl
theorem k3:(Tryz.f7.params.all (Tryz.pinned.checked.prog.readableRec ·))=true:=by kernel_rfl
theorem k4:(namedTie Tryz.pinned.checked.prog Rows.combatLegalUptoRow.named (Rows.OpenSpec.upto Rows.combatLegalSpec).bare.vars)=true:=by kernel_rfl
theorem k5:((Rows.combatLegalUptoRow.stops == []))=true:=by kernel_rfl
theorem k6:((Tryz.pinned.checked.prog.stops == []))=true:=by kernel_rfl
theorem k7:((Rows.combatLegalUptoRow.knobs == []))=true:=by kernel_rfl
theorem k8:((Tryz.pinned.checked.prog.stopKnobs == []))=true:=by kernel_rfl
theorem k13:((Rows.combatLegalUptoRow.maps == (Tryz.f7.params.toList ++ (Rows.OpenSpec.upto Rows.combatLegalSpec).bare.plain.varTypes Tryz.pinned.checked.prog).any (Tryz.pinned.checked.prog.mapsRec ·)))=true:=by kernel_rfl
theorem k14:((Rows.combatLegalUptoRow.ifaces == (Tryz.f7.params.toList ++ (Rows.OpenSpec.upto Rows.combatLegalSpec).bare.plain.varTypes Tryz.pinned.checked.prog).any (Tryz.pinned.checked.prog.ifacesRec ·)))=true:=by kernel_rfl
theorem k15:((Rows.combatLegalUptoRow.mapsOut == Tryz.pinned.checked.prog.mapsAmong Tryz.f7.resultTypes.toList))=true:=by kernel_rfl
theorem k16:((Rows.combatLegalUptoRow.loops == (Tryz.f7.params.toList ++ (Rows.OpenSpec.upto Rows.combatLegalSpec).bare.plain.varTypes Tryz.pinned.checked.prog).any (Tryz.pinned.checked.prog.loopsFrom ·)))=true:=by kernel_rfl
theorem k17:((Rows.combatLegalUptoRow.wideKeys == (Tryz.f7.params.toList ++ (Rows.OpenSpec.upto Rows.combatLegalSpec).bare.plain.varTypes Tryz.pinned.checked.prog ++ Tryz.f7.resultTypes.toList).any (Tryz.pinned.checked.prog.wideKeysFrom ·)))=true:=by kernel_rfl
theorem k18:((Rows.OpenSpec.upto Rows.combatLegalSpec).bare.vars.all (Tryz.pinned.checked.prog.varReadable ·))=true:=by kernel_rfl
theorem k19:(Tryz.f7.resultTypes.all (fun t=>Tryz.pinned.checked.prog.readableRec t && decide (t<Tryz.pinned.checked.prog.types.size)))=true:=by kernel_rfl
theorem k20:((Rows.combatLegalUptoRow.ifacesOut == Tryz.f7.resultTypes.toList.any (Tryz.pinned.checked.prog.ifacesRec ·)))=true:=by kernel_rfl
theorem k21:((Rows.combatLegalUptoRow.loopsOut == Tryz.f7.resultTypes.toList.any (Tryz.pinned.checked.prog.loopsFrom ·)))=true:=by kernel_rfl
theorem k23:(Rows.combatLegalUptoRow.shortTexts.isNone)=true:=by kernel_rfl
theorem k24:(Tryz.pinned.checked.prog.stopsHeard)=true:=by kernel_rfl
theorem k25:(Tryz.pinned.checked.prog.mayEnter)=true:=by kernel_rfl
theorem k26:((Rows.combatLegalUptoRow.lifted == Tryz.pinned.checked.prog.liftsFinal))=true:=by kernel_rfl
theorem k27:((Tryz.pinned.checked.prog.make == some Rows.combatLegalUptoRow.make))=true:=by kernel_rfl
theorem k28:Rows.combatLegalUptoRow.domain.isEmpty=true:=by kernel_rfl
theorem k32:(Rows.combatLegalUptoRow.kinds == [])=true:=by kernel_rfl
theorem k29:((Rows.combatLegalUptoRow.pinned == Rows.combatLegalUptoRow.pinnedBy))=true:=by kernel_rfl
theorem k30:((Rows.combatLegalUptoRow.veiled == (Tryz.f7.params.toList ++ (Rows.OpenSpec.upto Rows.combatLegalSpec).bare.plain.varTypes Tryz.pinned.checked.prog ++ Tryz.f7.resultTypes.toList).any (Tryz.pinned.checked.prog.veiledRec ·)))=true:=by kernel_rfl
theorem k31:(Rows.combatLegalUptoRow.veiledFits Tryz.pinned.checked.prog Tryz.f7.params.toList (Tryz.f7.params.toList ++ (Rows.OpenSpec.upto Rows.combatLegalSpec).bare.plain.varTypes Tryz.pinned.checked.prog ++ Tryz.f7.resultTypes.toList))=true:=by kernel_rfl
theorem joined:joinedFacts Tryz.pinned.checked.prog 7 Tryz.f7 (Rows.OpenSpec.upto Rows.combatLegalSpec).bare Rows.combatLegalUptoRow=true:=joined_parts (P:=Tryz.pinned.checked.prog) (f:=7) (fn:=Tryz.f7) (s:=(Rows.OpenSpec.upto Rows.combatLegalSpec).bare) (c:=Rows.combatLegalUptoRow) k0 k1 k2 k3 k4 k5 k6 k7 k8 j1 j2 j3 j4 k13 k14 k15 k16 k17 k18 k19 k20 k21 j5 k23 k24 k25 k26 k27 k28 k32 k29 k30 k31
theorem inst:Tryz.f7.isInstance Tryz.pinned.checked.prog Rows.combatLegalUptoRow.origin Rows.combatLegalUptoRow.targs:=of_decide_eq_true (by kernel_rfl)
theorem wrap:Tryz.f7.isWrapper Tryz.pinned.checked.prog Rows.combatLegalUptoRow.wrapper Rows.combatLegalUptoRow.mainSum:=by unfold Func.isWrapper; first | (rw [if_pos (by decide +kernel)]; kernel_rfl) | (rw [if_neg (by decide +kernel)]; exact ⟨rfl,rfl⟩)
end Go.Proofs.YtlacmdnhabblcaaGreat.combatLegal
