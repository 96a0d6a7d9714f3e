import Derived.Test.YthfepelpmalckaaGreatB07
import Derived.Test.YthfepelpmalckaaGreatB10
set_option linter.all false
namespace Go.Proofs.YthfepelpmalckaaGreat
open Go Go.Pv
theorem namesOK : (Tryz.prog.funcs.toList.all fun f => !(f.name == "runtime.NumGoroutine")) = true := by kernel_rfl
theorem cln47:CloneOK Tryz.prog tab 47:=clone_sound tabOK wf Tryz.func47 rfl ⟨rfl,rfl,rfl⟩ ⟨rfl,rfl,rfl⟩ ⟨rfl,rfl,rfl⟩ ⟨rfl,rfl,rfl⟩ ⟨rfl,rfl,rfl⟩ ⟨rfl,rfl,rfl⟩ ⟨rfl,rfl,rfl⟩ ⟨rfl,rfl,rfl⟩ rfl rfl Tryz.call47 rfl rfl rfl rfl
theorem cln49:CloneOK Tryz.prog tab 49:=clone_sound tabOK wf Tryz.func49 rfl ⟨rfl,rfl,rfl⟩ ⟨rfl,rfl,rfl⟩ ⟨rfl,rfl,rfl⟩ ⟨rfl,rfl,rfl⟩ ⟨rfl,rfl,rfl⟩ ⟨rfl,rfl,rfl⟩ ⟨rfl,rfl,rfl⟩ ⟨rfl,rfl,rfl⟩ rfl rfl Tryz.call49 rfl rfl rfl rfl
theorem cln50:CloneOK Tryz.prog tab 50:=clone_sound tabOK wf Tryz.func50 rfl ⟨rfl,rfl,rfl⟩ ⟨rfl,rfl,rfl⟩ ⟨rfl,rfl,rfl⟩ ⟨rfl,rfl,rfl⟩ ⟨rfl,rfl,rfl⟩ ⟨rfl,rfl,rfl⟩ ⟨rfl,rfl,rfl⟩ ⟨rfl,rfl,rfl⟩ rfl rfl Tryz.call50 rfl rfl rfl rfl
theorem cln51:CloneOK Tryz.prog tab 51:=clone_sound tabOK wf Tryz.func51 rfl ⟨rfl,rfl,rfl⟩ ⟨rfl,rfl,rfl⟩ ⟨rfl,rfl,rfl⟩ ⟨rfl,rfl,rfl⟩ ⟨rfl,rfl,rfl⟩ ⟨rfl,rfl,rfl⟩ ⟨rfl,rfl,rfl⟩ ⟨rfl,rfl,rfl⟩ rfl rfl Tryz.call51 rfl rfl rfl rfl
theorem cln53:CloneOK Tryz.prog tab 53:=clone_sound tabOK wf Tryz.func53 rfl ⟨rfl,rfl,rfl⟩ ⟨rfl,rfl,rfl⟩ ⟨rfl,rfl,rfl⟩ ⟨rfl,rfl,rfl⟩ ⟨rfl,rfl,rfl⟩ ⟨rfl,rfl,rfl⟩ ⟨rfl,rfl,rfl⟩ ⟨rfl,rfl,rfl⟩ rfl rfl Tryz.call53 rfl rfl rfl rfl
theorem cln54:CloneOK Tryz.prog tab 54:=clone_sound tabOK wf Tryz.func54 rfl ⟨rfl,rfl,rfl⟩ ⟨rfl,rfl,rfl⟩ ⟨rfl,rfl,rfl⟩ ⟨rfl,rfl,rfl⟩ ⟨rfl,rfl,rfl⟩ ⟨rfl,rfl,rfl⟩ ⟨rfl,rfl,rfl⟩ ⟨rfl,rfl,rfl⟩ rfl rfl Tryz.call54 rfl rfl rfl rfl
theorem cln55:CloneOK Tryz.prog tab 55:=clone_sound tabOK wf Tryz.func55 rfl ⟨rfl,rfl,rfl⟩ ⟨rfl,rfl,rfl⟩ ⟨rfl,rfl,rfl⟩ ⟨rfl,rfl,rfl⟩ ⟨rfl,rfl,rfl⟩ ⟨rfl,rfl,rfl⟩ ⟨rfl,rfl,rfl⟩ ⟨rfl,rfl,rfl⟩ rfl rfl Tryz.call55 rfl rfl rfl rfl
theorem cln56:CloneOK Tryz.prog tab 56:=clone_sound tabOK wf Tryz.func56 rfl ⟨rfl,rfl,rfl⟩ ⟨rfl,rfl,rfl⟩ ⟨rfl,rfl,rfl⟩ ⟨rfl,rfl,rfl⟩ ⟨rfl,rfl,rfl⟩ ⟨rfl,rfl,rfl⟩ ⟨rfl,rfl,rfl⟩ ⟨rfl,rfl,rfl⟩ rfl rfl Tryz.call56 rfl rfl rfl rfl
theorem cln96:CloneOK Tryz.prog tab 96:=clone_sound tabOK wf Tryz.func96 rfl ⟨rfl,rfl,rfl⟩ ⟨rfl,rfl,rfl⟩ ⟨rfl,rfl,rfl⟩ ⟨rfl,rfl,rfl⟩ ⟨rfl,rfl,rfl⟩ ⟨rfl,rfl,rfl⟩ ⟨rfl,rfl,rfl⟩ ⟨rfl,rfl,rfl⟩ rfl rfl Tryz.call96 rfl rfl rfl rfl
theorem cln97:CloneOK Tryz.prog tab 97:=clone_sound tabOK wf Tryz.func97 rfl ⟨rfl,rfl,rfl⟩ ⟨rfl,rfl,rfl⟩ ⟨rfl,rfl,rfl⟩ ⟨rfl,rfl,rfl⟩ ⟨rfl,rfl,rfl⟩ ⟨rfl,rfl,rfl⟩ ⟨rfl,rfl,rfl⟩ ⟨rfl,rfl,rfl⟩ rfl rfl Tryz.call97 rfl rfl rfl rfl
theorem cln174:CloneOK Tryz.prog tab 174:=clone_sound tabOK wf Tryz.func174 rfl ⟨rfl,rfl,rfl⟩ ⟨rfl,rfl,rfl⟩ ⟨rfl,rfl,rfl⟩ ⟨rfl,rfl,rfl⟩ ⟨rfl,rfl,rfl⟩ ⟨rfl,rfl,rfl⟩ ⟨rfl,rfl,rfl⟩ ⟨rfl,rfl,rfl⟩ rfl rfl Tryz.call174 rfl rfl rfl rfl
theorem cln186:CloneOK Tryz.prog tab 186:=clone_sound tabOK wf Tryz.func186 rfl ⟨rfl,rfl,rfl⟩ ⟨rfl,rfl,rfl⟩ ⟨rfl,rfl,rfl⟩ ⟨rfl,rfl,rfl⟩ ⟨rfl,rfl,rfl⟩ ⟨rfl,rfl,rfl⟩ ⟨rfl,rfl,rfl⟩ ⟨rfl,rfl,rfl⟩ rfl rfl Tryz.call186 rfl rfl rfl rfl
theorem cln187:CloneOK Tryz.prog tab 187:=clone_sound tabOK wf Tryz.func187 rfl ⟨rfl,rfl,rfl⟩ ⟨rfl,rfl,rfl⟩ ⟨rfl,rfl,rfl⟩ ⟨rfl,rfl,rfl⟩ ⟨rfl,rfl,rfl⟩ ⟨rfl,rfl,rfl⟩ ⟨rfl,rfl,rfl⟩ ⟨rfl,rfl,rfl⟩ rfl rfl Tryz.call187 rfl rfl rfl rfl
theorem cln188:CloneOK Tryz.prog tab 188:=clone_sound tabOK wf Tryz.func188 rfl ⟨rfl,rfl,rfl⟩ ⟨rfl,rfl,rfl⟩ ⟨rfl,rfl,rfl⟩ ⟨rfl,rfl,rfl⟩ ⟨rfl,rfl,rfl⟩ ⟨rfl,rfl,rfl⟩ ⟨rfl,rfl,rfl⟩ ⟨rfl,rfl,rfl⟩ rfl rfl Tryz.call188 rfl rfl rfl rfl
theorem cln237:CloneOK Tryz.prog tab 237:=clone_sound tabOK wf Tryz.func237 rfl ⟨rfl,rfl,rfl⟩ ⟨rfl,rfl,rfl⟩ ⟨rfl,rfl,rfl⟩ ⟨rfl,rfl,rfl⟩ ⟨rfl,rfl,rfl⟩ ⟨rfl,rfl,rfl⟩ ⟨rfl,rfl,rfl⟩ ⟨rfl,rfl,rfl⟩ rfl rfl Tryz.call237 rfl rfl rfl rfl
def clL:List Nat:=[47,49,50,51,53,54,55,56,96,97,174,186,187,188,237]
theorem clnOK:∀ k∈clL,CloneOK Tryz.prog tab k:=by
 intro k hk
 simp only [clL,List.mem_cons,List.not_mem_nil,or_false] at hk
 rcases hk with rfl | rfl | rfl | rfl | rfl | rfl | rfl | rfl | rfl | rfl | rfl | rfl | rfl | rfl | rfl
 ·exact cln47
 ·exact cln49
 ·exact cln50
 ·exact cln51
 ·exact cln53
 ·exact cln54
 ·exact cln55
 ·exact cln56
 ·exact cln96
 ·exact cln97
 ·exact cln174
 ·exact cln186
 ·exact cln187
 ·exact cln188
 ·exact cln237
noncomputable def fnsT:Nat→Option (Bool × Func):=fnsV Tryz.prog.funcs.toList clL
theorem fnsTOK:∀ k c fn,fnsT k=some (c,fn)→Tryz.prog.funcs[k]?=some fn∧(fn.body.isSome=true→∀ args w,(callFunc k args).run Tryz.prog w=.ok (.enter k args) w)∧(c=true→CloneOK Tryz.prog tab k):=fnsV_ok namesOK clnOK
end Go.Proofs.YthfepelpmalckaaGreat
