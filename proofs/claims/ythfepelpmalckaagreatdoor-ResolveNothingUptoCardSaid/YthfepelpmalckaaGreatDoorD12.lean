import Derived.Test.YthfepelpmalckaaGreatDoorD07
import Derived.Test.YthfepelpmalckaaGreatDoorD11
set_option linter.all false
namespace Go.Proofs.YthfepelpmalckaaGreatDoor
open Go Go.Pv
theorem namesOK : (Tryz.prog.funcs.toList.all fun f => !(f.name == "runtime.NumGoroutine")) = true := by kernel_rfl
theorem cln37:CloneOK Tryz.prog tab 37:=clone_sound tabOK wf Tryz.func37 rfl ⟨rfl,rfl,rfl⟩ ⟨rfl,rfl,rfl⟩ ⟨rfl,rfl,rfl⟩ ⟨rfl,rfl,rfl⟩ ⟨rfl,rfl,rfl⟩ ⟨rfl,rfl,rfl⟩ ⟨rfl,rfl,rfl⟩ ⟨rfl,rfl,rfl⟩ rfl rfl Tryz.call37 rfl rfl rfl rfl
theorem cln39:CloneOK Tryz.prog tab 39:=clone_sound tabOK wf Tryz.func39 rfl ⟨rfl,rfl,rfl⟩ ⟨rfl,rfl,rfl⟩ ⟨rfl,rfl,rfl⟩ ⟨rfl,rfl,rfl⟩ ⟨rfl,rfl,rfl⟩ ⟨rfl,rfl,rfl⟩ ⟨rfl,rfl,rfl⟩ ⟨rfl,rfl,rfl⟩ rfl rfl Tryz.call39 rfl rfl rfl rfl
theorem cln40:CloneOK Tryz.prog tab 40:=clone_sound tabOK wf Tryz.func40 rfl ⟨rfl,rfl,rfl⟩ ⟨rfl,rfl,rfl⟩ ⟨rfl,rfl,rfl⟩ ⟨rfl,rfl,rfl⟩ ⟨rfl,rfl,rfl⟩ ⟨rfl,rfl,rfl⟩ ⟨rfl,rfl,rfl⟩ ⟨rfl,rfl,rfl⟩ rfl rfl Tryz.call40 rfl rfl rfl rfl
theorem cln41:CloneOK Tryz.prog tab 41:=clone_sound tabOK wf Tryz.func41 rfl ⟨rfl,rfl,rfl⟩ ⟨rfl,rfl,rfl⟩ ⟨rfl,rfl,rfl⟩ ⟨rfl,rfl,rfl⟩ ⟨rfl,rfl,rfl⟩ ⟨rfl,rfl,rfl⟩ ⟨rfl,rfl,rfl⟩ ⟨rfl,rfl,rfl⟩ rfl rfl Tryz.call41 rfl rfl rfl rfl
theorem cln43:CloneOK Tryz.prog tab 43:=clone_sound tabOK wf Tryz.func43 rfl ⟨rfl,rfl,rfl⟩ ⟨rfl,rfl,rfl⟩ ⟨rfl,rfl,rfl⟩ ⟨rfl,rfl,rfl⟩ ⟨rfl,rfl,rfl⟩ ⟨rfl,rfl,rfl⟩ ⟨rfl,rfl,rfl⟩ ⟨rfl,rfl,rfl⟩ rfl rfl Tryz.call43 rfl rfl rfl rfl
theorem cln44:CloneOK Tryz.prog tab 44:=clone_sound tabOK wf Tryz.func44 rfl ⟨rfl,rfl,rfl⟩ ⟨rfl,rfl,rfl⟩ ⟨rfl,rfl,rfl⟩ ⟨rfl,rfl,rfl⟩ ⟨rfl,rfl,rfl⟩ ⟨rfl,rfl,rfl⟩ ⟨rfl,rfl,rfl⟩ ⟨rfl,rfl,rfl⟩ rfl rfl Tryz.call44 rfl rfl rfl rfl
theorem cln45:CloneOK Tryz.prog tab 45:=clone_sound tabOK wf Tryz.func45 rfl ⟨rfl,rfl,rfl⟩ ⟨rfl,rfl,rfl⟩ ⟨rfl,rfl,rfl⟩ ⟨rfl,rfl,rfl⟩ ⟨rfl,rfl,rfl⟩ ⟨rfl,rfl,rfl⟩ ⟨rfl,rfl,rfl⟩ ⟨rfl,rfl,rfl⟩ rfl rfl Tryz.call45 rfl rfl rfl rfl
theorem cln46:CloneOK Tryz.prog tab 46:=clone_sound tabOK wf Tryz.func46 rfl ⟨rfl,rfl,rfl⟩ ⟨rfl,rfl,rfl⟩ ⟨rfl,rfl,rfl⟩ ⟨rfl,rfl,rfl⟩ ⟨rfl,rfl,rfl⟩ ⟨rfl,rfl,rfl⟩ ⟨rfl,rfl,rfl⟩ ⟨rfl,rfl,rfl⟩ rfl rfl Tryz.call46 rfl rfl rfl rfl
theorem cln118:CloneOK Tryz.prog tab 118:=clone_sound tabOK wf Tryz.func118 rfl ⟨rfl,rfl,rfl⟩ ⟨rfl,rfl,rfl⟩ ⟨rfl,rfl,rfl⟩ ⟨rfl,rfl,rfl⟩ ⟨rfl,rfl,rfl⟩ ⟨rfl,rfl,rfl⟩ ⟨rfl,rfl,rfl⟩ ⟨rfl,rfl,rfl⟩ rfl rfl Tryz.call118 rfl rfl rfl rfl
theorem cln119:CloneOK Tryz.prog tab 119:=clone_sound tabOK wf Tryz.func119 rfl ⟨rfl,rfl,rfl⟩ ⟨rfl,rfl,rfl⟩ ⟨rfl,rfl,rfl⟩ ⟨rfl,rfl,rfl⟩ ⟨rfl,rfl,rfl⟩ ⟨rfl,rfl,rfl⟩ ⟨rfl,rfl,rfl⟩ ⟨rfl,rfl,rfl⟩ rfl rfl Tryz.call119 rfl rfl rfl rfl
theorem cln251:CloneOK Tryz.prog tab 251:=clone_sound tabOK wf Tryz.func251 rfl ⟨rfl,rfl,rfl⟩ ⟨rfl,rfl,rfl⟩ ⟨rfl,rfl,rfl⟩ ⟨rfl,rfl,rfl⟩ ⟨rfl,rfl,rfl⟩ ⟨rfl,rfl,rfl⟩ ⟨rfl,rfl,rfl⟩ ⟨rfl,rfl,rfl⟩ rfl rfl Tryz.call251 rfl rfl rfl rfl
theorem cln262:CloneOK Tryz.prog tab 262:=clone_sound tabOK wf Tryz.func262 rfl ⟨rfl,rfl,rfl⟩ ⟨rfl,rfl,rfl⟩ ⟨rfl,rfl,rfl⟩ ⟨rfl,rfl,rfl⟩ ⟨rfl,rfl,rfl⟩ ⟨rfl,rfl,rfl⟩ ⟨rfl,rfl,rfl⟩ ⟨rfl,rfl,rfl⟩ rfl rfl Tryz.call262 rfl rfl rfl rfl
theorem cln263:CloneOK Tryz.prog tab 263:=clone_sound tabOK wf Tryz.func263 rfl ⟨rfl,rfl,rfl⟩ ⟨rfl,rfl,rfl⟩ ⟨rfl,rfl,rfl⟩ ⟨rfl,rfl,rfl⟩ ⟨rfl,rfl,rfl⟩ ⟨rfl,rfl,rfl⟩ ⟨rfl,rfl,rfl⟩ ⟨rfl,rfl,rfl⟩ rfl rfl Tryz.call263 rfl rfl rfl rfl
theorem cln264:CloneOK Tryz.prog tab 264:=clone_sound tabOK wf Tryz.func264 rfl ⟨rfl,rfl,rfl⟩ ⟨rfl,rfl,rfl⟩ ⟨rfl,rfl,rfl⟩ ⟨rfl,rfl,rfl⟩ ⟨rfl,rfl,rfl⟩ ⟨rfl,rfl,rfl⟩ ⟨rfl,rfl,rfl⟩ ⟨rfl,rfl,rfl⟩ rfl rfl Tryz.call264 rfl rfl rfl rfl
theorem cln325:CloneOK Tryz.prog tab 325:=clone_sound tabOK wf Tryz.func325 rfl ⟨rfl,rfl,rfl⟩ ⟨rfl,rfl,rfl⟩ ⟨rfl,rfl,rfl⟩ ⟨rfl,rfl,rfl⟩ ⟨rfl,rfl,rfl⟩ ⟨rfl,rfl,rfl⟩ ⟨rfl,rfl,rfl⟩ ⟨rfl,rfl,rfl⟩ rfl rfl Tryz.call325 rfl rfl rfl rfl
def clL:List Nat:=[37,39,40,41,43,44,45,46,118,119,251,262,263,264,325]
theorem clnOK:∀ k∈clL,CloneOK Tryz.prog tab k:=by
 intro k hk
 simp only [clL,List.mem_cons,List.not_mem_nil,or_false] at hk
 rcases hk with rfl | rfl | rfl | rfl | rfl | rfl | rfl | rfl | rfl | rfl | rfl | rfl | rfl | rfl | rfl
 ·exact cln37
 ·exact cln39
 ·exact cln40
 ·exact cln41
 ·exact cln43
 ·exact cln44
 ·exact cln45
 ·exact cln46
 ·exact cln118
 ·exact cln119
 ·exact cln251
 ·exact cln262
 ·exact cln263
 ·exact cln264
 ·exact cln325
noncomputable def fnsT:Nat→Option (Bool × Func):=fnsV Tryz.prog.funcs.toList clL
theorem fnsTOK:∀ k c fn,fnsT k=some (c,fn)→Tryz.prog.funcs[k]?=some fn∧(fn.body.isSome=true→∀ args w,(callFunc k args).run Tryz.prog w=.ok (.enter k args) w)∧(c=true→CloneOK Tryz.prog tab k):=fnsV_ok namesOK clnOK
end Go.Proofs.YthfepelpmalckaaGreatDoor
