import Derived.Test.YtchmoabpofnbaaaGreatB07
import Derived.Test.YtchmoabpofnbaaaGreatB15
set_option linter.all false
namespace Go.Proofs.YtchmoabpofnbaaaGreat
open Go Go.Pv Proofs.Tryz
def Hl:Tab:=⟨Z8,λ_=>none,0,[],0,[],UB⟩
theorem wR:jg Tryz.prog Hl:=Gp (gl:=λ_=>none) (qJ:=0) (cut:=[]) (kH:=0) (own:=[]) (dcl:=UB) Yk (@S9 ⟨0⟩)
theorem akk {k:Nat}{R:PV->Prop}{G:Nat->Option (List PV)}(h:Pv.Fn Tryz.prog (λ_=>none) k [] R):Pv.Fn Tryz.prog G k [] R:=λw Y U _ J T=>h w Y U (λ_ _ e=>by cases e) J T
theorem agA : (Tryz.prog.funcs.toList.all fun f => !(f.name == "runtime.NumGoroutine")) = true := by kernel_rfl
theorem aib:nH Tryz.prog Hl 127:=ug wR (@wf ⟨0⟩) func127 call127
theorem aic:nH Tryz.prog Hl 129:=ug wR (@wf ⟨0⟩) func129 call129
theorem aid:nH Tryz.prog Hl 130:=ug wR (@wf ⟨0⟩) func130 call130
theorem aie:nH Tryz.prog Hl 131:=ug wR (@wf ⟨0⟩) func131 call131
theorem aif:nH Tryz.prog Hl 133:=ug wR (@wf ⟨0⟩) func133 call133
theorem aih:nH Tryz.prog Hl 134:=ug wR (@wf ⟨0⟩) func134 call134
theorem aii:nH Tryz.prog Hl 135:=ug wR (@wf ⟨0⟩) func135 call135
theorem aij:nH Tryz.prog Hl 136:=ug wR (@wf ⟨0⟩) func136 call136
theorem aik:nH Tryz.prog Hl 219:=ug wR (@wf ⟨0⟩) func219 call219
theorem ail:nH Tryz.prog Hl 220:=ug wR (@wf ⟨0⟩) func220 call220
theorem aim:nH Tryz.prog Hl 400:=ug wR (@wf ⟨0⟩) func400 call400
theorem ain:nH Tryz.prog Hl 409:=ug wR (@wf ⟨0⟩) func409 call409
theorem aio:nH Tryz.prog Hl 410:=ug wR (@wf ⟨0⟩) func410 call410
theorem aip:nH Tryz.prog Hl 411:=ug wR (@wf ⟨0⟩) func411 call411
theorem aiq:nH Tryz.prog Hl 464:=ug wR (@wf ⟨0⟩) func464 call464
def clL:List Nat:=[127,129,130,131,133,134,135,136,219,220,400,409,410,411,464]
theorem akl:∀ k∈clL,nH Tryz.prog Hl k:=by
 intro k hk;simp only[clL,List.mem_cons,List.not_mem_nil,or_false] at hk;rcases hk with rfl|rfl|rfl|rfl|rfl|rfl|rfl|rfl|rfl|rfl|rfl|rfl|rfl|rfl|rfl
 exact aib
 exact aic
 exact aid
 exact aie
 exact aif
 exact aih
 exact aii
 exact aij
 exact aik
 exact ail
 exact aim
 exact ain
 exact aio
 exact aip
 exact aiq
noncomputable def akm:Nat->Option (Bool×Func):=ahw Tryz.prog.funcs.toList clL
theorem air:∀ k c fn,akm k=some (c,fn)->Tryz.prog.funcs[k]?=some fn/\(fn.body.isSome=true->∀ args w,(callFunc k args).run Tryz.prog w=.ok (.enter k args) w)/\(c=true->nH Tryz.prog Hl k):=agz agA akl
end Go.Proofs.YtchmoabpofnbaaaGreat
