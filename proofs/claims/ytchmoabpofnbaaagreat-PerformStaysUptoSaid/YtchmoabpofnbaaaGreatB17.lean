import Derived.KernelRfl
import Derived.Test.YtchmoabpofnbaaaGreatB16
set_option linter.all false
namespace Go.Proofs.YtchmoabpofnbaaaGreat
open Go Go.Pv
theorem akn:okV (XN Hl.ti akm 60 14 [] Tr.e 0)=true:=by kernel_rfl
theorem agB [GM]:fV 14 [] (λu=>u=.sb true):=akk (acE (T:=Hl) wR (@wf ⟨0⟩) rfl (λ_=>rfl) air akn)
end Go.Proofs.YtchmoabpofnbaaaGreat
