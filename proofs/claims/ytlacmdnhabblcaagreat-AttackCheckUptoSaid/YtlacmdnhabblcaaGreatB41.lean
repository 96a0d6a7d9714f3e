import Derived.KernelRfl
import Derived.Test.YtlacmdnhabblcaaGreatB09
set_option linter.all false
namespace Go.Proofs.YtlacmdnhabblcaaGreat
open Go Go.Pv
theorem apo:okV (Xc tab.ti aiw 60 44 [] Tr.e 0)=true:=by kernel_rfl
theorem ak1:iI 44 [] (λu=>u=.sb true):=Qz (T:=tab) jm wf rfl (λ_=>rfl) aaX apo
end Go.Proofs.YtlacmdnhabblcaaGreat
