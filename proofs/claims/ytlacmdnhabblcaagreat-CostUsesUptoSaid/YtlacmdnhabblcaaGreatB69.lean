import Derived.KernelRfl
import Derived.Test.YtlacmdnhabblcaaGreatB09
set_option linter.all false
namespace Go.Proofs.YtlacmdnhabblcaaGreat
open Go Go.Pv
theorem apx:okV (Xc tab.ti aiw 60 51 [] Tr.e 0)=true:=by kernel_rfl
theorem ak8:iI 51 [] (λu=>u=.sb true):=Qz (T:=tab) jm wf rfl (λ_=>rfl) aaX apx
end Go.Proofs.YtlacmdnhabblcaaGreat
