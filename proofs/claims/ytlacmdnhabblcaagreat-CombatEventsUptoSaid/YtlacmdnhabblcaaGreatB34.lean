import Derived.KernelRfl
import Derived.Test.YtlacmdnhabblcaaGreatB09
import Derived.Test.YtlacmdnhabblcaaGreatB33
set_option linter.all false
namespace Go.Proofs.YtlacmdnhabblcaaGreat
open Go Go.Pv
theorem apk:okV (Xc tab.ti aiw 60 26 [] Tr.e 0)=true:=by kernel_rfl
theorem akZ:iI 26 [] (λu=>u=.sb true):=Qz (T:=tab) jm wf rfl (λ_=>rfl) aaX apk
end Go.Proofs.YtlacmdnhabblcaaGreat
