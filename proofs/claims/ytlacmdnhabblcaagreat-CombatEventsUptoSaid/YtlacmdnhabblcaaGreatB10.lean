import Derived.KernelRfl
import Derived.Test.YtlacmdnhabblcaaGreatB09
set_option linter.all false
namespace Go.Proofs.YtlacmdnhabblcaaGreat
open Go Go.Pv
theorem aor:okV (Xc tab.ti aiw 60 15 [] Tr.e 0)=true:=by kernel_rfl
theorem akP:iI 15 [] (λu=>u=.sb true):=Qz (T:=tab) jm wf rfl (λ_=>rfl) aaX aor
end Go.Proofs.YtlacmdnhabblcaaGreat
