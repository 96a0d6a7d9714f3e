import Derived.Test.YtlacmdnhabblcaaGreatB06
set_option linter.all false
namespace Go.Pv
open Go
section
variable {α β σ τ ρ:Type}
theorem WI {Q R:ρ->Prop}{o:Option ρ}(h:Ok Q o)(U:∀ r,Q r->R r):Ok R o:=let ⟨r,e,q⟩:=h;⟨r,e,U r q⟩
end
end Go.Pv
