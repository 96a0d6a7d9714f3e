import Derived.Test.YtlacmdnhabblcaaGreatB25
import Derived.Test.YtlacmdnhabblcaaGreatB76
set_option linter.all false
namespace Go.Pv
open Go
section
variable {α β σ τ ρ:Type}{Q:ρ->Prop}
theorem QX {a b:Option ρ}(h:Ok Q b):Ok Q (nlO a b):=by unfold nlO;cases a<;>exact h
end
end Go.Pv
