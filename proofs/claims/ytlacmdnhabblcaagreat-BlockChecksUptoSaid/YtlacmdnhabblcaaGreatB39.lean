import Derived.Test.YtlacmdnhabblcaaGreatB06
set_option linter.all false
namespace Go.Pv
open Go
section
variable {α β σ τ ρ:Type}
theorem ajn {l:List α}{i:Int}{x:α}:kJ l i=some x↔0<=i/\l[i.toNat]?=some x:=by
 cases i with
 | ofNat j=>simp[kJ]
 | negSucc j=>simp[kJ]
end
end Go.Pv
