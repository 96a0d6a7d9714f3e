import Derived.Test.YthfepelpmalckaaGreatB06
set_option linter.all false
namespace Go.Pv
open Go
section
variable {α β σ τ ρ:Type} {Q:ρ→Prop}
def szB (s:ByteArray):Prop:=s.size≤1048576
def szL (e:α→Prop) (l:List α):Prop:=l.length≤1048576∧∀ x∈l,e x
theorem bs_size (l:List UInt8):(bs l).size=l.length:=rfl
end
end Go.Pv
