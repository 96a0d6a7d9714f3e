import Derived.Test.YtlacmdnhabblcaaGreatB33
set_option linter.all false
namespace Go.Pv
open Go
section
variable {α β σ ρ:Type}
def nlO (a b:Option ρ):Option ρ:=match a with|_=>b
end
section
variable {P:Program}{T:Tab}{S:kK}{M:kM}(hS:S=kK.lM P T)
variable {α β σ ρ:Type}{r:ρ}
include hS
theorem Og (hM:M=jT){T:List (List PV)}{l:List α}{e:α->List PV}{a b:Option ρ}{K:Bool->Prop}(O:nlO a b=some r)(he:T=M.m α e l)(U:l=[]->b=some r->a=some r)(R:a=some r->K true)(hb:b=some r->K false):S.abG T K:=by
 subst hS hM he;intro c J
 cases c with
 | false=>exact hb O
 | true =>
  have:=J rfl;exact R (U (by simpa [jT] using this) O)
end
end Go.Pv
