import Derived.Test.YtlacmdnhabblcaaGreatB46
set_option linter.all false
namespace Go.Pv
open Go
section
variable {P:Program}{T:Tab}{S:kK}{M:kM}(hS:S=kK.lM P T)
variable {α β σ ρ:Type}{r:ρ}
include hS
theorem alc {k:Nat}{args U:List PV}{J : List Nat}{st0 R:St}{m:Nat}{K:PV->St->Nat->Prop}{g:Option α}{v:α->PV}{st1:α->St}{n1:Nat}{I:α->Option ρ}(O:bnd g I=some r)(hF:∀ y,g=some y->FW P T.gl k U R m (λu st n=>u=v y/\st=st1 y/\n=n1))(ha:LeL args U)(hs:LeS st0 R)(C:m=oN J)(h0:tY st0=true)
  (h:∀ y,I y=some r->K (v y) (st1 y) n1):S.ag4 k args st0 J K:=by
 obtain⟨y,hy,hk⟩:=Aj O;clear O;subst hS;subst C;exact⟨_,_,_,h0,(hF y hy).le ha hs,h y hk⟩
end
end Go.Pv
