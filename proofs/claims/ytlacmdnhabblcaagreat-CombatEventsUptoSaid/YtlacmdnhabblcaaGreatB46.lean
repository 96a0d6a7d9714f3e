import Derived.Test.YtlacmdnhabblcaaGreatB33
set_option linter.all false
namespace Go.Pv
open Go
section
variable {P:Program}{T:Tab}{S:kK}{M:kM}(hS:S=kK.lM P T)
variable {α β σ ρ:Type}{r:ρ}
include hS
theorem abv {k:Nat}{args:List PV}{U:List PV}{K:PV->mJ->Prop}{g:Option α}{v R : α->PV}{st1:α->St}{n1:Nat}{x:α->mJ}{J:α->Option ρ}(cvs:List Cv)(O:bnd g J=some r)(hF:∀ y,g=some y->FW P T.gl k U [] 0 (λu st n=>u=v y/\st=st1 y/\n=n1))(I:LeL args U)(hx:∀ y,QY 0 [0] (cvE S cvs ⟨[v y],st1 y,n1⟩)=⟨[R y],[(0,some (x y))],1⟩)(h:∀ y,J y=some r->K (R y) (x y)):S.ag3 k args K:=by
 obtain⟨y,hy,hk⟩:=Aj O;clear O;subst hS;exact⟨_,_,FW.cv cvs ((hF y hy).le I .nil) (hx y),h y hk⟩
theorem apt {k:Nat}{args as:List PV}{E:Env}{T free:Option (List PV)}{R : List Nat}{st0:St}{K:PV->Env->Prop}{s:St}(e:roS E.st R=s)(h:WR S k args ⟨E.tmps,s,E.next⟩ K):S.call k args E T free R as st0 K:=by
 subst hS;subst e;have I:=OD h;refine .inr (.inr (.inr ?_));intro C Y σ w vs U H hr;obtain⟨Y',J,g⟩:=SW.roS R H;exact I C Y' σ w vs U J (jo.keep _ ⟨λ_ _ _=>rfl,λk _=>g k,Nat.le_refl _,qI.refl _⟩ _ hr)
end
end Go.Pv
