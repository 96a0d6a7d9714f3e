import Derived.Test.YtchmoabpofnbaaaGreatB11
set_option linter.all false
namespace Go.Proofs.YtchmoabpofnbaaaGreat
open Go Go.Pv
set_option maxRecDepth 100000
set_option maxHeartbeats 2000000
variable [GM]
theorem vY {P:Program}{T:Tab}{S:jb}{α ρ:Type}{r:ρ}(hS:S=jb.jJ P T){k:Nat}{args I U:List PV}{E:Env}{lend free:Option (List PV)}{J : List Nat}{st0 C:St}{m:Nat}{K:PV->Env->Prop}{g:Option α}{v:α->PV}{st1:α->St}{n1:Nat}{kk:α->Option ρ}(O:bnd g kk=some r)(hF:∀ y,g=some y->FnS P T.gl k U C m (λu st n=>u=v y/\st=st1 y/\n=n1))(ha:Gi I U)(hs:LeS st0 C)(hm:m=lh J)(h1:JF J=true)(h2:ltN E.next J=true)(h0:lS st0=true)
  (h:∀ y,g=some y->kk y=some r->K (vk (Bf J E.next) 8 (v y)) (DV J E (st1 y) n1)):S.call k args E lend free J I st0 K:=by
 obtain⟨x,hx,hk⟩:=wL O;clear O;exact aa1 hS ((hF x hx).le ha hs) hm h1 h2 h0 (h x hx hk)
def OkP {ρ:Type}(Q:ρ->Prop)(o:Option ρ):Prop:=∀ r,o=some r->Q r
section
variable {α ρ σ:Type}{Q:ρ->Prop}
theorem FK {c:Bool}{a b:Option ρ}(h1:OkP Q a)(h2:OkP Q b):OkP Q (br c a b):=by cases c<;>assumption
theorem CJ {g:Option α}{k:α->Option ρ}(h:∀ x,g=some x->OkP Q (k x)):OkP Q (bnd g k):=by
 cases g with
 | none=>intro r h;cases h
 | some x=>exact h x rfl
theorem okp_lt {x:α}{k:α->Option ρ}(h:OkP Q (k x)):OkP Q (lt x k):=h
theorem NJ {rest:σ->Option ρ}{body:(σ->Option ρ)->Option ρ}(I:σ->Prop)(h1:∀ s,I s->OkP Q (rest s))(h2:∀ k,(∀ s,I s->OkP Q (k s))->OkP Q (body k)):OkP Q (jn rest body):=h2 rest h1
theorem pU {o:Option ρ}{r:ρ}(h:OkP Q o)(e:o=some r):Q r:=h r e
theorem adQ:OkP Q none:=by intro r e;cases e
theorem yG {x:ρ}(h:Q x):OkP Q (some x):=by intro r e;cases e;exact h
theorem vZ {step:σ->(σ->Option ρ)->Option ρ}{U:σ}(I:σ->Prop)(h0:I U)(h:∀ s k,I s->(∀ T,I T->OkP Q (k T))->OkP Q (step s k)):OkP Q (ig step U):=by
 unfold ig;generalize fuel=n
 induction n generalizing U with
 | zero=>intro r e;cases e
 | succ n C=>exact h U _ h0 λT J=>C J
end
attribute [local irreducible] br bnd lt jn ig OkP
theorem Qw {data:List gI}{a b n:Int}{cmp:gI->gI->Option Int}:OkP (λr=>r.length=data.length) (jF data a b n cmp):=by
 unfold jF;refine vZ (λs=>s.2.length=data.length) rfl λs k hs hk=>?_;unfold mM
 repeat' (first | refine FK ?_ ?_ | refine CJ fun _ _ => ?_ | refine okp_lt ?_)
 exact hk _ (by simpa using hs)
 exact yG hs
theorem adR {data:List gI}{a m b:Int}{cmp:gI->gI->Option Int}:OkP (λr=>r.length=data.length) (kJ data a m b cmp):=by
 unfold kJ;refine vZ (λs=>s.2.2.length=data.length) rfl λs k hs hk=>?_;unfold nP;refine FK (FK (CJ λy hy=>hk _ ((pU Qw hy).trans hs)) (CJ λy hy=>hk _ ((pU Qw hy).trans hs))) (CJ λy hy=>yG ((pU Qw hy).trans hs))
theorem Xq {data:List gI}{a b:Int}{cmp:gI->gI->Option Int}:OkP (λr=>r.length=data.length) (jE data a b cmp):=by
 unfold jE;refine vZ (λs=>s.2.length=data.length) rfl λs k hs hk=>?_;unfold nX;refine FK ?_ (yG hs);refine vZ (λs=>s.2.length=data.length) hs λC I U T=>?_;unfold nV;refine NJ (λ_=>True) (λb _=>?_) λk8 J=>?_
 repeat' (first | refine FK ?_ ?_ | refine CJ fun _ _ => ?_ | refine okp_lt ?_)
 exact T _ (by simpa using U)
 exact hk _ U
 repeat' (first | refine FK ?_ ?_ | refine CJ fun _ _ => ?_ | refine okp_lt ?_)
 exact J _ trivial
 exact J _ trivial
theorem Xr:∀ (n:Nat) {data:List gI} {a m b:Int} {cmp:gI->gI->Option Int},OkP (λr=>r.length=data.length) (jo n data a m b cmp)
 | 0,data,a,m,b,cmp=>by unfold jo;exact adQ
 | n+1,data,a,m,b,cmp=>by
  have ih:=@Xr n;unfold jo nJ;refine FK ?_ (FK ?_ (CJ λx _=>?_))
  refine vZ (λ_=>True) trivial λs k _ hk=>?_;unfold mY
  repeat' (first | refine FK ?_ ?_ | refine CJ fun _ _ => ?_ | refine okp_lt ?_)
  exact hk _ trivial
  exact hk _ trivial
  refine vZ (λs=>s.2.length=data.length) rfl λs k hs hk=>?_;unfold mX
  repeat' (first | refine FK ?_ ?_ | refine CJ fun _ _ => ?_ | refine okp_lt ?_)
  exact hk _ (by simpa using hs)
  exact yG hs
  refine vZ (λ_=>True) trivial λs k _ hk=>?_;unfold ng
  repeat' (first | refine FK ?_ ?_ | refine CJ fun _ _ => ?_ | refine okp_lt ?_)
  exact hk _ trivial
  exact hk _ trivial
  refine vZ (λs=>s.2.length=data.length) rfl λs k hs hk=>?_;unfold mZ
  repeat' (first | refine FK ?_ ?_ | refine CJ fun _ _ => ?_ | refine okp_lt ?_)
  exact hk _ (by simpa using hs)
  exact yG hs
  refine NJ (λ_=>True) (λs42 _=>?_) λk43 C=>?_
  refine vZ (λ_=>True) trivial λs k _ hk=>?_;unfold ni;refine FK ?_ ?_
  repeat' (first | refine FK ?_ ?_ | refine CJ fun _ _ => ?_ | refine okp_lt ?_)
  exact hk _ trivial
  exact hk _ trivial
  refine NJ (λJ=>J.length=data.length) (λJ h55=>?_) λk56 g=>?_
  refine NJ (λs=>s.length=data.length) (λs62 U=>?_) λk63 T=>?_
  repeat' (first | refine FK ?_ ?_ | refine CJ fun _ _ => ?_ | refine okp_lt ?_)
  rename_i y hy;exact yG ((pU ih hy).trans U)
  exact yG U
  exact yG U
  refine NJ (λ_=>True) (λs65 _=>?_) λk66 h66=>?_
  repeat' (first | refine FK ?_ ?_ | refine CJ fun _ _ => ?_ | refine okp_lt ?_)
  rename_i y hy;exact T _ ((pU ih hy).trans h55)
  exact T _ h55
  repeat' (first | refine FK ?_ ?_ | refine CJ fun _ _ => ?_ | refine okp_lt ?_)
  exact h66 _ trivial
  exact h66 _ trivial
  refine NJ (λ_=>True) (λs58 _=>?_) λk59 I=>?_
  repeat' (first | refine FK ?_ ?_ | refine CJ fun _ _ => ?_ | refine okp_lt ?_)
  rename_i y hy;have:=pU adR hy;exact g _ this
  exact g _ rfl
  repeat' (first | refine FK ?_ ?_ | refine CJ fun _ _ => ?_ | refine okp_lt ?_)
  exact I _ trivial
  exact I _ trivial
  repeat' (first | refine FK ?_ ?_ | refine CJ fun _ _ => ?_ | refine okp_lt ?_)
  exact C _ trivial
  exact C _ trivial
theorem Su {data:List gI}{a m b:Int}{cmp:gI->gI->Option Int}:OkP (λr=>r.length=data.length) (lY data a m b cmp):=Xr 70
theorem adS {data:List gI}{n:Int}{cmp:gI->gI->Option Int}:OkP (λr=>r.length=data.length) (kK data n cmp):=by
 unfold kK;refine vZ (λs=>s.2.2.length=data.length) rfl λs k hs hk=>?_;unfold nT;refine FK (CJ λy hy=>hk _ ((pU Xq hy).trans hs)) (CJ λg hy=>?_);have h5:g.length=data.length:=(pU Xq hy).trans hs;refine vZ (λs=>s.2.length=data.length) h5 λs k hs hk=>?_;unfold nS;refine FK ?_ (yG hs);refine vZ (λs=>s.2.2.length=data.length) hs λs' k' U J=>?_;unfold nR;refine FK (CJ λy hy=>J _ ((pU Su hy).trans U)) (NJ (λs=>s.length=data.length) (λC I=>hk _ I) λk14 T=>FK (CJ λy hy=>T _ ((pU Su hy).trans U)) (T _ U))
theorem agG {x:List gI}{cmp:gI->gI->Option Int}:OkP (λr=>r.length=x.length) (kF x cmp):=by
 unfold kF;refine CJ λy hy=>?_;have:=pU adS hy;exact yG this
end Go.Proofs.YtchmoabpofnbaaaGreat
