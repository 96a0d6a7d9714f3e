import Derived.Test.YtchmoabpofnbaaaGreatD10
set_option linter.all false
namespace Go.Proofs.YtchmoabpofnbaaaGreat
open Go Go.Pv
set_option maxRecDepth 100000
set_option maxHeartbeats 2000000
variable [GM]
theorem uF {P:Program}{T:Tab}{S:iq}{α ρ:Type}{r:ρ}(O:S=iq.jq P T){k:Nat}{args t J:List PV}{E:Env}{lend free:Option (List PV)}{I : List Nat}{st0 C:St}{m:Nat}{K:PV->Env->Prop}{g:Option α}{v:α->PV}{st1:α->St}{n1:Nat}{kk:α->Option ρ}(U:bnd g kk=some r)(hF:∀ y,g=some y->FnS P T.gl k J C m (λu st n=>u=v y/\st=st1 y/\n=n1))(ha:I5 t J)(hs:LeS st0 C)(hm:m=lH I)(h1:NG I=true)(h2:ltN E.next I=true)(h0:lF st0=true)
  (h:∀ y,g=some y->kk y=some r->K (wz (Dx I E.next) 8 (v y)) (F5 I E (st1 y) n1)):S.call k args E lend free I t st0 K:=by
 obtain⟨x,hx,hk⟩:=xM U;clear U;exact aeH O ((hF x hx).le ha hs) hm h1 h2 h0 (h x hx hk)
def OkP {ρ:Type}(Q:ρ->Prop)(o:Option ρ):Prop:=∀ r,o=some r->Q r
section
variable {α ρ σ:Type}{Q:ρ->Prop}
theorem rF {c:Bool}{a b:Option ρ}(h1:OkP Q a)(h2:OkP Q b):OkP Q (br c a b):=by cases c<;>assumption
theorem pg {g:Option α}{k:α->Option ρ}(h:∀ x,g=some x->OkP Q (k x)):OkP Q (bnd g k):=by
 cases g with
 | none=>intro r h;cases h
 | some x=>exact h x rfl
theorem Dv {x:α}{k:α->Option ρ}(h:OkP Q (k x)):OkP Q (lt x k):=h
theorem QU {rest:σ->Option ρ}{body:(σ->Option ρ)->Option ρ}(I:σ->Prop)(h1:∀ s,I s->OkP Q (rest s))(h2:∀ k,(∀ s,I s->OkP Q (k s))->OkP Q (body k)):OkP Q (jn rest body):=h2 rest h1
theorem nT {o:Option ρ}{r:ρ}(h:OkP Q o)(e:o=some r):Q r:=h r e
theorem acH:OkP Q none:=by intro r e;cases e
theorem yR {x:ρ}(h:Q x):OkP Q (some x):=by intro r e;cases e;exact h
theorem xg {step:σ->(σ->Option ρ)->Option ρ}{T:σ}(I:σ->Prop)(h0:I T)(h:∀ s k,I s->(∀ C,I C->OkP Q (k C))->OkP Q (step s k)):OkP Q (eH step T):=by
 unfold eH;generalize fuel=n
 induction n generalizing T with
 | zero=>intro r e;cases e
 | succ n t=>exact h T _ h0 λC J=>t J
end
attribute [local irreducible] br bnd lt jn eH OkP
theorem UK {data:List dV}{a b n:Int}{cmp:dV->dV->Option Int}:OkP (λr=>r.length=data.length) (jk data a b n cmp):=by
 unfold jk;refine xg (λs=>s.2.length=data.length) rfl λs k hs hk=>?_;unfold lV
 (repeat' (first|refine rF ?_ ?_|refine pg λ_ _=>?_|refine Dv ?_))
 exact hk _ (by simpa using hs)
 exact yR hs
theorem aiv {data:List dV}{a m b:Int}{cmp:dV->dV->Option Int}:OkP (λr=>r.length=data.length) (jZ data a m b cmp):=by
 unfold jZ;refine xg (λs=>s.2.2.length=data.length) rfl λs k hs hk=>?_;unfold mY;refine rF (rF (pg λy hy=>hk _ ((nT UK hy).trans hs)) (pg λy hy=>hk _ ((nT UK hy).trans hs))) (pg λy hy=>yR ((nT UK hy).trans hs))
theorem abb {data:List dV}{a b:Int}{cmp:dV->dV->Option Int}:OkP (λr=>r.length=data.length) (jg data a b cmp):=by
 unfold jg;refine xg (λs=>s.2.length=data.length) rfl λs k hs hk=>?_;unfold nI;refine rF ?_ (yR hs);refine xg (λs=>s.2.length=data.length) hs λC t T J=>?_;unfold nH;refine QU (λ_=>True) (λb _=>?_) λk8 I=>?_
 ·(repeat' (first|refine rF ?_ ?_|refine pg λ_ _=>?_|refine Dv ?_))
  exact J _ (by simpa using T)
  exact hk _ T
 ·(repeat' (first|refine rF ?_ ?_|refine pg λ_ _=>?_|refine Dv ?_))
  exact I _ trivial
  exact I _ trivial
theorem abd:∀ (n:Nat) {data:List dV} {a m b:Int} {cmp:dV->dV->Option Int},OkP (λr=>r.length=data.length) (iP n data a m b cmp)
 | 0,data,a,m,b,cmp=>by unfold iP;exact acH
 | n+1,data,a,m,b,cmp=>by
  have ih:=@abd n;unfold iP mM;refine rF ?_ (rF ?_ (pg λx _=>?_))
  ·refine xg (λ_=>True) trivial λs k _ hk=>?_;unfold l7
   (repeat' (first|refine rF ?_ ?_|refine pg λ_ _=>?_|refine Dv ?_))
   exact hk _ trivial
   exact hk _ trivial
   ·refine xg (λs=>s.2.length=data.length) rfl λs k hs hk=>?_;unfold lZ
    (repeat' (first|refine rF ?_ ?_|refine pg λ_ _=>?_|refine Dv ?_))
    exact hk _ (by simpa using hs)
    exact yR hs
  ·refine xg (λ_=>True) trivial λs k _ hk=>?_;unfold mg
   (repeat' (first|refine rF ?_ ?_|refine pg λ_ _=>?_|refine Dv ?_))
   exact hk _ trivial
   exact hk _ trivial
   ·refine xg (λs=>s.2.length=data.length) rfl λs k hs hk=>?_;unfold l9
    (repeat' (first|refine rF ?_ ?_|refine pg λ_ _=>?_|refine Dv ?_))
    exact hk _ (by simpa using hs)
    exact yR hs
  ·refine QU (λ_=>True) (λs42 _=>?_) λk43 h43=>?_
   ·refine xg (λ_=>True) trivial λs k _ hk=>?_;unfold mi;refine rF ?_ ?_
    ·(repeat' (first|refine rF ?_ ?_|refine pg λ_ _=>?_|refine Dv ?_))
     exact hk _ trivial
     exact hk _ trivial
    ·refine QU (λC=>C.length=data.length) (λC J=>?_) λk56 I=>?_
     ·refine QU (λs=>s.length=data.length) (λs62 T=>?_) λk63 h63=>?_
      ·(repeat' (first|refine rF ?_ ?_|refine pg λ_ _=>?_|refine Dv ?_))
       rename_i y hy;exact yR ((nT ih hy).trans T)
       exact yR T
       exact yR T
      ·refine QU (λ_=>True) (λs65 _=>?_) λk66 g=>?_
       ·(repeat' (first|refine rF ?_ ?_|refine pg λ_ _=>?_|refine Dv ?_))
        rename_i y hy;exact h63 _ ((nT ih hy).trans J)
        exact h63 _ J
       ·(repeat' (first|refine rF ?_ ?_|refine pg λ_ _=>?_|refine Dv ?_))
        exact g _ trivial
        exact g _ trivial
     ·refine QU (λ_=>True) (λs58 _=>?_) λk59 t=>?_
      ·(repeat' (first|refine rF ?_ ?_|refine pg λ_ _=>?_|refine Dv ?_))
       rename_i y hy;have:=nT aiv hy;exact I _ this
       exact I _ rfl
      ·(repeat' (first|refine rF ?_ ?_|refine pg λ_ _=>?_|refine Dv ?_))
       exact t _ trivial
       exact t _ trivial
   ·(repeat' (first|refine rF ?_ ?_|refine pg λ_ _=>?_|refine Dv ?_))
    exact h43 _ trivial
    exact h43 _ trivial
theorem V4 {data:List dV}{a m b:Int}{cmp:dV->dV->Option Int}:OkP (λr=>r.length=data.length) (lL data a m b cmp):=abd 70
theorem aiw {data:List dV}{n:Int}{cmp:dV->dV->Option Int}:OkP (λr=>r.length=data.length) (ku data n cmp):=by
 unfold ku;refine xg (λs=>s.2.2.length=data.length) rfl λs k hs hk=>?_;unfold ni;refine rF (pg λy hy=>hk _ ((nT abb hy).trans hs)) (pg λt hy=>?_);have h5:t.length=data.length:=(nT abb hy).trans hs;refine xg (λs=>s.2.length=data.length) h5 λs k hs hk=>?_;unfold ng;refine rF ?_ (yR hs);refine xg (λs=>s.2.2.length=data.length) hs λs' k' T C=>?_;unfold mZ;refine rF (pg λy hy=>C _ ((nT V4 hy).trans T)) (QU (λs=>s.length=data.length) (λg I=>hk _ I) λk14 J=>rF (pg λy hy=>J _ ((nT V4 hy).trans T)) (J _ T))
theorem alT {x:List dV}{cmp:dV->dV->Option Int}:OkP (λr=>r.length=x.length) (jV x cmp):=by
 unfold jV;refine pg λy hy=>?_;have:=nT aiw hy;exact yR this
theorem am7 {ol:List fD}{oj:Nat}{d:Bool}{T:jS}:OkP (λr=>r.length=ol.length) (EZ ol oj d T):=by
 unfold EZ
 repeat' (first|refine rF ?_ ?_|exact acH|refine pg λ_ _=>?_)
 all_goals exact yR aj
theorem akK {x:List Int}:OkP (λr=>r.length=x.length) (slices_Sort_int x):=by
 unfold OkP;intro r e;obtain⟨_,rfl⟩:=Y7 e;exact(Ic x).length_eq
end Go.Proofs.YtchmoabpofnbaaaGreat
