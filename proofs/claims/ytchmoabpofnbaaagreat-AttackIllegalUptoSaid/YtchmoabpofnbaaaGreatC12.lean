import Derived.Test.YtchmoabpofnbaaaGreatC11
set_option linter.all false
namespace Go.Proofs.YtchmoabpofnbaaaGreat
open Go Go.Pv
set_option maxRecDepth 100000
set_option maxHeartbeats 2000000
variable [GM]
theorem wG {P:Program}{T:Tab}{S:iW}{α ρ:Type}{r:ρ}(hS:S=iW.jI P T){k:Nat}{args as0 U:List PV}{E:Env}{C free:Option (List PV)}{J : List Nat}{st0 I:St}{m:Nat}{K:PV->Env->Prop}{g:Option α}{v:α->PV}{st1:α->St}{n1:Nat}{kk:α->Option ρ}(O:bnd g kk=some r)(hF:∀ y,g=some y->FnS P T.gl k U I m (λu st n=>u=v y/\st=st1 y/\n=n1))(ha:Hg as0 U)(hs:LeS st0 I)(hm:m=lH J)(h1:KP J=true)(h2:ltN E.next J=true)(h0:lY st0=true)
  (h:∀ y,g=some y->kk y=some r->K (vI (BQ J E.next) 8 (v y)) (EM J E (st1 y) n1)):S.call k args E C free J as0 st0 K:=by
 obtain⟨x,hx,hk⟩:=wV O;clear O;exact acu hS ((hF x hx).le ha hs) hm h1 h2 h0 (h x hx hk)
def OkP {ρ:Type}(Q:ρ->Prop)(o:Option ρ):Prop:=∀ r,o=some r->Q r
section
variable {α ρ σ:Type}{Q:ρ->Prop}
theorem rU {c:Bool}{a b:Option ρ}(h1:OkP Q a)(h2:OkP Q b):OkP Q (br c a b):=by cases c<;>assumption
theorem pX {g:Option α}{k:α->Option ρ}(h:∀ x,g=some x->OkP Q (k x)):OkP Q (bnd g k):=by
 cases g with
 | none=>intro r h;cases h
 | some x=>exact h x rfl
theorem BK {x:α}{k:α->Option ρ}(h:OkP Q (k x)):OkP Q (lt x k):=h
theorem O0 {rest:σ->Option ρ}{body:(σ->Option ρ)->Option ρ}(I:σ->Prop)(h1:∀ s,I s->OkP Q (rest s))(h2:∀ k,(∀ s,I s->OkP Q (k s))->OkP Q (body k)):OkP Q (jn rest body):=h2 rest h1
theorem pY {o:Option ρ}{r:ρ}(h:OkP Q o)(e:o=some r):Q r:=h r e
theorem afu:OkP Q none:=by intro r e;cases e
theorem zh {x:ρ}(h:Q x):OkP Q (some x):=by intro r e;cases e;exact h
theorem wH {step:σ->(σ->Option ρ)->Option ρ}{U:σ}(I:σ->Prop)(h0:I U)(h:∀ s k,I s->(∀ T,I T->OkP Q (k T))->OkP Q (step s k)):OkP Q (gK step U):=by
 unfold gK;generalize fuel=n
 induction n generalizing U with
 | zero=>intro r e;cases e
 | succ n C=>exact h U _ h0 λT J=>C J
end
attribute [local irreducible] br bnd lt jn gK OkP
theorem RN {data:List gq}{a b n:Int}{cmp:gq->gq->Option Int}:OkP (λr=>r.length=data.length) (jG data a b n cmp):=by
 unfold jG;refine wH (λs=>s.2.length=data.length) rfl λs k hs hk=>?_;unfold mM
 (repeat' (first|refine rU ?_ ?_|refine pX λ_ _=>?_|refine BK ?_))
 exact hk _ (by simpa using hs)
 exact zh hs
theorem afv {data:List gq}{a m b:Int}{cmp:gq->gq->Option Int}:OkP (λr=>r.length=data.length) (kH data a m b cmp):=by
 unfold kH;refine wH (λs=>s.2.2.length=data.length) rfl λs k hs hk=>?_;unfold nO;refine rU (rU (pX λy hy=>hk _ ((pY RN hy).trans hs)) (pX λy hy=>hk _ ((pY RN hy).trans hs))) (pX λy hy=>zh ((pY RN hy).trans hs))
theorem YF {data:List gq}{a b:Int}{cmp:gq->gq->Option Int}:OkP (λr=>r.length=data.length) (jF data a b cmp):=by
 unfold jF;refine wH (λs=>s.2.length=data.length) rfl λs k hs hk=>?_;unfold nV;refine rU ?_ (zh hs);refine wH (λs=>s.2.length=data.length) hs λC I U T=>?_;unfold nU;refine O0 (λ_=>True) (λb _=>?_) λk8 J=>?_
 ·(repeat' (first|refine rU ?_ ?_|refine pX λ_ _=>?_|refine BK ?_))
  exact T _ (by simpa using U)
  exact hk _ U
 ·(repeat' (first|refine rU ?_ ?_|refine pX λ_ _=>?_|refine BK ?_))
  exact J _ trivial
  exact J _ trivial
theorem YG:∀ (n:Nat) {data:List gq} {a m b:Int} {cmp:gq->gq->Option Int},OkP (λr=>r.length=data.length) (jh n data a m b cmp)
 | 0,data,a,m,b,cmp=>by unfold jh;exact afu
 | n+1,data,a,m,b,cmp=>by
  have ih:=@YG n;unfold jh nI;refine rU ?_ (rU ?_ (pX λx _=>?_))
  ·refine wH (λ_=>True) trivial λs k _ hk=>?_;unfold mX
   (repeat' (first|refine rU ?_ ?_|refine pX λ_ _=>?_|refine BK ?_))
   exact hk _ trivial
   exact hk _ trivial
   ·refine wH (λs=>s.2.length=data.length) rfl λs k hs hk=>?_;unfold mW
    (repeat' (first|refine rU ?_ ?_|refine pX λ_ _=>?_|refine BK ?_))
    exact hk _ (by simpa using hs)
    exact zh hs
  ·refine wH (λ_=>True) trivial λs k _ hk=>?_;unfold mZ
   (repeat' (first|refine rU ?_ ?_|refine pX λ_ _=>?_|refine BK ?_))
   exact hk _ trivial
   exact hk _ trivial
   ·refine wH (λs=>s.2.length=data.length) rfl λs k hs hk=>?_;unfold mY
    (repeat' (first|refine rU ?_ ?_|refine pX λ_ _=>?_|refine BK ?_))
    exact hk _ (by simpa using hs)
    exact zh hs
  ·refine O0 (λ_=>True) (λs42 _=>?_) λk43 h43=>?_
   ·refine wH (λ_=>True) trivial λs k _ hk=>?_;unfold ng;refine rU ?_ ?_
    ·(repeat' (first|refine rU ?_ ?_|refine pX λ_ _=>?_|refine BK ?_))
     exact hk _ trivial
     exact hk _ trivial
    ·refine O0 (λg=>g.length=data.length) (λg I=>?_) λk56 C=>?_
     ·refine O0 (λs=>s.length=data.length) (λs62 U=>?_) λk63 T=>?_
      ·(repeat' (first|refine rU ?_ ?_|refine pX λ_ _=>?_|refine BK ?_))
       rename_i y hy;exact zh ((pY ih hy).trans U)
       exact zh U
       exact zh U
      ·refine O0 (λ_=>True) (λs65 _=>?_) λk66 J=>?_
       ·(repeat' (first|refine rU ?_ ?_|refine pX λ_ _=>?_|refine BK ?_))
        rename_i y hy;exact T _ ((pY ih hy).trans I)
        exact T _ I
       ·(repeat' (first|refine rU ?_ ?_|refine pX λ_ _=>?_|refine BK ?_))
        exact J _ trivial
        exact J _ trivial
     ·refine O0 (λ_=>True) (λs58 _=>?_) λk59 h59=>?_
      ·(repeat' (first|refine rU ?_ ?_|refine pX λ_ _=>?_|refine BK ?_))
       rename_i y hy;have:=pY afv hy;exact C _ this
       exact C _ rfl
      ·(repeat' (first|refine rU ?_ ?_|refine pX λ_ _=>?_|refine BK ?_))
       exact h59 _ trivial
       exact h59 _ trivial
   ·(repeat' (first|refine rU ?_ ?_|refine pX λ_ _=>?_|refine BK ?_))
    exact h43 _ trivial
    exact h43 _ trivial
theorem Uh {data:List gq}{a m b:Int}{cmp:gq->gq->Option Int}:OkP (λr=>r.length=data.length) (l7 data a m b cmp):=YG 70
theorem afw {data:List gq}{n:Int}{cmp:gq->gq->Option Int}:OkP (λr=>r.length=data.length) (kJ data n cmp):=by
 unfold kJ;refine wH (λs=>s.2.2.length=data.length) rfl λs k hs hk=>?_;unfold nS;refine rU (pX λy hy=>hk _ ((pY YF hy).trans hs)) (pX λC hy=>?_);have h5:C.length=data.length:=(pY YF hy).trans hs;refine wH (λs=>s.2.length=data.length) h5 λs k hs hk=>?_;unfold nR;refine rU ?_ (zh hs);refine wH (λs=>s.2.2.length=data.length) hs λs' k' U J=>?_;unfold nP;refine rU (pX λy hy=>J _ ((pY Uh hy).trans U)) (O0 (λs=>s.length=data.length) (λg I=>hk _ I) λk14 T=>rU (pX λy hy=>T _ ((pY Uh hy).trans U)) (T _ U))
theorem aij {x:List gq}{cmp:gq->gq->Option Int}:OkP (λr=>r.length=x.length) (kE x cmp):=by
 unfold kE;refine pX λy hy=>?_;have:=pY afw hy;exact zh this
end Go.Proofs.YtchmoabpofnbaaaGreat
