import Derived.Test.YtchmoabpofnbaaaGreatC10
set_option linter.all false
namespace Go.Proofs.YtchmoabpofnbaaaGreat
open Go Go.Pv
set_option maxRecDepth 100000
set_option maxHeartbeats 2000000
variable [GM]
theorem uj {P:Program}{T:Tab}{S:gV}{α ρ:Type}{r:ρ}(hS:S=gV.jd P T){k:Nat}{args C J:List PV}{E:Env}{t free:Option (List PV)}{I : List Nat}{st0 cst:St}{m:Nat}{K:PV->Env->Prop}{g:Option α}{v:α->PV}{st1:α->St}{n1:Nat}{kk:α->Option ρ}(U:bnd g kk=some r)(hF:∀ y,g=some y->FnS P T.gl k J cst m (λu st n=>u=v y/\st=st1 y/\n=n1))(ha:Iu C J)(hs:LeS st0 cst)(hm:m=kU I)(h1:MO I=true)(h2:ltN E.next I=true)(h0:kS st0=true)
  (h:∀ y,g=some y->kk y=some r->K (vI (CE I E.next) 8 (v y)) (EZ I E (st1 y) n1)):S.call k args E t free I C st0 K:=by
 obtain⟨x,hx,hk⟩:=wU U;clear U;exact adE hS ((hF x hx).le ha hs) hm h1 h2 h0 (h x hx hk)
def OkP {ρ:Type}(Q:ρ->Prop)(o:Option ρ):Prop:=∀ r,o=some r->Q r
section
variable {α ρ σ:Type}{Q:ρ->Prop}
theorem qQ {c:Bool}{a b:Option ρ}(h1:OkP Q a)(h2:OkP Q b):OkP Q (br c a b):=by cases c<;>assumption
theorem oH {g:Option α}{k:α->Option ρ}(h:∀ x,g=some x->OkP Q (k x)):OkP Q (bnd g k):=by
 cases g with
 | none=>intro r h;cases h
 | some x=>exact h x rfl
theorem Cm {x:α}{k:α->Option ρ}(h:OkP Q (k x)):OkP Q (lt x k):=h
theorem Qg {rest:σ->Option ρ}{body:(σ->Option ρ)->Option ρ}(I:σ->Prop)(h1:∀ s,I s->OkP Q (rest s))(h2:∀ k,(∀ s,I s->OkP Q (k s))->OkP Q (body k)):OkP Q (jn rest body):=h2 rest h1
theorem mY {o:Option ρ}{r:ρ}(h:OkP Q o)(e:o=some r):Q r:=h r e
theorem abI:OkP Q none:=by intro r e;cases e
theorem xZ {x:ρ}(h:Q x):OkP Q (some x):=by intro r e;cases e;exact h
theorem wz {step:σ->(σ->Option ρ)->Option ρ}{T:σ}(I:σ->Prop)(h0:I T)(h:∀ s k,I s->(∀ C,I C->OkP Q (k C))->OkP Q (step s k)):OkP Q (loopF step T):=by
 unfold loopF;generalize fuel=n
 induction n generalizing T with
 | zero=>intro r e;cases e
 | succ n t=>exact h T _ h0 λC J=>t J
end
attribute [local irreducible] br bnd lt jn loopF OkP
theorem TW {data:List eP}{a b n:Int}{cmp:eP->eP->Option Int}:OkP (λr=>r.length=data.length) (iW data a b n cmp):=by
 unfold iW;refine wz (λs=>s.2.length=data.length) rfl λs k hs hk=>?_;unfold lH
 (repeat' (first|refine qQ ?_ ?_|refine oH λ_ _=>?_|refine Cm ?_))
 exact hk _ (by simpa using hs)
 exact xZ hs
theorem aha {data:List eP}{a m b:Int}{cmp:eP->eP->Option Int}:OkP (λr=>r.length=data.length) (jM data a m b cmp):=by
 unfold jM;refine wz (λs=>s.2.2.length=data.length) rfl λs k hs hk=>?_;unfold mF;refine qQ (qQ (oH λy hy=>hk _ ((mY TW hy).trans hs)) (oH λy hy=>hk _ ((mY TW hy).trans hs))) (oH λy hy=>xZ ((mY TW hy).trans hs))
theorem aal {data:List eP}{a b:Int}{cmp:eP->eP->Option Int}:OkP (λr=>r.length=data.length) (iU data a b cmp):=by
 unfold iU;refine wz (λs=>s.2.length=data.length) rfl λs k hs hk=>?_;unfold mX;refine qQ ?_ (xZ hs);refine wz (λs=>s.2.length=data.length) hs λt C T J=>?_;unfold mW;refine Qg (λ_=>True) (λb _=>?_) λk8 I=>?_
 ·(repeat' (first|refine qQ ?_ ?_|refine oH λ_ _=>?_|refine Cm ?_))
  exact J _ (by simpa using T)
  exact hk _ T
 ·(repeat' (first|refine qQ ?_ ?_|refine oH λ_ _=>?_|refine Cm ?_))
  exact I _ trivial
  exact I _ trivial
theorem aam:∀ (n:Nat) {data:List eP} {a m b:Int} {cmp:eP->eP->Option Int},OkP (λr=>r.length=data.length) (iF n data a m b cmp)
 | 0,data,a,m,b,cmp=>by unfold iF;exact abI
 | n+1,data,a,m,b,cmp=>by
  have ih:=@aam n;unfold iF lY;refine qQ ?_ (qQ ?_ (oH λx _=>?_))
  ·refine wz (λ_=>True) trivial λs k _ hk=>?_;unfold lM
   (repeat' (first|refine qQ ?_ ?_|refine oH λ_ _=>?_|refine Cm ?_))
   exact hk _ trivial
   exact hk _ trivial
   ·refine wz (λs=>s.2.length=data.length) rfl λs k hs hk=>?_;unfold lL
    (repeat' (first|refine qQ ?_ ?_|refine oH λ_ _=>?_|refine Cm ?_))
    exact hk _ (by simpa using hs)
    exact xZ hs
  ·refine wz (λ_=>True) trivial λs k _ hk=>?_;unfold lQ
   (repeat' (first|refine qQ ?_ ?_|refine oH λ_ _=>?_|refine Cm ?_))
   exact hk _ trivial
   exact hk _ trivial
   ·refine wz (λs=>s.2.length=data.length) rfl λs k hs hk=>?_;unfold lN
    (repeat' (first|refine qQ ?_ ?_|refine oH λ_ _=>?_|refine Cm ?_))
    exact hk _ (by simpa using hs)
    exact xZ hs
  ·refine Qg (λ_=>True) (λs42 _=>?_) λk43 I=>?_
   ·refine wz (λ_=>True) trivial λs k _ hk=>?_;unfold lS;refine qQ ?_ ?_
    ·(repeat' (first|refine qQ ?_ ?_|refine oH λ_ _=>?_|refine Cm ?_))
     exact hk _ trivial
     exact hk _ trivial
    ·refine Qg (λJ=>J.length=data.length) (λJ g=>?_) λk56 h56=>?_
     ·refine Qg (λs=>s.length=data.length) (λs62 T=>?_) λk63 t=>?_
      ·(repeat' (first|refine qQ ?_ ?_|refine oH λ_ _=>?_|refine Cm ?_))
       rename_i y hy;exact xZ ((mY ih hy).trans T)
       exact xZ T
       exact xZ T
      ·refine Qg (λ_=>True) (λs65 _=>?_) λk66 h66=>?_
       ·(repeat' (first|refine qQ ?_ ?_|refine oH λ_ _=>?_|refine Cm ?_))
        rename_i y hy;exact t _ ((mY ih hy).trans g)
        exact t _ g
       ·(repeat' (first|refine qQ ?_ ?_|refine oH λ_ _=>?_|refine Cm ?_))
        exact h66 _ trivial
        exact h66 _ trivial
     ·refine Qg (λ_=>True) (λs58 _=>?_) λk59 C=>?_
      ·(repeat' (first|refine qQ ?_ ?_|refine oH λ_ _=>?_|refine Cm ?_))
       rename_i y hy;have:=mY aha hy;exact h56 _ this
       exact h56 _ rfl
      ·(repeat' (first|refine qQ ?_ ?_|refine oH λ_ _=>?_|refine Cm ?_))
       exact C _ trivial
       exact C _ trivial
   ·(repeat' (first|refine qQ ?_ ?_|refine oH λ_ _=>?_|refine Cm ?_))
    exact I _ trivial
    exact I _ trivial
theorem Vk {data:List eP}{a m b:Int}{cmp:eP->eP->Option Int}:OkP (λr=>r.length=data.length) (kX data a m b cmp):=aam 70
theorem ahb {data:List eP}{n:Int}{cmp:eP->eP->Option Int}:OkP (λr=>r.length=data.length) (jO data n cmp):=by
 unfold jO;refine wz (λs=>s.2.2.length=data.length) rfl λs k hs hk=>?_;unfold mM;refine qQ (oH λy hy=>hk _ ((mY aal hy).trans hs)) (oH λt hy=>?_);have g:t.length=data.length:=(mY aal hy).trans hs;refine wz (λs=>s.2.length=data.length) g λs k hs hk=>?_;unfold mJ;refine qQ ?_ (xZ hs);refine wz (λs=>s.2.2.length=data.length) hs λs' k' T I=>?_;unfold mG;refine qQ (oH λy hy=>I _ ((mY Vk hy).trans T)) (Qg (λs=>s.length=data.length) (λs13 C=>hk _ C) λk14 J=>qQ (oH λy hy=>J _ ((mY Vk hy).trans T)) (J _ T))
theorem akt {x:List eP}{cmp:eP->eP->Option Int}:OkP (λr=>r.length=x.length) (jH x cmp):=by
 unfold jH;refine oH λy hy=>?_;have:=mY ahb hy;exact xZ this
theorem ajj {ol:List fC}{oj:Nat}{d:Bool}{T:jg}:OkP (λr=>r.length=ol.length) (xK ol oj d T):=by
 unfold xK
 repeat' (first|refine qQ ?_ ?_|exact abI|refine oH λ_ _=>?_)
 all_goals exact xZ aF
theorem ajk {x:List Int}:OkP (λr=>r.length=x.length) (slices_Sort_int x):=by
 unfold OkP;intro r e;obtain⟨_,rfl⟩:=Yj e;exact(La x).length_eq
end Go.Proofs.YtchmoabpofnbaaaGreat
