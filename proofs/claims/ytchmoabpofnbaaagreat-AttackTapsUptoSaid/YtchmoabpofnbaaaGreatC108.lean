import Derived.Test.YtchmoabpofnbaaaGreatC05
set_option linter.all false
namespace Go.Pv
open Go
section
variable {α α' β σ σ' ρ ρ' : Type}{R:ρ->ρ'->Prop}{Q:ρ->Prop}
def Two (R:ρ->ρ'->Prop)(a:Option ρ)(b:Option ρ'):Prop:=∃ x y,a=some x/\b=some y/\R x y
theorem Vf {x:ρ}{y:ρ'}(h:R x y):Two R (some x) (some y):=⟨x,y,rfl,rfl,h⟩
theorem NW {a:Option α}{x:α}{f:α->Option ρ}{b:Option ρ'}(h:a=some x)(k:Two R (f x) b):Two R (bnd a f) b:=by subst h;exact k
theorem TP {a:Option α}{x:α}{f:α->Option ρ'}{b:Option ρ}(h:a=some x)(k:Two R b (f x)):Two R b (bnd a f):=by subst h;exact k
theorem JQ {T:α->α'->Prop}{a:Option α}{b:Option α'}{f:α->Option ρ}{g:α'->Option ρ'}(h:Two T a b)(k:∀ x y,T x y->Two R (f x) (g y)):Two R (bnd a f) (bnd b g):=by
 obtain⟨x,y,rfl,rfl,h⟩:=h;exact k x y h
theorem ajf {c:Bool}{a b:Option ρ}{J T : Option ρ'}(h1:c=true->Two R a J)(h2:c=false->Two R b T):Two R (br c a b) (br c J T):=by
 cases c with
 | true=>exact h1 rfl
 | false=>exact h2 rfl
theorem Vg {n m b J : Nat}{k:Option ρ}{T : Option ρ'}(h1:(2*n+192)*b<=140737488355328/\n<=4611686018427387904)(h2:(2*m+192)*J<=140737488355328/\m<=4611686018427387904)(h:Two R k T):Two R (gY n b k) (gY m J T):=by
 unfold gY;rw[Nat.ble_eq_true_of_le h1.1,Nat.ble_eq_true_of_le h1.2,Nat.ble_eq_true_of_le h2.1,Nat.ble_eq_true_of_le h2.2];exact h
theorem ad3 {step:σ->(σ->Option ρ)->Option ρ}{T : σ'->(σ'->Option ρ')->Option ρ'}{s:σ}{J : σ'}(I:σ->σ'->Prop)(μ:σ->Nat)(h0:I s J)(hμ:μ s<fuel)
  (h:∀ s J k g,I s J->(∀ t C,I t C->μ t<μ s->Two R (k t) (g C))->Two R (step s k) (T J g)):Two R (loopF step s) (loopF T J):=by
 have key:∀ n s J,I s J->μ s<n->Two R (iq step n s) (iq T n J):=by
  intro n
  induction n with
  | zero=>intro s J _ h;omega
  | succ n ih=>intro s J hI hl;exact h s J _ _ hI λt C hT hl'=>ih t C hT ae
 exact key _ s J h0 hμ
theorem WU {τ g : Type}{step:Int×τ->(Int×τ->Option ρ)->Option ρ}{T : Int×g->(Int×g->Option ρ')->Option ρ'}{t:τ}{J : g}(n:Nat)(I:Nat->τ->g->Prop)(hn:n<4611686018427387904)(h0:I 0 t J)
  (h:∀ (i:Nat) t J k C,i<n->I i t J->(∀ u u',I (i+1) u u'->Two R (k (addI (i:Int) 1,u)) (C (addI (i:Int) 1,u')))->Two R (step ((i:Int),t) k) (T ((i:Int),J) C))
  (he:∀ t J k C,I n t J->Two R (step ((n:Int),t) k) (T ((n:Int),J) C)):Two R (loopF step (0,t)) (loopF T (0,J)):=by
 refine ad3 (λs s'=>∃ i:Nat,s.1=(i:Int)/\s'.1=(i:Int)/\i<=n/\I i s.2 s'.2) (λs=>n-s.1.toNat) ⟨0,rfl,rfl,by omega,h0⟩ bK ?_
 rintro⟨a,t⟩ ⟨b,J⟩ k C ⟨i,e1,e2,hi,hI⟩ hk
 simp only at e1 e2 hI;subst e1 e2
 by_cases h' : i=n
 subst h';exact he t J k C hI
 refine h i t J k C ae hI λu u' hu=>hk _ _ ⟨i+1,addI_nat ae,addI_nat ae,by omega,hu⟩ ?_;rw[addI_nat ae];simp only[Int.toNat_natCast];omega
def If (Q:ρ->Prop)(o:Option ρ):Prop:=∀ r,o=some r->Q r
theorem jK {x:ρ}(h:Q x):If Q (some x):=λ_ e=>by cases e;exact h
theorem aad:If Q none:=λ_ e=>by cases e
theorem jk {a:Option α}{f:α->Option ρ}(k:∀ x,a=some x->If Q (f x)):If Q (bnd a f):=by
 cases a with
 | none=>exact aad
 | some x=>exact k x rfl
theorem iM {c:Bool}{a b:Option ρ}(h1:c=true->If Q a)(h2:c=false->If Q b):If Q (br c a b):=by
 cases c with
 | true=>exact h1 rfl
 | false=>exact h2 rfl
theorem xk (J:σ->Prop){rest:σ->Option ρ}{body:(σ->Option ρ)->Option ρ}(h1:∀ k,(∀ s,J s->If Q (k s))->If Q (body k))(h2:∀ s,J s->If Q (rest s)):If Q (jn rest body):=h1 rest h2
theorem Jo {step:σ->(σ->Option ρ)->Option ρ}{s:σ}(I:σ->Prop)(h0:I s)(h:∀ s k,I s->(∀ t,I t->If Q (k t))->If Q (step s k)):If Q (loopF step s):=by
 have key:∀ n s,I s->If Q (iq step n s):=by
  intro n
  induction n with
  | zero=>intro s _;exact aad
  | succ n J=>intro s T;exact h s _ T J
 exact key _ s h0
theorem pY {p:Prop}[Decidable p]{a b:Option ρ}(h1:p->If Q a)(h2:¬p->If Q b):If Q (br (decide p) a b):=iM (λh=>h1 (of_decide_eq_true h)) λh=>h2 (of_decide_eq_false h)
theorem Vh {n b:Nat}{k:Option ρ}(h:If Q k):If Q (gY n b k):=by
 unfold gY;cases (Nat.ble ((2*n+192)*b) 140737488355328&&Nat.ble n 4611686018427387904)
 exact aad
 exact h
theorem RQ {l:List α}{n:Nat}{k:α->Option ρ}(hk:∀ h:n<l.length,If Q (k l[n])):If Q (bnd (gu l (n:Int)) k):=jk λx e=>by
 rw[ni] at e;obtain⟨h,rfl⟩:=List.getElem?_eq_some_iff.1 e;exact hk h
theorem ad4 {τ:Type}{step:τ×Int->(τ×Int->Option ρ)->Option ρ}{t0:τ}(n:Nat)(I:Nat->τ->Prop)(hn:n<4611686018427387904)(h0:I 0 t0)(h:∀ (i:Nat) t k,i<n->I i t->(∀ C,I (i+1) C->If Q (k (C,addI (i:Int) 1)))->If Q (step (t,(i:Int)) k))(g:∀ t k,I n t->If Q (step (t,(n:Int)) k)):If Q (loopF step (t0,0)):=by
 refine Jo (λs=>∃ i:Nat,s.2=(i:Int)/\i<=n/\I i s.1) ⟨0,rfl,by omega,h0⟩ ?_
 rintro⟨t,a⟩ k ⟨i,e,hi,T⟩ hk
 simp only at e T;subst e
 by_cases h' : i=n
 subst h';exact g t k T
 exact h i t k ae T λC J=>hk _ ⟨i+1,addI_nat ae,by omega,J⟩
theorem aae {step:Int->(Int->Option ρ)->Option ρ}(n:Nat)(I:Nat->Prop)(C:n<4611686018427387904)(h0:I 0)(h:∀ (i:Nat) k,i<n->I i->(I (i+1)->If Q (k (addI (i:Int) 1)))->If Q (step (i:Int) k))(J:∀ k,I n->If Q (step (n:Int) k)):If Q (loopF step 0):=by
 refine Jo (λs=>∃ i:Nat,s=(i:Int)/\i<=n/\I i) ⟨0,rfl,by omega,h0⟩ ?_
 rintro a k ⟨i,rfl,hi,hI⟩ hk
 by_cases h' : i=n
 subst h';exact J k hI
 exact h i k ae hI λT=>hk _ ⟨i+1,addI_nat ae,by omega,T⟩
end
end Go.Pv
