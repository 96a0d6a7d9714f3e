import Derived.Test.YtlacmdnhabblcaaGreatB46
set_option linter.all false
namespace Go.Pv
open Go
section
variable {α β σ τ ρ:Type}
theorem Ur {σ' : Type}{step:σ->(σ->Option ρ)->Option ρ}{U : σ'->(σ'->Option ρ)->Option ρ}(R:σ->σ'->Prop){s:σ}{T : σ'}(h0:R s T)
  (h:∀ s T k I,R s T->(∀ t J,R t J->k t=I J)->step s k=U T I):jw step s=jw U T:=by
 have key:∀ n s T,R s T->KG step n s=KG U n T:=by
  intro n
  induction n with
  | zero=>intros;rfl
  | succ n C=>intro s T hs;exact h s T _ _ hs C
 exact key fuel s T h0
end
end Go.Pv
namespace Go.Pv
open Go
section
variable {P:Program}{T:Tab}{S:kK}{M:kM}{α β σ ρ:Type}{r:ρ}
theorem alf (hS:S=kK.lM P T)(hT:lW P T)(hW:I4 P){b:Code}{Q:Post}{E:Env}{step:σ->(σ->Option ρ)->Option ρ}{g:σ}(U cvs:List Cv)(keep:List Nat)(F:σ->Env)(O:jw step g=some r)(he:QY T.vY keep (wkE (cvE S U E))=F g)
  (h:∀ (I:σ->Env) (k:σ->Option ρ) (s:σ),(∀ s,I s=F s)->step s k=some r->∀ e,e=F s->pwp T S b (Uy (λJ=>∃ s',k s'=some r/\QY T.vY keep (wkE (cvE S cvs J))=I s') Q) e):S.loop b Q E:=by
 subst hS;intro C a w hA
 have key:∀ (n:Nat) (s:σ),KG step n s=some r->∀ (C:Ctx T) a w,nX C (F s) a w->Code.rounds P b (lift C Q) n a w:=by
  intro n
  induction n with
  | zero=>intro s h;cases h
  | succ n ih =>
   intro s hs C a w hA;unfold Code.rounds;refine wp_mono (Dv hT hW b _ _ (h F (KG step n) s (λ_=>rfl) hs _ rfl) C a w hA) (Je λJ R w' hA' hq=>?_);obtain⟨j,hj,he⟩:=hq;exact ih j hj C R w' (he ▸ Ht keep _ C R w' (MV _ C R w' (Gh (P:=P) (T':=T) cvs J C R w' hA')))
 exact wp_loop_rounds fuel (key _ g O C a w (he ▸ Ht keep _ C a w (MV _ C a w (Gh (P:=P) (T':=T) U E C a w hA))))
end
end Go.Pv
