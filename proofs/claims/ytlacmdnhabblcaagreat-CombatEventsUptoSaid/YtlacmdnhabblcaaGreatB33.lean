import Derived.Test.YtlacmdnhabblcaaGreatB08
set_option linter.all false
namespace Go.Pv
open Go
section
variable {P:Program}{T:Tab}{S:kK}{M:kM}(hS:S=kK.lM P T)
theorem anT {i T r U a b:Nat}(h1:i=T)(h2:r=U)(h:a=b):LeP (.os i r a) (.os T U b):=by subst h1 h2 h;exact .refl _
variable {α β σ ρ:Type}{r:ρ}
include hS
theorem qi {k:Nat}{args as bs:List PV}{U:List PV}{E:Env}{K:PV->Env->Prop}{g:Option α}{v:α->PV}{st1:α->St}{n1:Nat}{R:α->Option ρ}(O:bnd g R=some r)(hF:∀ y,g=some y->FW P T.gl k U [] 0 (λu st n=>u=v y/\st=st1 y/\n=n1))(J:LeL bs U)(h:∀ y,R y=some r->K (ER (Hm [] E.next) 8 (v y)) (VY [] E (st1 y) n1)):S.Zi k args as bs E K:=by
 obtain⟨x,hx,hk⟩:=Aj O;clear O;subst hS;exact .inr (.inl ⟨_,_,_,(hF x hx).le J .nil,h x hk⟩)
theorem ajl {k:Nat}{args as:List PV}{E:Env}{U free:Option (List PV)}{T : List Nat}{st0:St}{K:PV->Env->Prop}(zs:List (Nat×Bool)){c:List PV×St×Nat}(e:Eg S zs args E.st E.next=c)(h:WR S k c.1 ⟨E.tmps,c.2.1,c.2.2⟩ K):S.call k args E U free T as st0 K:=by
 have:=ZO hS zs e h;subst hS;exact .inr (.inr (.inr this))
end
end Go.Pv
namespace Go.Pv
open Go
def ajm (T:Tab)(S:kK)(cvs:List Cv)(rs:List ResultVar)(R:PV->St->Nat->Prop):Post
 | 0,E=>Vw T S rs (cvE S cvs E) R
 | 1,E=>Vw T S rs (cvE S cvs E) R
 | _+2,_=>False
theorem abp {P:Program}{T:Tab}(hT:lW P T)(hW:I4 P){k:Nat}{fn:Func}{c:Code}(O:P.funcs[k]?=some fn)(hb:fn.body=some c)
  (hcall:∀ args w,(callFunc k args).run P w=.ok (.enter k args) w) {args:List PV} {st:St} {R:PV->St->Nat->Prop} {m:Nat} (hm:fn.ntmps-args.length=m)
  (cvs:List Cv) (h:∀ S,S=kK.lM P T->pwp T S c (ajm T S cvs fn.results.toList R) ⟨Dp args (vN m),st,T.vY⟩):FW P T.gl k args st T.vY R:=by
 intro w Y σ U hG hY hn I hst hnn;refine⟨hcall _ _,?_⟩;have hlen:=I.length
 let C:Ctx T:=JI T w Y σ st
 have H0:SW C w Y σ (Dp args (vN m)) ((U.toArray++Array.replicate (fn.ntmps-U.toArray.size) Go.undef).toList) st T.vY:=by
  refine⟨?_,hst,hn,hY,λ_ h=>h.1,λk h=>⟨hY k h.1,h.2⟩,λk h _=>?_,QM.refl _ w,λb x l h1 h2=>.inr ⟨b,x,l,h1,h2,rfl⟩,hG,⟨Nat.le_refl _,λ_ _=>rfl⟩,C9.none (Rl st hnn)⟩
  have:(U.toArray++Array.replicate (fn.ntmps-U.toArray.size) Go.undef).toList=U++List.replicate m Go.undef:=by simp[hlen,hm]
  rw[this];exact jo.app _ _ _ _ I (Hy m)
  by_cases hi:F6 σ st k
  exact .inr ⟨h,hi⟩
  exact .inl ⟨h,hi⟩
 have hwp:=Dv hT hW c _ _ (h _ rfl) C { tmps:=U.toArray++Array.replicate (fn.ntmps-U.toArray.size) Go.undef,defers:=[] } w ⟨⟨Y,σ,H0⟩,rfl⟩;refine calls_of_wp O hb (wp_mono hwp ?_)
 have key:∀ (a:Act) (w' : World),(∃ E,nX C E a w'/\Vw T (kK.lM P T) fn.results.toList (cvE (kK.lM P T) cvs E) R)->a.defers=[]/\∃ v,(results fn a.tmps).run P w'=.ok v w' /\
   ∃ cv u st' n' Y' σ',Ending.returned v=.returned cv/\R u st' n'/\SW (JI ⟨λ_=>.bad,T.gl,T.vY,[],0,[],[]⟩ w Y σ st) w' Y' σ' [u] [cv] st' n':=by
  rintro a w' ⟨E0,hA0,hr⟩
  obtain⟨⟨Y',σ',H⟩,hd⟩:=Gh (P:=P) (T':=T) cvs E0 C a w' hA0;generalize cvE (kK.lM P T) cvs E0=E at *;refine⟨hd,?_⟩;unfold Vw at hr
  split at hr
  rename_i vs hv;obtain⟨cv,hrun,hrep⟩:=Qv hT H hv;have H1:SW C w' Y' σ' [Dq vs] [cv] E.st E.next:=H.uS dD
  obtain⟨Y1,σ1,n',H2,g⟩:=VI (P:=P) (T':=T) T.own (Dq vs) H1 hrep;have H3:=H2.uS (show jo w' Y1 σ1 [(Zm (kK.lM P T) T.own (Dq vs) E.st E.next).1] [cv] by unfold jo;exact⟨_,_,rfl,g,by unfold jo;rfl⟩)
  split at hr
  rename_i v st2 n2 he;rw[he] at H3;obtain⟨h1,h2,h3⟩:=SV T.vY st2 [v];obtain⟨σ2,J,_⟩:=H3.WQ h1 h2 h3;refine⟨cv,hrun,cv,_,_,_,Y1,σ2,rfl,hr,⟨?_,J.store,J.next,J.yK,J.y0,J.c0,J.xI,J.qh,J.own,J.zi,J.fix,J.nest⟩⟩
  simpa only[IY] using J.vals
  exact hr.elim
 intro e a w' hq
 cases e with
 | normal=>exact key a w' hq
 | ret=>exact key a w' hq
 | exit n=>obtain⟨E,_,hq⟩:=hq;exact hq.elim
 | _=>exact hq.elim
theorem PX {P:Program}{T:Tab}(hT:lW P T)(hW:I4 P){k:Nat}{fn:Func}{c:Code}(O:P.funcs[k]?=some fn)(hb:fn.body=some c)
  (J:∀ args w,(callFunc k args).run P w=.ok (.enter k args) w) {args:List PV} {st:St} {v:PV} {st1:St} {n1:Nat} {m:Nat} (hm:fn.ntmps-args.length=m)
  (cvs:List Cv) (h:∀ S R,S=kK.lM P T->(∀ u s n,LeP u v->LeS s st1->n=n1->R u s n)->pwp T S c (ajm T S cvs fn.results.toList R) ⟨Dp args (vN m),st,T.vY⟩):FW P T.gl k args st T.vY (λu s n=>u=v/\s=st1/\n=n1):=by
 have H:=abp hT hW O hb J hm (st:=st) (cvs:=cvs) (R:=λu s n=>LeP u v/\LeS s st1/\n=n1) λS hS=>h S _ hS λ_ _ _ h1 h2 C=>⟨h1,h2,C⟩
 intro w Y σ U hG hY hn hr I g;obtain⟨h1,h2⟩:=H w Y σ U hG hY hn hr I g;refine⟨h1,Calls.mono h2 λe w' hh=>?_⟩;obtain⟨cv,u,s,n,Y',σ',he,⟨C,h4,h5⟩,H⟩:=hh;refine⟨cv,v,st1,n,Y',σ',he,⟨rfl,rfl,h5⟩,?_⟩
 have hv:jo w' Y' σ' [v] [cv]:=by
  have:=H.vals;unfold jo at this |-;obtain⟨c,cs,e,h6,h7⟩:=this;cases e;exact⟨_,_,rfl,C.rep _ h6,by unfold jo at h7 |-;exact h7⟩
 exact (H.uS hv).YM (h4.YM w' Y' σ')
end Go.Pv
