import Derived.RangeFuncLeaves
import Derived.RangeFuncRecord
import Derived.LoopN
import Derived.Test.YtchmoabpofnbaaaGreatC05
set_option linter.all false
namespace Go.Pv
open Go
def Yf:List PV->Bool
 | []=>true
 | v::vs=>(match v with
  | .bool _|.sb _|.int _ _|.si _ _|.str _|.sl _ _ _|.pp _|.Ip|.Vo=>true
  | .fn _ []=>true
  | _=>false)&&Yf vs
def ajZ (S:gV)(b c:Nat)(E:Env):Env :=
 match iH E.st b with
 | some (.nor sz rows r row)=>(match iV row c with
  | .os id r0 n=>(match iH E.st id with
   | some (.arr _ z es)=>⟨E.tmps,nD (nD E.st id (some (.arr true z es))) b (some (.nor sz rows r (nC row c (.sl z (S.sub es r0 n) false)))),E.next⟩
   | _=>E)
  | _=>E)
 | _=>E
def agi (S:gV)(b:Nat):Nat->Nat->Env->Env
 | _,0,E=>E
 | c,k+1,E=>agi S b (c+1) k (ajZ S b c E)
def opO (S:gV)(t:Nat)(E:Env)(K:Env->Prop):Prop :=
 match iV E.tmps t with
 | .lp b r _=>(match iH E.st b with
  | some (.arr false sz rows)=>S.row rows r λrow=>K ⟨E.tmps,nD E.st b (some (.nor sz rows r row)),E.next⟩
  | _=>False)
 | _=>False
def alm (S:gV)(b:Nat)(E:Env)(K:Env->Prop):Prop :=
 match iH E.st b with
 | some (.nor sz rows r row)=>bif Yf row then wkC S row λrow=>K ⟨E.tmps,nD E.st b (some (.arr false sz (S.Gv rows r row))),E.next⟩ else False
 | _=>False
def clO (S:gV)(b:Nat)(E:Env)(K:Env->Prop):Prop :=
 match iH E.st b with
 | some (.nor _ _ _ row)=>alm S b (agi S b 0 (nN row) E) K
 | _=>False
inductive Cw where
 | cv (c:Cv)
 | op (t:Nat)
 | cl (b:Nat)
def cwK (S:gV):List Cw->Env->(Env->Prop)->Prop
 | [],E,K=>K E
 | .cv c::l,E,K=>cwK S l (cv1 S c E) K
 | .op t::l,E,K=>opO S t E λE=>cwK S l E K
 | .cl b::l,E,K=>clO S b E λE=>cwK S l E K
section
variable {P:Program}{T T' : Tab}
theorem Ws {w:World}{Y:Nat->Prop}{σ:Sg}:∀ (ps:List PV),Yf ps=true->(∀ p∈ps,xm p=true/\∀ v,Rep w Y σ p v->Rep w Y gJ p v)
 | [],_=>by simp
 | p::ps,h=>by
  simp only[Yf,Bool.and_eq_true] at h;intro q T;rcases List.mem_cons.1 T with rfl|T
  ·have h1:=h.1;cases q
   case fn f cs=>
    cases cs with
    | nil=>
     refine⟨rfl,λv hv=>?_⟩
     grind[Rep,eU]
    | cons c cs=>simp at h1
   all_goals first|(simp at h1;done)|exact⟨rfl,λv hv=>by unfold Rep at hv |-;exact hv⟩
  exact Ws ps h.2 q T
theorem aj0 {t b r c sz:Nat}{E:Env}{rows:List (List PV)}{row:List PV}(ht:iV E.tmps t=.lp b r c)(g:iH E.st b=some (.arr false sz rows))(hr:rows[r]?=some row):Ent T E ⟨E.tmps,nD E.st b (some (.nor sz rows r row)),E.next⟩:=by
 rintro C a w ⟨⟨Y,σ,H⟩,hd⟩
 refine⟨⟨Y,σ,?_⟩,hd⟩;have I:=H.vals.get _ _ t;rw[ht] at I;unfold Rep at I;obtain⟨l,hl,_⟩:=I;have hB:=fF.yN H (λ_ _ h=>h) g hl;unfold fF at hB;obtain⟨h1,h2,h3,h4,h5,h6,h7⟩:=hB
 have J:r<rows.length:=by
  grind
 have h8:=iQ.row rows _ r row h5 hr;refine H.update g hl (h6 rfl) rfl rfl rfl rfl (λ_ _=>rfl) (λ_ _ h=>by cases h) λ_=>?_;unfold fF;exact⟨h1,h2,h3,h4,⟨J,h8.1.1⟩,λi x hx _=>iQ.row rows _ i x h5 hx,iG.keep row ⟨λ_ _ _=>rfl,λ_ _ h=>h,Nat.le_refl _,λ_ _ h=>by cases h⟩ (λ_=>rfl) _ h8.2,h6 rfl⟩
theorem adP {C:Ctx T}{w:World}{Y:Nat->Prop}{σ:Sg}{ps:List PV}{vs:List Value}{st:St}{n b sz r:Nat}{rows:List (List PV)}{row:List PV}(H:SW C w Y σ ps vs st n)(J:iH st b=some (.nor sz rows r row)):∃ l,σ b=some l/\fF w Y σ l (.nor sz rows r row):=by
 rcases H.store.blk b _ J with h|⟨_,h⟩
 exact h
 cases h
theorem ais (b c:Nat)(E:Env):Ent T E (ajZ (gV.jd P T') b c E):=by
 rintro C a w ⟨⟨Y,σ,H⟩,hd⟩
 unfold ajZ
 split
 rename_i sz rows r row hbv
 split
 rename_i id r0 m hp
 split
 rename_i ro z I hb;obtain⟨Y',H1,hfr,hY⟩:=H.freeze hb (.inr ⟨ro,z,I,rfl,rfl⟩);refine⟨⟨Y',σ,?_⟩,hd⟩;have hne:¬ id=b:=by grind
 have J:iH (nD E.st id (some (.arr true z I))) b=some (.nor sz rows r row):=by simp_all[gG]
 obtain⟨l,hl,hB⟩:=adP H1 J;have hB0:=hB;unfold fF at hB;obtain⟨h1,h2,h3,h4,⟨h5,h6⟩,h7,h8,g⟩:=hB;refine H1.update J hl g rfl rfl rfl rfl (λ_ _=>rfl) (λ_ _ h=>by cases h) λ_=>?_;unfold fF;refine⟨h1,h2,h3,h4,⟨h5,by simpa [tq] using h6⟩,h7,iG.oM _ _ _ (λv hv=>?_) h8,g⟩;rw[hp] at hv;have t : iH (nD E.st id (some (.arr true z I))) id=some (.arr true z I):=by rw[gG,if_pos rfl]
 obtain⟨x,cap,ev,hn,hlen,hr⟩:=IG hv (H1.store.blk id _ t);show Rep w Y' σ (.sl z ((I.drop r0).take m) false) _
 grind[Rep]
 exact⟨⟨Y,σ,H⟩,hd⟩
 exact⟨⟨Y,σ,H⟩,hd⟩
 exact⟨⟨Y,σ,H⟩,hd⟩
theorem adQ (b:Nat):∀ (k c:Nat) (E:Env),Ent T E (agi (gV.jd P T') b c k E)
 | 0,_,E=>Ent.refl E
 | k+1,c,E=>(ais b c E).trans (adQ b k (c+1) _)
theorem ait {b sz r:Nat}{E:Env}{rows:List (List PV)}{row J : List PV}(hb:iH E.st b=some (.nor sz rows r row))(hn:Yf row=true)(hl:J.length=row.length)(hc:gW row=true->gW J=true)
  (hw:∀ (w:World) (Y:Nat->Prop) (σ:Sg) (vs:List Value),eU w Y σ row vs->eU w Y σ J vs):Ent T E ⟨E.tmps,nD E.st b (some (.arr false sz (rows.set r J))),E.next⟩:=by
 rintro C a w ⟨⟨Y,σ,H⟩,hd⟩
 refine⟨⟨Y,σ,?_⟩,hd⟩;obtain⟨l,hs,hB⟩:=adP H hb;unfold fF at hB;obtain⟨h1,h2,h3,h4,⟨h5,h6⟩,h7,h8,h9⟩:=hB;refine H.update hb hs h9 rfl rfl rfl rfl (λ_ _=>rfl) (λ_ _ h=>by cases h) λ_=>?_;have hcell:gW row=true:=by rw[tu];exact λp I=>(Ws (w:=w) (Y:=Y) (σ:=σ) row hn p I).1
 have t : iG w Y gJ l.cb row (l.co+r*sz):=by
  rw[iG.iff] at h8 |-;intro i p hi;obtain⟨v,hv,I⟩:=h8 i p hi;exact⟨v,hv,(Ws row hn p (List.mem_of_getElem? hi)).2 v I⟩
 obtain⟨us,hu1,g⟩:=t.vals;have h8'' : iG w Y gJ l.cb J (l.co+r*sz):=iG.KJ _ _ _ (hw w Y gJ us hu1) g;unfold fF;refine⟨h1,h2,h3,⟨by simpa using h4.1,by simpa using h4.2⟩,?_,λ_=>h9,λh=>by cases h⟩;rw[iQ.iff]
 grind
theorem aiu {t:Nat}{E:Env}{K:Env->Prop}(h:opO (gV.jd P T') t E K):∃ F,Ent T E F/\K F:=by
 unfold opO at h
 split at h
 rename_i b r c J
 split at h
 rename_i sz rows I;obtain⟨row,hr,h⟩:=h
 grind[aj0]
 exact h.elim
 exact h.elim
theorem aiv {b:Nat}{E:Env}{K:Env->Prop}(h:clO (gV.jd P T') b E K):∃ F,Ent T E F/\K F:=by
 unfold clO at h
 split at h
 rename_i sz rows r row hb;have h1:Ent T E (agi (gV.jd P T') b 0 (nN row) E):=adQ b _ 0 E;generalize agi (gV.jd P T') b 0 (nN row) E=E1 at h h1;unfold alm at h
 split at h
 rename_i g I r2 J C
 cases t:Yf J with
 | false=>grind
 | true=>
  rw[t] at h;obtain⟨cs',g1,g2,g3,g4,_⟩:=AB h;exact⟨_,h1.trans (ait C t g1 g2 g3),g4⟩
 exact h.elim
 exact h.elim
theorem U9:∀ (l:List Cw) {E:Env} {K:Env->Prop},cwK (gV.jd P T') l E K->∃ F,Ent T E F/\K F
 | [],E,K,h=>⟨E,Ent.refl E,h⟩
 | .cv c::l,E,K,h=>by
  obtain⟨F,h1,h2⟩:=U9 l h;exact⟨F,(adK (P:=P) (T':=T') c E).trans h1,h2⟩
 | .op t::l,E,K,h=>by
  obtain⟨F,h1,h2⟩:=aiu (T:=T) h;obtain⟨G,I,J⟩:=U9 l h2;exact⟨G,h1.trans I,J⟩
 | .cl b::l,E,K,h=>by
  obtain⟨F,h1,h2⟩:=aiv (T:=T) h;obtain⟨G,I,J⟩:=U9 l h2;exact⟨G,h1.trans I,J⟩
variable {S:gV}(hS:S=gV.jd P T)
include hS
theorem agj {ci:Nat}{T:Env}{A:Post->Prop}{B:Env->Prop}{Q:Post}(l:List Cw)(h:A (Jr (λE=>cwK S l E B) Q)):S.seq ci T A B Q:=by
 subst hS;refine⟨_,h,λn E h=>?_⟩
 cases n with
 | zero=>exact U9 l h
 | succ n=>exact⟨E,Ent.refl E,h⟩
end
end Go.Pv
namespace Go.Pv
open Go
section
variable {P:Program}{T:Tab}{S:gV}{M:fP}{α β σ ρ:Type}{r:ρ}
theorem d_x {I F:σ->Env}{k:σ->Option ρ}{s:σ}{E:Env}(hk:∀ s,I s=F s)(U:k s=some r)(e:E=F s:=by(conv=>lhs;cbv)<;>(try simp only[q])<;>(try rfl)<;>(try simp only[eL,q])<;>(try rfl)<;>(try (subst hM;rfl))):∃ s,k s=some r/\E=I s:=⟨s,U,e.trans (hk s).symm⟩
theorem d_l {u v:PV}(e:u=v:=by simp only[q];try first|rfl|simp[zA,eI,eB,eL,eS,q]):LeP u v:=Wj e
theorem jJ {α:Sort _}{u v:α}(e:u=v:=by simp only[q];try first|rfl|simp[zA,eI,eB,eL,eS,q]):u=v:=e
theorem UQ (hS:S=gV.jd P T)(hT:iK P T)(hW:CY P){b:Code}{Q:Post}{E:Env}{step:σ->(σ->Option ρ)->Option ρ}{C:σ}(cvs:List Cv)(keep:List Nat)(F:σ->Env)(U:loopF step C=some r)
  (h:∀ (I:σ->Env) (k:σ->Option ρ) (s:σ),(∀ s,I s=F s)->step s k=some r->∀ e,e=F s->JU T S b (Jr (λt=>∃ J,k J=some r/\Iq T.oZ keep (wkE (KF S cvs t))=I J) Q) e) (g:Iq T.oZ keep (wkE (KF S cvs E))=F C:=by(conv=>lhs;cbv)<;>(try simp only[q])<;>(try rfl)):S.loop b Q E:=GV hS hT hW cvs keep F U g h
theorem qZ (hS:S=gV.jd P T){k:Nat}{args as bs:List PV}{cargs:List PV}{E:Env}{K:PV->Env->Prop}{g:Option α}{v:α->PV}{kk:α->Option ρ}(U:bnd g kk=some r)(hF:∀ y,g=some y->Fn P T.gl k cargs (λu=>u=v y))(h:∀ y,kk y=some r->K (v y) E)(ha:as=cargs:=by rfl):S.Ua k args as bs E K:=Zf hS U hF (le_eq ha) h
theorem GX (hS:S=gV.jd P T){k:Nat}{args:List PV}{cargs:List PV}{K:PV->Prop}{g:Option α}{v:α->PV}{kk:α->Option ρ}(U:bnd g kk=some r)(hF:∀ y,g=some y->Fn P T.gl k cargs (λu=>u=v y))(h:∀ y,kk y=some r->K (v y))(ha:args=cargs:=by rfl):S.Vp k args K:=PR hS U hF (le_eq ha) h
theorem adR (hS:S=gV.jd P T)(hT:iK P T)(hW:CY P){b:Code}{Q:Post}{E:Env}{step:σ->(σ->Option ρ)->Option ρ}{s0:σ}(J cvs:List Cv)(keep:List Nat)(F:σ->Env)(U:loopF step s0=some r)(g:Iq T.oZ keep (wkE (KF S J E))=F s0)
  (h:∀ (I:σ->Env) (k:σ->Option ρ) (s:σ),(∀ s,I s=F s)->step s k=some r->∀ e,e=F s->JU T S b (Jr (λE'=>∃ s',k s'=some r/\Iq T.oZ keep (wkE (KF S cvs E'))=I s') Q) e):S.loop b Q E:=by
 subst hS;intro C a w hA
 have key:∀ (n:Nat) (s:σ),iq step n s=some r->∀ (C:Ctx T) a w,kL C (F s) a w->Code.rounds P b (lift C Q) n a w:=by
  intro n
  induction n with
  | zero=>intro s h;cases h
  | succ n ih=>
   intro s hs C a w hA;unfold Code.rounds;refine wp_mono (zQ hT hW b _ _ (h F (iq step n) s (λ_=>rfl) hs _ rfl) C a w hA) (IK λE' t w' hA' hq=>?_);obtain⟨j,hj,g⟩:=hq;exact ih j hj C t w' (g ▸ GK keep _ C t w' (KY _ C t w' (AQ (P:=P) (T':=T) cvs E' C t w' hA')))
 exact wp_loop_rounds fuel (key _ s0 U C a w (g ▸ GK keep _ C a w (KY _ C a w (AQ (P:=P) (T':=T) J E C a w hA))))
theorem CB (hS:S=gV.jd P T){l:Array Oper}{p:Prop}(h:p)(hd:GG T l=true:=by kernel_rfl):S.order l p:=adF hS hd h
end
def SN (T:Tab)(S:gV)(cvs:List Cv)(rs:List ResultVar)(R:PV->St->Nat->Prop):Post
 | 0,E=>Ui T S rs (KF S cvs E) R
 | 1,E=>Ui T S rs (KF S cvs E) R
 | _+2,_=>False
theorem Nl {P:Program}{T:Tab}(hT:iK P T)(hW:CY P){k:Nat}{fn:Func}{c:Code}(U:P.funcs[k]?=some fn)(hb:fn.body=some c)
  (hcall:∀ args w,(callFunc k args).run P w=.ok (.enter k args) w) {args:List PV} {st:St} {R:PV->St->Nat->Prop} {m:Nat} (hm:fn.ntmps-args.length=m)
  (cvs:List Cv) (h:∀ S,S=gV.jd P T->JU T S c (SN T S cvs fn.results.toList R) ⟨vw args (rQ m),st,T.oZ⟩) {w:World} {Y:Nat->Prop} {σ:Sg} {J:List Value} (hG:RX T.gl w Y) (hY:∀ b,Y b->b<w.heap.size) (hn:∀ b,T.oZ<=b->σ b=none) (t:eU w Y σ args J) (hst:ET w Y σ st) (hnn:kS st=true) (hyk:YOK (yg T w Y σ st)) :
  (callFunc k J.toArray).run P w=.ok (.enter k J.toArray) w /\
  Calls P k J.toArray w λe w'=>∃ cv v st' n' Y' σ',e=.returned cv/\R v st' n'/\SW (yg ⟨λ_=>.bad,T.gl,T.oZ,[],0,[],[],none,λ_=>[]⟩ w Y σ st) w' Y' σ' [v] [cv] st' n':=by
 refine⟨hcall _ _,?_⟩;have hlen:=t.length
 let C:Ctx T:=yg T w Y σ st
 have H0:SW C w Y σ (vw args (rQ m)) ((J.toArray++Array.replicate (fn.ntmps-J.toArray.size) Go.undef).toList) st T.oZ:=by
  refine⟨?_,hst,hn,hY,λ_ h=>h.1,λk h=>⟨hY k h.1,h.2⟩,λk h _=>?_,ML.refl _ w,λb x l h1 h2=>.inr ⟨b,x,l,h1,h2,rfl⟩,hG,⟨Nat.le_refl _,λ_ _=>rfl⟩,Am.none (GR st hnn)⟩
  grind[Array.replicate,eU.app,GU]
  by_cases hi:Ez σ st k
  exact .inr ⟨h,hi⟩
  exact .inl ⟨h,hi⟩
 have hwp:=zQ hT hW c _ _ (h _ rfl) C { tmps:=J.toArray++Array.replicate (fn.ntmps-J.toArray.size) Go.undef,defers:=[] } w ⟨⟨Y,σ,H0⟩,rfl,hyk⟩;refine calls_of_wp U hb (wp_mono hwp ?_)
 have key:∀ (a:Act) (w' : World),(∃ E,kL C E a w'/\Ui T (gV.jd P T) fn.results.toList (KF (gV.jd P T) cvs E) R)->a.defers=[]/\∃ v,(results fn a.tmps).run P w'=.ok v w' /\
   ∃ cv u st' n' Y' σ',Ending.returned v=.returned cv/\R u st' n'/\SW (yg ⟨λ_=>.bad,T.gl,T.oZ,[],0,[],[],none,λ_=>[]⟩ w Y σ st) w' Y' σ' [u] [cv] st' n':=by
  rintro a w' ⟨E0,hA0,hr⟩
  obtain⟨⟨Y',σ',H⟩,hd⟩:=AQ (P:=P) (T':=T) cvs E0 C a w' hA0;generalize KF (gV.jd P T) cvs E0=E at *;refine⟨hd.1,?_⟩;unfold Ui at hr
  split at hr
  rename_i vs hv;obtain⟨cv,hrun,hrep⟩:=Ol hT H hv;have H1:SW C w' Y' σ' [Js vs] [cv] E.st E.next:=H.qU dJ
  obtain⟨Y1,σ1,n',H2,g⟩:=Ut (P:=P) (T':=T) T.own (Js vs) H1 hrep;have H3:=H2.qU (show eU w' Y1 σ1 [(XM (gV.jd P T) T.own (Js vs) E.st E.next).1] [cv] by unfold eU;exact⟨_,_,rfl,g,by unfold eU;rfl⟩)
  split at hr
  rename_i v st2 n2 he;rw[he] at H3;obtain⟨h1,h2,h3⟩:=MW T.oZ st2 [v];obtain⟨σ2,I,_⟩:=H3.aaA h1 h2 h3;refine⟨cv,hrun,cv,_,_,_,Y1,σ2,rfl,hr,⟨?_,I.store,I.next,I.vJ,I.y0,I.c0,I.wP,I.pJ,I.own,I.wQ,I.fix,I.nest⟩⟩
  simpa only[Ak] using I.vals
  exact hr.elim
 intro e a w' hq
 cases e with
 | normal=>exact key a w' hq
 | ret=>exact key a w' hq
 | exit n=>obtain⟨E,_,hq⟩:=hq;exact hq.elim
 | _=>exact hq.elim
theorem Zk {P:Program}{T:Tab}(hT:iK P T)(hW:CY P){k:Nat}{fn:Func}{c:Code}(U:P.funcs[k]?=some fn)(t:fn.body=some c)
  (hcall:∀ args w,(callFunc k args).run P w=.ok (.enter k args) w) {args:List PV} {st:St} {R:PV->St->Nat->Prop} {m:Nat} (g:fn.ntmps-args.length=m)
  (cvs:List Cv) (h:∀ S,S=gV.jd P T->JU T S c (SN T S cvs fn.results.toList R) ⟨vw args (rQ m),st,T.oZ⟩) (hyl:T.yl=none:=by rfl):FnS P T.gl k args st T.oZ R :=
 λ_ _ _ _ hG hY hn J I C=>Nl hT hW U t hcall g cvs h hG hY hn J I C (YOK.none hyl)
theorem xw {P:Program}{T:Tab}(hT:iK P T)(hW:CY P){k:Nat}{fn:Func}{c:Code}(U:P.funcs[k]?=some fn)(g:fn.body=some c)
  (hcall:∀ args w,(callFunc k args).run P w=.ok (.enter k args) w) {args:List PV} {st:St} {v:PV} {st1:St} {n1:Nat} {m:Nat} (hm:fn.ntmps-args.length=m)
  (cvs:List Cv) (h:∀ S R,S=gV.jd P T->(∀ u s n,LeP u v->LeS s st1->n=n1->R u s n)->JU T S c (SN T S cvs fn.results.toList R) ⟨vw args (rQ m),st,T.oZ⟩) (hyl:T.yl=none:=by rfl):FnS P T.gl k args st T.oZ (λu s n=>u=v/\s=st1/\n=n1):=by
 have H:=Zk hT hW U g hcall hm (hyl:=hyl) (st:=st) (cvs:=cvs) (R:=λu s n=>LeP u v/\LeS s st1/\n=n1) λS hS=>h S _ hS λ_ _ _ h1 h2 t=>⟨h1,h2,t⟩
 intro w Y σ J hG hY hn hr I C;obtain⟨h1,h2⟩:=H w Y σ J hG hY hn hr I C;refine⟨h1,Calls.mono h2 λe w' hh=>?_⟩;obtain⟨cv,u,s,n,Y',σ',he,⟨t,h4,h5⟩,H⟩:=hh;refine⟨cv,v,st1,n,Y',σ',he,⟨rfl,rfl,h5⟩,?_⟩
 have hv:eU w' Y' σ' [v] [cv]:=by
  have:=H.vals;unfold eU at this |-;obtain⟨c,cs,e,h6,h7⟩:=this;cases e;exact⟨_,_,rfl,t.rep _ h6,by grind⟩
 exact(H.qU hv).QH (h4.QH w' Y' σ')
end Go.Pv
namespace Go.Pv
open Go
theorem d_R {p:Prop}(h:p:=by intro U;cbv;cases U;first|exact hR _ (Wj rfl)|exact hR _ d_l):p:=h
theorem SQ {p:Prop}(h:p:=by intro _ U;cbv;cases U;first|exact hR _ (Wj rfl)|exact hR _ d_l):p:=h
theorem aj1 {p:Prop}(h:p:=by cases U;first|exact hR _ (Wj rfl)|exact hR _ d_l):p:=h
theorem pW {p:Prop}(h:p:=by intro U;cbv;exact d_x dw U):p:=h
theorem sK {p:Prop}(h:p:=by intro _ U;cbv;exact d_x dw U):p:=h
theorem sN {p:Prop}(h:p:=by exact d_x dw U):p:=h
abbrev sI (x:Int):PV:=.si .i64 x
abbrev vR (l:List PV):Option lI:=some (.var false l)
abbrev aR (n:Nat) (l:List (List PV)):Option lI:=some (.arr false n l)
abbrev mI (M:fP) (l:List Int):List (List PV):=M.m Int (eI .i64) l
def stL:Nat->List (Option lI)->St
 | _,[]=>[]
 | i,b::l=>(i,b)::stL (i+1) l
def aln:List (Option lI)->Nat
 | []=>0
 | _::l=>aln l+1
def f3 (n:Nat)(ts:List (Nat×PV))(bs:List (Option lI)):Env:=⟨aip 0 n ts,stL 0 bs,aln bs⟩
def alo:List Nat->List PV->List (Nat×PV)
 | k::ks,v::vs=>(k,v)::alo ks vs
 | _,_=>[]
def f4 (n:Nat)(vs:List PV)(bs:List (Option lI))(ks:List Nat):Env:=f3 n (alo ks vs) bs
section
variable {P:Program}{T:Tab}{S:gV}{M:fP}{α β σ ρ:Type}{r:ρ}
theorem kQ {c c' : Bool}{fa fb:Option ρ}{A B:Unit->Prop}(ha:fa=some r->A ())(hb:fb=some r->B ())(hS:S=gV.jd P T:=by assumption)(U:br c' fa fb=some r:=by exact U)(e:c=c':=by simp only[q];try first|rfl|simp[zA,eI,eB,eL,eS,q]):S.br c A B:=OU hS U e ha hb
theorem rf {c c' : Bool}{fa fb:Option ρ}{A B:Unit->Prop}(ha:fa=some r->A ())(hb:fb=some r->B ())(hS:S=gV.jd P T:=by assumption)(U:br c' fa fb=some r:=by exact U)(e:c=c':=by rfl):S.br c A B:=OU hS U e ha hb
theorem zT {es:List (List PV)}{l:List α}{e:α->List PV}{i i' : Int}{k:α->Option ρ}{K:List PV->Prop}(h:∀ x,k x=some r->K (e x))(hS:S=gV.jd P T:=by assumption)(hM:M=ku:=by assumption)(U:bnd (gu l i') k=some r:=by exact U)(he:es=M.m α e l:=by rfl)(hi:i=i':=by rfl):S.idx es i K:=agf hS hM U he hi h
theorem yE {ci:Nat}{J:Env}{A:Post->Prop}{B:Env->Prop}{Q:Post}{rest:σ->Option ρ}{body:(σ->Option ρ)->Option ρ}(cvs:List Cv)(keep:List Nat)(F:σ->List Nat->Env)(U:jn rest body=some r)
  (h:∀ (I:σ->Env) (k:σ->Option ρ),(∀ s,I s=F s keep)->body k=some r->A (Jr (λE=>∃ s,k s=some r/\Iq T.oZ keep (wkE (KF S cvs E))=I s) Q)) (h2:∀ s,rest s=some r->B (F s keep)) (hS:S=gV.jd P T:=by assumption):S.seq ci J A B Q:=ai9 hS cvs keep (λs=>F s keep) U h h2
theorem Gg (hT:iK P T){b:Code}{Q:Post}{E:Env}{step:σ->(σ->Option ρ)->Option ρ}{C:σ}(cvs:List Cv)(keep:List Nat)(F:σ->List Nat->Env)(U:loopF step C=some r)
  (h:∀ (I:σ->Env) (k:σ->Option ρ) (s:σ),(∀ s,I s=F s keep)->step s k=some r->∀ e,e=F s keep->JU T S b (Jr (λt=>∃ J,k J=some r/\Iq T.oZ keep (wkE (KF S cvs t))=I J) Q) e) (g:Iq T.oZ keep (wkE (KF S cvs E))=F C keep:=by(conv=>lhs;cbv)<;>(try simp only[q])<;>(try rfl)) (hS:S=gV.jd P T:=by assumption) (hW:CY P:=by exact wf):S.loop b Q E:=UQ hS hT hW cvs keep (λs=>F s keep) U h g
end
theorem CO {P:Program}{T:Tab}(hT:iK P T){k:Nat}{fn:Func}{c:Code}(U:P.funcs[k]?=some fn)
  (hcall:∀ args w,(callFunc k args).run P w=.ok (.enter k args) w) {args:List PV} {v:PV} {m:Nat}
  {M:fP} (h:∀ S R,S=gV.jd P T->(∀ u,LeP u v->R u)->SF M S->JU T S c (ahT T S fn.results.toList R) ⟨vw args (rQ m),[],0⟩) (hM:M=ku:=by assumption) (C:T.oZ=0:=by rfl) (hW:CY P:=by exact wf) (J:fn.body=some c:=by rfl) (I:fn.ntmps-args.length=m:=by rfl) (hyl:T.yl=none:=by rfl):Fn P T.gl k args (λu=>u=v):=agd hT C hW U J hcall I (hyl:=hyl) λS R hS hR=>h S R hS hR (sf hM hS)
end Go.Pv
namespace Go.Pv
open Go
def upT:List (Nat×PV)->List PV->List PV
 | [],ts=>ts
 | (t,v)::l,ts=>upT l (nC ts t v)
def upB:List (Nat×Option lI)->St->St
 | [],st=>st
 | (b,x)::l,st=>upB l (nD st b x)
def alp:List (Nat×Option lI)->Nat->Nat
 | [],n=>n
 | (b,_)::l,n=>alp l (bif Nat.blt b n then n else b+1)
def up (ts:List (Nat×PV))(bs:List (Nat×Option lI))(E:Env):Env:=⟨upT ts E.tmps,upB bs E.st,alp bs E.next⟩
def je (ts:List (Nat×PV))(E:Env):Env:=⟨upT ts E.tmps,E.st,E.next⟩
inductive aja {σ:Type} (i:Nat) (cvs:List Cv) (keep:List Nat) (F:gV->σ->Env->Env):Prop
 | mk
inductive agk {σ:Type} (i:Nat) (cvs:List Cv) (keep:List Nat) (F:gV->σ->Env->Env):Prop
 | mk
inductive acC (i:Nat) (cvs:List Cv):Prop
 | mk
theorem ct {σ:Type}(i:Nat)(keep:List Nat)(F:gV->σ->Env->Env)(cvs:List Cv:=[]):aja i cvs keep F:=.mk
theorem lo {σ:Type}(i:Nat)(keep:List Nat)(F:gV->σ->Env->Env)(cvs:List Cv:=[]):agk i cvs keep F:=.mk
theorem cv {i:Nat}(cvs:List Cv):acC i cvs:=.mk
class HM (M:fP):Prop where
 h:M=ku
instance:HM ku:=⟨rfl⟩
class EC (M:fP) (α:Type) (e:outParam (α->List PV)):Prop
instance {M:fP}:EC M Bool eB:=⟨⟩
instance {M:fP}:EC M Int (eI .i64):=⟨⟩
instance {M:fP}:EC M ByteArray eS:=⟨⟩
instance {M:fP}:EC M (List Int) (eL M 1 (eI .i64)):=⟨⟩
class CW (P:Program) (G:Nat->Option (List PV)) (M:fP) (k:Nat) {α:Type} (g:Option α) (as:outParam (List PV)) (v:outParam (α->PV)):Prop where
 w:∀ y,g=some y->Fn P G k as (λu=>u=v y)
theorem cwT {P:Program}{G:Nat->Option (List PV)}{M:fP}(_:M=ku){T:Tab}(J:T.gl=G){k:Nat}{α:Type}{g:Option α}{as:List PV}{v:α->PV}[h:CW P G M k g as v]:∀ y,g=some y->Fn P T.gl k as (λu=>u=v y):=by subst J;exact h.w
class CS (P:Program) (G:Nat->Option (List PV)) (M:fP) (k:Nat) {α:Type} (g:Option α) (as:outParam (List PV)) (st0:outParam St) (m:outParam Nat) (v:outParam (α->PV)) (st1:outParam (α->St)) (n1:outParam Nat):Prop where
 w:∀ y,g=some y->FnS P G k as st0 m (λu st n=>u=v y/\st=st1 y/\n=n1)
theorem csT {P:Program}{G:Nat->Option (List PV)}{M:fP}(_:M=ku){T:Tab}(J:T.gl=G){k:Nat}{α:Type}{g:Option α}{as:List PV}{st0:St}{m:Nat}{v:α->PV}{st1:α->St}{n1:Nat}[h:CS P G M k g as st0 m v st1 n1]:∀ y,g=some y->FnS P T.gl k as st0 m (λu st n=>u=v y/\st=st1 y/\n=n1):=by subst J;exact h.w
section
variable {P:Program}{T:Tab}{S:gV}{M:fP}{α β σ ρ:Type}{r:ρ}
theorem d_kA (hS:S=gV.jd P T){i:Nat}{cvs:List Cv}{keep:List Nat}{F:gV->σ->Env->Env}(_:aja i cvs keep F){E C:Env}{J:σ->Env}{A:Post->Prop}{B:Env->Prop}{Q:Post}{rest:σ->Option ρ}{body:(σ->Option ρ)->Option ρ}(U:jn rest body=some r)
  (_:Iq T.oZ keep (wkE (KF S cvs E))=C) (_:∀ s,F S s C=J s)
  (h:∀ (I:σ->Env) (k:σ->Option ρ),(∀ s,I s=J s)->body k=some r->A (Jr (λE=>∃ s,k s=some r/\Iq T.oZ keep (wkE (KF S cvs E))=I s) Q)) (h2:∀ s,rest s=some r->B (J s)):S.seq i E A B Q:=ai9 hS cvs keep J U h h2
theorem d_lA (hT:iK P T)(hW:CY P)(hS:S=gV.jd P T){b:Code}{i:Nat}(_:Pn b=some i){cvs:List Cv}{keep:List Nat}{F:gV->σ->Env->Env}(_:agk i cvs keep F){Q:Post}{E C:Env}{J:σ->Env}{step:σ->(σ->Option ρ)->Option ρ}{g:σ}(U:loopF step g=some r)
  (h0:Iq T.oZ keep (wkE (KF S cvs E))=C) (_:∀ s,F S s C=J s) (he:C=J g)
  (h:∀ (I:σ->Env) (k:σ->Option ρ) (s:σ),(∀ s,I s=J s)->step s k=some r->∀ e,e=J s->JU T S b (Jr (λE'=>∃ t,k t=some r/\Iq T.oZ keep (wkE (KF S cvs E'))=I t) Q) e):S.loop b Q E:=GV hS hT hW cvs keep J U (h0.trans he) h
theorem d_xA {I F:σ->Env}{k:σ->Option ρ}{s:σ}{E:Env}(hk:∀ s,I s=F s)(U:k s=some r)(e:E=F s):∃ s,k s=some r/\E=I s:=⟨s,U,e.trans (hk s).symm⟩
theorem fBr {c:Bool}{A B:Unit->Prop}(h:S.br c A B):S.br c A B:=h
theorem fCp {k:Nat}{a b c:List PV}{E:Env}{K:PV->Env->Prop}(h:S.Ua k a b c E K):S.Ua k a b c E K:=h
theorem fCq {k:Nat}{a:List PV}{K:PV->Prop}(h:S.Vp k a K):S.Vp k a K:=h
theorem fCf {k:Nat}{a:List PV}{K:PV->Prop}(h:S.XE k a K):S.XE k a K:=h
theorem fCa {k:Nat}{a b:List PV}{E:Env}{x y:Option (List PV)}{z:List Nat}{s:St}{K:PV->Env->Prop}(h:S.call k a E x y z b s K):S.call k a E x y z b s K:=h
theorem fCw {k:Nat}{a:List PV}{z:List Nat}{s:St}{K:PV->St->Nat->Prop}(h:S.XF k a s z K):S.XF k a s z K:=h
theorem fIx {n:Nat}{i:Int}{K:Nat->Prop}(h:S.ix n i K):S.ix n i K:=h
theorem alq {a:List (List PV)}{i:Int}{K:List PV->Prop}(h:S.idx a i K):S.idx a i K:=h
theorem fRow {a:List (List PV)}{i:Nat}{K:List PV->Prop}(h:S.row a i K):S.row a i K:=h
theorem alr {n b:Nat}{p:Prop}(h:S.room n b p):S.room n b p:=h
theorem fCat {a b:ByteArray}{K:ByteArray->Prop}(h:S.aff a b K):S.aff a b K:=h
theorem fSix {a:ByteArray}{i:Int}{K:Int->Prop}(h:S.afe a i K):S.afe a i K:=h
theorem fDiv {o:BinOp}{kd:IntKind}{a b:Int}{K:Int->Prop}(h:S.div o kd a b K):S.div o kd a b K:=h
theorem fShf {o:BinOp}{kd:IntKind}{a b:Int}{K:Int->Prop}(h:S.shf o kd a b K):S.shf o kd a b K:=h
theorem fMks {n m:Int}{b:Nat}{K:Nat->Prop}(h:S.mks n m b K):S.mks n m b K:=h
theorem fSlc {n:Nat}{a b:Int}{K:Nat->Nat->Prop}(h:S.slc n a b K):S.slc n a b K:=h
theorem fSsl {s:ByteArray}{a b:Int}{K:ByteArray->Prop}(h:S.abW s a b K):S.abW s a b K:=h
theorem fOrd {l:Array Oper}{p:Prop}(h:S.order l p):S.order l p:=h
theorem als {l:Array Oper}{p:Prop}(h:S.last l p):S.last l p:=h
theorem fOrf {l:Array Oper}{t:List (List Nat×List Nat×List Nat)}{p:Prop}(h:S.ael l t p):S.ael l t p:=h
theorem fSame {x y:Hdr}{p:Prop}(h:S.same x y p):S.same x y p:=h
theorem fNu {K:Hdr->Prop}(h:S.nu K):S.nu K:=h
theorem fNil {a:List (List PV)}{K:Bool->Prop}(h:S.Vq a K):S.Vq a K:=h
theorem aj2 {i:Nat}{E:Env}{A:Post->Prop}{B:Env->Prop}{Q:Post}(h:S.seq i E A B Q):S.seq i E A B Q:=h
theorem alu {b:Code}{E:Env}{Q:Post}(h:S.loop b Q E):S.loop b Q E:=h
theorem fWk {c:List PV}{K:List PV->Prop}(h:S.wk c K):S.wk c K:=h
theorem fEx {p:α->Prop}(h:∃ x,p x):∃ x,p x:=h
theorem alv (hS:S=gV.jd P T)(_:M=ku){cs:List PV}{e:α->List PV}{v:α}{K:List PV->Prop}{k:α->Option ρ}[EC M α e](U:lt v k=some r)(J:Iu cs (e v))(h:∀ x,k x=some r->K (e x)):S.wk cs K:=JA hS U J h
theorem aj3 (hS:S=gV.jd P T)(hM:M=ku){J:List (List PV)}{l:List α}{e:α->List PV}{i I : Int}{k:α->Option ρ}{K:List PV->Prop}[EC M α e](U:bnd (gu l I) k=some r)(C:J=M.m α e l)(hi:i=I)(h:∀ x,k x=some r->K (e x)):S.idx J i K:=agf hS hM U C hi h
theorem aj6 (hS:S=gV.jd P T)(hM:M=ku){I:List (List PV)}{l:List α}{e:α->List PV}{j J : Nat}{k:α->Option ρ}{K:List PV->Prop}[EC M α e](U:bnd (l[J]?) k=some r)(C:I=M.m α e l)(hj:j=J)(h:∀ x,k x=some r->K (e x)):S.row I j K:=jc hS hM U C hj h
theorem alx (hS:S=gV.jd P T){i:Nat}{cvs:List Cv}(_:acC i cvs){E:Env}{A:Post->Prop}{B:Env->Prop}{Q:Post}(h:A (Jr (λE=>B (KF S cvs E)) Q)):S.seq i E A B Q:=Zg hS cvs h
end
theorem dE {α:Sort _}{a b:α}(h:a=b:=by first|with_reducible rfl|(simp only[q]<;>fail)|(simp only[q];rfl)|rfl|(simp[zA,eI,eB,eL,eS,q]<;>fail)):a=b:=h
theorem dLE {a b:List PV}(h:Iu a b:=by first|exact le_eq dE|exact JB|exact gX):Iu a b:=h
theorem dCl {a b:Env}(h:a=b:=by(try (conv=>lhs;cbv))<;>rfl):a=b:=h
theorem dCf {α:Type}{f g:α->Env}(h:∀ s,f s=g s:=by intro s;(try (conv=>lhs;cbv))<;>rfl):∀ s,f s=g s:=h
theorem dW {p:Prop}(h:p:=by
 cbv
 repeat' (first
  | (refine fBr ?_;refine OU hS U dE ?_ ?_;all_goals (intro U;first|cbv|((conv=>whnf);cbv)|(conv=>whnf)))
  | (refine fCp ?_;refine Zf hS U (cI hM) dLE ?_;(intro _ U;cbv))
  | (refine fCp ?_;refine jl hS U (cZ hM) dLE ?_;(intro _ U;cbv))
  | (refine alq ?_;refine agf hS hM U dE dE ?_;(intro _ U;cbv))
  | (refine alq ?_;refine aj3 hS hM U dE dE ?_;(intro _ U;cbv))
  | (refine fEx ?_;refine d_xA dw U ?_;(try (conv=>lhs;cbv))<;>(first|exact dE|(subst hM;rfl)))
  | (refine hR _ ?_;have U:=Option.some.inj U;subst U;first|exact Wj dE|exact gX)
  | (refine hR _ _ _ ?_ ?_ rfl<;>(have U:=Option.some.inj U;subst U;first|exact Wj dE|exact gX))
  | (refine alr ?_;refine nG hS U dE ?_;(intro U;cbv))
  | (refine fRow ?_;refine jc hS hM U dE dE ?_;(intro _ U;cbv))
  | (refine fRow ?_;refine aj6 hS hM U dE dE ?_;(intro _ U;cbv))
  | (refine fOrd ?_;refine adF hS aA ?_;cbv)
  | (refine aj2 ?_;refine d_kA hS dw U dCl dCf ?_ ?_;all_goals (first|(intro I k hk U;cbv)|(intro s U;cbv)))
  | (refine aj2 ?_;refine alx hS dw ?_;cbv)
  | (refine aj2 ?_;refine mO hS ?_;cbv)
  | (refine alu ?_;refine d_lA hT hW hS rfl dw U dCl dCf dE ?_;(intro I k s hk U e J;subst J;cbv))
  | (refine fIx ?_;refine kM hS U dE dE ?_;(intro _ _ U;cbv))
  | (refine fIx ?_;obtain⟨j,hj,T,U⟩:=Ze U;refine agh hS dE ⟨j,hj,T,?_⟩;(first|(rcases lt2 hj with rfl|rfl)|(rcases lt3 hj with rfl|rfl|rfl)|(rcases lt5 hj with rfl|rfl|rfl|rfl|rfl)|(rcases lt6 hj with rfl|rfl|rfl|rfl|rfl|rfl)|(rcases lt11 hj with rfl|rfl|rfl|rfl|rfl|rfl|rfl|rfl|rfl|rfl|rfl));all_goals cbv)
  | (refine fWk ?_;refine alv hS hM U gX ?_;(intro _ U;cbv))
  | (refine fCq ?_;refine PR hS U (cI hM) dLE ?_;(intro _ U;cbv))
  | (refine fCf ?_;refine adN hS U (cI hM) dLE (λ_=>rfl) ?_;(intro _ U;cbv))
  | (refine fCa ?_;refine AV hS U (cI hM) dLE (λ_=>rfl) ?_;(intro _ U;cbv))
  | (refine fCa ?_;refine air hS U (cI hM) dLE ?_;(intro _ U;cbv))
  | (refine fCa ?_;refine iR hS U (cZ hM) dLE gX rfl rfl rfl rfl ?_;(intro _ U;cbv))
  | (refine fCw ?_;refine QL hS U (cZ hM) dLE gX rfl rfl ?_;(intro _ U;cbv))
  | (refine fCat ?_;refine Yb hS U dE dE ?_;(intro _ U;cbv))
  | (refine fSix ?_;refine adO hS U dE dE ?_;(intro _ U;cbv))
  | (refine fDiv ?_;refine Wn hS U dE dE ?_;(intro _ U;cbv))
  | (refine fShf ?_;refine Ya hS U dE dE ?_;(intro _ U;cbv))
  | (refine fMks ?_;refine MB hS U dE dE ?_;(intro _ U;cbv))
  | (refine fSlc ?_;refine aa9 hS U dE dE dE ?_;(intro _ _ U;cbv))
  | (refine fSsl ?_;refine ali hS U dE dE dE ?_;(intro _ U;cbv))
  | (refine fNil ?_;refine alj hS hM U dE (by intro h;subst h;exact λh=>h) ?_ ?_;all_goals (intro U;cbv))
  | (refine fSame ?_;refine yD hS rfl ?_;cbv)
  | (refine fNu ?_;refine aio hS ?_;intro _;cbv)
  | (refine fOrf ?_;refine af7 hS aA ?_;cbv)
  | (refine als ?_;refine V7 hS aA ?_;cbv)
  | (split at U<;>cbv)
  | (cases U<;>fail))):p:=h
theorem wA {P:Program}{T:Tab}{M:fP}[m:HM M]{k:Nat}{fn:Func}{c:Code}{α:Type}{g:Option α}{args:List PV}{v:α->PV}{n:Nat}(hT:iK P T)(U:P.funcs[k]?=some fn)
  (hcall:∀ args w,(callFunc k args).run P w=.ok (.enter k args) w) (hW:CY P:=by exact wf) (C:T.oZ=0:=by rfl) (J:fn.body=some c:=by rfl) (I:fn.ntmps-args.length=n:=by rfl) (hyl:T.yl=none:=by rfl)
  (h:∀ r,g=some r->∀ S R,S=gV.jd P T->(∀ u,LeP u (v r)->R u)->iK P T->CY P->M=ku->SF M S->JU T S c (ahT T S fn.results.toList R) ⟨vw args (rQ n),[],0⟩:=by intro r U S R hS hR hT hW hM q;exact dW):CW P T.gl M k g args v :=
 ⟨λ_ hy=>agd hT C hW U J hcall I (hyl:=hyl) λS R hS hR=>h _ hy S R hS hR hT hW m.h (sf m.h hS)⟩
theorem wZ {P:Program}{T:Tab}{M:fP}[m:HM M]{k:Nat}{fn:Func}{c:Code}{α:Type}{g:Option α}{args:List PV}{st0:St}{v:α->PV}{st1:α->St}{n1 n:Nat}(hT:iK P T)(U:P.funcs[k]?=some fn)
  (hcall:∀ args w,(callFunc k args).run P w=.ok (.enter k args) w) (hW:CY P:=by exact wf) (J:fn.body=some c:=by rfl) (I:fn.ntmps-args.length=n:=by rfl) (hyl:T.yl=none:=by rfl)
  (h:∀ r,g=some r->∀ S R,S=gV.jd P T->(∀ u s n,LeP u (v r)->LeS s (st1 r)->n=n1->R u s n)->iK P T->CY P->M=ku->SF M S->JU T S c (aft T S fn.results.toList R) ⟨vw args (rQ n),st0,T.oZ⟩:=by intro r U S R hS hR hT hW hM q;exact dW):CS P T.gl M k g args st0 T.oZ v st1 n1 :=
 ⟨λ_ hy=>yX hT hW U J hcall I (hyl:=hyl) λS R hS hR=>h _ hy S R hS hR hT hW m.h (sf m.h hS)⟩
theorem wC {P:Program}{T:Tab}{M:fP}[m:HM M]{k:Nat}{fn:Func}{c:Code}{α:Type}{g:Option α}{args:List PV}{st0:St}{v:α->PV}{st1:α->St}{n1 n:Nat}(hT:iK P T)(U:P.funcs[k]?=some fn)
  (hcall:∀ args w,(callFunc k args).run P w=.ok (.enter k args) w) (cvs:List Cv) (hW:CY P:=by exact wf) (J:fn.body=some c:=by rfl) (I:fn.ntmps-args.length=n:=by rfl) (hyl:T.yl=none:=by rfl)
  (h:∀ r,g=some r->∀ S R,S=gV.jd P T->(∀ u s n,LeP u (v r)->LeS s (st1 r)->n=n1->R u s n)->iK P T->CY P->M=ku->SF M S->JU T S c (SN T S cvs fn.results.toList R) ⟨vw args (rQ n),st0,T.oZ⟩:=by intro r U S R hS hR hT hW hM q;exact dW):CS P T.gl M k g args st0 T.oZ v st1 n1 :=
 ⟨λ_ hy=>xw hT hW U J hcall I cvs (hyl:=hyl) λS R hS hR=>h _ hy S R hS hR hT hW m.h (sf m.h hS)⟩
end Go.Pv
namespace Go.Pv
open Go
def Sim (v' v:PV):Prop:=∀ w Y σ u,Rep w Y σ v' u->Rep w Y σ v u
theorem Sim.refl (v:PV):Sim v v:=λ_ _ _ _ h=>h
theorem Sim.si (k:IntKind)(n:Int):Sim (.si k n) (.int k n):=λw Y σ u h=>by unfold Rep at h |-;exact h
theorem Sim.sb (b:Bool):Sim (.sb b) (.bool b):=λw Y σ u h=>by unfold Rep at h |-;exact h
def KS (v:PV)(δ:Dl):PV->Dl->Prop:=λv' δ'=>Sim v' v/\δ'=δ
theorem KS.refl (v:PV)(δ:Dl):KS v δ v δ:=⟨Sim.refl v,rfl⟩
end Go.Pv
namespace Go.Pv
open Go
abbrev Tab.at (T:Tab) (n:Nat):Tab:={ T with oZ:=n }
def NN (t:Sb):Prop:=∀ b sz rows,afv t b≠some (.lq sz rows)
end Go.Pv
namespace Go.Pv
open Go
def GT (t:Sb)(n:Nat):Prop:=NN t/\∀ b,n<=b->afv t b=none
def FnV (P:Program)(T:Tab)(k:Nat)(args:List PV)(t:Sb)(n:Nat)(v:PV)(t' : Sb)(n' : Nat):Prop := GT t n->GT t' n'/\∀ (w:World) (Y:Nat->Prop) (σ:Sg) (cargs:List Value) (st:St),(∀ b,iH st b=afv t b)->RX T.gl w Y->(∀ b,Y b->b<w.heap.size)->(∀ b,n<=b->σ b=none)->eU w Y σ args cargs->ET w Y σ st -> (callFunc k cargs.toArray).run P w=.ok (.enter k cargs.toArray) w /\ Calls P k cargs.toArray w λe w'=>∃ cv Y' σ' st',e=.returned cv/\(∀ b,iH st' b=afv t' b)/\SW (yg (T.at n) w Y σ st) w' Y' σ' [v] [cv] st' n'
def aj7 (P:Program)(T:Tab)(call:ai4):Prop:=∀ k args t n v t' n',call k args t n=some (v,t',n')->FnV P T k args t n v t' n'
structure EvOK {T:Tab}(C:Ctx T)(V:EV)(D:List Nat)(a:Act)(w:World):Prop where
 nn:GT V.st V.nx
 dfr:a.defers=marks D
 env:∃ ps st Y σ,(∀ i,getP V.tm i=iV ps i)/\V.n=ps.length/\(∀ b,iH st b=afv V.st b)/\SW C w Y σ ps a.tmps.toList st V.nx/\MQ C.w0.heap.size D w Y
end Go.Pv
namespace Go.Pv
open Go
section
variable {P:Program}{T:Tab}
theorem SW.aba {C:Ctx T}{w:World}{Y:Nat->Prop}{σ:Sg}{ps:List PV}{vs:List Value}{st:St}{n:Nat}(H:SW C w Y σ ps vs st n)(t:NNs st)(o:Obj):SW C (w.alloc o) (λk=>Y k\/k=w.heap.size) σ ps vs st n:=by
 have hold:∀ k,k<w.heap.size->(w.alloc o).heap[k]?=w.heap[k]?:=by
  intro k hk;show(w.heap.push o)[k]?=_;rw[Array.getElem?_push,if_neg ae]
 have hsz:(w.alloc o).heap.size=w.heap.size+1:=by show(w.heap.push o).size=_;simp
 have K:Keep w (w.alloc o) Y (λk=>Y k\/k=w.heap.size) σ σ:=⟨λk hk _=>hold k hk,λk hk h=>h.resolve_right ae,by omega,mZ.refl _⟩;refine⟨eU.keep _ K _ H.vals,⟨λb x hx=>?_,H.store.inj⟩,H.next,λk hk=>?_,λk hk=>.inl (H.y0 k hk),H.c0,λk hk J=>?_,?_,H.own,H.wQ.keep K.none,H.fix,Am.none t⟩
 rcases H.store.blk b x hx with ⟨l,I,hB⟩|h
 have:=hB.lt;exact .inl ⟨l,I,fF.keep K (hold _ this) ⟨λh=>h.resolve_right ae,.inl⟩ hB⟩
 exact .inr h
 rcases hk with h|h
 have:=H.vJ k h;omega
 omega
 rcases hk with h|h
 exact H.wP k h J
 have:=H.pJ.size;omega
 exact⟨H.pJ.os,H.pJ.tape,H.pJ.output,by have:=H.pJ.size;omega,λk hk hM=>by rw[hold k (Nat.lt_of_lt_of_le hk H.pJ.size)];exact H.pJ.block k hk hM⟩
theorem SW.agl {C:Ctx T}{w:World}{Y:Nat->Prop}{σ:Sg}{ps:List PV}{vs:List Value}{st:St}{n:Nat}(H:SW C w Y σ ps vs st n)(g:NNs st){l:Nat}{o:Obj}(o' : Obj)(hy:Y l)(hB:C.w0.heap.size<=l)(ho:w.heap[l]?=some o)(hc:Y8 o):SW C (w.putObj l o') Y σ ps vs st n:=by
 have J:∀ k,k≠l->(w.putObj l o').heap[k]?=w.heap[k]?:=λk hk=>World.putObj_heap_other hk;have hsz:(w.putObj l o').heap.size=w.heap.size:=by simp
 have K:Keep w (w.putObj l o') Y Y σ σ:=⟨λk _ hk=>J k λe=>hk (e ▸ hy),λ_ _ h=>h,by omega,mZ.refl _⟩;refine⟨eU.keep _ K _ H.vals,⟨λb x hx=>?_,H.store.inj⟩,H.next,λk hk=>by rw[hsz];exact H.vJ k hk,H.y0,H.c0,H.wP,?_,H.own,H.wQ.keep K.none,H.fix,Am.none g⟩
 rcases H.store.blk b x hx with ⟨l2,t,I⟩|h
 refine .inl ⟨l2,t,fF.keep K (J _ λe=>?_) Iff.rfl I⟩;rcases Ez.cells H.store (k:=l2.cb) ⟨b,x,l2,hx,t,rfl⟩ with ⟨arr,ty,h1⟩|⟨es,ck,h1⟩
 rw[e,ho] at h1;cases h1;exact hc.1 arr ty rfl
 rw[e,ho] at h1;cases h1;exact hc.2 es ck rfl
 exact .inr h
 exact⟨H.pJ.os,H.pJ.tape,H.pJ.output,by rw[hsz];exact H.pJ.size,λk hk hM=>by rw[J k ae];exact H.pJ.block k hk hM⟩
end
end Go.Pv
namespace Go.Pv
open Go
section
variable {P:Program}{T:Tab}
variable (hT:iK P T)(hW:CY P)(hnar:T.lq=0)(hgl:∀ g,T.gl g=none){call:ai4}(hcall:aj7 P T call)
theorem QN {fn:Func}{R:Ending->World->Prop}{C:Ctx T}{Y:Nat->Prop}{σ:Sg}{ps:List PV}{tmps:Array Value}{st:St}{n:Nat}(hn:NNs st):∀ (D:List Nat) (w:World),SW C w Y σ ps tmps.toList st n->MQ C.w0.heap.size D w Y ->
  (∀ w',SW C w' Y σ ps tmps.toList st n->∃ v,(results fn tmps).run P w'=.ok v w'/\R (.returned v) w')->LeavesInM Fence.wide 1 P fn tmps R (marks D) .returning w
 | [],w,H,_,hR=>by
  obtain⟨v,h1,h2⟩:=hR w H;exact⟨v,h1,h2⟩
 | r::D,w,H,hD,hR=>by
  obtain⟨I,J⟩:=hD;obtain⟨h0,h1,h2⟩:=J r aF;have t:=(List.nodup_cons.1 I).1;have H':=H.agl hn (.deferred none) h1 h0 h2 ⟨λ_ _ e=>bM,λ_ _ e=>bM⟩;refine⟨by simp,.inl ⟨r,w.putObj r (.deferred none),rfl,run_takeDeferred h2,?_⟩⟩
  exact QN hn D _ H' ⟨(List.nodup_cons.1 I).2,λq hq=>by
   obtain⟨g0,g1,g2⟩:=J q (by simp[hq]);refine⟨g0,g1,?_⟩;have g:q≠r:=by rintro rfl;exact t hq
   rw[World.putObj_heap_other g];exact g2⟩ hR
end
end Go.Pv
namespace Go.Pv
open Go
section
variable {P:Program}{T:Tab}
def Ctx.dfr (C:Ctx T)(d:List Deferred):Ctx T:={ C with df:=d }
theorem SW.df {C:Ctx T}{w:World}{Y:Nat->Prop}{σ:Sg}{ps:List PV}{vs:List Value}{st:St}{n:Nat}(H:SW C w Y σ ps vs st n)(d:List Deferred):SW (C.dfr d) w Y σ ps vs st n :=
 ⟨H.vals,H.store,H.next,H.vJ,H.y0,H.c0,H.wP,H.pJ,H.own,H.wQ,H.fix,H.nest⟩
theorem SW.undf {C:Ctx T}{w:World}{Y:Nat->Prop}{σ:Sg}{ps:List PV}{vs:List Value}{st:St}{n:Nat}{d:List Deferred}(H:SW (C.dfr d) w Y σ ps vs st n):SW C w Y σ ps vs st n :=
 ⟨H.vals,H.store,H.next,H.vJ,H.y0,H.c0,H.wP,H.pJ,H.own,H.wQ,H.fix,H.nest⟩
def liftM (C:Ctx T)(Q:Post):Exit->Act->World->Prop
 | .normal,a,w=>∃ E D,YJ C D E a w/\Q 0 E
 | .ret,a,w=>∃ E D,YJ C D E a w/\Q 1 E
 | .exit n,a,w=>∃ E D,YJ C D E a w/\Q (n+2) E
 | _,_,_=>False
def Zl (P:Program)(T:Tab)(c:Code)(Q:Post)(E:Env):Prop:=∀ (C:Ctx T) D a w,YJ C D E a w->c.wp P (liftM C Q) a w
theorem UZ.m (hyl:T.yl=none){c:Code}{Q:Post}{E:Env}(g:kS E.st=true)(h:UZ P T c Q E):Zl P T c Q E:=by
 rintro C D a w ⟨Y,σ,H,hd,hD⟩
 have hN:=pG _ g;refine wp_mono (h ((yg T w Y σ E.st).dfr (marks D)) a w ⟨⟨Y,σ,(H.QC hN).df _⟩,hd,YOK.none hyl⟩) ?_
 have key:∀ n J w',(∃ t,kL ((yg T w Y σ E.st).dfr (marks D)) t J w'/\Q n t)->∃ E D,YJ C D E J w'/\Q n E:=by
  rintro n J w' ⟨t,⟨⟨Y',σ',H'⟩,hd',_⟩,I⟩
  have H2:=H'.undf;exact⟨t,D,⟨Y',σ',H.J5 H2,hd',hD.step H.store H2⟩,I⟩
 intro e J w' I
 cases e with
 | normal=>exact key 0 J w' I
 | ret=>exact key 1 J w' I
 | exit n=>exact key _ J w' I
 | _=>exact I.elim
def J7:Code->Bool
 | .rangeFunc _ _ _ _=>false
 | .seq x y=>J7 x&&J7 y
 | .cond _ x y=>J7 x&&J7 y
 | .block _ b=>J7 b
 | .loop b=>J7 b
 | .scope b=>J7 b
 | _=>true
def agm (T:Tab)(S:gV)(c:Code)(Q:Post)(E:Env):Prop :=
 match kS E.st with
 | true=>JU T S c Q E
 | false=>False
def mwp (T:Tab)(S:gV):Code->Post->Env->Prop
 | .seq x y,Q,E=>bif J7 x&&J7 y then agm T S (.seq x y) Q E else mwp T S x (Jr (mwp T S y Q) Q) E
 | .block id b,Q,E=>bif J7 b then agm T S (.block id b) Q E else mwp T S b (ak2 id Q) E
 | .rangeFunc g ps x y,Q,E=>S.rng g ps x y (Q 0) E
 | c,Q,E=>agm T S c Q E
theorem PT (hT:iK P T)(hW:CY P)(hyl:T.yl=none){c:Code}{Q:Post}{E:Env}(h:agm T (gV.jd P T) c Q E):Zl P T c Q E:=by
 unfold agm at h
 cases J:kS E.st with
 | false=>grind
 | true=>rw[J] at h;exact(zQ hT hW c Q E h).m hyl J
theorem liftM_seq {C:Ctx T}{b:Code}{Q:Post}{nx:Env->Prop}(I:∀ E D a w,YJ C D E a w->nx E->b.wp P (liftM C Q) a w):∀ e a w,liftM C (Jr nx Q) e a w->Exit.then (b.wp P (liftM C Q)) (liftM C Q) e a w:=by
 intro e a w h
 cases e with
 | normal=>obtain⟨E,D,hA,J⟩:=h;exact I E D a w hA J
 | ret=>obtain⟨E,D,hA,J⟩:=h;exact⟨E,D,hA,J⟩
 | exit n=>obtain⟨E,D,hA,J⟩:=h;exact⟨E,D,hA,J⟩
 | _=>exact h.elim
theorem aeJ (hT:iK P T)(hW:CY P)(hyl:T.yl=none):∀ (c:Code) (Q:Post) (E:Env),mwp T (gV.jd P T) c Q E->Zl P T c Q E:=by
 intro c
 induction c with
 | seq x y ihx ihy=>
  intro Q E h;simp only[mwp] at h
  cases hs:J7 x&&J7 y with
  | true=>grind[PT]
  | false=>
   rw[hs] at h;intro C D a w hA;exact wp_seq (wp_mono (ihx _ E h C D a w hA) (liftM_seq λt D' a' w' I J=>ihy Q t J C D' a' w' I))
 | block id b ih=>
  intro Q E h;simp only[mwp] at h
  cases hs:J7 b with
  | true=>grind[PT]
  | false=>
   rw[hs] at h;intro C D a w hA;refine wp_block (wp_mono (ih _ E h C D a w hA) λe a' w' J=>?_)
   cases e with
   | normal=>exact J
   | ret=>exact J
   | exit n=>
    obtain⟨t,D',I,J⟩:=J;simp only[Exit.inBlock];have J:(bif Nat.beq n id then Q 0 t else Q (n+2) t):=J
    by_cases hn:n=id
    rw[if_pos hn];subst hn;simp only[Nat.beq_refl,cond_true] at J;exact⟨t,D',I,J⟩
    rw[if_neg hn];rw[VF hn] at J;exact⟨t,D',I,J⟩
   | _=>exact J.elim
 | rangeFunc g ps x y ihx ihy=>
  intro Q E h C D a w hA;refine wp_mono (h C D a w hA) ?_
  rintro e a' w' ⟨rfl,t,D',I,J⟩
  exact⟨t,D',I,J⟩
 | _=>intro Q E h;exact PT hT hW hyl h
theorem SW.aj8 {T' : Tab}(hgl:T'.gl=T.gl)(hp:T'.oZ=T.oZ){w wb J:World}{Y Y3:Nat->Prop}{σ σ3:Sg}{st st3:St}{ps:List PV}{vs:List Value}{n3 l:Nat}{rc r1:Loop}(C:wb=w.putObj l (.loop r1))(hl:w.heap[l]?=some (.loop rc))(hy:Y l)
  (hst:ET w Y σ st) (I:SW (yg T wb Y σ st) J Y3 σ3 ps vs st3 n3) (hNN:NNs st3):J.heap[l]?=some (.loop r1)/\SW (yg T' w Y σ st) (J.putObj l (.loop rc)) Y3 σ3 ps vs st3 n3:=by
 have hlt:l<w.heap.size:=(Array.getElem?_eq_some_iff.1 hl).1;have hsz:wb.heap.size=w.heap.size:=by rw[C];simp
 have hni:¬ Ez σ st l:=λh=>by
  rcases h.cells hst with ⟨arr,ty,h1⟩|⟨es,ck,h1⟩<;>grind
 have hb:wb.heap[l]?=some (.loop r1):=by grind[World.putObj_heap_same]
 have hbo:∀ k,k≠l->wb.heap[k]?=w.heap[k]?:=λk hk=>by grind[World.putObj_heap_other]
 have h3:J.heap[l]?=some (.loop r1):=by
  have:=I.pJ.block l (show l<wb.heap.size by grind) (λh=>hni h.2);rw[this];exact hb
 have hy3:Y3 l:=I.y0 l ⟨hy,hni⟩;have t:∀ k,k≠l->(J.putObj l (.loop rc)).heap[k]?=J.heap[k]?:=λk hk=>World.putObj_heap_other hk;have hsz3:(J.putObj l (.loop rc)).heap.size=J.heap.size:=by simp
 have hle:w.heap.size<=J.heap.size:=by have:=I.pJ.size;have this:wb.heap.size<=J.heap.size:=this;omega
 have K:Keep J (J.putObj l (.loop rc)) Y3 Y3 σ3 σ3:=⟨λk _ hk=>t k λe=>hk (e ▸ hy3),λ_ _ h=>h,by omega,mZ.refl _⟩;refine⟨h3,eU.keep _ K _ I.vals,⟨λb x hx=>?_,I.store.inj⟩,I.next,λk hk=>by rw[hsz3];exact I.vJ k hk,I.y0,λk hk=>?_,λk hk g=>?_,?_,λb x l' h1 h2=>?_,?_,⟨by rw[hp];exact I.fix.1,λb hb=>I.fix.2 b ak⟩,Am.none hNN⟩
 rcases I.store.blk b x hx with ⟨l2,hl2,hBl⟩|h
 refine .inl ⟨l2,hl2,fF.keep K (t _ λe=>?_) Iff.rfl hBl⟩;rcases Ez.cells I.store (k:=l2.cb) ⟨b,x,l2,hx,hl2,rfl⟩ with ⟨arr,ty,h1⟩|⟨es,ck,h1⟩<;>grind
 exact .inr h
 have:=I.c0 k hk;exact⟨by have h:=this.1;have h:k<wb.heap.size:=h;show k<w.heap.size;omega,this.2⟩
 have g : k<w.heap.size:=g;exact I.wP k hk (show k<wb.heap.size by omega)
 refine⟨?_,?_,?_,by rw[hsz3];exact hle,λk hk hM=>?_⟩
 show J.os=w.os;have h:=I.pJ.os;have h:J.os=wb.os:=h;rw[h,C];rfl
 show J.tape=w.tape;have h:=I.pJ.tape;have h:J.tape=wb.tape:=h;rw[h,C];rfl
 show J.output=w.output;have h:=I.pJ.output;have h:J.output=wb.output:=h;rw[h,C];rfl
 have hk:k<w.heap.size:=hk;show(J.putObj l (.loop rc)).heap[k]?=w.heap[k]?
 by_cases e:k=l
 grind[World.putObj_heap_same]
 have h:=I.pJ.block k (show k<wb.heap.size by omega) hM;have h:J.heap[k]?=wb.heap[k]?:=h
 grind
 rcases I.own b x l' h1 h2 with h|h
 have h:wb.heap.size<=l'.cb:=h;exact .inl (show w.heap.size<=l'.cb by omega)
 exact .inr h
 rw[hgl];exact I.wQ.keep K.none
def nnK (st:St)(p:Prop):Prop:=match kS st with|true=>p|false=>False
theorem acD {st:St}{p:Prop}(h:nnK st p):kS st=true/\p:=by
 unfold nnK at h
 grind
def Uy:Nat->List PV
 | 0=>[]
 | n+1=>.top::Uy n
theorem Yg {w:World}{Y:Nat->Prop}{σ:Sg}:∀ (vs:List Value),eU w Y σ (Uy vs.length) vs
 | []=>by simp[Uy,eU]
 | v::vs=>by
  simp only[List.length_cons,Uy];unfold eU;exact⟨v,vs,rfl,by simp[Rep],Yg vs⟩
def aly (T:Tab)(S:gV)(cvs:List Cv)(R:PV->St->Nat->Prop)(E:Env):Prop := nnK E.st (match KF S cvs E with|E=>match aaA (Uh T.oZ E.st []) [] E.st with|E=>R (.bool true) E.st E.next)
theorem SW.flip {C:Ctx T}{w:World}{Y:Nat->Prop}{σ:Sg}{ps:List PV}{vs:List Value}{st:St}{n l:Nat}{rc r1:Loop}(H:SW C w Y σ ps vs st n)(g:NNs st)(hy:Y l)(hl:w.heap[l]?=some (.loop rc)) :
  SW (yg T (w.putObj l (.loop r1)) Y σ st) (w.putObj l (.loop r1)) Y σ ps vs st n:=by
 have J:∀ k,k≠l->(w.putObj l (.loop r1)).heap[k]?=w.heap[k]?:=λk hk=>World.putObj_heap_other hk;have hsz:(w.putObj l (.loop r1)).heap.size=w.heap.size:=by simp
 have K:Keep w (w.putObj l (.loop r1)) Y Y σ σ:=⟨λk _ hk=>J k λe=>hk (e ▸ hy),λ_ _ h=>h,by omega,mZ.refl _⟩;refine⟨eU.keep _ K _ H.vals,⟨λb x hx=>?_,H.store.inj⟩,H.next,λk hk=>by rw[hsz];exact H.vJ k hk,λ_ h=>h.1,λk h=>⟨by show k<(w.putObj l (.loop r1)).heap.size;rw[hsz];exact H.vJ k h.1,h.2⟩,λk h _=>?_,ML.refl _ _,λb x l' h1 h2=>.inr ⟨b,x,l',h1,h2,rfl⟩,H.wQ.keep K.none,⟨H.fix.1,λ_ _=>rfl⟩,Am.none g⟩
 rcases H.store.blk b x hx with ⟨l2,I,t⟩|h
 refine .inl ⟨l2,I,fF.keep K (J _ λe=>?_) Iff.rfl t⟩;rcases Ez.cells H.store (k:=l2.cb) ⟨b,x,l2,hx,I,rfl⟩ with ⟨arr,ty,h1⟩|⟨es,ck,h1⟩<;>grind
 exact .inr h
 by_cases hi:Ez σ st k
 exact .inr ⟨h,hi⟩
 exact .inl ⟨h,hi⟩
theorem alz (hT:iK P T)(hW:CY P)(hyl:T.yl=none){l:Nat}{rc:Loop}{pv:Value}{x:PV}{st:St}{ia ib rb t0 pt N:Nat}{oa ob:Array Oper}{R:PV->St->Nat->Prop}(cvs:List Cv)
  (has:rc.assign=.region ia oa false) (hbo:rc.body=.block ib (.region rb ob false)) (hst:rc.state=.ready) (hpe:rc.pending=none) (hps:rc.params=#[pt]) (hpv:rc.tmps.toList[t0]?=some pv) (hne:pt≠t0) (hN:rc.tmps.size=N)
  (h:∀ S,S=gV.jd P T->opsE T S oa oa.toList ⟨nC (nC (Uy N) t0 (.lv 0 0)) pt x,st,T.oZ⟩ λE1=>nnK E1.st (opsE T S ob ob.toList E1 λE2=>aly T S cvs R E2)):YS P T.gl l rc pv [x] st T.oZ R:=by
 intro w Y σ cargs hG hY hn hr g hnn hYl hl hpv';obtain⟨c,rfl,hc⟩:=II hr;refine⟨by rw[hps];rfl,?_⟩;have hN0:=pG _ hnn
 let C:Ctx T:=yg T w Y σ st
 let tm:=rc.tmps.setIfInBounds pt c
 have htm:(rc.params.zip [c].toArray).foldl (λtmps (t,a)=>tmps.setIfInBounds t a) rc.tmps=tm:=by
  have hz:rc.params.zip [c].toArray=#[(pt,c)]:=by grind
  grind
 rw[htm];have hlen:rc.tmps.toList.length=N:=by simpa using hN
 have hvals:eU w Y σ (nC (nC (Uy N) t0 (.lv 0 0)) pt x) tm.toList:=by
  grind[eU.set,Yg,List.set_getElem_self]
 have H0:SW C w Y σ (nC (nC (Uy N) t0 (.lv 0 0)) pt x) tm.toList st T.oZ:=by
  refine⟨hvals,g,hn,hY,λ_ h=>h.1,λk h=>⟨hY k h.1,h.2⟩,λk h _=>?_,ML.refl _ w,λb x l h1 h2=>.inr ⟨b,x,l,h1,h2,rfl⟩,hG,⟨Nat.le_refl _,λ_ _=>rfl⟩,Am.none hN0⟩
  by_cases hi:Ez σ st k
  exact .inr ⟨h,hi⟩
  exact .inl ⟨h,hi⟩
 refine roundIn_of_wpIn (F:=Fence.wide) (n:=0) trivial ?_;rw[has,hbo];refine wpIn_region_list (F:=fW (some l)) (n:=0) (AP hT hW (some l) oa.toList _ _ (h _ rfl) _ w (C:=C) ⟨⟨Y,σ,H0⟩,rfl,YOK.none hyl⟩ ?_)
 rintro E1 a1 w1 ⟨⟨Y1,σ1,H1⟩,hd1,_⟩ hK1
 obtain⟨hn1,hK1⟩:=acD hK1;have hN1:=pG _ hn1;obtain⟨hl1,I⟩:=H1.kept g hl ⟨λ_ _ e=>bM,λ_ _ e=>bM⟩;have I:=I hYl;refine⟨_,run_beginRound hl1 hst,?_⟩;have H2:=H1.flip (r1:={ rc with state:=.busy }) hN1 I hl1;refine wpIn_block (F:=fW (some l)) (n:=0) (wpIn_region_list (F:=fW (some l)) (n:=0) (AP hT hW (some l) ob.toList _ _ hK1 _ _ (C:=yg T (w1.putObj l (.loop { rc with state:=.busy })) Y1 σ1 E1.st) ⟨⟨Y1,σ1,H2⟩,hd1,YOK.none hyl⟩ ?_))
 rintro E2 a2 w3 ⟨⟨Y3,σ3,H3⟩,hd2,_⟩ hK2
 obtain⟨hn2,hK2⟩:=acD hK2;have hN2:=pG _ hn2;obtain⟨hl3,H4⟩:=SW.aj8 (T':=T) rfl rfl rfl hl1 I H1.store H3 hN2
 have hrc:({ { rc with state:=LoopState.busy } with state:=if (none:Option Code).isNone then LoopState.ready else LoopState.done,pending:=none }:Loop)=rc:=by
  cases rc;grind
 have hend:=run_endRound (P:=P) none hl3;rw[hrc] at hend;refine⟨_,_,hend,?_⟩;have H5:=H1.J5 H4;obtain⟨⟨Y6,σ6,H6⟩,_⟩:=AQ (P:=P) (T':=T) cvs E2 C { a2 with defers:=[] } _ ⟨⟨Y3,σ3,H5⟩,rfl,YOK.none hyl⟩;generalize KF (gV.jd P T) cvs E2=E3 at *;have H7:SW C _ Y6 σ6 [.bool true] [.bool true] E3.st E3.next:=H6.qU (by unfold eU;exact⟨_,_,rfl,by simp[Rep],by unfold eU;rfl⟩)
 obtain⟨h1,h2,h3⟩:=MW T.oZ E3.st [];obtain⟨σ7,J,_⟩:=H7.aaA h1 h2 h3;exact⟨.bool true,.bool true,_,_,Y6,σ7,rfl,hK2,⟨J.vals,J.store,J.next,J.vJ,J.y0,J.c0,J.wP,J.pJ,J.own,J.wQ,J.fix,J.nest⟩⟩
def Tab.y (T:Tab)(l:Nat)(rc:Loop)(pv:Value):Tab:=⟨T.ti,T.gl,T.oZ,T.cut,T.lq,T.own,T.dcl,some (l,rc,pv),T.hid⟩
theorem iK.y {l:Nat}{rc:Loop}{J:Value}(h:iK P T):iK P (T.y l rc J):=h
theorem Zm (hT:iK P T)(hW:CY P)(hp:0<T.oZ){k:Nat}{fn:Func}{c:Code}(U:P.funcs[k]?=some fn)(hb:fn.body=some c)
  (hcall:∀ args w,(callFunc k args).run P w=.ok (.enter k args) w) {args:List PV} {st:St} {Yc:Nat->Loop->Value->Prop} {R:PV->St->Nat->Prop} {m:Nat} (hm:fn.ntmps-(args.length+1)=m)
  (cvs:List Cv) (h:∀ l rc J,Yc l rc J->∀ S,S=gV.jd P (T.y l rc J)->JU (T.y l rc J) S c (SN (T.y l rc J) S cvs fn.results.toList R) ⟨vw (.yl l::args) (rQ m),st,T.oZ⟩):FnY P T.gl k args st T.oZ Yc R:=by
 intro l rc J hyc w Y σ cargs hG hY hn I t hnn hyl hl C;refine Nl (T:=T.y l rc J) hT hW U hb hcall (args:=.yl l::args) hm cvs (h l rc J hyc) hG hY hn I t hnn ?_;intro l' rc' pv' e;cases (Option.some.inj e:(l,rc,J)=(l',rc',pv'))
 have g:¬ Ez σ st l:=λh=>by
  rcases h.cells t with ⟨arr,ty,h1⟩|⟨es,ck,h1⟩<;>grind
 unfold Rep at C;obtain⟨l0,h1,h2⟩:=C;exact⟨⟨hyl,g⟩,λh=>g h.2,hl,hp,l0,h1,h2⟩
theorem agn (hT:iK P T)(hW:CY P)(hp:0<T.oZ){k:Nat}{fn:Func}{c:Code}(U:P.funcs[k]?=some fn)(hb:fn.body=some c)
  (hcall:∀ args w,(callFunc k args).run P w=.ok (.enter k args) w) {args:List PV} {st:St} {Yc:Nat->Loop->Value->Prop} {v:PV} {st1:St} {n1:Nat} {m:Nat} (hm:fn.ntmps-(args.length+1)=m)
  (cvs:List Cv) (h:∀ l rc J,Yc l rc J->∀ S R,S=gV.jd P (T.y l rc J)->(∀ u s n,LeP u v->LeS s st1->n=n1->R u s n)->JU (T.y l rc J) S c (SN (T.y l rc J) S cvs fn.results.toList R) ⟨vw (.yl l::args) (rQ m),st,T.oZ⟩) :
  FnY P T.gl k args st T.oZ Yc (λu s n=>u=v/\s=st1/\n=n1):=by
 have H:=Zm hT hW hp U hb hcall hm (st:=st) (cvs:=cvs) (Yc:=Yc) (R:=λu s n=>LeP u v/\LeS s st1/\n=n1) λl rc J I S hS=>h l rc J I S _ hS λ_ _ _ h1 h2 h3=>⟨h1,h2,h3⟩
 intro l rc J I w Y σ C hG hY hn hr g hnn hyl hl t;obtain⟨h1,h2⟩:=H l rc J I w Y σ C hG hY hn hr g hnn hyl hl t;refine⟨h1,Calls.mono h2 λe w' hh=>?_⟩;obtain⟨cv,u,s,n,Y',σ',he,⟨h3,h4,h5⟩,H⟩:=hh;refine⟨cv,v,st1,n,Y',σ',he,⟨rfl,rfl,h5⟩,?_⟩
 have hv:eU w' Y' σ' [v] [cv]:=by
  have:=H.vals;unfold eU at this |-;obtain⟨c,cs,e,h6,h7⟩:=this;cases e;exact⟨_,_,rfl,h3.rep _ h6,by grind⟩
 exact(H.qU hv).QH (h4.QH w' Y' σ')
theorem aj9 {g:Operand}{ps:Array Tmp}{x y:Code}{K:Env->Prop}{E:Env}{k t0 b0:Nat}{I:List PV}{ρ:List Nat}{v:PV}{st1:St}{n1:Nat}{Yc:Nat->Loop->Value->Prop}
  (hg:rM T E.tmps g=.fn k I) (ht:iV E.tmps t0=.lv b0 0) (hnn:kS E.st=true) (hnd:MO ρ=true) (hlt:ltN E.next ρ=true) (hnr:kS (yC (ixN ρ) E.st 0 ρ)=true) (h0:ρ[0]?=some b0)
  (hF:FnY P T.gl k (Ak (vI (ixN ρ) 8) I) (yC (ixN ρ) E.st 0 ρ) (kU ρ) Yc (λu st n=>u=v/\st=st1/\n=n1))
  (hY:∀ l rc pv,rc.assign=x->rc.body=y->rc.state=.ready->rc.pending=none->rc.params=ps->rc.tmps.toList[t0]?=some pv->rc.tmps.size=E.tmps.length->Yc l rc pv)
  (hK:K (EZ ρ E st1 n1)) (hn1:kS (EZ ρ E st1 n1).st=true):aes P T g ps x y K E:=by
 rintro C D a w ⟨Y,σ,H,hdf,hD⟩
 have hN:=pG _ hnn;have hN3:=pG _ hn1;have hgv:=kJ H g;rw[hg] at hgv;unfold Rep at hgv;obtain⟨cs,eg,hcs⟩:=hgv;have hpv0:=H.vals.get _ _ t0;rw[ht] at hpv0;refine wpIn_wide.1 (wpIn_rangeFunc (F:=Fence.wide) (n:=1) λfn _=>?_)
 let rc:Loop:={ state:=.ready,pending:=none,fn,tmps:=a.tmps,params:=ps,assign:=x,body:=y,defers:=w.heap.size }
 let t:=(w.alloc (.deferred (some []))).alloc (.loop rc)
 have hD1:t.heap[w.heap.size]?=some (.deferred (some [])):=by
  show((w.heap.push _).push _)[w.heap.size]?=_
  grind
 have hL1:t.heap[w.heap.size+1]?=some (.loop rc):=by
  show((w.heap.push _).push _)[w.heap.size+1]?=_
  grind
 have hold:∀ k,k<w.heap.size->t.heap[k]?=w.heap[k]?:=λk hk=>by
  show((w.heap.push _).push _)[k]?=_
  grind
 have H0:=H.aba hN (.deferred (some []));have H1:=H0.aba hN (.loop rc);have hsz:(w.alloc (.deferred (some []))).heap.size=w.heap.size+1:=by simp
 rw[hsz] at H1
 have K1:Keep w t Y (λk=>(Y k\/k=w.heap.size)\/k=w.heap.size+1) σ σ:=⟨λk hk _=>hold k hk,λk hk h=>by
  grind,by grind,mZ.refl _⟩
 have harg:eU t (λk=>(Y k\/k=w.heap.size)\/k=w.heap.size+1) σ (.yl (w.heap.size+1)::I) (.func (.yield (w.heap.size+1)) #[] #[]::cs):=by
  unfold eU;exact⟨_,cs,rfl,by simp[Rep],eU.keep I K1 cs hcs⟩
 have hlt0:t0<a.tmps.toList.length:=by
  have hl:=eU.length _ _ H.vals
  grind[E5]
 obtain⟨pv,hpv⟩:∃ pv,a.tmps.toList[t0]?=some pv:=⟨_,List.getElem?_eq_getElem hlt0⟩
 have hpvr:Rep w Y σ (.lv b0 0) pv:=by
  grind
 have hyc:Yc (w.heap.size+1) rc pv:=hY _ rc pv rfl rfl rfl rfl rfl hpv (by have:=eU.length _ _ H.vals;simpa using this)
 have key:=YX (P:=P) (N:=E.next+(n1-kU ρ)) (v:=v) (st1:=st1) (n1:=n1) (ρ:=ρ)
  (Z:=λw' Y'=>(w'.heap[w.heap.size]?=some (.deferred (some []))/\Y' w.heap.size)/\(w'.heap[w.heap.size+1]?=some (.loop rc)/\Y' (w.heap.size+1))/\∀ r∈D,w'.heap[r]?=some (.deferred (some []))/\Y' r)
  (X:=λR=>(callFunc k (Value.func (.yield (w.heap.size+1)) #[] #[]::cs).toArray).run P t=.ok (.enter k (Value.func (.yield (w.heap.size+1)) #[] #[]::cs).toArray) t/\Calls P k (Value.func (.yield (w.heap.size+1)) #[] #[]::cs).toArray t R)
  H1 hnd hlt H.fix.1 (λb hb _=>H.next b hb) ⟨Nat.le_refl _,Nat.le_add_right _ _⟩ harg (by grind[Calls.mono])
  (λσc hσc hnext hra J=>by
   obtain⟨h1,h2⟩:=hF _ rc pv hyc t _ σc _ H1.wQ H1.vJ hnext hra J hnr (.inr rfl) hL1 (by
    grind[Rep])
   refine⟨h1,Calls.mono h2 λe w' hh=>?_⟩;obtain⟨cv,u,st',n',Y',σ',h3,h4,h5⟩:=hh;have nd:Y8 (.deferred (some [])):=⟨λ_ _ e=>bM,λ_ _ e=>bM⟩;obtain⟨g1,g2⟩:=h5.kept J hD1 nd;obtain⟨g3,g4⟩:=h5.kept J hL1 ⟨λ_ _ e=>bM,λ_ _ e=>bM⟩;refine⟨cv,u,st',n',Y',σ',h3,h4,h5,⟨g1,g2 (.inl (.inr rfl))⟩,⟨g3,g4 (.inr rfl)⟩,λr hr=>?_⟩;obtain⟨d0,d1,d2⟩:=hD.2 r hr;have hlt:=(Array.getElem?_eq_some_iff.1 d2).1;obtain⟨g5,g6⟩:=h5.kept J (k:=r) ak nd
   grind)
 obtain⟨hent,hcalls⟩:=key;have e : #[.func (.yield (w.heap.size+1)) #[] #[]]++cs.toArray=(Value.func (.yield (w.heap.size+1)) #[] #[]::cs).toArray:=by grind
 refine⟨w.heap.size+1,[{ target:=.collected w.heap.size,args:=#[] }],t,{ target:=.fn (.func k) cs.toArray,args:=#[.func (.yield (w.heap.size+1)) #[] #[]] },t,k,
  #[.func (.yield (w.heap.size+1)) #[] #[]]++cs.toArray,t,run_enterLoop_outer _ _ _ _ _,?_,λ_ _=>trivial,?_,λe=>by grind,?_⟩
 simp only[resolve,eg];simp[go_sem]
 grind[invoke]
 rw[callsIn_wide,e];refine Calls.mono hcalls λed w3 hh=>?_;obtain⟨cv,Y3,σ3,rfl,H3,_,_,⟨g1,g2⟩,⟨g3,g4⟩,gD⟩:=hh;have H5:=H3.agl hN3 (.loop { rc with state:=.exhausted }) g4 (by have:=H.pJ.size;omega) g3 ⟨λ_ _ e=>bM,λ_ _ e=>bM⟩;refine⟨none,_,run_endLoop g3 (by simp[rc]),rfl,EZ ρ E st1 n1,w.heap.size::D,⟨Y3,σ3,H5,?_,?_⟩,hK⟩
 grind[marks]
 have hne:∀ r∈D,r<w.heap.size:=λr hr=>(Array.getElem?_eq_some_iff.1 (hD.2 r hr).2.2).1;refine⟨List.nodup_cons.2 ⟨λhm=>by grind,hD.1⟩,λr hr=>?_⟩;rcases List.mem_cons.1 hr with rfl|hr
 exact⟨H.pJ.size,g2,by grind[World.putObj_heap_other]⟩
 have:=hne r hr;exact⟨(hD.2 r hr).1,(gD r hr).2,by grind[World.putObj_heap_other]⟩
def ajb (T:Tab)(S:gV)(rs:List ResultVar)(R:PV->Prop):Post
 | 0,E=>nnK E.st (aaD T S rs E R)
 | 1,E=>nnK E.st (aaD T S rs E R)
 | _+2,_=>False
theorem abb (hT:iK P T)(hp:T.oZ=0)(hW:CY P){k:Nat}{fn:Func}{c:Code}(U:P.funcs[k]?=some fn)(hb:fn.body=some c)
  (hcall:∀ args w,(callFunc k args).run P w=.ok (.enter k args) w) {args:List PV} {R:PV->Prop} {m:Nat} (hm:fn.ntmps-args.length=m)
  (h:∀ S,S=gV.jd P T->mwp T S c (ajb T S fn.results.toList R) ⟨vw args (rQ m),[],0⟩) (hyl:T.yl=none:=by rfl):Fn P T.gl k args R:=by
 intro w Y J hG hY I;refine⟨hcall _ _,?_⟩
 let C:Ctx T:=⟨w,Y,λ_=>False,λ_=>False,gJ,[]⟩;have hlen:=I.length
 have H0:SW C w Y gJ (vw args (rQ m)) ((J.toArray++Array.replicate (fn.ntmps-J.toArray.size) Go.undef).toList) [] 0:=by
  refine⟨?_,⟨λb x h=>by simp[iH] at h,λb b' x x' l l' h=>by simp[iH] at h⟩,λ_ _=>rfl,hY,λ_ h=>h,λk h=>⟨hY k h,λh=>h⟩,λk h _=>.inl h,ML.refl _ w,λb x l h=>by simp[iH] at h,hG,⟨by omega,λ_ h=>by omega⟩,Am.none λb sz rows h=>by simp[iH] at h⟩
  grind[Array.replicate,eU.app,GU]
 have hwp:=aeJ hT hW hyl c _ _ (h _ rfl) C [] { tmps:=J.toArray++Array.replicate (fn.ntmps-J.toArray.size) Go.undef,defers:=[] } w ⟨Y,gJ,H0,rfl,List.nodup_nil,λr hr=>by cases hr⟩;refine callsIn_wide.1 (callsIn_of_wp_marks (F:=Fence.wide) (n:=1) U hb trivial (wpIn_wide.2 (wp_mono hwp ?_)))
 have key:∀ (a:Act) (w' : World),(∃ E D,YJ C D E a w'/\nnK E.st (aaD T (gV.jd P T) fn.results.toList E R)) ->
   LeavesInM Fence.wide 1 P fn a.tmps (λe w'=>∃ cv v,e=.returned cv/\R v/\Rep w' Y gJ v cv/\Chg w w') a.defers .returning w':=by
  rintro a w' ⟨E,D,⟨Y',σ',H,hd,hD⟩,hr⟩
  obtain⟨hn,hr⟩:=acD hr;rw[hd];refine QN (pG _ hn) D w' H hD λw2 g=>?_;unfold aaD at hr
  split at hr
  rename_i vs hv
  split at hr
  rename_i u hu;obtain⟨cv,hrun,hrep⟩:=Ol hT g hv;exact⟨cv,hrun,cv,u,rfl,hr,CX g.store (λ_ _ h=>h) g.y0 (λb x l hx hl=>g.away hx hl) (λb sz rows hb=>(pG _ hn b sz rows hb).elim) _ _ _ _ hu hrep,g.pJ.pJ λ_ h=>h⟩
  exact hr.elim
  exact hr.elim
 intro e a w' t
 cases e with
 | normal=>exact key a w' t
 | ret=>exact key a w' t
 | exit n=>obtain⟨E,_,_,t⟩:=t;exact t.elim
 | _=>exact t.elim
theorem YS.le {P:Program}{G:Nat->Option (List PV)}{l:Nat}{rc:Loop}{pv:Value}{args T:List PV}{st J:St}{n:Nat}{R:PV->St->Nat->Prop}(h:YS P G l rc pv T J n R)(hl:Iu args T)(hs:LeS st J):YS P G l rc pv args st n R:=by
 intro w Y σ vs hG hY hn hr t g hy C I;obtain⟨h1,h2⟩:=h w Y σ vs hG hY hn (hl.rep _ hr) (hs.rep t) (hs.kS g) hy C I;refine⟨h1,RoundIn.mono h2 λe w' hh=>?_⟩;obtain⟨cv,v,st',n',Y',σ',he,hR,H⟩:=hh;refine⟨cv,v,st',n',Y',σ',he,hR,?_⟩
 have e:yg ⟨λ_=>.bad,G,n,[],0,[],[],none,λ_=>[]⟩ w Y σ J=yg ⟨λ_=>.bad,G,n,[],0,[],[],none,λ_=>[]⟩ w Y σ st:=by
  unfold yg;rw[hs.ajW]
 grind
theorem alA {S:gV}{α ρ:Type}{r:ρ}(hS:S=gV.jd P T){l:Nat}{rc:Loop}{pv:Value}{args as J:List PV}{E:Env}{I : List Nat}{st0 t:St}{m:Nat}{K:PV->Env->Prop}{g:Option α}{v:α->PV}{st1:α->St}{n1:Nat}{kk:α->Option ρ}(U:bnd g kk=some r)(hyl:T.yl=some (l,rc,pv))
  (hF:∀ y,g=some y->YS P T.gl l rc pv J t m (λu st n=>u=v y/\st=st1 y/\n=n1)) (ha:Iu as J) (hs:LeS st0 t) (hm:m=kU I) (h1:MO I=true) (h2:ltN E.next I=true) (h0:kS st0=true)
  (has:as=Ak (vI (ixN I) 8) args) (C:st0=yC (ixN I) E.st 0 I) (h00:I[0]?=some 0)
  (h:∀ y,kk y=some r->K (vI (CE I E.next) 8 (v y)) (EZ I E (st1 y) n1)):S.yld l args E I as st0 K:=by
 obtain⟨x,hx,hk⟩:=wU U;clear U;subst hS;subst hm;exact⟨rc,pv,v x,st1 x,n1,hyl,has,C,h1,h2,h0,h00,(hF x hx).le ha hs,h x hk⟩
theorem FnY.le {G:Nat->Option (List PV)}{k:Nat}{args T:List PV}{st J:St}{n:Nat}{Yc:Nat->Loop->Value->Prop}{R:PV->St->Nat->Prop}(h:FnY P G k T J n Yc R)(hl:Iu args T)(hs:LeS st J):FnY P G k args st n Yc R:=by
 intro l rc pv I w Y σ vs hG hY hn hr hst hnn hy hl0 t
 have g : eU w Y σ (.yl l::T) vs:=by
  unfold eU at hr |-;obtain⟨v,C,e,h1,h2⟩:=hr;exact⟨v,C,e,h1,hl.rep _ h2⟩
 obtain⟨h1,h2⟩:=h l rc pv I w Y σ vs hG hY hn g (hs.rep hst) (hs.kS hnn) hy hl0 t;refine⟨h1,Calls.mono h2 λe w' hh=>?_⟩;obtain⟨cv,v,st',n',Y',σ',he,hR,H⟩:=hh;refine⟨cv,v,st',n',Y',σ',he,hR,?_⟩
 have e:yg ⟨λ_=>.bad,G,n,[],0,[],[],none,λ_=>[]⟩ w Y σ J=yg ⟨λ_=>.bad,G,n,[],0,[],[],none,λ_=>[]⟩ w Y σ st:=by
  unfold yg;rw[hs.ajW]
 grind
theorem agp (hT:iK P T)(hW:CY P)(hyl:T.yl=none){l:Nat}{rc:Loop}{pv:Value}{x:PV}{st:St}{ia ib rb t0 pt N:Nat}{t ob:Array Oper}{v:PV}{st1:St}{n1:Nat}(cvs:List Cv)
  (has:rc.assign=.region ia t false) (hbo:rc.body=.block ib (.region rb ob false)) (I:rc.state=.ready) (hpe:rc.pending=none) (hps:rc.params=#[pt]) (J:rc.tmps.toList[t0]?=some pv) (g:pt≠t0) (hN:rc.tmps.size=N)
  (h:∀ S R,S=gV.jd P T->(∀ u s n,LeP u v->LeS s st1->n=n1->R u s n)->opsE T S t t.toList ⟨nC (nC (Uy N) t0 (.lv 0 0)) pt x,st,T.oZ⟩ λE1=>nnK E1.st (opsE T S ob ob.toList E1 λE2=>aly T S cvs R E2)) :
  YS P T.gl l rc pv [x] st T.oZ (λu s n=>u=v/\s=st1/\n=n1):=by
 have H:=alz (l:=l) hT hW hyl (x:=x) (st:=st) (R:=λu s n=>LeP u v/\LeS s st1/\n=n1) cvs has hbo I hpe hps J g hN λS hS=>h S _ hS λ_ _ _ h1 h2 h3=>⟨h1,h2,h3⟩
 intro w Y σ C hG hY hn hr I hnn hy hl0 J;obtain⟨h1,h2⟩:=H w Y σ C hG hY hn hr I hnn hy hl0 J;refine⟨h1,RoundIn.mono h2 λe w' hh=>?_⟩;obtain⟨cv,u,s,n,Y',σ',he,⟨h3,h4,h5⟩,H⟩:=hh;refine⟨cv,v,st1,n,Y',σ',he,⟨rfl,rfl,h5⟩,?_⟩
 have hv:eU w' Y' σ' [v] [cv]:=by
  have:=H.vals;unfold eU at this |-;obtain⟨c,cs,e,h6,h7⟩:=this;cases e;exact⟨_,_,rfl,h3.rep _ h6,by grind⟩
 exact(H.qU hv).QH (h4.QH w' Y' σ')
theorem aes.cv (cvs:List Cv){g:Operand}{ps:Array Tmp}{x y:Code}{K:Env->Prop}{E:Env}(J:kS E.st=true)(h:aes P T g ps x y K (KF (gV.jd P T) cvs E)):aes P T g ps x y K E:=by
 rintro C D a w ⟨Y,σ,H,hd,hD⟩
 obtain⟨t,I,H1,_⟩:=acz (P:=P) (T':=T) cvs E (H.QC (pG _ J));exact h C D a w ⟨t,I,H.J5 H1,hd,hD.step H.store H1⟩
def alB (T:Tab)(S:gV)(gop:Operand)(ps:Array Tmp)(x y:Code)(t0:Nat)(K:Env->Prop)(E:Env):Prop :=
 match rM T E.tmps gop with
 | .fn k caps=>(match iV E.tmps t0 with
  | .lv b0 0=>(match IB (.lv b0 0::caps) E.st with
   | ρ=>S.aju x y ps t0 (nN E.tmps) k b0 ρ (Ak (vI (ixN ρ) 8) caps) (yC (ixN ρ) E.st 0 ρ) E K)
  | _=>False)
 | _=>False
theorem ajc {S:gV}(hS:S=gV.jd P T){J:Operand}{ps:Array Tmp}{x y:Code}{K:Env->Prop}{E:Env}(cvs:List Cv)(t0:Nat)(g:kS E.st=true)(h:alB T S J ps x y t0 K (KF S cvs E)):S.rng J ps x y K E:=by
 subst hS;refine aes.cv cvs g ?_;generalize KF (gV.jd P T) cvs E=E2 at *;unfold alB at h
 split at h
 rename_i k caps hg
 split at h
 rename_i b0 ht;obtain⟨hnd,C,I,hnr,h0,v,st1,n1,Yc,hF,hY,t,hK⟩:=h.out;exact aj9 hg ht I hnd C hnr h0 hF (by simpa using hY) hK t
 exact h.elim
 exact h.elim
theorem agq {S:gV}(hS:S=gV.jd P T){α ρ:Type}{r:ρ}{ps:Array Tmp}{x y:Code}{K:Env->Prop}{E:Env}{k t0 len b0 m:Nat}{as J:List PV}{I : List Nat}{st0 C:St}{g:Option α}{v:α->PV}{st1:α->St}{n1:Nat}{kk:α->Option ρ}{Yc:Nat->Loop->Value->Prop}
  (U:bnd g kk=some r) (hF:∀ z,g=some z->FnY P T.gl k J C m Yc (λu st n=>u=v z/\st=st1 z/\n=n1)) (ha:Iu as J) (hs:LeS st0 C) (hm:m=kU I) (hnd:MO I=true) (hlt:ltN E.next I=true) (hnn:kS E.st=true) (hnr:kS st0=true) (h0:I[0]?=some b0)
  (t:∀ z,kS (EZ I E (st1 z) n1).st=true)
  (hY:∀ l rc pv,rc.assign=x->rc.body=y->rc.state=.ready->rc.pending=none->rc.params=ps->rc.tmps.toList[t0]?=some pv->rc.tmps.size=len->Yc l rc pv)
  (h:∀ z,kk z=some r->K (EZ I E (st1 z) n1)):S.aju x y ps t0 len k b0 I as st0 E K:=by
 subst hS;obtain⟨z,hz,hk⟩:=wU U;clear U;subst hm;exact⟨hnd,hlt,hnn,hnr,h0,v z,st1 z,n1,Yc,(hF z hz).le ha hs,hY,t z,h z hk⟩
theorem aiw (hT:iK P T)(C:T.oZ=0)(hW:CY P){k:Nat}{fn:Func}{c:Code}(U:P.funcs[k]?=some fn)(I:fn.body=some c)
  (hcall:∀ args w,(callFunc k args).run P w=.ok (.enter k args) w) {args:List PV} {v:PV} {m:Nat} (g:fn.ntmps-args.length=m)
  (h:∀ S R,S=gV.jd P T->(∀ u,LeP u v->R u)->mwp T S c (ajb T S fn.results.toList R) ⟨vw args (rQ m),[],0⟩) (hyl:T.yl=none:=by rfl):Fn P T.gl k args (λu=>u=v):=by
 have H:=abb hT C hW U I hcall g (hyl:=hyl) (R:=λu=>LeP u v) λS hS=>h S _ hS λ_ h=>h;intro w Y J hG hY hr;obtain⟨h1,h2⟩:=H w Y J hG hY hr;refine⟨h1,Calls.mono h2 λe w' hh=>?_⟩;obtain⟨cv,u,t,hu,hv,hc⟩:=hh;exact⟨cv,v,t,rfl,hu.rep _ hv,hc⟩
end
end Go.Pv
