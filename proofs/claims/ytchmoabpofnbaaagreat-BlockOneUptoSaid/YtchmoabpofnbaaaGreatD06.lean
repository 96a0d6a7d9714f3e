import Derived.RangeFuncLeaves
import Derived.RangeFuncRecord
import Derived.LoopN
import Derived.Test.YtchmoabpofnbaaaGreatD05
set_option linter.all false
namespace Go.Pv
open Go
def YX:List PV->Bool
 | []=>true
 | v::vs=>(match v with
  | .bool _|.sb _|.int _ _|.si _ _|.str _|.sl _ _ _|.pp _|.IY|.V5=>true
  | .fn _ []=>true
  | _=>false)&&YX vs
def alu (S:iq)(b c:Nat)(E:Env):Env :=
 match iV E.st b with
 | some (.nor sz rows r row)=>(match ji row c with
  | .os id r0 n=>(match iV E.st id with
   | some (.arr _ z es)=>⟨E.tmps,nX (nX E.st id (some (.arr true z es))) b (some (.nor sz rows r (nV row c (.sl z (S.sub es r0 n) false)))),E.next⟩
   | _=>E)
  | _=>E)
 | _=>E
def ahy (S:iq)(b:Nat):Nat->Nat->Env->Env
 | _,0,E=>E
 | c,k+1,E=>ahy S b (c+1) k (alu S b c E)
def opO (S:iq)(t:Nat)(E:Env)(K:Env->Prop):Prop :=
 match ji E.tmps t with
 | .lp b r _=>(match iV E.st b with
  | some (.arr false sz rows)=>S.row rows r λrow=>K ⟨E.tmps,nX E.st b (some (.nor sz rows r row)),E.next⟩
  | _=>False)
 | _=>False
def amJ (S:iq)(b:Nat)(E:Env)(K:Env->Prop):Prop :=
 match iV E.st b with
 | some (.nor sz rows r row)=>bif YX row then wkC S row λrow=>K ⟨E.tmps,nX E.st b (some (.arr false sz (S.Hg rows r row))),E.next⟩ else False
 | _=>False
def clO (S:iq)(b:Nat)(E:Env)(K:Env->Prop):Prop :=
 match iV E.st b with
 | some (.nor _ _ _ row)=>amJ S b (ahy S b 0 (oq row) E) K
 | _=>False
inductive Cw where
 | cv (c:Cv)
 | op (t:Nat)
 | cl (b:Nat)
def cwK (S:iq):List Cw->Env->(Env->Prop)->Prop
 | [],E,K=>K E
 | .cv c::l,E,K=>cwK S l (cv1 S c E) K
 | .op t::l,E,K=>opO S t E λE=>cwK S l E K
 | .cl b::l,E,K=>clO S b E λE=>cwK S l E K
section
variable {P:Program}{T T' : Tab}
theorem Xj {w:World}{Y:Nat->Prop}{σ:Sg}:∀ (ps:List PV),YX ps=true->(∀ p∈ps,xR p=true/\∀ v,Rep w Y σ p v->Rep w Y ik p v)
 | [],_=>by simp
 | p::ps,h=>by
  simp only[YX,Bool.and_eq_true] at h;intro q T;rcases List.mem_cons.1 T with rfl|T
  ·have h1:=h.1;cases q
   case fn f cs=>
    cases cs with
    | nil=>
     refine⟨rfl,λv hv=>?_⟩
     grind[Rep,eQ]
    | cons c cs=>simp at h1
   all_goals first|(simp at h1;done)|exact⟨rfl,λv hv=>by unfold Rep at hv |-;exact hv⟩
  exact Xj ps h.2 q T
theorem alv {t b r c sz:Nat}{E:Env}{rows:List (List PV)}{row:List PV}(ht:ji E.tmps t=.lp b r c)(hb:iV E.st b=some (.arr false sz rows))(hr:rows[r]?=some row):Ent T E ⟨E.tmps,nX E.st b (some (.nor sz rows r row)),E.next⟩:=by
 rintro C a w ⟨⟨Y,σ,H⟩,hd⟩
 refine⟨⟨Y,σ,?_⟩,hd⟩;have J:=H.vals.get _ _ t;rw[ht] at J;unfold Rep at J;obtain⟨l,hl,_⟩:=J;have hB:=fF.zN H (λ_ _ h=>h) hb hl;unfold fF at hB;obtain⟨h1,h2,h3,h4,h5,g,h7⟩:=hB
 have I:r<rows.length:=by
  grind
 have h8:=je.row rows _ r row h5 hr;refine H.update hb hl (g rfl) rfl rfl rfl rfl (λ_ _=>rfl) (λ_ _ h=>by cases h) λ_=>?_;unfold fF;exact⟨h1,h2,h3,h4,⟨I,h8.1.1⟩,λi x hx _=>je.row rows _ i x h5 hx,iW.keep row ⟨λ_ _ _=>rfl,λ_ _ h=>h,Nat.le_refl _,λ_ _ h=>by cases h⟩ (λ_=>rfl) _ h8.2,g rfl⟩
theorem aeV {C:Ctx T}{w:World}{Y:Nat->Prop}{σ:Sg}{ps:List PV}{vs:List Value}{st:St}{n b sz r:Nat}{rows:List (List PV)}{row:List PV}(H:SW C w Y σ ps vs st n)(J:iV st b=some (.nor sz rows r row)):∃ l,σ b=some l/\fF w Y σ l (.nor sz rows r row):=by
 rcases H.store.blk b _ J with h|⟨_,h⟩
 exact h
 cases h
theorem ajN (b c:Nat)(E:Env):Ent T E (alu (iq.jq P T') b c E):=by
 rintro C a w ⟨⟨Y,σ,H⟩,hd⟩
 unfold alu
 split
 rename_i sz rows r row hbv
 split
 rename_i id r0 m hp
 split
 rename_i ro z I hb;obtain⟨Y',H1,hfr,hY⟩:=H.freeze hb (.inr ⟨ro,z,I,rfl,rfl⟩);refine⟨⟨Y',σ,?_⟩,hd⟩;have hne:¬ id=b:=by grind
 have J:iV (nX E.st id (some (.arr true z I))) b=some (.nor sz rows r row):=by simp_all[ig]
 obtain⟨l,hl,hB⟩:=aeV H1 J;have hB0:=hB;unfold fF at hB;obtain⟨h1,h2,h3,h4,⟨h5,h6⟩,h7,h8,g⟩:=hB;refine H1.update J hl g rfl rfl rfl rfl (λ_ _=>rfl) (λ_ _ h=>by cases h) λ_=>?_;unfold fF;refine⟨h1,h2,h3,h4,⟨h5,by simpa [ug] using h6⟩,h7,iW.pJ _ _ _ (λv hv=>?_) h8,g⟩;rw[hp] at hv;have t : iV (nX E.st id (some (.arr true z I))) id=some (.arr true z I):=by rw[ig,if_pos rfl]
 obtain⟨x,cap,ev,hn,hlen,hr⟩:=Je hv (H1.store.blk id _ t);show Rep w Y' σ (.sl z ((I.drop r0).take m) false) _
 grind[Rep]
 exact⟨⟨Y,σ,H⟩,hd⟩
 exact⟨⟨Y,σ,H⟩,hd⟩
 exact⟨⟨Y,σ,H⟩,hd⟩
theorem aeW (b:Nat):∀ (k c:Nat) (E:Env),Ent T E (ahy (iq.jq P T') b c k E)
 | 0,_,E=>Ent.refl E
 | k+1,c,E=>(ajN b c E).trans (aeW b k (c+1) _)
theorem ajO {b sz r:Nat}{E:Env}{rows:List (List PV)}{row J : List PV}(hb:iV E.st b=some (.nor sz rows r row))(hn:YX row=true)(hl:J.length=row.length)(hc:iw row=true->iw J=true)
  (hw:∀ (w:World) (Y:Nat->Prop) (σ:Sg) (vs:List Value),eQ w Y σ row vs->eQ w Y σ J vs):Ent T E ⟨E.tmps,nX E.st b (some (.arr false sz (rows.set r J))),E.next⟩:=by
 rintro C a w ⟨⟨Y,σ,H⟩,hd⟩
 refine⟨⟨Y,σ,?_⟩,hd⟩;obtain⟨l,hs,hB⟩:=aeV H hb;unfold fF at hB;obtain⟨h1,h2,h3,h4,⟨h5,h6⟩,h7,h8,h9⟩:=hB;refine H.update hb hs h9 rfl rfl rfl rfl (λ_ _=>rfl) (λ_ _ h=>by cases h) λ_=>?_;have hcell:iw row=true:=by rw[uh];exact λp hp=>(Xj (w:=w) (Y:=Y) (σ:=σ) row hn p hp).1
 have t : iW w Y ik l.cb row (l.co+r*sz):=by
  rw[iW.iff] at h8 |-;intro i p hi;obtain⟨v,hv,hp⟩:=h8 i p hi;exact⟨v,hv,(Xj row hn p (List.mem_of_getElem? hi)).2 v hp⟩
 obtain⟨us,I,g⟩:=t.vals;have h8'' : iW w Y ik l.cb J (l.co+r*sz):=iW.Lt _ _ _ (hw w Y ik us I) g;unfold fF;refine⟨h1,h2,h3,⟨by simpa using h4.1,by simpa using h4.2⟩,?_,λ_=>h9,λh=>by cases h⟩;rw[je.iff]
 grind
theorem ajP {t:Nat}{E:Env}{K:Env->Prop}(h:opO (iq.jq P T') t E K):∃ F,Ent T E F/\K F:=by
 unfold opO at h
 split at h
 rename_i b r c I
 split at h
 rename_i sz rows J;obtain⟨row,hr,h⟩:=h
 grind[alv]
 exact h.elim
 exact h.elim
theorem ajQ {b:Nat}{E:Env}{K:Env->Prop}(h:clO (iq.jq P T') b E K):∃ F,Ent T E F/\K F:=by
 unfold clO at h
 split at h
 rename_i sz rows r row hb;have h1:Ent T E (ahy (iq.jq P T') b 0 (oq row) E):=aeW b _ 0 E;generalize ahy (iq.jq P T') b 0 (oq row) E=E1 at h h1;unfold amJ at h
 split at h
 rename_i sz2 I r2 J C
 cases t:YX J with
 | false=>grind
 | true=>
  rw[t] at h;obtain⟨g,g1,g2,g3,g4,_⟩:=BH h;exact⟨_,h1.trans (ajO C t g1 g2 g3),g4⟩
 exact h.elim
 exact h.elim
theorem VQ:∀ (l:List Cw) {E:Env} {K:Env->Prop},cwK (iq.jq P T') l E K->∃ F,Ent T E F/\K F
 | [],E,K,h=>⟨E,Ent.refl E,h⟩
 | .cv c::l,E,K,h=>by
  obtain⟨F,h1,h2⟩:=VQ l h;exact⟨F,(aeN (P:=P) (T':=T') c E).trans h1,h2⟩
 | .op t::l,E,K,h=>by
  obtain⟨F,h1,h2⟩:=ajP (T:=T) h;obtain⟨G,J,I⟩:=VQ l h2;exact⟨G,h1.trans J,I⟩
 | .cl b::l,E,K,h=>by
  obtain⟨F,h1,h2⟩:=ajQ (T:=T) h;obtain⟨G,J,I⟩:=VQ l h2;exact⟨G,h1.trans J,I⟩
variable {S:iq}(O:S=iq.jq P T)
include O
theorem ahz {ci:Nat}{T:Env}{A:Post->Prop}{B:Env->Prop}{Q:Post}(l:List Cw)(h:A (JM (λE=>cwK S l E B) Q)):S.seq ci T A B Q:=by
 subst O;refine⟨_,h,λn E h=>?_⟩
 cases n with
 | zero=>exact VQ l h
 | succ n=>exact⟨E,Ent.refl E,h⟩
end
end Go.Pv
namespace Go.Pv
open Go
section
variable {P:Program}{T:Tab}{S:iq}{M:gm}{α β σ ρ:Type}{r:ρ}
theorem d_x {I F:σ->Env}{k:σ->Option ρ}{s:σ}{E:Env}(hk:∀ s,I s=F s)(U:k s=some r)(e:E=F s:=by(conv=>lhs;cbv)<;>(try simp only[q])<;>(try rfl)<;>(try simp only[eL,q])<;>(try rfl)<;>(try (subst hM;rfl))):∃ s,k s=some r/\E=I s:=⟨s,U,e.trans (hk s).symm⟩
theorem d_l {u v:PV}(e:u=v:=by simp only[q];try first|rfl|simp[AL,eI,eB,eL,eS,q]):LeP u v:=Xf e
theorem jW {α:Sort _}{u v:α}(e:u=v:=by simp only[q];try first|rfl|simp[AL,eI,eB,eL,eS,q]):u=v:=e
theorem Vw (O:S=iq.jq P T)(hT:iZ P T)(hW:DR P){b:Code}{Q:Post}{E:Env}{step:σ->(σ->Option ρ)->Option ρ}{J:σ}(cvs:List Cv)(keep:List Nat)(F:σ->Env)(U:eH step J=some r)
  (h:∀ (I:σ->Env) (k:σ->Option ρ) (s:σ),(∀ s,I s=F s)->step s k=some r->∀ e,e=F s->Kw T S b (JM (λt=>∃ C,k C=some r/\IZ T.qc keep (wkE (Lp S cvs t))=I C) Q) e) (g:IZ T.qc keep (wkE (Lp S cvs E))=F J:=by(conv=>lhs;cbv)<;>(try simp only[q])<;>(try rfl)):S.loop b Q E:=Ib O hT hW cvs keep F U g h
theorem wo (O:S=iq.jq P T){k:Nat}{args as bs:List PV}{cargs:List PV}{E:Env}{K:PV->Env->Prop}{g:Option α}{v:α->PV}{kk:α->Option ρ}(U:bnd g kk=some r)(hF:∀ y,g=some y->Fn P T.gl k cargs (λu=>u=v y))(h:∀ y,kk y=some r->K (v y) E)(ha:as=cargs:=by rfl):S.UM k args as bs E K:=aeQ O U hF (le_eq ha) h
theorem Kq (O:S=iq.jq P T){k:Nat}{args:List PV}{cargs:List PV}{K:PV->Prop}{g:Option α}{v:α->PV}{kk:α->Option ρ}(U:bnd g kk=some r)(hF:∀ y,g=some y->Fn P T.gl k cargs (λu=>u=v y))(h:∀ y,kk y=some r->K (v y))(ha:args=cargs:=by rfl):S.V6 k args K:=QA O U hF (le_eq ha) h
theorem aeX (O:S=iq.jq P T)(hT:iZ P T)(hW:DR P){b:Code}{Q:Post}{E:Env}{step:σ->(σ->Option ρ)->Option ρ}{s0:σ}(J cvs:List Cv)(keep:List Nat)(F:σ->Env)(U:eH step s0=some r)(he:IZ T.qc keep (wkE (Lp S J E))=F s0)
  (h:∀ (I:σ->Env) (k:σ->Option ρ) (s:σ),(∀ s,I s=F s)->step s k=some r->∀ e,e=F s->Kw T S b (JM (λg=>∃ s',k s'=some r/\IZ T.qc keep (wkE (Lp S cvs g))=I s') Q) e):S.loop b Q E:=by
 subst O;intro C a w hA
 have key:∀ (n:Nat) (s:σ),iI step n s=some r->∀ (C:Ctx T) a w,kZ C (F s) a w->Code.rounds P b (lift C Q) n a w:=by
  intro n
  induction n with
  | zero=>intro s h;cases h
  | succ n ih=>
   intro s hs C a w hA;unfold Code.rounds;refine wp_mono (Be hT hW b _ _ (h F (iI step n) s (λ_=>rfl) hs _ rfl) C a w hA) (Jh λg t w' hA' hq=>?_);obtain⟨j,hj,he⟩:=hq;exact ih j hj C t w' (he ▸ Hy keep _ C t w' (LU _ C t w' (BL (P:=P) (T':=T) cvs g C t w' hA')))
 exact wp_loop_rounds fuel (key _ s0 U C a w (he ▸ Hy keep _ C a w (LU _ C a w (BL (P:=P) (T':=T) J E C a w hA))))
theorem Fa (O:S=iq.jq P T){l:Array Oper}{p:Prop}(h:p)(hd:Hr T l=true:=by kernel_rfl):S.order l p:=aeI O hd h
end
def Ua (T:Tab)(S:iq)(cvs:List Cv)(rs:List ResultVar)(R:PV->St->Nat->Prop):Post
 | 0,E=>UX T S rs (Lp S cvs E) R
 | 1,E=>UX T S rs (Lp S cvs E) R
 | _+2,_=>False
theorem NZ {P:Program}{T:Tab}(hT:iZ P T)(hW:DR P){k:Nat}{fn:Func}{c:Code}(U:P.funcs[k]?=some fn)(hb:fn.body=some c)
  (hcall:∀ args w,(callFunc k args).run P w=.ok (.enter k args) w) {args:List PV} {st:St} {R:PV->St->Nat->Prop} {m:Nat} (hm:fn.ntmps-args.length=m)
  (cvs:List Cv) (h:∀ S,S=iq.jq P T->Kw T S c (Ua T S cvs fn.results.toList R) ⟨vY args (sO m),st,T.qc⟩) {w:World} {Y:Nat->Prop} {σ:Sg} {J:List Value} (hG:Vs T.gl w Y) (hY:∀ b,Y b->b<w.heap.size) (hn:∀ b,T.qc<=b->σ b=none) (t:eQ w Y σ args J) (hst:FW w Y σ st) (hnn:lF st=true) (hyk:YOK (yS T w Y σ st)) :
  (callFunc k J.toArray).run P w=.ok (.enter k J.toArray) w /\
  Calls P k J.toArray w λe w'=>∃ cv v st' n' Y' σ',e=.returned cv/\R v st' n'/\SW (yS ⟨λ_=>.bad,T.gl,T.qc,[],0,[],[],none,λ_=>[]⟩ w Y σ st) w' Y' σ' [v] [cv] st' n':=by
 refine⟨hcall _ _,?_⟩;have hlen:=t.length
 let C:Ctx T:=yS T w Y σ st
 have H0:SW C w Y σ (vY args (sO m)) ((J.toArray++Array.replicate (fn.ntmps-J.toArray.size) Go.undef).toList) st T.qc:=by
  refine⟨?_,hst,hn,hY,λ_ h=>h.1,λk h=>⟨hY k h.1,h.2⟩,λk h _=>?_,Nz.refl _ w,λb x l h1 h2=>.inr ⟨b,x,l,h1,h2,rfl⟩,hG,⟨Nat.le_refl _,λ_ _=>rfl⟩,BB.none (H9 st hnn)⟩
  grind[Array.replicate,eQ.app,Ia]
  by_cases hi:Ff σ st k
  exact .inr ⟨h,hi⟩
  exact .inl ⟨h,hi⟩
 have hwp:=Be hT hW c _ _ (h _ rfl) C { tmps:=J.toArray++Array.replicate (fn.ntmps-J.toArray.size) Go.undef,defers:=[] } w ⟨⟨Y,σ,H0⟩,rfl,hyk⟩;refine calls_of_wp U hb (wp_mono hwp ?_)
 have key:∀ (a:Act) (w' : World),(∃ E,kZ C E a w'/\UX T (iq.jq P T) fn.results.toList (Lp (iq.jq P T) cvs E) R)->a.defers=[]/\∃ v,(results fn a.tmps).run P w'=.ok v w' /\
   ∃ cv u st' n' Y' σ',Ending.returned v=.returned cv/\R u st' n'/\SW (yS ⟨λ_=>.bad,T.gl,T.qc,[],0,[],[],none,λ_=>[]⟩ w Y σ st) w' Y' σ' [u] [cv] st' n':=by
  rintro a w' ⟨E0,hA0,hr⟩
  obtain⟨⟨Y',σ',H⟩,hd⟩:=BL (P:=P) (T':=T) cvs E0 C a w' hA0;generalize Lp (iq.jq P T) cvs E0=E at *;refine⟨hd.1,?_⟩;unfold UX at hr
  split at hr
  rename_i vs hv;obtain⟨cv,hrun,hrep⟩:=O6 hT H hv;have H1:SW C w' Y' σ' [JO vs] [cv] E.st E.next:=H.rH dB
  obtain⟨Y1,σ1,n',H2,g⟩:=U6 (P:=P) (T':=T) T.own (JO vs) H1 hrep;have H3:=H2.rH (show eQ w' Y1 σ1 [(Yx (iq.jq P T) T.own (JO vs) E.st E.next).1] [cv] by unfold eQ;exact⟨_,_,rfl,g,by unfold eQ;rfl⟩)
  split at hr
  rename_i v st2 n2 he;rw[he] at H3;obtain⟨h1,h2,h3⟩:=NM T.qc st2 [v];obtain⟨σ2,I,_⟩:=H3.abu h1 h2 h3;refine⟨cv,hrun,cv,_,_,_,Y1,σ2,rfl,hr,⟨?_,I.store,I.next,I.wB,I.y0,I.c0,I.xE,I.qo,I.own,I.xG,I.fix,I.nest⟩⟩
  simpa only[BA] using I.vals
  exact hr.elim
 intro e a w' hq
 cases e with
 | normal=>exact key a w' hq
 | ret=>exact key a w' hq
 | exit n=>obtain⟨E,_,hq⟩:=hq;exact hq.elim
 | _=>exact hq.elim
theorem aaf {P:Program}{T:Tab}(hT:iZ P T)(hW:DR P){k:Nat}{fn:Func}{c:Code}(U:P.funcs[k]?=some fn)(hb:fn.body=some c)
  (hcall:∀ args w,(callFunc k args).run P w=.ok (.enter k args) w) {args:List PV} {st:St} {R:PV->St->Nat->Prop} {m:Nat} (t:fn.ntmps-args.length=m)
  (cvs:List Cv) (h:∀ S,S=iq.jq P T->Kw T S c (Ua T S cvs fn.results.toList R) ⟨vY args (sO m),st,T.qc⟩) (hyl:T.yl=none:=by rfl):FnS P T.gl k args st T.qc R :=
 λ_ _ _ _ hG g hn J C I=>NZ hT hW U hb hcall t cvs h hG g hn J C I (YOK.none hyl)
theorem xY {P:Program}{T:Tab}(hT:iZ P T)(hW:DR P){k:Nat}{fn:Func}{c:Code}(U:P.funcs[k]?=some fn)(hb:fn.body=some c)
  (hcall:∀ args w,(callFunc k args).run P w=.ok (.enter k args) w) {args:List PV} {st:St} {v:PV} {st1:St} {n1:Nat} {m:Nat} (hm:fn.ntmps-args.length=m)
  (cvs:List Cv) (h:∀ S R,S=iq.jq P T->(∀ u s n,LeP u v->LeS s st1->n=n1->R u s n)->Kw T S c (Ua T S cvs fn.results.toList R) ⟨vY args (sO m),st,T.qc⟩) (hyl:T.yl=none:=by rfl):FnS P T.gl k args st T.qc (λu s n=>u=v/\s=st1/\n=n1):=by
 have H:=aaf hT hW U hb hcall hm (hyl:=hyl) (st:=st) (cvs:=cvs) (R:=λu s n=>LeP u v/\LeS s st1/\n=n1) λS O=>h S _ O λ_ _ _ h1 h2 C=>⟨h1,h2,C⟩
 intro w Y σ J hG hY hn hr I t;obtain⟨h1,h2⟩:=H w Y σ J hG hY hn hr I t;refine⟨h1,Calls.mono h2 λe w' hh=>?_⟩;obtain⟨cv,u,s,n,Y',σ',he,⟨C,h4,h5⟩,H⟩:=hh;refine⟨cv,v,st1,n,Y',σ',he,⟨rfl,rfl,h5⟩,?_⟩
 have hv:eQ w' Y' σ' [v] [cv]:=by
  have:=H.vals;unfold eQ at this |-;obtain⟨c,cs,e,g,h7⟩:=this;cases e;exact⟨_,_,rfl,C.rep _ g,by grind⟩
 exact(H.rH hv).RD (h4.RD w' Y' σ')
end Go.Pv
namespace Go.Pv
open Go
theorem d_R {p:Prop}(h:p:=by intro U;cbv;cases U;first|exact hR _ (Xf rfl)|exact hR _ d_l):p:=h
theorem adz {p:Prop}(h:p:=by intro _ U;cbv;cases U;first|exact hR _ (Xf rfl)|exact hR _ d_l):p:=h
theorem ahA {p:Prop}(h:p:=by cases U;first|exact hR _ (Xf rfl)|exact hR _ d_l):p:=h
theorem tY {p:Prop}(h:p:=by intro U;cbv;exact d_x dH U):p:=h
theorem yX {p:Prop}(h:p:=by intro _ U;cbv;exact d_x dH U):p:=h
theorem uj {p:Prop}(h:p:=by exact d_x dH U):p:=h
abbrev sI (x:Int):PV:=.si .i64 x
abbrev vR (l:List PV):Option lW:=some (.var false l)
abbrev aR (n:Nat) (l:List (List PV)):Option lW:=some (.arr false n l)
abbrev mI (M:gm) (l:List Int):List (List PV):=M.m Int (eI .i64) l
def stL:Nat->List (Option lW)->St
 | _,[]=>[]
 | i,b::l=>(i,b)::stL (i+1) l
def amK:List (Option lW)->Nat
 | []=>0
 | _::l=>amK l+1
def f3 (n:Nat)(ts:List (Nat×PV))(bs:List (Option lW)):Env:=⟨ajK 0 n ts,stL 0 bs,amK bs⟩
def amL:List Nat->List PV->List (Nat×PV)
 | k::ks,v::vs=>(k,v)::amL ks vs
 | _,_=>[]
def f4 (n:Nat)(vs:List PV)(bs:List (Option lW))(ks:List Nat):Env:=f3 n (amL ks vs) bs
section
variable {P:Program}{T:Tab}{S:iq}{M:gm}{α β σ ρ:Type}{r:ρ}
theorem mP {c c' : Bool}{fa fb:Option ρ}{A B:Unit->Prop}(ha:fa=some r->A ())(hb:fb=some r->B ())(O:S=iq.jq P T:=by assumption)(U:br c' fa fb=some r:=by exact U)(e:c=c':=by simp only[q];try first|rfl|simp[AL,eI,eB,eL,eS,q]):S.br c A B:=PT O U e ha hb
theorem xH {c c' : Bool}{fa fb:Option ρ}{A B:Unit->Prop}(ha:fa=some r->A ())(hb:fb=some r->B ())(O:S=iq.jq P T:=by assumption)(U:br c' fa fb=some r:=by exact U)(e:c=c':=by rfl):S.br c A B:=PT O U e ha hb
theorem Kr {es:List (List PV)}{l:List α}{e:α->List PV}{i i' : Int}{k:α->Option ρ}{K:List PV->Prop}(h:∀ x,k x=some r->K (e x))(O:S=iq.jq P T:=by assumption)(hM:M=kJ:=by assumption)(U:bnd (gW l i') k=some r:=by exact U)(he:es=M.m α e l:=by rfl)(hi:i=i':=by rfl):S.idx es i K:=ahw O hM U he hi h
theorem DJ {ci:Nat}{J:Env}{A:Post->Prop}{B:Env->Prop}{Q:Post}{rest:σ->Option ρ}{body:(σ->Option ρ)->Option ρ}(cvs:List Cv)(keep:List Nat)(F:σ->List Nat->Env)(U:jn rest body=some r)
  (h:∀ (I:σ->Env) (k:σ->Option ρ),(∀ s,I s=F s keep)->body k=some r->A (JM (λE=>∃ s,k s=some r/\IZ T.qc keep (wkE (Lp S cvs E))=I s) Q)) (h2:∀ s,rest s=some r->B (F s keep)) (O:S=iq.jq P T:=by assumption):S.seq ci J A B Q:=akE O cvs keep (λs=>F s keep) U h h2
theorem Ji (hT:iZ P T){b:Code}{Q:Post}{E:Env}{step:σ->(σ->Option ρ)->Option ρ}{J:σ}(cvs:List Cv)(keep:List Nat)(F:σ->List Nat->Env)(U:eH step J=some r)
  (h:∀ (I:σ->Env) (k:σ->Option ρ) (s:σ),(∀ s,I s=F s keep)->step s k=some r->∀ e,e=F s keep->Kw T S b (JM (λt=>∃ C,k C=some r/\IZ T.qc keep (wkE (Lp S cvs t))=I C) Q) e) (g:IZ T.qc keep (wkE (Lp S cvs E))=F J keep:=by(conv=>lhs;cbv)<;>(try simp only[q])<;>(try rfl)) (O:S=iq.jq P T:=by assumption) (hW:DR P:=by exact wf):S.loop b Q E:=Vw O hT hW cvs keep (λs=>F s keep) U h g
end
theorem EN {P:Program}{T:Tab}(hT:iZ P T){k:Nat}{fn:Func}{c:Code}(U:P.funcs[k]?=some fn)
  (hcall:∀ args w,(callFunc k args).run P w=.ok (.enter k args) w) {args:List PV} {v:PV} {m:Nat}
  {M:gm} (h:∀ S R,S=iq.jq P T->(∀ u,LeP u v->R u)->SF M S->Kw T S c (ajf T S fn.results.toList R) ⟨vY args (sO m),[],0⟩) (hM:M=kJ:=by assumption) (I:T.qc=0:=by rfl) (hW:DR P:=by exact wf) (C:fn.body=some c:=by rfl) (J:fn.ntmps-args.length=m:=by rfl) (hyl:T.yl=none:=by rfl):Fn P T.gl k args (λu=>u=v):=ahv hT I hW U C hcall J (hyl:=hyl) λS R O hR=>h S R O hR (sf hM O)
end Go.Pv
namespace Go.Pv
open Go
def upT:List (Nat×PV)->List PV->List PV
 | [],ts=>ts
 | (t,v)::l,ts=>upT l (nV ts t v)
def upB:List (Nat×Option lW)->St->St
 | [],st=>st
 | (b,x)::l,st=>upB l (nX st b x)
def amM:List (Nat×Option lW)->Nat->Nat
 | [],n=>n
 | (b,_)::l,n=>amM l (bif Nat.blt b n then n else b+1)
def up (ts:List (Nat×PV))(bs:List (Nat×Option lW))(E:Env):Env:=⟨upT ts E.tmps,upB bs E.st,amM bs E.next⟩
def jf (ts:List (Nat×PV))(E:Env):Env:=⟨upT ts E.tmps,E.st,E.next⟩
inductive akF {σ:Type} (i:Nat) (cvs:List Cv) (keep:List Nat) (F:iq->σ->Env->Env):Prop
 | mk
inductive ahB {σ:Type} (i:Nat) (cvs:List Cv) (keep:List Nat) (F:iq->σ->Env->Env):Prop
 | mk
inductive adA (i:Nat) (cvs:List Cv):Prop
 | mk
theorem ct {σ:Type}(i:Nat)(keep:List Nat)(F:iq->σ->Env->Env)(cvs:List Cv:=[]):akF i cvs keep F:=.mk
theorem lo {σ:Type}(i:Nat)(keep:List Nat)(F:iq->σ->Env->Env)(cvs:List Cv:=[]):ahB i cvs keep F:=.mk
theorem cv {i:Nat}(cvs:List Cv):adA i cvs:=.mk
class HM (M:gm):Prop where
 h:M=kJ
instance:HM kJ:=⟨rfl⟩
class EC (M:gm) (α:Type) (e:outParam (α->List PV)):Prop
instance {M:gm}:EC M Bool eB:=⟨⟩
instance {M:gm}:EC M Int (eI .i64):=⟨⟩
instance {M:gm}:EC M ByteArray eS:=⟨⟩
instance {M:gm}:EC M (List Int) (eL M 1 (eI .i64)):=⟨⟩
class CW (P:Program) (G:Nat->Option (List PV)) (M:gm) (k:Nat) {α:Type} (g:Option α) (as:outParam (List PV)) (v:outParam (α->PV)):Prop where
 w:∀ y,g=some y->Fn P G k as (λu=>u=v y)
theorem cwT {P:Program}{G:Nat->Option (List PV)}{M:gm}(_:M=kJ){T:Tab}(J:T.gl=G){k:Nat}{α:Type}{g:Option α}{as:List PV}{v:α->PV}[h:CW P G M k g as v]:∀ y,g=some y->Fn P T.gl k as (λu=>u=v y):=by subst J;exact h.w
class CS (P:Program) (G:Nat->Option (List PV)) (M:gm) (k:Nat) {α:Type} (g:Option α) (as:outParam (List PV)) (st0:outParam St) (m:outParam Nat) (v:outParam (α->PV)) (st1:outParam (α->St)) (n1:outParam Nat):Prop where
 w:∀ y,g=some y->FnS P G k as st0 m (λu st n=>u=v y/\st=st1 y/\n=n1)
theorem csT {P:Program}{G:Nat->Option (List PV)}{M:gm}(_:M=kJ){T:Tab}(J:T.gl=G){k:Nat}{α:Type}{g:Option α}{as:List PV}{st0:St}{m:Nat}{v:α->PV}{st1:α->St}{n1:Nat}[h:CS P G M k g as st0 m v st1 n1]:∀ y,g=some y->FnS P T.gl k as st0 m (λu st n=>u=v y/\st=st1 y/\n=n1):=by subst J;exact h.w
section
variable {P:Program}{T:Tab}{S:iq}{M:gm}{α β σ ρ:Type}{r:ρ}
theorem d_kA (O:S=iq.jq P T){i:Nat}{cvs:List Cv}{keep:List Nat}{F:iq->σ->Env->Env}(_:akF i cvs keep F){E C:Env}{J:σ->Env}{A:Post->Prop}{B:Env->Prop}{Q:Post}{rest:σ->Option ρ}{body:(σ->Option ρ)->Option ρ}(U:jn rest body=some r)
  (_:IZ T.qc keep (wkE (Lp S cvs E))=C) (_:∀ s,F S s C=J s)
  (h:∀ (I:σ->Env) (k:σ->Option ρ),(∀ s,I s=J s)->body k=some r->A (JM (λE=>∃ s,k s=some r/\IZ T.qc keep (wkE (Lp S cvs E))=I s) Q)) (h2:∀ s,rest s=some r->B (J s)):S.seq i E A B Q:=akE O cvs keep J U h h2
theorem d_lA (hT:iZ P T)(hW:DR P)(O:S=iq.jq P T){b:Code}{i:Nat}(_:Qj b=some i){cvs:List Cv}{keep:List Nat}{F:iq->σ->Env->Env}(_:ahB i cvs keep F){Q:Post}{E C:Env}{J:σ->Env}{step:σ->(σ->Option ρ)->Option ρ}{t:σ}(U:eH step t=some r)
  (h0:IZ T.qc keep (wkE (Lp S cvs E))=C) (_:∀ s,F S s C=J s) (he:C=J t)
  (h:∀ (I:σ->Env) (k:σ->Option ρ) (s:σ),(∀ s,I s=J s)->step s k=some r->∀ e,e=J s->Kw T S b (JM (λE'=>∃ g,k g=some r/\IZ T.qc keep (wkE (Lp S cvs E'))=I g) Q) e):S.loop b Q E:=Ib O hT hW cvs keep J U (h0.trans he) h
theorem d_xA {I F:σ->Env}{k:σ->Option ρ}{s:σ}{E:Env}(hk:∀ s,I s=F s)(U:k s=some r)(e:E=F s):∃ s,k s=some r/\E=I s:=⟨s,U,e.trans (hk s).symm⟩
theorem fBr {c:Bool}{A B:Unit->Prop}(h:S.br c A B):S.br c A B:=h
theorem fCp {k:Nat}{a b c:List PV}{E:Env}{K:PV->Env->Prop}(h:S.UM k a b c E K):S.UM k a b c E K:=h
theorem fCq {k:Nat}{a:List PV}{K:PV->Prop}(h:S.V6 k a K):S.V6 k a K:=h
theorem fCf {k:Nat}{a:List PV}{K:PV->Prop}(h:S.Yo k a K):S.Yo k a K:=h
theorem fCa {k:Nat}{a b:List PV}{E:Env}{x y:Option (List PV)}{z:List Nat}{s:St}{K:PV->Env->Prop}(h:S.call k a E x y z b s K):S.call k a E x y z b s K:=h
theorem fCw {k:Nat}{a:List PV}{z:List Nat}{s:St}{K:PV->St->Nat->Prop}(h:S.Yp k a s z K):S.Yp k a s z K:=h
theorem fIx {n:Nat}{i:Int}{K:Nat->Prop}(h:S.ix n i K):S.ix n i K:=h
theorem amN {a:List (List PV)}{i:Int}{K:List PV->Prop}(h:S.idx a i K):S.idx a i K:=h
theorem fRow {a:List (List PV)}{i:Nat}{K:List PV->Prop}(h:S.row a i K):S.row a i K:=h
theorem amO {n b:Nat}{p:Prop}(h:S.room n b p):S.room n b p:=h
theorem fCat {a b:ByteArray}{K:ByteArray->Prop}(h:S.agz a b K):S.agz a b K:=h
theorem fSix {a:ByteArray}{i:Int}{K:Int->Prop}(h:S.agy a i K):S.agy a i K:=h
theorem fDiv {o:BinOp}{kd:IntKind}{a b:Int}{K:Int->Prop}(h:S.div o kd a b K):S.div o kd a b K:=h
theorem fShf {o:BinOp}{kd:IntKind}{a b:Int}{K:Int->Prop}(h:S.shf o kd a b K):S.shf o kd a b K:=h
theorem fMks {n m:Int}{b:Nat}{K:Nat->Prop}(h:S.mks n m b K):S.mks n m b K:=h
theorem fSlc {n:Nat}{a b:Int}{K:Nat->Nat->Prop}(h:S.slc n a b K):S.slc n a b K:=h
theorem fSsl {s:ByteArray}{a b:Int}{K:ByteArray->Prop}(h:S.acU s a b K):S.acU s a b K:=h
theorem fOrd {l:Array Oper}{p:Prop}(h:S.order l p):S.order l p:=h
theorem amP {l:Array Oper}{p:Prop}(h:S.last l p):S.last l p:=h
theorem fOrf {l:Array Oper}{t:List (List Nat×List Nat×List Nat)}{p:Prop}(h:S.afu l t p):S.afu l t p:=h
theorem fSame {x y:Hdr}{p:Prop}(h:S.same x y p):S.same x y p:=h
theorem fNu {K:Hdr->Prop}(h:S.nu K):S.nu K:=h
theorem fNil {a:List (List PV)}{K:Bool->Prop}(h:S.V7 a K):S.V7 a K:=h
theorem alx {i:Nat}{E:Env}{A:Post->Prop}{B:Env->Prop}{Q:Post}(h:S.seq i E A B Q):S.seq i E A B Q:=h
theorem amQ {b:Code}{E:Env}{Q:Post}(h:S.loop b Q E):S.loop b Q E:=h
theorem fWk {c:List PV}{K:List PV->Prop}(h:S.wk c K):S.wk c K:=h
theorem fEx {p:α->Prop}(h:∃ x,p x):∃ x,p x:=h
theorem amR (O:S=iq.jq P T)(_:M=kJ){cs:List PV}{e:α->List PV}{v:α}{K:List PV->Prop}{k:α->Option ρ}[EC M α e](U:lt v k=some r)(J:I5 cs (e v))(h:∀ x,k x=some r->K (e x)):S.wk cs K:=LV O U J h
theorem aly (O:S=iq.jq P T)(hM:M=kJ){J:List (List PV)}{l:List α}{e:α->List PV}{i I : Int}{k:α->Option ρ}{K:List PV->Prop}[EC M α e](U:bnd (gW l I) k=some r)(C:J=M.m α e l)(hi:i=I)(h:∀ x,k x=some r->K (e x)):S.idx J i K:=ahw O hM U C hi h
theorem alz (O:S=iq.jq P T)(hM:M=kJ){I:List (List PV)}{l:List α}{e:α->List PV}{j J : Nat}{k:α->Option ρ}{K:List PV->Prop}[EC M α e](U:bnd (l[J]?) k=some r)(C:I=M.m α e l)(hj:j=J)(h:∀ x,k x=some r->K (e x)):S.row I j K:=jv O hM U C hj h
theorem amS (O:S=iq.jq P T){i:Nat}{cvs:List Cv}(_:adA i cvs){E:Env}{A:Post->Prop}{B:Env->Prop}{Q:Post}(h:A (JM (λE=>B (Lp S cvs E)) Q)):S.seq i E A B Q:=aad O cvs h
end
theorem dE {α:Sort _}{a b:α}(h:a=b:=by first|with_reducible rfl|(simp only[q]<;>fail)|(simp only[q];rfl)|rfl|(simp[AL,eI,eB,eL,eS,q]<;>fail)):a=b:=h
theorem dLE {a b:List PV}(h:I5 a b:=by first|exact le_eq dE|exact NC|exact iU):I5 a b:=h
theorem dCl {a b:Env}(h:a=b:=by(try (conv=>lhs;cbv))<;>rfl):a=b:=h
theorem dCf {α:Type}{f g:α->Env}(h:∀ s,f s=g s:=by intro s;(try (conv=>lhs;cbv))<;>rfl):∀ s,f s=g s:=h
theorem dW {p:Prop}(h:p:=by
 cbv
 repeat' (first
  | (refine fBr ?_;refine PT O U dE ?_ ?_;all_goals (intro U;first|cbv|((conv=>whnf);cbv)|(conv=>whnf)))
  | (refine fCp ?_;refine aeQ O U (cI hM) dLE ?_;(intro _ U;cbv))
  | (refine fCp ?_;refine jC O U (cZ hM) dLE ?_;(intro _ U;cbv))
  | (refine amN ?_;refine ahw O hM U dE dE ?_;(intro _ U;cbv))
  | (refine amN ?_;refine aly O hM U dE dE ?_;(intro _ U;cbv))
  | (refine fEx ?_;refine d_xA dH U ?_;(try (conv=>lhs;cbv))<;>(first|exact dE|(subst hM;rfl)))
  | (refine hR _ ?_;have U:=Option.some.inj U;subst U;first|exact Xf dE|exact iU)
  | (refine hR _ _ _ ?_ ?_ rfl<;>(have U:=Option.some.inj U;subst U;first|exact Xf dE|exact iU))
  | (refine amO ?_;refine nM O U dE ?_;(intro U;cbv))
  | (refine fRow ?_;refine jv O hM U dE dE ?_;(intro _ U;cbv))
  | (refine fRow ?_;refine alz O hM U dE dE ?_;(intro _ U;cbv))
  | (refine fOrd ?_;refine aeI O aA ?_;cbv)
  | (refine alx ?_;refine d_kA O dH U dCl dCf ?_ ?_;all_goals (first|(intro I k hk U;cbv)|(intro s U;cbv)))
  | (refine alx ?_;refine amS O dH ?_;cbv)
  | (refine alx ?_;refine nz O ?_;cbv)
  | (refine amQ ?_;refine d_lA hT hW O rfl dH U dCl dCf dE ?_;(intro I k s hk U e J;subst J;cbv))
  | (refine fIx ?_;refine lh O U dE dE ?_;(intro _ _ U;cbv))
  | (refine fIx ?_;obtain⟨j,hj,T,U⟩:=aac U;refine ahx O dE ⟨j,hj,T,?_⟩;(first|(rcases lt2 hj with rfl|rfl)|(rcases lt3 hj with rfl|rfl|rfl)|(rcases lt5 hj with rfl|rfl|rfl|rfl|rfl)|(rcases lt6 hj with rfl|rfl|rfl|rfl|rfl|rfl)|(rcases lt11 hj with rfl|rfl|rfl|rfl|rfl|rfl|rfl|rfl|rfl|rfl|rfl));all_goals cbv)
  | (refine fWk ?_;refine amR O hM U iU ?_;(intro _ U;cbv))
  | (refine fCq ?_;refine QA O U (cI hM) dLE ?_;(intro _ U;cbv))
  | (refine fCf ?_;refine aeT O U (cI hM) dLE (λ_=>rfl) ?_;(intro _ U;cbv))
  | (refine fCa ?_;refine Em O U (cI hM) dLE (λ_=>rfl) ?_;(intro _ U;cbv))
  | (refine fCa ?_;refine ajM O U (cI hM) dLE ?_;(intro _ U;cbv))
  | (refine fCa ?_;refine jE O U (cZ hM) dLE iU rfl rfl rfl rfl ?_;(intro _ U;cbv))
  | (refine fCw ?_;refine VP O U (cZ hM) dLE iU rfl rfl ?_;(intro _ U;cbv))
  | (refine fCat ?_;refine YU O U dE dE ?_;(intro _ U;cbv))
  | (refine fSix ?_;refine aeU O U dE dE ?_;(intro _ U;cbv))
  | (refine fDiv ?_;refine Xg O U dE dE ?_;(intro _ U;cbv))
  | (refine fShf ?_;refine YT O U dE dE ?_;(intro _ U;cbv))
  | (refine fMks ?_;refine Nr O U dE dE ?_;(intro _ U;cbv))
  | (refine fSlc ?_;refine ab5 O U dE dE dE ?_;(intro _ _ U;cbv))
  | (refine fSsl ?_;refine amG O U dE dE dE ?_;(intro _ U;cbv))
  | (refine fNil ?_;refine amH O hM U dE (by intro h;subst h;exact λh=>h) ?_ ?_;all_goals (intro U;cbv))
  | (refine fSame ?_;refine zt O rfl ?_;cbv)
  | (refine fNu ?_;refine ajJ O ?_;intro _;cbv)
  | (refine fOrf ?_;refine ahq O aA ?_;cbv)
  | (refine amP ?_;refine Xa O aA ?_;cbv)
  | (split at U<;>cbv)
  | (cases U<;>fail))):p:=h
theorem wA {P:Program}{T:Tab}{M:gm}[m:HM M]{k:Nat}{fn:Func}{c:Code}{α:Type}{g:Option α}{args:List PV}{v:α->PV}{n:Nat}(hT:iZ P T)(U:P.funcs[k]?=some fn)
  (hcall:∀ args w,(callFunc k args).run P w=.ok (.enter k args) w) (hW:DR P:=by exact wf) (I:T.qc=0:=by rfl) (C:fn.body=some c:=by rfl) (J:fn.ntmps-args.length=n:=by rfl) (hyl:T.yl=none:=by rfl)
  (h:∀ r,g=some r->∀ S R,S=iq.jq P T->(∀ u,LeP u (v r)->R u)->iZ P T->DR P->M=kJ->SF M S->Kw T S c (ajf T S fn.results.toList R) ⟨vY args (sO n),[],0⟩:=by intro r U S R O hR hT hW hM q;exact dW):CW P T.gl M k g args v :=
 ⟨λ_ hy=>ahv hT I hW U C hcall J (hyl:=hyl) λS R O hR=>h _ hy S R O hR hT hW m.h (sf m.h O)⟩
theorem wZ {P:Program}{T:Tab}{M:gm}[m:HM M]{k:Nat}{fn:Func}{c:Code}{α:Type}{g:Option α}{args:List PV}{st0:St}{v:α->PV}{st1:α->St}{n1 n:Nat}(hT:iZ P T)(U:P.funcs[k]?=some fn)
  (hcall:∀ args w,(callFunc k args).run P w=.ok (.enter k args) w) (hW:DR P:=by exact wf) (I:fn.body=some c:=by rfl) (J:fn.ntmps-args.length=n:=by rfl) (hyl:T.yl=none:=by rfl)
  (h:∀ r,g=some r->∀ S R,S=iq.jq P T->(∀ u s n,LeP u (v r)->LeS s (st1 r)->n=n1->R u s n)->iZ P T->DR P->M=kJ->SF M S->Kw T S c (agN T S fn.results.toList R) ⟨vY args (sO n),st0,T.qc⟩:=by intro r U S R O hR hT hW hM q;exact dW):CS P T.gl M k g args st0 T.qc v st1 n1 :=
 ⟨λ_ hy=>Ad hT hW U I hcall J (hyl:=hyl) λS R O hR=>h _ hy S R O hR hT hW m.h (sf m.h O)⟩
theorem wC {P:Program}{T:Tab}{M:gm}[m:HM M]{k:Nat}{fn:Func}{c:Code}{α:Type}{g:Option α}{args:List PV}{st0:St}{v:α->PV}{st1:α->St}{n1 n:Nat}(hT:iZ P T)(U:P.funcs[k]?=some fn)
  (hcall:∀ args w,(callFunc k args).run P w=.ok (.enter k args) w) (cvs:List Cv) (hW:DR P:=by exact wf) (I:fn.body=some c:=by rfl) (J:fn.ntmps-args.length=n:=by rfl) (hyl:T.yl=none:=by rfl)
  (h:∀ r,g=some r->∀ S R,S=iq.jq P T->(∀ u s n,LeP u (v r)->LeS s (st1 r)->n=n1->R u s n)->iZ P T->DR P->M=kJ->SF M S->Kw T S c (Ua T S cvs fn.results.toList R) ⟨vY args (sO n),st0,T.qc⟩:=by intro r U S R O hR hT hW hM q;exact dW):CS P T.gl M k g args st0 T.qc v st1 n1 :=
 ⟨λ_ hy=>xY hT hW U I hcall J cvs (hyl:=hyl) λS R O hR=>h _ hy S R O hR hT hW m.h (sf m.h O)⟩
end Go.Pv
namespace Go.Pv
open Go
def Sim (v' v:PV):Prop:=∀ w Y σ u,Rep w Y σ v' u->Rep w Y σ v u
theorem Sim.refl (v:PV):Sim v v:=λ_ _ _ _ h=>h
theorem Sim.si (k:IntKind)(n:Int):Sim (.si k n) (.int k n):=λw Y σ u h=>by unfold Rep at h |-;exact h
theorem Sim.sb (b:Bool):Sim (.sb b) (.bool b):=λw Y σ u h=>by unfold Rep at h |-;exact h
def KS (v:PV)(δ:Dl):PV->Dl->Prop:=λv' δ'=>Sim v' v/\δ'=δ
theorem KS.refl (v:PV)(δ:Dl):KS v δ v δ:=⟨Sim.refl v,rfl⟩
end Go.Pv
namespace Go.Pv
open Go
abbrev Tab.at (T:Tab) (n:Nat):Tab:={ T with qc:=n }
def NN (t:Sb):Prop:=∀ b sz rows,agP t b≠some (.lN sz rows)
end Go.Pv
namespace Go.Pv
open Go
def GT (t:Sb)(n:Nat):Prop:=NN t/\∀ b,n<=b->agP t b=none
def FnV (P:Program)(T:Tab)(k:Nat)(args:List PV)(t:Sb)(n:Nat)(v:PV)(t' : Sb)(n' : Nat):Prop := GT t n->GT t' n'/\∀ (w:World) (Y:Nat->Prop) (σ:Sg) (cargs:List Value) (st:St),(∀ b,iV st b=agP t b)->Vs T.gl w Y->(∀ b,Y b->b<w.heap.size)->(∀ b,n<=b->σ b=none)->eQ w Y σ args cargs->FW w Y σ st -> (callFunc k cargs.toArray).run P w=.ok (.enter k cargs.toArray) w /\ Calls P k cargs.toArray w λe w'=>∃ cv Y' σ' st',e=.returned cv/\(∀ b,iV st' b=agP t' b)/\SW (yS (T.at n) w Y σ st) w' Y' σ' [v] [cv] st' n'
def alA (P:Program)(T:Tab)(call:aky):Prop:=∀ k args t n v t' n',call k args t n=some (v,t',n')->FnV P T k args t n v t' n'
structure EvOK {T:Tab}(C:Ctx T)(V:EV)(D:List Nat)(a:Act)(w:World):Prop where
 nn:GT V.st V.nx
 dfr:a.defers=marks D
 env:∃ ps st Y σ,(∀ i,getP V.tm i=ji ps i)/\V.n=ps.length/\(∀ b,iV st b=agP V.st b)/\SW C w Y σ ps a.tmps.toList st V.nx/\NI C.w0.heap.size D w Y
end Go.Pv
namespace Go.Pv
open Go
section
variable {P:Program}{T:Tab}
theorem SW.ab7 {C:Ctx T}{w:World}{Y:Nat->Prop}{σ:Sg}{ps:List PV}{vs:List Value}{st:St}{n:Nat}(H:SW C w Y σ ps vs st n)(g:NNs st)(o:Obj):SW C (w.alloc o) (λk=>Y k\/k=w.heap.size) σ ps vs st n:=by
 have hold:∀ k,k<w.heap.size->(w.alloc o).heap[k]?=w.heap[k]?:=by
  intro k hk;show(w.heap.push o)[k]?=_;rw[Array.getElem?_push,if_neg ae]
 have hsz:(w.alloc o).heap.size=w.heap.size+1:=by show(w.heap.push o).size=_;simp
 have K:Keep w (w.alloc o) Y (λk=>Y k\/k=w.heap.size) σ σ:=⟨λk hk _=>hold k hk,λk hk h=>h.resolve_right ae,by omega,nK.refl _⟩;refine⟨eQ.keep _ K _ H.vals,⟨λb x t=>?_,H.store.inj⟩,H.next,λk hk=>?_,λk hk=>.inl (H.y0 k hk),H.c0,λk hk J=>?_,?_,H.own,H.xG.keep K.none,H.fix,BB.none g⟩
 rcases H.store.blk b x t with ⟨l,I,hB⟩|h
 have:=hB.lt;exact .inl ⟨l,I,fF.keep K (hold _ this) ⟨λh=>h.resolve_right ae,.inl⟩ hB⟩
 exact .inr h
 rcases hk with h|h
 have:=H.wB k h;omega
 omega
 rcases hk with h|h
 exact H.xE k h J
 have:=H.qo.size;omega
 exact⟨H.qo.os,H.qo.tape,H.qo.output,by have:=H.qo.size;omega,λk hk hM=>by rw[hold k (Nat.lt_of_lt_of_le hk H.qo.size)];exact H.qo.block k hk hM⟩
theorem SW.ahC {C:Ctx T}{w:World}{Y:Nat->Prop}{σ:Sg}{ps:List PV}{vs:List Value}{st:St}{n:Nat}(H:SW C w Y σ ps vs st n)(hn:NNs st){l:Nat}{o:Obj}(o' : Obj)(hy:Y l)(hB:C.w0.heap.size<=l)(ho:w.heap[l]?=some o)(hc:ZZ o):SW C (w.putObj l o') Y σ ps vs st n:=by
 have J:∀ k,k≠l->(w.putObj l o').heap[k]?=w.heap[k]?:=λk hk=>World.putObj_heap_other hk;have hsz:(w.putObj l o').heap.size=w.heap.size:=by simp
 have K:Keep w (w.putObj l o') Y Y σ σ:=⟨λk _ hk=>J k λe=>hk (e ▸ hy),λ_ _ h=>h,by omega,nK.refl _⟩;refine⟨eQ.keep _ K _ H.vals,⟨λb x g=>?_,H.store.inj⟩,H.next,λk hk=>by rw[hsz];exact H.wB k hk,H.y0,H.c0,H.xE,?_,H.own,H.xG.keep K.none,H.fix,BB.none hn⟩
 rcases H.store.blk b x g with ⟨l2,t,I⟩|h
 refine .inl ⟨l2,t,fF.keep K (J _ λe=>?_) Iff.rfl I⟩;rcases Ff.cells H.store (k:=l2.cb) ⟨b,x,l2,g,t,rfl⟩ with ⟨arr,ty,h1⟩|⟨es,ck,h1⟩
 rw[e,ho] at h1;cases h1;exact hc.1 arr ty rfl
 rw[e,ho] at h1;cases h1;exact hc.2 es ck rfl
 exact .inr h
 exact⟨H.qo.os,H.qo.tape,H.qo.output,by rw[hsz];exact H.qo.size,λk hk hM=>by rw[J k ae];exact H.qo.block k hk hM⟩
end
end Go.Pv
namespace Go.Pv
open Go
section
variable {P:Program}{T:Tab}
variable (hT:iZ P T)(hW:DR P)(hnar:T.lN=0)(hgl:∀ g,T.gl g=none){call:aky}(hcall:alA P T call)
theorem RJ {fn:Func}{R:Ending->World->Prop}{C:Ctx T}{Y:Nat->Prop}{σ:Sg}{ps:List PV}{tmps:Array Value}{st:St}{n:Nat}(hn:NNs st):∀ (D:List Nat) (w:World),SW C w Y σ ps tmps.toList st n->NI C.w0.heap.size D w Y ->
  (∀ w',SW C w' Y σ ps tmps.toList st n->∃ v,(results fn tmps).run P w'=.ok v w'/\R (.returned v) w')->LeavesInM Fence.wide 1 P fn tmps R (marks D) .returning w
 | [],w,H,_,hR=>by
  obtain⟨v,h1,h2⟩:=hR w H;exact⟨v,h1,h2⟩
 | r::D,w,H,hD,hR=>by
  obtain⟨I,J⟩:=hD;obtain⟨h0,h1,h2⟩:=J r aj;have g:=(List.nodup_cons.1 I).1;have H':=H.ahC hn (.deferred none) h1 h0 h2 ⟨λ_ _ e=>bD,λ_ _ e=>bD⟩;refine⟨by simp,.inl ⟨r,w.putObj r (.deferred none),rfl,run_takeDeferred h2,?_⟩⟩
  exact RJ hn D _ H' ⟨(List.nodup_cons.1 I).2,λq hq=>by
   obtain⟨g0,g1,g2⟩:=J q (by simp[hq]);refine⟨g0,g1,?_⟩;have t:q≠r:=by rintro rfl;exact g hq
   rw[World.putObj_heap_other t];exact g2⟩ hR
end
end Go.Pv
namespace Go.Pv
open Go
section
variable {P:Program}{T:Tab}
def Ctx.dfr (C:Ctx T)(d:List Deferred):Ctx T:={ C with df:=d }
theorem SW.df {C:Ctx T}{w:World}{Y:Nat->Prop}{σ:Sg}{ps:List PV}{vs:List Value}{st:St}{n:Nat}(H:SW C w Y σ ps vs st n)(d:List Deferred):SW (C.dfr d) w Y σ ps vs st n :=
 ⟨H.vals,H.store,H.next,H.wB,H.y0,H.c0,H.xE,H.qo,H.own,H.xG,H.fix,H.nest⟩
theorem SW.undf {C:Ctx T}{w:World}{Y:Nat->Prop}{σ:Sg}{ps:List PV}{vs:List Value}{st:St}{n:Nat}{d:List Deferred}(H:SW (C.dfr d) w Y σ ps vs st n):SW C w Y σ ps vs st n :=
 ⟨H.vals,H.store,H.next,H.wB,H.y0,H.c0,H.xE,H.qo,H.own,H.xG,H.fix,H.nest⟩
def liftM (C:Ctx T)(Q:Post):Exit->Act->World->Prop
 | .normal,a,w=>∃ E D,ZF C D E a w/\Q 0 E
 | .ret,a,w=>∃ E D,ZF C D E a w/\Q 1 E
 | .exit n,a,w=>∃ E D,ZF C D E a w/\Q (n+2) E
 | _,_,_=>False
def aag (P:Program)(T:Tab)(c:Code)(Q:Post)(E:Env):Prop:=∀ (C:Ctx T) D a w,ZF C D E a w->c.wp P (liftM C Q) a w
theorem VF.m (hyl:T.yl=none){c:Code}{Q:Post}{E:Env}(g:lF E.st=true)(h:VF P T c Q E):aag P T c Q E:=by
 rintro C D a w ⟨Y,σ,H,hd,hD⟩
 have hN:=ql _ g;refine wp_mono (h ((yS T w Y σ E.st).dfr (marks D)) a w ⟨⟨Y,σ,(H.Ru hN).df _⟩,hd,YOK.none hyl⟩) ?_
 have key:∀ n J w',(∃ t,kZ ((yS T w Y σ E.st).dfr (marks D)) t J w'/\Q n t)->∃ E D,ZF C D E J w'/\Q n E:=by
  rintro n J w' ⟨t,⟨⟨Y',σ',H'⟩,hd',_⟩,I⟩
  have H2:=H'.undf;exact⟨t,D,⟨Y',σ',H.KH H2,hd',hD.step H.store H2⟩,I⟩
 intro e J w' I
 cases e with
 | normal=>exact key 0 J w' I
 | ret=>exact key 1 J w' I
 | exit n=>exact key _ J w' I
 | _=>exact I.elim
def KL:Code->Bool
 | .rangeFunc _ _ _ _=>false
 | .seq x y=>KL x&&KL y
 | .cond _ x y=>KL x&&KL y
 | .block _ b=>KL b
 | .loop b=>KL b
 | .scope b=>KL b
 | _=>true
def ahD (T:Tab)(S:iq)(c:Code)(Q:Post)(E:Env):Prop :=
 match lF E.st with
 | true=>Kw T S c Q E
 | false=>False
def mwp (T:Tab)(S:iq):Code->Post->Env->Prop
 | .seq x y,Q,E=>bif KL x&&KL y then ahD T S (.seq x y) Q E else mwp T S x (JM (mwp T S y Q) Q) E
 | .block id b,Q,E=>bif KL b then ahD T S (.block id b) Q E else mwp T S b (amo id Q) E
 | .rangeFunc g ps x y,Q,E=>S.rng g ps x y (Q 0) E
 | c,Q,E=>ahD T S c Q E
theorem QC (hT:iZ P T)(hW:DR P)(hyl:T.yl=none){c:Code}{Q:Post}{E:Env}(h:ahD T (iq.jq P T) c Q E):aag P T c Q E:=by
 unfold ahD at h
 cases J:lF E.st with
 | false=>grind
 | true=>rw[J] at h;exact(Be hT hW c Q E h).m hyl J
theorem liftM_seq {C:Ctx T}{b:Code}{Q:Post}{nx:Env->Prop}(I:∀ E D a w,ZF C D E a w->nx E->b.wp P (liftM C Q) a w):∀ e a w,liftM C (JM nx Q) e a w->Exit.then (b.wp P (liftM C Q)) (liftM C Q) e a w:=by
 intro e a w h
 cases e with
 | normal=>obtain⟨E,D,hA,J⟩:=h;exact I E D a w hA J
 | ret=>obtain⟨E,D,hA,J⟩:=h;exact⟨E,D,hA,J⟩
 | exit n=>obtain⟨E,D,hA,J⟩:=h;exact⟨E,D,hA,J⟩
 | _=>exact h.elim
theorem afS (hT:iZ P T)(hW:DR P)(hyl:T.yl=none):∀ (c:Code) (Q:Post) (E:Env),mwp T (iq.jq P T) c Q E->aag P T c Q E:=by
 intro c
 induction c with
 | seq x y ihx ihy=>
  intro Q E h;simp only[mwp] at h
  cases hs:KL x&&KL y with
  | true=>grind[QC]
  | false=>
   rw[hs] at h;intro C D a w hA;exact wp_seq (wp_mono (ihx _ E h C D a w hA) (liftM_seq λt D' a' w' I J=>ihy Q t J C D' a' w' I))
 | block id b ih=>
  intro Q E h;simp only[mwp] at h
  cases hs:KL b with
  | true=>grind[QC]
  | false=>
   rw[hs] at h;intro C D a w hA;refine wp_block (wp_mono (ih _ E h C D a w hA) λe a' w' J=>?_)
   cases e with
   | normal=>exact J
   | ret=>exact J
   | exit n=>
    obtain⟨t,D',I,J⟩:=J;simp only[Exit.inBlock];have J:(bif Nat.beq n id then Q 0 t else Q (n+2) t):=J
    by_cases hn:n=id
    rw[if_pos hn];subst hn;simp only[Nat.beq_refl,cond_true] at J;exact⟨t,D',I,J⟩
    rw[if_neg hn];rw[Wx hn] at J;exact⟨t,D',I,J⟩
   | _=>exact J.elim
 | rangeFunc g ps x y ihx ihy=>
  intro Q E h C D a w hA;refine wp_mono (h C D a w hA) ?_
  rintro e a' w' ⟨rfl,t,D',I,J⟩
  exact⟨t,D',I,J⟩
 | _=>intro Q E h;exact QC hT hW hyl h
theorem SW.alB {T' : Tab}(hgl:T'.gl=T.gl)(hp:T'.qc=T.qc){w wb I:World}{Y Y3:Nat->Prop}{σ σ3:Sg}{st st3:St}{ps:List PV}{vs:List Value}{n3 l:Nat}{rc r1:Loop}(C:wb=w.putObj l (.loop r1))(hl:w.heap[l]?=some (.loop rc))(hy:Y l)
  (hst:FW w Y σ st) (J:SW (yS T wb Y σ st) I Y3 σ3 ps vs st3 n3) (hNN:NNs st3):I.heap[l]?=some (.loop r1)/\SW (yS T' w Y σ st) (I.putObj l (.loop rc)) Y3 σ3 ps vs st3 n3:=by
 have hlt:l<w.heap.size:=(Array.getElem?_eq_some_iff.1 hl).1;have hsz:wb.heap.size=w.heap.size:=by rw[C];simp
 have hni:¬ Ff σ st l:=λh=>by
  rcases h.cells hst with ⟨arr,ty,h1⟩|⟨es,ck,h1⟩<;>grind
 have hb:wb.heap[l]?=some (.loop r1):=by grind[World.putObj_heap_same]
 have hbo:∀ k,k≠l->wb.heap[k]?=w.heap[k]?:=λk hk=>by grind[World.putObj_heap_other]
 have h3:I.heap[l]?=some (.loop r1):=by
  have:=J.qo.block l (show l<wb.heap.size by grind) (λh=>hni h.2);rw[this];exact hb
 have hy3:Y3 l:=J.y0 l ⟨hy,hni⟩;have g:∀ k,k≠l->(I.putObj l (.loop rc)).heap[k]?=I.heap[k]?:=λk hk=>World.putObj_heap_other hk;have hsz3:(I.putObj l (.loop rc)).heap.size=I.heap.size:=by simp
 have hle:w.heap.size<=I.heap.size:=by have:=J.qo.size;have this:wb.heap.size<=I.heap.size:=this;omega
 have K:Keep I (I.putObj l (.loop rc)) Y3 Y3 σ3 σ3:=⟨λk _ hk=>g k λe=>hk (e ▸ hy3),λ_ _ h=>h,by omega,nK.refl _⟩;refine⟨h3,eQ.keep _ K _ J.vals,⟨λb x hx=>?_,J.store.inj⟩,J.next,λk hk=>by rw[hsz3];exact J.wB k hk,J.y0,λk hk=>?_,λk hk t=>?_,?_,λb x l' h1 h2=>?_,?_,⟨by rw[hp];exact J.fix.1,λb hb=>J.fix.2 b ai⟩,BB.none hNN⟩
 rcases J.store.blk b x hx with ⟨l2,hl2,hBl⟩|h
 refine .inl ⟨l2,hl2,fF.keep K (g _ λe=>?_) Iff.rfl hBl⟩;rcases Ff.cells J.store (k:=l2.cb) ⟨b,x,l2,hx,hl2,rfl⟩ with ⟨arr,ty,h1⟩|⟨es,ck,h1⟩<;>grind
 exact .inr h
 have:=J.c0 k hk;exact⟨by have h:=this.1;have h:k<wb.heap.size:=h;show k<w.heap.size;omega,this.2⟩
 have t : k<w.heap.size:=t;exact J.xE k hk (show k<wb.heap.size by omega)
 refine⟨?_,?_,?_,by rw[hsz3];exact hle,λk hk hM=>?_⟩
 show I.os=w.os;have h:=J.qo.os;have h:I.os=wb.os:=h;rw[h,C];rfl
 show I.tape=w.tape;have h:=J.qo.tape;have h:I.tape=wb.tape:=h;rw[h,C];rfl
 show I.output=w.output;have h:=J.qo.output;have h:I.output=wb.output:=h;rw[h,C];rfl
 have hk:k<w.heap.size:=hk;show(I.putObj l (.loop rc)).heap[k]?=w.heap[k]?
 by_cases e:k=l
 grind[World.putObj_heap_same]
 have h:=J.qo.block k (show k<wb.heap.size by omega) hM;have h:I.heap[k]?=wb.heap[k]?:=h
 grind
 rcases J.own b x l' h1 h2 with h|h
 have h:wb.heap.size<=l'.cb:=h;exact .inl (show w.heap.size<=l'.cb by omega)
 exact .inr h
 rw[hgl];exact J.xG.keep K.none
def nnK (st:St)(p:Prop):Prop:=match lF st with|true=>p|false=>False
theorem adB {st:St}{p:Prop}(h:nnK st p):lF st=true/\p:=by
 unfold nnK at h
 grind
def Va:Nat->List PV
 | 0=>[]
 | n+1=>.top::Va n
theorem YY {w:World}{Y:Nat->Prop}{σ:Sg}:∀ (vs:List Value),eQ w Y σ (Va vs.length) vs
 | []=>by simp[Va,eQ]
 | v::vs=>by
  simp only[List.length_cons,Va];unfold eQ;exact⟨v,vs,rfl,by simp[Rep],YY vs⟩
def amT (T:Tab)(S:iq)(cvs:List Cv)(R:PV->St->Nat->Prop)(E:Env):Prop := nnK E.st (match Lp S cvs E with|E=>match abu (UW T.qc E.st []) [] E.st with|E=>R (.bool true) E.st E.next)
theorem SW.flip {C:Ctx T}{w:World}{Y:Nat->Prop}{σ:Sg}{ps:List PV}{vs:List Value}{st:St}{n l:Nat}{rc r1:Loop}(H:SW C w Y σ ps vs st n)(hn:NNs st)(hy:Y l)(hl:w.heap[l]?=some (.loop rc)) :
  SW (yS T (w.putObj l (.loop r1)) Y σ st) (w.putObj l (.loop r1)) Y σ ps vs st n:=by
 have J:∀ k,k≠l->(w.putObj l (.loop r1)).heap[k]?=w.heap[k]?:=λk hk=>World.putObj_heap_other hk;have hsz:(w.putObj l (.loop r1)).heap.size=w.heap.size:=by simp
 have K:Keep w (w.putObj l (.loop r1)) Y Y σ σ:=⟨λk _ hk=>J k λe=>hk (e ▸ hy),λ_ _ h=>h,by omega,nK.refl _⟩;refine⟨eQ.keep _ K _ H.vals,⟨λb x g=>?_,H.store.inj⟩,H.next,λk hk=>by rw[hsz];exact H.wB k hk,λ_ h=>h.1,λk h=>⟨by show k<(w.putObj l (.loop r1)).heap.size;rw[hsz];exact H.wB k h.1,h.2⟩,λk h _=>?_,Nz.refl _ _,λb x l' h1 h2=>.inr ⟨b,x,l',h1,h2,rfl⟩,H.xG.keep K.none,⟨H.fix.1,λ_ _=>rfl⟩,BB.none hn⟩
 rcases H.store.blk b x g with ⟨l2,I,t⟩|h
 refine .inl ⟨l2,I,fF.keep K (J _ λe=>?_) Iff.rfl t⟩;rcases Ff.cells H.store (k:=l2.cb) ⟨b,x,l2,g,I,rfl⟩ with ⟨arr,ty,h1⟩|⟨es,ck,h1⟩<;>grind
 exact .inr h
 by_cases hi:Ff σ st k
 exact .inr ⟨h,hi⟩
 exact .inl ⟨h,hi⟩
theorem amU (hT:iZ P T)(hW:DR P)(hyl:T.yl=none){l:Nat}{rc:Loop}{pv:Value}{x:PV}{st:St}{ia ib rb t0 pt N:Nat}{oa ob:Array Oper}{R:PV->St->Nat->Prop}(cvs:List Cv)
  (has:rc.assign=.region ia oa false) (hbo:rc.body=.block ib (.region rb ob false)) (hst:rc.state=.ready) (hpe:rc.pending=none) (hps:rc.params=#[pt]) (hpv:rc.tmps.toList[t0]?=some pv) (hne:pt≠t0) (hN:rc.tmps.size=N)
  (h:∀ S,S=iq.jq P T->opsE T S oa oa.toList ⟨nV (nV (Va N) t0 (.lv 0 0)) pt x,st,T.qc⟩ λE1=>nnK E1.st (opsE T S ob ob.toList E1 λE2=>amT T S cvs R E2)):YS P T.gl l rc pv [x] st T.qc R:=by
 intro w Y σ cargs hG hY hn hr hstR hnn hYl hl hpv';obtain⟨c,rfl,hc⟩:=Jf hr;refine⟨by rw[hps];rfl,?_⟩;have hN0:=ql _ hnn
 let C:Ctx T:=yS T w Y σ st
 let tm:=rc.tmps.setIfInBounds pt c
 have htm:(rc.params.zip [c].toArray).foldl (λtmps (t,a)=>tmps.setIfInBounds t a) rc.tmps=tm:=by
  have hz:rc.params.zip [c].toArray=#[(pt,c)]:=by grind
  grind
 rw[htm];have hlen:rc.tmps.toList.length=N:=by simpa using hN
 have hvals:eQ w Y σ (nV (nV (Va N) t0 (.lv 0 0)) pt x) tm.toList:=by
  grind[eQ.set,YY,List.set_getElem_self]
 have H0:SW C w Y σ (nV (nV (Va N) t0 (.lv 0 0)) pt x) tm.toList st T.qc:=by
  refine⟨hvals,hstR,hn,hY,λ_ h=>h.1,λk h=>⟨hY k h.1,h.2⟩,λk h _=>?_,Nz.refl _ w,λb x l h1 h2=>.inr ⟨b,x,l,h1,h2,rfl⟩,hG,⟨Nat.le_refl _,λ_ _=>rfl⟩,BB.none hN0⟩
  by_cases hi:Ff σ st k
  exact .inr ⟨h,hi⟩
  exact .inl ⟨h,hi⟩
 refine roundIn_of_wpIn (F:=Fence.wide) (n:=0) trivial ?_;rw[has,hbo];refine wpIn_region_list (F:=fW (some l)) (n:=0) (BK hT hW (some l) oa.toList _ _ (h _ rfl) _ w (C:=C) ⟨⟨Y,σ,H0⟩,rfl,YOK.none hyl⟩ ?_)
 rintro E1 a1 w1 ⟨⟨Y1,σ1,H1⟩,hd1,_⟩ hK1
 obtain⟨hn1,hK1⟩:=adB hK1;have hN1:=ql _ hn1;obtain⟨hl1,I⟩:=H1.kept hstR hl ⟨λ_ _ e=>bD,λ_ _ e=>bD⟩;have I:=I hYl;refine⟨_,run_beginRound hl1 hst,?_⟩;have H2:=H1.flip (r1:={ rc with state:=.busy }) hN1 I hl1;refine wpIn_block (F:=fW (some l)) (n:=0) (wpIn_region_list (F:=fW (some l)) (n:=0) (BK hT hW (some l) ob.toList _ _ hK1 _ _ (C:=yS T (w1.putObj l (.loop { rc with state:=.busy })) Y1 σ1 E1.st) ⟨⟨Y1,σ1,H2⟩,hd1,YOK.none hyl⟩ ?_))
 rintro E2 a2 w3 ⟨⟨Y3,σ3,H3⟩,hd2,_⟩ hK2
 obtain⟨hn2,hK2⟩:=adB hK2;have hN2:=ql _ hn2;obtain⟨hl3,H4⟩:=SW.alB (T':=T) rfl rfl rfl hl1 I H1.store H3 hN2
 have hrc:({ { rc with state:=LoopState.busy } with state:=if (none:Option Code).isNone then LoopState.ready else LoopState.done,pending:=none }:Loop)=rc:=by
  cases rc;grind
 have g:=run_endRound (P:=P) none hl3;rw[hrc] at g;refine⟨_,_,g,?_⟩;have H5:=H1.KH H4;obtain⟨⟨Y6,σ6,H6⟩,_⟩:=BL (P:=P) (T':=T) cvs E2 C { a2 with defers:=[] } _ ⟨⟨Y3,σ3,H5⟩,rfl,YOK.none hyl⟩;generalize Lp (iq.jq P T) cvs E2=E3 at *;have H7:SW C _ Y6 σ6 [.bool true] [.bool true] E3.st E3.next:=H6.rH (by unfold eQ;exact⟨_,_,rfl,by simp[Rep],by unfold eQ;rfl⟩)
 obtain⟨h1,h2,h3⟩:=NM T.qc E3.st [];obtain⟨σ7,J,_⟩:=H7.abu h1 h2 h3;exact⟨.bool true,.bool true,_,_,Y6,σ7,rfl,hK2,⟨J.vals,J.store,J.next,J.wB,J.y0,J.c0,J.xE,J.qo,J.own,J.xG,J.fix,J.nest⟩⟩
def Tab.y (T:Tab)(l:Nat)(rc:Loop)(pv:Value):Tab:=⟨T.ti,T.gl,T.qc,T.cut,T.lN,T.own,T.dcl,some (l,rc,pv),T.hid⟩
theorem iZ.y {l:Nat}{rc:Loop}{J:Value}(h:iZ P T):iZ P (T.y l rc J):=h
theorem aah (hT:iZ P T)(hW:DR P)(hp:0<T.qc){k:Nat}{fn:Func}{c:Code}(U:P.funcs[k]?=some fn)(hb:fn.body=some c)
  (hcall:∀ args w,(callFunc k args).run P w=.ok (.enter k args) w) {args:List PV} {st:St} {Yc:Nat->Loop->Value->Prop} {R:PV->St->Nat->Prop} {m:Nat} (hm:fn.ntmps-(args.length+1)=m)
  (cvs:List Cv) (h:∀ l rc J,Yc l rc J->∀ S,S=iq.jq P (T.y l rc J)->Kw (T.y l rc J) S c (Ua (T.y l rc J) S cvs fn.results.toList R) ⟨vY (.yl l::args) (sO m),st,T.qc⟩):FnY P T.gl k args st T.qc Yc R:=by
 intro l rc J hyc w Y σ cargs hG hY hn I C hnn hyl hl t;refine NZ (T:=T.y l rc J) hT hW U hb hcall (args:=.yl l::args) hm cvs (h l rc J hyc) hG hY hn I C hnn ?_;intro l' rc' pv' e;cases (Option.some.inj e:(l,rc,J)=(l',rc',pv'))
 have g:¬ Ff σ st l:=λh=>by
  rcases h.cells C with ⟨arr,ty,h1⟩|⟨es,ck,h1⟩<;>grind
 unfold Rep at t;obtain⟨l0,h1,h2⟩:=t;exact⟨⟨hyl,g⟩,λh=>g h.2,hl,hp,l0,h1,h2⟩
theorem ahE (hT:iZ P T)(hW:DR P)(hp:0<T.qc){k:Nat}{fn:Func}{c:Code}(U:P.funcs[k]?=some fn)(hb:fn.body=some c)
  (hcall:∀ args w,(callFunc k args).run P w=.ok (.enter k args) w) {args:List PV} {st:St} {Yc:Nat->Loop->Value->Prop} {v:PV} {st1:St} {n1:Nat} {m:Nat} (hm:fn.ntmps-(args.length+1)=m)
  (cvs:List Cv) (h:∀ l rc J,Yc l rc J->∀ S R,S=iq.jq P (T.y l rc J)->(∀ u s n,LeP u v->LeS s st1->n=n1->R u s n)->Kw (T.y l rc J) S c (Ua (T.y l rc J) S cvs fn.results.toList R) ⟨vY (.yl l::args) (sO m),st,T.qc⟩) :
  FnY P T.gl k args st T.qc Yc (λu s n=>u=v/\s=st1/\n=n1):=by
 have H:=aah hT hW hp U hb hcall hm (st:=st) (cvs:=cvs) (Yc:=Yc) (R:=λu s n=>LeP u v/\LeS s st1/\n=n1) λl rc J I S O=>h l rc J I S _ O λ_ _ _ h1 h2 g=>⟨h1,h2,g⟩
 intro l rc J I w Y σ C hG hY hn hr t hnn hyl hl hpv;obtain⟨h1,h2⟩:=H l rc J I w Y σ C hG hY hn hr t hnn hyl hl hpv;refine⟨h1,Calls.mono h2 λe w' hh=>?_⟩;obtain⟨cv,u,s,n,Y',σ',he,⟨g,h4,h5⟩,H⟩:=hh;refine⟨cv,v,st1,n,Y',σ',he,⟨rfl,rfl,h5⟩,?_⟩
 have hv:eQ w' Y' σ' [v] [cv]:=by
  have:=H.vals;unfold eQ at this |-;obtain⟨c,cs,e,h6,h7⟩:=this;cases e;exact⟨_,_,rfl,g.rep _ h6,by grind⟩
 exact(H.rH hv).RD (h4.RD w' Y' σ')
theorem alC {g:Operand}{ps:Array Tmp}{x y:Code}{K:Env->Prop}{E:Env}{k t0 b0:Nat}{I:List PV}{ρ:List Nat}{v:PV}{st1:St}{n1:Nat}{Yc:Nat->Loop->Value->Prop}
  (hg:sK T E.tmps g=.fn k I) (ht:ji E.tmps t0=.lv b0 0) (hnn:lF E.st=true) (hnd:NG ρ=true) (hlt:ltN E.next ρ=true) (hnr:lF (zq (zK ρ) E.st 0 ρ)=true) (h0:ρ[0]?=some b0)
  (hF:FnY P T.gl k (BA (wz (zK ρ) 8) I) (zq (zK ρ) E.st 0 ρ) (lH ρ) Yc (λu st n=>u=v/\st=st1/\n=n1))
  (hY:∀ l rc pv,rc.assign=x->rc.body=y->rc.state=.ready->rc.pending=none->rc.params=ps->rc.tmps.toList[t0]?=some pv->rc.tmps.size=E.tmps.length->Yc l rc pv)
  (hK:K (F5 ρ E st1 n1)) (hn1:lF (F5 ρ E st1 n1).st=true):afB P T g ps x y K E:=by
 rintro C D a w ⟨Y,σ,H,hdf,hD⟩
 have hN:=ql _ hnn;have hN3:=ql _ hn1;have hgv:=kW H g;rw[hg] at hgv;unfold Rep at hgv;obtain⟨cs,eg,hcs⟩:=hgv;have hpv0:=H.vals.get _ _ t0;rw[ht] at hpv0;refine wpIn_wide.1 (wpIn_rangeFunc (F:=Fence.wide) (n:=1) λfn _=>?_)
 let rc:Loop:={ state:=.ready,pending:=none,fn,tmps:=a.tmps,params:=ps,assign:=x,body:=y,defers:=w.heap.size }
 let t:=(w.alloc (.deferred (some []))).alloc (.loop rc)
 have hD1:t.heap[w.heap.size]?=some (.deferred (some [])):=by
  show((w.heap.push _).push _)[w.heap.size]?=_
  grind
 have hL1:t.heap[w.heap.size+1]?=some (.loop rc):=by
  show((w.heap.push _).push _)[w.heap.size+1]?=_
  grind
 have hold:∀ k,k<w.heap.size->t.heap[k]?=w.heap[k]?:=λk hk=>by
  show((w.heap.push _).push _)[k]?=_
  grind
 have H0:=H.ab7 hN (.deferred (some []));have H1:=H0.ab7 hN (.loop rc);have hsz:(w.alloc (.deferred (some []))).heap.size=w.heap.size+1:=by simp
 rw[hsz] at H1
 have K1:Keep w t Y (λk=>(Y k\/k=w.heap.size)\/k=w.heap.size+1) σ σ:=⟨λk hk _=>hold k hk,λk hk h=>by
  grind,by grind,nK.refl _⟩
 have harg:eQ t (λk=>(Y k\/k=w.heap.size)\/k=w.heap.size+1) σ (.yl (w.heap.size+1)::I) (.func (.yield (w.heap.size+1)) #[] #[]::cs):=by
  unfold eQ;exact⟨_,cs,rfl,by simp[Rep],eQ.keep I K1 cs hcs⟩
 have hlt0:t0<a.tmps.toList.length:=by
  have hl:=eQ.length _ _ H.vals
  grind[F6]
 obtain⟨pv,hpv⟩:∃ pv,a.tmps.toList[t0]?=some pv:=⟨_,List.getElem?_eq_getElem hlt0⟩
 have hpvr:Rep w Y σ (.lv b0 0) pv:=by
  grind
 have hyc:Yc (w.heap.size+1) rc pv:=hY _ rc pv rfl rfl rfl rfl rfl hpv (by have:=eQ.length _ _ H.vals;simpa using this)
 have key:=ZT (P:=P) (N:=E.next+(n1-lH ρ)) (v:=v) (st1:=st1) (n1:=n1) (ρ:=ρ)
  (Z:=λw' Y'=>(w'.heap[w.heap.size]?=some (.deferred (some []))/\Y' w.heap.size)/\(w'.heap[w.heap.size+1]?=some (.loop rc)/\Y' (w.heap.size+1))/\∀ r∈D,w'.heap[r]?=some (.deferred (some []))/\Y' r)
  (X:=λR=>(callFunc k (Value.func (.yield (w.heap.size+1)) #[] #[]::cs).toArray).run P t=.ok (.enter k (Value.func (.yield (w.heap.size+1)) #[] #[]::cs).toArray) t/\Calls P k (Value.func (.yield (w.heap.size+1)) #[] #[]::cs).toArray t R)
  H1 hnd hlt H.fix.1 (λb hb _=>H.next b hb) ⟨Nat.le_refl _,Nat.le_add_right _ _⟩ harg (by grind[Calls.mono])
  (λσc hσc hnext hra J=>by
   obtain⟨h1,h2⟩:=hF _ rc pv hyc t _ σc _ H1.xG H1.wB hnext hra J hnr (.inr rfl) hL1 (by
    grind[Rep])
   refine⟨h1,Calls.mono h2 λe w' hh=>?_⟩;obtain⟨cv,u,st',n',Y',σ',h3,h4,h5⟩:=hh;have nd:ZZ (.deferred (some [])):=⟨λ_ _ e=>bD,λ_ _ e=>bD⟩;obtain⟨g1,g2⟩:=h5.kept J hD1 nd;obtain⟨g3,g4⟩:=h5.kept J hL1 ⟨λ_ _ e=>bD,λ_ _ e=>bD⟩;refine⟨cv,u,st',n',Y',σ',h3,h4,h5,⟨g1,g2 (.inl (.inr rfl))⟩,⟨g3,g4 (.inr rfl)⟩,λr hr=>?_⟩;obtain⟨d0,d1,d2⟩:=hD.2 r hr;have hlt:=(Array.getElem?_eq_some_iff.1 d2).1;obtain⟨g5,g6⟩:=h5.kept J (k:=r) ai nd
   grind)
 obtain⟨hent,hcalls⟩:=key;have e : #[.func (.yield (w.heap.size+1)) #[] #[]]++cs.toArray=(Value.func (.yield (w.heap.size+1)) #[] #[]::cs).toArray:=by grind
 refine⟨w.heap.size+1,[{ target:=.collected w.heap.size,args:=#[] }],t,{ target:=.fn (.func k) cs.toArray,args:=#[.func (.yield (w.heap.size+1)) #[] #[]] },t,k,
  #[.func (.yield (w.heap.size+1)) #[] #[]]++cs.toArray,t,run_enterLoop_outer _ _ _ _ _,?_,λ_ _=>trivial,?_,λe=>by grind,?_⟩
 simp only[resolve,eg];simp[go_sem]
 grind[invoke]
 rw[callsIn_wide,e];refine Calls.mono hcalls λed w3 hh=>?_;obtain⟨cv,Y3,σ3,rfl,H3,_,_,⟨g1,g2⟩,⟨g3,g4⟩,gD⟩:=hh;have H5:=H3.ahC hN3 (.loop { rc with state:=.exhausted }) g4 (by have:=H.qo.size;omega) g3 ⟨λ_ _ e=>bD,λ_ _ e=>bD⟩;refine⟨none,_,run_endLoop g3 (by simp[rc]),rfl,F5 ρ E st1 n1,w.heap.size::D,⟨Y3,σ3,H5,?_,?_⟩,hK⟩
 grind[marks]
 have hne:∀ r∈D,r<w.heap.size:=λr hr=>(Array.getElem?_eq_some_iff.1 (hD.2 r hr).2.2).1;refine⟨List.nodup_cons.2 ⟨λhm=>by grind,hD.1⟩,λr hr=>?_⟩;rcases List.mem_cons.1 hr with rfl|hr
 exact⟨H.qo.size,g2,by grind[World.putObj_heap_other]⟩
 have:=hne r hr;exact⟨(hD.2 r hr).1,(gD r hr).2,by grind[World.putObj_heap_other]⟩
def akG (T:Tab)(S:iq)(rs:List ResultVar)(R:PV->Prop):Post
 | 0,E=>nnK E.st (abx T S rs E R)
 | 1,E=>nnK E.st (abx T S rs E R)
 | _+2,_=>False
theorem ab8 (hT:iZ P T)(hp:T.qc=0)(hW:DR P){k:Nat}{fn:Func}{c:Code}(U:P.funcs[k]?=some fn)(hb:fn.body=some c)
  (hcall:∀ args w,(callFunc k args).run P w=.ok (.enter k args) w) {args:List PV} {R:PV->Prop} {m:Nat} (hm:fn.ntmps-args.length=m)
  (h:∀ S,S=iq.jq P T->mwp T S c (akG T S fn.results.toList R) ⟨vY args (sO m),[],0⟩) (hyl:T.yl=none:=by rfl):Fn P T.gl k args R:=by
 intro w Y J hG hY I;refine⟨hcall _ _,?_⟩
 let C:Ctx T:=⟨w,Y,λ_=>False,λ_=>False,ik,[]⟩;have hlen:=I.length
 have H0:SW C w Y ik (vY args (sO m)) ((J.toArray++Array.replicate (fn.ntmps-J.toArray.size) Go.undef).toList) [] 0:=by
  refine⟨?_,⟨λb x h=>by simp[iV] at h,λb b' x x' l l' h=>by simp[iV] at h⟩,λ_ _=>rfl,hY,λ_ h=>h,λk h=>⟨hY k h,λh=>h⟩,λk h _=>.inl h,Nz.refl _ w,λb x l h=>by simp[iV] at h,hG,⟨by omega,λ_ h=>by omega⟩,BB.none λb sz rows h=>by simp[iV] at h⟩
  grind[Array.replicate,eQ.app,Ia]
 have hwp:=afS hT hW hyl c _ _ (h _ rfl) C [] { tmps:=J.toArray++Array.replicate (fn.ntmps-J.toArray.size) Go.undef,defers:=[] } w ⟨Y,ik,H0,rfl,List.nodup_nil,λr hr=>by cases hr⟩;refine callsIn_wide.1 (callsIn_of_wp_marks (F:=Fence.wide) (n:=1) U hb trivial (wpIn_wide.2 (wp_mono hwp ?_)))
 have key:∀ (a:Act) (w' : World),(∃ E D,ZF C D E a w'/\nnK E.st (abx T (iq.jq P T) fn.results.toList E R)) ->
   LeavesInM Fence.wide 1 P fn a.tmps (λe w'=>∃ cv v,e=.returned cv/\R v/\Rep w' Y ik v cv/\Chg w w') a.defers .returning w':=by
  rintro a w' ⟨E,D,⟨Y',σ',H,hd,hD⟩,hr⟩
  obtain⟨hn,hr⟩:=adB hr;rw[hd];refine RJ (ql _ hn) D w' H hD λw2 g=>?_;unfold abx at hr
  split at hr
  rename_i vs hv
  split at hr
  rename_i u hu;obtain⟨cv,hrun,hrep⟩:=O6 hT g hv;exact⟨cv,hrun,cv,u,rfl,hr,DN g.store (λ_ _ h=>h) g.y0 (λb x l hx hl=>g.away hx hl) (λb sz rows hb=>(ql _ hn b sz rows hb).elim) _ _ _ _ hu hrep,g.qo.qo λ_ h=>h⟩
  exact hr.elim
  exact hr.elim
 intro e a w' t
 cases e with
 | normal=>exact key a w' t
 | ret=>exact key a w' t
 | exit n=>obtain⟨E,_,_,t⟩:=t;exact t.elim
 | _=>exact t.elim
theorem YS.le {P:Program}{G:Nat->Option (List PV)}{l:Nat}{rc:Loop}{pv:Value}{args T:List PV}{st J:St}{n:Nat}{R:PV->St->Nat->Prop}(h:YS P G l rc pv T J n R)(hl:I5 args T)(hs:LeS st J):YS P G l rc pv args st n R:=by
 intro w Y σ vs hG hY hn hr I t hy g C;obtain⟨h1,h2⟩:=h w Y σ vs hG hY hn (hl.rep _ hr) (hs.rep I) (hs.lF t) hy g C;refine⟨h1,RoundIn.mono h2 λe w' hh=>?_⟩;obtain⟨cv,v,st',n',Y',σ',he,hR,H⟩:=hh;refine⟨cv,v,st',n',Y',σ',he,hR,?_⟩
 have e:yS ⟨λ_=>.bad,G,n,[],0,[],[],none,λ_=>[]⟩ w Y σ J=yS ⟨λ_=>.bad,G,n,[],0,[],[],none,λ_=>[]⟩ w Y σ st:=by
  unfold yS;rw[hs.alq]
 grind
theorem amV {S:iq}{α ρ:Type}{r:ρ}(O:S=iq.jq P T){l:Nat}{rc:Loop}{pv:Value}{args as J:List PV}{E:Env}{I : List Nat}{st0 t:St}{m:Nat}{K:PV->Env->Prop}{g:Option α}{v:α->PV}{st1:α->St}{n1:Nat}{kk:α->Option ρ}(U:bnd g kk=some r)(hyl:T.yl=some (l,rc,pv))
  (hF:∀ y,g=some y->YS P T.gl l rc pv J t m (λu st n=>u=v y/\st=st1 y/\n=n1)) (ha:I5 as J) (hs:LeS st0 t) (hm:m=lH I) (h1:NG I=true) (h2:ltN E.next I=true) (h0:lF st0=true)
  (has:as=BA (wz (zK I) 8) args) (C:st0=zq (zK I) E.st 0 I) (h00:I[0]?=some 0)
  (h:∀ y,kk y=some r->K (wz (Dx I E.next) 8 (v y)) (F5 I E (st1 y) n1)):S.yld l args E I as st0 K:=by
 obtain⟨x,hx,hk⟩:=xM U;clear U;subst O;subst hm;exact⟨rc,pv,v x,st1 x,n1,hyl,has,C,h1,h2,h0,h00,(hF x hx).le ha hs,h x hk⟩
theorem FnY.le {G:Nat->Option (List PV)}{k:Nat}{args T:List PV}{st J:St}{n:Nat}{Yc:Nat->Loop->Value->Prop}{R:PV->St->Nat->Prop}(h:FnY P G k T J n Yc R)(hl:I5 args T)(hs:LeS st J):FnY P G k args st n Yc R:=by
 intro l rc pv g w Y σ vs hG hY hn hr I hnn hy hl0 t
 have hr' : eQ w Y σ (.yl l::T) vs:=by
  unfold eQ at hr |-;obtain⟨v,C,e,h1,h2⟩:=hr;exact⟨v,C,e,h1,hl.rep _ h2⟩
 obtain⟨h1,h2⟩:=h l rc pv g w Y σ vs hG hY hn hr' (hs.rep I) (hs.lF hnn) hy hl0 t;refine⟨h1,Calls.mono h2 λe w' hh=>?_⟩;obtain⟨cv,v,st',n',Y',σ',he,hR,H⟩:=hh;refine⟨cv,v,st',n',Y',σ',he,hR,?_⟩
 have e:yS ⟨λ_=>.bad,G,n,[],0,[],[],none,λ_=>[]⟩ w Y σ J=yS ⟨λ_=>.bad,G,n,[],0,[],[],none,λ_=>[]⟩ w Y σ st:=by
  unfold yS;rw[hs.alq]
 grind
theorem ahF (hT:iZ P T)(hW:DR P)(hyl:T.yl=none){l:Nat}{rc:Loop}{pv:Value}{x:PV}{st:St}{ia ib rb t0 pt N:Nat}{oa ob:Array Oper}{v:PV}{st1:St}{n1:Nat}(cvs:List Cv)
  (has:rc.assign=.region ia oa false) (t:rc.body=.block ib (.region rb ob false)) (J:rc.state=.ready) (hpe:rc.pending=none) (hps:rc.params=#[pt]) (I:rc.tmps.toList[t0]?=some pv) (hne:pt≠t0) (hN:rc.tmps.size=N)
  (h:∀ S R,S=iq.jq P T->(∀ u s n,LeP u v->LeS s st1->n=n1->R u s n)->opsE T S oa oa.toList ⟨nV (nV (Va N) t0 (.lv 0 0)) pt x,st,T.qc⟩ λE1=>nnK E1.st (opsE T S ob ob.toList E1 λE2=>amT T S cvs R E2)) :
  YS P T.gl l rc pv [x] st T.qc (λu s n=>u=v/\s=st1/\n=n1):=by
 have H:=amU (l:=l) hT hW hyl (x:=x) (st:=st) (R:=λu s n=>LeP u v/\LeS s st1/\n=n1) cvs has t J hpe hps I hne hN λS O=>h S _ O λ_ _ _ h1 h2 g=>⟨h1,h2,g⟩
 intro w Y σ C hG hY hn hr J hnn hy hl0 I;obtain⟨h1,h2⟩:=H w Y σ C hG hY hn hr J hnn hy hl0 I;refine⟨h1,RoundIn.mono h2 λe w' hh=>?_⟩;obtain⟨cv,u,s,n,Y',σ',he,⟨g,h4,h5⟩,H⟩:=hh;refine⟨cv,v,st1,n,Y',σ',he,⟨rfl,rfl,h5⟩,?_⟩
 have hv:eQ w' Y' σ' [v] [cv]:=by
  have:=H.vals;unfold eQ at this |-;obtain⟨c,cs,e,h6,h7⟩:=this;cases e;exact⟨_,_,rfl,g.rep _ h6,by grind⟩
 exact(H.rH hv).RD (h4.RD w' Y' σ')
theorem afB.cv (cvs:List Cv){g:Operand}{ps:Array Tmp}{x y:Code}{K:Env->Prop}{E:Env}(J:lF E.st=true)(h:afB P T g ps x y K (Lp (iq.jq P T) cvs E)):afB P T g ps x y K E:=by
 rintro C D a w ⟨Y,σ,H,hd,hD⟩
 obtain⟨t,I,H1,_⟩:=adv (P:=P) (T':=T) cvs E (H.Ru (ql _ J));exact h C D a w ⟨t,I,H.KH H1,hd,hD.step H.store H1⟩
def amW (T:Tab)(S:iq)(gop:Operand)(ps:Array Tmp)(x y:Code)(t0:Nat)(K:Env->Prop)(E:Env):Prop :=
 match sK T E.tmps gop with
 | .fn k caps=>(match ji E.tmps t0 with
  | .lv b0 0=>(match Jb (.lv b0 0::caps) E.st with
   | ρ=>S.akX x y ps t0 (oq E.tmps) k b0 ρ (BA (wz (zK ρ) 8) caps) (zq (zK ρ) E.st 0 ρ) E K)
  | _=>False)
 | _=>False
theorem akH {S:iq}(O:S=iq.jq P T){J:Operand}{ps:Array Tmp}{x y:Code}{K:Env->Prop}{E:Env}(cvs:List Cv)(t0:Nat)(g:lF E.st=true)(h:amW T S J ps x y t0 K (Lp S cvs E)):S.rng J ps x y K E:=by
 subst O;refine afB.cv cvs g ?_;generalize Lp (iq.jq P T) cvs E=E2 at *;unfold amW at h
 split at h
 rename_i k caps hg
 split at h
 rename_i b0 ht;obtain⟨hnd,hlt,I,C,h0,v,st1,n1,Yc,hF,hY,t,hK⟩:=h.out;exact alC hg ht I hnd hlt C h0 hF (by simpa using hY) hK t
 exact h.elim
 exact h.elim
theorem ahG {S:iq}(O:S=iq.jq P T){α ρ:Type}{r:ρ}{ps:Array Tmp}{x y:Code}{K:Env->Prop}{E:Env}{k t0 len b0 m:Nat}{as J:List PV}{I : List Nat}{st0 C:St}{g:Option α}{v:α->PV}{st1:α->St}{n1:Nat}{kk:α->Option ρ}{Yc:Nat->Loop->Value->Prop}
  (U:bnd g kk=some r) (hF:∀ z,g=some z->FnY P T.gl k J C m Yc (λu st n=>u=v z/\st=st1 z/\n=n1)) (ha:I5 as J) (hs:LeS st0 C) (hm:m=lH I) (hnd:NG I=true) (hlt:ltN E.next I=true) (hnn:lF E.st=true) (t:lF st0=true) (h0:I[0]?=some b0)
  (hn1:∀ z,lF (F5 I E (st1 z) n1).st=true)
  (hY:∀ l rc pv,rc.assign=x->rc.body=y->rc.state=.ready->rc.pending=none->rc.params=ps->rc.tmps.toList[t0]?=some pv->rc.tmps.size=len->Yc l rc pv)
  (h:∀ z,kk z=some r->K (F5 I E (st1 z) n1)):S.akX x y ps t0 len k b0 I as st0 E K:=by
 subst O;obtain⟨z,hz,hk⟩:=xM U;clear U;subst hm;exact⟨hnd,hlt,hnn,t,h0,v z,st1 z,n1,Yc,(hF z hz).le ha hs,hY,hn1 z,h z hk⟩
theorem ajR (hT:iZ P T)(hp:T.qc=0)(hW:DR P){k:Nat}{fn:Func}{c:Code}(U:P.funcs[k]?=some fn)(hb:fn.body=some c)
  (hcall:∀ args w,(callFunc k args).run P w=.ok (.enter k args) w) {args:List PV} {v:PV} {m:Nat} (I:fn.ntmps-args.length=m)
  (h:∀ S R,S=iq.jq P T->(∀ u,LeP u v->R u)->mwp T S c (akG T S fn.results.toList R) ⟨vY args (sO m),[],0⟩) (hyl:T.yl=none:=by rfl):Fn P T.gl k args (λu=>u=v):=by
 have H:=ab8 hT hp hW U hb hcall I (hyl:=hyl) (R:=λu=>LeP u v) λS O=>h S _ O λ_ h=>h;intro w Y J t g hr;obtain⟨h1,h2⟩:=H w Y J t g hr;refine⟨h1,Calls.mono h2 λe w' hh=>?_⟩;obtain⟨cv,u,C,hu,hv,hc⟩:=hh;exact⟨cv,v,C,rfl,hu.rep _ hv,hc⟩
end
end Go.Pv
