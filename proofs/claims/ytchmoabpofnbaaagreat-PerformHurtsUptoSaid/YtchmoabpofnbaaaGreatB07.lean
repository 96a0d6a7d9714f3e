import Derived.RangeFuncLeaves
import Derived.RangeFuncRecord
import Derived.LoopN
import Derived.Test.YtchmoabpofnbaaaGreatB06
set_option linter.all false
namespace Go.Pv
open Go
def upT:List (Nat×PV)->List PV->List PV
 | [],ts=>ts
 | (t,v)::l,ts=>upT l (oq ts t v)
def upB:List (Nat×Option mP)->St->St
 | [],st=>st
 | (b,x)::l,st=>upB l (oH st b x)
def ahC:List (Nat×Option mP)->Nat->Nat
 | [],n=>n
 | (b,_)::l,n=>ahC l (bif Nat.blt b n then n else b+1)
def up (ts:List (Nat×PV))(bs:List (Nat×Option mP))(E:Env):Env:=⟨upT ts E.tmps,upB bs E.st,ahC bs E.next⟩
def kG (ts:List (Nat×PV))(E:Env):Env:=⟨upT ts E.tmps,E.st,E.next⟩
inductive afM {σ:Type} (i:Nat) (cvs:List Cv) (keep:List Nat) (F:jb->σ->Env->Env):Prop
 | mk
inductive adF {σ:Type} (i:Nat) (cvs:List Cv) (keep:List Nat) (F:jb->σ->Env->Env):Prop
 | mk
inductive aab (i:Nat) (cvs:List Cv):Prop
 | mk
theorem ct {σ:Type}(i:Nat)(keep:List Nat)(F:jb->σ->Env->Env)(cvs:List Cv:=[]):afM i cvs keep F:=.mk
theorem lo {σ:Type}(i:Nat)(keep:List Nat)(F:jb->σ->Env->Env)(cvs:List Cv:=[]):adF i cvs keep F:=.mk
theorem cv {i:Nat}(cvs:List Cv):aab i cvs:=.mk
class HM (M:iO):Prop where
 h:M=lC
instance:HM lC:=⟨rfl⟩
class EC (M:iO) (α:Type) (e:outParam (α->List PV)):Prop
instance {M:iO}:EC M Bool eB:=⟨⟩
instance {M:iO}:EC M Int (eI .i64):=⟨⟩
instance {M:iO}:EC M ByteArray eS:=⟨⟩
instance {M:iO}:EC M (List Int) (eL M 1 (eI .i64)):=⟨⟩
class CW (P:Program) (G:Nat->Option (List PV)) (M:iO) (k:Nat) {α:Type} (g:Option α) (as:outParam (List PV)) (v:outParam (α->PV)):Prop where
 w:∀ y,g=some y->Fn P G k as (λu=>u=v y)
theorem cwT {P:Program}{G:Nat->Option (List PV)}{M:iO}(_:M=lC){T:Tab}(U:T.gl=G){k:Nat}{α:Type}{g:Option α}{as:List PV}{v:α->PV}[h:CW P G M k g as v]:∀ y,g=some y->Fn P T.gl k as (λu=>u=v y):=by subst U;exact h.w
class CS (P:Program) (G:Nat->Option (List PV)) (M:iO) (k:Nat) {α:Type} (g:Option α) (as:outParam (List PV)) (st0:outParam St) (m:outParam Nat) (v:outParam (α->PV)) (st1:outParam (α->St)) (n1:outParam Nat):Prop where
 w:∀ y,g=some y->FnS P G k as st0 m (λu st n=>u=v y/\st=st1 y/\n=n1)
theorem csT {P:Program}{G:Nat->Option (List PV)}{M:iO}(_:M=lC){T:Tab}(U:T.gl=G){k:Nat}{α:Type}{g:Option α}{as:List PV}{st0:St}{m:Nat}{v:α->PV}{st1:α->St}{n1:Nat}[h:CS P G M k g as st0 m v st1 n1]:∀ y,g=some y->FnS P T.gl k as st0 m (λu st n=>u=v y/\st=st1 y/\n=n1):=by subst U;exact h.w
section
variable {P:Program}{T:Tab}{S:jb}{M:iO}{α β σ ρ:Type}{r:ρ}
theorem d_kA (hS:S=jb.jJ P T){i:Nat}{cvs:List Cv}{keep:List Nat}{F:jb->σ->Env->Env}(_:afM i cvs keep F){E J:Env}{U:σ->Env}{A:Post->Prop}{B:Env->Prop}{Q:Post}{rest:σ->Option ρ}{body:(σ->Option ρ)->Option ρ}(O:jn rest body=some r)
  (_:FV T.pG keep (wkE (IE S cvs E))=J) (_:∀ s,F S s J=U s)
  (h:∀ (I:σ->Env) (k:σ->Option ρ),(∀ s,I s=U s)->body k=some r->A (GR (λE=>∃ s,k s=some r/\FV T.pG keep (wkE (IE S cvs E))=I s) Q)) (h2:∀ s,rest s=some r->B (U s)):S.seq i E A B Q:=afL hS cvs keep U O h h2
theorem d_lA (hT:jv P T)(hW:Bg P)(hS:S=jb.jJ P T){b:Code}{i:Nat}(_:MQ b=some i){cvs:List Cv}{keep:List Nat}{F:jb->σ->Env->Env}(_:adF i cvs keep F){Q:Post}{E J:Env}{U:σ->Env}{step:σ->(σ->Option ρ)->Option ρ}{C:σ}(O:ig step C=some r)
  (h0:FV T.pG keep (wkE (IE S cvs E))=J) (_:∀ s,F S s J=U s) (he:J=U C)
  (h:∀ (I:σ->Env) (k:σ->Option ρ) (s:σ),(∀ s,I s=U s)->step s k=some r->∀ e,e=U s->Hz T S b (GR (λE'=>∃ g,k g=some r/\FV T.pG keep (wkE (IE S cvs E'))=I g) Q) e):S.loop b Q E:=I4 hS hT hW cvs keep U O (h0.trans he) h
theorem d_xA {I F:σ->Env}{k:σ->Option ρ}{s:σ}{E:Env}(hk:∀ s,I s=F s)(O:k s=some r)(e:E=F s):∃ s,k s=some r/\E=I s:=⟨s,O,e.trans (hk s).symm⟩
theorem fBr {c:Bool}{A B:Unit->Prop}(h:S.br c A B):S.br c A B:=h
theorem fCp {k:Nat}{a b c:List PV}{E:Env}{K:PV->Env->Prop}(h:S.QK k a b c E K):S.QK k a b c E K:=h
theorem fCq {k:Nat}{a:List PV}{K:PV->Prop}(h:S.SC k a K):S.SC k a K:=h
theorem fCf {k:Nat}{a:List PV}{K:PV->Prop}(h:S.U1 k a K):S.U1 k a K:=h
theorem fCa {k:Nat}{a b:List PV}{E:Env}{x y:Option (List PV)}{z:List Nat}{s:St}{K:PV->Env->Prop}(h:S.call k a E x y z b s K):S.call k a E x y z b s K:=h
theorem fCw {k:Nat}{a:List PV}{z:List Nat}{s:St}{K:PV->St->Nat->Prop}(h:S.X3 k a s z K):S.X3 k a s z K:=h
theorem fIx {n:Nat}{i:Int}{K:Nat->Prop}(h:S.ix n i K):S.ix n i K:=h
theorem ahD {a:List (List PV)}{i:Int}{K:List PV->Prop}(h:S.idx a i K):S.idx a i K:=h
theorem fRow {a:List (List PV)}{i:Nat}{K:List PV->Prop}(h:S.row a i K):S.row a i K:=h
theorem ahE {n b:Nat}{p:Prop}(h:S.room n b p):S.room n b p:=h
theorem fCat {a b:ByteArray}{K:ByteArray->Prop}(h:S.acB a b K):S.acB a b K:=h
theorem fSix {a:ByteArray}{i:Int}{K:Int->Prop}(h:S.acA a i K):S.acA a i K:=h
theorem fDiv {o:BinOp}{kd:IntKind}{a b:Int}{K:Int->Prop}(h:S.div o kd a b K):S.div o kd a b K:=h
theorem fShf {o:BinOp}{kd:IntKind}{a b:Int}{K:Int->Prop}(h:S.shf o kd a b K):S.shf o kd a b K:=h
theorem fMks {n m:Int}{b:Nat}{K:Nat->Prop}(h:S.mks n m b K):S.mks n m b K:=h
theorem fSlc {n:Nat}{a b:Int}{K:Nat->Nat->Prop}(h:S.slc n a b K):S.slc n a b K:=h
theorem fSsl {s:ByteArray}{a b:Int}{K:ByteArray->Prop}(h:S.Zq s a b K):S.Zq s a b K:=h
theorem fOrd {l:Array Oper}{p:Prop}(h:S.order l p):S.order l p:=h
theorem ahF {l:Array Oper}{p:Prop}(h:S.last l p):S.last l p:=h
theorem fOrf {l:Array Oper}{t:List (List Nat×List Nat×List Nat)}{p:Prop}(h:S.abC l t p):S.abC l t p:=h
theorem fSame {x y:Hdr}{p:Prop}(h:S.same x y p):S.same x y p:=h
theorem fNu {K:Hdr->Prop}(h:S.nu K):S.nu K:=h
theorem fNil {a:List (List PV)}{K:Bool->Prop}(h:S.SE a K):S.SE a K:=h
theorem agv {i:Nat}{E:Env}{A:Post->Prop}{B:Env->Prop}{Q:Post}(h:S.seq i E A B Q):S.seq i E A B Q:=h
theorem ahG {b:Code}{E:Env}{Q:Post}(h:S.loop b Q E):S.loop b Q E:=h
theorem fWk {c:List PV}{K:List PV->Prop}(h:S.wk c K):S.wk c K:=h
theorem fEx {p:α->Prop}(h:∃ x,p x):∃ x,p x:=h
theorem ahH (hS:S=jb.jJ P T)(_:M=lC){cs:List PV}{e:α->List PV}{v:α}{K:List PV->Prop}{k:α->Option ρ}[EC M α e](O:lt v k=some r)(hl:Gi cs (e v))(h:∀ x,k x=some r->K (e x)):S.wk cs K:=Nr hS O hl h
theorem agw (hS:S=jb.jJ P T)(hM:M=lC){U:List (List PV)}{l:List α}{e:α->List PV}{i J : Int}{k:α->Option ρ}{K:List PV->Prop}[EC M α e](O:bnd (jS l J) k=some r)(I:U=M.m α e l)(hi:i=J)(h:∀ x,k x=some r->K (e x)):S.idx U i K:=ady hS hM O I hi h
theorem agx (hS:S=jb.jJ P T)(hM:M=lC){J:List (List PV)}{l:List α}{e:α->List PV}{j U : Nat}{k:α->Option ρ}{K:List PV->Prop}[EC M α e](O:bnd (l[U]?) k=some r)(I:J=M.m α e l)(hj:j=U)(h:∀ x,k x=some r->K (e x)):S.row J j K:=kR hS hM O I hj h
theorem ahI (hS:S=jb.jJ P T){i:Nat}{cvs:List Cv}(_:aab i cvs){E:Env}{A:Post->Prop}{B:Env->Prop}{Q:Post}(h:A (GR (λE=>B (IE S cvs E)) Q)):S.seq i E A B Q:=Ub hS cvs h
end
theorem dE {α:Sort _}{a b:α}(h:a=b:=by first|with_reducible rfl|(simp only[q]<;>fail)|(simp only[q];rfl)|rfl|(simp[zL,eI,eB,eL,eS,q]<;>fail)):a=b:=h
theorem dLE {a b:List PV}(h:Gi a b:=by first|exact le_eq dE|exact LU|exact jC):Gi a b:=h
theorem dCl {a b:Env}(h:a=b:=by (try (conv=>lhs;cbv))<;>rfl):a=b:=h
theorem dCf {α:Type}{f g:α->Env}(h:∀ s,f s=g s:=by intro s;(try (conv=>lhs;cbv))<;>rfl):∀ s,f s=g s:=h
theorem dW {p:Prop}(h:p:=by
 cbv
 repeat' (first
  | (refine fBr ?_;refine Qn hS O dE ?_ ?_;all_goals (intro O;cbv))
  | (refine fCp ?_;refine aba hS O (cI hM) dLE ?_;(intro _ O;cbv))
  | (refine fCp ?_;refine mJ hS O (cZ hM) dLE ?_;(intro _ O;cbv))
  | (refine ahD ?_;refine ady hS hM O dE dE ?_;(intro _ O;cbv))
  | (refine ahD ?_;refine agw hS hM O dE dE ?_;(intro _ O;cbv))
  | (refine fEx ?_;refine d_xA dC O ?_;(try (conv=>lhs;cbv))<;>(first|exact dE|(subst hM;rfl)))
  | (refine hR _ ?_;have O:=Option.some.inj O;subst O;first|exact Ua dE|exact jC)
  | (refine hR _ _ _ ?_ ?_ rfl<;>(have O:=Option.some.inj O;subst O;first|exact Ua dE|exact jC))
  | (refine ahE ?_;refine rU hS O dE ?_;(intro O;cbv))
  | (refine fRow ?_;refine kR hS hM O dE dE ?_;(intro _ O;cbv))
  | (refine fRow ?_;refine agx hS hM O dE dE ?_;(intro _ O;cbv))
  | (refine fOrd ?_;refine aa2 hS aV ?_;cbv)
  | (refine agv ?_;refine d_kA hS dC O dCl dCf ?_ ?_;all_goals (first|(intro I k hk O;cbv)|(intro s O;cbv)))
  | (refine agv ?_;refine ahI hS dC ?_;cbv)
  | (refine agv ?_;refine rF hS ?_;cbv)
  | (refine ahG ?_;refine d_lA hT hW hS rfl dC O dCl dCf dE ?_;(intro I k s hk O e T;subst T;cbv))
  | (refine fIx ?_;refine nZ hS O dE dE ?_;(intro _ _ O;cbv))
  | (refine fIx ?_;obtain⟨j,hj,U,O⟩:=WQ O;refine adz hS dE ⟨j,hj,U,?_⟩;(first|(rcases lt2 hj with rfl|rfl)|(rcases lt3 hj with rfl|rfl|rfl)|(rcases lt5 hj with rfl|rfl|rfl|rfl|rfl)|(rcases lt6 hj with rfl|rfl|rfl|rfl|rfl|rfl)|(rcases lt11 hj with rfl|rfl|rfl|rfl|rfl|rfl|rfl|rfl|rfl|rfl|rfl));all_goals cbv)
  | (refine fWk ?_;refine ahH hS hM O jC ?_;(intro _ O;cbv))
  | (refine fCq ?_;refine Ns hS O (cI hM) dLE ?_;(intro _ O;cbv))
  | (refine fCf ?_;refine abd hS O (cI hM) dLE (λ_=>rfl) ?_;(intro _ O;cbv))
  | (refine fCa ?_;refine D6 hS O (cI hM) dLE (λ_=>rfl) ?_;(intro _ O;cbv))
  | (refine fCa ?_;refine abb hS O (cI hM) dLE ?_;(intro _ O;cbv))
  | (refine fCa ?_;refine jT hS O (cZ hM) dLE jC rfl rfl rfl rfl ?_;(intro _ O;cbv))
  | (refine fCw ?_;refine La hS O (cZ hM) dLE jC rfl rfl ?_;(intro _ O;cbv))
  | (refine fCat ?_;refine Vy hS O dE dE ?_;(intro _ O;cbv))
  | (refine fSix ?_;refine abe hS O dE dE ?_;(intro _ O;cbv))
  | (refine fDiv ?_;refine YJ hS O dE dE ?_;(intro _ O;cbv))
  | (refine fShf ?_;refine Vx hS O dE dE ?_;(intro _ O;cbv))
  | (refine fMks ?_;refine Q5 hS O dE dE ?_;(intro _ O;cbv))
  | (refine fSlc ?_;refine YK hS O dE dE dE ?_;(intro _ _ O;cbv))
  | (refine fSsl ?_;refine ahv hS O dE dE dE ?_;(intro _ O;cbv))
  | (refine fNil ?_;refine ahw hS hM O dE (by intro h;subst h;exact λh=>h) ?_ ?_;all_goals (intro O;cbv))
  | (refine fSame ?_;refine yX hS rfl ?_;cbv)
  | (refine fNu ?_;refine agm hS ?_;intro _;cbv)
  | (refine fOrf ?_;refine ads hS aV ?_;cbv)
  | (refine ahF ?_;refine WH hS aV ?_;cbv)
  | (cases O<;>fail))):p:=h
theorem wA {P:Program}{T:Tab}{M:iO}[m:HM M]{k:Nat}{fn:Func}{c:Code}{α:Type}{g:Option α}{args:List PV}{v:α->PV}{n:Nat}(hT:jv P T)(O:P.funcs[k]?=some fn)
  (hcall:∀ args w,(callFunc k args).run P w=.ok (.enter k args) w) (hW:Bg P:=by exact wf) (hp:T.pG=0:=by rfl) (hb:fn.body=some c:=by rfl) (U:fn.ntmps-args.length=n:=by rfl) (hyl:T.yl=none:=by rfl)
  (h:∀ r,g=some r->∀ S R,S=jb.jJ P T->(∀ u,LeP u (v r)->R u)->jv P T->Bg P->M=lC->SF M S->Hz T S c (aeK T S fn.results.toList R) ⟨uX args (rO n),[],0⟩:=by intro r O S R hS hR hT hW hM q;exact dW):CW P T.gl M k g args v :=
 ⟨λ_ hy=>adx hT hp hW O hb hcall U (hyl:=hyl) λS R hS hR=>h _ hy S R hS hR hT hW m.h (sf m.h hS)⟩
theorem wZ {P:Program}{T:Tab}{M:iO}[m:HM M]{k:Nat}{fn:Func}{c:Code}{α:Type}{g:Option α}{args:List PV}{st0:St}{v:α->PV}{st1:α->St}{n1 n:Nat}(hT:jv P T)(O:P.funcs[k]?=some fn)
  (hcall:∀ args w,(callFunc k args).run P w=.ok (.enter k args) w) (hW:Bg P:=by exact wf) (hb:fn.body=some c:=by rfl) (U:fn.ntmps-args.length=n:=by rfl) (hyl:T.yl=none:=by rfl)
  (h:∀ r,g=some r->∀ S R,S=jb.jJ P T->(∀ u s n,LeP u (v r)->LeS s (st1 r)->n=n1->R u s n)->jv P T->Bg P->M=lC->SF M S->Hz T S c (acP T S fn.results.toList R) ⟨uX args (rO n),st0,T.pG⟩:=by intro r O S R hS hR hT hW hM q;exact dW):CS P T.gl M k g args st0 T.pG v st1 n1 :=
 ⟨λ_ hy=>BV hT hW O hb hcall U (hyl:=hyl) λS R hS hR=>h _ hy S R hS hR hT hW m.h (sf m.h hS)⟩
theorem wC {P:Program}{T:Tab}{M:iO}[m:HM M]{k:Nat}{fn:Func}{c:Code}{α:Type}{g:Option α}{args:List PV}{st0:St}{v:α->PV}{st1:α->St}{n1 n:Nat}(hT:jv P T)(O:P.funcs[k]?=some fn)
  (hcall:∀ args w,(callFunc k args).run P w=.ok (.enter k args) w) (cvs:List Cv) (hW:Bg P:=by exact wf) (hb:fn.body=some c:=by rfl) (U:fn.ntmps-args.length=n:=by rfl) (hyl:T.yl=none:=by rfl)
  (h:∀ r,g=some r->∀ S R,S=jb.jJ P T->(∀ u s n,LeP u (v r)->LeS s (st1 r)->n=n1->R u s n)->jv P T->Bg P->M=lC->SF M S->Hz T S c (Qp T S cvs fn.results.toList R) ⟨uX args (rO n),st0,T.pG⟩:=by intro r O S R hS hR hT hW hM q;exact dW):CS P T.gl M k g args st0 T.pG v st1 n1 :=
 ⟨λ_ hy=>xe hT hW O hb hcall U cvs (hyl:=hyl) λS R hS hR=>h _ hy S R hS hR hT hW m.h (sf m.h hS)⟩
end Go.Pv
namespace Go.Pv
open Go
def Sim (v' v:PV):Prop:=∀ w Y σ u,Rep w Y σ v' u->Rep w Y σ v u
theorem Sim.refl (v:PV):Sim v v:=λ_ _ _ _ h=>h
theorem Sim.si (k:IntKind)(n:Int):Sim (.si k n) (.int k n):=λw Y σ u h=>by unfold Rep at h |-;exact h
theorem Sim.sb (b:Bool):Sim (.sb b) (.bool b):=λw Y σ u h=>by unfold Rep at h |-;exact h
def KS (v:PV)(δ:Dl):PV->Dl->Prop:=λv' δ'=>Sim v' v/\δ'=δ
theorem KS.refl (v:PV)(δ:Dl):KS v δ v δ:=⟨Sim.refl v,rfl⟩
end Go.Pv
namespace Go.Pv
open Go
section
variable {P:Program}{T:Tab}(hT:jv P T)(hW:Bg P)(hnar:T.l7=0){C:Ctx T}{o:Oper}{a:Act}{w:World}{Y:Nat->Prop}{σ:Sg}{ps:List PV}{st:St}{n id:Nat}{lk:Nat->Option mP}
 (H:SW C w Y σ ps a.tmps.toList st n) (hlk:∀ b x,lk b=some x->jr st b=some x) (hid:σ id=none/\T.pG<=id) {ev:Operand->PV} {v:PV} {δ:Dl}
end
abbrev Tab.at (T:Tab) (n:Nat):Tab:={ T with pG:=n }
def NN (t:Sb):Prop:=∀ b sz rows,abJ t b≠some (.l7 sz rows)
end Go.Pv
namespace Go.Pv
open Go
def GT (t:Sb)(n:Nat):Prop:=NN t/\∀ b,n<=b->abJ t b=none
def FnV (P:Program)(T:Tab)(k:Nat)(args:List PV)(t:Sb)(n:Nat)(v:PV)(t' : Sb)(n' : Nat):Prop :=
 GT t n->GT t' n'/\∀ (w:World) (Y:Nat->Prop) (σ:Sg) (cargs:List Value) (st:St),(∀ b,jr st b=abJ t b)->Ry T.gl w Y->(∀ b,Y b->b<w.heap.size)->(∀ b,n<=b->σ b=none)->gV w Y σ args cargs->DK w Y σ st ->
  (callFunc k cargs.toArray).run P w=.ok (.enter k cargs.toArray) w /\
  Calls P k cargs.toArray w λe w'=>∃ cv Y' σ' st',e=.returned cv/\(∀ b,jr st' b=abJ t' b)/\SW (yf (T.at n) w Y σ st) w' Y' σ' [v] [cv] st' n'
def adG (P:Program)(T:Tab)(call:acR):Prop:=∀ k args t n v t' n',call k args t n=some (v,t',n')->FnV P T k args t n v t' n'
structure EvOK {T:Tab}(C:Ctx T)(V:EV)(D:List Nat)(a:Act)(w:World):Prop where
 nn:GT V.st V.nx
 dfr:a.defers=marks D
 env:∃ ps st Y σ,(∀ i,getP V.tm i=jD ps i)/\V.n=ps.length/\(∀ b,jr st b=abJ V.st b)/\SW C w Y σ ps a.tmps.toList st V.nx/\JI C.w0.heap.size D w Y
section
variable {P:Program}{T:Tab}(hT:jv P T)(hW:Bg P)(hnar:T.l7=0)(hgl:∀ g,T.gl g=none){call:acR}(hcall:adG P T call)
end
end Go.Pv
namespace Go.Pv
open Go
section
variable {P:Program}{T:Tab}
theorem SW.YL {C:Ctx T}{w:World}{Y:Nat->Prop}{σ:Sg}{ps:List PV}{vs:List Value}{st:St}{n:Nat}(H:SW C w Y σ ps vs st n)(hn:NNs st)(o:Obj):SW C (w.alloc o) (λk=>Y k\/k=w.heap.size) σ ps vs st n:=by
 have hold:∀ k,k<w.heap.size->(w.alloc o).heap[k]?=w.heap[k]?:=by
  intro k hk;show (w.heap.push o)[k]?=_;rw[Array.getElem?_push,if_neg ah]
 have hsz:(w.alloc o).heap.size=w.heap.size+1:=by show (w.heap.push o).size=_;simp
 have K:Keep w (w.alloc o) Y (λk=>Y k\/k=w.heap.size) σ σ:=⟨λk hk _=>hold k hk,λk hk h=>h.resolve_right ah,by omega,ou.refl _⟩;refine⟨gV.keep _ K _ H.vals,⟨λb x hx=>?_,H.store.inj⟩,H.next,λk hk=>?_,λk hk=>.inl (H.y0 k hk),H.c0,λk hk U=>?_,?_,H.own,H.wJ.keep K.none,H.fix,zQ.none hn⟩
 rcases H.store.blk b x hx with ⟨l,hl,hB⟩|h
 have:=hB.lt;exact .inl ⟨l,hl,iw.keep K (hold _ this) ⟨λh=>h.resolve_right ah,.inl⟩ hB⟩
 exact .inr h
 rcases hk with h|h
 have:=H.vw k h;omega
 omega
 rcases hk with h|h
 exact H.wI k h U
 have:=H.qh.size;omega
 exact⟨H.qh.os,H.qh.tape,H.qh.output,by have:=H.qh.size;omega,λk hk hM=>by rw[hold k (Nat.lt_of_lt_of_le hk H.qh.size)];exact H.qh.block k hk hM⟩
theorem SW.adH {C:Ctx T}{w:World}{Y:Nat->Prop}{σ:Sg}{ps:List PV}{vs:List Value}{st:St}{n:Nat}(H:SW C w Y σ ps vs st n)(hn:NNs st){l:Nat}{o:Obj}(o' : Obj)(hy:Y l)(hB:C.w0.heap.size<=l)(ho:w.heap[l]?=some o)(hc:WE o):SW C (w.putObj l o') Y σ ps vs st n:=by
 have U:∀ k,k≠l->(w.putObj l o').heap[k]?=w.heap[k]?:=λk hk=>World.putObj_heap_other hk;have hsz:(w.putObj l o').heap.size=w.heap.size:=by simp
 have K:Keep w (w.putObj l o') Y Y σ σ:=⟨λk _ hk=>U k λe=>hk (e ▸ hy),λ_ _ h=>h,by omega,ou.refl _⟩;refine⟨gV.keep _ K _ H.vals,⟨λb x hx=>?_,H.store.inj⟩,H.next,λk hk=>by rw[hsz];exact H.vw k hk,H.y0,H.c0,H.wI,?_,H.own,H.wJ.keep K.none,H.fix,zQ.none hn⟩
 rcases H.store.blk b x hx with ⟨l2,hl,J⟩|h
 refine .inl ⟨l2,hl,iw.keep K (U _ λe=>?_) Iff.rfl J⟩;rcases DW.cells H.store (k:=l2.cb) ⟨b,x,l2,hx,hl,rfl⟩ with ⟨arr,ty,h1⟩|⟨es,ck,h1⟩
 rw[e,ho] at h1;cases h1;exact hc.1 arr ty rfl
 rw[e,ho] at h1;cases h1;exact hc.2 es ck rfl
 exact .inr h
 exact⟨H.qh.os,H.qh.tape,H.qh.output,by rw[hsz];exact H.qh.size,λk hk hM=>by rw[U k ah];exact H.qh.block k hk hM⟩
end
end Go.Pv
namespace Go.Pv
open Go
section
variable {P:Program}{T:Tab}
variable (hT:jv P T)(hW:Bg P)(hnar:T.l7=0)(hgl:∀ g,T.gl g=none){call:acR}(hcall:adG P T call)
theorem OC {fn:Func}{R:Ending->World->Prop}{C:Ctx T}{Y:Nat->Prop}{σ:Sg}{ps:List PV}{tmps:Array Value}{st:St}{n:Nat}(hn:NNs st):∀ (D:List Nat) (w:World),SW C w Y σ ps tmps.toList st n->JI C.w0.heap.size D w Y ->
  (∀ w',SW C w' Y σ ps tmps.toList st n->∃ v,(results fn tmps).run P w'=.ok v w'/\R (.returned v) w')->LeavesInM Fence.wide 1 P fn tmps R (marks D) .returning w
 | [],w,H,_,hR=>by
  obtain⟨v,h1,h2⟩:=hR w H;exact⟨v,h1,h2⟩
 | r::D,w,H,hD,hR=>by
  obtain⟨J,U⟩:=hD;obtain⟨h0,h1,h2⟩:=U r aS;have I:=(List.nodup_cons.1 J).1;have H':=H.adH hn (.deferred none) h1 h0 h2 ⟨λ_ _ e=>dB,λ_ _ e=>dB⟩;refine⟨by simp,.inl ⟨r,w.putObj r (.deferred none),rfl,run_takeDeferred h2,?_⟩⟩
  exact OC hn D _ H' ⟨(List.nodup_cons.1 J).2,λq hq=>by
   obtain⟨g0,g1,g2⟩:=U q (by simp[hq]);refine⟨g0,g1,?_⟩;have g:q≠r:=by rintro rfl;exact I hq
   rw[World.putObj_heap_other g];exact g2⟩ hR
end
end Go.Pv
namespace Go.Pv
open Go
section
variable {P:Program}{T:Tab}
def Ctx.dfr (C:Ctx T)(d:List Deferred):Ctx T:={ C with df:=d }
theorem SW.df {C:Ctx T}{w:World}{Y:Nat->Prop}{σ:Sg}{ps:List PV}{vs:List Value}{st:St}{n:Nat}(H:SW C w Y σ ps vs st n)(d:List Deferred):SW (C.dfr d) w Y σ ps vs st n :=
 ⟨H.vals,H.store,H.next,H.vw,H.y0,H.c0,H.wI,H.qh,H.own,H.wJ,H.fix,H.nest⟩
theorem SW.undf {C:Ctx T}{w:World}{Y:Nat->Prop}{σ:Sg}{ps:List PV}{vs:List Value}{st:St}{n:Nat}{d:List Deferred}(H:SW (C.dfr d) w Y σ ps vs st n):SW C w Y σ ps vs st n :=
 ⟨H.vals,H.store,H.next,H.vw,H.y0,H.c0,H.wI,H.qh,H.own,H.wJ,H.fix,H.nest⟩
def liftM (C:Ctx T)(Q:Post):Exit->Act->World->Prop
 | .normal,a,w=>∃ E D,V7 C D E a w/\Q 0 E
 | .ret,a,w=>∃ E D,V7 C D E a w/\Q 1 E
 | .exit n,a,w=>∃ E D,V7 C D E a w/\Q (n+2) E
 | _,_,_=>False
def WU (P:Program)(T:Tab)(c:Code)(Q:Post)(E:Env):Prop:=∀ (C:Ctx T) D a w,V7 C D E a w->c.wp P (liftM C Q) a w
theorem RN.m (hyl:T.yl=none){c:Code}{Q:Post}{E:Env}(I:lS E.st=true)(h:RN P T c Q E):WU P T c Q E:=by
 rintro C D a w ⟨Y,σ,H,hd,hD⟩
 have hN:=pY _ I;refine wp_mono (h ((yf T w Y σ E.st).dfr (marks D)) a w ⟨⟨Y,σ,(H.Om hN).df _⟩,hd,YOK.none hyl⟩) ?_
 have key:∀ n U w',(∃ J,lI ((yf T w Y σ E.st).dfr (marks D)) J U w'/\Q n J)->∃ E D,V7 C D E U w'/\Q n E:=by
  rintro n U w' ⟨J,⟨⟨Y',σ',H'⟩,hd',_⟩,hq⟩
  have g:=H'.undf;exact⟨J,D,⟨Y',σ',H.Ih g,hd',hD.step H.store g⟩,hq⟩
 intro e U w' hq
 cases e with
 | normal=>exact key 0 U w' hq
 | ret=>exact key 1 U w' hq
 | exit n=>exact key _ U w' hq
 | _=>exact hq.elim
def Ik:Code->Bool
 | .rangeFunc _ _ _ _=>false
 | .seq x y=>Ik x&&Ik y
 | .cond _ x y=>Ik x&&Ik y
 | .block _ b=>Ik b
 | .loop b=>Ik b
 | .scope b=>Ik b
 | _=>true
def adI (T:Tab)(S:jb)(c:Code)(Q:Post)(E:Env):Prop :=
 match lS E.st with
 | true=>Hz T S c Q E
 | false=>False
def mwp (T:Tab)(S:jb):Code->Post->Env->Prop
 | .seq x y,Q,E=>bif Ik x&&Ik y then adI T S (.seq x y) Q E else mwp T S x (GR (mwp T S y Q) Q) E
 | .block id b,Q,E=>bif Ik b then adI T S (.block id b) Q E else mwp T S b (ahc id Q) E
 | .rangeFunc g ps x y,Q,E=>S.rng g ps x y (Q 0) E
 | c,Q,E=>adI T S c Q E
theorem Nu (hT:jv P T)(hW:Bg P)(hyl:T.yl=none){c:Code}{Q:Post}{E:Env}(h:adI T (jb.jJ P T) c Q E):WU P T c Q E:=by
 unfold adI at h
 cases hn:lS E.st with
 | false=>rw[hn] at h;exact h.elim
 | true=>rw[hn] at h;exact (zn hT hW c Q E h).m hyl hn
theorem liftM_seq {C:Ctx T}{b:Code}{Q:Post}{nx:Env->Prop}(hb:∀ E D a w,V7 C D E a w->nx E->b.wp P (liftM C Q) a w):∀ e a w,liftM C (GR nx Q) e a w->Exit.then (b.wp P (liftM C Q)) (liftM C Q) e a w:=by
 intro e a w h
 cases e with
 | normal=>obtain⟨E,D,hA,hq⟩:=h;exact hb E D a w hA hq
 | ret=>obtain⟨E,D,hA,hq⟩:=h;exact⟨E,D,hA,hq⟩
 | exit n=>obtain⟨E,D,hA,hq⟩:=h;exact⟨E,D,hA,hq⟩
 | _=>exact h.elim
theorem ab3 (hT:jv P T)(hW:Bg P)(hyl:T.yl=none):∀ (c:Code) (Q:Post) (E:Env),mwp T (jb.jJ P T) c Q E->WU P T c Q E:=by
 intro c
 induction c with
 | seq x y ihx ihy =>
  intro Q E h;simp only[mwp] at h
  cases hs:Ik x&&Ik y with
  | true=>rw[hs] at h;exact Nu hT hW hyl h
  | false =>
   rw[hs] at h;intro C D a w hA;exact wp_seq (wp_mono (ihx _ E h C D a w hA) (liftM_seq λJ I a' w' U hq=>ihy Q J hq C I a' w' U))
 | block id b ih =>
  intro Q E h;simp only[mwp] at h
  cases hs:Ik b with
  | true=>rw[hs] at h;exact Nu hT hW hyl h
  | false =>
   rw[hs] at h;intro C D a w hA;refine wp_block (wp_mono (ih _ E h C D a w hA) λe a' w' hq=>?_)
   cases e with
   | normal=>exact hq
   | ret=>exact hq
   | exit n =>
    obtain⟨J,I,U,hq⟩:=hq;simp only[Exit.inBlock];have hq:(bif Nat.beq n id then Q 0 J else Q (n+2) J):=hq
    by_cases hn:n=id
    rw[if_pos hn];subst hn;simp only[Nat.beq_refl,cond_true] at hq;exact⟨J,I,U,hq⟩
    rw[if_neg hn];rw[P6 hn] at hq;exact⟨J,I,U,hq⟩
   | _=>exact hq.elim
 | rangeFunc g ps x y ihx ihy =>
  intro Q E h C D a w hA;refine wp_mono (h C D a w hA) ?_
  rintro e a' w' ⟨rfl,J,I,U,hq⟩
  exact⟨J,I,U,hq⟩
 | _=>intro Q E h;exact Nu hT hW hyl h
theorem SW.agy {T' : Tab}(hgl:T'.gl=T.gl)(hp:T'.pG=T.pG){w wb J:World}{Y Y3:Nat->Prop}{σ σ3:Sg}{st st3:St}{ps:List PV}{vs:List Value}{n3 l:Nat}{rc r1:Loop}(I:wb=w.putObj l (.loop r1))(hl:w.heap[l]?=some (.loop rc))(hy:Y l)
  (hst:DK w Y σ st) (U:SW (yf T wb Y σ st) J Y3 σ3 ps vs st3 n3) (hNN:NNs st3):J.heap[l]?=some (.loop r1)/\SW (yf T' w Y σ st) (J.putObj l (.loop rc)) Y3 σ3 ps vs st3 n3:=by
 have hlt:l<w.heap.size:=(Array.getElem?_eq_some_iff.1 hl).1;have hsz:wb.heap.size=w.heap.size:=by rw[I];simp
 have hni:¬ DW σ st l:=λh=>by
  rcases h.cells hst with ⟨arr,ty,h1⟩|⟨es,ck,h1⟩
  rw[hl] at h1;cases h1
  rw[hl] at h1;cases h1
 have hb:wb.heap[l]?=some (.loop r1):=by rw[I];exact World.putObj_heap_same hlt
 have hbo:∀ k,k≠l->wb.heap[k]?=w.heap[k]?:=λk hk=>by rw[I];exact World.putObj_heap_other hk
 have h3:J.heap[l]?=some (.loop r1):=by
  have:=U.qh.block l (show l<wb.heap.size by rw[hsz];exact hlt) (λh=>hni h.2);rw[this];exact hb
 have hy3:Y3 l:=U.y0 l ⟨hy,hni⟩;have C:∀ k,k≠l->(J.putObj l (.loop rc)).heap[k]?=J.heap[k]?:=λk hk=>World.putObj_heap_other hk;have g:(J.putObj l (.loop rc)).heap.size=J.heap.size:=by simp
 have hle:w.heap.size<=J.heap.size:=by have:=U.qh.size;have this:wb.heap.size<=J.heap.size:=this;omega
 have K:Keep J (J.putObj l (.loop rc)) Y3 Y3 σ3 σ3:=⟨λk _ hk=>C k λe=>hk (e ▸ hy3),λ_ _ h=>h,by omega,ou.refl _⟩;refine⟨h3,gV.keep _ K _ U.vals,⟨λb x hx=>?_,U.store.inj⟩,U.next,λk hk=>by rw[g];exact U.vw k hk,U.y0,λk hk=>?_,λk hk hlt'=>?_,?_,λb x l' h1 h2=>?_,?_,⟨by rw[hp];exact U.fix.1,λb hb=>U.fix.2 b (by rw[<- hp];exact hb)⟩,zQ.none hNN⟩
 rcases U.store.blk b x hx with ⟨l2,hl2,hBl⟩|h
 refine .inl ⟨l2,hl2,iw.keep K (C _ λe=>?_) Iff.rfl hBl⟩;rcases DW.cells U.store (k:=l2.cb) ⟨b,x,l2,hx,hl2,rfl⟩ with ⟨arr,ty,h1⟩|⟨es,ck,h1⟩
 rw[e,h3] at h1;cases h1
 rw[e,h3] at h1;cases h1
 exact .inr h
 have:=U.c0 k hk;exact⟨by have h:=this.1;have h:k<wb.heap.size:=h;show k<w.heap.size;omega,this.2⟩
 have hlt' : k<w.heap.size:=hlt';exact U.wI k hk (show k<wb.heap.size by omega)
 refine⟨?_,?_,?_,by rw[g];exact hle,λk hk hM=>?_⟩
 show J.os=w.os;have h:=U.qh.os;have h:J.os=wb.os:=h;rw[h,I];rfl
 show J.tape=w.tape;have h:=U.qh.tape;have h:J.tape=wb.tape:=h;rw[h,I];rfl
 show J.output=w.output;have h:=U.qh.output;have h:J.output=wb.output:=h;rw[h,I];rfl
 have hk:k<w.heap.size:=hk;show (J.putObj l (.loop rc)).heap[k]?=w.heap[k]?
 by_cases e:k=l
 subst e;rw[World.putObj_heap_same ah,hl]
 have h:=U.qh.block k (show k<wb.heap.size by omega) hM;have h:J.heap[k]?=wb.heap[k]?:=h;rw[C k e,h,hbo k e]
 rcases U.own b x l' h1 h2 with h|h
 have h:wb.heap.size<=l'.cb:=h;exact .inl (show w.heap.size<=l'.cb by omega)
 exact .inr h
 rw[hgl];exact U.wJ.keep K.none
def nnK (st:St)(p:Prop):Prop:=match lS st with|true=>p|false=>False
theorem aac {st:St}{p:Prop}(h:nnK st p):lS st=true/\p:=by
 unfold nnK at h
 cases hn:lS st with
 | true=>rw[hn] at h;exact⟨rfl,h⟩
 | false=>rw[hn] at h;exact h.elim
def OD:Nat->List PV
 | 0=>[]
 | n+1=>.top::OD n
theorem VC {w:World}{Y:Nat->Prop}{σ:Sg}:∀ (vs:List Value),gV w Y σ (OD vs.length) vs
 | []=>by simp[OD,gV]
 | v::vs=>by
  simp only[List.length_cons,OD];unfold gV;exact⟨v,vs,rfl,by simp[Rep],VC vs⟩
def ahJ (T:Tab)(S:jb)(cvs:List Cv)(R:PV->St->Nat->Prop)(E:Env):Prop :=
 nnK E.st (match IE S cvs E with|E=>match X7 (QP T.pG E.st []) [] E.st with|E=>R (.bool true) E.st E.next)
theorem SW.flip {C:Ctx T}{w:World}{Y:Nat->Prop}{σ:Sg}{ps:List PV}{vs:List Value}{st:St}{n l:Nat}{rc r1:Loop}(H:SW C w Y σ ps vs st n)(hn:NNs st)(hy:Y l)(hl:w.heap[l]?=some (.loop rc)) :
  SW (yf T (w.putObj l (.loop r1)) Y σ st) (w.putObj l (.loop r1)) Y σ ps vs st n:=by
 have U:∀ k,k≠l->(w.putObj l (.loop r1)).heap[k]?=w.heap[k]?:=λk hk=>World.putObj_heap_other hk;have hsz:(w.putObj l (.loop r1)).heap.size=w.heap.size:=by simp
 have K:Keep w (w.putObj l (.loop r1)) Y Y σ σ:=⟨λk _ hk=>U k λe=>hk (e ▸ hy),λ_ _ h=>h,by omega,ou.refl _⟩;refine⟨gV.keep _ K _ H.vals,⟨λb x hx=>?_,H.store.inj⟩,H.next,λk hk=>by rw[hsz];exact H.vw k hk,λ_ h=>h.1,λk h=>⟨by show k<(w.putObj l (.loop r1)).heap.size;rw[hsz];exact H.vw k h.1,h.2⟩,λk h _=>?_,JG.refl _ _,λb x l' h1 h2=>.inr ⟨b,x,l',h1,h2,rfl⟩,H.wJ.keep K.none,⟨H.fix.1,λ_ _=>rfl⟩,zQ.none hn⟩
 rcases H.store.blk b x hx with ⟨l2,J,I⟩|h
 refine .inl ⟨l2,J,iw.keep K (U _ λe=>?_) Iff.rfl I⟩;rcases DW.cells H.store (k:=l2.cb) ⟨b,x,l2,hx,J,rfl⟩ with ⟨arr,ty,h1⟩|⟨es,ck,h1⟩
 rw[e,hl] at h1;cases h1
 rw[e,hl] at h1;cases h1
 exact .inr h
 by_cases hi:DW σ st k
 exact .inr ⟨h,hi⟩
 exact .inl ⟨h,hi⟩
theorem ahK (hT:jv P T)(hW:Bg P)(hyl:T.yl=none){l:Nat}{rc:Loop}{pv:Value}{x:PV}{st:St}{ia ib rb t0 pt N:Nat}{oa ob:Array Oper}{R:PV->St->Nat->Prop}(cvs:List Cv)
  (has:rc.assign=.region ia oa false) (hbo:rc.body=.block ib (.region rb ob false)) (hst:rc.state=.ready) (hpe:rc.pending=none) (hps:rc.params=#[pt]) (hpv:rc.tmps.toList[t0]?=some pv) (hne:pt≠t0) (hN:rc.tmps.size=N)
  (h:∀ S,S=jb.jJ P T->opsE T S oa oa.toList ⟨oq (oq (OD N) t0 (.lv 0 0)) pt x,st,T.pG⟩ λE1=>nnK E1.st (opsE T S ob ob.toList E1 λE2=>ahJ T S cvs R E2)):YS P T.gl l rc pv [x] st T.pG R:=by
 intro w Y σ cargs hG hY hn hr g hnn hYl hl hpv';obtain⟨c,rfl,hc⟩:=Gf hr;refine⟨by rw[hps];rfl,?_⟩;have hN0:=pY _ hnn
 let C:Ctx T:=yf T w Y σ st
 let tm:=rc.tmps.setIfInBounds pt c
 have htm:(rc.params.zip [c].toArray).foldl (λtmps (t,a)=>tmps.setIfInBounds t a) rc.tmps=tm:=by
  have hz:rc.params.zip [c].toArray=#[(pt,c)]:=by rw[hps];apply Array.ext';simp
  rw[hz];simp[tm]
 rw[htm];have hlen:rc.tmps.toList.length=N:=by simpa using hN
 have hvals:gV w Y σ (oq (oq (OD N) t0 (.lv 0 0)) pt x) tm.toList:=by
  show gV w Y σ _ (rc.tmps.setIfInBounds pt c).toList;rw[Array.toList_setIfInBounds];refine gV.set hc _ _ _ ?_;have h0:gV w Y σ (OD N) rc.tmps.toList:=by have:=VC (w:=w) (Y:=Y) (σ:=σ) rc.tmps.toList;rwa [hlen] at this
  have h1:=gV.set hpv' _ rc.tmps.toList t0 h0
  have h2:rc.tmps.toList.set t0 pv=rc.tmps.toList:=by
   obtain⟨hlt,he⟩:=List.getElem?_eq_some_iff.1 hpv;rw[<- he];exact List.set_getElem_self hlt
  rwa [h2] at h1
 have H0:SW C w Y σ (oq (oq (OD N) t0 (.lv 0 0)) pt x) tm.toList st T.pG:=by
  refine⟨hvals,g,hn,hY,λ_ h=>h.1,λk h=>⟨hY k h.1,h.2⟩,λk h _=>?_,JG.refl _ w,λb x l h1 h2=>.inr ⟨b,x,l,h1,h2,rfl⟩,hG,⟨Nat.le_refl _,λ_ _=>rfl⟩,zQ.none hN0⟩
  by_cases hi:DW σ st k
  exact .inr ⟨h,hi⟩
  exact .inl ⟨h,hi⟩
 refine roundIn_of_wpIn (F:=Fence.wide) (n:=0) trivial ?_;rw[has,hbo];refine wpIn_region_list (F:=fW (some l)) (n:=0) (zV hT hW (some l) oa.toList _ _ (h _ rfl) _ w (C:=C) ⟨⟨Y,σ,H0⟩,rfl,YOK.none hyl⟩ ?_)
 rintro E1 a1 w1 ⟨⟨Y1,σ1,H1⟩,hd1,_⟩ hK1
 obtain⟨hn1,hK1⟩:=aac hK1;have hN1:=pY _ hn1;obtain⟨hl1,J⟩:=H1.kept g hl ⟨λ_ _ e=>dB,λ_ _ e=>dB⟩;have J:=J hYl;refine⟨_,run_beginRound hl1 hst,?_⟩;have H2:=H1.flip (r1:={ rc with state:=.busy }) hN1 J hl1;refine wpIn_block (F:=fW (some l)) (n:=0) (wpIn_region_list (F:=fW (some l)) (n:=0) (zV hT hW (some l) ob.toList _ _ hK1 _ _ (C:=yf T (w1.putObj l (.loop { rc with state:=.busy })) Y1 σ1 E1.st) ⟨⟨Y1,σ1,H2⟩,hd1,YOK.none hyl⟩ ?_))
 rintro E2 a2 w3 ⟨⟨Y3,σ3,H3⟩,hd2,_⟩ hK2
 obtain⟨hn2,hK2⟩:=aac hK2;have hN2:=pY _ hn2;obtain⟨hl3,H4⟩:=SW.agy (T':=T) rfl rfl rfl hl1 J H1.store H3 hN2
 have hrc:({ { rc with state:=LoopState.busy } with state:=if (none:Option Code).isNone then LoopState.ready else LoopState.done,pending:=none }:Loop)=rc:=by
  cases rc;simp only at hst hpe;subst hst;subst hpe;rfl
 have I:=run_endRound (P:=P) none hl3;rw[hrc] at I;refine⟨_,_,I,?_⟩;have H5:=H1.Ih H4;obtain⟨⟨Y6,σ6,H6⟩,_⟩:=zY (P:=P) (T':=T) cvs E2 C { a2 with defers:=[] } _ ⟨⟨Y3,σ3,H5⟩,rfl,YOK.none hyl⟩;generalize IE (jb.jJ P T) cvs E2=E3 at *;have H7:SW C _ Y6 σ6 [.bool true] [.bool true] E3.st E3.next:=H6.rP (by unfold gV;exact⟨_,_,rfl,by simp[Rep],by unfold gV;rfl⟩)
 obtain⟨h1,h2,h3⟩:=JO T.pG E3.st [];obtain⟨σ7,U,_⟩:=H7.X7 h1 h2 h3;exact⟨.bool true,.bool true,_,_,Y6,σ7,rfl,hK2,⟨U.vals,U.store,U.next,U.vw,U.y0,U.c0,U.wI,U.qh,U.own,U.wJ,U.fix,U.nest⟩⟩
def Tab.y (T:Tab)(l:Nat)(rc:Loop)(pv:Value):Tab:=⟨T.ti,T.gl,T.pG,T.cut,T.l7,T.own,T.dcl,some (l,rc,pv),T.hid⟩
theorem jv.y {l:Nat}{rc:Loop}{U:Value}(h:jv P T):jv P (T.y l rc U):=h
theorem WV (hT:jv P T)(hW:Bg P)(hp:0<T.pG){k:Nat}{fn:Func}{c:Code}(O:P.funcs[k]?=some fn)(hb:fn.body=some c)
  (hcall:∀ args w,(callFunc k args).run P w=.ok (.enter k args) w) {args:List PV} {st:St} {Yc:Nat->Loop->Value->Prop} {R:PV->St->Nat->Prop} {m:Nat} (hm:fn.ntmps-(args.length+1)=m)
  (cvs:List Cv) (h:∀ l rc U,Yc l rc U->∀ S,S=jb.jJ P (T.y l rc U)->Hz (T.y l rc U) S c (Qp (T.y l rc U) S cvs fn.results.toList R) ⟨uX (.yl l::args) (rO m),st,T.pG⟩):FnY P T.gl k args st T.pG Yc R:=by
 intro l rc U hyc w Y σ cargs hG hY hn J I hnn hyl hl C;refine JX (T:=T.y l rc U) hT hW O hb hcall (args:=.yl l::args) hm cvs (h l rc U hyc) hG hY hn J I hnn ?_;intro l' rc' pv' e;cases (Option.some.inj e:(l,rc,U)=(l',rc',pv'))
 have g:¬ DW σ st l:=λh=>by
  rcases h.cells I with ⟨arr,ty,h1⟩|⟨es,ck,h1⟩
  rw[hl] at h1;cases h1
  rw[hl] at h1;cases h1
 unfold Rep at C;obtain⟨l0,h1,h2⟩:=C;exact⟨⟨hyl,g⟩,λh=>g h.2,hl,hp,l0,h1,h2⟩
theorem adJ (hT:jv P T)(hW:Bg P)(hp:0<T.pG){k:Nat}{fn:Func}{c:Code}(O:P.funcs[k]?=some fn)(hb:fn.body=some c)
  (hcall:∀ args w,(callFunc k args).run P w=.ok (.enter k args) w) {args:List PV} {st:St} {Yc:Nat->Loop->Value->Prop} {v:PV} {st1:St} {n1:Nat} {m:Nat} (hm:fn.ntmps-(args.length+1)=m)
  (cvs:List Cv) (h:∀ l rc U,Yc l rc U->∀ S R,S=jb.jJ P (T.y l rc U)->(∀ u s n,LeP u v->LeS s st1->n=n1->R u s n)->Hz (T.y l rc U) S c (Qp (T.y l rc U) S cvs fn.results.toList R) ⟨uX (.yl l::args) (rO m),st,T.pG⟩) :
  FnY P T.gl k args st T.pG Yc (λu s n=>u=v/\s=st1/\n=n1):=by
 have H:=WV hT hW hp O hb hcall hm (st:=st) (cvs:=cvs) (Yc:=Yc) (R:=λu s n=>LeP u v/\LeS s st1/\n=n1) λl rc U J S hS=>h l rc U J S _ hS λ_ _ _ h1 h2 h3=>⟨h1,h2,h3⟩
 intro l rc U J w Y σ I hG hY hn hr C g hyl hl hpv;obtain⟨h1,h2⟩:=H l rc U J w Y σ I hG hY hn hr C g hyl hl hpv;refine⟨h1,Calls.mono h2 λe w' hh=>?_⟩;obtain⟨cv,u,s,n,Y',σ',he,⟨h3,h4,h5⟩,H⟩:=hh;refine⟨cv,v,st1,n,Y',σ',he,⟨rfl,rfl,h5⟩,?_⟩
 have hv:gV w' Y' σ' [v] [cv]:=by
  have:=H.vals;unfold gV at this |-;obtain⟨c,cs,e,h6,h7⟩:=this;cases e;exact⟨_,_,rfl,h3.rep _ h6,by unfold gV at h7 |-;exact h7⟩
 exact (H.rP hv).Ov (h4.Ov w' Y' σ')
theorem agz {g:Operand}{ps:Array Tmp}{x y:Code}{K:Env->Prop}{E:Env}{k t0 b0:Nat}{U:List PV}{ρ:List Nat}{v:PV}{st1:St}{n1:Nat}{Yc:Nat->Loop->Value->Prop}
  (hg:qY T E.tmps g=.fn k U) (ht:jD E.tmps t0=.lv b0 0) (hnn:lS E.st=true) (hnd:JF ρ=true) (hlt:ltN E.next ρ=true) (hnr:lS (xZ (CQ ρ) E.st 0 ρ)=true) (h0:ρ[0]?=some b0)
  (hF:FnY P T.gl k (zH (vk (CQ ρ) 8) U) (xZ (CQ ρ) E.st 0 ρ) (lh ρ) Yc (λu st n=>u=v/\st=st1/\n=n1))
  (hY:∀ l rc pv,rc.assign=x->rc.body=y->rc.state=.ready->rc.pending=none->rc.params=ps->rc.tmps.toList[t0]?=some pv->rc.tmps.size=E.tmps.length->Yc l rc pv)
  (hK:K (DV ρ E st1 n1)) (hn1:lS (DV ρ E st1 n1).st=true):abL P T g ps x y K E:=by
 rintro C D a w ⟨Y,σ,H,hdf,hD⟩
 have hN:=pY _ hnn;have hN3:=pY _ hn1;have hgv:=kX H g;rw[hg] at hgv;unfold Rep at hgv;obtain⟨cs,eg,hcs⟩:=hgv;have hpv0:=H.vals.get _ _ t0;rw[ht] at hpv0;refine wpIn_wide.1 (wpIn_rangeFunc (F:=Fence.wide) (n:=1) λfn _=>?_)
 let rc:Loop:={ state:=.ready,pending:=none,fn,tmps:=a.tmps,params:=ps,assign:=x,body:=y,defers:=w.heap.size }
 let I:=(w.alloc (.deferred (some []))).alloc (.loop rc)
 have hD1:I.heap[w.heap.size]?=some (.deferred (some [])):=by
  show ((w.heap.push _).push _)[w.heap.size]?=_;rw[Array.getElem?_push,if_neg aS,Array.getElem?_push,if_pos rfl]
 have hL1:I.heap[w.heap.size+1]?=some (.loop rc):=by
  show ((w.heap.push _).push _)[w.heap.size+1]?=_;rw[Array.getElem?_push,if_pos aS]
 have hold:∀ k,k<w.heap.size->I.heap[k]?=w.heap[k]?:=λk hk=>by
  show ((w.heap.push _).push _)[k]?=_;rw[Array.getElem?_push,if_neg bI,Array.getElem?_push,if_neg ah]
 have H0:=H.YL hN (.deferred (some []));have H1:=H0.YL hN (.loop rc);have hsz:(w.alloc (.deferred (some []))).heap.size=w.heap.size+1:=by simp
 rw[hsz] at H1
 have K1:Keep w I Y (λk=>(Y k\/k=w.heap.size)\/k=w.heap.size+1) σ σ:=⟨λk hk _=>hold k hk,λk hk h=>by
  rcases h with (h|h)|h
  exact h
  omega
  omega,by show w.heap.size<=((w.heap.push _).push _).size;simp;omega,ou.refl _⟩
 have harg:gV I (λk=>(Y k\/k=w.heap.size)\/k=w.heap.size+1) σ (.yl (w.heap.size+1)::U) (.func (.yield (w.heap.size+1)) #[] #[]::cs):=by
  unfold gV;exact⟨_,cs,rfl,by simp[Rep],gV.keep U K1 cs hcs⟩
 have hlt0:t0<a.tmps.toList.length:=by
  have hl:=gV.length _ _ H.vals;rw[hl];rw[BO,List.getD_eq_getElem?_getD] at ht
  by_cases hh:t0<E.tmps.length
  exact hh
  rw[List.getElem?_eq_none ah] at ht;cases ht
 obtain⟨pv,hpv⟩:∃ pv,a.tmps.toList[t0]?=some pv:=⟨_,List.getElem?_eq_getElem hlt0⟩
 have hpvr:Rep w Y σ (.lv b0 0) pv:=by
  rw[List.getD_eq_getElem?_getD,hpv] at hpv0;exact hpv0
 have hyc:Yc (w.heap.size+1) rc pv:=hY _ rc pv rfl rfl rfl rfl rfl hpv (by have:=gV.length _ _ H.vals;simpa using this)
 have key:=Wv (P:=P) (N:=E.next+(n1-lh ρ)) (v:=v) (st1:=st1) (n1:=n1) (ρ:=ρ)
  (Z:=λw' Y'=>(w'.heap[w.heap.size]?=some (.deferred (some []))/\Y' w.heap.size)/\(w'.heap[w.heap.size+1]?=some (.loop rc)/\Y' (w.heap.size+1))/\∀ r∈D,w'.heap[r]?=some (.deferred (some []))/\Y' r)
  (X:=λR=>(callFunc k (Value.func (.yield (w.heap.size+1)) #[] #[]::cs).toArray).run P I=.ok (.enter k (Value.func (.yield (w.heap.size+1)) #[] #[]::cs).toArray) I/\Calls P k (Value.func (.yield (w.heap.size+1)) #[] #[]::cs).toArray I R)
  H1 hnd hlt H.fix.1 (λb hb _=>H.next b hb) ⟨Nat.le_refl _,Nat.le_add_right _ _⟩ harg (by intro R R' h k;exact⟨k.1,Calls.mono k.2 h⟩)
  (λσc hσc hnext hra J=>by
   obtain⟨h1,h2⟩:=hF _ rc pv hyc I _ σc _ H1.wJ H1.vw hnext hra J hnr (.inr rfl) hL1 (by
    unfold Rep at hpvr |-;rw[hσc 0 b0 h0];exact hpvr)
   refine⟨h1,Calls.mono h2 λe w' hh=>?_⟩;obtain⟨cv,u,st',n',Y',σ',h3,h4,h5⟩:=hh;have nd:WE (.deferred (some [])):=⟨λ_ _ e=>dB,λ_ _ e=>dB⟩;obtain⟨g1,g2⟩:=h5.kept J hD1 nd;obtain⟨g3,g4⟩:=h5.kept J hL1 ⟨λ_ _ e=>dB,λ_ _ e=>dB⟩;refine⟨cv,u,st',n',Y',σ',h3,h4,h5,⟨g1,g2 (.inl (.inr rfl))⟩,⟨g3,g4 (.inr rfl)⟩,λr hr=>?_⟩;obtain⟨d0,d1,d2⟩:=hD.2 r hr;have hlt:=(Array.getElem?_eq_some_iff.1 d2).1;obtain⟨g5,g6⟩:=h5.kept J (k:=r) (by rw[hold r hlt];exact d2) nd;exact⟨g5,g6 (.inl (.inl d1))⟩)
 obtain⟨hent,hcalls⟩:=key;have e : #[.func (.yield (w.heap.size+1)) #[] #[]]++cs.toArray=(Value.func (.yield (w.heap.size+1)) #[] #[]::cs).toArray:=by apply Array.ext';simp
 refine⟨w.heap.size+1,[{ target:=.collected w.heap.size,args:=#[] }],I,{ target:=.fn (.func k) cs.toArray,args:=#[.func (.yield (w.heap.size+1)) #[] #[]] },I,k,
  #[.func (.yield (w.heap.size+1)) #[] #[]]++cs.toArray,I,run_enterLoop_outer _ _ _ _ _,?_,λ_ _=>trivial,?_,λe=>by (simp[Fence.wide] at e),?_⟩
 simp only[resolve,eg];simp[go_sem]
 rw[e,<- hent];simp[invoke,go_sem]
 rw[callsIn_wide,e];refine Calls.mono hcalls λed w3 hh=>?_;obtain⟨cv,Y3,σ3,rfl,H3,_,_,⟨g1,g2⟩,⟨g3,g4⟩,gD⟩:=hh;have H5:=H3.adH hN3 (.loop { rc with state:=.exhausted }) g4 (by have:=H.qh.size;omega) g3 ⟨λ_ _ e=>dB,λ_ _ e=>dB⟩;refine⟨none,_,run_endLoop g3 (by simp[rc]),rfl,DV ρ E st1 n1,w.heap.size::D,⟨Y3,σ3,H5,?_,?_⟩,hK⟩
 simp only[hdf,marks,List.map_cons];rfl
 have hne:∀ r∈D,r<w.heap.size:=λr hr=>(Array.getElem?_eq_some_iff.1 (hD.2 r hr).2.2).1;refine⟨List.nodup_cons.2 ⟨λhm=>by have:=hne _ hm;omega,hD.1⟩,λr hr=>?_⟩;rcases List.mem_cons.1 hr with rfl|hr
 exact⟨H.qh.size,g2,by rw[World.putObj_heap_other ah];exact g1⟩
 have:=hne r hr;exact⟨(hD.2 r hr).1,(gD r hr).2,by rw[World.putObj_heap_other ah];exact (gD r hr).1⟩
def afN (T:Tab)(S:jb)(rs:List ResultVar)(R:PV->Prop):Post
 | 0,E=>nnK E.st (Ya T S rs E R)
 | 1,E=>nnK E.st (Ya T S rs E R)
 | _+2,_=>False
theorem YM (hT:jv P T)(hp:T.pG=0)(hW:Bg P){k:Nat}{fn:Func}{c:Code}(O:P.funcs[k]?=some fn)(hb:fn.body=some c)
  (hcall:∀ args w,(callFunc k args).run P w=.ok (.enter k args) w) {args:List PV} {R:PV->Prop} {m:Nat} (hm:fn.ntmps-args.length=m)
  (h:∀ S,S=jb.jJ P T->mwp T S c (afN T S fn.results.toList R) ⟨uX args (rO m),[],0⟩) (hyl:T.yl=none:=by rfl):Fn P T.gl k args R:=by
 intro w Y U hG hY J;refine⟨hcall _ _,?_⟩
 let C:Ctx T:=⟨w,Y,λ_=>False,λ_=>False,iW,[]⟩;have hlen:=J.length
 have H0:SW C w Y iW (uX args (rO m)) ((U.toArray++Array.replicate (fn.ntmps-U.toArray.size) Go.undef).toList) [] 0:=by
  refine⟨?_,⟨λb x h=>by simp[jr] at h,λb b' x x' l l' h=>by simp[jr] at h⟩,λ_ _=>rfl,hY,λ_ h=>h,λk h=>⟨hY k h,λh=>h⟩,λk h _=>.inl h,JG.refl _ w,λb x l h=>by simp[jr] at h,hG,⟨by omega,λ_ h=>by omega⟩,zQ.none λb sz rows h=>by simp[jr] at h⟩;have:(U.toArray++Array.replicate (fn.ntmps-U.toArray.size) Go.undef).toList=U++List.replicate m Go.undef:=by simp[hlen,hm]
  rw[this];exact gV.app _ _ _ _ J (ET m)
 have hwp:=ab3 hT hW hyl c _ _ (h _ rfl) C [] { tmps:=U.toArray++Array.replicate (fn.ntmps-U.toArray.size) Go.undef,defers:=[] } w ⟨Y,iW,H0,rfl,List.nodup_nil,λr hr=>by cases hr⟩;refine callsIn_wide.1 (callsIn_of_wp_marks (F:=Fence.wide) (n:=1) O hb trivial (wpIn_wide.2 (wp_mono hwp ?_)))
 have key:∀ (a:Act) (w' : World),(∃ E D,V7 C D E a w'/\nnK E.st (Ya T (jb.jJ P T) fn.results.toList E R)) ->
   LeavesInM Fence.wide 1 P fn a.tmps (λe w'=>∃ cv v,e=.returned cv/\R v/\Rep w' Y iW v cv/\Chg w w') a.defers .returning w':=by
  rintro a w' ⟨E,D,⟨Y',σ',H,hd,hD⟩,hr⟩
  obtain⟨hn,hr⟩:=aac hr;rw[hd];refine OC (pY _ hn) D w' H hD λw2 g=>?_;unfold Ya at hr
  split at hr
  rename_i vs hv
  split at hr
  rename_i u hu;obtain⟨cv,I,hrep⟩:=KZ hT g hv;exact⟨cv,I,cv,u,rfl,hr,BA g.store (λ_ _ h=>h) g.y0 (λb x l hx hl=>g.away hx hl) (λb sz rows hb=>(pY _ hn b sz rows hb).elim) _ _ _ _ hu hrep,g.qh.qh λ_ h=>h⟩
  exact hr.elim
  exact hr.elim
 intro e a w' hq
 cases e with
 | normal=>exact key a w' hq
 | ret=>exact key a w' hq
 | exit n=>obtain⟨E,_,_,hq⟩:=hq;exact hq.elim
 | _=>exact hq.elim
theorem YS.le {P:Program}{G:Nat->Option (List PV)}{l:Nat}{rc:Loop}{pv:Value}{args U:List PV}{st T:St}{n:Nat}{R:PV->St->Nat->Prop}(h:YS P G l rc pv U T n R)(hl:Gi args U)(hs:LeS st T):YS P G l rc pv args st n R:=by
 intro w Y σ vs hG hY hn hr J I hy g C;obtain⟨h1,h2⟩:=h w Y σ vs hG hY hn (hl.rep _ hr) (hs.rep J) (hs.lS I) hy g C;refine⟨h1,RoundIn.mono h2 λe w' hh=>?_⟩;obtain⟨cv,v,st',n',Y',σ',he,hR,H⟩:=hh;refine⟨cv,v,st',n',Y',σ',he,hR,?_⟩
 have e:yf ⟨λ_=>.bad,G,n,[],0,[],[],none,λ_=>[]⟩ w Y σ T=yf ⟨λ_=>.bad,G,n,[],0,[],[],none,λ_=>[]⟩ w Y σ st:=by
  unfold yf;rw[hs.agq]
 rw[e] at H;exact H
theorem ahL {S:jb}{α ρ:Type}{r:ρ}(hS:S=jb.jJ P T){l:Nat}{rc:Loop}{pv:Value}{args as U:List PV}{E:Env}{J : List Nat}{st0 I:St}{m:Nat}{K:PV->Env->Prop}{g:Option α}{v:α->PV}{st1:α->St}{n1:Nat}{kk:α->Option ρ}(O:bnd g kk=some r)(hyl:T.yl=some (l,rc,pv))
  (hF:∀ y,g=some y->YS P T.gl l rc pv U I m (λu st n=>u=v y/\st=st1 y/\n=n1)) (ha:Gi as U) (hs:LeS st0 I) (hm:m=lh J) (h1:JF J=true) (h2:ltN E.next J=true) (h0:lS st0=true)
  (has:as=zH (vk (CQ J) 8) args) (C:st0=xZ (CQ J) E.st 0 J) (h00:J[0]?=some 0)
  (h:∀ y,kk y=some r->K (vk (Bf J E.next) 8 (v y)) (DV J E (st1 y) n1)):S.yld l args E J as st0 K:=by
 obtain⟨x,hx,hk⟩:=wL O;clear O;subst hS;subst hm;exact⟨rc,pv,v x,st1 x,n1,hyl,has,C,h1,h2,h0,h00,(hF x hx).le ha hs,h x hk⟩
theorem FnY.le {G:Nat->Option (List PV)}{k:Nat}{args U:List PV}{st T:St}{n:Nat}{Yc:Nat->Loop->Value->Prop}{R:PV->St->Nat->Prop}(h:FnY P G k U T n Yc R)(hl:Gi args U)(hs:LeS st T):FnY P G k args st n Yc R:=by
 intro l rc pv I w Y σ vs hG hY hn hr J C hy hl0 hpv
 have g : gV w Y σ (.yl l::U) vs:=by
  unfold gV at hr |-;obtain⟨v,vs',e,h1,h2⟩:=hr;exact⟨v,vs',e,h1,hl.rep _ h2⟩
 obtain⟨h1,h2⟩:=h l rc pv I w Y σ vs hG hY hn g (hs.rep J) (hs.lS C) hy hl0 hpv;refine⟨h1,Calls.mono h2 λe w' hh=>?_⟩;obtain⟨cv,v,st',n',Y',σ',he,hR,H⟩:=hh;refine⟨cv,v,st',n',Y',σ',he,hR,?_⟩
 have e:yf ⟨λ_=>.bad,G,n,[],0,[],[],none,λ_=>[]⟩ w Y σ T=yf ⟨λ_=>.bad,G,n,[],0,[],[],none,λ_=>[]⟩ w Y σ st:=by
  unfold yf;rw[hs.agq]
 rw[e] at H;exact H
theorem adK (hT:jv P T)(hW:Bg P)(hyl:T.yl=none){l:Nat}{rc:Loop}{pv:Value}{x:PV}{st:St}{ia ib rb t0 pt N:Nat}{C ob:Array Oper}{v:PV}{st1:St}{n1:Nat}(cvs:List Cv)
  (has:rc.assign=.region ia C false) (g:rc.body=.block ib (.region rb ob false)) (U:rc.state=.ready) (hpe:rc.pending=none) (hps:rc.params=#[pt]) (I:rc.tmps.toList[t0]?=some pv) (hne:pt≠t0) (hN:rc.tmps.size=N)
  (h:∀ S R,S=jb.jJ P T->(∀ u s n,LeP u v->LeS s st1->n=n1->R u s n)->opsE T S C C.toList ⟨oq (oq (OD N) t0 (.lv 0 0)) pt x,st,T.pG⟩ λE1=>nnK E1.st (opsE T S ob ob.toList E1 λE2=>ahJ T S cvs R E2)) :
  YS P T.gl l rc pv [x] st T.pG (λu s n=>u=v/\s=st1/\n=n1):=by
 have H:=ahK (l:=l) hT hW hyl (x:=x) (st:=st) (R:=λu s n=>LeP u v/\LeS s st1/\n=n1) cvs has g U hpe hps I hne hN λS hS=>h S _ hS λ_ _ _ h1 h2 h3=>⟨h1,h2,h3⟩
 intro w Y σ J hG hY hn hr U hnn hy hl0 I;obtain⟨h1,h2⟩:=H w Y σ J hG hY hn hr U hnn hy hl0 I;refine⟨h1,RoundIn.mono h2 λe w' hh=>?_⟩;obtain⟨cv,u,s,n,Y',σ',he,⟨h3,h4,h5⟩,H⟩:=hh;refine⟨cv,v,st1,n,Y',σ',he,⟨rfl,rfl,h5⟩,?_⟩
 have hv:gV w' Y' σ' [v] [cv]:=by
  have:=H.vals;unfold gV at this |-;obtain⟨c,cs,e,h6,h7⟩:=this;cases e;exact⟨_,_,rfl,h3.rep _ h6,by unfold gV at h7 |-;exact h7⟩
 exact (H.rP hv).Ov (h4.Ov w' Y' σ')
theorem abL.cv (cvs:List Cv){g:Operand}{ps:Array Tmp}{x y:Code}{K:Env->Prop}{E:Env}(U:lS E.st=true)(h:abL P T g ps x y K (IE (jb.jJ P T) cvs E)):abL P T g ps x y K E:=by
 rintro C D a w ⟨Y,σ,H,hd,hD⟩
 obtain⟨I,J,H1,_⟩:=Z4 (P:=P) (T':=T) cvs E (H.Om (pY _ U));exact h C D a w ⟨I,J,H.Ih H1,hd,hD.step H.store H1⟩
def ahM (T:Tab)(S:jb)(gop:Operand)(ps:Array Tmp)(x y:Code)(t0:Nat)(K:Env->Prop)(E:Env):Prop :=
 match qY T E.tmps gop with
 | .fn k caps=>(match jD E.tmps t0 with
  | .lv b0 0=>(match F6 (.lv b0 0::caps) E.st with
   | ρ=>S.afW x y ps t0 (oG E.tmps) k b0 ρ (zH (vk (CQ ρ) 8) caps) (xZ (CQ ρ) E.st 0 ρ) E K)
  | _=>False)
 | _=>False
theorem afO {S:jb}(hS:S=jb.jJ P T){U:Operand}{ps:Array Tmp}{x y:Code}{K:Env->Prop}{E:Env}(cvs:List Cv)(t0:Nat)(hnn:lS E.st=true)(h:ahM T S U ps x y t0 K (IE S cvs E)):S.rng U ps x y K E:=by
 subst hS;refine abL.cv cvs hnn ?_;generalize IE (jb.jJ P T) cvs E=E2 at *;unfold ahM at h
 split at h
 rename_i k caps hg
 split at h
 rename_i b0 ht;obtain⟨I,g,J,C,h0,v,st1,n1,Yc,hF,hY,hn1,hK⟩:=h.out;exact agz hg ht J I g C h0 hF (by simpa using hY) hK hn1
 exact h.elim
 exact h.elim
theorem adL {S:jb}(hS:S=jb.jJ P T){α ρ:Type}{r:ρ}{ps:Array Tmp}{x y:Code}{K:Env->Prop}{E:Env}{k t0 len b0 m:Nat}{as U:List PV}{J : List Nat}{st0 I:St}{g:Option α}{v:α->PV}{st1:α->St}{n1:Nat}{kk:α->Option ρ}{Yc:Nat->Loop->Value->Prop}
  (O:bnd g kk=some r) (hF:∀ z,g=some z->FnY P T.gl k U I m Yc (λu st n=>u=v z/\st=st1 z/\n=n1)) (ha:Gi as U) (hs:LeS st0 I) (hm:m=lh J) (hnd:JF J=true) (hlt:ltN E.next J=true) (C:lS E.st=true) (hnr:lS st0=true) (h0:J[0]?=some b0)
  (hn1:∀ z,lS (DV J E (st1 z) n1).st=true)
  (hY:∀ l rc pv,rc.assign=x->rc.body=y->rc.state=.ready->rc.pending=none->rc.params=ps->rc.tmps.toList[t0]?=some pv->rc.tmps.size=len->Yc l rc pv)
  (h:∀ z,kk z=some r->K (DV J E (st1 z) n1)):S.afW x y ps t0 len k b0 J as st0 E K:=by
 subst hS;obtain⟨z,hz,hk⟩:=wL O;clear O;subst hm;exact⟨hnd,hlt,C,hnr,h0,v z,st1 z,n1,Yc,(hF z hz).le ha hs,hY,hn1 z,h z hk⟩
theorem afm (hT:jv P T)(hp:T.pG=0)(hW:Bg P){k:Nat}{fn:Func}{c:Code}(O:P.funcs[k]?=some fn)(hb:fn.body=some c)
  (hcall:∀ args w,(callFunc k args).run P w=.ok (.enter k args) w) {args:List PV} {v:PV} {m:Nat} (g:fn.ntmps-args.length=m)
  (h:∀ S R,S=jb.jJ P T->(∀ u,LeP u v->R u)->mwp T S c (afN T S fn.results.toList R) ⟨uX args (rO m),[],0⟩) (hyl:T.yl=none:=by rfl):Fn P T.gl k args (λu=>u=v):=by
 have H:=YM hT hp hW O hb hcall g (hyl:=hyl) (R:=λu=>LeP u v) λS hS=>h S _ hS λ_ h=>h;intro w Y U I C hr;obtain⟨h1,h2⟩:=H w Y U I C hr;refine⟨h1,Calls.mono h2 λe w' hh=>?_⟩;obtain⟨cv,u,J,hu,hv,hc⟩:=hh;exact⟨cv,v,J,rfl,hu.rep _ hv,hc⟩
end
end Go.Pv
