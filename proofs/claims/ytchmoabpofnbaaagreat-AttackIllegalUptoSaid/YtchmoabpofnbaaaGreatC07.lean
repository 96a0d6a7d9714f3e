import Derived.RangeFuncLeaves
import Derived.RangeFuncRecord
import Derived.LoopN
import Derived.Test.YtchmoabpofnbaaaGreatC06
set_option linter.all false
namespace Go.Pv
open Go
def upT:List (Nat×PV)->List PV->List PV
 | [],ts=>ts
 | (t,v)::l,ts=>upT l (nY ts t v)
def upB:List (Nat×Option mO)->St->St
 | [],st=>st
 | (b,x)::l,st=>upB l (oH st b x)
def aiT:List (Nat×Option mO)->Nat->Nat
 | [],n=>n
 | (b,_)::l,n=>aiT l (bif Nat.blt b n then n else b+1)
def up (ts:List (Nat×PV))(bs:List (Nat×Option mO))(E:Env):Env:=⟨upT ts E.tmps,upB bs E.st,aiT bs E.next⟩
def jO (ts:List (Nat×PV))(E:Env):Env:=⟨upT ts E.tmps,E.st,E.next⟩
inductive ag7 {σ:Type} (i:Nat) (cvs:List Cv) (keep:List Nat) (F:iW->σ->Env->Env):Prop
 | mk
inductive ae0 {σ:Type} (i:Nat) (cvs:List Cv) (keep:List Nat) (F:iW->σ->Env->Env):Prop
 | mk
inductive abn (i:Nat) (cvs:List Cv):Prop
 | mk
theorem ct {σ:Type}(i:Nat)(keep:List Nat)(F:iW->σ->Env->Env)(cvs:List Cv:=[]):ag7 i cvs keep F:=.mk
theorem lo {σ:Type}(i:Nat)(keep:List Nat)(F:iW->σ->Env->Env)(cvs:List Cv:=[]):ae0 i cvs keep F:=.mk
theorem cv {i:Nat}(cvs:List Cv):abn i cvs:=.mk
class HM (M:iG):Prop where
 h:M=kX
instance:HM kX:=⟨rfl⟩
class EC (M:iG) (α:Type) (e:outParam (α->List PV)):Prop
instance {M:iG}:EC M Bool eB:=⟨⟩
instance {M:iG}:EC M Int (eI .i64):=⟨⟩
instance {M:iG}:EC M ByteArray eS:=⟨⟩
instance {M:iG}:EC M (List Int) (eL M 1 (eI .i64)):=⟨⟩
class CW (P:Program) (G:Nat->Option (List PV)) (M:iG) (k:Nat) {α:Type} (g:Option α) (as:outParam (List PV)) (v:outParam (α->PV)):Prop where
 w:∀ y,g=some y->Fn P G k as (λu=>u=v y)
theorem cwT {P:Program}{G:Nat->Option (List PV)}{M:iG}(_:M=kX){T:Tab}(U:T.gl=G){k:Nat}{α:Type}{g:Option α}{as:List PV}{v:α->PV}[h:CW P G M k g as v]:∀ y,g=some y->Fn P T.gl k as (λu=>u=v y):=by subst U;exact h.w
class CS (P:Program) (G:Nat->Option (List PV)) (M:iG) (k:Nat) {α:Type} (g:Option α) (as:outParam (List PV)) (st0:outParam St) (m:outParam Nat) (v:outParam (α->PV)) (st1:outParam (α->St)) (n1:outParam Nat):Prop where
 w:∀ y,g=some y->FnS P G k as st0 m (λu st n=>u=v y/\st=st1 y/\n=n1)
theorem csT {P:Program}{G:Nat->Option (List PV)}{M:iG}(_:M=kX){T:Tab}(U:T.gl=G){k:Nat}{α:Type}{g:Option α}{as:List PV}{st0:St}{m:Nat}{v:α->PV}{st1:α->St}{n1:Nat}[h:CS P G M k g as st0 m v st1 n1]:∀ y,g=some y->FnS P T.gl k as st0 m (λu st n=>u=v y/\st=st1 y/\n=n1):=by subst U;exact h.w
section
variable {P:Program}{T:Tab}{S:iW}{M:iG}{α β σ ρ:Type}{r:ρ}
theorem d_kA (hS:S=iW.jI P T){i:Nat}{cvs:List Cv}{keep:List Nat}{F:iW->σ->Env->Env}(_:ag7 i cvs keep F){E J:Env}{U:σ->Env}{A:Post->Prop}{B:Env->Prop}{Q:Post}{rest:σ->Option ρ}{body:(σ->Option ρ)->Option ρ}(O:jn rest body=some r)
  (_:GV T.qf keep (wkE (Jv S cvs E))=J) (_:∀ s,F S s J=U s)
  (h:∀ (I:σ->Env) (k:σ->Option ρ),(∀ s,I s=U s)->body k=some r->A (Iw (λE=>∃ s,k s=some r/\GV T.qf keep (wkE (Jv S cvs E))=I s) Q)) (h2:∀ s,rest s=some r->B (U s)):S.seq i E A B Q:=ag6 hS cvs keep U O h h2
theorem d_lA (hT:jq P T)(hW:Ci P)(hS:S=iW.jI P T){b:Code}{i:Nat}(_:Oi b=some i){cvs:List Cv}{keep:List Nat}{F:iW->σ->Env->Env}(_:ae0 i cvs keep F){Q:Post}{E J:Env}{U:σ->Env}{step:σ->(σ->Option ρ)->Option ρ}{C:σ}(O:gK step C=some r)
  (h0:GV T.qf keep (wkE (Jv S cvs E))=J) (_:∀ s,F S s J=U s) (he:J=U C)
  (h:∀ (I:σ->Env) (k:σ->Option ρ) (s:σ),(∀ s,I s=U s)->step s k=some r->∀ e,e=U s->I4 T S b (Iw (λE'=>∃ g,k g=some r/\GV T.qf keep (wkE (Jv S cvs E'))=I g) Q) e):S.loop b Q E:=JL hS hT hW cvs keep U O (h0.trans he) h
theorem d_xA {I F:σ->Env}{k:σ->Option ρ}{s:σ}{E:Env}(hk:∀ s,I s=F s)(O:k s=some r)(e:E=F s):∃ s,k s=some r/\E=I s:=⟨s,O,e.trans (hk s).symm⟩
theorem fBr {c:Bool}{A B:Unit->Prop}(h:S.br c A B):S.br c A B:=h
theorem fCp {k:Nat}{a b c:List PV}{E:Env}{K:PV->Env->Prop}(h:S.Sl k a b c E K):S.Sl k a b c E K:=h
theorem fCq {k:Nat}{a:List PV}{K:PV->Prop}(h:S.Uo k a K):S.Uo k a K:=h
theorem fCf {k:Nat}{a:List PV}{K:PV->Prop}(h:S.Wp k a K):S.Wp k a K:=h
theorem fCa {k:Nat}{a b:List PV}{E:Env}{x y:Option (List PV)}{z:List Nat}{s:St}{K:PV->Env->Prop}(h:S.call k a E x y z b s K):S.call k a E x y z b s K:=h
theorem fCw {k:Nat}{a:List PV}{z:List Nat}{s:St}{K:PV->St->Nat->Prop}(h:S.Zi k a s z K):S.Zi k a s z K:=h
theorem fIx {n:Nat}{i:Int}{K:Nat->Prop}(h:S.ix n i K):S.ix n i K:=h
theorem aiU {a:List (List PV)}{i:Int}{K:List PV->Prop}(h:S.idx a i K):S.idx a i K:=h
theorem fRow {a:List (List PV)}{i:Nat}{K:List PV->Prop}(h:S.row a i K):S.row a i K:=h
theorem aiV {n b:Nat}{p:Prop}(h:S.room n b p):S.room n b p:=h
theorem fCat {a b:ByteArray}{K:ByteArray->Prop}(h:S.adZ a b K):S.adZ a b K:=h
theorem fSix {a:ByteArray}{i:Int}{K:Int->Prop}(h:S.adY a i K):S.adY a i K:=h
theorem fDiv {o:BinOp}{kd:IntKind}{a b:Int}{K:Int->Prop}(h:S.div o kd a b K):S.div o kd a b K:=h
theorem fShf {o:BinOp}{kd:IntKind}{a b:Int}{K:Int->Prop}(h:S.shf o kd a b K):S.shf o kd a b K:=h
theorem fMks {n m:Int}{b:Nat}{K:Nat->Prop}(h:S.mks n m b K):S.mks n m b K:=h
theorem fSlc {n:Nat}{a b:Int}{K:Nat->Nat->Prop}(h:S.slc n a b K):S.slc n a b K:=h
theorem fSsl {s:ByteArray}{a b:Int}{K:ByteArray->Prop}(h:S.aaK s a b K):S.aaK s a b K:=h
theorem fOrd {l:Array Oper}{p:Prop}(h:S.order l p):S.order l p:=h
theorem aiW {l:Array Oper}{p:Prop}(h:S.last l p):S.last l p:=h
theorem fOrf {l:Array Oper}{t:List (List Nat×List Nat×List Nat)}{p:Prop}(h:S.ac0 l t p):S.ac0 l t p:=h
theorem fSame {x y:Hdr}{p:Prop}(h:S.same x y p):S.same x y p:=h
theorem fNu {K:Hdr->Prop}(h:S.nu K):S.nu K:=h
theorem fNil {a:List (List PV)}{K:Bool->Prop}(h:S.Ur a K):S.Ur a K:=h
theorem ahO {i:Nat}{E:Env}{A:Post->Prop}{B:Env->Prop}{Q:Post}(h:S.seq i E A B Q):S.seq i E A B Q:=h
theorem aiX {b:Code}{E:Env}{Q:Post}(h:S.loop b Q E):S.loop b Q E:=h
theorem fWk {c:List PV}{K:List PV->Prop}(h:S.wk c K):S.wk c K:=h
theorem fEx {p:α->Prop}(h:∃ x,p x):∃ x,p x:=h
theorem aiY (hS:S=iW.jI P T)(_:M=kX){cs:List PV}{e:α->List PV}{v:α}{K:List PV->Prop}{k:α->Option ρ}[EC M α e](O:lt v k=some r)(hl:Hg cs (e v))(h:∀ x,k x=some r->K (e x)):S.wk cs K:=KN hS O hl h
theorem ahP (hS:S=iW.jI P T)(hM:M=kX){J:List (List PV)}{l:List α}{e:α->List PV}{i U : Int}{k:α->Option ρ}{K:List PV->Prop}[EC M α e](O:bnd (jl l U) k=some r)(I:J=M.m α e l)(hi:i=U)(h:∀ x,k x=some r->K (e x)):S.idx J i K:=aeW hS hM O I hi h
theorem ahQ (hS:S=iW.jI P T)(hM:M=kX){J:List (List PV)}{l:List α}{e:α->List PV}{j U : Nat}{k:α->Option ρ}{K:List PV->Prop}[EC M α e](O:bnd (l[U]?) k=some r)(I:J=M.m α e l)(hj:j=U)(h:∀ x,k x=some r->K (e x)):S.row J j K:=jW hS hM O I hj h
theorem aiZ (hS:S=iW.jI P T){i:Nat}{cvs:List Cv}(_:abn i cvs){E:Env}{A:Post->Prop}{B:Env->Prop}{Q:Post}(h:A (Iw (λE=>B (Jv S cvs E)) Q)):S.seq i E A B Q:=Yd hS cvs h
end
theorem dE {α:Sort _}{a b:α}(h:a=b:=by first|with_reducible rfl|(simp only[q]<;>fail)|(simp only[q];rfl)|rfl|(simp[Ap,eI,eB,eL,eS,q]<;>fail)):a=b:=h
theorem dLE {a b:List PV}(h:Hg a b:=by first|exact le_eq dE|exact Lr|exact ji):Hg a b:=h
theorem dCl {a b:Env}(h:a=b:=by(try (conv=>lhs;cbv))<;>rfl):a=b:=h
theorem dCf {α:Type}{f g:α->Env}(h:∀ s,f s=g s:=by intro s;(try (conv=>lhs;cbv))<;>rfl):∀ s,f s=g s:=h
theorem dW {p:Prop}(h:p:=by
 cbv
 repeat' (first
  | (refine fBr ?_;refine Ru hS O dE ?_ ?_;all_goals (intro O;first|cbv|((conv=>whnf);cbv)|(conv=>whnf)))
  | (refine fCp ?_;refine Yb hS O (cI hM) dLE ?_;(intro _ O;cbv))
  | (refine fCp ?_;refine jM hS O (cZ hM) dLE ?_;(intro _ O;cbv))
  | (refine aiU ?_;refine aeW hS hM O dE dE ?_;(intro _ O;cbv))
  | (refine aiU ?_;refine ahP hS hM O dE dE ?_;(intro _ O;cbv))
  | (refine fEx ?_;refine d_xA dA O ?_;(try (conv=>lhs;cbv))<;>(first|exact dE|(subst hM;rfl)))
  | (refine hR _ ?_;have O:=Option.some.inj O;subst O;first|exact Ve dE|exact ji)
  | (refine hR _ _ _ ?_ ?_ rfl<;>(have O:=Option.some.inj O;subst O;first|exact Ve dE|exact ji))
  | (refine aiV ?_;refine tH hS O dE ?_;(intro O;cbv))
  | (refine fRow ?_;refine jW hS hM O dE dE ?_;(intro _ O;cbv))
  | (refine fRow ?_;refine ahQ hS hM O dE dE ?_;(intro _ O;cbv))
  | (refine fOrd ?_;refine acv hS aI ?_;cbv)
  | (refine ahO ?_;refine d_kA hS dA O dCl dCf ?_ ?_;all_goals (first|(intro I k hk O;cbv)|(intro s O;cbv)))
  | (refine ahO ?_;refine aiZ hS dA ?_;cbv)
  | (refine ahO ?_;refine oU hS ?_;cbv)
  | (refine aiX ?_;refine d_lA hT hW hS rfl dA O dCl dCf dE ?_;(intro I k s hk O e T;subst T;cbv))
  | (refine fIx ?_;refine mG hS O dE dE ?_;(intro _ _ O;cbv))
  | (refine fIx ?_;obtain⟨j,hj,U,O⟩:=Ya O;refine aeX hS dE ⟨j,hj,U,?_⟩;(first|(rcases lt2 hj with rfl|rfl)|(rcases lt3 hj with rfl|rfl|rfl)|(rcases lt5 hj with rfl|rfl|rfl|rfl|rfl)|(rcases lt6 hj with rfl|rfl|rfl|rfl|rfl|rfl)|(rcases lt11 hj with rfl|rfl|rfl|rfl|rfl|rfl|rfl|rfl|rfl|rfl|rfl));all_goals cbv)
  | (refine fWk ?_;refine aiY hS hM O ji ?_;(intro _ O;cbv))
  | (refine fCq ?_;refine OE hS O (cI hM) dLE ?_;(intro _ O;cbv))
  | (refine fCf ?_;refine acE hS O (cI hM) dLE (λ_=>rfl) ?_;(intro _ O;cbv))
  | (refine fCa ?_;refine JK hS O (cI hM) dLE (λ_=>rfl) ?_;(intro _ O;cbv))
  | (refine fCa ?_;refine agB hS O (cI hM) dLE ?_;(intro _ O;cbv))
  | (refine fCa ?_;refine jT hS O (cZ hM) dLE ji rfl rfl rfl rfl ?_;(intro _ O;cbv))
  | (refine fCw ?_;refine MZ hS O (cZ hM) dLE ji rfl rfl ?_;(intro _ O;cbv))
  | (refine fCat ?_;refine Xa hS O dE dE ?_;(intro _ O;cbv))
  | (refine fSix ?_;refine acF hS O dE dE ?_;(intro _ O;cbv))
  | (refine fDiv ?_;refine Vf hS O dE dE ?_;(intro _ O;cbv))
  | (refine fShf ?_;refine W9 hS O dE dE ?_;(intro _ O;cbv))
  | (refine fMks ?_;refine Lm hS O dE dE ?_;(intro _ O;cbv))
  | (refine fSlc ?_;refine ZZ hS O dE dE dE ?_;(intro _ _ O;cbv))
  | (refine fSsl ?_;refine aiN hS O dE dE dE ?_;(intro _ O;cbv))
  | (refine fNil ?_;refine aiO hS hM O dE (by intro h;subst h;exact λh=>h) ?_ ?_;all_goals (intro O;cbv))
  | (refine fSame ?_;refine zN hS rfl ?_;cbv)
  | (refine fNu ?_;refine ahF hS ?_;intro _;cbv)
  | (refine fOrf ?_;refine aeP hS aI ?_;cbv)
  | (refine aiW ?_;refine X4 hS aI ?_;cbv)
  | (split at O<;>cbv)
  | (cases O<;>fail))):p:=h
theorem wA {P:Program}{T:Tab}{M:iG}[m:HM M]{k:Nat}{fn:Func}{c:Code}{α:Type}{g:Option α}{args:List PV}{v:α->PV}{n:Nat}(hT:jq P T)(O:P.funcs[k]?=some fn)
  (hcall:∀ args w,(callFunc k args).run P w=.ok (.enter k args) w) (hW:Ci P:=by exact wf) (hp:T.qf=0:=by rfl) (U:fn.body=some c:=by rfl) (J:fn.ntmps-args.length=n:=by rfl) (hyl:T.yl=none:=by rfl)
  (h:∀ r,g=some r->∀ S R,S=iW.jI P T->(∀ u,LeP u (v r)->R u)->jq P T->Ci P->M=kX->SF M S->I4 T S c (af2 T S fn.results.toList R) ⟨vk args (sF n),[],0⟩:=by intro r O S R hS hR hT hW hM q;exact dW):CW P T.gl M k g args v :=
 ⟨λ_ hy=>aeV hT hp hW O U hcall J (hyl:=hyl) λS R hS hR=>h _ hy S R hS hR hT hW m.h (sf m.h hS)⟩
theorem wZ {P:Program}{T:Tab}{M:iG}[m:HM M]{k:Nat}{fn:Func}{c:Code}{α:Type}{g:Option α}{args:List PV}{st0:St}{v:α->PV}{st1:α->St}{n1 n:Nat}(hT:jq P T)(O:P.funcs[k]?=some fn)
  (hcall:∀ args w,(callFunc k args).run P w=.ok (.enter k args) w) (hW:Ci P:=by exact wf) (U:fn.body=some c:=by rfl) (J:fn.ntmps-args.length=n:=by rfl) (hyl:T.yl=none:=by rfl)
  (h:∀ r,g=some r->∀ S R,S=iW.jI P T->(∀ u s n,LeP u (v r)->LeS s (st1 r)->n=n1->R u s n)->jq P T->Ci P->M=kX->SF M S->I4 T S c (aee T S fn.results.toList R) ⟨vk args (sF n),st0,T.qf⟩:=by intro r O S R hS hR hT hW hM q;exact dW):CS P T.gl M k g args st0 T.qf v st1 n1 :=
 ⟨λ_ hy=>AQ hT hW O U hcall J (hyl:=hyl) λS R hS hR=>h _ hy S R hS hR hT hW m.h (sf m.h hS)⟩
theorem wC {P:Program}{T:Tab}{M:iG}[m:HM M]{k:Nat}{fn:Func}{c:Code}{α:Type}{g:Option α}{args:List PV}{st0:St}{v:α->PV}{st1:α->St}{n1 n:Nat}(hT:jq P T)(O:P.funcs[k]?=some fn)
  (hcall:∀ args w,(callFunc k args).run P w=.ok (.enter k args) w) (cvs:List Cv) (hW:Ci P:=by exact wf) (U:fn.body=some c:=by rfl) (J:fn.ntmps-args.length=n:=by rfl) (hyl:T.yl=none:=by rfl)
  (h:∀ r,g=some r->∀ S R,S=iW.jI P T->(∀ u s n,LeP u (v r)->LeS s (st1 r)->n=n1->R u s n)->jq P T->Ci P->M=kX->SF M S->I4 T S c (Rw T S cvs fn.results.toList R) ⟨vk args (sF n),st0,T.qf⟩:=by intro r O S R hS hR hT hW hM q;exact dW):CS P T.gl M k g args st0 T.qf v st1 n1 :=
 ⟨λ_ hy=>yS hT hW O U hcall J cvs (hyl:=hyl) λS R hS hR=>h _ hy S R hS hR hT hW m.h (sf m.h hS)⟩
end Go.Pv
namespace Go.Pv
open Go
def Sim (v' v:PV):Prop:=∀ w Y σ u,Rep w Y σ v' u->Rep w Y σ v u
theorem Sim.refl (v:PV):Sim v v:=λ_ _ _ _ h=>h
theorem Sim.si (k:IntKind)(n:Int):Sim (.si k n) (.int k n):=λw Y σ u h=>by unfold Rep at h |-;exact h
theorem Sim.sb (b:Bool):Sim (.sb b) (.bool b):=λw Y σ u h=>by unfold Rep at h |-;exact h
def KS (v:PV)(δ:Dl):PV->Dl->Prop:=λv' δ'=>Sim v' v/\δ'=δ
theorem KS.refl (v:PV)(δ:Dl):KS v δ v δ:=⟨Sim.refl v,rfl⟩
end Go.Pv
namespace Go.Pv
open Go
abbrev Tab.at (T:Tab) (n:Nat):Tab:={ T with qf:=n }
def NN (t:Sb):Prop:=∀ b sz rows,aeg t b≠some (.mg sz rows)
end Go.Pv
namespace Go.Pv
open Go
def GT (t:Sb)(n:Nat):Prop:=NN t/\∀ b,n<=b->aeg t b=none
def FnV (P:Program)(T:Tab)(k:Nat)(args:List PV)(t:Sb)(n:Nat)(v:PV)(t' : Sb)(n' : Nat):Prop := GT t n->GT t' n'/\∀ (w:World) (Y:Nat->Prop) (σ:Sg) (cargs:List Value) (st:St),(∀ b,jk st b=aeg t b)->TD T.gl w Y->(∀ b,Y b->b<w.heap.size)->(∀ b,n<=b->σ b=none)->gI w Y σ args cargs->EE w Y σ st -> (callFunc k cargs.toArray).run P w=.ok (.enter k cargs.toArray) w /\ Calls P k cargs.toArray w λe w'=>∃ cv Y' σ' st',e=.returned cv/\(∀ b,jk st' b=aeg t' b)/\SW (xR (T.at n) w Y σ st) w' Y' σ' [v] [cv] st' n'
def ahR (P:Program)(T:Tab)(call:ag1):Prop:=∀ k args t n v t' n',call k args t n=some (v,t',n')->FnV P T k args t n v t' n'
structure EvOK {T:Tab}(C:Ctx T)(V:EV)(D:List Nat)(a:Act)(w:World):Prop where
 nn:GT V.st V.nx
 dfr:a.defers=marks D
 env:∃ ps st Y σ,(∀ i,getP V.tm i=jD ps i)/\V.n=ps.length/\(∀ b,jk st b=aeg V.st b)/\SW C w Y σ ps a.tmps.toList st V.nx/\KR C.w0.heap.size D w Y
end Go.Pv
namespace Go.Pv
open Go
section
variable {P:Program}{T:Tab}
theorem SW.Z5 {C:Ctx T}{w:World}{Y:Nat->Prop}{σ:Sg}{ps:List PV}{vs:List Value}{st:St}{n:Nat}(H:SW C w Y σ ps vs st n)(hn:NNs st)(o:Obj):SW C (w.alloc o) (λk=>Y k\/k=w.heap.size) σ ps vs st n:=by
 have hold:∀ k,k<w.heap.size->(w.alloc o).heap[k]?=w.heap[k]?:=by
  intro k hk;show(w.heap.push o)[k]?=_;rw[Array.getElem?_push,if_neg ah]
 have hsz:(w.alloc o).heap.size=w.heap.size+1:=by show(w.heap.push o).size=_;simp
 have K:Keep w (w.alloc o) Y (λk=>Y k\/k=w.heap.size) σ σ:=⟨λk hk _=>hold k hk,λk hk h=>h.resolve_right ah,by omega,oq.refl _⟩;refine⟨gI.keep _ K _ H.vals,⟨λb x hx=>?_,H.store.inj⟩,H.next,λk hk=>?_,λk hk=>.inl (H.y0 k hk),H.c0,λk hk U=>?_,?_,H.own,H.wU.keep K.none,H.fix,Aj.none hn⟩
 rcases H.store.blk b x hx with ⟨l,hl,hB⟩|h
 have:=hB.lt;exact .inl ⟨l,hl,gW.keep K (hold _ this) ⟨λh=>h.resolve_right ah,.inl⟩ hB⟩
 exact .inr h
 rcases hk with h|h
 have:=H.vJ k h;omega
 omega
 rcases hk with h|h
 exact H.wS k h U
 have:=H.qm.size;omega
 exact⟨H.qm.os,H.qm.tape,H.qm.output,by have:=H.qm.size;omega,λk hk hM=>by rw[hold k (Nat.lt_of_lt_of_le hk H.qm.size)];exact H.qm.block k hk hM⟩
theorem SW.ae1 {C:Ctx T}{w:World}{Y:Nat->Prop}{σ:Sg}{ps:List PV}{vs:List Value}{st:St}{n:Nat}(H:SW C w Y σ ps vs st n)(hn:NNs st){l:Nat}{o:Obj}(o' : Obj)(hy:Y l)(hB:C.w0.heap.size<=l)(ho:w.heap[l]?=some o)(hc:X0 o):SW C (w.putObj l o') Y σ ps vs st n:=by
 have U:∀ k,k≠l->(w.putObj l o').heap[k]?=w.heap[k]?:=λk hk=>World.putObj_heap_other hk;have hsz:(w.putObj l o').heap.size=w.heap.size:=by simp
 have K:Keep w (w.putObj l o') Y Y σ σ:=⟨λk _ hk=>U k λe=>hk (e ▸ hy),λ_ _ h=>h,by omega,oq.refl _⟩;refine⟨gI.keep _ K _ H.vals,⟨λb x hx=>?_,H.store.inj⟩,H.next,λk hk=>by rw[hsz];exact H.vJ k hk,H.y0,H.c0,H.wS,?_,H.own,H.wU.keep K.none,H.fix,Aj.none hn⟩
 rcases H.store.blk b x hx with ⟨l2,hl,J⟩|h
 refine .inl ⟨l2,hl,gW.keep K (U _ λe=>?_) Iff.rfl J⟩;rcases Ed.cells H.store (k:=l2.cb) ⟨b,x,l2,hx,hl,rfl⟩ with ⟨arr,ty,h1⟩|⟨es,ck,h1⟩
 rw[e,ho] at h1;cases h1;exact hc.1 arr ty rfl
 rw[e,ho] at h1;cases h1;exact hc.2 es ck rfl
 exact .inr h
 exact⟨H.qm.os,H.qm.tape,H.qm.output,by rw[hsz];exact H.qm.size,λk hk hM=>by rw[U k ah];exact H.qm.block k hk hM⟩
end
end Go.Pv
namespace Go.Pv
open Go
section
variable {P:Program}{T:Tab}
variable (hT:jq P T)(hW:Ci P)(hnar:T.mg=0)(hgl:∀ g,T.gl g=none){call:ag1}(hcall:ahR P T call)
theorem PZ {fn:Func}{R:Ending->World->Prop}{C:Ctx T}{Y:Nat->Prop}{σ:Sg}{ps:List PV}{tmps:Array Value}{st:St}{n:Nat}(hn:NNs st):∀ (D:List Nat) (w:World),SW C w Y σ ps tmps.toList st n->KR C.w0.heap.size D w Y ->
  (∀ w',SW C w' Y σ ps tmps.toList st n->∃ v,(results fn tmps).run P w'=.ok v w'/\R (.returned v) w')->LeavesInM Fence.wide 1 P fn tmps R (marks D) .returning w
 | [],w,H,_,hR=>by
  obtain⟨v,h1,h2⟩:=hR w H;exact⟨v,h1,h2⟩
 | r::D,w,H,hD,hR=>by
  obtain⟨J,U⟩:=hD;obtain⟨h0,h1,h2⟩:=U r aC;have I:=(List.nodup_cons.1 J).1;have H':=H.ae1 hn (.deferred none) h1 h0 h2 ⟨λ_ _ e=>dw,λ_ _ e=>dw⟩;refine⟨by simp,.inl ⟨r,w.putObj r (.deferred none),rfl,run_takeDeferred h2,?_⟩⟩
  exact PZ hn D _ H' ⟨(List.nodup_cons.1 J).2,λq hq=>by
   obtain⟨g0,g1,g2⟩:=U q (by simp[hq]);refine⟨g0,g1,?_⟩;have g:q≠r:=by rintro rfl;exact I hq
   rw[World.putObj_heap_other g];exact g2⟩ hR
end
end Go.Pv
namespace Go.Pv
open Go
section
variable {P:Program}{T:Tab}
def Ctx.dfr (C:Ctx T)(d:List Deferred):Ctx T:={ C with df:=d }
theorem SW.df {C:Ctx T}{w:World}{Y:Nat->Prop}{σ:Sg}{ps:List PV}{vs:List Value}{st:St}{n:Nat}(H:SW C w Y σ ps vs st n)(d:List Deferred):SW (C.dfr d) w Y σ ps vs st n :=
 ⟨H.vals,H.store,H.next,H.vJ,H.y0,H.c0,H.wS,H.qm,H.own,H.wU,H.fix,H.nest⟩
theorem SW.undf {C:Ctx T}{w:World}{Y:Nat->Prop}{σ:Sg}{ps:List PV}{vs:List Value}{st:St}{n:Nat}{d:List Deferred}(H:SW (C.dfr d) w Y σ ps vs st n):SW C w Y σ ps vs st n :=
 ⟨H.vals,H.store,H.next,H.vJ,H.y0,H.c0,H.wS,H.qm,H.own,H.wU,H.fix,H.nest⟩
def liftM (C:Ctx T)(Q:Post):Exit->Act->World->Prop
 | .normal,a,w=>∃ E D,XG C D E a w/\Q 0 E
 | .ret,a,w=>∃ E D,XG C D E a w/\Q 1 E
 | .exit n,a,w=>∃ E D,XG C D E a w/\Q (n+2) E
 | _,_,_=>False
def Yf (P:Program)(T:Tab)(c:Code)(Q:Post)(E:Env):Prop:=∀ (C:Ctx T) D a w,XG C D E a w->c.wp P (liftM C Q) a w
theorem TR.m (hyl:T.yl=none){c:Code}{Q:Post}{E:Env}(I:lY E.st=true)(h:TR P T c Q E):Yf P T c Q E:=by
 rintro C D a w ⟨Y,σ,H,hd,hD⟩
 have hN:=qg _ I;refine wp_mono (h ((xR T w Y σ E.st).dfr (marks D)) a w ⟨⟨Y,σ,(H.PO hN).df _⟩,hd,YOK.none hyl⟩) ?_
 have key:∀ n U w',(∃ J,lL ((xR T w Y σ E.st).dfr (marks D)) J U w'/\Q n J)->∃ E D,XG C D E U w'/\Q n E:=by
  rintro n U w' ⟨J,⟨⟨Y',σ',H'⟩,hd',_⟩,hq⟩
  have g:=H'.undf;exact⟨J,D,⟨Y',σ',H.Jd g,hd',hD.step H.store g⟩,hq⟩
 intro e U w' hq
 cases e with
 | normal=>exact key 0 U w' hq
 | ret=>exact key 1 U w' hq
 | exit n=>exact key _ U w' hq
 | _=>exact hq.elim
def Jf:Code->Bool
 | .rangeFunc _ _ _ _=>false
 | .seq x y=>Jf x&&Jf y
 | .cond _ x y=>Jf x&&Jf y
 | .block _ b=>Jf b
 | .loop b=>Jf b
 | .scope b=>Jf b
 | _=>true
def ae2 (T:Tab)(S:iW)(c:Code)(Q:Post)(E:Env):Prop :=
 match lY E.st with
 | true=>I4 T S c Q E
 | false=>False
def mwp (T:Tab)(S:iW):Code->Post->Env->Prop
 | .seq x y,Q,E=>bif Jf x&&Jf y then ae2 T S (.seq x y) Q E else mwp T S x (Iw (mwp T S y Q) Q) E
 | .block id b,Q,E=>bif Jf b then ae2 T S (.block id b) Q E else mwp T S b (aiu id Q) E
 | .rangeFunc g ps x y,Q,E=>S.rng g ps x y (Q 0) E
 | c,Q,E=>ae2 T S c Q E
theorem OG (hT:jq P T)(hW:Ci P)(hyl:T.yl=none){c:Code}{Q:Post}{E:Env}(h:ae2 T (iW.jI P T) c Q E):Yf P T c Q E:=by
 unfold ae2 at h
 cases hn:lY E.st with
 | false=>rw[hn] at h;exact h.elim
 | true=>rw[hn] at h;exact(zY hT hW c Q E h).m hyl hn
theorem liftM_seq {C:Ctx T}{b:Code}{Q:Post}{nx:Env->Prop}(U:∀ E D a w,XG C D E a w->nx E->b.wp P (liftM C Q) a w):∀ e a w,liftM C (Iw nx Q) e a w->Exit.then (b.wp P (liftM C Q)) (liftM C Q) e a w:=by
 intro e a w h
 cases e with
 | normal=>obtain⟨E,D,hA,hq⟩:=h;exact U E D a w hA hq
 | ret=>obtain⟨E,D,hA,hq⟩:=h;exact⟨E,D,hA,hq⟩
 | exit n=>obtain⟨E,D,hA,hq⟩:=h;exact⟨E,D,hA,hq⟩
 | _=>exact h.elim
theorem adr (hT:jq P T)(hW:Ci P)(hyl:T.yl=none):∀ (c:Code) (Q:Post) (E:Env),mwp T (iW.jI P T) c Q E->Yf P T c Q E:=by
 intro c
 induction c with
 | seq x y ihx ihy=>
  intro Q E h;simp only[mwp] at h
  cases hs:Jf x&&Jf y with
  | true=>rw[hs] at h;exact OG hT hW hyl h
  | false=>
   rw[hs] at h;intro C D a w hA;exact wp_seq (wp_mono (ihx _ E h C D a w hA) (liftM_seq λJ I a' w' U hq=>ihy Q J hq C I a' w' U))
 | block id b ih=>
  intro Q E h;simp only[mwp] at h
  cases hs:Jf b with
  | true=>rw[hs] at h;exact OG hT hW hyl h
  | false=>
   rw[hs] at h;intro C D a w hA;refine wp_block (wp_mono (ih _ E h C D a w hA) λe a' w' hq=>?_)
   cases e with
   | normal=>exact hq
   | ret=>exact hq
   | exit n=>
    obtain⟨J,I,U,hq⟩:=hq;simp only[Exit.inBlock];have hq:(bif Nat.beq n id then Q 0 J else Q (n+2) J):=hq
    by_cases hn:n=id
    rw[if_pos hn];subst hn;simp only[Nat.beq_refl,cond_true] at hq;exact⟨J,I,U,hq⟩
    rw[if_neg hn];rw[Q4 hn] at hq;exact⟨J,I,U,hq⟩
   | _=>exact hq.elim
 | rangeFunc g ps x y ihx ihy=>
  intro Q E h C D a w hA;refine wp_mono (h C D a w hA) ?_
  rintro e a' w' ⟨rfl,J,I,U,hq⟩
  exact⟨J,I,U,hq⟩
 | _=>intro Q E h;exact OG hT hW hyl h
theorem SW.ahS {T' : Tab}(hgl:T'.gl=T.gl)(hp:T'.qf=T.qf){w wb J:World}{Y Y3:Nat->Prop}{σ σ3:Sg}{st st3:St}{ps:List PV}{vs:List Value}{n3 l:Nat}{rc r1:Loop}(I:wb=w.putObj l (.loop r1))(hl:w.heap[l]?=some (.loop rc))(hy:Y l)
  (hst:EE w Y σ st) (U:SW (xR T wb Y σ st) J Y3 σ3 ps vs st3 n3) (hNN:NNs st3):J.heap[l]?=some (.loop r1)/\SW (xR T' w Y σ st) (J.putObj l (.loop rc)) Y3 σ3 ps vs st3 n3:=by
 have hlt:l<w.heap.size:=(Array.getElem?_eq_some_iff.1 hl).1;have hsz:wb.heap.size=w.heap.size:=by rw[I];simp
 have hni:¬ Ed σ st l:=λh=>by
  rcases h.cells hst with ⟨arr,ty,h1⟩|⟨es,ck,h1⟩
  rw[hl] at h1;cases h1
  rw[hl] at h1;cases h1
 have hb:wb.heap[l]?=some (.loop r1):=by rw[I];exact World.putObj_heap_same hlt
 have hbo:∀ k,k≠l->wb.heap[k]?=w.heap[k]?:=λk hk=>by rw[I];exact World.putObj_heap_other hk
 have h3:J.heap[l]?=some (.loop r1):=by
  have:=U.qm.block l (show l<wb.heap.size by rw[hsz];exact hlt) (λh=>hni h.2);rw[this];exact hb
 have hy3:Y3 l:=U.y0 l ⟨hy,hni⟩;have C:∀ k,k≠l->(J.putObj l (.loop rc)).heap[k]?=J.heap[k]?:=λk hk=>World.putObj_heap_other hk;have hsz3:(J.putObj l (.loop rc)).heap.size=J.heap.size:=by simp
 have hle:w.heap.size<=J.heap.size:=by have:=U.qm.size;have this:wb.heap.size<=J.heap.size:=this;omega
 have K:Keep J (J.putObj l (.loop rc)) Y3 Y3 σ3 σ3:=⟨λk _ hk=>C k λe=>hk (e ▸ hy3),λ_ _ h=>h,by omega,oq.refl _⟩;refine⟨h3,gI.keep _ K _ U.vals,⟨λb x hx=>?_,U.store.inj⟩,U.next,λk hk=>by rw[hsz3];exact U.vJ k hk,U.y0,λk hk=>?_,λk hk g=>?_,?_,λb x l' h1 h2=>?_,?_,⟨by rw[hp];exact U.fix.1,λb hb=>U.fix.2 b (by rw[<- hp];exact hb)⟩,Aj.none hNN⟩
 rcases U.store.blk b x hx with ⟨l2,hl2,hBl⟩|h
 refine .inl ⟨l2,hl2,gW.keep K (C _ λe=>?_) Iff.rfl hBl⟩;rcases Ed.cells U.store (k:=l2.cb) ⟨b,x,l2,hx,hl2,rfl⟩ with ⟨arr,ty,h1⟩|⟨es,ck,h1⟩
 rw[e,h3] at h1;cases h1
 rw[e,h3] at h1;cases h1
 exact .inr h
 have:=U.c0 k hk;exact⟨by have h:=this.1;have h:k<wb.heap.size:=h;show k<w.heap.size;omega,this.2⟩
 have g : k<w.heap.size:=g;exact U.wS k hk (show k<wb.heap.size by omega)
 refine⟨?_,?_,?_,by rw[hsz3];exact hle,λk hk hM=>?_⟩
 show J.os=w.os;have h:=U.qm.os;have h:J.os=wb.os:=h;rw[h,I];rfl
 show J.tape=w.tape;have h:=U.qm.tape;have h:J.tape=wb.tape:=h;rw[h,I];rfl
 show J.output=w.output;have h:=U.qm.output;have h:J.output=wb.output:=h;rw[h,I];rfl
 have hk:k<w.heap.size:=hk;show(J.putObj l (.loop rc)).heap[k]?=w.heap[k]?
 by_cases e:k=l
 subst e;rw[World.putObj_heap_same ah,hl]
 have h:=U.qm.block k (show k<wb.heap.size by omega) hM;have h:J.heap[k]?=wb.heap[k]?:=h;rw[C k e,h,hbo k e]
 rcases U.own b x l' h1 h2 with h|h
 have h:wb.heap.size<=l'.cb:=h;exact .inl (show w.heap.size<=l'.cb by omega)
 exact .inr h
 rw[hgl];exact U.wU.keep K.none
def nnK (st:St)(p:Prop):Prop:=match lY st with|true=>p|false=>False
theorem abo {st:St}{p:Prop}(h:nnK st p):lY st=true/\p:=by
 unfold nnK at h
 cases hn:lY st with
 | true=>rw[hn] at h;exact⟨rfl,h⟩
 | false=>rw[hn] at h;exact h.elim
def P5:Nat->List PV
 | 0=>[]
 | n+1=>.top::P5 n
theorem Xe {w:World}{Y:Nat->Prop}{σ:Sg}:∀ (vs:List Value),gI w Y σ (P5 vs.length) vs
 | []=>by simp[P5,gI]
 | v::vs=>by
  simp only[List.length_cons,P5];unfold gI;exact⟨v,vs,rfl,by simp[Rep],Xe vs⟩
def ai0 (T:Tab)(S:iW)(cvs:List Cv)(R:PV->St->Nat->Prop)(E:Env):Prop := nnK E.st (match Jv S cvs E with|E=>match Zm (Sz T.qf E.st []) [] E.st with|E=>R (.bool true) E.st E.next)
theorem SW.flip {C:Ctx T}{w:World}{Y:Nat->Prop}{σ:Sg}{ps:List PV}{vs:List Value}{st:St}{n l:Nat}{rc r1:Loop}(H:SW C w Y σ ps vs st n)(hn:NNs st)(hy:Y l)(hl:w.heap[l]?=some (.loop rc)) :
  SW (xR T (w.putObj l (.loop r1)) Y σ st) (w.putObj l (.loop r1)) Y σ ps vs st n:=by
 have U:∀ k,k≠l->(w.putObj l (.loop r1)).heap[k]?=w.heap[k]?:=λk hk=>World.putObj_heap_other hk;have hsz:(w.putObj l (.loop r1)).heap.size=w.heap.size:=by simp
 have K:Keep w (w.putObj l (.loop r1)) Y Y σ σ:=⟨λk _ hk=>U k λe=>hk (e ▸ hy),λ_ _ h=>h,by omega,oq.refl _⟩;refine⟨gI.keep _ K _ H.vals,⟨λb x hx=>?_,H.store.inj⟩,H.next,λk hk=>by rw[hsz];exact H.vJ k hk,λ_ h=>h.1,λk h=>⟨by show k<(w.putObj l (.loop r1)).heap.size;rw[hsz];exact H.vJ k h.1,h.2⟩,λk h _=>?_,KL.refl _ _,λb x l' h1 h2=>.inr ⟨b,x,l',h1,h2,rfl⟩,H.wU.keep K.none,⟨H.fix.1,λ_ _=>rfl⟩,Aj.none hn⟩
 rcases H.store.blk b x hx with ⟨l2,J,I⟩|h
 refine .inl ⟨l2,J,gW.keep K (U _ λe=>?_) Iff.rfl I⟩;rcases Ed.cells H.store (k:=l2.cb) ⟨b,x,l2,hx,J,rfl⟩ with ⟨arr,ty,h1⟩|⟨es,ck,h1⟩
 rw[e,hl] at h1;cases h1
 rw[e,hl] at h1;cases h1
 exact .inr h
 by_cases hi:Ed σ st k
 exact .inr ⟨h,hi⟩
 exact .inl ⟨h,hi⟩
theorem ai1 (hT:jq P T)(hW:Ci P)(hyl:T.yl=none){l:Nat}{rc:Loop}{pv:Value}{x:PV}{st:St}{ia ib rb t0 pt N:Nat}{oa ob:Array Oper}{R:PV->St->Nat->Prop}(cvs:List Cv)
  (has:rc.assign=.region ia oa false) (hbo:rc.body=.block ib (.region rb ob false)) (hst:rc.state=.ready) (hpe:rc.pending=none) (hps:rc.params=#[pt]) (hpv:rc.tmps.toList[t0]?=some pv) (hne:pt≠t0) (hN:rc.tmps.size=N)
  (h:∀ S,S=iW.jI P T->opsE T S oa oa.toList ⟨nY (nY (P5 N) t0 (.lv 0 0)) pt x,st,T.qf⟩ λE1=>nnK E1.st (opsE T S ob ob.toList E1 λE2=>ai0 T S cvs R E2)):YS P T.gl l rc pv [x] st T.qf R:=by
 intro w Y σ cargs hG hY hn hr g hnn hYl hl hpv';obtain⟨c,rfl,hc⟩:=Ha hr;refine⟨by rw[hps];rfl,?_⟩;have hN0:=qg _ hnn
 let C:Ctx T:=xR T w Y σ st
 let tm:=rc.tmps.setIfInBounds pt c
 have htm:(rc.params.zip [c].toArray).foldl (λtmps (t,a)=>tmps.setIfInBounds t a) rc.tmps=tm:=by
  have hz:rc.params.zip [c].toArray=#[(pt,c)]:=by rw[hps];apply Array.ext';simp
  rw[hz];simp[tm]
 rw[htm];have hlen:rc.tmps.toList.length=N:=by simpa using hN
 have hvals:gI w Y σ (nY (nY (P5 N) t0 (.lv 0 0)) pt x) tm.toList:=by
  show gI w Y σ _ (rc.tmps.setIfInBounds pt c).toList;rw[Array.toList_setIfInBounds];refine gI.set hc _ _ _ ?_;have h0:gI w Y σ (P5 N) rc.tmps.toList:=by have:=Xe (w:=w) (Y:=Y) (σ:=σ) rc.tmps.toList;rwa [hlen] at this
  have h1:=gI.set hpv' _ rc.tmps.toList t0 h0
  have h2:rc.tmps.toList.set t0 pv=rc.tmps.toList:=by
   obtain⟨hlt,he⟩:=List.getElem?_eq_some_iff.1 hpv;rw[<- he];exact List.set_getElem_self hlt
  rwa [h2] at h1
 have H0:SW C w Y σ (nY (nY (P5 N) t0 (.lv 0 0)) pt x) tm.toList st T.qf:=by
  refine⟨hvals,g,hn,hY,λ_ h=>h.1,λk h=>⟨hY k h.1,h.2⟩,λk h _=>?_,KL.refl _ w,λb x l h1 h2=>.inr ⟨b,x,l,h1,h2,rfl⟩,hG,⟨Nat.le_refl _,λ_ _=>rfl⟩,Aj.none hN0⟩
  by_cases hi:Ed σ st k
  exact .inr ⟨h,hi⟩
  exact .inl ⟨h,hi⟩
 refine roundIn_of_wpIn (F:=Fence.wide) (n:=0) trivial ?_;rw[has,hbo];refine wpIn_region_list (F:=fW (some l)) (n:=0) (AB hT hW (some l) oa.toList _ _ (h _ rfl) _ w (C:=C) ⟨⟨Y,σ,H0⟩,rfl,YOK.none hyl⟩ ?_)
 rintro E1 a1 w1 ⟨⟨Y1,σ1,H1⟩,hd1,_⟩ hK1
 obtain⟨hn1,hK1⟩:=abo hK1;have hN1:=qg _ hn1;obtain⟨hl1,J⟩:=H1.kept g hl ⟨λ_ _ e=>dw,λ_ _ e=>dw⟩;have J:=J hYl;refine⟨_,run_beginRound hl1 hst,?_⟩;have H2:=H1.flip (r1:={ rc with state:=.busy }) hN1 J hl1;refine wpIn_block (F:=fW (some l)) (n:=0) (wpIn_region_list (F:=fW (some l)) (n:=0) (AB hT hW (some l) ob.toList _ _ hK1 _ _ (C:=xR T (w1.putObj l (.loop { rc with state:=.busy })) Y1 σ1 E1.st) ⟨⟨Y1,σ1,H2⟩,hd1,YOK.none hyl⟩ ?_))
 rintro E2 a2 w3 ⟨⟨Y3,σ3,H3⟩,hd2,_⟩ hK2
 obtain⟨hn2,hK2⟩:=abo hK2;have hN2:=qg _ hn2;obtain⟨hl3,H4⟩:=SW.ahS (T':=T) rfl rfl rfl hl1 J H1.store H3 hN2
 have hrc:({ { rc with state:=LoopState.busy } with state:=if (none:Option Code).isNone then LoopState.ready else LoopState.done,pending:=none }:Loop)=rc:=by
  cases rc;simp only at hst hpe;subst hst;subst hpe;rfl
 have I:=run_endRound (P:=P) none hl3;rw[hrc] at I;refine⟨_,_,I,?_⟩;have H5:=H1.Jd H4;obtain⟨⟨Y6,σ6,H6⟩,_⟩:=AP (P:=P) (T':=T) cvs E2 C { a2 with defers:=[] } _ ⟨⟨Y3,σ3,H5⟩,rfl,YOK.none hyl⟩;generalize Jv (iW.jI P T) cvs E2=E3 at *;have H7:SW C _ Y6 σ6 [.bool true] [.bool true] E3.st E3.next:=H6.rG (by unfold gI;exact⟨_,_,rfl,by simp[Rep],by unfold gI;rfl⟩)
 obtain⟨h1,h2,h3⟩:=KY T.qf E3.st [];obtain⟨σ7,U,_⟩:=H7.Zm h1 h2 h3;exact⟨.bool true,.bool true,_,_,Y6,σ7,rfl,hK2,⟨U.vals,U.store,U.next,U.vJ,U.y0,U.c0,U.wS,U.qm,U.own,U.wU,U.fix,U.nest⟩⟩
def Tab.y (T:Tab)(l:Nat)(rc:Loop)(pv:Value):Tab:=⟨T.ti,T.gl,T.qf,T.cut,T.mg,T.own,T.dcl,some (l,rc,pv),T.hid⟩
theorem jq.y {l:Nat}{rc:Loop}{U:Value}(h:jq P T):jq P (T.y l rc U):=h
theorem Yg (hT:jq P T)(hW:Ci P)(hp:0<T.qf){k:Nat}{fn:Func}{c:Code}(O:P.funcs[k]?=some fn)(hb:fn.body=some c)
  (hcall:∀ args w,(callFunc k args).run P w=.ok (.enter k args) w) {args:List PV} {st:St} {Yc:Nat->Loop->Value->Prop} {R:PV->St->Nat->Prop} {m:Nat} (hm:fn.ntmps-(args.length+1)=m)
  (cvs:List Cv) (h:∀ l rc U,Yc l rc U->∀ S,S=iW.jI P (T.y l rc U)->I4 (T.y l rc U) S c (Rw (T.y l rc U) S cvs fn.results.toList R) ⟨vk (.yl l::args) (sF m),st,T.qf⟩):FnY P T.gl k args st T.qf Yc R:=by
 intro l rc U hyc w Y σ cargs hG hY hn J C hnn hyl hl g;refine Lp (T:=T.y l rc U) hT hW O hb hcall (args:=.yl l::args) hm cvs (h l rc U hyc) hG hY hn J C hnn ?_;intro l' rc' pv' e;cases (Option.some.inj e:(l,rc,U)=(l',rc',pv'))
 have I:¬ Ed σ st l:=λh=>by
  rcases h.cells C with ⟨arr,ty,h1⟩|⟨es,ck,h1⟩
  rw[hl] at h1;cases h1
  rw[hl] at h1;cases h1
 unfold Rep at g;obtain⟨l0,h1,h2⟩:=g;exact⟨⟨hyl,I⟩,λh=>I h.2,hl,hp,l0,h1,h2⟩
theorem ae3 (hT:jq P T)(hW:Ci P)(hp:0<T.qf){k:Nat}{fn:Func}{c:Code}(O:P.funcs[k]?=some fn)(hb:fn.body=some c)
  (hcall:∀ args w,(callFunc k args).run P w=.ok (.enter k args) w) {args:List PV} {st:St} {Yc:Nat->Loop->Value->Prop} {v:PV} {st1:St} {n1:Nat} {m:Nat} (hm:fn.ntmps-(args.length+1)=m)
  (cvs:List Cv) (h:∀ l rc U,Yc l rc U->∀ S R,S=iW.jI P (T.y l rc U)->(∀ u s n,LeP u v->LeS s st1->n=n1->R u s n)->I4 (T.y l rc U) S c (Rw (T.y l rc U) S cvs fn.results.toList R) ⟨vk (.yl l::args) (sF m),st,T.qf⟩) :
  FnY P T.gl k args st T.qf Yc (λu s n=>u=v/\s=st1/\n=n1):=by
 have H:=Yg hT hW hp O hb hcall hm (st:=st) (cvs:=cvs) (Yc:=Yc) (R:=λu s n=>LeP u v/\LeS s st1/\n=n1) λl rc U J S hS=>h l rc U J S _ hS λ_ _ _ h1 h2 h3=>⟨h1,h2,h3⟩
 intro l rc U J w Y σ I hG hY hn hr g C hyl hl hpv;obtain⟨h1,h2⟩:=H l rc U J w Y σ I hG hY hn hr g C hyl hl hpv;refine⟨h1,Calls.mono h2 λe w' hh=>?_⟩;obtain⟨cv,u,s,n,Y',σ',he,⟨h3,h4,h5⟩,H⟩:=hh;refine⟨cv,v,st1,n,Y',σ',he,⟨rfl,rfl,h5⟩,?_⟩
 have hv:gI w' Y' σ' [v] [cv]:=by
  have:=H.vals;unfold gI at this |-;obtain⟨c,cs,e,h6,h7⟩:=this;cases e;exact⟨_,_,rfl,h3.rep _ h6,by unfold gI at h7 |-;exact h7⟩
 exact(H.rG hv).PU (h4.PU w' Y' σ')
theorem ahT {g:Operand}{ps:Array Tmp}{x y:Code}{K:Env->Prop}{E:Env}{k t0 b0:Nat}{J:List PV}{ρ:List Nat}{v:PV}{st1:St}{n1:Nat}{Yc:Nat->Loop->Value->Prop}
  (hg:sD T E.tmps g=.fn k J) (ht:jD E.tmps t0=.lv b0 0) (hnn:lY E.st=true) (hnd:KP ρ=true) (hlt:ltN E.next ρ=true) (hnr:lY (yD (DL ρ) E.st 0 ρ)=true) (h0:ρ[0]?=some b0)
  (hF:FnY P T.gl k (Ai (vI (DL ρ) 8) J) (yD (DL ρ) E.st 0 ρ) (lH ρ) Yc (λu st n=>u=v/\st=st1/\n=n1))
  (hY:∀ l rc pv,rc.assign=x->rc.body=y->rc.state=.ready->rc.pending=none->rc.params=ps->rc.tmps.toList[t0]?=some pv->rc.tmps.size=E.tmps.length->Yc l rc pv)
  (hK:K (EM ρ E st1 n1)) (hn1:lY (EM ρ E st1 n1).st=true):ac7 P T g ps x y K E:=by
 rintro C D a w ⟨Y,σ,H,hdf,hD⟩
 have hN:=qg _ hnn;have hN3:=qg _ hn1;have hgv:=lD H g;rw[hg] at hgv;unfold Rep at hgv;obtain⟨cs,eg,hcs⟩:=hgv;have hpv0:=H.vals.get _ _ t0;rw[ht] at hpv0;refine wpIn_wide.1 (wpIn_rangeFunc (F:=Fence.wide) (n:=1) λfn _=>?_)
 let rc:Loop:={ state:=.ready,pending:=none,fn,tmps:=a.tmps,params:=ps,assign:=x,body:=y,defers:=w.heap.size }
 let I:=(w.alloc (.deferred (some []))).alloc (.loop rc)
 have hD1:I.heap[w.heap.size]?=some (.deferred (some [])):=by
  show((w.heap.push _).push _)[w.heap.size]?=_;rw[Array.getElem?_push,if_neg aC,Array.getElem?_push,if_pos rfl]
 have hL1:I.heap[w.heap.size+1]?=some (.loop rc):=by
  show((w.heap.push _).push _)[w.heap.size+1]?=_;rw[Array.getElem?_push,if_pos aC]
 have hold:∀ k,k<w.heap.size->I.heap[k]?=w.heap[k]?:=λk hk=>by
  show((w.heap.push _).push _)[k]?=_;rw[Array.getElem?_push,if_neg bg,Array.getElem?_push,if_neg ah]
 have H0:=H.Z5 hN (.deferred (some []));have H1:=H0.Z5 hN (.loop rc);have hsz:(w.alloc (.deferred (some []))).heap.size=w.heap.size+1:=by simp
 rw[hsz] at H1
 have K1:Keep w I Y (λk=>(Y k\/k=w.heap.size)\/k=w.heap.size+1) σ σ:=⟨λk hk _=>hold k hk,λk hk h=>by
  rcases h with (h|h)|h
  exact h
  omega
  omega,by show w.heap.size<=((w.heap.push _).push _).size;simp;omega,oq.refl _⟩
 have harg:gI I (λk=>(Y k\/k=w.heap.size)\/k=w.heap.size+1) σ (.yl (w.heap.size+1)::J) (.func (.yield (w.heap.size+1)) #[] #[]::cs):=by
  unfold gI;exact⟨_,cs,rfl,by simp[Rep],gI.keep J K1 cs hcs⟩
 have hlt0:t0<a.tmps.toList.length:=by
  have hl:=gI.length _ _ H.vals;rw[hl];rw[Df,List.getD_eq_getElem?_getD] at ht
  by_cases hh:t0<E.tmps.length
  exact hh
  rw[List.getElem?_eq_none ah] at ht;cases ht
 obtain⟨pv,hpv⟩:∃ pv,a.tmps.toList[t0]?=some pv:=⟨_,List.getElem?_eq_getElem hlt0⟩
 have hpvr:Rep w Y σ (.lv b0 0) pv:=by
  rw[List.getD_eq_getElem?_getD,hpv] at hpv0;exact hpv0
 have hyc:Yc (w.heap.size+1) rc pv:=hY _ rc pv rfl rfl rfl rfl rfl hpv (by have:=gI.length _ _ H.vals;simpa using this)
 have key:=XU (P:=P) (N:=E.next+(n1-lH ρ)) (v:=v) (st1:=st1) (n1:=n1) (ρ:=ρ)
  (Z:=λw' Y'=>(w'.heap[w.heap.size]?=some (.deferred (some []))/\Y' w.heap.size)/\(w'.heap[w.heap.size+1]?=some (.loop rc)/\Y' (w.heap.size+1))/\∀ r∈D,w'.heap[r]?=some (.deferred (some []))/\Y' r)
  (X:=λR=>(callFunc k (Value.func (.yield (w.heap.size+1)) #[] #[]::cs).toArray).run P I=.ok (.enter k (Value.func (.yield (w.heap.size+1)) #[] #[]::cs).toArray) I/\Calls P k (Value.func (.yield (w.heap.size+1)) #[] #[]::cs).toArray I R)
  H1 hnd hlt H.fix.1 (λb hb _=>H.next b hb) ⟨Nat.le_refl _,Nat.le_add_right _ _⟩ harg (by intro R R' h k;exact⟨k.1,Calls.mono k.2 h⟩)
  (λσc hσc hnext hra U=>by
   obtain⟨h1,h2⟩:=hF _ rc pv hyc I _ σc _ H1.wU H1.vJ hnext hra U hnr (.inr rfl) hL1 (by
    unfold Rep at hpvr |-;rw[hσc 0 b0 h0];exact hpvr)
   refine⟨h1,Calls.mono h2 λe w' hh=>?_⟩;obtain⟨cv,u,st',n',Y',σ',h3,h4,h5⟩:=hh;have nd:X0 (.deferred (some [])):=⟨λ_ _ e=>dw,λ_ _ e=>dw⟩;obtain⟨g1,g2⟩:=h5.kept U hD1 nd;obtain⟨g3,g4⟩:=h5.kept U hL1 ⟨λ_ _ e=>dw,λ_ _ e=>dw⟩;refine⟨cv,u,st',n',Y',σ',h3,h4,h5,⟨g1,g2 (.inl (.inr rfl))⟩,⟨g3,g4 (.inr rfl)⟩,λr hr=>?_⟩;obtain⟨d0,d1,d2⟩:=hD.2 r hr;have hlt:=(Array.getElem?_eq_some_iff.1 d2).1;obtain⟨g5,g6⟩:=h5.kept U (k:=r) (by rw[hold r hlt];exact d2) nd;exact⟨g5,g6 (.inl (.inl d1))⟩)
 obtain⟨hent,hcalls⟩:=key;have e : #[.func (.yield (w.heap.size+1)) #[] #[]]++cs.toArray=(Value.func (.yield (w.heap.size+1)) #[] #[]::cs).toArray:=by apply Array.ext';simp
 refine⟨w.heap.size+1,[{ target:=.collected w.heap.size,args:=#[] }],I,{ target:=.fn (.func k) cs.toArray,args:=#[.func (.yield (w.heap.size+1)) #[] #[]] },I,k,
  #[.func (.yield (w.heap.size+1)) #[] #[]]++cs.toArray,I,run_enterLoop_outer _ _ _ _ _,?_,λ_ _=>trivial,?_,λe=>by(simp[Fence.wide] at e),?_⟩
 simp only[resolve,eg];simp[go_sem]
 rw[e,<- hent];simp[invoke,go_sem]
 rw[callsIn_wide,e];refine Calls.mono hcalls λed w3 hh=>?_;obtain⟨cv,Y3,σ3,rfl,H3,_,_,⟨g1,g2⟩,⟨g3,g4⟩,gD⟩:=hh;have H5:=H3.ae1 hN3 (.loop { rc with state:=.exhausted }) g4 (by have:=H.qm.size;omega) g3 ⟨λ_ _ e=>dw,λ_ _ e=>dw⟩;refine⟨none,_,run_endLoop g3 (by simp[rc]),rfl,EM ρ E st1 n1,w.heap.size::D,⟨Y3,σ3,H5,?_,?_⟩,hK⟩
 simp only[hdf,marks,List.map_cons];rfl
 have hne:∀ r∈D,r<w.heap.size:=λr hr=>(Array.getElem?_eq_some_iff.1 (hD.2 r hr).2.2).1;refine⟨List.nodup_cons.2 ⟨λhm=>by have:=hne _ hm;omega,hD.1⟩,λr hr=>?_⟩;rcases List.mem_cons.1 hr with rfl|hr
 exact⟨H.qm.size,g2,by rw[World.putObj_heap_other ah];exact g1⟩
 have:=hne r hr;exact⟨(hD.2 r hr).1,(gD r hr).2,by rw[World.putObj_heap_other ah];exact(gD r hr).1⟩
def ag8 (T:Tab)(S:iW)(rs:List ResultVar)(R:PV->Prop):Post
 | 0,E=>nnK E.st (Zp T S rs E R)
 | 1,E=>nnK E.st (Zp T S rs E R)
 | _+2,_=>False
theorem Z7 (hT:jq P T)(hp:T.qf=0)(hW:Ci P){k:Nat}{fn:Func}{c:Code}(O:P.funcs[k]?=some fn)(hb:fn.body=some c)
  (hcall:∀ args w,(callFunc k args).run P w=.ok (.enter k args) w) {args:List PV} {R:PV->Prop} {m:Nat} (hm:fn.ntmps-args.length=m)
  (h:∀ S,S=iW.jI P T->mwp T S c (ag8 T S fn.results.toList R) ⟨vk args (sF m),[],0⟩) (hyl:T.yl=none:=by rfl):Fn P T.gl k args R:=by
 intro w Y U hG hY J;refine⟨hcall _ _,?_⟩
 let C:Ctx T:=⟨w,Y,λ_=>False,λ_=>False,iU,[]⟩;have hlen:=J.length
 have H0:SW C w Y iU (vk args (sF m)) ((U.toArray++Array.replicate (fn.ntmps-U.toArray.size) Go.undef).toList) [] 0:=by
  refine⟨?_,⟨λb x h=>by simp[jk] at h,λb b' x x' l l' h=>by simp[jk] at h⟩,λ_ _=>rfl,hY,λ_ h=>h,λk h=>⟨hY k h,λh=>h⟩,λk h _=>.inl h,KL.refl _ w,λb x l h=>by simp[jk] at h,hG,⟨by omega,λ_ h=>by omega⟩,Aj.none λb sz rows h=>by simp[jk] at h⟩;have:(U.toArray++Array.replicate (fn.ntmps-U.toArray.size) Go.undef).toList=U++List.replicate m Go.undef:=by simp[hlen,hm]
  rw[this];exact gI.app _ _ _ _ J (F5 m)
 have hwp:=adr hT hW hyl c _ _ (h _ rfl) C [] { tmps:=U.toArray++Array.replicate (fn.ntmps-U.toArray.size) Go.undef,defers:=[] } w ⟨Y,iU,H0,rfl,List.nodup_nil,λr hr=>by cases hr⟩;refine callsIn_wide.1 (callsIn_of_wp_marks (F:=Fence.wide) (n:=1) O hb trivial (wpIn_wide.2 (wp_mono hwp ?_)))
 have key:∀ (a:Act) (w' : World),(∃ E D,XG C D E a w'/\nnK E.st (Zp T (iW.jI P T) fn.results.toList E R)) ->
   LeavesInM Fence.wide 1 P fn a.tmps (λe w'=>∃ cv v,e=.returned cv/\R v/\Rep w' Y iU v cv/\Chg w w') a.defers .returning w':=by
  rintro a w' ⟨E,D,⟨Y',σ',H,hd,hD⟩,hr⟩
  obtain⟨hn,hr⟩:=abo hr;rw[hd];refine PZ (qg _ hn) D w' H hD λw2 g=>?_;unfold Zp at hr
  split at hr
  rename_i vs hv
  split at hr
  rename_i u hu;obtain⟨cv,I,hrep⟩:=MW hT g hv;exact⟨cv,I,cv,u,rfl,hr,Cf g.store (λ_ _ h=>h) g.y0 (λb x l hx hl=>g.away hx hl) (λb sz rows hb=>(qg _ hn b sz rows hb).elim) _ _ _ _ hu hrep,g.qm.qm λ_ h=>h⟩
  exact hr.elim
  exact hr.elim
 intro e a w' hq
 cases e with
 | normal=>exact key a w' hq
 | ret=>exact key a w' hq
 | exit n=>obtain⟨E,_,_,hq⟩:=hq;exact hq.elim
 | _=>exact hq.elim
theorem YS.le {P:Program}{G:Nat->Option (List PV)}{l:Nat}{rc:Loop}{pv:Value}{args U:List PV}{st T:St}{n:Nat}{R:PV->St->Nat->Prop}(h:YS P G l rc pv U T n R)(hl:Hg args U)(hs:LeS st T):YS P G l rc pv args st n R:=by
 intro w Y σ vs hG hY hn hr I J hy g C;obtain⟨h1,h2⟩:=h w Y σ vs hG hY hn (hl.rep _ hr) (hs.rep I) (hs.lY J) hy g C;refine⟨h1,RoundIn.mono h2 λe w' hh=>?_⟩;obtain⟨cv,v,st',n',Y',σ',he,hR,H⟩:=hh;refine⟨cv,v,st',n',Y',σ',he,hR,?_⟩
 have e:xR ⟨λ_=>.bad,G,n,[],0,[],[],none,λ_=>[]⟩ w Y σ T=xR ⟨λ_=>.bad,G,n,[],0,[],[],none,λ_=>[]⟩ w Y σ st:=by
  unfold xR;rw[hs.ahI]
 rw[e] at H;exact H
theorem ai2 {S:iW}{α ρ:Type}{r:ρ}(hS:S=iW.jI P T){l:Nat}{rc:Loop}{pv:Value}{args as U:List PV}{E:Env}{J : List Nat}{st0 I:St}{m:Nat}{K:PV->Env->Prop}{g:Option α}{v:α->PV}{st1:α->St}{n1:Nat}{kk:α->Option ρ}(O:bnd g kk=some r)(hyl:T.yl=some (l,rc,pv))
  (hF:∀ y,g=some y->YS P T.gl l rc pv U I m (λu st n=>u=v y/\st=st1 y/\n=n1)) (ha:Hg as U) (hs:LeS st0 I) (hm:m=lH J) (h1:KP J=true) (h2:ltN E.next J=true) (h0:lY st0=true)
  (has:as=Ai (vI (DL J) 8) args) (C:st0=yD (DL J) E.st 0 J) (h00:J[0]?=some 0)
  (h:∀ y,kk y=some r->K (vI (BQ J E.next) 8 (v y)) (EM J E (st1 y) n1)):S.yld l args E J as st0 K:=by
 obtain⟨x,hx,hk⟩:=wV O;clear O;subst hS;subst hm;exact⟨rc,pv,v x,st1 x,n1,hyl,has,C,h1,h2,h0,h00,(hF x hx).le ha hs,h x hk⟩
theorem FnY.le {G:Nat->Option (List PV)}{k:Nat}{args U:List PV}{st T:St}{n:Nat}{Yc:Nat->Loop->Value->Prop}{R:PV->St->Nat->Prop}(h:FnY P G k U T n Yc R)(hl:Hg args U)(hs:LeS st T):FnY P G k args st n Yc R:=by
 intro l rc pv hyc w Y σ vs hG hY hn hr C I hy hl0 g
 have hr' : gI w Y σ (.yl l::U) vs:=by
  unfold gI at hr |-;obtain⟨v,J,e,h1,h2⟩:=hr;exact⟨v,J,e,h1,hl.rep _ h2⟩
 obtain⟨h1,h2⟩:=h l rc pv hyc w Y σ vs hG hY hn hr' (hs.rep C) (hs.lY I) hy hl0 g;refine⟨h1,Calls.mono h2 λe w' hh=>?_⟩;obtain⟨cv,v,st',n',Y',σ',he,hR,H⟩:=hh;refine⟨cv,v,st',n',Y',σ',he,hR,?_⟩
 have e:xR ⟨λ_=>.bad,G,n,[],0,[],[],none,λ_=>[]⟩ w Y σ T=xR ⟨λ_=>.bad,G,n,[],0,[],[],none,λ_=>[]⟩ w Y σ st:=by
  unfold xR;rw[hs.ahI]
 rw[e] at H;exact H
theorem ae4 (hT:jq P T)(hW:Ci P)(hyl:T.yl=none){l:Nat}{rc:Loop}{pv:Value}{x:PV}{st:St}{ia ib rb t0 pt N:Nat}{oa ob:Array Oper}{v:PV}{st1:St}{n1:Nat}(cvs:List Cv)
  (has:rc.assign=.region ia oa false) (C:rc.body=.block ib (.region rb ob false)) (U:rc.state=.ready) (hpe:rc.pending=none) (hps:rc.params=#[pt]) (J:rc.tmps.toList[t0]?=some pv) (hne:pt≠t0) (hN:rc.tmps.size=N)
  (h:∀ S R,S=iW.jI P T->(∀ u s n,LeP u v->LeS s st1->n=n1->R u s n)->opsE T S oa oa.toList ⟨nY (nY (P5 N) t0 (.lv 0 0)) pt x,st,T.qf⟩ λE1=>nnK E1.st (opsE T S ob ob.toList E1 λE2=>ai0 T S cvs R E2)) :
  YS P T.gl l rc pv [x] st T.qf (λu s n=>u=v/\s=st1/\n=n1):=by
 have H:=ai1 (l:=l) hT hW hyl (x:=x) (st:=st) (R:=λu s n=>LeP u v/\LeS s st1/\n=n1) cvs has C U hpe hps J hne hN λS hS=>h S _ hS λ_ _ _ h1 h2 h3=>⟨h1,h2,h3⟩
 intro w Y σ I hG hY hn hr U g hy hl0 J;obtain⟨h1,h2⟩:=H w Y σ I hG hY hn hr U g hy hl0 J;refine⟨h1,RoundIn.mono h2 λe w' hh=>?_⟩;obtain⟨cv,u,s,n,Y',σ',he,⟨h3,h4,h5⟩,H⟩:=hh;refine⟨cv,v,st1,n,Y',σ',he,⟨rfl,rfl,h5⟩,?_⟩
 have hv:gI w' Y' σ' [v] [cv]:=by
  have:=H.vals;unfold gI at this |-;obtain⟨c,cs,e,h6,h7⟩:=this;cases e;exact⟨_,_,rfl,h3.rep _ h6,by unfold gI at h7 |-;exact h7⟩
 exact(H.rG hv).PU (h4.PU w' Y' σ')
theorem ac7.cv (cvs:List Cv){g:Operand}{ps:Array Tmp}{x y:Code}{K:Env->Prop}{E:Env}(U:lY E.st=true)(h:ac7 P T g ps x y K (Jv (iW.jI P T) cvs E)):ac7 P T g ps x y K E:=by
 rintro C D a w ⟨Y,σ,H,hd,hD⟩
 obtain⟨J,I,H1,_⟩:=abj (P:=P) (T':=T) cvs E (H.PO (qg _ U));exact h C D a w ⟨J,I,H.Jd H1,hd,hD.step H.store H1⟩
def ai3 (T:Tab)(S:iW)(gop:Operand)(ps:Array Tmp)(x y:Code)(t0:Nat)(K:Env->Prop)(E:Env):Prop :=
 match sD T E.tmps gop with
 | .fn k caps=>(match jD E.tmps t0 with
  | .lv b0 0=>(match G6 (.lv b0 0::caps) E.st with
   | ρ=>S.ahh x y ps t0 (oG E.tmps) k b0 ρ (Ai (vI (DL ρ) 8) caps) (yD (DL ρ) E.st 0 ρ) E K)
  | _=>False)
 | _=>False
theorem ag9 {S:iW}(hS:S=iW.jI P T){U:Operand}{ps:Array Tmp}{x y:Code}{K:Env->Prop}{E:Env}(cvs:List Cv)(t0:Nat)(g:lY E.st=true)(h:ai3 T S U ps x y t0 K (Jv S cvs E)):S.rng U ps x y K E:=by
 subst hS;refine ac7.cv cvs g ?_;generalize Jv (iW.jI P T) cvs E=E2 at *;unfold ai3 at h
 split at h
 rename_i k caps hg
 split at h
 rename_i b0 ht;obtain⟨C,I,J,hnr,h0,v,st1,n1,Yc,hF,hY,hn1,hK⟩:=h.out;exact ahT hg ht J C I hnr h0 hF (by simpa using hY) hK hn1
 exact h.elim
 exact h.elim
theorem ae5 {S:iW}(hS:S=iW.jI P T){α ρ:Type}{r:ρ}{ps:Array Tmp}{x y:Code}{K:Env->Prop}{E:Env}{k t0 len b0 m:Nat}{as U:List PV}{J : List Nat}{st0 I:St}{g:Option α}{v:α->PV}{st1:α->St}{n1:Nat}{kk:α->Option ρ}{Yc:Nat->Loop->Value->Prop}
  (O:bnd g kk=some r) (hF:∀ z,g=some z->FnY P T.gl k U I m Yc (λu st n=>u=v z/\st=st1 z/\n=n1)) (ha:Hg as U) (hs:LeS st0 I) (hm:m=lH J) (hnd:KP J=true) (hlt:ltN E.next J=true) (C:lY E.st=true) (hnr:lY st0=true) (h0:J[0]?=some b0)
  (hn1:∀ z,lY (EM J E (st1 z) n1).st=true)
  (hY:∀ l rc pv,rc.assign=x->rc.body=y->rc.state=.ready->rc.pending=none->rc.params=ps->rc.tmps.toList[t0]?=some pv->rc.tmps.size=len->Yc l rc pv)
  (h:∀ z,kk z=some r->K (EM J E (st1 z) n1)):S.ahh x y ps t0 len k b0 J as st0 E K:=by
 subst hS;obtain⟨z,hz,hk⟩:=wV O;clear O;subst hm;exact⟨hnd,hlt,C,hnr,h0,v z,st1 z,n1,Yc,(hF z hz).le ha hs,hY,hn1 z,h z hk⟩
theorem agH (hT:jq P T)(hp:T.qf=0)(hW:Ci P){k:Nat}{fn:Func}{c:Code}(O:P.funcs[k]?=some fn)(C:fn.body=some c)
  (hcall:∀ args w,(callFunc k args).run P w=.ok (.enter k args) w) {args:List PV} {v:PV} {m:Nat} (J:fn.ntmps-args.length=m)
  (h:∀ S R,S=iW.jI P T->(∀ u,LeP u v->R u)->mwp T S c (ag8 T S fn.results.toList R) ⟨vk args (sF m),[],0⟩) (hyl:T.yl=none:=by rfl):Fn P T.gl k args (λu=>u=v):=by
 have H:=Z7 hT hp hW O C hcall J (hyl:=hyl) (R:=λu=>LeP u v) λS hS=>h S _ hS λ_ h=>h;intro w Y U hG g hr;obtain⟨h1,h2⟩:=H w Y U hG g hr;refine⟨h1,Calls.mono h2 λe w' hh=>?_⟩;obtain⟨cv,u,I,hu,hv,hc⟩:=hh;exact⟨cv,v,I,rfl,hu.rep _ hv,hc⟩
end
end Go.Pv
