import Derived.Scope
import Derived.Test.YtchmoabpofnbaaaGreatD03
set_option linter.all false
namespace Go.Pv
open Go
def Eqv (p q:PV):Prop:=∀ w Y σ v,Rep w Y σ p v↔Rep w Y σ q v
theorem Eqv.refl (p:PV):Eqv p p:=λ_ _ _ _=>Iff.rfl
theorem Eqv.symm {p q:PV}(h:Eqv p q):Eqv q p:=λw Y σ v=>(h w Y σ v).symm
theorem Eqv.trans {p q r:PV}(h:Eqv p q)(k:Eqv q r):Eqv p r:=λw Y σ v=>(h w Y σ v).trans (k w Y σ v)
theorem Eqv.bool (b:Bool):Eqv (.sb b) (.bool b):=λw Y σ v=>by simp[Rep]
def BC (ps qs:List PV):Prop:=ps.length=qs.length/\∀ t,Eqv (ji ps t) (ji qs t)
theorem BC.refl (ps:List PV):BC ps ps:=⟨rfl,λ_=>Eqv.refl _⟩
theorem BC.trans {ps qs rs:List PV}(h:BC ps qs)(k:BC qs rs):BC ps rs:=⟨h.1.trans k.1,λt=>(h.2 t).trans (k.2 t)⟩
theorem BC.symm {ps qs:List PV}(h:BC ps qs):BC qs ps:=⟨h.1.symm,λt=>(h.2 t).symm⟩
theorem yT (l:List PV)(d t:Nat)(v:PV):ji (nV l d v) t=if d=t/\d<l.length then v else ji l t:=by
 grind[F6,ug]
theorem NQ (l:List PV)(d:Nat)(v:PV):(nV l d v).length=l.length:=by rw[ug];simp
theorem Ei {l:List PV}{t:Nat}(h:l.length<=t):ji l t=.undef:=by grind[F6]
theorem eQ.eqv {w:World}{Y:Nat->Prop}{σ:Sg}:∀ {ps qs:List PV} {vs:List Value},BC ps qs->eQ w Y σ ps vs->eQ w Y σ qs vs
 | [],[],vs,_,h=>h
 | [],_::_,_,h,_=>by simp[BC] at h
 | _::_,[],_,h,_=>by simp[BC] at h
 | p::ps,q::qs,vs,h,hr=>by
  unfold eQ at hr |-;obtain⟨v,T,e,h1,h2⟩:=hr;refine⟨v,T,e,(h.2 0 _ _ _ _).1 h1,eQ.eqv ⟨by simpa using h.1,λt=>h.2 (t+1)⟩ h2⟩
theorem SW.eqv {T:Tab}{C:Ctx T}{w:World}{Y:Nat->Prop}{σ:Sg}{ps qs:List PV}{vs:List Value}{st:St}{n:Nat}(H:SW C w Y σ ps vs st n)(h:BC ps qs):SW C w Y σ qs vs st n :=
 H.rH (H.vals.eqv h)
def Dy (ps:List PV):Option Nat->PV->List PV
 | none,_=>ps
 | some d,v=>nV ps d v
theorem Rq (E:Env)(d:Option Nat)(v:PV):qp E d v=⟨Dy E.tmps d v,E.st,E.next⟩:=by cases d<;>rfl
theorem vZ (ps:List PV)(d:Option Nat)(v:PV):(Dy ps d v).length=ps.length:=by cases d<;>simp[Dy,NQ]
theorem Ej {ps:List PV}{d:Option Nat}{v:PV}{t:Nat}(h:d≠some t):ji (Dy ps d v) t=ji ps t:=by
 cases d with
 | none=>rfl
 | some d=>simp only[Dy,yT];grind
theorem SW.Dy {T:Tab}{C:Ctx T}{w:World}{Y:Nat->Prop}{σ:Sg}{ps:List PV}{a:Act}{st:St}{n:Nat}(H:SW C w Y σ ps a.tmps.toList st n){v:PV}{cv:Value}(hv:Rep w Y σ v cv)(d:Option Nat) :
  SW C w Y σ (Dy ps d v) (a.put d cv).tmps.toList st n:=by
 cases d with
 | none=>exact H
 | some d=>
  refine(H.rH ?_);simp only[Act.put,Pv.Dy,Array.toList_setIfInBounds];exact eQ.set hv _ _ _ H.vals
theorem put_defers (a:Act)(d:Option Nat)(v:Value):(a.put d v).defers=a.defers:=by cases d<;>rfl
section
variable {P:Program}{T:Tab}
def X3 (P:Program)(T:Tab)(all:Array Oper)(o:Oper)(er:List PV)(lk:Nat->Option lW)(id:Nat)(v:PV)(δ:Dl)(big:Bool):Prop := ∀ (C:Ctx T) ps Y σ (a:Act) w st n,(∀ t∈o.looksAt all,ji ps t=ji er t)->SW C w Y σ ps a.tmps.toList st n->DF C a->(∀ b x,lk b=some x->iV st b=some x) -> (big=true->(∀ b,id<=b->b<id+32->σ b=none)/\T.qc<=id/\id+32<=n)->∀ next Q,(∀ cv w' Y' σ',SW C w' Y' σ' ps a.tmps.toList (jr δ st) n->(∀ b,(b<id\/id+32<=b)->σ' b=σ b)->(big=false->σ'=σ)->Rep w' Y' σ' v cv->next (a.put o.dst cv) w')->o.wp P a w next Q
def aeD (T:Tab)(all:Array Oper)(o:Oper)(er:List PV)(wb:Bool):Prop := ∀ (C:Ctx T) ps Y σ (a:Act) w st n,(∀ t∈o.looksAt all,ji ps t=ji er t)->SW C w Y σ ps a.tmps.toList st n->DF C a->Region.wanted o (yielded all a.tmps)=wb
theorem WQ {all:Array Oper}{o:Oper}{er:List PV}{wb:Bool}
  (h:∀ ps st n,(∀ t∈o.looksAt all,ji ps t=ji er t)->gd (iq.jq P T) all o.guard ⟨ps,st,n⟩ (λ_=>wb=true) (λ_=>wb=false)):aeD T all o er wb:=by
 intro C ps Y σ a w st n I H J;obtain⟨g,_,hh⟩:=abQ (h ps st n I) (C:=C) (a:=a) (w:=w) ⟨⟨Y,σ,H⟩,J⟩
 grind
theorem ahe {all:Array Oper}{o:Oper}{E:Env}{run skip:Env->Prop}(h:gd (iq.jq P T) all o.guard E run skip) :
  ∃ J wb,BC E.tmps J.tmps/\J.st=E.st/\J.next=E.next/\aeD T all o J.tmps wb/\(wb=true->run J)/\(wb=false->skip J):=by
 unfold gd at h
 split at h
 rename_i hg;exact⟨E,true,BC.refl _,rfl,rfl,WQ (P:=P) λps _ _ _=>by simp[gd,hg],λ_=>h,λe=>by cases e⟩
 ·rename_i j want hg
  split at h
  ·rename_i oj hj
   split at h
   ·rename_i d hd
    have g:d∈o.looksAt all:=by
     grind[Oper.looksAt]
    have sem:∀ (J:Env) b,ji J.tmps d=.bool b->aeD T all o J.tmps (b==want):=by
     intro J b hb;refine WQ (P:=P) λps _ _ hps=>?_;have:=hps d g;rw[hb] at this;simp only[gd,hg,hj,hd,this]
     grind
    split at h
    ·rename_i e;refine⟨E,true==want,BC.refl _,rfl,rfl,sem E true e,?_,?_⟩<;>intro C<;>cases want<;>first|(cases C;done)|exact h
    ·rename_i e;refine⟨E,false==want,BC.refl _,rfl,rfl,sem E false e,?_,?_⟩<;>intro C<;>cases want<;>first|(cases C;done)|exact h
    rename_i b e
    have hlt:d<E.tmps.length:=by
     grind[Ei]
    have heq:BC E.tmps (qp E (some d) (.bool b)).tmps:=by
     refine⟨by simp[qp,NQ],λt=>?_⟩
     grind[qp,yT,Eqv.bool,Eqv.refl]
    have I:ji (qp E (some d) (.bool b)).tmps d=.bool b:=by simp[qp,yT,hlt]
    obtain⟨h1,h2⟩:=h;refine⟨qp E (some d) (.bool b),b==want,heq,rfl,rfl,sem _ b I,?_,?_⟩<;>grind
    rename_i e;refine⟨E,false,BC.refl _,rfl,rfl,WQ (P:=P) λps _ _ hps=>?_,(λC=>by cases C),λ_=>h⟩
    simp_all[gd]
    exact h.elim
   exact h.elim
  exact h.elim
theorem yU {all:Array Oper}{o:Oper}{er ps:List PV}(h:∀ t∈o.looksAt all,ji ps t=ji er t):∀ x∈o.op.operands,sK T ps x=sK T er x:=by
 intro x J
 cases x with
 | tmp t=>
  simp only[sK];refine h t ?_;unfold Oper.looksAt;exact List.mem_append_left _ (List.mem_filterMap.2 ⟨.tmp t,by simpa using J,rfl⟩)
 | _=>rfl
theorem alh {T:Tab}{S:iq}{o:Op}{ps:List PV}{lk:Nat->Option lW}{id id' : Nat}{K:PV->Dl->Prop}(J:isQ o=true):oH T S o ps lk id K=oH T S o ps lk id' K:=by
 cases o
 case call c=>
  obtain⟨callee,args,ts⟩:=c;cases callee
  case builtin b=>
   cases b
   case len=>simp only[oH];grind
   case min=>simp only[oH];grind
   case max=>simp only[oH];grind
   all_goals (simp[isQ] at J)
  all_goals simp[isQ] at J
 case makeFunc fn first cap=>cases fn<;>rfl
 case unOp op t x=>cases op<;>rfl
 all_goals first|rfl|(simp[isQ] at J)
theorem ahf (hT:iZ P T)(hW:DR P){all:Array Oper}{o:Oper}{ps:List PV}{lk:Nat->Option lW}{id i:Nat}{K:PV->Prop}(hq:isQ o.op=true)(h:oH T (iq.jq P T) o.op ps lk id (agI K)) :
  ∃ v,X3 P T all o ps lk i v [] false/\K v:=by
 obtain⟨v,δ,hK,hF⟩:=aeC hq h
 cases δ with
 | cons x δ=>exact hK.elim
 | nil=>
  refine⟨v,?_,hK⟩;intro C qs Y σ a w st n hl H hd g _ next Q I
  have h2:=hF (λv' δ'=>v'=v/\δ'=[]) ⟨rfl,rfl⟩;rw[<- TR (yU hl),alh (id':=n) hq] at h2;obtain⟨v',δ',cv,w',Y',σ',⟨rfl,rfl⟩,J,H',hv,t⟩:=Ac hT hW H g ⟨H.next _ (Nat.le_refl _),H.fix.1⟩ h2
  have hσ:σ'=σ:=by
   funext b
   by_cases hb:b=n
   subst hb;rw[H.next _ (Nat.le_refl _)];exact H'.next _ (Nat.le_refl _)
   exact t b hb
  subst hσ;have:=I cv w' Y' σ' H' (λ_ _=>rfl) (λ_=>rfl) hv;unfold Oper.wp;rcases J with J|⟨J,rfl⟩
  rw[J];exact this
  rw[J];exact this
theorem NR {P:Program}{o:Oper}{f:Operand}{args:Array Operand}{ts:Array TypeId}{a:Act}{w:World}{k:Nat}{cs:List Value}(ho:o.op=.call { callee:=.value f,args,argTypes:=ts })
  (I:a.eval f=.func (.func k) #[] cs.toArray) (T:(callFunc k (args.toList.map a.eval++cs).toArray).run P w=.ok (.enter k (args.toList.map a.eval++cs).toArray) w) :
  (execOp a.eval o).run P w=.ok (.enter k (args.toList.map a.eval++cs).toArray) w:=by
 have J:args.map a.eval=(args.toList.map a.eval).toArray:=by grind
 grind[execOp,resolve,Deferred.ofValue,invoke]
theorem SW.ajz {C:Ctx T}{w:World}{Y:Nat->Prop}{σ:Sg}{ps:List PV}{vs:List Value}{st:St}{n:Nat}(H:SW C w Y σ ps vs st n)(arr:Array Value)(ty:TypeId) :
  SW C (w.alloc (.cells arr ty)) Y σ ps vs st n/\∀ p v σ',Rep w Y σ' p v->Rep (w.alloc (.cells arr ty)) Y σ' p v:=by
 have heap:(w.alloc (.cells arr ty)).heap=w.heap.push (.cells arr ty):=rfl
 have hold:∀ k,k<w.heap.size->(w.alloc (.cells arr ty)).heap[k]?=w.heap[k]?:=by
  grind
 have hsz:(w.alloc (.cells arr ty)).heap.size=w.heap.size+1:=by rw[heap];simp
 exact⟨H.agZ ⟨rfl,rfl,rfl,by omega,hold⟩,λp v σ' h=>Rep.keep p ⟨λk hk _=>hold k hk,λ_ _ h=>h,by omega,nK.refl _⟩ v h⟩
theorem Vu (hT:iZ P T){all:Array Oper}{o:Oper}{ps:List PV}{lk:Nat->Option lW}{id i:Nat}{K:PV->Prop}{t:TypeId}{len:Nat}{parts:Array (Nat×Operand)}(ho:o.op=.buildSlice t len parts)(h:opQ T (iq.jq P T) (.buildSlice t len parts) ps lk id K) :
  ∃ v,X3 P T all o ps XX i v [] false/\K v:=by
 simp only[opQ] at h
 split at h
 rename_i agg size z0 plain esz bytes z e;obtain⟨et,hu,rfl,_,hz⟩:=mQ hT e
 cases hb:(lC (P.cellsOf et)&&Nat.beq (oq z) (P.cellsOf et)&&Nat.ble (len*P.cellsOf et) 16777216&&FU (evP T ps parts.toList)) with
 | false=>grind
 | true=>
  rw[hb] at h;simp only[cond_true] at h;simp only[Bool.and_eq_true,wE] at hb;obtain⟨⟨⟨hb1,hb2⟩,hb3⟩,hb4⟩:=hb
  have hpos:0<P.cellsOf et:=by
   grind[lC]
  have hzl:=Nat.eq_of_beq_eq_true hb2;have hle:=Nat.le_of_ble_eq_true hb3
  split at h
  rename_i cs U
  split at h
  rename_i cs0 J;obtain⟨cs',hl2,hc2,hw2,h,_⟩:=BH h;refine⟨_,?_,h⟩;intro C qs Y σ a w st n hl H hd _ _ next Q I
  have hev:=yU (T:=T) hl;rw[ho] at hev;have hP:=O1 (T:=T) (ps:=qs) (qs:=ps) parts.toList λx hx=>hev x.2 aW;rw[<- hP] at U hb4;obtain⟨vcs,hrep,hvl,hrun⟩:=wV hT H ho hu hz hb1 hzl hle hb4 U;have hLk:Lk (λ_=>none) st:=λb ro sz rows h=>by cases h
  obtain⟨Y1,H1,g,hy1⟩:=GX cs cs0 [] J Y st H hLk _ hrep;have g:=hw2 _ _ _ _ g;obtain⟨H2,hk2⟩:=H1.ajz vcs et;have hcsl:cs'.length=len*P.cellsOf et:=by rw[hl2,VG _ _ _ J,KA _ _ _ _ U,xX,hzl]
  unfold Oper.wp;rw[hrun];refine I _ _ Y1 σ H2 (λ_ _=>rfl) (λ_=>rfl) ?_;unfold Rep;refine⟨_,len,len,rfl,by rw[xh],Nat.le_refl _,λ_=>rfl,.inr ⟨w.heap.size,0,rfl,⟨?_,λhy=>?_⟩,?_⟩⟩
  simp_all
  have:=H1.wB _ hy;omega
  refine iW.chunks len cs' 0 ?_ (hc2 (Rh _ _ _ J).1) ae;rw[iW.iff];intro j p hj;obtain⟨v,hv,hp'⟩:=g.get? hj
  simp_all
  exact h.elim
  exact h.elim
 exact h.elim
theorem ajA (hT:iZ P T)(hW:DR P){all:Array Oper}{o:Oper}{ps:List PV}{lk:Nat->Option lW}{id:Nat}{K:PV->Prop}(i:Nat)(h:opQ T (iq.jq P T) o.op ps lk id K) :
  ∃ v,X3 P T all o ps lk i v [] false/\K v:=by
 have h0:=h;unfold opQ at h
 split at h
 rename_i f args ts ho
 split at h
 rename_i k caps U
 have main:∀ v,(∀ (C:Ctx T) Y σ w qs vs I st n,(∀ b x,lk b=some x->iV st b=some x)->SW C w Y σ qs vs st n->eQ w Y σ (Hm (T.hid k) (vY (evA T ps args.toList) caps)) I->Rl P k C Y σ w I qs vs st n v)->X3 P T all o ps lk i v [] false:=by
  intro v hsem C qs Y σ a w st n hl H hd hlk _ next Q J
  have hev:=yU (T:=T) hl;rw[ho] at hev;have hfv:=kW H f;rw[hev f bI,U] at hfv;unfold Rep at hfv;obtain⟨cs,ef,hcs⟩:=hfv;have g:=wF H args.toList;rw[DT (ps:=qs) (qs:=ps) args.toList λx hx=>hev x bu] at g;have hall:=GU (T.hid k) _ _ (eQ.app _ _ _ _ g hcs);obtain⟨hent,hcall⟩:=hsem C Y σ w qs a.tmps.toList _ st n hlk H (by simpa using hall);unfold Oper.wp;rw[NR ho ef hent];refine Calls.mono hcall λe w' hh=>?_;obtain⟨cv,rfl,H',hv⟩:=hh;exact J cv w' Y σ H' (λ_ _=>rfl) (λ_=>rfl) hv
 unfold agF at h
 split at h
 rename_i as hm;obtain⟨v,hF,hK⟩:=h;refine⟨v,main v λC Y σ w qs vs I st n hlk H hr=>VK H (λb x hb=>?_) hm hr hF,hK⟩
 split at hb
 rename_i e;cases hb;exact⟨hlk _ _ e,rfl⟩
 rename_i e;cases hb;exact⟨hlk _ _ e,rfl⟩
 cases hb
 split at h
 rename_i as hm;obtain⟨v,hF,U,hK⟩:=h
 grind[TL]
 exact h.elim
 exact h.elim
 rename_i t len parts ho;rw[ho] at h0;obtain⟨v,h1,h2⟩:=Vu hT (all:=all) (i:=i) ho h0;exact⟨v,λC qs Y σ a w st n hl H hd _ hb next Q J=>h1 C qs Y σ a w st n hl H hd (λ_ _ h=>by cases h) hb next Q J,h2⟩
 rw[Vt] at h;exact ahf hT hW h.1 h.2
theorem abR (hT:iZ P T)(hW:DR P){all:Array Oper}{o:Oper}{lk:Nat->Option lW}{E:Env}{K:Env->Prop}(i:Nat)(h:abw T (iq.jq P T) o lk E K) :
  ∃ J v,BC E.tmps J.tmps/\J.st=E.st/\J.next=E.next/\X3 P T all o J.tmps lk i v [] false/\K (qp J o.dst v):=by
 unfold abw at h
 have gen:(opQ T (iq.jq P T) o.op E.tmps lk E.next λv=>K (qp E o.dst v))->∃ J v,BC E.tmps J.tmps/\J.st=E.st/\J.next=E.next/\X3 P T all o J.tmps lk i v [] false/\K (qp J o.dst v):=λh=>by
  obtain⟨v,h1,h2⟩:=ajA hT hW (all:=all) i h;exact⟨E,v,BC.refl _,rfl,rfl,h1,h2⟩
 split at h
 rename_i c x y ho
 split at h
 rename_i t hc
 have hlt:c<E.tmps.length:=by
  grind[Ei]
 have heq:BC E.tmps (qp E (some c) (.bool t)).tmps:=by
  refine⟨by simp[qp,NQ],λu=>?_⟩
  grind[qp,yT,Eqv.bool,Eqv.refl]
 have hget:ji (qp E (some c) (.bool t)).tmps c=.bool t:=by simp[qp,yT,hlt]
 have evq:∀ z:Operand,Eqv (sK T (qp E (some c) (.bool t)).tmps z) (sK T E.tmps z):=by
  intro z
  cases z with
  | tmp u=>exact(heq.2 u).symm
  | _=>exact Eqv.refl _
 have hsem:X3 P T all o (qp E (some c) (.bool t)).tmps lk i (if t then sK T E.tmps x else sK T E.tmps y) [] false:=by
  intro C qs Y σ a w st n hl H hd _ _ next Q hnext
  have g:=yU (T:=T) hl;rw[ho] at g;have I:=kW H (.tmp c);rw[g (.tmp c) dC] at I;simp only[sK,hget] at I;have I:=zM I
  have hrun:(execOp a.eval o).run P w=.ok (.value (if t then a.eval x else a.eval y)) w:=by
   simp[execOp,ho,I,asBool]
  unfold Oper.wp;rw[hrun];refine hnext _ _ Y σ H (λ_ _=>rfl) (λ_=>rfl) ?_;have hx:=kW H x;have hy:=kW H y;rw[g x dC] at hx;rw[g y dC] at hy
  cases t with
  | true=>exact(evq x _ _ _ _).1 hx
  | false=>exact(evq y _ _ _ _).1 hy
 refine⟨_,_,heq,rfl,rfl,hsem,?_⟩
 cases t with
 | true=>exact h.1 rfl
 | false=>exact h.2 rfl
 grind
 exact gen h
theorem Gf {size:Nat}{row:List PV}{c:Nat}{v:PV}{K:List PV->Prop}(h:oI size row c v K):∃ r,K r/\∀ T : List PV->Prop,T r->oI size row c v T:=by
 unfold oI at h |-
 grind
theorem abS {o:Op}{ps:List PV}{lk:Nat->Option lW}{id:Nat}{K:PV->Dl->Prop}(hc:Ls T o=1\/Ls T o=2)(hn:ndO T ps lk o=false)(h:oH T (iq.jq P T) o ps lk id K) :
  ∃ v δ,K v δ/\∀ g : PV->Dl->Prop,g v δ->oH T (iq.jq P T) o ps lk id g:=by
 cases o
 case binOp op t x y u=>
  grind[Ls]
 case alloc t=>
  simp only[oH] at h |-
  grind
 case box t x=>
  simp only[oH] at h |-
  grind
 case makeSlice t x y=>
  simp only[oH] at h |-
  split at h
  simp only[Vt] at h |-;obtain⟨h0,j,h1,h2,J,C,I⟩:=h;obtain⟨z2,_,_,_,I,_,h6⟩:=aew I;exact⟨_,_,I,λ_ hk=>⟨h0,j,h1,h2,J,C,h6 _ hk⟩⟩
  exact h.elim
 case store t x y=>
  simp only[oH] at h |-
  split at h
  split at h
  grind[Gf]
  split at h
  split at h
  rename_i sz rows hb _ cs δ hp
  cases hm:abr _ δ with
  | true=>grind
  | false=>
   rw[hm] at h;simp only[cond_false] at h |-;obtain⟨cs2,_,_,_,⟨row,h0,h⟩,h9⟩:=BH h;obtain⟨r',h1,h2⟩:=Gf h;exact⟨_,_,h1,λ_ hk=>h9 _ ⟨row,h0,h2 _ hk⟩⟩
  exact h.elim
  grind[ndO]
  obtain⟨h0,h⟩:=h;obtain⟨r,h1,h2⟩:=Gf h;exact⟨_,_,h1,λ_ hk=>⟨h0,h2 _ hk⟩⟩
  exact h.elim
  grind[ndO]
  exact h.elim
  exact h.elim
 case call c=>
  obtain⟨callee,args,ts⟩:=c;cases callee
  case builtin b=>
   cases b
   case append=>
    simp only[oH] at h |-
    split at h
    all_goals repeat' (first
     | contradiction
     | exact h.elim
     | exact⟨_,_,h,λ_ hk=>hk⟩
     | (obtain⟨h1,h2,J⟩:=h;exact⟨_,_,J,λ_ hk=>⟨h1,h2,hk⟩⟩)
     | (split at h)
     | (simp only[Vt] at h |-;refine VL h.1 ?_;replace h:=h.2)
     | (obtain⟨row,hr,h⟩:=h;refine ajy hr ?_)
     | (obtain⟨h1,h2,J,C,I⟩:=h;exact⟨_,_,I,λ_ hk=>⟨h1,h2,J,C,hk⟩⟩)
     | (refine VL h.1 ?_;replace h:=h.2))
   all_goals (rcases hc with hc|hc<;>simp[Ls,isQ] at hc)
  all_goals first|(simp only[oH] at h;done)|(simp only[oH] at h;exact h.elim)|(rcases hc with hc|hc<;>simp[Ls,isQ] at hc)
 all_goals (rcases hc with hc|hc<;>simp[Ls,isQ] at hc)
theorem JR {size:Nat}{row:List PV}{c:Nat}{v:PV}{K:List PV->Prop}(h:oI size row c v K):∃ r,K r:=by
 grind[Gf]
theorem ahg {o:Op}{ps:List PV}{lk:Nat->Option lW}{id:Nat}{K:PV->Dl->Prop}(I:ndO T ps lk o=true)(h:oH T (iq.jq P T) o ps lk id K):∃ v δ,K v δ:=by
 cases o
 case store t x y=>
  simp only[oH] at h
  split at h
  split at h
  grind[ndO]
  rename_i b r c e1
  split at h
  grind[ndO]
  split at h
  split at h
  revert h;generalize (_&&_:Bool)=bb;intro h
  cases bb with
  | true=>exact h.elim
  | false=>
   obtain⟨row,_,h⟩:=h;obtain⟨r,h⟩:=JR (h ⟨0,0,0⟩)
   grind
  exact h.elim
  split at h
  obtain⟨row,_,h⟩:=h;obtain⟨r,h⟩:=JR h
  grind
  exact h.elim
  grind[ndO]
  exact h.elim
  split at h
  split at h
  have J:=BH h;clear h;obtain⟨_,_,_,_,⟨row,_,h⟩,_⟩:=J
  split at h
  simp only[Vt,iq.jq] at h;obtain⟨_,_,er,_,h⟩:=h;obtain⟨r,h⟩:=JR h
  grind
  exact h.elim
  exact h.elim
  exact h.elim
  exact h.elim
  exact h.elim
 all_goals simp[ndO] at I
theorem ahh (hT:iZ P T)(hW:DR P){all:Array Oper}{o:Oper}{ps:List PV}{lk:Nat->Option lW}{id:Nat}{v:PV}{δ:Dl}(hF:∀ K' : PV->Dl->Prop,K' v δ->oH T (iq.jq P T) o.op ps lk id K'):X3 P T all o ps lk id v δ true:=by
 intro C qs Y σ a w st n hl H hd hlk hid next Q I
 obtain⟨h1,h2,h3⟩:=hid rfl;have h4:=hF (λv' g=>v'=v/\g=δ) ⟨rfl,rfl⟩;rw[<- TR (yU hl)] at h4;obtain⟨v',g,cv,w',Y',σ',⟨rfl,rfl⟩,J,H',hv,t⟩:=Ac hT hW H hlk ⟨h1 id (Nat.le_refl _) ae,h2⟩ h4;have hn:ve g n id<=n:=by cases g<;>simp[ve]<;>omega
 have:=I cv w' Y' σ' (H'.mono hn) (λb hb=>t b ae) (λe=>by cases e) hv;unfold Oper.wp;rcases J with J|⟨J,rfl⟩
 rw[J];exact this
 rw[J];exact this
theorem ahi {S:iq}{o:Op}{ps:List PV}{lk:Nat->Option lW}{st:St}{id:Nat}{c2:Bool}{K:PV->Dl->Prop}(J:∀ f args ts,o=.call { callee:=.value f,args:=args,argTypes:=ts }->False):opW T S o ps lk st id c2 K=oH T S o ps lk id K:=by
 unfold opW
 grind
theorem ZW (f:Nat->Option Nat)(st1:St):∀ (l:List Nat) (i:Nat) (st:St),abv f st1 i l st=jr (dlO f st1 i l) st
 | [],i,st=>rfl
 | b::l,i,st=>by simp only[abv,dlO,jr];exact ZW f st1 l (i+1) _
theorem Qv (f:Nat->Option Nat){st st' : St}:∀ (ρ:List Nat) (i:Nat),(∀ b∈ρ,iV st b=iV st' b)->zq f st i ρ=zq f st' i ρ
 | [],i,_=>rfl
 | b::ρ,i,h=>by
  simp only[zq];rw[h b aj,Qv f ρ (i+1) λc hc=>h c (by simp[hc])]
theorem TS {st:St}:∀ (ρ:List Nat),aje st ρ=true->∀ b∈ρ,∃ x,iV st b=some x
 | [],_,b,h=>by cases h
 | c::ρ,h,b,hb=>by
  simp only[aje,Bool.and_eq_true] at h;rcases List.mem_cons.1 hb with rfl|hb
  grind
  exact TS ρ h.2 b hb
theorem ZX {o:Op}{ps:List PV}{lk:Nat->Option lW}{st:St}{id:Nat}{c2:Bool}{K:PV->Dl->Prop}(hc:Ls T o=1\/Ls T o=2)(hn:ndO T ps lk o=false)(h:opW T (iq.jq P T) o ps lk st id c2 K) :
  ∃ v δ,K v δ/\∀ C : PV->Dl->Prop,C v δ->opW T (iq.jq P T) o ps lk st id c2 C:=by
 by_cases hv:∃ f args ts,o=.call { callee:=.value f,args:=args,argTypes:=ts }
 obtain⟨f,args,ts,rfl⟩:=hv;unfold opW at h |-;simp only at h |-
 split at h
 rename_i k t U
 cases c2 with
 | false=>
  simp only at h
  split at h
  rename_i as g;obtain⟨v,x,hF,J⟩:=h;refine⟨_,_,J,λC hk=>?_⟩;simp only[g];exact⟨v,x,hF,hk⟩
  exact h.elim
 | true=>
  simp only at h;unfold Wh at h
  split at h
  rename_i I;obtain⟨v,st1,n1,h0,hF,J⟩:=h
  split at J
  rename_i hb;refine⟨_,_,J,λC hk=>?_⟩;simp only;unfold Wh;simp only[I];refine⟨v,st1,n1,h0,hF,?_⟩
  grind
  exact J.elim
  exact h.elim
 exact h.elim
 grind[ahi,abS]
theorem ahj (hT:iZ P T)(hW:DR P){all:Array Oper}{o:Oper}{ps:List PV}{lk:Nat->Option lW}{st:St}{id:Nat}{v:PV}{δ:Dl}{c2:Bool}(hst:c2=true->lk=iV st)(hF:∀ K' : PV->Dl->Prop,K' v δ->opW T (iq.jq P T) o.op ps lk st id c2 K'):X3 P T all o ps lk id v δ true:=by
 by_cases hv:∃ f args ts,o.op=.call { callee:=.value f,args:=args,argTypes:=ts }
 obtain⟨f,args,ts,ho⟩:=hv;intro C qs Y σ a w stn n hl H hd hlk hid next Q t
 obtain⟨g1,g2,g3⟩:=hid rfl;have I:=hF (λv' δ'=>v'=v/\δ'=δ) ⟨rfl,rfl⟩;rw[ho] at I;unfold opW at I;simp only at I
 split at I
 rename_i k caps U;have hev:=yU (T:=T) hl;rw[ho] at hev;have hfv:=kW H f;rw[hev f bI,U] at hfv;unfold Rep at hfv;obtain⟨cs,ef,hcs⟩:=hfv;have hargs:=wF H args.toList;rw[DT (ps:=qs) (qs:=ps) args.toList λx hx=>hev x bu] at hargs;have hall:=GU (T.hid k) _ _ (eQ.app _ _ _ _ hargs hcs)
 cases c2 with
 | false=>
  simp only at I
  split at I
  rename_i as hm;obtain⟨v0,x,hF0,rfl,rfl⟩:=I;have hr0:=Rk (P:=P) (T:=T) H.store (lk:=XX) (λb x h=>by cases h) (λ_ h=>h) (λb x l h=>by cases h) (λb sz rows hb=>by cases hb) hm hall;have hr1:eQ w Y σ as _:=eQ.keep as (σ:=ik) (σ':=σ) ⟨λ_ _ _=>rfl,λ_ _ h=>h,Nat.le_refl _,λb l h=>by simp[ik] at h⟩ _ hr0
  obtain⟨g,J⟩:=ZU (E:=⟨qs,stn,id⟩) (ρ:=[]) (n0:=n) (N:=n) (v:=v0) (st1:=[(0,some x)]) (n1:=1) H rfl rfl rfl g2 (λb hb1 hb2=>by
   grind) ⟨by grind,Nat.le_refl _⟩ hr1 hF0
  unfold Oper.wp;rw[NR ho ef g];refine Calls.mono J λe w' hh=>?_;obtain⟨cv,Y',σ',rfl,H',hv',hoff⟩:=hh;exact t cv w' Y' σ' H' (λb hb=>hoff b ai) (λe=>by cases e) hv'
  exact I.elim
 | true=>
  simp only at I;unfold Wh at I
  split at I
  rename_i hcnd;simp only[Bool.and_eq_true] at hcnd;obtain⟨c1,c2,c3⟩:=hcnd;obtain⟨v0,st1,n1,h0,hF0,hK⟩:=I
  split at hK
  rename_i hb;obtain⟨rfl,rfl⟩:=hK;have hb:=Nat.le_of_ble_eq_true hb;have hlk':=hlk;rw[hst rfl] at hlk'
  have hren:=Qv (st:=st) (st':=stn) (zK (Jb (Hm (T.hid k) (vY (evA T ps args.toList) caps)) st)) (Jb (Hm (T.hid k) (vY (evA T ps args.toList) caps)) st) 0 λb hb=>by
   grind[TS]
  rw[hren] at h0 hF0;obtain⟨g,J⟩:=ZU (E:=⟨qs,stn,id⟩) (n0:=n) (N:=n) (v:=v0) (st1:=st1) H c2 c1 h0 g2 (λb hb1 hb2=>g1 b hb1 ai) ⟨by simp only;omega,Nat.le_refl _⟩ hall hF0;unfold Oper.wp;rw[NR ho ef g];refine Calls.mono J λe w' hh=>?_;obtain⟨cv,Y',σ',rfl,H',hv',hoff⟩:=hh;refine t cv w' Y' σ' ?_ (λb hb'=>hoff b aB) (λe=>by cases e) hv';rw[<- ZW];exact H'
  exact hK.elim
  exact I.elim
 exact I.elim
 simp_all[ahh,ahi]
end
end Go.Pv
namespace Go.Pv
open Go
section
variable {P:Program}{T:Tab}
structure Rec where
 e1:List PV
 er:List PV
 lk:Nat->Option lW
 v:PV
 δ:Dl
 id:Nat
 big:Bool
 wb:Bool
 nd:Bool
def aeE (δ:Dl)(b:Nat):Prop:=∃ x,(b,x)∈δ
structure adf (P:Program)(T:Tab)(all:Array Oper)(o:Oper)(r:Rec)(p:List PV)(st:St)(nx:Nat)(pend:List Nat):Prop where
 e1:BC p r.e1
 er:BC p r.er
 gd:aeD T all o r.e1 r.wb
 sem:r.wb=true->r.nd=false->X3 P T all o r.er r.lk r.id r.v r.δ r.big
 ndw:r.nd=true->r.wb=true/\r.big=true
 skip:r.wb=false->r.v=.undef
 cls:(r.big=false/\r.δ=[]/\(r.wb=true->∀ b x,r.lk b=some x->xC T o=3/\b ∉ pend/\iV st b=some x)) \/
  (r.wb=true/\r.big=true/\r.id=nx/\xC T o=1/\(∃ x,r.δ=[(nx,some x)])/\r.lk=XX) \/
  (r.wb=true/\r.big=true/\r.id=nx/\xC T o=2/\(∀ b,aeE r.δ b->b<nx+32)/\r.lk=iV st)
def bump (b:Bool)(n:Nat):Nat:=match b with|true=>n+32|false=>n
def WR (T:Tab)(o:Oper)(r:Rec)(pend:List Nat):List Nat:=match r.big with
 | false=>pend
 | true=>if xC T o=1 then r.id::pend else []
def ChD (P:Program)(T:Tab)(all:Array Oper):List Oper->List Rec->List PV->St->Nat->List Nat->List PV->St->Nat->Prop
 | [],[],p,st,nx,_,f,stf,nxf=>p=f/\st=stf/\nx=nxf
 | o::l,r::rs,p,st,nx,pend,f,stf,nxf=>adf P T all o r p st nx pend/\ChD P T all l rs (Dy r.er o.dst r.v) (jr r.δ st) (bump r.big nx) (WR T o r pend) f stf nxf
 | _,_,_,_,_,_,_,_,_=>False
def adg (P:Program)(T:Tab)(all:Array Oper)(K:Env->Prop):List Oper->List Rec->St->List PV->St->Nat->Prop
 | o::l,r::rs,st,f,stf,nxf=>(r.nd=true->l=[]/\rs=[]/\Qi all=true/\nxf=r.id+32/\oH T (iq.jq P T) o.op r.er (iV st) r.id (λv δ=>bif ltD (r.id+32) δ then K ⟨Dy r.er o.dst v,jr δ st,r.id+32⟩ else False))
  /\ (r.nd=false->adg P T all K l rs (jr r.δ st) f stf nxf)
 | [],[],_,f,stf,nxf=>K ⟨f,stf,nxf⟩
 | _,_,_,_,_,_=>False
theorem WS {n:Nat}:∀ (δ:Dl),ltD n δ=true->∀ b,aeE δ b->b<n
 | [],_,b,h=>by obtain⟨x,h⟩:=h;cases h
 | (c,y)::δ,h,b,T=>by
  simp only[ltD,Bool.and_eq_true,Nat.blt_eq] at h;obtain⟨x,T⟩:=T;rcases List.mem_cons.1 T with e|T
  grind
  exact WS δ h.2 b ⟨x,T⟩
theorem adh {pend:List Nat}{lk:Nat->Option lW}{b:Nat}{x:lW}(h:aeu pend lk b=some x):b ∉ pend/\lk b=some x:=by
 grind[aeu,KD]
theorem VM {o:Oper}{c:Nat}(h:xC T o=c)(hc:c≠0):Ls T o.op=c:=by
 grind[xC]
theorem ajB {o:Oper}(h:isQ o.op=false):xC T o=Ls T o.op:=by
 grind[qtO,xC]
theorem ajC {o:Op}{ps:List PV}{lk:Nat->Option lW}(h:Ls T o=1):ndO T ps lk o=false:=by cases o<;>simp[ndO,Ls] at h |-
theorem Hz (hT:iZ P T)(hW:DR P){all:Array Oper}:∀ (l:List Oper) (pend:List Nat) (E:Env) (K:Env->Prop),ac2 T (iq.jq P T) all l pend E K ->
  ∃ rs f J I,ChD P T all l rs E.tmps E.st E.next pend f J I/\adg P T all K l rs E.st f J I
 | [],pend,E,K,h=>⟨[],E.tmps,E.st,E.next,⟨rfl,rfl,rfl⟩,h⟩
 | o::l,pend,E,K,h=>by
  simp only[ac2] at h;obtain⟨C,wb,h1,h2,h3,h4,t,h6⟩:=ahe h
  cases wb with
  | false=>
   have k5:=h6 rfl;rw[Rq,h2,h3] at k5;obtain⟨rs,f,J,I,hc,hK⟩:=Hz hT hW l pend _ _ k5;exact⟨⟨C.tmps,C.tmps,XX,.undef,[],0,false,false,false⟩::rs,f,J,I,⟨⟨h1,h1,h4,(λe=>by cases e),(λe=>by cases e),(λ_=>rfl),.inl ⟨rfl,rfl,λe=>by cases e⟩⟩,hc⟩,(λe=>by cases e),λ_=>hK⟩
  | true=>
   have t:=t rfl;unfold akw at t
   cases g:ndO T C.tmps (iV C.st) o.op with
   | true=>
    rw[g] at t
    cases l with
    | cons _ _=>exact t.elim
    | nil=>
      obtain⟨hlo,t⟩:=t;obtain⟨v,δ,hk⟩:=ahg g t
      cases hi:ltD (C.next+32) δ with
      | false=>grind
      | true=>
       have hq:isQ o.op=false:=by
        revert g;cases o.op<;>simp[ndO,isQ]
       have hcl:xC T o=2:=by
        rw[ajB hq];revert g;cases o.op<;>simp[ndO,Ls]
       refine⟨[⟨C.tmps,C.tmps,iV C.st,v,δ,C.next,true,true,true⟩],_,_,_,⟨⟨h1,h1,h4,(λ_ e=>by cases e),(λ_=>⟨rfl,rfl⟩),(λe=>by cases e),.inr (.inr ⟨rfl,rfl,h3,hcl,?_,by rw[h2]⟩)⟩,rfl,rfl,rfl⟩,λ_=>⟨rfl,rfl,hlo,by simp[bump,h3],?_⟩,λe=>by cases e⟩
       rw[<- h3];exact WS δ hi
       grind[Rq]
   | false=>
   rw[g] at t;simp only at t;unfold stepD at t
   have quiet:∀ lk,(xC T o=0/\lk=XX\/xC T o=3/\lk=aeu pend (iV C.st))->abw T (iq.jq P T) o lk C (λE=>ac2 T (iq.jq P T) all l pend E K) ->
     ∃ rs f J I,ChD P T all (o::l) rs E.tmps E.st E.next pend f J I/\adg P T all K (o::l) rs E.st f J I:=by
    intro lk hlk hs;obtain⟨E2,v,k1,k2,k3,k4,k5⟩:=abR hT hW (all:=all) 0 hs;rw[Rq,k2,k3,h2,h3] at k5;obtain⟨rs,f,J,I,hc,hK⟩:=Hz hT hW l pend _ _ k5;refine⟨⟨C.tmps,E2.tmps,lk,v,[],0,false,true,false⟩::rs,f,J,I,⟨⟨h1,h1.trans k1,h4,λ_ _=>k4,(λe=>by cases e),(λe=>by cases e),.inl ⟨rfl,rfl,λ_ b x hb=>?_⟩⟩,hc⟩,(λe=>by cases e),λ_=>hK⟩;rcases hlk with ⟨c0,rfl⟩|⟨c3,rfl⟩
    cases hb
    grind[adh]
   split at t
   grind
   rename_i hc;obtain⟨v,δ,hk,U⟩:=ZX (.inl (VM hc aJ)) (ajC (VM hc aJ)) t
   split at hk
   rename_i id x
   cases hi:Nat.beq id C.next with
   | false=>grind
   | true=>
    rw[hi] at hk;simp only[cond_true] at hk;have hid:=Nat.eq_of_beq_eq_true hi;subst hid;rw[Rq,h2,h3] at hk;obtain⟨rs,f,J,I,hc2,hK⟩:=Hz hT hW l _ _ _ hk;refine⟨⟨C.tmps,C.tmps,XX,v,[(C.next,some x)],C.next,true,true,false⟩::rs,f,J,I,⟨⟨h1,h1,h4,λ_ _=>?_,(λe=>by cases e),(λe=>by cases e),.inr (.inl ⟨rfl,rfl,h3,hc,⟨x,by rw[h3]⟩,rfl⟩)⟩,?_⟩,(λe=>by cases e),λ_=>?_⟩
    exact ahj hT hW (λe=>by cases e) U
    simp_all[jr,bump,WR]
    grind[jr]
   exact hk.elim
   rename_i hc;obtain⟨v,δ,hk,U⟩:=ZX (.inr (VM hc aJ)) g t
   cases hi:ltD (C.next+32) δ with
   | false=>grind
   | true=>
    rw[hi] at hk;simp only[cond_true] at hk;rw[Rq,h2,h3] at hk;obtain⟨rs,f,J,I,hc2,hK⟩:=Hz hT hW l _ _ _ hk;refine⟨⟨C.tmps,C.tmps,iV C.st,v,δ,C.next,true,true,false⟩::rs,f,J,I,⟨⟨h1,h1,h4,λ_ _=>?_,(λe=>by cases e),(λe=>by cases e),.inr (.inr ⟨rfl,rfl,h3,hc,?_,by rw[h2]⟩)⟩,?_⟩,(λe=>by cases e),λ_=>hK⟩
    exact ahj hT hW (λ_=>rfl) U
    rw[<- h3];exact WS δ hi
    grind[bump,WR]
   grind
   exact t.elim
theorem ChD.len {all:Array Oper}:∀ (l:List Oper) (rs:List Rec) {p:List PV} {st:St} {nx:Nat} {pend:List Nat} {f:List PV} {J:St} {I:Nat},ChD P T all l rs p st nx pend f J I->rs.length=l.length/\f.length=p.length
 | [],[],_,_,_,_,_,_,_,h=>⟨rfl,by rw[h.1]⟩
 | o::l,r::rs,_,_,_,_,_,_,_,h=>by
  obtain⟨h1,h2⟩:=ChD.len l rs h.2;exact⟨by simp[h1],by rw[h2,vZ,h.1.er.1]⟩
 | [],_::_,_,_,_,_,_,_,_,h=>h.elim
 | _::_,[],_,_,_,_,_,_,_,h=>h.elim
theorem ChD.keep {all:Array Oper}{t:Nat}:∀ (l:List Oper) (rs:List Rec) {p:List PV} {st:St} {nx:Nat} {pend:List Nat} {f:List PV} {J:St} {I:Nat},ChD P T all l rs p st nx pend f J I->(∀ o∈l,o.dst≠some t)->Eqv (ji p t) (ji f t)
 | [],[],_,_,_,_,_,_,_,h,_=>by rw[h.1];exact Eqv.refl _
 | o::l,r::rs,_,_,_,_,_,_,_,h,hn=>by
  have:=ChD.keep l rs h.2 λo ho=>hn o (by simp[ho]);rw[Ej (hn o aj)] at this;exact(h.1.er.2 t).trans this
 | [],_::_,_,_,_,_,_,_,_,h,_=>h.elim
 | _::_,[],_,_,_,_,_,_,_,h,_=>h.elim
def BD:List Rec->St->Nat->St
 | _,st,0=>st
 | [],st,_+1=>st
 | r::rs,st,i+1=>BD rs (jr r.δ st) i
def Dz:List Rec->Nat->Nat->Nat
 | _,n,0=>n
 | [],n,_+1=>n
 | r::rs,n,i+1=>Dz rs (bump r.big n) i
def Qw (T:Tab):List Oper->List Rec->List Nat->Nat->List Nat
 | _,_,pd,0=>pd
 | o::l,r::rs,pd,i+1=>Qw T l rs (WR T o r pd) i
 | _,_,pd,_=>pd
theorem ChD.get {all:Array Oper}:∀ (l:List Oper) (rs:List Rec) {p:List PV} {st:St} {nx:Nat} {pend:List Nat} {f:List PV} {stf:St} {nxf:Nat},ChD P T all l rs p st nx pend f stf nxf->∀ (i:Nat) (o:Oper),l[i]?=some o ->
  ∃ r q,rs[i]?=some r/\q.length=p.length/\adf P T all o r q (BD rs st i) (Dz rs nx i) (Qw T l rs pend i) /\
   (∀ t,(∀ j oj,j<i->l[j]?=some oj->oj.dst≠some t)->Eqv (ji p t) (ji q t)) /\
   (∀ t,(∀ j oj,i<=j->l[j]?=some oj->oj.dst≠some t)->Eqv (ji q t) (ji f t)) /\
   (∀ d,o.dst=some d->d<p.length->(∀ j oj,i<j->l[j]?=some oj->oj.dst≠some d)->Eqv r.v (ji f d))
 | [],_,_,_,_,_,_,_,_,_,i,o,hi=>by simp at hi
 | _::_,[],_,_,_,_,_,_,_,h,_,_,_=>h.elim
 | o'::l,r::rs,p,_,_,_,f,_,_,h,0,o,hi=>by
  obtain⟨h1,C⟩:=h;simp at hi;subst hi;refine⟨r,p,rfl,rfl,h1,λt _=>Eqv.refl _,λt J=>?_,λd g I hn=>?_⟩
  have hk:=ChD.keep l rs C (t:=t) λo ho=>by
   grind[List.getElem?_of_mem]
  rw[Ej (J 0 o' ae aj)] at hk;exact(h1.er.2 t).trans hk
  have hk:=ChD.keep l rs C (t:=d) λo ho=>by
   obtain⟨j,hj⟩:=List.getElem?_of_mem ho;exact hn (j+1) o ae dK
  rw[g] at hk;simp only[Dy,yT] at hk;rw[if_pos ⟨trivial,by rw[<- h1.er.1];exact I⟩] at hk;exact hk
 | o'::l,r::rs,p,_,_,_,f,_,_,h,i+1,o,hi=>by
  obtain⟨h1,C⟩:=h;obtain⟨r',q,a0,a1,a2,a6,a7,a8⟩:=ChD.get l rs C i o bH;have hl:(Dy r.er o'.dst r.v).length=p.length:=by rw[vZ,h1.er.1]
  refine⟨r',q,by simpa using a0,by rw[a1,hl],a2,λt J=>?_,λt J=>?_,λd g I hn=>?_⟩
  have hk:=a6 t λj oj hj hoj=>J (j+1) oj ae dh;rw[Ej (J 0 o' ae aj)] at hk;exact(h1.er.2 t).trans hk
  exact a7 t λj oj hj hoj=>J (j+1) oj ae dh
  exact a8 d g ai λj oj hj hoj=>hn (j+1) oj ae dh
theorem ChD.fin {all:Array Oper}:∀ (l:List Oper) (rs:List Rec) {p:List PV} {st:St} {nx:Nat} {pend:List Nat} {f:List PV} {J:St} {I:Nat},ChD P T all l rs p st nx pend f J I->J=BD rs st rs.length/\I=Dz rs nx rs.length
 | [],[],_,_,_,_,_,_,_,h=>⟨h.2.1.symm,h.2.2.symm⟩
 | o::l,r::rs,_,_,_,_,_,_,_,h=>ChD.fin l rs h.2
 | [],_::_,_,_,_,_,_,_,_,h=>h.elim
 | _::_,[],_,_,_,_,_,_,_,h=>h.elim
theorem bump_le (b:Bool)(n:Nat):n<=bump b n:=by cases b<;>simp[bump]
theorem Qx:∀ (rs:List Rec) (n i:Nat),n<=Dz rs n i
 | _,n,0=>by simp[Dz]
 | [],n,i+1=>by simp[Dz]
 | r::rs,n,i+1=>by simp only[Dz];exact Nat.le_trans (bump_le _ _) (Qx rs _ i)
theorem O3:∀ (rs:List Rec) (n i:Nat) (r:Rec),rs[i]?=some r->Dz rs n (i+1)=bump r.big (Dz rs n i)
 | [],n,i,r,h=>by simp at h
 | r::rs,n,0,r',h=>by grind[Dz]
 | r::rs,n,i+1,r',h=>by simp only[Dz];exact O3 rs _ i r' aN
theorem YE:∀ (rs:List Rec) (n i:Nat),rs.length<=i->Dz rs n (i+1)=Dz rs n i
 | [],n,0,_=>by simp[Dz]
 | [],n,i+1,_=>by simp[Dz]
 | r::rs,n,0,h=>by simp at h
 | r::rs,n,i+1,h=>by simp only[Dz];exact YE rs _ i aN
theorem TU {rs:List Rec}{n i j:Nat}(h:i<=j):Dz rs n i<=Dz rs n j:=by
 induction h with
 | refl=>grind
 | step h ih=>
  rename_i m
  cases T:rs[m]? with
  | some r=>rw[O3 _ _ _ _ T];exact Nat.le_trans ih (bump_le _ _)
  | none=>grind[YE]
def lG:Dl->Nat->Option (Option lW)
 | [],_=>none
 | (c,x)::δ,b=>match lG δ b with
  | some y=>some y
  | none=>if c=b then some x else none
theorem yV:∀ (δ:Dl) (st:St) (b:Nat),iV (jr δ st) b=(match lG δ b with|some x=>x|none=>iV st b)
 | [],st,b=>rfl
 | (c,x)::δ,st,b=>by
  simp only[jr,yV δ (nX st c x) b,lG]
  grind[ig]
theorem Qy:∀ (δ:Dl) (b:Nat),lG δ b≠none->aeE δ b
 | [],b,h=>absurd rfl h
 | (c,x)::δ,b,h=>by
  simp only[lG] at h
  split at h
  rename_i y hy;obtain⟨z,T⟩:=Qy δ b (by rw[hy];simp);exact⟨z,List.mem_cons_of_mem _ T⟩
  by_cases hc:c=b
  subst hc;exact⟨x,by simp⟩
  grind
def lst:List Rec->(Nat->Bool)->Nat->Nat->Option (Option lW)
 | [],_,_,_=>none
 | r::rs,D,i,b=>match lst rs D (i+1) b with
  | some y=>some y
  | none=>if D i then lG r.δ b else none
def orS (st:St)(b:Nat):Option (Option lW)->Option lW
 | some x=>x
 | none=>iV st b
theorem Bd:∀ (rs:List Rec) (D T : Nat->Bool) (i b:Nat),(∀ k r,rs[k]?=some r->lG r.δ b≠none->D (i+k)=T (i+k))->lst rs D i b=lst rs T i b
 | [],_,_,_,_,_=>rfl
 | r::rs,D,T,i,b,h=>by
  have C:=Bd rs D T (i+1) b λk I hr J=>by
   have:=h (k+1) I dL J
   grind
  simp only[lst,C]
  split
  rfl
  by_cases J:lG r.δ b=none
  simp[J]
  have:=h 0 r rfl J
  grind
theorem KG:∀ (rs:List Rec) (D:Nat->Bool) (i b:Nat),(∀ k r,rs[k]?=some r->D (i+k)=true->lG r.δ b=none)->lst rs D i b=none
 | [],_,_,_,_=>rfl
 | r::rs,D,i,b,h=>by
  have J:=KG rs D (i+1) b λk T hr I=>h (k+1) T dL ai;simp only[lst,J]
  split
  rename_i h0;exact h 0 r rfl (by simpa using h0)
  rfl
theorem WT:∀ (rs:List Rec) (D:Nat->Bool) (i m b:Nat) (r:Rec) (x:Option lW),rs[m]?=some r->D (i+m)=true->lG r.δ b=some x->(∀ k T,m<k->rs[k]?=some T->D (i+k)=true->lG T.δ b=none)->lst rs D i b=some x
 | [],_,_,m,_,_,_,h,_,_,_=>by simp at h
 | r::rs,D,i,0,b,T,x,h,hD,hx,hl=>by
  simp at h;subst h;have:=KG rs D (i+1) b λk T hr J=>hl (k+1) T ae dL ai
  simp_all[lst]
 | r::rs,D,i,m+1,b,T,x,h,hD,hx,hl=>by
  have:=WT rs D (i+1) m b T x aN ai hx λk r2 hk hr J=>hl (k+1) r2 ae dL ai;simp only[lst,this]
theorem O4:∀ (rs:List Rec) (st:St) (i j b:Nat),iV (BD rs st i) b=orS st b (lst rs (λk=>decide (k<j+i)) j b)
 | [],st,0,j,b=>rfl
 | [],st,i+1,j,b=>rfl
 | r::rs,st,0,j,b=>by
  simp only[BD];rw[KG _ _ _ _ λk T _ h=>by simp at h;omega];rfl
 | r::rs,st,i+1,j,b=>by
  simp only[BD,O4 rs (jr r.δ st) i (j+1) b,lst];rw[show(λk=>decide (k<j+1+i))=(λk=>decide (k<j+(i+1))) from funext λk=>by congr 2;omega]
  cases lst rs (λk=>decide (k<j+(i+1))) (j+1) b with
  | some y=>rfl
  | none=>
   simp_all[orS,yV]
theorem U3 {all:Array Oper}{i:Nat}{o:Oper}{lo:List Tmp}:∀ (l:List Oper) (j:Nat),Wj all i o lo l j=true->∀ (k:Nat) (p:Oper),l[k]?=some p->Wi all i o lo (j+k) p=true
 | [],_,_,k,p,hk=>by simp at hk
 | q::l,j,h,0,p,hk=>by simp_all[Wj]
 | q::l,j,h,k+1,p,hk=>by
  simp only[Wj,Bool.and_eq_true] at h;have:=U3 l (j+1) h.2 k p dM
  grind
theorem NS {all:Array Oper}:∀ (l:List Oper) (i:Nat),Hq all l i=true->∀ (k:Nat) (o:Oper),l[k]?=some o ->
  (∀ e∈o.after,Region.binds .any e=true->e.on<i+k)/\∀ (j:Nat) (p:Oper),all[j]?=some p->Wi all (i+k) o (o.looksAt all) j p=true
 | [],_,_,k,o,hk=>by simp at hk
 | q::l,i,h,0,o,hk=>by
  simp at hk;subst hk;simp only[Hq,Bool.and_eq_true] at h;refine⟨λe J I=>?_,λj p T=>?_⟩
  have:=Array.all_eq_true_iff_forall_mem.1 h.1.1 e J
  simp_all
  have:=U3 all.toList 0 h.1.2 j p (by simpa using T)
  simpa using this
 | q::l,i,h,k+1,o,hk=>by
  simp only[Hq,Bool.and_eq_true] at h;have:=NS l (i+1) h.2 k o dM
  grind
theorem EM {all:Array Oper}(h0:Hr T all=true){i:Nat}{o:Oper}(hi:all[i]?=some o) :
  (∀ e∈o.after,Region.binds .any e=true->e.on<i)/\∀ (j:Nat) (p:Oper),all[j]?=some p->j≠i->∀ d,p.dst=some d->o.dst≠some d /\
   (d∈o.looksAt all->(∃ e∈o.after,Region.binds .any e=true/\e.on=j)\/(∃ e∈p.after,Region.binds .any e=true/\e.on=i)):=by
 have h:Hq all all.toList 0=true:=by simp_all[Hr]
 obtain⟨h1,h2⟩:=NS all.toList 0 h i o bH;rw[Nat.zero_add] at h1 h2;refine⟨h1,λj p g J d t=>?_⟩;have:=h2 j p g;have C:Nat.beq i j=false:=Wx λe=>J e.symm;simp only[Wi,C,t,Bool.false_or,Bool.and_eq_true,Bool.or_eq_true,bne_iff_ne,ne_eq,Bool.not_eq_true',List.contains_eq_mem,decide_eq_false_iff_not] at this;refine⟨this.1,λhm=>?_⟩;rcases this.2 with (hh|hh)|hh
 grind
 obtain⟨e,he,I⟩:=Array.any_eq_true'.1 hh;simp only[Bool.and_eq_true] at I
 grind[Nat.eq_of_beq_eq_true]
 obtain⟨e,he,I⟩:=Array.any_eq_true'.1 hh;simp only[Bool.and_eq_true] at I
 grind[Nat.eq_of_beq_eq_true]
inductive Bef (all:Array Oper):Nat->Nat->Prop
 | one {i:Nat} {o:Oper} {e:Edge}:all[i]?=some o->e∈o.after->Region.binds .any e=true->Bef all e.on i
 | trans {i j k:Nat}:Bef all i j->Bef all j k->Bef all i k
theorem Qz:∀ (l m:List Nat) (b:Nat),b∈Wl l m->b∈l\/b∈m
 | [],m,b,h=>.inr h
 | c::l,m,b,h=>by
  simp only[Wl] at h
  cases hc:zn m c with
  | true=>
   rw[hc] at h;rcases Qz l m b h with h|h<;>grind
  | false=>
   rw[hc] at h;rcases Qz l (c::m) b h with h|h<;>grind
theorem WU:∀ (l:List (List Nat)) (i:Nat),DD l i=l.getD i []
 | [],i=>by simp[DD]
 | x::l,0=>by simp[DD]
 | x::l,i+1=>by simpa [DD] using WU l i
theorem YF (acc:List (List Nat)):∀ (l:List Nat) (b:Nat),b∈Yu acc l->∃ j∈l,b=j\/b∈DD acc j
 | [],b,h=>by simp[Yu] at h
 | j::l,b,h=>by
  simp only[Yu] at h;rcases Qz _ _ _ h with h|h
  grind
  obtain⟨T,h1,h2⟩:=YF acc l b h
  grind
theorem LK {all:Array Oper}:∀ (l:List Oper) (acc:List (List Nat)),(∀ k o,l[k]?=some o->all[acc.length+k]?=some o)->(∀ i b,b∈DD acc i->Bef all b i)->∀ i b,b∈DD (Wn l acc) i->Bef all b i
 | [],acc,_,h2=>by simpa [Wn] using h2
 | o::l,acc,h1,h2=>by
  simp only[Wn];have hlen:(acc++[Yu acc (ZB o)]).length=acc.length+1:=by simp
  refine LK l _ (λk o' hk=>?_) λi b T=>?_
  have:=h1 (k+1) o' dM
  grind
  rw[WU,List.getD_eq_getElem?_getD] at T
  by_cases hi:i<acc.length
  grind[WU]
  rw[List.getElem?_append_right ae] at T
  have t:i-acc.length=0:=by
   grind
  rw[t] at T;simp only[List.getElem?_cons_zero,Option.getD_some] at T;have g:i=acc.length:=by omega
  obtain⟨j,hj,T⟩:=YF acc _ _ T;have J:=h1 0 o rfl;rw[Nat.add_zero] at J;simp only[ZB,List.mem_map,List.mem_filter] at hj;obtain⟨e,⟨he,C⟩,rfl⟩:=hj;have I:Bef all e.on i:=by rw[g];exact .one J (by simpa using he) C
  rcases T with rfl|T
  exact I
  exact .trans (h2 _ _ T) I
theorem YG {J:List Nat}{c:Nat}:∀ (l:List Oper) (i:Nat),afw T J c l i=true->∀ k o,l[k]?=some o->clash (xC T o) c=true->(i+k)∈J
 | [],_,_,k,o,h,_=>by simp at h
 | q::l,i,h,0,o,hk,hc=>by
  simp_all[afw,KD]
 | q::l,i,h,k+1,o,hk,hc=>by
  simp only[afw,Bool.and_eq_true] at h;have:=YG l (i+1) h.2 k o dM hc
  grind
theorem YH {L:List Oper}{B:List (List Nat)}:∀ (l:List Oper) (i:Nat),agJ T L B l i=true->∀ k o,l[k]?=some o->afw T (DD B (i+k)) (xC T o) (L.take (i+k)) 0=true
 | [],_,_,k,o,h=>by simp at h
 | q::l,i,h,0,o,hk=>by
  simp_all[agJ]
 | q::l,i,h,k+1,o,hk=>by
  simp only[agJ,Bool.and_eq_true] at h;have:=YH l (i+1) h.2 k o dM
  grind
theorem TV:∀ (l:List Oper),agK T l=false->∀ o∈l,xC T o≠2
 | [],_,o,h=>by cases h
 | q::l,h,o,ho=>by
  simp only[agK,Bool.or_eq_false_iff] at h;rcases List.mem_cons.1 ho with rfl|ho
  intro e;simp_all
  exact TV l h.2 o ho
theorem GY {all:Array Oper}(h:Hr T all=true){i j:Nat}{J oj:Oper}(g:i<j)(hi:all[i]?=some J)(hj:all[j]?=some oj)(hc:clash (xC T J) (xC T oj)=true):Bef all i j:=by
 unfold Hr at h;rw[Bool.and_eq_true] at h;have h:=h.2;have t : all.toList[i]?=some J:=by simpa using hi
 have I : all.toList[j]?=some oj:=by simpa using hj
 cases C:agK T all.toList with
 | false=>
  have h1:=TV _ C J (List.mem_of_getElem? t);have h2:=TV _ C oj (List.mem_of_getElem? I)
  simp_all[clash]
 | true=>
  rw[C] at h;simp only[cond_true] at h;have:=YH _ 0 h j oj I;rw[Nat.zero_add] at this;have:=YG _ 0 this i J ai hc;rw[Nat.zero_add] at this
  grind[LK,DD]
def patch (sl:List Tmp)(er ps:List PV):List PV:=(List.range ps.length).map λt=>if t∈sl then ji er t else ji ps t
theorem LM (sl:List Tmp)(er ps:List PV):(patch sl er ps).length=ps.length:=by simp[patch]
theorem TW {sl:List Tmp}{er ps:List PV}{t:Nat}(h:t<ps.length):ji (patch sl er ps) t=if t∈sl then ji er t else ji ps t:=by
 grind[F6,patch]
theorem YI {sl:List Tmp}{er ps:List PV}(h:∀ t∈sl,Eqv (ji ps t) (ji er t)):BC ps (patch sl er ps):=by
 refine⟨by simp[patch],λt=>?_⟩
 grind[TW,Eqv.refl,Ei,LM]
theorem U4 {sl:List Tmp}{er ps:List PV}(J:er.length=ps.length):∀ t∈sl,ji (patch sl er ps) t=ji er t:=by
 intro t T
 by_cases I:t<ps.length<;>simp_all[TW,Ei,LM]
theorem Bef.listed {all:Array Oper}{listed:Array Bool}(T:∀ j o,all[j]?=some o->listed.getD j true=true->∀ e∈o.after,Region.binds .any e=true->listed.getD e.on true=true){i j:Nat}(h:Bef all i j):listed.getD j true=true->listed.getD i true=true:=by
 induction h<;>grind
theorem HY {listed:Array Bool}{i j:Nat}(hi:listed.getD i true=false):(listed.setIfInBounds i true).getD j true=true↔(j=i\/listed.getD j true=true):=by
 have J:i<listed.size:=by
  grind
 by_cases T:i=j
 simp_all
 simp_all;omega
theorem Bef.ready {all:Array Oper}{listed:Array Bool}(T:∀ j o,all[j]?=some o->listed.getD j true=true->∀ e∈o.after,Region.binds .any e=true->listed.getD e.on true=true)
  {i j:Nat} (h:Bef all i j):∀ o,all[j]?=some o->(∀ e∈o.after,Region.binds .any e=true->listed.getD e.on true=true)->listed.getD i true=true:=by
 induction h with
 | one h1 h2 I=>grind
 | trans h1 h2 ih1 ih2=>
  intro o ho J;exact h1.listed T (ih2 o ho J)
end
end Go.Pv
namespace Go.Pv
open Go
section
variable {P:Program}{T:Tab}
structure Facts (P:Program)(T:Tab)(all:Array Oper)(rs:List Rec)(st:St)(nx nxf:Nat):Prop where
 len:rs.length=all.size
 old:∀ b,iV st b≠none->b<nx
 ids:∀ (i:Nat) (r:Rec),rs[i]?=some r->r.big=true->r.id=Dz rs nx i/\nx<=r.id/\r.id+32<=nxf
 small:∀ (i:Nat) (r:Rec),rs[i]?=some r->r.big=false->r.δ=[]
 cls:∀ (i:Nat) (o:Oper) (r:Rec),all[i]?=some o->rs[i]?=some r->r.big=true->(xC T o=1/\(∃ x,r.δ=[(r.id,some x)])/\r.lk=XX)\/(xC T o=2/\(∀ b,aeE r.δ b->b<r.id+32)/\r.lk=iV (BD rs st i))
 looks:∀ (i:Nat) (o:Oper) (r:Rec),all[i]?=some o->rs[i]?=some r->r.wb=true->∀ b x,r.lk b=some x->iV (BD rs st i) b=some x/\(xC T o=2\/xC T o=3) /\
  (xC T o=3->∀ (k:Nat) (rk:Rec) (ok:Oper),k<i->rs[k]?=some rk->all[k]?=some ok->rk.big=true->xC T ok=1->rk.id=b->∃ m om,k<m/\m<i/\all[m]?=some om/\xC T om=2)
theorem ZY {rs:List Rec}{nx i k:Nat}{r T : Rec}(I:i<k)(hr:rs[i]?=some r)(J:r.big=true)(h:r.id=Dz rs nx i)(C : T.id=Dz rs nx k):r.id+32<=T.id:=by
 have h1:=O3 rs nx i r hr;rw[J] at h1;have h2:=TU (rs:=rs) (n:=nx) (show i+1<=k by omega)
 grind[bump]
theorem WV {P:Program}{T:Tab}{all:Array Oper}:∀ (l:List Oper) (rs:List Rec) {p:List PV} {st:St} {nx:Nat} {pend:List Nat} {f:List PV} {J:St} {I:Nat},ChD P T all l rs p st nx pend f J I->(∀ b,iV st b≠none->b<nx)->∀ i b,iV (BD rs st i) b≠none->b<Dz rs nx i
 | l,rs,_,_,_,_,_,_,_,_,h0,0,b,hb=>by grind[BD,Dz]
 | [],[],_,_,_,_,_,_,_,_,h0,i+1,b,hb=>h0 b hb
 | o::l,r::rs,_,st,nx,_,_,_,_,h,h0,i+1,b,hb=>by
  simp only[BD,Dz] at hb |-;refine WV l rs h.2 (λc hc=>?_) i b hb;rw[yV] at hc;rcases h.1.cls with ⟨h1,h2,_⟩|⟨_,h1,h2,_,⟨x,C⟩,_⟩|⟨_,h1,h2,_,C,_⟩
  rw[h2] at hc;rw[h1];exact h0 c hc
  rw[h1];rw[C] at hc;simp only[lG,bump] at hc |-
  grind
  rw[h1];simp only[bump]
  by_cases t:lG r.δ c=none
  grind
  simp_all[Qy]
 | [],_::_,_,_,_,_,_,_,_,h,_,_,_,_=>h.elim
 | _::_,[],_,_,_,_,_,_,_,h,_,_,_,_=>h.elim
theorem YJ {P:Program}{T:Tab}{all:Array Oper}:∀ (l:List Oper) (rs:List Rec) {p:List PV} {st:St} {nx:Nat} {pend:List Nat} {f:List PV} {stf:St} {nxf:Nat},ChD P T all l rs p st nx pend f stf nxf ->
  ∀ i,(∀ k C ok,k<i->rs[k]?=some C->l[k]?=some ok->C.big=true->xC T ok=1->C.id∈Qw T l rs pend i\/∃ m J,k<m/\m<i/\l[m]?=some J/\xC T J=2) /\
   (∀ b,b∈pend->b∈Qw T l rs pend i\/∃ m J,m<i/\l[m]?=some J/\xC T J=2)
 | l,rs,_,_,_,_,_,_,_,_,0=>by grind[Qw]
 | [],[],_,_,_,_,_,_,_,_,i+1=>⟨λk C ok _ h=>by simp at h,λb g=>.inl g⟩
 | o::l,r::rs,_,_,_,pend,_,_,_,h,i+1=>by
  obtain⟨h1,h2⟩:=YJ l rs h.2 i;simp only[Qw]
  have lift:(∃ m J,m<i/\l[m]?=some J/\xC T J=2)->∃ m J,0<m/\m<i+1/\(o::l)[m]?=some J/\xC T J=2:=by
   rintro⟨m,J,I,t,h5⟩
   exact⟨m+1,J,by omega,by omega,by simpa using t,h5⟩
  have two:xC T o=2->∃ m J,m<i+1/\(o::l)[m]?=some J/\xC T J=2:=λh=>⟨0,o,by omega,rfl,h⟩
  refine⟨λk C ok hk hr ho g hc=>?_,λb g=>?_⟩
  cases k with
  | zero=>
   grind[WR]
  | succ k=>
   rcases h1 k C ok ae dL (by simpa using ho) g hc with I|⟨m,J,I,t,h5,h6⟩
   exact .inl I
   exact .inr ⟨m+1,J,by omega,by omega,by simpa using h5,h6⟩
  by_cases hp:b∈WR T o r pend
  grind
  refine .inr (two ?_);rcases h.1.cls with ⟨I,_⟩|⟨_,I,_,t,_⟩|⟨_,I,_,t,_⟩<;>simp_all[WR]
 | [],_::_,_,_,_,_,_,_,_,h,_=>h.elim
 | _::_,[],_,_,_,_,_,_,_,h,_=>h.elim
theorem ahk {all:Array Oper}{rs:List Rec}{p:List PV}{st:St}{nx:Nat}{f:List PV}{stf:St}{t:Nat}(h:ChD P T all all.toList rs p st nx [] f stf t)(h0:∀ b,iV st b≠none->b<nx):Facts P T all rs st nx t:=by
 have hl:=(ChD.len _ _ h).1;have hnf:=(ChD.fin _ _ h).2
 have get:∀ i r,rs[i]?=some r->∃ o q,all[i]?=some o/\adf P T all o r q (BD rs st i) (Dz rs nx i) (Qw T all.toList rs [] i):=by
  intro i r hr
  have hlt:i<rs.length:=by
   grind
  have C : i<all.toList.length:=by omega
  obtain⟨r',q,a0,_,a2,_⟩:=ChD.get _ _ h i _ (List.getElem?_eq_getElem C)
  grind
 refine⟨by simpa using hl,h0,λi r hr I=>?_,λi r hr I=>?_,λi o r ho hr I=>?_,λi o r ho hr hw b x I=>?_⟩
 obtain⟨o,q,_,hs⟩:=get i r hr
 have hid:r.id=Dz rs nx i:=by
  rcases hs.cls with ⟨h1,_⟩|⟨_,_,h1,_⟩|⟨_,_,h1,_⟩<;>grind
 refine⟨hid,by grind[Qx],?_⟩
 have hlt:i<rs.length:=by
  grind
 have h2:=TU (rs:=rs) (n:=nx) (show i+1<=rs.length by omega)
 grind[O3,bump]
 obtain⟨o,q,_,hs⟩:=get i r hr;rcases hs.cls with ⟨_,h1,_⟩|⟨_,h1,_⟩|⟨_,h1,_⟩<;>grind
 obtain⟨o',q,J,hs⟩:=get i r hr;rw[ho] at J;cases J;rcases hs.cls with ⟨h1,_⟩|⟨_,_,h1,h2,⟨x,h3⟩,g⟩|⟨_,_,h1,h2,h3,g⟩<;>grind
 obtain⟨o',q,J,hs⟩:=get i r hr;rw[ho] at J;cases J;rcases hs.cls with ⟨_,_,h3⟩|⟨_,_,_,_,_,g⟩|⟨_,_,_,h2,_,g⟩
 obtain⟨c1,c2,c3⟩:=h3 hw b x I;refine⟨c3,.inr c1,λ_ k rk ok hk hrk hok hbk hck hid=>?_⟩;rcases (YJ _ _ h i).1 k rk ok hk hrk (by simpa using hok) hbk hck with h5|⟨m,om,h5,h6,h7,h8⟩<;>grind
 rw[g] at I;cases I
 simp_all
theorem YK:∀ l:List Oper,Wp l=l.length
 | []=>rfl
 | _::l=>by simp[Wp,YK l]
theorem WW {l:List Nat}:∀ n,allIn l n=true->∀ k,k<n->k∈l
 | 0,_,k,h=>by omega
 | n+1,h,k,hk=>by
  simp only[allIn,Bool.and_eq_true] at h;rcases Nat.lt_or_ge k n with h'|h'
  exact WW n h.2 k h'
  grind[KD]
theorem abT {all:Array Oper}(h:Qi all=true){i k:Nat}(hi:i+1=all.size)(hk:k<i):Bef all k i:=by
 unfold Qi at h
 split at h
 cases h
 rename_i o l e
 have T:l.length=i:=by
  have:all.toList.length=i+1:=by grind
  grind
 grind[YK,LK,DD,WW]
theorem adg.get {all:Array Oper}{K:Env->Prop}:∀ (l:List Oper) (rs:List Rec) {st:St} {f:List PV} {I:St} {J:Nat},adg P T all K l rs st f I J->(∀ (i:Nat) (r:Rec),rs[i]?=some r->r.nd=false)/\K ⟨f,I,J⟩ \/
  ∃ (i:Nat) (o:Oper) (r:Rec),i+1=l.length/\i+1=rs.length/\l[i]?=some o/\rs[i]?=some r/\r.nd=true/\(∀ (k:Nat) (C : Rec),k≠i->rs[k]?=some C->C.nd=false)/\Qi all=true/\J=r.id+32 /\
   oH T (iq.jq P T) o.op r.er (iV (BD rs st i)) r.id (λv δ=>bif ltD (r.id+32) δ then K ⟨Dy r.er o.dst v,jr δ (BD rs st i),r.id+32⟩ else False)
 | [],[],_,_,_,_,h=>.inl ⟨λi r h=>by simp at h,h⟩
 | [],r::rs,_,_,_,_,h=>h.elim
 | o::l,[],_,_,_,_,h=>h.elim
 | o::l,r::rs,st,f,I,J,h=>by
  cases t:r.nd with
  | true=>
   obtain⟨rfl,rfl,h1,h2,g⟩:=h.1 t;exact .inr ⟨0,o,r,rfl,rfl,rfl,rfl,t,λk C hk hr=>by grind,h1,h2,g⟩
  | false=>
   rcases adg.get l rs (h.2 t) with ⟨h1,h2⟩|⟨i,o',C,a1,a2,a3,a4,a5,a6,a7,a8,a9⟩
   grind
   exact .inr ⟨i+1,o',C,by simp[a1],by simp[a2],by simpa using a3,by simpa using a4,a5,λk r2 hk hr=>by grind,a7,a8,by simpa [BD] using a9⟩
def aeF {T:Tab}(C:Ctx T)(all:Array Oper)(rs:List Rec)(st:St)(n:Nat)(p f:List PV)(listed:Array Bool)(a:Act)(w:World):Prop := DF C a/\∃ Y σ ps stx,SW C w Y σ ps a.tmps.toList stx n/\ps.length=p.length /\ (∀ j o t,all[j]?=some o->o.dst=some t->listed.getD j true=true->Eqv (ji ps t) (ji f t)) /\ (∀ t,(∀ j o,all[j]?=some o->o.dst=some t->listed.getD j true=false)->Eqv (ji ps t) (ji p t)) /\ (∀ b,iV stx b=orS st b (lst rs (λk=>listed.getD k true) 0 b)) /\ (∀ j r,rs[j]?=some r->listed.getD j true=false->r.big=true->∀ b,r.id<=b->b<r.id+32->σ b=none)
theorem adi (hT:iZ P T)(hW:DR P){KE:Env->Prop}{C:Ctx T}{all:Array Oper}{rs:List Rec}{st:St}{nx n:Nat}{p f:List PV}{stf:St}(hchk:Hr T all=true)(hch:ChD P T all all.toList rs p st nx [] f stf n)(hF:Facts P T all rs st nx n)(hpas:T.qc<=nx){listed:Array Bool}{a:Act}{w:World}
  (hsz:listed.size=all.size) (hclosed:∀ j o,all[j]?=some o->listed.getD j true=true->∀ e∈o.after,Region.binds .any e=true->listed.getD e.on true=true)
  (hkeys:∀ i b,iV (BD rs st i) b≠none->b<Dz rs nx i)
  (hs:aeF C all rs st n p f listed a w) {i:Nat} (hr:i∈Region.ready .any all listed) {Q:Exit->Act->World->Prop} {K:Act->World->Prop}
  (hND:∀ o r,all[i]?=some o->rs[i]?=some r->r.nd=true->i+1=all.size/\Qi all=true/\n=r.id+32/\oH T (iq.jq P T) o.op r.er (iV (BD rs st i)) r.id (λv δ=>bif ltD (r.id+32) δ then KE ⟨Dy r.er o.dst v,jr δ (BD rs st i),r.id+32⟩ else False))
  (hEnd:∀ a' w' E,(∀ k,(listed.setIfInBounds i true).getD k true=true)->kZ C E a' w'->KE E->K a' w')
  (hK:(∀ r,rs[i]?=some r->r.nd=false)->∀ a' w',aeF C all rs st n p f (listed.setIfInBounds i true) a' w'->K a' w'):wpOp P all Q i K a w:=by
 obtain⟨hun,o,ho,hall⟩:=mem_ready.1 hr;obtain⟨hd,Y,σ,ps,stx,H,hlen,hdone,hrest,hst,hfree⟩:=hs;have hL:all.toList[i]?=some o:=by simpa using ho
 have hilt:i<listed.size:=by
  rcases Nat.lt_or_ge i listed.size with h|h
  exact h
  simp[Array.getElem?_eq_none h] at hun
 obtain⟨r,q,hri,qlen,O,h6,h7,h8⟩:=hch.get _ _ i o hL;have hspec:=EM hchk ho;have ajD:=(hch.len _ _).2
 have hall' : ∀ e∈o.after,Region.binds .any e=true->listed.getD e.on true=true:=by
  grind
 have befIn:∀ k,Bef all k i->listed.getD k true=true:=λk h=>h.ready hclosed o ho hall'
 have befOut:∀ k,Bef all i k->listed.getD k true=false:=λk h=>by
  cases hk:listed.getD k true with
  | false=>rfl
  | true=>have:=h.listed hclosed hk;rw[hun] at this;cases this
 have look0:∀ t∈o.looksAt all,Eqv (ji ps t) (ji q t):=by
  intro t ht
  by_cases hex:∃ j pj,all[j]?=some pj/\j≠i/\pj.dst=some t
  obtain⟨j,pj,hj,hne,hdst⟩:=hex;obtain⟨hdd,hor⟩:=hspec.2 j pj hj hne t hdst
  have uniq:∀ k pk,all[k]?=some pk->pk.dst=some t->k=j:=by
   intro k pk hk I
   by_cases hkj:k=j
   exact hkj
   exact absurd I ((EM hchk hk).2 j pj hj (Ne.symm hkj) t hdst).1
  rcases hor ht with ⟨e,he,hb,heq⟩|⟨e,he,hb,heq⟩
  have hlj:listed.getD j true=true:=by
   have:=hall' e he hb
   rwa [heq] at this
  have hji:j<i:=by rw[<- heq];exact hspec.1 e he hb
  have U:=hdone j pj t hj hdst hlj
  have:=h7 t λk pk hk hpk I=>by
   have:=uniq k pk (by simpa using hpk) I;omega
  exact U.trans this.symm
  have hij:i<j:=by rw[<- heq];exact(EM hchk hj).1 e he hb
  have hju:listed.getD j true=false:=by
   grind
  have hp:=hrest t λk pk hk I=>by
   rw[uniq k pk hk I];exact hju
  have:=h6 t λk pk hk hpk I=>by
   have:=uniq k pk (by simpa using hpk) I;omega
  exact hp.trans this
  have hp:=hrest t λk pk hk I=>by
   by_cases hki:k=i
   rw[hki];exact hun
   exact absurd ⟨k,pk,hk,hki,I⟩ hex
  have:=h6 t λk pk hk hpk I=>hex ⟨k,pk,by simpa using hpk,by omega,I⟩;exact hp.trans this
 have look:∀ t∈o.looksAt all,Eqv (ji ps t) (ji r.e1 t)/\Eqv (ji ps t) (ji r.er t):=λt ht=>⟨(look0 t ht).trans (O.e1.2 t),(look0 t ht).trans (O.er.2 t)⟩
 have big_of:∀ (k:Nat) (g:Rec),rs[k]?=some g->∀ b,lG g.δ b≠none->g.big=true:=by
  intro k g J b hb
  cases hbig:g.big with
  | true=>rfl
  | false=>rw[hF.small k g J hbig] at hb;exact absurd rfl hb
 have oper:∀ (k:Nat) (g:Rec),rs[k]?=some g->∃ ok,all[k]?=some ok:=by
  intro k g J
  have:k<all.size:=by
   rw[<- hF.len]
   grind
  exact⟨_,Array.getElem?_eq_getElem this⟩
 have hlk:r.wb=true->∀ b x,r.lk b=some x->iV stx b=some x:=by
  intro hw b x hb;obtain⟨c1,c2,c3⟩:=hF.looks i o r ho hri hw b x hb;rw[hst b,<- c1,O4 rs st i 0 b]
  congr 1
  refine Bd _ _ _ _ _ λk g J hkb=>?_;rw[Nat.zero_add,Nat.zero_add];have hbig:=big_of k g J b hkb;obtain⟨ok,hok⟩:=oper k g J;rcases Nat.lt_trichotomy k i with hki|hki|hki
  simp only[hki,decide_true];rcases hF.cls k ok g hok J hbig with ⟨d1,⟨y,d2⟩,_⟩|⟨d1,d2,_⟩
  have hidb:g.id=b:=by
   rw[d2] at hkb;simp only[lG] at hkb
   by_cases hh:g.id=b
   exact hh
   rw[if_neg hh] at hkb;exact absurd rfl hkb
  rcases c2 with c2|c2
  exact befIn k (GY hchk hki hok ho (by rw[d1,c2];rfl))
  obtain⟨m,om,e1,e2,e3,e4⟩:=c3 c2 k g ok hki J hok hbig d1 hidb;exact befIn k (.trans (GY hchk e1 hok e3 (by rw[d1,e4];rfl)) (GY hchk e2 e3 ho (by rw[c2,e4];rfl)))
  exact befIn k (GY hchk hki hok ho dF)
  subst hki;simp only[Nat.lt_irrefl,decide_false];exact hun
  have:¬ k<i:=by omega
  simp only[this,decide_false];rcases hF.cls k ok g hok J hbig with ⟨d1,⟨y,d2⟩,_⟩|⟨d1,d2,_⟩
  have hidb:g.id=b:=by
   rw[d2] at hkb;simp only[lG] at hkb
   grind
  have h1:=hkeys i b (by rw[c1];simp);have h2:=(hF.ids k g J hbig).1;have h3:=TU (rs:=rs) (n:=nx) (show i<=k by omega);omega
  exact befOut k (GY hchk hki ho hok dF)
 have lastOut:∀ b,lG r.δ b≠none->∀ (k:Nat) (g:Rec),i<k->rs[k]?=some g->listed.getD k true=true->lG g.δ b=none:=by
  intro b hb k g hik J hlk
  by_cases hkb:lG g.δ b=none
  exact hkb
  exfalso
  have hbi:=big_of i r hri b hb;have hbk:=big_of k g J b hkb;obtain⟨ok,hok⟩:=oper k g J
  have no:clash (xC T o) (xC T ok)=true->False:=λhc=>by
   have:=befOut k (GY hchk hik ho hok hc);rw[hlk] at this;cases this
  rcases hF.cls i o r ho hri hbi with ⟨d1,⟨y,d2⟩,_⟩|⟨d1,d2,_⟩
  rcases hF.cls k ok g hok J hbk with ⟨g1,⟨z,g2⟩,_⟩|⟨g1,_⟩
  have e1:r.id=b:=by
   rw[d2] at hb;simp only[lG] at hb
   by_cases hh:r.id=b
   exact hh
   rw[if_neg hh] at hb;exact absurd rfl hb
  have e2:g.id=b:=by
   rw[g2] at hkb;simp only[lG] at hkb
   grind
  have:=ZY hik hri hbi (hF.ids i r hri hbi).1 (hF.ids k g J hbk).1;omega
  exact no (by rw[d1,g1];rfl)
  rcases hF.cls k ok g hok J hbk with ⟨g1,⟨z,g2⟩,_⟩|⟨g1,_⟩
  have e2:g.id=b:=by
   rw[g2] at hkb;simp only[lG] at hkb
   by_cases hh:g.id=b
   exact hh
   rw[if_neg hh] at hkb;exact absurd rfl hkb
  have h1:=d2 b (Qy _ _ hb);have:=ZY hik hri hbi (hF.ids i r hri hbi).1 (hF.ids k g J hbk).1;omega
  exact no (by rw[d1,g1];rfl)
 have setD:∀ k,(listed.setIfInBounds i true).getD k true=(if k=i then true else listed.getD k true):=by
  intro k
  by_cases hki:k=i
  subst hki;simp[hilt]
  rw[if_neg hki];exact getD_set_ne true (Ne.symm hki)
 have newSt:∀ stn:St,(∀ b,iV stn b=(match lG r.δ b with|some x=>x|none=>iV stx b))->∀ b,iV stn b=orS st b (lst rs (λk=>(listed.setIfInBounds i true).getD k true) 0 b):=by
  intro stn hstn b;rw[hstn b]
  cases hb:lG r.δ b with
  | none=>
   rw[hst b]
   congr 1
   refine Bd _ _ _ _ _ λk g J hkb=>?_
   grind
  | some x=>
   rw[WT rs _ 0 i b r x hri (by rw[Nat.zero_add,setD,if_pos rfl]) hb λk g hik J hlk=>?_]
   rfl
   grind
 have after:r.nd=false->∀ cv w' Y' σ' qs stn,BC ps qs->SW C w' Y' σ' qs a.tmps.toList stn n->(∀ b,iV stn b=(match lG r.δ b with|some x=>x|none=>iV stx b))->(∀ (j:Nat) (rj:Rec),j≠i->rs[j]?=some rj->rj.big=true->∀ b,rj.id<=b->b<rj.id+32->σ b=none->σ' b=none)->Rep w' Y' σ' r.v cv->K (a.put o.dst cv) w':=by
  intro hnd0 cv w' Y' σ' qs stn hq H' hstn hfr hv;refine hK (λr' hr'=>by rw[hri] at hr';cases hr';exact hnd0) _ _ ⟨DF.put hd _ _,Y',σ',Dy qs o.dst r.v,stn,H'.Dy hv o.dst,by rw[vZ,<- hq.1,hlen],?_,?_,newSt stn hstn,?_⟩
  intro j oj t hj hdst hlj;rw[HY hun] at hlj
  by_cases hji:j=i
  subst hji;rw[ho] at hj;cases hj
  by_cases hlt:t<qs.length
  rw[hdst];simp only[Dy,yT];rw[if_pos ⟨trivial,hlt⟩];refine h8 t hdst (by rw[<- hlen,hq.1];exact hlt) λk pk hk hpk I=>?_;exact absurd hdst ((EM hchk ho).2 k pk (by simpa using hpk) ae t I).1
  rw[Ei (by rw[vZ];exact Nat.le_of_not_lt hlt),Ei (by rw[ajD,<- hlen,hq.1];exact Nat.le_of_not_lt hlt)];exact Eqv.refl _
  have hne:=(hspec.2 j oj hj hji t hdst).1;rw[Ej hne];rcases hlj with h|h
  exact absurd h hji
  exact(hq.2 t).symm.trans (hdone j oj t hj hdst h)
  intro t ht
  have hne:o.dst≠some t:=λe=>by
   have:=ht i o ho e;rw[(HY hun).2 (.inl rfl)] at this;cases this
  rw[Ej hne];refine(hq.2 t).symm.trans (hrest t λk pk hk I=>?_)
  grind
  grind
 have q1:=YI (sl:=o.looksAt all) (er:=r.e1) (ps:=ps) λt ht=>(look t ht).1;have q2:=YI (sl:=o.looksAt all) (er:=r.er) (ps:=ps) λt ht=>(look t ht).2;have l1:r.e1.length=ps.length:=by rw[<- O.e1.1,hlen];assumption
 have l2:r.er.length=ps.length:=by rw[<- O.er.1,hlen];assumption
 have hwb:=O.gd C _ Y σ a w stx n (U4 l1) (H.rH (H.vals.eqv q1)) hd;unfold wpOp;simp only[ho]
 cases hw:r.wb with
 | true=>
  rw[hw] at hwb;rw[if_pos hwb]
  cases hnd:r.nd with
  | true=>
   obtain⟨g1,g2,g3,g4⟩:=hND o r ho hri hnd
   have hoth:∀ k,k≠i->listed.getD k true=true:=λk hk=>by
    grind[abT]
   have hq:BC ps q:=⟨by rw[hlen];exact qlen.symm,λt=>by
    by_cases hex:∃ j pj,all[j]?=some pj/\j≠i/\pj.dst=some t
    obtain⟨j,pj,hj,hne,hdst⟩:=hex;have U:=hdone j pj t hj hdst (hoth j hne)
    have:=h7 t λk pk hk hpk I=>by
     grind
    exact U.trans this.symm
    have hp:=hrest t λk pk hk I=>by
     grind
    have:=h6 t λk pk hk hpk I=>hex ⟨k,pk,by simpa using hpk,by omega,I⟩;exact hp.trans this⟩
   have H1:SW C w Y σ r.er a.tmps.toList (BD rs st i) n:=(H.rH (H.vals.eqv (hq.trans O.er))).ext λb x hb=>by
    rw[hst b,<- hb,O4 rs st i 0 b]
    congr 1
    refine Bd _ _ _ _ _ λk g J _=>?_
    grind
   have hb:=(O.ndw hnd).2;obtain⟨i1,i2,i3⟩:=hF.ids i r hri hb;obtain⟨v',δ',cv,w',Y',σ',hk,hrun,H',hv,hoff⟩:=Ac hT hW H1 (λb x h=>h) ⟨hfree i r hri hun hb r.id (Nat.le_refl _) ae,Nat.le_trans hpas i2⟩ g4
   cases hlt:ltD (r.id+32) δ' with
   | false=>rw[hlt] at hk;exact hk.elim
   | true=>
    rw[hlt] at hk;have hn:ve δ' n r.id<=n:=by cases δ'<;>simp[ve]<;>omega
    have:=hEnd (a.put o.dst cv) w' _ (λk=>by
     grind) ⟨⟨Y',σ',by rw[<- g3];exact(H'.mono hn).Dy hv o.dst⟩,DF.put hd _ _⟩ hk
    refine .inl ?_;unfold Oper.wp;rcases hrun with hrun|⟨hrun,rfl⟩
    rw[hrun];exact this
    rw[hrun];exact this
  | false=>
  refine .inl (O.sem hw hnd C _ Y σ a w stx n (U4 l2) (H.rH (H.vals.eqv q2)) hd (hlk hw) (λhb=>?_) K Q λcv w' Y' σ' H' hoff hsame hv=>?_)
  obtain⟨g1,g2,g3⟩:=hF.ids i r hri hb;exact⟨hfree i r hri hun hb,Nat.le_trans hpas g2,g3⟩
  refine after hnd cv w' Y' σ' _ _ q2 H' (λb=>yV _ _ _) (λj rj hji hrj hbj b hb1 hb2 hn=>?_) hv
  cases hb:r.big with
  | false=>rw[hsame hb];exact hn
  | true=>
   rw[hoff _ ?_];· exact hn
   have e1:=(hF.ids i r hri hb).1;have e2:=(hF.ids j rj hrj hbj).1;rcases Nat.lt_or_ge i j with hij|hij
   have:=ZY hij hri hb e1 e2;omega
   have:=ZY (show j<i by omega) hrj hbj e2 e1;omega
 | false=>
  rw[hw] at hwb;rw[if_neg (by rw[hwb];simp)]
  have hδ:r.δ=[]:=by
   rcases O.cls with ⟨_,h,_⟩|⟨h,_⟩|⟨h,_⟩<;>grind
  refine after (by cases h:r.nd with|false=>rfl|true=>rw[(O.ndw h).1] at hw;cases hw) _ w Y σ ps stx (BC.refl _) H (λb=>by rw[hδ];rfl) (λ_ _ _ _ _ _ _ _ h=>h) (by rw[O.skip hw];simp[Rep])
theorem X4 {all:Array Oper}(J:Hr T all=true){listed:Array Bool}(hsz:listed.size=all.size)(hr:Region.ready .any all listed=[]):∀ j,listed.getD j true=true:=by
 intro j
 induction j using Nat.strongRecOn with
 | _ j ih=>
  cases h:listed.getD j true with
  | true=>rfl
  | false=>
   have I:j<listed.size:=by
    grind
   have hj:all[j]?=some all[j]:=Array.getElem?_eq_getElem ae
   have:j∈Region.ready .any all listed:=mem_ready.2 ⟨h,_,hj,λe t C=>by
    grind[EM]⟩
   grind
theorem count_set {listed:Array Bool}{i k:Nat}(hi:listed.getD i true=false)(h:listed.toList.count false=k+1):(listed.setIfInBounds i true).toList.count false=k:=by
 have T:i<listed.size:=by
  grind
 simp_all[List.count_set]
theorem ahl (hT:iZ P T)(hW:DR P){KE:Env->Prop}{C:Ctx T}{all:Array Oper}{rs:List Rec}{st:St}{nx n:Nat}{p f:List PV}{stf:St}(hchk:Hr T all=true)(I:ChD P T all all.toList rs p st nx [] f stf n)(hF:Facts P T all rs st nx n)(hpas:T.qc<=nx)(hkeys:∀ i b,iV (BD rs st i) b≠none->b<Dz rs nx i){Q:Exit->Act->World->Prop}
  (hfin:adg P T all KE all.toList rs st f stf n)
  (hQ:∀ E a w,kZ C E a w->KE E->Q .normal a w):∀ (fuel:Nat) (listed:Array Bool) (a:Act) (w:World),listed.size=all.size->listed.toList.count false=fuel ->
   (∀ j o,all[j]?=some o->listed.getD j true=true->∀ e∈o.after,Region.binds .any e=true->listed.getD e.on true=true) ->
   (∀ (j:Nat) (r:Rec),rs[j]?=some r->r.nd=true->listed.getD j true=false) ->
   aeF C all rs st n p f listed a w->wpAny P .any all Q fuel listed a w:=by
 have hgetF:=hfin.get
 have fin:∀ (listed:Array Bool) (a:Act) (w:World),listed.size=all.size->(∀ (j:Nat) (r:Rec),rs[j]?=some r->r.nd=true->listed.getD j true=false)->aeF C all rs st n p f listed a w->Region.ready .any all listed=[]->Q .normal a w:=by
  intro listed a w hsz hu hs hr;have hl:=X4 hchk hsz hr
  have hKE:KE ⟨f,stf,n⟩:=by
   grind
  obtain⟨hd,Y,σ,ps,stx,H,hlen,hdone,hrest,hst,_⟩:=hs;have H1:SW C w Y σ f a.tmps.toList stx n:=H.rH (H.vals.eqv ⟨by rw[hlen,(I.len _ _).2],λt=>?_⟩)
  refine hQ _ a w ⟨⟨Y,σ,H1.ext λb x hb=>?_⟩,hd⟩ hKE;rw[hst b,<- hb,(I.fin _ _).1,O4 rs st rs.length 0 b]
  congr 1
  refine Bd _ _ _ _ _ λk rk hrk _=>?_
  grind
  by_cases hex:∃ (j:Nat) (o:Oper),all[j]?=some o/\o.dst=some t
  grind
  refine(hrest t λj o hj g=>absurd ⟨j,o,hj,g⟩ hex).trans (I.keep _ _ λo ho g=>?_)
  grind[List.getElem?_of_mem]
 intro fuel
 induction fuel with
 | zero=>
  intro listed a w hsz hc J hu hs
  have hr:Region.ready .any all listed=[]:=by
   rw[List.eq_nil_iff_forall_not_mem];intro i hi;have hun:=(mem_ready.1 hi).1
   have hlt:i<listed.size:=by
    grind
   have hget:listed[i]=false:=by simpa [hlt] using hun
   grind[List.count_eq_zero]
  exact⟨hr,fin listed a w hsz hu hs hr⟩
 | succ fuel ih=>
  intro listed a w hsz hc J hu hs;refine⟨fin listed a w hsz hu hs,λi hi=>?_⟩;have hun:=(mem_ready.1 hi).1;refine adi hT hW (KE:=KE) hchk I hF hpas hsz J hkeys hs hi (λo r ho hr hn=>?_) (λa' w' E hall hA hE=>?_) λhnd a' w' hs'=>ih _ a' w' (by simpa using hsz) (count_set hun hc) ?_ (λj r hj hn=>?_) hs'
  grind
  have hrn:Region.ready .any all (listed.setIfInBounds i true)=[]:=by
   simp_all[List.eq_nil_iff_forall_not_mem,mem_ready]
  cases fuel with
  | zero=>exact⟨hrn,hQ E a' w' hA hE⟩
  | succ fuel=>exact⟨λ_=>hQ E a' w' hA hE,λk hk=>by grind⟩
  rotate_left
  by_cases hji:j=i<;>simp_all[Ne.symm]
  grind[HY,mem_ready]
theorem WX {n:Nat}:∀ (st:St),ltS n st=true->∀ b,iV st b≠none->b<n
 | [],_,b,h=>absurd rfl h
 | (c,x)::st,h,b,hb=>by
  simp only[ltS,Bool.and_eq_true,Nat.blt_eq] at h;simp only[iV] at hb
  by_cases hc:c=b
  grind
  rw[Wx hc] at hb;exact WX st h.2 b hb
theorem adk (hT:iZ P T)(hW:DR P){id:Nat}{l:Array Oper}{E:Env}{K:Env->Prop}(g:Hr T l=true)(I:ltS E.next E.st=true)(h:ac2 T (iq.jq P T) l l.toList [] E K) :
  ∀ (C:Ctx T) a w,kZ C E a w->∀ Q:Exit->Act->World->Prop,(∀ E' a' w',kZ C E' a' w'->K E'->Q .normal a' w')->(Code.region id l true).wp P Q a w:=by
 intro C a w hA Q hQ;obtain⟨rs,f,stf,nxf,J,hK⟩:=Hz hT hW _ _ _ _ h;obtain⟨⟨Y,σ,H⟩,hd⟩:=hA;have I:=WX _ I;have hF:=ahk J I;have hle:E.next<=nxf:=by rw[(J.fin _ _).2];exact Qx _ _ _
 have hrep:∀ j,j<l.size->(Array.replicate l.size false).getD j true=false:=λj hj=>by simp[hj]
 have hno:∀ j o,l[j]?=some o->(Array.replicate l.size false).getD j true=true->False:=by
  grind
 refine wp_region_any hW.mixed (ahl hT hW g J hF H.fix.1 (WV _ _ J I) (C:=C) hK (λE a' w' hA' hE=>hQ _ a' w' hA' hE) l.size _ a _ aj ?_ ?_ (λj r hr hn=>hrep j ?_) ?_)
 simp
 grind
 rw[<- hF.len]
 grind
 refine⟨hd,Y,σ,E.tmps,E.st,(H.drawn _).mono hle,rfl,?_,λt _=>Eqv.refl _,λb=>?_,λj r hr _ hb=>?_⟩
 grind
 rw[KG _ _ _ _ λk r hr hD=>?_];· rfl
 rw[Nat.zero_add] at hD
 have:k<l.size:=by
  rw[<- hF.len]
  grind
 grind
 exact λb hb1 _=>H.next b (Nat.le_trans (hF.ids j r hr hb).2.1 hb1)
end
end Go.Pv
namespace Go.Pv
open Go
def ZZ (o:Obj):Prop:=(∀ arr ty,o≠.cells arr ty (0,0))/\∀ es ck,o≠.map es ck
theorem Ff.cells {w:World}{Y:Nat->Prop}{σ:Sg}{st:St}(hs:FW w Y σ st){k:Nat}(h:Ff σ st k):(∃ arr ty,w.heap[k]?=some (.cells arr ty (0,0)))\/∃ I J,w.heap[k]?=some (.map I J):=by
 obtain⟨b,x,l,h1,h2,rfl⟩:=h;rcases hs.blk b x h1 with ⟨l',T,hB⟩|⟨t,_⟩
 rw[h2] at T;cases T;cases x<;>(unfold fF at hB;first|(obtain⟨arr,ty,C,_⟩:=hB.1.blk;exact .inl ⟨arr,ty,C⟩)|grind)
 grind
theorem SW.kept {T' : Tab}{w w' : World}{Y Y' : Nat->Prop}{σ σ' : Sg}{qs:List PV}{us:List Value}{st st' : St}{t : Nat}(hs:FW w Y σ st)(H' : SW (yS T' w Y σ st) w' Y' σ' qs us st' t){k:Nat}{o:Obj}(ho:w.heap[k]?=some o)(hc:ZZ o):w'.heap[k]?=some o/\(Y k->Y' k):=by
 have J:k<w.heap.size:=(Array.getElem?_eq_some_iff.1 ho).1
 have T:¬ Ff σ st k:=λh=>by
  rcases h.cells hs with ⟨arr,ty,h1⟩|⟨C,I,h1⟩
  rw[ho] at h1;cases h1;exact hc.1 arr ty rfl
  rw[ho] at h1;cases h1;exact hc.2 C I rfl
 exact⟨by rw[H'.qo.block k J λh=>T h.2];exact ho,λhy=>H'.y0 k ⟨hy,T⟩⟩
theorem NI.step {B:Nat}{T' : Tab}{D:List Nat}{w w' : World}{Y Y' : Nat->Prop}{σ σ' : Sg}{qs:List PV}{us:List Value}{st st' : St}{T : Nat}(h:NI B D w Y)(hs:FW w Y σ st)(H' : SW (yS T' w Y σ st) w' Y' σ' qs us st' T):NI B D w' Y' :=
 ⟨h.1,λr hr=>by
  obtain⟨h0,h1,h2⟩:=h.2 r hr;obtain⟨I,J⟩:=H'.kept hs h2 ⟨λ_ _ e=>bD,λ_ _ e=>bD⟩
  grind⟩
def NNs (st:St):Prop:=∀ b sz rows,iV st b≠some (.lN sz rows)
def ahm (P:Program)(T:Tab)(all:Array Oper)(o:Oper)(er:List PV)(lk:Nat->Option lW)(id m:Nat)(v:PV)(δ:Dl):Prop := ∀ (C:Ctx T) ps Y σ (a:Act) w st n,(∀ t∈o.looksAt all,ji ps t=ji er t)->SW C w Y σ ps a.tmps.toList st n->NNs st->(∀ b x,lk b=some x->iV st b=some x) -> (∀ b,id<=b->b<id+m->σ b=none/\iV st b=none)->T.qc<=id->id+m<=n->∀ next Q,(∀ cv w' Y' σ' st',SW C w' Y' σ' ps a.tmps.toList st' n->(∀ b,iV st' b=(match lG δ b with|some x=>x|none=>iV st b)) -> (∀ b,(b<id\/id+m<=b)->σ' b=σ b)->Rep w' Y' σ' v cv->(∀ B D,NI B D w Y->NI B D w' Y')->next (a.put o.dst cv) w')->o.wp P a w next Q
def amv (T:Tab)(all:Array Oper)(o:Oper)(er:List PV)(wb:Bool):Prop := ∀ (C:Ctx T) ps Y σ (a:Act) w st n,(∀ t∈o.looksAt all,ji ps t=ji er t)->SW C w Y σ ps a.tmps.toList st n->Region.wanted o (yielded all a.tmps)=wb
structure adl (P:Program)(T:Tab)(all:Array Oper)(o:Oper)(r:Rec)(p:List PV)(st:St)(nx m:Nat):Prop where
 id:r.id=nx
 gd:amv T all o p r.wb
 sem:r.wb=true->ahm P T all o p r.lk nx m r.v r.δ
 skip:r.wb=false->r.v=.undef/\r.δ=[]
 lk:∀ b x,r.lk b=some x->iV st b=some x
 key:∀ b,lG r.δ b≠none->(nx<=b/\b<nx+m)\/iV st b≠none
 nn:∀ b sz rows,lG r.δ b≠some (some (.lN sz rows))
def ChF (P:Program)(T:Tab)(all:Array Oper):List Oper->List Rec->List PV->St->Nat->List PV->St->Nat->Prop
 | [],[],p,st,nx,f,stf,nxf=>p=f/\st=stf/\nx=nxf
 | o::l,r::rs,p,st,nx,f,stf,nxf=>∃ m,adl P T all o r p st nx m/\ChF P T all l rs (Dy p o.dst r.v) (jr r.δ st) (nx+m) f stf nxf
 | _,_,_,_,_,_,_,_=>False
theorem Z4 {a b:Bool}(h:(a&&b)=true):a=true/\b=true:=by grind
theorem Rt:∀ (l:List Nat) (b:Nat),XY l b=true↔b∈l
 | [],b=>by simp;rfl
 | c::l,b=>by
  have e:XY (c::l) b=Bool.rec (motive:=λ_=>Bool) (XY l b) true (Nat.beq c b):=rfl;rw[e]
  by_cases h:c=b
  subst h;simp
  rw[Wx h];show XY l b=true↔_;rw[Rt l b];simp[Ne.symm h]
section
variable {P:Program}{T:Tab}
theorem SW.Ru {C:Ctx T}{w:World}{Y:Nat->Prop}{σ:Sg}{ps:List PV}{vs:List Value}{st:St}{n:Nat}(H:SW C w Y σ ps vs st n)(J:NNs st):SW (yS T w Y σ st) w Y σ ps vs st n :=
 ⟨H.vals,H.store,H.next,H.wB,λ_ h=>h.1,λk h=>⟨H.wB k h.1,h.2⟩,λk h _=>by
  by_cases hi:Ff σ st k
  exact .inr ⟨h,hi⟩
  exact .inl ⟨h,hi⟩,Nz.refl _ w,λb x l h1 h2=>.inr ⟨b,x,l,h1,h2,rfl⟩,H.xG,⟨H.fix.1,λ_ _=>rfl⟩,BB.none J⟩
theorem SW.KH {C:Ctx T}{w w' : World}{Y Y' : Nat->Prop}{σ σ' : Sg}{ps qs:List PV}{vs us:List Value}{st st' : St}{n I : Nat}(H:SW C w Y σ ps vs st n)
  (H' : SW (yS T w Y σ st) w' Y' σ' qs us st' I):SW C w' Y' σ' qs us st' I:=by
 have excl:∀ k,k<w.heap.size->Y' k->Y k:=by
  intro k hk hy;rcases H'.xE k hy hk with h|h
  exact h.1
  exact h.1
 have away:∀ k,C.Y0 k->¬ Ff σ st k:=λk hk ⟨b,x,l,h1,h2,h3⟩=>H.away h1 h2 (h3 ▸ hk)
 have old:∀ k,(w.heap.size<=k\/Ff σ st k)->C.w0.heap.size<=k\/C.L k:=λk h=>by
  rcases h with h|⟨b,x,l,h1,h2,h3⟩
  exact .inl (Nat.le_trans H.qo.size h)
  rw[<- h3];exact H.own b x l h1 h2
 refine⟨H'.vals,H'.store,H'.next,H'.wB,λk hk=>H'.y0 k ⟨H.y0 k hk,away k hk⟩,H.c0,λk hk J=>H.xE k (excl k (Nat.lt_of_lt_of_le J H.qo.size) hk) J,?_,λb x l h1 h2=>old _ (H'.own b x l h1 h2),H'.xG,⟨H'.fix.1,λb t=>?_⟩,?_⟩
 refine⟨by rw[H'.qo.os];exact H.qo.os,by rw[H'.qo.tape];exact H.qo.tape,by rw[H'.qo.output];exact H.qo.output,Nat.le_trans H.qo.size H'.qo.size,λk hk hM=>?_⟩;rw[H'.qo.block k (Nat.lt_of_lt_of_le hk H.qo.size) λh=>?_]
 exact H.qo.block k hk hM
 obtain⟨h1,h2⟩:=h;rcases H.xE k h1 hk with h3|h3<;>grind
 rw[H'.fix.2 b t];exact H.fix.2 b t
 exact⟨H'.nest.rep,λb r c h sz g k=>old _ (H'.nest.old b r c h sz g k),H'.nest.one,H'.nest.sep⟩
def ali (r:Rec)(tc:Tc):Prop:=(∀ b,r.lk b≠none->b∈tc.1)/\(∀ b,lG r.δ b≠none->b∈tc.2.2)/\(∀ b∈tc.2.2,b∈tc.2.1)
theorem TY:∀ (l m:List Nat),meets l m=true↔∃ b,b∈l/\b∈m
 | [],m=>by
  constructor;· intro h;cases h
  grind
 | c::l,m=>by
  have e:meets (c::l) m=Bool.rec (motive:=λ_=>Bool) (meets l m) true (XY m c):=rfl;rw[e]
  cases hc:XY m c with
  | true=>exact⟨λ_=>⟨c,by simp,(Rt _ _).1 hc⟩,λ_=>rfl⟩
  | false=>
   show meets l m=true↔_;rw[TY l m];constructor
   grind
   rintro⟨b,h1,h2⟩
   rcases List.mem_cons.1 h1 with rfl|h1
   grind[Rt]
   grind
theorem YL {B:List (List Nat)}{i:Nat}{x:Tc}:∀ (l:List Tc) (k:Nat),agR B i x l k=true->∀ (j:Nat) (y:Tc),l[j]?=some y->pairT B i (k+j) x y=true
 | [],k,h,j,y,hj=>by simp at hj
 | z::l,k,h,0,y,hj=>by
  simp_all[agR]
 | z::l,k,h,j+1,y,hj=>by
  unfold agR at h;have:=YL l (k+1) (Z4 h).2 j y dK
  grind
theorem YM {B:List (List Nat)}:∀ (l:List Tc) (i:Nat),afA B l i=true->∀ (a b:Nat) (x y:Tc),a<b->l[a]?=some x->l[b]?=some y->pairT B (i+a) (i+b) x y=true
 | [],i,h,a,b,x,y,_,ha,_=>by simp at ha
 | z::l,i,h,0,b+1,x,y,_,ha,hb=>by
  simp at ha;subst ha;unfold afA at h;have:=YL l (i+1) (Z4 h).1 b y (by simpa using hb)
  grind
 | z::l,i,h,a+1,b+1,x,y,hab,ha,hb=>by
  unfold afA at h;have:=YM l (i+1) (Z4 h).2 a b x y ae (by simpa using ha) (by simpa using hb)
  grind
 | z::l,i,h,_,0,x,y,hab,_,_=>by omega
theorem adm {all:Array Oper}{i k:Nat}{I J:Rec}{x y:Tc}(T:ali I x)(hy:ali J y)(h:pairT (Wn all.toList []) i k x y=true)
  (hc:∃ b,(lG I.δ b≠none/\(J.lk b≠none\/lG J.δ b≠none))\/(I.lk b≠none/\lG J.δ b≠none)):Bef all i k:=by
 have key:(meets x.2.2 y.1 || (meets x.2.2 y.2.2 || meets y.2.2 x.1))=true:=by
  obtain⟨b,h1⟩:=hc;simp only[Bool.or_eq_true,TY];rcases h1 with ⟨h1,h2|h2⟩|⟨h1,h2⟩
  exact .inl ⟨b,T.2.1 b h1,hy.1 b h2⟩
  exact .inr (.inl ⟨b,T.2.1 b h1,hy.2.1 b h2⟩)
  exact .inr (.inr ⟨b,hy.2.1 b h2,T.1 b h1⟩)
 have sup:(meets x.2.1 y.1 || (meets x.2.1 y.2.1 || meets y.2.1 x.1))=true:=by
  simp only[Bool.or_eq_true,TY] at key |-;rcases key with ⟨b,h1,h2⟩|⟨b,h1,h2⟩|⟨b,h1,h2⟩
  exact .inl ⟨b,T.2.2 b h1,h2⟩
  exact .inr (.inl ⟨b,T.2.2 b h1,hy.2.2 b h2⟩)
  exact .inr (.inr ⟨b,hy.2.2 b h1,h2⟩)
 unfold pairT at h;rw[sup,key] at h;simp only at h
 have h:XY (DD (Wn all.toList []) k) i=true:=by
  cases C:XY (DD (Wn all.toList []) k) i with
  | true=>rfl
  | false=>rw[C] at h;cases h
 grind[LK,DD,Rt]
theorem Gg {all:Array Oper}(h:Hq all all.toList 0=true){i:Nat}{o:Oper}(hi:all[i]?=some o) :
  (∀ e∈o.after,Region.binds .any e=true->e.on<i)/\∀ (j:Nat) (p:Oper),all[j]?=some p->j≠i->∀ d,p.dst=some d->o.dst≠some d /\
   (d∈o.looksAt all->(∃ e∈o.after,Region.binds .any e=true/\e.on=j)\/(∃ e∈p.after,Region.binds .any e=true/\e.on=i)):=by
 obtain⟨h1,h2⟩:=NS all.toList 0 h i o bH;rw[Nat.zero_add] at h1 h2;refine⟨h1,λj p t T d C=>?_⟩;have:=h2 j p t;have I:Nat.beq i j=false:=Wx λe=>T e.symm;simp only[Wi,I,C,Bool.false_or,Bool.and_eq_true,Bool.or_eq_true,bne_iff_ne,ne_eq,Bool.not_eq_true',List.contains_eq_mem,decide_eq_false_iff_not] at this;refine⟨this.1,λhm=>?_⟩;rcases this.2 with (hh|hh)|hh
 grind
 obtain⟨e,g,J⟩:=Array.any_eq_true'.1 hh;simp only[Bool.and_eq_true] at J
 grind[Nat.eq_of_beq_eq_true]
 obtain⟨e,g,J⟩:=Array.any_eq_true'.1 hh;simp only[Bool.and_eq_true] at J
 grind[Nat.eq_of_beq_eq_true]
theorem ChF.len {all:Array Oper}:∀ (l:List Oper) (rs:List Rec) {p:List PV} {st:St} {nx:Nat} {f:List PV} {I:St} {J:Nat},ChF P T all l rs p st nx f I J->rs.length=l.length/\f.length=p.length/\nx<=J
 | [],[],_,_,_,_,_,_,h=>⟨rfl,by rw[h.1],by rw[h.2.2];grind⟩
 | o::l,r::rs,_,_,_,_,_,_,⟨m,h,h'⟩=>by
  obtain⟨h1,h2,C⟩:=ChF.len l rs h'
  grind[vZ]
 | [],_::_,_,_,_,_,_,_,h=>h.elim
 | _::_,[],_,_,_,_,_,_,h=>h.elim
theorem ChF.keep {all:Array Oper}{t:Nat}:∀ (l:List Oper) (rs:List Rec) {p:List PV} {st:St} {nx:Nat} {f:List PV} {J:St} {I:Nat},ChF P T all l rs p st nx f J I->(∀ o∈l,o.dst≠some t)->ji p t=ji f t
 | [],[],_,_,_,_,_,_,h,_=>by rw[h.1]
 | o::l,r::rs,_,_,_,_,_,_,⟨m,h,h'⟩,hn=>by
  have:=ChF.keep l rs h' λo ho=>hn o (by simp[ho])
  grind[Ej]
 | [],_::_,_,_,_,_,_,_,h,_=>h.elim
 | _::_,[],_,_,_,_,_,_,h,_=>h.elim
def idA (rs:List Rec)(nxf:Nat)(i:Nat):Nat:=match rs[i]? with|some r=>r.id|none=>nxf
theorem ChF.get {all:Array Oper}:∀ (l:List Oper) (rs:List Rec) {p:List PV} {st:St} {nx:Nat} {f:List PV} {I:St} {J:Nat},ChF P T all l rs p st nx f I J->∀ (i:Nat) (o:Oper),l[i]?=some o ->
  ∃ r q m,rs[i]?=some r/\q.length=p.length/\adl P T all o r q (BD rs st i) (idA rs J i) m/\idA rs J (i+1)=idA rs J i+m/\nx<=idA rs J i /\
   (∀ t,(∀ j oj,j<i->l[j]?=some oj->oj.dst≠some t)->ji p t=ji q t) /\
   (∀ t,(∀ j oj,i<=j->l[j]?=some oj->oj.dst≠some t)->ji q t=ji f t) /\
   (∀ d,o.dst=some d->d<p.length->(∀ j oj,i<j->l[j]?=some oj->oj.dst≠some d)->r.v=ji f d)
 | [],_,_,_,_,_,_,_,_,i,o,hi=>by simp at hi
 | _::_,[],_,_,_,_,_,_,h,_,_,_=>h.elim
 | o'::l,r::rs,p,st,nx,f,I,J,⟨m,h1,h6⟩,0,o,hi=>by
  simp at hi;subst hi;have hid:idA (r::rs) J 0=nx:=by simp[idA,h1.id]
  have g:idA (r::rs) J 1=nx+m:=by
   cases l with
   | nil=>cases rs with
    | nil=>simp[idA,h6.2.2]
    | cons _ _=>exact h6.elim
   | cons o2 l=>cases rs with
    | nil=>exact h6.elim
    | cons r2 rs=>obtain⟨m2,h7,_⟩:=h6;simp[idA,h7.id]
  refine⟨r,p,m,rfl,rfl,by rw[hid];exact h1,by rw[hid,g],by grind,λt _=>rfl,λt C=>?_,λd hd hlt hn=>?_⟩
  have hk:=ChF.keep l rs h6 (t:=t) λo ho=>by
   grind[List.getElem?_of_mem]
  rw[Ej (C 0 o' ae aj)] at hk;exact hk
  have hk:=ChF.keep l rs h6 (t:=d) λo ho=>by
   obtain⟨j,hj⟩:=List.getElem?_of_mem ho;exact hn (j+1) o ae dK
  simp_all[Dy,yT]
 | o'::l,r::rs,p,st,nx,f,I,J,⟨m,h1,h6⟩,i+1,o,hi=>by
  obtain⟨r',q,m',a0,a1,a2,a3,a4,a6,a7,a8⟩:=ChF.get l rs h6 i o bH;have hl:(Dy p o'.dst r.v).length=p.length:=by rw[vZ]
  have e1:∀ j,idA (r::rs) J (j+1)=idA rs J j:=λj=>by simp[idA]
  refine⟨r',q,m',by simpa using a0,by rw[a1,hl],by rw[e1];exact a2,by grind,by rw[e1];omega,λt C=>?_,λt C=>?_,λd hd hlt hn=>?_⟩
  have hk:=a6 t λj oj hj hoj=>C (j+1) oj ae dh;rw[Ej (C 0 o' ae aj)] at hk;exact hk
  exact a7 t λj oj hj hoj=>C (j+1) oj ae dh
  exact a8 d hd ai λj oj hj hoj=>hn (j+1) oj ae dh
theorem ChF.fin {all:Array Oper}:∀ (l:List Oper) (rs:List Rec) {p:List PV} {st:St} {nx:Nat} {f:List PV} {J:St} {I:Nat},ChF P T all l rs p st nx f J I->J=BD rs st rs.length
 | [],[],_,_,_,_,_,_,h=>h.2.1.symm
 | o::l,r::rs,_,_,_,_,_,_,⟨m,h,h'⟩=>ChF.fin l rs h'
 | [],_::_,_,_,_,_,_,_,h=>h.elim
 | _::_,[],_,_,_,_,_,_,h=>h.elim
structure LP (P:Program)(T:Tab)(all:Array Oper)(rs:List Rec)(p:List PV)(st:St)(nx:Nat)(f:List PV)(n:Nat):Prop where
 chk:Hq all all.toList 0=true
 len:rs.length=all.size
 get:∀ (i:Nat) (o:Oper),all[i]?=some o->∃ r q m,rs[i]?=some r/\q.length=p.length/\adl P T all o r q (BD rs st i) (idA rs n i) m/\idA rs n (i+1)=idA rs n i+m/\nx<=idA rs n i /\
   (∀ t,(∀ j oj,j<i->all[j]?=some oj->oj.dst≠some t)->ji p t=ji q t) /\
   (∀ t,(∀ j oj,i<=j->all[j]?=some oj->oj.dst≠some t)->ji q t=ji f t) /\
   (∀ d,o.dst=some d->d<p.length->(∀ j oj,i<j->all[j]?=some oj->oj.dst≠some d)->r.v=ji f d)
 ajD:f.length=p.length
 keep:∀ t,(∀ o∈all.toList,o.dst≠some t)->ji p t=ji f t
 old:∀ b,nx<=b->iV st b=none
 clash:∀ (i k:Nat) (ri rk:Rec),i<k->rs[i]?=some ri->rs[k]?=some rk->(∃ b,(lG ri.δ b≠none/\(rk.lk b≠none\/lG rk.δ b≠none))\/(ri.lk b≠none/\lG rk.δ b≠none))->Bef all i k
theorem LP.oper {all:Array Oper}{rs:List Rec}{p:List PV}{st:St}{nx:Nat}{f:List PV}{n:Nat}(F:LP P T all rs p st nx f n){k:Nat}{J:Rec}(h:rs[k]?=some J):∃ ok,all[k]?=some ok:=by
 have:k<all.size:=by
  rw[<- F.len]
  grind
 simp_all
theorem LP.mono {all:Array Oper}{rs:List Rec}{p:List PV}{st:St}{nx:Nat}{f:List PV}{n:Nat}(F:LP P T all rs p st nx f n):∀ {i j:Nat},i<=j->j<=all.size->idA rs n i<=idA rs n j:=by
 intro i j h
 induction h with
 | refl=>grind
 | step h ih=>
  rename_i m;intro I;have h1:=ih ae;obtain⟨r,q,J,_,_,_,h2,_⟩:=F.get m _ (Array.getElem?_eq_getElem ae);rw[h2];omega
theorem LP.dom {all:Array Oper}{rs:List Rec}{p:List PV}{st:St}{nx:Nat}{f:List PV}{n:Nat}(F:LP P T all rs p st nx f n){j:Nat}{rj:Rec}(hj:rs[j]?=some rj){b:Nat}(h1:idA rs n j<=b)(h2:b<idA rs n (j+1)):∀ i,i<=all.size->iV (BD rs st i) b≠none->j<i/\lG rj.δ b≠none:=by
 have t:j<all.size:=by
  obtain⟨o,ho⟩:=F.oper hj
  grind
 intro i
 induction i with
 | zero=>
  intro _ h
  exfalso
  obtain⟨_,_,_,_,_,_,_,h3,_⟩:=F.get j _ (Array.getElem?_eq_getElem t);have C:=F.old b ae
  grind[BD]
 | succ i ih=>
  intro hi h;obtain⟨I,q,m,g,_,O,hm,_⟩:=F.get i _ (Array.getElem?_eq_getElem ae)
  have J:∀ (rs:List Rec) (st:St) (i:Nat) (I:Rec),rs[i]?=some I->BD rs st (i+1)=jr I.δ (BD rs st i):=by
   intro rs
   induction rs with
   | nil=>grind
   | cons r rs ih=>
    intro st i I h;cases i<;>simp_all[BD]
  rw[J rs st i I g,yV] at h
  have old:iV (BD rs st i) b≠none->j<i+1/\lG rj.δ b≠none:=λh=>by
   grind
  cases hl:lG I.δ b with
  | none=>grind
  | some x=>
   rcases O.key b (by rw[hl];simp) with h3|h3
    
   have hij:i=j:=by
    rcases Nat.lt_trichotomy i j with C|C|C
    have:=F.mono (i:=i+1) (j:=j) ae ae;omega
    exact C
    have:=F.mono (i:=j+1) (j:=i) ae ae;omega
   grind
   exact old h3
def Z5 {T:Tab}(C:Ctx T)(all:Array Oper)(rs:List Rec)(st:St)(n:Nat)(p f:List PV)(D:List Nat)(dl:List Deferred)(listed:Array Bool)(a:Act)(w:World):Prop := a.defers=dl/\∃ Y σ ps stx,SW C w Y σ ps a.tmps.toList stx n/\ps.length=p.length /\ (∀ j o t,all[j]?=some o->o.dst=some t->listed.getD j true=true->ji ps t=ji f t) /\ (∀ t,(∀ j o,all[j]?=some o->o.dst=some t->listed.getD j true=false)->ji ps t=ji p t) /\ (∀ b,iV stx b=orS st b (lst rs (λk=>listed.getD k true) 0 b)) /\ (∀ j,j<all.size->listed.getD j true=false->∀ b,idA rs n j<=b->b<idA rs n (j+1)->σ b=none)/\NI C.w0.heap.size D w Y/\NNs stx
theorem abU {nx:Nat}(hpas:T.qc<=nx){C:Ctx T}{all:Array Oper}{rs:List Rec}{st:St}{n:Nat}{p f:List PV}{D:List Nat}{dl:List Deferred}(F:LP P T all rs p st nx f n){listed:Array Bool}{a:Act}{w:World}
  (hsz:listed.size=all.size) (hclosed:∀ j o,all[j]?=some o->listed.getD j true=true->∀ e∈o.after,Region.binds .any e=true->listed.getD e.on true=true)
  (hs:Z5 C all rs st n p f D dl listed a w) {i:Nat} (hr:i∈Region.ready .any all listed) {Q:Exit->Act->World->Prop} {K:Act->World->Prop}
  (hK:∀ a' w',Z5 C all rs st n p f D dl (listed.setIfInBounds i true) a' w'->K a' w'):wpOp P all Q i K a w:=by
 obtain⟨hun,o,ho,hall⟩:=mem_ready.1 hr;obtain⟨hd,Y,σ,ps,stx,H,hlen,hdone,hrest,hst,hfree,hD,hnn⟩:=hs
 have hilt:i<listed.size:=by
  grind
 obtain⟨r,q,m,hri,qlen,O,hm,hnx,h6,h7,h8⟩:=F.get i o ho;have hspec:=Gg F.chk ho
 have hall' : ∀ e∈o.after,Region.binds .any e=true->listed.getD e.on true=true:=by
  grind
 have befIn:∀ k,Bef all k i->listed.getD k true=true:=λk h=>h.ready hclosed o ho hall'
 have g:∀ k,Bef all i k->listed.getD k true=false:=λk h=>by
  cases hk:listed.getD k true with
  | false=>rfl
  | true=>have:=h.listed hclosed hk;rw[hun] at this;cases this
 have look:∀ t∈o.looksAt all,ji ps t=ji q t:=by
  intro t ht
  by_cases hex:∃ j pj,all[j]?=some pj/\j≠i/\pj.dst=some t
  obtain⟨j,pj,hj,hne,hdst⟩:=hex;obtain⟨hdd,hor⟩:=hspec.2 j pj hj hne t hdst
  have uniq:∀ k pk,all[k]?=some pk->pk.dst=some t->k=j:=by
   intro k pk hk hkd
   by_cases hkj:k=j
   exact hkj
   exact absurd hkd ((Gg F.chk hk).2 j pj hj (Ne.symm hkj) t hdst).1
  rcases hor ht with ⟨e,he,hb,heq⟩|⟨e,he,hb,heq⟩
  grind
  have hij:i<j:=by rw[<- heq];exact(Gg F.chk hj).1 e he hb
  grind
  grind
 have hlk:∀ b x,r.lk b=some x->iV stx b=some x:=by
  intro b x hb;have c1:=O.lk b x hb;rw[hst b,<- c1,O4 rs st i 0 b]
  congr 1
  refine Bd _ _ _ _ _ λk rk J hkb=>?_;rw[Nat.zero_add,Nat.zero_add];rcases Nat.lt_trichotomy k i with hki|hki|hki
  simp only[hki,decide_true];exact befIn k (F.clash k i rk r hki J hri ⟨b,.inl ⟨hkb,.inl (by rw[hb];simp)⟩⟩)
  grind
  have:¬ k<i:=by omega
  simp only[this,decide_false];exact g k (F.clash i k r rk hki hri J ⟨b,.inr ⟨by rw[hb];simp,hkb⟩⟩)
 have hisz:i<all.size:=by omega
 have hwin:∀ b,idA rs n i<=b->b<idA rs n i+m->σ b=none/\iV stx b=none:=by
  intro b h1 h2;refine⟨hfree i hisz hun b h1 (by rw[hm];exact h2),?_⟩;rw[hst b]
  have hno:lst rs (λk=>listed.getD k true) 0 b=none:=by
   refine KG _ _ _ _ λk rk J hlk=>?_;rw[Nat.zero_add] at hlk
   cases hx:lG rk.δ b with
   | none=>rfl
   | some x=>
    exfalso
    obtain⟨ok,hok⟩:=F.oper J;obtain⟨rk',_,mk,hrk',_,hSk,hmk,_⟩:=F.get k ok hok;rw[J] at hrk';cases hrk'
    have hksz:k<all.size:=by
     grind
    rcases hSk.key b (by rw[hx];simp) with h3|h3
    have:k=i:=by
     rcases Nat.lt_trichotomy k i with h4|h4|h4
     have:=F.mono (i:=k+1) (j:=i) ae ae;omega
     exact h4
     have:=F.mono (i:=i+1) (j:=k) ae ae;omega
    grind
    obtain⟨h4,h5⟩:=F.dom hri h1 (by rw[hm];exact h2) k ae h3;have:=g k (F.clash i k r rk h4 hri J ⟨b,.inl ⟨h5,.inr (by rw[hx];simp)⟩⟩);rw[hlk] at this;cases this
  rw[hno];exact F.old b ae
 have lastOut:∀ b,lG r.δ b≠none->∀ (k:Nat) (rk:Rec),i<k->rs[k]?=some rk->listed.getD k true=true->lG rk.δ b=none:=by
  intro b hb k rk hik J hlk
  cases hkb:lG rk.δ b with
  | none=>rfl
  | some x=>
   have:=g k (F.clash i k r rk hik hri J ⟨b,.inl ⟨hb,.inr (by rw[hkb];simp)⟩⟩);rw[hlk] at this;cases this
 have setD:∀ k,(listed.setIfInBounds i true).getD k true=(if k=i then true else listed.getD k true):=by
  intro k
  by_cases hki:k=i<;>simp_all[Ne.symm]
 have newSt:∀ I:St,(∀ b,iV I b=(match lG r.δ b with|some x=>x|none=>iV stx b))->∀ b,iV I b=orS st b (lst rs (λk=>(listed.setIfInBounds i true).getD k true) 0 b):=by
  intro I hstn b;rw[hstn b]
  cases hb:lG r.δ b with
  | none=>
   rw[hst b]
   congr 1
   refine Bd _ _ _ _ _ λk rk J hkb=>?_
   grind
  | some x=>
   rw[WT rs _ 0 i b r x hri (by rw[Nat.zero_add,setD,if_pos rfl]) hb λk rk hik J hlk=>?_]
   rfl
   grind
 have after:∀ cv w' Y' σ' qs I,(qs.length=ps.length/\∀ t,ji qs t=ji ps t)->SW C w' Y' σ' qs a.tmps.toList I n->(∀ b,iV I b=(match lG r.δ b with|some x=>x|none=>iV stx b)) ->
   (∀ b,(b<idA rs n i\/idA rs n i+m<=b)->σ' b=σ b)->Rep w' Y' σ' r.v cv->NI C.w0.heap.size D w' Y'->K (a.put o.dst cv) w':=by
  intro cv w' Y' σ' qs I hq H' hstn hoff hv hD';refine hK _ _ ⟨by rw[put_defers];exact hd,Y',σ',Dy qs o.dst r.v,I,H'.Dy hv o.dst,by rw[vZ,hq.1,hlen],?_,?_,newSt I hstn,?_,hD',λb sz rows hb=>?_⟩
  intro j oj t hj hdst hlj;rw[HY hun] at hlj
  by_cases hji:j=i
  subst hji;rw[ho] at hj;cases hj
  by_cases hlt:t<qs.length
  rw[hdst];simp only[Dy,yT]
  grind
  exact(Ei (by rw[vZ];exact Nat.le_of_not_lt hlt)).trans (Ei (by rw[F.ajD,<- hlen,<- hq.1];exact Nat.le_of_not_lt hlt)).symm
  grind[Ej]
  intro t ht
  have hne:o.dst≠some t:=λe=>by
   grind
  grind[Ej]
  intro j hj hlj b hb1 hb2;rw[setD] at hlj
  by_cases hji:j=i
  rw[if_pos hji] at hlj;cases hlj
  rw[if_neg hji] at hlj;rw[hoff b ?_];· exact hfree j hj hlj b hb1 hb2
  rcases Nat.lt_or_ge i j with hij|hij
  right;have:=F.mono (i:=i+1) (j:=j) ae ae;omega
  left;have:=F.mono (i:=j+1) (j:=i) ae ae;omega
  rw[hstn b] at hb
  cases hx:lG r.δ b with
  | none=>rw[hx] at hb;exact hnn b sz rows hb
  | some x=>rw[hx] at hb;simp only at hb;subst hb;exact O.nn b sz rows hx
 have q1:ji (patch (o.looksAt all) q ps)=ji ps:=by
  grind[TW,Ei,LM]
 have l1:q.length=ps.length:=by rw[qlen,hlen]
 have hwb:=O.gd C _ Y σ a w stx n look H;unfold wpOp;simp only[ho]
 cases hw:r.wb with
 | true=>
  rw[hw] at hwb;rw[if_pos hwb]
  have hle:idA rs n i+m<=n:=by
   rw[<- hm];have:=F.mono (i:=i+1) (j:=all.size) ae (Nat.le_refl _);have e:idA rs n all.size=n:=by simp[idA,List.getElem?_eq_none (Nat.le_of_eq F.len)]
   omega
  exact .inl (O.sem hw C _ Y σ a w stx n look H hnn hlk hwin (Nat.le_trans hpas hnx) hle K Q λcv w' Y' σ' st' H' hst' hoff hv hD'=>after cv w' Y' σ' ps st' ⟨rfl,λ_=>rfl⟩ H' hst' hoff hv (hD' _ D hD))
 | false=>
  rw[hw] at hwb;rw[if_neg (by rw[hwb];simp)];obtain⟨e1,e2⟩:=O.skip hw;exact after _ w Y σ ps stx ⟨rfl,λ_=>rfl⟩ H (λb=>by rw[e2];rfl) (λ_ _=>rfl) (by rw[e1];simp[Rep]) hD
theorem WY {all:Array Oper}(T:Hq all all.toList 0=true){listed:Array Bool}(hsz:listed.size=all.size)(hr:Region.ready .any all listed=[]):∀ j,listed.getD j true=true:=by
 intro j
 induction j using Nat.strongRecOn with
 | _ j ih=>
  cases h:listed.getD j true with
  | true=>rfl
  | false=>
   have J:j<listed.size:=by
    grind
   have hj:all[j]?=some all[j]:=Array.getElem?_eq_getElem ae
   have:j∈Region.ready .any all listed:=mem_ready.2 ⟨h,_,hj,λe C I=>by
    grind[Gg]⟩
   grind
theorem afP {nx:Nat}(hpas:T.qc<=nx){C:Ctx T}{all:Array Oper}{rs:List Rec}{st:St}{n:Nat}{p f:List PV}{D:List Nat}{dl:List Deferred}(F:LP P T all rs p st nx f n){Q:Exit->Act->World->Prop}
  (hQ:∀ a w Y σ stx,a.defers=dl->SW C w Y σ f a.tmps.toList stx n->(∀ b,iV stx b=iV (BD rs st rs.length) b)->NI C.w0.heap.size D w Y->Q .normal a w):∀ (fuel:Nat) (listed:Array Bool) (a:Act) (w:World),listed.size=all.size->listed.toList.count false=fuel ->
   (∀ j o,all[j]?=some o->listed.getD j true=true->∀ e∈o.after,Region.binds .any e=true->listed.getD e.on true=true) ->
   Z5 C all rs st n p f D dl listed a w->wpAny P .any all Q fuel listed a w:=by
 have fin:∀ (listed:Array Bool) (a:Act) (w:World),listed.size=all.size->Z5 C all rs st n p f D dl listed a w->Region.ready .any all listed=[]->Q .normal a w:=by
  intro listed a w hsz hs hr;have hl:=WY F.chk hsz hr;obtain⟨hd,Y,σ,ps,stx,H,hlen,hdone,g,hst,_,hD,_⟩:=hs
  have hpf:∀ t,ji ps t=ji f t:=by
   intro t
   by_cases hex:∃ (j:Nat) (o:Oper),all[j]?=some o/\o.dst=some t
   grind
   rw[g t λj o hj I=>absurd ⟨j,o,hj,I⟩ hex];refine F.keep t λo ho I=>?_
   grind[List.getElem?_of_mem]
  have heq:BC ps f:=⟨by rw[hlen,F.ajD],λt=>by grind[Eqv.refl]⟩;refine hQ a w Y σ stx hd (H.rH (H.vals.eqv heq)) (λb=>?_) hD;rw[hst b,O4 rs st rs.length 0 b]
  congr 1
  refine Bd _ _ _ _ _ λk rk hrk _=>?_
  grind
 intro fuel
 induction fuel with
 | zero=>
  intro listed a w hsz hc J hs
  have hr:Region.ready .any all listed=[]:=by
   rw[List.eq_nil_iff_forall_not_mem];intro i hi;have hun:=(mem_ready.1 hi).1
   have hlt:i<listed.size:=by
    grind
   have hget:listed[i]=false:=by simpa [hlt] using hun
   grind[List.count_eq_zero]
  exact⟨hr,fin listed a w hsz hs hr⟩
 | succ fuel ih=>
  intro listed a w hsz hc J hs;refine⟨fin listed a w hsz hs,λi hi=>?_⟩;have hun:=(mem_ready.1 hi).1;refine abU hpas F hsz J hs hi λa' w' hs'=>ih _ a' w' (by simpa using hsz) (count_set hun hc) ?_ hs'
  grind[HY,mem_ready]
theorem ql:∀ (st:St),lF st=true->NNs st
 | [],_,b,sz,rows,h=>by simp[iV] at h
 | (c,x)::st,h,b,sz,rows,hb=>by
  have h1:lF st=true/\∀ sz rows,x≠some (.lN sz rows):=by
   cases x with
   | none=>grind[lF]
   | some y=>cases y<;>simp_all[lF]
  simp only[iV] at hb
  cases hc:Nat.beq c b with
  | true=>grind
  | false=>rw[hc] at hb;exact ql st h1.1 b sz rows hb
theorem O5:∀ (l:List Nat) (b:Nat),zn l b=true↔b∈l
 | [],b=>by simp[zn]
 | c::l,b=>by
  simp only[zn]
  cases hc:Nat.beq c b with
  | true=>simp_all
  | false=>
   have:¬ b=c:=λe=>by simp_all
   simp[O5 l b,this]
theorem abV {st:St}{nx:Nat}:∀ (δ:Dl),okG st nx δ=true->(∀ b,lG δ b≠none->b=nx\/iV st b≠none)/\(∀ b sz rows,lG δ b≠some (some (.lN sz rows)))/\∀ b,lG δ b≠none->b∈Ht δ
 | [],_=>⟨λb h=>absurd rfl h,λb sz rows (h:(none:Option (Option lW))=some (some (.lN sz rows)))=>bW,λb h=>absurd rfl h⟩
 | (c,x)::δ,h=>by
  simp only[okG,Bool.and_eq_true,Bool.or_eq_true] at h;obtain⟨h1,h2,T⟩:=h;obtain⟨g1,g2,g3⟩:=abV δ T
  grind[lG,Nat.eq_of_beq_eq_true,Ht]
theorem ahn (hT:iZ P T)(hW:DR P){all:Array Oper}{o:Oper}{ps:List PV}{lk:Nat->Option lW}{id:Nat}{v:PV}{δ:Dl}(hF:∀ K' : PV->Dl->Prop,K' v δ->oH T (iq.jq P T) o.op ps lk id K'):ahm P T all o ps lk id 1 v δ:=by
 intro C qs Y σ a w st n hl H hn hlk hwin hpas hle next Q I
 have H2:=H.Ru hn;have h4:=hF (λv' t=>v'=v/\t=δ) ⟨rfl,rfl⟩;rw[<- TR (yU hl)] at h4;obtain⟨v',t,cv,w',Y',σ',⟨rfl,rfl⟩,J,H',hrep,g⟩:=Ac hT hW H2 hlk ⟨(hwin id (Nat.le_refl _) ae).1,hpas⟩ h4;have hni:ve t n id<=n:=by cases t<;>simp[ve]<;>omega
 have H3:=(H.KH H').mono hni;have:=I cv w' Y' σ' (jr t st) H3 (λb=>yV _ _ _) (λb hb=>g b ae) hrep (λB D hD=>hD.step H.store H');unfold Oper.wp;rcases J with J|⟨J,rfl⟩
 rw[J];exact this
 rw[J];exact this
theorem abW {st:St}{nx:Nat}:∀ (δ:Dl),okH st nx δ=true->(∀ b,lG δ b≠none->(nx<=b/\b<nx+32)\/iV st b≠none)/\(∀ b sz rows,lG δ b≠some (some (.lN sz rows)))/\∀ b,lG δ b≠none->b∈Ht δ
 | [],_=>⟨λb h=>absurd rfl h,λb sz rows (h:(none:Option (Option lW))=some (some (.lN sz rows)))=>bW,λb h=>absurd rfl h⟩
 | (c,x)::δ,h=>by
  simp only[okH,Bool.and_eq_true,Bool.or_eq_true] at h;obtain⟨h1,h2,T⟩:=h;obtain⟨g1,g2,g3⟩:=abW δ T
  grind[lG,Nat.le_of_ble_eq_true,Nat.blt_eq,Ht]
theorem Rw {R:List Nat}{st:St}{b:Nat}{x:lW}(h:lkG R st b=some x):b∈R/\iV st b=some x:=by
 grind[lkG,O5]
theorem alj {R:List Nat}{st:St}{b:Nat}(h:b∈R):lkG R st b=iV st b:=by
 grind[lkG,O5]
theorem adn (hT:iZ P T)(hW:DR P){all:Array Oper}{o:Oper}{f:Operand}{args:Array Operand}{ts:Array TypeId}(ho:o.op=.call { callee:=.value f,args:=args,argTypes:=ts }){ps:List PV}{lk:Nat->Option lW}{id nx:Nat}{K:PV->Prop}
  (h:opQ T (iq.jq P T) (.call { callee:=.value f,args:=args,argTypes:=ts }) ps lk id K):∃ v,ahm P T all o ps lk nx 0 v []/\K v:=by
 unfold opQ at h;simp only at h
 split at h
 rename_i k caps U
 have main:∀ v,(∀ (C:Ctx T) Y σ w qs vs J st n,(∀ b x,lk b=some x->iV st b=some x)->SW C w Y σ qs vs st n->eQ w Y σ (Hm (T.hid k) (vY (evA T ps args.toList) caps)) J->Rl P k C Y σ w J qs vs st n v)->ahm P T all o ps lk nx 0 v []:=by
  intro v hsem C qs Y σ a w st n hl H hn t _ _ _ next Q hnext
  have hev:=yU (T:=T) hl;rw[ho] at hev;have g:=kW H f;rw[hev f bI,U] at g;unfold Rep at g;obtain⟨cs,ef,hcs⟩:=g;have I:=wF H args.toList;rw[DT (ps:=qs) (qs:=ps) args.toList λx hx=>hev x bu] at I;have hall:=GU (T.hid k) _ _ (eQ.app _ _ _ _ I hcs);have H2:=H.Ru hn;obtain⟨hent,hcall⟩:=hsem _ Y σ w qs a.tmps.toList _ st n t H2 (by simpa using hall);unfold Oper.wp;rw[NR ho ef hent];refine Calls.mono hcall λe w' hh=>?_;obtain⟨cv,rfl,H',hv⟩:=hh;exact hnext cv w' Y σ st (H.KH H') (λb=>rfl) (λ_ _=>rfl) hv (λB D hD=>hD.step H.store H')
 unfold agF at h
 split at h
 rename_i as hm;obtain⟨v,hF,hK⟩:=h;refine⟨v,main v λC Y σ w qs vs J st n t H hr=>VK H (λb x hb=>?_) hm hr hF,hK⟩
 split at hb
 rename_i e;cases hb;exact⟨t _ _ e,rfl⟩
 rename_i e;cases hb;exact⟨t _ _ e,rfl⟩
 cases hb
 split at h
 rename_i as hm;obtain⟨v,hF,U,hK⟩:=h
 grind[TL]
 exact h.elim
 exact h.elim
theorem ado (hT:iZ P T)(hW:DR P){all:Array Oper}{o:Oper}{f:Operand}{args:Array Operand}{ts:Array TypeId}(ho:o.op=.call { callee:=.value f,args:=args,argTypes:=ts }){E:Env}{v:PV}{δ:Dl}
  (hF:∀ K' : PV->Dl->Prop,K' v δ->opW T (iq.jq P T) (.call { callee:=.value f,args:=args,argTypes:=ts }) E.tmps (iV E.st) E.st E.next true K'):ahm P T all o E.tmps (lkG (QZ T f args E) E.st) E.next 32 v δ:=by
 intro C qs Y σ a w stn n hl H hn hlk hwin hpas hle next Q hnext
 have t:=hF (λv' δ'=>v'=v/\δ'=δ) ⟨rfl,rfl⟩;unfold opW at t;simp only at t
 split at t
 rename_i k J U;have hev:=yU (T:=T) hl;rw[ho] at hev;have hfv:=kW H f;rw[hev f bI,U] at hfv;unfold Rep at hfv;obtain⟨cs,ef,hcs⟩:=hfv;have I:=wF H args.toList;rw[DT (ps:=qs) (qs:=E.tmps) args.toList λx hx=>hev x bu] at I;have hall:=GU (T.hid k) _ _ (eQ.app _ _ _ _ I hcs);have hR:QZ T f args E=Jb (Hm (T.hid k) (vY (evA T E.tmps args.toList) J)) E.st:=by unfold QZ;rw[U]
 rw[hR] at hlk;unfold Wh at t
 split at t
 rename_i g;simp only[Bool.and_eq_true] at g;obtain⟨c1,c2,c3⟩:=g;obtain⟨v0,st1,n1,h0,hF0,hK⟩:=t
 split at hK
 rename_i hb;obtain⟨rfl,rfl⟩:=hK;have hb:=Nat.le_of_ble_eq_true hb
 have hren:=Qv (st:=E.st) (st':=stn) (zK (Jb (Hm (T.hid k) (vY (evA T E.tmps args.toList) J)) E.st)) (Jb (Hm (T.hid k) (vY (evA T E.tmps args.toList) J)) E.st) 0 λb hb=>by
  grind[TS,alj]
 rw[hren] at h0 hF0;have H2:=H.Ru hn;obtain⟨hent,hcall⟩:=ZU (E:=⟨qs,stn,E.next⟩) (n0:=n) (N:=n) (v:=v0) (st1:=st1) H2 c2 c1 h0 hpas (λb hb1 hb2=>(hwin b hb1 ai).1) ⟨by simp only;omega,Nat.le_refl _⟩ hall hF0;unfold Oper.wp;rw[NR ho ef hent];refine Calls.mono hcall λe w' hh=>?_;obtain⟨cv,Y',σ',rfl,H',hv',hoff⟩:=hh;have H3:=H.KH H';refine hnext cv w' Y' σ' _ H3 (λb=>?_) (λb hb'=>hoff b aB) hv' (λB D hD=>hD.step H.store H');show iV (abv _ _ _ _ _) b=_;rw[ZW];exact yV _ _ _
 exact hK.elim
 exact t.elim
 exact t.elim
theorem Rx:∀ (l:List (List Nat×List Nat×List Nat)) x,Yv l x=l++[x]
 | [],x=>rfl
 | y::l,x=>by simp[Yv,Rx l x]
theorem LQ (hT:iZ P T)(hW:DR P){all:Array Oper}:∀ (l:List Oper) (E:Env) (tr:List Tc) (K:Env->List Tc->Prop),NNs E.st->afx T (iq.jq P T) l E tr K ->
  ∃ rs E' I,ChF P T all l rs E.tmps E.st E.next E'.tmps E'.st E'.next/\K E' (tr++I)/\(∀ (i:Nat) (r:Rec),rs[i]?=some r->∃ tc,I[i]?=some tc/\ali r tc)
 | [],E,tr,K,_,h=>⟨[],E,[],⟨rfl,rfl,rfl⟩,by rw[List.append_nil];exact h,λi r hr=>by simp at hr⟩
 | o::l,E,tr,K,hnn,h=>by
  unfold afx stepG at h;have t:∀ (v:PV) (e:Env),qp e o.dst v=⟨Dy e.tmps o.dst v,e.st,e.next⟩:=λv e=>by cases hd:o.dst<;>simp[qp,Dy]
  split at h
  rename_i f args ts ho;unfold akx at h
  split at h
  exact h.elim
  rename_i hg
  split at h
  rename_i hcl;have hcl2:Ls T o.op=2:=VM hcl aJ;rw[ho] at hcl2;obtain⟨v,δ,hK,hF⟩:=ZX (.inr hcl2) (by simp[ndO]) h
  cases hok:okH E.st E.next δ with
  | false=>grind
  | true=>
   rw[hok] at hK;obtain⟨g1,g2,g3⟩:=abW δ hok;rw[t] at hK
   have g:NNs (jr δ E.st):=λb sz rows J=>by
    rw[yV] at J
    cases hl:lG δ b with
    | none=>rw[hl] at J;exact hnn b sz rows J
    | some y=>grind
   obtain⟨rs,E',I,hc,hk,ht⟩:=LQ hT hW l _ _ K g hK;refine⟨⟨E.tmps,E.tmps,lkG (QZ T f args E) E.st,v,δ,E.next,true,true,false⟩::rs,E',(QZ T f args E,Ht δ,Ht δ)::I,⟨32,⟨rfl,?_,λ_=>ado hT hW ho hF,λe=>by(cases e),λb x J=>(Rw J).2,g1,g2⟩,hc⟩,by grind[Rx],λi r hr=>?_⟩
   intro C ps Y σ a w st n _ _;simp[Region.wanted,hg]
   cases i with
   | zero=>
    simp at hr;subst hr;refine⟨_,rfl,λb J=>?_,g3,λb J=>J⟩;have J:lkG (QZ T f args E) E.st b≠none:=J;cases hx:lkG (QZ T f args E) E.st b<;>grind[lkG,Rw]
   | succ i=>grind
  rename_i hcl;obtain⟨v,hs,hK⟩:=adn hT hW (all:=all) (nx:=E.next) ho h;rw[t] at hK;obtain⟨rs,E',I,hc,hk,ht⟩:=LQ hT hW l ⟨Dy E.tmps o.dst v,E.st,E.next⟩ (Yv tr (QZ T f args E,[],[])) K hnn hK;refine⟨⟨E.tmps,E.tmps,lkG (QZ T f args E) E.st,v,[],E.next,true,true,false⟩::rs,E',(QZ T f args E,[],[])::I,⟨0,⟨rfl,?_,λ_=>hs,λe=>by(cases e),λb x J=>(Rw J).2,λb J=>absurd rfl J,λb sz rows J=>by cases J⟩,hc⟩,by grind[Rx],λi r hr=>?_⟩
  intro C ps Y σ a w st n _ _;simp[Region.wanted,hg]
  cases i with
  | zero=>
   simp at hr;subst hr;refine⟨_,rfl,λb J=>?_,λb J=>absurd rfl J,λb J=>by cases J⟩;have J:lkG (QZ T f args E) E.st b≠none:=J;cases hx:lkG (QZ T f args E) E.st b<;>grind[lkG,Rw]
  | succ i=>grind
  exact h.elim
  rename_i hnc;unfold agL at h
  split at h
  rename_i hg
  split at h
  rename_i hq hnd
  have hdet:∃ v δ,(match okG E.st E.next δ with
   | true=>afx T (iq.jq P T) l (qp ⟨E.tmps,jr δ E.st,E.next+1⟩ o.dst v) (Yv tr (rdG T E.tmps o.op,Ht δ,Ht δ)) K
   | false=>False)/\∀ K' : PV->Dl->Prop,K' v δ->oH T (iq.jq P T) o.op E.tmps (lkG (rdG T E.tmps o.op) E.st) E.next K':=by
   cases hQ:isQ o.op with
   | true=>exact aeC hQ h
   | false=>
    rw[hQ] at hq;have hq:(Nat.beq (Ls T o.op) 1 || Nat.beq (Ls T o.op) 2)=true:=hq;rw[Bool.or_eq_true] at hq;exact abS (hq.imp Nat.eq_of_beq_eq_true Nat.eq_of_beq_eq_true) hnd h
  obtain⟨v,δ,hK,hF⟩:=hdet
  cases hok:okG E.st E.next δ with
  | false=>grind
  | true=>
   rw[hok] at hK;obtain⟨g1,g2,g3⟩:=abV δ hok;have t:∀ (e:Env),qp e o.dst v=⟨Dy e.tmps o.dst v,e.st,e.next⟩:=λe=>by grind
   rw[t] at hK
   have g:NNs (jr δ E.st):=λb sz rows J=>by
    rw[yV] at J
    cases hl:lG δ b with
    | none=>rw[hl] at J;exact hnn b sz rows J
    | some y=>grind
   obtain⟨rs,E',I,hc,hk,ht⟩:=LQ hT hW l _ _ K g hK;refine⟨⟨E.tmps,E.tmps,lkG (rdG T E.tmps o.op) E.st,v,δ,E.next,true,true,false⟩::rs,E',(rdG T E.tmps o.op,Ht δ,Ht δ)::I,⟨1,⟨rfl,?_,λ_=>ahn hT hW hF,λe=>by(cases e),λb x J=>?_,λb J=>?_,g2⟩,hc⟩,by grind[Rx],λi r hr=>?_⟩
   intro C ps Y σ a w st n _ _;simp[Region.wanted,hg]
   grind[lkG]
   grind
   cases i with
   | zero=>
    simp at hr;subst hr;refine⟨_,rfl,λb J=>?_,g3,λb J=>J⟩;have J:lkG (rdG T E.tmps o.op) E.st b≠none:=J;unfold lkG at J
    cases hh:zn (rdG T E.tmps o.op) b with
    | true=>exact(O5 _ _).1 hh
    | false=>grind
   | succ i=>grind
  exact h.elim
  exact h.elim
theorem adp (hT:iZ P T)(hW:DR P){id:Nat}{l:Array Oper}{E:Env}{K:Env->Prop}(hlt:ltS E.next E.st=true)(hnn:lF E.st=true)(h:afx T (iq.jq P T) l.toList E [] λE tr=>(iq.jq P T).afu l tr (K E)) :
  ∀ (C:Ctx T) a w,kZ C E a w->∀ Q:Exit->Act->World->Prop,(∀ g a' w',kZ C g a' w'->K g->Q .normal a' w')->(Code.region id l true).wp P Q a w:=by
 intro C a w hA Q hQ;obtain⟨rs,g,tr,J,⟨I,hK⟩,h5⟩:=LQ hT hW (all:=l) l.toList E [] _ (ql _ hnn) h;rw[List.nil_append] at I;obtain⟨hc1,hc2⟩:=Z4 I;obtain⟨⟨Y,σ,H⟩,hdf⟩:=hA;obtain⟨hl1,hl2,hl3⟩:=J.len _ _
 have F:LP P T l rs E.tmps E.st E.next g.tmps g.next:=by
  refine⟨hc1,by simpa using hl1,λi o hi=>?_,hl2,λt ht=>J.keep _ _ ht,λb hb=>?_,λi k ri rk hik hi hk hc=>?_⟩
  obtain⟨r,q,m,a0,a1,a2,a3,a4,a6,a7,a8⟩:=J.get _ _ i o bH
  grind
  cases hx:iV E.st b with
  | none=>rfl
  | some x=>exact absurd (WX _ hlt b (by rw[hx];simp)) ae
  obtain⟨x,hx,hx2⟩:=h5 i ri hi;obtain⟨y,hy,hy2⟩:=h5 k rk hk;have:=YM tr 0 hc2 i k x y hik hx hy;rw[Nat.zero_add,Nat.zero_add] at this
  grind[adm]
 have hrep:∀ j,j<l.size->(Array.replicate l.size false).getD j true=false:=λj hj=>by simp[hj]
 have hno:∀ j o,l[j]?=some o->(Array.replicate l.size false).getD j true=true->False:=by
  grind
 refine wp_region_any hW.mixed (afP (C:=C) (D:=[]) (dl:=C.df) H.fix.1 F (λa' w' Y' σ' stx hd' H' hstx hD'=>hQ g a' w' ⟨⟨Y',σ',H'.ext λb x hx=>?_⟩,hd',hdf.2⟩ hK) l.size _ a _ aj ?_ ?_ ?_)
 rw[hstx b,<- J.fin];exact hx
 simp
 grind
 refine⟨hdf.1,Y,σ,E.tmps,E.st,(H.drawn _).mono hl3,rfl,?_,λt _=>rfl,λb=>?_,λj hj _ b hb1 _=>?_,⟨List.nodup_nil,λr hr=>by cases hr⟩,ql _ hnn⟩
 grind
 rw[KG _ _ _ _ λk r hr hDD=>?_];· rfl
 grind
 obtain⟨_,_,_,_,_,_,_,h6,_⟩:=F.get j _ (Array.getElem?_eq_getElem hj);exact H.next b (Nat.le_trans h6 hb1)
end
end Go.Pv
namespace Go.Pv
open Go
theorem lift_seq {T:Tab}{C:Ctx T}{P:Program}{b:Code}{Q:Post}{nx:Env->Prop}(I:∀ E a w,kZ C E a w->nx E->b.wp P (lift C Q) a w):∀ e a w,lift C (JM nx Q) e a w->Exit.then (b.wp P (lift C Q)) (lift C Q) e a w:=by
 intro e a w h
 cases e with
 | normal=>obtain⟨E,hA,J⟩:=h;exact I E a w hA J
 | ret=>obtain⟨E,hA,J⟩:=h;exact⟨E,hA,J⟩
 | exit n=>obtain⟨E,hA,J⟩:=h;exact⟨E,hA,J⟩
 | _=>exact h.elim
theorem aho {T:Tab}{C:Ctx T}{Q I : Post}(h:∀ n E,Q n E->∃ F,Ent T E F/\I n F):∀ e a w,lift C Q e a w->lift C I e a w:=by
 intro e a w J
 have go:∀ n,(∃ E,kZ C E a w/\Q n E)->∃ E,kZ C E a w/\I n E:=by
  rintro n ⟨E,hA,J⟩
  obtain⟨F,h1,h2⟩:=h n E J;exact⟨F,h1 C a w hA,h2⟩
 cases e with
 | normal=>exact go 0 J
 | ret=>exact go 1 J
 | exit n=>exact go (n+2) J
 | _=>exact J.elim
theorem Be {P:Program}{T:Tab}(hT:iZ P T)(hW:DR P):∀ (c:Code) (Q:Post) (E:Env),Kw T (iq.jq P T) c Q E->VF P T c Q E:=by
 intro c
 induction c with
 | skip=>intro Q E h C a w hA;exact wp_skip ⟨E,hA,h⟩
 | region id l dr=>
  intro Q E h C a w hA
  cases dr with
  | true=>
   simp only[Kw] at h
   cases hcut:zn T.cut (1000+id) with
   | true=>
    rw[hcut] at h;simp only[cond_true] at h
    cases hl:(ltS E.next E.st&&lF E.st) with
    | false=>grind
    | true=>
     rw[hl] at h;rw[Bool.and_eq_true] at hl;exact adp hT hW hl.1 hl.2 h C a w hA _ λg a' w' J hK=>⟨g,J,hK⟩
   | false=>
   rw[hcut] at h;obtain⟨h1,h2⟩:=h
   cases hl:ltS E.next E.st with
   | false=>grind
   | true=>rw[hl] at h2;exact adk hT hW h1 hl h2 C a w hA _ λg a' w' J hK=>⟨g,J,hK⟩
  | false=>exact ade hT hW h hA λg a' w' J hK=>⟨g,J,hK⟩
 | seq x y ihx ihy=>
  intro Q E h C a w hA;simp only[Kw] at h
  cases hs:agM T.cut x y with
  | true=>
   rw[hs] at h;exact wp_seq (wp_mono (ihx _ E h C a w hA) (lift_seq λg a' w' J I=>ihy Q g I C a' w' J))
  | false=>
   rw[hs] at h;obtain⟨Q',h1,h2⟩:=h;refine wp_seq (wp_mono (wp_mono (ihx Q' E h1 C a w hA) (aho h2)) (lift_seq λg a' w' J I=>ihy Q g I C a' w' J))
 | cond c x y ihx ihy=>
  intro Q E h C a w hA
  cases c with
  | tmp c=>
   simp only[Kw] at h;have J:=hA;obtain⟨⟨Y,σ,H⟩,hd⟩:=J;have hg:=H.vals.get _ _ c;have hev:a.eval (.tmp c)=a.tmps.toList.getD c Go.undef:=by grind[Act.eval,Array.getD_eq_getD_getElem?]
   split at h
   rename_i e;rw[e] at hg;exact wp_cond_true (by grind[zM]) (ihx Q E h C a w hA)
   rename_i e;rw[e] at hg;exact wp_cond_false (by grind[zM]) (ihy Q E h C a w hA)
   rename_i t e;have hg2:=hg;rw[e] at hg2;refine wp_cond_split (t:=t) (by grind[TF]) (λht=>?_) (λht=>?_)
   exact ihx Q _ (h.1 ht) C a w ⟨⟨Y,σ,H.pJ e true ht⟩,hd⟩
   exact ihy Q _ (h.2 ht) C a w ⟨⟨Y,σ,H.pJ e false ht⟩,hd⟩
   exact h.elim
  | const v=>
   cases v with
   | bool b=>
    cases b with
    | true=>exact wp_cond_true rfl (ihx Q E h C a w hA)
    | false=>exact wp_cond_false rfl (ihy Q E h C a w hA)
   | _=>exact(by simp[Kw] at h)
  | _=>exact(by simp[Kw] at h)
 | block id b ih=>
  intro Q E h C a w hA;refine wp_block (wp_mono (ih _ E h C a w hA) λe a' w' I=>?_)
  cases e with
  | normal=>exact I
  | ret=>exact I
  | exit n=>
   obtain⟨g,J,I⟩:=I;simp only[Exit.inBlock];have I:(bif Nat.beq n id then Q 0 g else Q (n+2) g):=I
   by_cases hn:n=id
   rw[if_pos hn];subst hn;simp only[Nat.beq_refl,cond_true] at I;exact⟨g,J,I⟩
   rw[if_neg hn];rw[Wx hn] at I;exact⟨g,J,I⟩
  | _=>exact I.elim
 | loop b ih=>intro Q E h;exact h
 | scope b ih=>
  intro Q E h C a w hA;refine wp_scope_straight (wp_mono (ih Q E h C a w hA) λe a' w' I=>?_)
  cases e with
  | normal=>exact I
  | ret=>exact I
  | exit n=>exact I
  | _=>exact I.elim
 | label l=>intro Q E h C a w hA;exact wp_label ⟨E,hA,h⟩
 | exit n=>intro Q E h C a w hA;exact wp_exit ⟨E,hA,h⟩
 | ret=>intro Q E h C a w hA;exact wp_ret ⟨E,hA,h⟩
 | _=>intro Q E h;exact(by simp[Kw] at h)
end Go.Pv
