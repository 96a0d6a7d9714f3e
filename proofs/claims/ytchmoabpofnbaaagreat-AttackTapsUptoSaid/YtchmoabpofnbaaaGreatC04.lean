import Derived.Scope
import Derived.Test.YtchmoabpofnbaaaGreatC03
set_option linter.all false
namespace Go.Pv
open Go
def Eqv (p q:PV):Prop:=∀ w Y σ v,Rep w Y σ p v↔Rep w Y σ q v
theorem Eqv.refl (p:PV):Eqv p p:=λ_ _ _ _=>Iff.rfl
theorem Eqv.symm {p q:PV}(h:Eqv p q):Eqv q p:=λw Y σ v=>(h w Y σ v).symm
theorem Eqv.trans {p q r:PV}(h:Eqv p q)(k:Eqv q r):Eqv p r:=λw Y σ v=>(h w Y σ v).trans (k w Y σ v)
theorem Eqv.bool (b:Bool):Eqv (.sb b) (.bool b):=λw Y σ v=>by simp[Rep]
def Ap (ps qs:List PV):Prop:=ps.length=qs.length/\∀ t,Eqv (iV ps t) (iV qs t)
theorem Ap.refl (ps:List PV):Ap ps ps:=⟨rfl,λ_=>Eqv.refl _⟩
theorem Ap.trans {ps qs rs:List PV}(h:Ap ps qs)(k:Ap qs rs):Ap ps rs:=⟨h.1.trans k.1,λt=>(h.2 t).trans (k.2 t)⟩
theorem Ap.symm {ps qs:List PV}(h:Ap ps qs):Ap qs ps:=⟨h.1.symm,λt=>(h.2 t).symm⟩
theorem yh (l:List PV)(d t:Nat)(v:PV):iV (nC l d v) t=if d=t/\d<l.length then v else iV l t:=by
 grind[E5,tq]
theorem MZ (l:List PV)(d:Nat)(v:PV):(nC l d v).length=l.length:=by rw[tq];simp
theorem DK {l:List PV}{t:Nat}(h:l.length<=t):iV l t=.undef:=by grind[E5]
theorem eU.eqv {w:World}{Y:Nat->Prop}{σ:Sg}:∀ {ps qs:List PV} {vs:List Value},Ap ps qs->eU w Y σ ps vs->eU w Y σ qs vs
 | [],[],vs,_,h=>h
 | [],_::_,_,h,_=>by simp[Ap] at h
 | _::_,[],_,h,_=>by simp[Ap] at h
 | p::ps,q::qs,vs,h,hr=>by
  unfold eU at hr |-;obtain⟨v,T,e,h1,h2⟩:=hr;refine⟨v,T,e,(h.2 0 _ _ _ _).1 h1,eU.eqv ⟨by simpa using h.1,λt=>h.2 (t+1)⟩ h2⟩
theorem SW.eqv {T:Tab}{C:Ctx T}{w:World}{Y:Nat->Prop}{σ:Sg}{ps qs:List PV}{vs:List Value}{st:St}{n:Nat}(H:SW C w Y σ ps vs st n)(h:Ap ps qs):SW C w Y σ qs vs st n :=
 H.qU (H.vals.eqv h)
def CG (ps:List PV):Option Nat->PV->List PV
 | none,_=>ps
 | some d,v=>nC ps d v
theorem QA (E:Env)(d:Option Nat)(v:PV):pK E d v=⟨CG E.tmps d v,E.st,E.next⟩:=by cases d<;>rfl
theorem vC (ps:List PV)(d:Option Nat)(v:PV):(CG ps d v).length=ps.length:=by cases d<;>simp[CG,MZ]
theorem DL {ps:List PV}{d:Option Nat}{v:PV}{t:Nat}(h:d≠some t):iV (CG ps d v) t=iV ps t:=by
 cases d with
 | none=>rfl
 | some d=>simp only[CG,yh];grind
theorem SW.CG {T:Tab}{C:Ctx T}{w:World}{Y:Nat->Prop}{σ:Sg}{ps:List PV}{a:Act}{st:St}{n:Nat}(H:SW C w Y σ ps a.tmps.toList st n){v:PV}{cv:Value}(hv:Rep w Y σ v cv)(d:Option Nat) :
  SW C w Y σ (CG ps d v) (a.put d cv).tmps.toList st n:=by
 cases d with
 | none=>exact H
 | some d=>
  refine(H.qU ?_);simp only[Act.put,Pv.CG,Array.toList_setIfInBounds];exact eU.set hv _ _ _ H.vals
theorem put_defers (a:Act)(d:Option Nat)(v:Value):(a.put d v).defers=a.defers:=by cases d<;>rfl
section
variable {P:Program}{T:Tab}
def Xk (P:Program)(T:Tab)(all:Array Oper)(o:Oper)(er:List PV)(lk:Nat->Option lI)(id:Nat)(v:PV)(δ:Dl)(big:Bool):Prop := ∀ (C:Ctx T) ps Y σ (a:Act) w st n,(∀ t∈o.looksAt all,iV ps t=iV er t)->SW C w Y σ ps a.tmps.toList st n->DF C a->(∀ b x,lk b=some x->iH st b=some x) -> (big=true->(∀ b,id<=b->b<id+32->σ b=none)/\T.oZ<=id/\id+32<=n)->∀ next Q,(∀ cv w' Y' σ',SW C w' Y' σ' ps a.tmps.toList (jf δ st) n->(∀ b,(b<id\/id+32<=b)->σ' b=σ b)->(big=false->σ'=σ)->Rep w' Y' σ' v cv->next (a.put o.dst cv) w')->o.wp P a w next Q
def adA (T:Tab)(all:Array Oper)(o:Oper)(er:List PV)(wb:Bool):Prop := ∀ (C:Ctx T) ps Y σ (a:Act) w st n,(∀ t∈o.looksAt all,iV ps t=iV er t)->SW C w Y σ ps a.tmps.toList st n->DF C a->Region.wanted o (yielded all a.tmps)=wb
theorem VT {all:Array Oper}{o:Oper}{er:List PV}{wb:Bool}
  (h:∀ ps st n,(∀ t∈o.looksAt all,iV ps t=iV er t)->gd (gV.jd P T) all o.guard ⟨ps,st,n⟩ (λ_=>wb=true) (λ_=>wb=false)):adA T all o er wb:=by
 intro C ps Y σ a w st n J H I;obtain⟨g,_,hh⟩:=aaV (h ps st n J) (C:=C) (a:=a) (w:=w) ⟨⟨Y,σ,H⟩,I⟩
 grind
theorem afU {all:Array Oper}{o:Oper}{E:Env}{run skip:Env->Prop}(h:gd (gV.jd P T) all o.guard E run skip) :
  ∃ J wb,Ap E.tmps J.tmps/\J.st=E.st/\J.next=E.next/\adA T all o J.tmps wb/\(wb=true->run J)/\(wb=false->skip J):=by
 unfold gd at h
 split at h
 rename_i hg;exact⟨E,true,Ap.refl _,rfl,rfl,VT (P:=P) λps _ _ _=>by simp[gd,hg],λ_=>h,λe=>by cases e⟩
 ·rename_i j want hg
  split at h
  ·rename_i oj hj
   split at h
   ·rename_i d hd
    have g:d∈o.looksAt all:=by
     grind[Oper.looksAt]
    have sem:∀ (J:Env) b,iV J.tmps d=.bool b->adA T all o J.tmps (b==want):=by
     intro J b hb;refine VT (P:=P) λps _ _ C=>?_;have:=C d g;rw[hb] at this;simp only[gd,hg,hj,hd,this]
     grind
    split at h
    ·rename_i e;refine⟨E,true==want,Ap.refl _,rfl,rfl,sem E true e,?_,?_⟩<;>intro I<;>cases want<;>first|(cases I;done)|exact h
    ·rename_i e;refine⟨E,false==want,Ap.refl _,rfl,rfl,sem E false e,?_,?_⟩<;>intro I<;>cases want<;>first|(cases I;done)|exact h
    rename_i b e
    have hlt:d<E.tmps.length:=by
     grind[DK]
    have heq:Ap E.tmps (pK E (some d) (.bool b)).tmps:=by
     refine⟨by simp[pK,MZ],λt=>?_⟩
     grind[pK,yh,Eqv.bool,Eqv.refl]
    have hget:iV (pK E (some d) (.bool b)).tmps d=.bool b:=by simp[pK,yh,hlt]
    obtain⟨h1,h2⟩:=h;refine⟨pK E (some d) (.bool b),b==want,heq,rfl,rfl,sem _ b hget,?_,?_⟩<;>grind
    rename_i e;refine⟨E,false,Ap.refl _,rfl,rfl,VT (P:=P) λps _ _ C=>?_,(λI=>by cases I),λ_=>h⟩
    simp_all[gd]
    exact h.elim
   exact h.elim
  exact h.elim
theorem yj {all:Array Oper}{o:Oper}{er ps:List PV}(h:∀ t∈o.looksAt all,iV ps t=iV er t):∀ x∈o.op.operands,rM T ps x=rM T er x:=by
 intro x hx
 cases x with
 | tmp t=>
  simp only[rM];refine h t ?_;unfold Oper.looksAt;exact List.mem_append_left _ (List.mem_filterMap.2 ⟨.tmp t,by simpa using hx,rfl⟩)
 | _=>rfl
theorem ajO {T:Tab}{S:gV}{o:Op}{ps:List PV}{lk:Nat->Option lI}{id id' : Nat}{K:PV->Dl->Prop}(J:isQ o=true):nV T S o ps lk id K=nV T S o ps lk id' K:=by
 cases o
 case call c=>
  obtain⟨callee,args,ts⟩:=c;cases callee
  case builtin b=>
   cases b
   case len=>simp only[nV];grind
   case min=>simp only[nV];grind
   case max=>simp only[nV];grind
   all_goals (simp[isQ] at J)
  all_goals simp[isQ] at J
 case makeFunc fn first cap=>cases fn<;>rfl
 case unOp op t x=>cases op<;>rfl
 all_goals first|rfl|(simp[isQ] at J)
theorem afV (hT:iK P T)(hW:CY P){all:Array Oper}{o:Oper}{ps:List PV}{lk:Nat->Option lI}{id i:Nat}{K:PV->Prop}(hq:isQ o.op=true)(h:nV T (gV.jd P T) o.op ps lk id (afo K)) :
  ∃ v,Xk P T all o ps lk i v [] false/\K v:=by
 obtain⟨v,δ,hK,hF⟩:=adz hq h
 cases δ with
 | cons x δ=>exact hK.elim
 | nil=>
  refine⟨v,?_,hK⟩;intro C qs Y σ a w st n hl H hd g _ next Q I
  have h2:=hF (λv' δ'=>v'=v/\δ'=[]) ⟨rfl,rfl⟩;rw[<- SB (yj hl),ajO (id':=n) hq] at h2;obtain⟨v',δ',cv,w',Y',σ',⟨rfl,rfl⟩,J,H',hv,t⟩:=yV hT hW H g ⟨H.next _ (Nat.le_refl _),H.fix.1⟩ h2
  have hσ:σ'=σ:=by
   funext b
   by_cases hb:b=n
   subst hb;rw[H.next _ (Nat.le_refl _)];exact H'.next _ (Nat.le_refl _)
   exact t b hb
  subst hσ;have:=I cv w' Y' σ' H' (λ_ _=>rfl) (λ_=>rfl) hv;unfold Oper.wp;rcases J with J|⟨J,rfl⟩
  rw[J];exact this
  rw[J];exact this
theorem Na {P:Program}{o:Oper}{f:Operand}{args:Array Operand}{ts:Array TypeId}{a:Act}{w:World}{k:Nat}{cs:List Value}(ho:o.op=.call { callee:=.value f,args,argTypes:=ts })
  (I:a.eval f=.func (.func k) #[] cs.toArray) (J:(callFunc k (args.toList.map a.eval++cs).toArray).run P w=.ok (.enter k (args.toList.map a.eval++cs).toArray) w) :
  (execOp a.eval o).run P w=.ok (.enter k (args.toList.map a.eval++cs).toArray) w:=by
 have T:args.map a.eval=(args.toList.map a.eval).toArray:=by grind
 grind[execOp,resolve,Deferred.ofValue,invoke]
theorem SW.aid {C:Ctx T}{w:World}{Y:Nat->Prop}{σ:Sg}{ps:List PV}{vs:List Value}{st:St}{n:Nat}(H:SW C w Y σ ps vs st n)(arr:Array Value)(ty:TypeId) :
  SW C (w.alloc (.cells arr ty)) Y σ ps vs st n/\∀ p v σ',Rep w Y σ' p v->Rep (w.alloc (.cells arr ty)) Y σ' p v:=by
 have heap:(w.alloc (.cells arr ty)).heap=w.heap.push (.cells arr ty):=rfl
 have hold:∀ k,k<w.heap.size->(w.alloc (.cells arr ty)).heap[k]?=w.heap[k]?:=by
  grind
 have hsz:(w.alloc (.cells arr ty)).heap.size=w.heap.size+1:=by rw[heap];simp
 exact⟨H.afF ⟨rfl,rfl,rfl,by omega,hold⟩,λp v σ' h=>Rep.keep p ⟨λk hk _=>hold k hk,λ_ _ h=>h,by omega,mZ.refl _⟩ v h⟩
theorem UO (hT:iK P T){all:Array Oper}{o:Oper}{ps:List PV}{lk:Nat->Option lI}{id i:Nat}{K:PV->Prop}{t:TypeId}{len:Nat}{parts:Array (Nat×Operand)}(ho:o.op=.buildSlice t len parts)(h:opQ T (gV.jd P T) (.buildSlice t len parts) ps lk id K) :
  ∃ v,Xk P T all o ps Xg i v [] false/\K v:=by
 simp only[opQ] at h
 split at h
 rename_i agg size z0 plain esz bytes z e;obtain⟨et,hu,rfl,_,hz⟩:=l7 hT e
 cases hb:(kR (P.cellsOf et)&&Nat.beq (nN z) (P.cellsOf et)&&Nat.ble (len*P.cellsOf et) 16777216&&ES (evP T ps parts.toList)) with
 | false=>grind
 | true=>
  rw[hb] at h;simp only[cond_true] at h;simp only[Bool.and_eq_true,vK] at hb;obtain⟨⟨⟨hb1,hb2⟩,hb3⟩,hb4⟩:=hb
  have hpos:0<P.cellsOf et:=by
   grind[kR]
  have hzl:=Nat.eq_of_beq_eq_true hb2;have hle:=Nat.le_of_ble_eq_true hb3
  split at h
  rename_i cs U
  split at h
  rename_i cs0 J;obtain⟨cs',hl2,hc2,hw2,h,_⟩:=AB h;refine⟨_,?_,h⟩;intro C qs Y σ a w st n hl H hd _ _ next Q I
  have hev:=yj (T:=T) hl;rw[ho] at hev;have hP:=Og (T:=T) (ps:=qs) (qs:=ps) parts.toList λx hx=>hev x.2 bD;rw[<- hP] at U hb4;obtain⟨vcs,hrep,hvl,hrun⟩:=vY hT H ho hu hz hb1 hzl hle hb4 U;have hLk:Lk (λ_=>none) st:=λb ro sz rows h=>by cases h
  obtain⟨Y1,H1,g,hy1⟩:=F9 cs cs0 [] J Y st H hLk _ hrep;have g:=hw2 _ _ _ _ g;obtain⟨H2,hk2⟩:=H1.aid vcs et;have hcsl:cs'.length=len*P.cellsOf et:=by rw[hl2,U0 _ _ _ J,JX _ _ _ _ U,xu,hzl]
  unfold Oper.wp;rw[hrun];refine I _ _ Y1 σ H2 (λ_ _=>rfl) (λ_=>rfl) ?_;unfold Rep;refine⟨_,len,len,rfl,by rw[wB],Nat.le_refl _,λ_=>rfl,.inr ⟨w.heap.size,0,rfl,⟨?_,λhy=>?_⟩,?_⟩⟩
  simp_all
  have:=H1.vJ _ hy;omega
  refine iG.chunks len cs' 0 ?_ (hc2 (Qs _ _ _ J).1) ae;rw[iG.iff];intro j p hj;obtain⟨v,hv,hp'⟩:=g.get? hj
  simp_all
  exact h.elim
  exact h.elim
 exact h.elim
theorem aie (hT:iK P T)(hW:CY P){all:Array Oper}{o:Oper}{ps:List PV}{lk:Nat->Option lI}{id:Nat}{K:PV->Prop}(i:Nat)(h:opQ T (gV.jd P T) o.op ps lk id K) :
  ∃ v,Xk P T all o ps lk i v [] false/\K v:=by
 have h0:=h;unfold opQ at h
 split at h
 rename_i f args ts ho
 split at h
 rename_i k caps U
 have main:∀ v,(∀ (C:Ctx T) Y σ w qs vs I st n,(∀ b x,lk b=some x->iH st b=some x)->SW C w Y σ qs vs st n->eU w Y σ (Gx (T.hid k) (vw (evA T ps args.toList) caps)) I->Qx P k C Y σ w I qs vs st n v)->Xk P T all o ps lk i v [] false:=by
  intro v hsem C qs Y σ a w st n hl H hd hlk _ next Q J
  have hev:=yj (T:=T) hl;rw[ho] at hev;have hfv:=kJ H f;rw[hev f bU,U] at hfv;unfold Rep at hfv;obtain⟨cs,ef,hcs⟩:=hfv;have g:=vM H args.toList;rw[C9 (ps:=qs) (qs:=ps) args.toList λx hx=>hev x bJ] at g;have hall:=F7 (T.hid k) _ _ (eU.app _ _ _ _ g hcs);obtain⟨hent,hcall⟩:=hsem C Y σ w qs a.tmps.toList _ st n hlk H (by simpa using hall);unfold Oper.wp;rw[Na ho ef hent];refine Calls.mono hcall λe w' hh=>?_;obtain⟨cv,rfl,H',hv⟩:=hh;exact J cv w' Y σ H' (λ_ _=>rfl) (λ_=>rfl) hv
 unfold afl at h
 split at h
 rename_i as hm;obtain⟨v,hF,hK⟩:=h;refine⟨v,main v λC Y σ w qs vs I st n hlk H hr=>U4 H (λb x hb=>?_) hm hr hF,hK⟩
 split at hb
 rename_i e;cases hb;exact⟨hlk _ _ e,rfl⟩
 rename_i e;cases hb;exact⟨hlk _ _ e,rfl⟩
 cases hb
 split at h
 rename_i as hm;obtain⟨v,hF,U,hK⟩:=h
 grind[Sr]
 exact h.elim
 exact h.elim
 rename_i t len parts ho;rw[ho] at h0;obtain⟨v,h1,h2⟩:=UO hT (all:=all) (i:=i) ho h0;exact⟨v,λC qs Y σ a w st n hl H hd _ hb next Q J=>h1 C qs Y σ a w st n hl H hd (λ_ _ h=>by cases h) hb next Q J,h2⟩
 rw[UN] at h;exact afV hT hW h.1 h.2
theorem aaW (hT:iK P T)(hW:CY P){all:Array Oper}{o:Oper}{lk:Nat->Option lI}{E:Env}{K:Env->Prop}(i:Nat)(h:aaC T (gV.jd P T) o lk E K) :
  ∃ J v,Ap E.tmps J.tmps/\J.st=E.st/\J.next=E.next/\Xk P T all o J.tmps lk i v [] false/\K (pK J o.dst v):=by
 unfold aaC at h
 have gen:(opQ T (gV.jd P T) o.op E.tmps lk E.next λv=>K (pK E o.dst v))->∃ J v,Ap E.tmps J.tmps/\J.st=E.st/\J.next=E.next/\Xk P T all o J.tmps lk i v [] false/\K (pK J o.dst v):=λh=>by
  obtain⟨v,h1,h2⟩:=aie hT hW (all:=all) i h;exact⟨E,v,Ap.refl _,rfl,rfl,h1,h2⟩
 split at h
 rename_i c x y ho
 split at h
 rename_i t hc
 have hlt:c<E.tmps.length:=by
  grind[DK]
 have heq:Ap E.tmps (pK E (some c) (.bool t)).tmps:=by
  refine⟨by simp[pK,MZ],λu=>?_⟩
  grind[pK,yh,Eqv.bool,Eqv.refl]
 have hget:iV (pK E (some c) (.bool t)).tmps c=.bool t:=by simp[pK,yh,hlt]
 have evq:∀ z:Operand,Eqv (rM T (pK E (some c) (.bool t)).tmps z) (rM T E.tmps z):=by
  intro z
  cases z with
  | tmp u=>exact(heq.2 u).symm
  | _=>exact Eqv.refl _
 have hsem:Xk P T all o (pK E (some c) (.bool t)).tmps lk i (if t then rM T E.tmps x else rM T E.tmps y) [] false:=by
  intro C qs Y σ a w st n hl H hd _ _ next Q hnext
  have g:=yj (T:=T) hl;rw[ho] at g;have I:=kJ H (.tmp c);rw[g (.tmp c) dL] at I;simp only[rM,hget] at I;have I:=yM I
  have hrun:(execOp a.eval o).run P w=.ok (.value (if t then a.eval x else a.eval y)) w:=by
   simp[execOp,ho,I,asBool]
  unfold Oper.wp;rw[hrun];refine hnext _ _ Y σ H (λ_ _=>rfl) (λ_=>rfl) ?_;have hx:=kJ H x;have hy:=kJ H y;rw[g x dL] at hx;rw[g y dL] at hy
  cases t with
  | true=>exact(evq x _ _ _ _).1 hx
  | false=>exact(evq y _ _ _ _).1 hy
 refine⟨_,_,heq,rfl,rfl,hsem,?_⟩
 cases t with
 | true=>exact h.1 rfl
 | false=>exact h.2 rfl
 grind
 exact gen h
theorem Fe {size:Nat}{row:List PV}{c:Nat}{v:PV}{K:List PV->Prop}(h:nX size row c v K):∃ r,K r/\∀ T : List PV->Prop,T r->nX size row c v T:=by
 unfold nX at h |-
 grind
theorem aaX {o:Op}{ps:List PV}{lk:Nat->Option lI}{id:Nat}{K:PV->Dl->Prop}(hc:KI T o=1\/KI T o=2)(hn:ndO T ps lk o=false)(h:nV T (gV.jd P T) o ps lk id K) :
  ∃ v δ,K v δ/\∀ g : PV->Dl->Prop,g v δ->nV T (gV.jd P T) o ps lk id g:=by
 cases o
 case binOp op t x y u=>
  grind[KI]
 case alloc t=>
  simp only[nV] at h |-
  grind
 case box t x=>
  simp only[nV] at h |-
  grind
 case makeSlice t x y=>
  simp only[nV] at h |-
  split at h
  simp only[UN] at h |-;obtain⟨h0,j,h1,h2,I,C,J⟩:=h;obtain⟨z2,_,_,_,J,_,h6⟩:=adt J;exact⟨_,_,J,λ_ hk=>⟨h0,j,h1,h2,I,C,h6 _ hk⟩⟩
  exact h.elim
 case store t x y=>
  simp only[nV] at h |-
  split at h
  split at h
  grind[Fe]
  split at h
  split at h
  rename_i sz rows hb _ cs δ hp
  cases hm:aay _ δ with
  | true=>grind
  | false=>
   rw[hm] at h;simp only[cond_false] at h |-;obtain⟨cs2,_,_,_,⟨row,h0,h⟩,h9⟩:=AB h;obtain⟨r',h1,h2⟩:=Fe h;exact⟨_,_,h1,λ_ hk=>h9 _ ⟨row,h0,h2 _ hk⟩⟩
  exact h.elim
  grind[ndO]
  obtain⟨h0,h⟩:=h;obtain⟨r,h1,h2⟩:=Fe h;exact⟨_,_,h1,λ_ hk=>⟨h0,h2 _ hk⟩⟩
  exact h.elim
  grind[ndO]
  exact h.elim
  exact h.elim
 case call c=>
  obtain⟨callee,args,ts⟩:=c;cases callee
  case builtin b=>
   cases b
   case append=>
    simp only[nV] at h |-
    split at h
    all_goals repeat' (first
     | contradiction
     | exact h.elim
     | exact⟨_,_,h,λ_ hk=>hk⟩
     | (obtain⟨h1,h2,I⟩:=h;exact⟨_,_,I,λ_ hk=>⟨h1,h2,hk⟩⟩)
     | (split at h)
     | (simp only[UN] at h |-;refine U5 h.1 ?_;replace h:=h.2)
     | (obtain⟨row,hr,h⟩:=h;refine aic hr ?_)
     | (obtain⟨h1,h2,I,C,J⟩:=h;exact⟨_,_,J,λ_ hk=>⟨h1,h2,I,C,hk⟩⟩)
     | (refine U5 h.1 ?_;replace h:=h.2))
   all_goals (rcases hc with hc|hc<;>simp[KI,isQ] at hc)
  all_goals first|(simp only[nV] at h;done)|(simp only[nV] at h;exact h.elim)|(rcases hc with hc|hc<;>simp[KI,isQ] at hc)
 all_goals (rcases hc with hc|hc<;>simp[KI,isQ] at hc)
theorem Jv {size:Nat}{row:List PV}{c:Nat}{v:PV}{K:List PV->Prop}(h:nX size row c v K):∃ r,K r:=by
 grind[Fe]
theorem afW {o:Op}{ps:List PV}{lk:Nat->Option lI}{id:Nat}{K:PV->Dl->Prop}(J:ndO T ps lk o=true)(h:nV T (gV.jd P T) o ps lk id K):∃ v δ,K v δ:=by
 cases o
 case store t x y=>
  simp only[nV] at h
  split at h
  split at h
  grind[ndO]
  rename_i b r c e1
  split at h
  grind[ndO]
  split at h
  split at h
  revert h;generalize (_&&_:Bool)=bb;intro h
  cases bb with
  | true=>exact h.elim
  | false=>
   obtain⟨row,_,h⟩:=h;obtain⟨r,h⟩:=Jv (h ⟨0,0,0⟩)
   grind
  exact h.elim
  split at h
  obtain⟨row,_,h⟩:=h;obtain⟨r,h⟩:=Jv h
  grind
  exact h.elim
  grind[ndO]
  exact h.elim
  split at h
  split at h
  have I:=AB h;clear h;obtain⟨_,_,_,_,⟨row,_,h⟩,_⟩:=I
  split at h
  simp only[UN,gV.jd] at h;obtain⟨_,_,er,_,h⟩:=h;obtain⟨r,h⟩:=Jv h
  grind
  exact h.elim
  exact h.elim
  exact h.elim
  exact h.elim
  exact h.elim
 all_goals simp[ndO] at J
theorem afX (hT:iK P T)(hW:CY P){all:Array Oper}{o:Oper}{ps:List PV}{lk:Nat->Option lI}{id:Nat}{v:PV}{δ:Dl}(hF:∀ K' : PV->Dl->Prop,K' v δ->nV T (gV.jd P T) o.op ps lk id K'):Xk P T all o ps lk id v δ true:=by
 intro C qs Y σ a w st n hl H hd hlk hid next Q I
 obtain⟨h1,h2,h3⟩:=hid rfl;have h4:=hF (λv' g=>v'=v/\g=δ) ⟨rfl,rfl⟩;rw[<- SB (yj hl)] at h4;obtain⟨v',g,cv,w',Y',σ',⟨rfl,rfl⟩,J,H',hv,t⟩:=yV hT hW H hlk ⟨h1 id (Nat.le_refl _) ae,h2⟩ h4;have hn:uI g n id<=n:=by cases g<;>simp[uI]<;>omega
 have:=I cv w' Y' σ' (H'.mono hn) (λb hb=>t b ae) (λe=>by cases e) hv;unfold Oper.wp;rcases J with J|⟨J,rfl⟩
 rw[J];exact this
 rw[J];exact this
theorem afY {S:gV}{o:Op}{ps:List PV}{lk:Nat->Option lI}{st:St}{id:Nat}{c2:Bool}{K:PV->Dl->Prop}(J:∀ f args ts,o=.call { callee:=.value f,args:=args,argTypes:=ts }->False):opW T S o ps lk st id c2 K=nV T S o ps lk id K:=by
 unfold opW
 grind
theorem Y4 (f:Nat->Option Nat)(st1:St):∀ (l:List Nat) (i:Nat) (st:St),aaB f st1 i l st=jf (dlO f st1 i l) st
 | [],i,st=>rfl
 | b::l,i,st=>by simp only[aaB,dlO,jf];exact Y4 f st1 l (i+1) _
theorem PL (f:Nat->Option Nat){st st' : St}:∀ (ρ:List Nat) (i:Nat),(∀ b∈ρ,iH st b=iH st' b)->yC f st i ρ=yC f st' i ρ
 | [],i,_=>rfl
 | b::ρ,i,h=>by
  simp only[yC];rw[h b aF,PL f ρ (i+1) λc hc=>h c (by simp[hc])]
theorem SC {st:St}:∀ (ρ:List Nat),ahS st ρ=true->∀ b∈ρ,∃ x,iH st b=some x
 | [],_,b,h=>by cases h
 | c::ρ,h,b,hb=>by
  simp only[ahS,Bool.and_eq_true] at h;rcases List.mem_cons.1 hb with rfl|hb
  grind
  exact SC ρ h.2 b hb
theorem Y5 {o:Op}{ps:List PV}{lk:Nat->Option lI}{st:St}{id:Nat}{c2:Bool}{K:PV->Dl->Prop}(hc:KI T o=1\/KI T o=2)(hn:ndO T ps lk o=false)(h:opW T (gV.jd P T) o ps lk st id c2 K) :
  ∃ v δ,K v δ/\∀ C : PV->Dl->Prop,C v δ->opW T (gV.jd P T) o ps lk st id c2 C:=by
 by_cases hv:∃ f args ts,o=.call { callee:=.value f,args:=args,argTypes:=ts }
 obtain⟨f,args,ts,rfl⟩:=hv;unfold opW at h |-;simp only at h |-
 split at h
 rename_i k t U
 cases c2 with
 | false=>
  simp only at h
  split at h
  rename_i as g;obtain⟨v,x,hF,I⟩:=h;refine⟨_,_,I,λC hk=>?_⟩;simp only[g];exact⟨v,x,hF,hk⟩
  exact h.elim
 | true=>
  simp only at h;unfold Vu at h
  split at h
  rename_i J;obtain⟨v,st1,n1,h0,hF,I⟩:=h
  split at I
  rename_i hb;refine⟨_,_,I,λC hk=>?_⟩;simp only;unfold Vu;simp only[J];refine⟨v,st1,n1,h0,hF,?_⟩
  grind
  exact I.elim
  exact h.elim
 exact h.elim
 grind[afY,aaX]
theorem afZ (hT:iK P T)(hW:CY P){all:Array Oper}{o:Oper}{ps:List PV}{lk:Nat->Option lI}{st:St}{id:Nat}{v:PV}{δ:Dl}{c2:Bool}(hst:c2=true->lk=iH st)(hF:∀ K' : PV->Dl->Prop,K' v δ->opW T (gV.jd P T) o.op ps lk st id c2 K'):Xk P T all o ps lk id v δ true:=by
 by_cases hv:∃ f args ts,o.op=.call { callee:=.value f,args:=args,argTypes:=ts }
 obtain⟨f,args,ts,ho⟩:=hv;intro C qs Y σ a w stn n hl H hd hlk hid next Q g
 obtain⟨g1,g2,g3⟩:=hid rfl;have I:=hF (λv' δ'=>v'=v/\δ'=δ) ⟨rfl,rfl⟩;rw[ho] at I;unfold opW at I;simp only at I
 split at I
 rename_i k caps U;have hev:=yj (T:=T) hl;rw[ho] at hev;have hfv:=kJ H f;rw[hev f bU,U] at hfv;unfold Rep at hfv;obtain⟨cs,ef,hcs⟩:=hfv;have t:=vM H args.toList;rw[C9 (ps:=qs) (qs:=ps) args.toList λx hx=>hev x bJ] at t;have hall:=F7 (T.hid k) _ _ (eU.app _ _ _ _ t hcs)
 cases c2 with
 | false=>
  simp only at I
  split at I
  rename_i as hm;obtain⟨v0,x,hF0,rfl,rfl⟩:=I;have hr0:=Qw (P:=P) (T:=T) H.store (lk:=Xg) (λb x h=>by cases h) (λ_ h=>h) (λb x l h=>by cases h) (λb sz rows hb=>by cases hb) hm hall;have hr1:eU w Y σ as _:=eU.keep as (σ:=gJ) (σ':=σ) ⟨λ_ _ _=>rfl,λ_ _ h=>h,Nat.le_refl _,λb l h=>by simp[gJ] at h⟩ _ hr0
  obtain⟨hent,J⟩:=YY (E:=⟨qs,stn,id⟩) (ρ:=[]) (n0:=n) (N:=n) (v:=v0) (st1:=[(0,some x)]) (n1:=1) H rfl rfl rfl g2 (λb hb1 hb2=>by
   grind) ⟨by grind,Nat.le_refl _⟩ hr1 hF0
  unfold Oper.wp;rw[Na ho ef hent];refine Calls.mono J λe w' hh=>?_;obtain⟨cv,Y',σ',rfl,H',hv',hoff⟩:=hh;exact g cv w' Y' σ' H' (λb hb=>hoff b ak) (λe=>by cases e) hv'
  exact I.elim
 | true=>
  simp only at I;unfold Vu at I
  split at I
  rename_i hcnd;simp only[Bool.and_eq_true] at hcnd;obtain⟨c1,c2,c3⟩:=hcnd;obtain⟨v0,st1,n1,h0,hF0,hK⟩:=I
  split at hK
  rename_i hb;obtain⟨rfl,rfl⟩:=hK;have hb:=Nat.le_of_ble_eq_true hb;have hlk':=hlk;rw[hst rfl] at hlk'
  have hren:=PL (st:=st) (st':=stn) (ixN (IB (Gx (T.hid k) (vw (evA T ps args.toList) caps)) st)) (IB (Gx (T.hid k) (vw (evA T ps args.toList) caps)) st) 0 λb hb=>by
   grind[SC]
  rw[hren] at h0 hF0;obtain⟨hent,J⟩:=YY (E:=⟨qs,stn,id⟩) (n0:=n) (N:=n) (v:=v0) (st1:=st1) H c2 c1 h0 g2 (λb hb1 hb2=>g1 b hb1 ak) ⟨by simp only;omega,Nat.le_refl _⟩ hall hF0;unfold Oper.wp;rw[Na ho ef hent];refine Calls.mono J λe w' hh=>?_;obtain⟨cv,Y',σ',rfl,H',hv',hoff⟩:=hh;refine g cv w' Y' σ' ?_ (λb hb'=>hoff b ax) (λe=>by cases e) hv';rw[<- Y4];exact H'
  exact hK.elim
  exact I.elim
 exact I.elim
 simp_all[afX,afY]
end
end Go.Pv
namespace Go.Pv
open Go
section
variable {P:Program}{T:Tab}
structure Rec where
 e1:List PV
 er:List PV
 lk:Nat->Option lI
 v:PV
 δ:Dl
 id:Nat
 big:Bool
 wb:Bool
 nd:Bool
def adB (δ:Dl)(b:Nat):Prop:=∃ x,(b,x)∈δ
structure ach (P:Program)(T:Tab)(all:Array Oper)(o:Oper)(r:Rec)(p:List PV)(st:St)(nx:Nat)(pend:List Nat):Prop where
 e1:Ap p r.e1
 er:Ap p r.er
 gd:adA T all o r.e1 r.wb
 sem:r.wb=true->r.nd=false->Xk P T all o r.er r.lk r.id r.v r.δ r.big
 ndw:r.nd=true->r.wb=true/\r.big=true
 skip:r.wb=false->r.v=.undef
 cls:(r.big=false/\r.δ=[]/\(r.wb=true->∀ b x,r.lk b=some x->wO T o=3/\b ∉ pend/\iH st b=some x)) \/
  (r.wb=true/\r.big=true/\r.id=nx/\wO T o=1/\(∃ x,r.δ=[(nx,some x)])/\r.lk=Xg) \/
  (r.wb=true/\r.big=true/\r.id=nx/\wO T o=2/\(∀ b,adB r.δ b->b<nx+32)/\r.lk=iH st)
def bump (b:Bool)(n:Nat):Nat:=match b with|true=>n+32|false=>n
def VU (T:Tab)(o:Oper)(r:Rec)(pend:List Nat):List Nat:=match r.big with
 | false=>pend
 | true=>if wO T o=1 then r.id::pend else []
def ChD (P:Program)(T:Tab)(all:Array Oper):List Oper->List Rec->List PV->St->Nat->List Nat->List PV->St->Nat->Prop
 | [],[],p,st,nx,_,f,stf,nxf=>p=f/\st=stf/\nx=nxf
 | o::l,r::rs,p,st,nx,pend,f,stf,nxf=>ach P T all o r p st nx pend/\ChD P T all l rs (CG r.er o.dst r.v) (jf r.δ st) (bump r.big nx) (VU T o r pend) f stf nxf
 | _,_,_,_,_,_,_,_,_=>False
def aci (P:Program)(T:Tab)(all:Array Oper)(K:Env->Prop):List Oper->List Rec->St->List PV->St->Nat->Prop
 | o::l,r::rs,st,f,stf,nxf=>(r.nd=true->l=[]/\rs=[]/\Pm all=true/\nxf=r.id+32/\nV T (gV.jd P T) o.op r.er (iH st) r.id (λv δ=>bif ltD (r.id+32) δ then K ⟨CG r.er o.dst v,jf δ st,r.id+32⟩ else False))
  /\ (r.nd=false->aci P T all K l rs (jf r.δ st) f stf nxf)
 | [],[],_,f,stf,nxf=>K ⟨f,stf,nxf⟩
 | _,_,_,_,_,_=>False
theorem VV {n:Nat}:∀ (δ:Dl),ltD n δ=true->∀ b,adB δ b->b<n
 | [],_,b,h=>by obtain⟨x,h⟩:=h;cases h
 | (c,y)::δ,h,b,T=>by
  simp only[ltD,Bool.and_eq_true,Nat.blt_eq] at h;obtain⟨x,T⟩:=T;rcases List.mem_cons.1 T with e|T
  grind
  exact VV δ h.2 b ⟨x,T⟩
theorem acj {pend:List Nat}{lk:Nat->Option lI}{b:Nat}{x:lI}(h:adr pend lk b=some x):b ∉ pend/\lk b=some x:=by
 grind[adr,JZ]
theorem U6 {o:Oper}{c:Nat}(h:wO T o=c)(hc:c≠0):KI T o.op=c:=by
 grind[wO]
theorem aif {o:Oper}(h:isQ o.op=false):wO T o=KI T o.op:=by
 grind[qtO,wO]
theorem aih {o:Op}{ps:List PV}{lk:Nat->Option lI}(h:KI T o=1):ndO T ps lk o=false:=by cases o<;>simp[ndO,KI] at h |-
theorem GL (hT:iK P T)(hW:CY P){all:Array Oper}:∀ (l:List Oper) (pend:List Nat) (E:Env) (K:Env->Prop),ab5 T (gV.jd P T) all l pend E K ->
  ∃ rs f J I,ChD P T all l rs E.tmps E.st E.next pend f J I/\aci P T all K l rs E.st f J I
 | [],pend,E,K,h=>⟨[],E.tmps,E.st,E.next,⟨rfl,rfl,rfl⟩,h⟩
 | o::l,pend,E,K,h=>by
  simp only[ab5] at h;obtain⟨C,wb,h1,h2,h3,h4,t,h6⟩:=afU h
  cases wb with
  | false=>
   have k5:=h6 rfl;rw[QA,h2,h3] at k5;obtain⟨rs,f,J,I,hc,hK⟩:=GL hT hW l pend _ _ k5;exact⟨⟨C.tmps,C.tmps,Xg,.undef,[],0,false,false,false⟩::rs,f,J,I,⟨⟨h1,h1,h4,(λe=>by cases e),(λe=>by cases e),(λ_=>rfl),.inl ⟨rfl,rfl,λe=>by cases e⟩⟩,hc⟩,(λe=>by cases e),λ_=>hK⟩
  | true=>
   have t:=t rfl;unfold ai2 at t
   cases g:ndO T C.tmps (iH C.st) o.op with
   | true=>
    rw[g] at t
    cases l with
    | cons _ _=>exact t.elim
    | nil=>
      obtain⟨hlo,t⟩:=t;obtain⟨v,δ,hk⟩:=afW g t
      cases hi:ltD (C.next+32) δ with
      | false=>grind
      | true=>
       have hq:isQ o.op=false:=by
        revert g;cases o.op<;>simp[ndO,isQ]
       have hcl:wO T o=2:=by
        rw[aif hq];revert g;cases o.op<;>simp[ndO,KI]
       refine⟨[⟨C.tmps,C.tmps,iH C.st,v,δ,C.next,true,true,true⟩],_,_,_,⟨⟨h1,h1,h4,(λ_ e=>by cases e),(λ_=>⟨rfl,rfl⟩),(λe=>by cases e),.inr (.inr ⟨rfl,rfl,h3,hcl,?_,by rw[h2]⟩)⟩,rfl,rfl,rfl⟩,λ_=>⟨rfl,rfl,hlo,by simp[bump,h3],?_⟩,λe=>by cases e⟩
       rw[<- h3];exact VV δ hi
       grind[QA]
   | false=>
   rw[g] at t;simp only at t;unfold stepD at t
   have quiet:∀ lk,(wO T o=0/\lk=Xg\/wO T o=3/\lk=adr pend (iH C.st))->aaC T (gV.jd P T) o lk C (λE=>ab5 T (gV.jd P T) all l pend E K) ->
     ∃ rs f J I,ChD P T all (o::l) rs E.tmps E.st E.next pend f J I/\aci P T all K (o::l) rs E.st f J I:=by
    intro lk hlk hs;obtain⟨E2,v,k1,k2,k3,k4,k5⟩:=aaW hT hW (all:=all) 0 hs;rw[QA,k2,k3,h2,h3] at k5;obtain⟨rs,f,J,I,hc,hK⟩:=GL hT hW l pend _ _ k5;refine⟨⟨C.tmps,E2.tmps,lk,v,[],0,false,true,false⟩::rs,f,J,I,⟨⟨h1,h1.trans k1,h4,λ_ _=>k4,(λe=>by cases e),(λe=>by cases e),.inl ⟨rfl,rfl,λ_ b x hb=>?_⟩⟩,hc⟩,(λe=>by cases e),λ_=>hK⟩;rcases hlk with ⟨c0,rfl⟩|⟨c3,rfl⟩
    cases hb
    grind[acj]
   split at t
   grind
   rename_i hc;obtain⟨v,δ,hk,U⟩:=Y5 (.inl (U6 hc aU)) (aih (U6 hc aU)) t
   split at hk
   rename_i id x
   cases hi:Nat.beq id C.next with
   | false=>grind
   | true=>
    rw[hi] at hk;simp only[cond_true] at hk;have hid:=Nat.eq_of_beq_eq_true hi;subst hid;rw[QA,h2,h3] at hk;obtain⟨rs,f,J,I,hc2,hK⟩:=GL hT hW l _ _ _ hk;refine⟨⟨C.tmps,C.tmps,Xg,v,[(C.next,some x)],C.next,true,true,false⟩::rs,f,J,I,⟨⟨h1,h1,h4,λ_ _=>?_,(λe=>by cases e),(λe=>by cases e),.inr (.inl ⟨rfl,rfl,h3,hc,⟨x,by rw[h3]⟩,rfl⟩)⟩,?_⟩,(λe=>by cases e),λ_=>?_⟩
    exact afZ hT hW (λe=>by cases e) U
    simp_all[jf,bump,VU]
    grind[jf]
   exact hk.elim
   rename_i hc;obtain⟨v,δ,hk,U⟩:=Y5 (.inr (U6 hc aU)) g t
   cases hi:ltD (C.next+32) δ with
   | false=>grind
   | true=>
    rw[hi] at hk;simp only[cond_true] at hk;rw[QA,h2,h3] at hk;obtain⟨rs,f,J,I,hc2,hK⟩:=GL hT hW l _ _ _ hk;refine⟨⟨C.tmps,C.tmps,iH C.st,v,δ,C.next,true,true,false⟩::rs,f,J,I,⟨⟨h1,h1,h4,λ_ _=>?_,(λe=>by cases e),(λe=>by cases e),.inr (.inr ⟨rfl,rfl,h3,hc,?_,by rw[h2]⟩)⟩,?_⟩,(λe=>by cases e),λ_=>hK⟩
    exact afZ hT hW (λ_=>rfl) U
    rw[<- h3];exact VV δ hi
    grind[bump,VU]
   grind
   exact t.elim
theorem ChD.len {all:Array Oper}:∀ (l:List Oper) (rs:List Rec) {p:List PV} {st:St} {nx:Nat} {pend:List Nat} {f:List PV} {I:St} {J:Nat},ChD P T all l rs p st nx pend f I J->rs.length=l.length/\f.length=p.length
 | [],[],_,_,_,_,_,_,_,h=>⟨rfl,by rw[h.1]⟩
 | o::l,r::rs,_,_,_,_,_,_,_,h=>by
  obtain⟨h1,h2⟩:=ChD.len l rs h.2;exact⟨by simp[h1],by rw[h2,vC,h.1.er.1]⟩
 | [],_::_,_,_,_,_,_,_,_,h=>h.elim
 | _::_,[],_,_,_,_,_,_,_,h=>h.elim
theorem ChD.keep {all:Array Oper}{t:Nat}:∀ (l:List Oper) (rs:List Rec) {p:List PV} {st:St} {nx:Nat} {pend:List Nat} {f:List PV} {I:St} {J:Nat},ChD P T all l rs p st nx pend f I J->(∀ o∈l,o.dst≠some t)->Eqv (iV p t) (iV f t)
 | [],[],_,_,_,_,_,_,_,h,_=>by rw[h.1];exact Eqv.refl _
 | o::l,r::rs,_,_,_,_,_,_,_,h,hn=>by
  have:=ChD.keep l rs h.2 λo ho=>hn o (by simp[ho]);rw[DL (hn o aF)] at this;exact(h.1.er.2 t).trans this
 | [],_::_,_,_,_,_,_,_,_,h,_=>h.elim
 | _::_,[],_,_,_,_,_,_,_,h,_=>h.elim
def Aq:List Rec->St->Nat->St
 | _,st,0=>st
 | [],st,_+1=>st
 | r::rs,st,i+1=>Aq rs (jf r.δ st) i
def CJ:List Rec->Nat->Nat->Nat
 | _,n,0=>n
 | [],n,_+1=>n
 | r::rs,n,i+1=>CJ rs (bump r.big n) i
def PM (T:Tab):List Oper->List Rec->List Nat->Nat->List Nat
 | _,_,pd,0=>pd
 | o::l,r::rs,pd,i+1=>PM T l rs (VU T o r pd) i
 | _,_,pd,_=>pd
theorem ChD.get {all:Array Oper}:∀ (l:List Oper) (rs:List Rec) {p:List PV} {st:St} {nx:Nat} {pend:List Nat} {f:List PV} {stf:St} {nxf:Nat},ChD P T all l rs p st nx pend f stf nxf->∀ (i:Nat) (o:Oper),l[i]?=some o ->
  ∃ r q,rs[i]?=some r/\q.length=p.length/\ach P T all o r q (Aq rs st i) (CJ rs nx i) (PM T l rs pend i) /\
   (∀ t,(∀ j oj,j<i->l[j]?=some oj->oj.dst≠some t)->Eqv (iV p t) (iV q t)) /\
   (∀ t,(∀ j oj,i<=j->l[j]?=some oj->oj.dst≠some t)->Eqv (iV q t) (iV f t)) /\
   (∀ d,o.dst=some d->d<p.length->(∀ j oj,i<j->l[j]?=some oj->oj.dst≠some d)->Eqv r.v (iV f d))
 | [],_,_,_,_,_,_,_,_,_,i,o,hi=>by simp at hi
 | _::_,[],_,_,_,_,_,_,_,h,_,_,_=>h.elim
 | o'::l,r::rs,p,_,_,_,f,_,_,h,0,o,hi=>by
  obtain⟨h1,C⟩:=h;simp at hi;subst hi;refine⟨r,p,rfl,rfl,h1,λt _=>Eqv.refl _,λt J=>?_,λd g I hn=>?_⟩
  have hk:=ChD.keep l rs C (t:=t) λo ho=>by
   grind[List.getElem?_of_mem]
  rw[DL (J 0 o' ae aF)] at hk;exact(h1.er.2 t).trans hk
  have hk:=ChD.keep l rs C (t:=d) λo ho=>by
   obtain⟨j,hj⟩:=List.getElem?_of_mem ho;exact hn (j+1) o ae dM
  rw[g] at hk;simp only[CG,yh] at hk;rw[if_pos ⟨trivial,by rw[<- h1.er.1];exact I⟩] at hk;exact hk
 | o'::l,r::rs,p,_,_,_,f,_,_,h,i+1,o,hi=>by
  obtain⟨h1,C⟩:=h;obtain⟨r',q,a0,a1,a2,a6,a7,a8⟩:=ChD.get l rs C i o bH;have hl:(CG r.er o'.dst r.v).length=p.length:=by rw[vC,h1.er.1]
  refine⟨r',q,by simpa using a0,by rw[a1,hl],a2,λt J=>?_,λt J=>?_,λd g I hn=>?_⟩
  have hk:=a6 t λj oj hj hoj=>J (j+1) oj ae dF;rw[DL (J 0 o' ae aF)] at hk;exact(h1.er.2 t).trans hk
  exact a7 t λj oj hj hoj=>J (j+1) oj ae dF
  exact a8 d g ak λj oj hj hoj=>hn (j+1) oj ae dF
theorem ChD.fin {all:Array Oper}:∀ (l:List Oper) (rs:List Rec) {p:List PV} {st:St} {nx:Nat} {pend:List Nat} {f:List PV} {I:St} {J:Nat},ChD P T all l rs p st nx pend f I J->I=Aq rs st rs.length/\J=CJ rs nx rs.length
 | [],[],_,_,_,_,_,_,_,h=>⟨h.2.1.symm,h.2.2.symm⟩
 | o::l,r::rs,_,_,_,_,_,_,_,h=>ChD.fin l rs h.2
 | [],_::_,_,_,_,_,_,_,_,h=>h.elim
 | _::_,[],_,_,_,_,_,_,_,h=>h.elim
theorem bump_le (b:Bool)(n:Nat):n<=bump b n:=by cases b<;>simp[bump]
theorem PN:∀ (rs:List Rec) (n i:Nat),n<=CJ rs n i
 | _,n,0=>by simp[CJ]
 | [],n,i+1=>by simp[CJ]
 | r::rs,n,i+1=>by simp only[CJ];exact Nat.le_trans (bump_le _ _) (PN rs _ i)
theorem Oh:∀ (rs:List Rec) (n i:Nat) (r:Rec),rs[i]?=some r->CJ rs n (i+1)=bump r.big (CJ rs n i)
 | [],n,i,r,h=>by simp at h
 | r::rs,n,0,r',h=>by grind[CJ]
 | r::rs,n,i+1,r',h=>by simp only[CJ];exact Oh rs _ i r' bg
theorem XU:∀ (rs:List Rec) (n i:Nat),rs.length<=i->CJ rs n (i+1)=CJ rs n i
 | [],n,0,_=>by simp[CJ]
 | [],n,i+1,_=>by simp[CJ]
 | r::rs,n,0,h=>by simp at h
 | r::rs,n,i+1,h=>by simp only[CJ];exact XU rs _ i bg
theorem SE {rs:List Rec}{n i j:Nat}(h:i<=j):CJ rs n i<=CJ rs n j:=by
 induction h with
 | refl=>grind
 | step h ih=>
  rename_i m
  cases T:rs[m]? with
  | some r=>rw[Oh _ _ _ _ T];exact Nat.le_trans ih (bump_le _ _)
  | none=>grind[XU]
def kT:Dl->Nat->Option (Option lI)
 | [],_=>none
 | (c,x)::δ,b=>match kT δ b with
  | some y=>some y
  | none=>if c=b then some x else none
theorem yt:∀ (δ:Dl) (st:St) (b:Nat),iH (jf δ st) b=(match kT δ b with|some x=>x|none=>iH st b)
 | [],st,b=>rfl
 | (c,x)::δ,st,b=>by
  simp only[jf,yt δ (nD st c x) b,kT]
  grind[gG]
theorem PO:∀ (δ:Dl) (b:Nat),kT δ b≠none->adB δ b
 | [],b,h=>absurd rfl h
 | (c,x)::δ,b,h=>by
  simp only[kT] at h
  split at h
  rename_i y hy;obtain⟨z,T⟩:=PO δ b (by rw[hy];simp);exact⟨z,List.mem_cons_of_mem _ T⟩
  by_cases hc:c=b
  subst hc;exact⟨x,by simp⟩
  grind
def lst:List Rec->(Nat->Bool)->Nat->Nat->Option (Option lI)
 | [],_,_,_=>none
 | r::rs,D,i,b=>match lst rs D (i+1) b with
  | some y=>some y
  | none=>if D i then kT r.δ b else none
def orS (st:St)(b:Nat):Option (Option lI)->Option lI
 | some x=>x
 | none=>iH st b
theorem zO:∀ (rs:List Rec) (D J : Nat->Bool) (i b:Nat),(∀ k r,rs[k]?=some r->kT r.δ b≠none->D (i+k)=J (i+k))->lst rs D i b=lst rs J i b
 | [],_,_,_,_,_=>rfl
 | r::rs,D,J,i,b,h=>by
  have C:=zO rs D J (i+1) b λk I hr T=>by
   have:=h (k+1) I dU T
   grind
  simp only[lst,C]
  split
  rfl
  by_cases T:kT r.δ b=none
  simp[T]
  have:=h 0 r rfl T
  grind
theorem J4:∀ (rs:List Rec) (D:Nat->Bool) (i b:Nat),(∀ k r,rs[k]?=some r->D (i+k)=true->kT r.δ b=none)->lst rs D i b=none
 | [],_,_,_,_=>rfl
 | r::rs,D,i,b,h=>by
  have J:=J4 rs D (i+1) b λk T hr I=>h (k+1) T dU ak;simp only[lst,J]
  split
  rename_i h0;exact h 0 r rfl (by simpa using h0)
  rfl
theorem VW:∀ (rs:List Rec) (D:Nat->Bool) (i m b:Nat) (r:Rec) (x:Option lI),rs[m]?=some r->D (i+m)=true->kT r.δ b=some x->(∀ k T,m<k->rs[k]?=some T->D (i+k)=true->kT T.δ b=none)->lst rs D i b=some x
 | [],_,_,m,_,_,_,h,_,_,_=>by simp at h
 | r::rs,D,i,0,b,T,x,h,hD,hx,hl=>by
  simp at h;subst h;have:=J4 rs D (i+1) b λk T hr J=>hl (k+1) T ae dU ak
  simp_all[lst]
 | r::rs,D,i,m+1,b,T,x,h,hD,hx,hl=>by
  have:=VW rs D (i+1) m b T x bg ak hx λk r2 hk hr J=>hl (k+1) r2 ae dU ak;simp only[lst,this]
theorem Oi:∀ (rs:List Rec) (st:St) (i j b:Nat),iH (Aq rs st i) b=orS st b (lst rs (λk=>decide (k<j+i)) j b)
 | [],st,0,j,b=>rfl
 | [],st,i+1,j,b=>rfl
 | r::rs,st,0,j,b=>by
  simp only[Aq];rw[J4 _ _ _ _ λk T _ h=>by simp at h;omega];rfl
 | r::rs,st,i+1,j,b=>by
  simp only[Aq,Oi rs (jf r.δ st) i (j+1) b,lst];rw[show(λk=>decide (k<j+1+i))=(λk=>decide (k<j+(i+1))) from funext λk=>by congr 2;omega]
  cases lst rs (λk=>decide (k<j+(i+1))) (j+1) b with
  | some y=>rfl
  | none=>
   simp_all[orS,yt]
theorem Uo {all:Array Oper}{i:Nat}{o:Oper}{lo:List Tmp}:∀ (l:List Oper) (j:Nat),Vx all i o lo l j=true->∀ (k:Nat) (p:Oper),l[k]?=some p->Vw all i o lo (j+k) p=true
 | [],_,_,k,p,hk=>by simp at hk
 | q::l,j,h,0,p,hk=>by simp_all[Vx]
 | q::l,j,h,k+1,p,hk=>by
  simp only[Vx,Bool.and_eq_true] at h;have:=Uo l (j+1) h.2 k p dN
  grind
theorem Nb {all:Array Oper}:∀ (l:List Oper) (i:Nat),Gz all l i=true->∀ (k:Nat) (o:Oper),l[k]?=some o ->
  (∀ e∈o.after,Region.binds .any e=true->e.on<i+k)/\∀ (j:Nat) (p:Oper),all[j]?=some p->Vw all (i+k) o (o.looksAt all) j p=true
 | [],_,_,k,o,hk=>by simp at hk
 | q::l,i,h,0,o,hk=>by
  simp at hk;subst hk;simp only[Gz,Bool.and_eq_true] at h;refine⟨λe T I=>?_,λj p J=>?_⟩
  have:=Array.all_eq_true_iff_forall_mem.1 h.1.1 e T
  simp_all
  have:=Uo all.toList 0 h.1.2 j p (by simpa using J)
  simpa using this
 | q::l,i,h,k+1,o,hk=>by
  simp only[Gz,Bool.and_eq_true] at h;have:=Nb l (i+1) h.2 k o dN
  grind
theorem Ed {all:Array Oper}(h0:GG T all=true){i:Nat}{o:Oper}(hi:all[i]?=some o) :
  (∀ e∈o.after,Region.binds .any e=true->e.on<i)/\∀ (j:Nat) (p:Oper),all[j]?=some p->j≠i->∀ d,p.dst=some d->o.dst≠some d /\
   (d∈o.looksAt all->(∃ e∈o.after,Region.binds .any e=true/\e.on=j)\/(∃ e∈p.after,Region.binds .any e=true/\e.on=i)):=by
 have h:Gz all all.toList 0=true:=by simp_all[GG]
 obtain⟨h1,h2⟩:=Nb all.toList 0 h i o bH;rw[Nat.zero_add] at h1 h2;refine⟨h1,λj p t C d g=>?_⟩;have:=h2 j p t;have J:Nat.beq i j=false:=VF λe=>C e.symm;simp only[Vw,J,g,Bool.false_or,Bool.and_eq_true,Bool.or_eq_true,bne_iff_ne,ne_eq,Bool.not_eq_true',List.contains_eq_mem,decide_eq_false_iff_not] at this;refine⟨this.1,λhm=>?_⟩;rcases this.2 with (hh|hh)|hh
 grind
 obtain⟨e,he,I⟩:=Array.any_eq_true'.1 hh;simp only[Bool.and_eq_true] at I
 grind[Nat.eq_of_beq_eq_true]
 obtain⟨e,he,I⟩:=Array.any_eq_true'.1 hh;simp only[Bool.and_eq_true] at I
 grind[Nat.eq_of_beq_eq_true]
inductive Bef (all:Array Oper):Nat->Nat->Prop
 | one {i:Nat} {o:Oper} {e:Edge}:all[i]?=some o->e∈o.after->Region.binds .any e=true->Bef all e.on i
 | trans {i j k:Nat}:Bef all i j->Bef all j k->Bef all i k
theorem PQ:∀ (l m:List Nat) (b:Nat),b∈Vy l m->b∈l\/b∈m
 | [],m,b,h=>.inr h
 | c::l,m,b,h=>by
  simp only[Vy] at h
  cases hc:yB m c with
  | true=>
   rw[hc] at h;rcases PQ l m b h with h|h<;>grind
  | false=>
   rw[hc] at h;rcases PQ l (c::m) b h with h|h<;>grind
theorem VX:∀ (l:List (List Nat)) (i:Nat),CQ l i=l.getD i []
 | [],i=>by simp[CQ]
 | x::l,0=>by simp[CQ]
 | x::l,i+1=>by simpa [CQ] using VX l i
theorem XV (acc:List (List Nat)):∀ (l:List Nat) (b:Nat),b∈XJ acc l->∃ j∈l,b=j\/b∈CQ acc j
 | [],b,h=>by simp[XJ] at h
 | j::l,b,h=>by
  simp only[XJ] at h;rcases PQ _ _ _ h with h|h
  grind
  obtain⟨T,h1,h2⟩:=XV acc l b h
  grind
theorem KT {all:Array Oper}:∀ (l:List Oper) (acc:List (List Nat)),(∀ k o,l[k]?=some o->all[acc.length+k]?=some o)->(∀ i b,b∈CQ acc i->Bef all b i)->∀ i b,b∈CQ (Vz l acc) i->Bef all b i
 | [],acc,_,h2=>by simpa [Vz] using h2
 | o::l,acc,h1,h2=>by
  simp only[Vz];have hlen:(acc++[XJ acc (YG o)]).length=acc.length+1:=by simp
  refine KT l _ (λk o' hk=>?_) λi b T=>?_
  have:=h1 (k+1) o' dN
  grind
  rw[VX,List.getD_eq_getElem?_getD] at T
  by_cases hi:i<acc.length
  grind[VX]
  rw[List.getElem?_append_right ae] at T
  have g:i-acc.length=0:=by
   grind
  rw[g] at T;simp only[List.getElem?_cons_zero,Option.getD_some] at T;have t:i=acc.length:=by omega
  obtain⟨j,hj,T⟩:=XV acc _ _ T;have I:=h1 0 o rfl;rw[Nat.add_zero] at I;simp only[YG,List.mem_map,List.mem_filter] at hj;obtain⟨e,⟨he,C⟩,rfl⟩:=hj;have J:Bef all e.on i:=by rw[t];exact .one I (by simpa using he) C
  rcases T with rfl|T
  exact J
  exact .trans (h2 _ _ T) J
theorem XW {J:List Nat}{c:Nat}:∀ (l:List Oper) (i:Nat),aen T J c l i=true->∀ k o,l[k]?=some o->clash (wO T o) c=true->(i+k)∈J
 | [],_,_,k,o,h,_=>by simp at h
 | q::l,i,h,0,o,hk,hc=>by
  simp_all[aen,JZ]
 | q::l,i,h,k+1,o,hk,hc=>by
  simp only[aen,Bool.and_eq_true] at h;have:=XW l (i+1) h.2 k o dN hc
  grind
theorem XX {L:List Oper}{B:List (List Nat)}:∀ (l:List Oper) (i:Nat),afp T L B l i=true->∀ k o,l[k]?=some o->aen T (CQ B (i+k)) (wO T o) (L.take (i+k)) 0=true
 | [],_,_,k,o,h=>by simp at h
 | q::l,i,h,0,o,hk=>by
  simp_all[afp]
 | q::l,i,h,k+1,o,hk=>by
  simp only[afp,Bool.and_eq_true] at h;have:=XX l (i+1) h.2 k o dN
  grind
theorem SG:∀ (l:List Oper),afq T l=false->∀ o∈l,wO T o≠2
 | [],_,o,h=>by cases h
 | q::l,h,o,ho=>by
  simp only[afq,Bool.or_eq_false_iff] at h;rcases List.mem_cons.1 ho with rfl|ho
  intro e;simp_all
  exact SG l h.2 o ho
theorem Gf {all:Array Oper}(h:GG T all=true){i j:Nat}{I oj:Oper}(g:i<j)(hi:all[i]?=some I)(hj:all[j]?=some oj)(hc:clash (wO T I) (wO T oj)=true):Bef all i j:=by
 unfold GG at h;rw[Bool.and_eq_true] at h;have h:=h.2;have t : all.toList[i]?=some I:=by simpa using hi
 have J : all.toList[j]?=some oj:=by simpa using hj
 cases C:afq T all.toList with
 | false=>
  have h1:=SG _ C I (List.mem_of_getElem? t);have h2:=SG _ C oj (List.mem_of_getElem? J)
  simp_all[clash]
 | true=>
  rw[C] at h;simp only[cond_true] at h;have:=XX _ 0 h j oj J;rw[Nat.zero_add] at this;have:=XW _ 0 this i I ak hc;rw[Nat.zero_add] at this
  grind[KT,CQ]
def patch (sl:List Tmp)(er ps:List PV):List PV:=(List.range ps.length).map λt=>if t∈sl then iV er t else iV ps t
theorem KU (sl:List Tmp)(er ps:List PV):(patch sl er ps).length=ps.length:=by simp[patch]
theorem SH {sl:List Tmp}{er ps:List PV}{t:Nat}(h:t<ps.length):iV (patch sl er ps) t=if t∈sl then iV er t else iV ps t:=by
 grind[E5,patch]
theorem XY {sl:List Tmp}{er ps:List PV}(h:∀ t∈sl,Eqv (iV ps t) (iV er t)):Ap ps (patch sl er ps):=by
 refine⟨by simp[patch],λt=>?_⟩
 grind[SH,Eqv.refl,DK,KU]
theorem Ur {sl:List Tmp}{er ps:List PV}(I:er.length=ps.length):∀ t∈sl,iV (patch sl er ps) t=iV er t:=by
 intro t T
 by_cases J:t<ps.length<;>simp_all[SH,DK,KU]
theorem Bef.listed {all:Array Oper}{listed:Array Bool}(T:∀ j o,all[j]?=some o->listed.getD j true=true->∀ e∈o.after,Region.binds .any e=true->listed.getD e.on true=true){i j:Nat}(h:Bef all i j):listed.getD j true=true->listed.getD i true=true:=by
 induction h<;>grind
theorem GN {listed:Array Bool}{i j:Nat}(hi:listed.getD i true=false):(listed.setIfInBounds i true).getD j true=true↔(j=i\/listed.getD j true=true):=by
 have T:i<listed.size:=by
  grind
 by_cases J:i=j
 simp_all
 simp_all;omega
theorem Bef.ready {all:Array Oper}{listed:Array Bool}(T:∀ j o,all[j]?=some o->listed.getD j true=true->∀ e∈o.after,Region.binds .any e=true->listed.getD e.on true=true)
  {i j:Nat} (h:Bef all i j):∀ o,all[j]?=some o->(∀ e∈o.after,Region.binds .any e=true->listed.getD e.on true=true)->listed.getD i true=true:=by
 induction h with
 | one h1 h2 I=>grind
 | trans h1 h2 ih1 ih2=>
  intro o ho J;exact h1.listed T (ih2 o ho J)
end
end Go.Pv
namespace Go.Pv
open Go
section
variable {P:Program}{T:Tab}
structure Facts (P:Program)(T:Tab)(all:Array Oper)(rs:List Rec)(st:St)(nx nxf:Nat):Prop where
 len:rs.length=all.size
 old:∀ b,iH st b≠none->b<nx
 ids:∀ (i:Nat) (r:Rec),rs[i]?=some r->r.big=true->r.id=CJ rs nx i/\nx<=r.id/\r.id+32<=nxf
 small:∀ (i:Nat) (r:Rec),rs[i]?=some r->r.big=false->r.δ=[]
 cls:∀ (i:Nat) (o:Oper) (r:Rec),all[i]?=some o->rs[i]?=some r->r.big=true->(wO T o=1/\(∃ x,r.δ=[(r.id,some x)])/\r.lk=Xg)\/(wO T o=2/\(∀ b,adB r.δ b->b<r.id+32)/\r.lk=iH (Aq rs st i))
 looks:∀ (i:Nat) (o:Oper) (r:Rec),all[i]?=some o->rs[i]?=some r->r.wb=true->∀ b x,r.lk b=some x->iH (Aq rs st i) b=some x/\(wO T o=2\/wO T o=3) /\
  (wO T o=3->∀ (k:Nat) (rk:Rec) (ok:Oper),k<i->rs[k]?=some rk->all[k]?=some ok->rk.big=true->wO T ok=1->rk.id=b->∃ m om,k<m/\m<i/\all[m]?=some om/\wO T om=2)
theorem Y7 {rs:List Rec}{nx i k:Nat}{r T : Rec}(I:i<k)(hr:rs[i]?=some r)(J:r.big=true)(h:r.id=CJ rs nx i)(C : T.id=CJ rs nx k):r.id+32<=T.id:=by
 have h1:=Oh rs nx i r hr;rw[J] at h1;have h2:=SE (rs:=rs) (n:=nx) (show i+1<=k by omega)
 grind[bump]
theorem VY {P:Program}{T:Tab}{all:Array Oper}:∀ (l:List Oper) (rs:List Rec) {p:List PV} {st:St} {nx:Nat} {pend:List Nat} {f:List PV} {J:St} {I:Nat},ChD P T all l rs p st nx pend f J I->(∀ b,iH st b≠none->b<nx)->∀ i b,iH (Aq rs st i) b≠none->b<CJ rs nx i
 | l,rs,_,_,_,_,_,_,_,_,h0,0,b,hb=>by grind[Aq,CJ]
 | [],[],_,_,_,_,_,_,_,_,h0,i+1,b,hb=>h0 b hb
 | o::l,r::rs,_,st,nx,_,_,_,_,h,h0,i+1,b,hb=>by
  simp only[Aq,CJ] at hb |-;refine VY l rs h.2 (λc hc=>?_) i b hb;rw[yt] at hc;rcases h.1.cls with ⟨h1,h2,_⟩|⟨_,h1,h2,_,⟨x,C⟩,_⟩|⟨_,h1,h2,_,C,_⟩
  rw[h2] at hc;rw[h1];exact h0 c hc
  rw[h1];rw[C] at hc;simp only[kT,bump] at hc |-
  grind
  rw[h1];simp only[bump]
  by_cases t:kT r.δ c=none
  grind
  simp_all[PO]
 | [],_::_,_,_,_,_,_,_,_,h,_,_,_,_=>h.elim
 | _::_,[],_,_,_,_,_,_,_,h,_,_,_,_=>h.elim
theorem XZ {P:Program}{T:Tab}{all:Array Oper}:∀ (l:List Oper) (rs:List Rec) {p:List PV} {st:St} {nx:Nat} {pend:List Nat} {f:List PV} {stf:St} {nxf:Nat},ChD P T all l rs p st nx pend f stf nxf ->
  ∀ i,(∀ k I ok,k<i->rs[k]?=some I->l[k]?=some ok->I.big=true->wO T ok=1->I.id∈PM T l rs pend i\/∃ m J,k<m/\m<i/\l[m]?=some J/\wO T J=2) /\
   (∀ b,b∈pend->b∈PM T l rs pend i\/∃ m J,m<i/\l[m]?=some J/\wO T J=2)
 | l,rs,_,_,_,_,_,_,_,_,0=>by grind[PM]
 | [],[],_,_,_,_,_,_,_,_,i+1=>⟨λk I ok _ h=>by simp at h,λb t=>.inl t⟩
 | o::l,r::rs,_,_,_,pend,_,_,_,h,i+1=>by
  obtain⟨h1,h2⟩:=XZ l rs h.2 i;simp only[PM]
  have lift:(∃ m J,m<i/\l[m]?=some J/\wO T J=2)->∃ m J,0<m/\m<i+1/\(o::l)[m]?=some J/\wO T J=2:=by
   rintro⟨m,J,C,g,h5⟩
   exact⟨m+1,J,by omega,by omega,by simpa using g,h5⟩
  have two:wO T o=2->∃ m J,m<i+1/\(o::l)[m]?=some J/\wO T J=2:=λh=>⟨0,o,by omega,rfl,h⟩
  refine⟨λk I ok hk hr ho t hc=>?_,λb t=>?_⟩
  cases k with
  | zero=>
   grind[VU]
  | succ k=>
   rcases h1 k I ok ae dU (by simpa using ho) t hc with C|⟨m,J,C,g,h5,h6⟩
   exact .inl C
   exact .inr ⟨m+1,J,by omega,by omega,by simpa using h5,h6⟩
  by_cases hp:b∈VU T o r pend
  grind
  refine .inr (two ?_);rcases h.1.cls with ⟨C,_⟩|⟨_,C,_,g,_⟩|⟨_,C,_,g,_⟩<;>simp_all[VU]
 | [],_::_,_,_,_,_,_,_,_,h,_=>h.elim
 | _::_,[],_,_,_,_,_,_,_,h,_=>h.elim
theorem af0 {all:Array Oper}{rs:List Rec}{p:List PV}{st:St}{nx:Nat}{f:List PV}{stf:St}{C:Nat}(h:ChD P T all all.toList rs p st nx [] f stf C)(h0:∀ b,iH st b≠none->b<nx):Facts P T all rs st nx C:=by
 have hl:=(ChD.len _ _ h).1;have hnf:=(ChD.fin _ _ h).2
 have get:∀ i r,rs[i]?=some r->∃ o q,all[i]?=some o/\ach P T all o r q (Aq rs st i) (CJ rs nx i) (PM T all.toList rs [] i):=by
  intro i r hr
  have hlt:i<rs.length:=by
   grind
  have t : i<all.toList.length:=by omega
  obtain⟨r',q,a0,_,a2,_⟩:=ChD.get _ _ h i _ (List.getElem?_eq_getElem t)
  grind
 refine⟨by simpa using hl,h0,λi r hr I=>?_,λi r hr I=>?_,λi o r ho hr I=>?_,λi o r ho hr hw b x I=>?_⟩
 obtain⟨o,q,_,hs⟩:=get i r hr
 have hid:r.id=CJ rs nx i:=by
  rcases hs.cls with ⟨h1,_⟩|⟨_,_,h1,_⟩|⟨_,_,h1,_⟩<;>grind
 refine⟨hid,by grind[PN],?_⟩
 have hlt:i<rs.length:=by
  grind
 have h2:=SE (rs:=rs) (n:=nx) (show i+1<=rs.length by omega)
 grind[Oh,bump]
 obtain⟨o,q,_,hs⟩:=get i r hr;rcases hs.cls with ⟨_,h1,_⟩|⟨_,h1,_⟩|⟨_,h1,_⟩<;>grind
 obtain⟨o',q,J,hs⟩:=get i r hr;rw[ho] at J;cases J;rcases hs.cls with ⟨h1,_⟩|⟨_,_,h1,h2,⟨x,h3⟩,g⟩|⟨_,_,h1,h2,h3,g⟩<;>grind
 obtain⟨o',q,J,hs⟩:=get i r hr;rw[ho] at J;cases J;rcases hs.cls with ⟨_,_,h3⟩|⟨_,_,_,_,_,g⟩|⟨_,_,_,h2,_,g⟩
 obtain⟨c1,c2,c3⟩:=h3 hw b x I;refine⟨c3,.inr c1,λ_ k rk ok hk hrk hok hbk hck hid=>?_⟩;rcases (XZ _ _ h i).1 k rk ok hk hrk (by simpa using hok) hbk hck with h5|⟨m,om,h5,h6,h7,h8⟩<;>grind
 rw[g] at I;cases I
 simp_all
theorem X0:∀ l:List Oper,VA l=l.length
 | []=>rfl
 | _::l=>by simp[VA,X0 l]
theorem VZ {l:List Nat}:∀ n,allIn l n=true->∀ k,k<n->k∈l
 | 0,_,k,h=>by omega
 | n+1,h,k,hk=>by
  simp only[allIn,Bool.and_eq_true] at h;rcases Nat.lt_or_ge k n with h'|h'
  exact VZ n h.2 k h'
  grind[JZ]
theorem aaY {all:Array Oper}(h:Pm all=true){i k:Nat}(hi:i+1=all.size)(hk:k<i):Bef all k i:=by
 unfold Pm at h
 split at h
 cases h
 rename_i o l e
 have T:l.length=i:=by
  have:all.toList.length=i+1:=by grind
  grind
 grind[X0,KT,CQ,VZ]
theorem aci.get {all:Array Oper}{K:Env->Prop}:∀ (l:List Oper) (rs:List Rec) {st:St} {f:List PV} {I:St} {J:Nat},aci P T all K l rs st f I J->(∀ (i:Nat) (r:Rec),rs[i]?=some r->r.nd=false)/\K ⟨f,I,J⟩ \/
  ∃ (i:Nat) (o:Oper) (r:Rec),i+1=l.length/\i+1=rs.length/\l[i]?=some o/\rs[i]?=some r/\r.nd=true/\(∀ (k:Nat) (C : Rec),k≠i->rs[k]?=some C->C.nd=false)/\Pm all=true/\J=r.id+32 /\
   nV T (gV.jd P T) o.op r.er (iH (Aq rs st i)) r.id (λv δ=>bif ltD (r.id+32) δ then K ⟨CG r.er o.dst v,jf δ (Aq rs st i),r.id+32⟩ else False)
 | [],[],_,_,_,_,h=>.inl ⟨λi r h=>by simp at h,h⟩
 | [],r::rs,_,_,_,_,h=>h.elim
 | o::l,[],_,_,_,_,h=>h.elim
 | o::l,r::rs,st,f,I,J,h=>by
  cases t:r.nd with
  | true=>
   obtain⟨rfl,rfl,h1,h2,h3⟩:=h.1 t;exact .inr ⟨0,o,r,rfl,rfl,rfl,rfl,t,λk C hk hr=>by grind,h1,h2,h3⟩
  | false=>
   rcases aci.get l rs (h.2 t) with ⟨h1,h2⟩|⟨i,o',C,a1,a2,a3,a4,a5,a6,a7,g,a9⟩
   grind
   exact .inr ⟨i+1,o',C,by simp[a1],by simp[a2],by simpa using a3,by simpa using a4,a5,λk r2 hk hr=>by grind,a7,g,by simpa [Aq] using a9⟩
def adC {T:Tab}(C:Ctx T)(all:Array Oper)(rs:List Rec)(st:St)(n:Nat)(p f:List PV)(listed:Array Bool)(a:Act)(w:World):Prop := DF C a/\∃ Y σ ps stx,SW C w Y σ ps a.tmps.toList stx n/\ps.length=p.length /\ (∀ j o t,all[j]?=some o->o.dst=some t->listed.getD j true=true->Eqv (iV ps t) (iV f t)) /\ (∀ t,(∀ j o,all[j]?=some o->o.dst=some t->listed.getD j true=false)->Eqv (iV ps t) (iV p t)) /\ (∀ b,iH stx b=orS st b (lst rs (λk=>listed.getD k true) 0 b)) /\ (∀ j r,rs[j]?=some r->listed.getD j true=false->r.big=true->∀ b,r.id<=b->b<r.id+32->σ b=none)
theorem ack (hT:iK P T)(hW:CY P){KE:Env->Prop}{C:Ctx T}{all:Array Oper}{rs:List Rec}{st:St}{nx n:Nat}{p f:List PV}{stf:St}(hchk:GG T all=true)(hch:ChD P T all all.toList rs p st nx [] f stf n)(hF:Facts P T all rs st nx n)(hpas:T.oZ<=nx){listed:Array Bool}{a:Act}{w:World}
  (hsz:listed.size=all.size) (hclosed:∀ j o,all[j]?=some o->listed.getD j true=true->∀ e∈o.after,Region.binds .any e=true->listed.getD e.on true=true)
  (hkeys:∀ i b,iH (Aq rs st i) b≠none->b<CJ rs nx i)
  (hs:adC C all rs st n p f listed a w) {i:Nat} (hr:i∈Region.ready .any all listed) {Q:Exit->Act->World->Prop} {K:Act->World->Prop}
  (hND:∀ o r,all[i]?=some o->rs[i]?=some r->r.nd=true->i+1=all.size/\Pm all=true/\n=r.id+32/\nV T (gV.jd P T) o.op r.er (iH (Aq rs st i)) r.id (λv δ=>bif ltD (r.id+32) δ then KE ⟨CG r.er o.dst v,jf δ (Aq rs st i),r.id+32⟩ else False))
  (hEnd:∀ a' w' E,(∀ k,(listed.setIfInBounds i true).getD k true=true)->kL C E a' w'->KE E->K a' w')
  (hK:(∀ r,rs[i]?=some r->r.nd=false)->∀ a' w',adC C all rs st n p f (listed.setIfInBounds i true) a' w'->K a' w'):wpOp P all Q i K a w:=by
 obtain⟨hun,o,ho,hall⟩:=mem_ready.1 hr;obtain⟨hd,Y,σ,ps,stx,H,hlen,hdone,hrest,hst,hfree⟩:=hs;have hL:all.toList[i]?=some o:=by simpa using ho
 have hilt:i<listed.size:=by
  rcases Nat.lt_or_ge i listed.size with h|h
  exact h
  simp[Array.getElem?_eq_none h] at hun
 obtain⟨r,q,hri,qlen,hS,h6,h7,h8⟩:=hch.get _ _ i o hL;have hspec:=Ed hchk ho;have aii:=(hch.len _ _).2
 have hall' : ∀ e∈o.after,Region.binds .any e=true->listed.getD e.on true=true:=by
  grind
 have befIn:∀ k,Bef all k i->listed.getD k true=true:=λk h=>h.ready hclosed o ho hall'
 have befOut:∀ k,Bef all i k->listed.getD k true=false:=λk h=>by
  cases hk:listed.getD k true with
  | false=>rfl
  | true=>have:=h.listed hclosed hk;rw[hun] at this;cases this
 have look0:∀ t∈o.looksAt all,Eqv (iV ps t) (iV q t):=by
  intro t ht
  by_cases hex:∃ j pj,all[j]?=some pj/\j≠i/\pj.dst=some t
  obtain⟨j,pj,hj,hne,hdst⟩:=hex;obtain⟨hdd,hor⟩:=hspec.2 j pj hj hne t hdst
  have uniq:∀ k pk,all[k]?=some pk->pk.dst=some t->k=j:=by
   intro k pk hk I
   by_cases hkj:k=j
   exact hkj
   exact absurd I ((Ed hchk hk).2 j pj hj (Ne.symm hkj) t hdst).1
  rcases hor ht with ⟨e,he,hb,heq⟩|⟨e,he,hb,heq⟩
  have hlj:listed.getD j true=true:=by
   have:=hall' e he hb
   rwa [heq] at this
  have hji:j<i:=by rw[<- heq];exact hspec.1 e he hb
  have U:=hdone j pj t hj hdst hlj
  have:=h7 t λk pk hk hpk I=>by
   have:=uniq k pk (by simpa using hpk) I;omega
  exact U.trans this.symm
  have hij:i<j:=by rw[<- heq];exact(Ed hchk hj).1 e he hb
  have hju:listed.getD j true=false:=by
   grind
  have hp:=hrest t λk pk hk I=>by
   rw[uniq k pk hk I];exact hju
  have:=h6 t λk pk hk hpk I=>by
   have:=uniq k pk (by simpa using hpk) I;omega
  exact hp.trans this
  have hp:=hrest t λk pk hk I=>by
   by_cases hki:k=i
   rw[hki];exact hun
   exact absurd ⟨k,pk,hk,hki,I⟩ hex
  have:=h6 t λk pk hk hpk I=>hex ⟨k,pk,by simpa using hpk,by omega,I⟩;exact hp.trans this
 have look:∀ t∈o.looksAt all,Eqv (iV ps t) (iV r.e1 t)/\Eqv (iV ps t) (iV r.er t):=λt ht=>⟨(look0 t ht).trans (hS.e1.2 t),(look0 t ht).trans (hS.er.2 t)⟩
 have big_of:∀ (k:Nat) (g:Rec),rs[k]?=some g->∀ b,kT g.δ b≠none->g.big=true:=by
  intro k g J b hb
  cases hbig:g.big with
  | true=>rfl
  | false=>rw[hF.small k g J hbig] at hb;exact absurd rfl hb
 have oper:∀ (k:Nat) (g:Rec),rs[k]?=some g->∃ ok,all[k]?=some ok:=by
  intro k g J
  have:k<all.size:=by
   rw[<- hF.len]
   grind
  exact⟨_,Array.getElem?_eq_getElem this⟩
 have hlk:r.wb=true->∀ b x,r.lk b=some x->iH stx b=some x:=by
  intro hw b x hb;obtain⟨c1,c2,c3⟩:=hF.looks i o r ho hri hw b x hb;rw[hst b,<- c1,Oi rs st i 0 b]
  congr 1
  refine zO _ _ _ _ _ λk g J hkb=>?_;rw[Nat.zero_add,Nat.zero_add];have hbig:=big_of k g J b hkb;obtain⟨ok,hok⟩:=oper k g J;rcases Nat.lt_trichotomy k i with hki|hki|hki
  simp only[hki,decide_true];rcases hF.cls k ok g hok J hbig with ⟨d1,⟨y,d2⟩,_⟩|⟨d1,d2,_⟩
  have hidb:g.id=b:=by
   rw[d2] at hkb;simp only[kT] at hkb
   by_cases hh:g.id=b
   exact hh
   rw[if_neg hh] at hkb;exact absurd rfl hkb
  rcases c2 with c2|c2
  exact befIn k (Gf hchk hki hok ho (by rw[d1,c2];rfl))
  obtain⟨m,om,e1,e2,e3,e4⟩:=c3 c2 k g ok hki J hok hbig d1 hidb;exact befIn k (.trans (Gf hchk e1 hok e3 (by rw[d1,e4];rfl)) (Gf hchk e2 e3 ho (by rw[c2,e4];rfl)))
  exact befIn k (Gf hchk hki hok ho dQ)
  subst hki;simp only[Nat.lt_irrefl,decide_false];exact hun
  have:¬ k<i:=by omega
  simp only[this,decide_false];rcases hF.cls k ok g hok J hbig with ⟨d1,⟨y,d2⟩,_⟩|⟨d1,d2,_⟩
  have hidb:g.id=b:=by
   rw[d2] at hkb;simp only[kT] at hkb
   grind
  have h1:=hkeys i b (by rw[c1];simp);have h2:=(hF.ids k g J hbig).1;have h3:=SE (rs:=rs) (n:=nx) (show i<=k by omega);omega
  exact befOut k (Gf hchk hki ho hok dQ)
 have lastOut:∀ b,kT r.δ b≠none->∀ (k:Nat) (g:Rec),i<k->rs[k]?=some g->listed.getD k true=true->kT g.δ b=none:=by
  intro b hb k g hik J hlk
  by_cases hkb:kT g.δ b=none
  exact hkb
  exfalso
  have hbi:=big_of i r hri b hb;have hbk:=big_of k g J b hkb;obtain⟨ok,hok⟩:=oper k g J
  have no:clash (wO T o) (wO T ok)=true->False:=λhc=>by
   have:=befOut k (Gf hchk hik ho hok hc);rw[hlk] at this;cases this
  rcases hF.cls i o r ho hri hbi with ⟨d1,⟨y,d2⟩,_⟩|⟨d1,d2,_⟩
  rcases hF.cls k ok g hok J hbk with ⟨g1,⟨z,g2⟩,_⟩|⟨g1,_⟩
  have e1:r.id=b:=by
   rw[d2] at hb;simp only[kT] at hb
   by_cases hh:r.id=b
   exact hh
   rw[if_neg hh] at hb;exact absurd rfl hb
  have e2:g.id=b:=by
   rw[g2] at hkb;simp only[kT] at hkb
   grind
  have:=Y7 hik hri hbi (hF.ids i r hri hbi).1 (hF.ids k g J hbk).1;omega
  exact no (by rw[d1,g1];rfl)
  rcases hF.cls k ok g hok J hbk with ⟨g1,⟨z,g2⟩,_⟩|⟨g1,_⟩
  have e2:g.id=b:=by
   rw[g2] at hkb;simp only[kT] at hkb
   by_cases hh:g.id=b
   exact hh
   rw[if_neg hh] at hkb;exact absurd rfl hkb
  have h1:=d2 b (PO _ _ hb);have:=Y7 hik hri hbi (hF.ids i r hri hbi).1 (hF.ids k g J hbk).1;omega
  exact no (by rw[d1,g1];rfl)
 have setD:∀ k,(listed.setIfInBounds i true).getD k true=(if k=i then true else listed.getD k true):=by
  intro k
  by_cases hki:k=i
  subst hki;simp[hilt]
  rw[if_neg hki];exact getD_set_ne true (Ne.symm hki)
 have newSt:∀ stn:St,(∀ b,iH stn b=(match kT r.δ b with|some x=>x|none=>iH stx b))->∀ b,iH stn b=orS st b (lst rs (λk=>(listed.setIfInBounds i true).getD k true) 0 b):=by
  intro stn hstn b;rw[hstn b]
  cases hb:kT r.δ b with
  | none=>
   rw[hst b]
   congr 1
   refine zO _ _ _ _ _ λk g J hkb=>?_
   grind
  | some x=>
   rw[VW rs _ 0 i b r x hri (by rw[Nat.zero_add,setD,if_pos rfl]) hb λk g hik J hlk=>?_]
   rfl
   grind
 have after:r.nd=false->∀ cv w' Y' σ' qs stn,Ap ps qs->SW C w' Y' σ' qs a.tmps.toList stn n->(∀ b,iH stn b=(match kT r.δ b with|some x=>x|none=>iH stx b))->(∀ (j:Nat) (rj:Rec),j≠i->rs[j]?=some rj->rj.big=true->∀ b,rj.id<=b->b<rj.id+32->σ b=none->σ' b=none)->Rep w' Y' σ' r.v cv->K (a.put o.dst cv) w':=by
  intro hnd0 cv w' Y' σ' qs stn hq H' hstn hfr hv;refine hK (λr' hr'=>by rw[hri] at hr';cases hr';exact hnd0) _ _ ⟨DF.put hd _ _,Y',σ',CG qs o.dst r.v,stn,H'.CG hv o.dst,by rw[vC,<- hq.1,hlen],?_,?_,newSt stn hstn,?_⟩
  intro j oj t hj hdst hlj;rw[GN hun] at hlj
  by_cases hji:j=i
  subst hji;rw[ho] at hj;cases hj
  by_cases hlt:t<qs.length
  rw[hdst];simp only[CG,yh];rw[if_pos ⟨trivial,hlt⟩];refine h8 t hdst (by rw[<- hlen,hq.1];exact hlt) λk pk hk hpk I=>?_;exact absurd hdst ((Ed hchk ho).2 k pk (by simpa using hpk) ae t I).1
  rw[DK (by rw[vC];exact Nat.le_of_not_lt hlt),DK (by rw[aii,<- hlen,hq.1];exact Nat.le_of_not_lt hlt)];exact Eqv.refl _
  have hne:=(hspec.2 j oj hj hji t hdst).1;rw[DL hne];rcases hlj with h|h
  exact absurd h hji
  exact(hq.2 t).symm.trans (hdone j oj t hj hdst h)
  intro t ht
  have hne:o.dst≠some t:=λe=>by
   have:=ht i o ho e;rw[(GN hun).2 (.inl rfl)] at this;cases this
  rw[DL hne];refine(hq.2 t).symm.trans (hrest t λk pk hk I=>?_)
  grind
  grind
 have q1:=XY (sl:=o.looksAt all) (er:=r.e1) (ps:=ps) λt ht=>(look t ht).1;have q2:=XY (sl:=o.looksAt all) (er:=r.er) (ps:=ps) λt ht=>(look t ht).2;have l1:r.e1.length=ps.length:=by rw[<- hS.e1.1,hlen];assumption
 have l2:r.er.length=ps.length:=by rw[<- hS.er.1,hlen];assumption
 have hwb:=hS.gd C _ Y σ a w stx n (Ur l1) (H.qU (H.vals.eqv q1)) hd;unfold wpOp;simp only[ho]
 cases hw:r.wb with
 | true=>
  rw[hw] at hwb;rw[if_pos hwb]
  cases hnd:r.nd with
  | true=>
   obtain⟨g1,g2,g3,g4⟩:=hND o r ho hri hnd
   have hoth:∀ k,k≠i->listed.getD k true=true:=λk hk=>by
    grind[aaY]
   have hq:Ap ps q:=⟨by rw[hlen];exact qlen.symm,λt=>by
    by_cases hex:∃ j pj,all[j]?=some pj/\j≠i/\pj.dst=some t
    obtain⟨j,pj,hj,hne,hdst⟩:=hex;have U:=hdone j pj t hj hdst (hoth j hne)
    have:=h7 t λk pk hk hpk I=>by
     grind
    exact U.trans this.symm
    have hp:=hrest t λk pk hk I=>by
     grind
    have:=h6 t λk pk hk hpk I=>hex ⟨k,pk,by simpa using hpk,by omega,I⟩;exact hp.trans this⟩
   have H1:SW C w Y σ r.er a.tmps.toList (Aq rs st i) n:=(H.qU (H.vals.eqv (hq.trans hS.er))).ext λb x hb=>by
    rw[hst b,<- hb,Oi rs st i 0 b]
    congr 1
    refine zO _ _ _ _ _ λk g J _=>?_
    grind
   have hb:=(hS.ndw hnd).2;obtain⟨i1,i2,i3⟩:=hF.ids i r hri hb;obtain⟨v',δ',cv,w',Y',σ',hk,hrun,H',hv,hoff⟩:=yV hT hW H1 (λb x h=>h) ⟨hfree i r hri hun hb r.id (Nat.le_refl _) ae,Nat.le_trans hpas i2⟩ g4
   cases hlt:ltD (r.id+32) δ' with
   | false=>rw[hlt] at hk;exact hk.elim
   | true=>
    rw[hlt] at hk;have hn:uI δ' n r.id<=n:=by cases δ'<;>simp[uI]<;>omega
    have:=hEnd (a.put o.dst cv) w' _ (λk=>by
     grind) ⟨⟨Y',σ',by rw[<- g3];exact(H'.mono hn).CG hv o.dst⟩,DF.put hd _ _⟩ hk
    refine .inl ?_;unfold Oper.wp;rcases hrun with hrun|⟨hrun,rfl⟩
    rw[hrun];exact this
    rw[hrun];exact this
  | false=>
  refine .inl (hS.sem hw hnd C _ Y σ a w stx n (Ur l2) (H.qU (H.vals.eqv q2)) hd (hlk hw) (λhb=>?_) K Q λcv w' Y' σ' H' hoff hsame hv=>?_)
  obtain⟨g1,g2,g3⟩:=hF.ids i r hri hb;exact⟨hfree i r hri hun hb,Nat.le_trans hpas g2,g3⟩
  refine after hnd cv w' Y' σ' _ _ q2 H' (λb=>yt _ _ _) (λj rj hji hrj hbj b hb1 hb2 hn=>?_) hv
  cases hb:r.big with
  | false=>rw[hsame hb];exact hn
  | true=>
   rw[hoff _ ?_];· exact hn
   have e1:=(hF.ids i r hri hb).1;have e2:=(hF.ids j rj hrj hbj).1;rcases Nat.lt_or_ge i j with hij|hij
   have:=Y7 hij hri hb e1 e2;omega
   have:=Y7 (show j<i by omega) hrj hbj e2 e1;omega
 | false=>
  rw[hw] at hwb;rw[if_neg (by rw[hwb];simp)]
  have hδ:r.δ=[]:=by
   rcases hS.cls with ⟨_,h,_⟩|⟨h,_⟩|⟨h,_⟩<;>grind
  refine after (by cases h:r.nd with|false=>rfl|true=>rw[(hS.ndw h).1] at hw;cases hw) _ w Y σ ps stx (Ap.refl _) H (λb=>by rw[hδ];rfl) (λ_ _ _ _ _ _ _ _ h=>h) (by rw[hS.skip hw];simp[Rep])
theorem Xl {all:Array Oper}(J:GG T all=true){listed:Array Bool}(hsz:listed.size=all.size)(hr:Region.ready .any all listed=[]):∀ j,listed.getD j true=true:=by
 intro j
 induction j using Nat.strongRecOn with
 | _ j ih=>
  cases h:listed.getD j true with
  | true=>rfl
  | false=>
   have I:j<listed.size:=by
    grind
   have hj:all[j]?=some all[j]:=Array.getElem?_eq_getElem ae
   have:j∈Region.ready .any all listed:=mem_ready.2 ⟨h,_,hj,λe t C=>by
    grind[Ed]⟩
   grind
theorem count_set {listed:Array Bool}{i k:Nat}(hi:listed.getD i true=false)(h:listed.toList.count false=k+1):(listed.setIfInBounds i true).toList.count false=k:=by
 have T:i<listed.size:=by
  grind
 simp_all[List.count_set]
theorem af1 (hT:iK P T)(hW:CY P){KE:Env->Prop}{C:Ctx T}{all:Array Oper}{rs:List Rec}{st:St}{nx n:Nat}{p f:List PV}{stf:St}(g:GG T all=true)(I:ChD P T all all.toList rs p st nx [] f stf n)(hF:Facts P T all rs st nx n)(hpas:T.oZ<=nx)(hkeys:∀ i b,iH (Aq rs st i) b≠none->b<CJ rs nx i){Q:Exit->Act->World->Prop}
  (hfin:aci P T all KE all.toList rs st f stf n)
  (hQ:∀ E a w,kL C E a w->KE E->Q .normal a w):∀ (fuel:Nat) (listed:Array Bool) (a:Act) (w:World),listed.size=all.size->listed.toList.count false=fuel ->
   (∀ j o,all[j]?=some o->listed.getD j true=true->∀ e∈o.after,Region.binds .any e=true->listed.getD e.on true=true) ->
   (∀ (j:Nat) (r:Rec),rs[j]?=some r->r.nd=true->listed.getD j true=false) ->
   adC C all rs st n p f listed a w->wpAny P .any all Q fuel listed a w:=by
 have hgetF:=hfin.get
 have fin:∀ (listed:Array Bool) (a:Act) (w:World),listed.size=all.size->(∀ (j:Nat) (r:Rec),rs[j]?=some r->r.nd=true->listed.getD j true=false)->adC C all rs st n p f listed a w->Region.ready .any all listed=[]->Q .normal a w:=by
  intro listed a w hsz hu hs hr;have hl:=Xl g hsz hr
  have hKE:KE ⟨f,stf,n⟩:=by
   grind
  obtain⟨hd,Y,σ,ps,stx,H,hlen,hdone,hrest,hst,_⟩:=hs;have H1:SW C w Y σ f a.tmps.toList stx n:=H.qU (H.vals.eqv ⟨by rw[hlen,(I.len _ _).2],λt=>?_⟩)
  refine hQ _ a w ⟨⟨Y,σ,H1.ext λb x hb=>?_⟩,hd⟩ hKE;rw[hst b,<- hb,(I.fin _ _).1,Oi rs st rs.length 0 b]
  congr 1
  refine zO _ _ _ _ _ λk rk hrk _=>?_
  grind
  by_cases hex:∃ (j:Nat) (o:Oper),all[j]?=some o/\o.dst=some t
  grind
  refine(hrest t λj o hj hdst=>absurd ⟨j,o,hj,hdst⟩ hex).trans (I.keep _ _ λo ho hdst=>?_)
  grind[List.getElem?_of_mem]
 intro fuel
 induction fuel with
 | zero=>
  intro listed a w hsz hc J hu hs
  have hr:Region.ready .any all listed=[]:=by
   rw[List.eq_nil_iff_forall_not_mem];intro i hi;have hun:=(mem_ready.1 hi).1
   have hlt:i<listed.size:=by
    grind
   have hget:listed[i]=false:=by simpa [hlt] using hun
   grind[List.count_eq_zero]
  exact⟨hr,fin listed a w hsz hu hs hr⟩
 | succ fuel ih=>
  intro listed a w hsz hc J hu hs;refine⟨fin listed a w hsz hu hs,λi hi=>?_⟩;have hun:=(mem_ready.1 hi).1;refine ack hT hW (KE:=KE) g I hF hpas hsz J hkeys hs hi (λo r ho hr hn=>?_) (λa' w' E hall hA hE=>?_) λhnd a' w' hs'=>ih _ a' w' (by simpa using hsz) (count_set hun hc) ?_ (λj r hj hn=>?_) hs'
  grind
  have hrn:Region.ready .any all (listed.setIfInBounds i true)=[]:=by
   simp_all[List.eq_nil_iff_forall_not_mem,mem_ready]
  cases fuel with
  | zero=>exact⟨hrn,hQ E a' w' hA hE⟩
  | succ fuel=>exact⟨λ_=>hQ E a' w' hA hE,λk hk=>by grind⟩
  rotate_left
  by_cases hji:j=i<;>simp_all[Ne.symm]
  grind[GN,mem_ready]
theorem V3 {n:Nat}:∀ (st:St),ltS n st=true->∀ b,iH st b≠none->b<n
 | [],_,b,h=>absurd rfl h
 | (c,x)::st,h,b,hb=>by
  simp only[ltS,Bool.and_eq_true,Nat.blt_eq] at h;simp only[iH] at hb
  by_cases hc:c=b
  grind
  rw[VF hc] at hb;exact V3 st h.2 b hb
theorem acm (hT:iK P T)(hW:CY P){id:Nat}{l:Array Oper}{E:Env}{K:Env->Prop}(g:GG T l=true)(J:ltS E.next E.st=true)(h:ab5 T (gV.jd P T) l l.toList [] E K) :
  ∀ (C:Ctx T) a w,kL C E a w->∀ Q:Exit->Act->World->Prop,(∀ E' a' w',kL C E' a' w'->K E'->Q .normal a' w')->(Code.region id l true).wp P Q a w:=by
 intro C a w hA Q hQ;obtain⟨rs,f,stf,nxf,I,hK⟩:=GL hT hW _ _ _ _ h;obtain⟨⟨Y,σ,H⟩,hd⟩:=hA;have J:=V3 _ J;have hF:=af0 I J;have hle:E.next<=nxf:=by rw[(I.fin _ _).2];exact PN _ _ _
 have hrep:∀ j,j<l.size->(Array.replicate l.size false).getD j true=false:=λj hj=>by simp[hj]
 have hno:∀ j o,l[j]?=some o->(Array.replicate l.size false).getD j true=true->False:=by
  grind
 refine wp_region_any hW.mixed (af1 hT hW g I hF H.fix.1 (VY _ _ I J) (C:=C) hK (λE a' w' hA' hE=>hQ _ a' w' hA' hE) l.size _ a _ aF ?_ ?_ (λj r hr hn=>hrep j ?_) ?_)
 simp
 grind
 rw[<- hF.len]
 grind
 refine⟨hd,Y,σ,E.tmps,E.st,(H.drawn _).mono hle,rfl,?_,λt _=>Eqv.refl _,λb=>?_,λj r hr _ hb=>?_⟩
 grind
 rw[J4 _ _ _ _ λk r hr hD=>?_];· rfl
 rw[Nat.zero_add] at hD
 have:k<l.size:=by
  rw[<- hF.len]
  grind
 grind
 exact λb hb1 _=>H.next b (Nat.le_trans (hF.ids j r hr hb).2.1 hb1)
end
end Go.Pv
namespace Go.Pv
open Go
def Y8 (o:Obj):Prop:=(∀ arr ty,o≠.cells arr ty (0,0))/\∀ es ck,o≠.map es ck
theorem Ez.cells {w:World}{Y:Nat->Prop}{σ:Sg}{st:St}(hs:ET w Y σ st){k:Nat}(h:Ez σ st k):(∃ arr ty,w.heap[k]?=some (.cells arr ty (0,0)))\/∃ J I,w.heap[k]?=some (.map J I):=by
 obtain⟨b,x,l,h1,h2,rfl⟩:=h;rcases hs.blk b x h1 with ⟨l',T,hB⟩|⟨t,_⟩
 rw[h2] at T;cases T;cases x<;>(unfold fF at hB;first|(obtain⟨arr,ty,C,_⟩:=hB.1.blk;exact .inl ⟨arr,ty,C⟩)|grind)
 grind
theorem SW.kept {T' : Tab}{w w' : World}{Y Y' : Nat->Prop}{σ σ' : Sg}{qs:List PV}{us:List Value}{st st' : St}{I : Nat}(hs:ET w Y σ st)(H' : SW (yg T' w Y σ st) w' Y' σ' qs us st' I){k:Nat}{o:Obj}(ho:w.heap[k]?=some o)(hc:Y8 o):w'.heap[k]?=some o/\(Y k->Y' k):=by
 have J:k<w.heap.size:=(Array.getElem?_eq_some_iff.1 ho).1
 have T:¬ Ez σ st k:=λh=>by
  rcases h.cells hs with ⟨arr,ty,h1⟩|⟨C,t,h1⟩
  rw[ho] at h1;cases h1;exact hc.1 arr ty rfl
  rw[ho] at h1;cases h1;exact hc.2 C t rfl
 exact⟨by rw[H'.pJ.block k J λh=>T h.2];exact ho,λhy=>H'.y0 k ⟨hy,T⟩⟩
theorem MQ.step {B:Nat}{T' : Tab}{D:List Nat}{w w' : World}{Y Y' : Nat->Prop}{σ σ' : Sg}{qs:List PV}{us:List Value}{st st' : St}{T : Nat}(h:MQ B D w Y)(hs:ET w Y σ st)(H' : SW (yg T' w Y σ st) w' Y' σ' qs us st' T):MQ B D w' Y' :=
 ⟨h.1,λr hr=>by
  obtain⟨h0,h1,h2⟩:=h.2 r hr;obtain⟨I,J⟩:=H'.kept hs h2 ⟨λ_ _ e=>bM,λ_ _ e=>bM⟩
  grind⟩
def NNs (st:St):Prop:=∀ b sz rows,iH st b≠some (.lq sz rows)
def af2 (P:Program)(T:Tab)(all:Array Oper)(o:Oper)(er:List PV)(lk:Nat->Option lI)(id m:Nat)(v:PV)(δ:Dl):Prop := ∀ (C:Ctx T) ps Y σ (a:Act) w st n,(∀ t∈o.looksAt all,iV ps t=iV er t)->SW C w Y σ ps a.tmps.toList st n->NNs st->(∀ b x,lk b=some x->iH st b=some x) -> (∀ b,id<=b->b<id+m->σ b=none/\iH st b=none)->T.oZ<=id->id+m<=n->∀ next Q,(∀ cv w' Y' σ' st',SW C w' Y' σ' ps a.tmps.toList st' n->(∀ b,iH st' b=(match kT δ b with|some x=>x|none=>iH st b)) -> (∀ b,(b<id\/id+m<=b)->σ' b=σ b)->Rep w' Y' σ' v cv->(∀ B D,MQ B D w Y->MQ B D w' Y')->next (a.put o.dst cv) w')->o.wp P a w next Q
def ak7 (T:Tab)(all:Array Oper)(o:Oper)(er:List PV)(wb:Bool):Prop := ∀ (C:Ctx T) ps Y σ (a:Act) w st n,(∀ t∈o.looksAt all,iV ps t=iV er t)->SW C w Y σ ps a.tmps.toList st n->Region.wanted o (yielded all a.tmps)=wb
structure acn (P:Program)(T:Tab)(all:Array Oper)(o:Oper)(r:Rec)(p:List PV)(st:St)(nx m:Nat):Prop where
 id:r.id=nx
 gd:ak7 T all o p r.wb
 sem:r.wb=true->af2 P T all o p r.lk nx m r.v r.δ
 skip:r.wb=false->r.v=.undef/\r.δ=[]
 lk:∀ b x,r.lk b=some x->iH st b=some x
 key:∀ b,kT r.δ b≠none->(nx<=b/\b<nx+m)\/iH st b≠none
 nn:∀ b sz rows,kT r.δ b≠some (some (.lq sz rows))
def ChF (P:Program)(T:Tab)(all:Array Oper):List Oper->List Rec->List PV->St->Nat->List PV->St->Nat->Prop
 | [],[],p,st,nx,f,stf,nxf=>p=f/\st=stf/\nx=nxf
 | o::l,r::rs,p,st,nx,f,stf,nxf=>∃ m,acn P T all o r p st nx m/\ChF P T all l rs (CG p o.dst r.v) (jf r.δ st) (nx+m) f stf nxf
 | _,_,_,_,_,_,_,_=>False
theorem Y9 {a b:Bool}(h:(a&&b)=true):a=true/\b=true:=by grind
theorem QB:∀ (l:List Nat) (b:Nat),Xh l b=true↔b∈l
 | [],b=>by simp;rfl
 | c::l,b=>by
  have e:Xh (c::l) b=Bool.rec (motive:=λ_=>Bool) (Xh l b) true (Nat.beq c b):=rfl;rw[e]
  by_cases h:c=b
  subst h;simp
  rw[VF h];show Xh l b=true↔_;rw[QB l b];simp[Ne.symm h]
section
variable {P:Program}{T:Tab}
theorem SW.QC {C:Ctx T}{w:World}{Y:Nat->Prop}{σ:Sg}{ps:List PV}{vs:List Value}{st:St}{n:Nat}(H:SW C w Y σ ps vs st n)(J:NNs st):SW (yg T w Y σ st) w Y σ ps vs st n :=
 ⟨H.vals,H.store,H.next,H.vJ,λ_ h=>h.1,λk h=>⟨H.vJ k h.1,h.2⟩,λk h _=>by
  by_cases hi:Ez σ st k
  exact .inr ⟨h,hi⟩
  exact .inl ⟨h,hi⟩,ML.refl _ w,λb x l h1 h2=>.inr ⟨b,x,l,h1,h2,rfl⟩,H.wQ,⟨H.fix.1,λ_ _=>rfl⟩,Am.none J⟩
theorem SW.J5 {C:Ctx T}{w w' : World}{Y Y' : Nat->Prop}{σ σ' : Sg}{ps qs:List PV}{vs us:List Value}{st st' : St}{n t : Nat}(H:SW C w Y σ ps vs st n)
  (H' : SW (yg T w Y σ st) w' Y' σ' qs us st' t):SW C w' Y' σ' qs us st' t:=by
 have excl:∀ k,k<w.heap.size->Y' k->Y k:=by
  intro k hk hy;rcases H'.wP k hy hk with h|h
  exact h.1
  exact h.1
 have away:∀ k,C.Y0 k->¬ Ez σ st k:=λk hk ⟨b,x,l,h1,h2,h3⟩=>H.away h1 h2 (h3 ▸ hk)
 have old:∀ k,(w.heap.size<=k\/Ez σ st k)->C.w0.heap.size<=k\/C.L k:=λk h=>by
  rcases h with h|⟨b,x,l,h1,h2,h3⟩
  exact .inl (Nat.le_trans H.pJ.size h)
  rw[<- h3];exact H.own b x l h1 h2
 refine⟨H'.vals,H'.store,H'.next,H'.vJ,λk hk=>H'.y0 k ⟨H.y0 k hk,away k hk⟩,H.c0,λk hk J=>H.wP k (excl k (Nat.lt_of_lt_of_le J H.pJ.size) hk) J,?_,λb x l h1 h2=>old _ (H'.own b x l h1 h2),H'.wQ,⟨H'.fix.1,λb I=>?_⟩,?_⟩
 refine⟨by rw[H'.pJ.os];exact H.pJ.os,by rw[H'.pJ.tape];exact H.pJ.tape,by rw[H'.pJ.output];exact H.pJ.output,Nat.le_trans H.pJ.size H'.pJ.size,λk hk hM=>?_⟩;rw[H'.pJ.block k (Nat.lt_of_lt_of_le hk H.pJ.size) λh=>?_]
 exact H.pJ.block k hk hM
 obtain⟨h1,h2⟩:=h;rcases H.wP k h1 hk with h3|h3<;>grind
 rw[H'.fix.2 b I];exact H.fix.2 b I
 exact⟨H'.nest.rep,λb r c h sz g k=>old _ (H'.nest.old b r c h sz g k),H'.nest.one,H'.nest.sep⟩
def ajP (r:Rec)(tc:Tc):Prop:=(∀ b,r.lk b≠none->b∈tc.1)/\(∀ b,kT r.δ b≠none->b∈tc.2.2)/\(∀ b∈tc.2.2,b∈tc.2.1)
theorem SI:∀ (l m:List Nat),meets l m=true↔∃ b,b∈l/\b∈m
 | [],m=>by
  constructor;· intro h;cases h
  grind
 | c::l,m=>by
  have e:meets (c::l) m=Bool.rec (motive:=λ_=>Bool) (meets l m) true (Xh m c):=rfl;rw[e]
  cases hc:Xh m c with
  | true=>exact⟨λ_=>⟨c,by simp,(QB _ _).1 hc⟩,λ_=>rfl⟩
  | false=>
   show meets l m=true↔_;rw[SI l m];constructor
   grind
   rintro⟨b,h1,h2⟩
   rcases List.mem_cons.1 h1 with rfl|h1
   grind[QB]
   grind
theorem X3 {B:List (List Nat)}{i:Nat}{x:Tc}:∀ (l:List Tc) (k:Nat),afx B i x l k=true->∀ (j:Nat) (y:Tc),l[j]?=some y->pairT B i (k+j) x y=true
 | [],k,h,j,y,hj=>by simp at hj
 | z::l,k,h,0,y,hj=>by
  simp_all[afx]
 | z::l,k,h,j+1,y,hj=>by
  unfold afx at h;have:=X3 l (k+1) (Y9 h).2 j y dM
  grind
theorem X4 {B:List (List Nat)}:∀ (l:List Tc) (i:Nat),aer B l i=true->∀ (a b:Nat) (x y:Tc),a<b->l[a]?=some x->l[b]?=some y->pairT B (i+a) (i+b) x y=true
 | [],i,h,a,b,x,y,_,ha,_=>by simp at ha
 | z::l,i,h,0,b+1,x,y,_,ha,hb=>by
  simp at ha;subst ha;unfold aer at h;have:=X3 l (i+1) (Y9 h).1 b y (by simpa using hb)
  grind
 | z::l,i,h,a+1,b+1,x,y,hab,ha,hb=>by
  unfold aer at h;have:=X4 l (i+1) (Y9 h).2 a b x y ae (by simpa using ha) (by simpa using hb)
  grind
 | z::l,i,h,_,0,x,y,hab,_,_=>by omega
theorem aco {all:Array Oper}{i k:Nat}{J T:Rec}{x y:Tc}(hx:ajP J x)(hy:ajP T y)(h:pairT (Vz all.toList []) i k x y=true)
  (hc:∃ b,(kT J.δ b≠none/\(T.lk b≠none\/kT T.δ b≠none))\/(J.lk b≠none/\kT T.δ b≠none)):Bef all i k:=by
 have key:(meets x.2.2 y.1 || (meets x.2.2 y.2.2 || meets y.2.2 x.1))=true:=by
  obtain⟨b,h1⟩:=hc;simp only[Bool.or_eq_true,SI];rcases h1 with ⟨h1,h2|h2⟩|⟨h1,h2⟩
  exact .inl ⟨b,hx.2.1 b h1,hy.1 b h2⟩
  exact .inr (.inl ⟨b,hx.2.1 b h1,hy.2.1 b h2⟩)
  exact .inr (.inr ⟨b,hy.2.1 b h2,hx.1 b h1⟩)
 have sup:(meets x.2.1 y.1 || (meets x.2.1 y.2.1 || meets y.2.1 x.1))=true:=by
  simp only[Bool.or_eq_true,SI] at key |-;rcases key with ⟨b,h1,h2⟩|⟨b,h1,h2⟩|⟨b,h1,h2⟩
  exact .inl ⟨b,hx.2.2 b h1,h2⟩
  exact .inr (.inl ⟨b,hx.2.2 b h1,hy.2.2 b h2⟩)
  exact .inr (.inr ⟨b,hy.2.2 b h1,h2⟩)
 unfold pairT at h;rw[sup,key] at h;simp only at h
 have h:Xh (CQ (Vz all.toList []) k) i=true:=by
  cases hh:Xh (CQ (Vz all.toList []) k) i with
  | true=>rfl
  | false=>rw[hh] at h;cases h
 grind[KT,CQ,QB]
theorem Ff {all:Array Oper}(h:Gz all all.toList 0=true){i:Nat}{o:Oper}(hi:all[i]?=some o) :
  (∀ e∈o.after,Region.binds .any e=true->e.on<i)/\∀ (j:Nat) (p:Oper),all[j]?=some p->j≠i->∀ d,p.dst=some d->o.dst≠some d /\
   (d∈o.looksAt all->(∃ e∈o.after,Region.binds .any e=true/\e.on=j)\/(∃ e∈p.after,Region.binds .any e=true/\e.on=i)):=by
 obtain⟨h1,h2⟩:=Nb all.toList 0 h i o bH;rw[Nat.zero_add] at h1 h2;refine⟨h1,λj p C I d t=>?_⟩;have:=h2 j p C;have T:Nat.beq i j=false:=VF λe=>I e.symm;simp only[Vw,T,t,Bool.false_or,Bool.and_eq_true,Bool.or_eq_true,bne_iff_ne,ne_eq,Bool.not_eq_true',List.contains_eq_mem,decide_eq_false_iff_not] at this;refine⟨this.1,λhm=>?_⟩;rcases this.2 with (hh|hh)|hh
 grind
 obtain⟨e,g,J⟩:=Array.any_eq_true'.1 hh;simp only[Bool.and_eq_true] at J
 grind[Nat.eq_of_beq_eq_true]
 obtain⟨e,g,J⟩:=Array.any_eq_true'.1 hh;simp only[Bool.and_eq_true] at J
 grind[Nat.eq_of_beq_eq_true]
theorem ChF.len {all:Array Oper}:∀ (l:List Oper) (rs:List Rec) {p:List PV} {st:St} {nx:Nat} {f:List PV} {I:St} {J:Nat},ChF P T all l rs p st nx f I J->rs.length=l.length/\f.length=p.length/\nx<=J
 | [],[],_,_,_,_,_,_,h=>⟨rfl,by rw[h.1],by rw[h.2.2];grind⟩
 | o::l,r::rs,_,_,_,_,_,_,⟨m,h,h'⟩=>by
  obtain⟨h1,h2,C⟩:=ChF.len l rs h'
  grind[vC]
 | [],_::_,_,_,_,_,_,_,h=>h.elim
 | _::_,[],_,_,_,_,_,_,h=>h.elim
theorem ChF.keep {all:Array Oper}{t:Nat}:∀ (l:List Oper) (rs:List Rec) {p:List PV} {st:St} {nx:Nat} {f:List PV} {I:St} {J:Nat},ChF P T all l rs p st nx f I J->(∀ o∈l,o.dst≠some t)->iV p t=iV f t
 | [],[],_,_,_,_,_,_,h,_=>by rw[h.1]
 | o::l,r::rs,_,_,_,_,_,_,⟨m,h,h'⟩,hn=>by
  have:=ChF.keep l rs h' λo ho=>hn o (by simp[ho])
  grind[DL]
 | [],_::_,_,_,_,_,_,_,h,_=>h.elim
 | _::_,[],_,_,_,_,_,_,h,_=>h.elim
def idA (rs:List Rec)(nxf:Nat)(i:Nat):Nat:=match rs[i]? with|some r=>r.id|none=>nxf
theorem ChF.get {all:Array Oper}:∀ (l:List Oper) (rs:List Rec) {p:List PV} {st:St} {nx:Nat} {f:List PV} {I:St} {J:Nat},ChF P T all l rs p st nx f I J->∀ (i:Nat) (o:Oper),l[i]?=some o ->
  ∃ r q m,rs[i]?=some r/\q.length=p.length/\acn P T all o r q (Aq rs st i) (idA rs J i) m/\idA rs J (i+1)=idA rs J i+m/\nx<=idA rs J i /\
   (∀ t,(∀ j oj,j<i->l[j]?=some oj->oj.dst≠some t)->iV p t=iV q t) /\
   (∀ t,(∀ j oj,i<=j->l[j]?=some oj->oj.dst≠some t)->iV q t=iV f t) /\
   (∀ d,o.dst=some d->d<p.length->(∀ j oj,i<j->l[j]?=some oj->oj.dst≠some d)->r.v=iV f d)
 | [],_,_,_,_,_,_,_,_,i,o,hi=>by simp at hi
 | _::_,[],_,_,_,_,_,_,h,_,_,_=>h.elim
 | o'::l,r::rs,p,st,nx,f,I,J,⟨m,h1,h6⟩,0,o,hi=>by
  simp at hi;subst hi;have hid:idA (r::rs) J 0=nx:=by simp[idA,h1.id]
  have g:idA (r::rs) J 1=nx+m:=by
   cases l with
   | nil=>cases rs with
    | nil=>simp[idA,h6.2.2]
    | cons _ _=>exact h6.elim
   | cons o2 l=>cases rs with
    | nil=>exact h6.elim
    | cons r2 rs=>obtain⟨m2,h7,_⟩:=h6;simp[idA,h7.id]
  refine⟨r,p,m,rfl,rfl,by rw[hid];exact h1,by rw[hid,g],by grind,λt _=>rfl,λt C=>?_,λd hd hlt hn=>?_⟩
  have hk:=ChF.keep l rs h6 (t:=t) λo ho=>by
   grind[List.getElem?_of_mem]
  rw[DL (C 0 o' ae aF)] at hk;exact hk
  have hk:=ChF.keep l rs h6 (t:=d) λo ho=>by
   obtain⟨j,hj⟩:=List.getElem?_of_mem ho;exact hn (j+1) o ae dM
  simp_all[CG,yh]
 | o'::l,r::rs,p,st,nx,f,I,J,⟨m,h1,h6⟩,i+1,o,hi=>by
  obtain⟨r',q,m',a0,a1,a2,a3,a4,a6,a7,a8⟩:=ChF.get l rs h6 i o bH;have hl:(CG p o'.dst r.v).length=p.length:=by rw[vC]
  have e1:∀ j,idA (r::rs) J (j+1)=idA rs J j:=λj=>by simp[idA]
  refine⟨r',q,m',by simpa using a0,by rw[a1,hl],by rw[e1];exact a2,by grind,by rw[e1];omega,λt C=>?_,λt C=>?_,λd hd hlt hn=>?_⟩
  have hk:=a6 t λj oj hj hoj=>C (j+1) oj ae dF;rw[DL (C 0 o' ae aF)] at hk;exact hk
  exact a7 t λj oj hj hoj=>C (j+1) oj ae dF
  exact a8 d hd ak λj oj hj hoj=>hn (j+1) oj ae dF
theorem ChF.fin {all:Array Oper}:∀ (l:List Oper) (rs:List Rec) {p:List PV} {st:St} {nx:Nat} {f:List PV} {J:St} {I:Nat},ChF P T all l rs p st nx f J I->J=Aq rs st rs.length
 | [],[],_,_,_,_,_,_,h=>h.2.1.symm
 | o::l,r::rs,_,_,_,_,_,_,⟨m,h,h'⟩=>ChF.fin l rs h'
 | [],_::_,_,_,_,_,_,_,h=>h.elim
 | _::_,[],_,_,_,_,_,_,h=>h.elim
structure KW (P:Program)(T:Tab)(all:Array Oper)(rs:List Rec)(p:List PV)(st:St)(nx:Nat)(f:List PV)(n:Nat):Prop where
 chk:Gz all all.toList 0=true
 len:rs.length=all.size
 get:∀ (i:Nat) (o:Oper),all[i]?=some o->∃ r q m,rs[i]?=some r/\q.length=p.length/\acn P T all o r q (Aq rs st i) (idA rs n i) m/\idA rs n (i+1)=idA rs n i+m/\nx<=idA rs n i /\
   (∀ t,(∀ j oj,j<i->all[j]?=some oj->oj.dst≠some t)->iV p t=iV q t) /\
   (∀ t,(∀ j oj,i<=j->all[j]?=some oj->oj.dst≠some t)->iV q t=iV f t) /\
   (∀ d,o.dst=some d->d<p.length->(∀ j oj,i<j->all[j]?=some oj->oj.dst≠some d)->r.v=iV f d)
 aii:f.length=p.length
 keep:∀ t,(∀ o∈all.toList,o.dst≠some t)->iV p t=iV f t
 old:∀ b,nx<=b->iH st b=none
 clash:∀ (i k:Nat) (ri rk:Rec),i<k->rs[i]?=some ri->rs[k]?=some rk->(∃ b,(kT ri.δ b≠none/\(rk.lk b≠none\/kT rk.δ b≠none))\/(ri.lk b≠none/\kT rk.δ b≠none))->Bef all i k
theorem KW.oper {all:Array Oper}{rs:List Rec}{p:List PV}{st:St}{nx:Nat}{f:List PV}{n:Nat}(F:KW P T all rs p st nx f n){k:Nat}{J:Rec}(h:rs[k]?=some J):∃ ok,all[k]?=some ok:=by
 have:k<all.size:=by
  rw[<- F.len]
  grind
 simp_all
theorem KW.mono {all:Array Oper}{rs:List Rec}{p:List PV}{st:St}{nx:Nat}{f:List PV}{n:Nat}(F:KW P T all rs p st nx f n):∀ {i j:Nat},i<=j->j<=all.size->idA rs n i<=idA rs n j:=by
 intro i j h
 induction h with
 | refl=>grind
 | step h ih=>
  rename_i m;intro I;have h1:=ih ae;obtain⟨r,q,J,_,_,_,h2,_⟩:=F.get m _ (Array.getElem?_eq_getElem ae);rw[h2];omega
theorem KW.dom {all:Array Oper}{rs:List Rec}{p:List PV}{st:St}{nx:Nat}{f:List PV}{n:Nat}(F:KW P T all rs p st nx f n){j:Nat}{rj:Rec}(hj:rs[j]?=some rj){b:Nat}(h1:idA rs n j<=b)(h2:b<idA rs n (j+1)):∀ i,i<=all.size->iH (Aq rs st i) b≠none->j<i/\kT rj.δ b≠none:=by
 have t:j<all.size:=by
  obtain⟨o,ho⟩:=F.oper hj
  grind
 intro i
 induction i with
 | zero=>
  intro _ h
  exfalso
  obtain⟨_,_,_,_,_,_,_,h3,_⟩:=F.get j _ (Array.getElem?_eq_getElem t);have C:=F.old b ae
  grind[Aq]
 | succ i ih=>
  intro hi h;obtain⟨I,q,m,g,_,hS,hm,_⟩:=F.get i _ (Array.getElem?_eq_getElem ae)
  have J:∀ (rs:List Rec) (st:St) (i:Nat) (I:Rec),rs[i]?=some I->Aq rs st (i+1)=jf I.δ (Aq rs st i):=by
   intro rs
   induction rs with
   | nil=>grind
   | cons r rs ih=>
    intro st i I h;cases i<;>simp_all[Aq]
  rw[J rs st i I g,yt] at h
  have old:iH (Aq rs st i) b≠none->j<i+1/\kT rj.δ b≠none:=λh=>by
   grind
  cases hl:kT I.δ b with
  | none=>grind
  | some x=>
   rcases hS.key b (by rw[hl];simp) with h3|h3
    
   have hij:i=j:=by
    rcases Nat.lt_trichotomy i j with C|C|C
    have:=F.mono (i:=i+1) (j:=j) ae ae;omega
    exact C
    have:=F.mono (i:=j+1) (j:=i) ae ae;omega
   grind
   exact old h3
def Za {T:Tab}(C:Ctx T)(all:Array Oper)(rs:List Rec)(st:St)(n:Nat)(p f:List PV)(D:List Nat)(dl:List Deferred)(listed:Array Bool)(a:Act)(w:World):Prop := a.defers=dl/\∃ Y σ ps stx,SW C w Y σ ps a.tmps.toList stx n/\ps.length=p.length /\ (∀ j o t,all[j]?=some o->o.dst=some t->listed.getD j true=true->iV ps t=iV f t) /\ (∀ t,(∀ j o,all[j]?=some o->o.dst=some t->listed.getD j true=false)->iV ps t=iV p t) /\ (∀ b,iH stx b=orS st b (lst rs (λk=>listed.getD k true) 0 b)) /\ (∀ j,j<all.size->listed.getD j true=false->∀ b,idA rs n j<=b->b<idA rs n (j+1)->σ b=none)/\MQ C.w0.heap.size D w Y/\NNs stx
theorem aaZ {nx:Nat}(hpas:T.oZ<=nx){C:Ctx T}{all:Array Oper}{rs:List Rec}{st:St}{n:Nat}{p f:List PV}{D:List Nat}{dl:List Deferred}(F:KW P T all rs p st nx f n){listed:Array Bool}{a:Act}{w:World}
  (hsz:listed.size=all.size) (hclosed:∀ j o,all[j]?=some o->listed.getD j true=true->∀ e∈o.after,Region.binds .any e=true->listed.getD e.on true=true)
  (hs:Za C all rs st n p f D dl listed a w) {i:Nat} (hr:i∈Region.ready .any all listed) {Q:Exit->Act->World->Prop} {K:Act->World->Prop}
  (hK:∀ a' w',Za C all rs st n p f D dl (listed.setIfInBounds i true) a' w'->K a' w'):wpOp P all Q i K a w:=by
 obtain⟨hun,o,ho,hall⟩:=mem_ready.1 hr;obtain⟨hd,Y,σ,ps,stx,H,hlen,hdone,hrest,hst,hfree,hD,hnn⟩:=hs
 have hilt:i<listed.size:=by
  grind
 obtain⟨r,q,m,hri,qlen,hS,hm,hnx,h6,h7,h8⟩:=F.get i o ho;have hspec:=Ff F.chk ho
 have hall' : ∀ e∈o.after,Region.binds .any e=true->listed.getD e.on true=true:=by
  grind
 have befIn:∀ k,Bef all k i->listed.getD k true=true:=λk h=>h.ready hclosed o ho hall'
 have g:∀ k,Bef all i k->listed.getD k true=false:=λk h=>by
  cases hk:listed.getD k true with
  | false=>rfl
  | true=>have:=h.listed hclosed hk;rw[hun] at this;cases this
 have look:∀ t∈o.looksAt all,iV ps t=iV q t:=by
  intro t ht
  by_cases hex:∃ j pj,all[j]?=some pj/\j≠i/\pj.dst=some t
  obtain⟨j,pj,hj,hne,hdst⟩:=hex;obtain⟨hdd,hor⟩:=hspec.2 j pj hj hne t hdst
  have uniq:∀ k pk,all[k]?=some pk->pk.dst=some t->k=j:=by
   intro k pk hk hkd
   by_cases hkj:k=j
   exact hkj
   exact absurd hkd ((Ff F.chk hk).2 j pj hj (Ne.symm hkj) t hdst).1
  rcases hor ht with ⟨e,he,hb,heq⟩|⟨e,he,hb,heq⟩
  grind
  have hij:i<j:=by rw[<- heq];exact(Ff F.chk hj).1 e he hb
  grind
  grind
 have hlk:∀ b x,r.lk b=some x->iH stx b=some x:=by
  intro b x hb;have c1:=hS.lk b x hb;rw[hst b,<- c1,Oi rs st i 0 b]
  congr 1
  refine zO _ _ _ _ _ λk rk J hkb=>?_;rw[Nat.zero_add,Nat.zero_add];rcases Nat.lt_trichotomy k i with hki|hki|hki
  simp only[hki,decide_true];exact befIn k (F.clash k i rk r hki J hri ⟨b,.inl ⟨hkb,.inl (by rw[hb];simp)⟩⟩)
  grind
  have:¬ k<i:=by omega
  simp only[this,decide_false];exact g k (F.clash i k r rk hki hri J ⟨b,.inr ⟨by rw[hb];simp,hkb⟩⟩)
 have hisz:i<all.size:=by omega
 have hwin:∀ b,idA rs n i<=b->b<idA rs n i+m->σ b=none/\iH stx b=none:=by
  intro b h1 h2;refine⟨hfree i hisz hun b h1 (by rw[hm];exact h2),?_⟩;rw[hst b]
  have hno:lst rs (λk=>listed.getD k true) 0 b=none:=by
   refine J4 _ _ _ _ λk rk J hlk=>?_;rw[Nat.zero_add] at hlk
   cases hx:kT rk.δ b with
   | none=>rfl
   | some x=>
    exfalso
    obtain⟨ok,hok⟩:=F.oper J;obtain⟨rk',_,mk,hrk',_,hSk,hmk,_⟩:=F.get k ok hok;rw[J] at hrk';cases hrk'
    have hksz:k<all.size:=by
     grind
    rcases hSk.key b (by rw[hx];simp) with h3|h3
    have:k=i:=by
     rcases Nat.lt_trichotomy k i with h4|h4|h4
     have:=F.mono (i:=k+1) (j:=i) ae ae;omega
     exact h4
     have:=F.mono (i:=i+1) (j:=k) ae ae;omega
    grind
    obtain⟨h4,h5⟩:=F.dom hri h1 (by rw[hm];exact h2) k ae h3;have:=g k (F.clash i k r rk h4 hri J ⟨b,.inl ⟨h5,.inr (by rw[hx];simp)⟩⟩);rw[hlk] at this;cases this
  rw[hno];exact F.old b ae
 have lastOut:∀ b,kT r.δ b≠none->∀ (k:Nat) (rk:Rec),i<k->rs[k]?=some rk->listed.getD k true=true->kT rk.δ b=none:=by
  intro b hb k rk hik J hlk
  cases hkb:kT rk.δ b with
  | none=>rfl
  | some x=>
   have:=g k (F.clash i k r rk hik hri J ⟨b,.inl ⟨hb,.inr (by rw[hkb];simp)⟩⟩);rw[hlk] at this;cases this
 have setD:∀ k,(listed.setIfInBounds i true).getD k true=(if k=i then true else listed.getD k true):=by
  intro k
  by_cases hki:k=i<;>simp_all[Ne.symm]
 have newSt:∀ I:St,(∀ b,iH I b=(match kT r.δ b with|some x=>x|none=>iH stx b))->∀ b,iH I b=orS st b (lst rs (λk=>(listed.setIfInBounds i true).getD k true) 0 b):=by
  intro I hstn b;rw[hstn b]
  cases hb:kT r.δ b with
  | none=>
   rw[hst b]
   congr 1
   refine zO _ _ _ _ _ λk rk J hkb=>?_
   grind
  | some x=>
   rw[VW rs _ 0 i b r x hri (by rw[Nat.zero_add,setD,if_pos rfl]) hb λk rk hik J hlk=>?_]
   rfl
   grind
 have after:∀ cv w' Y' σ' qs I,(qs.length=ps.length/\∀ t,iV qs t=iV ps t)->SW C w' Y' σ' qs a.tmps.toList I n->(∀ b,iH I b=(match kT r.δ b with|some x=>x|none=>iH stx b)) ->
   (∀ b,(b<idA rs n i\/idA rs n i+m<=b)->σ' b=σ b)->Rep w' Y' σ' r.v cv->MQ C.w0.heap.size D w' Y'->K (a.put o.dst cv) w':=by
  intro cv w' Y' σ' qs I hq H' hstn hoff hv hD';refine hK _ _ ⟨by rw[put_defers];exact hd,Y',σ',CG qs o.dst r.v,I,H'.CG hv o.dst,by rw[vC,hq.1,hlen],?_,?_,newSt I hstn,?_,hD',λb sz rows hb=>?_⟩
  intro j oj t hj hdst hlj;rw[GN hun] at hlj
  by_cases hji:j=i
  subst hji;rw[ho] at hj;cases hj
  by_cases hlt:t<qs.length
  rw[hdst];simp only[CG,yh]
  grind
  exact(DK (by rw[vC];exact Nat.le_of_not_lt hlt)).trans (DK (by rw[F.aii,<- hlen,<- hq.1];exact Nat.le_of_not_lt hlt)).symm
  grind[DL]
  intro t ht
  have hne:o.dst≠some t:=λe=>by
   grind
  grind[DL]
  intro j hj hlj b hb1 hb2;rw[setD] at hlj
  by_cases hji:j=i
  rw[if_pos hji] at hlj;cases hlj
  rw[if_neg hji] at hlj;rw[hoff b ?_];· exact hfree j hj hlj b hb1 hb2
  rcases Nat.lt_or_ge i j with hij|hij
  right;have:=F.mono (i:=i+1) (j:=j) ae ae;omega
  left;have:=F.mono (i:=j+1) (j:=i) ae ae;omega
  rw[hstn b] at hb
  cases hx:kT r.δ b with
  | none=>rw[hx] at hb;exact hnn b sz rows hb
  | some x=>rw[hx] at hb;simp only at hb;subst hb;exact hS.nn b sz rows hx
 have q1:iV (patch (o.looksAt all) q ps)=iV ps:=by
  grind[SH,DK,KU]
 have l1:q.length=ps.length:=by rw[qlen,hlen]
 have hwb:=hS.gd C _ Y σ a w stx n look H;unfold wpOp;simp only[ho]
 cases hw:r.wb with
 | true=>
  rw[hw] at hwb;rw[if_pos hwb]
  have hle:idA rs n i+m<=n:=by
   rw[<- hm];have:=F.mono (i:=i+1) (j:=all.size) ae (Nat.le_refl _);have e:idA rs n all.size=n:=by simp[idA,List.getElem?_eq_none (Nat.le_of_eq F.len)]
   omega
  exact .inl (hS.sem hw C _ Y σ a w stx n look H hnn hlk hwin (Nat.le_trans hpas hnx) hle K Q λcv w' Y' σ' st' H' hst' hoff hv hD'=>after cv w' Y' σ' ps st' ⟨rfl,λ_=>rfl⟩ H' hst' hoff hv (hD' _ D hD))
 | false=>
  rw[hw] at hwb;rw[if_neg (by rw[hwb];simp)];obtain⟨e1,e2⟩:=hS.skip hw;exact after _ w Y σ ps stx ⟨rfl,λ_=>rfl⟩ H (λb=>by rw[e2];rfl) (λ_ _=>rfl) (by rw[e1];simp[Rep]) hD
theorem V4 {all:Array Oper}(T:Gz all all.toList 0=true){listed:Array Bool}(hsz:listed.size=all.size)(hr:Region.ready .any all listed=[]):∀ j,listed.getD j true=true:=by
 intro j
 induction j using Nat.strongRecOn with
 | _ j ih=>
  cases h:listed.getD j true with
  | true=>rfl
  | false=>
   have J:j<listed.size:=by
    grind
   have hj:all[j]?=some all[j]:=Array.getElem?_eq_getElem ae
   have:j∈Region.ready .any all listed:=mem_ready.2 ⟨h,_,hj,λe C I=>by
    grind[Ff]⟩
   grind
theorem aeG {nx:Nat}(hpas:T.oZ<=nx){C:Ctx T}{all:Array Oper}{rs:List Rec}{st:St}{n:Nat}{p f:List PV}{D:List Nat}{dl:List Deferred}(F:KW P T all rs p st nx f n){Q:Exit->Act->World->Prop}
  (hQ:∀ a w Y σ stx,a.defers=dl->SW C w Y σ f a.tmps.toList stx n->(∀ b,iH stx b=iH (Aq rs st rs.length) b)->MQ C.w0.heap.size D w Y->Q .normal a w):∀ (fuel:Nat) (listed:Array Bool) (a:Act) (w:World),listed.size=all.size->listed.toList.count false=fuel ->
   (∀ j o,all[j]?=some o->listed.getD j true=true->∀ e∈o.after,Region.binds .any e=true->listed.getD e.on true=true) ->
   Za C all rs st n p f D dl listed a w->wpAny P .any all Q fuel listed a w:=by
 have fin:∀ (listed:Array Bool) (a:Act) (w:World),listed.size=all.size->Za C all rs st n p f D dl listed a w->Region.ready .any all listed=[]->Q .normal a w:=by
  intro listed a w hsz hs hr;have hl:=V4 F.chk hsz hr;obtain⟨hd,Y,σ,ps,stx,H,hlen,hdone,g,hst,_,hD,_⟩:=hs
  have hpf:∀ t,iV ps t=iV f t:=by
   intro t
   by_cases hex:∃ (j:Nat) (o:Oper),all[j]?=some o/\o.dst=some t
   grind
   rw[g t λj o hj I=>absurd ⟨j,o,hj,I⟩ hex];refine F.keep t λo ho I=>?_
   grind[List.getElem?_of_mem]
  have heq:Ap ps f:=⟨by rw[hlen,F.aii],λt=>by grind[Eqv.refl]⟩;refine hQ a w Y σ stx hd (H.qU (H.vals.eqv heq)) (λb=>?_) hD;rw[hst b,Oi rs st rs.length 0 b]
  congr 1
  refine zO _ _ _ _ _ λk rk hrk _=>?_
  grind
 intro fuel
 induction fuel with
 | zero=>
  intro listed a w hsz hc J hs
  have hr:Region.ready .any all listed=[]:=by
   rw[List.eq_nil_iff_forall_not_mem];intro i hi;have hun:=(mem_ready.1 hi).1
   have hlt:i<listed.size:=by
    grind
   have hget:listed[i]=false:=by simpa [hlt] using hun
   grind[List.count_eq_zero]
  exact⟨hr,fin listed a w hsz hs hr⟩
 | succ fuel ih=>
  intro listed a w hsz hc J hs;refine⟨fin listed a w hsz hs,λi hi=>?_⟩;have hun:=(mem_ready.1 hi).1;refine aaZ hpas F hsz J hs hi λa' w' hs'=>ih _ a' w' (by simpa using hsz) (count_set hun hc) ?_ hs'
  grind[GN,mem_ready]
theorem pG:∀ (st:St),kS st=true->NNs st
 | [],_,b,sz,rows,h=>by simp[iH] at h
 | (c,x)::st,h,b,sz,rows,hb=>by
  have h1:kS st=true/\∀ sz rows,x≠some (.lq sz rows):=by
   cases x with
   | none=>grind[kS]
   | some y=>cases y<;>simp_all[kS]
  simp only[iH] at hb
  cases hc:Nat.beq c b with
  | true=>grind
  | false=>rw[hc] at hb;exact pG st h1.1 b sz rows hb
theorem Oj:∀ (l:List Nat) (b:Nat),yB l b=true↔b∈l
 | [],b=>by simp[yB]
 | c::l,b=>by
  simp only[yB]
  cases hc:Nat.beq c b with
  | true=>simp_all
  | false=>
   have:¬ b=c:=λe=>by simp_all
   simp[Oj l b,this]
theorem aa0 {st:St}{nx:Nat}:∀ (δ:Dl),okG st nx δ=true->(∀ b,kT δ b≠none->b=nx\/iH st b≠none)/\(∀ b sz rows,kT δ b≠some (some (.lq sz rows)))/\∀ b,kT δ b≠none->b∈GH δ
 | [],_=>⟨λb h=>absurd rfl h,λb sz rows (h:(none:Option (Option lI))=some (some (.lq sz rows)))=>bY,λb h=>absurd rfl h⟩
 | (c,x)::δ,h=>by
  simp only[okG,Bool.and_eq_true,Bool.or_eq_true] at h;obtain⟨h1,h2,T⟩:=h;obtain⟨g1,g2,g3⟩:=aa0 δ T
  grind[kT,Nat.eq_of_beq_eq_true,GH]
theorem af4 (hT:iK P T)(hW:CY P){all:Array Oper}{o:Oper}{ps:List PV}{lk:Nat->Option lI}{id:Nat}{v:PV}{δ:Dl}(hF:∀ K' : PV->Dl->Prop,K' v δ->nV T (gV.jd P T) o.op ps lk id K'):af2 P T all o ps lk id 1 v δ:=by
 intro C qs Y σ a w st n hl H hn hlk hwin hpas hle next Q I
 have H2:=H.QC hn;have h4:=hF (λv' g=>v'=v/\g=δ) ⟨rfl,rfl⟩;rw[<- SB (yj hl)] at h4;obtain⟨v',g,cv,w',Y',σ',⟨rfl,rfl⟩,J,H',hrep,t⟩:=yV hT hW H2 hlk ⟨(hwin id (Nat.le_refl _) ae).1,hpas⟩ h4;have hni:uI g n id<=n:=by cases g<;>simp[uI]<;>omega
 have H3:=(H.J5 H').mono hni;have:=I cv w' Y' σ' (jf g st) H3 (λb=>yt _ _ _) (λb hb=>t b ae) hrep (λB D hD=>hD.step H.store H');unfold Oper.wp;rcases J with J|⟨J,rfl⟩
 rw[J];exact this
 rw[J];exact this
theorem aa1 {st:St}{nx:Nat}:∀ (δ:Dl),okH st nx δ=true->(∀ b,kT δ b≠none->(nx<=b/\b<nx+32)\/iH st b≠none)/\(∀ b sz rows,kT δ b≠some (some (.lq sz rows)))/\∀ b,kT δ b≠none->b∈GH δ
 | [],_=>⟨λb h=>absurd rfl h,λb sz rows (h:(none:Option (Option lI))=some (some (.lq sz rows)))=>bY,λb h=>absurd rfl h⟩
 | (c,x)::δ,h=>by
  simp only[okH,Bool.and_eq_true,Bool.or_eq_true] at h;obtain⟨h1,h2,T⟩:=h;obtain⟨g1,g2,g3⟩:=aa1 δ T
  grind[kT,Nat.le_of_ble_eq_true,Nat.blt_eq,GH]
theorem QD {R:List Nat}{st:St}{b:Nat}{x:lI}(h:lkG R st b=some x):b∈R/\iH st b=some x:=by
 grind[lkG,Oj]
theorem ajQ {R:List Nat}{st:St}{b:Nat}(h:b∈R):lkG R st b=iH st b:=by
 grind[lkG,Oj]
theorem acp (hT:iK P T)(hW:CY P){all:Array Oper}{o:Oper}{f:Operand}{args:Array Operand}{ts:Array TypeId}(ho:o.op=.call { callee:=.value f,args:=args,argTypes:=ts }){ps:List PV}{lk:Nat->Option lI}{id nx:Nat}{K:PV->Prop}
  (h:opQ T (gV.jd P T) (.call { callee:=.value f,args:=args,argTypes:=ts }) ps lk id K):∃ v,af2 P T all o ps lk nx 0 v []/\K v:=by
 unfold opQ at h;simp only at h
 split at h
 rename_i k caps U
 have main:∀ v,(∀ (C:Ctx T) Y σ w qs vs J st n,(∀ b x,lk b=some x->iH st b=some x)->SW C w Y σ qs vs st n->eU w Y σ (Gx (T.hid k) (vw (evA T ps args.toList) caps)) J->Qx P k C Y σ w J qs vs st n v)->af2 P T all o ps lk nx 0 v []:=by
  intro v hsem C qs Y σ a w st n hl H hn t _ _ _ next Q hnext
  have hev:=yj (T:=T) hl;rw[ho] at hev;have g:=kJ H f;rw[hev f bU,U] at g;unfold Rep at g;obtain⟨cs,ef,hcs⟩:=g;have I:=vM H args.toList;rw[C9 (ps:=qs) (qs:=ps) args.toList λx hx=>hev x bJ] at I;have hall:=F7 (T.hid k) _ _ (eU.app _ _ _ _ I hcs);have H2:=H.QC hn;obtain⟨hent,hcall⟩:=hsem _ Y σ w qs a.tmps.toList _ st n t H2 (by simpa using hall);unfold Oper.wp;rw[Na ho ef hent];refine Calls.mono hcall λe w' hh=>?_;obtain⟨cv,rfl,H',hv⟩:=hh;exact hnext cv w' Y σ st (H.J5 H') (λb=>rfl) (λ_ _=>rfl) hv (λB D hD=>hD.step H.store H')
 unfold afl at h
 split at h
 rename_i as hm;obtain⟨v,hF,hK⟩:=h;refine⟨v,main v λC Y σ w qs vs J st n t H hr=>U4 H (λb x hb=>?_) hm hr hF,hK⟩
 split at hb
 rename_i e;cases hb;exact⟨t _ _ e,rfl⟩
 rename_i e;cases hb;exact⟨t _ _ e,rfl⟩
 cases hb
 split at h
 rename_i as hm;obtain⟨v,hF,U,hK⟩:=h
 grind[Sr]
 exact h.elim
 exact h.elim
theorem acr (hT:iK P T)(hW:CY P){all:Array Oper}{o:Oper}{f:Operand}{args:Array Operand}{ts:Array TypeId}(ho:o.op=.call { callee:=.value f,args:=args,argTypes:=ts }){E:Env}{v:PV}{δ:Dl}
  (hF:∀ K' : PV->Dl->Prop,K' v δ->opW T (gV.jd P T) (.call { callee:=.value f,args:=args,argTypes:=ts }) E.tmps (iH E.st) E.st E.next true K'):af2 P T all o E.tmps (lkG (Qk T f args E) E.st) E.next 32 v δ:=by
 intro C qs Y σ a w stn n hl H hn hlk hwin hpas hle next Q hnext
 have g:=hF (λv' δ'=>v'=v/\δ'=δ) ⟨rfl,rfl⟩;unfold opW at g;simp only at g
 split at g
 rename_i k I U;have hev:=yj (T:=T) hl;rw[ho] at hev;have hfv:=kJ H f;rw[hev f bU,U] at hfv;unfold Rep at hfv;obtain⟨cs,ef,hcs⟩:=hfv;have J:=vM H args.toList;rw[C9 (ps:=qs) (qs:=E.tmps) args.toList λx hx=>hev x bJ] at J;have hall:=F7 (T.hid k) _ _ (eU.app _ _ _ _ J hcs);have hR:Qk T f args E=IB (Gx (T.hid k) (vw (evA T E.tmps args.toList) I)) E.st:=by unfold Qk;rw[U]
 rw[hR] at hlk;unfold Vu at g
 split at g
 rename_i t;simp only[Bool.and_eq_true] at t;obtain⟨c1,c2,c3⟩:=t;obtain⟨v0,st1,n1,h0,hF0,hK⟩:=g
 split at hK
 rename_i hb;obtain⟨rfl,rfl⟩:=hK;have hb:=Nat.le_of_ble_eq_true hb
 have hren:=PL (st:=E.st) (st':=stn) (ixN (IB (Gx (T.hid k) (vw (evA T E.tmps args.toList) I)) E.st)) (IB (Gx (T.hid k) (vw (evA T E.tmps args.toList) I)) E.st) 0 λb hb=>by
  grind[SC,ajQ]
 rw[hren] at h0 hF0;have H2:=H.QC hn;obtain⟨hent,hcall⟩:=YY (E:=⟨qs,stn,E.next⟩) (n0:=n) (N:=n) (v:=v0) (st1:=st1) H2 c2 c1 h0 hpas (λb hb1 hb2=>(hwin b hb1 ak).1) ⟨by simp only;omega,Nat.le_refl _⟩ hall hF0;unfold Oper.wp;rw[Na ho ef hent];refine Calls.mono hcall λe w' hh=>?_;obtain⟨cv,Y',σ',rfl,H',hv',hoff⟩:=hh;have H3:=H.J5 H';refine hnext cv w' Y' σ' _ H3 (λb=>?_) (λb hb'=>hoff b ax) hv' (λB D hD=>hD.step H.store H');show iH (aaB _ _ _ _ _) b=_;rw[Y4];exact yt _ _ _
 exact hK.elim
 exact g.elim
 exact g.elim
theorem QE:∀ (l:List (List Nat×List Nat×List Nat)) x,XK l x=l++[x]
 | [],x=>rfl
 | y::l,x=>by simp[XK,QE l x]
theorem KX (hT:iK P T)(hW:CY P){all:Array Oper}:∀ (l:List Oper) (E:Env) (tr:List Tc) (K:Env->List Tc->Prop),NNs E.st->aeo T (gV.jd P T) l E tr K ->
  ∃ rs E' I,ChF P T all l rs E.tmps E.st E.next E'.tmps E'.st E'.next/\K E' (tr++I)/\(∀ (i:Nat) (r:Rec),rs[i]?=some r->∃ tc,I[i]?=some tc/\ajP r tc)
 | [],E,tr,K,_,h=>⟨[],E,[],⟨rfl,rfl,rfl⟩,by rw[List.append_nil];exact h,λi r hr=>by simp at hr⟩
 | o::l,E,tr,K,hnn,h=>by
  unfold aeo stepG at h;have t:∀ (v:PV) (e:Env),pK e o.dst v=⟨CG e.tmps o.dst v,e.st,e.next⟩:=λv e=>by cases hd:o.dst<;>simp[pK,CG]
  split at h
  rename_i f args ts ho;unfold ai3 at h
  split at h
  exact h.elim
  rename_i hg
  split at h
  rename_i hcl;have hcl2:KI T o.op=2:=U6 hcl aU;rw[ho] at hcl2;obtain⟨v,δ,hK,hF⟩:=Y5 (.inr hcl2) (by simp[ndO]) h
  cases g:okH E.st E.next δ with
  | false=>grind
  | true=>
   rw[g] at hK;obtain⟨g1,g2,g3⟩:=aa1 δ g;rw[t] at hK
   have hnn2:NNs (jf δ E.st):=λb sz rows J=>by
    rw[yt] at J
    cases hl:kT δ b with
    | none=>rw[hl] at J;exact hnn b sz rows J
    | some y=>grind
   obtain⟨rs,E',I,hc,hk,ht⟩:=KX hT hW l _ _ K hnn2 hK;refine⟨⟨E.tmps,E.tmps,lkG (Qk T f args E) E.st,v,δ,E.next,true,true,false⟩::rs,E',(Qk T f args E,GH δ,GH δ)::I,⟨32,⟨rfl,?_,λ_=>acr hT hW ho hF,λe=>by(cases e),λb x J=>(QD J).2,g1,g2⟩,hc⟩,by grind[QE],λi r hr=>?_⟩
   intro C ps Y σ a w st n _ _;simp[Region.wanted,hg]
   cases i with
   | zero=>
    simp at hr;subst hr;refine⟨_,rfl,λb J=>?_,g3,λb J=>J⟩;have J:lkG (Qk T f args E) E.st b≠none:=J;cases hx:lkG (Qk T f args E) E.st b<;>grind[lkG,QD]
   | succ i=>grind
  rename_i hcl;obtain⟨v,hs,hK⟩:=acp hT hW (all:=all) (nx:=E.next) ho h;rw[t] at hK;obtain⟨rs,E',I,hc,hk,ht⟩:=KX hT hW l ⟨CG E.tmps o.dst v,E.st,E.next⟩ (XK tr (Qk T f args E,[],[])) K hnn hK;refine⟨⟨E.tmps,E.tmps,lkG (Qk T f args E) E.st,v,[],E.next,true,true,false⟩::rs,E',(Qk T f args E,[],[])::I,⟨0,⟨rfl,?_,λ_=>hs,λe=>by(cases e),λb x J=>(QD J).2,λb J=>absurd rfl J,λb sz rows J=>by cases J⟩,hc⟩,by grind[QE],λi r hr=>?_⟩
  intro C ps Y σ a w st n _ _;simp[Region.wanted,hg]
  cases i with
  | zero=>
   simp at hr;subst hr;refine⟨_,rfl,λb J=>?_,λb J=>absurd rfl J,λb J=>by cases J⟩;have J:lkG (Qk T f args E) E.st b≠none:=J;cases hx:lkG (Qk T f args E) E.st b<;>grind[lkG,QD]
  | succ i=>grind
  exact h.elim
  rename_i hnc;unfold afr at h
  split at h
  rename_i hg
  split at h
  rename_i hq hnd
  have hdet:∃ v δ,(match okG E.st E.next δ with
   | true=>aeo T (gV.jd P T) l (pK ⟨E.tmps,jf δ E.st,E.next+1⟩ o.dst v) (XK tr (rdG T E.tmps o.op,GH δ,GH δ)) K
   | false=>False)/\∀ K' : PV->Dl->Prop,K' v δ->nV T (gV.jd P T) o.op E.tmps (lkG (rdG T E.tmps o.op) E.st) E.next K':=by
   cases hQ:isQ o.op with
   | true=>exact adz hQ h
   | false=>
    rw[hQ] at hq;have hq:(Nat.beq (KI T o.op) 1 || Nat.beq (KI T o.op) 2)=true:=hq;rw[Bool.or_eq_true] at hq;exact aaX (hq.imp Nat.eq_of_beq_eq_true Nat.eq_of_beq_eq_true) hnd h
  obtain⟨v,δ,hK,hF⟩:=hdet
  cases g:okG E.st E.next δ with
  | false=>grind
  | true=>
   rw[g] at hK;obtain⟨g1,g2,g3⟩:=aa0 δ g;have t:∀ (e:Env),pK e o.dst v=⟨CG e.tmps o.dst v,e.st,e.next⟩:=λe=>by grind
   rw[t] at hK
   have hnn2:NNs (jf δ E.st):=λb sz rows J=>by
    rw[yt] at J
    cases hl:kT δ b with
    | none=>rw[hl] at J;exact hnn b sz rows J
    | some y=>grind
   obtain⟨rs,E',I,hc,hk,ht⟩:=KX hT hW l _ _ K hnn2 hK;refine⟨⟨E.tmps,E.tmps,lkG (rdG T E.tmps o.op) E.st,v,δ,E.next,true,true,false⟩::rs,E',(rdG T E.tmps o.op,GH δ,GH δ)::I,⟨1,⟨rfl,?_,λ_=>af4 hT hW hF,λe=>by(cases e),λb x J=>?_,λb J=>?_,g2⟩,hc⟩,by grind[QE],λi r hr=>?_⟩
   intro C ps Y σ a w st n _ _;simp[Region.wanted,hg]
   grind[lkG]
   grind
   cases i with
   | zero=>
    simp at hr;subst hr;refine⟨_,rfl,λb J=>?_,g3,λb J=>J⟩;have J:lkG (rdG T E.tmps o.op) E.st b≠none:=J;unfold lkG at J
    cases hh:yB (rdG T E.tmps o.op) b with
    | true=>exact(Oj _ _).1 hh
    | false=>grind
   | succ i=>grind
  exact h.elim
  exact h.elim
theorem acs (hT:iK P T)(hW:CY P){id:Nat}{l:Array Oper}{E:Env}{K:Env->Prop}(hlt:ltS E.next E.st=true)(hnn:kS E.st=true)(h:aeo T (gV.jd P T) l.toList E [] λE tr=>(gV.jd P T).ael l tr (K E)) :
  ∀ (C:Ctx T) a w,kL C E a w->∀ Q:Exit->Act->World->Prop,(∀ g a' w',kL C g a' w'->K g->Q .normal a' w')->(Code.region id l true).wp P Q a w:=by
 intro C a w hA Q hQ;obtain⟨rs,g,tr,J,⟨I,hK⟩,h5⟩:=KX hT hW (all:=l) l.toList E [] _ (pG _ hnn) h;rw[List.nil_append] at I;obtain⟨hc1,hc2⟩:=Y9 I;obtain⟨⟨Y,σ,H⟩,hdf⟩:=hA;obtain⟨hl1,hl2,hl3⟩:=J.len _ _
 have F:KW P T l rs E.tmps E.st E.next g.tmps g.next:=by
  refine⟨hc1,by simpa using hl1,λi o hi=>?_,hl2,λt ht=>J.keep _ _ ht,λb hb=>?_,λi k ri rk hik hi hk hc=>?_⟩
  obtain⟨r,q,m,a0,a1,a2,a3,a4,a6,a7,a8⟩:=J.get _ _ i o bH
  grind
  cases hx:iH E.st b with
  | none=>rfl
  | some x=>exact absurd (V3 _ hlt b (by rw[hx];simp)) ae
  obtain⟨x,hx,hx2⟩:=h5 i ri hi;obtain⟨y,hy,hy2⟩:=h5 k rk hk;have:=X4 tr 0 hc2 i k x y hik hx hy;rw[Nat.zero_add,Nat.zero_add] at this
  grind[aco]
 have hrep:∀ j,j<l.size->(Array.replicate l.size false).getD j true=false:=λj hj=>by simp[hj]
 have hno:∀ j o,l[j]?=some o->(Array.replicate l.size false).getD j true=true->False:=by
  grind
 refine wp_region_any hW.mixed (aeG (C:=C) (D:=[]) (dl:=C.df) H.fix.1 F (λa' w' Y' σ' stx hd' H' hstx hD'=>hQ g a' w' ⟨⟨Y',σ',H'.ext λb x hx=>?_⟩,hd',hdf.2⟩ hK) l.size _ a _ aF ?_ ?_ ?_)
 rw[hstx b,<- J.fin];exact hx
 simp
 grind
 refine⟨hdf.1,Y,σ,E.tmps,E.st,(H.drawn _).mono hl3,rfl,?_,λt _=>rfl,λb=>?_,λj hj _ b hb1 _=>?_,⟨List.nodup_nil,λr hr=>by cases hr⟩,pG _ hnn⟩
 grind
 rw[J4 _ _ _ _ λk r hr hDD=>?_];· rfl
 grind
 obtain⟨_,_,_,_,_,_,_,h6,_⟩:=F.get j _ (Array.getElem?_eq_getElem hj);exact H.next b (Nat.le_trans h6 hb1)
end
end Go.Pv
namespace Go.Pv
open Go
theorem lift_seq {T:Tab}{C:Ctx T}{P:Program}{b:Code}{Q:Post}{nx:Env->Prop}(I:∀ E a w,kL C E a w->nx E->b.wp P (lift C Q) a w):∀ e a w,lift C (Jr nx Q) e a w->Exit.then (b.wp P (lift C Q)) (lift C Q) e a w:=by
 intro e a w h
 cases e with
 | normal=>obtain⟨E,hA,J⟩:=h;exact I E a w hA J
 | ret=>obtain⟨E,hA,J⟩:=h;exact⟨E,hA,J⟩
 | exit n=>obtain⟨E,hA,J⟩:=h;exact⟨E,hA,J⟩
 | _=>exact h.elim
theorem af5 {T:Tab}{C:Ctx T}{Q I : Post}(h:∀ n E,Q n E->∃ F,Ent T E F/\I n F):∀ e a w,lift C Q e a w->lift C I e a w:=by
 intro e a w J
 have go:∀ n,(∃ E,kL C E a w/\Q n E)->∃ E,kL C E a w/\I n E:=by
  rintro n ⟨E,hA,J⟩
  obtain⟨F,h1,h2⟩:=h n E J;exact⟨F,h1 C a w hA,h2⟩
 cases e with
 | normal=>exact go 0 J
 | ret=>exact go 1 J
 | exit n=>exact go (n+2) J
 | _=>exact J.elim
theorem zQ {P:Program}{T:Tab}(hT:iK P T)(hW:CY P):∀ (c:Code) (Q:Post) (E:Env),JU T (gV.jd P T) c Q E->UZ P T c Q E:=by
 intro c
 induction c with
 | skip=>intro Q E h C a w hA;exact wp_skip ⟨E,hA,h⟩
 | region id l dr=>
  intro Q E h C a w hA
  cases dr with
  | true=>
   simp only[JU] at h
   cases hcut:yB T.cut (1000+id) with
   | true=>
    rw[hcut] at h;simp only[cond_true] at h
    cases hl:(ltS E.next E.st&&kS E.st) with
    | false=>grind
    | true=>
     rw[hl] at h;rw[Bool.and_eq_true] at hl;exact acs hT hW hl.1 hl.2 h C a w hA _ λg a' w' J hK=>⟨g,J,hK⟩
   | false=>
   rw[hcut] at h;obtain⟨h1,h2⟩:=h
   cases hl:ltS E.next E.st with
   | false=>grind
   | true=>rw[hl] at h2;exact acm hT hW h1 hl h2 C a w hA _ λg a' w' J hK=>⟨g,J,hK⟩
  | false=>exact acg hT hW h hA λg a' w' J hK=>⟨g,J,hK⟩
 | seq x y ihx ihy=>
  intro Q E h C a w hA;simp only[JU] at h
  cases hs:afs T.cut x y with
  | true=>
   rw[hs] at h;exact wp_seq (wp_mono (ihx _ E h C a w hA) (lift_seq λg a' w' J I=>ihy Q g I C a' w' J))
  | false=>
   rw[hs] at h;obtain⟨Q',h1,h2⟩:=h;refine wp_seq (wp_mono (wp_mono (ihx Q' E h1 C a w hA) (af5 h2)) (lift_seq λg a' w' J I=>ihy Q g I C a' w' J))
 | cond c x y ihx ihy=>
  intro Q E h C a w hA
  cases c with
  | tmp c=>
   simp only[JU] at h;have J:=hA;obtain⟨⟨Y,σ,H⟩,hd⟩:=J;have hg:=H.vals.get _ _ c;have hev:a.eval (.tmp c)=a.tmps.toList.getD c Go.undef:=by grind[Act.eval,Array.getD_eq_getD_getElem?]
   split at h
   rename_i e;rw[e] at hg;exact wp_cond_true (by grind[yM]) (ihx Q E h C a w hA)
   rename_i e;rw[e] at hg;exact wp_cond_false (by grind[yM]) (ihy Q E h C a w hA)
   rename_i t e;have hg2:=hg;rw[e] at hg2;refine wp_cond_split (t:=t) (by grind[Sj]) (λht=>?_) (λht=>?_)
   exact ihx Q _ (h.1 ht) C a w ⟨⟨Y,σ,H.oM e true ht⟩,hd⟩
   exact ihy Q _ (h.2 ht) C a w ⟨⟨Y,σ,H.oM e false ht⟩,hd⟩
   exact h.elim
  | const v=>
   cases v with
   | bool b=>
    cases b with
    | true=>exact wp_cond_true rfl (ihx Q E h C a w hA)
    | false=>exact wp_cond_false rfl (ihy Q E h C a w hA)
   | _=>exact(by simp[JU] at h)
  | _=>exact(by simp[JU] at h)
 | block id b ih=>
  intro Q E h C a w hA;refine wp_block (wp_mono (ih _ E h C a w hA) λe a' w' I=>?_)
  cases e with
  | normal=>exact I
  | ret=>exact I
  | exit n=>
   obtain⟨g,J,I⟩:=I;simp only[Exit.inBlock];have I:(bif Nat.beq n id then Q 0 g else Q (n+2) g):=I
   by_cases hn:n=id
   rw[if_pos hn];subst hn;simp only[Nat.beq_refl,cond_true] at I;exact⟨g,J,I⟩
   rw[if_neg hn];rw[VF hn] at I;exact⟨g,J,I⟩
  | _=>exact I.elim
 | loop b ih=>intro Q E h;exact h
 | scope b ih=>
  intro Q E h C a w hA;refine wp_scope_straight (wp_mono (ih Q E h C a w hA) λe a' w' I=>?_)
  cases e with
  | normal=>exact I
  | ret=>exact I
  | exit n=>exact I
  | _=>exact I.elim
 | label l=>intro Q E h C a w hA;exact wp_label ⟨E,hA,h⟩
 | exit n=>intro Q E h C a w hA;exact wp_exit ⟨E,hA,h⟩
 | ret=>intro Q E h C a w hA;exact wp_ret ⟨E,hA,h⟩
 | _=>intro Q E h;exact(by simp[JU] at h)
end Go.Pv
