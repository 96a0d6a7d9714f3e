import Derived.Test.YtlacmdnhabblcaaGreatB07
set_option linter.all false
namespace Go.Pv
open Go
section
variable {P:Program}{T:Tab}
def InvV (V:EV):Prop:=GT V.st V.nx/\∃ p:List PV,(∀ i,qp V.tm i=kY p i)/\V.n=p.length
variable (hT:lW P T)(hW:I4 P)(hnar:T.pU=0)(hgl:∀ g,T.gl g=none){call:Dk}(hcall:Na P T call)
include hcall in
theorem agm {o:Oper}{tm:Tr PV}{n:Nat}{st:Sb}{nx:Nat}{C : EV}(h:Ox T.ti call o tm n st nx=some C)(hI:InvV ⟨tm,n,st,nx⟩):InvV C:=by
 obtain⟨R,p,J,I⟩:=hI;have R:GT st nx:=R;unfold Ox at h
 cases hc:UB o.op with
 | none =>
  rw[hc] at h;obtain⟨v,δ,hv,rfl,U⟩:=fin_inv h;refine⟨⟨TF δ st R.1,λb hb=>?_⟩,_,Dx J I _ _,by rw[oO];exact I⟩;have hb:Di δ nx<=b:=hb
  cases δ with
  | nil=>exact R.2 b hb
  | cons y δ =>
   show mF (xK (y::δ) st) b=none;rw[Qx _ _ b λhk=>by have:=U b hk;simp only[Di] at hb;omega];exact R.2 b (by simp only[Di] at hb;omega)
 | some q =>
  obtain⟨f,args⟩:=q;rw[hc] at h;obtain⟨v,t',n',hr,rfl⟩:=acK h;obtain⟨k,g,O,hr⟩:=WB hr;exact⟨(hcall _ _ _ _ _ _ _ hr R).1,_,Dx J I _ _,by rw[oO];exact I⟩
include hcall in
theorem XY {all:List Oper}:∀ (l:List Oper) (V U : EV),opsV T.ti call all l V=some U->InvV V->InvV U
 | [],V,U,h,hI=>by cases h;exact hI
 | o::l,⟨tm,n,st,nx⟩,U,h,hI=>by
  have h:Option.rec (motive:=λ_=>Oe) none
   (λg=>Bool.rec (motive:=λ_=>Oe) (opsV T.ti call all l ⟨xJ tm n o.dst PV.undef,n,st,nx⟩) (Option.rec (motive:=λ_=>Oe) none (λR=>opsV T.ti call all l R) (Ox T.ti call o tm n st nx)) g) (gdV all o.guard tm)=some U:=h
  cases I:gdV all o.guard tm with
  | none=>rw[I] at h;cases h
  | some g =>
   rw[I] at h
   cases g with
   | true =>
    have h:Option.rec (motive:=λ_=>Oe) none (λR=>opsV T.ti call all l R) (Ox T.ti call o tm n st nx)=some U:=h
    cases hs:Ox T.ti call o tm n st nx with
    | none=>rw[hs] at h;cases h
    | some V1 =>
     rw[hs] at h;exact XY l V1 U h (agm hcall hs hI)
   | false =>
    have h:opsV T.ti call all l ⟨xJ tm n o.dst PV.undef,n,st,nx⟩=some U:=h;obtain⟨hG,p,J,C⟩:=hI;exact XY l _ U h ⟨hG,_,Dx J C _ _,by rw[oO];exact C⟩
theorem acR {f:EV->Oc}(O:∀ V m U,f V=some (m,U)->InvV V->InvV U):∀ (n:Nat) (V:EV) (m:Nat) (U : EV),Zp f n V=some (m,U)->InvV V->InvV U
 | 0,V,m,U,h,_=>by cases h
 | n+1,V,m,U,h,hI=>by
  have h:Option.rec (motive:=λ_=>Oc) none (λp=>Prod.rec (motive:=λ_=>Oc) (λk R=>Nat.rec (motive:=λ_=>Oc) (Zp f n R) (λm _=>some (Nat.succ m,R)) k) p) (f V)=some (m,U):=h
  cases hv:f V with
  | none=>rw[hv] at h;cases h
  | some q =>
   obtain⟨k,T⟩:=q;rw[hv] at h
   cases k with
   | zero=>exact acR O n T m U h (O V 0 T hv hI)
   | succ k =>
    have h:some (Nat.succ k,T)=some (m,U):=h;cases h;exact O V _ U hv hI
include hT hW hnar hgl hcall in
theorem agn:∀ (c:Code) (V:EV) (m:Nat) (U : EV),xg T.ti call c V=some (m,U)->InvV V->InvV U:=by
 intro c
 induction c with
 | skip=>intro V m U h hI;cases h;exact hI
 | region id l dr =>
  intro V m U h hI
  cases dr with
  | false =>
   have h:al3 (opsV T.ti call l.toList l.toList V)=some (m,U):=h
   cases ho:opsV T.ti call l.toList l.toList V with
   | none=>rw[ho] at h;cases h
   | some J=>rw[ho] at h;cases h;exact XY hcall l.toList V U ho hI
  | true =>
   have h:adC l (YG T.ti call l.toList l.toList V)=some (m,U):=h;unfold adC at h
   split at h
   rename_i E tr ho
   split at h
   cases h;obtain⟨hG,p,htm,hn⟩:=hI;obtain⟨st,C⟩:=akI V.st;obtain⟨rs,f,stf,hch,h1,h2,h3,h4,h5⟩:=Ru hT hW hnar hgl hcall l.toList V U tr p st htm hn C hG ho;exact⟨h4,f,h1,h2⟩
   cases h
   cases h
 | seq x y ihx ihy =>
  intro V m U h hI;have h:al2 (xg T.ti call x V) (xg T.ti call y)=some (m,U):=h
  cases hx:xg T.ti call x V with
  | none=>rw[hx] at h;cases h
  | some q =>
   obtain⟨k,J⟩:=q;rw[hx] at h;have:=ihx V k J hx hI
   cases k with
   | zero=>exact ihy J m U h this
   | succ k =>
    have h:some (Nat.succ k,J)=some (m,U):=h;cases h;exact this
 | cond c x y ihx ihy =>
  intro V m U h hI;obtain⟨tm,n,st,nx⟩:=V;have h:ajO (evV tm c) (xg T.ti call x ⟨tm,n,st,nx⟩) (xg T.ti call y ⟨tm,n,st,nx⟩)=some (m,U):=h;rcases acx h with ⟨e,h⟩|⟨e,h⟩
  exact ihx _ m U h hI
  exact ihy _ m U h hI
 | block id b I =>
  intro V m U h hI;have h:al1 id (xg T.ti call b V)=some (m,U):=h
  cases hb:xg T.ti call b V with
  | none=>rw[hb] at h;cases h
  | some q =>
   obtain⟨k,J⟩:=q;rw[hb] at h;have:=I V k J hb hI
   cases k with
   | zero=>cases h;exact this
   | succ k =>
    cases k with
    | zero=>cases h;exact this
    | succ k =>
     have h:Bool.rec (motive:=λ_=>Oc) (some (Nat.succ (Nat.succ k),J)) (some (0,J)) (Nat.beq k id)=some (m,U):=h
     cases hk:Nat.beq k id with
     | true=>rw[hk] at h;cases h;exact this
     | false=>rw[hk] at h;cases h;exact this
 | loop b I=>intro V m U h hI;exact acR I 100000 V m U h hI
 | rangeFunc g ps x y ihx ihy =>
  intro V m U h hI;obtain⟨tm,n,t,nx⟩:=V;have h:Option.rec (motive:=λ_=>Oc) none (λp=>Prod.rec (motive:=λ_=>Oc) (λ_ q=>Prod.rec (motive:=λ_=>Oc) (λst nx=>some (0,⟨tm,n,st,nx⟩)) q) p) (fnE (evV tm g) λk R=>call k (PV.top::R) t nx)=some (m,U):=h
  cases hr:fnE (evV tm g) λk R=>call k (PV.top::R) t nx with
  | none=>rw[hr] at h;cases h
  | some q =>
   obtain⟨v,t',n'⟩:=q;rw[hr] at h;cases h;obtain⟨k,R,O,hc⟩:=WB hr;exact⟨(hcall _ _ _ _ _ _ _ hc hI.1).1,hI.2⟩
 | exit n=>intro V m U h hI;cases h;exact hI
 | scope b I=>intro V m U h hI;exact I V m U h hI
 | label l=>intro V m U h hI;cases h;exact hI
 | ret=>intro V m U h hI;cases h;exact hI
 | _=>intro V m U h;cases h
theorem acS:∀ (l:List PV) (k:Nat) (t:Tr PV) (i:Nat),qp (Oz l k t) i=if k<=i/\i<k+l.length then kY l (i-k) else qp t i
 | [],k,t,i=>by rw[if_neg aI];rfl
 | x::l,k,t,i=>by
  have e:Oz (x::l) k t=Oz l (k+1) (ady x k t):=rfl;rw[e,acS l,UW]
  by_cases h1:i=k
  subst h1;rw[if_neg ai,if_pos rfl,if_pos aI,Nat.sub_self];rfl
  by_cases h2:k+1<=i/\i<k+1+l.length
  rw[if_pos h2,if_pos aT];obtain⟨j,hj⟩:∃ j,i-k=j+1:=⟨i-k-1,by omega⟩;rw[hj,show i-(k+1)=j by omega];rfl
  rw[if_neg h2,if_neg h1,if_neg aT]
theorem XZ:∀ (m i:Nat),kY (vN m) i=.undef
 | 0,i=>rfl
 | m+1,0=>rfl
 | m+1,i+1=>XZ m i
theorem X0:∀ m:Nat,(vN m).length=m
 | 0=>rfl
 | m+1=>by simp[vN,X0 m]
theorem air (l m:List PV)(i:Nat):kY (l++m) i=if i<l.length then kY l i else kY m (i-l.length):=by
 rw[Eh,Eh,Eh,List.getD_eq_getElem?_getD,List.getD_eq_getElem?_getD,List.getD_eq_getElem?_getD]
 by_cases h:i<l.length
 rw[if_pos h,List.getElem?_append_left h]
 rw[if_neg h,List.getElem?_append_right ai]
theorem TM {fn:Func}{R:Ending->World->Prop}{C:Ctx T}{Y:Nat->Prop}{σ:Sg}{ps:List PV}{tmps:Array Value}{st:St}{n:Nat}(hn:NNs st):∀ (D:List Nat) (w:World),SW C w Y σ ps tmps.toList st n->QQ C.w0.heap.size D w Y ->
  (∀ w',SW C w' Y σ ps tmps.toList st n->∃ v,(results fn tmps).run P w'=.ok v w'/\R (.returned v) w')->LeavesInM Fence.wide 1 P fn tmps R (marks D) .returning w
 | [],w,H,_,hR=>by
  obtain⟨v,h1,h2⟩:=hR w H;exact⟨v,h1,h2⟩
 | r::D,w,H,hD,hR=>by
  obtain⟨J,U⟩:=hD;obtain⟨h0,h1,h2⟩:=U r aI;have g:=(List.nodup_cons.1 J).1;have H':=H.aiq hn (.deferred none) h1 h0 h2 λarr ty e=>by cases e
  refine⟨by simp,.inl ⟨r,w.putObj r (.deferred none),rfl,run_takeDeferred h2,?_⟩⟩
  exact TM hn D _ H' ⟨(List.nodup_cons.1 J).2,λq hq=>by
   obtain⟨g0,g1,g2⟩:=U q (by simp[hq]);refine⟨g0,g1,?_⟩;have I:q≠r:=by rintro rfl;exact g hq
   rw[World.putObj_heap_other I];exact g2⟩ hR
include hT hW hnar hgl hcall in
theorem acT {k:Nat}{fn:Func}{c:Code}(O:P.funcs[k]?=some fn)(hb:fn.body=some c)(g:∀ args w,(callFunc k args).run P w=.ok (.enter k args) w){args:List PV}{t:Sb}{nx m:Nat}{E:EV}
  (hc:xg T.ti call c ⟨Oz args 0 Tr.e,Nat.max (FZ args) fn.ntmps,t,nx⟩=some (m,E)) (hm:m<=1) {v:PV} {t' : Sb} {n' : Nat} (hr:resV T.ti E fn.results.toList []=some (v,t',n')):FnV P T k args t nx v t' n':=by
 intro hG
 have hps:∀ i,qp (Oz args 0 Tr.e) i=kY (args++vN (fn.ntmps-args.length)) i:=λi=>by
  rw[acS,air]
  by_cases h:i<args.length
  rw[if_pos ai,if_pos h];rfl
  rw[if_neg ai,if_neg h,XZ];rfl
 have hlen:Nat.max (FZ args) fn.ntmps=(args++vN (fn.ntmps-args.length)).length:=by
  rw[List.length_append,X0,En];show max args.length fn.ntmps=_;omega
 have hI:=agn hT hW hnar hgl hcall c _ m E hc ⟨hG,_,hps,hlen⟩
 have hE:t'=E.st/\n'=E.nx:=by
  obtain⟨_,p,htm,_⟩:=hI;obtain⟨st,I⟩:=akI E.st;obtain⟨us,_,_,h3,h4⟩:=Rw htm I _ _ v t' n' hr;exact⟨h3,h4⟩
 refine⟨by rw[hE.1,hE.2];exact hI.1,λw Y σ U st I hGl hY hn R hstR=>⟨g _ _,?_⟩⟩;have hcl:=R.length
 let C:Ctx (T.at nx):=JI (T.at nx) w Y σ st
 have H0:SW C w Y σ (args++vN (fn.ntmps-args.length)) ((U.toArray++Array.replicate (fn.ntmps-U.toArray.size) Go.undef).toList) st nx:=by
  refine⟨?_,hstR,hn,hY,λ_ h=>h.1,λk h=>⟨hY k h.1,h.2⟩,λk h _=>?_,QM.refl _ w,λb x l h1 h2=>.inr ⟨b,x,l,h1,h2,rfl⟩,hGl,⟨Nat.le_refl _,λ_ _=>rfl⟩,C9.none λb sz rows=>by rw[I];exact hG.1 b sz rows⟩
  have:(U.toArray++Array.replicate (fn.ntmps-U.toArray.size) Go.undef).toList=U++List.replicate (fn.ntmps-args.length) Go.undef:=by simp[hcl]
  rw[this,<- Qh];exact jo.app _ _ _ _ R (Hy _)
  by_cases hi:F6 σ st k
  exact .inr ⟨h,hi⟩
  exact .inl ⟨h,hi⟩
 have hA:TD C ⟨Oz args 0 Tr.e,Nat.max (FZ args) fn.ntmps,t,nx⟩ [] { tmps:=U.toArray++Array.replicate (fn.ntmps-U.toArray.size) Go.undef,defers:=[] } w :=
  ⟨hG,rfl,_,st,Y,σ,hps,hlen,I,H0,List.nodup_nil,λr hr=>by cases hr⟩
 have hwp:=acQ (T:=T.at nx) hT hW hnar hgl hcall c _ m E hc C [] _ w hA;refine callsIn_wide.1 (callsIn_of_wp_marks (F:=Fence.wide) (n:=1) O hb trivial (wpIn_wide.2 (wp_mono hwp ?_)));intro e a w' hq;obtain⟨rfl,D,hE'⟩:=hq
 have main:LeavesInM Fence.wide 1 P fn a.tmps (λe w'=>∃ cv Y' σ' st',e=.returned cv/\(∀ b,kR st' b=mF t' b)/\SW (JI (T.at nx) w Y σ st) w' Y' σ' [v] [cv] st' n') a.defers .returning w':=by
  obtain⟨hG',hdf,ps,st1,Y1,σ1,htm,hn1,J,H1,hD⟩:=hE';rw[hdf];refine TM (T:=T.at nx) (λb sz rows=>by rw[J];exact hG'.1 b sz rows) D w' H1 hD λw2 H2=>?_;obtain⟨us,h1,h2,h3,h4⟩:=Rw (T:=T) htm J _ _ v t' n' hr;rw[List.nil_append] at h2
  obtain⟨cv,hrun,hrep⟩:=Qv (T:=T.at nx) (E:=⟨ps,st1,E.nx⟩) (fn:=fn) hT H2 (show Jc (T.at nx) ⟨ps,st1,E.nx⟩ fn.results.toList=some us from by
   rw[<- h1]
   have:∀ rs,Jc (T.at nx) ⟨ps,st1,E.nx⟩ rs=Jc T ⟨ps,st1,E.nx⟩ rs:=by
    intro rs
    induction rs with
    | nil=>rfl
    | cons r rs ih =>
     unfold Jc;rw[ih];have:abM (T.at nx) ⟨ps,st1,E.nx⟩ r=abM T ⟨ps,st1,E.nx⟩ r:=by cases r<;>rfl
     rw[this]
   exact this _)
  refine⟨cv,hrun,cv,Y1,σ1,st1,rfl,by rw[h3];exact J,?_⟩;rw[h2,h4];exact H2.uS dD
 have hm2:m=0\/m=1:=by omega
 rcases hm2 with rfl|rfl
 exact main
 exact main
end
end Go.Pv
namespace Go.Pv
open Go
section
variable {P:Program}{T:Tab}
def qG (P:Program)(T:Tab)(k:Nat):Prop:=∀ x t n,((∃ sz f,x=.sl sz [] f)\/∃ b r,x=.os b r 0)->FnV P T k [x] t n (.sl 0 [] true) t n
theorem EW {all:Array Oper}{Q:Exit->Act->World->Prop}{o:Oper}{l:List Oper}{a:Act}{w w' : World}{v:Value}(U:o.guard=none)(hr:(execOp a.eval o).run P w=.ok (.value v) w')(h:wpList P all Q l (a.put o.dst v) w'):wpList P all Q (o::l) a w:=by
 unfold wpList;rw[if_pos (by simp[Region.wanted,U])];refine .inl ?_;unfold Oper.wp;rw[hr];exact h
theorem X3 {o:Oper}{a:Act}{w:World}{s x:Operand}{t u:TypeId}{U y:Option Addr}{yc:Nat}{R J:TypeId}(ho:o.op=.call { callee:=.builtin .append,args:=#[s,x],argTypes:=#[t,u] })(hu:P.underlying t=some (.slice R))(T:P.underlying u=some (.slice J))(hinf:P.info? R≠none)
  (hs:a.eval s=.slice U 0 0) (hx:a.eval x=.slice y 0 yc):(execOp a.eval o).run P w=.ok (.value (.slice U 0 0)) w:=by
 have r2:=xQ (P:=P) (w:=w) (size:=P.cellsOf R) (n:=0) (x:=y) (len:=0) (cap:=yc) (vs:=[]) aI (.inl rfl)
 have key:∀ ty cs,(builtin .append #[t,u] ty cs #[Value.slice U 0 0,Value.slice y 0 yc]).run P w=.ok (.value (.slice U 0 0)) w:=by
  intro ty cs;simp only[builtin,Builtin.append_,List.getElem?_toArray,List.getElem?_cons_zero,List.getElem?_cons_succ,Sem.run_bind,nG hu,nG T,Result.andThen,run_sizeOf hinf,Sem.run_pure];simp only[Bool.false_eq_true,if_false,Builtin.lenOf,Sem.run_bind,Sem.run_pure,Result.andThen];rw[if_pos (Nat.le_refl _)];simp only[Sem.run_bind,Bool.not_false,if_true,r2,Result.andThen];cases U<;>simp[storeCells]
 simp only[execOp,ho,resolve,Sem.run_bind,Sem.run_pure,Result.andThen,invoke];simp only[List.map_toArray,List.map_cons,List.map_nil,hs,hx];exact key _ _
theorem oP (hT:lW P T)(hW:I4 P){k:Nat}{fn:Func}(O:P.funcs[k]?=some fn){t u ut:TypeId}{r0 r1 r2 r3:Nat}{o0 o1 o2 o3 o4 o5 o6 o7:Oper}
  (hb:fn.body=some (.seq (.region r0 #[o0] false) (.seq (.seq (.region r1 #[o1,o2] false) (.cond (.tmp 4) (.seq (.region r2 #[o3] false) .ret) .skip)) (.seq (.region r3 #[o4,o5,o6,o7] false) .ret))))
  (h0:o0.op=.assign (.const (.slice none 0 0))/\o0.dst=some 2/\o0.guard=none) (h1:o1.op=.move (.tmp 0)/\o1.dst=some 3/\o1.guard=none) (h2:o2.op=.binOp .eql t (.tmp 3) (.const (.slice none 0 0)) ut/\o2.dst=some 4/\o2.guard=none)
  (h3:o3.op=.assign (.const (.slice none 0 0))/\o3.dst=some 2/\o3.guard=none) (h4:o4.op=.buildSlice t 0 #[]/\o4.dst=some 5/\o4.guard=none) (h5:o5.op=.move (.tmp 0)/\o5.dst=some 6/\o5.guard=none)
  (h6:o6.op=.call { callee:=.builtin .append,args:=#[.tmp 5,.tmp 6],argTypes:=#[t,u] }/\o6.dst=some 7/\o6.guard=none) (h7:o7.op=.assign (.tmp 7)/\o7.dst=some 2/\o7.guard=none)
  (hnt:fn.ntmps=8) (hres:fn.results=#[.tmp 2]) (henter:∀ args w,(callFunc k args).run P w=.ok (.enter k args) w)
  {agg:Bool} {size:Nat} {zero:Option (List PV)} {plain:Option (List Nat)} {esz bytes:Nat} {z:List PV} (et:T.ti t=⟨true,agg,size,zero,plain,.slice esz bytes (some z)⟩) (hp:lZ esz=true) (hz:z.length=esz)
  {agg' : Bool} {size' : Nat} {zero' : Option (List PV)} {I : Option (List Nat)} {esz' J : Nat} {z' : Option (List PV)} (eu:T.ti u=⟨true,agg',size',zero',I,.slice esz' J z'⟩):qG P T k:=by
 intro x tr n hx hG;refine⟨hG,λw Y σ cargs st hst hGl hY hn R hstR=>⟨henter _ _,?_⟩⟩;unfold jo at R;obtain⟨xv,vs',rfl,g,hv'⟩:=R;unfold jo at hv';subst hv';obtain⟨el,hu,he,hbe,hzz⟩:=nZ hT et;obtain⟨el',hu',_⟩:=nZ hT eu
 have hxv:∃ U cap,xv=.slice U 0 cap:=by
  rcases hx with ⟨sz,f,rfl⟩|⟨b,r,rfl⟩
  unfold Rep at g;obtain⟨U,len,cap,e,hl,_⟩:=g;have hl:len=0:=by simpa using hl
  subst hl;exact⟨U,cap,e⟩
  unfold Rep at g;rcases g with ⟨l,cap,_,e,_⟩|⟨_,U,e⟩
  exact⟨_,cap,e⟩
  exact⟨U,0,e⟩
 obtain⟨U,cap,rfl⟩:=hxv
 let C:Ctx (T.at n):=JI (T.at n) w Y σ st
 have H0:SW C w Y σ [] [] st n:=by
  refine⟨by unfold jo;rfl,hstR,hn,hY,λ_ h=>h.1,λk h=>⟨hY k h.1,h.2⟩,λk h _=>?_,QM.refl _ w,λb x l h1 h2=>.inr ⟨b,x,l,h1,h2,rfl⟩,hGl,⟨Nat.le_refl _,λ_ _=>rfl⟩,C9.none λb sz rows=>by rw[hst];exact hG.1 b sz rows⟩
  by_cases hi:F6 σ st k
  exact .inr ⟨h,hi⟩
  exact .inl ⟨h,hi⟩
 have nilrep:∀ (w:World) (Y:Nat->Prop) (σ:Sg) (sx:Option Addr),Rep w Y σ (.sl 0 [] true) (.slice sx 0 0):=λw Y σ sx=>by
  unfold Rep;exact⟨sx,0,0,rfl,rfl,Nat.le_refl _,λ_=>rfl,.inl rfl⟩
 refine calls_of_wp O hb ?_;have hnt' : fn.ntmps-([Value.slice U 0 cap].toArray).size=7:=by rw[hnt];rfl
 rw[hnt'];have htm:([Value.slice U 0 cap].toArray++Array.replicate 7 Go.undef)=#[Value.slice U 0 cap,Go.undef,Go.undef,Go.undef,Go.undef,Go.undef,Go.undef,Go.undef]:=rfl;rw[htm]
 have ret:∀ (tm:Array Value) (sx:Option Addr) (w' : World),tm.getD 2 Go.undef=.slice sx 0 0->SW C w' Y σ [] [] st n->bodyPost P fn (λe w'=>∃ cv Y' σ' st',e=.returned cv/\(∀ b,kR st' b=mF tr b)/\SW (JI (T.at n) w Y σ st) w' Y' σ' [.sl 0 [] true] [cv] st' n) .ret { tmps:=tm,defers:=[] } w':=by
  intro tm sx w' h2 H';refine⟨rfl,.slice sx 0 0,?_,_,Y,σ,st,rfl,hst,H'.uS (by unfold jo;exact⟨_,_,rfl,nilrep _ _ _ _,by unfold jo;rfl⟩)⟩;rw[XF,hres];simp[aga,h2]
 refine wp_seq (wp_region_list (EW h0.2.2 (v:=.slice none 0 0) (w':=w) (by simp[execOp,h0.1,Act.eval]) ?_));simp only[h0.2.1,Act.put];show Exit.then _ _ .normal _ _
 refine wp_seq (wp_seq (wp_region_list (EW h1.2.2 (v:=.slice U 0 cap) (w':=w) (by simp[execOp,h1.1,Act.eval]) ?_)));simp only[h1.2.1,Act.put];obtain⟨e1,_⟩:=MO (P:=P) (w:=w) (x:=U) (len:=0) (cap:=cap) hu;refine EW h2.2.2 (v:=.bool U.isNone) (w':=w) ?_ ?_
 have n1:∀ cs,Value.slice U 0 cap≠.agg cs:=by intro cs e;cases e
 have n2:Value.slice U 0 cap≠.nilIface:=by intro e;cases e
 simp[execOp,h2.1,Act.eval,F8 n1 n2,e1]
 simp only[h2.2.1,Act.put];show Exit.then _ _ .normal _ _
 cases hn1:U.isNone with
 | true =>
  refine wp_cond_true (by simp[Act.eval]) (wp_seq (wp_region_list (EW h3.2.2 (v:=.slice none 0 0) (w':=w) (by simp[execOp,h3.1,Act.eval]) ?_)));simp only[h3.2.1,Act.put];show Exit.then _ _ .normal _ _
  exact wp_ret (ret _ none w aI H0)
 | false =>
  refine wp_cond_false (by simp[Act.eval]) (wp_skip ?_);show Code.wp P _ _ _ _;have hinf:P.info? el≠none:=ni (by rw[<- he];exact hp);have hzl:z.length=P.cellsOf el:=by rw[hz];exact he
  have hpe:lZ (P.cellsOf el)=true:=by rw[<- he];exact hp
  refine wp_seq (wp_region_list ?_)
  let a3:Act:={ tmps:=#[Value.slice U 0 cap,Go.undef,.slice none 0 0,.slice U 0 cap,.bool false,Go.undef,Go.undef,Go.undef],defers:=[] }
  have H1:SW C w Y σ [.top,.top,.top,.top,.top,.top,.top,.top] a3.tmps.toList st n:=H0.uS (by
   show jo w Y σ _ [_,_,_,_,_,_,_,_];simp only[jo,Rep];exact⟨_,_,rfl,trivial,_,_,rfl,trivial,_,_,rfl,trivial,_,_,rfl,trivial,_,_,rfl,trivial,_,_,rfl,trivial,_,_,rfl,trivial,_,_,rfl,trivial,rfl⟩)
  obtain⟨vcs,hrep,hvl,hrun⟩:=wL (T:=T.at n) (a:=a3) hT H1 h4.1 hu hzz hpe hzl ai (show Ag (evP (T.at n) _ ([]:List (Nat×Operand)))=true from rfl) (cs:=[]) (by show FV _ (Oi 0 z) []=some [];rfl);obtain⟨H2,_⟩:=H0.afb vcs el;refine EW h4.2.2 hrun ?_;simp only[h4.2.1,Act.put];refine EW h5.2.2 (v:=.slice U 0 cap) (w':=w.alloc (.cells vcs el)) (by simp[execOp,h5.1,Act.eval,a3]) ?_;simp only[h5.2.1,Act.put];refine EW h6.2.2 (v:=.slice (some ⟨w.heap.size,0,none⟩) 0 0) (w':=w.alloc (.cells vcs el)) (X3 h6.1 hu hu' hinf (by simp[Act.eval,a3]) (y:=U) (yc:=cap) (by simp[Act.eval,a3])) ?_;simp only[h6.2.1,Act.put];refine EW h7.2.2 (v:=.slice (some ⟨w.heap.size,0,none⟩) 0 0) (w':=w.alloc (.cells vcs el)) (by simp[execOp,h7.1,Act.eval,a3]) ?_;simp only[h7.2.1,Act.put];show Exit.then _ _ .normal _ _
  exact wp_ret (ret _ (some ⟨w.heap.size,0,none⟩) _ (by simp[a3]) H2)
theorem ad7 (hT:lW P T)(hW:I4 P)(hnar:T.pU=0)(hgl:∀ g,T.gl g=none){F:Nat->Option (Bool×Func)}(hF:∀ k cl fn,F k=some (cl,fn)->P.funcs[k]?=some fn/\(fn.body.isSome=true->∀ args w,(callFunc k args).run P w=.ok (.enter k args) w)/\(cl=true->qG P T k)):∀ fuel,Na P T (Xc T.ti F fuel):=by
 intro fuel
 induction fuel with
 | zero=>intro k args t n v R U h;cases h
 | succ fuel ih =>
  intro k args t n v R U h
  have h:Option.rec (motive:=λ_=>uT) none (λp=>Prod.rec (motive:=λ_=>uT) (λcl fn=>ajZ cl args t n (Option.rec (motive:=λ_=>uT) none
   (λc=>Option.rec (motive:=λ_=>uT) none (λp=>Prod.rec (motive:=λ_=>uT) (λm E=>Bool.rec (motive:=λ_=>uT) none (resV T.ti E fn.results.toList []) (Nat.ble m 1)) p)
    (xg T.ti (Xc T.ti F fuel) c ⟨Oz args 0 Tr.e,Nat.max (FZ args) fn.ntmps,t,n⟩)) fn.body)) p) (F k)=some (v,R,U):=h
  cases hk:F k with
  | none=>rw[hk] at h;cases h
  | some q =>
   obtain⟨cl,fn⟩:=q;rw[hk] at h;obtain⟨O,J,C⟩:=hF k cl fn hk
   have h:ajZ cl args t n (Option.rec (motive:=λ_=>uT) none
    (λc=>Option.rec (motive:=λ_=>uT) none (λp=>Prod.rec (motive:=λ_=>uT) (λm E=>Bool.rec (motive:=λ_=>uT) none (resV T.ti E fn.results.toList []) (Nat.ble m 1)) p)
     (xg T.ti (Xc T.ti F fuel) c ⟨Oz args 0 Tr.e,Nat.max (FZ args) fn.ntmps,t,n⟩)) fn.body)=some (v,R,U):=h
   have body:(Option.rec (motive:=λ_=>uT) none
    (λc=>Option.rec (motive:=λ_=>uT) none (λp=>Prod.rec (motive:=λ_=>uT) (λm E=>Bool.rec (motive:=λ_=>uT) none (resV T.ti E fn.results.toList []) (Nat.ble m 1)) p)
     (xg T.ti (Xc T.ti F fuel) c ⟨Oz args 0 Tr.e,Nat.max (FZ args) fn.ntmps,t,n⟩)) fn.body:uT)=some (v,R,U)->FnV P T k args t n v R U:=by
    intro h
    cases hb:fn.body with
    | none=>rw[hb] at h;cases h
    | some c =>
     rw[hb] at h
     have h:Option.rec (motive:=λ_=>uT) none (λp=>Prod.rec (motive:=λ_=>uT) (λm E=>Bool.rec (motive:=λ_=>uT) none (resV T.ti E fn.results.toList []) (Nat.ble m 1)) p)
      (xg T.ti (Xc T.ti F fuel) c ⟨Oz args 0 Tr.e,Nat.max (FZ args) fn.ntmps,t,n⟩)=some (v,R,U):=h
     cases hc:xg T.ti (Xc T.ti F fuel) c ⟨Oz args 0 Tr.e,Nat.max (FZ args) fn.ntmps,t,n⟩ with
     | none=>rw[hc] at h;cases h
     | some q =>
      obtain⟨m,E⟩:=q;rw[hc] at h;have h:Bool.rec (motive:=λ_=>uT) none (resV T.ti E fn.results.toList []) (Nat.ble m 1)=some (v,R,U):=h
      cases I:Nat.ble m 1 with
      | false=>rw[I] at h;cases h
      | true =>
       rw[I] at h;exact acT hT hW hnar hgl ih O hb (J (by rw[hb];rfl)) hc (Nat.le_of_ble_eq_true I) h
   cases cl with
   | false=>exact body h
   | true =>
    have hC:=C rfl;unfold ajZ at h;simp only at h
    split at h
    cases h;exact hC _ _ _ (.inl ⟨_,_,rfl⟩)
    cases h;exact hC _ _ _ (.inr ⟨_,_,rfl⟩)
    exact body h
theorem ais:∀ (l:List Func) (k:Nat),lkP l k=l[k]?
 | [],k=>by simp;rfl
 | x::l,0=>rfl
 | x::l,k+1=>by show lkP l k=_;rw[ais l k];simp
theorem ait {k : Nat} {fn : Func} (O : P.funcs[k]? = some fn) (R : (fn.name == "runtime.NumGoroutine") = false) (hb : fn.body.isSome = true) : ∀ args w, (callFunc k args).run P w = .ok (.enter k args) w := by
 intro args w;have U : ¬ fn.name = "runtime.NumGoroutine" := by simpa using R
 have T : ¬ fn.body=none:=by intro h;rw[h] at hb;cases hb
 simp[callFunc,O,U,T]
theorem akM {cl : List Nat} (R : (P.funcs.toList.all fun f => !(f.name == "runtime.NumGoroutine")) = true) (U : ∀ k ∈ cl, qG P T k) : ∀ k c fn, al4 P.funcs.toList cl k = some (c, fn) → P.funcs[k]? = some fn ∧ (fn.body.isSome = true → ∀ args w, (callFunc k args).run P w = .ok (.enter k args) w) ∧ (c = true → qG P T k) := by
 intro k c fn h;unfold al4 at h;rw[ais,Array.getElem?_toList] at h
 cases hk:P.funcs[k]? with
 | none=>rw[hk] at h;cases h
 | some f =>
  rw[hk] at h;have h:some (JH cl k,f)=some (c,fn):=h;cases h;refine⟨rfl,λhb=>ait hk ?_ hb,λe=>U k ((EU _ _).1 e)⟩;have:=List.all_eq_true.1 R fn (List.mem_of_getElem? (by rw[Array.getElem?_toList];exact hk))
  simpa using this
theorem Qz (hT:lW P T)(hW:I4 P)(hnar:T.pU=0)(hgl:∀ g,T.gl g=none){F:Nat->Option (Bool×Func)}(hF:∀ k cl fn,F k=some (cl,fn)->P.funcs[k]?=some fn/\(fn.body.isSome=true->∀ args w,(callFunc k args).run P w=.ok (.enter k args) w)/\(cl=true->qG P T k)){fuel k:Nat}
  (h:okV (Xc T.ti F fuel k [] Tr.e 0)=true):Fn P T.gl k [] (λu=>u=.sb true):=by
 unfold okV at h
 split at h
 rename_i t' n' hr;have I:=ad7 hT hW hnar hgl hF fuel _ _ _ _ _ _ _ hr;obtain⟨_,I⟩:=I ⟨λb sz rows e=>by (cases e),λb _=>rfl⟩;intro w Y R hG hY U;obtain⟨h1,h2⟩:=I w Y kX R [] (λb=>rfl) hG hY (λb _=>rfl) U ⟨λb x e=>by (cases e),λb b' x x' l l' e=>by (cases e)⟩;refine⟨h1,Calls.mono h2 λe w' hh=>?_⟩;obtain⟨cv,Y',σ',st',rfl,_,C⟩:=hh;have hv:=C.vals;unfold jo at hv;obtain⟨c,cs,e,J,h4⟩:=hv;cases e;have J:=wK J;subst J
 exact⟨_,_,rfl,rfl,by unfold Rep;rfl,C.qh.qh λk hk=>by
  obtain⟨_,b,x,l,e,_⟩:=hk;cases e⟩
 cases h
end
end Go.Pv
namespace Go.Pv
open Go
section
variable {P:Program}{T:Tab}{S:kK}{M:kM}{α β σ ρ:Type}{r:ρ}
theorem d_x {I F:σ->Env}{k:σ->Option ρ}{s:σ}{E:Env}(hk:∀ s,I s=F s)(O:k s=some r)(e:E=F s:=by (conv=>lhs;cbv)<;>(try simp only[q])<;>(try rfl)<;>(try simp only[eL,q])<;>(try rfl)<;>(try (subst hM;rfl))):∃ s,k s=some r/\E=I s:=⟨s,O,e.trans (hk s).symm⟩
theorem d_l {u v:PV}(e:u=v:=by simp only[q];try first|rfl|simp[zZ,eI,eB,eL,eS,q]):LeP u v:=afo e
theorem lS {α:Sort _}{u v:α}(e:u=v:=by simp only[q];try first|rfl|simp[zZ,eI,eB,eL,eS,q]):u=v:=e
theorem kE (hS:S=kK.lM P T)(hT:lW P T)(hW:I4 P){b:Code}{Q:Post}{E:Env}{step:σ->(σ->Option ρ)->Option ρ}{R:σ}(cvs:List Cv)(keep:List Nat)(F:σ->Env)(O:jw step R=some r)
  (h:∀ (I:σ->Env) (k:σ->Option ρ) (s:σ),(∀ s,I s=F s)->step s k=some r->∀ e,e=F s->pwp T S b (Uy (λJ=>∃ U,k U=some r/\QY T.vY keep (wkE (cvE S cvs J))=I U) Q) e) (he:QY T.vY keep (wkE (cvE S cvs E))=F R:=by (conv=>lhs;cbv)<;>(try simp only[q])<;>(try rfl)):S.loop b Q E:=adY hS hT hW cvs keep F O he h
theorem jK (hS:S=kK.lM P T){k:Nat}{args as bs:List PV}{cargs:List PV}{E:Env}{K:PV->Env->Prop}{g:Option α}{v:α->PV}{kk:α->Option ρ}(O:bnd g kk=some r)(hF:∀ y,g=some y->Fn P T.gl k cargs (λu=>u=v y))(h:∀ y,kk y=some r->K (v y) E)(ha:as=cargs:=by rfl):S.Zi k args as bs E K:=qU hS O hF (le_eq ha) h
theorem rZ (hS:S=kK.lM P T){k:Nat}{args:List PV}{cargs:List PV}{K:PV->Prop}{g:Option α}{v:α->PV}{kk:α->Option ρ}(O:bnd g kk=some r)(hF:∀ y,g=some y->Fn P T.gl k cargs (λu=>u=v y))(h:∀ y,kk y=some r->K (v y))(ha:args=cargs:=by rfl):S.abE k args K:=adX hS O hF (le_eq ha) h
theorem rD (hS:S=kK.lM P T){l:Array Oper}{p:Prop}(h:p)(hd:Ho T l=true:=by kernel_rfl):S.order l p:=aks hS hd h
end
end Go.Pv
namespace Go.Pv
open Go
theorem jr {p:Prop}(h:p:=by intro O;cbv;cases O;first|exact hR _ (afo rfl)|exact hR _ d_l):p:=h
theorem kS {p:Prop}(h:p:=by intro _ O;cbv;cases O;first|exact hR _ (afo rfl)|exact hR _ d_l):p:=h
theorem tu {p:Prop}(h:p:=by cases O;first|exact hR _ (afo rfl)|exact hR _ d_l):p:=h
theorem jv {p:Prop}(h:p:=by intro O;cbv;exact d_x fU O):p:=h
theorem lu {p:Prop}(h:p:=by intro _ O;cbv;exact d_x fU O):p:=h
theorem ng {p:Prop}(h:p:=by exact d_x fU O):p:=h
abbrev sI (x:Int):PV:=.si .i64 x
abbrev vR (l:List PV):Option mJ:=some (.var false l)
abbrev aR (n:Nat) (l:List (List PV)):Option mJ:=some (.arr false n l)
abbrev mI (M:kM) (l:List Int):List (List PV):=M.m Int (eI .i64) l
def stL:Nat->List (Option mJ)->St
 | _,[]=>[]
 | i,b::l=>(i,b)::stL (i+1) l
def aop:List (Option mJ)->Nat
 | []=>0
 | _::l=>aop l+1
def f3 (n:Nat)(ts:List (Nat×PV))(bs:List (Option mJ)):Env:=⟨aku 0 n ts,stL 0 bs,aop bs⟩
section
variable {P:Program}{T:Tab}{S:kK}{M:kM}{α β σ ρ:Type}{r:ρ}
theorem jc {c c' : Bool}{fa fb:Option ρ}{A B:Unit->Prop}(ha:fa=some r->A ())(hb:fb=some r->B ())(hS:S=kK.lM P T:=by assumption)(O:br c' fa fb=some r:=by exact O)(e:c=c':=by simp only[q];try first|rfl|simp[zZ,eI,eB,eL,eS,q]):S.br c A B:=jA hS O e ha hb
theorem kV {es:List (List PV)}{l:List α}{e:α->List PV}{i i' : Int}{k:α->Option ρ}{K:List PV->Prop}(h:∀ x,k x=some r->K (e x))(hS:S=kK.lM P T:=by assumption)(hM:M=jT:=by assumption)(O:bnd (kJ l i') k=some r:=by exact O)(he:es=M.m α e l:=by rfl)(hi:i=i':=by rfl):S.idx es i K:=acp hS hM O he hi h
end
theorem jB {P:Program}{T:Tab}(hT:lW P T){k:Nat}{fn:Func}{c:Code}(O:P.funcs[k]?=some fn)
  (hcall:∀ args w,(callFunc k args).run P w=.ok (.enter k args) w) {args:List PV} {v:PV} {m:Nat}
  (h:∀ S R,S=kK.lM P T->(∀ u,LeP u v->R u)->pwp T S c (alO T S fn.results.toList R) ⟨Dp args (vN m),[],0⟩) (U:T.vY=0:=by rfl) (hW:I4 P:=by exact wf) (hb:fn.body=some c:=by rfl) (J:fn.ntmps-args.length=m:=by rfl):Fn P T.gl k args (λu=>u=v):=amm hT U hW O hb hcall J h
end Go.Pv
