import Derived.RangeFuncRecord
import Derived.LoopN
import Derived.Scope
import Derived.Test.YtchmoabpofnbaaaGreatB14
set_option linter.all false
namespace Go.Pv
open Go
section
variable {P:Program}{T:Tab}(hT:jg P T)(hW:CW P)(hnar:T.kH=0)(hgl:∀ g,T.gl g=none){call:zZ}(hcall:IU P T call)
theorem aeA {r:Rs}{R:List Nat}{tm:Tr PV}{n:Nat}{st:Sb}{nx:Nat}{dst:Option Nat}{E:EV}{T:Tc}(h:afC r R tm n st nx dst=some (E,T)) :
  ∃ v δ,r=some (v,δ)/\E=⟨vH tm n dst v,n,vI δ st,nx+1⟩/\T=(R,Bz δ,Bz δ)/\∀ b∈Bz δ,b=nx\/jr st b≠none:=by
 unfold afC at h
 split at h
 rename_i v δ
 split at h
 rename_i U;simp only[Option.some.injEq,Prod.mk.injEq] at h;obtain⟨rfl,rfl⟩:=h;refine⟨v,δ,rfl,rfl,rfl,λb hb=>?_⟩;have U:Bool.rec (motive:=λ_=>Bool) (Option.rec (motive:=λ_=>Bool) false (λ_=>true) (jr st b)) true (Nat.beq b nx)=true:=He U b hb
 cases hn:Nat.beq b nx with
 | true=>exact .inl (Nat.eq_of_beq_eq_true hn)
 | false=>rw[hn] at U;exact .inr (MQ.1 U)
 cases h
 cases h
theorem acB (P:Program){all:Array Oper}{o:Oper}{tm:Tr PV}{er:List PV}{g:Bool}(I:∀ i,mZ tm i=iZ er i)(h:gdV all.toList o.guard tm=some g):ag1 T all o er g:=by
 intro C ps Y σ a w st n hl H
 have h2:∃ U : Tr PV,(∀ i,mZ U i=iZ ps i)/\gdV all.toList o.guard U=some g:=by
  let mk:List PV->Tr PV:=λl=>Jm l 0 Tr.e
  have hmk:∀ (l:List PV) (k:Nat) (t:Tr PV) (i:Nat),mZ (Jm l k t) i=if k<=i/\i<k+l.length then iZ l (i-k) else mZ t i:=by
   intro l
   induction l with
   | nil=>intro k t i;rw[if_neg aB];rfl
   | cons x l ih =>
    intro k t i;have e:Jm (x::l) k t=Jm l (k+1) (Zp x k t):=rfl;rw[e,ih,PX]
    by_cases h1:i=k
    subst h1;rw[if_neg ah,if_pos rfl,if_pos aB,Nat.sub_self];rfl
    by_cases h2:k+1<=i/\i<k+1+l.length
    rw[if_pos h2,if_pos bM];obtain⟨j,hj⟩:∃ j,i-k=j+1:=⟨i-k-1,by omega⟩;rw[hj,show i-(k+1)=j by omega];rfl
    rw[if_neg h2,if_neg h1,if_neg bM]
  have R:∀ i,mZ (mk ps) i=iZ ps i:=λi=>by
   show mZ (Jm ps 0 Tr.e) i=_;rw[hmk]
   by_cases h:i<ps.length
   rw[if_pos ah,Nat.sub_zero]
   rw[if_neg ah,uU ah];rfl
  refine⟨mk ps,R,?_⟩
  cases hg:o.guard with
  | none=>rw[hg] at h;exact h
  | some p =>
   obtain⟨j,want⟩:=p;rw[hg] at h;have h:Option.rec (motive:=λ_=>Option Bool) none (λo=>Option.rec (motive:=λ_=>Option Bool) none (λd=>gdK (mZ tm d) want) o.dst) (Zr all.toList j)=some g:=h;show Option.rec (motive:=λ_=>Option Bool) none (λo=>Option.rec (motive:=λ_=>Option Bool) none (λd=>gdK (mZ (mk ps) d) want) o.dst) (Zr all.toList j)=some g
   cases hj:Zr all.toList j with
   | none=>rw[hj] at h;cases h
   | some oj =>
    rw[hj] at h;have h:Option.rec (motive:=λ_=>Option Bool) none (λd=>gdK (mZ tm d) want) oj.dst=some g:=h;show Option.rec (motive:=λ_=>Option Bool) none (λd=>gdK (mZ (mk ps) d) want) oj.dst=some g
    cases J:oj.dst with
    | none=>rw[J] at h;cases h
    | some d =>
     rw[J] at h;have h:gdK (mZ tm d) want=some g:=h;show gdK (mZ (mk ps) d) want=some g;rw[R,hl d ?_,<- I]
     exact h
     unfold Oper.looksAt;refine List.mem_append_right _ ?_;rw[WS,Array.getElem?_toList] at hj;simp[hg,hj,J]
 obtain⟨U,h3,h4⟩:=h2;exact Vt P h3 h4 H
include hT hW hnar hgl hcall in
theorem MR {all:Array Oper}:∀ (l:List Oper) (V R : EV) (tr:List Tc) (p:List PV) (st:St),(∀ i,mZ V.tm i=iZ p i)->V.n=p.length->(∀ b,iO st b=jr V.st b)->GT V.st V.nx->Uu T.ti call all.toList l V=some (R,tr) ->
  ∃ rs f stf,ChF P T all l rs p st V.nx f stf R.nx/\(∀ i,mZ R.tm i=iZ f i)/\R.n=f.length/\(∀ b,iO stf b=jr R.st b)/\GT R.st R.nx/\(∀ (i:Nat) (r:Rec),rs[i]?=some r->∃ U,tr[i]?=some U/\aci r U)
 | [],V,R,tr,p,st,C,hn,J,I,h=>by
  have h:some (V,([]:List Tc))=some (R,tr):=h;cases h;exact⟨[],p,st,⟨rfl,rfl,rfl⟩,C,hn,J,I,λi r hr=>by simp at hr⟩
 | o::l,⟨tm,n,t,nx⟩,R,tr,p,st,C,hn,J,I,h=>by
  have C:∀ i,mZ tm i=iZ p i:=C;have hn:n=p.length:=hn;have J:∀ b,iO st b=jr t b:=J;have I:GT t nx:=I
  have h:Option.rec (motive:=λ_=>Option (EV×List Tc)) none
   (λg=>Bool.rec (motive:=λ_=>Option (EV×List Tc)) (Nq ([],[],[]) (Uu T.ti call all.toList l ⟨vH tm n o.dst PV.undef,n,t,nx⟩)) (Option.rec (motive:=λ_=>Option (EV×List Tc)) none (λp=>Prod.rec (motive:=λ_=>Option (EV×List Tc)) (λE' U=>Nq U (Uu T.ti call all.toList l E')) p) (XM T.ti call o tm n t nx)) g) (gdV all.toList o.guard tm)=some (R,tr):=h
  have consF_inv:∀ {U:Tc} {r:Option (EV×List Tc)},Nq U r=some (R,tr)->∃ tr',r=some (R,tr')/\tr=U::tr':=by
   intro U r hh;unfold Nq at hh
   split at hh
   cases hh;exact⟨_,rfl,rfl⟩
   cases hh
  cases hg:gdV all.toList o.guard tm with
  | none=>rw[hg] at h;cases h
  | some g =>
   rw[hg] at h;have hgd:=acB (T:=T) P C hg
   have cont:∀ (V1:EV) (U:Tc) (r:Rec) (m:Nat),Wl P T all o r p st nx m->aci r U->V1.tm=vH tm n o.dst r.v->V1.n=n->V1.nx=nx+m->(∀ b,iO (iW r.δ st) b=jr V1.st b)->GT V1.st V1.nx->Nq U (Uu T.ti call all.toList l V1)=some (R,tr) ->
     ∃ rs f stf,ChF P T all (o::l) rs p st nx f stf R.nx/\(∀ i,mZ R.tm i=iZ f i)/\R.n=f.length/\(∀ b,iO stf b=jr R.st b)/\GT R.st R.nx/\(∀ (i:Nat) (r:Rec),rs[i]?=some r->∃ U,tr[i]?=some U/\aci r U):=by
    intro V1 U r m hS hTc e1 e2 e3 e4 e5 hh;obtain⟨tr',hh2,rfl⟩:=consF_inv hh;obtain⟨rs,f,stf,hc,h1,h2,h3,h4,h5⟩:=MR l V1 R tr' (uw p o.dst r.v) (iW r.δ st) (by rw[e1];exact AU C hn _ _) (by rw[e2,lh];exact hn) e4 e5 hh2;rw[e3] at hc;refine⟨r::rs,f,stf,⟨m,hS,hc⟩,h1,h2,h3,h4,λi r' hr=>?_⟩
    cases i with
    | zero=>simp at hr;subst hr;exact⟨U,rfl,hTc⟩
    | succ i=>exact h5 i r' cu
   cases g with
   | false =>
    refine cont ⟨vH tm n o.dst PV.undef,n,t,nx⟩ ([],[],[]) ⟨p,p,QI,.undef,[],nx,false,false,false⟩ 0 ⟨rfl,hgd,λe=>by (cases e),λ_=>⟨rfl,rfl⟩,λb x e=>by (cases e),λb e=>absurd rfl e,λb sz rows e=>by (cases e)⟩ ⟨λb e=>absurd rfl e,λb e=>absurd rfl e,λb e=>by (cases e)⟩ rfl rfl rfl (λb=>J b) I h
   | true =>
    have h:Option.rec (motive:=λ_=>Option (EV×List Tc)) none (λp=>Prod.rec (motive:=λ_=>Option (EV×List Tc)) (λE' U=>Nq U (Uu T.ti call all.toList l E')) p) (XM T.ti call o tm n t nx)=some (R,tr):=h
    cases hs:XM T.ti call o tm n t nx with
    | none=>rw[hs] at h;cases h
    | some q =>
     obtain⟨V1,U⟩:=q;rw[hs] at h;have h:Nq U (Uu T.ti call all.toList l V1)=some (R,tr):=h;unfold XM at hs
     cases hc:O8 o.op with
     | none =>
      rw[hc] at hs;have hs:afC (opV o.op T.ti (evV tm) (lk1 (rdO o.op (evV tm)) t) nx) (rdO o.op (evV tm)) tm n t nx o.dst=some (V1,U):=hs;obtain⟨v,δ,hv,rfl,rfl,hk⟩:=aeA hs;refine cont _ _ ⟨p,p,lk1 (rdO o.op (evV tm)) t,v,OE δ,nx,true,true,false⟩ 1 ⟨rfl,hgd,λ_=>aez hT hW hnar hgl C hv,λe=>by (cases e),λb x hx=>by rw[J];exact (OG hx).2,λb hb=>?_,λb sz rows=>agx δ b sz rows⟩ ⟨λb hb=>?_,λb hb=>Vw δ b hb,λb hb=>hb⟩ rfl rfl rfl (λb=>?_) ⟨OC δ t I.1,λb hb=>?_⟩ h
      rcases hk b (Vw δ b hb) with rfl|h1
      exact .inl ⟨Nat.le_refl _,by omega⟩
      exact .inr (by rw[J];exact h1)
      cases hx:lk1 (rdO o.op (evV tm)) t b with
      | none=>exact absurd hx hb
      | some x=>exact (OG hx).1
      show iO (iW (OE δ) st) b=jr (vI δ t) b;rw[mi,MP,J];cases je (OE δ) b<;>rfl
      have hb:nx+1<=b:=hb;show jr (vI δ t) b=none;rw[La δ t b λhk2=>?_]
      exact I.2 b ah
      rcases hk b hk2 with h1|h1
      omega
      exact h1 (I.2 b ah)
     | some q =>
      obtain⟨f,args⟩:=q;rw[hc] at hs;obtain⟨ts,ho⟩:=TS hc;simp only at hs
      split at hs
      rename_i k caps O;obtain⟨v,m,δ,hsem,e1,e2,e3,e4,e5,e6,e7,e8,e9⟩:=acA (all:=all) hgl hcall ho C O I hs
      exact cont V1 U ⟨p,p,lk1 U.1 t,v,δ,nx,true,true,false⟩ m ⟨rfl,hgd,λ_=>hsem,λe=>by (cases e),λb x hx=>by rw[J];exact (OG hx).2,λb hb=>(e6 b hb).imp (λh=>h) (λh=>by rw[J];exact h),e7⟩
       ⟨λb hb=>by
        cases hx:lk1 U.1 t b with
        | none=>exact absurd hx hb
        | some x=>exact (OG hx).1,e8,e9⟩ e1 e2 e3 (e4 st J) e5 h
      cases hs
end
end Go.Pv
namespace Go.Pv
open Go
section
variable {P:Program}{T:Tab}
theorem aag (hT:jg P T)(hW:CW P)(hnar:T.kH=0)(hgl:∀ g,T.gl g=none){call:zZ}(hcall:IU P T call){id:Nat}{l:Array Oper}{V V' : EV}{m:Nat}(h:Zu l (Uu T.ti call l.toList l.toList V)=some (m,V')){C:Ctx T}{D:List Nat}{a:Act}{w:World}(hA:OA C V D a w){Q:Exit->Act->World->Prop}(hQ:∀ a' w',OA C V' D a' w'->Q .normal a' w') :
  m=0/\(Code.region id l true).wp P Q a w:=by
 obtain⟨hnn,hdf,ps,st,Y,σ,htm,hn,J,H,hD⟩:=hA;unfold Zu at h
 split at h
 rename_i E tr ho
 split at h
 rename_i hchk;cases h;obtain⟨hc1,hc2⟩:=qP hchk;refine⟨rfl,?_⟩;obtain⟨rs,f,stf,R,h1,h2,h3,h4,h5⟩:=MR hT hW hnar hgl hcall l.toList V V' tr ps st htm hn J hnn ho;obtain⟨hl1,hl2,hl3⟩:=R.len _ _
 have F:FT P T l rs ps st V.nx f V'.nx:=by
  refine⟨hc1,by simpa using hl1,λi o hi=>?_,hl2,λt ht=>R.keep _ _ ht,λb hb=>by rw[J];exact hnn.2 b hb,λi k ri rk hik hi hk hc=>?_⟩
  obtain⟨r,q,m,a0,a1,a2,a3,a4,a6,a7,a8⟩:=R.get _ _ i o cZ;exact⟨r,q,m,a0,a1,a2,a3,a4,λt ht=>a6 t λj oj hj hoj=>ht j oj hj bV,λt ht=>a7 t λj oj hj hoj=>ht j oj hj bV,λd hd hlt hn=>a8 d hd hlt λj oj hj hoj=>hn j oj hj bV⟩
  obtain⟨x,hx,hx2⟩:=h5 i ri hi;obtain⟨y,hy,hy2⟩:=h5 k rk hk;have:=PL tr 0 hc2 i k x y hik hx hy;rw[Nat.zero_add,Nat.zero_add] at this;exact SH hx2 hy2 this hc
 have hrep:∀ j,j<l.size->(Array.replicate l.size false).getD j true=false:=λj hj=>by simp[hj]
 have I:∀ j o,l[j]?=some o->(Array.replicate l.size false).getD j true=true->False:=by
  intro j o hj U
  have hlt:j<l.size:=by
   rcases Nat.lt_or_ge j l.size with h'|h'
   exact h'
   simp[Array.getElem?_eq_none h'] at hj
  rw[hrep j hlt] at U;cases U
 refine wp_region_any hW.mixed (Ve (C:=C) (D:=D) H.fix.1 F (λa' w' Y' σ' stx hd' H' hstx hD'=>hQ a' w' ⟨h4,hd',f,stx,Y',σ',h1,h2,λb=>?_,H',hD'⟩) l.size _ a _ aB ?_ ?_ ?_)
 rw[hstx b,<- R.fin];exact h3 b
 simp
 intro j o hj U;exact (I j o hj U).elim
 refine⟨hdf,Y,σ,ps,st,(H.drawn _).mono hl3,rfl,?_,λt _=>rfl,λb=>?_,λj hj _ b hb1 _=>?_,?_,λb sz rows=>by rw[J];exact hnn.1 b sz rows⟩
 intro j o t hj hdst U;exact (I j o hj U).elim
 rw[D6 _ _ _ _ λk r hr hDD=>?_];· rfl
 rw[Nat.zero_add] at hDD;obtain⟨ok,hok⟩:=F.oper hr;exact (I k ok hok hDD).elim
 obtain⟨_,_,_,_,_,_,_,h6,_⟩:=F.get j _ (Array.getElem?_eq_getElem hj);exact H.next b (Nat.le_trans h6 hb1)
 exact⟨hD.1,λr hr=>hD.2 r hr⟩
 cases h
 cases h
end
end Go.Pv
namespace Go.Pv
open Go
section
variable {P:Program}{T:Tab}
theorem SW.YN {C:Ctx T}{w:World}{Y:Nat->Prop}{σ:Sg}{ps:List PV}{vs:List Value}{st:St}{n:Nat}(H:SW C w Y σ ps vs st n)(hn:NNs st)(o:Obj):SW C (w.alloc o) (λk=>Y k\/k=w.heap.size) σ ps vs st n:=by
 have hold:∀ k,k<w.heap.size->(w.alloc o).heap[k]?=w.heap[k]?:=by
  intro k hk;show (w.heap.push o)[k]?=_;rw[Array.getElem?_push,if_neg ah]
 have hsz:(w.alloc o).heap.size=w.heap.size+1:=by show (w.heap.push o).size=_;simp
 have K:Keep w (w.alloc o) Y (λk=>Y k\/k=w.heap.size) σ σ:=⟨λk hk _=>hold k hk,λk hk h=>h.resolve_right ah,by omega,mg.refl _⟩;refine⟨gB.keep _ K _ H.vals,⟨λb x hx=>?_,H.store.inj⟩,H.next,λk hk=>?_,λk hk=>.inl (H.y0 k hk),H.c0,λk hk U=>?_,?_,H.own,H.wz.keep K.none,H.fix,yK.none hn⟩
 rcases H.store.blk b x hx with ⟨l,hl,hB⟩|h
 have:=hB.lt;exact .inl ⟨l,hl,gJ.keep K (hold _ this) ⟨λh=>h.resolve_right ah,.inl⟩ hB⟩
 exact .inr h
 rcases hk with h|h
 have:=H.vg k h;omega
 omega
 rcases hk with h|h
 exact H.vk k h U
 have:=H.mf.size;omega
 exact⟨H.mf.os,H.mf.tape,H.mf.output,by have:=H.mf.size;omega,λk hk hM=>by rw[hold k (Nat.lt_of_lt_of_le hk H.mf.size)];exact H.mf.block k hk hM⟩
theorem SW.aeB {C:Ctx T}{w:World}{Y:Nat->Prop}{σ:Sg}{ps:List PV}{vs:List Value}{st:St}{n:Nat}(H:SW C w Y σ ps vs st n)(hn:NNs st){l:Nat}{o:Obj}(o' : Obj)(hy:Y l)(hB:C.w0.heap.size<=l)(ho:w.heap[l]?=some o)(J:Wj o):SW C (w.putObj l o') Y σ ps vs st n:=by
 have U:∀ k,k≠l->(w.putObj l o').heap[k]?=w.heap[k]?:=λk hk=>World.putObj_heap_other hk;have hsz:(w.putObj l o').heap.size=w.heap.size:=by simp
 have K:Keep w (w.putObj l o') Y Y σ σ:=⟨λk _ hk=>U k λe=>hk (e ▸ hy),λ_ _ h=>h,by omega,mg.refl _⟩;refine⟨gB.keep _ K _ H.vals,⟨λb x hx=>?_,H.store.inj⟩,H.next,λk hk=>by rw[hsz];exact H.vg k hk,H.y0,H.c0,H.vk,?_,H.own,H.wz.keep K.none,H.fix,yK.none hn⟩
 rcases H.store.blk b x hx with ⟨l2,hl,R⟩|h
 refine .inl ⟨l2,hl,gJ.keep K (U _ λe=>?_) Iff.rfl R⟩;rcases BZ.cells H.store (k:=l2.cb) ⟨b,x,l2,hx,hl,rfl⟩ with ⟨arr,ty,h1⟩|⟨es,ck,h1⟩
 rw[e,ho] at h1;cases h1;exact J.1 arr ty rfl
 rw[e,ho] at h1;cases h1;exact J.2 es ck rfl
 exact .inr h
 exact⟨H.mf.os,H.mf.tape,H.mf.output,by rw[hsz];exact H.mf.size,λk hk hM=>by rw[U k ah];exact H.mf.block k hk hM⟩
def aah:Nat->Exit
 | 0=>.normal
 | 1=>.ret
 | n+2=>.exit n
def TrV (P:Program)(T:Tab)(c:Code)(V:EV)(m:Nat)(V' : EV):Prop:=∀ (C:Ctx T) (D:List Nat) a w,OA C V D a w->c.wp P (λe a' w'=>e=aah m/\∃ D',OA C V' D' a' w') a w
theorem YO (hgl:∀ g,T.gl g=none){c:Operand}{V:EV}{C:Ctx T}{D:List Nat}{a:Act}{w:World}(hA:OA C V D a w){b:Bool}(h:evV V.tm c=.bool b):a.eval c=.bool b:=by
 obtain⟨_,_,ps,st,Y,σ,U,_,_,H,_⟩:=hA;have:=jw H c;rw[<- P5 hgl U,h] at this;exact uk this
theorem YP (hgl:∀ g,T.gl g=none){call:zZ}(hcall:IU P T call){g:Operand}{ps:Array Tmp}{assign body:Code}{V V' : EV}{m:Nat}(h:adp call g V=some (m,V')):TrV P T (.rangeFunc g ps assign body) V m V':=by
 obtain⟨tm,n,t,nx⟩:=V;have h:Option.rec (motive:=λ_=>Oc) none (λp=>Prod.rec (motive:=λ_=>Oc) (λ_ q=>Prod.rec (motive:=λ_=>Oc) (λst nx=>some (0,⟨tm,n,st,nx⟩)) q) p) (fnE (evV tm g) λk U=>call k (PV.top::U) t nx)=some (m,V'):=h
 cases hr:fnE (evV tm g) λk U=>call k (PV.top::U) t nx with
 | none=>rw[hr] at h;cases h
 | some q =>
  obtain⟨v,t',n'⟩:=q;rw[hr] at h;cases h;obtain⟨k,U,O,hc⟩:=Ri hr;intro C D a w hA;obtain⟨J,hdf,pv,st,Y,σ,htm,hn,R,H,hD⟩:=hA;have R:∀ b,iO st b=jr t b:=R;have H:SW C w Y σ pv a.tmps.toList st nx:=H;have J:GT t nx:=J;have hNN:NNs st:=λb sz rows=>by rw[R];exact J.1 b sz rows
  have hg:=jw H g;rw[<- P5 hgl htm,O] at hg;unfold Rep at hg;obtain⟨cs,eg,hcs⟩:=hg;refine wpIn_wide.1 (wpIn_rangeFunc (F:=Fence.wide) (n:=1) λfn _=>?_)
  let rc:Loop:={ state:=.ready,pending:=none,fn,tmps:=a.tmps,params:=ps,assign,body,defers:=w.heap.size }
  let w1:=(w.alloc (.deferred (some []))).alloc (.loop rc)
  have hD1:w1.heap[w.heap.size]?=some (.deferred (some [])):=by
   show ((w.heap.push _).push _)[w.heap.size]?=_;rw[Array.getElem?_push,if_neg aB,Array.getElem?_push,if_pos rfl]
  have hL1:w1.heap[w.heap.size+1]?=some (.loop rc):=by
   show ((w.heap.push _).push _)[w.heap.size+1]?=_;rw[Array.getElem?_push,if_pos aB]
  have hold:∀ k,k<w.heap.size->w1.heap[k]?=w.heap[k]?:=λk hk=>by
   show ((w.heap.push _).push _)[k]?=_;rw[Array.getElem?_push,if_neg bM,Array.getElem?_push,if_neg ah]
  have H0:=H.YN hNN (.deferred (some []));have H1:=H0.YN hNN (.loop rc);have hsz:(w.alloc (.deferred (some []))).heap.size=w.heap.size+1:=by simp
  rw[hsz] at H1;obtain⟨hG,hF⟩:=hcall _ _ _ _ _ _ _ hc J
  have harg:gB w1 (λk=>(Y k\/k=w.heap.size)\/k=w.heap.size+1) σ (.top::U) (.func (.yield (w.heap.size+1)) #[] #[]::cs):=by
   unfold gB;refine⟨_,cs,rfl,by simp[Rep],gB.keep U (σ:=σ) ⟨λk hk _=>hold k hk,λk hk h=>?_,?_,mg.refl _⟩ cs hcs⟩
   rcases h with (h|h)|h
   exact h
   omega
   omega
   show w.heap.size<=((w.heap.push _).push _).size;simp;omega
  obtain⟨hent,I⟩:=hF w1 _ σ _ st R H1.wz H1.vg H1.next harg H1.store
  refine⟨w.heap.size+1,[{ target:=.collected w.heap.size,args:=#[] }],w1,{ target:=.fn (.func k) cs.toArray,args:=#[.func (.yield (w.heap.size+1)) #[] #[]] },w1,k,
   #[.func (.yield (w.heap.size+1)) #[] #[]]++cs.toArray,w1,run_enterLoop_outer _ _ _ _ _,?_,λ_ _=>trivial,?_,λe=>by (simp[Fence.wide] at e),?_⟩
  simp only[resolve,eg];simp[go_sem]
  have e : #[.func (.yield (w.heap.size+1)) #[] #[]]++cs.toArray=(Value.func (.yield (w.heap.size+1)) #[] #[]::cs).toArray:=by apply Array.ext';simp
  rw[e,<- hent];simp[invoke,go_sem]
  rw[callsIn_wide];have e : #[.func (.yield (w.heap.size+1)) #[] #[]]++cs.toArray=(Value.func (.yield (w.heap.size+1)) #[] #[]::cs).toArray:=by apply Array.ext';simp
  rw[e];refine Calls.mono I λed w3 hh=>?_;obtain⟨cv,Y3,σ3,st3,rfl,hst3,H3⟩:=hh;obtain⟨K,H4⟩:=H1.compose (T':=T.at nx) rfl rfl H3;obtain⟨g1,g2⟩:=H3.kept H1.store hD1 ⟨λ_ _ e=>dh,λ_ _ e=>dh⟩;obtain⟨g3,g4⟩:=H3.kept H1.store hL1 ⟨λ_ _ e=>dh,λ_ _ e=>dh⟩;have hNN3:NNs st3:=λb sz rows=>by rw[hst3];exact hG.1 b sz rows
  have H5:=(H4.qo (gB.keep _ K _ H1.vals)).aeB hNN3 (.loop { rc with state:=.exhausted }) (g4 (.inr rfl)) (by have:=H.mf.size;omega) g3 ⟨λ_ _ e=>dh,λ_ _ e=>dh⟩;refine⟨none,_,run_endLoop g3 (by simp[rc]),rfl,w.heap.size::D,hG,?_,pv,st3,Y3,σ3,htm,hn,hst3,H5,?_⟩
  simp only[hdf,marks,List.map_cons];rfl
  have hne:∀ r∈D,r<w.heap.size:=λr hr=>(Array.getElem?_eq_some_iff.1 (hD.2 r hr).2.2).1;refine⟨List.nodup_cons.2 ⟨λhm=>by have:=hne _ hm;omega,hD.1⟩,λr hr=>?_⟩;rcases List.mem_cons.1 hr with rfl|hr
  exact⟨H.mf.size,g2 (.inl (.inr rfl)),by rw[World.putObj_heap_other ah];exact g1⟩
  obtain⟨d0,d1,d2⟩:=hD.2 r hr;have hlt:=hne r hr;obtain⟨g5,g6⟩:=H3.kept H1.store (k:=r) (by rw[hold r hlt];exact d2) ⟨λ_ _ e=>dh,λ_ _ e=>dh⟩;exact⟨d0,g6 (.inl (.inl d1)),by rw[World.putObj_heap_other ah];exact g5⟩
end
end Go.Pv
namespace Go.Pv
open Go
section
variable {P:Program}{T:Tab}(hT:jg P T)(hW:CW P)(hnar:T.kH=0)(hgl:∀ g,T.gl g=none){call:zZ}(hcall:IU P T call)
theorem QB {f:EV->Oc}{c:Code}(O:∀ V m U,f V=some (m,U)->TrV P T c V m U){C:Ctx T}:∀ (n:Nat) (V:EV) (m:Nat) (U : EV),UX f n V=some (m,U)->∀ D a w,OA C V D a w->Code.rounds P c (λe g w'=>e=aah m/\∃ J,OA C U J g w') n a w
 | 0,V,m,U,h,D,a,w,hA=>by cases h
 | n+1,V,m,U,h,D,a,w,hA=>by
  have h:Option.rec (motive:=λ_=>Oc) none (λp=>Prod.rec (motive:=λ_=>Oc) (λk E'=>Nat.rec (motive:=λ_=>Oc) (UX f n E') (λm _=>some (Nat.succ m,E')) k) p) (f V)=some (m,U):=h
  cases hv:f V with
  | none=>rw[hv] at h;cases h
  | some q =>
   obtain⟨k,I⟩:=q;rw[hv] at h;rw[rounds_succ];refine wp_mono (O V k I hv C D a w hA) λe g w' hq=>?_;obtain⟨rfl,J,R⟩:=hq
   cases k with
   | zero=>exact QB O n I m U h J g w' R
   | succ k =>
    have h:some (Nat.succ k,I)=some (m,U):=h;cases h
    cases k with
    | zero=>exact⟨rfl,J,R⟩
    | succ k=>exact⟨rfl,J,R⟩
include hT hW hnar hgl hcall in
theorem YQ:∀ (c:Code) (V:EV) (m:Nat) (R : EV),uT T.ti call c V=some (m,R)->TrV P T c V m R:=by
 intro c
 induction c with
 | skip=>intro V m R h C D a w hA;cases h;exact wp_skip ⟨rfl,D,hA⟩
 | region id l dr =>
  intro V m R h C D a w hA
  cases dr with
  | false =>
   have h:ahv (opsV T.ti call l.toList l.toList V)=some (m,R):=h
   cases ho:opsV T.ti call l.toList l.toList V with
   | none=>rw[ho] at h;cases h
   | some V1 =>
    rw[ho] at h;cases h;exact wp_region_list (MO hT hW hnar hgl hcall l.toList V R ho a w hA λa' w' U=>⟨rfl,D,U⟩)
  | true =>
   have h:Zu l (Uu T.ti call l.toList l.toList V)=some (m,R):=h
   obtain⟨rfl,h1⟩:=aag (id:=id) hT hW hnar hgl hcall h hA (Q:=λe a' w'=>e=aah m/\∃ J,OA C R J a' w') λa' w' U=>by
    refine⟨?_,D,U⟩
    have:m=0:=by
     unfold Zu at h
     split at h
     split at h
     cases h;rfl
     cases h
     cases h
    subst this;rfl
   exact h1
 | seq x y ihx I =>
  intro V m R h C D a w hA;have h:ahu (uT T.ti call x V) (uT T.ti call y)=some (m,R):=h
  cases hx:uT T.ti call x V with
  | none=>rw[hx] at h;cases h
  | some q =>
   obtain⟨k,V1⟩:=q;rw[hx] at h;refine wp_seq (wp_mono (ihx V k V1 hx C D a w hA) λe a' w' hq=>?_);obtain⟨rfl,J,U⟩:=hq
   cases k with
   | zero=>exact I V1 m R h C J a' w' U
   | succ k =>
    have h:some (Nat.succ k,V1)=some (m,R):=h;cases h
    cases k with
    | zero=>exact⟨rfl,J,U⟩
    | succ k=>exact⟨rfl,J,U⟩
 | cond c x y ihx I =>
  intro V m R h C D a w hA;obtain⟨tm,n,st,nx⟩:=V;have h:afs (evV tm c) (uT T.ti call x ⟨tm,n,st,nx⟩) (uT T.ti call y ⟨tm,n,st,nx⟩)=some (m,R):=h;rcases Yx h with ⟨e,h⟩|⟨e,h⟩
  exact wp_cond_true (YO hgl hA e) (ihx _ m R h C D a w hA)
  exact wp_cond_false (YO hgl hA e) (I _ m R h C D a w hA)
 | block id b ih =>
  intro V m R h C D a w hA;have h:aht id (uT T.ti call b V)=some (m,R):=h
  cases hb:uT T.ti call b V with
  | none=>rw[hb] at h;cases h
  | some q =>
   obtain⟨k,V1⟩:=q;rw[hb] at h;refine wp_block (wp_mono (ih V k V1 hb C D a w hA) λe a' w' hq=>?_);obtain⟨rfl,J,U⟩:=hq
   cases k with
   | zero=>cases h;exact⟨rfl,J,U⟩
   | succ k =>
    cases k with
    | zero=>cases h;exact⟨rfl,J,U⟩
    | succ k =>
     have h:Bool.rec (motive:=λ_=>Oc) (some (Nat.succ (Nat.succ k),V1)) (some (0,V1)) (Nat.beq k id)=some (m,R):=h;show Exit.inBlock id _ (.exit k) a' w';simp only[Exit.inBlock]
     by_cases hk:k=id
     subst hk;rw[if_pos rfl];rw[Nat.beq_refl] at h;cases h;exact⟨rfl,J,U⟩
     rw[if_neg hk];rw[Nv hk] at h;cases h;exact⟨rfl,J,U⟩
 | loop b ih =>
  intro V m R h C D a w hA;have h:UX (uT T.ti call b) 100000 V=some (m,R):=h;exact wp_loop_rounds 100000 (QB ih 100000 V m R h D a w hA)
 | rangeFunc g ps x y ihx I=>intro V m R h;exact YP hgl hcall h
 | exit n=>intro V m R h C D a w hA;cases h;exact wp_exit ⟨rfl,D,hA⟩
 | scope b ih =>
  intro V m R h C D a w hA;refine wp_scope_straight (wp_mono (ih V m R h C D a w hA) λe a' w' hq=>?_);obtain⟨rfl,J,U⟩:=hq
  cases m with
  | zero=>exact⟨rfl,J,U⟩
  | succ m=>cases m with
   | zero=>exact⟨rfl,J,U⟩
   | succ m=>exact⟨rfl,J,U⟩
 | label l=>intro V m R h C D a w hA;cases h;exact wp_label ⟨rfl,D,hA⟩
 | ret=>intro V m R h C D a w hA;cases h;exact wp_ret ⟨rfl,D,hA⟩
 | _=>intro V m R h;cases h
theorem MS {V:EV}{ps:List PV}{st:St}(U:∀ i,mZ V.tm i=iZ ps i)(R:∀ b,iO st b=jr V.st b) :
  ∀ (rs:List ResultVar) (acc:List PV) (v:PV) (t:Sb) (n:Nat),resV T.ti V rs acc=some (v,t,n)->∃ us,EN T ⟨ps,st,V.nx⟩ rs=some us/\v=Ah (acc++us)/\t=V.st/\n=V.nx
 | [],acc,v,t,n,h=>by cases h;exact⟨[],rfl,by simp,rfl,rfl⟩
 | r::rs,acc,v,t,n,h=>by
  have h:ajz T.ti V r (λv=>resV T.ti V rs (O7 acc [v]))=some (v,t,n):=h
  have fin:∀ u,XG T ⟨ps,st,V.nx⟩ r=some u->resV T.ti V rs (O7 acc [u])=some (v,t,n)->∃ us,EN T ⟨ps,st,V.nx⟩ (r::rs)=some us/\v=Ah (acc++us)/\t=V.st/\n=V.nx:=by
   intro u hu hr;obtain⟨us,h1,h2,J,C⟩:=MS U R rs _ v t n hr;refine⟨u::us,?_,?_,J,C⟩
   unfold EN;rw[hu];simp only[h1]
   rw[h2,Rh];simp
  cases r with
  | tmp i =>
   have h:resV T.ti V rs (O7 acc [mZ V.tm i])=some (v,t,n):=h;exact fin (mZ V.tm i) (by simp only[XG];rw[U]) h
  | cell i ty =>
   have h:Option.rec (motive:=λ_=>Option (PV×Sb×Nat)) none (λp=>resV T.ti V rs (O7 acc [p.1])) (XH (mZ V.tm i) (λb c=>RJ (T.ti ty) (PV.lv b c) (jr V.st)) (λ_ _ _=>none) (λ_=>none))=some (v,t,n):=h
   cases hx:XH (mZ V.tm i) (λb c=>RJ (T.ti ty) (PV.lv b c) (jr V.st)) (λ_ _ _=>none) (λ_=>none) with
   | none=>rw[hx] at h;cases h
   | some q =>
    obtain⟨u,δ⟩:=q;rw[hx] at h;rcases J9 hx with ⟨b,c,e,hx⟩|⟨b,j,c,e,hx⟩|⟨cs,e,hx⟩
    obtain⟨agg,size,zero,plain,kind,et,hx⟩:=oI hx;have hx:aft (jr V.st b) (λ_ row=>RI agg size row c)=some (u,δ):=hx;obtain⟨ro,row,I,hx⟩:=TP hx;refine fin u ?_ h;rw[U] at e;simp only[XG,e,et,R,I]
    cases agg with
    | false =>
     obtain⟨_,h2,rfl⟩:=Ov hx;simp only[cond_false,kX];rw[show Nat.blt c row.length=true by rw[Nat.blt_eq];exact h2];rfl
    | true =>
     obtain⟨h1,h2⟩:=iU hx;simp only[TL,J8,Option.some.injEq,Prod.mk.injEq] at h2;obtain⟨rfl,rfl⟩:=h2;simp only[Bo] at h1;simp only[cond_true,kX,Gg,su];rw[show Nat.ble (c+size) row.length=true from h1];rfl
    cases hx
    cases hx
end
end Go.Pv
namespace Go.Pv
open Go
section
variable {P:Program}{T:Tab}
def InvV (V:EV):Prop:=GT V.st V.nx/\∃ p:List PV,(∀ i,mZ V.tm i=iZ p i)/\V.n=p.length
variable (hT:jg P T)(hW:CW P)(hnar:T.kH=0)(hgl:∀ g,T.gl g=none){call:zZ}(hcall:IU P T call)
include hcall in
theorem acC {o:Oper}{tm:Tr PV}{n:Nat}{st:Sb}{nx:Nat}{C : EV}(h:Jk T.ti call o tm n st nx=some C)(hI:InvV ⟨tm,n,st,nx⟩):InvV C:=by
 obtain⟨R,p,J,hn⟩:=hI;have R:GT st nx:=R;unfold Jk at h
 cases I:O8 o.op with
 | none =>
  rw[I] at h;obtain⟨v,δ,hv,rfl,U⟩:=fin_inv h;refine⟨⟨OC δ st R.1,λb hb=>?_⟩,_,AU J hn _ _,by rw[lh];exact hn⟩;have hb:zW δ nx<=b:=hb
  cases δ with
  | nil=>exact R.2 b hb
  | cons y δ =>
   show jr (vI (y::δ) st) b=none;rw[La _ _ b λhk=>by have:=U b hk;simp only[zW] at hb;omega];exact R.2 b (by simp only[zW] at hb;omega)
 | some q =>
  obtain⟨f,args⟩:=q;rw[I] at h;obtain⟨v,t',n',hr,rfl⟩:=YK h;obtain⟨k,g,O,hr⟩:=Ri hr;exact⟨(hcall _ _ _ _ _ _ _ hr R).1,_,AU J hn _ _,by rw[lh];exact hn⟩
include hcall in
theorem TV {all:List Oper}:∀ (l:List Oper) (V U : EV),opsV T.ti call all l V=some U->InvV V->InvV U
 | [],V,U,h,hI=>by cases h;exact hI
 | o::l,⟨tm,n,st,nx⟩,U,h,hI=>by
  have h:Option.rec (motive:=λ_=>Oe) none
   (λg=>Bool.rec (motive:=λ_=>Oe) (opsV T.ti call all l ⟨vH tm n o.dst PV.undef,n,st,nx⟩) (Option.rec (motive:=λ_=>Oe) none (λJ=>opsV T.ti call all l J) (Jk T.ti call o tm n st nx)) g) (gdV all o.guard tm)=some U:=h
  cases I:gdV all o.guard tm with
  | none=>rw[I] at h;cases h
  | some g =>
   rw[I] at h
   cases g with
   | true =>
    have h:Option.rec (motive:=λ_=>Oe) none (λJ=>opsV T.ti call all l J) (Jk T.ti call o tm n st nx)=some U:=h
    cases hs:Jk T.ti call o tm n st nx with
    | none=>rw[hs] at h;cases h
    | some V1 =>
     rw[hs] at h;exact TV l V1 U h (acC hcall hs hI)
   | false =>
    have h:opsV T.ti call all l ⟨vH tm n o.dst PV.undef,n,st,nx⟩=some U:=h;obtain⟨C,p,R,hn⟩:=hI;exact TV l _ U h ⟨C,_,AU R hn _ _,by rw[lh];exact hn⟩
theorem YR {f:EV->Oc}(O:∀ V m U,f V=some (m,U)->InvV V->InvV U):∀ (n:Nat) (V:EV) (m:Nat) (U : EV),UX f n V=some (m,U)->InvV V->InvV U
 | 0,V,m,U,h,_=>by cases h
 | n+1,V,m,U,h,hI=>by
  have h:Option.rec (motive:=λ_=>Oc) none (λp=>Prod.rec (motive:=λ_=>Oc) (λk R=>Nat.rec (motive:=λ_=>Oc) (UX f n R) (λm _=>some (Nat.succ m,R)) k) p) (f V)=some (m,U):=h
  cases hv:f V with
  | none=>rw[hv] at h;cases h
  | some q =>
   obtain⟨k,T⟩:=q;rw[hv] at h
   cases k with
   | zero=>exact YR O n T m U h (O V 0 T hv hI)
   | succ k =>
    have h:some (Nat.succ k,T)=some (m,U):=h;cases h;exact O V _ U hv hI
include hT hW hnar hgl hcall in
theorem acD:∀ (c:Code) (V:EV) (m:Nat) (U : EV),uT T.ti call c V=some (m,U)->InvV V->InvV U:=by
 intro c
 induction c with
 | skip=>intro V m U h R;cases h;exact R
 | region id l dr =>
  intro V m U h R
  cases dr with
  | false =>
   have h:ahv (opsV T.ti call l.toList l.toList V)=some (m,U):=h
   cases ho:opsV T.ti call l.toList l.toList V with
   | none=>rw[ho] at h;cases h
   | some I=>rw[ho] at h;cases h;exact TV hcall l.toList V U ho R
  | true =>
   have h:Zu l (Uu T.ti call l.toList l.toList V)=some (m,U):=h;unfold Zu at h
   split at h
   rename_i E tr ho
   split at h
   cases h;obtain⟨hG,p,htm,hn⟩:=R;obtain⟨st,hst⟩:=agv V.st;obtain⟨rs,f,stf,hch,h1,h2,h3,h4,h5⟩:=MR hT hW hnar hgl hcall l.toList V U tr p st htm hn hst hG ho;exact⟨h4,f,h1,h2⟩
   cases h
   cases h
 | seq x y ihx ihy =>
  intro V m U h R;have h:ahu (uT T.ti call x V) (uT T.ti call y)=some (m,U):=h
  cases hx:uT T.ti call x V with
  | none=>rw[hx] at h;cases h
  | some q =>
   obtain⟨k,I⟩:=q;rw[hx] at h;have:=ihx V k I hx R
   cases k with
   | zero=>exact ihy I m U h this
   | succ k =>
    have h:some (Nat.succ k,I)=some (m,U):=h;cases h;exact this
 | cond c x y ihx ihy =>
  intro V m U h R;obtain⟨tm,n,st,nx⟩:=V;have h:afs (evV tm c) (uT T.ti call x ⟨tm,n,st,nx⟩) (uT T.ti call y ⟨tm,n,st,nx⟩)=some (m,U):=h;rcases Yx h with ⟨e,h⟩|⟨e,h⟩
  exact ihx _ m U h R
  exact ihy _ m U h R
 | block id b C =>
  intro V m U h R;have h:aht id (uT T.ti call b V)=some (m,U):=h
  cases hb:uT T.ti call b V with
  | none=>rw[hb] at h;cases h
  | some q =>
   obtain⟨k,I⟩:=q;rw[hb] at h;have:=C V k I hb R
   cases k with
   | zero=>cases h;exact this
   | succ k =>
    cases k with
    | zero=>cases h;exact this
    | succ k =>
     have h:Bool.rec (motive:=λ_=>Oc) (some (Nat.succ (Nat.succ k),I)) (some (0,I)) (Nat.beq k id)=some (m,U):=h
     cases hk:Nat.beq k id with
     | true=>rw[hk] at h;cases h;exact this
     | false=>rw[hk] at h;cases h;exact this
 | loop b C=>intro V m U h R;exact YR C 100000 V m U h R
 | rangeFunc g ps x y ihx ihy =>
  intro V m U h R;obtain⟨tm,n,t,nx⟩:=V;have h:Option.rec (motive:=λ_=>Oc) none (λp=>Prod.rec (motive:=λ_=>Oc) (λ_ q=>Prod.rec (motive:=λ_=>Oc) (λst nx=>some (0,⟨tm,n,st,nx⟩)) q) p) (fnE (evV tm g) λk J=>call k (PV.top::J) t nx)=some (m,U):=h
  cases hr:fnE (evV tm g) λk J=>call k (PV.top::J) t nx with
  | none=>rw[hr] at h;cases h
  | some q =>
   obtain⟨v,t',n'⟩:=q;rw[hr] at h;cases h;obtain⟨k,J,O,hc⟩:=Ri hr;exact⟨(hcall _ _ _ _ _ _ _ hc R.1).1,R.2⟩
 | exit n=>intro V m U h R;cases h;exact R
 | scope b C=>intro V m U h R;exact C V m U h R
 | label l=>intro V m U h R;cases h;exact R
 | ret=>intro V m U h R;cases h;exact R
 | _=>intro V m U h;cases h
theorem YS:∀ (l:List PV) (k:Nat) (t:Tr PV) (i:Nat),mZ (Jm l k t) i=if k<=i/\i<k+l.length then iZ l (i-k) else mZ t i
 | [],k,t,i=>by rw[if_neg aB];rfl
 | x::l,k,t,i=>by
  have e:Jm (x::l) k t=Jm l (k+1) (Zp x k t):=rfl;rw[e,YS l,PX]
  by_cases h1:i=k
  subst h1;rw[if_neg ah,if_pos rfl,if_pos aB,Nat.sub_self];rfl
  by_cases h2:k+1<=i/\i<k+1+l.length
  rw[if_pos h2,if_pos bM];obtain⟨j,hj⟩:∃ j,i-k=j+1:=⟨i-k-1,by omega⟩;rw[hj,show i-(k+1)=j by omega];rfl
  rw[if_neg h2,if_neg h1,if_neg bM]
theorem TW:∀ (m i:Nat),iZ (rZ m) i=.undef
 | 0,i=>rfl
 | m+1,0=>rfl
 | m+1,i+1=>TW m i
theorem TY:∀ m:Nat,(rZ m).length=m
 | 0=>rfl
 | m+1=>by simp[rZ,TY m]
theorem aeC (l m:List PV)(i:Nat):iZ (l++m) i=if i<l.length then iZ l i else iZ m (i-l.length):=by
 rw[A8,A8,A8,List.getD_eq_getElem?_getD,List.getD_eq_getElem?_getD,List.getD_eq_getElem?_getD]
 by_cases h:i<l.length
 rw[if_pos h,List.getElem?_append_left h]
 rw[if_neg h,List.getElem?_append_right ah]
theorem OH {fn:Func}{R:Ending->World->Prop}{C:Ctx T}{Y:Nat->Prop}{σ:Sg}{ps:List PV}{tmps:Array Value}{st:St}{n:Nat}(hn:NNs st):∀ (D:List Nat) (w:World),SW C w Y σ ps tmps.toList st n->Ls C.w0.heap.size D w Y ->
  (∀ w',SW C w' Y σ ps tmps.toList st n->∃ v,(results fn tmps).run P w'=.ok v w'/\R (.returned v) w')->LeavesInM Fence.wide 1 P fn tmps R (marks D) .returning w
 | [],w,H,_,hR=>by
  obtain⟨v,h1,h2⟩:=hR w H;exact⟨v,h1,h2⟩
 | r::D,w,H,hD,hR=>by
  obtain⟨J,U⟩:=hD;obtain⟨h0,h1,h2⟩:=U r aB;have I:=(List.nodup_cons.1 J).1;have H':=H.aeB hn (.deferred none) h1 h0 h2 ⟨λ_ _ e=>dh,λ_ _ e=>dh⟩;refine⟨by simp,.inl ⟨r,w.putObj r (.deferred none),rfl,run_takeDeferred h2,?_⟩⟩
  exact OH hn D _ H' ⟨(List.nodup_cons.1 J).2,λq hq=>by
   obtain⟨g0,g1,g2⟩:=U q (by simp[hq]);refine⟨g0,g1,?_⟩;have g:q≠r:=by rintro rfl;exact I hq
   rw[World.putObj_heap_other g];exact g2⟩ hR
include hT hW hnar hgl hcall in
theorem YT {k:Nat}{fn:Func}{c:Code}(O:P.funcs[k]?=some fn)(hb:fn.body=some c)(g:∀ args w,(callFunc k args).run P w=.ok (.enter k args) w){args:List PV}{t:Sb}{nx m:Nat}{E:EV}
  (hc:uT T.ti call c ⟨Jm args 0 Tr.e,Nat.max (CO args) fn.ntmps,t,nx⟩=some (m,E)) (hm:m<=1) {v:PV} {t' : Sb} {n' : Nat} (hr:resV T.ti E fn.results.toList []=some (v,t',n')):FnV P T k args t nx v t' n':=by
 intro hG
 have hps:∀ i,mZ (Jm args 0 Tr.e) i=iZ (args++rZ (fn.ntmps-args.length)) i:=λi=>by
  rw[YS,aeC]
  by_cases h:i<args.length
  rw[if_pos ah,if_pos h];rfl
  rw[if_neg ah,if_neg h,TW];rfl
 have hlen:Nat.max (CO args) fn.ntmps=(args++rZ (fn.ntmps-args.length)).length:=by
  rw[List.length_append,TY,Bo];show max args.length fn.ntmps=_;omega
 have hI:=acD hT hW hnar hgl hcall c _ m E hc ⟨hG,_,hps,hlen⟩
 have hE:t'=E.st/\n'=E.nx:=by
  obtain⟨_,p,htm,_⟩:=hI;obtain⟨st,I⟩:=agv E.st;obtain⟨us,_,_,h3,h4⟩:=MS htm I _ _ v t' n' hr;exact⟨h3,h4⟩
 refine⟨by rw[hE.1,hE.2];exact hI.1,λw Y σ U st I hGl hY hn J hstR=>⟨g _ _,?_⟩⟩;have hcl:=J.length
 let C:Ctx (T.at nx):=EJ (T.at nx) w Y σ st
 have H0:SW C w Y σ (args++rZ (fn.ntmps-args.length)) ((U.toArray++Array.replicate (fn.ntmps-U.toArray.size) Go.undef).toList) st nx:=by
  refine⟨?_,hstR,hn,hY,λ_ h=>h.1,λk h=>⟨hY k h.1,h.2⟩,λk h _=>?_,Ji.refl _ w,λb x l h1 h2=>.inr ⟨b,x,l,h1,h2,rfl⟩,hGl,⟨Nat.le_refl _,λ_ _=>rfl⟩,yK.none λb sz rows=>by rw[I];exact hG.1 b sz rows⟩
  have:(U.toArray++Array.replicate (fn.ntmps-U.toArray.size) Go.undef).toList=U++List.replicate (fn.ntmps-args.length) Go.undef:=by simp[hcl]
  rw[this,<- KF];exact gB.app _ _ _ _ J (D7 _)
  by_cases hi:BZ σ st k
  exact .inr ⟨h,hi⟩
  exact .inl ⟨h,hi⟩
 have hA:OA C ⟨Jm args 0 Tr.e,Nat.max (CO args) fn.ntmps,t,nx⟩ [] { tmps:=U.toArray++Array.replicate (fn.ntmps-U.toArray.size) Go.undef,defers:=[] } w :=
  ⟨hG,rfl,_,st,Y,σ,hps,hlen,I,H0,List.nodup_nil,λr hr=>by cases hr⟩
 have hwp:=YQ (T:=T.at nx) hT hW hnar hgl hcall c _ m E hc C [] _ w hA;refine callsIn_wide.1 (callsIn_of_wp_marks (F:=Fence.wide) (n:=1) O hb trivial (wpIn_wide.2 (wp_mono hwp ?_)));intro e a w' hq;obtain⟨rfl,D,hE'⟩:=hq
 have main:LeavesInM Fence.wide 1 P fn a.tmps (λe w'=>∃ cv Y' σ' st',e=.returned cv/\(∀ b,iO st' b=jr t' b)/\SW (EJ (T.at nx) w Y σ st) w' Y' σ' [v] [cv] st' n') a.defers .returning w':=by
  obtain⟨hG',hdf,ps,st1,Y1,σ1,htm,hn1,R,H1,hD⟩:=hE';rw[hdf];refine OH (T:=T.at nx) (λb sz rows=>by rw[R];exact hG'.1 b sz rows) D w' H1 hD λw2 H2=>?_;obtain⟨us,h1,h2,h3,h4⟩:=MS (T:=T) htm R _ _ v t' n' hr;rw[List.nil_append] at h2
  obtain⟨cv,hrun,hrep⟩:=KR (T:=T.at nx) (E:=⟨ps,st1,E.nx⟩) (fn:=fn) hT H2 (show EN (T.at nx) ⟨ps,st1,E.nx⟩ fn.results.toList=some us from by
   rw[<- h1]
   have:∀ rs,EN (T.at nx) ⟨ps,st1,E.nx⟩ rs=EN T ⟨ps,st1,E.nx⟩ rs:=by
    intro rs
    induction rs with
    | nil=>rfl
    | cons r rs ih =>
     unfold EN;rw[ih];have:XG (T.at nx) ⟨ps,st1,E.nx⟩ r=XG T ⟨ps,st1,E.nx⟩ r:=by cases r<;>rfl
     rw[this]
   exact this _)
  refine⟨cv,hrun,cv,Y1,σ1,st1,rfl,by rw[h3];exact R,?_⟩;rw[h2,h4];exact H2.qo dC
 have hm2:m=0\/m=1:=by omega
 rcases hm2 with rfl|rfl
 exact main
 exact main
end
end Go.Pv
namespace Go.Pv
open Go
section
variable {P:Program}{T:Tab}
def nH (P:Program)(T:Tab)(k:Nat):Prop:=∀ x t n,((∃ sz f,x=.sl sz [] f)\/∃ b r,x=.os b r 0)->FnV P T k [x] t n (.sl 0 [] true) t n
theorem BQ {all:Array Oper}{Q:Exit->Act->World->Prop}{o:Oper}{l:List Oper}{a:Act}{w w' : World}{v:Value}(U:o.guard=none)(hr:(execOp a.eval o).run P w=.ok (.value v) w')(h:wpList P all Q l (a.put o.dst v) w'):wpList P all Q (o::l) a w:=by
 unfold wpList;rw[if_pos (by simp[Region.wanted,U])];refine .inl ?_;unfold Oper.wp;rw[hr];exact h
theorem TZ {o:Oper}{a:Act}{w:World}{s x:Operand}{t u:TypeId}{U y:Option Addr}{yc:Nat}{et R:TypeId}(ho:o.op=.call { callee:=.builtin .append,args:=#[s,x],argTypes:=#[t,u] })(hu:P.underlying t=some (.slice et))(T:P.underlying u=some (.slice R))(hinf:P.info? et≠none)
  (hs:a.eval s=.slice U 0 0) (hx:a.eval x=.slice y 0 yc):(execOp a.eval o).run P w=.ok (.value (.slice U 0 0)) w:=by
 have r2:=vM (P:=P) (w:=w) (size:=P.cellsOf et) (n:=0) (x:=y) (len:=0) (cap:=yc) (vs:=[]) aB (.inl rfl)
 have key:∀ ty cs,(builtin .append #[t,u] ty cs #[Value.slice U 0 0,Value.slice y 0 yc]).run P w=.ok (.value (.slice U 0 0)) w:=by
  intro ty cs;simp only[builtin,Builtin.append_,List.getElem?_toArray,List.getElem?_cons_zero,List.getElem?_cons_succ,Sem.run_bind,jA hu,jA T,Result.andThen,run_sizeOf hinf,Sem.run_pure];simp only[Bool.false_eq_true,if_false,Builtin.lenOf,Sem.run_bind,Sem.run_pure,Result.andThen];rw[if_pos (Nat.le_refl _)];simp only[Sem.run_bind,Bool.not_false,if_true,r2,Result.andThen];cases U<;>simp[storeCells]
 simp only[execOp,ho,resolve,Sem.run_bind,Sem.run_pure,Result.andThen,invoke];simp only[List.map_toArray,List.map_cons,List.map_nil,hs,hx];exact key _ _
theorem YU (hT:jg P T)(hW:CW P){k:Nat}{fn:Func}(O:P.funcs[k]?=some fn){t u ut:TypeId}{r0 r1 r2 r3:Nat}{o0 o1 o2 o3 o4 o5 o6 o7:Oper}
  (hb:fn.body=some (.seq (.region r0 #[o0] false) (.seq (.seq (.region r1 #[o1,o2] false) (.cond (.tmp 4) (.seq (.region r2 #[o3] false) .ret) .skip)) (.seq (.region r3 #[o4,o5,o6,o7] false) .ret))))
  (h0:o0.op=.assign (.const (.slice none 0 0))/\o0.dst=some 2/\o0.guard=none) (h1:o1.op=.move (.tmp 0)/\o1.dst=some 3/\o1.guard=none) (h2:o2.op=.binOp .eql t (.tmp 3) (.const (.slice none 0 0)) ut/\o2.dst=some 4/\o2.guard=none)
  (h3:o3.op=.assign (.const (.slice none 0 0))/\o3.dst=some 2/\o3.guard=none) (h4:o4.op=.buildSlice t 0 #[]/\o4.dst=some 5/\o4.guard=none) (h5:o5.op=.move (.tmp 0)/\o5.dst=some 6/\o5.guard=none)
  (h6:o6.op=.call { callee:=.builtin .append,args:=#[.tmp 5,.tmp 6],argTypes:=#[t,u] }/\o6.dst=some 7/\o6.guard=none) (h7:o7.op=.assign (.tmp 7)/\o7.dst=some 2/\o7.guard=none)
  (hnt:fn.ntmps=8) (hres:fn.results=#[.tmp 2]) (J:∀ args w,(callFunc k args).run P w=.ok (.enter k args) w)
  {agg:Bool} {size:Nat} {zero:Option (List PV)} {plain:Option (List Nat)} {esz bytes:Nat} {z:List PV} (et:T.ti t=⟨true,agg,size,zero,plain,.slice esz bytes (some z)⟩) (hp:jo esz=true) (hz:z.length=esz)
  {agg' : Bool} {size' : Nat} {zero' : Option (List PV)} {plain' : Option (List Nat)} {esz' I : Nat} {z' : Option (List PV)} (eu:T.ti u=⟨true,agg',size',zero',plain',.slice esz' I z'⟩):nH P T k:=by
 intro x tr n hx hG;refine⟨hG,λw Y σ cargs st hst hGl hY hn R hstR=>⟨J _ _,?_⟩⟩;unfold gB at R;obtain⟨xv,vs',rfl,g,hv'⟩:=R;unfold gB at hv';subst hv';obtain⟨el,hu,he,hbe,hzz⟩:=ku hT et;obtain⟨el',hu',_⟩:=ku hT eu
 have hxv:∃ U cap,xv=.slice U 0 cap:=by
  rcases hx with ⟨sz,f,rfl⟩|⟨b,r,rfl⟩
  unfold Rep at g;obtain⟨U,len,cap,e,hl,_⟩:=g;have hl:len=0:=by simpa using hl
  subst hl;exact⟨U,cap,e⟩
  unfold Rep at g;rcases g with ⟨l,cap,_,e,_⟩|⟨_,U,e⟩
  exact⟨_,cap,e⟩
  exact⟨U,0,e⟩
 obtain⟨U,cap,rfl⟩:=hxv
 let C:Ctx (T.at n):=EJ (T.at n) w Y σ st
 have H0:SW C w Y σ [] [] st n:=by
  refine⟨by unfold gB;rfl,hstR,hn,hY,λ_ h=>h.1,λk h=>⟨hY k h.1,h.2⟩,λk h _=>?_,Ji.refl _ w,λb x l h1 h2=>.inr ⟨b,x,l,h1,h2,rfl⟩,hGl,⟨Nat.le_refl _,λ_ _=>rfl⟩,yK.none λb sz rows=>by rw[hst];exact hG.1 b sz rows⟩
  by_cases hi:BZ σ st k
  exact .inr ⟨h,hi⟩
  exact .inl ⟨h,hi⟩
 have nilrep:∀ (w:World) (Y:Nat->Prop) (σ:Sg) (sx:Option Addr),Rep w Y σ (.sl 0 [] true) (.slice sx 0 0):=λw Y σ sx=>by
  unfold Rep;exact⟨sx,0,0,rfl,rfl,Nat.le_refl _,λ_=>rfl,.inl rfl⟩
 refine calls_of_wp O hb ?_;have hnt' : fn.ntmps-([Value.slice U 0 cap].toArray).size=7:=by rw[hnt];rfl
 rw[hnt'];have htm:([Value.slice U 0 cap].toArray++Array.replicate 7 Go.undef)=#[Value.slice U 0 cap,Go.undef,Go.undef,Go.undef,Go.undef,Go.undef,Go.undef,Go.undef]:=rfl;rw[htm]
 have ret:∀ (tm:Array Value) (sx:Option Addr) (w' : World),tm.getD 2 Go.undef=.slice sx 0 0->SW C w' Y σ [] [] st n->bodyPost P fn (λe w'=>∃ cv Y' σ' st',e=.returned cv/\(∀ b,iO st' b=jr tr b)/\SW (EJ (T.at n) w Y σ st) w' Y' σ' [.sl 0 [] true] [cv] st' n) .ret { tmps:=tm,defers:=[] } w':=by
  intro tm sx w' h2 H';refine⟨rfl,.slice sx 0 0,?_,_,Y,σ,st,rfl,hst,H'.qo (by unfold gB;exact⟨_,_,rfl,nilrep _ _ _ _,by unfold gB;rfl⟩)⟩;rw[SL,hres];simp[acj,h2]
 refine wp_seq (wp_region_list (BQ h0.2.2 (v:=.slice none 0 0) (w':=w) (by simp[execOp,h0.1,Act.eval]) ?_));simp only[h0.2.1,Act.put];show Exit.then _ _ .normal _ _
 refine wp_seq (wp_seq (wp_region_list (BQ h1.2.2 (v:=.slice U 0 cap) (w':=w) (by simp[execOp,h1.1,Act.eval]) ?_)));simp only[h1.2.1,Act.put];obtain⟨e1,_⟩:=H8 (P:=P) (w:=w) (x:=U) (len:=0) (cap:=cap) hu;refine BQ h2.2.2 (v:=.bool U.isNone) (w':=w) ?_ ?_
 have n1:∀ cs,Value.slice U 0 cap≠.agg cs:=by intro cs e;cases e
 have n2:Value.slice U 0 cap≠.nilIface:=by intro e;cases e
 simp[execOp,h2.1,Act.eval,CS n1 n2,e1]
 simp only[h2.2.1,Act.put];show Exit.then _ _ .normal _ _
 cases hn1:U.isNone with
 | true =>
  refine wp_cond_true (by simp[Act.eval]) (wp_seq (wp_region_list (BQ h3.2.2 (v:=.slice none 0 0) (w':=w) (by simp[execOp,h3.1,Act.eval]) ?_)));simp only[h3.2.1,Act.put];show Exit.then _ _ .normal _ _
  exact wp_ret (ret _ none w aB H0)
 | false =>
  refine wp_cond_false (by simp[Act.eval]) (wp_skip ?_);show Code.wp P _ _ _ _;have hinf:P.info? el≠none:=jD (by rw[<- he];exact hp);have hzl:z.length=P.cellsOf el:=by rw[hz];exact he
  have hpe:jo (P.cellsOf el)=true:=by rw[<- he];exact hp
  refine wp_seq (wp_region_list ?_)
  let a3:Act:={ tmps:=#[Value.slice U 0 cap,Go.undef,.slice none 0 0,.slice U 0 cap,.bool false,Go.undef,Go.undef,Go.undef],defers:=[] }
  have H1:SW C w Y σ [.top,.top,.top,.top,.top,.top,.top,.top] a3.tmps.toList st n:=H0.qo (by
   show gB w Y σ _ [_,_,_,_,_,_,_,_];simp only[gB,Rep];exact⟨_,_,rfl,trivial,_,_,rfl,trivial,_,_,rfl,trivial,_,_,rfl,trivial,_,_,rfl,trivial,_,_,rfl,trivial,_,_,rfl,trivial,_,_,rfl,trivial,rfl⟩)
  obtain⟨vcs,hrep,hvl,hrun⟩:=uq (T:=T.at n) (a:=a3) hT H1 h4.1 hu hzz hpe hzl ah (show xZ (evP (T.at n) _ ([]:List (Nat×Operand)))=true from rfl) (cs:=[]) (by show Cm _ (Jb 0 z) []=some [];rfl);obtain⟨H2,_⟩:=H0.aa9 vcs el;refine BQ h4.2.2 hrun ?_;simp only[h4.2.1,Act.put];refine BQ h5.2.2 (v:=.slice U 0 cap) (w':=w.alloc (.cells vcs el)) (by simp[execOp,h5.1,Act.eval,a3]) ?_;simp only[h5.2.1,Act.put];refine BQ h6.2.2 (v:=.slice (some ⟨w.heap.size,0,none⟩) 0 0) (w':=w.alloc (.cells vcs el)) (TZ h6.1 hu hu' hinf (by simp[Act.eval,a3]) (y:=U) (yc:=cap) (by simp[Act.eval,a3])) ?_;simp only[h6.2.1,Act.put];refine BQ h7.2.2 (v:=.slice (some ⟨w.heap.size,0,none⟩) 0 0) (w':=w.alloc (.cells vcs el)) (by simp[execOp,h7.1,Act.eval,a3]) ?_;simp only[h7.2.1,Act.put];show Exit.then _ _ .normal _ _
  exact wp_ret (ret _ (some ⟨w.heap.size,0,none⟩) _ (by simp[a3]) H2)
theorem ug (hT:jg P T)(hW:CW P){k:Nat}{fn:Func}(O:P.funcs[k]?=some fn)(R:∀ args w,(callFunc k args).run P w=.ok (.enter k args) w){t u ut:TypeId}{r0 r1 r2 r3:Nat}{o0 o1 o2 o3 o4 o5 o6 o7:Oper}
  (hb:fn.body=some (.seq (.region r0 #[o0] false) (.seq (.seq (.region r1 #[o1,o2] false) (.cond (.tmp 4) (.seq (.region r2 #[o3] false) .ret) .skip)) (.seq (.region r3 #[o4,o5,o6,o7] false) .ret))):=by rfl)
  (h0:o0.op=.assign (.const (.slice none 0 0))/\o0.dst=some 2/\o0.guard=none:=by exact⟨rfl,rfl,rfl⟩) (h1:o1.op=.move (.tmp 0)/\o1.dst=some 3/\o1.guard=none:=by exact⟨rfl,rfl,rfl⟩) (h2:o2.op=.binOp .eql t (.tmp 3) (.const (.slice none 0 0)) ut/\o2.dst=some 4/\o2.guard=none:=by exact⟨rfl,rfl,rfl⟩)
  (h3:o3.op=.assign (.const (.slice none 0 0))/\o3.dst=some 2/\o3.guard=none:=by exact⟨rfl,rfl,rfl⟩) (h4:o4.op=.buildSlice t 0 #[]/\o4.dst=some 5/\o4.guard=none:=by exact⟨rfl,rfl,rfl⟩) (h5:o5.op=.move (.tmp 0)/\o5.dst=some 6/\o5.guard=none:=by exact⟨rfl,rfl,rfl⟩)
  (h6:o6.op=.call { callee:=.builtin .append,args:=#[.tmp 5,.tmp 6],argTypes:=#[t,u] }/\o6.dst=some 7/\o6.guard=none:=by exact⟨rfl,rfl,rfl⟩) (h7:o7.op=.assign (.tmp 7)/\o7.dst=some 2/\o7.guard=none:=by exact⟨rfl,rfl,rfl⟩)
  (hnt:fn.ntmps=8:=by rfl) (hres:fn.results=#[.tmp 2]:=by rfl)
  {agg:Bool} {size:Nat} {zero:Option (List PV)} {plain:Option (List Nat)} {g bytes:Nat} {z:List PV} (et:T.ti t=⟨true,agg,size,zero,plain,.slice g bytes (some z)⟩:=by rfl) (hp:jo g=true:=by rfl) (hz:z.length=g:=by rfl)
  {agg' : Bool} {I : Nat} {C : Option (List PV)} {J : Option (List Nat)} {esz' U : Nat} {z' : Option (List PV)} (eu:T.ti u=⟨true,agg',I,C,J,.slice esz' U z'⟩:=by rfl):nH P T k:=YU hT hW O hb h0 h1 h2 h3 h4 h5 h6 h7 hnt hres R et hp hz eu
theorem aai (hT:jg P T)(hW:CW P)(hnar:T.kH=0)(hgl:∀ g,T.gl g=none){F:Nat->Option (Bool×Func)}(hF:∀ k cl fn,F k=some (cl,fn)->P.funcs[k]?=some fn/\(fn.body.isSome=true->∀ args w,(callFunc k args).run P w=.ok (.enter k args) w)/\(cl=true->nH P T k)):∀ fuel,IU P T (XN T.ti F fuel):=by
 intro fuel
 induction fuel with
 | zero=>intro k args t n v U R h;cases h
 | succ fuel ih =>
  intro k args t n v U R h
  have h:Option.rec (motive:=λ_=>rP) none (λp=>Prod.rec (motive:=λ_=>rP) (λcl fn=>afD cl args t n (Option.rec (motive:=λ_=>rP) none
   (λc=>Option.rec (motive:=λ_=>rP) none (λp=>Prod.rec (motive:=λ_=>rP) (λm E=>Bool.rec (motive:=λ_=>rP) none (resV T.ti E fn.results.toList []) (Nat.ble m 1)) p)
    (uT T.ti (XN T.ti F fuel) c ⟨Jm args 0 Tr.e,Nat.max (CO args) fn.ntmps,t,n⟩)) fn.body)) p) (F k)=some (v,U,R):=h
  cases hk:F k with
  | none=>rw[hk] at h;cases h
  | some q =>
   obtain⟨cl,fn⟩:=q;rw[hk] at h;obtain⟨O,J,hcl⟩:=hF k cl fn hk
   have h:afD cl args t n (Option.rec (motive:=λ_=>rP) none
    (λc=>Option.rec (motive:=λ_=>rP) none (λp=>Prod.rec (motive:=λ_=>rP) (λm E=>Bool.rec (motive:=λ_=>rP) none (resV T.ti E fn.results.toList []) (Nat.ble m 1)) p)
     (uT T.ti (XN T.ti F fuel) c ⟨Jm args 0 Tr.e,Nat.max (CO args) fn.ntmps,t,n⟩)) fn.body)=some (v,U,R):=h
   have body:(Option.rec (motive:=λ_=>rP) none
    (λc=>Option.rec (motive:=λ_=>rP) none (λp=>Prod.rec (motive:=λ_=>rP) (λm E=>Bool.rec (motive:=λ_=>rP) none (resV T.ti E fn.results.toList []) (Nat.ble m 1)) p)
     (uT T.ti (XN T.ti F fuel) c ⟨Jm args 0 Tr.e,Nat.max (CO args) fn.ntmps,t,n⟩)) fn.body:rP)=some (v,U,R)->FnV P T k args t n v U R:=by
    intro h
    cases hb:fn.body with
    | none=>rw[hb] at h;cases h
    | some c =>
     rw[hb] at h
     have h:Option.rec (motive:=λ_=>rP) none (λp=>Prod.rec (motive:=λ_=>rP) (λm E=>Bool.rec (motive:=λ_=>rP) none (resV T.ti E fn.results.toList []) (Nat.ble m 1)) p)
      (uT T.ti (XN T.ti F fuel) c ⟨Jm args 0 Tr.e,Nat.max (CO args) fn.ntmps,t,n⟩)=some (v,U,R):=h
     cases I:uT T.ti (XN T.ti F fuel) c ⟨Jm args 0 Tr.e,Nat.max (CO args) fn.ntmps,t,n⟩ with
     | none=>rw[I] at h;cases h
     | some q =>
      obtain⟨m,E⟩:=q;rw[I] at h;have h:Bool.rec (motive:=λ_=>rP) none (resV T.ti E fn.results.toList []) (Nat.ble m 1)=some (v,U,R):=h
      cases C:Nat.ble m 1 with
      | false=>rw[C] at h;cases h
      | true =>
       rw[C] at h;exact YT hT hW hnar hgl ih O hb (J (by rw[hb];rfl)) I (Nat.le_of_ble_eq_true C) h
   cases cl with
   | false=>exact body h
   | true =>
    have hC:=hcl rfl;unfold afD at h;simp only at h
    split at h
    cases h;exact hC _ _ _ (.inl ⟨_,_,rfl⟩)
    cases h;exact hC _ _ _ (.inr ⟨_,_,rfl⟩)
    exact body h
theorem aeD:∀ (l:List Func) (k:Nat),lkP l k=l[k]?
 | [],k=>by simp;rfl
 | x::l,0=>rfl
 | x::l,k+1=>by show lkP l k=_;rw[aeD l k];simp
theorem aeE {k : Nat} {fn : Func} (O : P.funcs[k]? = some fn) (hn : (fn.name == "runtime.NumGoroutine") = false) (hb : fn.body.isSome = true) : ∀ args w, (callFunc k args).run P w = .ok (.enter k args) w := by
 intro args w;have T : ¬ fn.name = "runtime.NumGoroutine" := by simpa using hn
 have U : ¬ fn.body=none:=by intro h;rw[h] at hb;cases hb
 simp[callFunc,O,T,U]
theorem agz {cl : List Nat} (hn : (P.funcs.toList.all fun f => !(f.name == "runtime.NumGoroutine")) = true) (U : ∀ k ∈ cl, nH P T k) : ∀ k c fn, ahw P.funcs.toList cl k = some (c, fn) → P.funcs[k]? = some fn ∧ (fn.body.isSome = true → ∀ args w, (callFunc k args).run P w = .ok (.enter k args) w) ∧ (c = true → nH P T k) := by
 intro k c fn h;unfold ahw at h;rw[aeD,Array.getElem?_toList] at h
 cases hk:P.funcs[k]? with
 | none=>rw[hk] at h;cases h
 | some f =>
  rw[hk] at h;have h:some (FO cl k,f)=some (c,fn):=h;cases h;refine⟨rfl,λhb=>aeE hk ?_ hb,λe=>U k ((BB _ _).1 e)⟩;have:=List.all_eq_true.1 hn fn (List.mem_of_getElem? (by rw[Array.getElem?_toList];exact hk))
  simpa using this
theorem acE (hT:jg P T)(hW:CW P)(hnar:T.kH=0)(hgl:∀ g,T.gl g=none){F:Nat->Option (Bool×Func)}(hF:∀ k cl fn,F k=some (cl,fn)->P.funcs[k]?=some fn/\(fn.body.isSome=true->∀ args w,(callFunc k args).run P w=.ok (.enter k args) w)/\(cl=true->nH P T k)){fuel k:Nat}
  (h:okV (XN T.ti F fuel k [] Tr.e 0)=true):Fn P T.gl k [] (λu=>u=.sb true):=by
 unfold okV at h
 split at h
 rename_i t' n' hr;have I:=aai hT hW hnar hgl hF fuel _ _ _ _ _ _ _ hr;obtain⟨_,I⟩:=I ⟨λb sz rows e=>by (cases e),λb _=>rfl⟩;intro w Y U hG hY R;obtain⟨h1,h2⟩:=I w Y iQ U [] (λb=>rfl) hG hY (λb _=>rfl) R ⟨λb x e=>by (cases e),λb b' x x' l l' e=>by (cases e)⟩;refine⟨h1,Calls.mono h2 λe w' hh=>?_⟩;obtain⟨cv,Y',σ',st',rfl,_,C⟩:=hh;have hv:=C.vals;unfold gB at hv;obtain⟨c,cs,e,J,h4⟩:=hv;cases e;have J:=uk J;subst J
 exact⟨_,_,rfl,rfl,by unfold Rep;rfl,C.mf.mf λk hk=>by
  obtain⟨_,b,x,l,e,_⟩:=hk;cases e⟩
 cases h
end
end Go.Pv
