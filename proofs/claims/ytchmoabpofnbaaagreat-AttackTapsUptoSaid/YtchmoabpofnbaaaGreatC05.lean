import Derived.LoopN
import Derived.OpenShut
import Derived.DataReads
import Derived.Carry
import Derived.Handed
import Derived.JoinedCond
import Derived.Test.YtchmoabpofnbaaaGreatC04
set_option linter.all false
namespace Go.Pv
open Go
theorem SW.acu {T:Tab}{C:Ctx T}{w:World}{Y:Nat->Prop}{σ:Sg}{ps:List PV}{vs:List Value}{st:St}{n:Nat}(H:SW C w Y σ ps vs st n){b r m sz:Nat}{rows:List (List PV)}{cv:Value}
  (hb:iH st b=some (.arr false sz rows)) (hv:Rep w Y σ (.os b r m) cv) :
  ∃ σ',SW C w Y σ' ps vs (nD (nD st b none) n (some (.arr false sz ((rows.drop r).take m)))) (n+1)/\Rep w Y σ' (.os n 0 m) cv/\mZ σ σ':=by
 have hn:=H.next n (Nat.le_refl _)
 have nb:b≠n\/σ b=none:=by
  grind
 have old:∀ c x,iH (nD st b none) c=some x->c≠b/\iH st c=some x:=by
  intro c x h;rw[gG] at h
  grind
 have hv0:=hv;unfold Rep at hv;rcases hv with ⟨l,cap,hs,ev,hmc,htot,hnr⟩|⟨hm,a,ev⟩
 let l' : Loc:=⟨l.cb,l.co+r*l.sz,l.sz,l.tot,m⟩
 let σ' : Sg:=λk=>if k=n then some l' else σ k
 have hσ:∀ k,k≠n->σ' k=σ k:=λk h=>if_neg h;have hσn:σ' n=some l':=if_pos rfl
 have hle:mZ σ σ':=by
  intro k x h
  grind
 have K:Keep w w Y Y σ σ':=⟨λ_ _ _=>rfl,λ_ _ h=>h,Nat.le_refl _,hle⟩;have hbn:b≠n:=by grind
 obtain⟨lb,hlb,hB⟩|⟨hno,_⟩:=H.store.blk b _ hb
 rw[hs] at hlb;cases hlb;unfold fF at hB;obtain⟨hat,hsz,hpos,⟨hfit,hnrw⟩,hrows,hY1,hY2⟩:=hB;have hlen:((rows.drop r).take m).length=m:=by grind
 refine⟨σ',⟨eU.keep _ K _ H.vals,⟨?_,?_⟩,?_,H.vJ,H.y0,H.c0,H.wP,H.pJ,?_,H.wQ,⟨by have:=H.fix.1;omega,?_⟩,?_⟩,?_,hle⟩
 intro c x hx;rw[gG] at hx
 by_cases hc:n=c
 rw[if_pos hc] at hx;cases hx;subst hc;refine .inl ⟨l',hσn,?_⟩;unfold fF;refine⟨⟨hat.blk⟩,hsz,hpos,⟨?_,hlen⟩,?_,hY1,λh=>by cases h⟩
 rw[hlen];show l.co+r*l.sz+m*sz<=l.tot;have:m*l.sz<=cap*l.sz:=Nat.mul_le_mul_right _ hmc.1
 grind
 grind[iQ.take,iQ.drop]
 rw[if_neg hc] at hx;obtain⟨_,hx⟩:=old c x hx;rcases H.store.blk c x hx with ⟨l2,h2,hB2⟩|⟨h2,h3⟩
 exact .inl ⟨l2,hle _ _ h2,fF.keep K rfl Iff.rfl hB2⟩
 grind
 intro c t x x' lc lc' hx J I g e;rw[gG] at hx J
 by_cases hc:n=c
 by_cases hc' : n=t
 grind
 rw[if_neg hc'] at J;obtain⟨hcb,J⟩:=old t x' J;subst hc;rw[hσn] at I;cases I;rw[hσ t (λe=>hc' e.symm)] at g;exact absurd (H.store.inj b t _ x' l lc' hb J hs g e).symm hcb
 rw[if_neg hc] at hx;obtain⟨hcb,hx⟩:=old c x hx;rw[hσ c (λe=>hc e.symm)] at I
 by_cases hc' : n=t
 subst hc';rw[hσn] at g;cases g;exact absurd (H.store.inj c b x _ lc l hx hb I hs e) hcb
 rw[if_neg hc'] at J;obtain⟨_,J⟩:=old t x' J;rw[hσ t (λe=>hc' e.symm)] at g;exact H.store.inj c t x x' lc lc' hx J I g e
 intro k hk;rw[hσ k ae];exact H.next k ae
 intro c x lc hx I;rw[gG] at hx
 by_cases hc:n=c
 subst hc;rw[hσn] at I;cases I;exact H.own b _ l hb hs
 rw[if_neg hc] at hx;obtain⟨_,hx⟩:=old c x hx;rw[hσ c (λe=>hc e.symm)] at I;exact H.own c x lc hx I
 intro k hk;rw[hσ k (by have:=H.fix.1;omega)];exact H.fix.2 k hk
 have ow:∀ c rr cc h sz' es,lU (nD (nD st b none) n (some (.arr false sz ((rows.drop r).take m)))) c rr cc h sz' es->lU st c rr cc h sz' es:=by
  rintro c rr cc h sz' es ⟨s0,rws,row,h1,h2⟩
  rw[gG] at h1
  by_cases hc:n=c
  grind
  rw[if_neg hc] at h1;exact⟨s0,rws,row,(old c _ h1).2,h2⟩
 refine⟨λ_ _ _ _ _ _ h=>H.nest.rep _ _ _ _ _ _ (ow _ _ _ _ _ _ h),λ_ _ _ _ _ _ h=>H.nest.old _ _ _ _ _ _ (ow _ _ _ _ _ _ h),λ_ _ _ _ _ _ _ _ _ _ _ _ h h'=>H.nest.one _ _ _ _ _ _ _ _ _ _ _ _ (ow _ _ _ _ _ _ h) (ow _ _ _ _ _ _ h'),?_⟩;intro c rr cc h sz' es t x lc ho hx I;rw[gG] at hx
 by_cases hc:n=t
 subst hc;rw[hσn] at I;cases I;exact H.nest.sep _ _ _ _ _ _ b _ l (ow _ _ _ _ _ _ ho) hb hs
 rw[if_neg hc] at hx;rw[hσ t (λe=>hc e.symm)] at I;exact H.nest.sep _ _ _ _ _ _ t x lc (ow _ _ _ _ _ _ ho) (old t x hx).2 I
 unfold Rep
 grind
 grind
 subst hm;have H1:=(H.drop b).empty (id:=n) ⟨hn,H.fix.1⟩ sz;have hm:max n (n+1)=n+1:=by omega
 rw[hm] at H1;refine⟨σ,by simpa using H1,?_,mZ.refl _⟩;unfold Rep
 grind
section
variable {P:Program}{T T' : Tab}{C:Ctx T}{w:World}{ps:List PV}{vs:List Value}
theorem Keep.same {w:World}{Y:Nat->Prop}{σ σ' : Sg}(h:mZ σ σ'):Keep w w Y Y σ σ':=⟨λ_ _ _=>rfl,λ_ _ h=>h,Nat.le_refl _,h⟩
theorem Keep.acv {w:World}{Y Y' T:Nat->Prop}{σ σ' J:Sg}(h:Keep w w Y Y' σ σ')(k:Keep w w Y' T σ' J):Keep w w Y T σ J:=⟨λ_ _ _=>rfl,λc hc h2=>h.excl c hc (k.excl c hc h2),Nat.le_refl _,h.sg.trans k.sg⟩
theorem V5 (v:PV){Y:Nat->Prop}{σ:Sg}{st:St}{n:Nat}{cv:Value}(H:SW C w Y σ ps vs st n)(hv:Rep w Y σ v cv) :
  ∃ Y' σ',SW C w Y' σ' ps vs (aep (gV.jd P T') v st n).2.1 (aep (gV.jd P T') v st n).2.2/\Rep w Y' σ' (aep (gV.jd P T') v st n).1 cv/\Keep w w Y Y' σ σ':=by
 have same:∃ Y' σ',SW C w Y' σ' ps vs st n/\Rep w Y' σ' v cv/\Keep w w Y Y' σ σ':=⟨Y,σ,H,hv,Keep.same (mZ.refl _)⟩;simp only[aep]
 split
 rename_i g t;obtain⟨Y',H',hY⟩:=SW.roS (IB [v] st) H;have K:Keep w w Y Y' σ σ:=⟨λ_ _ _=>rfl,λk _=>hY k,Nat.le_refl _,mZ.refl _⟩
 have J:∀ b x l,ab1 (roS st (IB [v] st)) b=some x->σ b=some l->¬ Y' l.cb:=by
  intro b x l h1 h2;obtain⟨h3,h4⟩:=IJ h1;rcases H'.store.blk b x h3 with ⟨l',I,hB⟩|⟨hn,_⟩
  rw[h2] at I;cases I;exact hB.ajL h4
  grind
 have hr:=CX (P:=P) (T:=T') (Y0:=Y') H'.store (λb x h=>(IJ h).1) (λ_ h=>h) J (λb sz rows hb=>by have:=(IJ hb).2;cases this) 6 v g cv t (Rep.keep _ K _ hv);exact⟨Y',σ,H',Rep.keep _ ⟨λ_ _ _=>rfl,λ_ _ h=>h,Nat.le_refl _,λb l h=>by simp[gJ] at h⟩ _ hr,K⟩
 exact same
theorem QF (z:Nat×Bool)(v:PV){Y:Nat->Prop}{σ:Sg}{st:St}{n:Nat}{cv:Value}(H:SW C w Y σ ps vs st n)(hv:Rep w Y σ v cv) :
  ∃ Y' σ',SW C w Y' σ' ps vs (Jt (gV.jd P T') z v st n).2.1 (Jt (gV.jd P T') z v st n).2.2/\Rep w Y' σ' (Jt (gV.jd P T') z v st n).1 cv/\Keep w w Y Y' σ σ':=by
 have same:∃ Y' σ',SW C w Y' σ' ps vs st n/\Rep w Y' σ' v cv/\Keep w w Y Y' σ σ':=⟨Y,σ,H,hv,Keep.same (mZ.refl _)⟩;obtain⟨z,re⟩:=z
 cases z with
 | zero=>
  cases re with
  | false=>exact same
  | true=>
   simp only[Jt]
   split
   rename_i b r m
   split
   rename_i sz rows J;obtain⟨Y',H',h1,h2,h3⟩:=H.adu J;have K:Keep w w Y Y' σ σ:=⟨λ_ _ _=>rfl,λk _=>h3 k,Nat.le_refl _,mZ.refl _⟩
   have hr:=CX (P:=P) (T:=T') (Y0:=Y') (lk:=λc=>if c=b then some (.lq sz rows) else none) H.store (λc x h=>by
     grind) h3 (λc x l h hl=>by
     grind) (λc sz2 g h r' row k h' I t e1 e2 e3=>by
     by_cases hc:c=b
     rw[if_pos hc] at h;cases h;have ho:lU st b r' k h' I t:=⟨sz,rows,row,J,e1,e2,e3⟩;exact⟨⟨(H.nest.rep _ _ _ _ _ _ ho).lt,h2 _ _ _ _ _ ho⟩,(H.nest.rep _ _ _ _ _ _ ho).rows⟩
     grind) 1 (.os b r m) (.sl sz ((gV.jd P T').fz ((gV.jd P T').sub rows r m)) false) cv (by simp[frz]) hv
   exact⟨Y',σ,H',Rep.keep _ ⟨λ_ _ _=>rfl,λ_ _ h=>h,Nat.le_refl _,λb l h=>by simp[gJ] at h⟩ _ hr,K⟩
   exact V5 _ H hv
   exact V5 _ H hv
 | succ z=>
  cases v with
  | sl sz t f=>
   cases f with
   | false=>exact same
   | true=>
    cases t with
    | cons _ _=>exact same
    | nil=>
     have H1:=H.empty (id:=n) ⟨H.next _ (Nat.le_refl _),H.fix.1⟩ (z+1);have hm:max n (n+1)=n+1:=by omega
     rw[hm] at H1;refine⟨Y,σ,H1,?_,Keep.same (mZ.refl _)⟩;show Rep w Y σ (.os n 0 0) cv;unfold Rep at hv |-
     grind
  | os b r m=>
   cases re with
   | false=>exact same
   | true=>
    show ∃ Y' σ',SW C w Y' σ' ps vs (Jt (gV.jd P T') (z+1,true) (.os b r m) st n).2.1 (Jt (gV.jd P T') (z+1,true) (.os b r m) st n).2.2/\Rep w Y' σ' (Jt (gV.jd P T') (z+1,true) (.os b r m) st n).1 cv/\Keep w w Y Y' σ σ';simp only[Jt]
    split
    rename_i J;obtain⟨σ',H1,h1,h2⟩:=H.acu J hv;exact⟨Y,σ',H1,h1,Keep.same h2⟩
    exact same
  | _=>exact same
theorem Jw:∀ (zs:List (Nat×Bool)) (cs:List PV) {Y:Nat->Prop} {σ:Sg} {st:St} {n:Nat} {cvs:List Value},SW C w Y σ ps vs st n->eU w Y σ cs cvs ->
  ∃ Y' σ',SW C w Y' σ' ps vs (DC (gV.jd P T') zs cs st n).2.1 (DC (gV.jd P T') zs cs st n).2.2/\eU w Y' σ' (DC (gV.jd P T') zs cs st n).1 cvs/\Keep w w Y Y' σ σ'
 | z::zs,v::cs,Y,σ,st,n,cvs,H,hv=>by
  unfold eU at hv;obtain⟨c,I,rfl,h1,h2⟩:=hv;obtain⟨g,σ1,H1,h1,k1⟩:=QF (P:=P) (T':=T') z v H h1;obtain⟨T,J,t,h2,k2⟩:=Jw zs cs H1 (eU.keep cs k1 _ h2);exact⟨T,J,t,by show eU w T J (_::_) _;unfold eU;exact⟨_,_,rfl,Rep.keep _ k2 _ h1,h2⟩,k1.acv k2⟩
 | [],cs,Y,σ,st,n,cvs,H,hv=>by grind[DC,Keep.same,mZ.refl]
 | z::zs,[],Y,σ,st,n,cvs,H,hv=>by grind[DC,Keep.same,mZ.refl]
theorem Us (zs:List (Nat×Bool))(v:PV){Y:Nat->Prop}{σ:Sg}{st:St}{n:Nat}{cv:Value}(H:SW C w Y σ ps vs st n)(hv:Rep w Y σ v cv) :
  ∃ Y' σ',SW C w Y' σ' ps vs (XL (gV.jd P T') zs v st n).2.1 (XL (gV.jd P T') zs v st n).2.2/\Rep w Y' σ' (XL (gV.jd P T') zs v st n).1 cv/\Keep w w Y Y' σ σ':=by
 unfold XL
 split
 rename_i cs;unfold Rep at hv;obtain⟨T,e,h⟩:=hv
 simp_all[Jw,Rep]
 split
 exact QF _ _ H hv
 grind[Keep.same,mZ.refl]
theorem QG:∀ (own:List (List (Nat×Bool))) (cs:List PV) {Y:Nat->Prop} {σ:Sg} {st:St} {n:Nat} {cvs:List Value},SW C w Y σ ps vs st n->eU w Y σ cs cvs ->
  ∃ Y' σ',SW C w Y' σ' ps vs (Po (gV.jd P T') own cs st n).2.1 (Po (gV.jd P T') own cs st n).2.2/\eU w Y' σ' (Po (gV.jd P T') own cs st n).1 cvs/\Keep w w Y Y' σ σ'
 | z::zs,v::cs,Y,σ,st,n,cvs,H,hv=>by
  unfold eU at hv;obtain⟨c,I,rfl,h1,h2⟩:=hv;obtain⟨g,σ1,H1,h1,k1⟩:=Us (P:=P) (T':=T') z v H h1;obtain⟨T,J,t,h2,k2⟩:=QG zs cs H1 (eU.keep cs k1 _ h2);exact⟨T,J,t,by show eU w T J (_::_) _;unfold eU;exact⟨_,_,rfl,Rep.keep _ k2 _ h1,h2⟩,k1.acv k2⟩
 | [],cs,Y,σ,st,n,cvs,H,hv=>by grind[Po,Keep.same,mZ.refl]
 | z::zs,[],Y,σ,st,n,cvs,H,hv=>by grind[Po,Keep.same,mZ.refl]
theorem Ut (own:List (List (Nat×Bool)))(v:PV){Y:Nat->Prop}{σ:Sg}{st:St}{n:Nat}{cv:Value}(H:SW C w Y σ ps vs st n)(hv:Rep w Y σ v cv) :
  ∃ Y' σ' t,SW C w Y' σ' ps vs (XM (gV.jd P T') own v st n).2.1 t/\Rep w Y' σ' (XM (gV.jd P T') own v st n).1 cv:=by
 unfold XM
 split
 rename_i cs;unfold Rep at hv;obtain⟨I,e,h⟩:=hv;obtain⟨T,J,H1,h1,_⟩:=QG (P:=P) (T':=T') own cs H h
 grind[Rep]
 split
 obtain⟨T,J,H1,h1,_⟩:=Us (P:=P) (T':=T') _ _ H hv;exact⟨T,J,_,H1,h1⟩
 grind
end
end Go.Pv
namespace Go.Pv
open Go
def af6 (tmps:Array Value):ResultVar->Sem Value
 | .tmp t=>pure (tmps.getD t Go.undef)
 | .cell a t=>do loadVar t (<- asAddr (tmps.getD a Go.undef))
theorem acw (fn:Func)(tmps:Array Value):results fn tmps=(do let vs <- fn.results.mapM (af6 tmps);pure (if h:vs.size=1 then vs[0] else .tuple vs)):=by
 unfold results
 congr 1
theorem Uu {P:Program}{T:Tab}(hT:iK P T){C:Ctx T}{w:World}{Y:Nat->Prop}{σ:Sg}{E:Env}{tmps:Array Value}(H:SW C w Y σ E.tmps tmps.toList E.st E.next) :
  ∀ (rs:List ResultVar) (vs:List PV),VB T E rs=some vs ->
   ∃ cvs:List Value,(rs.mapM (af6 tmps)).run P w=.ok cvs w/\eU w Y σ vs cvs
 | [],vs,h=>by simp_all[VB,eU]
 | r::rs,vs,h=>by
  unfold VB at h
  split at h
  cases h
  rename_i v hv
  split at h
  cases h
  rename_i vs' hvs;cases h;obtain⟨cvs,hrun,hr⟩:=Uu hT H rs vs' hvs;have gd:∀ t,tmps.getD t Go.undef=tmps.toList.getD t Go.undef:=by simp_all
  have one:∃ cv,(af6 tmps r).run P w=.ok cv w/\Rep w Y σ v cv:=by
   cases r with
   | tmp t=>
    simp[ajz] at hv;subst hv;exact⟨tmps.getD t Go.undef,by simp[af6],by rw[gd];exact H.vals.get _ _ t⟩
   | cell c t=>
    simp only[ajz] at hv
    split at hv
    rename_i b off agg size z plain kind e1 e2;obtain⟨J,hsize,I,g⟩:=VE hT e2;have hc:=H.vals.get _ _ c;rw[e1] at hc;unfold Rep at hc;obtain⟨l,hl,ec⟩:=hc
    split at hv
    rename_i ro row hb;have hB:=fF.yN H (λ_ _ h=>h) hb hl;unfold fF at hB
    have hld:loadRow agg size row off (λu=>u=v):=by
     unfold loadRow
     grind
    obtain⟨u,cv,rfl,hrun',hrep⟩:=Uk J hsize I g hB.2.2.2.1 hld
    grind[af6,asAddr]
    cases hv
    cases hv
  obtain⟨cv,hrun1,hr1⟩:=one;refine⟨cv::cvs,?_,by unfold eU;grind⟩
  simp_all
theorem Ol {P:Program}{T:Tab}(hT:iK P T){C:Ctx T}{w:World}{Y:Nat->Prop}{σ:Sg}{E:Env}{tmps:Array Value}{fn:Func}(H:SW C w Y σ E.tmps tmps.toList E.st E.next){vs:List PV}(h:VB T E fn.results.toList=some vs) :
  ∃ cv,(results fn tmps).run P w=.ok cv w/\Rep w Y σ (Js vs) cv:=by
 obtain⟨cvs,g,hrep⟩:=Uu hT H _ _ h;have J:=hrep.length
 have I:(results fn tmps).run P w=.ok (if h:cvs.toArray.size=1 then cvs.toArray[0] else .tuple cvs.toArray) w:=by
  grind[acw,Array.mapM_eq_mapM_toList,Sem.run_bind,map_eq_pure_bind,Result.andThen,Sem.run_pure]
 by_cases h1:cvs.length=1
 rw[h1] at J
 match vs,J,hrep with
 | [x],_,hrep=>
  obtain⟨cv,rfl,t⟩:=II hrep;exact⟨cv,by grind,t⟩
 have hn1:¬ cvs.toArray.size=1:=by simpa using h1
 refine⟨.tuple cvs.toArray,by grind,?_⟩
 have:Js vs=.Eu vs:=by
  match vs,J with
  | [],_=>rfl
  | [x],J=>grind
  | _::_::_,_=>rfl
 rw[this];unfold Rep;grind
theorem GR:∀ (st:St),kS st=true->∀ b sz rows,iH st b≠some (.lq sz rows)
 | [],_,b,sz,rows,h=>by simp[iH] at h
 | (c,x)::st,h,b,sz,rows,hb=>by
  have h1:kS st=true/\∀ sz rows,x≠some (.lq sz rows):=by
   cases x with
   | none=>grind[kS]
   | some y=>cases y<;>simp_all[kS]
  simp only[iH] at hb
  cases hc:Nat.beq c b with
  | true=>grind
  | false=>rw[hc] at hb;exact GR st h1.1 b sz rows hb
theorem GU {w:World}{Y:Nat->Prop}{σ:Sg}:∀ n,eU w Y σ (rQ n) (List.replicate n Go.undef)
 | 0=>by simp[rQ,eU]
 | n+1=>by simp only[rQ,List.replicate_succ];unfold eU;exact⟨_,_,rfl,by simp[Rep],GU n⟩
theorem acx {P:Program}{T:Tab}(hT:iK P T)(hp:T.oZ=0)(hW:CY P){k:Nat}{fn:Func}{c:Code}(U:P.funcs[k]?=some fn)(hb:fn.body=some c)
  (t:∀ args w,(callFunc k args).run P w=.ok (.enter k args) w) {args:List PV} {R:PV->Prop} {m:Nat} (hm:fn.ntmps-args.length=m)
  (h:∀ S,S=gV.jd P T->JU T S c (ahT T S fn.results.toList R) ⟨vw args (rQ m),[],0⟩) (hyl:T.yl=none:=by rfl):Fn P T.gl k args R:=by
 intro w Y J hG hY I;refine⟨t _ _,?_⟩
 let C:Ctx T:=⟨w,Y,λ_=>False,λ_=>False,gJ,[]⟩;have hlen:=I.length
 have H0:SW C w Y gJ (vw args (rQ m)) ((J.toArray++Array.replicate (fn.ntmps-J.toArray.size) Go.undef).toList) [] 0:=by
  refine⟨?_,⟨λb x h=>by simp[iH] at h,λb b' x x' l l' h=>by simp[iH] at h⟩,λ_ _=>rfl,hY,λ_ h=>h,λk h=>⟨hY k h,λh=>h⟩,λk h _=>.inl h,ML.refl _ w,λb x l h=>by simp[iH] at h,hG,⟨by omega,λ_ _=>rfl⟩,Am.none (λb sz rows h=>by simp[iH] at h)⟩
  grind[Array.replicate,eU.app,GU]
 have hwp:=zQ hT hW c _ _ (h _ rfl) C { tmps:=J.toArray++Array.replicate (fn.ntmps-J.toArray.size) Go.undef,defers:=[] } w ⟨⟨Y,gJ,H0⟩,rfl,YOK.none hyl⟩;refine calls_of_wp U hb (wp_mono hwp ?_)
 have key:∀ (a:Act) (w' : World),(∃ E,kL C E a w'/\aaD T (gV.jd P T) fn.results.toList E R)->a.defers=[]/\∃ v,(results fn a.tmps).run P w'=.ok v w'/\∃ cv u,Ending.returned v=.returned cv/\R u/\Rep w' Y gJ u cv/\Chg w w':=by
  rintro a w' ⟨E,⟨⟨Y',σ',H⟩,hd⟩,hr⟩
  refine⟨hd.1,?_⟩;unfold aaD at hr
  split at hr
  rename_i vs hv
  split at hr
  rename_i u hu;obtain⟨cv,hrun,hrep⟩:=Ol hT H hv
  exact⟨cv,hrun,cv,u,rfl,hr,CX H.store (λ_ _ h=>h) H.y0 (λb x l hx hl=>H.away hx hl) (λb sz rows hb r row c h sz' es h1 h2 h3=>by
   have hO:lU E.st b r c h sz' es:=⟨sz,rows,row,hb,h1,h2,h3⟩;have hN:=H.nest.rep _ _ _ _ _ _ hO;refine⟨⟨hN.lt,λhy=>?_⟩,hN.rows⟩;have:=H.c0 _ hy;rcases H.nest.old _ _ _ _ _ _ hO with g|g<;>grind) _ _ _ _ hu hrep,H.pJ.pJ λ_ h=>h⟩
  exact hr.elim
  exact hr.elim
 intro e a w' hq
 cases e with
 | normal=>exact key a w' hq
 | ret=>exact key a w' hq
 | exit n=>obtain⟨E,_,hq⟩:=hq;exact hq.elim
 | _=>exact hq.elim
theorem aa2 {P:Program}{T:Tab}(hT:iK P T)(hW:CY P){k:Nat}{fn:Func}{c:Code}(U:P.funcs[k]?=some fn)(hb:fn.body=some c)
  (g:∀ args w,(callFunc k args).run P w=.ok (.enter k args) w) {args:List PV} {st:St} {R:PV->St->Nat->Prop} {m:Nat} (hm:fn.ntmps-args.length=m)
  (h:∀ S,S=gV.jd P T->JU T S c (aft T S fn.results.toList R) ⟨vw args (rQ m),st,T.oZ⟩) (hyl:T.yl=none:=by rfl):FnS P T.gl k args st T.oZ R:=by
 intro w Y σ J hG hY hn t hst hnn;refine⟨g _ _,?_⟩;have hlen:=t.length
 let C:Ctx T:=yg T w Y σ st
 have H0:SW C w Y σ (vw args (rQ m)) ((J.toArray++Array.replicate (fn.ntmps-J.toArray.size) Go.undef).toList) st T.oZ:=by
  refine⟨?_,hst,hn,hY,λ_ h=>h.1,λk h=>⟨hY k h.1,h.2⟩,λk h _=>?_,ML.refl _ w,λb x l h1 h2=>.inr ⟨b,x,l,h1,h2,rfl⟩,hG,⟨Nat.le_refl _,λ_ _=>rfl⟩,Am.none (GR st hnn)⟩
  grind[Array.replicate,eU.app,GU]
  by_cases hi:Ez σ st k
  exact .inr ⟨h,hi⟩
  exact .inl ⟨h,hi⟩
 have hwp:=zQ hT hW c _ _ (h _ rfl) C { tmps:=J.toArray++Array.replicate (fn.ntmps-J.toArray.size) Go.undef,defers:=[] } w ⟨⟨Y,σ,H0⟩,rfl,YOK.none hyl⟩;refine calls_of_wp U hb (wp_mono hwp ?_)
 have key:∀ (a:Act) (w' : World),(∃ E,kL C E a w'/\Ui T (gV.jd P T) fn.results.toList E R)->a.defers=[]/\∃ v,(results fn a.tmps).run P w'=.ok v w' /\
   ∃ cv u st' n' Y' σ',Ending.returned v=.returned cv/\R u st' n'/\SW (yg ⟨λ_=>.bad,T.gl,T.oZ,[],0,[],[],none,λ_=>[]⟩ w Y σ st) w' Y' σ' [u] [cv] st' n':=by
  rintro a w' ⟨E,⟨⟨Y',σ',H⟩,hd⟩,hr⟩
  refine⟨hd.1,?_⟩;unfold Ui at hr
  split at hr
  rename_i vs hv;obtain⟨cv,hrun,hrep⟩:=Ol hT H hv;have H1:SW C w' Y' σ' [Js vs] [cv] E.st E.next:=H.qU dJ
  obtain⟨Y1,σ1,n',H2,hrep2⟩:=Ut (P:=P) (T':=T) T.own (Js vs) H1 hrep;have H3:=H2.qU (show eU w' Y1 σ1 [(XM (gV.jd P T) T.own (Js vs) E.st E.next).1] [cv] by unfold eU;exact⟨_,_,rfl,hrep2,by unfold eU;rfl⟩)
  split at hr
  rename_i v st2 n2 he;rw[he] at H3;obtain⟨h1,h2,h3⟩:=MW T.oZ st2 [v];obtain⟨σ2,I,_⟩:=H3.aaA h1 h2 h3;refine⟨cv,hrun,cv,_,_,_,Y1,σ2,rfl,hr,⟨?_,I.store,I.next,I.vJ,I.y0,I.c0,I.wP,I.pJ,I.own,I.wQ,I.fix,I.nest⟩⟩
  simpa only[Ak] using I.vals
  exact hr.elim
 intro e a w' hq
 cases e with
 | normal=>exact key a w' hq
 | ret=>exact key a w' hq
 | exit n=>obtain⟨E,_,hq⟩:=hq;exact hq.elim
 | _=>exact hq.elim
end Go.Pv
namespace Go.Pv
open Go
def lkT:List (Nat×TI)->Nat->TI
 | [],_=>.bad
 | (k,i)::l,t=>bif Nat.beq k t then i else lkT l t
def aa3 (P:Program):List (Nat×TI)->List TI
 | []=>[]
 | (k,_)::l=>(bif Nat.blt k P.types.size then afh P k else .bad)::aa3 P l
def V6:List (Nat×TI)->List TI
 | []=>[]
 | (_,i)::l=>i::V6 l
def adD (l:List (Nat×TI))(gl:Nat->Option (List PV))(oZ:Nat)(cut:List Nat)(lq:Nat)(own:List (List (Nat×Bool)))(dcl:List (Nat×Nat)):Tab:=⟨lkT l,gl,oZ,cut,lq,own,dcl,none,λ_=>[]⟩
theorem aa4 {P:Program}{gl:Nat->Option (List PV)}{oZ:Nat}{cut:List Nat}{lq:Nat}{own:List (List (Nat×Bool))}{dcl:List (Nat×Nat)}:∀ (l:List (Nat×TI)),aa3 P l=V6 l->iK P (adD l gl oZ cut lq own dcl)
 | [],_=>λt h=>by simp[adD,lkT,TI.bad] at h
 | (k,i)::l,h=>λt hk=>by
  have T:=aa4 (P:=P) (gl:=gl) (oZ:=oZ) (cut:=cut) (lq:=lq) (own:=own) (dcl:=dcl) l;simp only[adD] at hk T |-;simp only[aa3,V6,List.cons.injEq] at h;simp only[lkT] at hk |-
  cases e:Nat.beq k t with
  | true=>
   rw[e] at hk;simp only[cond_true] at hk |-
   grind[Nat.eq_of_beq_eq_true,Nat.blt_eq,TI.bad]
  | false=>
   rw[e] at hk;simp only[cond_false] at hk |-;exact T h.2 t hk
theorem U7 {P:Program}{T:Tab}(l:List (Nat×TI))(h:aa3 P l=V6 l)(e:T.ti=lkT l):iK P T:=by
 intro t J;have k:=aa4 (gl:=λ_=>none) (oZ:=0) (cut:=[]) (lq:=0) (own:=[]) (dcl:=[]) l h t
 grind[adD]
def X5 (P:Program)(t:TypeId):Bool :=
 match P.underlying t with
 | none=>false
 | some (.struct fs)=>fs.toList.all λf=>(P.info? f.type).isSome
 | some (.array _ e)=>(P.info? e).isSome
 | some _=>true
def aij (P:Program):Nat->Bool
 | 0=>true
 | n+1=>X5 P n&&aij P n
theorem X6 {P:Program}:∀ n,aij P n=true->∀ t,t<n->X5 P t=true
 | 0,_,t,h=>by omega
 | n+1,h,t,ht=>by
  simp only[aij,Bool.and_eq_true] at h
  by_cases e:t=n
  grind
  exact X6 n h.2 t ae
theorem acy {info:TypeId->Option TypeInfo}{d:TypeDesc}{i:TypeInfo}(h:Made.reckon info d=some i):∀ n u,i.desc≠.named n u:=by
 intro n u T;cases d<;>simp only[Made.reckon,Option.bind_eq_bind,Option.pure_def] at h
 case pointer e=>
  obtain⟨j,_,h⟩:=Option.bind_eq_some_iff.1 h
  split at h
  cases h
  split at h
  cases h
  obtain⟨s,_,h⟩:=Option.bind_eq_some_iff.1 h;cases h;cases T
  obtain⟨s,_,h⟩:=Option.bind_eq_some_iff.1 h;cases h;cases T
 case struct fs=>
  grind[Made.reckonStruct,Option.bind_eq_some_iff]
 all_goals first
  | (cases h;done)
  | (obtain⟨s,_,h⟩:=Option.bind_eq_some_iff.1 h;cases h;cases T;done)
  | (
   obtain⟨s,_,h⟩:=Option.bind_eq_some_iff.1 h;obtain⟨s,_,h⟩:=Option.bind_eq_some_iff.1 h;cases h;cases T;done)
  | (
   obtain⟨s,_,h⟩:=Option.bind_eq_some_iff.1 h;obtain⟨s,_,h⟩:=Option.bind_eq_some_iff.1 h;obtain⟨s,_,h⟩:=Option.bind_eq_some_iff.1 h;obtain⟨s,_,h⟩:=Option.bind_eq_some_iff.1 h;cases h;cases T;done)
theorem ak8 {P:Program}(h:aij P P.types.size=true)(C:P.follows .mixedOrders=true):CY P:=by
 have key:∀ t,t<P.types.size->X5 P t=true:=X6 _ h;refine⟨?_,?_,?_,C⟩
 intro t ht
 by_cases T:t<P.types.size
 have:=key t T;unfold X5 at this
 grind
 cases hi:P.info? t with
 | none=>grind
 | some i=>
  have J:=hi;unfold Tables.info? at J;rw[if_neg T,show Made.depth=99+1 from rfl,Made.infoAt,if_neg T] at J;obtain⟨d,_,g⟩:=Option.bind_eq_some_iff.1 J;have I:=acy g;refine⟨i.desc,?_⟩;unfold Program.underlying
  grind
 grind[X5]
 grind[X5]
section
variable {P:Program}{T:Tab}{S:gV}(hS:S=gV.jd P T)
include hS
theorem ak9 {b:Bool}{t f:Unit->Prop}(T:b=true)(h:t ()):S.br b t f:=by subst hS;exact⟨λ_=>h,λe=>ak⟩
theorem ala {b:Bool}{t f:Unit->Prop}(T:b=false)(h:f ()):S.br b t f:=by subst hS;exact⟨λe=>ak,λ_=>h⟩
theorem aik {k:Nat}{args:List PV}{K:PV->Prop}{v:PV}(hF:Fn P T.gl k args (λu=>u=v))(h:K v):S.Vp k args K:=by subst hS;exact⟨v,hF,h⟩
theorem ail {k:Nat}{args:List PV}{K:PV->Prop}{v:PV}(hF:Fn P T.gl k args (λu=>u=v))(U:JS 6 v=true)(h:K v):S.XE k args K:=by subst hS;exact⟨v,hF,U,h⟩
theorem aim {k:Nat}{args bs as:List PV}{E:Env}{free:Option (List PV)}{ρ:List Nat}{st0:St}{K:PV->Env->Prop}{v:PV}(hF:Fn P T.gl k bs (λu=>u=v))(U:JS 6 v=true)(h:K v E):S.call k args E (some bs) free ρ as st0 K:=by
 subst hS;exact .inl ⟨bs,v,rfl,hF,U,h⟩
theorem ain {k:Nat}{args bs as:List PV}{E:Env}{J:Option (List PV)}{ρ:List Nat}{st0:St}{K:PV->Env->Prop}{v:PV}(hF:Fn P T.gl k bs (λu=>u=v))(h:K v ⟨E.tmps,roS E.st ρ,E.next⟩):S.call k args E J (some bs) ρ as st0 K:=by
 subst hS;exact .inr (.inl ⟨bs,v,rfl,hF,h⟩)
theorem adE {k:Nat}{args as:List PV}{E:Env}{J free:Option (List PV)}{ρ:List Nat}{st0:St}{m:Nat}{K:PV->Env->Prop}{v:PV}{st1:St}{n1:Nat}(hF:FnS P T.gl k as st0 m (λu s n=>u=v/\s=st1/\n=n1))(I:m=kU ρ)(h1:MO ρ=true)(h2:ltN E.next ρ=true)(h0:kS st0=true)
  (h:K (vI (CE ρ E.next) 8 v) (EZ ρ E st1 n1)):S.call k args E J free ρ as st0 K:=by
 subst hS;subst I;exact .inr (.inr (.inl ⟨v,st1,n1,h1,h2,h0,hF,h⟩))
theorem ajR {n bytes:Nat}{p:Prop}(h1:(2*n+192)*bytes<=140737488355328)(h2:n<=4611686018427387904)(h:p):S.room n bytes p:=by subst hS;exact⟨h1,h2,h⟩
theorem aio {K:Hdr->Prop}(h:∀ x,K x):S.nu K:=by subst hS;exact h
theorem yD {x y:Hdr}{p:Prop}(e:x=y)(h:p):S.same x y p:=by subst hS;exact⟨e,h⟩
theorem adF {l:Array Oper}{p:Prop}(J:GG T l=true)(h:p):S.order l p:=by subst hS;exact⟨J,h⟩
theorem V7 {l:Array Oper}{p:Prop}(T:Pm l=true)(h:p):S.last l p:=by subst hS;exact⟨T,h⟩
theorem af7 {l:Array Oper}{tr:List (List Nat×List Nat×List Nat)}{p:Prop}(T:(Gz l l.toList 0&&aer (Vz l.toList []) tr 0)=true)(h:p):S.ael l tr p:=by subst hS;exact⟨T,h⟩
theorem alb {T:List (List PV)}{i:Int}{K:List PV->Prop}{j:Nat}{row:List PV}(hi:i=(j:Int))(hr:T[j]?=some row)(h:K row):S.idx T i K:=by subst hS;exact⟨j,row,hi,hr,h⟩
theorem alc {n:Nat}{i:Int}{K:Nat->Prop}{j:Nat}(hi:i=(j:Int))(hr:j<n)(h:K j):S.ix n i K:=by subst hS;exact⟨j,hi,hr,h⟩
theorem ai6 {rows:List (List PV)}{j:Nat}{K:List PV->Prop}{row:List PV}(hr:rows[j]?=some row)(h:K row):S.row rows j K:=by subst hS;exact⟨row,hr,h⟩
theorem mO {ci:Nat}{T:Env}{A:Post->Prop}{B:Env->Prop}{Q:Post}(h:A (Jr B Q)):S.seq ci T A B Q:=by subst hS;exact⟨_,h,λn E h=>⟨E,Ent.refl E,h⟩⟩
end
end Go.Pv
namespace Go.Pv
open Go
def af8 (T:Tab)(S:gV)(b:Code)(Q:Post):Nat->Env->Prop
 | 0,_=>False
 | n+1,E=>JU T S b (Jr (λE=>af8 T S b Q n E) Q) E
theorem IK {P:Program}{T:Tab}{C:Ctx T}{b:Code}{Q:Post}{nx:Env->Prop}{n:Nat}(I:∀ E a w,kL C E a w->nx E->Code.rounds P b (lift C Q) n a w):∀ e a w,lift C (Jr nx Q) e a w->Exit.then (Code.rounds P b (lift C Q) n) (lift C Q) e a w:=by
 intro e a w h
 cases e with
 | normal=>obtain⟨E,hA,J⟩:=h;exact I E a w hA J
 | ret=>obtain⟨E,hA,J⟩:=h;exact⟨E,hA,J⟩
 | exit n=>obtain⟨E,hA,J⟩:=h;exact⟨E,hA,J⟩
 | _=>exact h.elim
theorem V8 {P:Program}{T:Tab}(hT:iK P T)(hW:CY P){b:Code}{Q:Post}:∀ (n:Nat) (E:Env),af8 T (gV.jd P T) b Q n E->∀ (C:Ctx T) a w,kL C E a w->Code.rounds P b (lift C Q) n a w
 | 0,E,h,_,_,_,_=>h.elim
 | n+1,E,h,C,a,w,hA=>by
  unfold Code.rounds;exact wp_mono (zQ hT hW b _ E h C a w hA) (IK λt g w' J I=>V8 hT hW n t I C g w' J)
def wkV:PV->PV
 | .int k n=>.si k n
 | .bool b=>.sb b
 | v=>v
def wkB:Option lI->Option lI
 | some (.var ro row)=>some (.var ro (Ak wkV row))
 | x=>x
def wkS:St->St
 | []=>[]
 | (b,x)::l=>(b,wkB x)::wkS l
def wkE (E:Env):Env:=⟨Ak wkV E.tmps,wkS E.st,E.next⟩
theorem adG (c:Nat):∀ st:St,iH (wkS st) c=wkB (iH st c)
 | []=>rfl
 | (b,x)::l=>by
  simp only[wkS,iH]
  cases Nat.beq b c with
  | true=>rfl
  | false=>exact adG c l
theorem adH {w:World}{Y:Nat->Prop}{σ:Sg}(p:PV)(v:Value)(h:Rep w Y σ p v):Rep w Y σ (wkV p) v:=by
 cases p<;>first|exact h|(unfold wkV;unfold Rep at h |-;exact h)
theorem adI {w:World}{Y:Nat->Prop}{σ:Sg}:∀ (ps:List PV) (vs:List Value),eU w Y σ ps vs->eU w Y σ (Ak wkV ps) vs
 | [],vs,h=>h
 | p::ps,vs,h=>by
  unfold eU at h;obtain⟨v,T,rfl,h1,h2⟩:=h;simp only[Ak];unfold eU;exact⟨v,T,rfl,adH p v h1,adI ps T h2⟩
theorem SW.QH {T:Tab}{C:Ctx T}{w:World}{Y:Nat->Prop}{σ:Sg}{ps:List PV}{vs:List Value}{st st' : St}{n:Nat}(H:SW C w Y σ ps vs st n)
  (h:∀ b,iH st' b=iH st b\/∃ ro row I,iH st b=some (.var ro row)/\iH st' b=some (.var ro I)/\I.length=row.length/\∀ cb o,iG w Y σ cb row o->iG w Y σ cb I o):SW C w Y σ ps vs st' n:=by
 have J : ∀ b x,iH st' b=some x->∃ y,iH st b=some y:=by
  grind
 have ow:∀ b r c t sz g,lU st' b r c t sz g->lU st b r c t sz g:=by
  rintro b r c t sz g ⟨sz0,rows,row,h1,h2⟩
  rcases h b with e|⟨ro,row1,I,e1,e2,_⟩
  exact⟨sz0,rows,row,by grind,h2⟩
  grind
 refine⟨H.vals,⟨?_,?_⟩,H.next,H.vJ,H.y0,H.c0,H.wP,H.pJ,?_,H.wQ,H.fix,⟨?_,?_,?_,?_⟩⟩
 intro b x hx;rcases h b with e|⟨ro,row,I,e1,e2,e3,e4⟩
 exact H.store.blk b x ak
 rw[e2] at hx;cases hx;rcases H.store.blk b _ e1 with ⟨l,hl,hB⟩|⟨_,hx⟩
 grind[fF]
 cases hx
 intro b b' x x' l l' hx hx' hl hl' e;obtain⟨y,hy⟩:=J b x hx;obtain⟨y',hy'⟩:=J b' x' hx';exact H.store.inj b b' y y' l l' hy hy' hl hl' e
 intro b x l hx hl;obtain⟨y,hy⟩:=J b x hx;exact H.own b y l hy hl
 intro b r c t sz g ho;exact H.nest.rep _ _ _ _ _ _ (ow _ _ _ _ _ _ ho)
 intro b r c t sz g ho;exact H.nest.old _ _ _ _ _ _ (ow _ _ _ _ _ _ ho)
 intro b r c t sz g b' r' c' h2 sz' es' ho ho' e;exact H.nest.one _ _ _ _ _ _ _ _ _ _ _ _ (ow _ _ _ _ _ _ ho) (ow _ _ _ _ _ _ ho') e
 intro b r c t sz g b' x l ho hx hl;obtain⟨y,hy⟩:=J b' x hx;exact H.nest.sep _ _ _ _ _ _ b' y l (ow _ _ _ _ _ _ ho) hy hl
theorem KY {T:Tab}(E:Env):Ent T E (wkE E):=by
 intro C a w hA;obtain⟨⟨Y,σ,H⟩,J⟩:=hA;refine⟨⟨Y,σ,(H.qU (adI _ _ H.vals)).QH λb=>?_⟩,J⟩;have hk:iH (wkE E).st b=wkB (iH E.st b):=adG b E.st;rw[hk]
 cases I:iH E.st b with
 | none=>exact .inl rfl
 | some x=>
  cases x with
  | var ro row=>
   refine .inr ⟨ro,row,Ak wkV row,rfl,rfl,by rw[DJ];simp,λcb o h=>?_⟩
   grind[DJ,iG.map,adH]
  | _=>exact .inl rfl
theorem iG.oM {w:World}{Y:Nat->Prop}{σ:Sg}{b:Nat}{p:PV}:∀ (ps:List PV) (o t:Nat),(∀ v,Rep w Y σ (iV ps t) v->Rep w Y σ p v)->iG w Y σ b ps o->iG w Y σ b (nC ps t p) o
 | [],o,t,_,h=>by simpa [nC] using h
 | q::ps,o,0,hp,h=>by
  unfold iG at h;obtain⟨⟨v,h1,h2⟩,T⟩:=h;simp only[nC];unfold iG;exact⟨⟨v,h1,hp v h2⟩,T⟩
 | q::ps,o,t+1,hp,h=>by
  unfold iG at h;obtain⟨h1,T⟩:=h;simp only[nC];unfold iG;exact⟨h1,iG.oM ps (o+1) t hp T⟩
inductive Cv where
 | tO (t z:Nat)
 | tN (t z:Nat)
 | tS (t z:Nat)
 | cO (b c z:Nat)
 | cS (b c z:Nat)
 | tR (t:Nat)
 | tF (t:Nat)
 | tP (t:Nat)
 | cF (b c:Nat)
 | cR (b c:Nat)
def cvS (z:Nat)(v:PV):PV :=
 match v with
 | .sl a es f=>(match f with
  | true=>(match es with
   | []=>.sl z [] false
   | _::_=>.sl a es f)
  | false=>.sl a es f)
 | v=>v
theorem adJ {w:World}{Y:Nat->Prop}{σ:Sg}(z:Nat)(p:PV)(v:Value)(h:Rep w Y σ p v):Rep w Y σ (cvS z p) v:=by
 unfold cvS
 split
 split
 split
 unfold Rep at h |-
 grind
 exact h
 exact h
 exact h
def cvO (z n:Nat)(v:PV):Option PV :=
 match v with
 | .sl _ es f=>(match f with
  | true=>(match es with
   | []=>some (.os n 0 0)
   | _::_=>none)
  | false=>none)
 | _=>none
theorem Zb {w:World}{Y:Nat->Prop}{σ:Sg}{z n:Nat}{p q:PV}(e:cvO z n p=some q)(v:Value)(h:Rep w Y σ p v):Rep w Y σ q v:=by
 unfold cvO at e
 split at e
 split at e
 split at e
 cases e;unfold Rep at h |-
 grind
 cases e
 cases e
 cases e
def af9:List PV->List PV
 | []=>[]
 | v::vs=>(match v with
  | .hc=>.sb false
  | v=>v)::af9 vs
theorem V9 {S:gV}{w:World}{Y:Nat->Prop}{σ:Sg}:∀ (ps:List PV) (vs:List Value) (r:List PV×Dl),pur S (λ_=>none) (af9 ps)=some r->eU w Y σ ps vs->eU w Y gJ ps vs
 | [],vs,_,_,h=>by grind[eU]
 | p::ps,vs,r,hp,h=>by
  unfold eU at h;obtain⟨v,T,rfl,h1,h2⟩:=h;unfold af9 at hp;unfold pur at hp
  cases J:pur S (λ_=>none) (af9 ps) with
  | none=>grind
  | some q=>
   rw[J] at hp;simp only at hp;have I:=V9 ps T q J h2;have fin:Rep w Y gJ p v->eU w Y gJ (p::ps) (v::T):=λh=>by unfold eU;grind
   cases p
   case os=>simp at hp
   case fn f cs=>
    cases cs<;>simp_all[Rep,eU]
   all_goals first
    | (simp at hp;done)
    | exact fin (by unfold Rep at h1 |-;exact h1)
def cv1 (S:gV):Cv->Env->Env
 | .tO t z,E=>(match cvO z E.next (iV E.tmps t) with
  | some v=>⟨nC E.tmps t v,nD E.st E.next (some (.arr false z [])),E.next+1⟩
  | none=>E)
 | .tN t z,E=>(match cvO z E.next (iV E.tmps t) with
  | some v=>⟨nC E.tmps t v,nD E.st E.next (some (.lq z [])),E.next+1⟩
  | none=>E)
 | .tS t z,E=>⟨nC E.tmps t (cvS z (iV E.tmps t)),E.st,E.next⟩
 | .cO b c z,E=>(match iH E.st b with
  | some (.var ro row)=>(match cvO z E.next (iV row c) with
   | some v=>⟨E.tmps,nD (nD E.st b (some (.var ro (nC row c v)))) E.next (some (.arr false z [])),E.next+1⟩
   | none=>E)
  | _=>E)
 | .cS b c z,E=>(match iH E.st b with
  | some (.var ro row)=>⟨E.tmps,nD E.st b (some (.var ro (nC row c (cvS z (iV row c))))),E.next⟩
  | _=>E)
 | .tR t,E=>(match iV E.tmps t with
  | .os b r m=>(match iH E.st b with
   | some (.arr false sz rows)=>⟨nC E.tmps t (.os E.next 0 m),nD (nD E.st b none) E.next (some (.arr false sz (S.sub rows r m))),E.next+1⟩
   | _=>E)
  | _=>E)
 | .tF t,E=>(match iV E.tmps t with
  | .os b r m=>(match iH E.st b with
   | some (.arr _ sz rows)=>⟨nC E.tmps t (.sl sz (S.sub rows r m) false),nD E.st b (some (.arr true sz rows)),E.next⟩
   | some (.lq sz rows)=>⟨nC E.tmps t (.sl sz (S.fz (S.sub rows r m)) false),nD E.st b none,E.next⟩
   | _=>E)
  | _=>E)
 | .tP t,E=>(match iV E.tmps t with
  | .lv b c=>(match iH E.st b with
   | some (.var _ row)=>(match pur S (λ_=>none) (af9 row) with
    | some _=>⟨nC E.tmps t (.pp (Gw c row)),nD E.st b (some (.var true row)),E.next⟩
    | none=>E)
   | _=>E)
  | _=>E)
 | .cF b c,E=>(match iH E.st b with
  | some (.var ro row)=>(match iV row c with
   | .os b' r m=>(match iH E.st b' with
    | some (.arr _ sz rows)=>⟨E.tmps,nD (nD E.st b' (some (.arr true sz rows))) b (some (.var ro (nC row c (.sl sz (S.sub rows r m) false)))),E.next⟩
    | _=>E)
   | _=>E)
  | _=>E)
 | .cR b c,E=>(match iH E.st b with
  | some (.var false row)=>(match iV row c with
   | .os b' r m=>(match iH E.st b' with
    | some (.arr false sz rows)=>⟨E.tmps,nD (nD (nD E.st b' none) E.next (some (.arr false sz (S.sub rows r m)))) b (some (.var false (nC row c (.os E.next 0 m)))),E.next+1⟩
    | _=>E)
   | _=>E)
  | _=>E)
def KF (S:gV):List Cv->Env->Env
 | [],E=>E
 | c::l,E=>KF S l (cv1 S c E)
theorem aga {P:Program}{T T' : Tab}{C:Ctx T}{w:World}{Y:Nat->Prop}{σ:Sg}{vs:List Value}(c:Cv)(E:Env)(H:SW C w Y σ E.tmps vs E.st E.next):∃ Y' σ',SW C w Y' σ' (cv1 (gV.jd P T') c E).tmps vs (cv1 (gV.jd P T') c E).st (cv1 (gV.jd P T') c E).next/\Keep w w Y Y' σ σ':=by
 have K0:Keep w w Y Y σ σ:=Keep.same (mZ.refl _)
 have H1:∀ z,SW C w Y σ E.tmps vs (nD E.st E.next (some (.arr false z []))) (E.next+1):=by
  intro z;have H1:=H.empty (id:=E.next) ⟨H.next _ (Nat.le_refl _),H.fix.1⟩ z
  grind
 cases c with
 | tO t z=>
  simp only[cv1]
  split
  rename_i v he;exact⟨Y,σ,(H1 z).qU (eU.oM _ _ _ H.vals (Zb he _ (H.vals.get _ _ t))),K0⟩
  grind
 | tN t z=>
  simp only[cv1]
  split
  rename_i v he;have H1:=H.afP (id:=E.next) ⟨H.next _ (Nat.le_refl _),H.fix.1⟩ (.lq z);have hm:max E.next (E.next+1)=E.next+1:=by omega
  rw[hm] at H1;exact⟨Y,σ,H1.qU (eU.oM _ _ _ H.vals (Zb he _ (H.vals.get _ _ t))),K0⟩
  grind
 | tS t z=>exact⟨Y,σ,H.qU (eU.oM _ _ _ H.vals (adJ z _ _ (H.vals.get _ _ t))),K0⟩
 | cO b c z=>
  simp only[cv1]
  split
  rename_i ro row J
  split
  rename_i v he;refine⟨Y,σ,(H1 z).QH λg=>?_,K0⟩
  grind[gG,tq,iG.oM,Zb]
  grind
  grind
 | cS b c z=>
  simp only[cv1]
  split
  rename_i ro row J;refine⟨Y,σ,H.QH λg=>?_,K0⟩
  grind[gG,tq,iG.oM,adJ]
  grind
 | tR t=>
  simp only[cv1];have hg:=H.vals.get _ _ t
  split
  rename_i b r m I;rw[I] at hg
  split
  rename_i sz rows J;obtain⟨σ',H1,h1,k1⟩:=H.acu J hg;exact⟨Y,σ',H1.qU (eU.oM _ _ _ H1.vals h1),Keep.same k1⟩
  grind
  grind
 | tF t=>
  simp only[cv1]
  split
  rename_i b r m I
  split
  rename_i ro sz rows J;obtain⟨Y',H1,hfr,hY⟩:=H.freeze J (.inr ⟨ro,sz,rows,rfl,rfl⟩);refine⟨Y',σ,H1.qU (eU.oM _ _ _ H1.vals ?_),⟨λ_ _ _=>rfl,λk _=>hY k,Nat.le_refl _,mZ.refl _⟩⟩;have hg:=H1.vals.get _ _ t;rw[I] at hg;have hb' : iH (nD E.st b (some (.arr true sz rows))) b=some (.arr true sz rows):=by rw[gG,if_pos rfl]
  obtain⟨x,cap,ev,hn,hl,hr⟩:=IG hg (H1.store.blk b _ hb');show Rep w Y' σ (.sl sz ((rows.drop r).take m) false) _
  grind[Rep]
  rename_i sz rows J;obtain⟨Y',H',h1,h2,h3⟩:=H.adu J;have hv:=H.vals.get _ _ t;rw[I] at hv
  have hr:=CX (P:=P) (T:=T') (Y0:=Y') (lk:=λc=>if c=b then some (.lq sz rows) else none) H.store (λc x h=>by
    grind) h3 (λc x l h hl=>by
    grind) (λc sz2 rows2 h r' row k h' sz' es e1 e2 e3=>by
    by_cases hc:c=b
    rw[if_pos hc] at h;cases h;have ho:lU E.st b r' k h' sz' es:=⟨sz,rows,row,J,e1,e2,e3⟩;exact⟨⟨(H.nest.rep _ _ _ _ _ _ ho).lt,h2 _ _ _ _ _ ho⟩,(H.nest.rep _ _ _ _ _ _ ho).rows⟩
    grind) 1 (.os b r m) (.sl sz ((gV.jd P T').fz ((gV.jd P T').sub rows r m)) false) _ (by simp[frz]) hv
  exact⟨Y',σ,H'.qU (eU.oM _ _ _ H'.vals (Rep.keep _ ⟨λ_ _ _=>rfl,λ_ _ h=>h,Nat.le_refl _,λb l h=>by simp[gJ] at h⟩ _ hr)),⟨λ_ _ _=>rfl,λk _=>h3 k,Nat.le_refl _,mZ.refl _⟩⟩
  grind
  grind
 | tP t=>
  simp only[cv1]
  split
  rename_i b c I
  split
  rename_i ro row J
  split
  rename_i pr hpur;obtain⟨Y',H1,hfr,hY⟩:=H.freeze J (x':=.var true row) (.inl ⟨ro,row,rfl,rfl⟩);refine⟨Y',σ,H1.qU (eU.oM _ _ _ H1.vals ?_),⟨λ_ _ _=>rfl,λk _=>hY k,Nat.le_refl _,mZ.refl _⟩⟩;have hg:=H1.vals.get _ _ t;rw[I] at hg;unfold Rep at hg |-;obtain⟨l,hs,ev⟩:=hg;have hB:=fF.yN H1 (lk:=iH (nD E.st b (some (.var true row)))) (λ_ _ h=>h) dR hs;have hlt:=hB.lt;unfold fF at hB;obtain⟨us,hr,hcell⟩:=hB.2.2.2.1.vals;have hr':=V9 _ _ _ hpur hr;have hrc:=(iG.KJ row us l.co hr' hcell).drop c _ _
  grind[yL]
  grind
  grind
  grind
 | cF b c=>
  simp only[cv1]
  split
  rename_i ro row hbv
  split
  rename_i g r m I
  split
  rename_i ro' sz rows J;obtain⟨Y',H1,hfr,hY⟩:=H.freeze J (.inr ⟨ro',sz,rows,rfl,rfl⟩);refine⟨Y',σ,H1.QH λd=>?_,⟨λ_ _ _=>rfl,λk _=>hY k,Nat.le_refl _,mZ.refl _⟩⟩;have hne:¬ g=b:=by grind
  rw[gG]
  by_cases h2:b=d
  subst h2;refine .inr ⟨ro,row,nC row c (.sl sz ((gV.jd P T').sub rows r m) false),by simp_all[gG],by rw[if_pos rfl],by simp[tq],λcb o h=>iG.oM _ _ _ (λv hv=>?_) h⟩;rw[I] at hv;have hb' : iH (nD E.st g (some (.arr true sz rows))) g=some (.arr true sz rows):=by rw[gG,if_pos rfl]
  obtain⟨x,cap,ev,hn,hl,hr⟩:=IG hv (H1.store.blk g _ hb');show Rep w Y' σ (.sl sz ((rows.drop r).take m) false) _
  grind[Rep]
  grind
  grind
  grind
  grind
 | cR b c=>
  simp only[cv1]
  split
  rename_i row hbv
  split
  rename_i g r m I
  split
  rename_i sz rows J
  obtain⟨l,hl,hB⟩:∃ l,σ b=some l/\fF w Y σ l (.var false row):=by
   rcases H.store.blk b _ hbv with h|⟨_,h⟩
   exact h
   cases h
  have hB0:=hB;unfold fF at hB;obtain⟨hat,hsz,htot,hrow,hY,hY'⟩:=hB
  have hc:c<row.length:=by
   grind[DK]
  obtain⟨v,hv1,hv2⟩:=iG.get row _ c hrow hc;rw[I] at hv2;obtain⟨σ',H1,h1,k1⟩:=H.acu J hv2;have hne:¬ g=b:=by grind
  have hnx:¬ E.next=b:=by
   intro e;rw[H.next b ae] at hl;cases hl
  have hbv1:iH (nD (nD E.st g none) E.next (some (.arr false sz ((rows.drop r).take m)))) b=some (.var false row):=by
   simp_all[gG]
  refine⟨Y,σ',H1.update hbv1 (k1 _ _ hl) (hY rfl) rfl rfl rfl rfl (λ_ _=>rfl) (λ_ _ h=>by cases h) (λ_=>?_),Keep.same k1⟩
  obtain⟨l2,hl2,hB2⟩:∃ l,σ' b=some l/\fF w Y σ' l (.var false row):=by
   rcases H1.store.blk b _ hbv1 with h|⟨_,h⟩
   exact h
   cases h
  rw[k1 _ _ hl] at hl2;grind[fF,tq,iG.iff]
  grind
  grind
  grind
theorem acz {P:Program}{T T' : Tab}{C:Ctx T}{w:World}{vs:List Value}:∀ (l:List Cv) (E:Env) {Y:Nat->Prop} {σ:Sg},SW C w Y σ E.tmps vs E.st E.next->∃ Y' σ',SW C w Y' σ' (KF (gV.jd P T') l E).tmps vs (KF (gV.jd P T') l E).st (KF (gV.jd P T') l E).next/\Keep w w Y Y' σ σ'
 | [],E,Y,σ,H=>⟨Y,σ,H,Keep.same (mZ.refl _)⟩
 | c::l,E,Y,σ,H=>by
  obtain⟨g,σ1,H1,k1⟩:=aga (P:=P) (T':=T') c E H;obtain⟨J,t,I,k2⟩:=acz (P:=P) (T':=T') l _ H1;exact⟨J,t,I,k1.acv k2⟩
theorem adK {P:Program}{T T' : Tab}(c:Cv)(E:Env):Ent T E (cv1 (gV.jd P T') c E):=by
 intro C a w hA;obtain⟨⟨Y,σ,H⟩,J⟩:=hA;obtain⟨Y',σ',H',_⟩:=aga (P:=P) (T':=T') c E H;exact⟨⟨Y',σ',H'⟩,J⟩
theorem AQ {P:Program}{T T' : Tab}:∀ (l:List Cv) (E:Env),Ent T E (KF (gV.jd P T') l E)
 | [],E=>Ent.refl E
 | c::l,E=>λC a w h=>AQ l _ C a w (adK c E C a w h)
def aip:Nat->Nat->List (Nat×PV)->List PV
 | _,0,_=>[]
 | i,n+1,[]=>.top::aip (i+1) n []
 | i,n+1,(k,v)::l=>bif Nat.beq k i then v::aip (i+1) n l else .top::aip (i+1) n ((k,v)::l)
theorem Ent.trans {T:Tab}{E F G:Env}(h:Ent T E F)(k:Ent T F G):Ent T E G:=λC a w x=>k C a w (h C a w x)
section
variable {P:Program}{T:Tab}(hT:iK P T)(hW:CY P){S:gV}(hS:S=gV.jd P T)
include hT hW hS
theorem agb (n:Nat){b:Code}{Q:Post}{E:Env}(h:af8 T S b Q n E):S.loop b Q E:=by
 subst hS;intro C a w hA;exact wp_loop_rounds n (V8 hT hW n E h C a w hA)
end
end Go.Pv
namespace Go.Pv
open Go
mutual
inductive Shp (P:Program):TypeId->List PV->Prop
 | int {t:TypeId} {k:IntKind} {n:Int}:P.underlying t=some (.int k)->(Lit.int k n).wf=true->Shp P t [.si k n]
 | bool {t:TypeId} {b:Bool}:P.underlying t=some .bool->Shp P t [.sb b]
 | str {t:TypeId} {s:ByteArray}:P.underlying t=some .string->s.size<=maxLen->Shp P t [.str s]
 | Ip {t e:TypeId}:P.underlying t=some (.pointer e)->Shp P t [.Ip]
 | pp {t e:TypeId} {cs:List PV}:P.underlying t=some (.pointer e)->Shp P e cs->Shp P t [.pp cs]
 | sl {t e:TypeId} {es:List (List PV)}:P.underlying t=some (.slice e)->(∀ r∈es,Shp P e r)->es.length<=maxLen->Shp P t [.sl (P.cellsOf e) es false]
 | struct {t:TypeId} {fs:Array Field} {cs:List PV}:P.underlying t=some (.struct fs)->Nc P (fs.toList.map (·.type)) cs->Shp P t cs
 | arr {t e:TypeId} {n:Nat} {cs:List PV}:P.underlying t=some (.array n e)->Nc P (List.replicate n e) cs->Shp P t cs
inductive Nc (P:Program):List TypeId->List PV->Prop
 | nil:Nc P [] []
 | cons {t:TypeId} {ts:List TypeId} {a b:List PV}:Shp P t a->Nc P ts b->Nc P (t::ts) (a++b)
end
def We (P:Program)(ts:List TypeId):List Field->Nat->Option Nat
 | [],n=>some n
 | f::fs,n=>bif Nat.beq f.offset n&&ts.contains f.type then We P ts fs (n+P.cellsOf f.type) else none
def aiq (P:Program)(ts:List TypeId)(t:TypeId):Bool :=
 match P.underlying t with
 | some .bool|some (.int _)|some .string=>Nat.beq (P.cellsOf t) 1
 | some (.pointer e)=>Nat.beq (P.cellsOf t) 1&&Nat.blt 0 (P.cellsOf e)&&ts.contains e
 | some (.slice e)=>Nat.beq (P.cellsOf t) 1&&Nat.blt 0 (P.cellsOf e)&&ts.contains e
 | some (.struct fs)=>match We P ts fs.toList 0 with|some n=>Nat.beq n (P.cellsOf t)|none=>false
 | some (.array n e)=>Nat.beq (P.cellsOf t) (n*P.cellsOf e)&&ts.contains e
 | _=>false
def layAll (P:Program)(ts:List TypeId):List TypeId->Bool
 | []=>true
 | t::l=>aiq P ts t&&layAll P ts l
theorem Nh {P:Program}{ts:List TypeId}:∀ (l:List TypeId),layAll P ts l=true->∀ t∈l,aiq P ts t=true
 | [],_,t,h=>by simp at h
 | u::l,h,t,ht=>by
  simp only[layAll,Bool.and_eq_true] at h;rcases List.mem_cons.1 ht with rfl|ht
  exact h.1
  exact Nh l h.2 t ht
section
variable {H:Type}{enc:TypeId×Value->H}{P:Program}{w:World}{base:Nat}{sp:Nat->Bool}{held:Bool}
def NoY:Nat->Prop:=λ_=>False
theorem Nj:∀ (a b:List PV),gW a=true->gW b=true->gW (a++b)=true
 | [],b,_,h=>by simpa using h
 | x::a,b,h,k=>by
  simp only[gW,Bool.and_eq_true,List.cons_append] at h |-;exact⟨h.1,Nj a b h.2 k⟩
mutual
theorem Shp.cells {t:TypeId}{cs:List PV}:Shp P t cs->gW cs=true
 | .int _ _=>rfl
 | .bool _=>rfl
 | .str _ _=>rfl
 | .Ip _=>rfl
 | .pp _ _=>rfl
 | .sl _ _ _=>rfl
 | .struct _ h=>Nc.cells h
 | .arr _ h=>Nc.cells h
theorem Nc.cells {ts:List TypeId}{cs:List PV}:Nc P ts cs->gW cs=true
 | .nil=>rfl
 | .cons h k=>Nj _ _ (Shp.cells h) (Nc.cells k)
end
theorem eU.append {Y:Nat->Prop}{σ:Sg}{a b:List PV}{vs us:List Value}(h:eU w Y σ a vs)(k:eU w Y σ b us):eU w Y σ (a++b) (vs++us):=by
 have:=eU.app a b vs us h k
 rwa [YI] at this
theorem Zc {a:Addr}{v:Value}(h:w.cell? a=some v):a.spot=none:=by
 unfold World.cell? at h
 split at h<;>simp_all
theorem QI {b:Nat}{o:Nat}{n:Nat}{vs:List Value}{ps:List PV}(hc:w.cells? base ⟨b,o,none⟩ n=some vs)(hr:eU w NoY gJ ps vs):iG w NoY gJ b ps o:=by
 obtain⟨_,J,T⟩:=World.cells?_some hc;refine iG.KJ _ _ _ hr λi v hv=>?_
 have hi:i<n:=by
  grind
 have:=T i hi;rw[hv] at this;unfold Addr.add at this
 grind
theorem aeH {a:Addr}(h:a.spot=none)(n:Nat):a.add n=⟨a.block,a.off+n,none⟩:=by
 unfold Addr.add
 by_cases h0:n=0
 subst h0;simp;cases a;grind
 grind
theorem Wh {a:Addr}{n:Nat}{vs:List Value}(I:0<n)(h:w.cells? base a n=some vs):a.spot=none/\a.block<w.heap.size:=by
 obtain⟨_,T,J⟩:=World.cells?_some h
 grind[Addr.add,Zc,World.cell?]
inductive aa5 (P:Program) (t:TypeId):PV->Prop
 | one {p:PV}:Shp P t [p]->kK P t=false->aa5 P t p
 | agg {cs:List PV}:Shp P t cs->kK P t=true->aa5 P t (.agg cs)
end
end Go.Pv
namespace Go.Pv
open Go
inductive Uw (P:Program):List TypeId->List PV->Prop
 | nil:Uw P [] []
 | cons {t:TypeId} {ts:List TypeId} {p:PV} {ps:List PV}:aa5 P t p->Uw P ts ps->Uw P (t::ts) (p::ps)
section
variable {H:Type}{enc:TypeId×Value->H}{P:Program}{w:World}{base:Nat}{sp:Nat->Bool}{held:Bool}
theorem X7 {W J : World}(I:laidOutB P=true)(C:RowKit.Below W.heap.size W J):∀ (params:List TypeId) (vs:List Value) (T:List (DataW H)) (pl:List MemPlace),(∀ t∈params,P.readableRec t=true/\t<P.types.size) ->
  (∀ x∈pl,x.block<W.heap.size)->DataW.TrodAll enc P W 0 (λ_=>true) true params vs T pl->DataW.TrodAll enc P J 0 (λb=>decide (b<W.heap.size)) true params vs T pl
 | [],[],[],_,_,_,h=>h
 | t::params,v::vs,d::T,pl,hm,hlt,h=>by
  obtain⟨p,q,h1,h2,e⟩:=h;subst e;exact⟨p,q,RowKit.Below.trod I (hm t aF).1 (hm t aF).2 h1 C (λx hx=>hlt x (by simp[hx])),X7 I C params vs T q (λt g=>hm t (by simp[g])) (λx hx=>hlt x (by simp[hx])) h2,rfl⟩
 | [],_::_,_,_,_,_,h=>h.elim
 | [],[],_::_,_,_,_,h=>h.elim
 | _::_,[],_,_,_,_,h=>h.elim
 | _::_,_::_,[],_,_,_,h=>h.elim
def ald (P:Program)(ts params:List TypeId):Bool:=laidOutB P&&layAll P ts ts&&params.all λt=>ts.contains t&&P.readableRec t&&Nat.blt t P.types.size
end
section
variable {P:Program}{t e:TypeId}{cs:List PV}{p:PV}
theorem Shp.Zd {k:IntKind}(hu:P.underlying t=some (.int k))(h:Shp P t cs):∃ n,cs=[.si k n]/\(Lit.int k n).wf=true:=by
 cases h<;>grind
theorem Shp.aa6 (hu:P.underlying t=some .bool)(h:Shp P t cs):∃ b,cs=[.sb b]:=by
 cases h<;>grind
theorem Shp.adL (hu:P.underlying t=some .string)(h:Shp P t cs):∃ s,cs=[.str s]/\s.size<=maxLen:=by
 cases h<;>grind
theorem Shp.qx (hu:P.underlying t=some (.slice e))(h:Shp P t cs):∃ T,cs=[.sl (P.cellsOf e) T false]/\(∀ r∈T,Shp P e r)/\T.length<=maxLen:=by
 cases h<;>grind
theorem Shp.kC {T:Array Field}(hu:P.underlying t=some (.struct T))(h:Shp P t cs):Nc P (T.toList.map (·.type)) cs:=by
 cases h<;>grind
theorem Shp.U8 {n:Nat}(hu:P.underlying t=some (.array n e))(h:Shp P t cs):Nc P (List.replicate n e) cs:=by
 cases h<;>grind
theorem Nc.Au {ts:List TypeId}(h:Nc P (t::ts) cs):∃ a b,cs=a++b/\Shp P t a/\Nc P ts b:=by
 cases h<;>grind
theorem Nc.lK (h:Nc P [] cs):cs=[]:=by cases h;rfl
theorem aa5.adM (T:kK P t=true)(h:aa5 P t p):∃ cs,p=.agg cs/\Shp P t cs:=by
 cases h<;>grind
theorem aa5.inv_one (T:kK P t=false)(h:aa5 P t p):Shp P t [p]:=by
 cases h<;>grind
theorem Uw.Au {ts:List TypeId}{ps:List PV}(h:Uw P (t::ts) ps):∃ a b,ps=a::b/\aa5 P t a/\Uw P ts b:=by
 cases h<;>grind
theorem Uw.lK {ps:List PV}(h:Uw P [] ps):ps=[]:=by cases h;rfl
end
end Go.Pv
namespace Go.Pv
open Go
section
variable {α β σ ρ:Type}
def br (c:Bool)(a b:Option ρ):Option ρ:=match c with|true=>a|false=>b
def bnd (o:Option α)(k:α->Option ρ):Option ρ:=match o with|none=>none|some x=>k x
def lt (x:α)(k:α->Option ρ):Option ρ:=k x
def jn (rest:σ->Option ρ)(body:(σ->Option ρ)->Option ρ):Option ρ:=body rest
def iq (step:σ->(σ->Option ρ)->Option ρ):Nat->σ->Option ρ
 | 0,_=>none
 | n+1,s=>step s (iq step n)
def fuel:Nat:=18446744073709551616
def loopF (step:σ->(σ->Option ρ)->Option ρ)(s:σ):Option ρ:=iq step fuel s
def jS (n:Nat):Int->Option Nat
 | .ofNat j=>bif Nat.blt j n then some j else none
 | .negSucc _=>none
def gu (l:List α):Int->Option α
 | .ofNat j=>l[j]?
 | .negSucc _=>none
def lenI (l:List α):Int:=(l.length:Int)
def abV (l:List α)(r:Nat)(new:List α):List α:=l.take r++new++l.drop (r+new.length)
def Az (l:List α)(r n:Nat):List α:=(l.drop r).take n
def addI (a b:Int):Int:=iL .add .i64 a b
def qL (a b:Int):Int:=iL .sub .i64 a b
def QJ (a b:Int):Int:=iL .mul .i64 a b
def gY (n bytes:Nat)(k:Option ρ):Option ρ:=bif Nat.ble ((2*n+192)*bytes) 140737488355328&&Nat.ble n 4611686018427387904 then k else none
def divO (op:BinOp)(k:IntKind)(a b:Int):Option Int:=bif decide (b=0) then none else some (match op with|.quo=>k.wrap (a.tdiv b)|_=>a.tmod b)
def jF (op:BinOp)(k:IntKind)(a y:Int):Option Int:=bif decide (0<=y) then some (match op with|.shl=>k.wrap (a*2 ^ (min y.toNat k.bits))|_=>a.fdiv (2 ^ (min y.toNat k.bits))) else none
def iO (a b:ByteArray):Option ByteArray:=bif Nat.ble (a.size+b.size) 4611686018427387904 then some (a++b) else none
def jA (s:ByteArray):Int->Option Int
 | .ofNat j=>match s[j]? with|some c=>some (c.toNat:Int)|none=>none
 | .negSucc _=>none
def jm (n m:Int)(bytes:Nat):Option Nat:=bif decide (0<=n/\n<=m/\(bytes:Int)*m<=140737488355328/\m<=9223372036854775807) then some n.toNat else none
structure ale (n:Nat)(x:Nat×Nat):Prop where
 le:x.1<=x.2
 lt:x.2<=n
def jE (len:Nat)(a b:Int):Option (Nat×Nat):=bif decide (0<=a/\a<=b/\b<=(len:Int)) then some (a.toNat,b.toNat) else none
def jY (s:ByteArray)(a b:Int):Option ByteArray:=bif decide (0<=a/\a<=b/\b<=(s.size:Int)) then some (s.extract a.toNat b.toNat) else none
def bs (l:List UInt8):ByteArray:=⟨l.toArray⟩
def oL (i:Int)(n:Nat)(k:Nat->Option ρ):Option ρ:=match i with|.ofNat j=>(bif Nat.blt j n then k j else none)|.negSucc _=>none
def pO (a b:Option ρ):Option ρ:=match a with|_=>b
def EE (b:ByteArray):List Int:=b.data.toList.map λc=>(c.toNat:Int)
def jU (l:List Int):Option ByteArray:=bif l.all (λn=>decide (0<=n/\n<256)) then some ⟨(l.map λn=>UInt8.ofNat n.toNat).toArray⟩ else none
end
structure Arr2 (α:Type) where
 a0:α
 a1:α
structure Nk (α:Type) where
 a0:α
 a1:α
 a2:α
structure acA (α:Type) where
 a0:α
 a1:α
 a2:α
 a3:α
 a4:α
structure SK (α:Type) where
 a0:α
 a1:α
 a2:α
 a3:α
 a4:α
 a5:α
def ajS:Arr2 Int:=⟨0,0⟩
def Jy:Nk Int:=⟨0,0,0⟩
def agc:acA Int:=⟨0,0,0,0,0⟩
def Wi:SK Int:=⟨0,0,0,0,0,0⟩
structure fP where
 m:(α:Type)->(α->List PV)->List α->List (List PV)
 n:(α:Type)->List α->Nat
 h:(Nat->Hdr)->(α:Type)->(Hdr->α->List PV)->List α->List (List PV)
 up:(Nat->Hdr)->Nat->Hdr->Nat->Hdr
def Jz {α:Type}(H:Nat->Hdr)(e:Hdr->α->List PV)(l:List α):List (List PV):=l.mapIdx λi x=>e (H i) x
def upH (H:Nat->Hdr)(j:Nat)(h:Hdr):Nat->Hdr:=λi=>bif Nat.beq i j then h else H i
def ku:fP:=⟨λ_ e l=>l.map e,λ_ l=>l.length,λH _ e l=>Jz H e l,upH⟩
def eI (k:IntKind)(x:Int):List PV:=[.si k x]
def eB (x:Bool):List PV:=[.sb x]
def eS (x:ByteArray):List PV:=[.str x]
def eL {α:Type}(M:fP)(sz:Nat)(e:α->List PV)(x:List α):List PV:=[.sl sz (M.m α e x) false]
def alf {α:Type}(e:α->List PV)(x:Nk α):List PV:=e x.a0++(e x.a1++e x.a2)
def alg {α:Type}(e:α->List PV)(x:acA α):List PV:=e x.a0++(e x.a1++(e x.a2++(e x.a3++e x.a4)))
def alh {α:Type}(e:α->List PV)(x:SK α):List PV:=e x.a0++(e x.a1++(e x.a2++(e x.a3++(e x.a4++e x.a5))))
def eKV {α:Type}(e:α->List PV)(x:Int×α):List PV:=.si .i64 x.1::e x.2
def zC {α:Type}:List (Int×α)->Int->Option α
 | [],_=>none
 | (k,v)::l,n=>if k=n then some v else zC l n
def QK {α:Type}:List (Int×α)->Int->α->List (Int×α)
 | [],n,v=>[(n,v)]
 | (k,w)::l,n,v=>if k=n then(n,v)::l else(k,w)::QK l n v
def rG {α ρ:Type}(l:List (Int×α))(n:Int)(z:α)(k:α->Bool->Option ρ):Option ρ:=match zC l n with|some v=>k v true|none=>k z false
theorem X8 {α:Type}(e:α->List PV)(n:Int):∀ l:List (Int×α),CU (l.map (eKV e)) n=(zC l n).map e
 | []=>rfl
 | (k,v)::l=>by
  by_cases h:k=n
  simp[eKV,CU,zC,h]
  simp[eKV,CU,zC,h,X8 e n l]
theorem aa7 {α:Type}(e:α->List PV)(n:Int)(x:α):∀ l:List (Int×α),RZ (l.map (eKV e)) n (e x)=(QK l n x).map (eKV e)
 | []=>rfl
 | (k,v)::l=>by
  by_cases h:k=n
  simp[eKV,RZ,QK,h]
  simp[eKV,RZ,QK,h];exact aa7 e n x l
def eO {α:Type}(M:fP)(sz:Nat)(e:α->List PV)(h:Hdr)(x:List α):List PV:=[.ow h sz (M.m α e x)]
section
variable {P:Program}{T:Tab}{S:gV}{M:fP}(hS:S=gV.jd P T)
abbrev SF (M:fP) (S:gV):Prop :=
  S.bin=iL/\S.cmp=zA/\(∀ k n,S.conv k n=k.wrap n)/\(∀ k n,S.neg k n=k.wrap (0-n))/\(∀ a b,S.beq a b=(a==b))/\(∀ a b,S.band a b=(a&&b))/\S.ahP=fQ /\
  (∀ s,S.slen s=(s.size:Int))/\(∀ n:Nat,S.yf n=(n:Int))/\(∀ a b:Nat,S.EX a b=a+b)/\(∀ a b:Nat,S.aax a b=a-b)/\(∀ n:Nat,0+n=n)/\(∀ a,S.app [] a=a) /\
  (∀ (α:Type) (e:α->List PV) (l:List α),S.len (M.m α e l)=lenI l)/\(∀ (α:Type) (e:α->List PV) (l:List α),S.fE (M.m α e l)=l.length)/\(∀ (α:Type) (l:List α),M.n α l=l.length) /\
  (∀ rows n,S.fE rows=n->S.sub rows 0 n=rows)/\S.len []=0/\(∀ (α:Type) (l:List α),lenI l=(l.length:Int)) /\
  S.ajs=(λa b=>if b<a then b else a)/\S.ajt=(λa b=>if a<b then b else a) /\
  (∀ a b,S.fE (S.app a b)=S.fE a+S.fE b)/\(∀ a j r,S.fE (S.Gv a j r)=S.fE a)/\(∀ n r,S.fE (S.rep n r)=n)/\S.fE []=0/\(∀ r rows,S.fE (r::rows)=S.fE rows+1) /\
  (∀ (α:Type) (e:α->List PV),M.m α e []=[])/\(∀ (α:Type) (e:α->List PV) (x:α) (l:List α),M.m α e (x::l)=e x::M.m α e l) /\
  (∀ (α:Type) (e:α->List PV) (a b:List α),M.m α e (a++b)=S.app (M.m α e a) (M.m α e b)) /\
  (∀ (α:Type) (e:α->List PV) (l:List α) (r n:Nat),M.m α e (Az l r n)=S.sub (M.m α e l) r n) /\
  (∀ (α:Type) (e:α->List PV) (l:List α) (r:Nat) (new:List α),M.m α e (abV l r new)=S.spl (M.m α e l) r (M.m α e new)) /\
  (∀ (α:Type) (e:α->List PV) (l:List α) (j:Nat) (x:α),M.m α e (l.set j x)=S.Gv (M.m α e l) j (e x)) /\
  (∀ (α:Type) (e:α->List PV) (n:Nat) (x:α),M.m α e (List.replicate n x)=S.rep n (e x)) /\
  (∀ (α:Type) (a b:List α),(a++b).length=a.length+b.length)/\(∀ (α:Type) (l:List α) (j:Nat) (x:α),(l.set j x).length=l.length) /\
  (∀ (α:Type) (n:Nat) (x:α),(List.replicate n x).length=n)/\(∀ (α:Type) (x:α) (l:List α),(x::l).length=l.length+1)/\(∀ (α:Type),([]:List α).length=0) /\
  (∀ (α:Type) (e:α->List PV) (l:List α) (r n:Nat),S.len (S.sub (M.m α e l) r n)=((Az l r n).length:Int))/\(∀ (α:Type) (e:α->List PV) (l:List α) (r n:Nat),S.fE (S.sub (M.m α e l) r n)=(Az l r n).length) /\
  (∀ (α:Type) (e:α->List PV) (l:List (Int×α)) (n:Int) (x:α),M.m (Int×α) (eKV e) (QK l n x)=S.ahQ (M.m (Int×α) (eKV e) l) n (e x))
theorem sf (hM:M=ku)(hS:S=gV.jd P T):SF M S:=by
 subst hS hM;refine⟨rfl,rfl,?_⟩
 have h:∀ (α:Type) (e:α->List PV) (l:List α),List.take l.length (List.map e l)=List.map e l:=by
  grind[List.take_of_length_le]
 have h2:∀ (rows:List (List PV)) (n:Nat),rows.length=n->(rows.drop 0).take n=rows:=by
  grind
 refine⟨λ_ _=>rfl,λ_ _=>rfl,λ_ _=>rfl,λ_ _=>rfl,rfl,λ_=>rfl,λ_=>rfl,λ_ _=>rfl,λ_ _=>rfl,λn=>Nat.zero_add n,λ_=>rfl,?_,?_,?_,h2,rfl,λ_ _=>rfl,rfl,?_,?_⟩
 simp[gV.jd,ku,lenI]
 simp[gV.jd,ku]
 simp[ku]
 rfl
 simp[aa7,gV.jd,ku,Az,abV]
theorem ajT (hM:M=ku)(hS:S=gV.jd P T) :
  (∀ (H:Nat->Hdr) (α:Type) (e:Hdr->α->List PV) (l:List α) (j:Nat) (h:Hdr) (x:α),M.h (M.up H j h) α e (l.set j x)=S.Gv (M.h H α e l) j (e h x)) /\
  (∀ (α:Type) (e:Hdr->α->List PV) (h:Hdr) (n:Nat) (x:α),M.h (λ_=>h) α e (List.replicate n x)=S.rep n (e h x)) /\
  (∀ (H:Nat->Hdr) (α:Type) (e:Hdr->α->List PV) (l:List α) (h:Hdr) (x:α),M.h (M.up H l.length h) α e (l++[x])=S.app (M.h H α e l) [e h x]):=by
 subst hS hM;refine⟨λH α e l j h x=>?_,λα e h n x=>?_,λH α e l h x=>?_⟩
 show Jz (upH H j h) e _=(Jz H e l).set j _;unfold Jz;apply List.ext_getElem?;intro i;simp only[List.getElem?_mapIdx,List.getElem?_set,List.length_mapIdx]
 by_cases J:j=i
 simp_all[upH]
 grind[Nat.eq_of_beq_eq_true,upH]
 show Jz _ e _=List.replicate n _;unfold Jz;apply List.ext_getElem?
 grind
 show Jz (upH H l.length h) e (l++[x])=Jz H e l++[e h x];unfold Jz;rw[List.mapIdx_append]
 congr 1
 apply List.ext_getElem?
 grind[Nat.eq_of_beq_eq_true,upH]
 simp[upH]
theorem ajU (hM:M=ku)(hS:S=gV.jd P T) :
  (∀ (H:Nat->Hdr) (α:Type) (e:Hdr->α->List PV) (l:List α) (j:Nat) (x:α),M.h H α e (l.set j x)=S.Gv (M.h H α e l) j (e (H j) x)) /\
  (∀ (H:Nat->Hdr) (α:Type) (e:Hdr->α->List PV) (l:List α),S.fE (M.h H α e l)=l.length) /\
  (∀ (H:Nat->Hdr) (α:Type) (e:Hdr->α->List PV) (l:List α),S.sub (M.h H α e l) 0 l.length=M.h H α e l) /\
  (∀ (H:Nat->Hdr) (α:Type) (e:α->List PV) (sz:Nat) (l:List (List α)),S.fz (M.h H (List α) (eO M sz e) l)=M.m (List α) (eL M sz e) l) /\
  (∀ (H:Nat->Hdr) (α:Type) (e:Hdr->α->List PV),M.h H α e []=[]):=by
 subst hS hM;refine⟨λH α e l j x=>?_,λH α e l=>?_,λH α e l=>?_,λH α e sz l=>?_,λ_ _ _=>rfl⟩
 show Jz _ e _=(Jz H e l).set j _
 simp_all[Jz]
 show(Jz H e l).length=_;simp[Jz]
 show((Jz H e l).drop 0).take l.length=Jz H e l
 grind[List.take_of_length_le,Jz]
 show(Jz H _ l).map _=l.map _;unfold Jz;apply List.ext_getElem?;intro i;simp only[List.getElem?_mapIdx,List.getElem?_map];cases l[i]?<;>rfl
mutual
inductive LeP:PV->PV->Prop
 | nil (z0:Nat) (f:Bool) (z:Nat):LeP (.sl z0 [] f) (.sl z [] false)
 | int (k:IntKind) (n:Int):LeP (.int k n) (.si k n)
 | bool (b:Bool):LeP (.bool b) (.sb b)
 | agg (ps qs:List PV):Iu ps qs->LeP (.agg ps) (.agg qs)
 | Eu (ps qs:List PV):Iu ps qs->LeP (.Eu ps) (.Eu qs)
 | rows (z:Nat) (f:Bool) (es es' : List (List PV)):LeR es es'->LeP (.sl z es f) (.sl z es' false)
 | refl (p:PV):LeP p p
inductive Iu:List PV->List PV->Prop
 | nil:Iu [] []
 | cons (p q:PV) (ps qs:List PV):LeP p q->Iu ps qs->Iu (p::ps) (q::qs)
inductive LeR:List (List PV)->List (List PV)->Prop
 | same (es:List (List PV)):LeR es es
 | cons (r q:List PV) (rs qs:List (List PV)):Iu r q->LeR rs qs->LeR (r::rs) (q::qs)
end
theorem Iu.len:∀ {ps qs:List PV},Iu ps qs->qs.length=ps.length
 | _,_,.nil=>rfl
 | _,_,.cons p q ps qs _ h=>by simp[h.len]
theorem LeR.len:∀ {ps qs:List (List PV)},LeR ps qs->qs.length=ps.length
 | _,_,.same _=>rfl
 | _,_,.cons p q ps qs _ h=>by simp[h.len]
theorem LeP.xm {p q:PV}(h:LeP p q):Pv.xm p=true->Pv.xm q=true:=by
 cases h<;>intro h<;>first|rfl|exact h|cases h
theorem Iu.gW:∀ {ps qs:List PV},Iu ps qs->Pv.gW ps=true->Pv.gW qs=true
 | _,_,.nil,h=>h
 | _,_,.cons p q ps qs h1 h2,h=>by
  simp only[Pv.gW,Bool.and_eq_true] at h |-;exact⟨h1.xm h.1,h2.gW h.2⟩
mutual
theorem LeP.rep {w:World}{Y:Nat->Prop}{σ:Sg}:∀ {p q:PV} (_:LeP p q) (v:Value),Rep w Y σ p v->Rep w Y σ q v
 | _,_,.nil z0 f z,v,h=>by
  unfold Rep at h |-;obtain⟨a,len,cap,e,T,hc,_,_⟩:=h;exact⟨a,len,cap,e,T,hc,(λh=>by cases h),.inl rfl⟩
 | _,_,.int k n,v,h=>by unfold Rep at h |-;exact h
 | _,_,.bool b,v,h=>by unfold Rep at h |-;exact h
 | _,_,.agg ps qs T,v,h=>by
  unfold Rep at h |-;obtain⟨vs,e,h⟩:=h;exact⟨vs,e,T.rep vs h⟩
 | _,_,.Eu ps qs T,v,h=>by
  unfold Rep at h |-;obtain⟨vs,e,h⟩:=h;exact⟨vs,e,T.rep vs h⟩
 | _,_,.rows z f es es' hr,v,h=>by
  unfold Rep at h |-;obtain⟨a,len,cap,e,T,hc,_,h⟩:=h;refine⟨a,len,cap,e,by rw[T,hr.len],hc,(λh=>by cases h),?_⟩;rcases h with h|⟨b,o,h1,h2,h3⟩
  refine .inl (List.length_eq_zero_iff.1 ?_);rw[hr.len,h];rfl
  exact .inr ⟨b,o,h1,h2,hr.ajB o h3⟩
 | _,_,.refl p,v,h=>h
theorem Iu.rep {w:World}{Y:Nat->Prop}{σ:Sg}:∀ {ps qs:List PV} (_:Iu ps qs) (vs:List Value),eU w Y σ ps vs->eU w Y σ qs vs
 | _,_,.nil,vs,h=>h
 | _,_,.cons p q ps qs h1 h2,vs,h=>by
  unfold eU at h |-;obtain⟨v,T,e,I,J⟩:=h;exact⟨v,T,e,h1.rep v I,h2.rep T J⟩
theorem Iu.ajV {w:World}{Y:Nat->Prop}{σ:Sg}{cb:Nat}:∀ {ps qs:List PV} (_:Iu ps qs) (o:Nat),iG w Y σ cb ps o->iG w Y σ cb qs o
 | _,_,.nil,o,h=>h
 | _,_,.cons p q ps qs h1 h2,o,h=>by
  unfold iG at h |-;obtain⟨⟨v,I,J⟩,T⟩:=h;exact⟨⟨v,I,h1.rep v J⟩,h2.ajV (o+1) T⟩
theorem LeR.ajB {w:World}{Y:Nat->Prop}{σ:Sg}{b sz:Nat}:∀ {ps qs:List (List PV)} (_:LeR ps qs) (o:Nat),iQ w Y σ b sz ps o->iQ w Y σ b sz qs o
 | _,_,.same _,o,h=>h
 | _,_,.cons p q ps qs h1 h2,o,h=>by
  unfold iQ at h |-;obtain⟨⟨C,I⟩,J,T⟩:=h;exact⟨⟨by rw[h1.len,C],h1.gW I⟩,h1.ajV o J,h2.ajB (o+sz) T⟩
end
theorem Fn.le {G:Nat->Option (List PV)}{k:Nat}{args T:List PV}{R:PV->Prop}(h:Fn P G k T R)(J:Iu args T):Fn P G k args R :=
 λw Y vs C I hr=>h w Y vs C I (J.rep _ hr)
theorem ak0 {i J r T a b:Nat}(h1:i=J)(h2:r=T)(h:a=b):LeP (.os i r a) (.os J T b):=by subst h1 h2 h;exact .refl _
theorem Wj {p q:PV}(h:p=q):LeP p q:=h ▸ .refl p
theorem agd {P:Program}{T:Tab}(hT:iK P T)(t:T.oZ=0)(hW:CY P){k:Nat}{fn:Func}{c:Code}(U:P.funcs[k]?=some fn)(C:fn.body=some c)
  (J:∀ args w,(callFunc k args).run P w=.ok (.enter k args) w) {args:List PV} {v:PV} {m:Nat} (hm:fn.ntmps-args.length=m)
  (h:∀ S R,S=gV.jd P T->(∀ u,LeP u v->R u)->JU T S c (ahT T S fn.results.toList R) ⟨vw args (rQ m),[],0⟩) (hyl:T.yl=none:=by rfl):Fn P T.gl k args (λu=>u=v):=by
 have H:=acx hT t hW U C J hm (hyl:=hyl) (R:=λu=>LeP u v) λS hS=>h S _ hS λ_ h=>h;intro w Y I hG hY hr;obtain⟨h1,h2⟩:=H w Y I hG hY hr;refine⟨h1,Calls.mono h2 λe w' hh=>?_⟩;obtain⟨cv,u,g,hu,hv,hc⟩:=hh;exact⟨cv,v,g,rfl,hu.rep _ hv,hc⟩
theorem Iu.refl:∀ ps:List PV,Iu ps ps
 | []=>.nil
 | p::ps=>.cons _ _ _ _ (.refl p) (Iu.refl ps)
inductive LeB:Option lI->Option lI->Prop
 | var (ro:Bool) (row row' : List PV):Iu row row'->LeB (some (.var ro row)) (some (.var ro row'))
 | refl (x:Option lI):LeB x x
inductive LeS:St->St->Prop
 | nil:LeS [] []
 | cons (b:Nat) (x y:Option lI) (s t:St):LeB x y->LeS s t->LeS ((b,x)::s) ((b,y)::t)
theorem LeS.refl:∀ s:St,LeS s s
 | []=>.nil
 | (b,x)::s=>.cons b x x s s (.refl x) (LeS.refl s)
theorem LeS.look:∀ {s t:St} (_:LeS s t) (b:Nat),iH t b=iH s b\/∃ ro row T,iH s b=some (.var ro row)/\iH t b=some (.var ro T)/\Iu row T
 | _,_,.nil,b=>.inl rfl
 | _,_,.cons c x y s t h1 h2,b=>by
  simp only[iH]
  cases Nat.beq c b with
  | true=>
   cases h1<;>grind
  | false=>exact h2.look b
theorem LeS.QH {s t:St}(h:LeS s t)(w:World)(Y:Nat->Prop)(σ:Sg)(b:Nat):iH t b=iH s b\/∃ ro row T,iH s b=some (.var ro row)/\iH t b=some (.var ro T)/\T.length=row.length/\∀ cb o,iG w Y σ cb row o->iG w Y σ cb T o:=by
 rcases h.look b with e|⟨ro,row,T,e1,e2,e3⟩
 exact .inl e
 exact .inr ⟨ro,row,T,e1,e2,e3.len,λcb o=>e3.ajV o⟩
theorem LeS.rep {w:World}{Y:Nat->Prop}{σ:Sg}{s t:St}(h:LeS s t)(H:ET w Y σ s):ET w Y σ t:=by
 have T : ∀ b x,iH t b=some x->∃ y,iH s b=some y:=by
  intro b x hx;rcases h.look b with e|⟨ro,row,row',e1,e2,_⟩<;>grind
 refine⟨λb x hx=>?_,λb g x x' l l' hx C hl I e=>?_⟩
 rcases h.QH w Y σ b with e|⟨ro,row,row',e1,e2,e3,e4⟩
 exact H.blk b x ak
 rw[e2] at hx;cases hx;rcases H.blk b _ e1 with ⟨l,hl,hB⟩|⟨_,hx⟩
 grind[fF]
 cases hx
 obtain⟨y,hy⟩:=T b x hx;obtain⟨y',J⟩:=T g x' C;exact H.inj b g y y' l l' hy J hl I e
theorem LeS.ajW {σ:Sg}{s t:St}(h:LeS s t):Ez σ t=Ez σ s:=by
 funext k
 refine propext ⟨?_,?_⟩
 rintro⟨b,x,l,h1,h2⟩
 rcases h.look b with e|⟨ro,row,row',e1,e2,_⟩
 exact⟨b,x,l,by grind,h2⟩
 exact⟨b,_,l,e1,h2⟩
 rintro⟨b,x,l,h1,h2⟩
 rcases h.look b with e|⟨ro,row,row',e1,e2,_⟩
 exact⟨b,x,l,by rw[e];exact h1,h2⟩
 exact⟨b,_,l,e2,h2⟩
theorem LeS.kS:∀ {s t:St} (_:LeS s t),Pv.kS s=true->Pv.kS t=true
 | _,_,.nil,h=>h
 | _,_,.cons b x y s t h1 h2,h=>by
  cases h1 with
  | var ro row T J=>simp only[Pv.kS] at h |-;exact h2.kS h
  | refl x=>
   cases x with
   | none=>simp only[Pv.kS] at h |-;exact h2.kS h
   | some x=>cases x<;>simp only[Pv.kS] at h |-<;>first|exact h2.kS h|exact h
theorem FnS.le {G:Nat->Option (List PV)}{k:Nat}{args T:List PV}{st J:St}{n:Nat}{R:PV->St->Nat->Prop}(h:FnS P G k T J n R)(t:Iu args T)(hs:LeS st J):FnS P G k args st n R:=by
 intro w Y σ vs hG hY hn hr I C;obtain⟨h1,h2⟩:=h w Y σ vs hG hY hn (t.rep _ hr) (hs.rep I) (hs.kS C);refine⟨h1,Calls.mono h2 λe w' hh=>?_⟩;obtain⟨cv,v,st',g,Y',σ',he,hR,H⟩:=hh;refine⟨cv,v,st',g,Y',σ',he,hR,?_⟩
 have e:yg ⟨λ_=>.bad,G,n,[],0,[],[],none,λ_=>[]⟩ w Y σ J=yg ⟨λ_=>.bad,G,n,[],0,[],[],none,λ_=>[]⟩ w Y σ st:=by
  unfold yg;rw[hs.ajW]
 grind
theorem FnS.cv {P:Program}{T:Tab}{G:Nat->Option (List PV)}(cvs:List Cv){k:Nat}{args:List PV}{st:St}{n:Nat}{v g : PV}{st1 J : St}{n1 I : Nat}(h:FnS P G k args st n (λu s m=>u=v/\s=st1/\m=n1))(e:Iq n [0] (KF (gV.jd P T) cvs ⟨[v],st1,n1⟩)=⟨[g],J,I⟩):FnS P G k args st n (λu s m=>u=g/\s=J/\m=I):=by
 intro w Y σ vs hG hY hn hr C t;obtain⟨h1,h2⟩:=h w Y σ vs hG hY hn hr C t;refine⟨h1,Calls.mono h2 λen w' hh=>?_⟩;obtain⟨cv,u,s,m,Y',σ',he,⟨rfl,rfl,rfl⟩,H⟩:=hh;obtain⟨Y1,σ1,H1,_⟩:=acz (P:=P) (T':=T) cvs ⟨[u],s,m⟩ H;have H2:=H1.qU (J3 _ [0] 0 _ H1.vals);obtain⟨g1,g2,g3⟩:=MW n (KF (gV.jd P T) cvs ⟨[u],s,m⟩).st (OX [0] 0 (KF (gV.jd P T) cvs ⟨[u],s,m⟩).tmps);obtain⟨σ2,H3,_⟩:=H2.aaA g1 g2 g3;have H4:SW (yg ⟨λ_=>.bad,G,n,[],0,[],[],none,λ_=>[]⟩ w Y σ st) w' Y1 σ2 (Iq n [0] (KF (gV.jd P T) cvs ⟨[u],s,m⟩)).tmps [cv] (Iq n [0] (KF (gV.jd P T) cvs ⟨[u],s,m⟩)).st (Iq n [0] (KF (gV.jd P T) cvs ⟨[u],s,m⟩)).next:=H3
 grind
theorem yX {P:Program}{T:Tab}(hT:iK P T)(hW:CY P){k:Nat}{fn:Func}{c:Code}(U:P.funcs[k]?=some fn)(hb:fn.body=some c)
  (J:∀ args w,(callFunc k args).run P w=.ok (.enter k args) w) {args:List PV} {st:St} {v:PV} {st1:St} {n1:Nat} {m:Nat} (hm:fn.ntmps-args.length=m)
  (h:∀ S R,S=gV.jd P T->(∀ u s n,LeP u v->LeS s st1->n=n1->R u s n)->JU T S c (aft T S fn.results.toList R) ⟨vw args (rQ m),st,T.oZ⟩) (hyl:T.yl=none:=by rfl):FnS P T.gl k args st T.oZ (λu s n=>u=v/\s=st1/\n=n1):=by
 have H:=aa2 hT hW U hb J hm (hyl:=hyl) (st:=st) (R:=λu s n=>LeP u v/\LeS s st1/\n=n1) λS hS=>h S _ hS λ_ _ _ h1 h2 g=>⟨h1,h2,g⟩
 intro w Y σ I hG hY hn hr C t;obtain⟨h1,h2⟩:=H w Y σ I hG hY hn hr C t;refine⟨h1,Calls.mono h2 λe w' hh=>?_⟩;obtain⟨cv,u,s,n,Y',σ',he,⟨g,h4,h5⟩,H⟩:=hh;refine⟨cv,v,st1,n,Y',σ',he,⟨rfl,rfl,h5⟩,?_⟩
 have hv:eU w' Y' σ' [v] [cv]:=by
  have:=H.vals;unfold eU at this |-;obtain⟨c,cs,e,h6,h7⟩:=this;cases e;exact⟨_,_,rfl,g.rep _ h6,by grind⟩
 exact(H.qU hv).QH (h4.QH w' Y' σ')
theorem le_eq {ps qs:List PV}(h:ps=qs):Iu ps qs:=h ▸ Iu.refl ps
variable {α β σ ρ:Type}{r:ρ}
theorem wU {o:Option α}{k:α->Option ρ}(h:bnd o k=some r):∃ x,o=some x/\k x=some r:=by
 cases o with
 | none=>cases h
 | some x=>exact⟨x,rfl,h⟩
theorem aeI {x:α}{k:α->Option ρ}(h:lt x k=some r):k x=some r:=h
theorem lt2 {j:Nat}(h:j<2):j=0\/j=1:=by omega
theorem lt3 {j:Nat}(h:j<3):j=0\/j=1\/j=2:=by omega
theorem lt5 {j:Nat}(h:j<5):j=0\/j=1\/j=2\/j=3\/j=4:=by omega
theorem lt6 {j:Nat}(h:j<6):j=0\/j=1\/j=2\/j=3\/j=4\/j=5:=by omega
theorem lt11 {j:Nat}(h:j<11):j=0\/j=1\/j=2\/j=3\/j=4\/j=5\/j=6\/j=7\/j=8\/j=9\/j=10:=by omega
theorem Ze {i:Int}{n:Nat}{k:Nat->Option ρ}(U:oL i n k=some r):∃ j:Nat,j<n/\i=(j:Int)/\k j=some r:=by
 unfold oL at U
 cases i with
 | ofNat j=>
  simp only at U
  cases T:Nat.blt j n with
  | false=>grind
  | true=>rw[T] at U;exact⟨j,(Nat.blt_eq).mp T,rfl,U⟩
 | negSucc j=>cases U
include hS
theorem JA {cs:List PV}{e:α->List PV}{v:α}{K:List PV->Prop}{k:α->Option ρ}(U:lt v k=some r)(T:Iu cs (e v))(h:∀ x,k x=some r->K (e x)):S.wk cs K:=by
 subst hS;exact⟨e v,T.len,T.gW,λ_ _ _ _ hr=>T.rep _ hr,h v U⟩
theorem ajX (hM:M=ku){rows:List (List PV)}{l:List (Int×α)}{e:α->List PV}{n J : Int}{z:List PV}{T:α}{K:List PV->Bool->Prop}{k:α->Bool->Option ρ}(U:rG l J T k=some r)(C:rows=M.m (Int×α) (eKV e) l)(t:n=J)(I:Iu z (e T))(h:∀ x b,k x b=some r->K (e x) b):S.ajv rows n z K:=by
 subst hS hM C t;have g:CU (l.map (eKV e)) n=(zC l n).map e:=X8 e n l;refine⟨λcs hc=>?_,λhc=>⟨e T,λ_ _ _ _ hr=>I.rep _ hr,?_⟩⟩
 have hc:CU (l.map (eKV e)) n=some cs:=hc
 grind[rG]
 have hc:CU (l.map (eKV e)) n=none:=hc
 grind[rG]
theorem age {cs:List PV}(c:List PV){K:List PV->Prop}(T:Iu cs c)(h:K c):S.wk cs K:=by
 subst hS;exact⟨c,T.len,T.gW,λ_ _ _ _ hr=>T.rep _ hr,h⟩
theorem OU {c T : Bool}{J I:Option ρ}{A B:Unit->Prop}(U:br T J I=some r)(e:c=T)(t:J=some r->A ())(C:I=some r->B ()):S.br c A B:=by
 subst e
 cases c with
 | true=>exact ak9 hS rfl (t U)
 | false=>exact ala hS rfl (C U)
theorem agf (hM:M=ku){T:List (List PV)}{l:List α}{e:α->List PV}{i J : Int}{k:α->Option ρ}{K:List PV->Prop}(U:bnd (gu l J) k=some r)(I:T=M.m α e l)(hi:i=J)(h:∀ x,k x=some r->K (e x)):S.idx T i K:=by
 subst hM I hi;obtain⟨x,hx,hk⟩:=wU U;clear U
 cases i with
 | ofNat j=>exact alb hS (j:=j) rfl (by grind[gu,ku]) (h x hk)
 | negSucc j=>simp[gu] at hx
theorem kM {n J : Nat}{i I : Int}{k:Nat->Option ρ}{K:Nat->Prop}(U:bnd (jS J I) k=some r)(C:n=J)(hi:i=I)(h:∀ j,j<n->k j=some r->K j):S.ix n i K:=by
 subst C hi;obtain⟨x,hx,hk⟩:=wU U;clear U
 cases i with
 | ofNat j' =>
  simp only[jS] at hx
  cases T:Nat.blt j' n with
  | false=>grind
  | true=>
   rw[T] at hx;simp only[cond_true,Option.some.injEq] at hx;subst hx;have T:=(Nat.blt_eq).mp T;exact alc hS rfl T (h _ T hk)
 | negSucc j=>simp[jS] at hx
theorem agh {n:Nat}{i T : Int}{K:Nat->Prop}(hi:i=T)(h:∃ j:Nat,j<n/\T=(j:Int)/\K j):S.ix n i K:=by
 grind[alc]
theorem jc (hM:M=ku){J:List (List PV)}{l:List α}{e:α->List PV}{j T : Nat}{k:α->Option ρ}{K:List PV->Prop}(U:bnd (l[T]?) k=some r)(I:J=M.m α e l)(hj:j=T)(h:∀ x,k x=some r->K (e x)):S.row J j K:=by
 subst hM I hj;obtain⟨x,hx,hk⟩:=wU U;clear U;exact ai6 hS (by simp[ku,hx]) (h x hk)
theorem AU (hM:M=ku){J:List (List PV)}{H:Nat->Hdr}{l:List α}{e:Hdr->α->List PV}{j T : Nat}{k:α->Option ρ}{K:List PV->Prop}(U:bnd (l[T]?) k=some r)(I:J=M.h H α e l)(hj:j=T)(h:∀ x,k x=some r->K (e (H T) x)):S.row J j K:=by
 subst hM I hj;obtain⟨x,hx,hk⟩:=wU U;clear U;refine ai6 hS ?_ (h x hk);show(Jz H e l)[j]?=_;simp[Jz,hx]
theorem PR {k:Nat}{args:List PV}{J:List PV}{K:PV->Prop}{g:Option α}{v:α->PV}{I:α->Option ρ}(U:bnd g I=some r)(hF:∀ y,g=some y->Fn P T.gl k J (λu=>u=v y))(C:Iu args J)(h:∀ y,I y=some r->K (v y)):S.Vp k args K:=by
 obtain⟨x,hx,hk⟩:=wU U;clear U;exact aik hS ((hF x hx).le C) (h x hk)
theorem Zf {k:Nat}{args as bs:List PV}{J:List PV}{E:Env}{K:PV->Env->Prop}{g:Option α}{v:α->PV}{I:α->Option ρ}(U:bnd g I=some r)(hF:∀ y,g=some y->Fn P T.gl k J (λu=>u=v y))(C:Iu as J)(h:∀ y,I y=some r->K (v y) E):S.Ua k args as bs E K:=by
 obtain⟨x,hx,hk⟩:=wU U;clear U;subst hS;exact .inl ⟨_,(hF x hx).le C,h x hk⟩
theorem jl {k:Nat}{args as bs:List PV}{J:List PV}{E:Env}{K:PV->Env->Prop}{g:Option α}{v:α->PV}{st1:α->St}{n1:Nat}{I:α->Option ρ}(U:bnd g I=some r)(hF:∀ y,g=some y->FnS P T.gl k J [] 0 (λu st n=>u=v y/\st=st1 y/\n=n1))(C:Iu bs J)(h:∀ y,I y=some r->K (vI (CE [] E.next) 8 (v y)) (EZ [] E (st1 y) n1)):S.Ua k args as bs E K:=by
 obtain⟨x,hx,hk⟩:=wU U;clear U;subst hS;exact .inr (.inl ⟨_,_,_,(hF x hx).le C .nil,h x hk⟩)
theorem J6 (hT:iK P T)(hW:CY P)(n:Nat){b:Code}{Q:Post}{E:Env}(h:∀ R:Nat->Env->Prop,(∀ k E,JU T S b (Jr (R k) Q) E->R (k+1) E)->R n E):S.loop b Q E:=by
 refine agb hT hW hS n (h (λn E=>af8 T S b Q n E) λk E hk=>?_);unfold af8;exact hk
theorem Zg {ci:Nat}{J:Env}{A:Post->Prop}{B:Env->Prop}{Q:Post}(cvs:List Cv)(h:A (Jr (λE=>B (KF S cvs E)) Q)):S.seq ci J A B Q:=by
 subst hS;refine⟨_,h,λn E h=>?_⟩
 cases n with
 | zero=>exact⟨KF (gV.jd P T) cvs E,AQ (P:=P) (T':=T) cvs E,h⟩
 | succ n=>exact⟨E,Ent.refl E,h⟩
theorem Zh {k:Nat}{args:List PV}{J:List PV}{K:PV->lI->Prop}{g:Option α}{v C : α->PV}{st1:α->St}{n1:Nat}{x:α->lI}{I:α->Option ρ}(cvs:List Cv)(U:bnd g I=some r)(hF:∀ y,g=some y->FnS P T.gl k J [] 0 (λu st n=>u=v y/\st=st1 y/\n=n1))(t:Iu args J)(hx:∀ y,Iq 0 [0] (KF S cvs ⟨[v y],st1 y,n1⟩)=⟨[C y],[(0,some (x y))],1⟩)(h:∀ y,I y=some r->K (C y) (x y)):S.afd k args K:=by
 obtain⟨y,hy,hk⟩:=wU U;clear U;subst hS;exact⟨_,_,FnS.cv cvs ((hF y hy).le t .nil) (hx y),h y hk⟩
theorem Wl {k:Nat}{args J:List PV}{t : List Nat}{st0 I:St}{m:Nat}{K:PV->St->Nat->Prop}{g:Option α}{v:α->PV}{st1:α->St}{n1:Nat}{C:α->Option ρ}(U:bnd g C=some r)(hF:∀ y,g=some y->FnS P T.gl k J I m (λu st n=>u=v y/\st=st1 y/\n=n1))(ha:Iu args J)(hs:LeS st0 I)(hm:m=kU t)(h0:kS st0=true)
  (h:∀ y,g=some y->C y=some r->K (v y) (st1 y) n1):S.XF k args st0 t K:=by
 obtain⟨y,hy,hk⟩:=wU U;clear U;subst hS;subst hm;exact⟨_,_,_,h0,(hF y hy).le ha hs,h y hy hk⟩
theorem QL {k:Nat}{args J:List PV}{t : List Nat}{st0 I:St}{m:Nat}{K:PV->St->Nat->Prop}{g:Option α}{v:α->PV}{st1:α->St}{n1:Nat}{C:α->Option ρ}(U:bnd g C=some r)(hF:∀ y,g=some y->FnS P T.gl k J I m (λu st n=>u=v y/\st=st1 y/\n=n1))(ha:Iu args J)(hs:LeS st0 I)(hm:m=kU t)(h0:kS st0=true)
  (h:∀ y,C y=some r->K (v y) (st1 y) n1):S.XF k args st0 t K:=Wl hS U hF ha hs hm h0 λy _ hk=>h y hk
theorem iR {k:Nat}{args as J:List PV}{E:Env}{t free:Option (List PV)}{I : List Nat}{st0 C:St}{m:Nat}{K:PV->Env->Prop}{g:Option α}{v:α->PV}{st1:α->St}{n1:Nat}{kk:α->Option ρ}(U:bnd g kk=some r)(hF:∀ y,g=some y->FnS P T.gl k J C m (λu st n=>u=v y/\st=st1 y/\n=n1))(ha:Iu as J)(hs:LeS st0 C)(hm:m=kU I)(h1:MO I=true)(h2:ltN E.next I=true)(h0:kS st0=true)
  (h:∀ y,kk y=some r->K (vI (CE I E.next) 8 (v y)) (EZ I E (st1 y) n1)):S.call k args E t free I as st0 K:=by
 obtain⟨x,hx,hk⟩:=wU U;clear U;exact adE hS ((hF x hx).le ha hs) hm h1 h2 h0 (h x hk)
theorem X9 {k:Nat}{args:List PV}{E:Env}{K:PV->Env->Prop}(zs:List (Nat×Bool)){c:List PV×St×Nat}(e:DC S zs args E.st E.next=c)(h:Vt S k c.1 ⟨E.tmps,c.2.1,c.2.2⟩ K):Uj P T k args E K:=by
 subst hS;subst e;have hc:=MX h;intro C Y σ w vs J H hr;obtain⟨Y',σ',H',I,_⟩:=Jw (P:=P) (T':=T) zs args H hr;exact hc C Y' σ' w vs J H' I
theorem ai7 {k:Nat}{args as:List PV}{E:Env}{T free:Option (List PV)}{J : List Nat}{st0:St}{K:PV->Env->Prop}(zs:List (Nat×Bool)){c:List PV×St×Nat}(e:DC S zs args E.st E.next=c)(h:Vt S k c.1 ⟨E.tmps,c.2.1,c.2.2⟩ K):S.call k args E T free J as st0 K:=by
 have:=X9 hS zs e h;subst hS;exact .inr (.inr (.inr this))
theorem aa8 {k:Nat}{args as:List PV}{E:Env}{J free:Option (List PV)}{I : List Nat}{st0:St}{K:PV->Env->Prop}{s:St}(e:roS E.st I=s)(h:Vt S k args ⟨E.tmps,s,E.next⟩ K):S.call k args E J free I as st0 K:=by
 subst hS;subst e;have hc:=MX h;refine .inr (.inr (.inr ?_));intro C Y σ w vs T H hr;obtain⟨Y',H',t⟩:=SW.roS I H;exact hc C Y' σ w vs T H' (eU.keep _ ⟨λ_ _ _=>rfl,λk _=>t k,Nat.le_refl _,mZ.refl _⟩ _ hr)
theorem ajY {k:Nat}{args as bs:List PV}{E:Env}{K:PV->Env->Prop}(zs:List (Nat×Bool)){c:List PV×St×Nat}(e:DC S zs args E.st E.next=c)(h:Vt S k c.1 ⟨E.tmps,c.2.1,c.2.2⟩ K):S.Ua k args as bs E K:=by
 have:=X9 hS zs e h;subst hS;exact .inr (.inr this)
theorem AV {k:Nat}{args bs J as:List PV}{E:Env}{free:Option (List PV)}{ρ' : List Nat}{st0:St}{K:PV->Env->Prop}{g:Option α}{v:α->PV}{C:α->Option ρ}(U:bnd g C=some r)(hF:∀ y,g=some y->Fn P T.gl k J (λu=>u=v y))(t:Iu bs J)(I:∀ y,JS 6 (v y)=true)(h:∀ y,C y=some r->K (v y) E):S.call k args E (some bs) free ρ' as st0 K:=by
 obtain⟨x,hx,hk⟩:=wU U;clear U;exact aim hS ((hF x hx).le t) (I x) (h x hk)
theorem air {k:Nat}{args bs J as:List PV}{E:Env}{I:Option (List PV)}{t : List Nat}{st0:St}{K:PV->Env->Prop}{g:Option α}{v:α->PV}{C:α->Option ρ}(U:bnd g C=some r)(hF:∀ y,g=some y->Fn P T.gl k J (λu=>u=v y))(ha:Iu bs J)(h:∀ y,C y=some r->K (v y) ⟨E.tmps,roS E.st t,E.next⟩):S.call k args E I (some bs) t as st0 K:=by
 obtain⟨x,hx,hk⟩:=wU U;clear U;exact ain hS ((hF x hx).le ha) (h x hk)
theorem adN {k:Nat}{args:List PV}{J:List PV}{K:PV->Prop}{g:Option α}{v:α->PV}{C:α->Option ρ}(U:bnd g C=some r)(hF:∀ y,g=some y->Fn P T.gl k J (λu=>u=v y))(t:Iu args J)(I:∀ y,JS 6 (v y)=true)(h:∀ y,C y=some r->K (v y)):S.XE k args K:=by
 obtain⟨x,hx,hk⟩:=wU U;clear U;exact ail hS ((hF x hx).le t) (I x) (h x hk)
theorem Wn {op:BinOp}{kd:IntKind}{a b J T : Int}{K:Int->Prop}{k:Int->Option ρ}(U:bnd (divO op kd J T) k=some r)(C:a=J)(I:b=T)(h:∀ x,k x=some r->K x):S.div op kd a b K:=by
 subst hS C I;obtain⟨x,hx,hk⟩:=wU U;clear U;unfold divO at hx
 by_cases h0:b=0
 grind
 simp only[h0,decide_false,cond_false,Option.some.injEq] at hx;subst hx;exact⟨h0,h _ hk⟩
theorem Ya {op:BinOp}{kd:IntKind}{a b J T : Int}{K:Int->Prop}{k:Int->Option ρ}(U:bnd (jF op kd J T) k=some r)(C:a=J)(I:b=T)(h:∀ x,k x=some r->K x):S.shf op kd a b K:=by
 subst hS C I;obtain⟨x,hx,hk⟩:=wU U;clear U;unfold jF at hx
 by_cases h0:0<=b
 simp only[h0,decide_true,cond_true,Option.some.injEq] at hx;subst hx;exact⟨h0,h _ hk⟩
 grind
theorem Yb {a b J T : ByteArray}{K:ByteArray->Prop}{k:ByteArray->Option ρ}(U:bnd (iO J T) k=some r)(C:a=J)(I:b=T)(h:∀ x,k x=some r->K x):S.aff a b K:=by
 subst hS C I;obtain⟨x,hx,hk⟩:=wU U;clear U;unfold iO at hx
 cases h0:Nat.ble (a.size+b.size) 4611686018427387904 with
 | false=>grind
 | true=>rw[h0] at hx;cases hx;exact⟨by simpa using h0,h _ hk⟩
theorem adO {s T : ByteArray}{i J : Int}{K:Int->Prop}{k:Int->Option ρ}(U:bnd (jA T J) k=some r)(C:s=T)(I:i=J)(h:∀ x,k x=some r->K x):S.afe s i K:=by
 subst hS C I;obtain⟨x,hx,hk⟩:=wU U;clear U
 cases i with
 | negSucc j=>simp[jA] at hx
 | ofNat j=>
  simp only[jA] at hx
  split at hx
  rename_i c hc;cases hx;exact⟨j,c,rfl,hc,h _ hk⟩
  cases hx
theorem nG {n T b:Nat}{p:Prop}{k:Option ρ}(U:gY T b k=some r)(J:n=T)(h:k=some r->p):S.room n b p:=by
 subst J;unfold gY at U
 cases h1:Nat.ble ((2*n+192)*b) 140737488355328 with
 | false=>grind
 | true=>
  cases h2:Nat.ble n 4611686018427387904 with
  | false=>grind
  | true=>rw[h1,h2] at U;exact ajR hS dO dP (h U)
theorem MB {n m T J : Int}{b:Nat}{K:Nat->Prop}{k:Nat->Option ρ}(U:bnd (jm T J b) k=some r)(I:n=T)(C:m=J)(h:∀ j,k j=some r->K j):S.mks n m b K:=by
 subst hS I C;obtain⟨x,hx,hk⟩:=wU U;clear U;unfold jm at hx
 by_cases h0:0<=n/\n<=m/\(b:Int)*m<=140737488355328/\m<=9223372036854775807
 simp only[h0,and_self,decide_true,cond_true,Option.some.injEq] at hx;subst hx;exact⟨n.toNat,by omega,h0.2.1,h0.2.2.1,h0.2.2.2,h _ hk⟩
 grind
theorem aa9 {n T : Nat}{a b I J : Int}{K:Nat->Nat->Prop}{k:Nat×Nat->Option ρ}(U:bnd (jE T I J) k=some r)(C:n=T)(g:a=I)(t:b=J)(h:∀ x,ale T x->k x=some r->K x.1 x.2):S.slc n a b K:=by
 subst hS C g t;obtain⟨x,hx,hk⟩:=wU U;clear U;unfold jE at hx
 by_cases h0:0<=a/\a<=b/\b<=(n:Int)
 simp only[h0,and_self,decide_true,cond_true,Option.some.injEq] at hx;subst hx;exact⟨a.toNat,b.toNat,by omega,by omega,by omega,by omega,h _ ⟨by grind,by grind⟩ hk⟩
 grind
theorem ali {s J : ByteArray}{a b I T : Int}{K:ByteArray->Prop}{k:ByteArray->Option ρ}(U:bnd (jY J I T) k=some r)(C:s=J)(g:a=I)(t:b=T)(h:∀ x,k x=some r->K x):S.abW s a b K:=by
 subst hS C g t;obtain⟨x,hx,hk⟩:=wU U;clear U;unfold jY at hx
 by_cases h0:0<=a/\a<=b/\b<=(s.size:Int)
 simp only[h0,and_self,decide_true,cond_true,Option.some.injEq] at hx;subst hx;exact⟨a.toNat,b.toNat,by omega,by omega,by omega,by omega,h _ hk⟩
 grind
theorem alj (hM:M=ku){J:List (List PV)}{l:List α}{e:α->List PV}{a b:Option ρ}{K:Bool->Prop}(U:pO a b=some r)(I:J=M.m α e l)(T:l=[]->b=some r->a=some r)(t:a=some r->K true)(C:b=some r->K false):S.Vq J K:=by
 subst hS hM I;intro c hc
 cases c with
 | false=>exact C U
 | true=>
  have:=hc rfl;exact t (T (by simpa [ku] using this) U)
theorem alk (hM:M=ku){t:Nat}{b c:ByteArray}{K:List (List PV)->Prop}{k:List Int->Option ρ}(U:lt (EE c) k=some r)(hu:∃ e,P.underlying t=some (.slice e)/\P.underlying e=some (.int .u8))(T:c=b)(h:∀ x,k x=some r->K (M.m Int (eI .u8) x)):S.toB t b K:=by
 subst hS hM T;have h2:=h _ U;refine⟨hu,?_⟩
 simp_all[ku,EE,eI,Function.comp_def]
theorem ai8 (hM:M=ku){t:Nat}{rows:List (List PV)}{l:List Int}{K:ByteArray->Prop}{k:ByteArray->Option ρ}(U:bnd (jU l) k=some r)(hu:∃ e,P.underlying t=some (.slice e)/\P.underlying e=some (.int .u8))(J:rows=M.m Int (eI .u8) l)(h:∀ x,k x=some r->K x):S.toS t rows K:=by
 subst hS hM J;obtain⟨x,hx,hk⟩:=wU U;clear U;refine⟨hu,x,?_,h x hk⟩;unfold jU at hx
 cases T:l.all (λn=>decide (0<=n/\n<256)) with
 | false=>grind
 | true=>
  rw[T] at hx;cases hx;simp only[ku,List.map_map];refine List.map_congr_left λn I=>?_;have:=List.all_eq_true.1 T n I;simp only[decide_eq_true_eq] at this;simp only[Function.comp,eI,ads]
  grind[UInt8.toNat_ofNat_of_lt']
theorem Zi {η:Type}(hT:iK P T)(hW:CY P){b:Code}{Q:Post}{E:Env}{step:σ->(σ->Option ρ)->Option ρ}{s0:σ}(cvs:List Cv)(keep:List Nat)(F:σ->η->Env)(g0:η)(U:loopF step s0=some r)(he:Iq T.oZ keep (wkE (KF S cvs E))=F s0 g0)
  (h:∀ (I:σ->η->Env) (k:σ->Option ρ) (s:σ) (g:η),(∀ s g,I s g=F s g)->step s k=some r->∀ e,e=F s g->JU T S b (Jr (λE'=>∃ s' t,k s'=some r/\Iq T.oZ keep (wkE (KF S cvs E'))=I s' t) Q) e):S.loop b Q E:=by
 subst hS;intro C a w hA
 have key:∀ (n:Nat) (s:σ) (g:η),iq step n s=some r->∀ (C:Ctx T) a w,kL C (F s g) a w->Code.rounds P b (lift C Q) n a w:=by
  intro n
  induction n with
  | zero=>intro s g h;cases h
  | succ n ih=>
   intro s g hs C a w hA;unfold Code.rounds;refine wp_mono (zQ hT hW b _ _ (h F (iq step n) s g (λ_ _=>rfl) hs _ rfl) C a w hA) (IK λE' J w' hA' hq=>?_);obtain⟨j,t,hj,he⟩:=hq;exact ih j t hj C J w' (he ▸ GK keep _ C J w' (KY _ C J w' (AQ (P:=P) (T':=T) cvs E' C J w' hA')))
 exact wp_loop_rounds fuel (key _ s0 g0 U C a w (he ▸ GK keep _ C a w (KY _ C a w (AQ (P:=P) (T':=T) cvs E C a w hA))))
theorem ai9 {ci:Nat}{J:Env}{A:Post->Prop}{B:Env->Prop}{Q:Post}{rest:σ->Option ρ}{body:(σ->Option ρ)->Option ρ}(cvs:List Cv)(keep:List Nat)(F:σ->Env)(U:jn rest body=some r)
  (h:∀ (I:σ->Env) (k:σ->Option ρ),(∀ s,I s=F s)->body k=some r->A (Jr (λE=>∃ s,k s=some r/\Iq T.oZ keep (wkE (KF S cvs E))=I s) Q)) (h2:∀ s,rest s=some r->B (F s)):S.seq ci J A B Q:=by
 subst hS;refine⟨_,h F rest (λ_=>rfl) U,λn E h=>?_⟩
 cases n with
 | zero=>
  obtain⟨s,hs,C⟩:=h;refine⟨F s,?_,h2 s hs⟩;rw[<- C];exact(AQ (P:=P) (T':=T) cvs E).trans ((KY _).trans (GK keep _))
 | succ n=>exact⟨E,Ent.refl E,h⟩
theorem GV (hT:iK P T)(hW:CY P){b:Code}{Q:Post}{E:Env}{step:σ->(σ->Option ρ)->Option ρ}{s0:σ}(cvs:List Cv)(keep:List Nat)(F:σ->Env)(U:loopF step s0=some r)(g:Iq T.oZ keep (wkE (KF S cvs E))=F s0)
  (h:∀ (I:σ->Env) (k:σ->Option ρ) (s:σ),(∀ s,I s=F s)->step s k=some r->∀ e,e=F s->JU T S b (Jr (λt=>∃ s',k s'=some r/\Iq T.oZ keep (wkE (KF S cvs t))=I s') Q) e):S.loop b Q E:=by
 subst hS;intro C a w hA
 have key:∀ (n:Nat) (s:σ),iq step n s=some r->∀ (C:Ctx T) a w,kL C (F s) a w->Code.rounds P b (lift C Q) n a w:=by
  intro n
  induction n with
  | zero=>intro s h;cases h
  | succ n ih=>
   intro s hs C a w hA;unfold Code.rounds;refine wp_mono (zQ hT hW b _ _ (h F (iq step n) s (λ_=>rfl) hs _ rfl) C a w hA) (IK λt J w' hA' hq=>?_);obtain⟨j,hj,g⟩:=hq;exact ih j hj C J w' (g ▸ GK keep _ C J w' (KY _ C J w' (AQ (P:=P) (T':=T) cvs t C J w' hA')))
 exact wp_loop_rounds fuel (key _ s0 U C a w (g ▸ GK keep _ C a w (KY _ C a w (AQ (P:=P) (T':=T) cvs E C a w hA))))
end
end Go.Pv
namespace Go.Pv
open Go
section
variable {α β σ τ ρ:Type}
def Ok (Q:ρ->Prop)(o:Option ρ):Prop:=∃ r,o=some r/\Q r
theorem ok_some {Q:ρ->Prop}{x:ρ}(h:Q x):Ok Q (some x):=⟨x,rfl,h⟩
theorem Zj {Q R:ρ->Prop}{o:Option ρ}(h:Ok Q o)(T:∀ r,Q r->R r):Ok R o:=let ⟨r,e,q⟩:=h;⟨r,e,T r q⟩
theorem ok_eq {c:ρ}{o:Option ρ}(h:Ok (λr=>r=c) o):o=some c:=by obtain⟨r,e,q⟩:=h;subst q;exact e
theorem ok_br {Q:ρ->Prop}{c:Bool}{a b:Option ρ}(h1:c=true->Ok Q a)(h2:c=false->Ok Q b):Ok Q (br c a b):=by
 cases c with
 | true=>exact h1 rfl
 | false=>exact h2 rfl
theorem ok_brd {Q:ρ->Prop}{p:Prop}[Decidable p]{a b:Option ρ}(h1:p->Ok Q a)(h2:¬p->Ok Q b):Ok Q (br (decide p) a b) :=
 ok_br (λh=>h1 (of_decide_eq_true h)) (λh=>h2 (of_decide_eq_false h))
theorem qM {Q:ρ->Prop}{p:Prop}[Decidable p]{a b:Option ρ}(h1:¬p->Ok Q a)(h2:p->Ok Q b):Ok Q (br (!decide p) a b) :=
 ok_br (λh=>h1 bg) (λh=>h2 bg)
theorem fA {Q:ρ->Prop}{R:α->Prop}{o:Option α}{k:α->Option ρ}(h:Ok R o)(hk:∀ x,R x->Ok Q (k x)):Ok Q (bnd o k):=by
 obtain⟨x,e,q⟩:=h;rw[e];exact hk x q
theorem ok_bnde {Q:ρ->Prop}{o:Option α}{x:α}{k:α->Option ρ}(h:o=some x)(hk:Ok Q (k x)):Ok Q (bnd o k):=by
 rw[h];exact hk
theorem zS {Q:ρ->Prop}{x:α}{k:α->Option ρ}(hk:Ok Q (k x)):Ok Q (lt x k):=hk
theorem ok_jn {Q:ρ->Prop}(J:σ->Prop){rest:σ->Option ρ}{body:(σ->Option ρ)->Option ρ}(h1:∀ k,(∀ s,J s->Ok Q (k s))->Ok Q (body k))(h2:∀ s,J s->Ok Q (rest s)):Ok Q (jn rest body):=h1 rest h2
theorem gZ {Q:ρ->Prop}{n b:Nat}{k:Option ρ}(h1:(2*n+192)*b<=140737488355328)(h2:n<=4611686018427387904)(hk:Ok Q k):Ok Q (gY n b k):=by
 grind[gY,Nat.ble_eq_true_of_le]
theorem ni (l:List α)(n:Nat):gu l (n:Int)=l[n]?:=rfl
theorem ok_ixL {Q:ρ->Prop}{l:List α}{i:Int}{k:α->Option ρ}(n:Nat)(hi:i=(n:Int))(T:n<l.length)(hk:Ok Q (k (l[n]))):Ok Q (bnd (gu l i) k):=by
 subst hi;rw[ni,List.getElem?_eq_getElem T];exact hk
theorem gU {Q:ρ->Prop}{m:Nat}{i:Int}{k:Nat->Option ρ}(n:Nat)(hi:i=(n:Int))(T:n<m)(hk:Ok Q (k n)):Ok Q (bnd (jS m i) k):=by
 subst hi;show Ok Q (bnd (bif Nat.blt n m then some n else none) k);have:Nat.blt n m=true:=by simp_all
 rw[this];exact hk
theorem gB {Q:ρ->Prop}{l:List α}{n:Nat}{k:α->Option ρ}(T:n<l.length)(hk:Ok Q (k (l[n]))):Ok Q (bnd (l[n]?) k):=by
 rw[List.getElem?_eq_getElem T];exact hk
theorem PS {Q:ρ->Prop}{n:Nat}{a m:Int}{b:Nat}{k:Nat->Option ρ}(J:a=(n:Int))(T:m=(n:Int))(h0:0<b)(I:b*n<=140737488355328)(hk:Ok Q (k n)):Ok Q (bnd (jm a m b) k):=by
 subst J T;have h1:n<=b*n:=Nat.le_mul_of_pos_left n h0;have h2:(b:Int)*(n:Int)<=140737488355328:=by grind
 have:jm (n:Int) (n:Int) b=some n:=by
  grind[jm]
 rw[this];exact hk
theorem Wp {Q:ρ->Prop}{a b:Int}{n i j:Nat}{k:Nat×Nat->Option ρ}(I:a=(i:Int))(J:b=(j:Int))(T:i<=j)(hj:j<=n)(hk:Ok Q (k (i,j))):Ok Q (bnd (jE n a b) k):=by
 subst I J
 have:jE n (i:Int) (j:Int)=some (i,j):=by
  grind[jE]
 rw[this];exact hk
theorem wrap_in {n:Int}(h1 : -9223372036854775808<=n)(h2:n<9223372036854775808):IntKind.i64.wrap n=n:=by rw[IntKind.wrap_i64];omega
theorem wV {a b:Int}(h1 : -9223372036854775808<=a+b)(h2:a+b<9223372036854775808):addI a b=a+b:=by
 show IntKind.i64.wrap (a+b)=a+b;exact wrap_in h1 h2
theorem addI_nat {n:Nat}(h:n<4611686018427387904):addI (n:Int) 1=((n+1:Nat):Int):=by
 grind[wV]
theorem jQ {Q:ρ->Prop}{step:σ->(σ->Option ρ)->Option ρ}{J:σ}(Inv:σ->Prop)(μ:σ->Nat)(h0:Inv J)(C:μ J<fuel)
  (h:∀ s k,Inv s->(∀ T,Inv T->μ T<μ s->Ok Q (k T))->Ok Q (step s k)):Ok Q (loopF step J):=by
 have key:∀ n s,Inv s->μ s<n->Ok Q (iq step n s):=by
  intro n
  induction n with
  | zero=>grind
  | succ n t=>intro s hs hn;exact h s _ hs λT I g=>t T I ae
 exact key fuel J h0 C
theorem iY {Q:ρ->Prop}{step:Int×τ->(Int×τ->Option ρ)->Option ρ}{t0:τ}(a n:Nat)(Inv:Nat->τ->Prop)(i0:Int)(J:i0=(a:Int))(g:a<=n)(hn:n<4611686018427387904)(h0:Inv a t0)
  (h:∀ i t k,i<n->Inv i t->(∀ I,Inv (i+1) I->Ok Q (k (addI (i:Int) 1,I)))->Ok Q (step ((i:Int),t) k))
  (he:∀ t k,Inv n t->Ok Q (step ((n:Int),t) k)):Ok Q (loopF step (i0,t0)):=by
 subst J;refine jQ (λs=>∃ i:Nat,s.1=(i:Int)/\i<=n/\Inv i s.2) (λs=>n-s.1.toNat) ⟨a,rfl,g,h0⟩ bK ?_
 rintro⟨i',t⟩ k ⟨i,e,hi,C⟩ hk
 simp only at e C;subst e
 by_cases h' : i=n
 grind
 refine h i t k ae C λI T=>hk _ ⟨i+1,addI_nat ae,by omega,T⟩ ?_
 grind[addI_nat]
theorem ok_for1 {Q:ρ->Prop}{step:Int->(Int->Option ρ)->Option ρ}(a n:Nat)(Inv:Nat->Prop)(i0:Int)(J:i0=(a:Int))(I:a<=n)(t:n<4611686018427387904)(h0:Inv a)
  (h:∀ i k,i<n->Inv i->(Inv (i+1)->Ok Q (k (addI (i:Int) 1)))->Ok Q (step (i:Int) k))
  (C:∀ k,Inv n->Ok Q (step (n:Int) k)):Ok Q (loopF step i0):=by
 subst J;refine jQ (λs=>∃ i:Nat,s=(i:Int)/\i<=n/\Inv i) (λs=>n-s.toNat) ⟨a,rfl,I,h0⟩ bK ?_
 rintro i' k ⟨i,e,hi,hI⟩ hk
 subst e
 by_cases h' : i=n
 grind
 refine h i k ae hI λT=>hk _ ⟨i+1,addI_nat ae,by omega,T⟩ ?_;rw[addI_nat ae]
 grind
theorem DN {Q:ρ->Prop}{step:τ×Int->(τ×Int->Option ρ)->Option ρ}{t0:τ}(a n:Nat)(Inv:Nat->τ->Prop)(i0:Int)(J:i0=(a:Int))(g:a<=n)(hn:n<4611686018427387904)(h0:Inv a t0)
  (h:∀ i t k,i<n->Inv i t->(∀ I,Inv (i+1) I->Ok Q (k (I,addI (i:Int) 1)))->Ok Q (step (t,(i:Int)) k))
  (he:∀ t k,Inv n t->Ok Q (step (t,(n:Int)) k)):Ok Q (loopF step (t0,i0)):=by
 subst J;refine jQ (λs=>∃ i:Nat,s.2=(i:Int)/\i<=n/\Inv i s.1) (λs=>n-s.2.toNat) ⟨a,rfl,g,h0⟩ bK ?_
 rintro⟨t,i'⟩ k ⟨i,e,hi,C⟩ hk
 simp only at e C;subst e
 by_cases h' : i=n
 grind
 refine h i t k ae C λI T=>hk _ ⟨i+1,addI_nat ae,by omega,T⟩ ?_
 grind[addI_nat]
theorem loop_rel {σ' : Type}{step:σ->(σ->Option ρ)->Option ρ}{T : σ'->(σ'->Option ρ)->Option ρ}(R:σ->σ'->Prop){s:σ}{J : σ'}(h0:R s J)
  (h:∀ s J k I,R s J->(∀ t C,R t C->k t=I C)->step s k=T J I):loopF step s=loopF T J:=by
 have key:∀ n s J,R s J->iq step n s=iq T n J:=by
  intro n
  induction n with
  | zero=>intros;rfl
  | succ n g=>intro s J hs;exact h s J _ _ hs g
 exact key fuel s J h0
end
end Go.Pv
namespace Go.Pv
open Go
theorem wW {α:Type}{enc:α->List PV}{ok:α->Prop}:∀ {T:List (List PV)},(∀ r∈T,∃ x,r=enc x/\ok x)->∃ l:List α,T=l.map enc/\(∀ x∈l,ok x)/\l.length=T.length
 | [],_=>⟨[],rfl,by simp,rfl⟩
 | r::T,h=>by
  obtain⟨x,e,hx⟩:=h r aF;obtain⟨l,J,h2,I⟩:=wW λr hr=>h r (List.mem_cons_of_mem _ hr);refine⟨x::l,by rw[e,J];rfl,λy hy=>?_,by simp[I]⟩;rcases List.mem_cons.1 hy with rfl|hy
  exact hx
  exact h2 y hy
end Go.Pv
namespace Go.Pv
open Go
structure Fit {H:Type}(N:Nat)(fit:DataW H->Prop):Prop where
 str:∀ b,fit (.lit (.string b))->b.length<=N
 sl:∀ es rest,fit (.slice es rest)->es.length<=N/\∀ e∈es,fit e
 agg:∀ es,fit (.agg es)->∀ e∈es,fit e
 ptr:∀ d,fit (.ptr d)->fit d
mutual
inductive Sn (P:Program) (N:Nat):TypeId->List PV->Prop
 | int {t:TypeId} {k:IntKind} {n:Int}:P.underlying t=some (.int k)->(Lit.int k n).wf=true->Sn P N t [.si k n]
 | bool {t:TypeId} {b:Bool}:P.underlying t=some .bool->Sn P N t [.sb b]
 | str {t:TypeId} {s:ByteArray}:P.underlying t=some .string->s.size<=N->Sn P N t [.str s]
 | Ip {t e:TypeId}:P.underlying t=some (.pointer e)->Sn P N t [.Ip]
 | pp {t e:TypeId} {cs:List PV}:P.underlying t=some (.pointer e)->Sn P N e cs->Sn P N t [.pp cs]
 | sl {t e:TypeId} {es:List (List PV)}:P.underlying t=some (.slice e)->(∀ r∈es,Sn P N e r)->es.length<=N->Sn P N t [.sl (P.cellsOf e) es false]
 | struct {t:TypeId} {fs:Array Field} {cs:List PV}:P.underlying t=some (.struct fs)->SnL P N (fs.toList.map (·.type)) cs->Sn P N t cs
 | arr {t e:TypeId} {n:Nat} {cs:List PV}:P.underlying t=some (.array n e)->SnL P N (List.replicate n e) cs->Sn P N t cs
inductive SnL (P:Program) (N:Nat):List TypeId->List PV->Prop
 | nil:SnL P N [] []
 | cons {t:TypeId} {ts:List TypeId} {a b:List PV}:Sn P N t a->SnL P N ts b->SnL P N (t::ts) (a++b)
end
section
variable {H:Type}{enc:TypeId×Value->H}{P:Program}{w:World}{base:Nat}{sp:Nat->Bool}{held:Bool}{N:Nat}{fit:DataW H->Prop}
mutual
theorem Sn.cells {t:TypeId}{cs:List PV}:Sn P N t cs->gW cs=true
 | .int _ _=>rfl
 | .bool _=>rfl
 | .str _ _=>rfl
 | .Ip _=>rfl
 | .pp _ _=>rfl
 | .sl _ _ _=>rfl
 | .struct _ h=>SnL.cells h
 | .arr _ h=>SnL.cells h
theorem SnL.cells {ts:List TypeId}{cs:List PV}:SnL P N ts cs->gW cs=true
 | .nil=>rfl
 | .cons h k=>Nj _ _ (Sn.cells h) (SnL.cells k)
end
theorem QM {ts:List TypeId}{cs:List Value}{xs:Nat->Option (DataW H×List MemPlace)}{m:Nat}
  (ih:∀ (t:TypeId) (cs:List Value) x,t∈ts->DataW.trod enc P w base sp held m t cs=some x->fit x.1->∃ ps,eU w NoY gJ ps cs/\Sn P N t ps/\cs.length=P.cellsOf t) :
  ∀ (J:List Field) (n k:Nat),We P ts J n=some cs.length->n<=cs.length ->
   (∀ (i:Nat) (f:Field),J[i]?=some f->DataW.trod enc P w base sp held m f.type ((cs.drop f.offset).take (P.cellsOf f.type))=xs (k+i)/\∃ y,xs (k+i)=some y/\fit y.1) ->
   ∃ ps,eU w NoY gJ ps (cs.drop n)/\SnL P N (J.map (·.type)) ps
 | [],n,k,hc,hn,_=>by
  simp only[We,Option.some.injEq] at hc;subst hc;exact⟨[],by simp[eU],.nil⟩
 | f::J,n,k,hc,hn,hx=>by
  simp only[We] at hc
  cases T:(Nat.beq f.offset n&&ts.contains f.type) with
  | false=>rw[T] at hc;cases hc
  | true=>
   rw[T] at hc;simp only[cond_true] at hc;simp only[Bool.and_eq_true] at T;have I:=Nat.eq_of_beq_eq_true T.1;obtain⟨h1,y,h2,h3⟩:=hx 0 f rfl;rw[h2,I] at h1;obtain⟨ps,hr,hs,hl⟩:=ih _ _ _ (by simpa using T.2) h1 h3
   have hle:n+P.cellsOf f.type<=cs.length:=by
    rw[List.length_take,List.length_drop] at hl;omega
   obtain⟨qs,C,hs2⟩:=QM ih J (n+P.cellsOf f.type) (k+1) hc hle λi g hg=>by
    have:=hx (i+1) g (by simpa using hg);rw[show k+(i+1)=k+1+i by omega] at this;exact this
   refine⟨ps++qs,?_,by simpa using SnL.cons hs hs2⟩;have:=hr.append C
   rwa [<- List.drop_drop,List.take_append_drop] at this
theorem Ux {e:TypeId}{cs:List Value}{m sz:Nat}{xs:Nat->Option (DataW H×List MemPlace)}
  (I:∀ (cs:List Value) x,DataW.trod enc P w base sp held m e cs=some x->fit x.1->∃ ps,eU w NoY gJ ps cs/\Sn P N e ps/\cs.length=P.cellsOf e) (hsz:sz=P.cellsOf e) :
  ∀ (k s:Nat),cs.length=(s+k)*sz->(∀ i,i<s+k->DataW.trod enc P w base sp held m e ((cs.drop (i*sz)).take sz)=xs i/\∃ y,xs i=some y/\fit y.1) ->
   ∃ ps,eU w NoY gJ ps (cs.drop (s*sz))/\SnL P N (List.replicate k e) ps
 | 0,s,hl,_=>by
  refine⟨[],?_,.nil⟩;rw[List.drop_eq_nil_of_le (by rw[hl];simp)];simp[eU]
 | k+1,s,hl,hx=>by
  obtain⟨h1,y,h2,t⟩:=hx s ae;rw[h2] at h1;obtain⟨ps,hr,hs,C⟩:=I _ _ h1 t;obtain⟨qs,T,J⟩:=Ux I hsz k (s+1) (by rw[hl];congr 1;omega) λi hi=>hx i ae;refine⟨ps++qs,?_,by rw[List.replicate_succ];exact .cons hs J⟩;have:=hr.append T
  rwa [show(s+1)*sz=s*sz+sz by rw[Nat.add_mul];omega,<- List.drop_drop,List.take_append_drop] at this
theorem Wq {e:TypeId}{m:Nat}{a:Addr}{xs:Nat->Option (DataW H×List MemPlace)}(T:a.spot=none)
  (ih:∀ (cs:List Value) x,DataW.trod enc P w base sp held m e cs=some x->fit x.1->∃ ps,eU w NoY gJ ps cs/\Sn P N e ps/\cs.length=P.cellsOf e) :
  ∀ (k s:Nat),(∀ i,i<s+k->(w.cells? base (a.add (i*P.cellsOf e)) (P.cellsOf e)).bind (DataW.trod enc P w base sp held m e)=xs i/\∃ y,xs i=some y/\fit y.1) ->
   ∃ J,iQ w NoY gJ a.block (P.cellsOf e) J (a.off+s*P.cellsOf e)/\(∀ r∈J,Sn P N e r)/\J.length=k
 | 0,s,_=>⟨[],by simp[iQ],by simp,rfl⟩
 | k+1,s,hx=>by
  obtain⟨h1,y,h2,h3⟩:=hx s ae;rw[h2] at h1;obtain⟨vs,hv,ht⟩:=Option.bind_eq_some_iff.1 h1;obtain⟨ps,hr,hs,hl⟩:=ih _ _ ht h3;obtain⟨J,I,C,t⟩:=Wq T ih k (s+1) λi hi=>hx i ae;rw[aeH T] at hv;refine⟨ps::J,?_,?_,by simp[t]⟩
  unfold iQ;refine⟨⟨by rw[<- hr.length,hl],hs.cells⟩,QI hv hr,?_⟩;rw[show a.off+s*P.cellsOf e+P.cellsOf e=a.off+(s+1)*P.cellsOf e by rw[Nat.add_mul];omega];exact I
  intro r g;rcases List.mem_cons.1 g with rfl|h
  exact hs
  exact C r h
theorem Yd {ts:List TypeId}(F:Fit N fit)(hts:layAll P ts ts=true):∀ (fuel:Nat) (t:TypeId) (cs:List Value) (x:DataW H×List MemPlace),t∈ts ->
  DataW.trod enc P w base sp held fuel t cs=some x->fit x.1->∃ ps,eU w NoY gJ ps cs/\Sn P N t ps/\cs.length=P.cellsOf t
 | 0,t,cs,x,_,h,_=>by simp[DataW.trod] at h
 | m+1,t,cs,x,hmem,h,hft=>by
  have T:=Nh ts hts t hmem;have ih:=Yd F hts m;have one:∀ {p:PV} {v:Value},Rep w NoY gJ p v->eU w NoY gJ [p] [v]:=λh=>by unfold eU;exact⟨_,_,rfl,h,by unfold eU;rfl⟩
  unfold aiq at T
  split at T
  rename_i hu;obtain⟨b,rfl,_⟩:=DataW.trod_bool hu h;exact⟨[.sb b],one bz,.bool hu,(Nat.eq_of_beq_eq_true T).symm⟩
  rename_i k hu;obtain⟨n,rfl,_,hw⟩:=DataW.trod_int hu h;exact⟨[.si k n],one bz,.int hu hw,(Nat.eq_of_beq_eq_true T).symm⟩
  rename_i hu;obtain⟨s,rfl,rfl,hs⟩:=DataW.trod_string hu h;exact⟨[.str s],one bz,.str hu (by simpa using F.str _ hft),(Nat.eq_of_beq_eq_true T).symm⟩
  rename_i e hu;simp only[Bool.and_eq_true,Nat.blt_eq] at T;obtain⟨⟨h1,h2⟩,g⟩:=T;have g:e∈ts:=by simpa using g
  have h1:=(Nat.eq_of_beq_eq_true h1).symm;rcases DataW.trod_pointer hu h with ⟨rfl,_⟩|⟨a,cs',y,n,U,rfl,rfl,hc,ht⟩
  exact⟨[.Ip],one bz,.Ip hu,h1⟩
  cases U;obtain⟨ps,hr,hs,_⟩:=ih e _ _ g ht (F.ptr _ hft);obtain⟨J,C⟩:=Wh h2 hc;refine⟨[.pp ps],one ?_,.pp hu hs,h1⟩;have ha:a=⟨a.block,a.off,none⟩:=by cases a;simp at J;simp[J]
  rw[ha] at hc;unfold Rep;exact⟨a.block,a.off,by rw[<- ha],⟨C,λh=>h⟩,QI hc hr⟩
  rename_i e hu;simp only[Bool.and_eq_true,Nat.blt_eq] at T;obtain⟨⟨h1,h2⟩,g⟩:=T;have g:e∈ts:=by simpa using g
  have h1:=(Nat.eq_of_beq_eq_true h1).symm;rcases DataW.trod_slice hu h with ⟨rfl,_⟩|⟨a,len,cap,elems,rest,n,U,rfl,rfl,_,hle,hmax,hlen,hel,_⟩
  refine⟨[.sl (P.cellsOf e) [] false],one ?_,.sl hu aF aF,h1⟩;unfold Rep;exact⟨none,0,0,rfl,rfl,Nat.le_refl _,(λh=>by cases h),.inl rfl⟩
  cases U;obtain⟨hN,hfe⟩:=F.sl _ _ hft;have hN:len<=N:=by simpa [hlen] using hN
  by_cases h0:len=0
  subst h0;refine⟨[.sl (P.cellsOf e) [] false],one ?_,.sl hu aF aF,h1⟩;unfold Rep;exact⟨some a,0,cap,rfl,rfl,hle,(λh=>by cases h),.inl rfl⟩
  have hx:∀ i,i<len->∃ y,elems[i]?=some y/\fit y.1:=λi hi=>⟨_,List.getElem?_eq_getElem ae,hfe _ (List.mem_map.2 ⟨_,List.getElem_mem _,rfl⟩)⟩
  obtain⟨y,hy,_⟩:=hx 0 ae;have he0:=hel 0 ae;rw[hy] at he0;obtain⟨vs,hv,_⟩:=Option.bind_eq_some_iff.1 he0;obtain⟨J,C⟩:=Wh h2 hv;rw[Nat.zero_mul,show a.add 0=a by simp[Addr.add]] at J C;obtain⟨es,hr,hs,hl2⟩:=Wq (xs:=λi=>elems[i]?) J (λcs x hx U=>ih e cs x g hx U) len 0 λi hi=>⟨hel i ae,hx i ae⟩
  refine⟨[.sl (P.cellsOf e) es false],one ?_,.sl hu hs (by rw[hl2];omega),h1⟩;have ha:a=⟨a.block,a.off,none⟩:=by cases a;simp at J;simp[J]
  unfold Rep;refine⟨some a,len,cap,rfl,hl2.symm,hle,(λh=>by cases h),.inr ⟨a.block,a.off,by rw[<- ha],⟨C,λh=>h⟩,?_⟩⟩
  simpa using hr
  rename_i fs hu
  split at T
  rename_i n hc;obtain⟨xs,n',U,rfl,I,hxl,hx⟩:=DataW.trod_struct hu h;cases U;have hn:=Nat.eq_of_beq_eq_true T
  obtain⟨ps,hr,hs⟩:=QM (ts:=ts) (xs:=λi=>xs[i]?) (λt cs x=>ih t cs x) fs.toList 0 0 (by rw[hc,hn,I]) (Nat.zero_le _) λi f hi=>by
   have hi' : fs[i]?=some f:=by simpa using hi
   have C:i<fs.size:=by
    by_cases h:i<fs.size
    exact h
    rw[Array.getElem?_eq_none (Nat.le_of_not_lt h)] at hi';cases hi'
   refine⟨by simpa using hx i f hi',_,by rw[Nat.zero_add];exact List.getElem?_eq_getElem ae,F.agg _ hft _ (List.mem_map.2 ⟨_,List.getElem_mem _,rfl⟩)⟩
  exact⟨ps,by simpa using hr,.struct hu hs,I⟩
  cases T
  rename_i n e hu;simp only[Bool.and_eq_true] at T;have g:e∈ts:=by simpa using T.2
  obtain⟨xs,m',U,rfl,I,hxl,hx⟩:=DataW.trod_array hu h;cases U;obtain⟨ps,hr,hs⟩:=Ux (xs:=λi=>xs[i]?) (λcs x hx U=>ih e cs x g hx U) rfl n 0 (by rw[I,Nat.zero_add];exact Nat.eq_of_beq_eq_true T.1) λi hi=>⟨hx i ae,_,List.getElem?_eq_getElem ae,F.agg _ hft _ (List.mem_map.2 ⟨_,List.getElem_mem _,rfl⟩)⟩
  exact⟨ps,by simpa using hr,.arr hu hs,I⟩
  cases T
inductive SnV (P:Program) (N:Nat) (t:TypeId):PV->Prop
 | one {p:PV}:Sn P N t [p]->kK P t=false->SnV P N t p
 | agg {cs:List PV}:Sn P N t cs->kK P t=true->SnV P N t (.agg cs)
inductive MM (P:Program) (N:Nat):List TypeId->List PV->Prop
 | nil:MM P N [] []
 | cons {t:TypeId} {ts:List TypeId} {p:PV} {ps:List PV}:SnV P N t p->MM P N ts ps->MM P N (t::ts) (p::ps)
theorem acB {ts:List TypeId}(F:Fit N fit)(I:layAll P ts ts=true){t:TypeId}(J:t∈ts){v:Value}{d:DataW H}{pl:List MemPlace}{r:Reach}{b0:Nat}(T:Value.okWide P w r b0 t v)(h:DataW.Trod enc P w base sp held t v d pl)(hft:fit d) :
  ∃ p,Rep w NoY gJ p v/\SnV P N t p:=by
 obtain⟨fuel,h⟩:=h;obtain⟨ps,hr,hs,_⟩:=Yd F I fuel t _ _ J h hft;have g:=Nh ts I t J
 have agg:(∃ cs,v=.agg cs)->kK P t=true->∃ p,Rep w NoY gJ p v/\SnV P N t p:=by
  rintro⟨cs,rfl⟩ C
  refine⟨.agg ps,?_,.agg hs C⟩;unfold Rep;exact⟨cs.toList,by simp,by simpa [Value.cells] using hr⟩
 have one:v.cells.toList=[v]->kK P t=false->∃ p,Rep w NoY gJ p v/\SnV P N t p:=by
  intro hv C;rw[hv] at hr;have hlen:=hr.length
  match ps,hr,hs,hlen with
  | [p],hr,hs,_=>
   obtain⟨u,e,hp⟩:=II hr;cases e;exact⟨p,hp,.one hs C⟩
 unfold aiq at g;unfold Value.okWide at T
 split at g
 rename_i hu;rw[hu] at T;obtain⟨b,hb,_⟩:=DataW.trod_bool hu h;refine one ?_ bV;cases v<;>simp_all[Value.cells,Cell.okWide,Cell.ok]
 rename_i k hu;rw[hu] at T;obtain⟨b,hb,_⟩:=DataW.trod_int hu h;refine one ?_ bV;cases v<;>simp_all[Value.cells,Cell.okWide,Cell.ok]
 rename_i hu;rw[hu] at T;obtain⟨b,hb,_⟩:=DataW.trod_string hu h;refine one ?_ bV;cases v<;>simp_all[Value.cells,Cell.okWide,Cell.ok]
 rename_i e hu;rw[hu] at T;refine one ?_ bV;cases v<;>simp_all[Value.cells,Cell.okWide,Cell.ok]
 rename_i e hu;rw[hu] at T;refine one ?_ bV;cases v<;>simp_all[Value.cells,Cell.okWide,Cell.ok]
 rename_i fs hu;rw[hu] at T;obtain⟨cs,hc,_⟩:=T;exact agg ⟨cs,hc⟩ bV
 rename_i n e hu;rw[hu] at T;obtain⟨cs,hc,_⟩:=T;exact agg ⟨cs,hc⟩ bV
 cases g
theorem Ye {ts:List TypeId}(F:Fit N fit)(T:layAll P ts ts=true){r:Reach}{b0:Nat}:∀ (params:List TypeId) (vs:List Value) (J:List (DataW H)) (pl:List MemPlace),(∀ t∈params,t∈ts) ->
  (∀ (j:Nat) t v,params[j]?=some t->vs[j]?=some v->Value.okWide P w r b0 t v)->DataW.TrodAll enc P w base sp held params vs J pl->(∀ d∈J,fit d) ->
  ∃ ps,eU w NoY gJ ps vs/\MM P N params ps/\J.length=params.length
 | [],[],[],_,_,_,_,_=>⟨[],by simp[eU],.nil,rfl⟩
 | t::params,v::vs,d::J,pl,hm,hval,h,hft=>by
  obtain⟨p,q,h1,h2,_⟩:=h;obtain⟨x,hx,hs⟩:=acB F T (hm t aF) (hval 0 t v rfl rfl) h1 (hft d aF);obtain⟨xs,I,C,hl⟩:=Ye F T params vs J q (λt g=>hm t (by simp[g])) (λj t v h1 h2=>hval (j+1) t v dO dP) h2 (λd hd=>hft d (by simp[hd]));exact⟨x::xs,by unfold eU;exact⟨v,vs,rfl,hx,I⟩,.cons hs C,by simp[hl]⟩
 | [],_::_,_,_,_,_,h,_=>h.elim
 | [],[],_::_,_,_,_,h,_=>h.elim
 | _::_,[],_,_,_,_,h,_=>h.elim
 | _::_,_::_,[],_,_,_,h,_=>h.elim
theorem Vm (F:Fit N fit){f:FuncId}{fn:Func}{s:ChangeSpec}{apart:Bool}{ts:List TypeId}(hB:ald P ts fn.params.toList=true)(J:s.vars=[]){tb:TypeId}(hres:fn.resultTypes=#[tb])(hb:P.underlying tb=some .bool)
  (hspec:∀ (T:List (DataW H)),T.length=fn.params.toList.length->(s.fn H T).results=[.lit (.bool true)]/\(s.fn H T).args=T/\(s.fn H T).vars=[])
  {G:Nat->Option (List PV)} (hFn:∀ C,MM P N fn.params.toList C->Fn P G f C (λu=>u=.sb true))
  (W:World) (hG:RX G W NoY) (base:Nat) (args:Array Value) (T gs:List (DataW H)) (before:List MemPlace)
  (hval:∀ (j:Nat) t v,fn.params[j]?=some t->args[j]?=some v->Value.okWide P W .any base t v)
  (hft:∀ d∈T,fit d) (hW:DataW.Whole enc P fn.params.toList s.vars apart W args.toList T gs before) :
  Calls P f args W λe W'=>∃ v,e=.returned v/\s.post enc P fn apart true false false W args v W':=by
 unfold ald at hB;simp only[Bool.and_eq_true,List.all_eq_true] at hB;obtain⟨⟨hl,hts⟩,hp⟩:=hB
 have hp:∀ t∈fn.params.toList,t∈ts/\P.readableRec t=true/\t<P.types.size:=λt ht=>by
  have:=hp t ht;rw[Nat.blt_eq] at this;exact⟨by simpa using this.1.1,this.1.2,this.2⟩
 have hW0:=hW;obtain⟨pa,pv,hA,hV,hbef,_,_⟩:=hW;obtain⟨C,hr,hs,hlen⟩:=Ye F hts fn.params.toList args.toList T pa (λt ht=>(hp t ht).1) (λj t v h1 h2=>hval j t v dO dP) hA hft;obtain⟨_,hcalls⟩:=hFn C hs W NoY args.toList hG (λ_ h=>h.elim) hr;refine Calls.mono hcalls λe W' h=>?_;obtain⟨cv,v,rfl,rfl,hrep,hchg⟩:=h;have hcv:=Sj hrep;subst hcv;refine⟨.bool true,rfl,?_⟩;rw[J] at hV
 have hgs:gs=[]/\pv=[]:=by
  cases gs with
  | nil=>exact⟨rfl,hV⟩
  | cons g gs=>exact hV.elim
 obtain⟨rfl,rfl⟩:=hgs;obtain⟨s1,s2,s3⟩:=hspec T hlen;have I:∀ p∈before,p.block<W.heap.size:=λp hp=>by simpa using hW0.lt p hp
 unfold ChangeSpec.post;refine⟨T,[],before,[],pa,[],hW0,?_,?_,?_,hchg.below.frame _,λh=>by cases h⟩
 rw[List.append_nil,s1,hres];refine⟨[],[],⟨1,?_⟩,rfl,rfl⟩;simp[DataW.trod,hb,Value.cells]
 rw[List.append_nil,s2];exact X7 hl hchg.below _ _ _ _ (λt ht=>(hp t ht).2) (λx hx=>I x (by rw[hbef];simp[hx])) hA
 rw[List.append_nil,s3,J];rfl
end
section
variable {P:Program}{N:Nat}{t e:TypeId}{cs:List PV}{p:PV}
theorem Sn.Zd {k:IntKind}(hu:P.underlying t=some (.int k))(h:Sn P N t cs):∃ n,cs=[.si k n]/\(Lit.int k n).wf=true:=by
 cases h with
 | int h1 h2=>rw[hu] at h1;cases h1;exact⟨_,rfl,h2⟩
 | _=>simp_all
theorem Sn.aa6 (hu:P.underlying t=some .bool)(h:Sn P N t cs):∃ b,cs=[.sb b]:=by
 cases h with
 | bool h1=>exact⟨_,rfl⟩
 | _=>simp_all
theorem Sn.adL (hu:P.underlying t=some .string)(h:Sn P N t cs):∃ s,cs=[.str s]/\s.size<=N:=by
 cases h with
 | str h1 h2=>exact⟨_,rfl,h2⟩
 | _=>simp_all
theorem Sn.qx (hu:P.underlying t=some (.slice e))(h:Sn P N t cs):∃ T,cs=[.sl (P.cellsOf e) T false]/\(∀ r∈T,Sn P N e r)/\T.length<=N:=by
 cases h with
 | sl h1 h2 J=>rw[hu] at h1;cases h1;exact⟨_,rfl,h2,J⟩
 | _=>simp_all
theorem Sn.kC {T:Array Field}(hu:P.underlying t=some (.struct T))(h:Sn P N t cs):SnL P N (T.toList.map (·.type)) cs:=by
 cases h with
 | struct h1 h2=>rw[hu] at h1;cases h1;exact h2
 | _=>simp_all
theorem Sn.U8 {n:Nat}(hu:P.underlying t=some (.array n e))(h:Sn P N t cs):SnL P N (List.replicate n e) cs:=by
 cases h with
 | arr h1 h2=>rw[hu] at h1;cases h1;exact h2
 | _=>simp_all
theorem SnL.Au {ts:List TypeId}(h:SnL P N (t::ts) cs):∃ a b,cs=a++b/\Sn P N t a/\SnL P N ts b:=by
 cases h with
 | cons h1 h2=>exact⟨_,_,rfl,h1,h2⟩
theorem SnL.lK (h:SnL P N [] cs):cs=[]:=by cases h;rfl
theorem SnV.adM (T:kK P t=true)(h:SnV P N t p):∃ cs,p=.agg cs/\Sn P N t cs:=by
 cases h with
 | one h1 h2=>rw[T] at h2;cases h2
 | agg h1 h2=>exact⟨_,rfl,h1⟩
theorem SnV.inv_one (T:kK P t=false)(h:SnV P N t p):Sn P N t [p]:=by
 cases h with
 | one h1 h2=>exact h1
 | agg h1 h2=>rw[T] at h2;cases h2
theorem MM.Au {ts:List TypeId}{ps:List PV}(h:MM P N (t::ts) ps):∃ a b,ps=a::b/\SnV P N t a/\MM P N ts b:=by
 cases h with
 | cons h1 h2=>exact⟨_,_,rfl,h1,h2⟩
theorem MM.lK {ps:List PV}(h:MM P N [] ps):ps=[]:=by cases h;rfl
end
end Go.Pv
