import Derived.LoopN
import Derived.OpenShut
import Derived.DataReads
import Derived.Carry
import Derived.Handed
import Derived.JoinedCond
import Derived.Test.YtchmoabpofnbaaaGreatD04
set_option linter.all false
namespace Go.Pv
open Go
theorem SW.adq {T:Tab}{C:Ctx T}{w:World}{Y:Nat->Prop}{σ:Sg}{ps:List PV}{vs:List Value}{st:St}{n:Nat}(H:SW C w Y σ ps vs st n){b r m sz:Nat}{rows:List (List PV)}{cv:Value}
  (hb:iV st b=some (.arr false sz rows)) (hv:Rep w Y σ (.os b r m) cv) :
  ∃ σ',SW C w Y σ' ps vs (nX (nX st b none) n (some (.arr false sz ((rows.drop r).take m)))) (n+1)/\Rep w Y σ' (.os n 0 m) cv/\nK σ σ':=by
 have hn:=H.next n (Nat.le_refl _)
 have nb:b≠n\/σ b=none:=by
  grind
 have old:∀ c x,iV (nX st b none) c=some x->c≠b/\iV st c=some x:=by
  intro c x h;rw[ig] at h
  grind
 have hv0:=hv;unfold Rep at hv;rcases hv with ⟨l,cap,hs,ev,hmc,htot,hnr⟩|⟨hm,a,ev⟩
 let l' : Loc:=⟨l.cb,l.co+r*l.sz,l.sz,l.tot,m⟩
 let σ' : Sg:=λk=>if k=n then some l' else σ k
 have hσ:∀ k,k≠n->σ' k=σ k:=λk h=>if_neg h;have hσn:σ' n=some l':=if_pos rfl
 have hle:nK σ σ':=by
  intro k x h
  grind
 have K:Keep w w Y Y σ σ':=⟨λ_ _ _=>rfl,λ_ _ h=>h,Nat.le_refl _,hle⟩;have hbn:b≠n:=by grind
 obtain⟨lb,hlb,hB⟩|⟨hno,_⟩:=H.store.blk b _ hb
 rw[hs] at hlb;cases hlb;unfold fF at hB;obtain⟨hat,hsz,hpos,⟨hfit,hnrw⟩,hrows,hY1,hY2⟩:=hB;have hlen:((rows.drop r).take m).length=m:=by grind
 refine⟨σ',⟨eQ.keep _ K _ H.vals,⟨?_,?_⟩,?_,H.wB,H.y0,H.c0,H.xE,H.qo,?_,H.xG,⟨by have:=H.fix.1;omega,?_⟩,?_⟩,?_,hle⟩
 intro c x J;rw[ig] at J
 by_cases hc:n=c
 rw[if_pos hc] at J;cases J;subst hc;refine .inl ⟨l',hσn,?_⟩;unfold fF;refine⟨⟨hat.blk⟩,hsz,hpos,⟨?_,hlen⟩,?_,hY1,λh=>by cases h⟩
 rw[hlen];show l.co+r*l.sz+m*sz<=l.tot;have:m*l.sz<=cap*l.sz:=Nat.mul_le_mul_right _ hmc.1
 grind
 grind[je.take,je.drop]
 rw[if_neg hc] at J;obtain⟨_,J⟩:=old c x J;rcases H.store.blk c x J with ⟨l2,h2,hB2⟩|⟨h2,h3⟩
 exact .inl ⟨l2,hle _ _ h2,fF.keep K rfl Iff.rfl hB2⟩
 grind
 intro c g x x' lc lc' J I t hl' e;rw[ig] at J I
 by_cases hc:n=c
 by_cases hc' : n=g
 grind
 rw[if_neg hc'] at I;obtain⟨hcb,I⟩:=old g x' I;subst hc;rw[hσn] at t;cases t;rw[hσ g (λe=>hc' e.symm)] at hl';exact absurd (H.store.inj b g _ x' l lc' hb I hs hl' e).symm hcb
 rw[if_neg hc] at J;obtain⟨hcb,J⟩:=old c x J;rw[hσ c (λe=>hc e.symm)] at t
 by_cases hc' : n=g
 subst hc';rw[hσn] at hl';cases hl';exact absurd (H.store.inj c b x _ lc l J hb t hs e) hcb
 rw[if_neg hc'] at I;obtain⟨_,I⟩:=old g x' I;rw[hσ g (λe=>hc' e.symm)] at hl';exact H.store.inj c g x x' lc lc' J I t hl' e
 intro k hk;rw[hσ k ae];exact H.next k ae
 intro c x lc J t;rw[ig] at J
 by_cases hc:n=c
 subst hc;rw[hσn] at t;cases t;exact H.own b _ l hb hs
 rw[if_neg hc] at J;obtain⟨_,J⟩:=old c x J;rw[hσ c (λe=>hc e.symm)] at t;exact H.own c x lc J t
 intro k hk;rw[hσ k (by have:=H.fix.1;omega)];exact H.fix.2 k hk
 have ow:∀ c rr cc h sz' es,mr (nX (nX st b none) n (some (.arr false sz ((rows.drop r).take m)))) c rr cc h sz' es->mr st c rr cc h sz' es:=by
  rintro c rr cc h sz' es ⟨s0,rws,row,h1,h2⟩
  rw[ig] at h1
  by_cases hc:n=c
  grind
  rw[if_neg hc] at h1;exact⟨s0,rws,row,(old c _ h1).2,h2⟩
 refine⟨λ_ _ _ _ _ _ h=>H.nest.rep _ _ _ _ _ _ (ow _ _ _ _ _ _ h),λ_ _ _ _ _ _ h=>H.nest.old _ _ _ _ _ _ (ow _ _ _ _ _ _ h),λ_ _ _ _ _ _ _ _ _ _ _ _ h h'=>H.nest.one _ _ _ _ _ _ _ _ _ _ _ _ (ow _ _ _ _ _ _ h) (ow _ _ _ _ _ _ h'),?_⟩;intro c rr cc h sz' es g x lc ho J t;rw[ig] at J
 by_cases hc:n=g
 subst hc;rw[hσn] at t;cases t;exact H.nest.sep _ _ _ _ _ _ b _ l (ow _ _ _ _ _ _ ho) hb hs
 rw[if_neg hc] at J;rw[hσ g (λe=>hc e.symm)] at t;exact H.nest.sep _ _ _ _ _ _ g x lc (ow _ _ _ _ _ _ ho) (old g x J).2 t
 unfold Rep
 grind
 grind
 subst hm;have H1:=(H.drop b).empty (id:=n) ⟨hn,H.fix.1⟩ sz;have hm:max n (n+1)=n+1:=by omega
 rw[hm] at H1;refine⟨σ,by simpa using H1,?_,nK.refl _⟩;unfold Rep
 grind
section
variable {P:Program}{T T' : Tab}{C:Ctx T}{w:World}{ps:List PV}{vs:List Value}
theorem Keep.same {w:World}{Y:Nat->Prop}{σ σ' : Sg}(h:nK σ σ'):Keep w w Y Y σ σ':=⟨λ_ _ _=>rfl,λ_ _ h=>h,Nat.le_refl _,h⟩
theorem Keep.adr {w:World}{Y Y' T:Nat->Prop}{σ σ' J:Sg}(h:Keep w w Y Y' σ σ')(k:Keep w w Y' T σ' J):Keep w w Y T σ J:=⟨λ_ _ _=>rfl,λc hc h2=>h.excl c hc (k.excl c hc h2),Nat.le_refl _,h.sg.trans k.sg⟩
theorem WZ (v:PV){Y:Nat->Prop}{σ:Sg}{st:St}{n:Nat}{cv:Value}(H:SW C w Y σ ps vs st n)(hv:Rep w Y σ v cv) :
  ∃ Y' σ',SW C w Y' σ' ps vs (afy (iq.jq P T') v st n).2.1 (afy (iq.jq P T') v st n).2.2/\Rep w Y' σ' (afy (iq.jq P T') v st n).1 cv/\Keep w w Y Y' σ σ':=by
 have same:∃ Y' σ',SW C w Y' σ' ps vs st n/\Rep w Y' σ' v cv/\Keep w w Y Y' σ σ':=⟨Y,σ,H,hv,Keep.same (nK.refl _)⟩;simp only[afy]
 split
 rename_i v' t;obtain⟨Y',H',hY⟩:=SW.roS (Jb [v] st) H;have K:Keep w w Y Y' σ σ:=⟨λ_ _ _=>rfl,λk _=>hY k,Nat.le_refl _,nK.refl _⟩
 have J:∀ b x l,acY (roS st (Jb [v] st)) b=some x->σ b=some l->¬ Y' l.cb:=by
  intro b x l h1 h2;obtain⟨h3,g⟩:=Jg h1;rcases H'.store.blk b x h3 with ⟨l',I,hB⟩|⟨hn,_⟩
  rw[h2] at I;cases I;exact hB.ale g
  grind
 have hr:=DN (P:=P) (T:=T') (Y0:=Y') H'.store (λb x h=>(Jg h).1) (λ_ h=>h) J (λb sz rows hb=>by have:=(Jg hb).2;cases this) 6 v v' cv t (Rep.keep _ K _ hv);exact⟨Y',σ,H',Rep.keep _ ⟨λ_ _ _=>rfl,λ_ _ h=>h,Nat.le_refl _,λb l h=>by simp[ik] at h⟩ _ hr,K⟩
 exact same
theorem Ry (z:Nat×Bool)(v:PV){Y:Nat->Prop}{σ:Sg}{st:St}{n:Nat}{cv:Value}(H:SW C w Y σ ps vs st n)(hv:Rep w Y σ v cv) :
  ∃ Y' σ',SW C w Y' σ' ps vs (JP (iq.jq P T') z v st n).2.1 (JP (iq.jq P T') z v st n).2.2/\Rep w Y' σ' (JP (iq.jq P T') z v st n).1 cv/\Keep w w Y Y' σ σ':=by
 have same:∃ Y' σ',SW C w Y' σ' ps vs st n/\Rep w Y' σ' v cv/\Keep w w Y Y' σ σ':=⟨Y,σ,H,hv,Keep.same (nK.refl _)⟩;obtain⟨z,re⟩:=z
 cases z with
 | zero=>
  cases re with
  | false=>exact same
  | true=>
   simp only[JP]
   split
   rename_i b r m
   split
   rename_i sz rows J;obtain⟨Y',H',h1,h2,h3⟩:=H.aex J;have K:Keep w w Y Y' σ σ:=⟨λ_ _ _=>rfl,λk _=>h3 k,Nat.le_refl _,nK.refl _⟩
   have hr:=DN (P:=P) (T:=T') (Y0:=Y') (lk:=λc=>if c=b then some (.lN sz rows) else none) H.store (λc x h=>by
     grind) h3 (λc x l h hl=>by
     grind) (λc sz2 t h r' row k h' g I e1 e2 e3=>by
     by_cases hc:c=b
     rw[if_pos hc] at h;cases h;have ho:mr st b r' k h' g I:=⟨sz,rows,row,J,e1,e2,e3⟩;exact⟨⟨(H.nest.rep _ _ _ _ _ _ ho).lt,h2 _ _ _ _ _ ho⟩,(H.nest.rep _ _ _ _ _ _ ho).rows⟩
     grind) 1 (.os b r m) (.sl sz ((iq.jq P T').fz ((iq.jq P T').sub rows r m)) false) cv (by simp[frz]) hv
   exact⟨Y',σ,H',Rep.keep _ ⟨λ_ _ _=>rfl,λ_ _ h=>h,Nat.le_refl _,λb l h=>by simp[ik] at h⟩ _ hr,K⟩
   exact WZ _ H hv
   exact WZ _ H hv
 | succ z=>
  cases v with
  | sl sz I f=>
   cases f with
   | false=>exact same
   | true=>
    cases I with
    | cons _ _=>exact same
    | nil=>
     have H1:=H.empty (id:=n) ⟨H.next _ (Nat.le_refl _),H.fix.1⟩ (z+1);have hm:max n (n+1)=n+1:=by omega
     rw[hm] at H1;refine⟨Y,σ,H1,?_,Keep.same (nK.refl _)⟩;show Rep w Y σ (.os n 0 0) cv;unfold Rep at hv |-
     grind
  | os b r m=>
   cases re with
   | false=>exact same
   | true=>
    show ∃ Y' σ',SW C w Y' σ' ps vs (JP (iq.jq P T') (z+1,true) (.os b r m) st n).2.1 (JP (iq.jq P T') (z+1,true) (.os b r m) st n).2.2/\Rep w Y' σ' (JP (iq.jq P T') (z+1,true) (.os b r m) st n).1 cv/\Keep w w Y Y' σ σ';simp only[JP]
    split
    rename_i J;obtain⟨σ',H1,h1,h2⟩:=H.adq J hv;exact⟨Y,σ',H1,h1,Keep.same h2⟩
    exact same
  | _=>exact same
theorem JS:∀ (zs:List (Nat×Bool)) (cs:List PV) {Y:Nat->Prop} {σ:Sg} {st:St} {n:Nat} {cvs:List Value},SW C w Y σ ps vs st n->eQ w Y σ cs cvs ->
  ∃ Y' σ',SW C w Y' σ' ps vs (Ee (iq.jq P T') zs cs st n).2.1 (Ee (iq.jq P T') zs cs st n).2.2/\eQ w Y' σ' (Ee (iq.jq P T') zs cs st n).1 cvs/\Keep w w Y Y' σ σ'
 | z::zs,v::cs,Y,σ,st,n,cvs,H,hv=>by
  unfold eQ at hv;obtain⟨c,T,rfl,h1,h2⟩:=hv;obtain⟨Y1,g,H1,h1,k1⟩:=Ry (P:=P) (T':=T') z v H h1;obtain⟨I,J,t,h2,k2⟩:=JS zs cs H1 (eQ.keep cs k1 _ h2);exact⟨I,J,t,by show eQ w I J (_::_) _;unfold eQ;exact⟨_,_,rfl,Rep.keep _ k2 _ h1,h2⟩,k1.adr k2⟩
 | [],cs,Y,σ,st,n,cvs,H,hv=>by grind[Ee,Keep.same,nK.refl]
 | z::zs,[],Y,σ,st,n,cvs,H,hv=>by grind[Ee,Keep.same,nK.refl]
theorem U5 (zs:List (Nat×Bool))(v:PV){Y:Nat->Prop}{σ:Sg}{st:St}{n:Nat}{cv:Value}(H:SW C w Y σ ps vs st n)(hv:Rep w Y σ v cv) :
  ∃ Y' σ',SW C w Y' σ' ps vs (Yw (iq.jq P T') zs v st n).2.1 (Yw (iq.jq P T') zs v st n).2.2/\Rep w Y' σ' (Yw (iq.jq P T') zs v st n).1 cv/\Keep w w Y Y' σ σ':=by
 unfold Yw
 split
 rename_i cs;unfold Rep at hv;obtain⟨T,e,h⟩:=hv
 simp_all[JS,Rep]
 split
 exact Ry _ _ H hv
 grind[Keep.same,nK.refl]
theorem Rz:∀ (own:List (List (Nat×Bool))) (cs:List PV) {Y:Nat->Prop} {σ:Sg} {st:St} {n:Nat} {cvs:List Value},SW C w Y σ ps vs st n->eQ w Y σ cs cvs ->
  ∃ Y' σ',SW C w Y' σ' ps vs (Qk (iq.jq P T') own cs st n).2.1 (Qk (iq.jq P T') own cs st n).2.2/\eQ w Y' σ' (Qk (iq.jq P T') own cs st n).1 cvs/\Keep w w Y Y' σ σ'
 | z::zs,v::cs,Y,σ,st,n,cvs,H,hv=>by
  unfold eQ at hv;obtain⟨c,T,rfl,h1,h2⟩:=hv;obtain⟨Y1,g,H1,h1,k1⟩:=U5 (P:=P) (T':=T') z v H h1;obtain⟨I,J,t,h2,k2⟩:=Rz zs cs H1 (eQ.keep cs k1 _ h2);exact⟨I,J,t,by show eQ w I J (_::_) _;unfold eQ;exact⟨_,_,rfl,Rep.keep _ k2 _ h1,h2⟩,k1.adr k2⟩
 | [],cs,Y,σ,st,n,cvs,H,hv=>by grind[Qk,Keep.same,nK.refl]
 | z::zs,[],Y,σ,st,n,cvs,H,hv=>by grind[Qk,Keep.same,nK.refl]
theorem U6 (own:List (List (Nat×Bool)))(v:PV){Y:Nat->Prop}{σ:Sg}{st:St}{n:Nat}{cv:Value}(H:SW C w Y σ ps vs st n)(hv:Rep w Y σ v cv) :
  ∃ Y' σ' t,SW C w Y' σ' ps vs (Yx (iq.jq P T') own v st n).2.1 t/\Rep w Y' σ' (Yx (iq.jq P T') own v st n).1 cv:=by
 unfold Yx
 split
 rename_i cs;unfold Rep at hv;obtain⟨I,e,h⟩:=hv;obtain⟨J,T,H1,h1,_⟩:=Rz (P:=P) (T':=T') own cs H h
 grind[Rep]
 split
 obtain⟨J,T,H1,h1,_⟩:=U5 (P:=P) (T':=T') _ _ H hv;exact⟨J,T,_,H1,h1⟩
 grind
end
end Go.Pv
namespace Go.Pv
open Go
def ahp (tmps:Array Value):ResultVar->Sem Value
 | .tmp t=>pure (tmps.getD t Go.undef)
 | .cell a t=>do loadVar t (<- asAddr (tmps.getD a Go.undef))
theorem ads (fn:Func)(tmps:Array Value):results fn tmps=(do let vs <- fn.results.mapM (ahp tmps);pure (if h:vs.size=1 then vs[0] else .tuple vs)):=by
 unfold results
 congr 1
theorem U7 {P:Program}{T:Tab}(hT:iZ P T){C:Ctx T}{w:World}{Y:Nat->Prop}{σ:Sg}{E:Env}{tmps:Array Value}(H:SW C w Y σ E.tmps tmps.toList E.st E.next) :
  ∀ (rs:List ResultVar) (vs:List PV),Wq T E rs=some vs ->
   ∃ cvs:List Value,(rs.mapM (ahp tmps)).run P w=.ok cvs w/\eQ w Y σ vs cvs
 | [],vs,h=>by simp_all[Wq,eQ]
 | r::rs,vs,h=>by
  unfold Wq at h
  split at h
  cases h
  rename_i v hv
  split at h
  cases h
  rename_i vs' hvs;cases h;obtain⟨cvs,hrun,hr⟩:=U7 hT H rs vs' hvs;have gd:∀ t,tmps.getD t Go.undef=tmps.toList.getD t Go.undef:=by simp_all
  have one:∃ cv,(ahp tmps r).run P w=.ok cv w/\Rep w Y σ v cv:=by
   cases r with
   | tmp t=>
    simp[ak2] at hv;subst hv;exact⟨tmps.getD t Go.undef,by simp[ahp],by rw[gd];exact H.vals.get _ _ t⟩
   | cell c t=>
    simp only[ak2] at hv
    split at hv
    rename_i b off agg size z plain kind e1 e2;obtain⟨J,hsize,I,g⟩:=Wv hT e2;have hc:=H.vals.get _ _ c;rw[e1] at hc;unfold Rep at hc;obtain⟨l,hl,ec⟩:=hc
    split at hv
    rename_i ro row hb;have hB:=fF.zN H (λ_ _ h=>h) hb hl;unfold fF at hB
    have hld:loadRow agg size row off (λu=>u=v):=by
     unfold loadRow
     grind
    obtain⟨u,cv,rfl,hrun',hrep⟩:=UZ J hsize I g hB.2.2.2.1 hld
    grind[ahp,asAddr]
    cases hv
    cases hv
  obtain⟨cv,hrun1,hr1⟩:=one;refine⟨cv::cvs,?_,by unfold eQ;grind⟩
  simp_all
theorem O6 {P:Program}{T:Tab}(hT:iZ P T){C:Ctx T}{w:World}{Y:Nat->Prop}{σ:Sg}{E:Env}{tmps:Array Value}{fn:Func}(H:SW C w Y σ E.tmps tmps.toList E.st E.next){vs:List PV}(h:Wq T E fn.results.toList=some vs) :
  ∃ cv,(results fn tmps).run P w=.ok cv w/\Rep w Y σ (JO vs) cv:=by
 obtain⟨cvs,g,hrep⟩:=U7 hT H _ _ h;have J:=hrep.length
 have I:(results fn tmps).run P w=.ok (if h:cvs.toArray.size=1 then cvs.toArray[0] else .tuple cvs.toArray) w:=by
  grind[ads,Array.mapM_eq_mapM_toList,Sem.run_bind,map_eq_pure_bind,Result.andThen,Sem.run_pure]
 by_cases h1:cvs.length=1
 rw[h1] at J
 match vs,J,hrep with
 | [x],_,hrep=>
  obtain⟨cv,rfl,t⟩:=Jf hrep;exact⟨cv,by grind,t⟩
 have hn1:¬ cvs.toArray.size=1:=by simpa using h1
 refine⟨.tuple cvs.toArray,by grind,?_⟩
 have:JO vs=.Ed vs:=by
  match vs,J with
  | [],_=>rfl
  | [x],J=>grind
  | _::_::_,_=>rfl
 rw[this];unfold Rep;grind
theorem H9:∀ (st:St),lF st=true->∀ b sz rows,iV st b≠some (.lN sz rows)
 | [],_,b,sz,rows,h=>by simp[iV] at h
 | (c,x)::st,h,b,sz,rows,hb=>by
  have h1:lF st=true/\∀ sz rows,x≠some (.lN sz rows):=by
   cases x with
   | none=>grind[lF]
   | some y=>cases y<;>simp_all[lF]
  simp only[iV] at hb
  cases hc:Nat.beq c b with
  | true=>grind
  | false=>rw[hc] at hb;exact H9 st h1.1 b sz rows hb
theorem Ia {w:World}{Y:Nat->Prop}{σ:Sg}:∀ n,eQ w Y σ (sO n) (List.replicate n Go.undef)
 | 0=>by simp[sO,eQ]
 | n+1=>by simp only[sO,List.replicate_succ];unfold eQ;exact⟨_,_,rfl,by simp[Rep],Ia n⟩
theorem adt {P:Program}{T:Tab}(hT:iZ P T)(hp:T.qc=0)(hW:DR P){k:Nat}{fn:Func}{c:Code}(U:P.funcs[k]?=some fn)(hb:fn.body=some c)
  (I:∀ args w,(callFunc k args).run P w=.ok (.enter k args) w) {args:List PV} {R:PV->Prop} {m:Nat} (hm:fn.ntmps-args.length=m)
  (h:∀ S,S=iq.jq P T->Kw T S c (ajf T S fn.results.toList R) ⟨vY args (sO m),[],0⟩) (hyl:T.yl=none:=by rfl):Fn P T.gl k args R:=by
 intro w Y J hG hY t;refine⟨I _ _,?_⟩
 let C:Ctx T:=⟨w,Y,λ_=>False,λ_=>False,ik,[]⟩;have hlen:=t.length
 have H0:SW C w Y ik (vY args (sO m)) ((J.toArray++Array.replicate (fn.ntmps-J.toArray.size) Go.undef).toList) [] 0:=by
  refine⟨?_,⟨λb x h=>by simp[iV] at h,λb b' x x' l l' h=>by simp[iV] at h⟩,λ_ _=>rfl,hY,λ_ h=>h,λk h=>⟨hY k h,λh=>h⟩,λk h _=>.inl h,Nz.refl _ w,λb x l h=>by simp[iV] at h,hG,⟨by omega,λ_ _=>rfl⟩,BB.none (λb sz rows h=>by simp[iV] at h)⟩
  grind[Array.replicate,eQ.app,Ia]
 have hwp:=Be hT hW c _ _ (h _ rfl) C { tmps:=J.toArray++Array.replicate (fn.ntmps-J.toArray.size) Go.undef,defers:=[] } w ⟨⟨Y,ik,H0⟩,rfl,YOK.none hyl⟩;refine calls_of_wp U hb (wp_mono hwp ?_)
 have key:∀ (a:Act) (w' : World),(∃ E,kZ C E a w'/\abx T (iq.jq P T) fn.results.toList E R)->a.defers=[]/\∃ v,(results fn a.tmps).run P w'=.ok v w'/\∃ cv u,Ending.returned v=.returned cv/\R u/\Rep w' Y ik u cv/\Chg w w':=by
  rintro a w' ⟨E,⟨⟨Y',σ',H⟩,hd⟩,hr⟩
  refine⟨hd.1,?_⟩;unfold abx at hr
  split at hr
  rename_i vs hv
  split at hr
  rename_i u hu;obtain⟨cv,hrun,hrep⟩:=O6 hT H hv
  exact⟨cv,hrun,cv,u,rfl,hr,DN H.store (λ_ _ h=>h) H.y0 (λb x l hx hl=>H.away hx hl) (λb sz rows hb r row c h sz' es h1 h2 h3=>by
   have hO:mr E.st b r c h sz' es:=⟨sz,rows,row,hb,h1,h2,h3⟩;have hN:=H.nest.rep _ _ _ _ _ _ hO;refine⟨⟨hN.lt,λhy=>?_⟩,hN.rows⟩;have:=H.c0 _ hy;rcases H.nest.old _ _ _ _ _ _ hO with g|g<;>grind) _ _ _ _ hu hrep,H.qo.qo λ_ h=>h⟩
  exact hr.elim
  exact hr.elim
 intro e a w' hq
 cases e with
 | normal=>exact key a w' hq
 | ret=>exact key a w' hq
 | exit n=>obtain⟨E,_,hq⟩:=hq;exact hq.elim
 | _=>exact hq.elim
theorem abX {P:Program}{T:Tab}(hT:iZ P T)(hW:DR P){k:Nat}{fn:Func}{c:Code}(U:P.funcs[k]?=some fn)(hb:fn.body=some c)
  (t:∀ args w,(callFunc k args).run P w=.ok (.enter k args) w) {args:List PV} {st:St} {R:PV->St->Nat->Prop} {m:Nat} (hm:fn.ntmps-args.length=m)
  (h:∀ S,S=iq.jq P T->Kw T S c (agN T S fn.results.toList R) ⟨vY args (sO m),st,T.qc⟩) (hyl:T.yl=none:=by rfl):FnS P T.gl k args st T.qc R:=by
 intro w Y σ J hG hY hn g hst hnn;refine⟨t _ _,?_⟩;have hlen:=g.length
 let C:Ctx T:=yS T w Y σ st
 have H0:SW C w Y σ (vY args (sO m)) ((J.toArray++Array.replicate (fn.ntmps-J.toArray.size) Go.undef).toList) st T.qc:=by
  refine⟨?_,hst,hn,hY,λ_ h=>h.1,λk h=>⟨hY k h.1,h.2⟩,λk h _=>?_,Nz.refl _ w,λb x l h1 h2=>.inr ⟨b,x,l,h1,h2,rfl⟩,hG,⟨Nat.le_refl _,λ_ _=>rfl⟩,BB.none (H9 st hnn)⟩
  grind[Array.replicate,eQ.app,Ia]
  by_cases hi:Ff σ st k
  exact .inr ⟨h,hi⟩
  exact .inl ⟨h,hi⟩
 have hwp:=Be hT hW c _ _ (h _ rfl) C { tmps:=J.toArray++Array.replicate (fn.ntmps-J.toArray.size) Go.undef,defers:=[] } w ⟨⟨Y,σ,H0⟩,rfl,YOK.none hyl⟩;refine calls_of_wp U hb (wp_mono hwp ?_)
 have key:∀ (a:Act) (w' : World),(∃ E,kZ C E a w'/\UX T (iq.jq P T) fn.results.toList E R)->a.defers=[]/\∃ v,(results fn a.tmps).run P w'=.ok v w' /\
   ∃ cv u st' n' Y' σ',Ending.returned v=.returned cv/\R u st' n'/\SW (yS ⟨λ_=>.bad,T.gl,T.qc,[],0,[],[],none,λ_=>[]⟩ w Y σ st) w' Y' σ' [u] [cv] st' n':=by
  rintro a w' ⟨E,⟨⟨Y',σ',H⟩,hd⟩,hr⟩
  refine⟨hd.1,?_⟩;unfold UX at hr
  split at hr
  rename_i vs hv;obtain⟨cv,hrun,hrep⟩:=O6 hT H hv;have H1:SW C w' Y' σ' [JO vs] [cv] E.st E.next:=H.rH dB
  obtain⟨Y1,σ1,n',H2,hrep2⟩:=U6 (P:=P) (T':=T) T.own (JO vs) H1 hrep;have H3:=H2.rH (show eQ w' Y1 σ1 [(Yx (iq.jq P T) T.own (JO vs) E.st E.next).1] [cv] by unfold eQ;exact⟨_,_,rfl,hrep2,by unfold eQ;rfl⟩)
  split at hr
  rename_i v st2 n2 he;rw[he] at H3;obtain⟨h1,h2,h3⟩:=NM T.qc st2 [v];obtain⟨σ2,I,_⟩:=H3.abu h1 h2 h3;refine⟨cv,hrun,cv,_,_,_,Y1,σ2,rfl,hr,⟨?_,I.store,I.next,I.wB,I.y0,I.c0,I.xE,I.qo,I.own,I.xG,I.fix,I.nest⟩⟩
  simpa only[BA] using I.vals
  exact hr.elim
 intro e a w' hq
 cases e with
 | normal=>exact key a w' hq
 | ret=>exact key a w' hq
 | exit n=>obtain⟨E,_,hq⟩:=hq;exact hq.elim
 | _=>exact hq.elim
end Go.Pv
namespace Go.Pv
open Go
def lkT:List (Nat×TI)->Nat->TI
 | [],_=>.bad
 | (k,i)::l,t=>bif Nat.beq k t then i else lkT l t
def abY (P:Program):List (Nat×TI)->List TI
 | []=>[]
 | (k,_)::l=>(bif Nat.blt k P.types.size then agB P k else .bad)::abY P l
def W9:List (Nat×TI)->List TI
 | []=>[]
 | (_,i)::l=>i::W9 l
def aeG (l:List (Nat×TI))(gl:Nat->Option (List PV))(qc:Nat)(cut:List Nat)(lN:Nat)(own:List (List (Nat×Bool)))(dcl:List (Nat×Nat)):Tab:=⟨lkT l,gl,qc,cut,lN,own,dcl,none,λ_=>[]⟩
theorem abZ {P:Program}{gl:Nat->Option (List PV)}{qc:Nat}{cut:List Nat}{lN:Nat}{own:List (List (Nat×Bool))}{dcl:List (Nat×Nat)}:∀ (l:List (Nat×TI)),abY P l=W9 l->iZ P (aeG l gl qc cut lN own dcl)
 | [],_=>λt h=>by simp[aeG,lkT,TI.bad] at h
 | (k,i)::l,h=>λt hk=>by
  have T:=abZ (P:=P) (gl:=gl) (qc:=qc) (cut:=cut) (lN:=lN) (own:=own) (dcl:=dcl) l;simp only[aeG] at hk T |-;simp only[abY,W9,List.cons.injEq] at h;simp only[lkT] at hk |-
  cases e:Nat.beq k t with
  | true=>
   rw[e] at hk;simp only[cond_true] at hk |-
   grind[Nat.eq_of_beq_eq_true,Nat.blt_eq,TI.bad]
  | false=>
   rw[e] at hk;simp only[cond_false] at hk |-;exact T h.2 t hk
theorem VN {P:Program}{T:Tab}(l:List (Nat×TI))(h:abY P l=W9 l)(e:T.ti=lkT l):iZ P T:=by
 intro t J;have k:=abZ (gl:=λ_=>none) (qc:=0) (cut:=[]) (lN:=0) (own:=[]) (dcl:=[]) l h t
 grind[aeG]
def YN (P:Program)(t:TypeId):Bool :=
 match P.underlying t with
 | none=>false
 | some (.struct fs)=>fs.toList.all λf=>(P.info? f.type).isSome
 | some (.array _ e)=>(P.info? e).isSome
 | some _=>true
def ajE (P:Program):Nat->Bool
 | 0=>true
 | n+1=>YN P n&&ajE P n
theorem YO {P:Program}:∀ n,ajE P n=true->∀ t,t<n->YN P t=true
 | 0,_,t,h=>by omega
 | n+1,h,t,ht=>by
  simp only[ajE,Bool.and_eq_true] at h
  by_cases e:t=n
  grind
  exact YO n h.2 t ae
theorem adu {info:TypeId->Option TypeInfo}{d:TypeDesc}{i:TypeInfo}(h:Made.reckon info d=some i):∀ n u,i.desc≠.named n u:=by
 intro n u T;cases d<;>simp only[Made.reckon,Option.bind_eq_bind,Option.pure_def] at h
 case pointer e=>
  obtain⟨j,_,h⟩:=Option.bind_eq_some_iff.1 h
  split at h
  cases h
  split at h
  cases h
  obtain⟨s,_,h⟩:=Option.bind_eq_some_iff.1 h;cases h;cases T
  obtain⟨s,_,h⟩:=Option.bind_eq_some_iff.1 h;cases h;cases T
 case struct fs=>
  grind[Made.reckonStruct,Option.bind_eq_some_iff]
 all_goals first
  | (cases h;done)
  | (obtain⟨s,_,h⟩:=Option.bind_eq_some_iff.1 h;cases h;cases T;done)
  | (
   obtain⟨s,_,h⟩:=Option.bind_eq_some_iff.1 h;obtain⟨s,_,h⟩:=Option.bind_eq_some_iff.1 h;cases h;cases T;done)
  | (
   obtain⟨s,_,h⟩:=Option.bind_eq_some_iff.1 h;obtain⟨s,_,h⟩:=Option.bind_eq_some_iff.1 h;obtain⟨s,_,h⟩:=Option.bind_eq_some_iff.1 h;obtain⟨s,_,h⟩:=Option.bind_eq_some_iff.1 h;cases h;cases T;done)
theorem amw {P:Program}(h:ajE P P.types.size=true)(C:P.follows .mixedOrders=true):DR P:=by
 have key:∀ t,t<P.types.size->YN P t=true:=YO _ h;refine⟨?_,?_,?_,C⟩
 intro t ht
 by_cases T:t<P.types.size
 have:=key t T;unfold YN at this
 grind
 cases hi:P.info? t with
 | none=>grind
 | some i=>
  have J:=hi;unfold Tables.info? at J;rw[if_neg T,show Made.depth=99+1 from rfl,Made.infoAt,if_neg T] at J;obtain⟨d,_,I⟩:=Option.bind_eq_some_iff.1 J;have g:=adu I;refine⟨i.desc,?_⟩;unfold Program.underlying
  grind
 grind[YN]
 grind[YN]
section
variable {P:Program}{T:Tab}{S:iq}(O:S=iq.jq P T)
include O
theorem amx {b:Bool}{t f:Unit->Prop}(T:b=true)(h:t ()):S.br b t f:=by subst O;exact⟨λ_=>h,λe=>ai⟩
theorem amy {b:Bool}{t f:Unit->Prop}(T:b=false)(h:f ()):S.br b t f:=by subst O;exact⟨λe=>ai,λ_=>h⟩
theorem ajF {k:Nat}{args:List PV}{K:PV->Prop}{v:PV}(hF:Fn P T.gl k args (λu=>u=v))(h:K v):S.V6 k args K:=by subst O;exact⟨v,hF,h⟩
theorem ajG {k:Nat}{args:List PV}{K:PV->Prop}{v:PV}(hF:Fn P T.gl k args (λu=>u=v))(U:Kv 6 v=true)(h:K v):S.Yo k args K:=by subst O;exact⟨v,hF,U,h⟩
theorem ajH {k:Nat}{args bs as:List PV}{E:Env}{free:Option (List PV)}{ρ:List Nat}{st0:St}{K:PV->Env->Prop}{v:PV}(hF:Fn P T.gl k bs (λu=>u=v))(U:Kv 6 v=true)(h:K v E):S.call k args E (some bs) free ρ as st0 K:=by
 subst O;exact .inl ⟨bs,v,rfl,hF,U,h⟩
theorem ajI {k:Nat}{args bs as:List PV}{E:Env}{J:Option (List PV)}{ρ:List Nat}{st0:St}{K:PV->Env->Prop}{v:PV}(hF:Fn P T.gl k bs (λu=>u=v))(h:K v ⟨E.tmps,roS E.st ρ,E.next⟩):S.call k args E J (some bs) ρ as st0 K:=by
 subst O;exact .inr (.inl ⟨bs,v,rfl,hF,h⟩)
theorem aeH {k:Nat}{args as:List PV}{E:Env}{J free:Option (List PV)}{ρ:List Nat}{st0:St}{m:Nat}{K:PV->Env->Prop}{v:PV}{st1:St}{n1:Nat}(hF:FnS P T.gl k as st0 m (λu s n=>u=v/\s=st1/\n=n1))(I:m=lH ρ)(h1:NG ρ=true)(h2:ltN E.next ρ=true)(h0:lF st0=true)
  (h:K (wz (Dx ρ E.next) 8 v) (F5 ρ E st1 n1)):S.call k args E J free ρ as st0 K:=by
 subst O;subst I;exact .inr (.inr (.inl ⟨v,st1,n1,h1,h2,h0,hF,h⟩))
theorem alk {n bytes:Nat}{p:Prop}(h1:(2*n+192)*bytes<=140737488355328)(h2:n<=4611686018427387904)(h:p):S.room n bytes p:=by subst O;exact⟨h1,h2,h⟩
theorem ajJ {K:Hdr->Prop}(h:∀ x,K x):S.nu K:=by subst O;exact h
theorem zt {x y:Hdr}{p:Prop}(e:x=y)(h:p):S.same x y p:=by subst O;exact⟨e,h⟩
theorem aeI {l:Array Oper}{p:Prop}(J:Hr T l=true)(h:p):S.order l p:=by subst O;exact⟨J,h⟩
theorem Xa {l:Array Oper}{p:Prop}(T:Qi l=true)(h:p):S.last l p:=by subst O;exact⟨T,h⟩
theorem ahq {l:Array Oper}{tr:List (List Nat×List Nat×List Nat)}{p:Prop}(T:(Hq l l.toList 0&&afA (Wn l.toList []) tr 0)=true)(h:p):S.afu l tr p:=by subst O;exact⟨T,h⟩
theorem amz {T:List (List PV)}{i:Int}{K:List PV->Prop}{j:Nat}{row:List PV}(hi:i=(j:Int))(hr:T[j]?=some row)(h:K row):S.idx T i K:=by subst O;exact⟨j,row,hi,hr,h⟩
theorem amA {n:Nat}{i:Int}{K:Nat->Prop}{j:Nat}(hi:i=(j:Int))(hr:j<n)(h:K j):S.ix n i K:=by subst O;exact⟨j,hi,hr,h⟩
theorem akA {rows:List (List PV)}{j:Nat}{K:List PV->Prop}{row:List PV}(hr:rows[j]?=some row)(h:K row):S.row rows j K:=by subst O;exact⟨row,hr,h⟩
theorem nz {ci:Nat}{T:Env}{A:Post->Prop}{B:Env->Prop}{Q:Post}(h:A (JM B Q)):S.seq ci T A B Q:=by subst O;exact⟨_,h,λn E h=>⟨E,Ent.refl E,h⟩⟩
end
end Go.Pv
namespace Go.Pv
open Go
def ahr (T:Tab)(S:iq)(b:Code)(Q:Post):Nat->Env->Prop
 | 0,_=>False
 | n+1,E=>Kw T S b (JM (λE=>ahr T S b Q n E) Q) E
theorem Jh {P:Program}{T:Tab}{C:Ctx T}{b:Code}{Q:Post}{nx:Env->Prop}{n:Nat}(I:∀ E a w,kZ C E a w->nx E->Code.rounds P b (lift C Q) n a w):∀ e a w,lift C (JM nx Q) e a w->Exit.then (Code.rounds P b (lift C Q) n) (lift C Q) e a w:=by
 intro e a w h
 cases e with
 | normal=>obtain⟨E,hA,J⟩:=h;exact I E a w hA J
 | ret=>obtain⟨E,hA,J⟩:=h;exact⟨E,hA,J⟩
 | exit n=>obtain⟨E,hA,J⟩:=h;exact⟨E,hA,J⟩
 | _=>exact h.elim
theorem Xb {P:Program}{T:Tab}(hT:iZ P T)(hW:DR P){b:Code}{Q:Post}:∀ (n:Nat) (E:Env),ahr T (iq.jq P T) b Q n E->∀ (C:Ctx T) a w,kZ C E a w->Code.rounds P b (lift C Q) n a w
 | 0,E,h,_,_,_,_=>h.elim
 | n+1,E,h,C,a,w,hA=>by
  unfold Code.rounds;exact wp_mono (Be hT hW b _ E h C a w hA) (Jh λt g w' J I=>Xb hT hW n t I C g w' J)
def wkV:PV->PV
 | .int k n=>.si k n
 | .bool b=>.sb b
 | v=>v
def wkB:Option lW->Option lW
 | some (.var ro row)=>some (.var ro (BA wkV row))
 | x=>x
def wkS:St->St
 | []=>[]
 | (b,x)::l=>(b,wkB x)::wkS l
def wkE (E:Env):Env:=⟨BA wkV E.tmps,wkS E.st,E.next⟩
theorem aeJ (c:Nat):∀ st:St,iV (wkS st) c=wkB (iV st c)
 | []=>rfl
 | (b,x)::l=>by
  simp only[wkS,iV]
  cases Nat.beq b c with
  | true=>rfl
  | false=>exact aeJ c l
theorem aeK {w:World}{Y:Nat->Prop}{σ:Sg}(p:PV)(v:Value)(h:Rep w Y σ p v):Rep w Y σ (wkV p) v:=by
 cases p<;>first|exact h|(unfold wkV;unfold Rep at h |-;exact h)
theorem aeL {w:World}{Y:Nat->Prop}{σ:Sg}:∀ (ps:List PV) (vs:List Value),eQ w Y σ ps vs->eQ w Y σ (BA wkV ps) vs
 | [],vs,h=>h
 | p::ps,vs,h=>by
  unfold eQ at h;obtain⟨v,T,rfl,h1,h2⟩:=h;simp only[BA];unfold eQ;exact⟨v,T,rfl,aeK p v h1,aeL ps T h2⟩
theorem SW.RD {T:Tab}{C:Ctx T}{w:World}{Y:Nat->Prop}{σ:Sg}{ps:List PV}{vs:List Value}{st st' : St}{n:Nat}(H:SW C w Y σ ps vs st n)
  (h:∀ b,iV st' b=iV st b\/∃ ro row I,iV st b=some (.var ro row)/\iV st' b=some (.var ro I)/\I.length=row.length/\∀ cb o,iW w Y σ cb row o->iW w Y σ cb I o):SW C w Y σ ps vs st' n:=by
 have J : ∀ b x,iV st' b=some x->∃ y,iV st b=some y:=by
  grind
 have ow:∀ b r c h' sz g,mr st' b r c h' sz g->mr st b r c h' sz g:=by
  rintro b r c h' sz g ⟨sz0,rows,row,h1,h2⟩
  rcases h b with e|⟨ro,row1,I,e1,e2,_⟩
  exact⟨sz0,rows,row,by grind,h2⟩
  grind
 refine⟨H.vals,⟨?_,?_⟩,H.next,H.wB,H.y0,H.c0,H.xE,H.qo,?_,H.xG,H.fix,⟨?_,?_,?_,?_⟩⟩
 intro b x t;rcases h b with e|⟨ro,row,I,e1,e2,e3,e4⟩
 exact H.store.blk b x ai
 rw[e2] at t;cases t;rcases H.store.blk b _ e1 with ⟨l,hl,hB⟩|⟨_,t⟩
 grind[fF]
 cases t
 intro b b' x x' l l' t hx' hl hl' e;obtain⟨y,hy⟩:=J b x t;obtain⟨y',hy'⟩:=J b' x' hx';exact H.store.inj b b' y y' l l' hy hy' hl hl' e
 intro b x l t hl;obtain⟨y,hy⟩:=J b x t;exact H.own b y l hy hl
 intro b r c h' sz g ho;exact H.nest.rep _ _ _ _ _ _ (ow _ _ _ _ _ _ ho)
 intro b r c h' sz g ho;exact H.nest.old _ _ _ _ _ _ (ow _ _ _ _ _ _ ho)
 intro b r c h' sz g b' r' c' h2 sz' es' ho ho' e;exact H.nest.one _ _ _ _ _ _ _ _ _ _ _ _ (ow _ _ _ _ _ _ ho) (ow _ _ _ _ _ _ ho') e
 intro b r c h' sz g b' x l ho t hl;obtain⟨y,hy⟩:=J b' x t;exact H.nest.sep _ _ _ _ _ _ b' y l (ow _ _ _ _ _ _ ho) hy hl
theorem LU {T:Tab}(E:Env):Ent T E (wkE E):=by
 intro C a w hA;obtain⟨⟨Y,σ,H⟩,J⟩:=hA;refine⟨⟨Y,σ,(H.rH (aeL _ _ H.vals)).RD λb=>?_⟩,J⟩;have hk:iV (wkE E).st b=wkB (iV E.st b):=aeJ b E.st;rw[hk]
 cases I:iV E.st b with
 | none=>exact .inl rfl
 | some x=>
  cases x with
  | var ro row=>
   refine .inr ⟨ro,row,BA wkV row,rfl,rfl,by rw[Eh];simp,λcb o h=>?_⟩
   grind[Eh,iW.map,aeK]
  | _=>exact .inl rfl
theorem iW.pJ {w:World}{Y:Nat->Prop}{σ:Sg}{b:Nat}{p:PV}:∀ (ps:List PV) (o t:Nat),(∀ v,Rep w Y σ (ji ps t) v->Rep w Y σ p v)->iW w Y σ b ps o->iW w Y σ b (nV ps t p) o
 | [],o,t,_,h=>by simpa [nV] using h
 | q::ps,o,0,hp,h=>by
  unfold iW at h;obtain⟨⟨v,h1,h2⟩,T⟩:=h;simp only[nV];unfold iW;exact⟨⟨v,h1,hp v h2⟩,T⟩
 | q::ps,o,t+1,hp,h=>by
  unfold iW at h;obtain⟨h1,T⟩:=h;simp only[nV];unfold iW;exact⟨h1,iW.pJ ps (o+1) t hp T⟩
inductive Cv where
 | tO (t z:Nat)
 | tN (t z:Nat)
 | tS (t z:Nat)
 | cO (b c z:Nat)
 | cS (b c z:Nat)
 | tR (t:Nat)
 | tF (t:Nat)
 | tP (t:Nat)
 | cF (b c:Nat)
 | cR (b c:Nat)
def cvS (z:Nat)(v:PV):PV :=
 match v with
 | .sl a es f=>(match f with
  | true=>(match es with
   | []=>.sl z [] false
   | _::_=>.sl a es f)
  | false=>.sl a es f)
 | v=>v
theorem aeM {w:World}{Y:Nat->Prop}{σ:Sg}(z:Nat)(p:PV)(v:Value)(h:Rep w Y σ p v):Rep w Y σ (cvS z p) v:=by
 unfold cvS
 split
 split
 split
 unfold Rep at h |-
 grind
 exact h
 exact h
 exact h
def cvO (z n:Nat)(v:PV):Option PV :=
 match v with
 | .sl _ es f=>(match f with
  | true=>(match es with
   | []=>some (.os n 0 0)
   | _::_=>none)
  | false=>none)
 | _=>none
theorem Z7 {w:World}{Y:Nat->Prop}{σ:Sg}{z n:Nat}{p q:PV}(e:cvO z n p=some q)(v:Value)(h:Rep w Y σ p v):Rep w Y σ q v:=by
 unfold cvO at e
 split at e
 split at e
 split at e
 cases e;unfold Rep at h |-
 grind
 cases e
 cases e
 cases e
def ahs:List PV->List PV
 | []=>[]
 | v::vs=>(match v with
  | .hc=>.sb false
  | v=>v)::ahs vs
theorem Xc {S:iq}{w:World}{Y:Nat->Prop}{σ:Sg}:∀ (ps:List PV) (vs:List Value) (r:List PV×Dl),pur S (λ_=>none) (ahs ps)=some r->eQ w Y σ ps vs->eQ w Y ik ps vs
 | [],vs,_,_,h=>by grind[eQ]
 | p::ps,vs,r,hp,h=>by
  unfold eQ at h;obtain⟨v,T,rfl,h1,h2⟩:=h;unfold ahs at hp;unfold pur at hp
  cases J:pur S (λ_=>none) (ahs ps) with
  | none=>grind
  | some q=>
   rw[J] at hp;simp only at hp;have I:=Xc ps T q J h2;have fin:Rep w Y ik p v->eQ w Y ik (p::ps) (v::T):=λh=>by unfold eQ;grind
   cases p
   case os=>simp at hp
   case fn f cs=>
    cases cs<;>simp_all[Rep,eQ]
   all_goals first
    | (simp at hp;done)
    | exact fin (by unfold Rep at h1 |-;exact h1)
def cv1 (S:iq):Cv->Env->Env
 | .tO t z,E=>(match cvO z E.next (ji E.tmps t) with
  | some v=>⟨nV E.tmps t v,nX E.st E.next (some (.arr false z [])),E.next+1⟩
  | none=>E)
 | .tN t z,E=>(match cvO z E.next (ji E.tmps t) with
  | some v=>⟨nV E.tmps t v,nX E.st E.next (some (.lN z [])),E.next+1⟩
  | none=>E)
 | .tS t z,E=>⟨nV E.tmps t (cvS z (ji E.tmps t)),E.st,E.next⟩
 | .cO b c z,E=>(match iV E.st b with
  | some (.var ro row)=>(match cvO z E.next (ji row c) with
   | some v=>⟨E.tmps,nX (nX E.st b (some (.var ro (nV row c v)))) E.next (some (.arr false z [])),E.next+1⟩
   | none=>E)
  | _=>E)
 | .cS b c z,E=>(match iV E.st b with
  | some (.var ro row)=>⟨E.tmps,nX E.st b (some (.var ro (nV row c (cvS z (ji row c))))),E.next⟩
  | _=>E)
 | .tR t,E=>(match ji E.tmps t with
  | .os b r m=>(match iV E.st b with
   | some (.arr false sz rows)=>⟨nV E.tmps t (.os E.next 0 m),nX (nX E.st b none) E.next (some (.arr false sz (S.sub rows r m))),E.next+1⟩
   | _=>E)
  | _=>E)
 | .tF t,E=>(match ji E.tmps t with
  | .os b r m=>(match iV E.st b with
   | some (.arr _ sz rows)=>⟨nV E.tmps t (.sl sz (S.sub rows r m) false),nX E.st b (some (.arr true sz rows)),E.next⟩
   | some (.lN sz rows)=>⟨nV E.tmps t (.sl sz (S.fz (S.sub rows r m)) false),nX E.st b none,E.next⟩
   | _=>E)
  | _=>E)
 | .tP t,E=>(match ji E.tmps t with
  | .lv b c=>(match iV E.st b with
   | some (.var _ row)=>(match pur S (λ_=>none) (ahs row) with
    | some _=>⟨nV E.tmps t (.pp (Hl c row)),nX E.st b (some (.var true row)),E.next⟩
    | none=>E)
   | _=>E)
  | _=>E)
 | .cF b c,E=>(match iV E.st b with
  | some (.var ro row)=>(match ji row c with
   | .os b' r m=>(match iV E.st b' with
    | some (.arr _ sz rows)=>⟨E.tmps,nX (nX E.st b' (some (.arr true sz rows))) b (some (.var ro (nV row c (.sl sz (S.sub rows r m) false)))),E.next⟩
    | _=>E)
   | _=>E)
  | _=>E)
 | .cR b c,E=>(match iV E.st b with
  | some (.var false row)=>(match ji row c with
   | .os b' r m=>(match iV E.st b' with
    | some (.arr false sz rows)=>⟨E.tmps,nX (nX (nX E.st b' none) E.next (some (.arr false sz (S.sub rows r m)))) b (some (.var false (nV row c (.os E.next 0 m)))),E.next+1⟩
    | _=>E)
   | _=>E)
  | _=>E)
def Lp (S:iq):List Cv->Env->Env
 | [],E=>E
 | c::l,E=>Lp S l (cv1 S c E)
theorem aht {P:Program}{T T' : Tab}{C:Ctx T}{w:World}{Y:Nat->Prop}{σ:Sg}{vs:List Value}(c:Cv)(E:Env)(H:SW C w Y σ E.tmps vs E.st E.next):∃ Y' σ',SW C w Y' σ' (cv1 (iq.jq P T') c E).tmps vs (cv1 (iq.jq P T') c E).st (cv1 (iq.jq P T') c E).next/\Keep w w Y Y' σ σ':=by
 have K0:Keep w w Y Y σ σ:=Keep.same (nK.refl _)
 have H1:∀ z,SW C w Y σ E.tmps vs (nX E.st E.next (some (.arr false z []))) (E.next+1):=by
  intro z;have H1:=H.empty (id:=E.next) ⟨H.next _ (Nat.le_refl _),H.fix.1⟩ z
  grind
 cases c with
 | tO t z=>
  simp only[cv1]
  split
  rename_i v he;exact⟨Y,σ,(H1 z).rH (eQ.pJ _ _ _ H.vals (Z7 he _ (H.vals.get _ _ t))),K0⟩
  grind
 | tN t z=>
  simp only[cv1]
  split
  rename_i v he;have H1:=H.ag9 (id:=E.next) ⟨H.next _ (Nat.le_refl _),H.fix.1⟩ (.lN z);have hm:max E.next (E.next+1)=E.next+1:=by omega
  rw[hm] at H1;exact⟨Y,σ,H1.rH (eQ.pJ _ _ _ H.vals (Z7 he _ (H.vals.get _ _ t))),K0⟩
  grind
 | tS t z=>exact⟨Y,σ,H.rH (eQ.pJ _ _ _ H.vals (aeM z _ _ (H.vals.get _ _ t))),K0⟩
 | cO b c z=>
  simp only[cv1]
  split
  rename_i ro row J
  split
  rename_i v he;refine⟨Y,σ,(H1 z).RD λb'=>?_,K0⟩
  grind[ig,ug,iW.pJ,Z7]
  grind
  grind
 | cS b c z=>
  simp only[cv1]
  split
  rename_i ro row J;refine⟨Y,σ,H.RD λb'=>?_,K0⟩
  grind[ig,ug,iW.pJ,aeM]
  grind
 | tR t=>
  simp only[cv1];have g:=H.vals.get _ _ t
  split
  rename_i b r m I;rw[I] at g
  split
  rename_i sz rows J;obtain⟨σ',H1,h1,k1⟩:=H.adq J g;exact⟨Y,σ',H1.rH (eQ.pJ _ _ _ H1.vals h1),Keep.same k1⟩
  grind
  grind
 | tF t=>
  simp only[cv1]
  split
  rename_i b r m I
  split
  rename_i ro sz rows J;obtain⟨Y',H1,hfr,hY⟩:=H.freeze J (.inr ⟨ro,sz,rows,rfl,rfl⟩);refine⟨Y',σ,H1.rH (eQ.pJ _ _ _ H1.vals ?_),⟨λ_ _ _=>rfl,λk _=>hY k,Nat.le_refl _,nK.refl _⟩⟩;have g:=H1.vals.get _ _ t;rw[I] at g;have hb' : iV (nX E.st b (some (.arr true sz rows))) b=some (.arr true sz rows):=by rw[ig,if_pos rfl]
  obtain⟨x,cap,ev,hn,hl,hr⟩:=Je g (H1.store.blk b _ hb');show Rep w Y' σ (.sl sz ((rows.drop r).take m) false) _
  grind[Rep]
  rename_i sz rows J;obtain⟨Y',H',h1,h2,h3⟩:=H.aex J;have hv:=H.vals.get _ _ t;rw[I] at hv
  have hr:=DN (P:=P) (T:=T') (Y0:=Y') (lk:=λc=>if c=b then some (.lN sz rows) else none) H.store (λc x h=>by
    grind) h3 (λc x l h hl=>by
    grind) (λc sz2 rows2 h r' row k h' sz' es e1 e2 e3=>by
    by_cases hc:c=b
    rw[if_pos hc] at h;cases h;have ho:mr E.st b r' k h' sz' es:=⟨sz,rows,row,J,e1,e2,e3⟩;exact⟨⟨(H.nest.rep _ _ _ _ _ _ ho).lt,h2 _ _ _ _ _ ho⟩,(H.nest.rep _ _ _ _ _ _ ho).rows⟩
    grind) 1 (.os b r m) (.sl sz ((iq.jq P T').fz ((iq.jq P T').sub rows r m)) false) _ (by simp[frz]) hv
  exact⟨Y',σ,H'.rH (eQ.pJ _ _ _ H'.vals (Rep.keep _ ⟨λ_ _ _=>rfl,λ_ _ h=>h,Nat.le_refl _,λb l h=>by simp[ik] at h⟩ _ hr)),⟨λ_ _ _=>rfl,λk _=>h3 k,Nat.le_refl _,nK.refl _⟩⟩
  grind
  grind
 | tP t=>
  simp only[cv1]
  split
  rename_i b c I
  split
  rename_i ro row J
  split
  rename_i pr hpur;obtain⟨Y',H1,hfr,hY⟩:=H.freeze J (x':=.var true row) (.inl ⟨ro,row,rfl,rfl⟩);refine⟨Y',σ,H1.rH (eQ.pJ _ _ _ H1.vals ?_),⟨λ_ _ _=>rfl,λk _=>hY k,Nat.le_refl _,nK.refl _⟩⟩;have g:=H1.vals.get _ _ t;rw[I] at g;unfold Rep at g |-;obtain⟨l,hs,ev⟩:=g;have hB:=fF.zN H1 (lk:=iV (nX E.st b (some (.var true row)))) (λ_ _ h=>h) dG hs;have hlt:=hB.lt;unfold fF at hB;obtain⟨us,hr,hcell⟩:=hB.2.2.2.1.vals;have hr':=Xc _ _ _ hpur hr;have hrc:=(iW.Lt row us l.co hr' hcell).drop c _ _
  grind[zL]
  grind
  grind
  grind
 | cF b c=>
  simp only[cv1]
  split
  rename_i ro row hbv
  split
  rename_i b' r m I
  split
  rename_i ro' sz rows J;obtain⟨Y',H1,hfr,hY⟩:=H.freeze J (.inr ⟨ro',sz,rows,rfl,rfl⟩);refine⟨Y',σ,H1.RD λd=>?_,⟨λ_ _ _=>rfl,λk _=>hY k,Nat.le_refl _,nK.refl _⟩⟩;have hne:¬ b'=b:=by grind
  rw[ig]
  by_cases h2:b=d
  subst h2;refine .inr ⟨ro,row,nV row c (.sl sz ((iq.jq P T').sub rows r m) false),by simp_all[ig],by rw[if_pos rfl],by simp[ug],λcb o h=>iW.pJ _ _ _ (λv hv=>?_) h⟩;rw[I] at hv;have hb' : iV (nX E.st b' (some (.arr true sz rows))) b'=some (.arr true sz rows):=by rw[ig,if_pos rfl]
  obtain⟨x,cap,ev,hn,hl,hr⟩:=Je hv (H1.store.blk b' _ hb');show Rep w Y' σ (.sl sz ((rows.drop r).take m) false) _
  grind[Rep]
  grind
  grind
  grind
  grind
 | cR b c=>
  simp only[cv1]
  split
  rename_i row hbv
  split
  rename_i b' r m I
  split
  rename_i sz rows J
  obtain⟨l,hl,hB⟩:∃ l,σ b=some l/\fF w Y σ l (.var false row):=by
   rcases H.store.blk b _ hbv with h|⟨_,h⟩
   exact h
   cases h
  have hB0:=hB;unfold fF at hB;obtain⟨hat,hsz,htot,hrow,hY,hY'⟩:=hB
  have hc:c<row.length:=by
   grind[Ei]
  obtain⟨v,hv1,hv2⟩:=iW.get row _ c hrow hc;rw[I] at hv2;obtain⟨σ',H1,h1,k1⟩:=H.adq J hv2;have hne:¬ b'=b:=by grind
  have hnx:¬ E.next=b:=by
   intro e;rw[H.next b ae] at hl;cases hl
  have hbv1:iV (nX (nX E.st b' none) E.next (some (.arr false sz ((rows.drop r).take m)))) b=some (.var false row):=by
   simp_all[ig]
  refine⟨Y,σ',H1.update hbv1 (k1 _ _ hl) (hY rfl) rfl rfl rfl rfl (λ_ _=>rfl) (λ_ _ h=>by cases h) (λ_=>?_),Keep.same k1⟩
  obtain⟨l2,hl2,hB2⟩:∃ l,σ' b=some l/\fF w Y σ' l (.var false row):=by
   rcases H1.store.blk b _ hbv1 with h|⟨_,h⟩
   exact h
   cases h
  rw[k1 _ _ hl] at hl2;grind[fF,ug,iW.iff]
  grind
  grind
  grind
theorem adv {P:Program}{T T' : Tab}{C:Ctx T}{w:World}{vs:List Value}:∀ (l:List Cv) (E:Env) {Y:Nat->Prop} {σ:Sg},SW C w Y σ E.tmps vs E.st E.next->∃ Y' σ',SW C w Y' σ' (Lp (iq.jq P T') l E).tmps vs (Lp (iq.jq P T') l E).st (Lp (iq.jq P T') l E).next/\Keep w w Y Y' σ σ'
 | [],E,Y,σ,H=>⟨Y,σ,H,Keep.same (nK.refl _)⟩
 | c::l,E,Y,σ,H=>by
  obtain⟨Y1,g,H1,k1⟩:=aht (P:=P) (T':=T') c E H;obtain⟨I,J,t,k2⟩:=adv (P:=P) (T':=T') l _ H1;exact⟨I,J,t,k1.adr k2⟩
theorem aeN {P:Program}{T T' : Tab}(c:Cv)(E:Env):Ent T E (cv1 (iq.jq P T') c E):=by
 intro C a w hA;obtain⟨⟨Y,σ,H⟩,J⟩:=hA;obtain⟨Y',σ',H',_⟩:=aht (P:=P) (T':=T') c E H;exact⟨⟨Y',σ',H'⟩,J⟩
theorem BL {P:Program}{T T' : Tab}:∀ (l:List Cv) (E:Env),Ent T E (Lp (iq.jq P T') l E)
 | [],E=>Ent.refl E
 | c::l,E=>λC a w h=>BL l _ C a w (aeN c E C a w h)
def ajK:Nat->Nat->List (Nat×PV)->List PV
 | _,0,_=>[]
 | i,n+1,[]=>.top::ajK (i+1) n []
 | i,n+1,(k,v)::l=>bif Nat.beq k i then v::ajK (i+1) n l else .top::ajK (i+1) n ((k,v)::l)
theorem Ent.trans {T:Tab}{E F G:Env}(h:Ent T E F)(k:Ent T F G):Ent T E G:=λC a w x=>k C a w (h C a w x)
section
variable {P:Program}{T:Tab}(hT:iZ P T)(hW:DR P){S:iq}(O:S=iq.jq P T)
include hT hW O
theorem ahu (n:Nat){b:Code}{Q:Post}{E:Env}(h:ahr T S b Q n E):S.loop b Q E:=by
 subst O;intro C a w hA;exact wp_loop_rounds n (Xb hT hW n E h C a w hA)
end
end Go.Pv
namespace Go.Pv
open Go
mutual
inductive Shp (P:Program):TypeId->List PV->Prop
 | int {t:TypeId} {k:IntKind} {n:Int}:P.underlying t=some (.int k)->(Lit.int k n).wf=true->Shp P t [.si k n]
 | bool {t:TypeId} {b:Bool}:P.underlying t=some .bool->Shp P t [.sb b]
 | str {t:TypeId} {s:ByteArray}:P.underlying t=some .string->s.size<=maxLen->Shp P t [.str s]
 | IY {t e:TypeId}:P.underlying t=some (.pointer e)->Shp P t [.IY]
 | pp {t e:TypeId} {cs:List PV}:P.underlying t=some (.pointer e)->Shp P e cs->Shp P t [.pp cs]
 | sl {t e:TypeId} {es:List (List PV)}:P.underlying t=some (.slice e)->(∀ r∈es,Shp P e r)->es.length<=maxLen->Shp P t [.sl (P.cellsOf e) es false]
 | struct {t:TypeId} {fs:Array Field} {cs:List PV}:P.underlying t=some (.struct fs)->NT P (fs.toList.map (·.type)) cs->Shp P t cs
 | arr {t e:TypeId} {n:Nat} {cs:List PV}:P.underlying t=some (.array n e)->NT P (List.replicate n e) cs->Shp P t cs
inductive NT (P:Program):List TypeId->List PV->Prop
 | nil:NT P [] []
 | cons {t:TypeId} {ts:List TypeId} {a b:List PV}:Shp P t a->NT P ts b->NT P (t::ts) (a++b)
end
def Xd (P:Program)(ts:List TypeId):List Field->Nat->Option Nat
 | [],n=>some n
 | f::fs,n=>bif Nat.beq f.offset n&&ts.contains f.type then Xd P ts fs (n+P.cellsOf f.type) else none
def ajL (P:Program)(ts:List TypeId)(t:TypeId):Bool :=
 match P.underlying t with
 | some .bool|some (.int _)|some .string=>Nat.beq (P.cellsOf t) 1
 | some (.pointer e)=>Nat.beq (P.cellsOf t) 1&&Nat.blt 0 (P.cellsOf e)&&ts.contains e
 | some (.slice e)=>Nat.beq (P.cellsOf t) 1&&Nat.blt 0 (P.cellsOf e)&&ts.contains e
 | some (.struct fs)=>match Xd P ts fs.toList 0 with|some n=>Nat.beq n (P.cellsOf t)|none=>false
 | some (.array n e)=>Nat.beq (P.cellsOf t) (n*P.cellsOf e)&&ts.contains e
 | _=>false
def layAll (P:Program)(ts:List TypeId):List TypeId->Bool
 | []=>true
 | t::l=>ajL P ts t&&layAll P ts l
theorem NU {P:Program}{ts:List TypeId}:∀ (l:List TypeId),layAll P ts l=true->∀ t∈l,ajL P ts t=true
 | [],_,t,h=>by simp at h
 | u::l,h,t,ht=>by
  simp only[layAll,Bool.and_eq_true] at h;rcases List.mem_cons.1 ht with rfl|ht
  exact h.1
  exact NU l h.2 t ht
section
variable {H:Type}{enc:TypeId×Value->H}{P:Program}{w:World}{base:Nat}{sp:Nat->Bool}{held:Bool}
def NoY:Nat->Prop:=λ_=>False
theorem NV:∀ (a b:List PV),iw a=true->iw b=true->iw (a++b)=true
 | [],b,_,h=>by simpa using h
 | x::a,b,h,k=>by
  simp only[iw,Bool.and_eq_true,List.cons_append] at h |-;exact⟨h.1,NV a b h.2 k⟩
mutual
theorem Shp.cells {t:TypeId}{cs:List PV}:Shp P t cs->iw cs=true
 | .int _ _=>rfl
 | .bool _=>rfl
 | .str _ _=>rfl
 | .IY _=>rfl
 | .pp _ _=>rfl
 | .sl _ _ _=>rfl
 | .struct _ h=>NT.cells h
 | .arr _ h=>NT.cells h
theorem NT.cells {ts:List TypeId}{cs:List PV}:NT P ts cs->iw cs=true
 | .nil=>rfl
 | .cons h k=>NV _ _ (Shp.cells h) (NT.cells k)
end
theorem eQ.append {Y:Nat->Prop}{σ:Sg}{a b:List PV}{vs us:List Value}(h:eQ w Y σ a vs)(k:eQ w Y σ b us):eQ w Y σ (a++b) (vs++us):=by
 have:=eQ.app a b vs us h k
 rwa [ZE] at this
theorem Z8 {a:Addr}{v:Value}(h:w.cell? a=some v):a.spot=none:=by
 unfold World.cell? at h
 split at h<;>simp_all
theorem RF {b:Nat}{o:Nat}{n:Nat}{vs:List Value}{ps:List PV}(hc:w.cells? base ⟨b,o,none⟩ n=some vs)(hr:eQ w NoY ik ps vs):iW w NoY ik b ps o:=by
 obtain⟨_,J,T⟩:=World.cells?_some hc;refine iW.Lt _ _ _ hr λi v hv=>?_
 have hi:i<n:=by
  grind
 have:=T i hi;rw[hv] at this;unfold Addr.add at this
 grind
theorem afQ {a:Addr}(h:a.spot=none)(n:Nat):a.add n=⟨a.block,a.off+n,none⟩:=by
 unfold Addr.add
 by_cases h0:n=0
 subst h0;simp;cases a;grind
 grind
theorem Xe {a:Addr}{n:Nat}{vs:List Value}(I:0<n)(h:w.cells? base a n=some vs):a.spot=none/\a.block<w.heap.size:=by
 obtain⟨_,J,T⟩:=World.cells?_some h
 grind[Addr.add,Z8,World.cell?]
inductive ab1 (P:Program) (t:TypeId):PV->Prop
 | one {p:PV}:Shp P t [p]->kY P t=false->ab1 P t p
 | agg {cs:List PV}:Shp P t cs->kY P t=true->ab1 P t (.agg cs)
end
end Go.Pv
namespace Go.Pv
open Go
inductive U8 (P:Program):List TypeId->List PV->Prop
 | nil:U8 P [] []
 | cons {t:TypeId} {ts:List TypeId} {p:PV} {ps:List PV}:ab1 P t p->U8 P ts ps->U8 P (t::ts) (p::ps)
section
variable {H:Type}{enc:TypeId×Value->H}{P:Program}{w:World}{base:Nat}{sp:Nat->Bool}{held:Bool}
theorem YP {W I : World}(C:laidOutB P=true)(g:RowKit.Below W.heap.size W I):∀ (params:List TypeId) (vs:List Value) (T:List (DataW H)) (pl:List MemPlace),(∀ t∈params,P.readableRec t=true/\t<P.types.size) ->
  (∀ x∈pl,x.block<W.heap.size)->DataW.TrodAll enc P W 0 (λ_=>true) true params vs T pl->DataW.TrodAll enc P I 0 (λb=>decide (b<W.heap.size)) true params vs T pl
 | [],[],[],_,_,_,h=>h
 | t::params,v::vs,d::T,pl,hm,hlt,h=>by
  obtain⟨p,q,h1,h2,e⟩:=h;subst e;exact⟨p,q,RowKit.Below.trod C (hm t aj).1 (hm t aj).2 h1 g (λx J=>hlt x (by simp[J])),YP C g params vs T q (λt ht=>hm t (by simp[ht])) (λx J=>hlt x (by simp[J])) h2,rfl⟩
 | [],_::_,_,_,_,_,h=>h.elim
 | [],[],_::_,_,_,_,h=>h.elim
 | _::_,[],_,_,_,_,h=>h.elim
 | _::_,_::_,[],_,_,_,h=>h.elim
def amB (P:Program)(ts params:List TypeId):Bool:=laidOutB P&&layAll P ts ts&&params.all λt=>ts.contains t&&P.readableRec t&&Nat.blt t P.types.size
end
section
variable {P:Program}{t e:TypeId}{cs:List PV}{p:PV}
theorem Shp.Z9 {k:IntKind}(hu:P.underlying t=some (.int k))(h:Shp P t cs):∃ n,cs=[.si k n]/\(Lit.int k n).wf=true:=by
 cases h<;>grind
theorem Shp.ab2 (hu:P.underlying t=some .bool)(h:Shp P t cs):∃ b,cs=[.sb b]:=by
 cases h<;>grind
theorem Shp.aeO (hu:P.underlying t=some .string)(h:Shp P t cs):∃ s,cs=[.str s]/\s.size<=maxLen:=by
 cases h<;>grind
theorem Shp.qE (hu:P.underlying t=some (.slice e))(h:Shp P t cs):∃ T,cs=[.sl (P.cellsOf e) T false]/\(∀ r∈T,Shp P e r)/\T.length<=maxLen:=by
 cases h<;>grind
theorem Shp.kP {T:Array Field}(hu:P.underlying t=some (.struct T))(h:Shp P t cs):NT P (T.toList.map (·.type)) cs:=by
 cases h<;>grind
theorem Shp.VO {n:Nat}(hu:P.underlying t=some (.array n e))(h:Shp P t cs):NT P (List.replicate n e) cs:=by
 cases h<;>grind
theorem NT.He {ts:List TypeId}(h:NT P (t::ts) cs):∃ a b,cs=a++b/\Shp P t a/\NT P ts b:=by
 cases h<;>grind
theorem NT.mG (h:NT P [] cs):cs=[]:=by cases h;rfl
theorem ab1.aeP (T:kY P t=true)(h:ab1 P t p):∃ cs,p=.agg cs/\Shp P t cs:=by
 cases h<;>grind
theorem ab1.inv_one (T:kY P t=false)(h:ab1 P t p):Shp P t [p]:=by
 cases h<;>grind
theorem U8.He {ts:List TypeId}{ps:List PV}(h:U8 P (t::ts) ps):∃ a b,ps=a::b/\ab1 P t a/\U8 P ts b:=by
 cases h<;>grind
theorem U8.mG {ps:List PV}(h:U8 P [] ps):ps=[]:=by cases h;rfl
end
end Go.Pv
namespace Go.Pv
open Go
section
variable {α β σ ρ:Type}
def br (c:Bool)(a b:Option ρ):Option ρ:=match c with|true=>a|false=>b
def bnd (o:Option α)(k:α->Option ρ):Option ρ:=match o with|none=>none|some x=>k x
def lt (x:α)(k:α->Option ρ):Option ρ:=k x
def jn (rest:σ->Option ρ)(body:(σ->Option ρ)->Option ρ):Option ρ:=body rest
def iI (step:σ->(σ->Option ρ)->Option ρ):Nat->σ->Option ρ
 | 0,_=>none
 | n+1,s=>step s (iI step n)
def fuel:Nat:=18446744073709551616
def eH (step:σ->(σ->Option ρ)->Option ρ)(s:σ):Option ρ:=iI step fuel s
def kD (n:Nat):Int->Option Nat
 | .ofNat j=>bif Nat.blt j n then some j else none
 | .negSucc _=>none
def gW (l:List α):Int->Option α
 | .ofNat j=>l[j]?
 | .negSucc _=>none
def eU (l:List α):Int:=(l.length:Int)
def acT (l:List α)(r:Nat)(new:List α):List α:=l.take r++new++l.drop (r+new.length)
def Dw (l:List α)(r n:Nat):List α:=(l.drop r).take n
def fK (a b:Int):Int:=iM .add .i64 a b
def rP (a b:Int):Int:=iM .sub .i64 a b
def RG (a b:Int):Int:=iM .mul .i64 a b
def iy (n bytes:Nat)(k:Option ρ):Option ρ:=bif Nat.ble ((2*n+192)*bytes) 140737488355328&&Nat.ble n 4611686018427387904 then k else none
def divO (op:BinOp)(k:IntKind)(a b:Int):Option Int:=bif decide (b=0) then none else some (match op with|.quo=>k.wrap (a.tdiv b)|_=>a.tmod b)
def jU (op:BinOp)(k:IntKind)(a y:Int):Option Int:=bif decide (0<=y) then some (match op with|.shl=>k.wrap (a*2 ^ (min y.toNat k.bits))|_=>a.fdiv (2 ^ (min y.toNat k.bits))) else none
def jc (a b:ByteArray):Option ByteArray:=bif Nat.ble (a.size+b.size) 4611686018427387904 then some (a++b) else none
def jM (s:ByteArray):Int->Option Int
 | .ofNat j=>match s[j]? with|some c=>some (c.toNat:Int)|none=>none
 | .negSucc _=>none
def jD (n m:Int)(bytes:Nat):Option Nat:=bif decide (0<=n/\n<=m/\(bytes:Int)*m<=140737488355328/\m<=9223372036854775807) then some n.toNat else none
structure amC (n:Nat)(x:Nat×Nat):Prop where
 le:x.1<=x.2
 lt:x.2<=n
def jR (len:Nat)(a b:Int):Option (Nat×Nat):=bif decide (0<=a/\a<=b/\b<=(len:Int)) then some (a.toNat,b.toNat) else none
def kK (s:ByteArray)(a b:Int):Option ByteArray:=bif decide (0<=a/\a<=b/\b<=(s.size:Int)) then some (s.extract a.toNat b.toNat) else none
def bs (l:List UInt8):ByteArray:=⟨l.toArray⟩
def pI (i:Int)(n:Nat)(k:Nat->Option ρ):Option ρ:=match i with|.ofNat j=>(bif Nat.blt j n then k j else none)|.negSucc _=>none
def qx (a b:Option ρ):Option ρ:=match a with|_=>b
def Fh (b:ByteArray):List Int:=b.data.toList.map λc=>(c.toNat:Int)
def kE (l:List Int):Option ByteArray:=bif l.all (λn=>decide (0<=n/\n<256)) then some ⟨(l.map λn=>UInt8.ofNat n.toNat).toArray⟩ else none
end
structure Arr2 (α:Type) where
 a0:α
 a1:α
structure NW (α:Type) where
 a0:α
 a1:α
 a2:α
structure adw (α:Type) where
 a0:α
 a1:α
 a2:α
 a3:α
 a4:α
structure TZ (α:Type) where
 a0:α
 a1:α
 a2:α
 a3:α
 a4:α
 a5:α
def alm:Arr2 Int:=⟨0,0⟩
def NY:NW Int:=⟨0,0,0⟩
def adx:adw Int:=⟨0,0,0,0,0⟩
def aab:TZ Int:=⟨0,0,0,0,0,0⟩
structure gm where
 m:(α:Type)->(α->List PV)->List α->List (List PV)
 n:(α:Type)->List α->Nat
 h:(Nat->Hdr)->(α:Type)->(Hdr->α->List PV)->List α->List (List PV)
 up:(Nat->Hdr)->Nat->Hdr->Nat->Hdr
def JU {α:Type}(H:Nat->Hdr)(e:Hdr->α->List PV)(l:List α):List (List PV):=l.mapIdx λi x=>e (H i) x
def upH (H:Nat->Hdr)(j:Nat)(h:Hdr):Nat->Hdr:=λi=>bif Nat.beq i j then h else H i
def kJ:gm:=⟨λ_ e l=>l.map e,λ_ l=>l.length,λH _ e l=>JU H e l,upH⟩
def eI (k:IntKind)(x:Int):List PV:=[.si k x]
def eB (x:Bool):List PV:=[.sb x]
def eS (x:ByteArray):List PV:=[.str x]
def eL {α:Type}(M:gm)(sz:Nat)(e:α->List PV)(x:List α):List PV:=[.sl sz (M.m α e x) false]
def amD {α:Type}(e:α->List PV)(x:NW α):List PV:=e x.a0++(e x.a1++e x.a2)
def amE {α:Type}(e:α->List PV)(x:adw α):List PV:=e x.a0++(e x.a1++(e x.a2++(e x.a3++e x.a4)))
def amF {α:Type}(e:α->List PV)(x:TZ α):List PV:=e x.a0++(e x.a1++(e x.a2++(e x.a3++(e x.a4++e x.a5))))
def eKV {α:Type}(e:α->List PV)(x:Int×α):List PV:=.si .i64 x.1::e x.2
def AP {α:Type}:List (Int×α)->Int->Option α
 | [],_=>none
 | (k,v)::l,n=>if k=n then some v else AP l n
def RH {α:Type}:List (Int×α)->Int->α->List (Int×α)
 | [],n,v=>[(n,v)]
 | (k,w)::l,n,v=>if k=n then(n,v)::l else(k,w)::RH l n v
def sG {α ρ:Type}(l:List (Int×α))(n:Int)(z:α)(k:α->Bool->Option ρ):Option ρ:=match AP l n with|some v=>k v true|none=>k z false
theorem YQ {α:Type}(e:α->List PV)(n:Int):∀ l:List (Int×α),DI (l.map (eKV e)) n=(AP l n).map e
 | []=>rfl
 | (k,v)::l=>by
  by_cases h:k=n
  simp[eKV,DI,AP,h]
  simp[eKV,DI,AP,h,YQ e n l]
theorem ab3 {α:Type}(e:α->List PV)(n:Int)(x:α):∀ l:List (Int×α),TD (l.map (eKV e)) n (e x)=(RH l n x).map (eKV e)
 | []=>rfl
 | (k,v)::l=>by
  by_cases h:k=n
  simp[eKV,TD,RH,h]
  simp[eKV,TD,RH,h];exact ab3 e n x l
def eO {α:Type}(M:gm)(sz:Nat)(e:α->List PV)(h:Hdr)(x:List α):List PV:=[.ow h sz (M.m α e x)]
section
variable {P:Program}{T:Tab}{S:iq}{M:gm}(O:S=iq.jq P T)
abbrev SF (M:gm) (S:iq):Prop :=
  S.bin=iM/\S.cmp=AL/\(∀ k n,S.conv k n=k.wrap n)/\(∀ k n,S.neg k n=k.wrap (0-n))/\(∀ a b,S.beq a b=(a==b))/\(∀ a b,S.band a b=(a&&b))/\S.ajb=gp /\
  (∀ s,S.slen s=(s.size:Int))/\(∀ n:Nat,S.xQ n=(n:Int))/\(∀ a b:Nat,S.FY a b=a+b)/\(∀ a b:Nat,S.abq a b=a-b)/\(∀ n:Nat,0+n=n)/\(∀ a,S.app [] a=a) /\
  (∀ (α:Type) (e:α->List PV) (l:List α),S.len (M.m α e l)=eU l)/\(∀ (α:Type) (e:α->List PV) (l:List α),S.fE (M.m α e l)=l.length)/\(∀ (α:Type) (l:List α),M.n α l=l.length) /\
  (∀ rows n,S.fE rows=n->S.sub rows 0 n=rows)/\S.len []=0/\(∀ (α:Type) (l:List α),eU l=(l.length:Int)) /\
  S.akV=(λa b=>if b<a then b else a)/\S.akW=(λa b=>if a<b then b else a) /\
  (∀ a b,S.fE (S.app a b)=S.fE a+S.fE b)/\(∀ a j r,S.fE (S.Hg a j r)=S.fE a)/\(∀ n r,S.fE (S.rep n r)=n)/\S.fE []=0/\(∀ r rows,S.fE (r::rows)=S.fE rows+1) /\
  (∀ (α:Type) (e:α->List PV),M.m α e []=[])/\(∀ (α:Type) (e:α->List PV) (x:α) (l:List α),M.m α e (x::l)=e x::M.m α e l) /\
  (∀ (α:Type) (e:α->List PV) (a b:List α),M.m α e (a++b)=S.app (M.m α e a) (M.m α e b)) /\
  (∀ (α:Type) (e:α->List PV) (l:List α) (r n:Nat),M.m α e (Dw l r n)=S.sub (M.m α e l) r n) /\
  (∀ (α:Type) (e:α->List PV) (l:List α) (r:Nat) (new:List α),M.m α e (acT l r new)=S.spl (M.m α e l) r (M.m α e new)) /\
  (∀ (α:Type) (e:α->List PV) (l:List α) (j:Nat) (x:α),M.m α e (l.set j x)=S.Hg (M.m α e l) j (e x)) /\
  (∀ (α:Type) (e:α->List PV) (n:Nat) (x:α),M.m α e (List.replicate n x)=S.rep n (e x)) /\
  (∀ (α:Type) (a b:List α),(a++b).length=a.length+b.length)/\(∀ (α:Type) (l:List α) (j:Nat) (x:α),(l.set j x).length=l.length) /\
  (∀ (α:Type) (n:Nat) (x:α),(List.replicate n x).length=n)/\(∀ (α:Type) (x:α) (l:List α),(x::l).length=l.length+1)/\(∀ (α:Type),([]:List α).length=0) /\
  (∀ (α:Type) (e:α->List PV) (l:List α) (r n:Nat),S.len (S.sub (M.m α e l) r n)=((Dw l r n).length:Int))/\(∀ (α:Type) (e:α->List PV) (l:List α) (r n:Nat),S.fE (S.sub (M.m α e l) r n)=(Dw l r n).length) /\
  (∀ (α:Type) (e:α->List PV) (l:List (Int×α)) (n:Int) (x:α),M.m (Int×α) (eKV e) (RH l n x)=S.ajc (M.m (Int×α) (eKV e) l) n (e x))
theorem sf (hM:M=kJ)(O:S=iq.jq P T):SF M S:=by
 subst O hM;refine⟨rfl,rfl,?_⟩
 have h:∀ (α:Type) (e:α->List PV) (l:List α),List.take l.length (List.map e l)=List.map e l:=by
  grind[List.take_of_length_le]
 have h2:∀ (rows:List (List PV)) (n:Nat),rows.length=n->(rows.drop 0).take n=rows:=by
  grind
 refine⟨λ_ _=>rfl,λ_ _=>rfl,λ_ _=>rfl,λ_ _=>rfl,rfl,λ_=>rfl,λ_=>rfl,λ_ _=>rfl,λ_ _=>rfl,λn=>Nat.zero_add n,λ_=>rfl,?_,?_,?_,h2,rfl,λ_ _=>rfl,rfl,?_,?_⟩
 simp[iq.jq,kJ,eU]
 simp[iq.jq,kJ]
 simp[kJ]
 rfl
 simp[ab3,iq.jq,kJ,Dw,acT]
theorem aln (hM:M=kJ)(O:S=iq.jq P T) :
  (∀ (H:Nat->Hdr) (α:Type) (e:Hdr->α->List PV) (l:List α) (j:Nat) (h:Hdr) (x:α),M.h (M.up H j h) α e (l.set j x)=S.Hg (M.h H α e l) j (e h x)) /\
  (∀ (α:Type) (e:Hdr->α->List PV) (h:Hdr) (n:Nat) (x:α),M.h (λ_=>h) α e (List.replicate n x)=S.rep n (e h x)) /\
  (∀ (H:Nat->Hdr) (α:Type) (e:Hdr->α->List PV) (l:List α) (h:Hdr) (x:α),M.h (M.up H l.length h) α e (l++[x])=S.app (M.h H α e l) [e h x]):=by
 subst O hM;refine⟨λH α e l j h x=>?_,λα e h n x=>?_,λH α e l h x=>?_⟩
 show JU (upH H j h) e _=(JU H e l).set j _;unfold JU;apply List.ext_getElem?;intro i;simp only[List.getElem?_mapIdx,List.getElem?_set,List.length_mapIdx]
 by_cases J:j=i
 simp_all[upH]
 grind[Nat.eq_of_beq_eq_true,upH]
 show JU _ e _=List.replicate n _;unfold JU;apply List.ext_getElem?
 grind
 show JU (upH H l.length h) e (l++[x])=JU H e l++[e h x];unfold JU;rw[List.mapIdx_append]
 congr 1
 apply List.ext_getElem?
 grind[Nat.eq_of_beq_eq_true,upH]
 simp[upH]
theorem alo (hM:M=kJ)(O:S=iq.jq P T) :
  (∀ (H:Nat->Hdr) (α:Type) (e:Hdr->α->List PV) (l:List α) (j:Nat) (x:α),M.h H α e (l.set j x)=S.Hg (M.h H α e l) j (e (H j) x)) /\
  (∀ (H:Nat->Hdr) (α:Type) (e:Hdr->α->List PV) (l:List α),S.fE (M.h H α e l)=l.length) /\
  (∀ (H:Nat->Hdr) (α:Type) (e:Hdr->α->List PV) (l:List α),S.sub (M.h H α e l) 0 l.length=M.h H α e l) /\
  (∀ (H:Nat->Hdr) (α:Type) (e:α->List PV) (sz:Nat) (l:List (List α)),S.fz (M.h H (List α) (eO M sz e) l)=M.m (List α) (eL M sz e) l) /\
  (∀ (H:Nat->Hdr) (α:Type) (e:Hdr->α->List PV),M.h H α e []=[]):=by
 subst O hM;refine⟨λH α e l j x=>?_,λH α e l=>?_,λH α e l=>?_,λH α e sz l=>?_,λ_ _ _=>rfl⟩
 show JU _ e _=(JU H e l).set j _
 simp_all[JU]
 show(JU H e l).length=_;simp[JU]
 show((JU H e l).drop 0).take l.length=JU H e l
 grind[List.take_of_length_le,JU]
 show(JU H _ l).map _=l.map _;unfold JU;apply List.ext_getElem?;intro i;simp only[List.getElem?_mapIdx,List.getElem?_map];cases l[i]?<;>rfl
mutual
inductive LeP:PV->PV->Prop
 | nil (z0:Nat) (f:Bool) (z:Nat):LeP (.sl z0 [] f) (.sl z [] false)
 | int (k:IntKind) (n:Int):LeP (.int k n) (.si k n)
 | bool (b:Bool):LeP (.bool b) (.sb b)
 | agg (ps qs:List PV):I5 ps qs->LeP (.agg ps) (.agg qs)
 | Ed (ps qs:List PV):I5 ps qs->LeP (.Ed ps) (.Ed qs)
 | rows (z:Nat) (f:Bool) (es es' : List (List PV)):LeR es es'->LeP (.sl z es f) (.sl z es' false)
 | refl (p:PV):LeP p p
inductive I5:List PV->List PV->Prop
 | nil:I5 [] []
 | cons (p q:PV) (ps qs:List PV):LeP p q->I5 ps qs->I5 (p::ps) (q::qs)
inductive LeR:List (List PV)->List (List PV)->Prop
 | same (es:List (List PV)):LeR es es
 | cons (r q:List PV) (rs qs:List (List PV)):I5 r q->LeR rs qs->LeR (r::rs) (q::qs)
end
theorem I5.len:∀ {ps qs:List PV},I5 ps qs->qs.length=ps.length
 | _,_,.nil=>rfl
 | _,_,.cons p q ps qs _ h=>by simp[h.len]
theorem LeR.len:∀ {ps qs:List (List PV)},LeR ps qs->qs.length=ps.length
 | _,_,.same _=>rfl
 | _,_,.cons p q ps qs _ h=>by simp[h.len]
theorem LeP.xR {p q:PV}(h:LeP p q):Pv.xR p=true->Pv.xR q=true:=by
 cases h<;>intro h<;>first|rfl|exact h|cases h
theorem I5.iw:∀ {ps qs:List PV},I5 ps qs->Pv.iw ps=true->Pv.iw qs=true
 | _,_,.nil,h=>h
 | _,_,.cons p q ps qs h1 h2,h=>by
  simp only[Pv.iw,Bool.and_eq_true] at h |-;exact⟨h1.xR h.1,h2.iw h.2⟩
mutual
theorem LeP.rep {w:World}{Y:Nat->Prop}{σ:Sg}:∀ {p q:PV} (_:LeP p q) (v:Value),Rep w Y σ p v->Rep w Y σ q v
 | _,_,.nil z0 f z,v,h=>by
  unfold Rep at h |-;obtain⟨a,len,cap,e,T,hc,_,_⟩:=h;exact⟨a,len,cap,e,T,hc,(λh=>by cases h),.inl rfl⟩
 | _,_,.int k n,v,h=>by unfold Rep at h |-;exact h
 | _,_,.bool b,v,h=>by unfold Rep at h |-;exact h
 | _,_,.agg ps qs T,v,h=>by
  unfold Rep at h |-;obtain⟨vs,e,h⟩:=h;exact⟨vs,e,T.rep vs h⟩
 | _,_,.Ed ps qs T,v,h=>by
  unfold Rep at h |-;obtain⟨vs,e,h⟩:=h;exact⟨vs,e,T.rep vs h⟩
 | _,_,.rows z f es es' hr,v,h=>by
  unfold Rep at h |-;obtain⟨a,len,cap,e,T,hc,_,h⟩:=h;refine⟨a,len,cap,e,by rw[T,hr.len],hc,(λh=>by cases h),?_⟩;rcases h with h|⟨b,o,h1,h2,h3⟩
  refine .inl (List.length_eq_zero_iff.1 ?_);rw[hr.len,h];rfl
  exact .inr ⟨b,o,h1,h2,hr.ak4 o h3⟩
 | _,_,.refl p,v,h=>h
theorem I5.rep {w:World}{Y:Nat->Prop}{σ:Sg}:∀ {ps qs:List PV} (_:I5 ps qs) (vs:List Value),eQ w Y σ ps vs->eQ w Y σ qs vs
 | _,_,.nil,vs,h=>h
 | _,_,.cons p q ps qs h1 h2,vs,h=>by
  unfold eQ at h |-;obtain⟨v,T,e,J,I⟩:=h;exact⟨v,T,e,h1.rep v J,h2.rep T I⟩
theorem I5.alp {w:World}{Y:Nat->Prop}{σ:Sg}{cb:Nat}:∀ {ps qs:List PV} (_:I5 ps qs) (o:Nat),iW w Y σ cb ps o->iW w Y σ cb qs o
 | _,_,.nil,o,h=>h
 | _,_,.cons p q ps qs h1 h2,o,h=>by
  unfold iW at h |-;obtain⟨⟨v,J,I⟩,T⟩:=h;exact⟨⟨v,J,h1.rep v I⟩,h2.alp (o+1) T⟩
theorem LeR.ak4 {w:World}{Y:Nat->Prop}{σ:Sg}{b sz:Nat}:∀ {ps qs:List (List PV)} (_:LeR ps qs) (o:Nat),je w Y σ b sz ps o->je w Y σ b sz qs o
 | _,_,.same _,o,h=>h
 | _,_,.cons p q ps qs h1 h2,o,h=>by
  unfold je at h |-;obtain⟨⟨I,C⟩,J,T⟩:=h;exact⟨⟨by rw[h1.len,I],h1.iw C⟩,h1.alp o J,h2.ak4 (o+sz) T⟩
end
theorem Fn.le {G:Nat->Option (List PV)}{k:Nat}{args T:List PV}{R:PV->Prop}(h:Fn P G k T R)(C:I5 args T):Fn P G k args R :=
 λw Y vs I J hr=>h w Y vs I J (C.rep _ hr)
theorem amm {i J r T a b:Nat}(h1:i=J)(h2:r=T)(h:a=b):LeP (.os i r a) (.os J T b):=by subst h1 h2 h;exact .refl _
theorem Xf {p q:PV}(h:p=q):LeP p q:=h ▸ .refl p
theorem ahv {P:Program}{T:Tab}(hT:iZ P T)(hp:T.qc=0)(hW:DR P){k:Nat}{fn:Func}{c:Code}(U:P.funcs[k]?=some fn)(hb:fn.body=some c)
  (J:∀ args w,(callFunc k args).run P w=.ok (.enter k args) w) {args:List PV} {v:PV} {m:Nat} (C:fn.ntmps-args.length=m)
  (h:∀ S R,S=iq.jq P T->(∀ u,LeP u v->R u)->Kw T S c (ajf T S fn.results.toList R) ⟨vY args (sO m),[],0⟩) (hyl:T.yl=none:=by rfl):Fn P T.gl k args (λu=>u=v):=by
 have H:=adt hT hp hW U hb J C (hyl:=hyl) (R:=λu=>LeP u v) λS O=>h S _ O λ_ h=>h;intro w Y I g hY hr;obtain⟨h1,h2⟩:=H w Y I g hY hr;refine⟨h1,Calls.mono h2 λe w' hh=>?_⟩;obtain⟨cv,u,t,hu,hv,hc⟩:=hh;exact⟨cv,v,t,rfl,hu.rep _ hv,hc⟩
theorem I5.refl:∀ ps:List PV,I5 ps ps
 | []=>.nil
 | p::ps=>.cons _ _ _ _ (.refl p) (I5.refl ps)
inductive LeB:Option lW->Option lW->Prop
 | var (ro:Bool) (row row' : List PV):I5 row row'->LeB (some (.var ro row)) (some (.var ro row'))
 | refl (x:Option lW):LeB x x
inductive LeS:St->St->Prop
 | nil:LeS [] []
 | cons (b:Nat) (x y:Option lW) (s t:St):LeB x y->LeS s t->LeS ((b,x)::s) ((b,y)::t)
theorem LeS.refl:∀ s:St,LeS s s
 | []=>.nil
 | (b,x)::s=>.cons b x x s s (.refl x) (LeS.refl s)
theorem LeS.look:∀ {s t:St} (_:LeS s t) (b:Nat),iV t b=iV s b\/∃ ro row T,iV s b=some (.var ro row)/\iV t b=some (.var ro T)/\I5 row T
 | _,_,.nil,b=>.inl rfl
 | _,_,.cons c x y s t h1 h2,b=>by
  simp only[iV]
  cases Nat.beq c b with
  | true=>
   cases h1<;>grind
  | false=>exact h2.look b
theorem LeS.RD {s t:St}(h:LeS s t)(w:World)(Y:Nat->Prop)(σ:Sg)(b:Nat):iV t b=iV s b\/∃ ro row T,iV s b=some (.var ro row)/\iV t b=some (.var ro T)/\T.length=row.length/\∀ cb o,iW w Y σ cb row o->iW w Y σ cb T o:=by
 rcases h.look b with e|⟨ro,row,T,e1,e2,e3⟩
 exact .inl e
 exact .inr ⟨ro,row,T,e1,e2,e3.len,λcb o=>e3.alp o⟩
theorem LeS.rep {w:World}{Y:Nat->Prop}{σ:Sg}{s t:St}(h:LeS s t)(H:FW w Y σ s):FW w Y σ t:=by
 have T : ∀ b x,iV t b=some x->∃ y,iV s b=some y:=by
  intro b x J;rcases h.look b with e|⟨ro,row,row',e1,e2,_⟩<;>grind
 refine⟨λb x J=>?_,λb b' x x' l l' J I hl C e=>?_⟩
 rcases h.RD w Y σ b with e|⟨ro,row,row',e1,e2,e3,e4⟩
 exact H.blk b x ai
 rw[e2] at J;cases J;rcases H.blk b _ e1 with ⟨l,hl,hB⟩|⟨_,J⟩
 grind[fF]
 cases J
 obtain⟨y,hy⟩:=T b x J;obtain⟨y',g⟩:=T b' x' I;exact H.inj b b' y y' l l' hy g hl C e
theorem LeS.alq {σ:Sg}{s t:St}(h:LeS s t):Ff σ t=Ff σ s:=by
 funext k
 refine propext ⟨?_,?_⟩
 rintro⟨b,x,l,h1,h2⟩
 rcases h.look b with e|⟨ro,row,row',e1,e2,_⟩
 exact⟨b,x,l,by grind,h2⟩
 exact⟨b,_,l,e1,h2⟩
 rintro⟨b,x,l,h1,h2⟩
 rcases h.look b with e|⟨ro,row,row',e1,e2,_⟩
 exact⟨b,x,l,by rw[e];exact h1,h2⟩
 exact⟨b,_,l,e2,h2⟩
theorem LeS.lF:∀ {s t:St} (_:LeS s t),Pv.lF s=true->Pv.lF t=true
 | _,_,.nil,h=>h
 | _,_,.cons b x y s t h1 h2,h=>by
  cases h1 with
  | var ro row T J=>simp only[Pv.lF] at h |-;exact h2.lF h
  | refl x=>
   cases x with
   | none=>simp only[Pv.lF] at h |-;exact h2.lF h
   | some x=>cases x<;>simp only[Pv.lF] at h |-<;>first|exact h2.lF h|exact h
theorem FnS.le {G:Nat->Option (List PV)}{k:Nat}{args T:List PV}{st J:St}{n:Nat}{R:PV->St->Nat->Prop}(h:FnS P G k T J n R)(g:I5 args T)(hs:LeS st J):FnS P G k args st n R:=by
 intro w Y σ vs hG t hn hr C I;obtain⟨h1,h2⟩:=h w Y σ vs hG t hn (g.rep _ hr) (hs.rep C) (hs.lF I);refine⟨h1,Calls.mono h2 λe w' hh=>?_⟩;obtain⟨cv,v,st',n',Y',σ',he,hR,H⟩:=hh;refine⟨cv,v,st',n',Y',σ',he,hR,?_⟩
 have e:yS ⟨λ_=>.bad,G,n,[],0,[],[],none,λ_=>[]⟩ w Y σ J=yS ⟨λ_=>.bad,G,n,[],0,[],[],none,λ_=>[]⟩ w Y σ st:=by
  unfold yS;rw[hs.alq]
 grind
theorem FnS.cv {P:Program}{T:Tab}{G:Nat->Option (List PV)}(cvs:List Cv){k:Nat}{args:List PV}{st:St}{n:Nat}{v g : PV}{st1 J : St}{n1 I : Nat}(h:FnS P G k args st n (λu s m=>u=v/\s=st1/\m=n1))(e:IZ n [0] (Lp (iq.jq P T) cvs ⟨[v],st1,n1⟩)=⟨[g],J,I⟩):FnS P G k args st n (λu s m=>u=g/\s=J/\m=I):=by
 intro w Y σ vs hG hY hn hr C t;obtain⟨h1,h2⟩:=h w Y σ vs hG hY hn hr C t;refine⟨h1,Calls.mono h2 λen w' hh=>?_⟩;obtain⟨cv,u,s,m,Y',σ',he,⟨rfl,rfl,rfl⟩,H⟩:=hh;obtain⟨Y1,σ1,H1,_⟩:=adv (P:=P) (T':=T) cvs ⟨[u],s,m⟩ H;have H2:=H1.rH (KF _ [0] 0 _ H1.vals);obtain⟨g1,g2,g3⟩:=NM n (Lp (iq.jq P T) cvs ⟨[u],s,m⟩).st (PY [0] 0 (Lp (iq.jq P T) cvs ⟨[u],s,m⟩).tmps);obtain⟨σ2,H3,_⟩:=H2.abu g1 g2 g3;have H4:SW (yS ⟨λ_=>.bad,G,n,[],0,[],[],none,λ_=>[]⟩ w Y σ st) w' Y1 σ2 (IZ n [0] (Lp (iq.jq P T) cvs ⟨[u],s,m⟩)).tmps [cv] (IZ n [0] (Lp (iq.jq P T) cvs ⟨[u],s,m⟩)).st (IZ n [0] (Lp (iq.jq P T) cvs ⟨[u],s,m⟩)).next:=H3
 grind
theorem Ad {P:Program}{T:Tab}(hT:iZ P T)(hW:DR P){k:Nat}{fn:Func}{c:Code}(U:P.funcs[k]?=some fn)(hb:fn.body=some c)
  (J:∀ args w,(callFunc k args).run P w=.ok (.enter k args) w) {args:List PV} {st:St} {v:PV} {st1:St} {n1:Nat} {m:Nat} (hm:fn.ntmps-args.length=m)
  (h:∀ S R,S=iq.jq P T->(∀ u s n,LeP u v->LeS s st1->n=n1->R u s n)->Kw T S c (agN T S fn.results.toList R) ⟨vY args (sO m),st,T.qc⟩) (hyl:T.yl=none:=by rfl):FnS P T.gl k args st T.qc (λu s n=>u=v/\s=st1/\n=n1):=by
 have H:=abX hT hW U hb J hm (hyl:=hyl) (st:=st) (R:=λu s n=>LeP u v/\LeS s st1/\n=n1) λS O=>h S _ O λ_ _ _ h1 h2 t=>⟨h1,h2,t⟩
 intro w Y σ I hG hY hn hr C g;obtain⟨h1,h2⟩:=H w Y σ I hG hY hn hr C g;refine⟨h1,Calls.mono h2 λe w' hh=>?_⟩;obtain⟨cv,u,s,n,Y',σ',he,⟨t,h4,h5⟩,H⟩:=hh;refine⟨cv,v,st1,n,Y',σ',he,⟨rfl,rfl,h5⟩,?_⟩
 have hv:eQ w' Y' σ' [v] [cv]:=by
  have:=H.vals;unfold eQ at this |-;obtain⟨c,cs,e,h6,h7⟩:=this;cases e;exact⟨_,_,rfl,t.rep _ h6,by grind⟩
 exact(H.rH hv).RD (h4.RD w' Y' σ')
theorem le_eq {ps qs:List PV}(h:ps=qs):I5 ps qs:=h ▸ I5.refl ps
variable {α β σ ρ:Type}{r:ρ}
theorem xM {o:Option α}{k:α->Option ρ}(h:bnd o k=some r):∃ x,o=some x/\k x=some r:=by
 cases o with
 | none=>cases h
 | some x=>exact⟨x,rfl,h⟩
theorem afR {x:α}{k:α->Option ρ}(h:lt x k=some r):k x=some r:=h
theorem lt2 {j:Nat}(h:j<2):j=0\/j=1:=by omega
theorem lt3 {j:Nat}(h:j<3):j=0\/j=1\/j=2:=by omega
theorem lt5 {j:Nat}(h:j<5):j=0\/j=1\/j=2\/j=3\/j=4:=by omega
theorem lt6 {j:Nat}(h:j<6):j=0\/j=1\/j=2\/j=3\/j=4\/j=5:=by omega
theorem lt11 {j:Nat}(h:j<11):j=0\/j=1\/j=2\/j=3\/j=4\/j=5\/j=6\/j=7\/j=8\/j=9\/j=10:=by omega
theorem aac {i:Int}{n:Nat}{k:Nat->Option ρ}(U:pI i n k=some r):∃ j:Nat,j<n/\i=(j:Int)/\k j=some r:=by
 unfold pI at U
 cases i with
 | ofNat j=>
  simp only at U
  cases T:Nat.blt j n with
  | false=>grind
  | true=>rw[T] at U;exact⟨j,(Nat.blt_eq).mp T,rfl,U⟩
 | negSucc j=>cases U
include O
theorem LV {cs:List PV}{e:α->List PV}{v:α}{K:List PV->Prop}{k:α->Option ρ}(U:lt v k=some r)(T:I5 cs (e v))(h:∀ x,k x=some r->K (e x)):S.wk cs K:=by
 subst O;exact⟨e v,T.len,T.iw,λ_ _ _ _ hr=>T.rep _ hr,h v U⟩
theorem alr (hM:M=kJ){rows:List (List PV)}{l:List (Int×α)}{e:α->List PV}{n J : Int}{z:List PV}{T:α}{K:List PV->Bool->Prop}{k:α->Bool->Option ρ}(U:sG l J T k=some r)(C:rows=M.m (Int×α) (eKV e) l)(I:n=J)(t:I5 z (e T))(h:∀ x b,k x b=some r->K (e x) b):S.akY rows n z K:=by
 subst O hM C I;have g:DI (l.map (eKV e)) n=(AP l n).map e:=YQ e n l;refine⟨λcs hc=>?_,λhc=>⟨e T,λ_ _ _ _ hr=>t.rep _ hr,?_⟩⟩
 have hc:DI (l.map (eKV e)) n=some cs:=hc
 grind[sG]
 have hc:DI (l.map (eKV e)) n=none:=hc
 grind[sG]
theorem akB {cs:List PV}(c:List PV){K:List PV->Prop}(T:I5 cs c)(h:K c):S.wk cs K:=by
 subst O;exact⟨c,T.len,T.iw,λ_ _ _ _ hr=>T.rep _ hr,h⟩
theorem PT {c T : Bool}{J I:Option ρ}{A B:Unit->Prop}(U:br T J I=some r)(e:c=T)(t:J=some r->A ())(C:I=some r->B ()):S.br c A B:=by
 subst e
 cases c with
 | true=>exact amx O rfl (t U)
 | false=>exact amy O rfl (C U)
theorem ahw (hM:M=kJ){T:List (List PV)}{l:List α}{e:α->List PV}{i J : Int}{k:α->Option ρ}{K:List PV->Prop}(U:bnd (gW l J) k=some r)(C:T=M.m α e l)(hi:i=J)(h:∀ x,k x=some r->K (e x)):S.idx T i K:=by
 subst hM C hi;obtain⟨x,I,hk⟩:=xM U;clear U
 cases i with
 | ofNat j=>exact amz O (j:=j) rfl (by grind[gW,kJ]) (h x hk)
 | negSucc j=>simp[gW] at I
theorem lh {n I : Nat}{i C : Int}{k:Nat->Option ρ}{K:Nat->Prop}(U:bnd (kD I C) k=some r)(t:n=I)(hi:i=C)(h:∀ j,j<n->k j=some r->K j):S.ix n i K:=by
 subst t hi;obtain⟨x,J,hk⟩:=xM U;clear U
 cases i with
 | ofNat j' =>
  simp only[kD] at J
  cases T:Nat.blt j' n with
  | false=>grind
  | true=>
   rw[T] at J;simp only[cond_true,Option.some.injEq] at J;subst J;have T:=(Nat.blt_eq).mp T;exact amA O rfl T (h _ T hk)
 | negSucc j=>simp[kD] at J
theorem ahx {n:Nat}{i T : Int}{K:Nat->Prop}(hi:i=T)(h:∃ j:Nat,j<n/\T=(j:Int)/\K j):S.ix n i K:=by
 grind[amA]
theorem jv (hM:M=kJ){J:List (List PV)}{l:List α}{e:α->List PV}{j T : Nat}{k:α->Option ρ}{K:List PV->Prop}(U:bnd (l[T]?) k=some r)(C:J=M.m α e l)(hj:j=T)(h:∀ x,k x=some r->K (e x)):S.row J j K:=by
 subst hM C hj;obtain⟨x,I,hk⟩:=xM U;clear U;exact akA O (by simp[kJ,I]) (h x hk)
theorem BM (hM:M=kJ){J:List (List PV)}{H:Nat->Hdr}{l:List α}{e:Hdr->α->List PV}{j T : Nat}{k:α->Option ρ}{K:List PV->Prop}(U:bnd (l[T]?) k=some r)(C:J=M.h H α e l)(hj:j=T)(h:∀ x,k x=some r->K (e (H T) x)):S.row J j K:=by
 subst hM C hj;obtain⟨x,I,hk⟩:=xM U;clear U;refine akA O ?_ (h x hk);show(JU H e l)[j]?=_;simp[JU,I]
theorem QA {k:Nat}{args:List PV}{J:List PV}{K:PV->Prop}{g:Option α}{v:α->PV}{I:α->Option ρ}(U:bnd g I=some r)(hF:∀ y,g=some y->Fn P T.gl k J (λu=>u=v y))(C:I5 args J)(h:∀ y,I y=some r->K (v y)):S.V6 k args K:=by
 obtain⟨x,t,hk⟩:=xM U;clear U;exact ajF O ((hF x t).le C) (h x hk)
theorem aeQ {k:Nat}{args as bs:List PV}{J:List PV}{E:Env}{K:PV->Env->Prop}{g:Option α}{v:α->PV}{I:α->Option ρ}(U:bnd g I=some r)(hF:∀ y,g=some y->Fn P T.gl k J (λu=>u=v y))(t:I5 as J)(h:∀ y,I y=some r->K (v y) E):S.UM k args as bs E K:=by
 obtain⟨x,C,hk⟩:=xM U;clear U;subst O;exact .inl ⟨_,(hF x C).le t,h x hk⟩
theorem jC {k:Nat}{args as bs:List PV}{J:List PV}{E:Env}{K:PV->Env->Prop}{g:Option α}{v:α->PV}{st1:α->St}{n1:Nat}{I:α->Option ρ}(U:bnd g I=some r)(hF:∀ y,g=some y->FnS P T.gl k J [] 0 (λu st n=>u=v y/\st=st1 y/\n=n1))(t:I5 bs J)(h:∀ y,I y=some r->K (wz (Dx [] E.next) 8 (v y)) (F5 [] E (st1 y) n1)):S.UM k args as bs E K:=by
 obtain⟨x,C,hk⟩:=xM U;clear U;subst O;exact .inr (.inl ⟨_,_,_,(hF x C).le t .nil,h x hk⟩)
theorem KJ (hT:iZ P T)(hW:DR P)(n:Nat){b:Code}{Q:Post}{E:Env}(h:∀ R:Nat->Env->Prop,(∀ k E,Kw T S b (JM (R k) Q) E->R (k+1) E)->R n E):S.loop b Q E:=by
 refine ahu hT hW O n (h (λn E=>ahr T S b Q n E) λk E hk=>?_);unfold ahr;exact hk
theorem aad {ci:Nat}{J:Env}{A:Post->Prop}{B:Env->Prop}{Q:Post}(cvs:List Cv)(h:A (JM (λE=>B (Lp S cvs E)) Q)):S.seq ci J A B Q:=by
 subst O;refine⟨_,h,λn E h=>?_⟩
 cases n with
 | zero=>exact⟨Lp (iq.jq P T) cvs E,BL (P:=P) (T':=T) cvs E,h⟩
 | succ n=>exact⟨E,Ent.refl E,h⟩
theorem aeR {k:Nat}{args:List PV}{J:List PV}{K:PV->lW->Prop}{g:Option α}{v C : α->PV}{st1:α->St}{n1:Nat}{x:α->lW}{I:α->Option ρ}(cvs:List Cv)(U:bnd g I=some r)(hF:∀ y,g=some y->FnS P T.gl k J [] 0 (λu st n=>u=v y/\st=st1 y/\n=n1))(ha:I5 args J)(t:∀ y,IZ 0 [0] (Lp S cvs ⟨[v y],st1 y,n1⟩)=⟨[C y],[(0,some (x y))],1⟩)(h:∀ y,I y=some r->K (C y) (x y)):S.agx k args K:=by
 obtain⟨y,hy,hk⟩:=xM U;clear U;subst O;exact⟨_,_,FnS.cv cvs ((hF y hy).le ha .nil) (t y),h y hk⟩
theorem ab4 {k:Nat}{args J:List PV}{C : List Nat}{st0 I:St}{m:Nat}{K:PV->St->Nat->Prop}{g:Option α}{v:α->PV}{st1:α->St}{n1:Nat}{t:α->Option ρ}(U:bnd g t=some r)(hF:∀ y,g=some y->FnS P T.gl k J I m (λu st n=>u=v y/\st=st1 y/\n=n1))(ha:I5 args J)(hs:LeS st0 I)(hm:m=lH C)(h0:lF st0=true)
  (h:∀ y,g=some y->t y=some r->K (v y) (st1 y) n1):S.Yp k args st0 C K:=by
 obtain⟨y,hy,hk⟩:=xM U;clear U;subst O;subst hm;exact⟨_,_,_,h0,(hF y hy).le ha hs,h y hy hk⟩
theorem VP {k:Nat}{args J:List PV}{C : List Nat}{st0 I:St}{m:Nat}{K:PV->St->Nat->Prop}{g:Option α}{v:α->PV}{st1:α->St}{n1:Nat}{t:α->Option ρ}(U:bnd g t=some r)(hF:∀ y,g=some y->FnS P T.gl k J I m (λu st n=>u=v y/\st=st1 y/\n=n1))(ha:I5 args J)(hs:LeS st0 I)(hm:m=lH C)(h0:lF st0=true)
  (h:∀ y,t y=some r->K (v y) (st1 y) n1):S.Yp k args st0 C K:=ab4 O U hF ha hs hm h0 λy _ hk=>h y hk
theorem jE {k:Nat}{args as J:List PV}{E:Env}{t free:Option (List PV)}{I : List Nat}{st0 C:St}{m:Nat}{K:PV->Env->Prop}{g:Option α}{v:α->PV}{st1:α->St}{n1:Nat}{kk:α->Option ρ}(U:bnd g kk=some r)(hF:∀ y,g=some y->FnS P T.gl k J C m (λu st n=>u=v y/\st=st1 y/\n=n1))(ha:I5 as J)(hs:LeS st0 C)(hm:m=lH I)(h1:NG I=true)(h2:ltN E.next I=true)(h0:lF st0=true)
  (h:∀ y,kk y=some r->K (wz (Dx I E.next) 8 (v y)) (F5 I E (st1 y) n1)):S.call k args E t free I as st0 K:=by
 obtain⟨x,hx,hk⟩:=xM U;clear U;exact aeH O ((hF x hx).le ha hs) hm h1 h2 h0 (h x hk)
theorem YR {k:Nat}{args:List PV}{E:Env}{K:PV->Env->Prop}(zs:List (Nat×Bool)){c:List PV×St×Nat}(e:Ee S zs args E.st E.next=c)(h:We S k c.1 ⟨E.tmps,c.2.1,c.2.2⟩ K):UY P T k args E K:=by
 subst O;subst e;have hc:=NP h;intro C Y σ w vs J H hr;obtain⟨Y',σ',H',I,_⟩:=JS (P:=P) (T':=T) zs args H hr;exact hc C Y' σ' w vs J H' I
theorem akC {k:Nat}{args as:List PV}{E:Env}{T free:Option (List PV)}{J : List Nat}{st0:St}{K:PV->Env->Prop}(zs:List (Nat×Bool)){c:List PV×St×Nat}(e:Ee S zs args E.st E.next=c)(h:We S k c.1 ⟨E.tmps,c.2.1,c.2.2⟩ K):S.call k args E T free J as st0 K:=by
 have:=YR O zs e h;subst O;exact .inr (.inr (.inr this))
theorem aeS {k:Nat}{args as:List PV}{E:Env}{J free:Option (List PV)}{I : List Nat}{st0:St}{K:PV->Env->Prop}{s:St}(e:roS E.st I=s)(h:We S k args ⟨E.tmps,s,E.next⟩ K):S.call k args E J free I as st0 K:=by
 subst O;subst e;have hc:=NP h;refine .inr (.inr (.inr ?_));intro C Y σ w vs T H hr;obtain⟨Y',H',t⟩:=SW.roS I H;exact hc C Y' σ w vs T H' (eQ.keep _ ⟨λ_ _ _=>rfl,λk _=>t k,Nat.le_refl _,nK.refl _⟩ _ hr)
theorem als {k:Nat}{args as bs:List PV}{E:Env}{K:PV->Env->Prop}(zs:List (Nat×Bool)){c:List PV×St×Nat}(e:Ee S zs args E.st E.next=c)(h:We S k c.1 ⟨E.tmps,c.2.1,c.2.2⟩ K):S.UM k args as bs E K:=by
 have:=YR O zs e h;subst O;exact .inr (.inr this)
theorem Em {k:Nat}{args bs J as:List PV}{E:Env}{free:Option (List PV)}{t : List Nat}{st0:St}{K:PV->Env->Prop}{g:Option α}{v:α->PV}{C:α->Option ρ}(U:bnd g C=some r)(hF:∀ y,g=some y->Fn P T.gl k J (λu=>u=v y))(ha:I5 bs J)(I:∀ y,Kv 6 (v y)=true)(h:∀ y,C y=some r->K (v y) E):S.call k args E (some bs) free t as st0 K:=by
 obtain⟨x,hx,hk⟩:=xM U;clear U;exact ajH O ((hF x hx).le ha) (I x) (h x hk)
theorem ajM {k:Nat}{args bs J as:List PV}{E:Env}{I:Option (List PV)}{C : List Nat}{st0:St}{K:PV->Env->Prop}{g:Option α}{v:α->PV}{t:α->Option ρ}(U:bnd g t=some r)(hF:∀ y,g=some y->Fn P T.gl k J (λu=>u=v y))(ha:I5 bs J)(h:∀ y,t y=some r->K (v y) ⟨E.tmps,roS E.st C,E.next⟩):S.call k args E I (some bs) C as st0 K:=by
 obtain⟨x,hx,hk⟩:=xM U;clear U;exact ajI O ((hF x hx).le ha) (h x hk)
theorem aeT {k:Nat}{args:List PV}{J:List PV}{K:PV->Prop}{g:Option α}{v:α->PV}{C:α->Option ρ}(U:bnd g C=some r)(hF:∀ y,g=some y->Fn P T.gl k J (λu=>u=v y))(t:I5 args J)(I:∀ y,Kv 6 (v y)=true)(h:∀ y,C y=some r->K (v y)):S.Yo k args K:=by
 obtain⟨x,hx,hk⟩:=xM U;clear U;exact ajG O ((hF x hx).le t) (I x) (h x hk)
theorem Xg {op:BinOp}{kd:IntKind}{a b I J : Int}{K:Int->Prop}{k:Int->Option ρ}(U:bnd (divO op kd I J) k=some r)(t:a=I)(C:b=J)(h:∀ x,k x=some r->K x):S.div op kd a b K:=by
 subst O t C;obtain⟨x,T,hk⟩:=xM U;clear U;unfold divO at T
 by_cases h0:b=0
 grind
 simp only[h0,decide_false,cond_false,Option.some.injEq] at T;subst T;exact⟨h0,h _ hk⟩
theorem YT {op:BinOp}{kd:IntKind}{a b I J : Int}{K:Int->Prop}{k:Int->Option ρ}(U:bnd (jU op kd I J) k=some r)(t:a=I)(C:b=J)(h:∀ x,k x=some r->K x):S.shf op kd a b K:=by
 subst O t C;obtain⟨x,T,hk⟩:=xM U;clear U;unfold jU at T
 by_cases h0:0<=b
 simp only[h0,decide_true,cond_true,Option.some.injEq] at T;subst T;exact⟨h0,h _ hk⟩
 grind
theorem YU {a b I J : ByteArray}{K:ByteArray->Prop}{k:ByteArray->Option ρ}(U:bnd (jc I J) k=some r)(t:a=I)(C:b=J)(h:∀ x,k x=some r->K x):S.agz a b K:=by
 subst O t C;obtain⟨x,T,hk⟩:=xM U;clear U;unfold jc at T
 cases h0:Nat.ble (a.size+b.size) 4611686018427387904 with
 | false=>grind
 | true=>rw[h0] at T;cases T;exact⟨by simpa using h0,h _ hk⟩
theorem aeU {s J : ByteArray}{i I : Int}{K:Int->Prop}{k:Int->Option ρ}(U:bnd (jM J I) k=some r)(t:s=J)(C:i=I)(h:∀ x,k x=some r->K x):S.agy s i K:=by
 subst O t C;obtain⟨x,T,hk⟩:=xM U;clear U
 cases i with
 | negSucc j=>simp[jM] at T
 | ofNat j=>
  simp only[jM] at T
  split at T
  rename_i c hc;cases T;exact⟨j,c,rfl,hc,h _ hk⟩
  cases T
theorem nM {n T b:Nat}{p:Prop}{k:Option ρ}(U:iy T b k=some r)(J:n=T)(h:k=some r->p):S.room n b p:=by
 subst J;unfold iy at U
 cases h1:Nat.ble ((2*n+192)*b) 140737488355328 with
 | false=>grind
 | true=>
  cases h2:Nat.ble n 4611686018427387904 with
  | false=>grind
  | true=>rw[h1,h2] at U;exact alk O dD bV (h U)
theorem Nr {n m I J : Int}{b:Nat}{K:Nat->Prop}{k:Nat->Option ρ}(U:bnd (jD I J b) k=some r)(t:n=I)(C:m=J)(h:∀ j,k j=some r->K j):S.mks n m b K:=by
 subst O t C;obtain⟨x,T,hk⟩:=xM U;clear U;unfold jD at T
 by_cases h0:0<=n/\n<=m/\(b:Int)*m<=140737488355328/\m<=9223372036854775807
 simp only[h0,and_self,decide_true,cond_true,Option.some.injEq] at T;subst T;exact⟨n.toNat,by omega,h0.2.1,h0.2.2.1,h0.2.2.2,h _ hk⟩
 grind
theorem ab5 {n T : Nat}{a b C I : Int}{K:Nat->Nat->Prop}{k:Nat×Nat->Option ρ}(U:bnd (jR T C I) k=some r)(hn:n=T)(g:a=C)(t:b=I)(h:∀ x,amC T x->k x=some r->K x.1 x.2):S.slc n a b K:=by
 subst O hn g t;obtain⟨x,J,hk⟩:=xM U;clear U;unfold jR at J
 by_cases h0:0<=a/\a<=b/\b<=(n:Int)
 simp only[h0,and_self,decide_true,cond_true,Option.some.injEq] at J;subst J;exact⟨a.toNat,b.toNat,by omega,by omega,by omega,by omega,h _ ⟨by grind,by grind⟩ hk⟩
 grind
theorem amG {s C : ByteArray}{a b I J : Int}{K:ByteArray->Prop}{k:ByteArray->Option ρ}(U:bnd (kK C I J) k=some r)(hn:s=C)(g:a=I)(t:b=J)(h:∀ x,k x=some r->K x):S.acU s a b K:=by
 subst O hn g t;obtain⟨x,T,hk⟩:=xM U;clear U;unfold kK at T
 by_cases h0:0<=a/\a<=b/\b<=(s.size:Int)
 simp only[h0,and_self,decide_true,cond_true,Option.some.injEq] at T;subst T;exact⟨a.toNat,b.toNat,by omega,by omega,by omega,by omega,h _ hk⟩
 grind
theorem amH (hM:M=kJ){J:List (List PV)}{l:List α}{e:α->List PV}{a b:Option ρ}{K:Bool->Prop}(U:qx a b=some r)(t:J=M.m α e l)(T:l=[]->b=some r->a=some r)(C:a=some r->K true)(I:b=some r->K false):S.V7 J K:=by
 subst O hM t;intro c hc
 cases c with
 | false=>exact I U
 | true=>
  have:=hc rfl;exact C (T (by simpa [kJ] using this) U)
theorem amI (hM:M=kJ){t:Nat}{b c:ByteArray}{K:List (List PV)->Prop}{k:List Int->Option ρ}(U:lt (Fh c) k=some r)(hu:∃ e,P.underlying t=some (.slice e)/\P.underlying e=some (.int .u8))(T:c=b)(h:∀ x,k x=some r->K (M.m Int (eI .u8) x)):S.toB t b K:=by
 subst O hM T;have h2:=h _ U;refine⟨hu,?_⟩
 simp_all[kJ,Fh,eI,Function.comp_def]
theorem akD (hM:M=kJ){t:Nat}{rows:List (List PV)}{l:List Int}{K:ByteArray->Prop}{k:ByteArray->Option ρ}(U:bnd (kE l) k=some r)(hu:∃ e,P.underlying t=some (.slice e)/\P.underlying e=some (.int .u8))(I:rows=M.m Int (eI .u8) l)(h:∀ x,k x=some r->K x):S.toS t rows K:=by
 subst O hM I;obtain⟨x,J,hk⟩:=xM U;clear U;refine⟨hu,x,?_,h x hk⟩;unfold kE at J
 cases T:l.all (λn=>decide (0<=n/\n<256)) with
 | false=>grind
 | true=>
  rw[T] at J;cases J;simp only[kJ,List.map_map];refine List.map_congr_left λn C=>?_;have:=List.all_eq_true.1 T n C;simp only[decide_eq_true_eq] at this;simp only[Function.comp,eI,aev]
  grind[UInt8.toNat_ofNat_of_lt']
theorem aae {η:Type}(hT:iZ P T)(hW:DR P){b:Code}{Q:Post}{E:Env}{step:σ->(σ->Option ρ)->Option ρ}{s0:σ}(cvs:List Cv)(keep:List Nat)(F:σ->η->Env)(g0:η)(U:eH step s0=some r)(he:IZ T.qc keep (wkE (Lp S cvs E))=F s0 g0)
  (h:∀ (I:σ->η->Env) (k:σ->Option ρ) (s:σ) (g:η),(∀ s g,I s g=F s g)->step s k=some r->∀ e,e=F s g->Kw T S b (JM (λt=>∃ s' g',k s'=some r/\IZ T.qc keep (wkE (Lp S cvs t))=I s' g') Q) e):S.loop b Q E:=by
 subst O;intro C a w hA
 have key:∀ (n:Nat) (s:σ) (g:η),iI step n s=some r->∀ (C:Ctx T) a w,kZ C (F s g) a w->Code.rounds P b (lift C Q) n a w:=by
  intro n
  induction n with
  | zero=>intro s g h;cases h
  | succ n ih=>
   intro s g hs C a w hA;unfold Code.rounds;refine wp_mono (Be hT hW b _ _ (h F (iI step n) s g (λ_ _=>rfl) hs _ rfl) C a w hA) (Jh λt J w' hA' hq=>?_);obtain⟨j,g',hj,he⟩:=hq;exact ih j g' hj C J w' (he ▸ Hy keep _ C J w' (LU _ C J w' (BL (P:=P) (T':=T) cvs t C J w' hA')))
 exact wp_loop_rounds fuel (key _ s0 g0 U C a w (he ▸ Hy keep _ C a w (LU _ C a w (BL (P:=P) (T':=T) cvs E C a w hA))))
theorem akE {ci:Nat}{J:Env}{A:Post->Prop}{B:Env->Prop}{Q:Post}{rest:σ->Option ρ}{body:(σ->Option ρ)->Option ρ}(cvs:List Cv)(keep:List Nat)(F:σ->Env)(U:jn rest body=some r)
  (h:∀ (I:σ->Env) (k:σ->Option ρ),(∀ s,I s=F s)->body k=some r->A (JM (λE=>∃ s,k s=some r/\IZ T.qc keep (wkE (Lp S cvs E))=I s) Q)) (h2:∀ s,rest s=some r->B (F s)):S.seq ci J A B Q:=by
 subst O;refine⟨_,h F rest (λ_=>rfl) U,λn E h=>?_⟩
 cases n with
 | zero=>
  obtain⟨s,hs,C⟩:=h;refine⟨F s,?_,h2 s hs⟩;rw[<- C];exact(BL (P:=P) (T':=T) cvs E).trans ((LU _).trans (Hy keep _))
 | succ n=>exact⟨E,Ent.refl E,h⟩
theorem Ib (hT:iZ P T)(hW:DR P){b:Code}{Q:Post}{E:Env}{step:σ->(σ->Option ρ)->Option ρ}{t:σ}(cvs:List Cv)(keep:List Nat)(F:σ->Env)(U:eH step t=some r)(he:IZ T.qc keep (wkE (Lp S cvs E))=F t)
  (h:∀ (I:σ->Env) (k:σ->Option ρ) (s:σ),(∀ s,I s=F s)->step s k=some r->∀ e,e=F s->Kw T S b (JM (λg=>∃ s',k s'=some r/\IZ T.qc keep (wkE (Lp S cvs g))=I s') Q) e):S.loop b Q E:=by
 subst O;intro C a w hA
 have key:∀ (n:Nat) (s:σ),iI step n s=some r->∀ (C:Ctx T) a w,kZ C (F s) a w->Code.rounds P b (lift C Q) n a w:=by
  intro n
  induction n with
  | zero=>intro s h;cases h
  | succ n ih=>
   intro s hs C a w hA;unfold Code.rounds;refine wp_mono (Be hT hW b _ _ (h F (iI step n) s (λ_=>rfl) hs _ rfl) C a w hA) (Jh λg J w' hA' hq=>?_);obtain⟨j,hj,he⟩:=hq;exact ih j hj C J w' (he ▸ Hy keep _ C J w' (LU _ C J w' (BL (P:=P) (T':=T) cvs g C J w' hA')))
 exact wp_loop_rounds fuel (key _ t U C a w (he ▸ Hy keep _ C a w (LU _ C a w (BL (P:=P) (T':=T) cvs E C a w hA))))
end
end Go.Pv
namespace Go.Pv
open Go
section
variable {α β σ τ ρ:Type}
def Ok (Q:ρ->Prop)(o:Option ρ):Prop:=∃ r,o=some r/\Q r
theorem dX {Q:ρ->Prop}{x:ρ}(h:Q x):Ok Q (some x):=⟨x,rfl,h⟩
theorem ok_eq {c:ρ}{o:Option ρ}(h:Ok (λr=>r=c) o):o=some c:=by obtain⟨r,e,q⟩:=h;subst q;exact e
theorem gq {Q:ρ->Prop}{c:Bool}{a b:Option ρ}(h1:c=true->Ok Q a)(h2:c=false->Ok Q b):Ok Q (br c a b):=by
 cases c with
 | true=>exact h1 rfl
 | false=>exact h2 rfl
theorem dY {Q:ρ->Prop}{p:Prop}[Decidable p]{a b:Option ρ}(h1:p->Ok Q a)(h2:¬p->Ok Q b):Ok Q (br (decide p) a b) :=
 gq (λh=>h1 (of_decide_eq_true h)) (λh=>h2 (of_decide_eq_false h))
theorem rQ {Q:ρ->Prop}{p:Prop}[Decidable p]{a b:Option ρ}(h1:¬p->Ok Q a)(h2:p->Ok Q b):Ok Q (br (!decide p) a b) :=
 gq (λh=>h1 aN) (λh=>h2 aN)
theorem fB {Q:ρ->Prop}{R:α->Prop}{o:Option α}{k:α->Option ρ}(h:Ok R o)(hk:∀ x,R x->Ok Q (k x)):Ok Q (bnd o k):=by
 obtain⟨x,e,q⟩:=h;rw[e];exact hk x q
theorem eP {Q:ρ->Prop}{o:Option α}{x:α}{k:α->Option ρ}(h:o=some x)(hk:Ok Q (k x)):Ok Q (bnd o k):=by
 rw[h];exact hk
theorem BN {Q:ρ->Prop}{x:α}{k:α->Option ρ}(hk:Ok Q (k x)):Ok Q (lt x k):=hk
theorem gu {Q:ρ->Prop}(J:σ->Prop){rest:σ->Option ρ}{body:(σ->Option ρ)->Option ρ}(h1:∀ k,(∀ s,J s->Ok Q (k s))->Ok Q (body k))(h2:∀ s,J s->Ok Q (rest s)):Ok Q (jn rest body):=h1 rest h2
theorem iJ {Q:ρ->Prop}{n b:Nat}{k:Option ρ}(h1:(2*n+192)*b<=140737488355328)(h2:n<=4611686018427387904)(hk:Ok Q k):Ok Q (iy n b k):=by
 grind[iy,Nat.ble_eq_true_of_le]
theorem qH (l:List α)(n:Nat):gW l (n:Int)=l[n]?:=rfl
theorem fO {Q:ρ->Prop}{l:List α}{i:Int}{k:α->Option ρ}(n:Nat)(hi:i=(n:Int))(T:n<l.length)(hk:Ok Q (k (l[n]))):Ok Q (bnd (gW l i) k):=by
 subst hi;rw[qH,List.getElem?_eq_getElem T];exact hk
theorem iD {Q:ρ->Prop}{m:Nat}{i:Int}{k:Nat->Option ρ}(n:Nat)(hi:i=(n:Int))(T:n<m)(hk:Ok Q (k n)):Ok Q (bnd (kD m i) k):=by
 subst hi;show Ok Q (bnd (bif Nat.blt n m then some n else none) k);have:Nat.blt n m=true:=by simp_all
 rw[this];exact hk
theorem gY {Q:ρ->Prop}{l:List α}{n:Nat}{k:α->Option ρ}(T:n<l.length)(hk:Ok Q (k (l[n]))):Ok Q (bnd (l[n]?) k):=by
 rw[List.getElem?_eq_getElem T];exact hk
theorem QB {Q:ρ->Prop}{n:Nat}{a m:Int}{b:Nat}{k:Nat->Option ρ}(J:a=(n:Int))(T:m=(n:Int))(h0:0<b)(I:b*n<=140737488355328)(hk:Ok Q (k n)):Ok Q (bnd (jD a m b) k):=by
 subst J T;have h1:n<=b*n:=Nat.le_mul_of_pos_left n h0;have h2:(b:Int)*(n:Int)<=140737488355328:=by grind
 have:jD (n:Int) (n:Int) b=some n:=by
  grind[jD]
 rw[this];exact hk
theorem Xh {Q:ρ->Prop}{a b:Int}{n i j:Nat}{k:Nat×Nat->Option ρ}(J:a=(i:Int))(T:b=(j:Int))(I:i<=j)(hj:j<=n)(hk:Ok Q (k (i,j))):Ok Q (bnd (jR n a b) k):=by
 subst J T
 have:jR n (i:Int) (j:Int)=some (i,j):=by
  grind[jR]
 rw[this];exact hk
theorem wrap_in {n:Int}(h1 : -9223372036854775808<=n)(h2:n<9223372036854775808):IntKind.i64.wrap n=n:=by rw[IntKind.wrap_i64];omega
theorem wH {a b:Int}(h1 : -9223372036854775808<=a+b)(h2:a+b<9223372036854775808):fK a b=a+b:=by
 show IntKind.i64.wrap (a+b)=a+b;exact wrap_in h1 h2
theorem iY {n:Nat}(h:n<4611686018427387904):fK (n:Int) 1=((n+1:Nat):Int):=by
 grind[wH]
theorem kF {Q:ρ->Prop}{step:σ->(σ->Option ρ)->Option ρ}{J:σ}(Inv:σ->Prop)(μ:σ->Nat)(h0:Inv J)(C:μ J<fuel)
  (h:∀ s k,Inv s->(∀ T,Inv T->μ T<μ s->Ok Q (k T))->Ok Q (step s k)):Ok Q (eH step J):=by
 have key:∀ n s,Inv s->μ s<n->Ok Q (iI step n s):=by
  intro n
  induction n with
  | zero=>grind
  | succ n t=>intro s hs hn;exact h s _ hs λT I g=>t T I ae
 exact key fuel J h0 C
theorem jA {Q:ρ->Prop}{step:Int×τ->(Int×τ->Option ρ)->Option ρ}{t0:τ}(a n:Nat)(Inv:Nat->τ->Prop)(i0:Int)(J:i0=(a:Int))(g:a<=n)(hn:n<4611686018427387904)(h0:Inv a t0)
  (h:∀ i t k,i<n->Inv i t->(∀ I,Inv (i+1) I->Ok Q (k (fK (i:Int) 1,I)))->Ok Q (step ((i:Int),t) k))
  (he:∀ t k,Inv n t->Ok Q (step ((n:Int),t) k)):Ok Q (eH step (i0,t0)):=by
 subst J;refine kF (λs=>∃ i:Nat,s.1=(i:Int)/\i<=n/\Inv i s.2) (λs=>n-s.1.toNat) ⟨a,rfl,g,h0⟩ bz ?_
 rintro⟨i',t⟩ k ⟨i,e,hi,C⟩ hk
 simp only at e C;subst e
 by_cases h' : i=n
 grind
 refine h i t k ae C λI T=>hk _ ⟨i+1,iY ae,by omega,T⟩ ?_
 grind[iY]
theorem kM {Q:ρ->Prop}{step:Int->(Int->Option ρ)->Option ρ}(a n:Nat)(Inv:Nat->Prop)(i0:Int)(J:i0=(a:Int))(I:a<=n)(t:n<4611686018427387904)(h0:Inv a)
  (h:∀ i k,i<n->Inv i->(Inv (i+1)->Ok Q (k (fK (i:Int) 1)))->Ok Q (step (i:Int) k))
  (C:∀ k,Inv n->Ok Q (step (n:Int) k)):Ok Q (eH step i0):=by
 subst J;refine kF (λs=>∃ i:Nat,s=(i:Int)/\i<=n/\Inv i) (λs=>n-s.toNat) ⟨a,rfl,I,h0⟩ bz ?_
 rintro i' k ⟨i,e,hi,hI⟩ hk
 subst e
 by_cases h' : i=n
 grind
 refine h i k ae hI λT=>hk _ ⟨i+1,iY ae,by omega,T⟩ ?_;rw[iY ae]
 grind
theorem BO {Q:ρ->Prop}{step:τ×Int->(τ×Int->Option ρ)->Option ρ}{t0:τ}(a n:Nat)(Inv:Nat->τ->Prop)(i0:Int)(J:i0=(a:Int))(g:a<=n)(hn:n<4611686018427387904)(h0:Inv a t0)
  (h:∀ i t k,i<n->Inv i t->(∀ I,Inv (i+1) I->Ok Q (k (I,fK (i:Int) 1)))->Ok Q (step (t,(i:Int)) k))
  (he:∀ t k,Inv n t->Ok Q (step (t,(n:Int)) k)):Ok Q (eH step (t0,i0)):=by
 subst J;refine kF (λs=>∃ i:Nat,s.2=(i:Int)/\i<=n/\Inv i s.1) (λs=>n-s.2.toNat) ⟨a,rfl,g,h0⟩ bz ?_
 rintro⟨t,i'⟩ k ⟨i,e,hi,C⟩ hk
 simp only at e C;subst e
 by_cases h' : i=n
 grind
 refine h i t k ae C λI T=>hk _ ⟨i+1,iY ae,by omega,T⟩ ?_
 grind[iY]
theorem ab6 {σ' : Type}{step:σ->(σ->Option ρ)->Option ρ}{T : σ'->(σ'->Option ρ)->Option ρ}(R:σ->σ'->Prop){s:σ}{J : σ'}(h0:R s J)
  (h:∀ s J k I,R s J->(∀ t C,R t C->k t=I C)->step s k=T J I):eH step s=eH T J:=by
 have key:∀ n s J,R s J->iI step n s=iI T n J:=by
  intro n
  induction n with
  | zero=>intros;rfl
  | succ n g=>intro s J hs;exact h s J _ _ hs g
 exact key fuel s J h0
end
end Go.Pv
namespace Go.Pv
open Go
theorem wI {α:Type}{enc:α->List PV}{ok:α->Prop}:∀ {T:List (List PV)},(∀ r∈T,∃ x,r=enc x/\ok x)->∃ l:List α,T=l.map enc/\(∀ x∈l,ok x)/\l.length=T.length
 | [],_=>⟨[],rfl,by simp,rfl⟩
 | r::T,h=>by
  obtain⟨x,e,J⟩:=h r aj;obtain⟨l,C,h2,I⟩:=wI λr hr=>h r (List.mem_cons_of_mem _ hr);refine⟨x::l,by rw[e,C];rfl,λy hy=>?_,by simp[I]⟩;rcases List.mem_cons.1 hy with rfl|hy
  exact J
  exact h2 y hy
end Go.Pv
namespace Go.Pv
open Go
structure Fit {H:Type}(N:Nat)(fit:DataW H->Prop):Prop where
 str:∀ b,fit (.lit (.string b))->b.length<=N
 sl:∀ es rest,fit (.slice es rest)->es.length<=N/\∀ e∈es,fit e
 agg:∀ es,fit (.agg es)->∀ e∈es,fit e
 ptr:∀ d,fit (.ptr d)->fit d
mutual
inductive Sn (P:Program) (N:Nat):TypeId->List PV->Prop
 | int {t:TypeId} {k:IntKind} {n:Int}:P.underlying t=some (.int k)->(Lit.int k n).wf=true->Sn P N t [.si k n]
 | bool {t:TypeId} {b:Bool}:P.underlying t=some .bool->Sn P N t [.sb b]
 | str {t:TypeId} {s:ByteArray}:P.underlying t=some .string->s.size<=N->Sn P N t [.str s]
 | IY {t e:TypeId}:P.underlying t=some (.pointer e)->Sn P N t [.IY]
 | pp {t e:TypeId} {cs:List PV}:P.underlying t=some (.pointer e)->Sn P N e cs->Sn P N t [.pp cs]
 | sl {t e:TypeId} {es:List (List PV)}:P.underlying t=some (.slice e)->(∀ r∈es,Sn P N e r)->es.length<=N->Sn P N t [.sl (P.cellsOf e) es false]
 | struct {t:TypeId} {fs:Array Field} {cs:List PV}:P.underlying t=some (.struct fs)->SnL P N (fs.toList.map (·.type)) cs->Sn P N t cs
 | arr {t e:TypeId} {n:Nat} {cs:List PV}:P.underlying t=some (.array n e)->SnL P N (List.replicate n e) cs->Sn P N t cs
inductive SnL (P:Program) (N:Nat):List TypeId->List PV->Prop
 | nil:SnL P N [] []
 | cons {t:TypeId} {ts:List TypeId} {a b:List PV}:Sn P N t a->SnL P N ts b->SnL P N (t::ts) (a++b)
end
section
variable {H:Type}{enc:TypeId×Value->H}{P:Program}{w:World}{base:Nat}{sp:Nat->Bool}{held:Bool}{N:Nat}{fit:DataW H->Prop}
mutual
theorem Sn.cells {t:TypeId}{cs:List PV}:Sn P N t cs->iw cs=true
 | .int _ _=>rfl
 | .bool _=>rfl
 | .str _ _=>rfl
 | .IY _=>rfl
 | .pp _ _=>rfl
 | .sl _ _ _=>rfl
 | .struct _ h=>SnL.cells h
 | .arr _ h=>SnL.cells h
theorem SnL.cells {ts:List TypeId}{cs:List PV}:SnL P N ts cs->iw cs=true
 | .nil=>rfl
 | .cons h k=>NV _ _ (Sn.cells h) (SnL.cells k)
end
theorem RI {ts:List TypeId}{cs:List Value}{xs:Nat->Option (DataW H×List MemPlace)}{m:Nat}
  (ih:∀ (t:TypeId) (cs:List Value) x,t∈ts->DataW.trod enc P w base sp held m t cs=some x->fit x.1->∃ ps,eQ w NoY ik ps cs/\Sn P N t ps/\cs.length=P.cellsOf t) :
  ∀ (J:List Field) (n k:Nat),Xd P ts J n=some cs.length->n<=cs.length ->
   (∀ (i:Nat) (f:Field),J[i]?=some f->DataW.trod enc P w base sp held m f.type ((cs.drop f.offset).take (P.cellsOf f.type))=xs (k+i)/\∃ y,xs (k+i)=some y/\fit y.1) ->
   ∃ ps,eQ w NoY ik ps (cs.drop n)/\SnL P N (J.map (·.type)) ps
 | [],n,k,hc,hn,_=>by
  simp only[Xd,Option.some.injEq] at hc;subst hc;exact⟨[],by simp[eQ],.nil⟩
 | f::J,n,k,hc,hn,hx=>by
  simp only[Xd] at hc
  cases T:(Nat.beq f.offset n&&ts.contains f.type) with
  | false=>rw[T] at hc;cases hc
  | true=>
   rw[T] at hc;simp only[cond_true] at hc;simp only[Bool.and_eq_true] at T;have I:=Nat.eq_of_beq_eq_true T.1;obtain⟨h1,y,h2,h3⟩:=hx 0 f rfl;rw[h2,I] at h1;obtain⟨ps,hr,hs,hl⟩:=ih _ _ _ (by simpa using T.2) h1 h3
   have hle:n+P.cellsOf f.type<=cs.length:=by
    rw[List.length_take,List.length_drop] at hl;omega
   obtain⟨qs,hr2,C⟩:=RI ih J (n+P.cellsOf f.type) (k+1) hc hle λi g hg=>by
    have:=hx (i+1) g (by simpa using hg);rw[show k+(i+1)=k+1+i by omega] at this;exact this
   refine⟨ps++qs,?_,by simpa using SnL.cons hs C⟩;have:=hr.append hr2
   rwa [<- List.drop_drop,List.take_append_drop] at this
theorem U9 {e:TypeId}{cs:List Value}{m sz:Nat}{xs:Nat->Option (DataW H×List MemPlace)}
  (I:∀ (cs:List Value) x,DataW.trod enc P w base sp held m e cs=some x->fit x.1->∃ ps,eQ w NoY ik ps cs/\Sn P N e ps/\cs.length=P.cellsOf e) (hsz:sz=P.cellsOf e) :
  ∀ (k s:Nat),cs.length=(s+k)*sz->(∀ i,i<s+k->DataW.trod enc P w base sp held m e ((cs.drop (i*sz)).take sz)=xs i/\∃ y,xs i=some y/\fit y.1) ->
   ∃ ps,eQ w NoY ik ps (cs.drop (s*sz))/\SnL P N (List.replicate k e) ps
 | 0,s,hl,_=>by
  refine⟨[],?_,.nil⟩;rw[List.drop_eq_nil_of_le (by rw[hl];simp)];simp[eQ]
 | k+1,s,hl,hx=>by
  obtain⟨h1,y,h2,t⟩:=hx s ae;rw[h2] at h1;obtain⟨ps,hr,hs,C⟩:=I _ _ h1 t;obtain⟨qs,J,T⟩:=U9 I hsz k (s+1) (by rw[hl];congr 1;omega) λi hi=>hx i ae;refine⟨ps++qs,?_,by rw[List.replicate_succ];exact .cons hs T⟩;have:=hr.append J
  rwa [show(s+1)*sz=s*sz+sz by rw[Nat.add_mul];omega,<- List.drop_drop,List.take_append_drop] at this
theorem Xi {e:TypeId}{m:Nat}{a:Addr}{xs:Nat->Option (DataW H×List MemPlace)}(T:a.spot=none)
  (ih:∀ (cs:List Value) x,DataW.trod enc P w base sp held m e cs=some x->fit x.1->∃ ps,eQ w NoY ik ps cs/\Sn P N e ps/\cs.length=P.cellsOf e) :
  ∀ (k s:Nat),(∀ i,i<s+k->(w.cells? base (a.add (i*P.cellsOf e)) (P.cellsOf e)).bind (DataW.trod enc P w base sp held m e)=xs i/\∃ y,xs i=some y/\fit y.1) ->
   ∃ J,je w NoY ik a.block (P.cellsOf e) J (a.off+s*P.cellsOf e)/\(∀ r∈J,Sn P N e r)/\J.length=k
 | 0,s,_=>⟨[],by simp[je],by simp,rfl⟩
 | k+1,s,hx=>by
  obtain⟨h1,y,h2,h3⟩:=hx s ae;rw[h2] at h1;obtain⟨vs,hv,ht⟩:=Option.bind_eq_some_iff.1 h1;obtain⟨ps,hr,hs,hl⟩:=ih _ _ ht h3;obtain⟨J,t,I,C⟩:=Xi T ih k (s+1) λi hi=>hx i ae;rw[afQ T] at hv;refine⟨ps::J,?_,?_,by simp[C]⟩
  unfold je;refine⟨⟨by rw[<- hr.length,hl],hs.cells⟩,RF hv hr,?_⟩;rw[show a.off+s*P.cellsOf e+P.cellsOf e=a.off+(s+1)*P.cellsOf e by rw[Nat.add_mul];omega];exact t
  intro r g;rcases List.mem_cons.1 g with rfl|h
  exact hs
  exact I r h
theorem YV {ts:List TypeId}(F:Fit N fit)(hts:layAll P ts ts=true):∀ (fuel:Nat) (t:TypeId) (cs:List Value) (x:DataW H×List MemPlace),t∈ts ->
  DataW.trod enc P w base sp held fuel t cs=some x->fit x.1->∃ ps,eQ w NoY ik ps cs/\Sn P N t ps/\cs.length=P.cellsOf t
 | 0,t,cs,x,_,h,_=>by simp[DataW.trod] at h
 | m+1,t,cs,x,hmem,h,hft=>by
  have T:=NU ts hts t hmem;have ih:=YV F hts m;have one:∀ {p:PV} {v:Value},Rep w NoY ik p v->eQ w NoY ik [p] [v]:=λh=>by unfold eQ;exact⟨_,_,rfl,h,by unfold eQ;rfl⟩
  unfold ajL at T
  split at T
  rename_i hu;obtain⟨b,rfl,_⟩:=DataW.trod_bool hu h;exact⟨[.sb b],one aS,.bool hu,(Nat.eq_of_beq_eq_true T).symm⟩
  rename_i k hu;obtain⟨n,rfl,_,hw⟩:=DataW.trod_int hu h;exact⟨[.si k n],one aS,.int hu hw,(Nat.eq_of_beq_eq_true T).symm⟩
  rename_i hu;obtain⟨s,rfl,rfl,hs⟩:=DataW.trod_string hu h;exact⟨[.str s],one aS,.str hu (by simpa using F.str _ hft),(Nat.eq_of_beq_eq_true T).symm⟩
  rename_i e hu;simp only[Bool.and_eq_true,Nat.blt_eq] at T;obtain⟨⟨h1,h2⟩,h3⟩:=T;have h3:e∈ts:=by simpa using h3
  have h1:=(Nat.eq_of_beq_eq_true h1).symm;rcases DataW.trod_pointer hu h with ⟨rfl,_⟩|⟨a,cs',y,n,U,rfl,rfl,hc,ht⟩
  exact⟨[.IY],one aS,.IY hu,h1⟩
  cases U;obtain⟨ps,hr,hs,_⟩:=ih e _ _ h3 ht (F.ptr _ hft);obtain⟨J,I⟩:=Xe h2 hc;refine⟨[.pp ps],one ?_,.pp hu hs,h1⟩;have ha:a=⟨a.block,a.off,none⟩:=by cases a;simp at J;simp[J]
  rw[ha] at hc;unfold Rep;exact⟨a.block,a.off,by rw[<- ha],⟨I,λh=>h⟩,RF hc hr⟩
  rename_i e hu;simp only[Bool.and_eq_true,Nat.blt_eq] at T;obtain⟨⟨h1,h2⟩,h3⟩:=T;have h3:e∈ts:=by simpa using h3
  have h1:=(Nat.eq_of_beq_eq_true h1).symm;rcases DataW.trod_slice hu h with ⟨rfl,_⟩|⟨a,len,cap,elems,rest,n,U,rfl,rfl,_,hle,hmax,hlen,hel,_⟩
  refine⟨[.sl (P.cellsOf e) [] false],one ?_,.sl hu aj aj,h1⟩;unfold Rep;exact⟨none,0,0,rfl,rfl,Nat.le_refl _,(λh=>by cases h),.inl rfl⟩
  cases U;obtain⟨hN,hfe⟩:=F.sl _ _ hft;have hN:len<=N:=by simpa [hlen] using hN
  by_cases h0:len=0
  subst h0;refine⟨[.sl (P.cellsOf e) [] false],one ?_,.sl hu aj aj,h1⟩;unfold Rep;exact⟨some a,0,cap,rfl,rfl,hle,(λh=>by cases h),.inl rfl⟩
  have g:∀ i,i<len->∃ y,elems[i]?=some y/\fit y.1:=λi hi=>⟨_,List.getElem?_eq_getElem ae,hfe _ (List.mem_map.2 ⟨_,List.getElem_mem _,rfl⟩)⟩
  obtain⟨y,hy,_⟩:=g 0 ae;have he0:=hel 0 ae;rw[hy] at he0;obtain⟨vs,hv,_⟩:=Option.bind_eq_some_iff.1 he0;obtain⟨J,I⟩:=Xe h2 hv;rw[Nat.zero_mul,show a.add 0=a by simp[Addr.add]] at J I;obtain⟨es,hr,hs,hl2⟩:=Xi (xs:=λi=>elems[i]?) J (λcs x g U=>ih e cs x h3 g U) len 0 λi hi=>⟨hel i ae,g i ae⟩
  refine⟨[.sl (P.cellsOf e) es false],one ?_,.sl hu hs (by rw[hl2];omega),h1⟩;have ha:a=⟨a.block,a.off,none⟩:=by cases a;simp at J;simp[J]
  unfold Rep;refine⟨some a,len,cap,rfl,hl2.symm,hle,(λh=>by cases h),.inr ⟨a.block,a.off,by rw[<- ha],⟨I,λh=>h⟩,?_⟩⟩
  simpa using hr
  rename_i fs hu
  split at T
  rename_i n hc;obtain⟨xs,n',U,rfl,C,hxl,g⟩:=DataW.trod_struct hu h;cases U;have hn:=Nat.eq_of_beq_eq_true T
  obtain⟨ps,hr,hs⟩:=RI (ts:=ts) (xs:=λi=>xs[i]?) (λt cs x=>ih t cs x) fs.toList 0 0 (by rw[hc,hn,C]) (Nat.zero_le _) λi f hi=>by
   have hi' : fs[i]?=some f:=by simpa using hi
   have I:i<fs.size:=by
    by_cases h:i<fs.size
    exact h
    rw[Array.getElem?_eq_none (Nat.le_of_not_lt h)] at hi';cases hi'
   refine⟨by simpa using g i f hi',_,by rw[Nat.zero_add];exact List.getElem?_eq_getElem ae,F.agg _ hft _ (List.mem_map.2 ⟨_,List.getElem_mem _,rfl⟩)⟩
  exact⟨ps,by simpa using hr,.struct hu hs,C⟩
  cases T
  rename_i n e hu;simp only[Bool.and_eq_true] at T;have h3:e∈ts:=by simpa using T.2
  obtain⟨xs,m',U,rfl,C,hxl,g⟩:=DataW.trod_array hu h;cases U;obtain⟨ps,hr,hs⟩:=U9 (xs:=λi=>xs[i]?) (λcs x g U=>ih e cs x h3 g U) rfl n 0 (by rw[C,Nat.zero_add];exact Nat.eq_of_beq_eq_true T.1) λi hi=>⟨g i ae,_,List.getElem?_eq_getElem ae,F.agg _ hft _ (List.mem_map.2 ⟨_,List.getElem_mem _,rfl⟩)⟩
  exact⟨ps,by simpa using hr,.arr hu hs,C⟩
  cases T
inductive SnV (P:Program) (N:Nat) (t:TypeId):PV->Prop
 | one {p:PV}:Sn P N t [p]->kY P t=false->SnV P N t p
 | agg {cs:List PV}:Sn P N t cs->kY P t=true->SnV P N t (.agg cs)
inductive QV (P:Program) (N:Nat):List TypeId->List PV->Prop
 | nil:QV P N [] []
 | cons {t:TypeId} {ts:List TypeId} {p:PV} {ps:List PV}:SnV P N t p->QV P N ts ps->QV P N (t::ts) (p::ps)
theorem ady {ts:List TypeId}(F:Fit N fit)(I:layAll P ts ts=true){t:TypeId}(J:t∈ts){v:Value}{d:DataW H}{pl:List MemPlace}{r:Reach}{b0:Nat}(T:Value.okWide P w r b0 t v)(h:DataW.Trod enc P w base sp held t v d pl)(g:fit d) :
  ∃ p,Rep w NoY ik p v/\SnV P N t p:=by
 obtain⟨fuel,h⟩:=h;obtain⟨ps,hr,hs,_⟩:=YV F I fuel t _ _ J h g;have C:=NU ts I t J
 have agg:(∃ cs,v=.agg cs)->kY P t=true->∃ p,Rep w NoY ik p v/\SnV P N t p:=by
  rintro⟨cs,rfl⟩ ha
  refine⟨.agg ps,?_,.agg hs ha⟩;unfold Rep;exact⟨cs.toList,by simp,by simpa [Value.cells] using hr⟩
 have one:v.cells.toList=[v]->kY P t=false->∃ p,Rep w NoY ik p v/\SnV P N t p:=by
  intro hv ha;rw[hv] at hr;have hlen:=hr.length
  match ps,hr,hs,hlen with
  | [p],hr,hs,_=>
   obtain⟨u,e,hp⟩:=Jf hr;cases e;exact⟨p,hp,.one hs ha⟩
 unfold ajL at C;unfold Value.okWide at T
 split at C
 rename_i hu;rw[hu] at T;obtain⟨b,hb,_⟩:=DataW.trod_bool hu h;refine one ?_ bK;cases v<;>simp_all[Value.cells,Cell.okWide,Cell.ok]
 rename_i k hu;rw[hu] at T;obtain⟨b,hb,_⟩:=DataW.trod_int hu h;refine one ?_ bK;cases v<;>simp_all[Value.cells,Cell.okWide,Cell.ok]
 rename_i hu;rw[hu] at T;obtain⟨b,hb,_⟩:=DataW.trod_string hu h;refine one ?_ bK;cases v<;>simp_all[Value.cells,Cell.okWide,Cell.ok]
 rename_i e hu;rw[hu] at T;refine one ?_ bK;cases v<;>simp_all[Value.cells,Cell.okWide,Cell.ok]
 rename_i e hu;rw[hu] at T;refine one ?_ bK;cases v<;>simp_all[Value.cells,Cell.okWide,Cell.ok]
 rename_i fs hu;rw[hu] at T;obtain⟨cs,hc,_⟩:=T;exact agg ⟨cs,hc⟩ bK
 rename_i n e hu;rw[hu] at T;obtain⟨cs,hc,_⟩:=T;exact agg ⟨cs,hc⟩ bK
 cases C
theorem YW {ts:List TypeId}(F:Fit N fit)(J:layAll P ts ts=true){r:Reach}{b0:Nat}:∀ (params:List TypeId) (vs:List Value) (T:List (DataW H)) (pl:List MemPlace),(∀ t∈params,t∈ts) ->
  (∀ (j:Nat) t v,params[j]?=some t->vs[j]?=some v->Value.okWide P w r b0 t v)->DataW.TrodAll enc P w base sp held params vs T pl->(∀ d∈T,fit d) ->
  ∃ ps,eQ w NoY ik ps vs/\QV P N params ps/\T.length=params.length
 | [],[],[],_,_,_,_,_=>⟨[],by simp[eQ],.nil,rfl⟩
 | t::params,v::vs,d::T,pl,hm,hval,h,hft=>by
  obtain⟨p,q,h1,h2,_⟩:=h;obtain⟨x,hx,hs⟩:=ady F J (hm t aj) (hval 0 t v rfl rfl) h1 (hft d aj);obtain⟨xs,C,I,hl⟩:=YW F J params vs T q (λt ht=>hm t (by simp[ht])) (λj t v h1 h2=>hval (j+1) t v dD bV) h2 (λd g=>hft d (by simp[g]));exact⟨x::xs,by unfold eQ;exact⟨v,vs,rfl,hx,C⟩,.cons hs I,by simp[hl]⟩
 | [],_::_,_,_,_,_,h,_=>h.elim
 | [],[],_::_,_,_,_,h,_=>h.elim
 | _::_,[],_,_,_,_,h,_=>h.elim
 | _::_,_::_,[],_,_,_,h,_=>h.elim
theorem acS (F:Fit N fit){f:FuncId}{fn:Func}{s:ChangeSpec}{apart:Bool}{ts:List TypeId}(hB:amB P ts fn.params.toList=true)(I:s.vars=[]){tb:TypeId}(hres:fn.resultTypes=#[tb])(hb:P.underlying tb=some .bool)
  (hspec:∀ (J:List (DataW H)),J.length=fn.params.toList.length->(s.fn H J).results=[.lit (.bool true)]/\(s.fn H J).args=J/\(s.fn H J).vars=[])
  {G:Nat->Option (List PV)} (hFn:∀ pvs,QV P N fn.params.toList pvs->Fn P G f pvs (λu=>u=.sb true))
  (W:World) (hG:Vs G W NoY) (base:Nat) (args:Array Value) (J gs:List (DataW H)) (before:List MemPlace)
  (hval:∀ (j:Nat) t v,fn.params[j]?=some t->args[j]?=some v->Value.okWide P W .any base t v)
  (hft:∀ d∈J,fit d) (hW:DataW.Whole enc P fn.params.toList s.vars apart W args.toList J gs before) :
  Calls P f args W λe W'=>∃ v,e=.returned v/\s.post enc P fn apart true false false W args v W':=by
 unfold amB at hB;simp only[Bool.and_eq_true,List.all_eq_true] at hB;obtain⟨⟨hl,hts⟩,hp⟩:=hB
 have hp:∀ t∈fn.params.toList,t∈ts/\P.readableRec t=true/\t<P.types.size:=λt ht=>by
  have:=hp t ht;rw[Nat.blt_eq] at this;exact⟨by simpa using this.1.1,this.1.2,this.2⟩
 have hW0:=hW;obtain⟨pa,pv,hA,hV,hbef,_,_⟩:=hW;obtain⟨pvs,hr,hs,hlen⟩:=YW F hts fn.params.toList args.toList J pa (λt ht=>(hp t ht).1) (λj t v h1 h2=>hval j t v dD bV) hA hft;obtain⟨_,C⟩:=hFn pvs hs W NoY args.toList hG (λ_ h=>h.elim) hr;refine Calls.mono C λe W' h=>?_;obtain⟨cv,v,rfl,rfl,hrep,hchg⟩:=h;have hcv:=TF hrep;subst hcv;refine⟨.bool true,rfl,?_⟩;rw[I] at hV
 have hgs:gs=[]/\pv=[]:=by
  cases gs with
  | nil=>exact⟨rfl,hV⟩
  | cons g gs=>exact hV.elim
 obtain⟨rfl,rfl⟩:=hgs;obtain⟨s1,s2,s3⟩:=hspec J hlen;have T:∀ p∈before,p.block<W.heap.size:=λp hp=>by simpa using hW0.lt p hp
 unfold ChangeSpec.post;refine⟨J,[],before,[],pa,[],hW0,?_,?_,?_,hchg.below.frame _,λh=>by cases h⟩
 rw[List.append_nil,s1,hres];refine⟨[],[],⟨1,?_⟩,rfl,rfl⟩;simp[DataW.trod,hb,Value.cells]
 rw[List.append_nil,s2];exact YP hl hchg.below _ _ _ _ (λt ht=>(hp t ht).2) (λx hx=>T x (by rw[hbef];simp[hx])) hA
 rw[List.append_nil,s3,I];rfl
end
section
variable {P:Program}{N:Nat}{t e:TypeId}{cs:List PV}{p:PV}
theorem Sn.Z9 {k:IntKind}(hu:P.underlying t=some (.int k))(h:Sn P N t cs):∃ n,cs=[.si k n]/\(Lit.int k n).wf=true:=by
 cases h with
 | int h1 h2=>rw[hu] at h1;cases h1;exact⟨_,rfl,h2⟩
 | _=>simp_all
theorem Sn.ab2 (hu:P.underlying t=some .bool)(h:Sn P N t cs):∃ b,cs=[.sb b]:=by
 cases h with
 | bool h1=>exact⟨_,rfl⟩
 | _=>simp_all
theorem Sn.aeO (hu:P.underlying t=some .string)(h:Sn P N t cs):∃ s,cs=[.str s]/\s.size<=N:=by
 cases h with
 | str h1 h2=>exact⟨_,rfl,h2⟩
 | _=>simp_all
theorem Sn.qE (hu:P.underlying t=some (.slice e))(h:Sn P N t cs):∃ T,cs=[.sl (P.cellsOf e) T false]/\(∀ r∈T,Sn P N e r)/\T.length<=N:=by
 cases h with
 | sl h1 h2 J=>rw[hu] at h1;cases h1;exact⟨_,rfl,h2,J⟩
 | _=>simp_all
theorem Sn.kP {T:Array Field}(hu:P.underlying t=some (.struct T))(h:Sn P N t cs):SnL P N (T.toList.map (·.type)) cs:=by
 cases h with
 | struct h1 h2=>rw[hu] at h1;cases h1;exact h2
 | _=>simp_all
theorem Sn.VO {n:Nat}(hu:P.underlying t=some (.array n e))(h:Sn P N t cs):SnL P N (List.replicate n e) cs:=by
 cases h with
 | arr h1 h2=>rw[hu] at h1;cases h1;exact h2
 | _=>simp_all
theorem SnL.He {ts:List TypeId}(h:SnL P N (t::ts) cs):∃ a b,cs=a++b/\Sn P N t a/\SnL P N ts b:=by
 cases h with
 | cons h1 h2=>exact⟨_,_,rfl,h1,h2⟩
theorem SnL.mG (h:SnL P N [] cs):cs=[]:=by cases h;rfl
theorem SnV.aeP (T:kY P t=true)(h:SnV P N t p):∃ cs,p=.agg cs/\Sn P N t cs:=by
 cases h with
 | one h1 h2=>rw[T] at h2;cases h2
 | agg h1 h2=>exact⟨_,rfl,h1⟩
theorem SnV.inv_one (T:kY P t=false)(h:SnV P N t p):Sn P N t [p]:=by
 cases h with
 | one h1 h2=>exact h1
 | agg h1 h2=>rw[T] at h2;cases h2
theorem QV.He {ts:List TypeId}{ps:List PV}(h:QV P N (t::ts) ps):∃ a b,ps=a::b/\SnV P N t a/\QV P N ts b:=by
 cases h with
 | cons h1 h2=>exact⟨_,_,rfl,h1,h2⟩
theorem QV.mG {ps:List PV}(h:QV P N [] ps):ps=[]:=by cases h;rfl
end
end Go.Pv
