import Derived.MapKept
import Derived.TacticsIn
import Derived.RangeFuncRecord
import Derived.Test.YtchmoabpofnbaaaGreatD02
set_option linter.all false
namespace Go.Pv
open Go
theorem KD:∀ (l:List Nat) (c:Nat),zn l c=true↔c∈l
 | [],c=>by simp[zn]
 | b::l,c=>by
  simp only[zn]
  by_cases h:b=c
  subst h;simp
  rw[Wx h];simp only[cond_false,KD l c,List.mem_cons]
  grind
theorem abK:∀ (l:List Nat) (c:Nat),DC l c=l++[c]
 | [],c=>rfl
 | b::l,c=>by simp[DC,abK l c]
theorem NK:∀ l:List Nat,lH l=l.length
 | []=>rfl
 | _::l=>by simp[lH,NK l]
theorem WI:∀ (l:List Nat) (i:Nat),Yt l i=l[i]?
 | [],i=>by simp[Yt]
 | b::l,0=>by simp[Yt]
 | b::l,i+1=>by simp[Yt,WI l i]
theorem aeA:∀ l m:List Nat,agE l m=l++m
 | [],m=>rfl
 | b::l,m=>by simp[agE,aeA l m]
theorem Rn:∀ (n i j:Nat),(upN i n)[j]?=if j<n then some (i+j) else none
 | 0,i,j=>by simp[upN]
 | n+1,i,0=>by simp[upN]
 | n+1,i,j+1=>by
  simp only[upN,List.getElem?_cons_succ,Rn n (i+1) j]
  grind
theorem VI:∀ (n i:Nat),(upN i n).length=n
 | 0,i=>rfl
 | n+1,i=>by simp[upN,VI n (i+1)]
theorem aeB {n i b:Nat}(h:b∈upN i n):i<=b/\b<i+n:=by
 grind[List.getElem?_of_mem,Rn]
theorem TM:∀ (n i:Nat),(upN i n).Nodup
 | 0,i=>by simp[upN]
 | n+1,i=>by
  simp only[upN,List.nodup_cons];exact⟨λh=>by have:=aeB h;omega,TM n (i+1)⟩
theorem WJ:∀ l:List Nat,NG l=true->l.Nodup
 | [],_=>by simp
 | b::l,h=>by
  simp only[NG] at h
  cases T:zn l b with
  | true=>grind
  | false=>
   rw[T] at h;rw[List.nodup_cons];exact And.intro (λJ=>by grind[KD]) (WJ l h)
theorem ZR:∀ (l:List Nat) (b i:Nat),zK l b=some i->l[i]?=some b
 | [],b,i,h=>by simp[zK] at h
 | c::l,b,i,h=>by
  simp only[zK] at h
  by_cases hc:c=b
  subst hc;simp at h;subst h;simp
  rw[Wx hc] at h;simp only[cond_false] at h
  split at h
  rename_i j hj;cases h;simpa using ZR l b j hj
  cases h
theorem Eh (f:PV->PV):∀ l,BA f l=l.map f
 | []=>rfl
 | x::l=>by simp[BA,Eh f l]
theorem TN {l:List Nat}(h:l.Nodup){i j b:Nat}(hi:l[i]?=some b)(hj:l[j]?=some b):i=j:=by
 grind[List.getElem?_inj]
theorem NL {f:List Nat->PV->List Nat}(U:∀ acc v,acc.Nodup->(f acc v).Nodup/\∃ s,f acc v=acc++s):∀ (vs:List PV) (acc:List Nat),acc.Nodup->(BG f acc vs).Nodup/\∃ s,BG f acc vs=acc++s
 | [],acc,h=>⟨h,[],by simp[BG]⟩
 | v::vs,acc,h=>by
  obtain⟨h1,s,h2⟩:=U acc v h;obtain⟨T,J,I⟩:=NL U vs (f acc v) h1
  grind[BG]
theorem VJ (st:St):∀ (d:Nat) (acc:List Nat) (v:PV),acc.Nodup->(Fb st d acc v).Nodup/\∃ s,Fb st d acc v=acc++s
 | 0,acc,v,h=>⟨h,[],by simp[Fb]⟩
 | d+1,acc,v,h=>by
  have fold:=λ(vs:List PV) (acc:List Nat) (h:acc.Nodup)=>NL (f:=Fb st d) (λacc v=>VJ st d acc v) vs acc h
  have one:∀ b,(bif zn acc b then acc else DC acc b).Nodup/\∃ s,(bif zn acc b then acc else DC acc b)=acc++s:=by
   intro b
   cases T:zn acc b with
   | true=>simp_all
   | false=>
    simp only[cond_false,abK];exact⟨by grind[KD],[b],rfl⟩
  have nor:∀ b,(bif zn acc b then acc else match iV st b with|some (.nor _ _ _ row)=>BG (Fb st d) (DC acc b) row|_=>DC acc b).Nodup/\∃ s,(bif zn acc b then acc else match iV st b with|some (.nor _ _ _ row)=>BG (Fb st d) (DC acc b) row|_=>DC acc b)=acc++s:=by
   intro b;have h1:=one b
   cases T:zn acc b with
   | true=>grind
   | false=>
    rw[T] at h1;simp only[cond_false] at h1 |-
    split
    rename_i row _;obtain⟨h2,s,J⟩:=fold row _ h1.1
    grind
    exact h1
  unfold Fb
  split
  exact nor _
  exact nor _
  exact one _
  exact one _
  exact one _
  rename_i b c;have h1:=one b
  cases T:zn acc b with
  | true=>grind
  | false=>
   rw[T] at h1;simp only[cond_false] at h1 |-
   split
   rename_i row _;obtain⟨h2,s,J⟩:=fold row _ h1.1
   grind
   exact h1
  exact fold _ _ h
  exact fold _ _ h
  exact fold _ _ h
  simp_all
theorem Ro (st:St):∀ (l acc:List Nat),acc.Nodup->(UU st acc l).Nodup/\∃ s,UU st acc l=acc++s
 | [],acc,h=>⟨h,[],by simp[UU]⟩
 | b::l,acc,h=>by
  unfold UU
  split
  rename_i ro row _;obtain⟨h1,s,h2⟩:=NL (f:=Fb st 8) (λacc v=>VJ st 8 acc v) row acc h;obtain⟨T,J,I⟩:=Ro st l _ h1
  grind
  rename_i row _;obtain⟨h1,s,h2⟩:=NL (f:=Fb st 8) (λacc v=>VJ st 8 acc v) row acc h;obtain⟨T,J,I⟩:=Ro st l _ h1
  grind
  exact Ro st l acc h
theorem NM (m:Nat)(st:St)(vs:List PV):(UW m st vs).Nodup/\(∀ i,i<m->(UW m st vs)[i]?=some i)/\m<=(UW m st vs).length:=by
 obtain⟨h1,s,h2⟩:=Ro st (upN 0 m) (upN 0 m) (TM m 0);obtain⟨T,J,I⟩:=NL (f:=Fb st 8) (λacc v=>VJ st 8 acc v) vs _ h1;have e:UW m st vs=upN 0 m++(s++J):=by grind[UW]
 refine⟨T,λi hi=>?_,?_⟩
 rw[e,List.getElem?_append_left (by rw[VI];exact hi),Rn,if_pos hi];simp
 grind[VI]
theorem eQ.map {w:World}{Y:Nat->Prop}{σ σ' : Sg}{f:PV->PV}(U:∀ p v,Rep w Y σ p v->Rep w Y σ' (f p) v):∀ (ps:List PV) (vs:List Value),eQ w Y σ ps vs->eQ w Y σ' (ps.map f) vs
 | [],vs,h=>by grind[eQ]
 | p::ps,vs,h=>by
  unfold eQ at h;obtain⟨v,T,rfl,h1,h2⟩:=h;simp only[List.map_cons];unfold eQ;exact⟨v,T,rfl,U _ _ h1,eQ.map U ps T h2⟩
theorem iW.map {w:World}{Y:Nat->Prop}{σ σ' : Sg}{b:Nat}{f:PV->PV}(U:∀ p v,Rep w Y σ p v->Rep w Y σ' (f p) v):∀ (ps:List PV) (o:Nat),iW w Y σ b ps o->iW w Y σ' b (ps.map f) o
 | [],o,h=>by simp[iW]
 | p::ps,o,h=>by
  unfold iW at h;obtain⟨⟨v,hc,h1⟩,h2⟩:=h;simp only[List.map_cons];unfold iW;exact⟨⟨v,hc,U _ _ h1⟩,iW.map U ps (o+1) h2⟩
theorem AO {w:World}{Y:Nat->Prop}{σ σ' : Sg}{f:Nat->Option Nat}(U:∀ b i l,f b=some i->σ b=some l->σ' i=some l):∀ (d:Nat) (p:PV) (v:Value),Rep w Y σ p v->Rep w Y σ' (wz f d p) v
 | 0,p,v,_=>by simp[wz,Rep]
 | d+1,p,v,h=>by
  have T:=AO (w:=w) (Y:=Y) U d;unfold wz;cases p
  case os b r n=>
   grind[Rep]
  case lv b c=>
   grind[Rep]
  case lp b r c=>
   grind[Rep]
  case bo b r c hd sz n=>
   grind[Rep]
  case np b r c hd sz j k=>
   grind[Rep]
  case mp b=>
   grind[Rep]
  case agg cs=>simp only[Eh];unfold Rep at h |-;obtain⟨vs,e,h⟩:=h;exact⟨vs,e,h.map T⟩
  case Ed cs=>simp only[Eh];unfold Rep at h |-;obtain⟨vs,e,h⟩:=h;exact⟨vs,e,h.map T⟩
  case fn k cs=>simp only[Eh];unfold Rep at h |-;obtain⟨vs,e,h⟩:=h;exact⟨vs,e,h.map T⟩
  all_goals (simp only;unfold Rep at h |-;exact h)
theorem Qu {w:World}{Y:Nat->Prop}{σ σ' : Sg}{f:Nat->Option Nat}(U:∀ b i l,f b=some i->σ b=some l->σ' i=some l){l:Loc}{x y:lW}(T:Ho f (some x)=some y)(h:fF w Y σ l x):fF w Y σ' l y:=by
 cases x with
 | var ro row=>
  simp only[Ho,Option.some.injEq] at T;subst T;unfold fF at h |-;rw[Eh];obtain⟨h1,h2,C,J,I⟩:=h;exact⟨h1,by simpa using h2,by simpa using C,J.map (AO U 8) _ _,I⟩
 | arr ro sz rows=>
  grind[Ho,fF]
 | lN sz rows=>
  grind[Ho,fF]
 | map rows=>
  grind[Ho,fF]
 | nor sz rows r row=>
  simp only[Ho,Option.some.injEq] at T;subst T;unfold fF at h |-;rw[Eh];obtain⟨h1,h2,C,J,⟨I,t⟩,h7,h8,g⟩:=h;exact⟨h1,h2,C,J,⟨I,by simpa using t⟩,h7,h8.map (AO U 8) _ _,g⟩
theorem WM {f:Nat->Option Nat}{x y:lW}(h:Ho f (some y)=some x)(hy:Emp y):Emp x:=by
 cases hy<;>(simp only[Ho,Option.some.injEq] at h;subst h;constructor)
theorem abL {f:Nat->Option Nat}{x:lW}{sz:Nat}{rows:List (List PV)}(h:Ho f (some x)=some (.lN sz rows)):x=.lN sz rows:=by
 cases x<;>simp_all[Ho]
theorem TP {f:Nat->Option Nat}{o:Option lW}{y:lW}(h:Ho f o=some y):∃ x,o=some x:=by
 cases o with
 | none=>simp[Ho] at h
 | some x=>grind
theorem WN (f:Nat->Option Nat)(st:St):∀ (ρ:List Nat) (i j:Nat),iV (zq f st i ρ) j=if i<=j then(match ρ[j-i]? with|some b=>Ho f (iV st b)|none=>none) else none
 | [],i,j=>by simp[zq,iV]
 | b::ρ,i,j=>by
  simp only[zq,iV]
  by_cases h:i=j
  subst h;simp
  rw[Wx h];simp only[cond_false,WN f st ρ (i+1) j]
  grind
theorem SW.abu {T:Tab}{C:Ctx T}{w:World}{Y:Nat->Prop}{σ:Sg}{ps:List PV}{vs:List Value}{st:St}{n:Nat}(H:SW C w Y σ ps vs st n){ρ:List Nat}(hnd:ρ.Nodup)(hpre:∀ i,i<T.qc->ρ[i]?=some i)(hlen:T.qc<=ρ.length) :
  ∃ σ',SW C w Y σ' (BA (wz (zK ρ) 8) ps) vs (zq (zK ρ) st 0 ρ) (lH ρ)/\∀ p v d,Rep w Y σ p v->Rep w Y σ' (wz (zK ρ) d p) v:=by
 let σ' : Sg:=λi=>match ρ[i]? with|some b=>σ b|none=>none
 have U:∀ b i l,zK ρ b=some i->σ b=some l->σ' i=some l:=by
  intro b i l h1 h2;show(match ρ[i]? with|some b=>σ b|none=>none)=some l;rw[ZR _ _ _ h1];exact h2
 have look:∀ i x,iV (zq (zK ρ) st 0 ρ) i=some x->∃ b y,ρ[i]?=some b/\iV st b=some y/\Ho (zK ρ) (some y)=some x/\σ' i=σ b:=by
  intro i x t;rw[WN,if_pos (Nat.zero_le _),Nat.sub_zero] at t
  grind[TP]
 refine⟨σ',⟨by rw[Eh];exact H.vals.map (AO U 8),⟨λi x t=>?_,λi i' x x' l l' t hx' I hl' e=>?_⟩,λi hi=>?_,H.wB,H.y0,H.c0,H.xE,H.qo,λi x l t I=>?_,H.xG,?_,?_⟩,λp v d h=>AO U d p v h⟩
 obtain⟨b,y,h1,h2,h3,h4⟩:=look i x t;rcases H.store.blk b y h2 with ⟨l,I,hB⟩|⟨hn,hy⟩<;>grind[Qu,WM]
 obtain⟨b,y,h1,h2,h3,h4⟩:=look i x t;obtain⟨b',y',h1',h2',h3',h4'⟩:=look i' x' hx';rw[h4] at I;rw[h4'] at hl';have:=H.store.inj b b' y y' l l' h2 h2' I hl' e
 grind[TN]
 grind[NK]
 obtain⟨b,y,h1,h2,h3,h4⟩:=look i x t;rw[h4] at I;exact H.own b y l h2 I
 refine⟨by rw[NK];exact hlen,λb J=>?_⟩;show(match ρ[b]? with|some b=>σ b|none=>none)=_;rw[hpre b J];exact H.fix.2 b J
 have ow:∀ {i r c h sz g},mr (zq (zK ρ) st 0 ρ) i r c h sz g->∃ b,ρ[i]?=some b/\mr st b r c h sz g:=by
  rintro i r c h sz g ⟨sz0,rows,row,h1,h2⟩
  obtain⟨b,y,g1,g2,g3,_⟩:=look i _ h1;have:=abL g3;subst this;exact⟨b,g1,sz0,rows,row,g2,h2⟩
 refine⟨λi r c h sz g hk=>?_,λi r c h sz g hk=>?_,λi r c h sz g i' r' c' h' sz' es' hk hk' e=>?_,λi r c h sz g i' x l hk t I=>?_⟩
 obtain⟨b,_,J⟩:=ow hk;exact H.nest.rep _ _ _ _ _ _ J
 obtain⟨b,_,J⟩:=ow hk;exact H.nest.old _ _ _ _ _ _ J
 obtain⟨b,h1,J⟩:=ow hk;obtain⟨b',h1',hb'⟩:=ow hk';obtain⟨e1,e2,e3⟩:=H.nest.one _ _ _ _ _ _ _ _ _ _ _ _ J hb' e
 grind[TN]
 obtain⟨b,_,J⟩:=ow hk;obtain⟨b',y,_,g2,_,g4⟩:=look i' x t;rw[g4] at I;exact H.nest.sep _ _ _ _ _ _ _ _ _ J g2 I
theorem KF {w:World}{Y:Nat->Prop}{σ:Sg}:∀ (ps:List PV) (keep:List Nat) (i:Nat) (vs:List Value),eQ w Y σ ps vs->eQ w Y σ (PY keep i ps) vs
 | [],keep,i,vs,h=>by simpa [PY] using h
 | p::ps,[],i,vs,h=>by
  unfold eQ at h;obtain⟨v,T,rfl,h1,h2⟩:=h;simp only[PY];unfold eQ;exact⟨v,T,rfl,by simp[Rep],KF ps [] _ T h2⟩
 | p::ps,k::ks,i,vs,h=>by
  unfold eQ at h;obtain⟨v,T,rfl,h1,h2⟩:=h;simp only[PY]
  cases Nat.beq k i with
  | true=>simp only[cond_true];unfold eQ;exact⟨v,T,rfl,h1,KF ps ks _ T h2⟩
  | false=>simp only[cond_false];unfold eQ;exact⟨v,T,rfl,by simp[Rep],KF ps (k::ks) _ T h2⟩
theorem Hy {T:Tab}(keep:List Nat)(E:Env):Ent T E (IZ T.qc keep E):=by
 intro C a w hA;obtain⟨⟨Y,σ,H⟩,J⟩:=hA;have H1:=H.rH (KF _ keep 0 _ H.vals);obtain⟨h1,h2,I⟩:=NM T.qc E.st (PY keep 0 E.tmps);obtain⟨σ',t,_⟩:=H1.abu h1 h2 I;exact⟨⟨Y,σ',t⟩,J⟩
theorem abM (f:Nat->Option Nat)(st1:St):∀ (τ:List Nat) (i:Nat) (st:St) (b:Nat),τ.Nodup->(∀ j,τ[j]?=some b->iV (abv f st1 i τ st) b=Ho f (iV st1 (i+j)))/\(b ∉ τ->iV (abv f st1 i τ st) b=iV st b)
 | [],i,st,b,_=>⟨λj h=>by simp at h,λ_=>rfl⟩
 | c::τ,i,st,b,h=>by
  rw[List.nodup_cons] at h;obtain⟨h1,h2⟩:=abM f st1 τ (i+1) (nX st c (Ho f (iV st1 i))) b h.2;simp only[abv];refine⟨λj hj=>?_,λT=>?_⟩
  cases j with
  | zero=>
   simp at hj;subst hj;rw[h2 h.1,ig,if_pos rfl];rfl
  | succ j=>
   grind
  simp only[List.mem_cons,not_or] at T;rw[h2 T.2,ig,if_neg λe=>T.1 e.symm]
theorem abN {n:Nat}:∀ l,ltN n l=true->∀ b∈l,b<n
 | [],_,b,h=>by cases h
 | c::l,h,b,hb=>by
  simp only[ltN,Bool.and_eq_true,Nat.blt_eq] at h;rcases List.mem_cons.1 hb with rfl|hb
  exact h.1
  exact abN l h.2 b hb
theorem ZT {P:Program}{T:Tab}{C:Ctx T}{w:World}{Y:Nat->Prop}{σ:Sg}{E:Env}{vs:List Value}{n0 N:Nat}(H:SW C w Y σ E.tmps vs E.st n0){args:List PV}{cargs:List Value}{ρ:List Nat}{v:PV}{st1:St}{n1:Nat}
  (hnd:NG ρ=true) (hlt:ltN E.next ρ=true) (hid:T.qc<=E.next) (hwin:∀ b,E.next<=b->b<E.next+(n1-lH ρ)->σ b=none) (hN:E.next+(n1-lH ρ)<=N/\n0<=N) (hr:eQ w Y σ args cargs)
  {X:(Ending->World->Prop)->Prop} {Z:World->(Nat->Prop)->Prop} (hX:∀ R R',(∀ e w',R e w'->R' e w')->X R->X R')
  (hF:∀ σc:Sg,(∀ i b,ρ[i]?=some b->σc i=σ b)->(∀ b,lH ρ<=b->σc b=none)->eQ w Y σc (BA (wz (zK ρ) 8) args) cargs->FW w Y σc (zq (zK ρ) E.st 0 ρ) ->
   X λe w'=>∃ cv u st' t Y' σ',e=.returned cv/\(u=v/\st'=st1/\t=n1)/\SW (yS ⟨λ_=>.bad,T.gl,lH ρ,[],0,[],[],none,λ_=>[]⟩ w Y σc (zq (zK ρ) E.st 0 ρ)) w' Y' σ' [u] [cv] st' t/\Z w' Y') :
  X λe w'=>∃ cv Y' σ',e=.returned cv/\SW C w' Y' σ' E.tmps vs (F5 ρ E st1 n1).st N/\Rep w' Y' σ' (wz (Dx ρ E.next) 8 v) cv/\(∀ b,(b<E.next\/n1<=lH ρ+(b-E.next))->σ' b=σ b)/\Z w' Y':=by
 have hnd:=WJ _ hnd;have hlt:=abN _ hlt
 let σc:Sg:=λi=>match ρ[i]? with|some b=>σ b|none=>none
 have hσc:∀ i b,ρ[i]?=some b->σc i=σ b:=by
  grind
 have U:∀ b i l,zK ρ b=some i->σ b=some l->σc i=some l:=by
  grind[ZR]
 have look:∀ i x,iV (zq (zK ρ) E.st 0 ρ) i=some x->∃ b y,ρ[i]?=some b/\iV E.st b=some y/\Ho (zK ρ) (some y)=some x/\σc i=σ b:=by
  intro i x hx;rw[WN,if_pos (Nat.zero_le _),Nat.sub_zero] at hx
  grind[TP]
 have hst0:FW w Y σc (zq (zK ρ) E.st 0 ρ):=by
  refine⟨λi x hx=>?_,λi i' x x' l l' hx hx' I hl' e=>?_⟩
  obtain⟨b,y,h1,h2,h3,h4⟩:=look i x hx;rcases H.store.blk b y h2 with ⟨l,I,hB⟩|⟨hn,hy⟩<;>grind[Qu,WM]
  obtain⟨b,y,h1,h2,h3,h4⟩:=look i x hx;obtain⟨J,y',h1',h2',h3',h4'⟩:=look i' x' hx';rw[h4] at I;rw[h4'] at hl';have:=H.store.inj b J y y' l l' h2 h2' I hl' e
  grind[TN]
 have hnext:∀ b,lH ρ<=b->σc b=none:=by
  grind[NK]
 have inst:∀ k,Ff σc (zq (zK ρ) E.st 0 ρ) k->∃ b y l,b∈ρ/\iV E.st b=some y/\σ b=some l/\l.cb=k:=by
  rintro k ⟨i,x,l,hx,I,rfl⟩
  grind
 refine hX _ _ (λe w' hh=>?_) (hF σc hσc hnext (by rw[Eh];exact hr.map (AO U 8)) hst0);obtain⟨cv,u,st',t,Y',σ',rfl,⟨rfl,rfl,rfl⟩,H',hZ⟩:=hh;have hm:lH ρ<=t:=H'.fix.1;have hfix:∀ i,i<lH ρ->σ' i=σc i:=H'.fix.2;have hlen:=NK ρ
 let σn:Sg:=λb=>if b<E.next\/t<=lH ρ+(b-E.next) then σ b else σ' (lH ρ+(b-E.next))
 have hout:∀ b,(b<E.next\/t<=lH ρ+(b-E.next))->σn b=σ b:=λb h=>by
  grind
 have hbak:∀ i b,i<t->Dx ρ E.next i=some b->σn b=σ' i:=by
  intro i b hin h;unfold Dx at h;rw[WI] at h
  grind
 have hin' : ∀ i l,σ' i=some l->i<t:=λi l h=>by
  by_cases hh:i<t
  exact hh
  rw[H'.next i ae] at h;cases h
 have hfb:∀ i b l,Dx ρ E.next i=some b->σ' i=some l->σn b=some l:=λi b l h1 h2=>by grind
 have excl:∀ k,k<w.heap.size->Y' k->Y k:=by
  intro k hk hy;rcases H'.xE k hy hk with h|h
  exact h.1
  exact h.1
 have K:Keep w w' Y Y' σ σn:=by
  refine⟨λk hk hy=>H'.qo.block k hk λh=>hy h.1,excl,H'.qo.size,λb l I=>?_⟩;rw[hout b ?_];· exact I
  by_cases hh:b<E.next\/t<=lH ρ+(b-E.next)
  exact hh
  rw[hwin b ae ae] at I;cases I
 have hτ:(ρ++upN E.next (t - lH ρ)).Nodup:=by
  rw[List.nodup_append];refine⟨hnd,TM _ _,λa ha b hb e=>?_⟩;have:=hlt a ha;have:=(aeB hb).1;omega
 have hτi:∀ i b,(ρ++upN E.next (t - lH ρ))[i]?=some b->Dx ρ E.next i=some b:=by
  grind[Dx,WI,List.getElem?_append_left,Rn]
 have hnot:∀ b,b ∉ (ρ++upN E.next (t - lH ρ))->b ∉ ρ/\(b<E.next\/t<=lH ρ+(b-E.next)):=by
  intro b hb;rw[List.mem_append,not_or] at hb;refine⟨hb.1,?_⟩
  by_cases h1:b<E.next
  exact .inl h1
  refine .inr ?_
  by_cases h2:b-E.next<t - lH ρ
  exact absurd (List.mem_of_getElem? (i:=b-E.next) (by rw[Rn,if_pos h2];congr 1;omega)) hb.2
  omega
 have lk:∀ b x,iV (F5 ρ E st' t).st b=some x->(∃ i y,Dx ρ E.next i=some b/\iV st' i=some y/\Ho (Dx ρ E.next) (some y)=some x/\σn b=σ' i) \/
   (b ∉ ρ/\(b<E.next\/t<=lH ρ+(b-E.next))/\iV E.st b=some x):=by
  intro b x hx;simp only[F5,aeA] at hx;obtain⟨h1,h2⟩:=abM (Dx ρ E.next) st' (ρ++upN E.next (t - lH ρ)) 0 E.st b hτ
  by_cases hb:b∈ρ++upN E.next (t - lH ρ)
  obtain⟨i,hi⟩:=List.getElem?_of_mem hb;rw[h1 i hi,Nat.zero_add] at hx
  grind[TP,VI]
  rw[h2 hb] at hx;exact .inr ⟨(hnot b hb).1,(hnot b hb).2,hx⟩
 have nin:∀ b x l,b ∉ ρ->iV E.st b=some x->σ b=some l->¬ Ff σc (zq (zK ρ) E.st 0 ρ) l.cb:=by
  intro b x l hb hx I hi;obtain⟨J,y,l',h1,h2,h3,h4⟩:=inst _ hi;have:=H.store.inj J b y x l' l h2 hx h3 I h4
  grind
 have getσ:∀ b l,(b<E.next\/t<=lH ρ+(b-E.next))->σn b=some l->σ b=some l:=by
  grind
 have owc:∀ {b r c h sz es},mr (F5 ρ E st' t).st b r c h sz es->(∃ i,Dx ρ E.next i=some b/\mr st' i r c h sz es)\/mr E.st b r c h sz es:=by
  rintro b r c h sz es ⟨sz0,rows,row,h1,h2⟩
  rcases lk b _ h1 with ⟨i,y,g1,g2,g3,_⟩|⟨_,_,g3⟩
  have:=abL g3;subst this;exact .inl ⟨i,g1,sz0,rows,row,g2,h2⟩
  exact .inr ⟨sz0,rows,row,g3,h2⟩
 have notIn:∀ {b r c h sz es},mr E.st b r c h sz es->¬ Ff σc (zq (zK ρ) E.st 0 ρ) h.ν:=by
  intro b r c h sz es hk hi;obtain⟨J,y,l',h1,h2,h3,h4⟩:=inst _ hi;exact H.nest.sep _ _ _ _ _ _ _ _ _ hk h2 h3 h4
 have cross:∀ {i r c h sz es b r' c' h' sz' es'},mr st' i r c h sz es->mr E.st b r' c' h' sz' es'->h.ν≠h'.ν:=by
  intro i r c h sz es b r' c' h' sz' es' hk hk' e;rcases H'.nest.old _ _ _ _ _ _ hk with g|g
  have g:w.heap.size<=h.ν:=g;have:=(H.nest.rep _ _ _ _ _ _ hk').lt;omega
  rw[e] at g;exact notIn hk' g
 have nest:BB C.w0 C.L w' Y' σn (F5 ρ E st' t).st:=by
  refine⟨λb r c h sz es hk=>?_,λb r c h sz es hk=>?_,λb r c h sz es J r' c' h' sz' es' hk hk' e=>?_,λb r c h sz es J x l hk hx I=>?_⟩
  rcases owc hk with ⟨i,_,hk⟩|hk
  exact H'.nest.rep _ _ _ _ _ _ hk
  have hN:=H.nest.rep _ _ _ _ _ _ hk;exact hN.keep K.none (H'.qo.block _ hN.lt λh=>notIn hk h.2) (λh=>H'.y0 _ ⟨h,notIn hk⟩)
  rcases owc hk with ⟨i,_,hk⟩|hk
  rcases H'.nest.old _ _ _ _ _ _ hk with h|h
  exact .inl (Nat.le_trans H.qo.size h)
  obtain⟨J,y',l',h5,h6,h7,h8⟩:=inst _ h;rw[<- h8];exact H.own J y' l' h6 h7
  exact H.nest.old _ _ _ _ _ _ hk
  rcases owc hk with ⟨i,g,hk⟩|hk<;>rcases owc hk' with ⟨i',g',hk'⟩|hk'
  obtain⟨e1,e2,e3⟩:=H'.nest.one _ _ _ _ _ _ _ _ _ _ _ _ hk hk' e;subst e1;rw[g] at g';cases g';exact⟨rfl,e2,e3⟩
  exact absurd e (cross hk hk')
  grind
  exact H.nest.one _ _ _ _ _ _ _ _ _ _ _ _ hk hk' e
  rcases owc hk with ⟨i,g,hk⟩|hk<;>rcases lk J x hx with ⟨i',y,g1,g2,g3,g4⟩|⟨g1,g2,g3⟩
  exact H'.nest.sep _ _ _ _ _ _ _ _ _ hk g2 ai
  have hσ:=getσ J l g2 I;intro e
  have hlt' : l.cb<w.heap.size:=by
   rcases H.store.blk J x g3 with ⟨l2,hl2,hB⟩|⟨hn,_⟩
   rw[hσ] at hl2;cases hl2;exact hB.lt
   grind
  rcases H'.nest.old _ _ _ _ _ _ hk with h|h
  have h:w.heap.size<=_:=h;omega
  rw[<- e] at h;exact nin J x l g1 g3 hσ h
  intro e;rcases H'.own i' y l g2 ai with h|h
  have h:w.heap.size<=l.cb:=h;have:=(H.nest.rep _ _ _ _ _ _ hk).lt;omega
  rw[e] at h;exact notIn hk h
  exact H.nest.sep _ _ _ _ _ _ _ _ _ hk g3 (getσ J l g2 I)
 refine⟨cv,Y',σn,rfl,⟨eQ.keep _ K _ H.vals,⟨λb x hx=>?_,λb J x x' l l' hx hx' I hl' e=>?_⟩,λb hb=>?_,H'.wB,λk hk=>?_,H.c0,λk hk hlt=>?_,?_,λb x l hx I=>?_,H'.xG,?_,nest⟩,?_⟩
 rcases lk b x hx with ⟨i,y,h1,h2,h3,h4⟩|⟨h1,h2,h3⟩
 rcases H'.store.blk i y h2 with ⟨l,I,hB⟩|⟨hn,hy⟩
 exact .inl ⟨l,by rw[h4];exact I,Qu hfb h3 hB⟩
 exact .inr ⟨by rw[h4];exact hn,WM h3 hy⟩
 rcases H.store.blk b x h3 with ⟨l,I,hB⟩|⟨hn,hy⟩
 have hni:=nin b x l h1 h3 I;refine .inl ⟨l,K.sg b l I,fF.keep K (H'.qo.block _ hB.lt λh=>hni h.2) ⟨excl _ hB.lt,λh=>H'.y0 _ ⟨h,hni⟩⟩ hB⟩
 grind
 have side:∀ b J x x' l l',(∃ i y,Dx ρ E.next i=some b/\iV st' i=some y/\Ho (Dx ρ E.next) (some y)=some x/\σn b=σ' i)->(J ∉ ρ/\(J<E.next\/t<=lH ρ+(J - E.next))/\iV E.st J=some x') ->
   σn b=some l->σn J=some l'->l.cb=l'.cb->False:=by
  rintro b J x x' l l' ⟨i,y,h1,h2,h3,h4⟩ ⟨h5,h6,h7⟩ I hl' e
  have hσ:σ J=some l':=getσ J l' h6 hl'
  have hlt' : l'.cb<w.heap.size:=by
   rcases H.store.blk J x' h7 with ⟨l2,hl2,hB⟩|⟨hn,_⟩
   rw[hσ] at hl2;cases hl2;exact hB.lt
   grind
  rcases H'.own i y l h2 (by rw[<- h4];exact I) with h|h
  have h:w.heap.size<=l.cb:=h;omega
  rw[e] at h;exact nin J x' l' h5 h7 hσ h
 rcases lk b x hx with h|h<;>rcases lk J x' hx' with h'|h'
 obtain⟨i,y,h1,h2,h3,h4⟩:=h;obtain⟨i',y',h1',h2',h3',h4'⟩:=h';have:=H'.store.inj i i' y y' l l' h2 h2' (by rw[<- h4];exact I) ai e
 grind
 exact(side b J x x' l l' h h' I hl' e).elim
 exact(side J b x' x l' l h' h hl' I e.symm).elim
 have get:∀ b x l,(b ∉ ρ/\(b<E.next\/t<=lH ρ+(b-E.next))/\iV E.st b=some x)->σn b=some l->σ b=some l:=by
  grind
 exact H.store.inj b J x x' l l' h.2.2 h'.2.2 (get b x l h I) (get J x' l' h' hl') e
 rw[hout b ae];exact H.next b ae
 refine H'.y0 k ⟨H.y0 k hk,λhi=>?_⟩;obtain⟨b,y,l,h1,h2,h3,rfl⟩:=inst k hi;exact H.away h2 h3 hk
 exact H.xE k (excl k (Nat.lt_of_lt_of_le hlt H.qo.size) hk) hlt
 refine⟨by rw[H'.qo.os];exact H.qo.os,by rw[H'.qo.tape];exact H.qo.tape,by rw[H'.qo.output];exact H.qo.output,Nat.le_trans H.qo.size H'.qo.size,λk hk hM=>?_⟩;rw[H'.qo.block k (Nat.lt_of_lt_of_le hk H.qo.size) λh=>?_]
 exact H.qo.block k hk hM
 obtain⟨h1,h2⟩:=h;rcases H.xE k h1 hk with h3|h3
 obtain⟨b,y,l,h4,h5,h6,rfl⟩:=inst k h2;exact H.away h5 h6 h3
 exact hM h3
 rcases lk b x hx with ⟨i,y,h1,h2,h3,h4⟩|⟨h1,h2,h3⟩
 rcases H'.own i y l h2 (by rw[<- h4];exact I) with h|h
 exact .inl (Nat.le_trans H.qo.size h)
 obtain⟨J,y',l',h5,h6,h7,h8⟩:=inst _ h;rw[<- h8];exact H.own J y' l' h6 h7
 exact H.own b x l h3 (getσ b l h2 I)
 refine⟨by have:=H.fix.1;omega,λb hb=>?_⟩;rw[hout b (.inl ae)];exact H.fix.2 b hb
 have:=H'.vals
 grind[eQ,AO]
theorem ZU {P:Program}{T:Tab}{C:Ctx T}{w:World}{Y:Nat->Prop}{σ:Sg}{E:Env}{vs:List Value}{n0 N:Nat}(H:SW C w Y σ E.tmps vs E.st n0){k:Nat}{args:List PV}{J:List Value}{ρ:List Nat}{v:PV}{st1:St}{n1:Nat}
  (hnd:NG ρ=true) (hlt:ltN E.next ρ=true) (hnn:lF (zq (zK ρ) E.st 0 ρ)=true) (hid:T.qc<=E.next) (g:∀ b,E.next<=b->b<E.next+(n1-lH ρ)->σ b=none) (hN:E.next+(n1-lH ρ)<=N/\n0<=N) (hr:eQ w Y σ args J)
  (hF:FnS P T.gl k (BA (wz (zK ρ) 8) args) (zq (zK ρ) E.st 0 ρ) (lH ρ) (λu st n=>u=v/\st=st1/\n=n1)) :
  (callFunc k J.toArray).run P w=.ok (.enter k J.toArray) w /\
  Calls P k J.toArray w λe w'=>∃ cv Y' σ',e=.returned cv/\SW C w' Y' σ' E.tmps vs (F5 ρ E st1 n1).st N/\Rep w' Y' σ' (wz (Dx ρ E.next) 8 v) cv/\∀ b,(b<E.next\/n1<=lH ρ+(b-E.next))->σ' b=σ b :=
by
 have:=ZT (P:=P) (X:=λR=>(callFunc k J.toArray).run P w=.ok (.enter k J.toArray) w/\Calls P k J.toArray w R) (Z:=λ_ _=>True) H hnd hlt hid g hN hr (λ_ _ h k=>⟨k.1,Calls.mono k.2 h⟩)
  λσc _ I hra t=>by
   obtain⟨h1,h2⟩:=hF w Y σc J H.xG H.wB I hra t hnn
   simp_all;omega
 grind
theorem ahc {P:Program}{T:Tab}{C:Ctx T}{w:World}{Y:Nat->Prop}{σ:Sg}{E:Env}{vs:List Value}(H:SW C w Y σ E.tmps vs E.st E.next){k:Nat}{args:List PV}{J:List Value}{ρ:List Nat}{v:PV}{st1:St}{n1:Nat}
  (I:NG ρ=true) (g:ltN E.next ρ=true) (t:lF (zq (zK ρ) E.st 0 ρ)=true) (hr:eQ w Y σ args J)
  (hF:FnS P T.gl k (BA (wz (zK ρ) 8) args) (zq (zK ρ) E.st 0 ρ) (lH ρ) (λu st n=>u=v/\st=st1/\n=n1)) :
  (callFunc k J.toArray).run P w=.ok (.enter k J.toArray) w /\
  Calls P k J.toArray w λe w'=>∃ cv Y' σ',e=.returned cv/\SW C w' Y' σ' E.tmps vs (F5 ρ E st1 n1).st (F5 ρ E st1 n1).next/\Rep w' Y' σ' (wz (Dx ρ E.next) 8 v) cv:=by
 obtain⟨h1,h2⟩:=ZU (N:=E.next+(n1-lH ρ)) H I g t H.fix.1 (λb hb _=>H.next b hb) ⟨Nat.le_refl _,Nat.le_add_right _ _⟩ hr hF;refine⟨h1,Calls.mono h2 λe w' hh=>?_⟩;obtain⟨cv,Y',σ',e1,h3,h4,_⟩:=hh;exact⟨cv,Y',σ',e1,h3,h4⟩
theorem Jg {st:St}{b:Nat}{x:lW}(h:acY st b=some x):iV st b=some x/\x.ro=true:=by
 unfold acY at h
 split at h
 rename_i e;cases h;exact⟨e,rfl⟩
 rename_i e;cases h;exact⟨e,rfl⟩
 cases h
theorem fF.ale {w:World}{Y:Nat->Prop}{σ:Sg}{l:Loc}{x:lW}(h:fF w Y σ l x)(hr:x.ro=true):¬ Y l.cb:=by
 cases x with
 | var ro row=>unfold fF at h;exact h.2.2.2.2.2 hr
 | arr ro sz rows=>unfold fF at h;exact h.2.2.2.2.2.2 hr
 | lN sz rows=>cases hr
 | map rows=>cases hr
 | nor sz rows r row=>cases hr
theorem VK {P:Program}{T:Tab}{C:Ctx T}{w:World}{Y:Nat->Prop}{σ:Sg}{ps:List PV}{vs:List Value}{st:St}{n:Nat}(H:SW C w Y σ ps vs st n){lk:Nat->Option lW}(I:∀ b x,lk b=some x->iV st b=some x/\x.ro=true)
  {k d:Nat} {args as:List PV} {J:List Value} {v:PV}
  (hm:Ny (frz (iq.jq P T) lk d) args=some as) (hr:eQ w Y σ args J) (hF:Fn P T.gl k as (λu=>u=v)):Rl P k C Y σ w J ps vs st n v:=by
 have t:∀ b x l,lk b=some x->σ b=some l->¬ Y l.cb:=by
  intro b x l h1 h2;obtain⟨h3,h4⟩:=I b x h1;rcases H.store.blk b x h3 with ⟨l',hl',hB⟩|⟨hn,_⟩
  rw[h2] at hl';cases hl';exact hB.ale h4
  grind
 obtain⟨h1,h2⟩:=hF w Y J H.xG H.wB (Rk H.store (λb x h=>(I b x h).1) (λ_ h=>h) t (λb sz rows hb=>by have:=(I _ _ hb).2;cases this) hm hr);refine⟨h1,Calls.mono h2 λe w' h=>?_⟩;obtain⟨cv,u,rfl,rfl,hrep,g⟩:=h;exact⟨cv,rfl,H.agZ g,hrep.amu⟩
theorem SW.roS {T:Tab}{C:Ctx T}{w:World}{σ:Sg}{ps:List PV}{vs:List Value}{n:Nat}:∀ (ρ:List Nat) {Y:Nat->Prop} {st:St},SW C w Y σ ps vs st n->∃ Y',SW C w Y' σ ps vs (Pv.roS st ρ) n/\∀ k,Y' k->Y k
 | [],Y,st,H=>⟨Y,H,λ_ h=>h⟩
 | b::l,Y,st,H=>by
  unfold Pv.roS
  split
  rename_i ro row J;obtain⟨I,H1,_,h1⟩:=H.freeze J (.inl ⟨ro,row,rfl,rfl⟩);obtain⟨t,g,h2⟩:=SW.roS l H1
  grind
  rename_i ro sz rows J;obtain⟨I,H1,_,h1⟩:=H.freeze J (.inr ⟨ro,sz,rows,rfl,rfl⟩);obtain⟨t,g,h2⟩:=SW.roS l H1
  grind
  exact SW.roS l H
theorem NP {P:Program}{T:Tab}{k:Nat}{args:List PV}{E:Env}{K:PV->Env->Prop}(h:We (iq.jq P T) k args E K):UY P T k args E K:=by
 unfold We at h
 split at h
 rename_i as g;rcases h with ⟨v,hF,I⟩|⟨v,st1,n1,hF,I⟩|h
 exact UY.ahb I λC Y σ w vs J H hr=>VK H (λb x h=>Jg h) g hr hF
 intro C Y σ w vs J H hr
 have t:∀ b x l,acY E.st b=some x->σ b=some l->¬ Y l.cb:=by
  intro b x l h1 h2;obtain⟨h3,h4⟩:=Jg h1;rcases H.store.blk b x h3 with ⟨l',hl',hB⟩|⟨hn,_⟩
  rw[h2] at hl';cases hl';exact hB.ale h4
  grind
 have hr0:=Rk (P:=P) (T:=T) H.store (λb x h=>(Jg h).1) (λ_ h=>h) t (λb sz rows hb=>by have:=(Jg hb).2;cases this) g hr;have hr1:eQ w Y σ as J:=eQ.keep as (σ:=ik) (σ':=σ) ⟨λ_ _ _=>rfl,λ_ _ h=>h,Nat.le_refl _,λb l h=>by simp[ik] at h⟩ _ hr0;obtain⟨h3,h4⟩:=ahc (ρ:=[]) (v:=v) (st1:=st1) (n1:=n1) H rfl rfl rfl hr1 hF;refine⟨h3,Calls.mono h4 λe w' hh=>?_⟩;obtain⟨cv,Y',σ',rfl,H2,hv⟩:=hh;exact⟨cv,_,_,Y',σ',rfl,I,H2,hv⟩
 exact h
 rcases h with ⟨bs,v,g,hF,U,I⟩|⟨bs,v,g,hF,I⟩|⟨v,st1,n1,h1,h2,h0,hF,I⟩|h
 exact UY.ahb I λC Y σ w vs J H hr=>TL H (λ_ _ h=>h) g hr hF U
 intro C Y σ w vs J H hr;obtain⟨Y',H',hY⟩:=SW.roS (Jb args E.st) H;have K0:Keep w w Y Y' σ σ:=⟨λ_ _ _=>rfl,λk _=>hY k,Nat.le_refl _,nK.refl _⟩;obtain⟨h1,h2⟩:=VK H' (λb x h=>Jg h) g (eQ.keep _ K0 _ hr) hF;refine⟨h1,Calls.mono h2 λe w' hh=>?_⟩;obtain⟨cv,rfl,H2,hv⟩:=hh;exact⟨cv,v,_,Y',σ,rfl,I,H2,hv⟩
 intro C Y σ w vs J H hr;obtain⟨h3,h4⟩:=ahc H h1 h2 h0 hr hF;refine⟨h3,Calls.mono h4 λe w' hh=>?_⟩;obtain⟨cv,Y',σ',rfl,H2,hv⟩:=hh;exact⟨cv,_,_,Y',σ',rfl,I,H2,hv⟩
 exact h
end Go.Pv
namespace Go.Pv
open Go
theorem WO (sz:Nat):∀ (n:Nat) (l:List PV) (row:List PV),row∈chunks sz n l->∀ p∈row,p∈l
 | 0,_,_,h=>by simp[chunks] at h
 | n+1,l,row,h=>by
  simp only[chunks,List.mem_cons,NH,zL] at h;intro p T;rcases h with rfl|h
  grind
  exact List.mem_of_mem_drop (WO sz n _ row h p T)
theorem BB.re {w0 w w' : World}{L Y Y' : Nat->Prop}{σ σ' : Sg}{st st' : St}(H:BB w0 L w Y σ st)(R:Nat->Nat->Nat->Nat->Prop)
  (hR:∀ b r c h sz T,mr st' b r c h sz T->∃ b0 r0,mr st b0 r0 c h sz T/\R b r b0 r0)
  (hi:∀ b r J I b0 r0,R b r b0 r0->R J I b0 r0->b=J/\r=I)
  (hk:∀ b r c h sz T,mr st b r c h sz T->ZC w Y h sz T->ZC w' Y' h sz T)
  (hs:∀ b r c h sz T J x l,mr st b r c h sz T->iV st' J=some x->σ' J=some l->l.cb≠h.ν):BB w0 L w' Y' σ' st':=by
 refine⟨λb r c h sz T k=>?_,λb r c h sz T k=>?_,λb r c h sz T J I c' h' t es' k C e=>?_,λb r c h sz T J x l k hx hl=>?_⟩
 obtain⟨b0,r0,k0,_⟩:=hR _ _ _ _ _ _ k;exact hk _ _ _ _ _ _ k0 (H.rep _ _ _ _ _ _ k0)
 obtain⟨b0,r0,k0,_⟩:=hR _ _ _ _ _ _ k;exact H.old _ _ _ _ _ _ k0
 obtain⟨b0,r0,k0,g0⟩:=hR _ _ _ _ _ _ k;obtain⟨b1,r1,k1,g1⟩:=hR _ _ _ _ _ _ C;obtain⟨e1,e2,g⟩:=H.one _ _ _ _ _ _ _ _ _ _ _ _ k0 k1 e
 grind
 grind
theorem SW.retag {T:Tab}{C:Ctx T}{w:World}{Y:Nat->Prop}{σ:Sg}{ps:List PV}{vs:List Value}{st st' : St}{n:Nat}(H:SW C w Y σ ps vs st n)
  (J:∀ b x,iV st' b=some x->∃ x0,iV st b=some x0/\(x=x0\/∃ sz rows l,x0=.arr false sz rows/\x=.lN sz rows/\σ b=some l)) (t:BB C.w0 C.L w Y σ st'):SW C w Y σ ps vs st' n:=by
 refine⟨H.vals,⟨?_,?_⟩,H.next,H.wB,H.y0,H.c0,H.xE,H.qo,?_,H.xG,H.fix,t⟩
 intro b x g;obtain⟨x0,h0,e⟩:=J b x g;rcases e with rfl|⟨sz,rows,l,rfl,rfl,hl⟩
 exact H.store.blk b x h0
 rcases H.store.blk b _ h0 with ⟨l',I,hB⟩|⟨hn,_⟩
 refine .inl ⟨l',I,?_⟩;unfold fF at hB |-
 grind
 grind
 intro b b' x x' l l' g hx' hl I e;obtain⟨_,h0,_⟩:=J b x g;obtain⟨_,h0',_⟩:=J b' x' hx';exact H.store.inj _ _ _ _ _ _ h0 h0' hl I e
 intro b x l g hl;obtain⟨_,h0,_⟩:=J b x g;exact H.own _ _ _ h0 hl
section
variable {P:Program}{T:Tab}(hT:iZ P T){C:Ctx T}{o:Oper}{a:Act}{w:World}{Y:Nat->Prop}{σ:Sg}{ps:List PV}{st:St}{n id:Nat}{K:PV->Dl->Prop}{lk:Nat->Option lW}
 (H:SW C w Y σ ps a.tmps.toList st n) (hlk:∀ b x,lk b=some x->iV st b=some x) (hid:σ id=none/\T.qc<=id)
include hT H hlk hid in
theorem ajt {t:TypeId}{len:Nat}{parts:Array (Nat×Operand)}(ho:o.op=.buildSlice t len parts)(hE:oH T (iq.jq P T) (.buildSlice t len parts) ps lk id K->qL P C o a w σ ps st n id K)(h:ak0 T (iq.jq P T) t len parts ps lk id K):qL P C o a w σ ps st n id K:=by
 unfold ak0 at h
 split at h
 ·rename_i agg size z0 plain esz bytes z e;obtain⟨et,hu,rfl,_,hz⟩:=mQ hT e
  cases hb:(lC (P.cellsOf et)&&Nat.beq (oq z) (P.cellsOf et)&&Nat.ble (len*P.cellsOf et) 16777216&&FU (evP T ps parts.toList)) with
  | false=>rw[hb] at h;exact h.elim
  | true=>
   rw[hb] at h;simp only[cond_true] at h;simp only[Bool.and_eq_true,wE] at hb;obtain⟨⟨⟨g,hb2⟩,hb3⟩,hb4⟩:=hb
   have hpos:0<P.cellsOf et:=by
    rcases Nat.eq_zero_or_pos (P.cellsOf et) with h0|h0
    rw[h0] at g;simp[lC] at g
    exact h0
   have hzl:=Nat.eq_of_beq_eq_true hb2;have hle:=Nat.le_of_ble_eq_true hb3
   split at h
   ·rename_i U
    cases hb5:Nat.beq (P.cellsOf et) 1 with
    | false=>rw[hb5] at h;exact h.elim
    | true=>
    rw[hb5] at h;simp only[cond_true] at h;have hone:=Nat.eq_of_beq_eq_true hb5;obtain⟨vcs,hrep,hvl,hrun⟩:=wV hT H ho hu hz g hzl hle hb4 U;have hvl0:vcs.size=0:=by simpa using hvl
    obtain⟨Y2,σ2,H2,J,hoff⟩:=SW.VH (a:=a) (m:=0) (arr:=vcs) (rows:=[]) (sz:=1) (x:=.lN 1 []) H hid (.inr ⟨rfl,by simp⟩) et ae aj (by simpa using hvl0) (by
     intro w' Y' _ _;simp[je])
    exact⟨_,_,_,_,Y2,σ2,h,.inl hrun,by simp only[jr,ve];exact H2,J,hoff⟩
   ·rename_i b r m U
    cases hb5:Nat.beq (P.cellsOf et) 1 with
    | false=>rw[hb5] at h;exact h.elim
    | true=>
    rw[hb5] at h;simp only[cond_true] at h;have hone:=Nat.eq_of_beq_eq_true hb5
    split at h
    ·rename_i sz rows hbk;obtain⟨vcs,hrep,hvl,hrun⟩:=wV hT H ho hu hz g hzl hle hb4 U;have hst:=hlk _ _ hbk;unfold eQ at hrep;obtain⟨v,vs',hvs,hv,hnil⟩:=hrep;unfold eQ at hnil;subst hnil;have hvl1:vcs.size=1:=by rw[hvl,hone]
     have hv0:vcs[0]?=some v:=by rw[<- Array.getElem?_toList,hvs];rfl
     obtain⟨I,hwv,hloc⟩:∃ I:Hdr,Rep w Y ik (.ow I sz ((rows.drop r).take m)) v/\(I.cap≠0->∃ l,σ b=some l/\I.ν=l.cb/\I.o=l.co+r*l.sz/\I.o+I.cap*l.sz=l.tot/\((rows.drop r).take m).length<=I.cap):=by
      unfold Rep at hv;rcases hv with ⟨l2,cap,hl2,ey2,hcap,htot,hrm⟩|⟨hm1,a0,ey2⟩
      have hB2:fF w Y σ l2 (.arr false sz rows):=fF.zN H hlk hbk hl2;unfold fF at hB2;obtain⟨_,hsz2,hpos2,⟨hle2,hnr2⟩,hrows2,hm2,_⟩:=hB2;have hlen:((rows.drop r).take m).length=m:=by rw[List.length_take,List.length_drop];omega
      refine⟨⟨l2.cb,l2.co+r*l2.sz,cap⟩,?_,λ_=>⟨l2,hl2,rfl,rfl,htot,by rw[hlen];exact hcap.1⟩⟩;unfold Rep
      by_cases hm0:m=0
      by_cases hc0:cap=0
      subst hm0 hc0;exact .inr ⟨rfl,by simp,_,ey2⟩
      exact .inl ⟨hc0,by rw[hlen];exact ey2,by rw[hlen];exact hcap.1,hcap.2⟩
      exact .inl ⟨by have:=hcap.1;show cap≠0;omega,by rw[hlen];exact ey2,by rw[hlen];exact hcap.1,hcap.2⟩
      subst hm1;refine⟨⟨0,0,0⟩,?_,λh=>absurd rfl h⟩;unfold Rep;exact .inr ⟨rfl,by simp,a0,ey2⟩
     cases hbi:Nat.beq b id with
     | true=>rw[hbi] at h;exact h.elim
     | false=>
     rw[hbi] at h;have hbid:b≠id:=λe=>by subst e;rw[Nat.beq_refl] at hbi;cases hbi
     generalize hes:(rows.drop r).take m=es at hwv hloc;have h:∀ I,K (.os id 0 1) [(b,none),(id,some (.lN 1 [[.ow I sz ((rows.drop r).take m)]]))]:=h;rw[hes] at h
     obtain⟨Y2,σ2,H2,J,hoff⟩:=SW.ZP (a:=a) (m:=1) (arr:=vcs) (rows:=[[.ow I sz es]]) (sz:=1) H hid et ae aj ae (by
      intro w' Y' hk hb;unfold je;refine⟨⟨rfl,rfl⟩,?_,by unfold je;trivial⟩;rw[iW.iff];intro i p hi
      cases i with
      | zero=>
       simp only[List.getElem?_cons_zero,Option.some.injEq] at hi;subst hi;exact⟨v,by rw[cell_of_block hb];simpa using hv0,hk _ _ hwv⟩
      | succ i=>simp at hi)
     have g:iV (nX st id (some (.arr false 1 [[.ow I sz es]]))) b=some (.arr false sz rows):=by rw[ig,if_neg (λe=>hbid e.symm)];exact hst
     have look:∀ c x,iV (nX (nX st b none) id (some (.lN 1 [[.ow I sz es]]))) c=some x->(c=id/\x=.lN 1 [[.ow I sz es]])\/(c≠id/\c≠b/\iV (nX st id (some (.arr false 1 [[.ow I sz es]]))) c=some x):=by
      intro c x hx;rw[ig] at hx
      by_cases hc:id=c
      rw[if_pos hc] at hx;cases hx;exact .inl ⟨hc.symm,rfl⟩
      rw[if_neg hc,ig] at hx
      by_cases hc2:b=c
      rw[if_pos hc2] at hx;cases hx
      rw[if_neg hc2] at hx;exact .inr ⟨λe=>hc e.symm,λe=>hc2 e.symm,by rw[ig,if_neg hc];exact hx⟩
     have hidl:∃ l,σ2 id=some l:=by
      unfold Rep at J;rcases J with ⟨l,_,hl,_⟩|⟨h0,_⟩
      exact⟨l,hl⟩
      cases h0
     obtain⟨lid,hlid⟩:=hidl
     have ow:∀ {b' r' c' h' sz2 es'},mr (nX (nX st b none) id (some (.lN 1 [[.ow I sz es]]))) b' r' c' h' sz2 es' ->
       (b'=id/\r'=0/\c'=0/\h'=I/\sz2=sz/\es'=es/\I.cap≠0)\/(b'≠id/\mr (nX st id (some (.arr false 1 [[.ow I sz es]]))) b' r' c' h' sz2 es'):=by
      rintro b' r' c' h' sz2 es' ⟨sz0,rs,rw0,g1,g2,g3,g4⟩
      rcases look _ _ g1 with ⟨e0,g5⟩|⟨e1,e2,g1⟩
      cases g5
      cases r' with
      | succ r'=>simp at g2
      | zero=>
       simp only[List.getElem?_cons_zero,Option.some.injEq] at g2;subst g2
       cases c' with
       | succ c'=>simp at g3
       | zero=>
        simp only[List.getElem?_cons_zero,Option.some.injEq,PV.ow.injEq] at g3;obtain⟨f1,f2,f3⟩:=g3;subst f1 f2 f3;exact .inl ⟨e0,rfl,rfl,rfl,rfl,rfl,g4⟩
      exact .inr ⟨e1,⟨sz0,rs,rw0,g1,g2,g3,g4⟩⟩
     have nr:I.cap≠0->∃ l,σ2 b=some l/\I.ν=l.cb/\ZC (w.alloc (.cells vcs et)) Y2 I sz es:=by
      intro hne;obtain⟨l,hl,g1,g2,g3,g4⟩:=hloc hne;have hl2:σ2 b=some l:=by rw[hoff b hbid];exact hl
      refine⟨l,hl2,g1,?_⟩;have hB2:fF (w.alloc (.cells vcs et)) Y2 σ2 l (.arr false sz rows):=fF.zN H2 (λ_ _ h=>h) g hl2;unfold fF at hB2;obtain⟨⟨arr2,ty2,ha2,has2⟩,hsz2,hpos2,_,hrows2,hm2,_⟩:=hB2;rw[hsz2] at g2 g3;refine⟨by rw[g1];exact hm2 rfl,hpos2,⟨arr2,ty2,by rw[g1];exact ha2,by rw[has2,g3]⟩,g4,?_⟩;rw[g1,g2,<- hes];exact(hrows2.drop r _ _).take m _ _
     refine⟨_,_,_,_,Y2,σ2,h I,.inl hrun,?_,J,hoff⟩;simp only[jr,ve];refine H2.retag (λc x hx=>?_) ⟨λb' r' c' h' sz2 es' hh=>?_,λb' r' c' h' sz2 es' hh=>?_,λb' r' c' h' sz2 es' b2 r2 c2 h2 sz3 es3 hh hh' e=>?_,λb' r' c' h' sz2 es' b2 x l' hh hx hl'=>?_⟩
     rcases look _ _ hx with ⟨rfl,rfl⟩|⟨_,_,hx⟩
     exact⟨_,by rw[ig,if_pos rfl],.inr ⟨_,_,lid,rfl,rfl,hlid⟩⟩
     exact⟨_,hx,.inl rfl⟩
     rcases ow hh with ⟨_,_,_,rfl,rfl,rfl,hne⟩|⟨_,hh⟩
     exact(nr hne).choose_spec.2.2
     exact H2.nest.rep _ _ _ _ _ _ hh
     rcases ow hh with ⟨_,_,_,rfl,rfl,rfl,hne⟩|⟨_,hh⟩
     obtain⟨l,hl,g1,_⟩:=nr hne;rw[g1];exact H2.own b _ l g hl
     exact H2.nest.old _ _ _ _ _ _ hh
     rcases ow hh with ⟨e1,e2,e3,e4,_,_,hne⟩|⟨k1,hh1⟩<;>rcases ow hh' with ⟨f1,f2,f3,f4,_,_,hne'⟩|⟨k2,hh2⟩
     exact⟨by rw[e1,f1],by rw[e2,f2],by rw[e3,f3]⟩
     obtain⟨l,hl,g1,_⟩:=nr hne;exact absurd (by rw[<- e,e4,g1]) (H2.nest.sep _ _ _ _ _ _ _ _ _ hh2 g hl)
     obtain⟨l,hl,g1,_⟩:=nr hne';exact absurd (by rw[e,f4,g1]) (H2.nest.sep _ _ _ _ _ _ _ _ _ hh1 g hl)
     exact H2.nest.one _ _ _ _ _ _ _ _ _ _ _ _ hh1 hh2 e
     have hx2:b2≠b/\∃ z,iV (nX st id (some (.arr false 1 [[.ow I sz es]]))) b2=some z:=by
      rcases look _ _ hx with ⟨rfl,_⟩|⟨_,e2,hx⟩
      exact⟨λe=>hbid e.symm,_,by rw[ig,if_pos rfl]⟩
      exact⟨e2,_,hx⟩
     obtain⟨hxi,z,hz⟩:=hx2;rcases ow hh with ⟨_,_,_,rfl,_,_,hne⟩|⟨_,hh⟩
     obtain⟨l,hl,g1,_⟩:=nr hne;rw[g1];exact λe=>hxi (H2.store.inj b2 b z _ l' l hz g hl' hl e)
     exact H2.nest.sep _ _ _ _ _ _ _ _ _ hh hz hl'
    exact h.elim
   rename_i len _ _ cs _ _ U
   split at h
   rename_i nn hnn hnil
   split at h
   rename_i cs0 hpur;obtain⟨vcs,hrep,hvl,hrun⟩:=wV hT H ho hu hz g hzl hle hb4 U;have hr2:=ZG nn _ _ (Q7 hpur hrep);have hcsl:(owZ nn cs0).length=len*P.cellsOf et:=by rw[ZH,VG _ _ _ hpur,KA _ _ _ _ U,xX,hzl]
   have hch:(chunks (P.cellsOf et) len (owZ nn cs0)).length=len:=xh _ _ _
   obtain⟨Y2,σ2,H2,J,hoff⟩:=SW.VH (a:=a) (m:=len) (arr:=vcs) (rows:=chunks (P.cellsOf et) len (owZ nn cs0)) (x:=.lN (P.cellsOf et) (chunks (P.cellsOf et) len (owZ nn cs0))) H hid (.inr ⟨rfl,λi row j I sz' es hi hj=>by
    have hm:=WO _ _ _ _ (List.mem_of_getElem? hi) _ (List.mem_of_getElem? hj);obtain⟨k,hk⟩:=List.getElem?_of_mem hm;exact TE (Wy _ _ _ hpur) k hk⟩) et hpos ⟨by omega,Nat.le_trans (Nat.le_mul_of_pos_right len hpos) (Nat.le_trans hle aJ)⟩ hvl (by
    intro w' Y' hk hb;refine iW.chunks len (owZ nn cs0) 0 ?_ (by rw[Ws];exact(Rh _ _ _ hpur).1) ae;rw[iW.iff];intro i p hi;obtain⟨v,hv,hp'⟩:=hr2.get? hi;exact⟨v,by rw[cell_of_block hb];simpa using hv,hk _ _ hp'⟩)
   rw[hch] at J;exact⟨_,_,_,_,Y2,σ2,h,.inl hrun,by simp only[jr,ve];exact H2,J,hoff⟩
   exact h.elim
   exact hE h
   exact h.elim
 exact h.elim
include hT H hlk hid in
theorem aju {args:Array Operand}{ts:Array TypeId}{t u:TypeId}{tl:List TypeId}{b r m c:Nat}(ho:o.op=.call { callee:=.builtin .append,args:=args,argTypes:=ts })(he:evA T ps args.toList=[.os b r m,.os c 0 1])(ht:ts.toList=t::u::tl)
  (h:ak1 T (iq.jq P T) t u b r m c lk id K):qL P C o a w σ ps st n id K:=by
 have hargs:=wF H args.toList;unfold ak1 at h;generalize hvs:args.toList.map a.eval=vs at hargs;rw[he] at hargs;obtain⟨sv,xv,rfl,hs,hx⟩:=Rj hargs;have ht':=U2 ht;subst ht'
 split at h
 ·rename_i a1 s1 z1 p1 esz bytes z a2 s2 z2 p2 k1 k2 k3 e1 e2;obtain⟨et,hu,rfl,rfl,hz⟩:=mQ hT e1;obtain⟨eu,hu2,_⟩:=mQ hT e2
  split at h
  ·rename_i sz rows sz' row hbk hck
   cases hb:(lC (P.cellsOf et)&&Nat.beq (oq z) (P.cellsOf et)&&Nat.beq sz (P.cellsOf et)&&Nat.beq sz' (P.cellsOf et)&&(bif Nat.beq b c then false else bif Nat.beq b id then false else bif Nat.beq c id then false else true)) with
   | false=>rw[hb] at h;exact h.elim
   | true=>
    rw[hb] at h;simp only[cond_true] at h;rw[Bool.and_eq_true,Bool.and_eq_true,Bool.and_eq_true,Bool.and_eq_true,wE] at hb;obtain⟨⟨⟨⟨hb1,hb2⟩,hb3⟩,hb4⟩,hb5⟩:=hb;have hinf:=kU hb1;have hzl:=Nat.eq_of_beq_eq_true hb2;have hsz:=Nat.eq_of_beq_eq_true hb3;have hsz':=Nat.eq_of_beq_eq_true hb4;subst hsz hsz'
    have hne:b≠c/\b≠id/\c≠id:=by
     refine⟨λe=>?_,λe=>?_,λe=>?_⟩
     subst e;rw[Nat.beq_refl] at hb5;cases hb5
     subst e;rw[Nat.beq_refl] at hb5;cases hq:Nat.beq b c<;>rw[hq] at hb5<;>cases hb5
     subst e;rw[Nat.beq_refl] at hb5;cases hq:Nat.beq b c<;>rw[hq] at hb5<;>(first|cases hb5|(cases hq2:Nat.beq b c<;>simp_all))
    have hpos:0<P.cellsOf et:=by
     rcases Nat.eq_zero_or_pos (P.cellsOf et) with h0|h0
     rw[h0] at hb1;simp[lC] at hb1
     exact h0
    cases hi:P.info? et with
    | none=>exact absurd hi hinf
    | some inf=>
    have hbe:=Qs hi;obtain⟨g1,g2,h⟩:=h;have g1:(2*(m+1)+192)*P.bytesOf et<=140737488355328:=g1;have g2:m+1<=4611686018427387904:=g2;have h:K (.os id 0 (m+1)) [(b,none),(c,none),(id,some (.lN (P.cellsOf et) ((rows.drop r).take m++[row])))]:=h;have hst:=hlk _ _ hbk;have hsc:=hlk _ _ hck
    obtain⟨lc,capc,hlc,rfl,_,_,_⟩:∃ l cap,σ c=some l/\xv=.slice (some ⟨l.cb,l.co+0*l.sz,none⟩) 1 cap/\1<=cap/\l.co+0*l.sz+cap*l.sz=l.tot/\0+1<=l.nr:=by
     unfold Rep at hx;rcases hx with ⟨l,cap,h1,h2,h3,h4,h5⟩|⟨h0,_⟩
     exact⟨l,cap,h1,h2,h3.1,h4,h5⟩
     cases h0
    have hBc:fF w Y σ lc (.lN (P.cellsOf et) [row]):=fF.zN H hlk hck hlc;unfold fF at hBc;obtain⟨_,_,_,_,hrowc,_⟩:=hBc;obtain⟨vs,⟨v1,hone⟩,v2,htr⟩:=hrowc.vals
    have hvs2:vs.length=1*P.cellsOf et/\(vs=[]\/∃ b o,some (⟨lc.cb,lc.co+0*lc.sz,none⟩:Addr)=some ⟨b,o,none⟩/\∀ i v,vs[i]?=some v->w.cell? ⟨b,o+i,none⟩=some v) :=
     ⟨by simpa using v1,.inr ⟨lc.cb,lc.co+0*lc.sz,rfl,by simpa using v2⟩⟩
    have look:∀ (x:lW) d y,iV (nX (nX (nX st b none) c none) id (some x)) d=some y->(d=id/\y=x)\/(d≠id/\d≠b/\d≠c/\iV st d=some y):=by
     intro x d y hy;rw[ig] at hy
     by_cases h1:id=d
     rw[if_pos h1] at hy;cases hy;exact .inl ⟨h1.symm,rfl⟩
     rw[if_neg h1,ig] at hy
     by_cases h2:c=d
     rw[if_pos h2] at hy;cases hy
     rw[if_neg h2,ig] at hy
     by_cases h3:b=d
     rw[if_pos h3] at hy;cases hy
     rw[if_neg h3] at hy;exact .inr ⟨λe=>h1 e.symm,λe=>h3 e.symm,λe=>h2 e.symm,hy⟩
    let R:Nat->Nat->Nat->Nat->Prop:=λd k d0 k0=>(d=id/\d0=b/\k0=r+k/\k<((rows.drop r).take m).length)\/(d=id/\d0=c/\k0=0/\k=((rows.drop r).take m).length)\/(d≠id/\d≠b/\d≠c/\d0=d/\k0=k)
    have hRi:∀ d k d' k' d0 k0,R d k d0 k0->R d' k' d0 k0->d=d'/\k=k':=by
     intro d k d' k' d0 k0 h1 h2;have hn1:=hne.1;rcases h1 with ⟨a1,a2,a3,a4⟩|⟨a1,a2,a3,a4⟩|⟨a1,a2,a3,a4,a5⟩<;>rcases h2 with ⟨c1,c2,c3,c4⟩|⟨c1,c2,c3,c4⟩|⟨c1,c2,c3,c4,c5⟩<;>first|(exact⟨by omega,by omega⟩)|(exfalso;omega)
    have hRo:∀ d k j h' s2 es,mr (nX (nX (nX st b none) c none) id (some (.lN (P.cellsOf et) ((rows.drop r).take m++[row])))) d k j h' s2 es->∃ d0 k0,mr st d0 k0 j h' s2 es/\R d k d0 k0:=by
     rintro d k j h' s2 es ⟨sz0,rs,rw0,q1,q2,q3,q4⟩
     rcases look _ _ _ q1 with ⟨e0,e5⟩|⟨e1,e2,e3,e4⟩
     cases e5
     by_cases hk:k<((rows.drop r).take m).length
     rw[List.getElem?_append_left hk] at q2;refine⟨b,r+k,⟨_,rows,rw0,hst,?_,q3,q4⟩,.inl ⟨e0,rfl,rfl,hk⟩⟩;rw[List.getElem?_take,List.getElem?_drop] at q2
     split at q2
     exact q2
     cases q2
     rw[List.getElem?_append_right ae] at q2
     have hk2:k=((rows.drop r).take m).length:=by
      by_cases I:k-((rows.drop r).take m).length=0
      omega
      obtain⟨i,hi2⟩:∃ i,k-((rows.drop r).take m).length=i+1:=⟨_,(Nat.succ_pred_eq_of_ne_zero I).symm⟩;rw[hi2] at q2;simp at q2
     refine⟨c,0,⟨_,[row],rw0,hsc,?_,q3,q4⟩,.inr (.inl ⟨e0,rfl,rfl,hk2⟩)⟩;rw[hk2] at q2;simpa using q2
     exact⟨d,k,⟨sz0,rs,rw0,e4,q2,q3,q4⟩,.inr (.inr ⟨e1,e2,e3,rfl,rfl⟩)⟩
    have hml' : ((rows.drop r).take m++[row]).length=((rows.drop r).take m).length+1:=by simp
    have hB' : (∃ l,σ b=some l/\fF w Y σ l (.arr false (P.cellsOf et) rows))\/(σ b=none/\Emp (.arr false (P.cellsOf et) rows)):=by
     rcases H.store.blk b _ hst with ⟨J,hlb,hB⟩|⟨hn,e0⟩
     refine .inl ⟨J,hlb,?_⟩;unfold fF at hB |-;exact⟨hB.1,hB.2.1,hB.2.2.1,hB.2.2.2.1,hB.2.2.2.2.1,λ_=>hB.2.2.2.2.2,λe=>by cases e⟩
     cases e0;exact .inr ⟨hn,.arr _ _⟩
    obtain⟨sx,cap,rfl,hmc,hml,hr⟩:=Je hs hB'
    by_cases hgrow:m+1<=cap
     
    unfold Rep at hs;rcases hs with ⟨J,cap',hlb,e,⟨_,hc63⟩,htot,hnr⟩|⟨rfl,sx',e⟩
    cases e
    have hB:fF w Y σ J (.lN (P.cellsOf et) rows):=by
     rcases H.store.blk b _ hst with ⟨l',g,I⟩|⟨hn,_⟩
     rw[hlb] at g;cases g;exact I
     rw[hlb] at hn;cases hn
    unfold fF at hB;obtain⟨⟨arr,tyb,ha,has⟩,hlsz,_,⟨hle,hlnr⟩,hrows,hm⟩:=hB;rw[hlsz] at htot
    have hbnd:J.co+r*P.cellsOf et+(m+1)*P.cellsOf et<=arr.size:=by
     rw[has,<- htot];have:=Nat.mul_le_mul_right (P.cellsOf et) hgrow;omega
    obtain⟨w',hrun,W⟩:=vg (P:=P) (o:=J.co+r*P.cellsOf et+m*P.cellsOf et) vs 0 w arr ha bJ hone;have W:Wrote w w' J.cb (J.co+r*P.cellsOf et+m*P.cellsOf et) arr tyb vs:=by simpa using W
    obtain⟨arr',h4,h5,h6⟩:=W.blk
    obtain⟨σ',H',hid',hoff⟩:=H.ac6 hid (x':=.arr false (P.cellsOf et) ((rows.drop r).take m++[row])) (l':=⟨J.cb,J.co+r*P.cellsOf et,P.cellsOf et,J.tot,m+1⟩) hst (λ_ _ e=>by cases e) hlb hm rfl W.os W.tape W.output W.size W.other (by
     intro σ' _ hk;unfold fF;refine⟨⟨arr',tyb,h4,by rw[h5,has]⟩,rfl,hpos,⟨by rw[hml',<- hml];show J.co+r*P.cellsOf et+(m+1)*P.cellsOf et<=J.tot;omega,by rw[hml',<- hml]⟩,?_,λ_=>hm,λh=>by cases h⟩;refine je.app _ _ _ ?_ ?_
     obtain⟨us,⟨u1,_⟩,u2,u3⟩:=((hrows.drop r _ _).take m _ _).vals;refine u3 w' Y ik J.cb _ hk (λi v hv=>?_);have hc:=u2 i v hv;rw[cell_of_block ha] at hc
     have hilt:i<us.length:=by
      by_cases I:i<us.length
      exact I
      rw[List.getElem?_eq_none (Nat.le_of_not_lt I)] at hv;cases hv
     rw[u1,<- hml] at hilt;show w'.cell? ⟨J.cb,J.co+r*P.cellsOf et+i,none⟩=some v;rw[cell_of_block h4,h6,if_neg ae];exact hc
     refine htr w' Y ik J.cb _ hk (λi v hv=>?_)
     have hilt:i<vs.length:=by
      by_cases I:i<vs.length
      exact I
      rw[List.getElem?_eq_none (Nat.le_of_not_lt I)] at hv;cases hv
     show w'.cell? ⟨J.cb,J.co+r*P.cellsOf et+((rows.drop r).take m).length*P.cellsOf et+i,none⟩=some v;rw[<- hml,cell_of_block h4,h6,if_pos ae];rw[show J.co+r*P.cellsOf et+m*P.cellsOf et+i-(J.co+r*P.cellsOf et+m*P.cellsOf et)=i by omega];exact hv)
    have H2:SW C w' Y σ' ps a.tmps.toList (nX (nX (nX st b none) c none) id (some (.lN (P.cellsOf et) ((rows.drop r).take m++[row])))) (max n (id+1)):=by
     have K0:Keep w w' Y Y ik ik:=⟨λk _ hy=>W.other k (λe=>hy (e ▸ hm)),λ_ _ h=>h,Nat.le_of_eq W.size.symm,nK.refl _⟩;have notl:∀ {b' r' c' h' sz2 es'},mr st b' r' c' h' sz2 es'->h'.ν≠J.cb:=λI=>(H.nest.sep _ _ _ _ _ _ _ _ _ I hst hlb).symm;refine H'.retag (λd x hx=>?_) (H.nest.re R hRo hRi (λ_ _ _ _ _ _ I hN=>hN.keep K0 (W.other _ (notl I)) (λh=>h)) λd k j h' s2 es d' x l' I hx g=>?_)
     rcases look _ _ _ hx with ⟨rfl,rfl⟩|⟨e1,e2,e3,e4⟩
     exact⟨_,by rw[ig,if_pos rfl],.inr ⟨_,_,_,rfl,rfl,hid'⟩⟩
     exact⟨x,by rw[ig,if_neg (λe=>e1 e.symm),ig,if_neg (λe=>e2 e.symm)];exact e4,.inl rfl⟩
     rcases look _ _ _ hx with ⟨rfl,rfl⟩|⟨e1,e2,e3,e4⟩
     rw[hid'] at g;cases g;show J.cb≠_;exact H.nest.sep _ _ _ _ _ _ _ _ J I hst hlb
     exact H.nest.sep _ _ _ _ _ _ _ _ _ I e4 (by rw[<- hoff d' e1];exact g)
    refine rY ho (δ:=_) (cv:=.slice (some ⟨J.cb,J.co+r*J.sz,none⟩) (m+1) cap) (w':=w') (Y':=Y) (σ':=σ') (λty cs=>?_) (by simp only[jr,ve];exact H2) ?_ hoff h
    rw[hvs];have:=LH (P:=P) (w:=w) (ts:=tl) (ty:=ty) (x:=some ⟨J.cb,J.co+r*J.sz,none⟩) (sl:=m) (sc:=cap) (yc:=capc) (w':=w') hu hu2 hinf hvs2 hgrow (λb o e=>by cases e;rw[hlsz];exact hrun) (λh=>by cases h) (λa h=>by cases h;rfl);simp only[builtin,Sem.run_bind];rw[this];rfl
    unfold Rep;refine .inl ⟨_,cap,hid',?_,⟨hgrow,hc63⟩,?_,?_⟩
    rw[hlsz];simp
    simp;omega
    show 0+(m+1)<=m+1;omega
    cases e;omega
     
    have hold:∃ us:List Value,(us.length=m*P.cellsOf et/\(us=[]\/∃ b o,sx=some ⟨b,o,none⟩/\∀ i v,us[i]?=some v->w.cell? ⟨b,o+i,none⟩=some v)) /\
      (∀ (w' : World) (Y' : Nat->Prop) (b' o' : Nat),(∀ p v,Rep w Y ik p v->Rep w' Y' ik p v)->(∀ i v,us[i]?=some v->w'.cell? ⟨b',o'+i,none⟩=some v)->je w' Y' ik b' (P.cellsOf et) ((rows.drop r).take m) o'):=by
     rcases hr with hr|⟨b',o',e,_,_,hr⟩
     rw[hr] at hml |-;refine⟨[],⟨by rw[hml];simp,.inl rfl⟩,λ_ _ _ _ _ _=>by simp[je]⟩
     obtain⟨us,⟨u1,_⟩,u2,u3⟩:=hr.vals;exact⟨us,⟨by rw[u1,<- hml],.inr ⟨b',o',e,u2⟩⟩,λw' Y' b' o' hk hc=>u3 w' Y' ik b' o' hk hc⟩
    obtain⟨us,hus,hutr⟩:=hold
    obtain⟨cv,w',Y',σ',hrun,H',hrep,hoff⟩:=LG (P:=P) (a:=a) (ty:=0) (x:=sx) (sc:=cap) (us:=us) (vs:=vs) (old:=(rows.drop r).take m) (new:=[row]) (ts:=tl) (yc:=capc) H hid hu hu2 hi hz.symm hpos hzl (sl:=m) hus hvs2 hml rfl
     (λw' Y' b' hk hc=>by
      refine je.app _ _ _ (hutr w' Y' b' 0 hk (λi v hv=>hc i v ?_)) (htr w' Y' ik b' _ hk (λi v hv=>?_))
      rw[List.getElem?_append_left]
      exact hv
      by_cases I:i<us.length
      exact I
      rw[List.getElem?_eq_none (Nat.le_of_not_lt I)] at hv;cases hv
      have:=hc (us.length+i) v bn;rw[hus.1] at this;rw[<- hml];simpa using this) hgrow dN g2
    have hidl:∃ l,σ' id=some l:=by
     unfold Rep at hrep;rcases hrep with ⟨l,_,hl,_⟩|⟨h0,_⟩
     exact⟨l,hl⟩
     simp at h0
    obtain⟨lid,hlid⟩:=hidl
    have up:∀ {d k j h' s2 es},mr st d k j h' s2 es->mr (nX st id (some (.arr false (P.cellsOf et) ((rows.drop r).take m++[row])))) d k j h' s2 es\/d=id:=by
     rintro d k j h' s2 es ⟨sz0,rs,rw0,q1,q2⟩
     by_cases hd:d=id
     exact .inr hd
     exact .inl ⟨sz0,rs,rw0,by rw[ig,if_neg (λe=>hd e.symm)];exact q1,q2⟩
    have hst1:∀ d x,d≠id->iV st d=some x->iV (nX st id (some (.arr false (P.cellsOf et) ((rows.drop r).take m++[row])))) d=some x:=λd x hd hx=>by rw[ig,if_neg (λe=>hd e.symm)];exact hx
    have hRo' : ∀ d k j h' s2 es,mr (nX (nX (nX st b none) c none) id (some (.lN (P.cellsOf et) ((rows.drop r).take m++[row])))) d k j h' s2 es->∃ d0 k0,mr (nX st id (some (.arr false (P.cellsOf et) ((rows.drop r).take m++[row])))) d0 k0 j h' s2 es/\R d k d0 k0:=by
     intro d k j h' s2 es I;obtain⟨d0,k0,q1,q2⟩:=hRo _ _ _ _ _ _ I;refine⟨d0,k0,(up q1).resolve_right λe=>?_,q2⟩;rcases q2 with ⟨_,q,_⟩|⟨_,q,_⟩|⟨q0,_,_,q,_⟩
     exact hne.2.1 (q ▸ e)
     exact hne.2.2 (q ▸ e)
     exact q0 (q ▸ e)
    have H2:SW C w' Y' σ' ps a.tmps.toList (nX (nX (nX st b none) c none) id (some (.lN (P.cellsOf et) ((rows.drop r).take m++[row])))) (max n (id+1)):=by
     refine H'.retag (λd x hx=>?_) (H'.nest.re R hRo' hRi (λ_ _ _ _ _ _ _ hN=>hN) λd k j h' s2 es d' x l' I hx g=>?_)
     rcases look _ _ _ hx with ⟨rfl,rfl⟩|⟨e1,e2,e3,e4⟩
     exact⟨_,by rw[ig,if_pos rfl],.inr ⟨_,_,lid,rfl,rfl,hlid⟩⟩
     exact⟨x,hst1 _ _ e1 e4,.inl rfl⟩
     rcases look _ _ _ hx with ⟨rfl,rfl⟩|⟨e1,e2,e3,e4⟩
     exact H'.nest.sep _ _ _ _ _ _ _ _ _ I dG g
     exact H'.nest.sep _ _ _ _ _ _ _ _ _ I (hst1 _ _ e1 e4) g
    refine rY ho (δ:=_) (cv:=cv) (w':=w') (Y':=Y') (σ':=σ') (λty' cs=>?_) (by simp only[jr,ve];exact H2) (by rw[<- hml] at hrep;exact hrep) hoff h;rw[hvs];simp only[builtin,Sem.run_bind];have:Builtin.append_ (t::u::tl).toArray ty' [Value.slice sx m cap,Value.slice (some ⟨lc.cb,lc.co+0*lc.sz,none⟩) 1 capc].toArray=Builtin.append_ (t::u::tl).toArray 0 #[Value.slice sx m cap,Value.slice (some ⟨lc.cb,lc.co+0*lc.sz,none⟩) [row].length capc]:=rfl
    erw [this,hrun]
    rfl
  exact h.elim
 exact h.elim
end
end Go.Pv
namespace Go.Pv
open Go Go.MapKept
theorem ZV {P:Program}{T:Tab}(hT:iZ P T){t:TypeId}{agg:Bool}{plain:Option (List Nat)}{size sz:Nat}{z:Option (List PV)}{zs:List PV}
  (h:T t=⟨true,agg,size,z,plain,.map sz zs⟩):∃ k e,P.underlying t=some (.map k e)/\P.underlying k=some (.int .i64)/\ZA P e=some zs/\sz=P.cellsOf e:=by
 obtain⟨i,d,h1,h2,h3,C,g,I,h7,J⟩:=wU hT h rfl;cases d<;>simp at J
 rename_i k e;unfold QY at J
 grind
theorem adb {P:Program}{t:TypeId}{z:List PV}(h:ZA P t=some z):∃ zs:List Value,(∀ w,(zeroValue t).run P w=.ok (.agg zs.toArray) w)/\∀ w Y σ,eQ w Y σ z zs:=by
 unfold ZA at h
 split at h
 rename_i i hi
 split at h
 rename_i cs T;cases h;refine⟨cs.toList,λw=>?_,λw Y σ=>Jc w Y σ _⟩
 simp_all[zeroValue,typeInfo]
 cases h
 cases h
theorem pq.length {w:World}{Y:Nat->Prop}:∀ {T:List MapEntry} {rows:List (List PV)},pq w Y T rows->T.length=rows.length
 | [],_,h=>by grind[pq]
 | _::T,_,⟨n,cs,rows',h1,_,_,h5⟩=>by subst h1;simp[pq.length h5]
theorem BJ {n k:Int}{e:MapEntry}{T:List MapEntry}{i:Nat}(J:e.key=.int .i64 k) :
  Instr.findNow (.int .i64) (.int .i64 n) (e::T) i=if n=k then some (some (i,e.val)) else Instr.findNow (.int .i64) (.int .i64 n) T (i+1):=by
 have h1:Instr.sameNow (.int .i64) (.int .i64 n) e.key=some (n==k):=by rw[J];simp[Instr.sameNow]
 rw[Instr.findNow,h1]
 grind
theorem pq.find {w:World}{Y:Nat->Prop}(n:Int):∀ (T:List MapEntry) (rows:List (List PV)) (i:Nat),pq w Y T rows ->
  (DI rows n=none/\Instr.findNow (.int .i64) (.int .i64 n) T i=some none) \/
  ∃ j e cs vs,DI rows n=some cs/\Instr.findNow (.int .i64) (.int .i64 n) T i=some (some (i+j,e.val))/\T[j]?=some e/\e.key=.int .i64 n/\e.val=.agg (List.toArray vs)/\eQ w Y ik cs vs
 | [],rows,i,h=>by unfold pq at h;subst h;exact .inl ⟨rfl,rfl⟩
 | e::T,rows,i,⟨k,cs,rows',h1,h2,⟨vs,h3,h4⟩,h5⟩=>by
  subst h1
  by_cases hk:k=n
  subst hk;refine .inr ⟨0,e,cs,vs,by simp[DI],?_,rfl,h2,h3,h4⟩;rw[BJ h2,if_pos rfl];rfl
  have I : ¬ n=k:=λe=>hk e.symm;rcases pq.find n T rows' (i+1) h5 with ⟨g1,g2⟩|⟨j,t,J,C,g1,g2,g3,g4⟩
  simp_all[DI,BJ]
  refine .inr ⟨j+1,t,J,C,by simp[DI,hk,g1],?_,by simpa using g3,g4⟩;rw[BJ h2,if_neg I,g2]
  congr 3;omega
theorem pq.push {w:World}{Y:Nat->Prop}{n:Int}{cs:List PV}{vs:List Value}{b:Nat}(hr:eQ w Y ik cs vs):∀ (T:List MapEntry) (rows:List (List PV)),pq w Y T rows->DI rows n=none ->
  pq w Y (T++[{ key:=.int .i64 n,val:=.agg vs.toArray,born:=b }]) (TD rows n cs)
 | [],rows,h,_=>by unfold pq at h;subst h;exact⟨n,cs,[],rfl,rfl,⟨vs,rfl,hr⟩,rfl⟩
 | e::T,rows,⟨k,ks,rows',h1,h2,h3,h5⟩,U=>by
  subst h1
  by_cases hk:k=n
  grind[DI]
  simp[DI,hk] at U;simp only[TD,if_neg hk,List.cons_append];exact⟨k,ks,_,rfl,h2,h3,pq.push hr T rows' h5 U⟩
theorem pq.modify {w:World}{Y:Nat->Prop}{n:Int}{cs:List PV}{vs:List Value}(hr:eQ w Y ik cs vs):∀ (T:List MapEntry) (rows:List (List PV)) (i j:Nat) (v:Value),pq w Y T rows ->
  Instr.findNow (.int .i64) (.int .i64 n) T i=some (some (i+j,v))->pq w Y (T.modify j λe=>{ e with key:=.int .i64 n,val:=.agg vs.toArray }) (TD rows n cs)
 | [],_,i,j,v,_,h=>by simp[Instr.findNow] at h
 | e::T,rows,i,j,v,⟨k,ks,rows',h1,h2,h3,h5⟩,h=>by
  subst h1
  by_cases hk:k=n
  subst hk
  have hj:j=0:=by
   rw[BJ h2,if_pos rfl] at h;simp at h;omega
  subst hj;simp only[TD,if_pos rfl];exact⟨k,cs,rows',rfl,rfl,⟨vs,rfl,hr⟩,h5⟩
  have I : ¬ n=k:=λe=>hk e.symm;rw[BJ h2,if_neg I] at h
  have J:∀ (l:List MapEntry) (a m:Nat) (x:Value),Instr.findNow (.int .i64) (.int .i64 n) l a=some (some (m,x))->a<=m:=by
   intro l
   induction l with
   | nil=>grind[Instr.findNow]
   | cons y l ih=>
    intro a m x h;rw[Instr.findNow] at h
    grind
  have t:=J _ _ _ _ h;obtain⟨C,rfl⟩:∃ C,j=C+1:=⟨j-1,by omega⟩;simp only[TD,if_neg hk];refine⟨k,ks,_,rfl,h2,h3,?_⟩;exact pq.modify hr T rows' (i+1) C v h5 ai
section
variable {P:Program}{T:Tab}(hT:iZ P T){C:Ctx T}{o:Oper}{a:Act}{w:World}{Y:Nat->Prop}{σ:Sg}{ps:List PV}{st:St}{n id:Nat}{K:PV->Dl->Prop}{lk:Nat->Option lW}
 (H:SW C w Y σ ps a.tmps.toList st n) (hlk:∀ b x,lk b=some x->iV st b=some x) (hid:σ id=none/\T.qc<=id)
include H hid in
theorem afJ {t:TypeId}(ho:o.op=.makeMap t none)(h:ac1 T t id K):qL P C o a w σ ps st n id K:=by
 unfold ac1 at h
 split at h
 obtain⟨Y',σ',H',hs,_,_,J⟩:=H.agY hid (.map #[] 0) ⟨w.heap.size,0,0,0,0⟩ rfl (.map []) (λ_ _ e=>by cases e) (by
  intro w' Y' σ' hk g I _;unfold fF;exact⟨⟨#[],0,I,by simp[pq]⟩,g⟩)
 refine⟨_,_,.map (some w.heap.size),_,Y',σ',h,.inl ?_,H',?_,J⟩
 simp[execOp,ho,Instr.makeMap,newObj,Sem.run,Result.andThen]
 unfold Rep;exact⟨_,hs,rfl⟩
 exact h.elim
include hT H hlk in
theorem afK {args:Array Operand}{ts:Array TypeId}{t:TypeId}{b:Nat}(ho:o.op=.call { callee:=.builtin .len,args:=args,argTypes:=ts })(he:evA T ps args.toList=[.mp b])(ht:ts.toList=[t])
  (h:ac0 T (iq.jq P T) t b lk K):qL P C o a w σ ps st n id K:=by
 have J:=wF H args.toList;generalize hvs:args.toList.map a.eval=vs at J;unfold ac0 at h
 split at h
 rename_i e;obtain⟨k,et,hu,_⟩:=ZV hT e
 split at h
 rename_i rows hb;rw[he] at J;obtain⟨u,rfl,I⟩:=Jf J;have g:=KC ht;subst g;unfold Rep at I;obtain⟨l,hs,rfl⟩:=I;have hB:fF w Y σ l (.map rows):=fF.zN H hlk hb hs;unfold fF at hB;obtain⟨⟨es,ck,h1,h2⟩,_⟩:=hB;have hl:=h2.length;refine uI H ho (cv:=.int .i64 rows.length) (λty cs=>?_) bT h;rw[hvs];simp[builtin,Builtin.len_,kS hu,NJ,MapKept.run_getObj_map h1,Result.andThen,<- hl]
 exact h.elim
 exact h.elim
include hT H hlk in
theorem afL {t:TypeId}{m k:Operand}(ho:o.op=.lookup t m k true)(h:acZ T (iq.jq P T) t (sK T ps m) (sK T ps k) lk K):qL P C o a w σ ps st n id K:=by
 have hm:=kW H m;have hk:=kW H k;unfold acZ at h
 split at h
 rename_i agg size zero plain sz z b x e em ek;obtain⟨kt,et,hu,J,hz,_⟩:=ZV hT e;obtain⟨zs,hzr,g⟩:=adb hz
 split at h
 rename_i rows hb;rw[em] at hm;unfold Rep at hm;obtain⟨l,hs,hme⟩:=hm;have hke:a.eval k=.int .i64 x:=qw hk ek;have hB:fF w Y σ l (.map rows):=fF.zN H hlk hb hs;unfold fF at hB;obtain⟨⟨es,ck,h1,h2⟩,_⟩:=hB;have I:IsKey (.int .i64) (.int .i64 x):=by simp[IsKey]
 rcases pq.find x es.toList rows 0 h2 with ⟨g1,g2⟩|⟨j,e',cs,vs,g1,g2,g3,g4,g5,g6⟩
 obtain⟨zc,hzc,h⟩:=h.2 g1;refine qL.quiet H (cv:=.tuple #[.agg zs.toArray,.bool false]) ?_ ?_ h
 simp[execOp,ho,hme,hke,Instr.lookup,kS hu,MapKept.run_getObj_map h1,MapKept.run_checkKey J I,MapKept.run_findKey J g2,hzr,Result.andThen]
 unfold Rep;refine⟨[.agg zs.toArray,.bool false],rfl,?_⟩;unfold eQ;refine⟨_,_,rfl,?_,?_⟩
 unfold Rep;exact⟨zs,rfl,hzc _ _ _ _ (g w Y σ)⟩
 unfold eQ;refine⟨_,_,rfl,by unfold Rep;rfl,by unfold eQ;rfl⟩
 have h:K (.Ed [.agg cs,.sb true]) []:=h.1 cs g1;refine qL.quiet H (cv:=.tuple #[e'.val,.bool true]) ?_ ?_ h
 simp[execOp,ho,hme,hke,Instr.lookup,kS hu,MapKept.run_getObj_map h1,MapKept.run_checkKey J I,MapKept.run_findKey J g2,Result.andThen]
 unfold Rep;refine⟨[e'.val,.bool true],rfl,?_⟩;unfold eQ;refine⟨_,_,rfl,?_,?_⟩
 rw[g5];unfold Rep;exact⟨vs,rfl,eQ.keep cs ⟨λ_ _ _=>rfl,λ_ _ h=>h,Nat.le_refl _,λ_ _ h=>by cases h⟩ vs g6⟩
 unfold eQ;refine⟨_,_,rfl,by unfold Rep;rfl,by unfold eQ;rfl⟩
 exact h.elim
 exact h.elim
include hT H hlk in
theorem abO {t:TypeId}{m k x:Operand}(ho:o.op=.mapUpdate t m k x\/o.op=.insert t m k x)(h:aet T (iq.jq P T) t (sK T ps m) (sK T ps k) (sK T ps x) lk K):qL P C o a w σ ps st n id K:=by
 have hm:=kW H m;have hk:=kW H k;have hx:=kW H x;unfold aet at h
 split at h
 rename_i agg size zero plain sz z b q e em ek;obtain⟨kt,et,hu,hku,hz,hsz⟩:=ZV hT e
 split at h
 rename_i rows hb
 split at h
 rename_i xs ex
 split at h
 rename_i cs δ hp
 cases hmd:abr b δ with
 | true=>rw[hmd] at h;exact h.elim
 | false=>
  rw[hmd] at h;simp only[cond_false] at h
  cases hl:Nat.beq (oq cs) sz with
  | false=>rw[hl] at h;exact h.elim
  | true=>
   rw[hl] at h;simp only[cond_true] at h;obtain⟨cs2,hl2,hc2,hw2,hK,_⟩:=BH h;rw[em] at hm;unfold Rep at hm;obtain⟨l,hs,hme⟩:=hm;have hke:a.eval k=.int .i64 q:=qw hk ek;rw[ex] at hx;unfold Rep at hx;obtain⟨vs,hxe,hxr⟩:=hx;obtain⟨Y1,H1,hr1,hy1⟩:=GX xs cs δ hp Y st H (λb ro sz rows hb=>⟨ro,hlk _ _ hb⟩) vs hxr;have hst1:iV (jr δ st) b=some (.map rows):=by rw[Qq δ st hmd];exact hlk _ _ hb
   have hB:fF w Y1 σ l (.map rows):=by
    rcases H1.store.blk b _ hst1 with ⟨l',hl',hB⟩|⟨hn,e⟩
    rw[hs] at hl';cases hl';exact hB
    cases e
   have hBm:=hB;unfold fF at hB;obtain⟨⟨es,ck,h1,h2⟩,hY⟩:=hB;have I:IsKey (.int .i64) (.int .i64 q):=by simp[IsKey]
   have hr2:=hw2 w Y1 ik vs hr1
   have fin:∀ (es' : Array MapEntry) (J : Nat),pq w Y1 es'.toList (TD rows q cs2)->(Instr.mapUpdate t (.map (some l.cb)) (.int .i64 q) (.agg vs.toArray)).run P w=.ok () { w with heap:=w.heap.setIfInBounds l.cb (.map es' J) }->qL P C o a w σ ps st n id K:=by
    intro es' J hR hrun;have g:=heap_set (o':=.map es' J) h1
    have H2:SW C { w with heap:=w.heap.setIfInBounds l.cb (.map es' J) } Y1 σ ps a.tmps.toList (nX (jr δ st) b (some (.map (TD rows q cs2)))) n:=by
     refine H1.update hst1 hs hY rfl rfl rfl aj (λk hk=>g.2 k hk) (λ_ _ e=>by cases e) λhkp=>?_;unfold fF;have K0:Keep w { w with heap:=w.heap.setIfInBounds l.cb (.map es' J) } Y1 Y1 ik ik:=⟨λk _ hy=>g.2 k (λe=>hy (e ▸ hY)),λ_ _ h=>h,by simp,nK.refl _⟩;exact⟨⟨es',J,g.1,hR.keep K0⟩,hY⟩
    refine⟨_,_,Go.undef,{ w with heap:=w.heap.setIfInBounds l.cb (.map es' J) },Y1,σ,hK,.inr ⟨?_,rfl⟩,?_,by simp[Rep],Off.refl _ _⟩
    rcases ho with ho|ho<;>simp[execOp,ho,hme,hke,hxe,hrun]
    rw[Qr];have:ve (δ++[(b,some (lW.map ((iq.jq P T).ajc rows q cs2)))]) n id=max n (id+1):=by cases δ<;>rfl
    rw[this];exact H2.mono ae
   rcases pq.find q es.toList rows 0 h2 with ⟨g1,g2⟩|⟨j,e',cs',vs',g1,g2,g3,g4,g5,g6⟩
   refine fin (es.push { key:=.int .i64 q,val:=.agg vs.toArray,born:=ck }) (ck+1) ?_ ?_
   rw[Array.toList_push];exact pq.push hr2 _ _ h2 g1
   simp[Instr.mapUpdate,kS hu,MapKept.run_getObj_map h1,MapKept.run_checkKey hku I,MapKept.run_findKey hku g2,MapKept.run_setObj_map _ h1,Result.andThen]
   refine fin (es.modify j λe=>{ e with key:=.int .i64 q,val:=.agg vs.toArray }) ck ?_ ?_
   rw[Array.toList_modify];exact pq.modify hr2 _ _ 0 j _ h2 g2
   have g3' : es[j]?=some e':=by simpa using g3
   simp[Instr.mapUpdate,kS hu,MapKept.run_getObj_map h1,MapKept.run_checkKey hku I,MapKept.run_findKey hku g2,g3',g4,MapKept.run_keyThatStays I,MapKept.run_setObj_map _ h1,Result.andThen]
 exact h.elim
 exact h.elim
 exact h.elim
 exact h.elim
end
end Go.Pv
namespace Go.Pv
open Go
structure DR (P:Program):Prop where
 und:P5 P
 flds:∀ t fs,t<P.types.size->P.underlying t=some (.struct fs)->∀ f∈fs.toList,P.info? f.type≠none
 elem:∀ t k e,t<P.types.size->P.underlying t=some (.array k e)->P.info? e≠none
 mixed:P.follows .mixedOrders=true
theorem abP {T:Tab}{S:iq}{t:TypeId}{parts:Array (Nat×Operand)}{ps:List PV}{lk:Nat->Option lW}{id:Nat}{K:PV->Dl->Prop}(h:oH T S (.build t parts) ps lk id K):(T t).ok=true:=by
 simp only[oH] at h
 grind
section
variable {P:Program}{T:Tab}(hT:iZ P T)(hW:DR P){C:Ctx T}{o:Oper}{a:Act}{w:World}{Y:Nat->Prop}{σ:Sg}{ps:List PV}{st:St}{n id:Nat}{K:PV->Dl->Prop}{lk:Nat->Option lW}
 (H:SW C w Y σ ps a.tmps.toList st n) (hlk:∀ b x,lk b=some x->iV st b=some x) (hid:σ id=none/\T.qc<=id)
include hT hW H hlk hid in
theorem Ac (h:oH T (iq.jq P T) o.op ps lk id K):qL P C o a w σ ps st n id K:=by
 cases ho:o.op with
 | move x=>rw[ho] at h;exact ajh H ho h
 | assign x=>rw[ho] at h;exact afD H ho h
 | pick c x y=>rw[ho] at h;exact aji H ho h
 | alloc t=>rw[ho] at h;exact ag1 hT H hid ho h
 | box t x=>rw[ho] at h;exact ak7 H hid ho h
 | build t parts=>rw[ho] at h;exact ag6 hT H ho (λJ hu=>hW.flds t J (hT t (abP h)).2 hu) (λk e hu=>hW.elem t k e (hT t (abP h)).2 hu) h
 | buildSlice t len parts=>rw[ho] at h;exact X0 hT H hlk hid ho h
 | load t x=>rw[ho] at h;exact ajl hT H hlk ho h
 | store t x y=>rw[ho] at h;exact ag0 hT H hlk hid ho h
 | nilCheck x=>rw[ho] at h;exact abz H ho h
 | binOp op t x y u=>rw[ho] at h;exact ag5 hT H hW.und ho h
 | unOp op t x=>
  rw[ho] at h
  cases op with
  | not=>exact agT H ho h
  | neg=>exact agU H ho h
  | _=>exact bQ
 | convert s d x=>rw[ho] at h;exact ada hT H hlk ho h
 | makeFunc fn first cap=>
  rw[ho] at h
  cases fn with
  | func f=>exact abC H ho h
  | _=>exact bQ
 | makeSlice t x y=>rw[ho] at h;exact ZQ hT H hid ho h
 | slice t x lo hi I=>rw[ho] at h;exact ag8 hT H hlk ho hid h
 | fieldAddr t x f=>rw[ho] at h;exact ZI hT H ho h
 | field t x f=>rw[ho] at h;exact ag2 hT H hW.und ho h
 | indexAddr t x i=>rw[ho] at h;exact ZN hT H hlk ho h
 | index t x i=>rw[ho] at h;exact ag3 hT H hW.und ho h
 | extract t i=>rw[ho] at h;exact ac3 H ho h
 | call c=>
  rw[ho] at h;obtain⟨callee,args,ts⟩:=c
  cases callee with
  | builtin b=>
   cases b with
   | len=>exact ak8 hT H ho h
   | min=>exact ak9 hT H ho h
   | max=>exact ala hT H ho h
   | append=>exact afI hT H hlk hid ho h
   | clear=>exact aha hT H hlk hid ho h
   | _=>exact bQ
  | _=>exact bQ
 | _=>rw[ho] at h;exact bQ
include hT hW H hlk hid in
theorem ajv (h:opN T (iq.jq P T) o.op ps lk id K):qL P C o a w σ ps st n id K:=by
 unfold opN at h
 split at h
 exact Ac hT hW H hlk hid h
 split at h
 rename_i ho;exact afJ H hid ho h
 rename_i ho;exact abO hT H hlk (.inl ho) h
 rename_i ho;exact abO hT H hlk (.inr ho) h
 rename_i ho;exact afL hT H hlk ho h
 rename_i ho
 split at h
 rename_i J I;exact afK hT H hlk ho J I h
 exact Ac hT hW H hlk hid dO
 rename_i ho
 split at h
 exact ajt hT H hlk hid ho (λhE=>Ac hT hW H hlk hid (by rw[ho];exact hE)) h
 exact Ac hT hW H hlk hid dO
 rename_i ho
 split at h
 rename_i J I
 split at h
 exact aju hT H hlk hid ho J I h
 exact Ac hT hW H hlk hid dO
 exact Ac hT hW H hlk hid dO
 exact Ac hT hW H hlk hid h
end
theorem eQ.pJ {w:World}{Y:Nat->Prop}{σ:Sg}{p:PV}:∀ (ps:List PV) (vs:List Value) (t:Nat),eQ w Y σ ps vs->Rep w Y σ p (vs.getD t Go.undef)->eQ w Y σ (nV ps t p) vs
 | [],vs,t,h,_=>by simpa [nV] using h
 | q::ps,vs,0,h,hp=>by
  unfold eQ at h;obtain⟨v,T,rfl,h1,h2⟩:=h;simp only[nV];unfold eQ;grind
 | q::ps,vs,t+1,h,hp=>by
  unfold eQ at h;obtain⟨v,T,rfl,h1,h2⟩:=h;simp only[nV];unfold eQ;exact⟨v,T,rfl,h1,eQ.pJ ps T t h2 (by simpa using hp)⟩
theorem SW.pJ {T:Tab}{C:Ctx T}{w:World}{Y:Nat->Prop}{σ:Sg}{ps:List PV}{vs:List Value}{st:St}{n:Nat}(H:SW C w Y σ ps vs st n){d:Nat}{b:Bool}(J:ji ps d=.sb b)(c:Bool)(hc:b=c):SW C w Y σ (nV ps d (.bool c)) vs st n:=by
 refine(H.rH ?_);refine eQ.pJ _ _ _ H.vals ?_;have:=H.vals.get _ _ d
 grind[Rep]
theorem kZ.pJ {T:Tab}{C:Ctx T}{E:Env}{a:Act}{w:World}(h:kZ C E a w){d:Nat}{b:Bool}(I:ji E.tmps d=.sb b)(c:Bool)(hc:b=c):kZ C (qp E (some d) (.bool c)) a w:=by
 obtain⟨⟨Y,σ,H⟩,J⟩:=h;refine⟨⟨Y,σ,(H.rH ?_)⟩,J⟩;refine eQ.pJ _ _ _ H.vals ?_;have:=H.vals.get _ _ d
 grind[Rep]
theorem kZ.put {T:Tab}{C:Ctx T}{w:World}{Y:Nat->Prop}{σ:Sg}{a:Act}{ps:List PV}{st:St}{n:Nat}(H:SW C w Y σ ps a.tmps.toList st n)(J:DF C a){v:PV}{cv:Value}(hv:Rep w Y σ v cv)(d:Option Nat) :
  kZ C (qp ⟨ps,st,n⟩ d v) (a.put d cv) w:=by
 cases d with
 | none=>exact⟨⟨Y,σ,H⟩,J⟩
 | some d=>
  refine⟨⟨Y,σ,(H.rH ?_)⟩,J⟩;simp only[Act.put,qp,Array.toList_setIfInBounds];exact eQ.set hv _ _ _ H.vals
def fW (ro:Option Nat):Fence:={ fn:=λ_=>True,depth:=none,alive:=false,round:=ro }
theorem afM {P:Program}{n:Nat}{row:String}{args:Array Value}{w:World}{R:Value->World->Prop}(h:Rows P row args w R):RowsIn Fence.wide n P row args w R :=
 λc cs _=>let ⟨v,w',r,s⟩:=h c cs;⟨v,w',r,stepsIn_wide.2 s⟩
theorem LJ {P:Program}{o:Oper}{a:Act}{w:World}{next:Act->World->Prop}{Q:Exit->Act->World->Prop}{ro:Option Nat}(J:∀ c,o.op≠.defer c)(h:o.wp P a w next Q):o.wpIn (fW ro) 0 P a w next Q:=by
 refine⟨λ_ _=>trivial,?_⟩;show o.uponIn (fW ro) 0 P a next Q ((o.semAt ro a.eval).run P w)
 rw[Oper.semAt_eq _ _ _ J];unfold Oper.wp at h;generalize (execOp a.eval o).run P w=r at h
 cases r with
 | ok v w' =>
  cases v with
  | value v=>exact h
  | skip=>exact h
  | defer d=>exact h
  | enter f args=>exact⟨λT=>(by cases T),(callsIn_wide (n:=0-1)).2 h⟩
  | row r args=>exact⟨λT=>(by cases T),afM (n:=0-1) h⟩
  | _=>exact h.elim
 | halt v w'=>cases v<;>first|exact h|exact h.elim
theorem alf {T:Tab}{S:iq}{o:Op}{tmps:List PV}{lk:Nat->Option lW}{id:Nat}{K:PV->Dl->Prop}(h:oH T S o tmps lk id K):∀ c,o≠.defer c:=by
 rintro c rfl;exact h
theorem alg {T:Tab}{S:iq}{o:Op}{tmps:List PV}{lk:Nat->Option lW}{id:Nat}{K:PV->Dl->Prop}(h:opN T S o tmps lk id K):∀ c,o≠.defer c:=by
 rintro c rfl
 unfold opN at h
 split at h
 exact h
 exact h
theorem afN {P:Program}{T:Tab}{l:Nat}{rc:Loop}{pv:Value}{args:List PV}{E:Env}{K:PV->Env->Prop}{ρ:List Nat}{v:PV}{st1:St}{n1:Nat}
  (hnd:NG ρ=true) (hlt:ltN E.next ρ=true) (hnn:lF (zq (zK ρ) E.st 0 ρ)=true) (h0:ρ[0]?=some 0)
  (hF:YS P T.gl l rc pv (BA (wz (zK ρ) 8) args) (zq (zK ρ) E.st 0 ρ) (lH ρ) (λu st n=>u=v/\st=st1/\n=n1)) (hK:K (wz (Dx ρ E.next) 8 v) (F5 ρ E st1 n1)):ak5 P T l rc pv args E K:=by
 intro C Y σ w vs J H hr hy0 hl hpv
 have:=ZT (P:=P) (N:=E.next+(n1-lH ρ)) (v:=v) (st1:=st1) (n1:=n1) (Z:=λ_ _=>True)
  (X:=λR=>J.length=rc.params.size/\RoundIn Fence.wide 0 P l rc.fn ((rc.params.zip J.toArray).foldl (λtmps (t,a)=>tmps.setIfInBounds t a) rc.tmps) rc.assign rc.body w R)
  H hnd hlt H.fix.1 (λb hb _=>H.next b hb) ⟨Nat.le_refl _,Nat.le_add_right _ _⟩ hr (by grind[RoundIn.mono])
  (λσc hσc I hra g=>by
   obtain⟨h1,h2⟩:=hF w Y σc J H.xG H.wB I hra g hnn (H.y0 l hy0) hl (by grind[Rep])
   grind)
 refine⟨this.1,RoundIn.mono this.2 λe w' hh=>?_⟩;obtain⟨cv,Y',σ',e1,h3,h4,_⟩:=hh;exact⟨cv,_,_,Y',σ',e1,hK,h3,h4⟩
def OpT (P:Program)(T:Tab)(o:Oper)(E:Env)(K:Env->Prop):Prop := ∀ (ro:Option Nat) (C:Ctx T) a w,kZ C E a w->∀ next Q,(∀ E' a' w',kZ C E' a' w'->K E'->next a' w')->o.wpIn (fW ro) 0 P a w next Q
theorem ajw {P:Program}{T:Tab}(hT:iZ P T)(hW:DR P){o:Oper}{E:Env}{K:Env->Prop}
  (h:oH T (iq.jq P T) o.op E.tmps (iV E.st) E.next λv δ=>K (qp ⟨E.tmps,jr δ E.st,UT δ E.next⟩ o.dst v)):OpT P T o E K:=by
 intro ro C a w hA next Q I
 refine LJ (alf h) ?_;obtain⟨⟨Y,σ,H⟩,t⟩:=hA;obtain⟨v,δ,cv,w',Y',σ',g,J,H',hv,_⟩:=Ac hT hW H (λ_ _ h=>h) ⟨H.next _ (Nat.le_refl _),H.fix.1⟩ h;have hn:ve δ E.next E.next=UT δ E.next:=by cases δ<;>simp[ve,UT]
 rw[hn] at H';have:=I _ _ _ (kZ.put H' t hv o.dst) g;unfold Oper.wp;rcases J with J|⟨J,rfl⟩
 rw[J];exact this
 rw[J];exact this
theorem ajx {P:Program}{T:Tab}(hT:iZ P T)(hW:DR P){o:Oper}{E:Env}{K:Env->Prop}
  (h:opN T (iq.jq P T) o.op E.tmps (iV E.st) E.next λv δ=>K (qp ⟨E.tmps,jr δ E.st,UT δ E.next⟩ o.dst v)):OpT P T o E K:=by
 intro ro C a w hA next Q I
 refine LJ (alg h) ?_;obtain⟨⟨Y,σ,H⟩,t⟩:=hA;obtain⟨v,δ,cv,w',Y',σ',g,J,H',hv,_⟩:=ajv hT hW H (λ_ _ h=>h) ⟨H.next _ (Nat.le_refl _),H.fix.1⟩ h;have hn:ve δ E.next E.next=UT δ E.next:=by cases δ<;>simp[ve,UT]
 rw[hn] at H';have:=I _ _ _ (kZ.put H' t hv o.dst) g;unfold Oper.wp;rcases J with J|⟨J,rfl⟩
 rw[J];exact this
 rw[J];exact this
theorem afO {P:Program}{T:Tab}(hT:iZ P T)(hW:DR P){o:Oper}{E:Env}{K:Env->Prop}(h:agH T (iq.jq P T) o E K):OpT P T o E K:=by
 unfold agH at h
 split at h
  
 rename_i f args ts ho
 split at h
 rename_i k caps U;intro ro C a w hA next Q J
 refine LJ ai ?_;obtain⟨⟨Y,σ,H⟩,hd⟩:=hA;have g:=kW H f;rw[U] at g;unfold Rep at g;obtain⟨cs,ef,hcs⟩:=g;have hargs:=wF H args.toList;have hall:=GU (T.hid k) _ _ (eQ.app _ _ _ _ hargs hcs);obtain⟨hent,hcall⟩:=NP h C Y σ w a.tmps.toList _ H hall;unfold Oper.wp
 have I:(execOp a.eval o).run P w=.ok (.enter k (args.toList.map a.eval++cs).toArray) w:=by
  have hmap:args.map a.eval=(args.toList.map a.eval).toArray:=by grind
  grind[execOp,resolve,Deferred.ofValue,invoke]
 rw[I];refine Calls.mono hcall λe w' hh=>?_;obtain⟨cv,v,E',Y',σ',rfl,hK,H',hv⟩:=hh;exact J _ _ _ (kZ.put H' hd hv o.dst) hK
   
 rename_i l U;intro ro C a w hA next Q J
 obtain⟨⟨Y,σ,H⟩,hd⟩:=hA;have g:=kW H f;rw[U] at g;unfold Rep at g;obtain⟨rc,pv,v1,st1,n1,hyl,has,hst0,h1,h2,h3,h4,hF,hK1⟩:=h;have h:=afN (K:=λv E=>K (qp E o.dst v)) h1 h2 h3 h4 hF hK1;obtain⟨hy0,hm,hl0,hpas,l0,hb0,hpv⟩:=hd.2 l rc pv hyl;have hl:w.heap[l]?=some (.loop rc):=by rw[H.qo.block l (Array.getElem?_eq_some_iff.1 hl0).1 hm];exact hl0
 obtain⟨hlen,hround⟩:=h C Y σ w a.tmps.toList _ H (wF H args.toList) hy0 hl (by unfold Rep;exact⟨l0,by rw[H.fix.2 0 hpas];exact hb0,hpv⟩);refine⟨λ_ _=>trivial,?_⟩;show o.uponIn (fW ro) 0 P a next Q ((o.semAt ro a.eval).run P w)
 rw[Oper.semAt_eq _ _ _ ai];have hmap:args.map a.eval=(args.toList.map a.eval).toArray:=by grind
 have hy:=run_yield (P:=P) (args:=(args.toList.map a.eval).toArray) hl (by simpa using hlen)
 have I:(execOp a.eval o).run P w=.ok (.round l rc.fn ((rc.params.zip (args.toList.map a.eval).toArray).foldl (λtmps (t,a)=>tmps.setIfInBounds t a) rc.tmps) rc.assign rc.body) w:=by
  grind[execOp,resolve,Deferred.ofValue,invoke]
 rw[I];refine⟨λhd=>(by cases hd),?_⟩;show RoundIn Fence.wide 0 P l _ _ _ _ w _;refine RoundIn.mono hround λe w' hh=>?_;obtain⟨cv,v,E',Y',σ',rfl,hK,H',hv⟩:=hh;exact J _ _ _ (kZ.put H' hd hv o.dst) hK
 exact h.elim
 split at h
 rename_i c x y ho
 split at h
 rename_i t hc;obtain⟨ht,U⟩:=h;intro ro C a w hA next Q J
 refine LJ ai ?_;obtain⟨⟨Y,σ,H⟩,hd⟩:=hA;have hcv:=H.vals.get _ _ c;rw[hc] at hcv;have hcv:=TF hcv
 have hcv' : a.eval (.tmp c)=.bool t:=by
  grind[Act.eval,Array.getD_eq_getD_getElem?]
 have I:(execOp a.eval o).run P w=.ok (.value (if t then a.eval x else a.eval y)) w:=by
  simp[execOp,ho,hcv',asBool]
 unfold Oper.wp;rw[I]
 cases t with
 | true=>exact J _ _ _ (kZ.put (H.pJ hc true rfl) hd (v:=sK T E.tmps x) (kW H x) o.dst) (ht rfl)
 | false=>exact J _ _ _ (kZ.put (H.pJ hc false rfl) hd (v:=sK T E.tmps y) (kW H y) o.dst) (U rfl)
 grind[ajw]
 exact ajx hT hW h
theorem abQ {P:Program}{T:Tab}{all:Array Oper}{o:Oper}{E:Env}{run skip:Env->Prop}(h:gd (iq.jq P T) all o.guard E run skip){T:Tab}{C:Ctx T}{a:Act}{w:World}(hA:kZ C E a w) :
  ∃ E',kZ C E' a w/\((Region.wanted o (yielded all a.tmps)=true/\run E')\/(Region.wanted o (yielded all a.tmps)=false/\skip E')):=by
 unfold gd at h
 split at h
 grind[Region.wanted]
 rename_i j want hg
 split at h
 rename_i oj hj
 split at h
 rename_i d hd
 have I:∀ b,a.tmps.toList.getD d Go.undef=.bool b->yielded all a.tmps j=some b:=by
  intro b g;rw[List.getD_eq_getElem?_getD] at g;unfold yielded;simp only[hj,Option.bind_some,hd]
  cases hx:a.tmps[d]? with
  | none=>rw[Array.getElem?_toList,hx] at g;cases g
  | some v=>grind
 have hundef:a.tmps.toList.getD d Go.undef=Go.undef->yielded all a.tmps j=none:=by
  intro g;rw[List.getD_eq_getElem?_getD] at g;unfold yielded;simp only[hj,Option.bind_some,hd]
  cases hx:a.tmps[d]? with
  | none=>rfl
  | some v=>rw[Array.getElem?_toList,hx] at g;simp at g;subst g;rfl
 have J:∀ b,yielded all a.tmps j=some b->Region.wanted o (yielded all a.tmps)=(b==want):=by
  grind[Region.wanted]
 have hA':=hA;obtain⟨⟨Y,σ,H⟩,hdef⟩:=hA';have t:=H.vals.get _ _ d
 split at h
 rename_i e;rw[e] at t;have hw:=J true (I true (zM t))
 grind
 rename_i e;rw[e] at t;have hw:=J false (I false (zM t))
 grind
 rename_i b e;have hg3:=t;rw[e] at hg3;have hw:=J b (I b (TF hg3));obtain⟨h1,h2⟩:=h;refine⟨qp E (some d) (.bool b),⟨⟨Y,σ,H.pJ e b rfl⟩,hdef⟩,?_⟩
 grind
 grind[Rep,Region.wanted]
 exact h.elim
 exact h.elim
 exact h.elim
theorem BK {P:Program}{T:Tab}(hT:iZ P T)(hW:DR P)(ro:Option Nat){all:Array Oper}{Q:Exit->Act->World->Prop}{C:Ctx T}:∀ (l:List Oper) (E:Env) (K:Env->Prop),opsE T (iq.jq P T) all l E K ->
  ∀ a w,kZ C E a w->(∀ t a' w',kZ C t a' w'->K t->Q .normal a' w')->wpListIn (fW ro) 0 P all Q l a w
 | [],E,K,h,a,w,hA,hQ=>hQ E a w hA h
 | o::l,E,K,h,a,w,hA,hQ=>by
  simp only[opsE] at h;obtain⟨t,J,I⟩:=abQ h hA;unfold wpListIn;rcases I with ⟨hw,I⟩|⟨hw,I⟩
  rw[if_pos hw];refine afO hT hW I ro C a w J _ _ λE2 a2 w2 g hK2=>?_;exact BK hT hW ro l E2 K hK2 a2 w2 g hQ
  rw[if_neg (by rw[hw];simp)];obtain⟨⟨Y,σ,H⟩,hd⟩:=J;exact⟨λ_ _=>trivial,BK hT hW ro l _ K I _ w (kZ.put H hd (v:=.undef) (cv:=Go.undef) aS o.dst) hQ⟩
theorem ade {P:Program}{T:Tab}(hT:iZ P T)(hW:DR P){id:Nat}{l:Array Oper}{Q:Exit->Act->World->Prop}{C:Ctx T}{E:Env}{K:Env->Prop}(h:opsE T (iq.jq P T) l l.toList E K){a:Act}{w:World}(hA:kZ C E a w)
  (t:∀ J I w',kZ C J I w'->K J->Q .normal I w'):(Code.region id l false).wp P Q a w :=
 wpIn_wide.1 (wpIn_region_list (F:=Fence.wide) (n:=0) (BK hT hW none l.toList E K h a w hA t))
end Go.Pv
namespace Go.Pv
open Go
theorem DT {T:Tab}{ps qs:List PV}:∀ (l:List Operand),(∀ x∈l,sK T ps x=sK T qs x)->evA T ps l=evA T qs l
 | [],_=>rfl
 | x::l,h=>by simp only[evA];rw[h x aj,DT l λy hy=>h y (by simp[hy])]
theorem O1 {T:Tab}{ps qs:List PV}:∀ (l:List (Nat×Operand)),(∀ x∈l,sK T ps x.2=sK T qs x.2)->evP T ps l=evP T qs l
 | [],_=>rfl
 | (i,x)::l,h=>by simp only[evP];rw[h (i,x) aj,O1 l λy hy=>h y (by simp[hy])]
theorem TQ {T:Tab}{ps qs:List PV}(l:Option Operand)(h:∀ x,l=some x->sK T ps x=sK T qs x):evO T ps l=evO T qs l:=by
 cases l with
 | none=>rfl
 | some x=>simp only[evO];rw[h x rfl]
theorem TR {T:Tab}{S:iq}{o:Op}{ps qs:List PV}{lk:Nat->Option lW}{id:Nat}{K:PV->Dl->Prop}(h:∀ x∈o.operands,sK T ps x=sK T qs x) :
  oH T S o ps lk id K=oH T S o qs lk id K:=by
 cases o
 case build t parts=>
  have:=O1 (ps:=ps) (qs:=qs) parts.toList λx J=>h x.2 aW;simp only[oH,this]
 case buildSlice t len parts=>
  have:=O1 (ps:=ps) (qs:=qs) parts.toList λx J=>h x.2 aW;simp only[oH,this]
 case makeFunc fn first cap=>
  cases fn
  case func f=>
   have:=DT (ps:=ps) (qs:=qs) cap.toList λx J=>h x (by grind[Op.operands]);simp only[oH,this]
  all_goals simp only[oH]
 case slice t x lo hi mx=>
  have h0:=h x dC;have h1:=TQ (ps:=ps) (qs:=qs) lo λy hy=>h y dJ;have h2:=TQ (ps:=ps) (qs:=qs) hi λy hy=>h y dJ;have I:=TQ (ps:=ps) (qs:=qs) mx λy hy=>h y dJ
  simp_all[oH]
 case call c=>
  obtain⟨callee,args,ts⟩:=c;cases callee
  case builtin b=>
   have:=DT (ps:=ps) (qs:=qs) args.toList λx J=>h x bu;simp only[oH,this]
  all_goals simp only[oH]
 case unOp op t x=>
  have h0:=h x dC;cases op<;>simp only[oH,h0]
 all_goals (simp only[Op.operands,List.mem_toArray,List.mem_cons,List.not_mem_nil,or_false,forall_eq_or_imp,forall_eq] at h;simp only[oH,h])
theorem Vt {b:Bool}{p:Prop}:(bif b then p else False)=(b=true/\p):=by cases b<;>simp
theorem Bc {agg:Bool}{size:Nat}{row:List PV}{c:Nat}{K:PV->Prop}(h:loadRow agg size row c K):∃ v,K v/\∀ T : PV->Prop,T v->loadRow agg size row c T:=by
 unfold loadRow at h |-
 grind
theorem ahd {P:Program}{T:Tab}{op:BinOp}{t:TypeId}{x y:PV}{K:PV->Prop}(h:agA T (iq.jq P T) op t x y K):∃ v,K v/\∀ J : PV->Prop,J v->agA T (iq.jq P T) op t x y J:=by
 have spec:∀ {k I : IntKind} {a b:Int},XW (iq.jq P T) op k a I b K->∃ v,K v/\∀ J : PV->Prop,J v->XW (iq.jq P T) op k a I b J:=by
  intro k I a b h;cases op<;>simp only[XW,Vt,iq.jq] at h |-<;>grind
 have C:∀ {b:Bool},eqK (iq.jq P T) op b K->∃ v,K v/\∀ J : PV->Prop,J v->eqK (iq.jq P T) op b J:=by
  intro b h;unfold eqK at h |-
  grind
 have eql:∀ {b:Bool},eqL op b K->∃ v,K v/\∀ J : PV->Prop,J v->eqL op b J:=by
  intro b h;unfold eqL at h |-
  grind
 have ints:∀ {k I : IntKind} {a b:Int} {v u:PV},(bif isSpec op then XW (iq.jq P T) op k a I b K
   else bif uH k I then(bif I8 op then K v else bif NF op then K u else False) else False) ->
   ∃ r,K r/\∀ J : PV->Prop,J r->(bif isSpec op then XW (iq.jq P T) op k a I b J
   else bif uH k I then(bif I8 op then J v else bif NF op then J u else False) else False):=by
  grind
 unfold agA at h |-
 split at h
 exact ints h
 cases h1:isAdd op<;>simp only[h1,cond_true,cond_false] at h |-
 grind
 grind[iq.jq]
 split at h<;>grind
 split at h
 exact ints h
 split at h<;>grind
theorem ajy {rows:List (List PV)}{r:Nat}{row:List PV}{K:PV->Dl->Prop}{F:(PV->Dl->Prop)->List PV->Prop}(hr:rows[r]?=some row)(h:∃ v δ,K v δ/\∀ T : PV->Dl->Prop,T v δ->F T row):∃ v δ,K v δ/\∀ T : PV->Dl->Prop,T v δ->∃ row,rows[r]?=some row/\F T row:=by
 grind
theorem VL {c:Prop}{K:PV->Dl->Prop}{F:(PV->Dl->Prop)->Prop}(h0:c)(h:∃ v δ,K v δ/\∀ T : PV->Dl->Prop,T v δ->F T):∃ v δ,K v δ/\∀ T : PV->Dl->Prop,T v δ->c/\F T:=by
 grind
theorem aeC {P:Program}{T:Tab}{o:Op}{ps:List PV}{lk:Nat->Option lW}{id:Nat}{K:PV->Dl->Prop}(C:isQ o=true)(h:oH T (iq.jq P T) o ps lk id K) :
  ∃ v δ,K v δ/\∀ g : PV->Dl->Prop,g v δ->oH T (iq.jq P T) o ps lk id g:=by
 cases o
 case move x=>exact⟨_,_,h,λ_ hk=>hk⟩
 case assign x=>exact⟨_,_,h,λ_ hk=>hk⟩
 case pick c a b=>
  simp only[oH] at h |-
  grind
 case nilCheck x=>
  simp only[oH] at h |-
  grind
 case extract t i=>
  simp only[oH] at h |-
  grind
 case convert s d x=>
  simp only[oH] at h |-
  split at h
  split at h
  obtain⟨h1,b,h2,J⟩:=h;exact⟨_,_,J,λ_ hk=>⟨h1,b,h2,hk⟩⟩
  exact h.elim
  split at h
  exact⟨_,_,h.2,λ_ hk=>⟨h.1,hk⟩⟩
  exact h.elim
  grind
  exact h.elim
 case makeFunc fn first cap=>
  cases fn
  case func f=>
   simp only[oH] at h |-
   grind
  all_goals exact bQ
 case unOp op t x=>
  cases op
  case not=>
   simp only[oH] at h |-
   grind
  case neg=>
   simp only[oH] at h |-
   grind
  all_goals exact bQ
 case fieldAddr t x f=>
  simp only[oH] at h |-
  split at h<;>grind
 case field t x f=>
  simp only[oH] at h |-
  split at h
  split at h
  split at h
  simp only[Vt] at h |-
  grind[Bc]
  exact h.elim
  exact h.elim
  exact h.elim
 case load t x=>
  simp only[oH] at h |-
  split at h
  split at h
  grind[Bc]
  split at h<;>grind[iq.jq,Bc]
  split at h
  simp only[iq.jq,Vt] at h |-
  grind[Bc]
  exact h.elim
  grind[Bc]
  exact h.elim
  exact h.elim
 case binOp op t x y u=>
  have hn:acX y=false:=by
   grind[isQ]
  simp only[oH] at h |-
  grind[ahd]
 case indexAddr t x i=>
  simp only[oH] at h |-
  split at h
  split at h
  simp only[Vt] at h |-;obtain⟨h0,j,row,h1,h2,h⟩:=h;exact⟨_,_,h,λ_ hk=>⟨h0,j,row,h1,h2,hk⟩⟩
  split at h
  exact dS
  exact dS
  exact dS
  exact h.elim
  exact dS
  exact h.elim
  simp only[Vt] at h |-;obtain⟨h0,h⟩:=h
  split at h
  grind
  obtain⟨j,h1,h2,h⟩:=h
  split at h
  exact⟨_,_,h,λ_ hk=>⟨h0,j,h1,h2,hk⟩⟩
  exact⟨_,_,h,λ_ hk=>⟨h0,j,h1,h2,hk⟩⟩
  exact⟨_,_,h.2,λ_ hk=>⟨h0,j,h1,h2,h.1,hk⟩⟩
  exact h.elim
  exact h.elim
  exact h.elim
 case index t x i=>
  simp only[oH] at h |-
  split at h
  grind[iq.jq]
  simp only[Vt] at h |-;obtain⟨h0,j,h1,h2,h⟩:=h;obtain⟨v,J,I⟩:=Bc h;exact⟨v,_,J,λ_ hk=>⟨h0,j,h1,h2,I _ hk⟩⟩
  exact h.elim
 case build t parts=>
  simp only[oH] at h |-
  grind
 case call c=>
  obtain⟨callee,args,ts⟩:=c;cases callee
  case builtin b=>
   simp only[oH] at h |-
   split at h
   grind
   grind
   grind
   grind
   grind
   grind
   grind[isQ]
   grind[isQ]
   exact h.elim
  all_goals exact(by simp[isQ] at C)
 case slice t x lo hi mx=>
  simp only[oH] at h |-
  split at h
  all_goals repeat' (first
   | exact h.elim
   | exact⟨_,_,h,λ_ hk=>hk⟩
   | (obtain⟨i,j,h1,h2,J,I,h5⟩:=h;exact⟨_,_,h5,λ_ hk=>⟨i,j,h1,h2,J,I,hk⟩⟩)
   | (split at h)
   | (simp only[Vt] at h |-;refine VL h.1 ?_;replace h:=h.2)
   | (refine VL h.1 ?_;replace h:=h.2))
 all_goals exact(by simp[isQ] at C)
end Go.Pv
