import Derived.MapKept
import Derived.TacticsIn
import Derived.RangeFuncRecord
import Derived.Test.YtchmoabpofnbaaaGreatC02
set_option linter.all false
namespace Go.Pv
open Go
theorem JZ:∀ (l:List Nat) (c:Nat),yB l c=true↔c∈l
 | [],c=>by simp[yB]
 | b::l,c=>by
  simp only[yB]
  by_cases h:b=c
  subst h;simp
  rw[VF h];simp only[cond_false,JZ l c,List.mem_cons]
  grind
theorem aaP:∀ (l:List Nat) (c:Nat),CP l c=l++[c]
 | [],c=>rfl
 | b::l,c=>by simp[CP,aaP l c]
theorem MS:∀ l:List Nat,kU l=l.length
 | []=>rfl
 | _::l=>by simp[kU,MS l]
theorem VN:∀ (l:List Nat) (i:Nat),XI l i=l[i]?
 | [],i=>by simp[XI]
 | b::l,0=>by simp[XI]
 | b::l,i+1=>by simp[XI,VN l i]
theorem adx:∀ l m:List Nat,afk l m=l++m
 | [],m=>rfl
 | b::l,m=>by simp[afk,adx l m]
theorem Qy:∀ (n i j:Nat),(upN i n)[j]?=if j<n then some (i+j) else none
 | 0,i,j=>by simp[upN]
 | n+1,i,0=>by simp[upN]
 | n+1,i,j+1=>by
  simp only[upN,List.getElem?_cons_succ,Qy n (i+1) j]
  grind
theorem U2:∀ (n i:Nat),(upN i n).length=n
 | 0,i=>rfl
 | n+1,i=>by simp[upN,U2 n (i+1)]
theorem ady {n i b:Nat}(h:b∈upN i n):i<=b/\b<i+n:=by
 grind[List.getElem?_of_mem,Qy]
theorem Su:∀ (n i:Nat),(upN i n).Nodup
 | 0,i=>by simp[upN]
 | n+1,i=>by
  simp only[upN,List.nodup_cons];exact⟨λh=>by have:=ady h;omega,Su n (i+1)⟩
theorem VO:∀ l:List Nat,MO l=true->l.Nodup
 | [],_=>by simp
 | b::l,h=>by
  simp only[MO] at h
  cases T:yB l b with
  | true=>grind
  | false=>
   rw[T] at h;rw[List.nodup_cons];exact And.intro (λJ=>by grind[JZ]) (VO l h)
theorem YW:∀ (l:List Nat) (b i:Nat),ixN l b=some i->l[i]?=some b
 | [],b,i,h=>by simp[ixN] at h
 | c::l,b,i,h=>by
  simp only[ixN] at h
  by_cases hc:c=b
  subst hc;simp at h;subst h;simp
  rw[VF hc] at h;simp only[cond_false] at h
  split at h
  rename_i j hj;cases h;simpa using YW l b j hj
  cases h
theorem DJ (f:PV->PV):∀ l,Ak f l=l.map f
 | []=>rfl
 | x::l=>by simp[Ak,DJ f l]
theorem Sv {l:List Nat}(h:l.Nodup){i j b:Nat}(hi:l[i]?=some b)(hj:l[j]?=some b):i=j:=by
 grind[List.getElem?_inj]
theorem MV {f:List Nat->PV->List Nat}(U:∀ acc v,acc.Nodup->(f acc v).Nodup/\∃ s,f acc v=acc++s):∀ (vs:List PV) (acc:List Nat),acc.Nodup->(AA f acc vs).Nodup/\∃ s,AA f acc vs=acc++s
 | [],acc,h=>⟨h,[],by simp[AA]⟩
 | v::vs,acc,h=>by
  obtain⟨h1,s,h2⟩:=U acc v h;obtain⟨I,T,J⟩:=MV U vs (f acc v) h1
  grind[AA]
theorem U3 (st:St):∀ (d:Nat) (acc:List Nat) (v:PV),acc.Nodup->(Ey st d acc v).Nodup/\∃ s,Ey st d acc v=acc++s
 | 0,acc,v,h=>⟨h,[],by simp[Ey]⟩
 | d+1,acc,v,h=>by
  have fold:=λ(vs:List PV) (acc:List Nat) (h:acc.Nodup)=>MV (f:=Ey st d) (λacc v=>U3 st d acc v) vs acc h
  have one:∀ b,(bif yB acc b then acc else CP acc b).Nodup/\∃ s,(bif yB acc b then acc else CP acc b)=acc++s:=by
   intro b
   cases T:yB acc b with
   | true=>simp_all
   | false=>
    simp only[cond_false,aaP];exact⟨by grind[JZ],[b],rfl⟩
  have nor:∀ b,(bif yB acc b then acc else match iH st b with|some (.nor _ _ _ row)=>AA (Ey st d) (CP acc b) row|_=>CP acc b).Nodup/\∃ s,(bif yB acc b then acc else match iH st b with|some (.nor _ _ _ row)=>AA (Ey st d) (CP acc b) row|_=>CP acc b)=acc++s:=by
   intro b;have h1:=one b
   cases T:yB acc b with
   | true=>grind
   | false=>
    rw[T] at h1;simp only[cond_false] at h1 |-
    split
    rename_i row _;obtain⟨h2,s,J⟩:=fold row _ h1.1
    grind
    exact h1
  unfold Ey
  split
  exact nor _
  exact nor _
  exact one _
  exact one _
  exact one _
  rename_i b c;have h1:=one b
  cases T:yB acc b with
  | true=>grind
  | false=>
   rw[T] at h1;simp only[cond_false] at h1 |-
   split
   rename_i row _;obtain⟨h2,s,J⟩:=fold row _ h1.1
   grind
   exact h1
  exact fold _ _ h
  exact fold _ _ h
  exact fold _ _ h
  simp_all
theorem Qz (st:St):∀ (l acc:List Nat),acc.Nodup->(Ug st acc l).Nodup/\∃ s,Ug st acc l=acc++s
 | [],acc,h=>⟨h,[],by simp[Ug]⟩
 | b::l,acc,h=>by
  unfold Ug
  split
  rename_i ro row _;obtain⟨h1,s,h2⟩:=MV (f:=Ey st 8) (λacc v=>U3 st 8 acc v) row acc h;obtain⟨I,T,J⟩:=Qz st l _ h1
  grind
  rename_i row _;obtain⟨h1,s,h2⟩:=MV (f:=Ey st 8) (λacc v=>U3 st 8 acc v) row acc h;obtain⟨I,T,J⟩:=Qz st l _ h1
  grind
  exact Qz st l acc h
theorem MW (m:Nat)(st:St)(vs:List PV):(Uh m st vs).Nodup/\(∀ i,i<m->(Uh m st vs)[i]?=some i)/\m<=(Uh m st vs).length:=by
 obtain⟨h1,s,h2⟩:=Qz st (upN 0 m) (upN 0 m) (Su m 0);obtain⟨J,T,I⟩:=MV (f:=Ey st 8) (λacc v=>U3 st 8 acc v) vs _ h1;have e:Uh m st vs=upN 0 m++(s++T):=by grind[Uh]
 refine⟨J,λi hi=>?_,?_⟩
 rw[e,List.getElem?_append_left (by rw[U2];exact hi),Qy,if_pos hi];simp
 grind[U2]
theorem eU.map {w:World}{Y:Nat->Prop}{σ σ' : Sg}{f:PV->PV}(U:∀ p v,Rep w Y σ p v->Rep w Y σ' (f p) v):∀ (ps:List PV) (vs:List Value),eU w Y σ ps vs->eU w Y σ' (ps.map f) vs
 | [],vs,h=>by grind[eU]
 | p::ps,vs,h=>by
  unfold eU at h;obtain⟨v,T,rfl,h1,h2⟩:=h;simp only[List.map_cons];unfold eU;exact⟨v,T,rfl,U _ _ h1,eU.map U ps T h2⟩
theorem iG.map {w:World}{Y:Nat->Prop}{σ σ' : Sg}{b:Nat}{f:PV->PV}(U:∀ p v,Rep w Y σ p v->Rep w Y σ' (f p) v):∀ (ps:List PV) (o:Nat),iG w Y σ b ps o->iG w Y σ' b (ps.map f) o
 | [],o,h=>by simp[iG]
 | p::ps,o,h=>by
  unfold iG at h;obtain⟨⟨v,hc,h1⟩,h2⟩:=h;simp only[List.map_cons];unfold iG;exact⟨⟨v,hc,U _ _ h1⟩,iG.map U ps (o+1) h2⟩
theorem zB {w:World}{Y:Nat->Prop}{σ σ' : Sg}{f:Nat->Option Nat}(U:∀ b i l,f b=some i->σ b=some l->σ' i=some l):∀ (d:Nat) (p:PV) (v:Value),Rep w Y σ p v->Rep w Y σ' (vI f d p) v
 | 0,p,v,_=>by simp[vI,Rep]
 | d+1,p,v,h=>by
  have T:=zB (w:=w) (Y:=Y) U d;unfold vI;cases p
  case os b r n=>
   grind[Rep]
  case lv b c=>
   grind[Rep]
  case lp b r c=>
   grind[Rep]
  case bo b r c hd sz n=>
   grind[Rep]
  case np b r c hd sz j k=>
   grind[Rep]
  case mp b=>
   grind[Rep]
  case agg cs=>simp only[DJ];unfold Rep at h |-;obtain⟨vs,e,h⟩:=h;exact⟨vs,e,h.map T⟩
  case Eu cs=>simp only[DJ];unfold Rep at h |-;obtain⟨vs,e,h⟩:=h;exact⟨vs,e,h.map T⟩
  case fn k cs=>simp only[DJ];unfold Rep at h |-;obtain⟨vs,e,h⟩:=h;exact⟨vs,e,h.map T⟩
  all_goals (simp only;unfold Rep at h |-;exact h)
theorem PI {w:World}{Y:Nat->Prop}{σ σ' : Sg}{f:Nat->Option Nat}(U:∀ b i l,f b=some i->σ b=some l->σ' i=some l){l:Loc}{x y:lI}(hx:Gy f (some x)=some y)(h:fF w Y σ l x):fF w Y σ' l y:=by
 cases x with
 | var ro row=>
  simp only[Gy,Option.some.injEq] at hx;subst hx;unfold fF at h |-;rw[DJ];obtain⟨h1,h2,I,J,T⟩:=h;exact⟨h1,by simpa using h2,by simpa using I,J.map (zB U 8) _ _,T⟩
 | arr ro sz rows=>
  grind[Gy,fF]
 | lq sz rows=>
  grind[Gy,fF]
 | map rows=>
  grind[Gy,fF]
 | nor sz rows r row=>
  simp only[Gy,Option.some.injEq] at hx;subst hx;unfold fF at h |-;rw[DJ];obtain⟨h1,h2,I,J,⟨T,g⟩,t,C,h9⟩:=h;exact⟨h1,h2,I,J,⟨T,by simpa using g⟩,t,C.map (zB U 8) _ _,h9⟩
theorem VP {f:Nat->Option Nat}{x y:lI}(h:Gy f (some y)=some x)(hy:Emp y):Emp x:=by
 cases hy<;>(simp only[Gy,Option.some.injEq] at h;subst h;constructor)
theorem aaQ {f:Nat->Option Nat}{x:lI}{sz:Nat}{rows:List (List PV)}(h:Gy f (some x)=some (.lq sz rows)):x=.lq sz rows:=by
 cases x<;>simp_all[Gy]
theorem Sz {f:Nat->Option Nat}{o:Option lI}{y:lI}(h:Gy f o=some y):∃ x,o=some x:=by
 cases o with
 | none=>simp[Gy] at h
 | some x=>grind
theorem VQ (f:Nat->Option Nat)(st:St):∀ (ρ:List Nat) (i j:Nat),iH (yC f st i ρ) j=if i<=j then(match ρ[j-i]? with|some b=>Gy f (iH st b)|none=>none) else none
 | [],i,j=>by simp[yC,iH]
 | b::ρ,i,j=>by
  simp only[yC,iH]
  by_cases h:i=j
  subst h;simp
  rw[VF h];simp only[cond_false,VQ f st ρ (i+1) j]
  grind
theorem SW.aaA {T:Tab}{C:Ctx T}{w:World}{Y:Nat->Prop}{σ:Sg}{ps:List PV}{vs:List Value}{st:St}{n:Nat}(H:SW C w Y σ ps vs st n){ρ:List Nat}(hnd:ρ.Nodup)(hpre:∀ i,i<T.oZ->ρ[i]?=some i)(hlen:T.oZ<=ρ.length) :
  ∃ σ',SW C w Y σ' (Ak (vI (ixN ρ) 8) ps) vs (yC (ixN ρ) st 0 ρ) (kU ρ)/\∀ p v d,Rep w Y σ p v->Rep w Y σ' (vI (ixN ρ) d p) v:=by
 let σ' : Sg:=λi=>match ρ[i]? with|some b=>σ b|none=>none
 have U:∀ b i l,ixN ρ b=some i->σ b=some l->σ' i=some l:=by
  intro b i l h1 h2;show(match ρ[i]? with|some b=>σ b|none=>none)=some l;rw[YW _ _ _ h1];exact h2
 have look:∀ i x,iH (yC (ixN ρ) st 0 ρ) i=some x->∃ b y,ρ[i]?=some b/\iH st b=some y/\Gy (ixN ρ) (some y)=some x/\σ' i=σ b:=by
  intro i x hx;rw[VQ,if_pos (Nat.zero_le _),Nat.sub_zero] at hx
  grind[Sz]
 refine⟨σ',⟨by rw[DJ];exact H.vals.map (zB U 8),⟨λi x hx=>?_,λi i' x x' l l' hx hx' I g e=>?_⟩,λi hi=>?_,H.vJ,H.y0,H.c0,H.wP,H.pJ,λi x l hx I=>?_,H.wQ,?_,?_⟩,λp v d h=>zB U d p v h⟩
 obtain⟨b,y,h1,h2,h3,h4⟩:=look i x hx;rcases H.store.blk b y h2 with ⟨l,I,hB⟩|⟨hn,hy⟩<;>grind[PI,VP]
 obtain⟨b,y,h1,h2,h3,h4⟩:=look i x hx;obtain⟨b',y',h1',h2',h3',h4'⟩:=look i' x' hx';rw[h4] at I;rw[h4'] at g;have:=H.store.inj b b' y y' l l' h2 h2' I g e
 grind[Sv]
 grind[MS]
 obtain⟨b,y,h1,h2,h3,h4⟩:=look i x hx;rw[h4] at I;exact H.own b y l h2 I
 refine⟨by rw[MS];exact hlen,λb J=>?_⟩;show(match ρ[b]? with|some b=>σ b|none=>none)=_;rw[hpre b J];exact H.fix.2 b J
 have ow:∀ {i r c h sz t},lU (yC (ixN ρ) st 0 ρ) i r c h sz t->∃ b,ρ[i]?=some b/\lU st b r c h sz t:=by
  rintro i r c h sz t ⟨sz0,rows,row,h1,h2⟩
  obtain⟨b,y,g1,g2,g3,_⟩:=look i _ h1;have:=aaQ g3;subst this;exact⟨b,g1,sz0,rows,row,g2,h2⟩
 refine⟨λi r c h sz t hk=>?_,λi r c h sz t hk=>?_,λi r c h sz t i' r' c' h' sz' es' hk hk' e=>?_,λi r c h sz t i' x l hk hx I=>?_⟩
 obtain⟨b,_,J⟩:=ow hk;exact H.nest.rep _ _ _ _ _ _ J
 obtain⟨b,_,J⟩:=ow hk;exact H.nest.old _ _ _ _ _ _ J
 obtain⟨b,h1,J⟩:=ow hk;obtain⟨b',h1',hb'⟩:=ow hk';obtain⟨e1,e2,e3⟩:=H.nest.one _ _ _ _ _ _ _ _ _ _ _ _ J hb' e
 grind[Sv]
 obtain⟨b,_,J⟩:=ow hk;obtain⟨b',y,_,g2,_,g4⟩:=look i' x hx;rw[g4] at I;exact H.nest.sep _ _ _ _ _ _ _ _ _ J g2 I
theorem J3 {w:World}{Y:Nat->Prop}{σ:Sg}:∀ (ps:List PV) (keep:List Nat) (i:Nat) (vs:List Value),eU w Y σ ps vs->eU w Y σ (OX keep i ps) vs
 | [],keep,i,vs,h=>by simpa [OX] using h
 | p::ps,[],i,vs,h=>by
  unfold eU at h;obtain⟨v,T,rfl,h1,h2⟩:=h;simp only[OX];unfold eU;exact⟨v,T,rfl,by simp[Rep],J3 ps [] _ T h2⟩
 | p::ps,k::ks,i,vs,h=>by
  unfold eU at h;obtain⟨v,T,rfl,h1,h2⟩:=h;simp only[OX]
  cases Nat.beq k i with
  | true=>simp only[cond_true];unfold eU;exact⟨v,T,rfl,h1,J3 ps ks _ T h2⟩
  | false=>simp only[cond_false];unfold eU;exact⟨v,T,rfl,by simp[Rep],J3 ps (k::ks) _ T h2⟩
theorem GK {T:Tab}(keep:List Nat)(E:Env):Ent T E (Iq T.oZ keep E):=by
 intro C a w hA;obtain⟨⟨Y,σ,H⟩,I⟩:=hA;have H1:=H.qU (J3 _ keep 0 _ H.vals);obtain⟨h1,h2,t⟩:=MW T.oZ E.st (OX keep 0 E.tmps);obtain⟨σ',J,_⟩:=H1.aaA h1 h2 t;exact⟨⟨Y,σ',J⟩,I⟩
theorem aaR (f:Nat->Option Nat)(st1:St):∀ (τ:List Nat) (i:Nat) (st:St) (b:Nat),τ.Nodup->(∀ j,τ[j]?=some b->iH (aaB f st1 i τ st) b=Gy f (iH st1 (i+j)))/\(b ∉ τ->iH (aaB f st1 i τ st) b=iH st b)
 | [],i,st,b,_=>⟨λj h=>by simp at h,λ_=>rfl⟩
 | c::τ,i,st,b,h=>by
  rw[List.nodup_cons] at h;obtain⟨h1,h2⟩:=aaR f st1 τ (i+1) (nD st c (Gy f (iH st1 i))) b h.2;simp only[aaB];refine⟨λj hj=>?_,λT=>?_⟩
  cases j with
  | zero=>
   simp at hj;subst hj;rw[h2 h.1,gG,if_pos rfl];rfl
  | succ j=>
   grind
  simp only[List.mem_cons,not_or] at T;rw[h2 T.2,gG,if_neg λe=>T.1 e.symm]
theorem aaS {n:Nat}:∀ l,ltN n l=true->∀ b∈l,b<n
 | [],_,b,h=>by cases h
 | c::l,h,b,hb=>by
  simp only[ltN,Bool.and_eq_true,Nat.blt_eq] at h;rcases List.mem_cons.1 hb with rfl|hb
  exact h.1
  exact aaS l h.2 b hb
theorem YX {P:Program}{T:Tab}{C:Ctx T}{w:World}{Y:Nat->Prop}{σ:Sg}{E:Env}{vs:List Value}{n0 N:Nat}(H:SW C w Y σ E.tmps vs E.st n0){args:List PV}{cargs:List Value}{ρ:List Nat}{v:PV}{st1:St}{n1:Nat}
  (hnd:MO ρ=true) (hlt:ltN E.next ρ=true) (hid:T.oZ<=E.next) (hwin:∀ b,E.next<=b->b<E.next+(n1-kU ρ)->σ b=none) (hN:E.next+(n1-kU ρ)<=N/\n0<=N) (hr:eU w Y σ args cargs)
  {X:(Ending->World->Prop)->Prop} {Z:World->(Nat->Prop)->Prop} (hX:∀ R R',(∀ e w',R e w'->R' e w')->X R->X R')
  (hF:∀ σc:Sg,(∀ i b,ρ[i]?=some b->σc i=σ b)->(∀ b,kU ρ<=b->σc b=none)->eU w Y σc (Ak (vI (ixN ρ) 8) args) cargs->ET w Y σc (yC (ixN ρ) E.st 0 ρ) ->
   X λe w'=>∃ cv u st' t Y' σ',e=.returned cv/\(u=v/\st'=st1/\t=n1)/\SW (yg ⟨λ_=>.bad,T.gl,kU ρ,[],0,[],[],none,λ_=>[]⟩ w Y σc (yC (ixN ρ) E.st 0 ρ)) w' Y' σ' [u] [cv] st' t/\Z w' Y') :
  X λe w'=>∃ cv Y' σ',e=.returned cv/\SW C w' Y' σ' E.tmps vs (EZ ρ E st1 n1).st N/\Rep w' Y' σ' (vI (CE ρ E.next) 8 v) cv/\(∀ b,(b<E.next\/n1<=kU ρ+(b-E.next))->σ' b=σ b)/\Z w' Y':=by
 have hnd:=VO _ hnd;have hlt:=aaS _ hlt
 let σc:Sg:=λi=>match ρ[i]? with|some b=>σ b|none=>none
 have hσc:∀ i b,ρ[i]?=some b->σc i=σ b:=by
  grind
 have U:∀ b i l,ixN ρ b=some i->σ b=some l->σc i=some l:=by
  grind[YW]
 have look:∀ i x,iH (yC (ixN ρ) E.st 0 ρ) i=some x->∃ b y,ρ[i]?=some b/\iH E.st b=some y/\Gy (ixN ρ) (some y)=some x/\σc i=σ b:=by
  intro i x hx;rw[VQ,if_pos (Nat.zero_le _),Nat.sub_zero] at hx
  grind[Sz]
 have hst0:ET w Y σc (yC (ixN ρ) E.st 0 ρ):=by
  refine⟨λi x hx=>?_,λi i' x x' l l' hx hx' I hl' e=>?_⟩
  obtain⟨b,y,h1,h2,h3,h4⟩:=look i x hx;rcases H.store.blk b y h2 with ⟨l,I,hB⟩|⟨hn,hy⟩<;>grind[PI,VP]
  obtain⟨b,y,h1,h2,h3,h4⟩:=look i x hx;obtain⟨J,y',h1',h2',h3',h4'⟩:=look i' x' hx';rw[h4] at I;rw[h4'] at hl';have:=H.store.inj b J y y' l l' h2 h2' I hl' e
  grind[Sv]
 have hnext:∀ b,kU ρ<=b->σc b=none:=by
  grind[MS]
 have inst:∀ k,Ez σc (yC (ixN ρ) E.st 0 ρ) k->∃ b y l,b∈ρ/\iH E.st b=some y/\σ b=some l/\l.cb=k:=by
  rintro k ⟨i,x,l,hx,I,rfl⟩
  grind
 refine hX _ _ (λe w' hh=>?_) (hF σc hσc hnext (by rw[DJ];exact hr.map (zB U 8)) hst0);obtain⟨cv,u,st',t,Y',σ',rfl,⟨rfl,rfl,rfl⟩,H',hZ⟩:=hh;have hm:kU ρ<=t:=H'.fix.1;have hfix:∀ i,i<kU ρ->σ' i=σc i:=H'.fix.2;have hlen:=MS ρ
 let σn:Sg:=λb=>if b<E.next\/t<=kU ρ+(b-E.next) then σ b else σ' (kU ρ+(b-E.next))
 have hout:∀ b,(b<E.next\/t<=kU ρ+(b-E.next))->σn b=σ b:=λb h=>by
  grind
 have hbak:∀ i b,i<t->CE ρ E.next i=some b->σn b=σ' i:=by
  intro i b hin h;unfold CE at h;rw[VN] at h
  grind
 have hin' : ∀ i l,σ' i=some l->i<t:=λi l h=>by
  by_cases hh:i<t
  exact hh
  rw[H'.next i ae] at h;cases h
 have hfb:∀ i b l,CE ρ E.next i=some b->σ' i=some l->σn b=some l:=λi b l h1 h2=>by grind
 have excl:∀ k,k<w.heap.size->Y' k->Y k:=by
  intro k hk hy;rcases H'.wP k hy hk with h|h
  exact h.1
  exact h.1
 have K:Keep w w' Y Y' σ σn:=by
  refine⟨λk hk hy=>H'.pJ.block k hk λh=>hy h.1,excl,H'.pJ.size,λb l I=>?_⟩;rw[hout b ?_];· exact I
  by_cases hh:b<E.next\/t<=kU ρ+(b-E.next)
  exact hh
  rw[hwin b ae ae] at I;cases I
 have hτ:(ρ++upN E.next (t - kU ρ)).Nodup:=by
  rw[List.nodup_append];refine⟨hnd,Su _ _,λa ha b hb e=>?_⟩;have:=hlt a ha;have:=(ady hb).1;omega
 have hτi:∀ i b,(ρ++upN E.next (t - kU ρ))[i]?=some b->CE ρ E.next i=some b:=by
  grind[CE,VN,List.getElem?_append_left,Qy]
 have hnot:∀ b,b ∉ (ρ++upN E.next (t - kU ρ))->b ∉ ρ/\(b<E.next\/t<=kU ρ+(b-E.next)):=by
  intro b hb;rw[List.mem_append,not_or] at hb;refine⟨hb.1,?_⟩
  by_cases h1:b<E.next
  exact .inl h1
  refine .inr ?_
  by_cases h2:b-E.next<t - kU ρ
  exact absurd (List.mem_of_getElem? (i:=b-E.next) (by rw[Qy,if_pos h2];congr 1;omega)) hb.2
  omega
 have lk:∀ b x,iH (EZ ρ E st' t).st b=some x->(∃ i y,CE ρ E.next i=some b/\iH st' i=some y/\Gy (CE ρ E.next) (some y)=some x/\σn b=σ' i) \/
   (b ∉ ρ/\(b<E.next\/t<=kU ρ+(b-E.next))/\iH E.st b=some x):=by
  intro b x hx;simp only[EZ,adx] at hx;obtain⟨h1,h2⟩:=aaR (CE ρ E.next) st' (ρ++upN E.next (t - kU ρ)) 0 E.st b hτ
  by_cases hb:b∈ρ++upN E.next (t - kU ρ)
  obtain⟨i,hi⟩:=List.getElem?_of_mem hb;rw[h1 i hi,Nat.zero_add] at hx
  grind[Sz,U2]
  rw[h2 hb] at hx;exact .inr ⟨(hnot b hb).1,(hnot b hb).2,hx⟩
 have nin:∀ b x l,b ∉ ρ->iH E.st b=some x->σ b=some l->¬ Ez σc (yC (ixN ρ) E.st 0 ρ) l.cb:=by
  intro b x l hb hx I hi;obtain⟨J,y,l',h1,h2,h3,h4⟩:=inst _ hi;have:=H.store.inj J b y x l' l h2 hx h3 I h4
  grind
 have getσ:∀ b l,(b<E.next\/t<=kU ρ+(b-E.next))->σn b=some l->σ b=some l:=by
  grind
 have owc:∀ {b r c h sz es},lU (EZ ρ E st' t).st b r c h sz es->(∃ i,CE ρ E.next i=some b/\lU st' i r c h sz es)\/lU E.st b r c h sz es:=by
  rintro b r c h sz es ⟨sz0,rows,row,h1,h2⟩
  rcases lk b _ h1 with ⟨i,y,g1,g2,g3,_⟩|⟨_,_,g3⟩
  have:=aaQ g3;subst this;exact .inl ⟨i,g1,sz0,rows,row,g2,h2⟩
  exact .inr ⟨sz0,rows,row,g3,h2⟩
 have notIn:∀ {b r c h sz es},lU E.st b r c h sz es->¬ Ez σc (yC (ixN ρ) E.st 0 ρ) h.ν:=by
  intro b r c h sz es hk hi;obtain⟨J,y,l',h1,h2,h3,h4⟩:=inst _ hi;exact H.nest.sep _ _ _ _ _ _ _ _ _ hk h2 h3 h4
 have cross:∀ {i r c h sz es b r' c' h' sz' es'},lU st' i r c h sz es->lU E.st b r' c' h' sz' es'->h.ν≠h'.ν:=by
  intro i r c h sz es b r' c' h' sz' es' hk hk' e;rcases H'.nest.old _ _ _ _ _ _ hk with g|g
  have g:w.heap.size<=h.ν:=g;have:=(H.nest.rep _ _ _ _ _ _ hk').lt;omega
  rw[e] at g;exact notIn hk' g
 have nest:Am C.w0 C.L w' Y' σn (EZ ρ E st' t).st:=by
  refine⟨λb r c h sz es hk=>?_,λb r c h sz es hk=>?_,λb r c h sz es J r' c' h' sz' es' hk hk' e=>?_,λb r c h sz es J x l hk hx I=>?_⟩
  rcases owc hk with ⟨i,_,hk⟩|hk
  exact H'.nest.rep _ _ _ _ _ _ hk
  have hN:=H.nest.rep _ _ _ _ _ _ hk;exact hN.keep K.none (H'.pJ.block _ hN.lt λh=>notIn hk h.2) (λh=>H'.y0 _ ⟨h,notIn hk⟩)
  rcases owc hk with ⟨i,_,hk⟩|hk
  rcases H'.nest.old _ _ _ _ _ _ hk with h|h
  exact .inl (Nat.le_trans H.pJ.size h)
  obtain⟨J,y',l',h5,h6,h7,h8⟩:=inst _ h;rw[<- h8];exact H.own J y' l' h6 h7
  exact H.nest.old _ _ _ _ _ _ hk
  rcases owc hk with ⟨i,g,hk⟩|hk<;>rcases owc hk' with ⟨i',g',hk'⟩|hk'
  obtain⟨e1,e2,e3⟩:=H'.nest.one _ _ _ _ _ _ _ _ _ _ _ _ hk hk' e;subst e1;rw[g] at g';cases g';exact⟨rfl,e2,e3⟩
  exact absurd e (cross hk hk')
  grind
  exact H.nest.one _ _ _ _ _ _ _ _ _ _ _ _ hk hk' e
  rcases owc hk with ⟨i,g,hk⟩|hk<;>rcases lk J x hx with ⟨i',y,g1,g2,g3,g4⟩|⟨g1,g2,g3⟩
  exact H'.nest.sep _ _ _ _ _ _ _ _ _ hk g2 ak
  have hσ:=getσ J l g2 I;intro e
  have hlt' : l.cb<w.heap.size:=by
   rcases H.store.blk J x g3 with ⟨l2,hl2,hB⟩|⟨hn,_⟩
   rw[hσ] at hl2;cases hl2;exact hB.lt
   grind
  rcases H'.nest.old _ _ _ _ _ _ hk with h|h
  have h:w.heap.size<=_:=h;omega
  rw[<- e] at h;exact nin J x l g1 g3 hσ h
  intro e;rcases H'.own i' y l g2 ak with h|h
  have h:w.heap.size<=l.cb:=h;have:=(H.nest.rep _ _ _ _ _ _ hk).lt;omega
  rw[e] at h;exact notIn hk h
  exact H.nest.sep _ _ _ _ _ _ _ _ _ hk g3 (getσ J l g2 I)
 refine⟨cv,Y',σn,rfl,⟨eU.keep _ K _ H.vals,⟨λb x hx=>?_,λb J x x' l l' hx hx' I hl' e=>?_⟩,λb hb=>?_,H'.vJ,λk hk=>?_,H.c0,λk hk hlt=>?_,?_,λb x l hx I=>?_,H'.wQ,?_,nest⟩,?_⟩
 rcases lk b x hx with ⟨i,y,h1,h2,h3,h4⟩|⟨h1,h2,h3⟩
 rcases H'.store.blk i y h2 with ⟨l,I,hB⟩|⟨hn,hy⟩
 exact .inl ⟨l,by rw[h4];exact I,PI hfb h3 hB⟩
 exact .inr ⟨by rw[h4];exact hn,VP h3 hy⟩
 rcases H.store.blk b x h3 with ⟨l,I,hB⟩|⟨hn,hy⟩
 have hni:=nin b x l h1 h3 I;refine .inl ⟨l,K.sg b l I,fF.keep K (H'.pJ.block _ hB.lt λh=>hni h.2) ⟨excl _ hB.lt,λh=>H'.y0 _ ⟨h,hni⟩⟩ hB⟩
 grind
 have side:∀ b J x x' l l',(∃ i y,CE ρ E.next i=some b/\iH st' i=some y/\Gy (CE ρ E.next) (some y)=some x/\σn b=σ' i)->(J ∉ ρ/\(J<E.next\/t<=kU ρ+(J - E.next))/\iH E.st J=some x') ->
   σn b=some l->σn J=some l'->l.cb=l'.cb->False:=by
  rintro b J x x' l l' ⟨i,y,h1,h2,h3,h4⟩ ⟨h5,h6,h7⟩ I hl' e
  have hσ:σ J=some l':=getσ J l' h6 hl'
  have hlt' : l'.cb<w.heap.size:=by
   rcases H.store.blk J x' h7 with ⟨l2,hl2,hB⟩|⟨hn,_⟩
   rw[hσ] at hl2;cases hl2;exact hB.lt
   grind
  rcases H'.own i y l h2 (by rw[<- h4];exact I) with h|h
  have h:w.heap.size<=l.cb:=h;omega
  rw[e] at h;exact nin J x' l' h5 h7 hσ h
 rcases lk b x hx with h|h<;>rcases lk J x' hx' with h'|h'
 obtain⟨i,y,h1,h2,h3,h4⟩:=h;obtain⟨i',y',h1',h2',h3',h4'⟩:=h';have:=H'.store.inj i i' y y' l l' h2 h2' (by rw[<- h4];exact I) ak e
 grind
 exact(side b J x x' l l' h h' I hl' e).elim
 exact(side J b x' x l' l h' h hl' I e.symm).elim
 have get:∀ b x l,(b ∉ ρ/\(b<E.next\/t<=kU ρ+(b-E.next))/\iH E.st b=some x)->σn b=some l->σ b=some l:=by
  grind
 exact H.store.inj b J x x' l l' h.2.2 h'.2.2 (get b x l h I) (get J x' l' h' hl') e
 rw[hout b ae];exact H.next b ae
 refine H'.y0 k ⟨H.y0 k hk,λhi=>?_⟩;obtain⟨b,y,l,h1,h2,h3,rfl⟩:=inst k hi;exact H.away h2 h3 hk
 exact H.wP k (excl k (Nat.lt_of_lt_of_le hlt H.pJ.size) hk) hlt
 refine⟨by rw[H'.pJ.os];exact H.pJ.os,by rw[H'.pJ.tape];exact H.pJ.tape,by rw[H'.pJ.output];exact H.pJ.output,Nat.le_trans H.pJ.size H'.pJ.size,λk hk hM=>?_⟩;rw[H'.pJ.block k (Nat.lt_of_lt_of_le hk H.pJ.size) λh=>?_]
 exact H.pJ.block k hk hM
 obtain⟨h1,h2⟩:=h;rcases H.wP k h1 hk with h3|h3
 obtain⟨b,y,l,h4,h5,h6,rfl⟩:=inst k h2;exact H.away h5 h6 h3
 exact hM h3
 rcases lk b x hx with ⟨i,y,h1,h2,h3,h4⟩|⟨h1,h2,h3⟩
 rcases H'.own i y l h2 (by rw[<- h4];exact I) with h|h
 exact .inl (Nat.le_trans H.pJ.size h)
 obtain⟨J,y',l',h5,h6,h7,h8⟩:=inst _ h;rw[<- h8];exact H.own J y' l' h6 h7
 exact H.own b x l h3 (getσ b l h2 I)
 refine⟨by have:=H.fix.1;omega,λb hb=>?_⟩;rw[hout b (.inl ae)];exact H.fix.2 b hb
 have:=H'.vals
 grind[eU,zB]
theorem YY {P:Program}{T:Tab}{C:Ctx T}{w:World}{Y:Nat->Prop}{σ:Sg}{E:Env}{vs:List Value}{n0 N:Nat}(H:SW C w Y σ E.tmps vs E.st n0){k:Nat}{args:List PV}{J:List Value}{ρ:List Nat}{v:PV}{st1:St}{n1:Nat}
  (hnd:MO ρ=true) (hlt:ltN E.next ρ=true) (hnn:kS (yC (ixN ρ) E.st 0 ρ)=true) (hid:T.oZ<=E.next) (t:∀ b,E.next<=b->b<E.next+(n1-kU ρ)->σ b=none) (hN:E.next+(n1-kU ρ)<=N/\n0<=N) (hr:eU w Y σ args J)
  (hF:FnS P T.gl k (Ak (vI (ixN ρ) 8) args) (yC (ixN ρ) E.st 0 ρ) (kU ρ) (λu st n=>u=v/\st=st1/\n=n1)) :
  (callFunc k J.toArray).run P w=.ok (.enter k J.toArray) w /\
  Calls P k J.toArray w λe w'=>∃ cv Y' σ',e=.returned cv/\SW C w' Y' σ' E.tmps vs (EZ ρ E st1 n1).st N/\Rep w' Y' σ' (vI (CE ρ E.next) 8 v) cv/\∀ b,(b<E.next\/n1<=kU ρ+(b-E.next))->σ' b=σ b :=
by
 have:=YX (P:=P) (X:=λR=>(callFunc k J.toArray).run P w=.ok (.enter k J.toArray) w/\Calls P k J.toArray w R) (Z:=λ_ _=>True) H hnd hlt hid t hN hr (λ_ _ h k=>⟨k.1,Calls.mono k.2 h⟩)
  λσc _ I hra g=>by
   obtain⟨h1,h2⟩:=hF w Y σc J H.wQ H.vJ I hra g hnn
   simp_all;omega
 grind
theorem afS {P:Program}{T:Tab}{C:Ctx T}{w:World}{Y:Nat->Prop}{σ:Sg}{E:Env}{vs:List Value}(H:SW C w Y σ E.tmps vs E.st E.next){k:Nat}{args:List PV}{J:List Value}{ρ:List Nat}{v:PV}{st1:St}{n1:Nat}
  (g:MO ρ=true) (I:ltN E.next ρ=true) (t:kS (yC (ixN ρ) E.st 0 ρ)=true) (hr:eU w Y σ args J)
  (hF:FnS P T.gl k (Ak (vI (ixN ρ) 8) args) (yC (ixN ρ) E.st 0 ρ) (kU ρ) (λu st n=>u=v/\st=st1/\n=n1)) :
  (callFunc k J.toArray).run P w=.ok (.enter k J.toArray) w /\
  Calls P k J.toArray w λe w'=>∃ cv Y' σ',e=.returned cv/\SW C w' Y' σ' E.tmps vs (EZ ρ E st1 n1).st (EZ ρ E st1 n1).next/\Rep w' Y' σ' (vI (CE ρ E.next) 8 v) cv:=by
 obtain⟨h1,h2⟩:=YY (N:=E.next+(n1-kU ρ)) H g I t H.fix.1 (λb hb _=>H.next b hb) ⟨Nat.le_refl _,Nat.le_add_right _ _⟩ hr hF;refine⟨h1,Calls.mono h2 λe w' hh=>?_⟩;obtain⟨cv,Y',σ',e1,h3,h4,_⟩:=hh;exact⟨cv,Y',σ',e1,h3,h4⟩
theorem IJ {st:St}{b:Nat}{x:lI}(h:ab1 st b=some x):iH st b=some x/\x.ro=true:=by
 unfold ab1 at h
 split at h
 rename_i e;cases h;exact⟨e,rfl⟩
 rename_i e;cases h;exact⟨e,rfl⟩
 cases h
theorem fF.ajL {w:World}{Y:Nat->Prop}{σ:Sg}{l:Loc}{x:lI}(h:fF w Y σ l x)(hr:x.ro=true):¬ Y l.cb:=by
 cases x with
 | var ro row=>unfold fF at h;exact h.2.2.2.2.2 hr
 | arr ro sz rows=>unfold fF at h;exact h.2.2.2.2.2.2 hr
 | lq sz rows=>cases hr
 | map rows=>cases hr
 | nor sz rows r row=>cases hr
theorem U4 {P:Program}{T:Tab}{C:Ctx T}{w:World}{Y:Nat->Prop}{σ:Sg}{ps:List PV}{vs:List Value}{st:St}{n:Nat}(H:SW C w Y σ ps vs st n){lk:Nat->Option lI}(I:∀ b x,lk b=some x->iH st b=some x/\x.ro=true)
  {k d:Nat} {args as:List PV} {J:List Value} {v:PV}
  (hm:MK (frz (gV.jd P T) lk d) args=some as) (hr:eU w Y σ args J) (hF:Fn P T.gl k as (λu=>u=v)):Qx P k C Y σ w J ps vs st n v:=by
 have t:∀ b x l,lk b=some x->σ b=some l->¬ Y l.cb:=by
  intro b x l h1 h2;obtain⟨h3,h4⟩:=I b x h1;rcases H.store.blk b x h3 with ⟨l',hl',hB⟩|⟨hn,_⟩
  rw[h2] at hl';cases hl';exact hB.ajL h4
  grind
 obtain⟨h1,h2⟩:=hF w Y J H.wQ H.vJ (Qw H.store (λb x h=>(I b x h).1) (λ_ h=>h) t (λb sz rows hb=>by have:=(I _ _ hb).2;cases this) hm hr);refine⟨h1,Calls.mono h2 λe w' h=>?_⟩;obtain⟨cv,u,rfl,rfl,hrep,g⟩:=h;exact⟨cv,rfl,H.afF g,hrep.ak6⟩
theorem SW.roS {T:Tab}{C:Ctx T}{w:World}{σ:Sg}{ps:List PV}{vs:List Value}{n:Nat}:∀ (ρ:List Nat) {Y:Nat->Prop} {st:St},SW C w Y σ ps vs st n->∃ Y',SW C w Y' σ ps vs (Pv.roS st ρ) n/\∀ k,Y' k->Y k
 | [],Y,st,H=>⟨Y,H,λ_ h=>h⟩
 | b::l,Y,st,H=>by
  unfold Pv.roS
  split
  rename_i ro row J;obtain⟨t,H1,_,h1⟩:=H.freeze J (.inl ⟨ro,row,rfl,rfl⟩);obtain⟨I,g,h2⟩:=SW.roS l H1
  grind
  rename_i ro sz rows J;obtain⟨t,H1,_,h1⟩:=H.freeze J (.inr ⟨ro,sz,rows,rfl,rfl⟩);obtain⟨I,g,h2⟩:=SW.roS l H1
  grind
  exact SW.roS l H
theorem MX {P:Program}{T:Tab}{k:Nat}{args:List PV}{E:Env}{K:PV->Env->Prop}(h:Vt (gV.jd P T) k args E K):Uj P T k args E K:=by
 unfold Vt at h
 split at h
 rename_i as g;rcases h with ⟨v,hF,I⟩|⟨v,st1,n1,hF,I⟩|h
 exact Uj.afR I λC Y σ w vs J H hr=>U4 H (λb x h=>IJ h) g hr hF
 intro C Y σ w vs J H hr
 have t:∀ b x l,ab1 E.st b=some x->σ b=some l->¬ Y l.cb:=by
  intro b x l h1 h2;obtain⟨h3,h4⟩:=IJ h1;rcases H.store.blk b x h3 with ⟨l',hl',hB⟩|⟨hn,_⟩
  rw[h2] at hl';cases hl';exact hB.ajL h4
  grind
 have hr0:=Qw (P:=P) (T:=T) H.store (λb x h=>(IJ h).1) (λ_ h=>h) t (λb sz rows hb=>by have:=(IJ hb).2;cases this) g hr;have hr1:eU w Y σ as J:=eU.keep as (σ:=gJ) (σ':=σ) ⟨λ_ _ _=>rfl,λ_ _ h=>h,Nat.le_refl _,λb l h=>by simp[gJ] at h⟩ _ hr0;obtain⟨h3,h4⟩:=afS (ρ:=[]) (v:=v) (st1:=st1) (n1:=n1) H rfl rfl rfl hr1 hF;refine⟨h3,Calls.mono h4 λe w' hh=>?_⟩;obtain⟨cv,Y',σ',rfl,H2,hv⟩:=hh;exact⟨cv,_,_,Y',σ',rfl,I,H2,hv⟩
 exact h
 rcases h with ⟨bs,v,g,hF,U,I⟩|⟨bs,v,g,hF,I⟩|⟨v,st1,n1,h1,h2,h0,hF,I⟩|h
 exact Uj.afR I λC Y σ w vs J H hr=>Sr H (λ_ _ h=>h) g hr hF U
 intro C Y σ w vs J H hr;obtain⟨Y',H',hY⟩:=SW.roS (IB args E.st) H;have K0:Keep w w Y Y' σ σ:=⟨λ_ _ _=>rfl,λk _=>hY k,Nat.le_refl _,mZ.refl _⟩;obtain⟨h1,h2⟩:=U4 H' (λb x h=>IJ h) g (eU.keep _ K0 _ hr) hF;refine⟨h1,Calls.mono h2 λe w' hh=>?_⟩;obtain⟨cv,rfl,H2,hv⟩:=hh;exact⟨cv,v,_,Y',σ,rfl,I,H2,hv⟩
 intro C Y σ w vs J H hr;obtain⟨h3,h4⟩:=afS H h1 h2 h0 hr hF;refine⟨h3,Calls.mono h4 λe w' hh=>?_⟩;obtain⟨cv,Y',σ',rfl,H2,hv⟩:=hh;exact⟨cv,_,_,Y',σ',rfl,I,H2,hv⟩
 exact h
end Go.Pv
namespace Go.Pv
open Go
theorem VS (sz:Nat):∀ (n:Nat) (l:List PV) (row:List PV),row∈chunks sz n l->∀ p∈row,p∈l
 | 0,_,_,h=>by simp[chunks] at h
 | n+1,l,row,h=>by
  simp only[chunks,List.mem_cons,MP,yL] at h;intro p T;rcases h with rfl|h
  grind
  exact List.mem_of_mem_drop (VS sz n _ row h p T)
theorem Am.re {w0 w w' : World}{L Y Y' : Nat->Prop}{σ σ' : Sg}{st st' : St}(H:Am w0 L w Y σ st)(R:Nat->Nat->Nat->Nat->Prop)
  (hR:∀ b r c h sz T,lU st' b r c h sz T->∃ b0 r0,lU st b0 r0 c h sz T/\R b r b0 r0)
  (hi:∀ b r J I b0 r0,R b r b0 r0->R J I b0 r0->b=J/\r=I)
  (hk:∀ b r c h sz T,lU st b r c h sz T->YH w Y h sz T->YH w' Y' h sz T)
  (hs:∀ b r c h sz T J x l,lU st b r c h sz T->iH st' J=some x->σ' J=some l->l.cb≠h.ν):Am w0 L w' Y' σ' st':=by
 refine⟨λb r c h sz T k=>?_,λb r c h sz T k=>?_,λb r c h sz T J I g h' t es' k C e=>?_,λb r c h sz T J x l k hx hl=>?_⟩
 obtain⟨b0,r0,k0,_⟩:=hR _ _ _ _ _ _ k;exact hk _ _ _ _ _ _ k0 (H.rep _ _ _ _ _ _ k0)
 obtain⟨b0,r0,k0,_⟩:=hR _ _ _ _ _ _ k;exact H.old _ _ _ _ _ _ k0
 obtain⟨b0,r0,k0,g0⟩:=hR _ _ _ _ _ _ k;obtain⟨b1,r1,k1,g1⟩:=hR _ _ _ _ _ _ C;obtain⟨e1,e2,e3⟩:=H.one _ _ _ _ _ _ _ _ _ _ _ _ k0 k1 e
 grind
 grind
theorem SW.retag {T:Tab}{C:Ctx T}{w:World}{Y:Nat->Prop}{σ:Sg}{ps:List PV}{vs:List Value}{st st' : St}{n:Nat}(H:SW C w Y σ ps vs st n)
  (J:∀ b x,iH st' b=some x->∃ x0,iH st b=some x0/\(x=x0\/∃ sz rows l,x0=.arr false sz rows/\x=.lq sz rows/\σ b=some l)) (I:Am C.w0 C.L w Y σ st'):SW C w Y σ ps vs st' n:=by
 refine⟨H.vals,⟨?_,?_⟩,H.next,H.vJ,H.y0,H.c0,H.wP,H.pJ,?_,H.wQ,H.fix,I⟩
 intro b x hx;obtain⟨x0,h0,e⟩:=J b x hx;rcases e with rfl|⟨sz,rows,l,rfl,rfl,g⟩
 exact H.store.blk b x h0
 rcases H.store.blk b _ h0 with ⟨l',t,hB⟩|⟨hn,_⟩
 refine .inl ⟨l',t,?_⟩;unfold fF at hB |-
 grind
 grind
 intro b b' x x' l l' hx hx' g t e;obtain⟨_,h0,_⟩:=J b x hx;obtain⟨_,h0',_⟩:=J b' x' hx';exact H.store.inj _ _ _ _ _ _ h0 h0' g t e
 intro b x l hx g;obtain⟨_,h0,_⟩:=J b x hx;exact H.own _ _ _ h0 g
section
variable {P:Program}{T:Tab}(hT:iK P T){C:Ctx T}{o:Oper}{a:Act}{w:World}{Y:Nat->Prop}{σ:Sg}{ps:List PV}{st:St}{n id:Nat}{K:PV->Dl->Prop}{lk:Nat->Option lI}
 (H:SW C w Y σ ps a.tmps.toList st n) (hlk:∀ b x,lk b=some x->iH st b=some x) (hid:σ id=none/\T.oZ<=id)
include hT H hlk hid in
theorem ah7 {t:TypeId}{len:Nat}{parts:Array (Nat×Operand)}(ho:o.op=.buildSlice t len parts)(hE:nV T (gV.jd P T) (.buildSlice t len parts) ps lk id K->qh P C o a w σ ps st n id K)(h:ajx T (gV.jd P T) t len parts ps lk id K):qh P C o a w σ ps st n id K:=by
 unfold ajx at h
 split at h
 ·rename_i agg size z0 plain esz bytes z e;obtain⟨et,hu,rfl,_,hz⟩:=l7 hT e
  cases hb:(kR (P.cellsOf et)&&Nat.beq (nN z) (P.cellsOf et)&&Nat.ble (len*P.cellsOf et) 16777216&&ES (evP T ps parts.toList)) with
  | false=>rw[hb] at h;exact h.elim
  | true=>
   rw[hb] at h;simp only[cond_true] at h;simp only[Bool.and_eq_true,vK] at hb;obtain⟨⟨⟨g,hb2⟩,hb3⟩,hb4⟩:=hb
   have hpos:0<P.cellsOf et:=by
    rcases Nat.eq_zero_or_pos (P.cellsOf et) with h0|h0
    rw[h0] at g;simp[kR] at g
    exact h0
   have hzl:=Nat.eq_of_beq_eq_true hb2;have hle:=Nat.le_of_ble_eq_true hb3
   split at h
   ·rename_i U
    cases hb5:Nat.beq (P.cellsOf et) 1 with
    | false=>rw[hb5] at h;exact h.elim
    | true=>
    rw[hb5] at h;simp only[cond_true] at h;have hone:=Nat.eq_of_beq_eq_true hb5;obtain⟨vcs,hrep,hvl,hrun⟩:=vY hT H ho hu hz g hzl hle hb4 U;have hvl0:vcs.size=0:=by simpa using hvl
    obtain⟨Y2,σ2,H2,J,hoff⟩:=SW.U1 (a:=a) (m:=0) (arr:=vcs) (rows:=[]) (sz:=1) (x:=.lq 1 []) H hid (.inr ⟨rfl,by simp⟩) et ae aF (by simpa using hvl0) (by
     intro w' Y' _ _;simp[iQ])
    exact⟨_,_,_,_,Y2,σ2,h,.inl hrun,by simp only[jf,uI];exact H2,J,hoff⟩
   ·rename_i b r m U
    cases hb5:Nat.beq (P.cellsOf et) 1 with
    | false=>rw[hb5] at h;exact h.elim
    | true=>
    rw[hb5] at h;simp only[cond_true] at h;have hone:=Nat.eq_of_beq_eq_true hb5
    split at h
    ·rename_i sz rows hbk;obtain⟨vcs,hrep,hvl,hrun⟩:=vY hT H ho hu hz g hzl hle hb4 U;have hst:=hlk _ _ hbk;unfold eU at hrep;obtain⟨v,vs',hvs,hv,hnil⟩:=hrep;unfold eU at hnil;subst hnil;have hvl1:vcs.size=1:=by rw[hvl,hone]
     have hv0:vcs[0]?=some v:=by rw[<- Array.getElem?_toList,hvs];rfl
     obtain⟨I,hwv,hloc⟩:∃ I:Hdr,Rep w Y gJ (.ow I sz ((rows.drop r).take m)) v/\(I.cap≠0->∃ l,σ b=some l/\I.ν=l.cb/\I.o=l.co+r*l.sz/\I.o+I.cap*l.sz=l.tot/\((rows.drop r).take m).length<=I.cap):=by
      unfold Rep at hv;rcases hv with ⟨l2,cap,hl2,ey2,hcap,htot,hrm⟩|⟨hm1,a0,ey2⟩
      have hB2:fF w Y σ l2 (.arr false sz rows):=fF.yN H hlk hbk hl2;unfold fF at hB2;obtain⟨_,hsz2,hpos2,⟨hle2,hnr2⟩,hrows2,hm2,_⟩:=hB2;have hlen:((rows.drop r).take m).length=m:=by rw[List.length_take,List.length_drop];omega
      refine⟨⟨l2.cb,l2.co+r*l2.sz,cap⟩,?_,λ_=>⟨l2,hl2,rfl,rfl,htot,by rw[hlen];exact hcap.1⟩⟩;unfold Rep
      by_cases hm0:m=0
      by_cases hc0:cap=0
      subst hm0 hc0;exact .inr ⟨rfl,by simp,_,ey2⟩
      exact .inl ⟨hc0,by rw[hlen];exact ey2,by rw[hlen];exact hcap.1,hcap.2⟩
      exact .inl ⟨by have:=hcap.1;show cap≠0;omega,by rw[hlen];exact ey2,by rw[hlen];exact hcap.1,hcap.2⟩
      subst hm1;refine⟨⟨0,0,0⟩,?_,λh=>absurd rfl h⟩;unfold Rep;exact .inr ⟨rfl,by simp,a0,ey2⟩
     cases hbi:Nat.beq b id with
     | true=>rw[hbi] at h;exact h.elim
     | false=>
     rw[hbi] at h;have hbid:b≠id:=λe=>by subst e;rw[Nat.beq_refl] at hbi;cases hbi
     generalize hes:(rows.drop r).take m=es at hwv hloc;have h:∀ I,K (.os id 0 1) [(b,none),(id,some (.lq 1 [[.ow I sz ((rows.drop r).take m)]]))]:=h;rw[hes] at h
     obtain⟨Y2,σ2,H2,J,hoff⟩:=SW.YU (a:=a) (m:=1) (arr:=vcs) (rows:=[[.ow I sz es]]) (sz:=1) H hid et ae aF ae (by
      intro w' Y' hk hb;unfold iQ;refine⟨⟨rfl,rfl⟩,?_,by unfold iQ;trivial⟩;rw[iG.iff];intro i p hi
      cases i with
      | zero=>
       simp only[List.getElem?_cons_zero,Option.some.injEq] at hi;subst hi;exact⟨v,by rw[cell_of_block hb];simpa using hv0,hk _ _ hwv⟩
      | succ i=>simp at hi)
     have g:iH (nD st id (some (.arr false 1 [[.ow I sz es]]))) b=some (.arr false sz rows):=by rw[gG,if_neg (λe=>hbid e.symm)];exact hst
     have look:∀ c x,iH (nD (nD st b none) id (some (.lq 1 [[.ow I sz es]]))) c=some x->(c=id/\x=.lq 1 [[.ow I sz es]])\/(c≠id/\c≠b/\iH (nD st id (some (.arr false 1 [[.ow I sz es]]))) c=some x):=by
      intro c x hx;rw[gG] at hx
      by_cases hc:id=c
      rw[if_pos hc] at hx;cases hx;exact .inl ⟨hc.symm,rfl⟩
      rw[if_neg hc,gG] at hx
      by_cases hc2:b=c
      rw[if_pos hc2] at hx;cases hx
      rw[if_neg hc2] at hx;exact .inr ⟨λe=>hc e.symm,λe=>hc2 e.symm,by rw[gG,if_neg hc];exact hx⟩
     have hidl:∃ l,σ2 id=some l:=by
      unfold Rep at J;rcases J with ⟨l,_,hl,_⟩|⟨h0,_⟩
      exact⟨l,hl⟩
      cases h0
     obtain⟨lid,hlid⟩:=hidl
     have ow:∀ {b' r' c' h' sz2 es'},lU (nD (nD st b none) id (some (.lq 1 [[.ow I sz es]]))) b' r' c' h' sz2 es' ->
       (b'=id/\r'=0/\c'=0/\h'=I/\sz2=sz/\es'=es/\I.cap≠0)\/(b'≠id/\lU (nD st id (some (.arr false 1 [[.ow I sz es]]))) b' r' c' h' sz2 es'):=by
      rintro b' r' c' h' sz2 es' ⟨sz0,rs,rw0,g1,g2,g3,g4⟩
      rcases look _ _ g1 with ⟨e0,g5⟩|⟨e1,e2,g1⟩
      cases g5
      cases r' with
      | succ r'=>simp at g2
      | zero=>
       simp only[List.getElem?_cons_zero,Option.some.injEq] at g2;subst g2
       cases c' with
       | succ c'=>simp at g3
       | zero=>
        simp only[List.getElem?_cons_zero,Option.some.injEq,PV.ow.injEq] at g3;obtain⟨f1,f2,f3⟩:=g3;subst f1 f2 f3;exact .inl ⟨e0,rfl,rfl,rfl,rfl,rfl,g4⟩
      exact .inr ⟨e1,⟨sz0,rs,rw0,g1,g2,g3,g4⟩⟩
     have nr:I.cap≠0->∃ l,σ2 b=some l/\I.ν=l.cb/\YH (w.alloc (.cells vcs et)) Y2 I sz es:=by
      intro hne;obtain⟨l,hl,g1,g2,g3,g4⟩:=hloc hne;have hl2:σ2 b=some l:=by rw[hoff b hbid];exact hl
      refine⟨l,hl2,g1,?_⟩;have hB2:fF (w.alloc (.cells vcs et)) Y2 σ2 l (.arr false sz rows):=fF.yN H2 (λ_ _ h=>h) g hl2;unfold fF at hB2;obtain⟨⟨arr2,ty2,ha2,has2⟩,hsz2,hpos2,_,hrows2,hm2,_⟩:=hB2;rw[hsz2] at g2 g3;refine⟨by rw[g1];exact hm2 rfl,hpos2,⟨arr2,ty2,by rw[g1];exact ha2,by rw[has2,g3]⟩,g4,?_⟩;rw[g1,g2,<- hes];exact(hrows2.drop r _ _).take m _ _
     refine⟨_,_,_,_,Y2,σ2,h I,.inl hrun,?_,J,hoff⟩;simp only[jf,uI];refine H2.retag (λc x hx=>?_) ⟨λb' r' c' h' sz2 es' hh=>?_,λb' r' c' h' sz2 es' hh=>?_,λb' r' c' h' sz2 es' b2 r2 c2 h2 sz3 es3 hh hh' e=>?_,λb' r' c' h' sz2 es' b2 x l' hh hx hl'=>?_⟩
     rcases look _ _ hx with ⟨rfl,rfl⟩|⟨_,_,hx⟩
     exact⟨_,by rw[gG,if_pos rfl],.inr ⟨_,_,lid,rfl,rfl,hlid⟩⟩
     exact⟨_,hx,.inl rfl⟩
     rcases ow hh with ⟨_,_,_,rfl,rfl,rfl,hne⟩|⟨_,hh⟩
     exact(nr hne).choose_spec.2.2
     exact H2.nest.rep _ _ _ _ _ _ hh
     rcases ow hh with ⟨_,_,_,rfl,rfl,rfl,hne⟩|⟨_,hh⟩
     obtain⟨l,hl,g1,_⟩:=nr hne;rw[g1];exact H2.own b _ l g hl
     exact H2.nest.old _ _ _ _ _ _ hh
     rcases ow hh with ⟨e1,e2,e3,e4,_,_,hne⟩|⟨k1,hh1⟩<;>rcases ow hh' with ⟨f1,f2,f3,f4,_,_,hne'⟩|⟨k2,hh2⟩
     exact⟨by rw[e1,f1],by rw[e2,f2],by rw[e3,f3]⟩
     obtain⟨l,hl,g1,_⟩:=nr hne;exact absurd (by rw[<- e,e4,g1]) (H2.nest.sep _ _ _ _ _ _ _ _ _ hh2 g hl)
     obtain⟨l,hl,g1,_⟩:=nr hne';exact absurd (by rw[e,f4,g1]) (H2.nest.sep _ _ _ _ _ _ _ _ _ hh1 g hl)
     exact H2.nest.one _ _ _ _ _ _ _ _ _ _ _ _ hh1 hh2 e
     have hx2:b2≠b/\∃ z,iH (nD st id (some (.arr false 1 [[.ow I sz es]]))) b2=some z:=by
      rcases look _ _ hx with ⟨rfl,_⟩|⟨_,e2,hx⟩
      exact⟨λe=>hbid e.symm,_,by rw[gG,if_pos rfl]⟩
      exact⟨e2,_,hx⟩
     obtain⟨hxi,z,hz⟩:=hx2;rcases ow hh with ⟨_,_,_,rfl,_,_,hne⟩|⟨_,hh⟩
     obtain⟨l,hl,g1,_⟩:=nr hne;rw[g1];exact λe=>hxi (H2.store.inj b2 b z _ l' l hz g hl' hl e)
     exact H2.nest.sep _ _ _ _ _ _ _ _ _ hh hz hl'
    exact h.elim
   rename_i len _ _ cs _ _ U
   split at h
   rename_i nn hnn hnil
   split at h
   rename_i cs0 hpur;obtain⟨vcs,hrep,hvl,hrun⟩:=vY hT H ho hu hz g hzl hle hb4 U;have hr2:=YK nn _ _ (Qo hpur hrep);have hcsl:(owZ nn cs0).length=len*P.cellsOf et:=by rw[YL,U0 _ _ _ hpur,JX _ _ _ _ U,xu,hzl]
   have hch:(chunks (P.cellsOf et) len (owZ nn cs0)).length=len:=wB _ _ _
   obtain⟨Y2,σ2,H2,J,hoff⟩:=SW.U1 (a:=a) (m:=len) (arr:=vcs) (rows:=chunks (P.cellsOf et) len (owZ nn cs0)) (x:=.lq (P.cellsOf et) (chunks (P.cellsOf et) len (owZ nn cs0))) H hid (.inr ⟨rfl,λi row j I sz' es hi hj=>by
    have hm:=VS _ _ _ _ (List.mem_of_getElem? hi) _ (List.mem_of_getElem? hj);obtain⟨k,hk⟩:=List.getElem?_of_mem hm;exact Si (VG _ _ _ hpur) k hk⟩) et hpos ⟨by omega,Nat.le_trans (Nat.le_mul_of_pos_right len hpos) (Nat.le_trans hle aU)⟩ hvl (by
    intro w' Y' hk hb;refine iG.chunks len (owZ nn cs0) 0 ?_ (by rw[VC];exact(Qs _ _ _ hpur).1) ae;rw[iG.iff];intro i p hi;obtain⟨v,hv,hp'⟩:=hr2.get? hi;exact⟨v,by rw[cell_of_block hb];simpa using hv,hk _ _ hp'⟩)
   rw[hch] at J;exact⟨_,_,_,_,Y2,σ2,h,.inl hrun,by simp only[jf,uI];exact H2,J,hoff⟩
   exact h.elim
   exact hE h
   exact h.elim
 exact h.elim
include hT H hlk hid in
theorem ah8 {args:Array Operand}{ts:Array TypeId}{t u:TypeId}{tl:List TypeId}{b r m c:Nat}(ho:o.op=.call { callee:=.builtin .append,args:=args,argTypes:=ts })(he:evA T ps args.toList=[.os b r m,.os c 0 1])(ht:ts.toList=t::u::tl)
  (h:ajy T (gV.jd P T) t u b r m c lk id K):qh P C o a w σ ps st n id K:=by
 have hargs:=vM H args.toList;unfold ajy at h;generalize hvs:args.toList.map a.eval=vs at hargs;rw[he] at hargs;obtain⟨sv,xv,rfl,hs,hx⟩:=Qv hargs;have ht':=Un ht;subst ht'
 split at h
 ·rename_i a1 s1 z1 p1 esz bytes z a2 s2 z2 p2 k1 k2 k3 e1 e2;obtain⟨et,hu,rfl,rfl,hz⟩:=l7 hT e1;obtain⟨eu,hu2,_⟩:=l7 hT e2
  split at h
  ·rename_i sz rows sz' row hbk hck
   cases hb:(kR (P.cellsOf et)&&Nat.beq (nN z) (P.cellsOf et)&&Nat.beq sz (P.cellsOf et)&&Nat.beq sz' (P.cellsOf et)&&(bif Nat.beq b c then false else bif Nat.beq b id then false else bif Nat.beq c id then false else true)) with
   | false=>rw[hb] at h;exact h.elim
   | true=>
    rw[hb] at h;simp only[cond_true] at h;rw[Bool.and_eq_true,Bool.and_eq_true,Bool.and_eq_true,Bool.and_eq_true,vK] at hb;obtain⟨⟨⟨⟨hb1,hb2⟩,hb3⟩,hb4⟩,hb5⟩:=hb;have hinf:=kE hb1;have hzl:=Nat.eq_of_beq_eq_true hb2;have hsz:=Nat.eq_of_beq_eq_true hb3;have hsz':=Nat.eq_of_beq_eq_true hb4;subst hsz hsz'
    have hne:b≠c/\b≠id/\c≠id:=by
     refine⟨λe=>?_,λe=>?_,λe=>?_⟩
     subst e;rw[Nat.beq_refl] at hb5;cases hb5
     subst e;rw[Nat.beq_refl] at hb5;cases hq:Nat.beq b c<;>rw[hq] at hb5<;>cases hb5
     subst e;rw[Nat.beq_refl] at hb5;cases hq:Nat.beq b c<;>rw[hq] at hb5<;>(first|cases hb5|(cases hq2:Nat.beq b c<;>simp_all))
    have hpos:0<P.cellsOf et:=by
     rcases Nat.eq_zero_or_pos (P.cellsOf et) with h0|h0
     rw[h0] at hb1;simp[kR] at hb1
     exact h0
    cases hi:P.info? et with
    | none=>exact absurd hi hinf
    | some inf=>
    have hbe:=PH hi;obtain⟨g1,g2,h⟩:=h;have g1:(2*(m+1)+192)*P.bytesOf et<=140737488355328:=g1;have g2:m+1<=4611686018427387904:=g2;have h:K (.os id 0 (m+1)) [(b,none),(c,none),(id,some (.lq (P.cellsOf et) ((rows.drop r).take m++[row])))]:=h;have hst:=hlk _ _ hbk;have hsc:=hlk _ _ hck
    obtain⟨lc,capc,hlc,rfl,_,_,_⟩:∃ l cap,σ c=some l/\xv=.slice (some ⟨l.cb,l.co+0*l.sz,none⟩) 1 cap/\1<=cap/\l.co+0*l.sz+cap*l.sz=l.tot/\0+1<=l.nr:=by
     unfold Rep at hx;rcases hx with ⟨l,cap,h1,h2,h3,h4,h5⟩|⟨h0,_⟩
     exact⟨l,cap,h1,h2,h3.1,h4,h5⟩
     cases h0
    have hBc:fF w Y σ lc (.lq (P.cellsOf et) [row]):=fF.yN H hlk hck hlc;unfold fF at hBc;obtain⟨_,_,_,_,hrowc,_⟩:=hBc;obtain⟨vs,⟨v1,hone⟩,v2,htr⟩:=hrowc.vals
    have hvs2:vs.length=1*P.cellsOf et/\(vs=[]\/∃ b o,some (⟨lc.cb,lc.co+0*lc.sz,none⟩:Addr)=some ⟨b,o,none⟩/\∀ i v,vs[i]?=some v->w.cell? ⟨b,o+i,none⟩=some v) :=
     ⟨by simpa using v1,.inr ⟨lc.cb,lc.co+0*lc.sz,rfl,by simpa using v2⟩⟩
    have look:∀ (x:lI) d y,iH (nD (nD (nD st b none) c none) id (some x)) d=some y->(d=id/\y=x)\/(d≠id/\d≠b/\d≠c/\iH st d=some y):=by
     intro x d y hy;rw[gG] at hy
     by_cases h1:id=d
     rw[if_pos h1] at hy;cases hy;exact .inl ⟨h1.symm,rfl⟩
     rw[if_neg h1,gG] at hy
     by_cases h2:c=d
     rw[if_pos h2] at hy;cases hy
     rw[if_neg h2,gG] at hy
     by_cases h3:b=d
     rw[if_pos h3] at hy;cases hy
     rw[if_neg h3] at hy;exact .inr ⟨λe=>h1 e.symm,λe=>h3 e.symm,λe=>h2 e.symm,hy⟩
    let R:Nat->Nat->Nat->Nat->Prop:=λd k d0 k0=>(d=id/\d0=b/\k0=r+k/\k<((rows.drop r).take m).length)\/(d=id/\d0=c/\k0=0/\k=((rows.drop r).take m).length)\/(d≠id/\d≠b/\d≠c/\d0=d/\k0=k)
    have hRi:∀ d k d' k' d0 k0,R d k d0 k0->R d' k' d0 k0->d=d'/\k=k':=by
     intro d k d' k' d0 k0 h1 h2;have hn1:=hne.1;rcases h1 with ⟨a1,a2,a3,a4⟩|⟨a1,a2,a3,a4⟩|⟨a1,a2,a3,a4,a5⟩<;>rcases h2 with ⟨c1,c2,c3,c4⟩|⟨c1,c2,c3,c4⟩|⟨c1,c2,c3,c4,c5⟩<;>first|(exact⟨by omega,by omega⟩)|(exfalso;omega)
    have hRo:∀ d k j h' s2 es,lU (nD (nD (nD st b none) c none) id (some (.lq (P.cellsOf et) ((rows.drop r).take m++[row])))) d k j h' s2 es->∃ d0 k0,lU st d0 k0 j h' s2 es/\R d k d0 k0:=by
     rintro d k j h' s2 es ⟨sz0,rs,rw0,q1,q2,q3,q4⟩
     rcases look _ _ _ q1 with ⟨e0,e5⟩|⟨e1,e2,e3,e4⟩
     cases e5
     by_cases hk:k<((rows.drop r).take m).length
     rw[List.getElem?_append_left hk] at q2;refine⟨b,r+k,⟨_,rows,rw0,hst,?_,q3,q4⟩,.inl ⟨e0,rfl,rfl,hk⟩⟩;rw[List.getElem?_take,List.getElem?_drop] at q2
     split at q2
     exact q2
     cases q2
     rw[List.getElem?_append_right ae] at q2
     have hk2:k=((rows.drop r).take m).length:=by
      by_cases hh:k-((rows.drop r).take m).length=0
      omega
      obtain⟨i,hi2⟩:∃ i,k-((rows.drop r).take m).length=i+1:=⟨_,(Nat.succ_pred_eq_of_ne_zero hh).symm⟩;rw[hi2] at q2;simp at q2
     refine⟨c,0,⟨_,[row],rw0,hsc,?_,q3,q4⟩,.inr (.inl ⟨e0,rfl,rfl,hk2⟩)⟩;rw[hk2] at q2;simpa using q2
     exact⟨d,k,⟨sz0,rs,rw0,e4,q2,q3,q4⟩,.inr (.inr ⟨e1,e2,e3,rfl,rfl⟩)⟩
    have hml' : ((rows.drop r).take m++[row]).length=((rows.drop r).take m).length+1:=by simp
    have hB' : (∃ l,σ b=some l/\fF w Y σ l (.arr false (P.cellsOf et) rows))\/(σ b=none/\Emp (.arr false (P.cellsOf et) rows)):=by
     rcases H.store.blk b _ hst with ⟨J,hlb,hB⟩|⟨hn,e0⟩
     refine .inl ⟨J,hlb,?_⟩;unfold fF at hB |-;exact⟨hB.1,hB.2.1,hB.2.2.1,hB.2.2.2.1,hB.2.2.2.2.1,λ_=>hB.2.2.2.2.2,λe=>by cases e⟩
     cases e0;exact .inr ⟨hn,.arr _ _⟩
    obtain⟨sx,cap,rfl,hmc,hml,hr⟩:=IG hs hB'
    by_cases g:m+1<=cap
     
    unfold Rep at hs;rcases hs with ⟨J,cap',hlb,e,⟨_,hc63⟩,htot,hnr⟩|⟨rfl,sx',e⟩
    cases e
    have hB:fF w Y σ J (.lq (P.cellsOf et) rows):=by
     rcases H.store.blk b _ hst with ⟨l',I,hh⟩|⟨hn,_⟩
     rw[hlb] at I;cases I;exact hh
     rw[hlb] at hn;cases hn
    unfold fF at hB;obtain⟨⟨arr,tyb,ha,has⟩,hlsz,_,⟨hle,hlnr⟩,hrows,hm⟩:=hB;rw[hlsz] at htot
    have hbnd:J.co+r*P.cellsOf et+(m+1)*P.cellsOf et<=arr.size:=by
     rw[has,<- htot];have:=Nat.mul_le_mul_right (P.cellsOf et) g;omega
    obtain⟨w',hrun,W⟩:=uJ (P:=P) (o:=J.co+r*P.cellsOf et+m*P.cellsOf et) vs 0 w arr ha bW hone;have W:Wrote w w' J.cb (J.co+r*P.cellsOf et+m*P.cellsOf et) arr tyb vs:=by simpa using W
    obtain⟨arr',h4,h5,h6⟩:=W.blk
    obtain⟨σ',H',hid',hoff⟩:=H.ab9 hid (x':=.arr false (P.cellsOf et) ((rows.drop r).take m++[row])) (l':=⟨J.cb,J.co+r*P.cellsOf et,P.cellsOf et,J.tot,m+1⟩) hst (λ_ _ e=>by cases e) hlb hm rfl W.os W.tape W.output W.size W.other (by
     intro σ' _ hk;unfold fF;refine⟨⟨arr',tyb,h4,by rw[h5,has]⟩,rfl,hpos,⟨by rw[hml',<- hml];show J.co+r*P.cellsOf et+(m+1)*P.cellsOf et<=J.tot;omega,by rw[hml',<- hml]⟩,?_,λ_=>hm,λh=>by cases h⟩;refine iQ.app _ _ _ ?_ ?_
     obtain⟨us,⟨u1,_⟩,u2,u3⟩:=((hrows.drop r _ _).take m _ _).vals;refine u3 w' Y gJ J.cb _ hk (λi v hv=>?_);have hc:=u2 i v hv;rw[cell_of_block ha] at hc
     have hilt:i<us.length:=by
      by_cases hh:i<us.length
      exact hh
      rw[List.getElem?_eq_none (Nat.le_of_not_lt hh)] at hv;cases hv
     rw[u1,<- hml] at hilt;show w'.cell? ⟨J.cb,J.co+r*P.cellsOf et+i,none⟩=some v;rw[cell_of_block h4,h6,if_neg ae];exact hc
     refine htr w' Y gJ J.cb _ hk (λi v hv=>?_)
     have hilt:i<vs.length:=by
      by_cases hh:i<vs.length
      exact hh
      rw[List.getElem?_eq_none (Nat.le_of_not_lt hh)] at hv;cases hv
     show w'.cell? ⟨J.cb,J.co+r*P.cellsOf et+((rows.drop r).take m).length*P.cellsOf et+i,none⟩=some v;rw[<- hml,cell_of_block h4,h6,if_pos ae];rw[show J.co+r*P.cellsOf et+m*P.cellsOf et+i-(J.co+r*P.cellsOf et+m*P.cellsOf et)=i by omega];exact hv)
    have H2:SW C w' Y σ' ps a.tmps.toList (nD (nD (nD st b none) c none) id (some (.lq (P.cellsOf et) ((rows.drop r).take m++[row])))) (max n (id+1)):=by
     have K0:Keep w w' Y Y gJ gJ:=⟨λk _ hy=>W.other k (λe=>hy (e ▸ hm)),λ_ _ h=>h,Nat.le_of_eq W.size.symm,mZ.refl _⟩;have notl:∀ {b' r' c' h' sz2 es'},lU st b' r' c' h' sz2 es'->h'.ν≠J.cb:=λhh=>(H.nest.sep _ _ _ _ _ _ _ _ _ hh hst hlb).symm;refine H'.retag (λd x hx=>?_) (H.nest.re R hRo hRi (λ_ _ _ _ _ _ hh hN=>hN.keep K0 (W.other _ (notl hh)) (λh=>h)) λd k j h' s2 es d' x l' hh hx I=>?_)
     rcases look _ _ _ hx with ⟨rfl,rfl⟩|⟨e1,e2,e3,e4⟩
     exact⟨_,by rw[gG,if_pos rfl],.inr ⟨_,_,_,rfl,rfl,hid'⟩⟩
     exact⟨x,by rw[gG,if_neg (λe=>e1 e.symm),gG,if_neg (λe=>e2 e.symm)];exact e4,.inl rfl⟩
     rcases look _ _ _ hx with ⟨rfl,rfl⟩|⟨e1,e2,e3,e4⟩
     rw[hid'] at I;cases I;show J.cb≠_;exact H.nest.sep _ _ _ _ _ _ _ _ J hh hst hlb
     exact H.nest.sep _ _ _ _ _ _ _ _ _ hh e4 (by rw[<- hoff d' e1];exact I)
    refine rD ho (δ:=_) (cv:=.slice (some ⟨J.cb,J.co+r*J.sz,none⟩) (m+1) cap) (w':=w') (Y':=Y) (σ':=σ') (λty cs=>?_) (by simp only[jf,uI];exact H2) ?_ hoff h
    rw[hvs];have:=KQ (P:=P) (w:=w) (ts:=tl) (ty:=ty) (x:=some ⟨J.cb,J.co+r*J.sz,none⟩) (sl:=m) (sc:=cap) (yc:=capc) (w':=w') hu hu2 hinf hvs2 g (λb o e=>by cases e;rw[hlsz];exact hrun) (λh=>by cases h) (λa h=>by cases h;rfl);simp only[builtin,Sem.run_bind];rw[this];rfl
    unfold Rep;refine .inl ⟨_,cap,hid',?_,⟨g,hc63⟩,?_,?_⟩
    rw[hlsz];simp
    simp;omega
    show 0+(m+1)<=m+1;omega
    cases e;omega
     
    have hold:∃ us:List Value,(us.length=m*P.cellsOf et/\(us=[]\/∃ b o,sx=some ⟨b,o,none⟩/\∀ i v,us[i]?=some v->w.cell? ⟨b,o+i,none⟩=some v)) /\
      (∀ (w' : World) (Y' : Nat->Prop) (b' o' : Nat),(∀ p v,Rep w Y gJ p v->Rep w' Y' gJ p v)->(∀ i v,us[i]?=some v->w'.cell? ⟨b',o'+i,none⟩=some v)->iQ w' Y' gJ b' (P.cellsOf et) ((rows.drop r).take m) o'):=by
     rcases hr with hr|⟨b',o',e,_,_,hr⟩
     rw[hr] at hml |-;refine⟨[],⟨by rw[hml];simp,.inl rfl⟩,λ_ _ _ _ _ _=>by simp[iQ]⟩
     obtain⟨us,⟨u1,_⟩,u2,u3⟩:=hr.vals;exact⟨us,⟨by rw[u1,<- hml],.inr ⟨b',o',e,u2⟩⟩,λw' Y' b' o' hk hc=>u3 w' Y' gJ b' o' hk hc⟩
    obtain⟨us,hus,hutr⟩:=hold
    obtain⟨cv,w',Y',σ',hrun,H',hrep,hoff⟩:=KP (P:=P) (a:=a) (ty:=0) (x:=sx) (sc:=cap) (us:=us) (vs:=vs) (old:=(rows.drop r).take m) (new:=[row]) (ts:=tl) (yc:=capc) H hid hu hu2 hi hz.symm hpos hzl (sl:=m) hus hvs2 hml rfl
     (λw' Y' b' hk hc=>by
      refine iQ.app _ _ _ (hutr w' Y' b' 0 hk (λi v hv=>hc i v ?_)) (htr w' Y' gJ b' _ hk (λi v hv=>?_))
      rw[List.getElem?_append_left]
      exact hv
      by_cases hh:i<us.length
      exact hh
      rw[List.getElem?_eq_none (Nat.le_of_not_lt hh)] at hv;cases hv
      have:=hc (us.length+i) v bI;rw[hus.1] at this;rw[<- hml];simpa using this) g dV g2
    have hidl:∃ l,σ' id=some l:=by
     unfold Rep at hrep;rcases hrep with ⟨l,_,hl,_⟩|⟨h0,_⟩
     exact⟨l,hl⟩
     simp at h0
    obtain⟨lid,hlid⟩:=hidl
    have up:∀ {d k j h' s2 es},lU st d k j h' s2 es->lU (nD st id (some (.arr false (P.cellsOf et) ((rows.drop r).take m++[row])))) d k j h' s2 es\/d=id:=by
     rintro d k j h' s2 es ⟨sz0,rs,rw0,q1,q2⟩
     by_cases hd:d=id
     exact .inr hd
     exact .inl ⟨sz0,rs,rw0,by rw[gG,if_neg (λe=>hd e.symm)];exact q1,q2⟩
    have hst1:∀ d x,d≠id->iH st d=some x->iH (nD st id (some (.arr false (P.cellsOf et) ((rows.drop r).take m++[row])))) d=some x:=λd x hd hx=>by rw[gG,if_neg (λe=>hd e.symm)];exact hx
    have hRo' : ∀ d k j h' s2 es,lU (nD (nD (nD st b none) c none) id (some (.lq (P.cellsOf et) ((rows.drop r).take m++[row])))) d k j h' s2 es->∃ d0 k0,lU (nD st id (some (.arr false (P.cellsOf et) ((rows.drop r).take m++[row])))) d0 k0 j h' s2 es/\R d k d0 k0:=by
     intro d k j h' s2 es hh;obtain⟨d0,k0,q1,q2⟩:=hRo _ _ _ _ _ _ hh;refine⟨d0,k0,(up q1).resolve_right λe=>?_,q2⟩;rcases q2 with ⟨_,q,_⟩|⟨_,q,_⟩|⟨q0,_,_,q,_⟩
     exact hne.2.1 (q ▸ e)
     exact hne.2.2 (q ▸ e)
     exact q0 (q ▸ e)
    have H2:SW C w' Y' σ' ps a.tmps.toList (nD (nD (nD st b none) c none) id (some (.lq (P.cellsOf et) ((rows.drop r).take m++[row])))) (max n (id+1)):=by
     refine H'.retag (λd x hx=>?_) (H'.nest.re R hRo' hRi (λ_ _ _ _ _ _ _ hN=>hN) λd k j h' s2 es d' x l' hh hx I=>?_)
     rcases look _ _ _ hx with ⟨rfl,rfl⟩|⟨e1,e2,e3,e4⟩
     exact⟨_,by rw[gG,if_pos rfl],.inr ⟨_,_,lid,rfl,rfl,hlid⟩⟩
     exact⟨x,hst1 _ _ e1 e4,.inl rfl⟩
     rcases look _ _ _ hx with ⟨rfl,rfl⟩|⟨e1,e2,e3,e4⟩
     exact H'.nest.sep _ _ _ _ _ _ _ _ _ hh dR I
     exact H'.nest.sep _ _ _ _ _ _ _ _ _ hh (hst1 _ _ e1 e4) I
    refine rD ho (δ:=_) (cv:=cv) (w':=w') (Y':=Y') (σ':=σ') (λty' cs=>?_) (by simp only[jf,uI];exact H2) (by rw[<- hml] at hrep;exact hrep) hoff h;rw[hvs];simp only[builtin,Sem.run_bind];have:Builtin.append_ (t::u::tl).toArray ty' [Value.slice sx m cap,Value.slice (some ⟨lc.cb,lc.co+0*lc.sz,none⟩) 1 capc].toArray=Builtin.append_ (t::u::tl).toArray 0 #[Value.slice sx m cap,Value.slice (some ⟨lc.cb,lc.co+0*lc.sz,none⟩) [row].length capc]:=rfl
    erw [this,hrun]
    rfl
  exact h.elim
 exact h.elim
end
end Go.Pv
namespace Go.Pv
open Go Go.MapKept
theorem YZ {P:Program}{T:Tab}(hT:iK P T){t:TypeId}{agg:Bool}{plain:Option (List Nat)}{size sz:Nat}{z:Option (List PV)}{zs:List PV}
  (h:T t=⟨true,agg,size,z,plain,.map sz zs⟩):∃ k e,P.underlying t=some (.map k e)/\P.underlying k=some (.int .i64)/\YF P e=some zs/\sz=P.cellsOf e:=by
 obtain⟨i,d,h1,h2,C,h4,h5,g,I,J⟩:=vX hT h rfl;cases d<;>simp at J
 rename_i k e;unfold Qj at J
 grind
theorem acf {P:Program}{t:TypeId}{z:List PV}(h:YF P t=some z):∃ zs:List Value,(∀ w,(zeroValue t).run P w=.ok (.agg zs.toArray) w)/\∀ w Y σ,eU w Y σ z zs:=by
 unfold YF at h
 split at h
 rename_i i hi
 split at h
 rename_i cs T;cases h;refine⟨cs.toList,λw=>?_,λw Y σ=>IC w Y σ _⟩
 simp_all[zeroValue,typeInfo]
 cases h
 cases h
theorem oI.length {w:World}{Y:Nat->Prop}:∀ {T:List MapEntry} {rows:List (List PV)},oI w Y T rows->T.length=rows.length
 | [],_,h=>by grind[oI]
 | _::T,_,⟨n,cs,rows',h1,_,_,h5⟩=>by subst h1;simp[oI.length h5]
theorem AO {n k:Int}{e:MapEntry}{T:List MapEntry}{i:Nat}(J:e.key=.int .i64 k) :
  Instr.findNow (.int .i64) (.int .i64 n) (e::T) i=if n=k then some (some (i,e.val)) else Instr.findNow (.int .i64) (.int .i64 n) T (i+1):=by
 have h1:Instr.sameNow (.int .i64) (.int .i64 n) e.key=some (n==k):=by rw[J];simp[Instr.sameNow]
 rw[Instr.findNow,h1]
 grind
theorem oI.find {w:World}{Y:Nat->Prop}(n:Int):∀ (T:List MapEntry) (rows:List (List PV)) (i:Nat),oI w Y T rows ->
  (CU rows n=none/\Instr.findNow (.int .i64) (.int .i64 n) T i=some none) \/
  ∃ j e cs vs,CU rows n=some cs/\Instr.findNow (.int .i64) (.int .i64 n) T i=some (some (i+j,e.val))/\T[j]?=some e/\e.key=.int .i64 n/\e.val=.agg (List.toArray vs)/\eU w Y gJ cs vs
 | [],rows,i,h=>by unfold oI at h;subst h;exact .inl ⟨rfl,rfl⟩
 | e::T,rows,i,⟨k,cs,rows',h1,h2,⟨vs,h3,h4⟩,h5⟩=>by
  subst h1
  by_cases hk:k=n
  subst hk;refine .inr ⟨0,e,cs,vs,by simp[CU],?_,rfl,h2,h3,h4⟩;rw[AO h2,if_pos rfl];rfl
  have I : ¬ n=k:=λe=>hk e.symm;rcases oI.find n T rows' (i+1) h5 with ⟨g1,g2⟩|⟨j,t,C,J,g1,g2,g3,g4⟩
  simp_all[CU,AO]
  refine .inr ⟨j+1,t,C,J,by simp[CU,hk,g1],?_,by simpa using g3,g4⟩;rw[AO h2,if_neg I,g2]
  congr 3;omega
theorem oI.push {w:World}{Y:Nat->Prop}{n:Int}{cs:List PV}{vs:List Value}{b:Nat}(hr:eU w Y gJ cs vs):∀ (T:List MapEntry) (rows:List (List PV)),oI w Y T rows->CU rows n=none ->
  oI w Y (T++[{ key:=.int .i64 n,val:=.agg vs.toArray,born:=b }]) (RZ rows n cs)
 | [],rows,h,_=>by unfold oI at h;subst h;exact⟨n,cs,[],rfl,rfl,⟨vs,rfl,hr⟩,rfl⟩
 | e::T,rows,⟨k,ks,rows',h1,h2,h3,h5⟩,U=>by
  subst h1
  by_cases hk:k=n
  grind[CU]
  simp[CU,hk] at U;simp only[RZ,if_neg hk,List.cons_append];exact⟨k,ks,_,rfl,h2,h3,oI.push hr T rows' h5 U⟩
theorem oI.modify {w:World}{Y:Nat->Prop}{n:Int}{cs:List PV}{vs:List Value}(hr:eU w Y gJ cs vs):∀ (T:List MapEntry) (rows:List (List PV)) (i j:Nat) (v:Value),oI w Y T rows ->
  Instr.findNow (.int .i64) (.int .i64 n) T i=some (some (i+j,v))->oI w Y (T.modify j λe=>{ e with key:=.int .i64 n,val:=.agg vs.toArray }) (RZ rows n cs)
 | [],_,i,j,v,_,h=>by simp[Instr.findNow] at h
 | e::T,rows,i,j,v,⟨k,ks,rows',h1,h2,h3,h5⟩,h=>by
  subst h1
  by_cases hk:k=n
  subst hk
  have hj:j=0:=by
   rw[AO h2,if_pos rfl] at h;simp at h;omega
  subst hj;simp only[RZ,if_pos rfl];exact⟨k,cs,rows',rfl,rfl,⟨vs,rfl,hr⟩,h5⟩
  have I : ¬ n=k:=λe=>hk e.symm;rw[AO h2,if_neg I] at h
  have J:∀ (l:List MapEntry) (a m:Nat) (x:Value),Instr.findNow (.int .i64) (.int .i64 n) l a=some (some (m,x))->a<=m:=by
   intro l
   induction l with
   | nil=>grind[Instr.findNow]
   | cons y l ih=>
    intro a m x h;rw[Instr.findNow] at h
    grind
  have t:=J _ _ _ _ h;obtain⟨C,rfl⟩:∃ C,j=C+1:=⟨j-1,by omega⟩;simp only[RZ,if_neg hk];refine⟨k,ks,_,rfl,h2,h3,?_⟩;exact oI.modify hr T rows' (i+1) C v h5 ak
section
variable {P:Program}{T:Tab}(hT:iK P T){C:Ctx T}{o:Oper}{a:Act}{w:World}{Y:Nat->Prop}{σ:Sg}{ps:List PV}{st:St}{n id:Nat}{K:PV->Dl->Prop}{lk:Nat->Option lI}
 (H:SW C w Y σ ps a.tmps.toList st n) (hlk:∀ b x,lk b=some x->iH st b=some x) (hid:σ id=none/\T.oZ<=id)
include H hid in
theorem aeA {t:TypeId}(ho:o.op=.makeMap t none)(h:ab4 T t id K):qh P C o a w σ ps st n id K:=by
 unfold ab4 at h
 split at h
 obtain⟨Y',σ',H',hs,_,_,J⟩:=H.afE hid (.map #[] 0) ⟨w.heap.size,0,0,0,0⟩ rfl (.map []) (λ_ _ e=>by cases e) (by
  intro w' Y' σ' hk g I _;unfold fF;exact⟨⟨#[],0,I,by simp[oI]⟩,g⟩)
 refine⟨_,_,.map (some w.heap.size),_,Y',σ',h,.inl ?_,H',?_,J⟩
 simp[execOp,ho,Instr.makeMap,newObj,Sem.run,Result.andThen]
 unfold Rep;exact⟨_,hs,rfl⟩
 exact h.elim
include hT H hlk in
theorem aeB {args:Array Operand}{ts:Array TypeId}{t:TypeId}{b:Nat}(ho:o.op=.call { callee:=.builtin .len,args:=args,argTypes:=ts })(he:evA T ps args.toList=[.mp b])(ht:ts.toList=[t])
  (h:ab3 T (gV.jd P T) t b lk K):qh P C o a w σ ps st n id K:=by
 have J:=vM H args.toList;generalize g:args.toList.map a.eval=vs at J;unfold ab3 at h
 split at h
 rename_i e;obtain⟨k,et,hu,_⟩:=YZ hT e
 split at h
 rename_i rows hb;rw[he] at J;obtain⟨u,rfl,I⟩:=II J;have ht':=JY ht;subst ht';unfold Rep at I;obtain⟨l,hs,rfl⟩:=I;have hB:fF w Y σ l (.map rows):=fF.yN H hlk hb hs;unfold fF at hB;obtain⟨⟨es,ck,h1,h2⟩,_⟩:=hB;have hl:=h2.length;refine um H ho (cv:=.int .i64 rows.length) (λty cs=>?_) di h;rw[g];simp[builtin,Builtin.len_,kD hu,MR,MapKept.run_getObj_map h1,Result.andThen,<- hl]
 exact h.elim
 exact h.elim
include hT H hlk in
theorem aeC {t:TypeId}{m k:Operand}(ho:o.op=.lookup t m k true)(h:ab2 T (gV.jd P T) t (rM T ps m) (rM T ps k) lk K):qh P C o a w σ ps st n id K:=by
 have hm:=kJ H m;have hk:=kJ H k;unfold ab2 at h
 split at h
 rename_i agg size zero plain sz z b x e em ek;obtain⟨kt,et,hu,J,hz,_⟩:=YZ hT e;obtain⟨zs,hzr,g⟩:=acf hz
 split at h
 rename_i rows hb;rw[em] at hm;unfold Rep at hm;obtain⟨l,hs,hme⟩:=hm;have hke:a.eval k=.int .i64 x:=pM hk ek;have hB:fF w Y σ l (.map rows):=fF.yN H hlk hb hs;unfold fF at hB;obtain⟨⟨es,ck,h1,h2⟩,_⟩:=hB;have I:IsKey (.int .i64) (.int .i64 x):=by simp[IsKey]
 rcases oI.find x es.toList rows 0 h2 with ⟨g1,g2⟩|⟨j,e',cs,vs,g1,g2,g3,g4,g5,g6⟩
 obtain⟨zc,hzc,h⟩:=h.2 g1;refine qh.quiet H (cv:=.tuple #[.agg zs.toArray,.bool false]) ?_ ?_ h
 simp[execOp,ho,hme,hke,Instr.lookup,kD hu,MapKept.run_getObj_map h1,MapKept.run_checkKey J I,MapKept.run_findKey J g2,hzr,Result.andThen]
 unfold Rep;refine⟨[.agg zs.toArray,.bool false],rfl,?_⟩;unfold eU;refine⟨_,_,rfl,?_,?_⟩
 unfold Rep;exact⟨zs,rfl,hzc _ _ _ _ (g w Y σ)⟩
 unfold eU;refine⟨_,_,rfl,by unfold Rep;rfl,by unfold eU;rfl⟩
 have h:K (.Eu [.agg cs,.sb true]) []:=h.1 cs g1;refine qh.quiet H (cv:=.tuple #[e'.val,.bool true]) ?_ ?_ h
 simp[execOp,ho,hme,hke,Instr.lookup,kD hu,MapKept.run_getObj_map h1,MapKept.run_checkKey J I,MapKept.run_findKey J g2,Result.andThen]
 unfold Rep;refine⟨[e'.val,.bool true],rfl,?_⟩;unfold eU;refine⟨_,_,rfl,?_,?_⟩
 rw[g5];unfold Rep;exact⟨vs,rfl,eU.keep cs ⟨λ_ _ _=>rfl,λ_ _ h=>h,Nat.le_refl _,λ_ _ h=>by cases h⟩ vs g6⟩
 unfold eU;refine⟨_,_,rfl,by unfold Rep;rfl,by unfold eU;rfl⟩
 exact h.elim
 exact h.elim
include hT H hlk in
theorem aaT {t:TypeId}{m k x:Operand}(ho:o.op=.mapUpdate t m k x\/o.op=.insert t m k x)(h:adq T (gV.jd P T) t (rM T ps m) (rM T ps k) (rM T ps x) lk K):qh P C o a w σ ps st n id K:=by
 have hm:=kJ H m;have hk:=kJ H k;have hx:=kJ H x;unfold adq at h
 split at h
 rename_i agg size zero plain sz z b q e em ek;obtain⟨kt,et,hu,hku,hz,hsz⟩:=YZ hT e
 split at h
 rename_i rows hb
 split at h
 rename_i xs ex
 split at h
 rename_i cs δ hp
 cases hmd:aay b δ with
 | true=>rw[hmd] at h;exact h.elim
 | false=>
  rw[hmd] at h;simp only[cond_false] at h
  cases hl:Nat.beq (nN cs) sz with
  | false=>rw[hl] at h;exact h.elim
  | true=>
   rw[hl] at h;simp only[cond_true] at h;obtain⟨cs2,hl2,hc2,hw2,hK,_⟩:=AB h;rw[em] at hm;unfold Rep at hm;obtain⟨l,hs,hme⟩:=hm;have hke:a.eval k=.int .i64 q:=pM hk ek;rw[ex] at hx;unfold Rep at hx;obtain⟨vs,hxe,hxr⟩:=hx;obtain⟨Y1,H1,hr1,hy1⟩:=F9 xs cs δ hp Y st H (λb ro sz rows hb=>⟨ro,hlk _ _ hb⟩) vs hxr;have hst1:iH (jf δ st) b=some (.map rows):=by rw[PE δ st hmd];exact hlk _ _ hb
   have hB:fF w Y1 σ l (.map rows):=by
    rcases H1.store.blk b _ hst1 with ⟨l',hl',hB⟩|⟨hn,e⟩
    rw[hs] at hl';cases hl';exact hB
    cases e
   have hBm:=hB;unfold fF at hB;obtain⟨⟨es,ck,h1,h2⟩,hY⟩:=hB;have g:IsKey (.int .i64) (.int .i64 q):=by simp[IsKey]
   have hr2:=hw2 w Y1 gJ vs hr1
   have fin:∀ (es' : Array MapEntry) (J : Nat),oI w Y1 es'.toList (RZ rows q cs2)->(Instr.mapUpdate t (.map (some l.cb)) (.int .i64 q) (.agg vs.toArray)).run P w=.ok () { w with heap:=w.heap.setIfInBounds l.cb (.map es' J) }->qh P C o a w σ ps st n id K:=by
    intro es' J hR hrun;have I:=heap_set (o':=.map es' J) h1
    have H2:SW C { w with heap:=w.heap.setIfInBounds l.cb (.map es' J) } Y1 σ ps a.tmps.toList (nD (jf δ st) b (some (.map (RZ rows q cs2)))) n:=by
     refine H1.update hst1 hs hY rfl rfl rfl aF (λk hk=>I.2 k hk) (λ_ _ e=>by cases e) λhkp=>?_;unfold fF;have K0:Keep w { w with heap:=w.heap.setIfInBounds l.cb (.map es' J) } Y1 Y1 gJ gJ:=⟨λk _ hy=>I.2 k (λe=>hy (e ▸ hY)),λ_ _ h=>h,by simp,mZ.refl _⟩;exact⟨⟨es',J,I.1,hR.keep K0⟩,hY⟩
    refine⟨_,_,Go.undef,{ w with heap:=w.heap.setIfInBounds l.cb (.map es' J) },Y1,σ,hK,.inr ⟨?_,rfl⟩,?_,by simp[Rep],Off.refl _ _⟩
    rcases ho with ho|ho<;>simp[execOp,ho,hme,hke,hxe,hrun]
    rw[PG];have:uI (δ++[(b,some (lI.map ((gV.jd P T).ahQ rows q cs2)))]) n id=max n (id+1):=by cases δ<;>rfl
    rw[this];exact H2.mono ae
   rcases oI.find q es.toList rows 0 h2 with ⟨g1,g2⟩|⟨j,e',cs',vs',g1,g2,g3,g4,g5,g6⟩
   refine fin (es.push { key:=.int .i64 q,val:=.agg vs.toArray,born:=ck }) (ck+1) ?_ ?_
   rw[Array.toList_push];exact oI.push hr2 _ _ h2 g1
   simp[Instr.mapUpdate,kD hu,MapKept.run_getObj_map h1,MapKept.run_checkKey hku g,MapKept.run_findKey hku g2,MapKept.run_setObj_map _ h1,Result.andThen]
   refine fin (es.modify j λe=>{ e with key:=.int .i64 q,val:=.agg vs.toArray }) ck ?_ ?_
   rw[Array.toList_modify];exact oI.modify hr2 _ _ 0 j _ h2 g2
   have g3' : es[j]?=some e':=by simpa using g3
   simp[Instr.mapUpdate,kD hu,MapKept.run_getObj_map h1,MapKept.run_checkKey hku g,MapKept.run_findKey hku g2,g3',g4,MapKept.run_keyThatStays g,MapKept.run_setObj_map _ h1,Result.andThen]
 exact h.elim
 exact h.elim
 exact h.elim
 exact h.elim
end
end Go.Pv
namespace Go.Pv
open Go
structure CY (P:Program):Prop where
 und:OZ P
 flds:∀ t fs,t<P.types.size->P.underlying t=some (.struct fs)->∀ f∈fs.toList,P.info? f.type≠none
 elem:∀ t k e,t<P.types.size->P.underlying t=some (.array k e)->P.info? e≠none
 mixed:P.follows .mixedOrders=true
theorem aaU {T:Tab}{S:gV}{t:TypeId}{parts:Array (Nat×Operand)}{ps:List PV}{lk:Nat->Option lI}{id:Nat}{K:PV->Dl->Prop}(h:nV T S (.build t parts) ps lk id K):(T t).ok=true:=by
 simp only[nV] at h
 grind
section
variable {P:Program}{T:Tab}(hT:iK P T)(hW:CY P){C:Ctx T}{o:Oper}{a:Act}{w:World}{Y:Nat->Prop}{σ:Sg}{ps:List PV}{st:St}{n id:Nat}{K:PV->Dl->Prop}{lk:Nat->Option lI}
 (H:SW C w Y σ ps a.tmps.toList st n) (hlk:∀ b x,lk b=some x->iH st b=some x) (hid:σ id=none/\T.oZ<=id)
include hT hW H hlk hid in
theorem yV (h:nV T (gV.jd P T) o.op ps lk id K):qh P C o a w σ ps st n id K:=by
 cases ho:o.op with
 | move x=>rw[ho] at h;exact ahV H ho h
 | assign x=>rw[ho] at h;exact aeu H ho h
 | pick c x y=>rw[ho] at h;exact ahW H ho h
 | alloc t=>rw[ho] at h;exact afH hT H hid ho h
 | box t x=>rw[ho] at h;exact ajE H hid ho h
 | build t parts=>rw[ho] at h;exact afM hT H ho (λJ hu=>hW.flds t J (hT t (aaU h)).2 hu) (λk e hu=>hW.elem t k e (hT t (aaU h)).2 hu) h
 | buildSlice t len parts=>rw[ho] at h;exact Xj hT H hlk hid ho h
 | load t x=>rw[ho] at h;exact ahZ hT H hlk ho h
 | store t x y=>rw[ho] at h;exact afG hT H hlk hid ho h
 | nilCheck x=>rw[ho] at h;exact aaF H ho h
 | binOp op t x y u=>rw[ho] at h;exact afL hT H hW.und ho h
 | unOp op t x=>
  rw[ho] at h
  cases op with
  | not=>exact afz H ho h
  | neg=>exact afA H ho h
  | _=>exact dh
 | convert s d x=>rw[ho] at h;exact ace hT H hlk ho h
 | makeFunc fn first cap=>
  rw[ho] at h
  cases fn with
  | func f=>exact aaI H ho h
  | _=>exact dh
 | makeSlice t x y=>rw[ho] at h;exact YV hT H hid ho h
 | slice t x lo hi I=>rw[ho] at h;exact afO hT H hlk ho hid h
 | fieldAddr t x f=>rw[ho] at h;exact YM hT H ho h
 | field t x f=>rw[ho] at h;exact afI hT H hW.und ho h
 | indexAddr t x i=>rw[ho] at h;exact YR hT H hlk ho h
 | index t x i=>rw[ho] at h;exact afJ hT H hW.und ho h
 | extract t i=>rw[ho] at h;exact ab6 H ho h
 | call c=>
  rw[ho] at h;obtain⟨callee,args,ts⟩:=c
  cases callee with
  | builtin b=>
   cases b with
   | len=>exact ajF hT H ho h
   | min=>exact ajG hT H ho h
   | max=>exact ajH hT H ho h
   | append=>exact aez hT H hlk hid ho h
   | clear=>exact afQ hT H hlk hid ho h
   | _=>exact dh
  | _=>exact dh
 | _=>rw[ho] at h;exact dh
include hT hW H hlk hid in
theorem ah9 (h:opN T (gV.jd P T) o.op ps lk id K):qh P C o a w σ ps st n id K:=by
 unfold opN at h
 split at h
 exact yV hT hW H hlk hid h
 split at h
 rename_i ho;exact aeA H hid ho h
 rename_i ho;exact aaT hT H hlk (.inl ho) h
 rename_i ho;exact aaT hT H hlk (.inr ho) h
 rename_i ho;exact aeC hT H hlk ho h
 rename_i ho
 split at h
 rename_i I J;exact aeB hT H hlk ho I J h
 exact yV hT hW H hlk hid dX
 rename_i ho
 split at h
 exact ah7 hT H hlk hid ho (λhE=>yV hT hW H hlk hid (by rw[ho];exact hE)) h
 exact yV hT hW H hlk hid dX
 rename_i ho
 split at h
 rename_i I J
 split at h
 exact ah8 hT H hlk hid ho I J h
 exact yV hT hW H hlk hid dX
 exact yV hT hW H hlk hid dX
 exact yV hT hW H hlk hid h
end
theorem eU.oM {w:World}{Y:Nat->Prop}{σ:Sg}{p:PV}:∀ (ps:List PV) (vs:List Value) (t:Nat),eU w Y σ ps vs->Rep w Y σ p (vs.getD t Go.undef)->eU w Y σ (nC ps t p) vs
 | [],vs,t,h,_=>by simpa [nC] using h
 | q::ps,vs,0,h,hp=>by
  unfold eU at h;obtain⟨v,T,rfl,h1,h2⟩:=h;simp only[nC];unfold eU;grind
 | q::ps,vs,t+1,h,hp=>by
  unfold eU at h;obtain⟨v,T,rfl,h1,h2⟩:=h;simp only[nC];unfold eU;exact⟨v,T,rfl,h1,eU.oM ps T t h2 (by simpa using hp)⟩
theorem SW.oM {T:Tab}{C:Ctx T}{w:World}{Y:Nat->Prop}{σ:Sg}{ps:List PV}{vs:List Value}{st:St}{n:Nat}(H:SW C w Y σ ps vs st n){d:Nat}{b:Bool}(J:iV ps d=.sb b)(c:Bool)(hc:b=c):SW C w Y σ (nC ps d (.bool c)) vs st n:=by
 refine(H.qU ?_);refine eU.oM _ _ _ H.vals ?_;have:=H.vals.get _ _ d
 grind[Rep]
theorem kL.oM {T:Tab}{C:Ctx T}{E:Env}{a:Act}{w:World}(h:kL C E a w){d:Nat}{b:Bool}(I:iV E.tmps d=.sb b)(c:Bool)(hc:b=c):kL C (pK E (some d) (.bool c)) a w:=by
 obtain⟨⟨Y,σ,H⟩,J⟩:=h;refine⟨⟨Y,σ,(H.qU ?_)⟩,J⟩;refine eU.oM _ _ _ H.vals ?_;have:=H.vals.get _ _ d
 grind[Rep]
theorem kL.put {T:Tab}{C:Ctx T}{w:World}{Y:Nat->Prop}{σ:Sg}{a:Act}{ps:List PV}{st:St}{n:Nat}(H:SW C w Y σ ps a.tmps.toList st n)(J:DF C a){v:PV}{cv:Value}(hv:Rep w Y σ v cv)(d:Option Nat) :
  kL C (pK ⟨ps,st,n⟩ d v) (a.put d cv) w:=by
 cases d with
 | none=>exact⟨⟨Y,σ,H⟩,J⟩
 | some d=>
  refine⟨⟨Y,σ,(H.qU ?_)⟩,J⟩;simp only[Act.put,pK,Array.toList_setIfInBounds];exact eU.set hv _ _ _ H.vals
def fW (ro:Option Nat):Fence:={ fn:=λ_=>True,depth:=none,alive:=false,round:=ro }
theorem aeD {P:Program}{n:Nat}{row:String}{args:Array Value}{w:World}{R:Value->World->Prop}(h:Rows P row args w R):RowsIn Fence.wide n P row args w R :=
 λc cs _=>let ⟨v,w',r,s⟩:=h c cs;⟨v,w',r,stepsIn_wide.2 s⟩
theorem KR {P:Program}{o:Oper}{a:Act}{w:World}{next:Act->World->Prop}{Q:Exit->Act->World->Prop}{ro:Option Nat}(J:∀ c,o.op≠.defer c)(h:o.wp P a w next Q):o.wpIn (fW ro) 0 P a w next Q:=by
 refine⟨λ_ _=>trivial,?_⟩;show o.uponIn (fW ro) 0 P a next Q ((o.semAt ro a.eval).run P w)
 rw[Oper.semAt_eq _ _ _ J];unfold Oper.wp at h;generalize (execOp a.eval o).run P w=r at h
 cases r with
 | ok v w' =>
  cases v with
  | value v=>exact h
  | skip=>exact h
  | defer d=>exact h
  | enter f args=>exact⟨λT=>(by cases T),(callsIn_wide (n:=0-1)).2 h⟩
  | row r args=>exact⟨λT=>(by cases T),aeD (n:=0-1) h⟩
  | _=>exact h.elim
 | halt v w'=>cases v<;>first|exact h|exact h.elim
theorem ajM {T:Tab}{S:gV}{o:Op}{tmps:List PV}{lk:Nat->Option lI}{id:Nat}{K:PV->Dl->Prop}(h:nV T S o tmps lk id K):∀ c,o≠.defer c:=by
 rintro c rfl;exact h
theorem ajN {T:Tab}{S:gV}{o:Op}{tmps:List PV}{lk:Nat->Option lI}{id:Nat}{K:PV->Dl->Prop}(h:opN T S o tmps lk id K):∀ c,o≠.defer c:=by
 rintro c rfl
 unfold opN at h
 split at h
 exact h
 exact h
theorem aeE {P:Program}{T:Tab}{l:Nat}{rc:Loop}{pv:Value}{args:List PV}{E:Env}{K:PV->Env->Prop}{ρ:List Nat}{v:PV}{st1:St}{n1:Nat}
  (hnd:MO ρ=true) (hlt:ltN E.next ρ=true) (hnn:kS (yC (ixN ρ) E.st 0 ρ)=true) (h0:ρ[0]?=some 0)
  (hF:YS P T.gl l rc pv (Ak (vI (ixN ρ) 8) args) (yC (ixN ρ) E.st 0 ρ) (kU ρ) (λu st n=>u=v/\st=st1/\n=n1)) (hK:K (vI (CE ρ E.next) 8 v) (EZ ρ E st1 n1)):ajC P T l rc pv args E K:=by
 intro C Y σ w vs J H hr hy0 hl hpv
 have:=YX (P:=P) (N:=E.next+(n1-kU ρ)) (v:=v) (st1:=st1) (n1:=n1) (Z:=λ_ _=>True)
  (X:=λR=>J.length=rc.params.size/\RoundIn Fence.wide 0 P l rc.fn ((rc.params.zip J.toArray).foldl (λtmps (t,a)=>tmps.setIfInBounds t a) rc.tmps) rc.assign rc.body w R)
  H hnd hlt H.fix.1 (λb hb _=>H.next b hb) ⟨Nat.le_refl _,Nat.le_add_right _ _⟩ hr (by grind[RoundIn.mono])
  (λσc hσc I hra g=>by
   obtain⟨h1,h2⟩:=hF w Y σc J H.wQ H.vJ I hra g hnn (H.y0 l hy0) hl (by grind[Rep])
   grind)
 refine⟨this.1,RoundIn.mono this.2 λe w' hh=>?_⟩;obtain⟨cv,Y',σ',e1,h3,h4,_⟩:=hh;exact⟨cv,_,_,Y',σ',e1,hK,h3,h4⟩
def OpT (P:Program)(T:Tab)(o:Oper)(E:Env)(K:Env->Prop):Prop := ∀ (ro:Option Nat) (C:Ctx T) a w,kL C E a w->∀ next Q,(∀ E' a' w',kL C E' a' w'->K E'->next a' w')->o.wpIn (fW ro) 0 P a w next Q
theorem aia {P:Program}{T:Tab}(hT:iK P T)(hW:CY P){o:Oper}{E:Env}{K:Env->Prop}
  (h:nV T (gV.jd P T) o.op E.tmps (iH E.st) E.next λv δ=>K (pK ⟨E.tmps,jf δ E.st,Uf δ E.next⟩ o.dst v)):OpT P T o E K:=by
 intro ro C a w hA next Q I
 refine KR (ajM h) ?_;obtain⟨⟨Y,σ,H⟩,t⟩:=hA;obtain⟨v,δ,cv,w',Y',σ',hK,J,H',hv,_⟩:=yV hT hW H (λ_ _ h=>h) ⟨H.next _ (Nat.le_refl _),H.fix.1⟩ h;have g:uI δ E.next E.next=Uf δ E.next:=by cases δ<;>simp[uI,Uf]
 rw[g] at H';have:=I _ _ _ (kL.put H' t hv o.dst) hK;unfold Oper.wp;rcases J with J|⟨J,rfl⟩
 rw[J];exact this
 rw[J];exact this
theorem aib {P:Program}{T:Tab}(hT:iK P T)(hW:CY P){o:Oper}{E:Env}{K:Env->Prop}
  (h:opN T (gV.jd P T) o.op E.tmps (iH E.st) E.next λv δ=>K (pK ⟨E.tmps,jf δ E.st,Uf δ E.next⟩ o.dst v)):OpT P T o E K:=by
 intro ro C a w hA next Q I
 refine KR (ajN h) ?_;obtain⟨⟨Y,σ,H⟩,t⟩:=hA;obtain⟨v,δ,cv,w',Y',σ',hK,J,H',hv,_⟩:=ah9 hT hW H (λ_ _ h=>h) ⟨H.next _ (Nat.le_refl _),H.fix.1⟩ h;have g:uI δ E.next E.next=Uf δ E.next:=by cases δ<;>simp[uI,Uf]
 rw[g] at H';have:=I _ _ _ (kL.put H' t hv o.dst) hK;unfold Oper.wp;rcases J with J|⟨J,rfl⟩
 rw[J];exact this
 rw[J];exact this
theorem aeF {P:Program}{T:Tab}(hT:iK P T)(hW:CY P){o:Oper}{E:Env}{K:Env->Prop}(h:afn T (gV.jd P T) o E K):OpT P T o E K:=by
 unfold afn at h
 split at h
  
 rename_i f args ts ho
 split at h
 rename_i k caps U;intro ro C a w hA next Q J
 refine KR ak ?_;obtain⟨⟨Y,σ,H⟩,hd⟩:=hA;have g:=kJ H f;rw[U] at g;unfold Rep at g;obtain⟨cs,ef,hcs⟩:=g;have hargs:=vM H args.toList;have hall:=F7 (T.hid k) _ _ (eU.app _ _ _ _ hargs hcs);obtain⟨hent,hcall⟩:=MX h C Y σ w a.tmps.toList _ H hall;unfold Oper.wp
 have I:(execOp a.eval o).run P w=.ok (.enter k (args.toList.map a.eval++cs).toArray) w:=by
  have hmap:args.map a.eval=(args.toList.map a.eval).toArray:=by grind
  grind[execOp,resolve,Deferred.ofValue,invoke]
 rw[I];refine Calls.mono hcall λe w' hh=>?_;obtain⟨cv,v,E',Y',σ',rfl,hK,H',hv⟩:=hh;exact J _ _ _ (kL.put H' hd hv o.dst) hK
   
 rename_i l U;intro ro C a w hA next Q J
 obtain⟨⟨Y,σ,H⟩,hd⟩:=hA;have g:=kJ H f;rw[U] at g;unfold Rep at g;obtain⟨rc,pv,v1,st1,n1,hyl,has,hst0,h1,h2,h3,h4,hF,hK1⟩:=h;have h:=aeE (K:=λv E=>K (pK E o.dst v)) h1 h2 h3 h4 hF hK1;obtain⟨hy0,hm,hl0,hpas,l0,hb0,hpv⟩:=hd.2 l rc pv hyl;have hl:w.heap[l]?=some (.loop rc):=by rw[H.pJ.block l (Array.getElem?_eq_some_iff.1 hl0).1 hm];exact hl0
 obtain⟨hlen,hround⟩:=h C Y σ w a.tmps.toList _ H (vM H args.toList) hy0 hl (by unfold Rep;exact⟨l0,by rw[H.fix.2 0 hpas];exact hb0,hpv⟩);refine⟨λ_ _=>trivial,?_⟩;show o.uponIn (fW ro) 0 P a next Q ((o.semAt ro a.eval).run P w)
 rw[Oper.semAt_eq _ _ _ ak];have hmap:args.map a.eval=(args.toList.map a.eval).toArray:=by grind
 have hy:=run_yield (P:=P) (args:=(args.toList.map a.eval).toArray) hl (by simpa using hlen)
 have I:(execOp a.eval o).run P w=.ok (.round l rc.fn ((rc.params.zip (args.toList.map a.eval).toArray).foldl (λtmps (t,a)=>tmps.setIfInBounds t a) rc.tmps) rc.assign rc.body) w:=by
  grind[execOp,resolve,Deferred.ofValue,invoke]
 rw[I];refine⟨λhd=>(by cases hd),?_⟩;show RoundIn Fence.wide 0 P l _ _ _ _ w _;refine RoundIn.mono hround λe w' hh=>?_;obtain⟨cv,v,E',Y',σ',rfl,hK,H',hv⟩:=hh;exact J _ _ _ (kL.put H' hd hv o.dst) hK
 exact h.elim
 split at h
 rename_i c x y ho
 split at h
 rename_i t hc;obtain⟨ht,U⟩:=h;intro ro C a w hA next Q J
 refine KR ak ?_;obtain⟨⟨Y,σ,H⟩,hd⟩:=hA;have hcv:=H.vals.get _ _ c;rw[hc] at hcv;have hcv:=Sj hcv
 have hcv' : a.eval (.tmp c)=.bool t:=by
  grind[Act.eval,Array.getD_eq_getD_getElem?]
 have I:(execOp a.eval o).run P w=.ok (.value (if t then a.eval x else a.eval y)) w:=by
  simp[execOp,ho,hcv',asBool]
 unfold Oper.wp;rw[I]
 cases t with
 | true=>exact J _ _ _ (kL.put (H.oM hc true rfl) hd (v:=rM T E.tmps x) (kJ H x) o.dst) (ht rfl)
 | false=>exact J _ _ _ (kL.put (H.oM hc false rfl) hd (v:=rM T E.tmps y) (kJ H y) o.dst) (U rfl)
 grind[aia]
 exact aib hT hW h
theorem aaV {P:Program}{T:Tab}{all:Array Oper}{o:Oper}{E:Env}{run skip:Env->Prop}(h:gd (gV.jd P T) all o.guard E run skip){T:Tab}{C:Ctx T}{a:Act}{w:World}(hA:kL C E a w) :
  ∃ E',kL C E' a w/\((Region.wanted o (yielded all a.tmps)=true/\run E')\/(Region.wanted o (yielded all a.tmps)=false/\skip E')):=by
 unfold gd at h
 split at h
 grind[Region.wanted]
 rename_i j want hg
 split at h
 rename_i oj hj
 split at h
 rename_i d hd
 have t:∀ b,a.tmps.toList.getD d Go.undef=.bool b->yielded all a.tmps j=some b:=by
  intro b g;rw[List.getD_eq_getElem?_getD] at g;unfold yielded;simp only[hj,Option.bind_some,hd]
  cases hx:a.tmps[d]? with
  | none=>rw[Array.getElem?_toList,hx] at g;cases g
  | some v=>grind
 have hundef:a.tmps.toList.getD d Go.undef=Go.undef->yielded all a.tmps j=none:=by
  intro g;rw[List.getD_eq_getElem?_getD] at g;unfold yielded;simp only[hj,Option.bind_some,hd]
  cases hx:a.tmps[d]? with
  | none=>rfl
  | some v=>rw[Array.getElem?_toList,hx] at g;simp at g;subst g;rfl
 have J:∀ b,yielded all a.tmps j=some b->Region.wanted o (yielded all a.tmps)=(b==want):=by
  grind[Region.wanted]
 have hA':=hA;obtain⟨⟨Y,σ,H⟩,hdef⟩:=hA';have I:=H.vals.get _ _ d
 split at h
 rename_i e;rw[e] at I;have hw:=J true (t true (yM I))
 grind
 rename_i e;rw[e] at I;have hw:=J false (t false (yM I))
 grind
 rename_i b e;have hg3:=I;rw[e] at hg3;have hw:=J b (t b (Sj hg3));obtain⟨h1,h2⟩:=h;refine⟨pK E (some d) (.bool b),⟨⟨Y,σ,H.oM e b rfl⟩,hdef⟩,?_⟩
 grind
 grind[Rep,Region.wanted]
 exact h.elim
 exact h.elim
 exact h.elim
theorem AP {P:Program}{T:Tab}(hT:iK P T)(hW:CY P)(ro:Option Nat){all:Array Oper}{Q:Exit->Act->World->Prop}{C:Ctx T}:∀ (l:List Oper) (E:Env) (K:Env->Prop),opsE T (gV.jd P T) all l E K ->
  ∀ a w,kL C E a w->(∀ t a' w',kL C t a' w'->K t->Q .normal a' w')->wpListIn (fW ro) 0 P all Q l a w
 | [],E,K,h,a,w,hA,hQ=>hQ E a w hA h
 | o::l,E,K,h,a,w,hA,hQ=>by
  simp only[opsE] at h;obtain⟨t,J,hh⟩:=aaV h hA;unfold wpListIn;rcases hh with ⟨I,hh⟩|⟨I,hh⟩
  rw[if_pos I];refine aeF hT hW hh ro C a w J _ _ λE2 a2 w2 g hK2=>?_;exact AP hT hW ro l E2 K hK2 a2 w2 g hQ
  rw[if_neg (by rw[I];simp)];obtain⟨⟨Y,σ,H⟩,hd⟩:=J;exact⟨λ_ _=>trivial,AP hT hW ro l _ K hh _ w (kL.put H hd (v:=.undef) (cv:=Go.undef) bz o.dst) hQ⟩
theorem acg {P:Program}{T:Tab}(hT:iK P T)(hW:CY P){id:Nat}{l:Array Oper}{Q:Exit->Act->World->Prop}{C:Ctx T}{E:Env}{K:Env->Prop}(h:opsE T (gV.jd P T) l l.toList E K){a:Act}{w:World}(hA:kL C E a w)
  (t:∀ J I w',kL C J I w'->K J->Q .normal I w'):(Code.region id l false).wp P Q a w :=
 wpIn_wide.1 (wpIn_region_list (F:=Fence.wide) (n:=0) (AP hT hW none l.toList E K h a w hA t))
end Go.Pv
namespace Go.Pv
open Go
theorem C9 {T:Tab}{ps qs:List PV}:∀ (l:List Operand),(∀ x∈l,rM T ps x=rM T qs x)->evA T ps l=evA T qs l
 | [],_=>rfl
 | x::l,h=>by simp only[evA];rw[h x aF,C9 l λy hy=>h y (by simp[hy])]
theorem Og {T:Tab}{ps qs:List PV}:∀ (l:List (Nat×Operand)),(∀ x∈l,rM T ps x.2=rM T qs x.2)->evP T ps l=evP T qs l
 | [],_=>rfl
 | (i,x)::l,h=>by simp only[evP];rw[h (i,x) aF,Og l λy hy=>h y (by simp[hy])]
theorem SA {T:Tab}{ps qs:List PV}(l:Option Operand)(h:∀ x,l=some x->rM T ps x=rM T qs x):evO T ps l=evO T qs l:=by
 cases l with
 | none=>rfl
 | some x=>simp only[evO];rw[h x rfl]
theorem SB {T:Tab}{S:gV}{o:Op}{ps qs:List PV}{lk:Nat->Option lI}{id:Nat}{K:PV->Dl->Prop}(h:∀ x∈o.operands,rM T ps x=rM T qs x) :
  nV T S o ps lk id K=nV T S o qs lk id K:=by
 cases o
 case build t parts=>
  have:=Og (ps:=ps) (qs:=qs) parts.toList λx hx=>h x.2 bD;simp only[nV,this]
 case buildSlice t len parts=>
  have:=Og (ps:=ps) (qs:=qs) parts.toList λx hx=>h x.2 bD;simp only[nV,this]
 case makeFunc fn first cap=>
  cases fn
  case func f=>
   have:=C9 (ps:=ps) (qs:=qs) cap.toList λx hx=>h x (by grind[Op.operands]);simp only[nV,this]
  all_goals simp only[nV]
 case slice t x lo hi mx=>
  have h0:=h x dL;have h1:=SA (ps:=ps) (qs:=qs) lo λy hy=>h y dS;have h2:=SA (ps:=ps) (qs:=qs) hi λy hy=>h y dS;have J:=SA (ps:=ps) (qs:=qs) mx λy hy=>h y dS
  simp_all[nV]
 case call c=>
  obtain⟨callee,args,ts⟩:=c;cases callee
  case builtin b=>
   have:=C9 (ps:=ps) (qs:=qs) args.toList λx hx=>h x bJ;simp only[nV,this]
  all_goals simp only[nV]
 case unOp op t x=>
  have h0:=h x dL;cases op<;>simp only[nV,h0]
 all_goals (simp only[Op.operands,List.mem_toArray,List.mem_cons,List.not_mem_nil,or_false,forall_eq_or_imp,forall_eq] at h;simp only[nV,h])
theorem UN {b:Bool}{p:Prop}:(bif b then p else False)=(b=true/\p):=by cases b<;>simp
theorem zN {agg:Bool}{size:Nat}{row:List PV}{c:Nat}{K:PV->Prop}(h:loadRow agg size row c K):∃ v,K v/\∀ T : PV->Prop,T v->loadRow agg size row c T:=by
 unfold loadRow at h |-
 grind
theorem afT {P:Program}{T:Tab}{op:BinOp}{t:TypeId}{x y:PV}{K:PV->Prop}(h:afg T (gV.jd P T) op t x y K):∃ v,K v/\∀ J : PV->Prop,J v->afg T (gV.jd P T) op t x y J:=by
 have spec:∀ {k I : IntKind} {a b:Int},Xf (gV.jd P T) op k a I b K->∃ v,K v/\∀ J : PV->Prop,J v->Xf (gV.jd P T) op k a I b J:=by
  intro k I a b h;cases op<;>simp only[Xf,UN,gV.jd] at h |-<;>grind
 have C:∀ {b:Bool},eqK (gV.jd P T) op b K->∃ v,K v/\∀ J : PV->Prop,J v->eqK (gV.jd P T) op b J:=by
  intro b h;unfold eqK at h |-
  grind
 have eql:∀ {b:Bool},eqL op b K->∃ v,K v/\∀ J : PV->Prop,J v->eqL op b J:=by
  intro b h;unfold eqL at h |-
  grind
 have ints:∀ {k I : IntKind} {a b:Int} {v u:PV},(bif isSpec op then Xf (gV.jd P T) op k a I b K
   else bif uk k I then(bif Iy op then K v else bif MN op then K u else False) else False) ->
   ∃ r,K r/\∀ J : PV->Prop,J r->(bif isSpec op then Xf (gV.jd P T) op k a I b J
   else bif uk k I then(bif Iy op then J v else bif MN op then J u else False) else False):=by
  grind
 unfold afg at h |-
 split at h
 exact ints h
 cases h1:isAdd op<;>simp only[h1,cond_true,cond_false] at h |-
 grind
 grind[gV.jd]
 split at h<;>grind
 split at h
 exact ints h
 split at h<;>grind
theorem aic {rows:List (List PV)}{r:Nat}{row:List PV}{K:PV->Dl->Prop}{F:(PV->Dl->Prop)->List PV->Prop}(hr:rows[r]?=some row)(h:∃ v δ,K v δ/\∀ T : PV->Dl->Prop,T v δ->F T row):∃ v δ,K v δ/\∀ T : PV->Dl->Prop,T v δ->∃ row,rows[r]?=some row/\F T row:=by
 grind
theorem U5 {c:Prop}{K:PV->Dl->Prop}{F:(PV->Dl->Prop)->Prop}(h0:c)(h:∃ v δ,K v δ/\∀ T : PV->Dl->Prop,T v δ->F T):∃ v δ,K v δ/\∀ T : PV->Dl->Prop,T v δ->c/\F T:=by
 grind
theorem adz {P:Program}{T:Tab}{o:Op}{ps:List PV}{lk:Nat->Option lI}{id:Nat}{K:PV->Dl->Prop}(C:isQ o=true)(h:nV T (gV.jd P T) o ps lk id K) :
  ∃ v δ,K v δ/\∀ g : PV->Dl->Prop,g v δ->nV T (gV.jd P T) o ps lk id g:=by
 cases o
 case move x=>exact⟨_,_,h,λ_ hk=>hk⟩
 case assign x=>exact⟨_,_,h,λ_ hk=>hk⟩
 case pick c a b=>
  simp only[nV] at h |-
  grind
 case nilCheck x=>
  simp only[nV] at h |-
  grind
 case extract t i=>
  simp only[nV] at h |-
  grind
 case convert s d x=>
  simp only[nV] at h |-
  split at h
  split at h
  obtain⟨h1,b,h2,J⟩:=h;exact⟨_,_,J,λ_ hk=>⟨h1,b,h2,hk⟩⟩
  exact h.elim
  split at h
  exact⟨_,_,h.2,λ_ hk=>⟨h.1,hk⟩⟩
  exact h.elim
  grind
  exact h.elim
 case makeFunc fn first cap=>
  cases fn
  case func f=>
   simp only[nV] at h |-
   grind
  all_goals exact dh
 case unOp op t x=>
  cases op
  case not=>
   simp only[nV] at h |-
   grind
  case neg=>
   simp only[nV] at h |-
   grind
  all_goals exact dh
 case fieldAddr t x f=>
  simp only[nV] at h |-
  split at h<;>grind
 case field t x f=>
  simp only[nV] at h |-
  split at h
  split at h
  split at h
  simp only[UN] at h |-
  grind[zN]
  exact h.elim
  exact h.elim
  exact h.elim
 case load t x=>
  simp only[nV] at h |-
  split at h
  split at h
  grind[zN]
  split at h<;>grind[gV.jd,zN]
  split at h
  simp only[gV.jd,UN] at h |-
  grind[zN]
  exact h.elim
  grind[zN]
  exact h.elim
  exact h.elim
 case binOp op t x y u=>
  have hn:abZ y=false:=by
   grind[isQ]
  simp only[nV] at h |-
  grind[afT]
 case indexAddr t x i=>
  simp only[nV] at h |-
  split at h
  split at h
  simp only[UN] at h |-;obtain⟨h0,j,row,h1,h2,h⟩:=h;exact⟨_,_,h,λ_ hk=>⟨h0,j,row,h1,h2,hk⟩⟩
  split at h
  exact eG
  exact eG
  exact eG
  exact h.elim
  exact eG
  exact h.elim
  simp only[UN] at h |-;obtain⟨h0,h⟩:=h
  split at h
  grind
  obtain⟨j,h1,h2,h⟩:=h
  split at h
  exact⟨_,_,h,λ_ hk=>⟨h0,j,h1,h2,hk⟩⟩
  exact⟨_,_,h,λ_ hk=>⟨h0,j,h1,h2,hk⟩⟩
  exact⟨_,_,h.2,λ_ hk=>⟨h0,j,h1,h2,h.1,hk⟩⟩
  exact h.elim
  exact h.elim
  exact h.elim
 case index t x i=>
  simp only[nV] at h |-
  split at h
  grind[gV.jd]
  simp only[UN] at h |-;obtain⟨h0,j,h1,h2,h⟩:=h;obtain⟨v,J,I⟩:=zN h;exact⟨v,_,J,λ_ hk=>⟨h0,j,h1,h2,I _ hk⟩⟩
  exact h.elim
 case build t parts=>
  simp only[nV] at h |-
  grind
 case call c=>
  obtain⟨callee,args,ts⟩:=c;cases callee
  case builtin b=>
   simp only[nV] at h |-
   split at h
   grind
   grind
   grind
   grind
   grind
   grind
   grind[isQ]
   grind[isQ]
   exact h.elim
  all_goals exact(by simp[isQ] at C)
 case slice t x lo hi mx=>
  simp only[nV] at h |-
  split at h
  all_goals repeat' (first
   | exact h.elim
   | exact⟨_,_,h,λ_ hk=>hk⟩
   | (obtain⟨i,j,h1,h2,J,I,h5⟩:=h;exact⟨_,_,h5,λ_ hk=>⟨i,j,h1,h2,J,I,hk⟩⟩)
   | (split at h)
   | (simp only[UN] at h |-;refine U5 h.1 ?_;replace h:=h.2)
   | (refine U5 h.1 ?_;replace h:=h.2))
 all_goals exact(by simp[isQ] at C)
end Go.Pv
