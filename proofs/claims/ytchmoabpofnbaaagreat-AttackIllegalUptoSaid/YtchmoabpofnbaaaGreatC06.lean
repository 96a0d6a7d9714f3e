import Derived.LoopN
import Derived.OpenShut
import Derived.DataReads
import Derived.Carry
import Derived.Handed
import Derived.JoinedCond
import Derived.Test.YtchmoabpofnbaaaGreatC05
set_option linter.all false
namespace Go.Pv
open Go
def aeQ (T:Tab)(S:iW)(b:Code)(Q:Post):Nat->Env->Prop
 | 0,_=>False
 | n+1,E=>I4 T S b (Iw (λE=>aeQ T S b Q n E) Q) E
theorem Hf {P:Program}{T:Tab}{C:Ctx T}{b:Code}{Q:Post}{nx:Env->Prop}{n:Nat}(U:∀ E a w,lL C E a w->nx E->Code.rounds P b (lift C Q) n a w):∀ e a w,lift C (Iw nx Q) e a w->Exit.then (Code.rounds P b (lift C Q) n) (lift C Q) e a w:=by
 intro e a w h
 cases e with
 | normal=>obtain⟨E,hA,hq⟩:=h;exact U E a w hA hq
 | ret=>obtain⟨E,hA,hq⟩:=h;exact⟨E,hA,hq⟩
 | exit n=>obtain⟨E,hA,hq⟩:=h;exact⟨E,hA,hq⟩
 | _=>exact h.elim
theorem U8 {P:Program}{T:Tab}(hT:jq P T)(hW:Ci P){b:Code}{Q:Post}:∀ (n:Nat) (E:Env),aeQ T (iW.jI P T) b Q n E->∀ (C:Ctx T) a w,lL C E a w->Code.rounds P b (lift C Q) n a w
 | 0,E,h,_,_,_,_=>h.elim
 | n+1,E,h,C,a,w,hA=>by
  unfold Code.rounds;exact wp_mono (zY hT hW b _ E h C a w hA) (Hf λJ I w' U hq=>U8 hT hW n J hq C I w' U)
def wkV:PV->PV
 | .int k n=>.si k n
 | .bool b=>.sb b
 | v=>v
def wkB:Option mO->Option mO
 | some (.var ro row)=>some (.var ro (Ai wkV row))
 | x=>x
def wkS:St->St
 | []=>[]
 | (b,x)::l=>(b,wkB x)::wkS l
def wkE (E:Env):Env:=⟨Ai wkV E.tmps,wkS E.st,E.next⟩
theorem acw (c:Nat):∀ st:St,jk (wkS st) c=wkB (jk st c)
 | []=>rfl
 | (b,x)::l=>by
  simp only[wkS,jk]
  cases Nat.beq b c with
  | true=>rfl
  | false=>exact acw c l
theorem acx {w:World}{Y:Nat->Prop}{σ:Sg}(p:PV)(v:Value)(h:Rep w Y σ p v):Rep w Y σ (wkV p) v:=by
 cases p<;>first|exact h|(unfold wkV;unfold Rep at h |-;exact h)
theorem acy {w:World}{Y:Nat->Prop}{σ:Sg}:∀ (ps:List PV) (vs:List Value),gI w Y σ ps vs->gI w Y σ (Ai wkV ps) vs
 | [],vs,h=>h
 | p::ps,vs,h=>by
  unfold gI at h;obtain⟨v,U,rfl,h1,h2⟩:=h;simp only[Ai];unfold gI;exact⟨v,U,rfl,acx p v h1,acy ps U h2⟩
theorem SW.PU {T:Tab}{C:Ctx T}{w:World}{Y:Nat->Prop}{σ:Sg}{ps:List PV}{vs:List Value}{st st' : St}{n:Nat}(H:SW C w Y σ ps vs st n)
  (h:∀ b,jk st' b=jk st b\/∃ ro row U,jk st b=some (.var ro row)/\jk st' b=some (.var ro U)/\U.length=row.length/\∀ cb o,jo w Y σ cb row o->jo w Y σ cb U o):SW C w Y σ ps vs st' n:=by
 have J : ∀ b x,jk st' b=some x->∃ y,jk st b=some y:=by
  intro b x hx;rcases h b with e|⟨ro,row,U,e1,e2,_⟩
  exact⟨x,by rw[<- e];exact hx⟩
  exact⟨_,e1⟩
 have ow:∀ b r c I sz g,ni st' b r c I sz g->ni st b r c I sz g:=by
  rintro b r c I sz g ⟨sz0,rows,row,h1,h2⟩
  rcases h b with e|⟨ro,row1,U,e1,e2,_⟩
  exact⟨sz0,rows,row,by rw[<- e];exact h1,h2⟩
  rw[e2] at h1;cases h1
 refine⟨H.vals,⟨?_,?_⟩,H.next,H.vJ,H.y0,H.c0,H.wS,H.qm,?_,H.wU,H.fix,⟨?_,?_,?_,?_⟩⟩
 intro b x hx;rcases h b with e|⟨ro,row,U,e1,e2,e3,e4⟩
 exact H.store.blk b x (by rw[<- e];exact hx)
 rw[e2] at hx;cases hx;rcases H.store.blk b _ e1 with ⟨l,hl,hB⟩|⟨_,hx⟩
 refine .inl ⟨l,hl,?_⟩;unfold gW at hB |-;exact⟨hB.1,by rw[e3];exact hB.2.1,by rw[e3];exact hB.2.2.1,e4 _ _ hB.2.2.2.1,hB.2.2.2.2⟩
 cases hx
 intro b b' x x' l l' hx hx' hl hl' e;obtain⟨y,hy⟩:=J b x hx;obtain⟨y',hy'⟩:=J b' x' hx';exact H.store.inj b b' y y' l l' hy hy' hl hl' e
 intro b x l hx hl;obtain⟨y,hy⟩:=J b x hx;exact H.own b y l hy hl
 intro b r c I sz g ho;exact H.nest.rep _ _ _ _ _ _ (ow _ _ _ _ _ _ ho)
 intro b r c I sz g ho;exact H.nest.old _ _ _ _ _ _ (ow _ _ _ _ _ _ ho)
 intro b r c I sz g b' r' c' h2 sz' es' ho ho' e;exact H.nest.one _ _ _ _ _ _ _ _ _ _ _ _ (ow _ _ _ _ _ _ ho) (ow _ _ _ _ _ _ ho') e
 intro b r c I sz g b' x l ho hx hl;obtain⟨y,hy⟩:=J b' x hx;exact H.nest.sep _ _ _ _ _ _ b' y l (ow _ _ _ _ _ _ ho) hy hl
theorem JJ {T:Tab}(E:Env):Ent T E (wkE E):=by
 intro C a w hA;obtain⟨⟨Y,σ,H⟩,U⟩:=hA;refine⟨⟨Y,σ,(H.rG (acy _ _ H.vals)).PU λb=>?_⟩,U⟩;have hk:jk (wkE E).st b=wkB (jk E.st b):=acw b E.st;rw[hk]
 cases J:jk E.st b with
 | none=>exact .inl rfl
 | some x=>
  cases x with
  | var ro row=>
   refine .inr ⟨ro,row,Ai wkV row,rfl,rfl,by rw[Dj];simp,λcb o h=>?_⟩;rw[Dj];exact jo.map acx row o h
  | _=>exact .inl rfl
theorem jo.pI {w:World}{Y:Nat->Prop}{σ:Sg}{b:Nat}{p:PV}:∀ (ps:List PV) (o t:Nat),(∀ v,Rep w Y σ (jD ps t) v->Rep w Y σ p v)->jo w Y σ b ps o->jo w Y σ b (nY ps t p) o
 | [],o,t,_,h=>by simpa [nY] using h
 | q::ps,o,0,hp,h=>by
  unfold jo at h;obtain⟨⟨v,h1,h2⟩,U⟩:=h;simp only[nY];unfold jo;exact⟨⟨v,h1,hp v h2⟩,U⟩
 | q::ps,o,t+1,hp,h=>by
  unfold jo at h;obtain⟨h1,U⟩:=h;simp only[nY];unfold jo;exact⟨h1,jo.pI ps (o+1) t hp U⟩
inductive Cv where
 | tO (t z:Nat)
 | tN (t z:Nat)
 | tS (t z:Nat)
 | cO (b c z:Nat)
 | cS (b c z:Nat)
 | tR (t:Nat)
 | tF (t:Nat)
 | tP (t:Nat)
 | cF (b c:Nat)
 | cR (b c:Nat)
def cvS (z:Nat)(v:PV):PV :=
 match v with
 | .sl a es f=>(match f with
  | true=>(match es with
   | []=>.sl z [] false
   | _::_=>.sl a es f)
  | false=>.sl a es f)
 | v=>v
theorem acz {w:World}{Y:Nat->Prop}{σ:Sg}(z:Nat)(p:PV)(v:Value)(h:Rep w Y σ p v):Rep w Y σ (cvS z p) v:=by
 unfold cvS
 split
 split
 split
 unfold Rep at h |-;obtain⟨a,len,cap,e,hl,hc,_,_⟩:=h;exact⟨a,len,cap,e,hl,hc,(λh=>by cases h),.inl rfl⟩
 exact h
 exact h
 exact h
def cvO (z n:Nat)(v:PV):Option PV :=
 match v with
 | .sl _ es f=>(match f with
  | true=>(match es with
   | []=>some (.os n 0 0)
   | _::_=>none)
  | false=>none)
 | _=>none
theorem X5 {w:World}{Y:Nat->Prop}{σ:Sg}{z n:Nat}{p q:PV}(e:cvO z n p=some q)(v:Value)(h:Rep w Y σ p v):Rep w Y σ q v:=by
 unfold cvO at e
 split at e
 split at e
 split at e
 cases e;unfold Rep at h |-;obtain⟨U,len,cap,e,hl,hc,O,_⟩:=h;have hl:len=0:=by simpa using hl
 have hc:=O rfl;subst hl;rw[e,hc];exact .inr ⟨rfl,U,rfl⟩
 cases e
 cases e
 cases e
def aeR:List PV->List PV
 | []=>[]
 | v::vs=>(match v with
  | .hc=>.sb false
  | v=>v)::aeR vs
theorem U9 {S:iW}{w:World}{Y:Nat->Prop}{σ:Sg}:∀ (ps:List PV) (vs:List Value) (r:List PV×Dl),pur S (λ_=>none) (aeR ps)=some r->gI w Y σ ps vs->gI w Y iU ps vs
 | [],vs,_,_,h=>by unfold gI at h |-;exact h
 | p::ps,vs,r,hp,h=>by
  unfold gI at h;obtain⟨v,U,rfl,h1,h2⟩:=h;unfold aeR at hp;unfold pur at hp
  cases hq:pur S (λ_=>none) (aeR ps) with
  | none=>rw[hq] at hp;cases hp
  | some q=>
   rw[hq] at hp;simp only at hp;have T:=U9 ps U q hq h2;have fin:Rep w Y iU p v->gI w Y iU (p::ps) (v::U):=λh=>by unfold gI;exact⟨v,U,rfl,h,T⟩
   cases p
   case os=>simp at hp
   case fn f cs=>
    cases cs with
    | nil=>exact fin bM
    | cons _ _=>simp at hp
   all_goals first
    | (simp at hp;done)
    | exact fin bG
def cv1 (S:iW):Cv->Env->Env
 | .tO t z,E=>(match cvO z E.next (jD E.tmps t) with
  | some v=>⟨nY E.tmps t v,oH E.st E.next (some (.arr false z [])),E.next+1⟩
  | none=>E)
 | .tN t z,E=>(match cvO z E.next (jD E.tmps t) with
  | some v=>⟨nY E.tmps t v,oH E.st E.next (some (.mg z [])),E.next+1⟩
  | none=>E)
 | .tS t z,E=>⟨nY E.tmps t (cvS z (jD E.tmps t)),E.st,E.next⟩
 | .cO b c z,E=>(match jk E.st b with
  | some (.var ro row)=>(match cvO z E.next (jD row c) with
   | some v=>⟨E.tmps,oH (oH E.st b (some (.var ro (nY row c v)))) E.next (some (.arr false z [])),E.next+1⟩
   | none=>E)
  | _=>E)
 | .cS b c z,E=>(match jk E.st b with
  | some (.var ro row)=>⟨E.tmps,oH E.st b (some (.var ro (nY row c (cvS z (jD row c))))),E.next⟩
  | _=>E)
 | .tR t,E=>(match jD E.tmps t with
  | .os b r m=>(match jk E.st b with
   | some (.arr false sz rows)=>⟨nY E.tmps t (.os E.next 0 m),oH (oH E.st b none) E.next (some (.arr false sz (S.sub rows r m))),E.next+1⟩
   | _=>E)
  | _=>E)
 | .tF t,E=>(match jD E.tmps t with
  | .os b r m=>(match jk E.st b with
   | some (.arr _ sz rows)=>⟨nY E.tmps t (.sl sz (S.sub rows r m) false),oH E.st b (some (.arr true sz rows)),E.next⟩
   | some (.mg sz rows)=>⟨nY E.tmps t (.sl sz (S.fz (S.sub rows r m)) false),oH E.st b none,E.next⟩
   | _=>E)
  | _=>E)
 | .tP t,E=>(match jD E.tmps t with
  | .lv b c=>(match jk E.st b with
   | some (.var _ row)=>(match pur S (λ_=>none) (aeR row) with
    | some _=>⟨nY E.tmps t (.pp (FP c row)),oH E.st b (some (.var true row)),E.next⟩
    | none=>E)
   | _=>E)
  | _=>E)
 | .cF b c,E=>(match jk E.st b with
  | some (.var ro row)=>(match jD row c with
   | .os b' r m=>(match jk E.st b' with
    | some (.arr _ sz rows)=>⟨E.tmps,oH (oH E.st b' (some (.arr true sz rows))) b (some (.var ro (nY row c (.sl sz (S.sub rows r m) false)))),E.next⟩
    | _=>E)
   | _=>E)
  | _=>E)
 | .cR b c,E=>(match jk E.st b with
  | some (.var false row)=>(match jD row c with
   | .os b' r m=>(match jk E.st b' with
    | some (.arr false sz rows)=>⟨E.tmps,oH (oH (oH E.st b' none) E.next (some (.arr false sz (S.sub rows r m)))) b (some (.var false (nY row c (.os E.next 0 m)))),E.next+1⟩
    | _=>E)
   | _=>E)
  | _=>E)
def Jv (S:iW):List Cv->Env->Env
 | [],E=>E
 | c::l,E=>Jv S l (cv1 S c E)
theorem aeS {P:Program}{T T' : Tab}{C:Ctx T}{w:World}{Y:Nat->Prop}{σ:Sg}{vs:List Value}(c:Cv)(E:Env)(H:SW C w Y σ E.tmps vs E.st E.next):∃ Y' σ',SW C w Y' σ' (cv1 (iW.jI P T') c E).tmps vs (cv1 (iW.jI P T') c E).st (cv1 (iW.jI P T') c E).next/\Keep w w Y Y' σ σ':=by
 have K0:Keep w w Y Y σ σ:=Keep.same (oq.refl _)
 have H1:∀ z,SW C w Y σ E.tmps vs (oH E.st E.next (some (.arr false z []))) (E.next+1):=by
  intro z;have H1:=H.empty (id:=E.next) ⟨H.next _ (Nat.le_refl _),H.fix.1⟩ z;have hm:max E.next (E.next+1)=E.next+1:=by omega
  rw[hm] at H1;exact H1
 cases c with
 | tO t z=>
  simp only[cv1]
  split
  rename_i v he;exact⟨Y,σ,(H1 z).rG (gI.pI _ _ _ H.vals (X5 he _ (H.vals.get _ _ t))),K0⟩
  exact fK
 | tN t z=>
  simp only[cv1]
  split
  rename_i v he;have H1:=H.aez (id:=E.next) ⟨H.next _ (Nat.le_refl _),H.fix.1⟩ (.mg z);have hm:max E.next (E.next+1)=E.next+1:=by omega
  rw[hm] at H1;exact⟨Y,σ,H1.rG (gI.pI _ _ _ H.vals (X5 he _ (H.vals.get _ _ t))),K0⟩
  exact fK
 | tS t z=>exact⟨Y,σ,H.rG (gI.pI _ _ _ H.vals (acz z _ _ (H.vals.get _ _ t))),K0⟩
 | cO b c z=>
  simp only[cv1]
  split
  rename_i ro row U
  split
  rename_i v he;refine⟨Y,σ,(H1 z).PU λJ=>?_,K0⟩
  have hne:¬ E.next=b:=by
   intro e;rcases H.store.blk b _ U with ⟨l,hl,_⟩|⟨_,hx⟩
   rw[H.next b ah] at hl;cases hl
   cases hx
  simp only[iQ]
  by_cases h1:E.next=J
  exact .inl (by simp[h1])
  by_cases h2:b=J
  subst h2;exact .inr ⟨ro,row,nY row c v,by simp[h1,U],by simp[h1],by simp[rM],λcb o h=>jo.pI _ _ _ (λv=>X5 he v) h⟩
  exact .inl (by simp[h1,h2])
  exact fK
  exact fK
 | cS b c z=>
  simp only[cv1]
  split
  rename_i ro row U;refine⟨Y,σ,H.PU λJ=>?_,K0⟩;simp only[iQ]
  by_cases h2:b=J
  subst h2;exact .inr ⟨ro,row,nY row c (cvS z (jD row c)),U,by simp,by simp[rM],λcb o h=>jo.pI _ _ _ (λv=>acz z _ v) h⟩
  exact .inl (by simp[h2])
  exact fK
 | tR t=>
  simp only[cv1];have hg:=H.vals.get _ _ t
  split
  rename_i b r m hp;rw[hp] at hg
  split
  rename_i sz rows U;obtain⟨σ',H1,h1,k1⟩:=H.abd U hg;exact⟨Y,σ',H1.rG (gI.pI _ _ _ H1.vals h1),Keep.same k1⟩
  exact fK
  exact fK
 | tF t=>
  simp only[cv1]
  split
  rename_i b r m hp
  split
  rename_i ro sz rows U;obtain⟨Y',H1,hfr,hY⟩:=H.freeze U (.inr ⟨ro,sz,rows,rfl,rfl⟩);refine⟨Y',σ,H1.rG (gI.pI _ _ _ H1.vals ?_),⟨λ_ _ _=>rfl,λk _=>hY k,Nat.le_refl _,oq.refl _⟩⟩;have hg:=H1.vals.get _ _ t;rw[hp] at hg;have hb' : jk (oH E.st b (some (.arr true sz rows))) b=some (.arr true sz rows):=by rw[iQ,if_pos rfl]
  obtain⟨x,cap,ev,hn,hl,hr⟩:=G9 hg (H1.store.blk b _ hb');show Rep w Y' σ (.sl sz ((rows.drop r).take m) false) _;unfold Rep;refine⟨x,m,cap,ev,hl,hn,(λh=>by cases h),hr.imp id λ⟨J,o,e,hlt,⟨l,g,e2⟩,hR⟩=>⟨J,o,e,⟨hlt,by rw[e2];exact hfr l g⟩,hR⟩⟩
  rename_i sz rows U;obtain⟨Y',H',h1,h2,h3⟩:=H.ach U;have hv:=H.vals.get _ _ t;rw[hp] at hv
  have hr:=Cf (P:=P) (T:=T') (Y0:=Y') (lk:=λc=>if c=b then some (.mg sz rows) else none) H.store (λc x h=>by
    by_cases hc:c=b
    rw[if_pos hc] at h;cases h;rw[hc];exact U
    rw[if_neg hc] at h;cases h) h3 (λc x l h hl=>by
    by_cases hc:c=b
    rw[hc] at hl;exact h1 l hl
    rw[if_neg hc] at h;cases h) (λc sz2 rows2 h r' row k h' sz' es e1 e2 e3=>by
    by_cases hc:c=b
    rw[if_pos hc] at h;cases h;have ho:ni E.st b r' k h' sz' es:=⟨sz,rows,row,U,e1,e2,e3⟩;exact⟨⟨(H.nest.rep _ _ _ _ _ _ ho).lt,h2 _ _ _ _ _ ho⟩,(H.nest.rep _ _ _ _ _ _ ho).rows⟩
    rw[if_neg hc] at h;cases h) 1 (.os b r m) (.sl sz ((iW.jI P T').fz ((iW.jI P T').sub rows r m)) false) _ (by simp[frz]) hv
  exact⟨Y',σ,H'.rG (gI.pI _ _ _ H'.vals (Rep.keep _ ⟨λ_ _ _=>rfl,λ_ _ h=>h,Nat.le_refl _,λb l h=>by simp[iU] at h⟩ _ hr)),⟨λ_ _ _=>rfl,λk _=>h3 k,Nat.le_refl _,oq.refl _⟩⟩
  exact fK
  exact fK
 | tP t=>
  simp only[cv1]
  split
  rename_i b c hp
  split
  rename_i ro row U
  split
  rename_i pr hpur;obtain⟨Y',H1,hfr,hY⟩:=H.freeze U (x':=.var true row) (.inl ⟨ro,row,rfl,rfl⟩);refine⟨Y',σ,H1.rG (gI.pI _ _ _ H1.vals ?_),⟨λ_ _ _=>rfl,λk _=>hY k,Nat.le_refl _,oq.refl _⟩⟩;have hg:=H1.vals.get _ _ t;rw[hp] at hg;unfold Rep at hg |-;obtain⟨l,hs,ev⟩:=hg;have hB:=gW.yR H1 (lk:=jk (oH E.st b (some (.var true row)))) (λ_ _ h=>h) eX hs;have hlt:=hB.lt;unfold gW at hB;obtain⟨us,hr,hcell⟩:=hB.2.2.2.1.vals;have hr':=U9 _ _ _ hpur hr;have hrc:=(jo.Jz row us l.co hr' hcell).drop c _ _;exact⟨l.cb,l.co+c,ev,⟨hlt,hfr l hs⟩,by rw[yP];exact hrc⟩
  exact fK
  exact fK
  exact fK
 | cF b c=>
  simp only[cv1]
  split
  rename_i ro row I
  split
  rename_i J r m hp
  split
  rename_i ro' sz rows U;obtain⟨Y',H1,hfr,hY⟩:=H.freeze U (.inr ⟨ro',sz,rows,rfl,rfl⟩);refine⟨Y',σ,H1.PU λd=>?_,⟨λ_ _ _=>rfl,λk _=>hY k,Nat.le_refl _,oq.refl _⟩⟩;have hne:¬ J=b:=by intro e;rw[e,I] at U;cases U
  rw[iQ]
  by_cases h2:b=d
  subst h2;refine .inr ⟨ro,row,nY row c (.sl sz ((iW.jI P T').sub rows r m) false),by rw[iQ,if_neg hne];exact I,by rw[if_pos rfl],by simp[rM],λcb o h=>jo.pI _ _ _ (λv hv=>?_) h⟩;rw[hp] at hv;have hb' : jk (oH E.st J (some (.arr true sz rows))) J=some (.arr true sz rows):=by rw[iQ,if_pos rfl]
  obtain⟨x,cap,ev,hn,hl,hr⟩:=G9 hv (H1.store.blk J _ hb');show Rep w Y' σ (.sl sz ((rows.drop r).take m) false) _;unfold Rep;refine⟨x,m,cap,ev,hl,hn,(λh=>by cases h),hr.imp id λ⟨b2,o,e,hlt,⟨l,g,e2⟩,hR⟩=>⟨b2,o,e,⟨hlt,by rw[e2];exact hfr l g⟩,hR⟩⟩
  exact .inl (by rw[if_neg h2])
  exact fK
  exact fK
  exact fK
 | cR b c=>
  simp only[cv1]
  split
  rename_i row I
  split
  rename_i J r m hp
  split
  rename_i sz rows U
  obtain⟨l,hl,hB⟩:∃ l,σ b=some l/\gW w Y σ l (.var false row):=by
   rcases H.store.blk b _ I with h|⟨_,h⟩
   exact h
   cases h
  have hB0:=hB;unfold gW at hB;obtain⟨hat,hsz,htot,hrow,hY,hY'⟩:=hB
  have hc:c<row.length:=by
   by_cases hh:c<row.length
   exact hh
   rw[xW (Nat.le_of_not_lt hh)] at hp;cases hp
  obtain⟨v,hv1,hv2⟩:=jo.get row _ c hrow hc;rw[hp] at hv2;obtain⟨σ',H1,h1,k1⟩:=H.abd U hv2;have hne:¬ J=b:=by intro e;rw[e,I] at U;cases U
  have hnx:¬ E.next=b:=by
   intro e;rw[H.next b ah] at hl;cases hl
  have hbv1:jk (oH (oH E.st J none) E.next (some (.arr false sz ((rows.drop r).take m)))) b=some (.var false row):=by
   rw[iQ,if_neg hnx,iQ,if_neg hne];exact I
  refine⟨Y,σ',H1.update hbv1 (k1 _ _ hl) (hY rfl) rfl rfl rfl rfl (λ_ _=>rfl) (λ_ _ h=>by cases h) (λ_=>?_),Keep.same k1⟩
  obtain⟨l2,g,hB2⟩:∃ l,σ' b=some l/\gW w Y σ' l (.var false row):=by
   rcases H1.store.blk b _ hbv1 with h|⟨_,h⟩
   exact h
   cases h
  rw[k1 _ _ hl] at g;cases g;unfold gW at hB2 |-;obtain⟨g1,g2,g3,g4,g5,g6⟩:=hB2;refine⟨g1,by rw[g2];simp[rM],by simpa [rM] using g3,?_,g5,g6⟩;rw[jo.iff] at g4 |-;intro i p hi;rw[rM] at hi
  by_cases hic:i=c
  subst hic;rw[List.getElem?_set_self hc] at hi;cases hi;exact⟨v,hv1,h1⟩
  rw[List.getElem?_set_ne ah] at hi;exact g4 i p hi
  exact fK
  exact fK
  exact fK
theorem abj {P:Program}{T T' : Tab}{C:Ctx T}{w:World}{vs:List Value}:∀ (l:List Cv) (E:Env) {Y:Nat->Prop} {σ:Sg},SW C w Y σ E.tmps vs E.st E.next->∃ Y' σ',SW C w Y' σ' (Jv (iW.jI P T') l E).tmps vs (Jv (iW.jI P T') l E).st (Jv (iW.jI P T') l E).next/\Keep w w Y Y' σ σ'
 | [],E,Y,σ,H=>⟨Y,σ,H,Keep.same (oq.refl _)⟩
 | c::l,E,Y,σ,H=>by
  obtain⟨Y1,g,H1,k1⟩:=aeS (P:=P) (T':=T') c E H;obtain⟨I,U,J,k2⟩:=abj (P:=P) (T':=T') l _ H1;exact⟨I,U,J,k1.abe k2⟩
theorem acA {P:Program}{T T' : Tab}(c:Cv)(E:Env):Ent T E (cv1 (iW.jI P T') c E):=by
 intro C a w hA;obtain⟨⟨Y,σ,H⟩,U⟩:=hA;obtain⟨Y',σ',H',_⟩:=aeS (P:=P) (T':=T') c E H;exact⟨⟨Y',σ',H'⟩,U⟩
theorem AP {P:Program}{T T' : Tab}:∀ (l:List Cv) (E:Env),Ent T E (Jv (iW.jI P T') l E)
 | [],E=>Ent.refl E
 | c::l,E=>λC a w h=>AP l _ C a w (acA c E C a w h)
def agz:Nat->Nat->List (Nat×PV)->List PV
 | _,0,_=>[]
 | i,n+1,[]=>.top::agz (i+1) n []
 | i,n+1,(k,v)::l=>bif Nat.beq k i then v::agz (i+1) n l else .top::agz (i+1) n ((k,v)::l)
theorem Ent.trans {T:Tab}{E F G:Env}(h:Ent T E F)(k:Ent T F G):Ent T E G:=λC a w x=>k C a w (h C a w x)
section
variable {P:Program}{T:Tab}(hT:jq P T)(hW:Ci P){S:iW}(hS:S=iW.jI P T)
include hT hW hS
theorem aeT (n:Nat){b:Code}{Q:Post}{E:Env}(h:aeQ T S b Q n E):S.loop b Q E:=by
 subst hS;intro C a w hA;exact wp_loop_rounds n (U8 hT hW n E h C a w hA)
end
end Go.Pv
namespace Go.Pv
open Go
mutual
inductive Shp (P:Program):TypeId->List PV->Prop
 | int {t:TypeId} {k:IntKind} {n:Int}:P.underlying t=some (.int k)->(Lit.int k n).wf=true->Shp P t [.si k n]
 | bool {t:TypeId} {b:Bool}:P.underlying t=some .bool->Shp P t [.sb b]
 | str {t:TypeId} {s:ByteArray}:P.underlying t=some .string->s.size<=maxLen->Shp P t [.str s]
 | GU {t e:TypeId}:P.underlying t=some (.pointer e)->Shp P t [.GU]
 | pp {t e:TypeId} {cs:List PV}:P.underlying t=some (.pointer e)->Shp P e cs->Shp P t [.pp cs]
 | sl {t e:TypeId} {es:List (List PV)}:P.underlying t=some (.slice e)->(∀ r∈es,Shp P e r)->es.length<=maxLen->Shp P t [.sl (P.cellsOf e) es false]
 | struct {t:TypeId} {fs:Array Field} {cs:List PV}:P.underlying t=some (.struct fs)->Le P (fs.toList.map (·.type)) cs->Shp P t cs
 | arr {t e:TypeId} {n:Nat} {cs:List PV}:P.underlying t=some (.array n e)->Le P (List.replicate n e) cs->Shp P t cs
inductive Le (P:Program):List TypeId->List PV->Prop
 | nil:Le P [] []
 | cons {t:TypeId} {ts:List TypeId} {a b:List PV}:Shp P t a->Le P ts b->Le P (t::ts) (a++b)
end
def Va (P:Program)(ts:List TypeId):List Field->Nat->Option Nat
 | [],n=>some n
 | f::fs,n=>bif Nat.beq f.offset n&&ts.contains f.type then Va P ts fs (n+P.cellsOf f.type) else none
def agA (P:Program)(ts:List TypeId)(t:TypeId):Bool :=
 match P.underlying t with
 | some .bool|some (.int _)|some .string=>Nat.beq (P.cellsOf t) 1
 | some (.pointer e)=>Nat.beq (P.cellsOf t) 1&&Nat.blt 0 (P.cellsOf e)&&ts.contains e
 | some (.slice e)=>Nat.beq (P.cellsOf t) 1&&Nat.blt 0 (P.cellsOf e)&&ts.contains e
 | some (.struct fs)=>match Va P ts fs.toList 0 with|some n=>Nat.beq n (P.cellsOf t)|none=>false
 | some (.array n e)=>Nat.beq (P.cellsOf t) (n*P.cellsOf e)&&ts.contains e
 | _=>false
def layAll (P:Program)(ts:List TypeId):List TypeId->Bool
 | []=>true
 | t::l=>agA P ts t&&layAll P ts l
theorem Lh {P:Program}{ts:List TypeId}:∀ (l:List TypeId),layAll P ts l=true->∀ t∈l,agA P ts t=true
 | [],_,t,h=>by simp at h
 | u::l,h,t,ht=>by
  simp only[layAll,Bool.and_eq_true] at h;rcases List.mem_cons.1 ht with rfl|ht
  exact h.1
  exact Lh l h.2 t ht
section
variable {H:Type}{enc:TypeId×Value->H}{P:Program}{w:World}{base:Nat}{sp:Nat->Bool}{held:Bool}
def NoY:Nat->Prop:=λ_=>False
theorem Lj:∀ (a b:List PV),iT a=true->iT b=true->iT (a++b)=true
 | [],b,_,h=>by simpa using h
 | x::a,b,h,k=>by
  simp only[iT,Bool.and_eq_true,List.cons_append] at h |-;exact⟨h.1,Lj a b h.2 k⟩
mutual
theorem Shp.cells {t:TypeId}{cs:List PV}:Shp P t cs->iT cs=true
 | .int _ _=>rfl
 | .bool _=>rfl
 | .str _ _=>rfl
 | .GU _=>rfl
 | .pp _ _=>rfl
 | .sl _ _ _=>rfl
 | .struct _ h=>Le.cells h
 | .arr _ h=>Le.cells h
theorem Le.cells {ts:List TypeId}{cs:List PV}:Le P ts cs->iT cs=true
 | .nil=>rfl
 | .cons h k=>Lj _ _ (Shp.cells h) (Le.cells k)
end
theorem gI.append {Y:Nat->Prop}{σ:Sg}{a b:List PV}{vs us:List Value}(h:gI w Y σ a vs)(k:gI w Y σ b us):gI w Y σ (a++b) (vs++us):=by
 have:=gI.app a b vs us h k
 rwa [XF] at this
theorem X6 {a:Addr}{v:Value}(h:w.cell? a=some v):a.spot=none:=by
 unfold World.cell? at h
 split at h
 split at h
 cases h
 rename_i hs
 cases hh:a.spot with
 | none=>rfl
 | some s=>rw[hh] at hs;simp at hs
 cases h
theorem PW {b:Nat}{o:Nat}{n:Nat}{vs:List Value}{ps:List PV}(hc:w.cells? base ⟨b,o,none⟩ n=some vs)(hr:gI w NoY iU ps vs):jo w NoY iU b ps o:=by
 obtain⟨_,hl,U⟩:=World.cells?_some hc;refine jo.Jz _ _ _ hr λi v hv=>?_
 have hi:i<n:=by
  rw[<- hl]
  by_cases h:i<vs.length
  exact h
  rw[List.getElem?_eq_none (Nat.le_of_not_lt h)] at hv;cases hv
 have:=U i hi;rw[hv] at this;unfold Addr.add at this
 by_cases h0:i=0
 subst h0;simpa using this
 rw[if_neg h0] at this;exact this
theorem adp {a:Addr}(h:a.spot=none)(n:Nat):a.add n=⟨a.block,a.off+n,none⟩:=by
 unfold Addr.add
 by_cases h0:n=0
 subst h0;simp;cases a;simp at h;simp[h]
 rw[if_neg h0]
theorem Vb {a:Addr}{n:Nat}{vs:List Value}(hn:0<n)(h:w.cells? base a n=some vs):a.spot=none/\a.block<w.heap.size:=by
 obtain⟨_,hl,J⟩:=World.cells?_some h;have h0:=J 0 hn;have:vs[0]?=some vs[0]:=List.getElem?_eq_getElem ah;rw[this] at h0;have T:a.add 0=a:=by simp[Addr.add]
 rw[T] at h0;refine⟨X6 h0,?_⟩;unfold World.cell? at h0
 by_cases U:a.block<w.heap.size
 exact U
 simp[Array.getElem?_eq_none (Nat.le_of_not_lt U)] at h0
inductive ZV (P:Program) (t:TypeId):PV->Prop
 | one {p:PV}:Shp P t [p]->lK P t=false->ZV P t p
 | agg {cs:List PV}:Shp P t cs->lK P t=true->ZV P t (.agg cs)
end
end Go.Pv
namespace Go.Pv
open Go
inductive SV (P:Program):List TypeId->List PV->Prop
 | nil:SV P [] []
 | cons {t:TypeId} {ts:List TypeId} {p:PV} {ps:List PV}:ZV P t p->SV P ts ps->SV P (t::ts) (p::ps)
section
variable {H:Type}{enc:TypeId×Value->H}{P:Program}{w:World}{base:Nat}{sp:Nat->Bool}{held:Bool}
theorem WX {W J : World}(hl:laidOutB P=true)(T:RowKit.Below W.heap.size W J):∀ (params:List TypeId) (vs:List Value) (U:List (DataW H)) (pl:List MemPlace),(∀ t∈params,P.readableRec t=true/\t<P.types.size) ->
  (∀ x∈pl,x.block<W.heap.size)->DataW.TrodAll enc P W 0 (λ_=>true) true params vs U pl->DataW.TrodAll enc P J 0 (λb=>decide (b<W.heap.size)) true params vs U pl
 | [],[],[],_,_,_,h=>h
 | t::params,v::vs,d::U,pl,hm,hlt,h=>by
  obtain⟨p,q,h1,h2,e⟩:=h;subst e;exact⟨p,q,RowKit.Below.trod hl (hm t aC).1 (hm t aC).2 h1 T (λx hx=>hlt x (by simp[hx])),WX hl T params vs U q (λt ht=>hm t (by simp[ht])) (λx hx=>hlt x (by simp[hx])) h2,rfl⟩
 | [],_::_,_,_,_,_,h=>h.elim
 | [],[],_::_,_,_,_,h=>h.elim
 | _::_,[],_,_,_,_,h=>h.elim
 | _::_,_::_,[],_,_,_,h=>h.elim
def aiF (P:Program)(ts params:List TypeId):Bool:=laidOutB P&&layAll P ts ts&&params.all λt=>ts.contains t&&P.readableRec t&&Nat.blt t P.types.size
end
section
variable {P:Program}{t e:TypeId}{cs:List PV}{p:PV}
theorem Shp.X7 {k:IntKind}(hu:P.underlying t=some (.int k))(h:Shp P t cs):∃ n,cs=[.si k n]/\(Lit.int k n).wf=true:=by
 cases h with
 | int h1 h2=>rw[hu] at h1;cases h1;exact⟨_,rfl,h2⟩
 | _=>simp_all
theorem Shp.ZW (hu:P.underlying t=some .bool)(h:Shp P t cs):∃ b,cs=[.sb b]:=by
 cases h with
 | bool h1=>exact⟨_,rfl⟩
 | _=>simp_all
theorem Shp.acB (hu:P.underlying t=some .string)(h:Shp P t cs):∃ s,cs=[.str s]/\s.size<=maxLen:=by
 cases h with
 | str h1 h2=>exact⟨_,rfl,h2⟩
 | _=>simp_all
theorem Shp.qy (hu:P.underlying t=some (.slice e))(h:Shp P t cs):∃ U,cs=[.sl (P.cellsOf e) U false]/\(∀ r∈U,Shp P e r)/\U.length<=maxLen:=by
 cases h with
 | sl h1 h2 T=>rw[hu] at h1;cases h1;exact⟨_,rfl,h2,T⟩
 | _=>simp_all
theorem Shp.kY {U:Array Field}(hu:P.underlying t=some (.struct U))(h:Shp P t cs):Le P (U.toList.map (·.type)) cs:=by
 cases h with
 | struct h1 h2=>rw[hu] at h1;cases h1;exact h2
 | _=>simp_all
theorem Shp.Ub {n:Nat}(hu:P.underlying t=some (.array n e))(h:Shp P t cs):Le P (List.replicate n e) cs:=by
 cases h with
 | arr h1 h2=>rw[hu] at h1;cases h1;exact h2
 | _=>simp_all
theorem Le.FO {ts:List TypeId}(h:Le P (t::ts) cs):∃ a b,cs=a++b/\Shp P t a/\Le P ts b:=by
 cases h with
 | cons h1 h2=>exact⟨_,_,rfl,h1,h2⟩
theorem Le.nH (h:Le P [] cs):cs=[]:=by cases h;rfl
theorem ZV.acC (U:lK P t=true)(h:ZV P t p):∃ cs,p=.agg cs/\Shp P t cs:=by
 cases h with
 | one h1 h2=>rw[U] at h2;cases h2
 | agg h1 h2=>exact⟨_,rfl,h1⟩
theorem ZV.inv_one (U:lK P t=false)(h:ZV P t p):Shp P t [p]:=by
 cases h with
 | one h1 h2=>exact h1
 | agg h1 h2=>rw[U] at h2;cases h2
theorem SV.FO {ts:List TypeId}{ps:List PV}(h:SV P (t::ts) ps):∃ a b,ps=a::b/\ZV P t a/\SV P ts b:=by
 cases h with
 | cons h1 h2=>exact⟨_,_,rfl,h1,h2⟩
theorem SV.nH {ps:List PV}(h:SV P [] ps):ps=[]:=by cases h;rfl
end
end Go.Pv
namespace Go.Pv
open Go
section
variable {α β σ ρ:Type}
def br (c:Bool)(a b:Option ρ):Option ρ:=match c with|true=>a|false=>b
def bnd (o:Option α)(k:α->Option ρ):Option ρ:=match o with|none=>none|some x=>k x
def lt (x:α)(k:α->Option ρ):Option ρ:=k x
def jn (rest:σ->Option ρ)(body:(σ->Option ρ)->Option ρ):Option ρ:=body rest
def jv (step:σ->(σ->Option ρ)->Option ρ):Nat->σ->Option ρ
 | 0,_=>none
 | n+1,s=>step s (jv step n)
def fuel:Nat:=18446744073709551616
def gK (step:σ->(σ->Option ρ)->Option ρ)(s:σ):Option ρ:=jv step fuel s
def lJ (n:Nat):Int->Option Nat
 | .ofNat j=>bif Nat.blt j n then some j else none
 | .negSucc _=>none
def jl (l:List α):Int->Option α
 | .ofNat j=>l[j]?
 | .negSucc _=>none
def gJ (l:List α):Int:=(l.length:Int)
def aaJ (l:List α)(r:Nat)(new:List α):List α:=l.take r++new++l.drop (r+new.length)
def Um (l:List α)(r n:Nat):List α:=(l.drop r).take n
def iq (a b:Int):Int:=nC .add .i64 a b
def qI (a b:Int):Int:=nC .sub .i64 a b
def X8 (a b:Int):Int:=nC .mul .i64 a b
def kF (n bytes:Nat)(k:Option ρ):Option ρ:=bif Nat.ble ((2*n+192)*bytes) 140737488355328&&Nat.ble n 4611686018427387904 then k else none
def divO (op:BinOp)(k:IntKind)(a b:Int):Option Int:=bif decide (b=0) then none else some (match op with|.quo=>k.wrap (a.tdiv b)|_=>a.tmod b)
def kT (op:BinOp)(k:IntKind)(a y:Int):Option Int:=bif decide (0<=y) then some (match op with|.shl=>k.wrap (a*2 ^ (min y.toNat k.bits))|_=>a.fdiv (2 ^ (min y.toNat k.bits))) else none
def jL (a b:ByteArray):Option ByteArray:=bif Nat.ble (a.size+b.size) 4611686018427387904 then some (a++b) else none
def kN (s:ByteArray):Int->Option Int
 | .ofNat j=>match s[j]? with|some c=>some (c.toNat:Int)|none=>none
 | .negSucc _=>none
def kP (n m:Int)(bytes:Nat):Option Nat:=bif decide (0<=n/\n<=m/\(bytes:Int)*m<=140737488355328/\m<=9223372036854775807) then some n.toNat else none
structure aiG (n:Nat)(x:Nat×Nat):Prop where
 le:x.1<=x.2
 lt:x.2<=n
def lI (len:Nat)(a b:Int):Option (Nat×Nat):=bif decide (0<=a/\a<=b/\b<=(len:Int)) then some (a.toNat,b.toNat) else none
def lS (s:ByteArray)(a b:Int):Option ByteArray:=bif decide (0<=a/\a<=b/\b<=(s.size:Int)) then some (s.extract a.toNat b.toNat) else none
def bs (l:List UInt8):ByteArray:=⟨l.toArray⟩
def qE (i:Int)(n:Nat)(k:Nat->Option ρ):Option ρ:=match i with|.ofNat j=>(bif Nat.blt j n then k j else none)|.negSucc _=>none
def rD (a b:Option ρ):Option ρ:=match a with|_=>b
def X9 (b:ByteArray):List Int:=b.data.toList.map λc=>(c.toNat:Int)
def lM (l:List Int):Option ByteArray:=bif l.all (λn=>decide (0<=n/\n<256)) then some ⟨(l.map λn=>UInt8.ofNat n.toNat).toArray⟩ else none
end
structure Arr2 (α:Type) where
 a0:α
 a1:α
structure NK (α:Type) where
 a0:α
 a1:α
 a2:α
structure abk (α:Type) where
 a0:α
 a1:α
 a2:α
 a3:α
 a4:α
structure Rt (α:Type) where
 a0:α
 a1:α
 a2:α
 a3:α
 a4:α
 a5:α
def ahG:Arr2 Int:=⟨0,0⟩
def Ll:NK Int:=⟨0,0,0⟩
def aeU:abk Int:=⟨0,0,0,0,0⟩
def Vd:Rt Int:=⟨0,0,0,0,0,0⟩
structure iG where
 m:(α:Type)->(α->List PV)->List α->List (List PV)
 n:(α:Type)->List α->Nat
 h:(Nat->Hdr)->(α:Type)->(Hdr->α->List PV)->List α->List (List PV)
 up:(Nat->Hdr)->Nat->Hdr->Nat->Hdr
def IE {α:Type}(H:Nat->Hdr)(e:Hdr->α->List PV)(l:List α):List (List PV):=l.mapIdx λi x=>e (H i) x
def upH (H:Nat->Hdr)(j:Nat)(h:Hdr):Nat->Hdr:=λi=>bif Nat.beq i j then h else H i
def kX:iG:=⟨λ_ e l=>l.map e,λ_ l=>l.length,λH _ e l=>IE H e l,upH⟩
def eI (k:IntKind)(x:Int):List PV:=[.si k x]
def eB (x:Bool):List PV:=[.sb x]
def eS (x:ByteArray):List PV:=[.str x]
def eL {α:Type}(M:iG)(sz:Nat)(e:α->List PV)(x:List α):List PV:=[.sl sz (M.m α e x) false]
def aiH {α:Type}(e:α->List PV)(x:NK α):List PV:=e x.a0++(e x.a1++e x.a2)
def aiI {α:Type}(e:α->List PV)(x:abk α):List PV:=e x.a0++(e x.a1++(e x.a2++(e x.a3++e x.a4)))
def aiJ {α:Type}(e:α->List PV)(x:Rt α):List PV:=e x.a0++(e x.a1++(e x.a2++(e x.a3++(e x.a4++e x.a5))))
def eKV {α:Type}(e:α->List PV)(x:Int×α):List PV:=.si .i64 x.1::e x.2
def F6 {α:Type}:List (Int×α)->Int->Option α
 | [],_=>none
 | (k,v)::l,n=>if k=n then some v else F6 l n
def PX {α:Type}:List (Int×α)->Int->α->List (Int×α)
 | [],n,v=>[(n,v)]
 | (k,w)::l,n,v=>if k=n then(n,v)::l else(k,w)::PX l n v
def uo {α ρ:Type}(l:List (Int×α))(n:Int)(z:α)(k:α->Bool->Option ρ):Option ρ:=match F6 l n with|some v=>k v true|none=>k z false
theorem WY {α:Type}(e:α->List PV)(n:Int):∀ l:List (Int×α),BX (l.map (eKV e)) n=(F6 l n).map e
 | []=>rfl
 | (k,v)::l=>by
  by_cases h:k=n
  simp[eKV,BX,F6,h]
  simp[eKV,BX,F6,h,WY e n l]
theorem ZX {α:Type}(e:α->List PV)(n:Int)(x:α):∀ l:List (Int×α),QZ (l.map (eKV e)) n (e x)=(PX l n x).map (eKV e)
 | []=>rfl
 | (k,v)::l=>by
  by_cases h:k=n
  simp[eKV,QZ,PX,h]
  simp[eKV,QZ,PX,h];exact ZX e n x l
def eO {α:Type}(M:iG)(sz:Nat)(e:α->List PV)(h:Hdr)(x:List α):List PV:=[.ow h sz (M.m α e x)]
section
variable {P:Program}{T:Tab}{S:iW}{M:iG}(hS:S=iW.jI P T)
abbrev SF (M:iG) (S:iW):Prop :=
  S.bin=nC/\S.cmp=Ap/\(∀ k n,S.conv k n=k.wrap n)/\(∀ k n,S.neg k n=k.wrap (0-n))/\(∀ a b,S.beq a b=(a==b))/\(∀ a b,S.band a b=(a&&b))/\S.afY=jc /\
  (∀ s,S.slen s=(s.size:Int))/\(∀ n:Nat,S.yO n=(n:Int))/\(∀ a b:Nat,S.NJ a b=a+b)/\(∀ a b:Nat,S.Zh a b=a-b)/\(∀ n:Nat,0+n=n)/\(∀ a,S.app [] a=a) /\
  (∀ (α:Type) (e:α->List PV) (l:List α),S.len (M.m α e l)=gJ l)/\(∀ (α:Type) (e:α->List PV) (l:List α),S.gZ (M.m α e l)=l.length)/\(∀ (α:Type) (l:List α),M.n α l=l.length) /\
  (∀ rows n,S.gZ rows=n->S.sub rows 0 n=rows)/\S.len []=0/\(∀ (α:Type) (l:List α),gJ l=(l.length:Int)) /\
  S.ahf=(λa b=>if b<a then b else a)/\S.ahg=(λa b=>if a<b then b else a) /\
  (∀ a b,S.gZ (S.app a b)=S.gZ a+S.gZ b)/\(∀ a j r,S.gZ (S.Oc a j r)=S.gZ a)/\(∀ n r,S.gZ (S.rep n r)=n)/\S.gZ []=0/\(∀ r rows,S.gZ (r::rows)=S.gZ rows+1) /\
  (∀ (α:Type) (e:α->List PV),M.m α e []=[])/\(∀ (α:Type) (e:α->List PV) (x:α) (l:List α),M.m α e (x::l)=e x::M.m α e l) /\
  (∀ (α:Type) (e:α->List PV) (a b:List α),M.m α e (a++b)=S.app (M.m α e a) (M.m α e b)) /\
  (∀ (α:Type) (e:α->List PV) (l:List α) (r n:Nat),M.m α e (Um l r n)=S.sub (M.m α e l) r n) /\
  (∀ (α:Type) (e:α->List PV) (l:List α) (r:Nat) (new:List α),M.m α e (aaJ l r new)=S.spl (M.m α e l) r (M.m α e new)) /\
  (∀ (α:Type) (e:α->List PV) (l:List α) (j:Nat) (x:α),M.m α e (l.set j x)=S.Oc (M.m α e l) j (e x)) /\
  (∀ (α:Type) (e:α->List PV) (n:Nat) (x:α),M.m α e (List.replicate n x)=S.rep n (e x)) /\
  (∀ (α:Type) (a b:List α),(a++b).length=a.length+b.length)/\(∀ (α:Type) (l:List α) (j:Nat) (x:α),(l.set j x).length=l.length) /\
  (∀ (α:Type) (n:Nat) (x:α),(List.replicate n x).length=n)/\(∀ (α:Type) (x:α) (l:List α),(x::l).length=l.length+1)/\(∀ (α:Type),([]:List α).length=0) /\
  (∀ (α:Type) (e:α->List PV) (l:List α) (r n:Nat),S.len (S.sub (M.m α e l) r n)=((Um l r n).length:Int))/\(∀ (α:Type) (e:α->List PV) (l:List α) (r n:Nat),S.gZ (S.sub (M.m α e l) r n)=(Um l r n).length) /\
  (∀ (α:Type) (e:α->List PV) (l:List (Int×α)) (n:Int) (x:α),M.m (Int×α) (eKV e) (PX l n x)=S.afZ (M.m (Int×α) (eKV e) l) n (e x))
theorem sf (hM:M=kX)(hS:S=iW.jI P T):SF M S:=by
 subst hS hM;refine⟨rfl,rfl,?_⟩
 have h:∀ (α:Type) (e:α->List PV) (l:List α),List.take l.length (List.map e l)=List.map e l:=by
  intro α e l;rw[List.take_of_length_le aC]
 have h2:∀ (rows:List (List PV)) (n:Nat),rows.length=n->(rows.drop 0).take n=rows:=by
  intro rows n e;subst e;simp
 refine⟨λ_ _=>rfl,λ_ _=>rfl,λ_ _=>rfl,λ_ _=>rfl,rfl,λ_=>rfl,λ_=>rfl,λ_ _=>rfl,λ_ _=>rfl,λn=>Nat.zero_add n,λ_=>rfl,?_,?_,?_,h2,rfl,λ_ _=>rfl,rfl,?_,?_⟩
 simp[iW.jI,kX,gJ]
 simp[iW.jI,kX]
 simp[kX]
 rfl
 refine⟨?_,?_,?_,?_,?_,?_,?_,?_,?_,?_,?_,?_,?_,?_,?_,?_,?_,?_,?_,λα e l n x=>(ZX e n x l).symm⟩<;>simp[iW.jI,kX,Um,aaJ,List.map_take,List.map_drop,List.map_set]
theorem aiK (hM:M=kX)(hS:S=iW.jI P T) :
  (∀ (H:Nat->Hdr) (α:Type) (e:Hdr->α->List PV) (l:List α) (j:Nat) (h:Hdr) (x:α),M.h (M.up H j h) α e (l.set j x)=S.Oc (M.h H α e l) j (e h x)) /\
  (∀ (α:Type) (e:Hdr->α->List PV) (h:Hdr) (n:Nat) (x:α),M.h (λ_=>h) α e (List.replicate n x)=S.rep n (e h x)) /\
  (∀ (H:Nat->Hdr) (α:Type) (e:Hdr->α->List PV) (l:List α) (h:Hdr) (x:α),M.h (M.up H l.length h) α e (l++[x])=S.app (M.h H α e l) [e h x]):=by
 subst hS hM;refine⟨λH α e l j h x=>?_,λα e h n x=>?_,λH α e l h x=>?_⟩
 show IE (upH H j h) e _=(IE H e l).set j _;unfold IE;apply List.ext_getElem?;intro i;simp only[List.getElem?_mapIdx,List.getElem?_set,List.length_mapIdx]
 by_cases U:j=i
 subst U
 by_cases hl:j<l.length<;>simp[hl,upH]
 have:Nat.beq i j=false:=by cases J:Nat.beq i j with|false=>rfl|true=>exact absurd (Nat.eq_of_beq_eq_true J).symm U
 simp[U,upH,this]
 show IE _ e _=List.replicate n _;unfold IE;apply List.ext_getElem?;intro i;simp only[List.getElem?_mapIdx,List.getElem?_replicate]
 by_cases hi:i<n<;>simp[hi]
 show IE (upH H l.length h) e (l++[x])=IE H e l++[e h x];unfold IE;rw[List.mapIdx_append]
 congr 1
 apply List.ext_getElem?;intro i;simp only[List.getElem?_mapIdx]
 by_cases hi:i<l.length
 have:Nat.beq i l.length=false:=by cases J:Nat.beq i l.length with|false=>rfl|true=>exact absurd (Nat.eq_of_beq_eq_true J) ah
 simp[upH,this]
 simp[List.getElem?_eq_none (Nat.le_of_not_lt hi)]
 simp[upH]
theorem aiL (hM:M=kX)(hS:S=iW.jI P T) :
  (∀ (H:Nat->Hdr) (α:Type) (e:Hdr->α->List PV) (l:List α) (j:Nat) (x:α),M.h H α e (l.set j x)=S.Oc (M.h H α e l) j (e (H j) x)) /\
  (∀ (H:Nat->Hdr) (α:Type) (e:Hdr->α->List PV) (l:List α),S.gZ (M.h H α e l)=l.length) /\
  (∀ (H:Nat->Hdr) (α:Type) (e:Hdr->α->List PV) (l:List α),S.sub (M.h H α e l) 0 l.length=M.h H α e l) /\
  (∀ (H:Nat->Hdr) (α:Type) (e:α->List PV) (sz:Nat) (l:List (List α)),S.fz (M.h H (List α) (eO M sz e) l)=M.m (List α) (eL M sz e) l) /\
  (∀ (H:Nat->Hdr) (α:Type) (e:Hdr->α->List PV),M.h H α e []=[]):=by
 subst hS hM;refine⟨λH α e l j x=>?_,λH α e l=>?_,λH α e l=>?_,λH α e sz l=>?_,λ_ _ _=>rfl⟩
 show IE _ e _=(IE H e l).set j _;unfold IE;apply List.ext_getElem?;intro i;simp only[List.getElem?_mapIdx,List.getElem?_set,List.length_mapIdx]
 by_cases U:j=i
 subst U
 by_cases hl:j<l.length<;>simp[hl]
 simp[U]
 show(IE H e l).length=_;simp[IE]
 show((IE H e l).drop 0).take l.length=IE H e l;rw[List.drop_zero,List.take_of_length_le (by simp[IE])]
 show(IE H _ l).map _=l.map _;unfold IE;apply List.ext_getElem?;intro i;simp only[List.getElem?_mapIdx,List.getElem?_map];cases l[i]?<;>rfl
mutual
inductive LeP:PV->PV->Prop
 | nil (z0:Nat) (f:Bool) (z:Nat):LeP (.sl z0 [] f) (.sl z [] false)
 | int (k:IntKind) (n:Int):LeP (.int k n) (.si k n)
 | bool (b:Bool):LeP (.bool b) (.sb b)
 | agg (ps qs:List PV):Hg ps qs->LeP (.agg ps) (.agg qs)
 | DJ (ps qs:List PV):Hg ps qs->LeP (.DJ ps) (.DJ qs)
 | rows (z:Nat) (f:Bool) (es es' : List (List PV)):LeR es es'->LeP (.sl z es f) (.sl z es' false)
 | refl (p:PV):LeP p p
inductive Hg:List PV->List PV->Prop
 | nil:Hg [] []
 | cons (p q:PV) (ps qs:List PV):LeP p q->Hg ps qs->Hg (p::ps) (q::qs)
inductive LeR:List (List PV)->List (List PV)->Prop
 | same (es:List (List PV)):LeR es es
 | cons (r q:List PV) (rs qs:List (List PV)):Hg r q->LeR rs qs->LeR (r::rs) (q::qs)
end
theorem Hg.len:∀ {ps qs:List PV},Hg ps qs->qs.length=ps.length
 | _,_,.nil=>rfl
 | _,_,.cons p q ps qs _ h=>by simp[h.len]
theorem LeR.len:∀ {ps qs:List (List PV)},LeR ps qs->qs.length=ps.length
 | _,_,.same _=>rfl
 | _,_,.cons p q ps qs _ h=>by simp[h.len]
theorem LeP.tu {p q:PV}(h:LeP p q):Pv.tu p=true->Pv.tu q=true:=by
 cases h<;>intro h<;>first|rfl|exact h|cases h
theorem Hg.iT:∀ {ps qs:List PV},Hg ps qs->Pv.iT ps=true->Pv.iT qs=true
 | _,_,.nil,h=>h
 | _,_,.cons p q ps qs h1 h2,h=>by
  simp only[Pv.iT,Bool.and_eq_true] at h |-;exact⟨h1.tu h.1,h2.iT h.2⟩
mutual
theorem LeP.rep {w:World}{Y:Nat->Prop}{σ:Sg}:∀ {p q:PV} (_:LeP p q) (v:Value),Rep w Y σ p v->Rep w Y σ q v
 | _,_,.nil z0 f z,v,h=>by
  unfold Rep at h |-;obtain⟨a,len,cap,e,hl,hc,_,_⟩:=h;exact⟨a,len,cap,e,hl,hc,(λh=>by cases h),.inl rfl⟩
 | _,_,.int k n,v,h=>by unfold Rep at h |-;exact h
 | _,_,.bool b,v,h=>by unfold Rep at h |-;exact h
 | _,_,.agg ps qs hl,v,h=>by
  unfold Rep at h |-;obtain⟨vs,e,h⟩:=h;exact⟨vs,e,hl.rep vs h⟩
 | _,_,.DJ ps qs hl,v,h=>by
  unfold Rep at h |-;obtain⟨vs,e,h⟩:=h;exact⟨vs,e,hl.rep vs h⟩
 | _,_,.rows z f es es' hr,v,h=>by
  unfold Rep at h |-;obtain⟨a,len,cap,e,hl,hc,_,h⟩:=h;refine⟨a,len,cap,e,by rw[hl,hr.len],hc,(λh=>by cases h),?_⟩;rcases h with h|⟨b,o,h1,h2,h3⟩
  refine .inl (List.length_eq_zero_iff.1 ?_);rw[hr.len,h];rfl
  exact .inr ⟨b,o,h1,h2,hr.aho o h3⟩
 | _,_,.refl p,v,h=>h
theorem Hg.rep {w:World}{Y:Nat->Prop}{σ:Sg}:∀ {ps qs:List PV} (_:Hg ps qs) (vs:List Value),gI w Y σ ps vs->gI w Y σ qs vs
 | _,_,.nil,vs,h=>h
 | _,_,.cons p q ps qs h1 h2,vs,h=>by
  unfold gI at h |-;obtain⟨v,U,e,T,J⟩:=h;exact⟨v,U,e,h1.rep v T,h2.rep U J⟩
theorem Hg.ahH {w:World}{Y:Nat->Prop}{σ:Sg}{cb:Nat}:∀ {ps qs:List PV} (_:Hg ps qs) (o:Nat),jo w Y σ cb ps o->jo w Y σ cb qs o
 | _,_,.nil,o,h=>h
 | _,_,.cons p q ps qs h1 h2,o,h=>by
  unfold jo at h |-;obtain⟨⟨v,U,T⟩,h5⟩:=h;exact⟨⟨v,U,h1.rep v T⟩,h2.ahH (o+1) h5⟩
theorem LeR.aho {w:World}{Y:Nat->Prop}{σ:Sg}{b sz:Nat}:∀ {ps qs:List (List PV)} (_:LeR ps qs) (o:Nat),jw w Y σ b sz ps o->jw w Y σ b sz qs o
 | _,_,.same _,o,h=>h
 | _,_,.cons p q ps qs h1 h2,o,h=>by
  unfold jw at h |-;obtain⟨⟨U,J⟩,h5,T⟩:=h;exact⟨⟨by rw[h1.len,U],h1.iT J⟩,h1.ahH o h5,h2.aho (o+sz) T⟩
end
theorem Fn.le {G:Nat->Option (List PV)}{k:Nat}{args U:List PV}{R:PV->Prop}(h:Fn P G k U R)(hl:Hg args U):Fn P G k args R :=
 λw Y vs J T hr=>h w Y vs J T (hl.rep _ hr)
theorem ais {i U r T a b:Nat}(h1:i=U)(h2:r=T)(h:a=b):LeP (.os i r a) (.os U T b):=by subst h1 h2 h;exact .refl _
theorem Ve {p q:PV}(h:p=q):LeP p q:=h ▸ .refl p
theorem aeV {P:Program}{T:Tab}(hT:jq P T)(hp:T.qf=0)(hW:Ci P){k:Nat}{fn:Func}{c:Code}(O:P.funcs[k]?=some fn)(g:fn.body=some c)
  (U:∀ args w,(callFunc k args).run P w=.ok (.enter k args) w) {args:List PV} {v:PV} {m:Nat} (I:fn.ntmps-args.length=m)
  (h:∀ S R,S=iW.jI P T->(∀ u,LeP u v->R u)->I4 T S c (af2 T S fn.results.toList R) ⟨vk args (sF m),[],0⟩) (hyl:T.yl=none:=by rfl):Fn P T.gl k args (λu=>u=v):=by
 have H:=abg hT hp hW O g U I (hyl:=hyl) (R:=λu=>LeP u v) λS hS=>h S _ hS λ_ h=>h;intro w Y J hG hY hr;obtain⟨h1,h2⟩:=H w Y J hG hY hr;refine⟨h1,Calls.mono h2 λe w' hh=>?_⟩;obtain⟨cv,u,C,hu,hv,hc⟩:=hh;exact⟨cv,v,C,rfl,hu.rep _ hv,hc⟩
theorem Hg.refl:∀ ps:List PV,Hg ps ps
 | []=>.nil
 | p::ps=>.cons _ _ _ _ (.refl p) (Hg.refl ps)
inductive LeB:Option mO->Option mO->Prop
 | var (ro:Bool) (row row' : List PV):Hg row row'->LeB (some (.var ro row)) (some (.var ro row'))
 | refl (x:Option mO):LeB x x
inductive LeS:St->St->Prop
 | nil:LeS [] []
 | cons (b:Nat) (x y:Option mO) (s t:St):LeB x y->LeS s t->LeS ((b,x)::s) ((b,y)::t)
theorem LeS.refl:∀ s:St,LeS s s
 | []=>.nil
 | (b,x)::s=>.cons b x x s s (.refl x) (LeS.refl s)
theorem LeS.look:∀ {s t:St} (_:LeS s t) (b:Nat),jk t b=jk s b\/∃ ro row U,jk s b=some (.var ro row)/\jk t b=some (.var ro U)/\Hg row U
 | _,_,.nil,b=>.inl rfl
 | _,_,.cons c x y s t h1 h2,b=>by
  simp only[jk]
  cases Nat.beq c b with
  | true=>
   cases h1 with
   | var ro row U h=>exact .inr ⟨ro,row,U,rfl,rfl,h⟩
   | refl x=>exact .inl rfl
  | false=>exact h2.look b
theorem LeS.PU {s t:St}(h:LeS s t)(w:World)(Y:Nat->Prop)(σ:Sg)(b:Nat):jk t b=jk s b\/∃ ro row U,jk s b=some (.var ro row)/\jk t b=some (.var ro U)/\U.length=row.length/\∀ cb o,jo w Y σ cb row o->jo w Y σ cb U o:=by
 rcases h.look b with e|⟨ro,row,U,e1,e2,e3⟩
 exact .inl e
 exact .inr ⟨ro,row,U,e1,e2,e3.len,λcb o=>e3.ahH o⟩
theorem LeS.rep {w:World}{Y:Nat->Prop}{σ:Sg}{s t:St}(h:LeS s t)(H:EE w Y σ s):EE w Y σ t:=by
 have U : ∀ b x,jk t b=some x->∃ y,jk s b=some y:=by
  intro b x hx;rcases h.look b with e|⟨ro,row,row',e1,e2,_⟩
  exact⟨x,by rw[<- e];exact hx⟩
  exact⟨_,e1⟩
 refine⟨λb x hx=>?_,λb C x x' l l' hx I hl T e=>?_⟩
 rcases h.PU w Y σ b with e|⟨ro,row,row',e1,e2,e3,e4⟩
 exact H.blk b x (by rw[<- e];exact hx)
 rw[e2] at hx;cases hx;rcases H.blk b _ e1 with ⟨l,hl,hB⟩|⟨_,hx⟩
 refine .inl ⟨l,hl,?_⟩;unfold gW at hB |-;exact⟨hB.1,by rw[e3];exact hB.2.1,by rw[e3];exact hB.2.2.1,e4 _ _ hB.2.2.2.1,hB.2.2.2.2⟩
 cases hx
 obtain⟨y,hy⟩:=U b x hx;obtain⟨g,J⟩:=U C x' I;exact H.inj b C y g l l' hy J hl T e
theorem LeS.ahI {σ:Sg}{s t:St}(h:LeS s t):Ed σ t=Ed σ s:=by
 funext k
 refine propext ⟨?_,?_⟩
 rintro⟨b,x,l,h1,h2⟩
 rcases h.look b with e|⟨ro,row,row',e1,e2,_⟩
 exact⟨b,x,l,by rw[<- e];exact h1,h2⟩
 exact⟨b,_,l,e1,h2⟩
 rintro⟨b,x,l,h1,h2⟩
 rcases h.look b with e|⟨ro,row,row',e1,e2,_⟩
 exact⟨b,x,l,by rw[e];exact h1,h2⟩
 exact⟨b,_,l,e2,h2⟩
theorem LeS.lY:∀ {s t:St} (_:LeS s t),Pv.lY s=true->Pv.lY t=true
 | _,_,.nil,h=>h
 | _,_,.cons b x y s t h1 h2,h=>by
  cases h1 with
  | var ro row U T=>simp only[Pv.lY] at h |-;exact h2.lY h
  | refl x=>
   cases x with
   | none=>simp only[Pv.lY] at h |-;exact h2.lY h
   | some x=>cases x<;>simp only[Pv.lY] at h |-<;>first|exact h2.lY h|exact h
theorem FnS.le {G:Nat->Option (List PV)}{k:Nat}{args U:List PV}{st T:St}{n:Nat}{R:PV->St->Nat->Prop}(h:FnS P G k U T n R)(hl:Hg args U)(hs:LeS st T):FnS P G k args st n R:=by
 intro w Y σ vs g C hn hr I J;obtain⟨h1,h2⟩:=h w Y σ vs g C hn (hl.rep _ hr) (hs.rep I) (hs.lY J);refine⟨h1,Calls.mono h2 λe w' hh=>?_⟩;obtain⟨cv,v,st',n',Y',σ',he,hR,H⟩:=hh;refine⟨cv,v,st',n',Y',σ',he,hR,?_⟩
 have e:xR ⟨λ_=>.bad,G,n,[],0,[],[],none,λ_=>[]⟩ w Y σ T=xR ⟨λ_=>.bad,G,n,[],0,[],[],none,λ_=>[]⟩ w Y σ st:=by
  unfold xR;rw[hs.ahI]
 rw[e] at H;exact H
theorem FnS.cv {P:Program}{T:Tab}{G:Nat->Option (List PV)}(cvs:List Cv){k:Nat}{args:List PV}{st:St}{n:Nat}{v g : PV}{st1 U : St}{n1 J : Nat}(h:FnS P G k args st n (λu s m=>u=v/\s=st1/\m=n1))(e:GV n [0] (Jv (iW.jI P T) cvs ⟨[v],st1,n1⟩)=⟨[g],U,J⟩):FnS P G k args st n (λu s m=>u=g/\s=U/\m=J):=by
 intro w Y σ vs hG hY hn hr C I;obtain⟨h1,h2⟩:=h w Y σ vs hG hY hn hr C I;refine⟨h1,Calls.mono h2 λen w' hh=>?_⟩;obtain⟨cv,u,s,m,Y',σ',he,⟨rfl,rfl,rfl⟩,H⟩:=hh;obtain⟨Y1,σ1,H1,_⟩:=abj (P:=P) (T':=T) cvs ⟨[u],s,m⟩ H;have H2:=H1.rG (Jb _ [0] 0 _ H1.vals);obtain⟨g1,g2,g3⟩:=KY n (Jv (iW.jI P T) cvs ⟨[u],s,m⟩).st (NP [0] 0 (Jv (iW.jI P T) cvs ⟨[u],s,m⟩).tmps);obtain⟨σ2,H3,_⟩:=H2.Zm g1 g2 g3;have H4:SW (xR ⟨λ_=>.bad,G,n,[],0,[],[],none,λ_=>[]⟩ w Y σ st) w' Y1 σ2 (GV n [0] (Jv (iW.jI P T) cvs ⟨[u],s,m⟩)).tmps [cv] (GV n [0] (Jv (iW.jI P T) cvs ⟨[u],s,m⟩)).st (GV n [0] (Jv (iW.jI P T) cvs ⟨[u],s,m⟩)).next:=H3
 rw[e] at H4;exact⟨cv,g,U,J,Y1,σ2,he,⟨rfl,rfl,rfl⟩,H4⟩
theorem AQ {P:Program}{T:Tab}(hT:jq P T)(hW:Ci P){k:Nat}{fn:Func}{c:Code}(O:P.funcs[k]?=some fn)(hb:fn.body=some c)
  (U:∀ args w,(callFunc k args).run P w=.ok (.enter k args) w) {args:List PV} {st:St} {v:PV} {st1:St} {n1:Nat} {m:Nat} (hm:fn.ntmps-args.length=m)
  (h:∀ S R,S=iW.jI P T->(∀ u s n,LeP u v->LeS s st1->n=n1->R u s n)->I4 T S c (aee T S fn.results.toList R) ⟨vk args (sF m),st,T.qf⟩) (hyl:T.yl=none:=by rfl):FnS P T.gl k args st T.qf (λu s n=>u=v/\s=st1/\n=n1):=by
 have H:=ZR hT hW O hb U hm (hyl:=hyl) (st:=st) (R:=λu s n=>LeP u v/\LeS s st1/\n=n1) λS hS=>h S _ hS λ_ _ _ h1 h2 g=>⟨h1,h2,g⟩
 intro w Y σ J hG hY hn hr C I;obtain⟨h1,h2⟩:=H w Y σ J hG hY hn hr C I;refine⟨h1,Calls.mono h2 λe w' hh=>?_⟩;obtain⟨cv,u,s,n,Y',σ',he,⟨g,h4,h5⟩,H⟩:=hh;refine⟨cv,v,st1,n,Y',σ',he,⟨rfl,rfl,h5⟩,?_⟩
 have hv:gI w' Y' σ' [v] [cv]:=by
  have:=H.vals;unfold gI at this |-;obtain⟨c,cs,e,h6,h7⟩:=this;cases e;exact⟨_,_,rfl,g.rep _ h6,by unfold gI at h7 |-;exact h7⟩
 exact(H.rG hv).PU (h4.PU w' Y' σ')
theorem le_eq {ps qs:List PV}(h:ps=qs):Hg ps qs:=h ▸ Hg.refl ps
variable {α β σ ρ:Type}{r:ρ}
theorem wV {o:Option α}{k:α->Option ρ}(h:bnd o k=some r):∃ x,o=some x/\k x=some r:=by
 cases o with
 | none=>cases h
 | some x=>exact⟨x,rfl,h⟩
theorem adq {x:α}{k:α->Option ρ}(h:lt x k=some r):k x=some r:=h
theorem lt2 {j:Nat}(h:j<2):j=0\/j=1:=by omega
theorem lt3 {j:Nat}(h:j<3):j=0\/j=1\/j=2:=by omega
theorem lt5 {j:Nat}(h:j<5):j=0\/j=1\/j=2\/j=3\/j=4:=by omega
theorem lt6 {j:Nat}(h:j<6):j=0\/j=1\/j=2\/j=3\/j=4\/j=5:=by omega
theorem lt11 {j:Nat}(h:j<11):j=0\/j=1\/j=2\/j=3\/j=4\/j=5\/j=6\/j=7\/j=8\/j=9\/j=10:=by omega
theorem Ya {i:Int}{n:Nat}{k:Nat->Option ρ}(O:qE i n k=some r):∃ j:Nat,j<n/\i=(j:Int)/\k j=some r:=by
 unfold qE at O
 cases i with
 | ofNat j=>
  simp only at O
  cases U:Nat.blt j n with
  | false=>rw[U] at O;cases O
  | true=>rw[U] at O;exact⟨j,(Nat.blt_eq).mp U,rfl,O⟩
 | negSucc j=>cases O
include hS
theorem KN {cs:List PV}{e:α->List PV}{v:α}{K:List PV->Prop}{k:α->Option ρ}(O:lt v k=some r)(hl:Hg cs (e v))(h:∀ x,k x=some r->K (e x)):S.wk cs K:=by
 subst hS;exact⟨e v,hl.len,hl.iT,λ_ _ _ _ hr=>hl.rep _ hr,h v O⟩
theorem ahJ (hM:M=kX){rows:List (List PV)}{l:List (Int×α)}{e:α->List PV}{n J : Int}{z:List PV}{U:α}{K:List PV->Bool->Prop}{k:α->Bool->Option ρ}(O:uo l J U k=some r)(I:rows=M.m (Int×α) (eKV e) l)(hn:n=J)(C:Hg z (e U))(h:∀ x b,k x b=some r->K (e x) b):S.ahi rows n z K:=by
 subst hS hM I hn;have T:BX (l.map (eKV e)) n=(F6 l n).map e:=WY e n l;refine⟨λcs hc=>?_,λhc=>⟨e U,λ_ _ _ _ hr=>C.rep _ hr,?_⟩⟩
 have hc:BX (l.map (eKV e)) n=some cs:=hc;rw[T] at hc
 cases hk:F6 l n with
 | none=>rw[hk] at hc;cases hc
 | some v=>
  rw[hk] at hc;cases hc;unfold uo at O;rw[hk] at O;exact h _ _ O
 have hc:BX (l.map (eKV e)) n=none:=hc;rw[T] at hc
 cases hk:F6 l n with
 | some v=>rw[hk] at hc;cases hc
 | none=>
  unfold uo at O;rw[hk] at O;exact h _ _ O
theorem aiM {cs:List PV}(c:List PV){K:List PV->Prop}(hl:Hg cs c)(h:K c):S.wk cs K:=by
 subst hS;exact⟨c,hl.len,hl.iT,λ_ _ _ _ hr=>hl.rep _ hr,h⟩
theorem Ru {c J : Bool}{U T:Option ρ}{A B:Unit->Prop}(O:br J U T=some r)(e:c=J)(C:U=some r->A ())(I:T=some r->B ()):S.br c A B:=by
 subst e
 cases c with
 | true=>exact aiB hS rfl (C O)
 | false=>exact aiC hS rfl (I O)
theorem aeW (hM:M=kX){T:List (List PV)}{l:List α}{e:α->List PV}{i U : Int}{k:α->Option ρ}{K:List PV->Prop}(O:bnd (jl l U) k=some r)(J:T=M.m α e l)(hi:i=U)(h:∀ x,k x=some r->K (e x)):S.idx T i K:=by
 subst hM J hi;obtain⟨x,hx,hk⟩:=wV O;clear O
 cases i with
 | ofNat j=>exact aiD hS (j:=j) rfl (by simp only[jl] at hx;simp[kX,hx]) (h x hk)
 | negSucc j=>simp[jl] at hx
theorem mG {n J : Nat}{i T : Int}{k:Nat->Option ρ}{K:Nat->Prop}(O:bnd (lJ J T) k=some r)(hn:n=J)(hi:i=T)(h:∀ j,j<n->k j=some r->K j):S.ix n i K:=by
 subst hn hi;obtain⟨x,hx,hk⟩:=wV O;clear O
 cases i with
 | ofNat j' =>
  simp only[lJ] at hx
  cases U:Nat.blt j' n with
  | false=>rw[U] at hx;cases hx
  | true=>
   rw[U] at hx;simp only[cond_true,Option.some.injEq] at hx;subst hx;have U:=(Nat.blt_eq).mp U;exact aiE hS rfl U (h _ U hk)
 | negSucc j=>simp[lJ] at hx
theorem aeX {n:Nat}{i U : Int}{K:Nat->Prop}(hi:i=U)(h:∃ j:Nat,j<n/\U=(j:Int)/\K j):S.ix n i K:=by
 obtain⟨j,h1,h2,T⟩:=h;exact aiE hS (hi.trans h2) h1 T
theorem jW (hM:M=kX){T:List (List PV)}{l:List α}{e:α->List PV}{j U : Nat}{k:α->Option ρ}{K:List PV->Prop}(O:bnd (l[U]?) k=some r)(J:T=M.m α e l)(hj:j=U)(h:∀ x,k x=some r->K (e x)):S.row T j K:=by
 subst hM J hj;obtain⟨x,hx,hk⟩:=wV O;clear O;exact ag3 hS (by simp[kX,hx]) (h x hk)
theorem Ef (hM:M=kX){T:List (List PV)}{H:Nat->Hdr}{l:List α}{e:Hdr->α->List PV}{j U : Nat}{k:α->Option ρ}{K:List PV->Prop}(O:bnd (l[U]?) k=some r)(J:T=M.h H α e l)(hj:j=U)(h:∀ x,k x=some r->K (e (H U) x)):S.row T j K:=by
 subst hM J hj;obtain⟨x,hx,hk⟩:=wV O;clear O;refine ag3 hS ?_ (h x hk);show(IE H e l)[j]?=_;simp[IE,hx]
theorem OE {k:Nat}{args:List PV}{U:List PV}{K:PV->Prop}{g:Option α}{v:α->PV}{J:α->Option ρ}(O:bnd g J=some r)(hF:∀ y,g=some y->Fn P T.gl k U (λu=>u=v y))(I:Hg args U)(h:∀ y,J y=some r->K (v y)):S.Uo k args K:=by
 obtain⟨x,hx,hk⟩:=wV O;clear O;exact agv hS ((hF x hx).le I) (h x hk)
theorem Yb {k:Nat}{args as bs:List PV}{U:List PV}{E:Env}{K:PV->Env->Prop}{g:Option α}{v:α->PV}{J:α->Option ρ}(O:bnd g J=some r)(hF:∀ y,g=some y->Fn P T.gl k U (λu=>u=v y))(I:Hg as U)(h:∀ y,J y=some r->K (v y) E):S.Sl k args as bs E K:=by
 obtain⟨x,hx,hk⟩:=wV O;clear O;subst hS;exact .inl ⟨_,(hF x hx).le I,h x hk⟩
theorem jM {k:Nat}{args as bs:List PV}{U:List PV}{E:Env}{K:PV->Env->Prop}{g:Option α}{v:α->PV}{st1:α->St}{n1:Nat}{J:α->Option ρ}(O:bnd g J=some r)(hF:∀ y,g=some y->FnS P T.gl k U [] 0 (λu st n=>u=v y/\st=st1 y/\n=n1))(I:Hg bs U)(h:∀ y,J y=some r->K (vI (BQ [] E.next) 8 (v y)) (EM [] E (st1 y) n1)):S.Sl k args as bs E K:=by
 obtain⟨x,hx,hk⟩:=wV O;clear O;subst hS;exact .inr (.inl ⟨_,_,_,(hF x hx).le I .nil,h x hk⟩)
theorem MX (hT:jq P T)(hW:Ci P)(n:Nat){b:Code}{Q:Post}{E:Env}(h:∀ R:Nat->Env->Prop,(∀ k E,I4 T S b (Iw (R k) Q) E->R (k+1) E)->R n E):S.loop b Q E:=by
 refine aeT hT hW hS n (h (λn E=>aeQ T S b Q n E) λk E hk=>?_);unfold aeQ;exact hk
theorem Yd {ci:Nat}{U:Env}{A:Post->Prop}{B:Env->Prop}{Q:Post}(cvs:List Cv)(h:A (Iw (λE=>B (Jv S cvs E)) Q)):S.seq ci U A B Q:=by
 subst hS;refine⟨_,h,λn E h=>?_⟩
 cases n with
 | zero=>exact⟨Jv (iW.jI P T) cvs E,AP (P:=P) (T':=T) cvs E,h⟩
 | succ n=>exact⟨E,Ent.refl E,h⟩
theorem acD {k:Nat}{args:List PV}{U:List PV}{K:PV->mO->Prop}{g:Option α}{v J : α->PV}{st1:α->St}{n1:Nat}{x:α->mO}{I:α->Option ρ}(cvs:List Cv)(O:bnd g I=some r)(hF:∀ y,g=some y->FnS P T.gl k U [] 0 (λu st n=>u=v y/\st=st1 y/\n=n1))(C:Hg args U)(hx:∀ y,GV 0 [0] (Jv S cvs ⟨[v y],st1 y,n1⟩)=⟨[J y],[(0,some (x y))],1⟩)(h:∀ y,I y=some r->K (J y) (x y)):S.adX k args K:=by
 obtain⟨y,hy,hk⟩:=wV O;clear O;subst hS;exact⟨_,_,FnS.cv cvs ((hF y hy).le C .nil) (hx y),h y hk⟩
theorem MZ {k:Nat}{args U:List PV}{I : List Nat}{st0 J:St}{m:Nat}{K:PV->St->Nat->Prop}{g:Option α}{v:α->PV}{st1:α->St}{n1:Nat}{C:α->Option ρ}(O:bnd g C=some r)(hF:∀ y,g=some y->FnS P T.gl k U J m (λu st n=>u=v y/\st=st1 y/\n=n1))(ha:Hg args U)(hs:LeS st0 J)(hm:m=lH I)(h0:lY st0=true)
  (h:∀ y,C y=some r->K (v y) (st1 y) n1):S.Zi k args st0 I K:=by
 obtain⟨y,hy,hk⟩:=wV O;clear O;subst hS;subst hm;exact⟨_,_,_,h0,(hF y hy).le ha hs,h y hk⟩
theorem jT {k:Nat}{args as U:List PV}{E:Env}{C free:Option (List PV)}{J : List Nat}{st0 I:St}{m:Nat}{K:PV->Env->Prop}{g:Option α}{v:α->PV}{st1:α->St}{n1:Nat}{kk:α->Option ρ}(O:bnd g kk=some r)(hF:∀ y,g=some y->FnS P T.gl k U I m (λu st n=>u=v y/\st=st1 y/\n=n1))(ha:Hg as U)(hs:LeS st0 I)(hm:m=lH J)(h1:KP J=true)(h2:ltN E.next J=true)(h0:lY st0=true)
  (h:∀ y,kk y=some r->K (vI (BQ J E.next) 8 (v y)) (EM J E (st1 y) n1)):S.call k args E C free J as st0 K:=by
 obtain⟨x,hx,hk⟩:=wV O;clear O;exact acu hS ((hF x hx).le ha hs) hm h1 h2 h0 (h x hk)
theorem WZ {k:Nat}{args:List PV}{E:Env}{K:PV->Env->Prop}(zs:List (Nat×Bool)){c:List PV×St×Nat}(e:Dc S zs args E.st E.next=c)(h:Uu S k c.1 ⟨E.tmps,c.2.1,c.2.2⟩ K):SB P T k args E K:=by
 subst hS;subst e;have hc:=KZ h;intro C Y σ w vs U H hr;obtain⟨Y',σ',H',J,_⟩:=IC (P:=P) (T':=T) zs args H hr;exact hc C Y' σ' w vs U H' J
theorem ag4 {k:Nat}{args as:List PV}{E:Env}{U free:Option (List PV)}{T : List Nat}{st0:St}{K:PV->Env->Prop}(zs:List (Nat×Bool)){c:List PV×St×Nat}(e:Dc S zs args E.st E.next=c)(h:Uu S k c.1 ⟨E.tmps,c.2.1,c.2.2⟩ K):S.call k args E U free T as st0 K:=by
 have:=WZ hS zs e h;subst hS;exact .inr (.inr (.inr this))
theorem ZY {k:Nat}{args as:List PV}{E:Env}{T free:Option (List PV)}{J : List Nat}{st0:St}{K:PV->Env->Prop}{s:St}(e:roS E.st J=s)(h:Uu S k args ⟨E.tmps,s,E.next⟩ K):S.call k args E T free J as st0 K:=by
 subst hS;subst e;have hc:=KZ h;refine .inr (.inr (.inr ?_));intro C Y σ w vs U H hr;obtain⟨Y',H',I⟩:=SW.roS J H;exact hc C Y' σ w vs U H' (gI.keep _ ⟨λ_ _ _=>rfl,λk _=>I k,Nat.le_refl _,oq.refl _⟩ _ hr)
theorem ahK {k:Nat}{args as bs:List PV}{E:Env}{K:PV->Env->Prop}(zs:List (Nat×Bool)){c:List PV×St×Nat}(e:Dc S zs args E.st E.next=c)(h:Uu S k c.1 ⟨E.tmps,c.2.1,c.2.2⟩ K):S.Sl k args as bs E K:=by
 have:=WZ hS zs e h;subst hS;exact .inr (.inr this)
theorem JK {k:Nat}{args bs U as:List PV}{E:Env}{free:Option (List PV)}{ρ' : List Nat}{st0:St}{K:PV->Env->Prop}{g:Option α}{v:α->PV}{I:α->Option ρ}(O:bnd g I=some r)(hF:∀ y,g=some y->Fn P T.gl k U (λu=>u=v y))(C:Hg bs U)(J:∀ y,IZ 6 (v y)=true)(h:∀ y,I y=some r->K (v y) E):S.call k args E (some bs) free ρ' as st0 K:=by
 obtain⟨x,hx,hk⟩:=wV O;clear O;exact agx hS ((hF x hx).le C) (J x) (h x hk)
theorem agB {k:Nat}{args bs U as:List PV}{E:Env}{J:Option (List PV)}{C : List Nat}{st0:St}{K:PV->Env->Prop}{g:Option α}{v:α->PV}{I:α->Option ρ}(O:bnd g I=some r)(hF:∀ y,g=some y->Fn P T.gl k U (λu=>u=v y))(ha:Hg bs U)(h:∀ y,I y=some r->K (v y) ⟨E.tmps,roS E.st C,E.next⟩):S.call k args E J (some bs) C as st0 K:=by
 obtain⟨x,hx,hk⟩:=wV O;clear O;exact agy hS ((hF x hx).le ha) (h x hk)
theorem acE {k:Nat}{args:List PV}{U:List PV}{K:PV->Prop}{g:Option α}{v:α->PV}{I:α->Option ρ}(O:bnd g I=some r)(hF:∀ y,g=some y->Fn P T.gl k U (λu=>u=v y))(C:Hg args U)(J:∀ y,IZ 6 (v y)=true)(h:∀ y,I y=some r->K (v y)):S.Wp k args K:=by
 obtain⟨x,hx,hk⟩:=wV O;clear O;exact agw hS ((hF x hx).le C) (J x) (h x hk)
theorem Vf {op:BinOp}{kd:IntKind}{a b T U : Int}{K:Int->Prop}{k:Int->Option ρ}(O:bnd (divO op kd T U) k=some r)(J:a=T)(I:b=U)(h:∀ x,k x=some r->K x):S.div op kd a b K:=by
 subst hS J I;obtain⟨x,hx,hk⟩:=wV O;clear O;unfold divO at hx
 by_cases h0:b=0
 simp[h0] at hx
 simp only[h0,decide_false,cond_false,Option.some.injEq] at hx;subst hx;exact⟨h0,h _ hk⟩
theorem W9 {op:BinOp}{kd:IntKind}{a b T U : Int}{K:Int->Prop}{k:Int->Option ρ}(O:bnd (kT op kd T U) k=some r)(J:a=T)(I:b=U)(h:∀ x,k x=some r->K x):S.shf op kd a b K:=by
 subst hS J I;obtain⟨x,hx,hk⟩:=wV O;clear O;unfold kT at hx
 by_cases h0:0<=b
 simp only[h0,decide_true,cond_true,Option.some.injEq] at hx;subst hx;exact⟨h0,h _ hk⟩
 simp[h0] at hx
theorem Xa {a b T U : ByteArray}{K:ByteArray->Prop}{k:ByteArray->Option ρ}(O:bnd (jL T U) k=some r)(I:a=T)(J:b=U)(h:∀ x,k x=some r->K x):S.adZ a b K:=by
 subst hS I J;obtain⟨x,hx,hk⟩:=wV O;clear O;unfold jL at hx
 cases h0:Nat.ble (a.size+b.size) 4611686018427387904 with
 | false=>rw[h0] at hx;cases hx
 | true=>rw[h0] at hx;cases hx;exact⟨by simpa using h0,h _ hk⟩
theorem acF {s U : ByteArray}{i T : Int}{K:Int->Prop}{k:Int->Option ρ}(O:bnd (kN U T) k=some r)(I:s=U)(J:i=T)(h:∀ x,k x=some r->K x):S.adY s i K:=by
 subst hS I J;obtain⟨x,hx,hk⟩:=wV O;clear O
 cases i with
 | negSucc j=>simp[kN] at hx
 | ofNat j=>
  simp only[kN] at hx
  split at hx
  rename_i c hc;cases hx;exact⟨j,c,rfl,hc,h _ hk⟩
  cases hx
theorem tH {n U b:Nat}{p:Prop}{k:Option ρ}(O:kF U b k=some r)(hn:n=U)(h:k=some r->p):S.room n b p:=by
 subst hn;unfold kF at O
 cases h1:Nat.ble ((2*n+192)*b) 140737488355328 with
 | false=>rw[h1] at O;cases O
 | true=>
  cases h2:Nat.ble n 4611686018427387904 with
  | false=>rw[h1,h2] at O;cases O
  | true=>rw[h1,h2] at O;exact ahE hS eP eQ (h O)
theorem Lm {n m U T : Int}{b:Nat}{K:Nat->Prop}{k:Nat->Option ρ}(O:bnd (kP U T b) k=some r)(hn:n=U)(J:m=T)(h:∀ j,k j=some r->K j):S.mks n m b K:=by
 subst hS hn J;obtain⟨x,hx,hk⟩:=wV O;clear O;unfold kP at hx
 by_cases h0:0<=n/\n<=m/\(b:Int)*m<=140737488355328/\m<=9223372036854775807
 simp only[h0,and_self,decide_true,cond_true,Option.some.injEq] at hx;subst hx;exact⟨n.toNat,by omega,h0.2.1,h0.2.2.1,h0.2.2.2,h _ hk⟩
 simp[h0] at hx
theorem ZZ {n U : Nat}{a b J T : Int}{K:Nat->Nat->Prop}{k:Nat×Nat->Option ρ}(O:bnd (lI U J T) k=some r)(hn:n=U)(I:a=J)(C:b=T)(h:∀ x,aiG U x->k x=some r->K x.1 x.2):S.slc n a b K:=by
 subst hS hn I C;obtain⟨x,hx,hk⟩:=wV O;clear O;unfold lI at hx
 by_cases h0:0<=a/\a<=b/\b<=(n:Int)
 simp only[h0,and_self,decide_true,cond_true,Option.some.injEq] at hx;subst hx;exact⟨a.toNat,b.toNat,by omega,by omega,by omega,by omega,h _ ⟨by show a.toNat<=b.toNat;omega,by show b.toNat<=n;omega⟩ hk⟩
 simp[h0] at hx
theorem aiN {s U : ByteArray}{a b J T : Int}{K:ByteArray->Prop}{k:ByteArray->Option ρ}(O:bnd (lS U J T) k=some r)(hn:s=U)(C:a=J)(I:b=T)(h:∀ x,k x=some r->K x):S.aaK s a b K:=by
 subst hS hn C I;obtain⟨x,hx,hk⟩:=wV O;clear O;unfold lS at hx
 by_cases h0:0<=a/\a<=b/\b<=(s.size:Int)
 simp only[h0,and_self,decide_true,cond_true,Option.some.injEq] at hx;subst hx;exact⟨a.toNat,b.toNat,by omega,by omega,by omega,by omega,h _ hk⟩
 simp[h0] at hx
theorem aiO (hM:M=kX){T:List (List PV)}{l:List α}{e:α->List PV}{a b:Option ρ}{K:Bool->Prop}(O:rD a b=some r)(J:T=M.m α e l)(U:l=[]->b=some r->a=some r)(C:a=some r->K true)(I:b=some r->K false):S.Ur T K:=by
 subst hS hM J;intro c hc
 cases c with
 | false=>exact I O
 | true=>
  have:=hc rfl;exact C (U (by simpa [kX] using this) O)
theorem aiP (hM:M=kX){t:Nat}{b c:ByteArray}{K:List (List PV)->Prop}{k:List Int->Option ρ}(O:lt (X9 c) k=some r)(hu:∃ e,P.underlying t=some (.slice e)/\P.underlying e=some (.int .u8))(U:c=b)(h:∀ x,k x=some r->K (M.m Int (eI .u8) x)):S.toB t b K:=by
 subst hS hM U;have h2:=h _ O;refine⟨hu,?_⟩
 simpa [kX,X9,List.map_map,eI,Function.comp_def] using h2
theorem ag5 (hM:M=kX){t:Nat}{rows:List (List PV)}{l:List Int}{K:ByteArray->Prop}{k:ByteArray->Option ρ}(O:bnd (lM l) k=some r)(hu:∃ e,P.underlying t=some (.slice e)/\P.underlying e=some (.int .u8))(T:rows=M.m Int (eI .u8) l)(h:∀ x,k x=some r->K x):S.toS t rows K:=by
 subst hS hM T;obtain⟨x,hx,hk⟩:=wV O;clear O;refine⟨hu,x,?_,h x hk⟩;unfold lM at hx
 cases U:l.all (λn=>decide (0<=n/\n<256)) with
 | false=>rw[U] at hx;cases hx
 | true=>
  rw[U] at hx;cases hx;simp only[kX,List.map_map];refine List.map_congr_left λn hn=>?_;have:=List.all_eq_true.1 U n hn;simp only[decide_eq_true_eq] at this;simp only[Function.comp,eI,acf]
  congr 1
  rw[UInt8.toNat_ofNat_of_lt' (by show n.toNat<256;omega)];omega
theorem acG {η:Type}(hT:jq P T)(hW:Ci P){b:Code}{Q:Post}{E:Env}{step:σ->(σ->Option ρ)->Option ρ}{J:σ}(cvs:List Cv)(keep:List Nat)(F:σ->η->Env)(g0:η)(O:gK step J=some r)(he:GV T.qf keep (wkE (Jv S cvs E))=F J g0)
  (h:∀ (I:σ->η->Env) (k:σ->Option ρ) (s:σ) (g:η),(∀ s g,I s g=F s g)->step s k=some r->∀ e,e=F s g->I4 T S b (Iw (λE'=>∃ s' g',k s'=some r/\GV T.qf keep (wkE (Jv S cvs E'))=I s' g') Q) e):S.loop b Q E:=by
 subst hS;intro C a w hA
 have key:∀ (n:Nat) (s:σ) (g:η),jv step n s=some r->∀ (C:Ctx T) a w,lL C (F s g) a w->Code.rounds P b (lift C Q) n a w:=by
  intro n
  induction n with
  | zero=>intro s g h;cases h
  | succ n ih=>
   intro s g hs C a w hA;unfold Code.rounds;refine wp_mono (zY hT hW b _ _ (h F (jv step n) s g (λ_ _=>rfl) hs _ rfl) C a w hA) (Hf λE' U w' hA' hq=>?_);obtain⟨j,g',hj,he⟩:=hq;exact ih j g' hj C U w' (he ▸ FX keep _ C U w' (JJ _ C U w' (AP (P:=P) (T':=T) cvs E' C U w' hA')))
 exact wp_loop_rounds fuel (key _ J g0 O C a w (he ▸ FX keep _ C a w (JJ _ C a w (AP (P:=P) (T':=T) cvs E C a w hA))))
theorem ag6 {ci:Nat}{U:Env}{A:Post->Prop}{B:Env->Prop}{Q:Post}{rest:σ->Option ρ}{body:(σ->Option ρ)->Option ρ}(cvs:List Cv)(keep:List Nat)(F:σ->Env)(O:jn rest body=some r)
  (h:∀ (I:σ->Env) (k:σ->Option ρ),(∀ s,I s=F s)->body k=some r->A (Iw (λE=>∃ s,k s=some r/\GV T.qf keep (wkE (Jv S cvs E))=I s) Q)) (h2:∀ s,rest s=some r->B (F s)):S.seq ci U A B Q:=by
 subst hS;refine⟨_,h F rest (λ_=>rfl) O,λn E h=>?_⟩
 cases n with
 | zero=>
  obtain⟨s,hs,J⟩:=h;refine⟨F s,?_,h2 s hs⟩;rw[<- J];exact(AP (P:=P) (T':=T) cvs E).trans ((JJ _).trans (FX keep _))
 | succ n=>exact⟨E,Ent.refl E,h⟩
theorem JL (hT:jq P T)(hW:Ci P){b:Code}{Q:Post}{E:Env}{step:σ->(σ->Option ρ)->Option ρ}{J:σ}(cvs:List Cv)(keep:List Nat)(F:σ->Env)(O:gK step J=some r)(he:GV T.qf keep (wkE (Jv S cvs E))=F J)
  (h:∀ (I:σ->Env) (k:σ->Option ρ) (s:σ),(∀ s,I s=F s)->step s k=some r->∀ e,e=F s->I4 T S b (Iw (λE'=>∃ s',k s'=some r/\GV T.qf keep (wkE (Jv S cvs E'))=I s') Q) e):S.loop b Q E:=by
 subst hS;intro C a w hA
 have key:∀ (n:Nat) (s:σ),jv step n s=some r->∀ (C:Ctx T) a w,lL C (F s) a w->Code.rounds P b (lift C Q) n a w:=by
  intro n
  induction n with
  | zero=>intro s h;cases h
  | succ n ih=>
   intro s hs C a w hA;unfold Code.rounds;refine wp_mono (zY hT hW b _ _ (h F (jv step n) s (λ_=>rfl) hs _ rfl) C a w hA) (Hf λE' U w' g hq=>?_);obtain⟨j,hj,he⟩:=hq;exact ih j hj C U w' (he ▸ FX keep _ C U w' (JJ _ C U w' (AP (P:=P) (T':=T) cvs E' C U w' g)))
 exact wp_loop_rounds fuel (key _ J O C a w (he ▸ FX keep _ C a w (JJ _ C a w (AP (P:=P) (T':=T) cvs E C a w hA))))
end
end Go.Pv
namespace Go.Pv
open Go
section
variable {α β σ τ ρ:Type}
def Ok (Q:ρ->Prop)(o:Option ρ):Prop:=∃ r,o=some r/\Q r
theorem gm {Q:ρ->Prop}{x:ρ}(h:Q x):Ok Q (some x):=⟨x,rfl,h⟩
theorem ok_eq {c:ρ}{o:Option ρ}(h:Ok (λr=>r=c) o):o=some c:=by obtain⟨r,e,q⟩:=h;subst q;exact e
theorem gz {Q:ρ->Prop}{c:Bool}{a b:Option ρ}(h1:c=true->Ok Q a)(h2:c=false->Ok Q b):Ok Q (br c a b):=by
 cases c with
 | true=>exact h1 rfl
 | false=>exact h2 rfl
theorem gp {Q:ρ->Prop}{p:Prop}[Decidable p]{a b:Option ρ}(h1:p->Ok Q a)(h2:¬p->Ok Q b):Ok Q (br (decide p) a b) :=
 gz (λh=>h1 (of_decide_eq_true h)) (λh=>h2 (of_decide_eq_false h))
theorem lU {Q:ρ->Prop}{p:Prop}[Decidable p]{a b:Option ρ}(h1:¬p->Ok Q a)(h2:p->Ok Q b):Ok Q (br (!decide p) a b) :=
 gz (λh=>h1 bW) (λh=>h2 bW)
theorem gu {Q:ρ->Prop}{R:α->Prop}{o:Option α}{k:α->Option ρ}(h:Ok R o)(hk:∀ x,R x->Ok Q (k x)):Ok Q (bnd o k):=by
 obtain⟨x,e,q⟩:=h;rw[e];exact hk x q
theorem gY {Q:ρ->Prop}{o:Option α}{x:α}{k:α->Option ρ}(h:o=some x)(hk:Ok Q (k x)):Ok Q (bnd o k):=by
 rw[h];exact hk
theorem yC {Q:ρ->Prop}{x:α}{k:α->Option ρ}(hk:Ok Q (k x)):Ok Q (lt x k):=hk
theorem gV {Q:ρ->Prop}(J:σ->Prop){rest:σ->Option ρ}{body:(σ->Option ρ)->Option ρ}(h1:∀ k,(∀ s,J s->Ok Q (k s))->Ok Q (body k))(h2:∀ s,J s->Ok Q (rest s)):Ok Q (jn rest body):=h1 rest h2
theorem jH {Q:ρ->Prop}{n b:Nat}{k:Option ρ}(h1:(2*n+192)*b<=140737488355328)(h2:n<=4611686018427387904)(hk:Ok Q k):Ok Q (kF n b k):=by
 unfold kF;rw[Nat.ble_eq_true_of_le h1,Nat.ble_eq_true_of_le h2];exact hk
theorem agC (l:List α)(n:Nat):jl l (n:Int)=l[n]?:=rfl
theorem iM {Q:ρ->Prop}{l:List α}{i:Int}{k:α->Option ρ}(n:Nat)(hi:i=(n:Int))(hn:n<l.length)(hk:Ok Q (k (l[n]))):Ok Q (bnd (jl l i) k):=by
 subst hi;rw[agC,List.getElem?_eq_getElem hn];exact hk
theorem ja {Q:ρ->Prop}{m:Nat}{i:Int}{k:Nat->Option ρ}(n:Nat)(hi:i=(n:Int))(hn:n<m)(hk:Ok Q (k n)):Ok Q (bnd (lJ m i) k):=by
 subst hi;show Ok Q (bnd (bif Nat.blt n m then some n else none) k);have:Nat.blt n m=true:=by rw[Nat.blt_eq];exact hn
 rw[this];exact hk
theorem iR {Q:ρ->Prop}{l:List α}{n:Nat}{k:α->Option ρ}(hn:n<l.length)(hk:Ok Q (k (l[n]))):Ok Q (bnd (l[n]?) k):=by
 rw[List.getElem?_eq_getElem hn];exact hk
theorem JM {Q:ρ->Prop}{n:Nat}{a m:Int}{b:Nat}{k:Nat->Option ρ}(hn:a=(n:Int))(U:m=(n:Int))(h0:0<b)(T:b*n<=140737488355328)(hk:Ok Q (k n)):Ok Q (bnd (kP a m b) k):=by
 subst hn U;have h1:n<=b*n:=Nat.le_mul_of_pos_left n h0;have h2:(b:Int)*(n:Int)<=140737488355328:=by rw[<- Int.natCast_mul];exact Int.ofNat_le.2 T
 have:kP (n:Int) (n:Int) b=some n:=by
  unfold kP;rw[decide_eq_true (show 0<=(n:Int)/\(n:Int)<=(n:Int)/\(b:Int)*(n:Int)<=140737488355328/\(n:Int)<=9223372036854775807 from⟨by omega,by omega,h2,by omega⟩)];rfl
 rw[this];exact hk
theorem abl {Q:ρ->Prop}{a b:Int}{n i j:Nat}{k:Nat×Nat->Option ρ}(J:a=(i:Int))(T:b=(j:Int))(U:i<=j)(hj:j<=n)(hk:Ok Q (k (i,j))):Ok Q (bnd (lI n a b) k):=by
 subst J T
 have:lI n (i:Int) (j:Int)=some (i,j):=by
  unfold lI;rw[decide_eq_true (show 0<=(i:Int)/\(i:Int)<=(j:Int)/\(j:Int)<=(n:Int) from⟨by omega,by omega,by omega⟩)];rfl
 rw[this];exact hk
theorem wrap_in {n:Int}(h1 : -9223372036854775808<=n)(h2:n<9223372036854775808):IntKind.i64.wrap n=n:=by rw[IntKind.wrap_i64];omega
theorem kL {a b:Int}(h1 : -9223372036854775808<=a+b)(h2:a+b<9223372036854775808):iq a b=a+b:=by
 show IntKind.i64.wrap (a+b)=a+b;exact wrap_in h1 h2
theorem lG {n:Nat}(h:n<4611686018427387904):iq (n:Int) 1=((n+1:Nat):Int):=by
 rw[kL ah ah];rfl
theorem je {Q:ρ->Prop}{step:σ->(σ->Option ρ)->Option ρ}{T:σ}(Inv:σ->Prop)(μ:σ->Nat)(h0:Inv T)(C:μ T<fuel)
  (h:∀ s k,Inv s->(∀ U,Inv U->μ U<μ s->Ok Q (k U))->Ok Q (step s k)):Ok Q (gK step T):=by
 have key:∀ n s,Inv s->μ s<n->Ok Q (jv step n s):=by
  intro n
  induction n with
  | zero=>intro s _ h;omega
  | succ n I=>intro s hs hn;exact h s _ hs λU J hl=>I U J ah
 exact key fuel T h0 C
theorem ku {Q:ρ->Prop}{step:Int×τ->(Int×τ->Option ρ)->Option ρ}{t0:τ}(a n:Nat)(Inv:Nat->τ->Prop)(i0:Int)(J:i0=(a:Int))(C:a<=n)(hn:n<4611686018427387904)(h0:Inv a t0)
  (h:∀ i t k,i<n->Inv i t->(∀ T,Inv (i+1) T->Ok Q (k (iq (i:Int) 1,T)))->Ok Q (step ((i:Int),t) k))
  (g:∀ t k,Inv n t->Ok Q (step ((n:Int),t) k)):Ok Q (gK step (i0,t0)):=by
 subst J;refine je (λs=>∃ i:Nat,s.1=(i:Int)/\i<=n/\Inv i s.2) (λs=>n-s.1.toNat) ⟨a,rfl,C,h0⟩ dS ?_
 rintro⟨i',t⟩ k ⟨i,e,hi,U⟩ hk
 simp only at e U;subst e
 by_cases h' : i=n
 subst h';exact g t k U
 refine h i t k ah U λT I=>hk _ ⟨i+1,lG ah,by omega,I⟩ ?_;rw[lG ah];simp only[Int.toNat_natCast];omega
theorem pJ {Q:ρ->Prop}{step:Int->(Int->Option ρ)->Option ρ}(a n:Nat)(Inv:Nat->Prop)(i0:Int)(U:i0=(a:Int))(J:a<=n)(hn:n<4611686018427387904)(h0:Inv a)
  (h:∀ i k,i<n->Inv i->(Inv (i+1)->Ok Q (k (iq (i:Int) 1)))->Ok Q (step (i:Int) k))
  (I:∀ k,Inv n->Ok Q (step (n:Int) k)):Ok Q (gK step i0):=by
 subst U;refine je (λs=>∃ i:Nat,s=(i:Int)/\i<=n/\Inv i) (λs=>n-s.toNat) ⟨a,rfl,J,h0⟩ dS ?_
 rintro i' k ⟨i,e,hi,hI⟩ hk
 subst e
 by_cases h' : i=n
 subst h';exact I k hI
 refine h i k ah hI λT=>hk _ ⟨i+1,lG ah,by omega,T⟩ ?_;rw[lG ah];simp only[Int.toNat_natCast];omega
theorem JO {Q:ρ->Prop}{step:τ×Int->(τ×Int->Option ρ)->Option ρ}{t0:τ}(a n:Nat)(Inv:Nat->τ->Prop)(i0:Int)(J:i0=(a:Int))(C:a<=n)(hn:n<4611686018427387904)(h0:Inv a t0)
  (h:∀ i t k,i<n->Inv i t->(∀ T,Inv (i+1) T->Ok Q (k (T,iq (i:Int) 1)))->Ok Q (step (t,(i:Int)) k))
  (g:∀ t k,Inv n t->Ok Q (step (t,(n:Int)) k)):Ok Q (gK step (t0,i0)):=by
 subst J;refine je (λs=>∃ i:Nat,s.2=(i:Int)/\i<=n/\Inv i s.1) (λs=>n-s.2.toNat) ⟨a,rfl,C,h0⟩ dS ?_
 rintro⟨t,i'⟩ k ⟨i,e,hi,U⟩ hk
 simp only at e U;subst e
 by_cases h' : i=n
 subst h';exact g t k U
 refine h i t k ah U λT I=>hk _ ⟨i+1,lG ah,by omega,I⟩ ?_;rw[lG ah];simp only[Int.toNat_natCast];omega
end
end Go.Pv
namespace Go.Pv
open Go
theorem vO {α:Type}{enc:α->List PV}{ok:α->Prop}:∀ {U:List (List PV)},(∀ r∈U,∃ x,r=enc x/\ok x)->∃ l:List α,U=l.map enc/\(∀ x∈l,ok x)/\l.length=U.length
 | [],_=>⟨[],rfl,by simp,rfl⟩
 | r::U,h=>by
  obtain⟨x,e,hx⟩:=h r aC;obtain⟨l,J,h2,T⟩:=vO λr hr=>h r (List.mem_cons_of_mem _ hr);refine⟨x::l,by rw[e,J];rfl,λy hy=>?_,by simp[T]⟩;rcases List.mem_cons.1 hy with rfl|hy
  exact hx
  exact h2 y hy
end Go.Pv
namespace Go.Pv
open Go
structure Fit {H:Type}(N:Nat)(fit:DataW H->Prop):Prop where
 str:∀ b,fit (.lit (.string b))->b.length<=N
 sl:∀ es rest,fit (.slice es rest)->es.length<=N/\∀ e∈es,fit e
 agg:∀ es,fit (.agg es)->∀ e∈es,fit e
 ptr:∀ d,fit (.ptr d)->fit d
mutual
inductive Sn (P:Program) (N:Nat):TypeId->List PV->Prop
 | int {t:TypeId} {k:IntKind} {n:Int}:P.underlying t=some (.int k)->(Lit.int k n).wf=true->Sn P N t [.si k n]
 | bool {t:TypeId} {b:Bool}:P.underlying t=some .bool->Sn P N t [.sb b]
 | str {t:TypeId} {s:ByteArray}:P.underlying t=some .string->s.size<=N->Sn P N t [.str s]
 | GU {t e:TypeId}:P.underlying t=some (.pointer e)->Sn P N t [.GU]
 | pp {t e:TypeId} {cs:List PV}:P.underlying t=some (.pointer e)->Sn P N e cs->Sn P N t [.pp cs]
 | sl {t e:TypeId} {es:List (List PV)}:P.underlying t=some (.slice e)->(∀ r∈es,Sn P N e r)->es.length<=N->Sn P N t [.sl (P.cellsOf e) es false]
 | struct {t:TypeId} {fs:Array Field} {cs:List PV}:P.underlying t=some (.struct fs)->SnL P N (fs.toList.map (·.type)) cs->Sn P N t cs
 | arr {t e:TypeId} {n:Nat} {cs:List PV}:P.underlying t=some (.array n e)->SnL P N (List.replicate n e) cs->Sn P N t cs
inductive SnL (P:Program) (N:Nat):List TypeId->List PV->Prop
 | nil:SnL P N [] []
 | cons {t:TypeId} {ts:List TypeId} {a b:List PV}:Sn P N t a->SnL P N ts b->SnL P N (t::ts) (a++b)
end
section
variable {H:Type}{enc:TypeId×Value->H}{P:Program}{w:World}{base:Nat}{sp:Nat->Bool}{held:Bool}{N:Nat}{fit:DataW H->Prop}
mutual
theorem Sn.cells {t:TypeId}{cs:List PV}:Sn P N t cs->iT cs=true
 | .int _ _=>rfl
 | .bool _=>rfl
 | .str _ _=>rfl
 | .GU _=>rfl
 | .pp _ _=>rfl
 | .sl _ _ _=>rfl
 | .struct _ h=>SnL.cells h
 | .arr _ h=>SnL.cells h
theorem SnL.cells {ts:List TypeId}{cs:List PV}:SnL P N ts cs->iT cs=true
 | .nil=>rfl
 | .cons h k=>Lj _ _ (Sn.cells h) (SnL.cells k)
end
theorem PY {ts:List TypeId}{cs:List Value}{xs:Nat->Option (DataW H×List MemPlace)}{m:Nat}
  (ih:∀ (t:TypeId) (cs:List Value) x,t∈ts->DataW.trod enc P w base sp held m t cs=some x->fit x.1->∃ ps,gI w NoY iU ps cs/\Sn P N t ps/\cs.length=P.cellsOf t) :
  ∀ (J:List Field) (n k:Nat),Va P ts J n=some cs.length->n<=cs.length ->
   (∀ (i:Nat) (f:Field),J[i]?=some f->DataW.trod enc P w base sp held m f.type ((cs.drop f.offset).take (P.cellsOf f.type))=xs (k+i)/\∃ y,xs (k+i)=some y/\fit y.1) ->
   ∃ ps,gI w NoY iU ps (cs.drop n)/\SnL P N (J.map (·.type)) ps
 | [],n,k,hc,hn,_=>by
  simp only[Va,Option.some.injEq] at hc;subst hc;exact⟨[],by simp[gI],.nil⟩
 | f::J,n,k,hc,hn,hx=>by
  simp only[Va] at hc
  cases T:(Nat.beq f.offset n&&ts.contains f.type) with
  | false=>rw[T] at hc;cases hc
  | true=>
   rw[T] at hc;simp only[cond_true] at hc;simp only[Bool.and_eq_true] at T;have U:=Nat.eq_of_beq_eq_true T.1;obtain⟨h1,y,h2,h3⟩:=hx 0 f rfl;rw[h2,U] at h1;obtain⟨ps,hr,hs,hl⟩:=ih _ _ _ (by simpa using T.2) h1 h3
   have hle:n+P.cellsOf f.type<=cs.length:=by
    rw[List.length_take,List.length_drop] at hl;omega
   obtain⟨qs,I,C⟩:=PY ih J (n+P.cellsOf f.type) (k+1) hc hle λi g hg=>by
    have:=hx (i+1) g (by simpa using hg);rw[show k+(i+1)=k+1+i by omega] at this;exact this
   refine⟨ps++qs,?_,by simpa using SnL.cons hs C⟩;have:=hr.append I
   rwa [<- List.drop_drop,List.take_append_drop] at this
theorem SX {e:TypeId}{cs:List Value}{m sz:Nat}{xs:Nat->Option (DataW H×List MemPlace)}
  (J:∀ (cs:List Value) x,DataW.trod enc P w base sp held m e cs=some x->fit x.1->∃ ps,gI w NoY iU ps cs/\Sn P N e ps/\cs.length=P.cellsOf e) (hsz:sz=P.cellsOf e) :
  ∀ (k s:Nat),cs.length=(s+k)*sz->(∀ i,i<s+k->DataW.trod enc P w base sp held m e ((cs.drop (i*sz)).take sz)=xs i/\∃ y,xs i=some y/\fit y.1) ->
   ∃ ps,gI w NoY iU ps (cs.drop (s*sz))/\SnL P N (List.replicate k e) ps
 | 0,s,hl,_=>by
  refine⟨[],?_,.nil⟩;rw[List.drop_eq_nil_of_le fA];simp[gI]
 | k+1,s,hl,hx=>by
  obtain⟨h1,y,h2,I⟩:=hx s ah;rw[h2] at h1;obtain⟨ps,hr,hs,C⟩:=J _ _ h1 I;obtain⟨qs,U,T⟩:=SX J hsz k (s+1) (by rw[hl];congr 1;omega) λi hi=>hx i ah;refine⟨ps++qs,?_,by rw[List.replicate_succ];exact .cons hs T⟩;have:=hr.append U
  rwa [show(s+1)*sz=s*sz+sz by rw[Nat.add_mul];omega,<- List.drop_drop,List.take_append_drop] at this
theorem Vg {e:TypeId}{m:Nat}{a:Addr}{xs:Nat->Option (DataW H×List MemPlace)}(U:a.spot=none)
  (ih:∀ (cs:List Value) x,DataW.trod enc P w base sp held m e cs=some x->fit x.1->∃ ps,gI w NoY iU ps cs/\Sn P N e ps/\cs.length=P.cellsOf e) :
  ∀ (k s:Nat),(∀ i,i<s+k->(w.cells? base (a.add (i*P.cellsOf e)) (P.cellsOf e)).bind (DataW.trod enc P w base sp held m e)=xs i/\∃ y,xs i=some y/\fit y.1) ->
   ∃ T,jw w NoY iU a.block (P.cellsOf e) T (a.off+s*P.cellsOf e)/\(∀ r∈T,Sn P N e r)/\T.length=k
 | 0,s,_=>⟨[],by simp[jw],by simp,rfl⟩
 | k+1,s,hx=>by
  obtain⟨h1,y,h2,h3⟩:=hx s ah;rw[h2] at h1;obtain⟨vs,hv,ht⟩:=Option.bind_eq_some_iff.1 h1;obtain⟨ps,hr,hs,hl⟩:=ih _ _ ht h3;obtain⟨T,J,I,C⟩:=Vg U ih k (s+1) λi hi=>hx i ah;rw[adp U] at hv;refine⟨ps::T,?_,?_,by simp[C]⟩
  unfold jw;refine⟨⟨by rw[<- hr.length,hl],hs.cells⟩,PW hv hr,?_⟩;rw[show a.off+s*P.cellsOf e+P.cellsOf e=a.off+(s+1)*P.cellsOf e by rw[Nat.add_mul];omega];exact J
  intro r g;rcases List.mem_cons.1 g with rfl|h
  exact hs
  exact I r h
theorem Xb {ts:List TypeId}(F:Fit N fit)(hts:layAll P ts ts=true):∀ (fuel:Nat) (t:TypeId) (cs:List Value) (x:DataW H×List MemPlace),t∈ts ->
  DataW.trod enc P w base sp held fuel t cs=some x->fit x.1->∃ ps,gI w NoY iU ps cs/\Sn P N t ps/\cs.length=P.cellsOf t
 | 0,t,cs,x,_,h,_=>by simp[DataW.trod] at h
 | m+1,t,cs,x,hmem,h,hft=>by
  have hl:=Lh ts hts t hmem;have ih:=Xb F hts m;have one:∀ {p:PV} {v:Value},Rep w NoY iU p v->gI w NoY iU [p] [v]:=λh=>by unfold gI;exact⟨_,_,rfl,h,by unfold gI;rfl⟩
  unfold agA at hl
  split at hl
  rename_i hu;obtain⟨b,rfl,_⟩:=DataW.trod_bool hu h;exact⟨[.sb b],one bU,.bool hu,(Nat.eq_of_beq_eq_true hl).symm⟩
  rename_i k hu;obtain⟨n,rfl,_,hw⟩:=DataW.trod_int hu h;exact⟨[.si k n],one bU,.int hu hw,(Nat.eq_of_beq_eq_true hl).symm⟩
  rename_i hu;obtain⟨s,rfl,rfl,hs⟩:=DataW.trod_string hu h;exact⟨[.str s],one bU,.str hu (by simpa using F.str _ hft),(Nat.eq_of_beq_eq_true hl).symm⟩
  rename_i e hu;simp only[Bool.and_eq_true,Nat.blt_eq] at hl;obtain⟨⟨h1,h2⟩,I⟩:=hl;have I:e∈ts:=by simpa using I
  have h1:=(Nat.eq_of_beq_eq_true h1).symm;rcases DataW.trod_pointer hu h with ⟨rfl,_⟩|⟨a,cs',y,n,O,rfl,rfl,hc,ht⟩
  exact⟨[.GU],one bU,.GU hu,h1⟩
  cases O;obtain⟨ps,hr,hs,_⟩:=ih e _ _ I ht (F.ptr _ hft);obtain⟨U,J⟩:=Vb h2 hc;refine⟨[.pp ps],one ?_,.pp hu hs,h1⟩;have ha:a=⟨a.block,a.off,none⟩:=by cases a;simp at U;simp[U]
  rw[ha] at hc;unfold Rep;exact⟨a.block,a.off,by rw[<- ha],⟨J,λh=>h⟩,PW hc hr⟩
  rename_i e hu;simp only[Bool.and_eq_true,Nat.blt_eq] at hl;obtain⟨⟨h1,h2⟩,I⟩:=hl;have I:e∈ts:=by simpa using I
  have h1:=(Nat.eq_of_beq_eq_true h1).symm;rcases DataW.trod_slice hu h with ⟨rfl,_⟩|⟨a,len,cap,elems,rest,n,O,rfl,rfl,_,hle,hmax,hlen,hel,_⟩
  refine⟨[.sl (P.cellsOf e) [] false],one ?_,.sl hu aC aC,h1⟩;unfold Rep;exact⟨none,0,0,rfl,rfl,Nat.le_refl _,(λh=>by cases h),.inl rfl⟩
  cases O;obtain⟨hN,hfe⟩:=F.sl _ _ hft;have hN:len<=N:=by simpa [hlen] using hN
  by_cases h0:len=0
  subst h0;refine⟨[.sl (P.cellsOf e) [] false],one ?_,.sl hu aC aC,h1⟩;unfold Rep;exact⟨some a,0,cap,rfl,rfl,hle,(λh=>by cases h),.inl rfl⟩
  have hx:∀ i,i<len->∃ y,elems[i]?=some y/\fit y.1:=λi hi=>⟨_,List.getElem?_eq_getElem ah,hfe _ (List.mem_map.2 ⟨_,List.getElem_mem _,rfl⟩)⟩
  obtain⟨y,hy,_⟩:=hx 0 ah;have g:=hel 0 ah;rw[hy] at g;obtain⟨vs,hv,_⟩:=Option.bind_eq_some_iff.1 g;obtain⟨U,J⟩:=Vb h2 hv;rw[Nat.zero_mul,show a.add 0=a by simp[Addr.add]] at U J;obtain⟨es,hr,hs,hl2⟩:=Vg (xs:=λi=>elems[i]?) U (λcs x hx O=>ih e cs x I hx O) len 0 λi hi=>⟨hel i ah,hx i ah⟩
  refine⟨[.sl (P.cellsOf e) es false],one ?_,.sl hu hs (by rw[hl2];omega),h1⟩;have ha:a=⟨a.block,a.off,none⟩:=by cases a;simp at U;simp[U]
  unfold Rep;refine⟨some a,len,cap,rfl,hl2.symm,hle,(λh=>by cases h),.inr ⟨a.block,a.off,by rw[<- ha],⟨J,λh=>h⟩,?_⟩⟩
  simpa using hr
  rename_i fs hu
  split at hl
  rename_i n hc;obtain⟨xs,n',O,rfl,T,hxl,hx⟩:=DataW.trod_struct hu h;cases O;have hn:=Nat.eq_of_beq_eq_true hl
  obtain⟨ps,hr,hs⟩:=PY (ts:=ts) (xs:=λi=>xs[i]?) (λt cs x=>ih t cs x) fs.toList 0 0 (by rw[hc,hn,T]) (Nat.zero_le _) λi f hi=>by
   have C : fs[i]?=some f:=by simpa using hi
   have J:i<fs.size:=by
    by_cases h:i<fs.size
    exact h
    rw[Array.getElem?_eq_none (Nat.le_of_not_lt h)] at C;cases C
   refine⟨by simpa using hx i f C,_,by rw[Nat.zero_add];exact List.getElem?_eq_getElem ah,F.agg _ hft _ (List.mem_map.2 ⟨_,List.getElem_mem _,rfl⟩)⟩
  exact⟨ps,by simpa using hr,.struct hu hs,T⟩
  cases hl
  rename_i n e hu;simp only[Bool.and_eq_true] at hl;have I:e∈ts:=by simpa using hl.2
  obtain⟨xs,m',O,rfl,T,hxl,hx⟩:=DataW.trod_array hu h;cases O;obtain⟨ps,hr,hs⟩:=SX (xs:=λi=>xs[i]?) (λcs x hx O=>ih e cs x I hx O) rfl n 0 (by rw[T,Nat.zero_add];exact Nat.eq_of_beq_eq_true hl.1) λi hi=>⟨hx i ah,_,List.getElem?_eq_getElem ah,F.agg _ hft _ (List.mem_map.2 ⟨_,List.getElem_mem _,rfl⟩)⟩
  exact⟨ps,by simpa using hr,.arr hu hs,T⟩
  cases hl
inductive SnV (P:Program) (N:Nat) (t:TypeId):PV->Prop
 | one {p:PV}:Sn P N t [p]->lK P t=false->SnV P N t p
 | agg {cs:List PV}:Sn P N t cs->lK P t=true->SnV P N t (.agg cs)
inductive O6 (P:Program) (N:Nat):List TypeId->List PV->Prop
 | nil:O6 P N [] []
 | cons {t:TypeId} {ts:List TypeId} {p:PV} {ps:List PV}:SnV P N t p->O6 P N ts ps->O6 P N (t::ts) (p::ps)
theorem abm {ts:List TypeId}(F:Fit N fit)(J:layAll P ts ts=true){t:TypeId}(T:t∈ts){v:Value}{d:DataW H}{pl:List MemPlace}{r:Reach}{b0:Nat}(U:Value.okWide P w r b0 t v)(h:DataW.Trod enc P w base sp held t v d pl)(C:fit d) :
  ∃ p,Rep w NoY iU p v/\SnV P N t p:=by
 obtain⟨fuel,h⟩:=h;obtain⟨ps,hr,hs,_⟩:=Xb F J fuel t _ _ T h C;have hl:=Lh ts J t T
 have agg:(∃ cs,v=.agg cs)->lK P t=true->∃ p,Rep w NoY iU p v/\SnV P N t p:=by
  rintro⟨cs,rfl⟩ I
  refine⟨.agg ps,?_,.agg hs I⟩;unfold Rep;exact⟨cs.toList,by simp,by simpa [Value.cells] using hr⟩
 have one:v.cells.toList=[v]->lK P t=false->∃ p,Rep w NoY iU p v/\SnV P N t p:=by
  intro hv I;rw[hv] at hr;have hlen:=hr.length
  match ps,hr,hs,hlen with
  | [p],hr,hs,_=>
   obtain⟨u,e,hp⟩:=Ha hr;cases e;exact⟨p,hp,.one hs I⟩
 unfold agA at hl;unfold Value.okWide at U
 split at hl
 rename_i hu;rw[hu] at U;obtain⟨b,g,_⟩:=DataW.trod_bool hu h;refine one ?_ dI;cases v<;>simp_all[Value.cells,Cell.okWide,Cell.ok]
 rename_i k hu;rw[hu] at U;obtain⟨b,g,_⟩:=DataW.trod_int hu h;refine one ?_ dI;cases v<;>simp_all[Value.cells,Cell.okWide,Cell.ok]
 rename_i hu;rw[hu] at U;obtain⟨b,g,_⟩:=DataW.trod_string hu h;refine one ?_ dI;cases v<;>simp_all[Value.cells,Cell.okWide,Cell.ok]
 rename_i e hu;rw[hu] at U;refine one ?_ dI;cases v<;>simp_all[Value.cells,Cell.okWide,Cell.ok]
 rename_i e hu;rw[hu] at U;refine one ?_ dI;cases v<;>simp_all[Value.cells,Cell.okWide,Cell.ok]
 rename_i fs hu;rw[hu] at U;obtain⟨cs,hc,_⟩:=U;exact agg ⟨cs,hc⟩ dI
 rename_i n e hu;rw[hu] at U;obtain⟨cs,hc,_⟩:=U;exact agg ⟨cs,hc⟩ dI
 cases hl
theorem Xc {ts:List TypeId}(F:Fit N fit)(U:layAll P ts ts=true){r:Reach}{b0:Nat}:∀ (params:List TypeId) (vs:List Value) (T:List (DataW H)) (pl:List MemPlace),(∀ t∈params,t∈ts) ->
  (∀ (j:Nat) t v,params[j]?=some t->vs[j]?=some v->Value.okWide P w r b0 t v)->DataW.TrodAll enc P w base sp held params vs T pl->(∀ d∈T,fit d) ->
  ∃ ps,gI w NoY iU ps vs/\O6 P N params ps/\T.length=params.length
 | [],[],[],_,_,_,_,_=>⟨[],by simp[gI],.nil,rfl⟩
 | t::params,v::vs,d::T,pl,hm,hval,h,hft=>by
  obtain⟨p,q,h1,h2,_⟩:=h;obtain⟨x,hx,hs⟩:=abm F U (hm t aC) (hval 0 t v rfl rfl) h1 (hft d aC);obtain⟨xs,I,J,hl⟩:=Xc F U params vs T q (λt ht=>hm t (by simp[ht])) (λj t v h1 h2=>hval (j+1) t v eP eQ) h2 (λd C=>hft d (by simp[C]));exact⟨x::xs,by unfold gI;exact⟨v,vs,rfl,hx,I⟩,.cons hs J,by simp[hl]⟩
 | [],_::_,_,_,_,_,h,_=>h.elim
 | [],[],_::_,_,_,_,h,_=>h.elim
 | _::_,[],_,_,_,_,h,_=>h.elim
 | _::_,_::_,[],_,_,_,h,_=>h.elim
theorem aaI (F:Fit N fit){f:FuncId}{fn:Func}{s:ChangeSpec}{apart:Bool}{ts:List TypeId}(hB:aiF P ts fn.params.toList=true)(U:s.vars=[]){tb:TypeId}(hres:fn.resultTypes=#[tb])(hb:P.underlying tb=some .bool)
  (hspec:∀ (J:List (DataW H)),J.length=fn.params.toList.length->(s.fn H J).results=[.lit (.bool true)]/\(s.fn H J).args=J/\(s.fn H J).vars=[])
  {G:Nat->Option (List PV)} (hFn:∀ I,O6 P N fn.params.toList I->Fn P G f I (λu=>u=.sb true))
  (W:World) (hG:TD G W NoY) (base:Nat) (args:Array Value) (J gs:List (DataW H)) (before:List MemPlace)
  (hval:∀ (j:Nat) t v,fn.params[j]?=some t->args[j]?=some v->Value.okWide P W .any base t v)
  (hft:∀ d∈J,fit d) (hW:DataW.Whole enc P fn.params.toList s.vars apart W args.toList J gs before) :
  Calls P f args W λe W'=>∃ v,e=.returned v/\s.post enc P fn apart true false false W args v W':=by
 unfold aiF at hB;simp only[Bool.and_eq_true,List.all_eq_true] at hB;obtain⟨⟨hl,hts⟩,hp⟩:=hB
 have hp:∀ t∈fn.params.toList,t∈ts/\P.readableRec t=true/\t<P.types.size:=λt ht=>by
  have:=hp t ht;rw[Nat.blt_eq] at this;exact⟨by simpa using this.1.1,this.1.2,this.2⟩
 have hW0:=hW;obtain⟨pa,pv,hA,hV,hbef,_,_⟩:=hW;obtain⟨I,hr,hs,hlen⟩:=Xc F hts fn.params.toList args.toList J pa (λt ht=>(hp t ht).1) (λj t v h1 h2=>hval j t v eP eQ) hA hft;obtain⟨_,C⟩:=hFn I hs W NoY args.toList hG (λ_ h=>h.elim) hr;refine Calls.mono C λe W' h=>?_;obtain⟨cv,v,rfl,rfl,hrep,hchg⟩:=h;have hcv:=KT hrep;subst hcv;refine⟨.bool true,rfl,?_⟩;rw[U] at hV
 have hgs:gs=[]/\pv=[]:=by
  cases gs with
  | nil=>exact⟨rfl,hV⟩
  | cons g gs=>exact hV.elim
 obtain⟨rfl,rfl⟩:=hgs;obtain⟨s1,s2,s3⟩:=hspec J hlen;have T:∀ p∈before,p.block<W.heap.size:=λp hp=>by simpa using hW0.lt p hp
 unfold ChangeSpec.post;refine⟨J,[],before,[],pa,[],hW0,?_,?_,?_,hchg.below.frame _,λh=>by cases h⟩
 rw[List.append_nil,s1,hres];refine⟨[],[],⟨1,?_⟩,rfl,rfl⟩;simp[DataW.trod,hb,Value.cells]
 rw[List.append_nil,s2];exact WX hl hchg.below _ _ _ _ (λt ht=>(hp t ht).2) (λx hx=>T x (by rw[hbef];simp[hx])) hA
 rw[List.append_nil,s3,U];rfl
end
section
variable {P:Program}{N:Nat}{t e:TypeId}{cs:List PV}{p:PV}
theorem Sn.X7 {k:IntKind}(hu:P.underlying t=some (.int k))(h:Sn P N t cs):∃ n,cs=[.si k n]/\(Lit.int k n).wf=true:=by
 cases h with
 | int h1 h2=>rw[hu] at h1;cases h1;exact⟨_,rfl,h2⟩
 | _=>simp_all
theorem Sn.ZW (hu:P.underlying t=some .bool)(h:Sn P N t cs):∃ b,cs=[.sb b]:=by
 cases h with
 | bool h1=>exact⟨_,rfl⟩
 | _=>simp_all
theorem Sn.acB (hu:P.underlying t=some .string)(h:Sn P N t cs):∃ s,cs=[.str s]/\s.size<=N:=by
 cases h with
 | str h1 h2=>exact⟨_,rfl,h2⟩
 | _=>simp_all
theorem Sn.qy (hu:P.underlying t=some (.slice e))(h:Sn P N t cs):∃ U,cs=[.sl (P.cellsOf e) U false]/\(∀ r∈U,Sn P N e r)/\U.length<=N:=by
 cases h with
 | sl h1 h2 T=>rw[hu] at h1;cases h1;exact⟨_,rfl,h2,T⟩
 | _=>simp_all
theorem Sn.kY {U:Array Field}(hu:P.underlying t=some (.struct U))(h:Sn P N t cs):SnL P N (U.toList.map (·.type)) cs:=by
 cases h with
 | struct h1 h2=>rw[hu] at h1;cases h1;exact h2
 | _=>simp_all
theorem Sn.Ub {n:Nat}(hu:P.underlying t=some (.array n e))(h:Sn P N t cs):SnL P N (List.replicate n e) cs:=by
 cases h with
 | arr h1 h2=>rw[hu] at h1;cases h1;exact h2
 | _=>simp_all
theorem SnL.FO {ts:List TypeId}(h:SnL P N (t::ts) cs):∃ a b,cs=a++b/\Sn P N t a/\SnL P N ts b:=by
 cases h with
 | cons h1 h2=>exact⟨_,_,rfl,h1,h2⟩
theorem SnL.nH (h:SnL P N [] cs):cs=[]:=by cases h;rfl
theorem SnV.acC (U:lK P t=true)(h:SnV P N t p):∃ cs,p=.agg cs/\Sn P N t cs:=by
 cases h with
 | one h1 h2=>rw[U] at h2;cases h2
 | agg h1 h2=>exact⟨_,rfl,h1⟩
theorem SnV.inv_one (U:lK P t=false)(h:SnV P N t p):Sn P N t [p]:=by
 cases h with
 | one h1 h2=>exact h1
 | agg h1 h2=>rw[U] at h2;cases h2
theorem O6.FO {ts:List TypeId}{ps:List PV}(h:O6 P N (t::ts) ps):∃ a b,ps=a::b/\SnV P N t a/\O6 P N ts b:=by
 cases h with
 | cons h1 h2=>exact⟨_,_,rfl,h1,h2⟩
theorem O6.nH {ps:List PV}(h:O6 P N [] ps):ps=[]:=by cases h;rfl
end
end Go.Pv
namespace Go.Pv
open Go
def Xd:List PV->Bool
 | []=>true
 | v::vs=>(match v with
  | .bool _|.sb _|.int _ _|.si _ _|.str _|.sl _ _ _|.pp _|.GU|.Un=>true
  | .fn _ []=>true
  | _=>false)&&Xd vs
def ahL (S:iW)(b c:Nat)(E:Env):Env :=
 match jk E.st b with
 | some (.nor sz rows r row)=>(match jD row c with
  | .os id r0 n=>(match jk E.st id with
   | some (.arr _ z es)=>⟨E.tmps,oH (oH E.st id (some (.arr true z es))) b (some (.nor sz rows r (nY row c (.sl z (S.sub es r0 n) false)))),E.next⟩
   | _=>E)
  | _=>E)
 | _=>E
def aeY (S:iW)(b:Nat):Nat->Nat->Env->Env
 | _,0,E=>E
 | c,k+1,E=>aeY S b (c+1) k (ahL S b c E)
def opO (S:iW)(t:Nat)(E:Env)(K:Env->Prop):Prop :=
 match jD E.tmps t with
 | .lp b r _=>(match jk E.st b with
  | some (.arr false sz rows)=>S.row rows r λrow=>K ⟨E.tmps,oH E.st b (some (.nor sz rows r row)),E.next⟩
  | _=>False)
 | _=>False
def aiQ (S:iW)(b:Nat)(E:Env)(K:Env->Prop):Prop :=
 match jk E.st b with
 | some (.nor sz rows r row)=>bif Xd row then wkC S row λrow=>K ⟨E.tmps,oH E.st b (some (.arr false sz (S.Oc rows r row))),E.next⟩ else False
 | _=>False
def clO (S:iW)(b:Nat)(E:Env)(K:Env->Prop):Prop :=
 match jk E.st b with
 | some (.nor _ _ _ row)=>aiQ S b (aeY S b 0 (oG row) E) K
 | _=>False
inductive Cw where
 | cv (c:Cv)
 | op (t:Nat)
 | cl (b:Nat)
def cwK (S:iW):List Cw->Env->(Env->Prop)->Prop
 | [],E,K=>K E
 | .cv c::l,E,K=>cwK S l (cv1 S c E) K
 | .op t::l,E,K=>opO S t E λE=>cwK S l E K
 | .cl b::l,E,K=>clO S b E λE=>cwK S l E K
section
variable {P:Program}{T T' : Tab}
theorem Vh {w:World}{Y:Nat->Prop}{σ:Sg}:∀ (ps:List PV),Xd ps=true->(∀ p∈ps,tu p=true/\∀ v,Rep w Y σ p v->Rep w Y iU p v)
 | [],_=>by simp
 | p::ps,h=>by
  simp only[Xd,Bool.and_eq_true] at h;intro q hq;rcases List.mem_cons.1 hq with rfl|hq
  ·have h1:=h.1;cases q
   case fn f cs=>
    cases cs with
    | nil=>
     refine⟨rfl,λv hv=>?_⟩;unfold Rep at hv |-;obtain⟨zs,e1,U⟩:=hv;unfold gI at U;subst U;exact⟨[],e1,by unfold gI;rfl⟩
    | cons c cs=>simp at h1
   all_goals first|(simp at h1;done)|exact⟨rfl,λv hv=>by unfold Rep at hv |-;exact hv⟩
  exact Vh ps h.2 q hq
theorem ahM {t b r c sz:Nat}{E:Env}{rows:List (List PV)}{row:List PV}(ht:jD E.tmps t=.lp b r c)(I:jk E.st b=some (.arr false sz rows))(hr:rows[r]?=some row):Ent T E ⟨E.tmps,oH E.st b (some (.nor sz rows r row)),E.next⟩:=by
 rintro C a w ⟨⟨Y,σ,H⟩,hd⟩
 refine⟨⟨Y,σ,?_⟩,hd⟩;have J:=H.vals.get _ _ t;rw[ht] at J;unfold Rep at J;obtain⟨l,hl,_⟩:=J;have hB:=gW.yR H (λ_ _ h=>h) I hl;unfold gW at hB;obtain⟨h1,h2,h3,h4,h5,h6,h7⟩:=hB
 have U:r<rows.length:=by
  by_cases hh:r<rows.length
  exact hh
  simp[List.getElem?_eq_none (Nat.le_of_not_lt hh)] at hr
 have g:=jw.row rows _ r row h5 hr;refine H.update I hl (h6 rfl) rfl rfl rfl rfl (λ_ _=>rfl) (λ_ _ h=>by cases h) λ_=>?_;unfold gW;exact⟨h1,h2,h3,h4,⟨U,g.1.1⟩,λi x hx _=>jw.row rows _ i x h5 hx,jo.keep row ⟨λ_ _ _=>rfl,λ_ _ h=>h,Nat.le_refl _,λ_ _ h=>by cases h⟩ (λ_=>rfl) _ g.2,h6 rfl⟩
theorem acH {C:Ctx T}{w:World}{Y:Nat->Prop}{σ:Sg}{ps:List PV}{vs:List Value}{st:St}{n b sz r:Nat}{rows:List (List PV)}{row:List PV}(H:SW C w Y σ ps vs st n)(U:jk st b=some (.nor sz rows r row)):∃ l,σ b=some l/\gW w Y σ l (.nor sz rows r row):=by
 rcases H.store.blk b _ U with h|⟨_,h⟩
 exact h
 cases h
theorem agD (b c:Nat)(E:Env):Ent T E (ahL (iW.jI P T') b c E):=by
 rintro C a w ⟨⟨Y,σ,H⟩,hd⟩
 unfold ahL
 split
 rename_i sz rows r row J
 split
 rename_i id r0 m hp
 split
 rename_i ro z I hb;obtain⟨Y',H1,g,hY⟩:=H.freeze hb (.inr ⟨ro,z,I,rfl,rfl⟩);refine⟨⟨Y',σ,?_⟩,hd⟩;have hne:¬ id=b:=by intro e;rw[e,J] at hb;cases hb
 have U:jk (oH E.st id (some (.arr true z I))) b=some (.nor sz rows r row):=by rw[iQ,if_neg hne];exact J
 obtain⟨l,hl,hB⟩:=acH H1 U;have hB0:=hB;unfold gW at hB;obtain⟨h1,h2,h3,h4,⟨h5,h6⟩,h7,h8,h9⟩:=hB;refine H1.update U hl h9 rfl rfl rfl rfl (λ_ _=>rfl) (λ_ _ h=>by cases h) λ_=>?_;unfold gW;refine⟨h1,h2,h3,h4,⟨h5,by simpa [rM] using h6⟩,h7,jo.pI _ _ _ (λv hv=>?_) h8,h9⟩;rw[hp] at hv;have hb' : jk (oH E.st id (some (.arr true z I))) id=some (.arr true z I):=by rw[iQ,if_pos rfl]
 obtain⟨x,cap,ev,hn,hlen,hr⟩:=G9 hv (H1.store.blk id _ hb');show Rep w Y' σ (.sl z ((I.drop r0).take m) false) _;unfold Rep;refine⟨x,m,cap,ev,hlen,hn,(λh=>by cases h),hr.imp _root_.id λ⟨b2,o,e,hlt,⟨l,hl2,e2⟩,hR⟩=>⟨b2,o,e,⟨hlt,by rw[e2];exact g l hl2⟩,hR⟩⟩
 exact⟨⟨Y,σ,H⟩,hd⟩
 exact⟨⟨Y,σ,H⟩,hd⟩
 exact⟨⟨Y,σ,H⟩,hd⟩
theorem acI (b:Nat):∀ (k c:Nat) (E:Env),Ent T E (aeY (iW.jI P T') b c k E)
 | 0,_,E=>Ent.refl E
 | k+1,c,E=>(agD b c E).trans (acI b k (c+1) _)
theorem agE {b sz r:Nat}{E:Env}{rows:List (List PV)}{row U : List PV}(hb:jk E.st b=some (.nor sz rows r row))(hn:Xd row=true)(hl:U.length=row.length)(hc:iT row=true->iT U=true)
  (hw:∀ (w:World) (Y:Nat->Prop) (σ:Sg) (vs:List Value),gI w Y σ row vs->gI w Y σ U vs):Ent T E ⟨E.tmps,oH E.st b (some (.arr false sz (rows.set r U))),E.next⟩:=by
 rintro C a w ⟨⟨Y,σ,H⟩,hd⟩
 refine⟨⟨Y,σ,?_⟩,hd⟩;obtain⟨l,hs,hB⟩:=acH H hb;unfold gW at hB;obtain⟨h1,h2,h3,h4,⟨h5,h6⟩,h7,h8,h9⟩:=hB;refine H.update hb hs h9 rfl rfl rfl rfl (λ_ _=>rfl) (λ_ _ h=>by cases h) λ_=>?_;have hcell:iT row=true:=by rw[qH];exact λp hp=>(Vh (w:=w) (Y:=Y) (σ:=σ) row hn p hp).1
 have h8' : jo w Y iU l.cb row (l.co+r*sz):=by
  rw[jo.iff] at h8 |-;intro i p hi;obtain⟨v,hv,hp⟩:=h8 i p hi;exact⟨v,hv,(Vh row hn p (List.mem_of_getElem? hi)).2 v hp⟩
 obtain⟨us,g,hu2⟩:=h8'.vals;have I : jo w Y iU l.cb U (l.co+r*sz):=jo.Jz _ _ _ (hw w Y iU us g) hu2;unfold gW;refine⟨h1,h2,h3,⟨by simpa using h4.1,by simpa using h4.2⟩,?_,λ_=>h9,λh=>by cases h⟩;rw[jw.iff];intro i x hi;rw[List.getElem?_set] at hi
 by_cases J:r=i
 subst J;rw[if_pos rfl,if_pos h5] at hi;cases hi;exact⟨⟨by rw[hl];exact h6,hc hcell⟩,I⟩
 rw[if_neg J] at hi;exact h7 i x hi λe=>J e.symm
theorem agF {t:Nat}{E:Env}{K:Env->Prop}(h:opO (iW.jI P T') t E K):∃ F,Ent T E F/\K F:=by
 unfold opO at h
 split at h
 rename_i b r c ht
 split at h
 rename_i sz rows U;obtain⟨row,hr,h⟩:=h;exact⟨_,ahM ht U hr,h⟩
 exact h.elim
 exact h.elim
theorem agG {b:Nat}{E:Env}{K:Env->Prop}(h:clO (iW.jI P T') b E K):∃ F,Ent T E F/\K F:=by
 unfold clO at h
 split at h
 rename_i sz rows r row hb;have h1:Ent T E (aeY (iW.jI P T') b 0 (oG row) E):=acI b _ 0 E;generalize aeY (iW.jI P T') b 0 (oG row) E=E1 at h h1;unfold aiQ at h
 split at h
 rename_i g J r2 U I
 cases hn:Xd U with
 | false=>rw[hn] at h;exact h.elim
 | true=>
  rw[hn] at h;obtain⟨C,g1,g2,g3,g4,_⟩:=Aw h;exact⟨_,h1.trans (agE I hn g1 g2 g3),g4⟩
 exact h.elim
 exact h.elim
theorem Uc:∀ (l:List Cw) {E:Env} {K:Env->Prop},cwK (iW.jI P T') l E K->∃ F,Ent T E F/\K F
 | [],E,K,h=>⟨E,Ent.refl E,h⟩
 | .cv c::l,E,K,h=>by
  obtain⟨F,h1,h2⟩:=Uc l h;exact⟨F,(acA (P:=P) (T':=T') c E).trans h1,h2⟩
 | .op t::l,E,K,h=>by
  obtain⟨F,h1,h2⟩:=agF (T:=T) h;obtain⟨G,U,J⟩:=Uc l h2;exact⟨G,h1.trans U,J⟩
 | .cl b::l,E,K,h=>by
  obtain⟨F,h1,h2⟩:=agG (T:=T) h;obtain⟨G,U,J⟩:=Uc l h2;exact⟨G,h1.trans U,J⟩
variable {S:iW}(hS:S=iW.jI P T)
include hS
theorem aeZ {ci:Nat}{U:Env}{A:Post->Prop}{B:Env->Prop}{Q:Post}(l:List Cw)(h:A (Iw (λE=>cwK S l E B) Q)):S.seq ci U A B Q:=by
 subst hS;refine⟨_,h,λn E h=>?_⟩
 cases n with
 | zero=>exact Uc l h
 | succ n=>exact⟨E,Ent.refl E,h⟩
end
end Go.Pv
namespace Go.Pv
open Go
section
variable {P:Program}{T:Tab}{S:iW}{M:iG}{α β σ ρ:Type}{r:ρ}
theorem d_x {I F:σ->Env}{k:σ->Option ρ}{s:σ}{E:Env}(hk:∀ s,I s=F s)(O:k s=some r)(e:E=F s:=by(conv=>lhs;cbv)<;>(try simp only[q])<;>(try rfl)<;>(try simp only[eL,q])<;>(try rfl)<;>(try (subst hM;rfl))):∃ s,k s=some r/\E=I s:=⟨s,O,e.trans (hk s).symm⟩
theorem d_l {u v:PV}(e:u=v:=by simp only[q];try first|rfl|simp[Ap,eI,eB,eL,eS,q]):LeP u v:=Ve e
theorem lC {α:Sort _}{u v:α}(e:u=v:=by simp only[q];try first|rfl|simp[Ap,eI,eB,eL,eS,q]):u=v:=e
theorem TF (hS:S=iW.jI P T)(hT:jq P T)(hW:Ci P){b:Code}{Q:Post}{E:Env}{step:σ->(σ->Option ρ)->Option ρ}{U:σ}(cvs:List Cv)(keep:List Nat)(F:σ->Env)(O:gK step U=some r)
  (h:∀ (I:σ->Env) (k:σ->Option ρ) (s:σ),(∀ s,I s=F s)->step s k=some r->∀ e,e=F s->I4 T S b (Iw (λC=>∃ J,k J=some r/\GV T.qf keep (wkE (Jv S cvs C))=I J) Q) e) (g:GV T.qf keep (wkE (Jv S cvs E))=F U:=by(conv=>lhs;cbv)<;>(try simp only[q])<;>(try rfl)):S.loop b Q E:=JL hS hT hW cvs keep F O g h
theorem zn (hS:S=iW.jI P T){k:Nat}{args as bs:List PV}{cargs:List PV}{E:Env}{K:PV->Env->Prop}{g:Option α}{v:α->PV}{kk:α->Option ρ}(O:bnd g kk=some r)(hF:∀ y,g=some y->Fn P T.gl k cargs (λu=>u=v y))(h:∀ y,kk y=some r->K (v y) E)(ha:as=cargs:=by rfl):S.Sl k args as bs E K:=Yb hS O hF (le_eq ha) h
theorem Je (hS:S=iW.jI P T){k:Nat}{args:List PV}{cargs:List PV}{K:PV->Prop}{g:Option α}{v:α->PV}{kk:α->Option ρ}(O:bnd g kk=some r)(hF:∀ y,g=some y->Fn P T.gl k cargs (λu=>u=v y))(h:∀ y,kk y=some r->K (v y))(ha:args=cargs:=by rfl):S.Uo k args K:=OE hS O hF (le_eq ha) h
theorem acJ (hS:S=iW.jI P T)(hT:jq P T)(hW:Ci P){b:Code}{Q:Post}{E:Env}{step:σ->(σ->Option ρ)->Option ρ}{g:σ}(U cvs:List Cv)(keep:List Nat)(F:σ->Env)(O:gK step g=some r)(he:GV T.qf keep (wkE (Jv S U E))=F g)
  (h:∀ (I:σ->Env) (k:σ->Option ρ) (s:σ),(∀ s,I s=F s)->step s k=some r->∀ e,e=F s->I4 T S b (Iw (λE'=>∃ s',k s'=some r/\GV T.qf keep (wkE (Jv S cvs E'))=I s') Q) e):S.loop b Q E:=by
 subst hS;intro C a w hA
 have key:∀ (n:Nat) (s:σ),jv step n s=some r->∀ (C:Ctx T) a w,lL C (F s) a w->Code.rounds P b (lift C Q) n a w:=by
  intro n
  induction n with
  | zero=>intro s h;cases h
  | succ n ih=>
   intro s hs C a w hA;unfold Code.rounds;refine wp_mono (zY hT hW b _ _ (h F (jv step n) s (λ_=>rfl) hs _ rfl) C a w hA) (Hf λE' J w' hA' hq=>?_);obtain⟨j,hj,he⟩:=hq;exact ih j hj C J w' (he ▸ FX keep _ C J w' (JJ _ C J w' (AP (P:=P) (T':=T) cvs E' C J w' hA')))
 exact wp_loop_rounds fuel (key _ g O C a w (he ▸ FX keep _ C a w (JJ _ C a w (AP (P:=P) (T':=T) U E C a w hA))))
theorem EF (hS:S=iW.jI P T){l:Array Oper}{p:Prop}(h:p)(hd:FU T l=true:=by kernel_rfl):S.order l p:=acv hS hd h
end
def Rw (T:Tab)(S:iW)(cvs:List Cv)(rs:List ResultVar)(R:PV->St->Nat->Prop):Post
 | 0,E=>SA T S rs (Jv S cvs E) R
 | 1,E=>SA T S rs (Jv S cvs E) R
 | _+2,_=>False
theorem Lp {P:Program}{T:Tab}(hT:jq P T)(hW:Ci P){k:Nat}{fn:Func}{c:Code}(O:P.funcs[k]?=some fn)(hb:fn.body=some c)
  (hcall:∀ args w,(callFunc k args).run P w=.ok (.enter k args) w) {args:List PV} {st:St} {R:PV->St->Nat->Prop} {m:Nat} (hm:fn.ntmps-args.length=m)
  (cvs:List Cv) (h:∀ S,S=iW.jI P T->I4 T S c (Rw T S cvs fn.results.toList R) ⟨vk args (sF m),st,T.qf⟩) {w:World} {Y:Nat->Prop} {σ:Sg} {U:List Value} (hG:TD T.gl w Y) (hY:∀ b,Y b->b<w.heap.size) (hn:∀ b,T.qf<=b->σ b=none) (I:gI w Y σ args U) (hst:EE w Y σ st) (hnn:lY st=true) (hyk:YOK (xR T w Y σ st)) :
  (callFunc k U.toArray).run P w=.ok (.enter k U.toArray) w /\
  Calls P k U.toArray w λe w'=>∃ cv v st' n' Y' σ',e=.returned cv/\R v st' n'/\SW (xR ⟨λ_=>.bad,T.gl,T.qf,[],0,[],[],none,λ_=>[]⟩ w Y σ st) w' Y' σ' [v] [cv] st' n':=by
 refine⟨hcall _ _,?_⟩;have hlen:=I.length
 let C:Ctx T:=xR T w Y σ st
 have H0:SW C w Y σ (vk args (sF m)) ((U.toArray++Array.replicate (fn.ntmps-U.toArray.size) Go.undef).toList) st T.qf:=by
  refine⟨?_,hst,hn,hY,λ_ h=>h.1,λk h=>⟨hY k h.1,h.2⟩,λk h _=>?_,KL.refl _ w,λb x l h1 h2=>.inr ⟨b,x,l,h1,h2,rfl⟩,hG,⟨Nat.le_refl _,λ_ _=>rfl⟩,Aj.none (FZ st hnn)⟩
  have:(U.toArray++Array.replicate (fn.ntmps-U.toArray.size) Go.undef).toList=U++List.replicate m Go.undef:=by simp[hlen,hm]
  rw[this];exact gI.app _ _ _ _ I (F5 m)
  by_cases hi:Ed σ st k
  exact .inr ⟨h,hi⟩
  exact .inl ⟨h,hi⟩
 have hwp:=zY hT hW c _ _ (h _ rfl) C { tmps:=U.toArray++Array.replicate (fn.ntmps-U.toArray.size) Go.undef,defers:=[] } w ⟨⟨Y,σ,H0⟩,rfl,hyk⟩;refine calls_of_wp O hb (wp_mono hwp ?_)
 have key:∀ (a:Act) (w' : World),(∃ E,lL C E a w'/\SA T (iW.jI P T) fn.results.toList (Jv (iW.jI P T) cvs E) R)->a.defers=[]/\∃ v,(results fn a.tmps).run P w'=.ok v w' /\
   ∃ cv u st' n' Y' σ',Ending.returned v=.returned cv/\R u st' n'/\SW (xR ⟨λ_=>.bad,T.gl,T.qf,[],0,[],[],none,λ_=>[]⟩ w Y σ st) w' Y' σ' [u] [cv] st' n':=by
  rintro a w' ⟨E0,hA0,hr⟩
  obtain⟨⟨Y',σ',H⟩,hd⟩:=AP (P:=P) (T':=T) cvs E0 C a w' hA0;generalize Jv (iW.jI P T) cvs E0=E at *;refine⟨hd.1,?_⟩;unfold SA at hr
  split at hr
  rename_i vs hv;obtain⟨cv,hrun,hrep⟩:=MW hT H hv;have H1:SW C w' Y' σ' [Iy vs] [cv] E.st E.next:=H.rG eF
  obtain⟨Y1,σ1,n',H2,g⟩:=SQ (P:=P) (T':=T) T.own (Iy vs) H1 hrep;have H3:=H2.rG (show gI w' Y1 σ1 [(WA (iW.jI P T) T.own (Iy vs) E.st E.next).1] [cv] by unfold gI;exact⟨_,_,rfl,g,by unfold gI;rfl⟩)
  split at hr
  rename_i v st2 n2 he;rw[he] at H3;obtain⟨h1,h2,h3⟩:=KY T.qf st2 [v];obtain⟨σ2,J,_⟩:=H3.Zm h1 h2 h3;refine⟨cv,hrun,cv,_,_,_,Y1,σ2,rfl,hr,⟨?_,J.store,J.next,J.vJ,J.y0,J.c0,J.wS,J.qm,J.own,J.wU,J.fix,J.nest⟩⟩
  simpa only[Ai] using J.vals
  exact hr.elim
 intro e a w' hq
 cases e with
 | normal=>exact key a w' hq
 | ret=>exact key a w' hq
 | exit n=>obtain⟨E,_,hq⟩:=hq;exact hq.elim
 | _=>exact hq.elim
theorem Ye {P:Program}{T:Tab}(hT:jq P T)(hW:Ci P){k:Nat}{fn:Func}{c:Code}(O:P.funcs[k]?=some fn)(g:fn.body=some c)
  (U:∀ args w,(callFunc k args).run P w=.ok (.enter k args) w) {args:List PV} {st:St} {R:PV->St->Nat->Prop} {m:Nat} (hm:fn.ntmps-args.length=m)
  (cvs:List Cv) (h:∀ S,S=iW.jI P T->I4 T S c (Rw T S cvs fn.results.toList R) ⟨vk args (sF m),st,T.qf⟩) (hyl:T.yl=none:=by rfl):FnS P T.gl k args st T.qf R :=
 λ_ _ _ _ hG hY hn J C I=>Lp hT hW O g U hm cvs h hG hY hn J C I (YOK.none hyl)
theorem yS {P:Program}{T:Tab}(hT:jq P T)(hW:Ci P){k:Nat}{fn:Func}{c:Code}(O:P.funcs[k]?=some fn)(hb:fn.body=some c)
  (U:∀ args w,(callFunc k args).run P w=.ok (.enter k args) w) {args:List PV} {st:St} {v:PV} {st1:St} {n1:Nat} {m:Nat} (hm:fn.ntmps-args.length=m)
  (cvs:List Cv) (h:∀ S R,S=iW.jI P T->(∀ u s n,LeP u v->LeS s st1->n=n1->R u s n)->I4 T S c (Rw T S cvs fn.results.toList R) ⟨vk args (sF m),st,T.qf⟩) (hyl:T.yl=none:=by rfl):FnS P T.gl k args st T.qf (λu s n=>u=v/\s=st1/\n=n1):=by
 have H:=Ye hT hW O hb U hm (hyl:=hyl) (st:=st) (cvs:=cvs) (R:=λu s n=>LeP u v/\LeS s st1/\n=n1) λS hS=>h S _ hS λ_ _ _ h1 h2 g=>⟨h1,h2,g⟩
 intro w Y σ J hG hY hn hr C I;obtain⟨h1,h2⟩:=H w Y σ J hG hY hn hr C I;refine⟨h1,Calls.mono h2 λe w' hh=>?_⟩;obtain⟨cv,u,s,n,Y',σ',he,⟨g,h4,h5⟩,H⟩:=hh;refine⟨cv,v,st1,n,Y',σ',he,⟨rfl,rfl,h5⟩,?_⟩
 have hv:gI w' Y' σ' [v] [cv]:=by
  have:=H.vals;unfold gI at this |-;obtain⟨c,cs,e,h6,h7⟩:=this;cases e;exact⟨_,_,rfl,g.rep _ h6,by unfold gI at h7 |-;exact h7⟩
 exact(H.rG hv).PU (h4.PU w' Y' σ')
end Go.Pv
namespace Go.Pv
open Go
theorem d_R {p:Prop}(h:p:=by intro O;cbv;cases O;first|exact hR _ (Ve rfl)|exact hR _ d_l):p:=h
theorem Z4 {p:Prop}(h:p:=by intro _ O;cbv;cases O;first|exact hR _ (Ve rfl)|exact hR _ d_l):p:=h
theorem ahN {p:Prop}(h:p:=by cases O;first|exact hR _ (Ve rfl)|exact hR _ d_l):p:=h
theorem vF {p:Prop}(h:p:=by intro O;cbv;exact d_x dA O):p:=h
theorem xZ {p:Prop}(h:p:=by intro _ O;cbv;exact d_x dA O):p:=h
theorem vw {p:Prop}(h:p:=by exact d_x dA O):p:=h
abbrev sI (x:Int):PV:=.si .i64 x
abbrev vR (l:List PV):Option mO:=some (.var false l)
abbrev aR (n:Nat) (l:List (List PV)):Option mO:=some (.arr false n l)
abbrev mI (M:iG) (l:List Int):List (List PV):=M.m Int (eI .i64) l
def stL:Nat->List (Option mO)->St
 | _,[]=>[]
 | i,b::l=>(i,b)::stL (i+1) l
def aiR:List (Option mO)->Nat
 | []=>0
 | _::l=>aiR l+1
def f3 (n:Nat)(ts:List (Nat×PV))(bs:List (Option mO)):Env:=⟨agz 0 n ts,stL 0 bs,aiR bs⟩
def aiS:List Nat->List PV->List (Nat×PV)
 | k::ks,v::vs=>(k,v)::aiS ks vs
 | _,_=>[]
def f4 (n:Nat)(vs:List PV)(bs:List (Option mO))(ks:List Nat):Env:=f3 n (aiS ks vs) bs
section
variable {P:Program}{T:Tab}{S:iW}{M:iG}{α β σ ρ:Type}{r:ρ}
theorem nZ {c c' : Bool}{fa fb:Option ρ}{A B:Unit->Prop}(ha:fa=some r->A ())(hb:fb=some r->B ())(hS:S=iW.jI P T:=by assumption)(O:br c' fa fb=some r:=by exact O)(e:c=c':=by simp only[q];try first|rfl|simp[Ap,eI,eB,eL,eS,q]):S.br c A B:=Ru hS O e ha hb
theorem vP {c c' : Bool}{fa fb:Option ρ}{A B:Unit->Prop}(ha:fa=some r->A ())(hb:fb=some r->B ())(hS:S=iW.jI P T:=by assumption)(O:br c' fa fb=some r:=by exact O)(e:c=c':=by rfl):S.br c A B:=Ru hS O e ha hb
theorem d_I {es:List (List PV)}{l:List α}{e:α->List PV}{i i' : Int}{k:α->Option ρ}{K:List PV->Prop}(h:∀ x,k x=some r->K (e x))(hS:S=iW.jI P T:=by assumption)(hM:M=kX:=by assumption)(O:bnd (jl l i') k=some r:=by exact O)(he:es=M.m α e l:=by rfl)(hi:i=i':=by rfl):S.idx es i K:=aeW hS hM O he hi h
theorem DR {ci:Nat}{U:Env}{A:Post->Prop}{B:Env->Prop}{Q:Post}{rest:σ->Option ρ}{body:(σ->Option ρ)->Option ρ}(cvs:List Cv)(keep:List Nat)(F:σ->List Nat->Env)(O:jn rest body=some r)
  (h:∀ (I:σ->Env) (k:σ->Option ρ),(∀ s,I s=F s keep)->body k=some r->A (Iw (λE=>∃ s,k s=some r/\GV T.qf keep (wkE (Jv S cvs E))=I s) Q)) (h2:∀ s,rest s=some r->B (F s keep)) (hS:S=iW.jI P T:=by assumption):S.seq ci U A B Q:=ag6 hS cvs keep (λs=>F s keep) O h h2
theorem d_L (hT:jq P T){b:Code}{Q:Post}{E:Env}{step:σ->(σ->Option ρ)->Option ρ}{U:σ}(cvs:List Cv)(keep:List Nat)(F:σ->List Nat->Env)(O:gK step U=some r)
  (h:∀ (I:σ->Env) (k:σ->Option ρ) (s:σ),(∀ s,I s=F s keep)->step s k=some r->∀ e,e=F s keep->I4 T S b (Iw (λC=>∃ J,k J=some r/\GV T.qf keep (wkE (Jv S cvs C))=I J) Q) e) (g:GV T.qf keep (wkE (Jv S cvs E))=F U keep:=by(conv=>lhs;cbv)<;>(try simp only[q])<;>(try rfl)) (hS:S=iW.jI P T:=by assumption) (hW:Ci P:=by exact wf):S.loop b Q E:=TF hS hT hW cvs keep (λs=>F s keep) O h g
end
theorem ES {P:Program}{T:Tab}(hT:jq P T){k:Nat}{fn:Func}{c:Code}(O:P.funcs[k]?=some fn)
  (U:∀ args w,(callFunc k args).run P w=.ok (.enter k args) w) {args:List PV} {v:PV} {m:Nat}
  {M:iG} (h:∀ S R,S=iW.jI P T->(∀ u,LeP u v->R u)->SF M S->I4 T S c (af2 T S fn.results.toList R) ⟨vk args (sF m),[],0⟩) (hM:M=kX:=by assumption) (hp:T.qf=0:=by rfl) (hW:Ci P:=by exact wf) (J:fn.body=some c:=by rfl) (I:fn.ntmps-args.length=m:=by rfl) (hyl:T.yl=none:=by rfl):Fn P T.gl k args (λu=>u=v):=aeV hT hp hW O J U I (hyl:=hyl) λS R hS hR=>h S R hS hR (sf hM hS)
end Go.Pv
