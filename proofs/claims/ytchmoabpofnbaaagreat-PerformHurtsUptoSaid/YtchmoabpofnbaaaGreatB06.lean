import Derived.LoopN
import Derived.OpenShut
import Derived.DataReads
import Derived.Carry
import Derived.Handed
import Derived.JoinedCond
import Derived.Test.YtchmoabpofnbaaaGreatB05
set_option linter.all false
namespace Go.Pv
open Go
def adt (T:Tab)(S:jb)(b:Code)(Q:Post):Nat->Env->Prop
 | 0,_=>False
 | n+1,E=>Hz T S b (GR (λE=>adt T S b Q n E) Q) E
theorem Gh {P:Program}{T:Tab}{C:Ctx T}{b:Code}{Q:Post}{nx:Env->Prop}{n:Nat}(hb:∀ E a w,lI C E a w->nx E->Code.rounds P b (lift C Q) n a w):∀ e a w,lift C (GR nx Q) e a w->Exit.then (Code.rounds P b (lift C Q) n) (lift C Q) e a w:=by
 intro e a w h
 cases e with
 | normal=>obtain⟨E,hA,hq⟩:=h;exact hb E a w hA hq
 | ret=>obtain⟨E,hA,hq⟩:=h;exact⟨E,hA,hq⟩
 | exit n=>obtain⟨E,hA,hq⟩:=h;exact⟨E,hA,hq⟩
 | _=>exact h.elim
theorem TV {P:Program}{T:Tab}(hT:jv P T)(hW:Bg P){b:Code}{Q:Post}:∀ (n:Nat) (E:Env),adt T (jb.jJ P T) b Q n E->∀ (C:Ctx T) a w,lI C E a w->Code.rounds P b (lift C Q) n a w
 | 0,E,h,_,_,_,_=>h.elim
 | n+1,E,h,C,a,w,hA=>by
  unfold Code.rounds;exact wp_mono (zn hT hW b _ E h C a w hA) (Gh λI J w' U hq=>TV hT hW n I hq C J w' U)
def wkV:PV->PV
 | .int k n=>.si k n
 | .bool b=>.sb b
 | v=>v
def wkB:Option mP->Option mP
 | some (.var ro row)=>some (.var ro (zH wkV row))
 | x=>x
def wkS:St->St
 | []=>[]
 | (b,x)::l=>(b,wkB x)::wkS l
def wkE (E:Env):Env:=⟨zH wkV E.tmps,wkS E.st,E.next⟩
theorem aa3 (c:Nat):∀ st:St,jr (wkS st) c=wkB (jr st c)
 | []=>rfl
 | (b,x)::l=>by
  simp only[wkS,jr]
  cases Nat.beq b c with
  | true=>rfl
  | false=>exact aa3 c l
theorem aa4 {w:World}{Y:Nat->Prop}{σ:Sg}(p:PV)(v:Value)(h:Rep w Y σ p v):Rep w Y σ (wkV p) v:=by
 cases p<;>first|exact h|(unfold wkV;unfold Rep at h |-;exact h)
theorem aa5 {w:World}{Y:Nat->Prop}{σ:Sg}:∀ (ps:List PV) (vs:List Value),gV w Y σ ps vs->gV w Y σ (zH wkV ps) vs
 | [],vs,h=>h
 | p::ps,vs,h=>by
  unfold gV at h;obtain⟨v,U,rfl,h1,h2⟩:=h;simp only[zH];unfold gV;exact⟨v,U,rfl,aa4 p v h1,aa5 ps U h2⟩
theorem SW.Ov {T:Tab}{C:Ctx T}{w:World}{Y:Nat->Prop}{σ:Sg}{ps:List PV}{vs:List Value}{st st' : St}{n:Nat}(H:SW C w Y σ ps vs st n)
  (h:∀ b,jr st' b=jr st b\/∃ ro row U,jr st b=some (.var ro row)/\jr st' b=some (.var ro U)/\U.length=row.length/\∀ cb o,jA w Y σ cb row o->jA w Y σ cb U o):SW C w Y σ ps vs st' n:=by
 have J : ∀ b x,jr st' b=some x->∃ y,jr st b=some y:=by
  intro b x hx;rcases h b with e|⟨ro,row,U,e1,e2,_⟩
  exact⟨x,by rw[<- e];exact hx⟩
  exact⟨_,e1⟩
 have ow:∀ b r c I sz g,nz st' b r c I sz g->nz st b r c I sz g:=by
  rintro b r c I sz g ⟨sz0,rows,row,h1,h2⟩
  rcases h b with e|⟨ro,row1,U,e1,e2,_⟩
  exact⟨sz0,rows,row,by rw[<- e];exact h1,h2⟩
  rw[e2] at h1;cases h1
 refine⟨H.vals,⟨?_,?_⟩,H.next,H.vw,H.y0,H.c0,H.wI,H.qh,?_,H.wJ,H.fix,⟨?_,?_,?_,?_⟩⟩
 intro b x hx;rcases h b with e|⟨ro,row,U,e1,e2,e3,e4⟩
 exact H.store.blk b x (by rw[<- e];exact hx)
 rw[e2] at hx;cases hx;rcases H.store.blk b _ e1 with ⟨l,hl,hB⟩|⟨_,hx⟩
 refine .inl ⟨l,hl,?_⟩;unfold iw at hB |-;exact⟨hB.1,by rw[e3];exact hB.2.1,by rw[e3];exact hB.2.2.1,e4 _ _ hB.2.2.2.1,hB.2.2.2.2⟩
 cases hx
 intro b b' x x' l l' hx hx' hl hl' e;obtain⟨y,hy⟩:=J b x hx;obtain⟨y',hy'⟩:=J b' x' hx';exact H.store.inj b b' y y' l l' hy hy' hl hl' e
 intro b x l hx hl;obtain⟨y,hy⟩:=J b x hx;exact H.own b y l hy hl
 intro b r c I sz g ho;exact H.nest.rep _ _ _ _ _ _ (ow _ _ _ _ _ _ ho)
 intro b r c I sz g ho;exact H.nest.old _ _ _ _ _ _ (ow _ _ _ _ _ _ ho)
 intro b r c I sz g b' r' c' h2 sz' es' ho ho' e;exact H.nest.one _ _ _ _ _ _ _ _ _ _ _ _ (ow _ _ _ _ _ _ ho) (ow _ _ _ _ _ _ ho') e
 intro b r c I sz g b' x l ho hx hl;obtain⟨y,hy⟩:=J b' x hx;exact H.nest.sep _ _ _ _ _ _ b' y l (ow _ _ _ _ _ _ ho) hy hl
theorem IZ {T:Tab}(E:Env):Ent T E (wkE E):=by
 intro C a w hA;obtain⟨⟨Y,σ,H⟩,U⟩:=hA;refine⟨⟨Y,σ,(H.rP (aa5 _ _ H.vals)).Ov λb=>?_⟩,U⟩;have hk:jr (wkE E).st b=wkB (jr E.st b):=aa3 b E.st;rw[hk]
 cases hb:jr E.st b with
 | none=>exact .inl rfl
 | some x =>
  cases x with
  | var ro row =>
   refine .inr ⟨ro,row,zH wkV row,rfl,rfl,by rw[BR];simp,λcb o h=>?_⟩;rw[BR];exact jA.map aa4 row o h
  | _=>exact .inl rfl
theorem jA.pI {w:World}{Y:Nat->Prop}{σ:Sg}{b:Nat}{p:PV}:∀ (ps:List PV) (o t:Nat),(∀ v,Rep w Y σ (jD ps t) v->Rep w Y σ p v)->jA w Y σ b ps o->jA w Y σ b (oq ps t p) o
 | [],o,t,_,h=>by simpa [oq] using h
 | q::ps,o,0,hp,h=>by
  unfold jA at h;obtain⟨⟨v,h1,h2⟩,U⟩:=h;simp only[oq];unfold jA;exact⟨⟨v,h1,hp v h2⟩,U⟩
 | q::ps,o,t+1,hp,h=>by
  unfold jA at h;obtain⟨h1,U⟩:=h;simp only[oq];unfold jA;exact⟨h1,jA.pI ps (o+1) t hp U⟩
inductive Cv where
 | tO (t z:Nat)
 | tN (t z:Nat)
 | tS (t z:Nat)
 | cO (b c z:Nat)
 | cS (b c z:Nat)
 | tR (t:Nat)
 | tF (t:Nat)
 | tP (t:Nat)
 | cF (b c:Nat)
 | cR (b c:Nat)
def cvS (z:Nat)(v:PV):PV :=
 match v with
 | .sl a es f=>(match f with
  | true=>(match es with
   | []=>.sl z [] false
   | _::_=>.sl a es f)
  | false=>.sl a es f)
 | v=>v
theorem aa6 {w:World}{Y:Nat->Prop}{σ:Sg}(z:Nat)(p:PV)(v:Value)(h:Rep w Y σ p v):Rep w Y σ (cvS z p) v:=by
 unfold cvS
 split
 split
 split
 unfold Rep at h |-;obtain⟨a,len,cap,e,hl,hc,_,_⟩:=h;exact⟨a,len,cap,e,hl,hc,(λh=>by cases h),.inl rfl⟩
 exact h
 exact h
 exact h
def cvO (z n:Nat)(v:PV):Option PV :=
 match v with
 | .sl _ es f=>(match f with
  | true=>(match es with
   | []=>some (.os n 0 0)
   | _::_=>none)
  | false=>none)
 | _=>none
theorem WI {w:World}{Y:Nat->Prop}{σ:Sg}{z n:Nat}{p q:PV}(e:cvO z n p=some q)(v:Value)(h:Rep w Y σ p v):Rep w Y σ q v:=by
 unfold cvO at e
 split at e
 split at e
 split at e
 cases e;unfold Rep at h |-;obtain⟨U,len,cap,e,hl,hc,O,_⟩:=h;have hl:len=0:=by simpa using hl
 have hc:=O rfl;subst hl;rw[e,hc];exact .inr ⟨rfl,U,rfl⟩
 cases e
 cases e
 cases e
def nHc:List PV->List PV
 | []=>[]
 | v::vs=>(match v with
  | .hc=>.sb false
  | v=>v)::nHc vs
theorem plH {S:jb}{w:World}{Y:Nat->Prop}{σ:Sg}:∀ (ps:List PV) (vs:List Value) (r:List PV×Dl),pur S (λ_=>none) (nHc ps)=some r->gV w Y σ ps vs->gV w Y iW ps vs
 | [],vs,_,_,h=>by unfold gV at h |-;exact h
 | p::ps,vs,r,hp,h=>by
  unfold gV at h;obtain⟨v,U,rfl,h1,h2⟩:=h;unfold nHc at hp;unfold pur at hp
  cases hq:pur S (λ_=>none) (nHc ps) with
  | none=>rw[hq] at hp;cases hp
  | some q =>
   rw[hq] at hp;simp only at hp;have T:=plH ps U q hq h2;have fin:Rep w Y iW p v->gV w Y iW (p::ps) (v::U):=λh=>by unfold gV;exact⟨v,U,rfl,h,T⟩
   cases p
   case os=>simp at hp
   case fn f cs =>
    cases cs with
    | nil=>exact fin dw
    | cons _ _=>simp at hp
   all_goals first
    | (simp at hp;done)
    | exact fin bD
def cv1 (S:jb):Cv->Env->Env
 | .tO t z,E=>(match cvO z E.next (jD E.tmps t) with
  | some v=>⟨oq E.tmps t v,oH E.st E.next (some (.arr false z [])),E.next+1⟩
  | none=>E)
 | .tN t z,E=>(match cvO z E.next (jD E.tmps t) with
  | some v=>⟨oq E.tmps t v,oH E.st E.next (some (.l7 z [])),E.next+1⟩
  | none=>E)
 | .tS t z,E=>⟨oq E.tmps t (cvS z (jD E.tmps t)),E.st,E.next⟩
 | .cO b c z,E=>(match jr E.st b with
  | some (.var ro row)=>(match cvO z E.next (jD row c) with
   | some v=>⟨E.tmps,oH (oH E.st b (some (.var ro (oq row c v)))) E.next (some (.arr false z [])),E.next+1⟩
   | none=>E)
  | _=>E)
 | .cS b c z,E=>(match jr E.st b with
  | some (.var ro row)=>⟨E.tmps,oH E.st b (some (.var ro (oq row c (cvS z (jD row c))))),E.next⟩
  | _=>E)
 | .tR t,E=>(match jD E.tmps t with
  | .os b r m=>(match jr E.st b with
   | some (.arr false sz rows)=>⟨oq E.tmps t (.os E.next 0 m),oH (oH E.st b none) E.next (some (.arr false sz (S.sub rows r m))),E.next+1⟩
   | _=>E)
  | _=>E)
 | .tF t,E=>(match jD E.tmps t with
  | .os b r m=>(match jr E.st b with
   | some (.arr _ sz rows)=>⟨oq E.tmps t (.sl sz (S.sub rows r m) false),oH E.st b (some (.arr true sz rows)),E.next⟩
   | some (.l7 sz rows)=>⟨oq E.tmps t (.sl sz (S.fz (S.sub rows r m)) false),oH E.st b none,E.next⟩
   | _=>E)
  | _=>E)
 | .tP t,E=>(match jD E.tmps t with
  | .lv b c=>(match jr E.st b with
   | some (.var _ row)=>(match pur S (λ_=>none) (nHc row) with
    | some _=>⟨oq E.tmps t (.pp (EK c row)),oH E.st b (some (.var true row)),E.next⟩
    | none=>E)
   | _=>E)
  | _=>E)
 | .cF b c,E=>(match jr E.st b with
  | some (.var ro row)=>(match jD row c with
   | .os b' r m=>(match jr E.st b' with
    | some (.arr _ sz rows)=>⟨E.tmps,oH (oH E.st b' (some (.arr true sz rows))) b (some (.var ro (oq row c (.sl sz (S.sub rows r m) false)))),E.next⟩
    | _=>E)
   | _=>E)
  | _=>E)
 | .cR b c,E=>(match jr E.st b with
  | some (.var false row)=>(match jD row c with
   | .os b' r m=>(match jr E.st b' with
    | some (.arr false sz rows)=>⟨E.tmps,oH (oH (oH E.st b' none) E.next (some (.arr false sz (S.sub rows r m)))) b (some (.var false (oq row c (.os E.next 0 m)))),E.next+1⟩
    | _=>E)
   | _=>E)
  | _=>E)
def IE (S:jb):List Cv->Env->Env
 | [],E=>E
 | c::l,E=>IE S l (cv1 S c E)
theorem adu {P:Program}{T T' : Tab}{C:Ctx T}{w:World}{Y:Nat->Prop}{σ:Sg}{vs:List Value}(c:Cv)(E:Env)(H:SW C w Y σ E.tmps vs E.st E.next):∃ Y' σ',SW C w Y' σ' (cv1 (jb.jJ P T') c E).tmps vs (cv1 (jb.jJ P T') c E).st (cv1 (jb.jJ P T') c E).next/\Keep w w Y Y' σ σ':=by
 have K0:Keep w w Y Y σ σ:=Keep.same (ou.refl _)
 have H1:∀ z,SW C w Y σ E.tmps vs (oH E.st E.next (some (.arr false z []))) (E.next+1):=by
  intro z;have H1:=H.empty (id:=E.next) ⟨H.next _ (Nat.le_refl _),H.fix.1⟩ z;have hm:max E.next (E.next+1)=E.next+1:=by omega
  rw[hm] at H1;exact H1
 cases c with
 | tO t z =>
  simp only[cv1]
  split
  rename_i v he;exact⟨Y,σ,(H1 z).rP (gV.pI _ _ _ H.vals (WI he _ (H.vals.get _ _ t))),K0⟩
  exact fO
 | tN t z =>
  simp only[cv1]
  split
  rename_i v he;have H1:=H.ac9 (id:=E.next) ⟨H.next _ (Nat.le_refl _),H.fix.1⟩ (.l7 z);have hm:max E.next (E.next+1)=E.next+1:=by omega
  rw[hm] at H1;exact⟨Y,σ,H1.rP (gV.pI _ _ _ H.vals (WI he _ (H.vals.get _ _ t))),K0⟩
  exact fO
 | tS t z=>exact⟨Y,σ,H.rP (gV.pI _ _ _ H.vals (aa6 z _ _ (H.vals.get _ _ t))),K0⟩
 | cO b c z =>
  simp only[cv1]
  split
  rename_i ro row hb
  split
  rename_i v he;refine⟨Y,σ,(H1 z).Ov λU=>?_,K0⟩
  have hne:¬ E.next=b:=by
   intro e;rcases H.store.blk b _ hb with ⟨l,hl,_⟩|⟨_,hx⟩
   rw[H.next b ah] at hl;cases hl
   cases hx
  simp only[iR]
  by_cases h1:E.next=U
  exact .inl (by simp[h1])
  by_cases h2:b=U
  subst h2;exact .inr ⟨ro,row,oq row c v,by simp[h1,hb],by simp[h1],by simp[rq],λcb o h=>jA.pI _ _ _ (λv=>WI he v) h⟩
  exact .inl (by simp[h1,h2])
  exact fO
  exact fO
 | cS b c z =>
  simp only[cv1]
  split
  rename_i ro row hb;refine⟨Y,σ,H.Ov λU=>?_,K0⟩;simp only[iR]
  by_cases h2:b=U
  subst h2;exact .inr ⟨ro,row,oq row c (cvS z (jD row c)),hb,by simp,by simp[rq],λcb o h=>jA.pI _ _ _ (λv=>aa6 z _ v) h⟩
  exact .inl (by simp[h2])
  exact fO
 | tR t =>
  simp only[cv1];have hg:=H.vals.get _ _ t
  split
  rename_i b r m hp;rw[hp] at hg
  split
  rename_i sz rows hb;obtain⟨σ',H1,h1,k1⟩:=H.ZV hb hg;exact⟨Y,σ',H1.rP (gV.pI _ _ _ H1.vals h1),Keep.same k1⟩
  exact fO
  exact fO
 | tF t =>
  simp only[cv1]
  split
  rename_i b r m hp
  split
  rename_i ro sz rows hb;obtain⟨Y',H1,g,hY⟩:=H.freeze hb (.inr ⟨ro,sz,rows,rfl,rfl⟩);refine⟨Y',σ,H1.rP (gV.pI _ _ _ H1.vals ?_),⟨λ_ _ _=>rfl,λk _=>hY k,Nat.le_refl _,ou.refl _⟩⟩;have hg:=H1.vals.get _ _ t;rw[hp] at hg;have hb' : jr (oH E.st b (some (.arr true sz rows))) b=some (.arr true sz rows):=by rw[iR,if_pos rfl]
  obtain⟨x,cap,ev,hn,hl,hr⟩:=F9 hg (H1.store.blk b _ hb');show Rep w Y' σ (.sl sz ((rows.drop r).take m) false) _;unfold Rep;refine⟨x,m,cap,ev,hl,hn,(λh=>by cases h),hr.imp id λ⟨U,o,e,hlt,⟨l,J,e2⟩,hR⟩=>⟨U,o,e,⟨hlt,by rw[e2];exact g l J⟩,hR⟩⟩
  rename_i sz rows hb;obtain⟨Y',H',h1,h2,h3⟩:=H.aaR hb;have hv:=H.vals.get _ _ t;rw[hp] at hv
  have hr:=BA (P:=P) (T:=T') (Y0:=Y') (lk:=λc=>if c=b then some (.l7 sz rows) else none) H.store (λc x h=>by
    by_cases hc:c=b
    rw[if_pos hc] at h;cases h;rw[hc];exact hb
    rw[if_neg hc] at h;cases h) h3 (λc x l h hl=>by
    by_cases hc:c=b
    rw[hc] at hl;exact h1 l hl
    rw[if_neg hc] at h;cases h) (λc sz2 rows2 h r' row k h' sz' es e1 e2 e3=>by
    by_cases hc:c=b
    rw[if_pos hc] at h;cases h;have ho:nz E.st b r' k h' sz' es:=⟨sz,rows,row,hb,e1,e2,e3⟩;exact⟨⟨(H.nest.rep _ _ _ _ _ _ ho).lt,h2 _ _ _ _ _ ho⟩,(H.nest.rep _ _ _ _ _ _ ho).rows⟩
    rw[if_neg hc] at h;cases h) 1 (.os b r m) (.sl sz ((jb.jJ P T').fz ((jb.jJ P T').sub rows r m)) false) _ (by simp[frz]) hv
  exact⟨Y',σ,H'.rP (gV.pI _ _ _ H'.vals (Rep.keep _ ⟨λ_ _ _=>rfl,λ_ _ h=>h,Nat.le_refl _,λb l h=>by simp[iW] at h⟩ _ hr)),⟨λ_ _ _=>rfl,λk _=>h3 k,Nat.le_refl _,ou.refl _⟩⟩
  exact fO
  exact fO
 | tP t =>
  simp only[cv1]
  split
  rename_i b c hp
  split
  rename_i ro row hb
  split
  rename_i pr hpur;obtain⟨Y',H1,g,hY⟩:=H.freeze hb (x':=.var true row) (.inl ⟨ro,row,rfl,rfl⟩);refine⟨Y',σ,H1.rP (gV.pI _ _ _ H1.vals ?_),⟨λ_ _ _=>rfl,λk _=>hY k,Nat.le_refl _,ou.refl _⟩⟩;have hg:=H1.vals.get _ _ t;rw[hp] at hg;unfold Rep at hg |-;obtain⟨l,hs,ev⟩:=hg;have hB:=iw.yA H1 (lk:=jr (oH E.st b (some (.var true row)))) (λ_ _ h=>h) fB hs;have hlt:=hB.lt;unfold iw at hB;obtain⟨us,hr,hcell⟩:=hB.2.2.2.1.vals;have hr':=plH _ _ _ hpur hr;have hrc:=(jA.IJ row us l.co hr' hcell).drop c _ _;exact⟨l.cb,l.co+c,ev,⟨hlt,g l hs⟩,by rw[yx];exact hrc⟩
  exact fO
  exact fO
  exact fO
 | cF b c =>
  simp only[cv1]
  split
  rename_i ro row I
  split
  rename_i U r m hp
  split
  rename_i ro' sz rows hb;obtain⟨Y',H1,g,hY⟩:=H.freeze hb (.inr ⟨ro',sz,rows,rfl,rfl⟩);refine⟨Y',σ,H1.Ov λd=>?_,⟨λ_ _ _=>rfl,λk _=>hY k,Nat.le_refl _,ou.refl _⟩⟩;have hne:¬ U=b:=by intro e;rw[e,I] at hb;cases hb
  rw[iR]
  by_cases h2:b=d
  subst h2;refine .inr ⟨ro,row,oq row c (.sl sz ((jb.jJ P T').sub rows r m) false),by rw[iR,if_neg hne];exact I,by rw[if_pos rfl],by simp[rq],λcb o h=>jA.pI _ _ _ (λv hv=>?_) h⟩;rw[hp] at hv;have hb' : jr (oH E.st U (some (.arr true sz rows))) U=some (.arr true sz rows):=by rw[iR,if_pos rfl]
  obtain⟨x,cap,ev,hn,hl,hr⟩:=F9 hv (H1.store.blk U _ hb');show Rep w Y' σ (.sl sz ((rows.drop r).take m) false) _;unfold Rep;refine⟨x,m,cap,ev,hl,hn,(λh=>by cases h),hr.imp id λ⟨b2,o,e,hlt,⟨l,J,e2⟩,hR⟩=>⟨b2,o,e,⟨hlt,by rw[e2];exact g l J⟩,hR⟩⟩
  exact .inl (by rw[if_neg h2])
  exact fO
  exact fO
  exact fO
 | cR b c =>
  simp only[cv1]
  split
  rename_i row I
  split
  rename_i U r m hp
  split
  rename_i sz rows hb
  obtain⟨l,hl,hB⟩:∃ l,σ b=some l/\iw w Y σ l (.var false row):=by
   rcases H.store.blk b _ I with h|⟨_,h⟩
   exact h
   cases h
  have hB0:=hB;unfold iw at hB;obtain⟨hat,hsz,htot,hrow,hY,hY'⟩:=hB
  have hc:c<row.length:=by
   by_cases hh:c<row.length
   exact hh
   rw[xK (Nat.le_of_not_lt hh)] at hp;cases hp
  obtain⟨v,hv1,hv2⟩:=jA.get row _ c hrow hc;rw[hp] at hv2;obtain⟨σ',H1,h1,k1⟩:=H.ZV hb hv2;have hne:¬ U=b:=by intro e;rw[e,I] at hb;cases hb
  have hnx:¬ E.next=b:=by
   intro e;rw[H.next b ah] at hl;cases hl
  have hbv1:jr (oH (oH E.st U none) E.next (some (.arr false sz ((rows.drop r).take m)))) b=some (.var false row):=by
   rw[iR,if_neg hnx,iR,if_neg hne];exact I
  refine⟨Y,σ',H1.update hbv1 (k1 _ _ hl) (hY rfl) rfl rfl rfl rfl (λ_ _=>rfl) (λ_ _ h=>by cases h) (λ_=>?_),Keep.same k1⟩
  obtain⟨l2,J,hB2⟩:∃ l,σ' b=some l/\iw w Y σ' l (.var false row):=by
   rcases H1.store.blk b _ hbv1 with h|⟨_,h⟩
   exact h
   cases h
  rw[k1 _ _ hl] at J;cases J;unfold iw at hB2 |-;obtain⟨g1,g2,g3,g4,g5,g6⟩:=hB2;refine⟨g1,by rw[g2];simp[rq],by simpa [rq] using g3,?_,g5,g6⟩;rw[jA.iff] at g4 |-;intro i p hi;rw[rq] at hi
  by_cases hic:i=c
  subst hic;rw[List.getElem?_set_self hc] at hi;cases hi;exact⟨v,hv1,h1⟩
  rw[List.getElem?_set_ne ah] at hi;exact g4 i p hi
  exact fO
  exact fO
  exact fO
theorem Z4 {P:Program}{T T' : Tab}{C:Ctx T}{w:World}{vs:List Value}:∀ (l:List Cv) (E:Env) {Y:Nat->Prop} {σ:Sg},SW C w Y σ E.tmps vs E.st E.next->∃ Y' σ',SW C w Y' σ' (IE (jb.jJ P T') l E).tmps vs (IE (jb.jJ P T') l E).st (IE (jb.jJ P T') l E).next/\Keep w w Y Y' σ σ'
 | [],E,Y,σ,H=>⟨Y,σ,H,Keep.same (ou.refl _)⟩
 | c::l,E,Y,σ,H=>by
  obtain⟨Y1,g,H1,k1⟩:=adu (P:=P) (T':=T') c E H;obtain⟨J,I,U,k2⟩:=Z4 (P:=P) (T':=T') l _ H1;exact⟨J,I,U,k1.ZW k2⟩
theorem aa7 {P:Program}{T T' : Tab}(c:Cv)(E:Env):Ent T E (cv1 (jb.jJ P T') c E):=by
 intro C a w hA;obtain⟨⟨Y,σ,H⟩,U⟩:=hA;obtain⟨Y',σ',H',_⟩:=adu (P:=P) (T':=T') c E H;exact⟨⟨Y',σ',H'⟩,U⟩
theorem zY {P:Program}{T T' : Tab}:∀ (l:List Cv) (E:Env),Ent T E (IE (jb.jJ P T') l E)
 | [],E=>Ent.refl E
 | c::l,E=>λC a w h=>zY l _ C a w (aa7 c E C a w h)
def aff:Nat->Nat->List (Nat×PV)->List PV
 | _,0,_=>[]
 | i,n+1,[]=>.top::aff (i+1) n []
 | i,n+1,(k,v)::l=>bif Nat.beq k i then v::aff (i+1) n l else .top::aff (i+1) n ((k,v)::l)
theorem Ent.trans {T:Tab}{E F G:Env}(h:Ent T E F)(k:Ent T F G):Ent T E G:=λC a w x=>k C a w (h C a w x)
section
variable {P:Program}{T:Tab}(hT:jv P T)(hW:Bg P){S:jb}(hS:S=jb.jJ P T)
include hT hW hS
theorem adv (n:Nat){b:Code}{Q:Post}{E:Env}(h:adt T S b Q n E):S.loop b Q E:=by
 subst hS;intro C a w hA;exact wp_loop_rounds n (TV hT hW n E h C a w hA)
end
end Go.Pv
namespace Go.Pv
open Go
mutual
inductive Shp (P:Program):TypeId->List PV->Prop
 | int {t:TypeId} {k:IntKind} {n:Int}:P.underlying t=some (.int k)->(Lit.int k n).wf=true->Shp P t [.si k n]
 | bool {t:TypeId} {b:Bool}:P.underlying t=some .bool->Shp P t [.sb b]
 | str {t:TypeId} {s:ByteArray}:P.underlying t=some .string->s.size<=maxLen->Shp P t [.str s]
 | FU {t e:TypeId}:P.underlying t=some (.pointer e)->Shp P t [.FU]
 | pp {t e:TypeId} {cs:List PV}:P.underlying t=some (.pointer e)->Shp P e cs->Shp P t [.pp cs]
 | sl {t e:TypeId} {es:List (List PV)}:P.underlying t=some (.slice e)->(∀ r∈es,Shp P e r)->es.length<=maxLen->Shp P t [.sl (P.cellsOf e) es false]
 | struct {t:TypeId} {fs:Array Field} {cs:List PV}:P.underlying t=some (.struct fs)->JU P (fs.toList.map (·.type)) cs->Shp P t cs
 | arr {t e:TypeId} {n:Nat} {cs:List PV}:P.underlying t=some (.array n e)->JU P (List.replicate n e) cs->Shp P t cs
inductive JU (P:Program):List TypeId->List PV->Prop
 | nil:JU P [] []
 | cons {t:TypeId} {ts:List TypeId} {a b:List PV}:Shp P t a->JU P ts b->JU P (t::ts) (a++b)
end
def TW (P:Program)(ts:List TypeId):List Field->Nat->Option Nat
 | [],n=>some n
 | f::fs,n=>bif Nat.beq f.offset n&&ts.contains f.type then TW P ts fs (n+P.cellsOf f.type) else none
def afg (P:Program)(ts:List TypeId)(t:TypeId):Bool :=
 match P.underlying t with
 | some .bool|some (.int _)|some .string=>Nat.beq (P.cellsOf t) 1
 | some (.pointer e)=>Nat.beq (P.cellsOf t) 1&&Nat.blt 0 (P.cellsOf e)&&ts.contains e
 | some (.slice e)=>Nat.beq (P.cellsOf t) 1&&Nat.blt 0 (P.cellsOf e)&&ts.contains e
 | some (.struct fs)=>match TW P ts fs.toList 0 with|some n=>Nat.beq n (P.cellsOf t)|none=>false
 | some (.array n e)=>Nat.beq (P.cellsOf t) (n*P.cellsOf e)&&ts.contains e
 | _=>false
def layAll (P:Program)(ts:List TypeId):List TypeId->Bool
 | []=>true
 | t::l=>afg P ts t&&layAll P ts l
theorem JV {P:Program}{ts:List TypeId}:∀ (l:List TypeId),layAll P ts l=true->∀ t∈l,afg P ts t=true
 | [],_,t,h=>by simp at h
 | u::l,h,t,ht=>by
  simp only[layAll,Bool.and_eq_true] at h;rcases List.mem_cons.1 ht with rfl|ht
  exact h.1
  exact JV l h.2 t ht
section
variable {H:Type}{enc:TypeId×Value->H}{P:Program}{w:World}{base:Nat}{sp:Nat->Bool}{held:Bool}
def NoY:Nat->Prop:=λ_=>False
theorem JW:∀ (a b:List PV),iT a=true->iT b=true->iT (a++b)=true
 | [],b,_,h=>by simpa using h
 | x::a,b,h,k=>by
  simp only[iT,Bool.and_eq_true,List.cons_append] at h |-;exact⟨h.1,JW a b h.2 k⟩
mutual
theorem Shp.cells {t:TypeId}{cs:List PV}:Shp P t cs->iT cs=true
 | .int _ _=>rfl
 | .bool _=>rfl
 | .str _ _=>rfl
 | .FU _=>rfl
 | .pp _ _=>rfl
 | .sl _ _ _=>rfl
 | .struct _ h=>JU.cells h
 | .arr _ h=>JU.cells h
theorem JU.cells {ts:List TypeId}{cs:List PV}:JU P ts cs->iT cs=true
 | .nil=>rfl
 | .cons h k=>JW _ _ (Shp.cells h) (JU.cells k)
end
theorem gV.append {Y:Nat->Prop}{σ:Sg}{a b:List PV}{vs us:List Value}(h:gV w Y σ a vs)(k:gV w Y σ b us):gV w Y σ (a++b) (vs++us):=by
 have:=gV.app a b vs us h k
 rwa [V6] at this
theorem WJ {a:Addr}{v:Value}(h:w.cell? a=some v):a.spot=none:=by
 unfold World.cell? at h
 split at h
 split at h
 cases h
 rename_i hs
 cases hh:a.spot with
 | none=>rfl
 | some s=>rw[hh] at hs;simp at hs
 cases h
theorem Ox {b:Nat}{o:Nat}{n:Nat}{vs:List Value}{ps:List PV}(hc:w.cells? base ⟨b,o,none⟩ n=some vs)(hr:gV w NoY iW ps vs):jA w NoY iW b ps o:=by
 obtain⟨_,hl,U⟩:=World.cells?_some hc;refine jA.IJ _ _ _ hr λi v hv=>?_
 have hi:i<n:=by
  rw[<- hl]
  by_cases h:i<vs.length
  exact h
  rw[List.getElem?_eq_none (Nat.le_of_not_lt h)] at hv;cases hv
 have:=U i hi;rw[hv] at this;unfold Addr.add at this
 by_cases h0:i=0
 subst h0;simpa using this
 rw[if_neg h0] at this;exact this
theorem ab1 {a:Addr}(h:a.spot=none)(n:Nat):a.add n=⟨a.block,a.off+n,none⟩:=by
 unfold Addr.add
 by_cases h0:n=0
 subst h0;simp;cases a;simp at h;simp[h]
 rw[if_neg h0]
theorem TY {a:Addr}{n:Nat}{vs:List Value}(hn:0<n)(h:w.cells? base a n=some vs):a.spot=none/\a.block<w.heap.size:=by
 obtain⟨_,hl,U⟩:=World.cells?_some h;have h0:=U 0 hn;have:vs[0]?=some vs[0]:=List.getElem?_eq_getElem ah;rw[this] at h0;have T:a.add 0=a:=by simp[Addr.add]
 rw[T] at h0;refine⟨WJ h0,?_⟩;unfold World.cell? at h0
 by_cases hb:a.block<w.heap.size
 exact hb
 simp[Array.getElem?_eq_none (Nat.le_of_not_lt hb)] at h0
inductive YF (P:Program) (t:TypeId):PV->Prop
 | one {p:PV}:Shp P t [p]->lG P t=false->YF P t p
 | agg {cs:List PV}:Shp P t cs->lG P t=true->YF P t (.agg cs)
end
end Go.Pv
namespace Go.Pv
open Go
inductive Q4 (P:Program):List TypeId->List PV->Prop
 | nil:Q4 P [] []
 | cons {t:TypeId} {ts:List TypeId} {p:PV} {ps:List PV}:YF P t p->Q4 P ts ps->Q4 P (t::ts) (p::ps)
section
variable {H:Type}{enc:TypeId×Value->H}{P:Program}{w:World}{base:Nat}{sp:Nat->Bool}{held:Bool}
theorem Vt {W T : World}(hl:laidOutB P=true)(hb:RowKit.Below W.heap.size W T):∀ (params:List TypeId) (vs:List Value) (U:List (DataW H)) (pl:List MemPlace),(∀ t∈params,P.readableRec t=true/\t<P.types.size) ->
  (∀ x∈pl,x.block<W.heap.size)->DataW.TrodAll enc P W 0 (λ_=>true) true params vs U pl->DataW.TrodAll enc P T 0 (λb=>decide (b<W.heap.size)) true params vs U pl
 | [],[],[],_,_,_,h=>h
 | t::params,v::vs,d::U,pl,hm,hlt,h=>by
  obtain⟨p,q,h1,h2,e⟩:=h;subst e;exact⟨p,q,RowKit.Below.trod hl (hm t aS).1 (hm t aS).2 h1 hb (λx hx=>hlt x (by simp[hx])),Vt hl hb params vs U q (λt ht=>hm t (by simp[ht])) (λx hx=>hlt x (by simp[hx])) h2,rfl⟩
 | [],_::_,_,_,_,_,h=>h.elim
 | [],[],_::_,_,_,_,h=>h.elim
 | _::_,[],_,_,_,_,h=>h.elim
 | _::_,_::_,[],_,_,_,h=>h.elim
def ahn (P:Program)(ts params:List TypeId):Bool:=laidOutB P&&layAll P ts ts&&params.all λt=>ts.contains t&&P.readableRec t&&Nat.blt t P.types.size
end
section
variable {P:Program}{t e:TypeId}{cs:List PV}{p:PV}
theorem Shp.WM {k:IntKind}(hu:P.underlying t=some (.int k))(h:Shp P t cs):∃ n,cs=[.si k n]/\(Lit.int k n).wf=true:=by
 cases h with
 | int h1 h2=>rw[hu] at h1;cases h1;exact⟨_,rfl,h2⟩
 | _=>simp_all
theorem Shp.YG (hu:P.underlying t=some .bool)(h:Shp P t cs):∃ b,cs=[.sb b]:=by
 cases h with
 | bool h1=>exact⟨_,rfl⟩
 | _=>simp_all
theorem Shp.aa8 (hu:P.underlying t=some .string)(h:Shp P t cs):∃ s,cs=[.str s]/\s.size<=maxLen:=by
 cases h with
 | str h1 h2=>exact⟨_,rfl,h2⟩
 | _=>simp_all
theorem Shp.qC (hu:P.underlying t=some (.slice e))(h:Shp P t cs):∃ U,cs=[.sl (P.cellsOf e) U false]/\(∀ r∈U,Shp P e r)/\U.length<=maxLen:=by
 cases h with
 | sl h1 h2 T=>rw[hu] at h1;cases h1;exact⟨_,rfl,h2,T⟩
 | _=>simp_all
theorem Shp.kS {U:Array Field}(hu:P.underlying t=some (.struct U))(h:Shp P t cs):JU P (U.toList.map (·.type)) cs:=by
 cases h with
 | struct h1 h2=>rw[hu] at h1;cases h1;exact h2
 | _=>simp_all
theorem Shp.Si {n:Nat}(hu:P.underlying t=some (.array n e))(h:Shp P t cs):JU P (List.replicate n e) cs:=by
 cases h with
 | arr h1 h2=>rw[hu] at h1;cases h1;exact h2
 | _=>simp_all
theorem JU.EU {ts:List TypeId}(h:JU P (t::ts) cs):∃ a b,cs=a++b/\Shp P t a/\JU P ts b:=by
 cases h with
 | cons h1 h2=>exact⟨_,_,rfl,h1,h2⟩
theorem JU.nH (h:JU P [] cs):cs=[]:=by cases h;rfl
theorem YF.aa9 (U:lG P t=true)(h:YF P t p):∃ cs,p=.agg cs/\Shp P t cs:=by
 cases h with
 | one h1 h2=>rw[U] at h2;cases h2
 | agg h1 h2=>exact⟨_,rfl,h1⟩
theorem YF.inv_one (U:lG P t=false)(h:YF P t p):Shp P t [p]:=by
 cases h with
 | one h1 h2=>exact h1
 | agg h1 h2=>rw[U] at h2;cases h2
theorem Q4.EU {ts:List TypeId}{ps:List PV}(h:Q4 P (t::ts) ps):∃ a b,ps=a::b/\YF P t a/\Q4 P ts b:=by
 cases h with
 | cons h1 h2=>exact⟨_,_,rfl,h1,h2⟩
theorem Q4.nH {ps:List PV}(h:Q4 P [] ps):ps=[]:=by cases h;rfl
end
end Go.Pv
namespace Go.Pv
open Go
section
variable {α β σ ρ:Type}
def br (c:Bool)(a b:Option ρ):Option ρ:=match c with|true=>a|false=>b
def bnd (o:Option α)(k:α->Option ρ):Option ρ:=match o with|none=>none|some x=>k x
def lt (x:α)(k:α->Option ρ):Option ρ:=k x
def jn (rest:σ->Option ρ)(body:(σ->Option ρ)->Option ρ):Option ρ:=body rest
def jK (step:σ->(σ->Option ρ)->Option ρ):Nat->σ->Option ρ
 | 0,_=>none
 | n+1,s=>step s (jK step n)
def fuel:Nat:=18446744073709551616
def ig (step:σ->(σ->Option ρ)->Option ρ)(s:σ):Option ρ:=jK step fuel s
def lK (n:Nat):Int->Option Nat
 | .ofNat j=>bif Nat.blt j n then some j else none
 | .negSucc _=>none
def jS (l:List α):Int->Option α
 | .ofNat j=>l[j]?
 | .negSucc _=>none
def ik (l:List α):Int:=(l.length:Int)
def Zp (l:List α)(r:Nat)(new:List α):List α:=l.take r++new++l.drop (r+new.length)
def VX (l:List α)(r n:Nat):List α:=(l.drop r).take n
def iI (a b:Int):Int:=nK .add .i64 a b
def pF (a b:Int):Int:=nK .sub .i64 a b
def WN (a b:Int):Int:=nK .mul .i64 a b
def kT (n bytes:Nat)(k:Option ρ):Option ρ:=bif Nat.ble ((2*n+192)*bytes) 140737488355328&&Nat.ble n 4611686018427387904 then k else none
def divO (op:BinOp)(k:IntKind)(a b:Int):Option Int:=bif decide (b=0) then none else some (match op with|.quo=>k.wrap (a.tdiv b)|_=>a.tmod b)
def lu (op:BinOp)(k:IntKind)(a y:Int):Option Int:=bif decide (0<=y) then some (match op with|.shl=>k.wrap (a*2 ^ (min y.toNat k.bits))|_=>a.fdiv (2 ^ (min y.toNat k.bits))) else none
def jR (a b:ByteArray):Option ByteArray:=bif Nat.ble (a.size+b.size) 4611686018427387904 then some (a++b) else none
def kY (s:ByteArray):Int->Option Int
 | .ofNat j=>match s[j]? with|some c=>some (c.toNat:Int)|none=>none
 | .negSucc _=>none
def lD (n m:Int)(bytes:Nat):Option Nat:=bif decide (0<=n/\n<=m/\(bytes:Int)*m<=140737488355328/\m<=9223372036854775807) then some n.toNat else none
structure aho (n:Nat)(x:Nat×Nat):Prop where
 le:x.1<=x.2
 lt:x.2<=n
def lU (len:Nat)(a b:Int):Option (Nat×Nat):=bif decide (0<=a/\a<=b/\b<=(len:Int)) then some (a.toNat,b.toNat) else none
def mg (s:ByteArray)(a b:Int):Option ByteArray:=bif decide (0<=a/\a<=b/\b<=(s.size:Int)) then some (s.extract a.toNat b.toNat) else none
def bs (l:List UInt8):ByteArray:=⟨l.toArray⟩
def qR (i:Int)(n:Nat)(k:Nat->Option ρ):Option ρ:=match i with|.ofNat j=>(bif Nat.blt j n then k j else none)|.negSucc _=>none
def rQ (a b:Option ρ):Option ρ:=match a with|_=>b
def WO (b:ByteArray):List Int:=b.data.toList.map λc=>(c.toNat:Int)
def l9 (l:List Int):Option ByteArray:=bif l.all (λn=>decide (0<=n/\n<256)) then some ⟨(l.map λn=>UInt8.ofNat n.toNat).toArray⟩ else none
end
structure Arr2 (α:Type) where
 a0:α
 a1:α
structure Oy (α:Type) where
 a0:α
 a1:α
 a2:α
structure Z5 (α:Type) where
 a0:α
 a1:α
 a2:α
 a3:α
 a4:α
structure Qm (α:Type) where
 a0:α
 a1:α
 a2:α
 a3:α
 a4:α
 a5:α
def agn:Arr2 Int:=⟨0,0⟩
def G5:Oy Int:=⟨0,0,0⟩
def adw:Z5 Int:=⟨0,0,0,0,0⟩
def TZ:Qm Int:=⟨0,0,0,0,0,0⟩
structure iO where
 m:(α:Type)->(α->List PV)->List α->List (List PV)
 n:(α:Type)->List α->Nat
 h:(Nat->Hdr)->(α:Type)->(Hdr->α->List PV)->List α->List (List PV)
 up:(Nat->Hdr)->Nat->Hdr->Nat->Hdr
def G6 {α:Type}(H:Nat->Hdr)(e:Hdr->α->List PV)(l:List α):List (List PV):=l.mapIdx λi x=>e (H i) x
def upH (H:Nat->Hdr)(j:Nat)(h:Hdr):Nat->Hdr:=λi=>bif Nat.beq i j then h else H i
def lC:iO:=⟨λ_ e l=>l.map e,λ_ l=>l.length,λH _ e l=>G6 H e l,upH⟩
def eI (k:IntKind)(x:Int):List PV:=[.si k x]
def eB (x:Bool):List PV:=[.sb x]
def eS (x:ByteArray):List PV:=[.str x]
def eL {α:Type}(M:iO)(sz:Nat)(e:α->List PV)(x:List α):List PV:=[.sl sz (M.m α e x) false]
def ahp {α:Type}(e:α->List PV)(x:Oy α):List PV:=e x.a0++(e x.a1++e x.a2)
def ahq {α:Type}(e:α->List PV)(x:Z5 α):List PV:=e x.a0++(e x.a1++(e x.a2++(e x.a3++e x.a4)))
def ahr {α:Type}(e:α->List PV)(x:Qm α):List PV:=e x.a0++(e x.a1++(e x.a2++(e x.a3++(e x.a4++e x.a5))))
def eKV {α:Type}(e:α->List PV)(x:Int×α):List PV:=.si .i64 x.1::e x.2
def EW {α:Type}:List (Int×α)->Int->Option α
 | [],_=>none
 | (k,v)::l,n=>if k=n then some v else EW l n
def Oz {α:Type}:List (Int×α)->Int->α->List (Int×α)
 | [],n,v=>[(n,v)]
 | (k,w)::l,n,v=>if k=n then (n,v)::l else (k,w)::Oz l n v
def uY {α ρ:Type}(l:List (Int×α))(n:Int)(z:α)(k:α->Bool->Option ρ):Option ρ:=match EW l n with|some v=>k v true|none=>k z false
theorem Vu {α:Type}(e:α->List PV)(n:Int):∀ l:List (Int×α),Bl (l.map (eKV e)) n=(EW l n).map e
 | []=>rfl
 | (k,v)::l=>by
  by_cases h:k=n
  simp[eKV,Bl,EW,h]
  simp[eKV,Bl,EW,h,Vu e n l]
theorem YH {α:Type}(e:α->List PV)(n:Int)(x:α):∀ l:List (Int×α),PZ (l.map (eKV e)) n (e x)=(Oz l n x).map (eKV e)
 | []=>rfl
 | (k,v)::l=>by
  by_cases h:k=n
  simp[eKV,PZ,Oz,h]
  simp[eKV,PZ,Oz,h];exact YH e n x l
def eO {α:Type}(M:iO)(sz:Nat)(e:α->List PV)(h:Hdr)(x:List α):List PV:=[.ow h sz (M.m α e x)]
section
variable {P:Program}{T:Tab}{S:jb}{M:iO}(hS:S=jb.jJ P T)
abbrev SF (M:iO) (S:jb):Prop :=
  S.bin=nK/\S.cmp=zL/\(∀ k n,S.conv k n=k.wrap n)/\(∀ k n,S.neg k n=k.wrap (0-n))/\(∀ a b,S.beq a b=(a==b))/\(∀ a b,S.band a b=(a&&b))/\S.aeG=jf /\
  (∀ s,S.slen s=(s.size:Int))/\(∀ n:Nat,S.Be n=(n:Int))/\(∀ a b:Nat,S.LQ a b=a+b)/\(∀ a b:Nat,S.X0 a b=a-b)/\(∀ n:Nat,0+n=n)/\(∀ a,S.app [] a=a) /\
  (∀ (α:Type) (e:α->List PV) (l:List α),S.len (M.m α e l)=ik l)/\(∀ (α:Type) (e:α->List PV) (l:List α),S.iD (M.m α e l)=l.length)/\(∀ (α:Type) (l:List α),M.n α l=l.length) /\
  (∀ rows n,S.iD rows=n->S.sub rows 0 n=rows)/\S.len []=0/\(∀ (α:Type) (l:List α),ik l=(l.length:Int)) /\
  S.acy=(λa b=>if b<a then b else a)/\S.afV=(λa b=>if a<b then b else a) /\
  (∀ a b,S.iD (S.app a b)=S.iD a+S.iD b)/\(∀ a j r,S.iD (S.MN a j r)=S.iD a)/\(∀ n r,S.iD (S.rep n r)=n)/\S.iD []=0/\(∀ r rows,S.iD (r::rows)=S.iD rows+1) /\
  (∀ (α:Type) (e:α->List PV),M.m α e []=[])/\(∀ (α:Type) (e:α->List PV) (x:α) (l:List α),M.m α e (x::l)=e x::M.m α e l) /\
  (∀ (α:Type) (e:α->List PV) (a b:List α),M.m α e (a++b)=S.app (M.m α e a) (M.m α e b)) /\
  (∀ (α:Type) (e:α->List PV) (l:List α) (r n:Nat),M.m α e (VX l r n)=S.sub (M.m α e l) r n) /\
  (∀ (α:Type) (e:α->List PV) (l:List α) (r:Nat) (new:List α),M.m α e (Zp l r new)=S.spl (M.m α e l) r (M.m α e new)) /\
  (∀ (α:Type) (e:α->List PV) (l:List α) (j:Nat) (x:α),M.m α e (l.set j x)=S.MN (M.m α e l) j (e x)) /\
  (∀ (α:Type) (e:α->List PV) (n:Nat) (x:α),M.m α e (List.replicate n x)=S.rep n (e x)) /\
  (∀ (α:Type) (a b:List α),(a++b).length=a.length+b.length)/\(∀ (α:Type) (l:List α) (j:Nat) (x:α),(l.set j x).length=l.length) /\
  (∀ (α:Type) (n:Nat) (x:α),(List.replicate n x).length=n)/\(∀ (α:Type) (x:α) (l:List α),(x::l).length=l.length+1)/\(∀ (α:Type),([]:List α).length=0) /\
  (∀ (α:Type) (e:α->List PV) (l:List α) (r n:Nat),S.len (S.sub (M.m α e l) r n)=((VX l r n).length:Int))/\(∀ (α:Type) (e:α->List PV) (l:List α) (r n:Nat),S.iD (S.sub (M.m α e l) r n)=(VX l r n).length) /\
  (∀ (α:Type) (e:α->List PV) (l:List (Int×α)) (n:Int) (x:α),M.m (Int×α) (eKV e) (Oz l n x)=S.aeH (M.m (Int×α) (eKV e) l) n (e x))
theorem sf (hM:M=lC)(hS:S=jb.jJ P T):SF M S:=by
 subst hS hM;refine⟨rfl,rfl,?_⟩
 have h:∀ (α:Type) (e:α->List PV) (l:List α),List.take l.length (List.map e l)=List.map e l:=by
  intro α e l;rw[List.take_of_length_le aS]
 have h2:∀ (rows:List (List PV)) (n:Nat),rows.length=n->(rows.drop 0).take n=rows:=by
  intro rows n e;subst e;simp
 refine⟨λ_ _=>rfl,λ_ _=>rfl,λ_ _=>rfl,λ_ _=>rfl,rfl,λ_=>rfl,λ_=>rfl,λ_ _=>rfl,λ_ _=>rfl,λn=>Nat.zero_add n,λ_=>rfl,?_,?_,?_,h2,rfl,λ_ _=>rfl,rfl,?_,?_⟩
 simp[jb.jJ,lC,ik]
 simp[jb.jJ,lC]
 simp[lC]
 rfl
 refine⟨?_,?_,?_,?_,?_,?_,?_,?_,?_,?_,?_,?_,?_,?_,?_,?_,?_,?_,?_,λα e l n x=>(YH e n x l).symm⟩<;>simp[jb.jJ,lC,VX,Zp,List.map_take,List.map_drop,List.map_set]
theorem ahs (hM:M=lC)(hS:S=jb.jJ P T) :
  (∀ (H:Nat->Hdr) (α:Type) (e:Hdr->α->List PV) (l:List α) (j:Nat) (h:Hdr) (x:α),M.h (M.up H j h) α e (l.set j x)=S.MN (M.h H α e l) j (e h x)) /\
  (∀ (α:Type) (e:Hdr->α->List PV) (h:Hdr) (n:Nat) (x:α),M.h (λ_=>h) α e (List.replicate n x)=S.rep n (e h x)) /\
  (∀ (H:Nat->Hdr) (α:Type) (e:Hdr->α->List PV) (l:List α) (h:Hdr) (x:α),M.h (M.up H l.length h) α e (l++[x])=S.app (M.h H α e l) [e h x]):=by
 subst hS hM;refine⟨λH α e l j h x=>?_,λα e h n x=>?_,λH α e l h x=>?_⟩
 show G6 (upH H j h) e _=(G6 H e l).set j _;unfold G6;apply List.ext_getElem?;intro i;simp only[List.getElem?_mapIdx,List.getElem?_set,List.length_mapIdx]
 by_cases U:j=i
 subst U
 by_cases hl:j<l.length<;>simp[hl,upH]
 have:Nat.beq i j=false:=by cases hb:Nat.beq i j with|false=>rfl|true=>exact absurd (Nat.eq_of_beq_eq_true hb).symm U
 simp[U,upH,this]
 show G6 _ e _=List.replicate n _;unfold G6;apply List.ext_getElem?;intro i;simp only[List.getElem?_mapIdx,List.getElem?_replicate]
 by_cases hi:i<n<;>simp[hi]
 show G6 (upH H l.length h) e (l++[x])=G6 H e l++[e h x];unfold G6;rw[List.mapIdx_append]
 congr 1
 apply List.ext_getElem?;intro i;simp only[List.getElem?_mapIdx]
 by_cases hi:i<l.length
 have:Nat.beq i l.length=false:=by cases hb:Nat.beq i l.length with|false=>rfl|true=>exact absurd (Nat.eq_of_beq_eq_true hb) ah
 simp[upH,this]
 simp[List.getElem?_eq_none (Nat.le_of_not_lt hi)]
 simp[upH]
theorem aht (hM:M=lC)(hS:S=jb.jJ P T) :
  (∀ (H:Nat->Hdr) (α:Type) (e:Hdr->α->List PV) (l:List α) (j:Nat) (x:α),M.h H α e (l.set j x)=S.MN (M.h H α e l) j (e (H j) x)) /\
  (∀ (H:Nat->Hdr) (α:Type) (e:Hdr->α->List PV) (l:List α),S.iD (M.h H α e l)=l.length) /\
  (∀ (H:Nat->Hdr) (α:Type) (e:Hdr->α->List PV) (l:List α),S.sub (M.h H α e l) 0 l.length=M.h H α e l) /\
  (∀ (H:Nat->Hdr) (α:Type) (e:α->List PV) (sz:Nat) (l:List (List α)),S.fz (M.h H (List α) (eO M sz e) l)=M.m (List α) (eL M sz e) l) /\
  (∀ (H:Nat->Hdr) (α:Type) (e:Hdr->α->List PV),M.h H α e []=[]):=by
 subst hS hM;refine⟨λH α e l j x=>?_,λH α e l=>?_,λH α e l=>?_,λH α e sz l=>?_,λ_ _ _=>rfl⟩
 show G6 _ e _=(G6 H e l).set j _;unfold G6;apply List.ext_getElem?;intro i;simp only[List.getElem?_mapIdx,List.getElem?_set,List.length_mapIdx]
 by_cases U:j=i
 subst U
 by_cases hl:j<l.length<;>simp[hl]
 simp[U]
 show (G6 H e l).length=_;simp[G6]
 show ((G6 H e l).drop 0).take l.length=G6 H e l;rw[List.drop_zero,List.take_of_length_le (by simp[G6])]
 show (G6 H _ l).map _=l.map _;unfold G6;apply List.ext_getElem?;intro i;simp only[List.getElem?_mapIdx,List.getElem?_map];cases l[i]?<;>rfl
mutual
inductive LeP:PV->PV->Prop
 | nil (z0:Nat) (f:Bool) (z:Nat):LeP (.sl z0 [] f) (.sl z [] false)
 | int (k:IntKind) (n:Int):LeP (.int k n) (.si k n)
 | bool (b:Bool):LeP (.bool b) (.sb b)
 | agg (ps qs:List PV):Gi ps qs->LeP (.agg ps) (.agg qs)
 | EJ (ps qs:List PV):Gi ps qs->LeP (.EJ ps) (.EJ qs)
 | rows (z:Nat) (f:Bool) (es es' : List (List PV)):LeR es es'->LeP (.sl z es f) (.sl z es' false)
 | refl (p:PV):LeP p p
inductive Gi:List PV->List PV->Prop
 | nil:Gi [] []
 | cons (p q:PV) (ps qs:List PV):LeP p q->Gi ps qs->Gi (p::ps) (q::qs)
inductive LeR:List (List PV)->List (List PV)->Prop
 | same (es:List (List PV)):LeR es es
 | cons (r q:List PV) (rs qs:List (List PV)):Gi r q->LeR rs qs->LeR (r::rs) (q::qs)
end
theorem Gi.len:∀ {ps qs:List PV},Gi ps qs->qs.length=ps.length
 | _,_,.nil=>rfl
 | _,_,.cons p q ps qs _ h=>by simp[h.len]
theorem LeR.len:∀ {ps qs:List (List PV)},LeR ps qs->qs.length=ps.length
 | _,_,.same _=>rfl
 | _,_,.cons p q ps qs _ h=>by simp[h.len]
theorem LeP.sO {p q:PV}(h:LeP p q):Pv.sO p=true->Pv.sO q=true:=by
 cases h<;>intro h<;>first|rfl|exact h|cases h
theorem Gi.iT:∀ {ps qs:List PV},Gi ps qs->Pv.iT ps=true->Pv.iT qs=true
 | _,_,.nil,h=>h
 | _,_,.cons p q ps qs h1 h2,h=>by
  simp only[Pv.iT,Bool.and_eq_true] at h |-;exact⟨h1.sO h.1,h2.iT h.2⟩
mutual
theorem LeP.rep {w:World}{Y:Nat->Prop}{σ:Sg}:∀ {p q:PV} (_:LeP p q) (v:Value),Rep w Y σ p v->Rep w Y σ q v
 | _,_,.nil z0 f z,v,h=>by
  unfold Rep at h |-;obtain⟨a,len,cap,e,hl,hc,_,_⟩:=h;exact⟨a,len,cap,e,hl,hc,(λh=>by cases h),.inl rfl⟩
 | _,_,.int k n,v,h=>by unfold Rep at h |-;exact h
 | _,_,.bool b,v,h=>by unfold Rep at h |-;exact h
 | _,_,.agg ps qs hl,v,h=>by
  unfold Rep at h |-;obtain⟨vs,e,h⟩:=h;exact⟨vs,e,hl.rep vs h⟩
 | _,_,.EJ ps qs hl,v,h=>by
  unfold Rep at h |-;obtain⟨vs,e,h⟩:=h;exact⟨vs,e,hl.rep vs h⟩
 | _,_,.rows z f es es' hr,v,h=>by
  unfold Rep at h |-;obtain⟨a,len,cap,e,hl,hc,_,h⟩:=h;refine⟨a,len,cap,e,by rw[hl,hr.len],hc,(λh=>by cases h),?_⟩;rcases h with h|⟨b,o,h1,h2,h3⟩
  refine .inl (List.length_eq_zero_iff.1 ?_);rw[hr.len,h];rfl
  exact .inr ⟨b,o,h1,h2,hr.af4 o h3⟩
 | _,_,.refl p,v,h=>h
theorem Gi.rep {w:World}{Y:Nat->Prop}{σ:Sg}:∀ {ps qs:List PV} (_:Gi ps qs) (vs:List Value),gV w Y σ ps vs->gV w Y σ qs vs
 | _,_,.nil,vs,h=>h
 | _,_,.cons p q ps qs h1 h2,vs,h=>by
  unfold gV at h |-;obtain⟨v,U,e,T,J⟩:=h;exact⟨v,U,e,h1.rep v T,h2.rep U J⟩
theorem Gi.agp {w:World}{Y:Nat->Prop}{σ:Sg}{cb:Nat}:∀ {ps qs:List PV} (_:Gi ps qs) (o:Nat),jA w Y σ cb ps o->jA w Y σ cb qs o
 | _,_,.nil,o,h=>h
 | _,_,.cons p q ps qs h1 h2,o,h=>by
  unfold jA at h |-;obtain⟨⟨v,U,T⟩,h5⟩:=h;exact⟨⟨v,U,h1.rep v T⟩,h2.agp (o+1) h5⟩
theorem LeR.af4 {w:World}{Y:Nat->Prop}{σ:Sg}{b sz:Nat}:∀ {ps qs:List (List PV)} (_:LeR ps qs) (o:Nat),jG w Y σ b sz ps o->jG w Y σ b sz qs o
 | _,_,.same _,o,h=>h
 | _,_,.cons p q ps qs h1 h2,o,h=>by
  unfold jG at h |-;obtain⟨⟨U,T⟩,h5,J⟩:=h;exact⟨⟨by rw[h1.len,U],h1.iT T⟩,h1.agp o h5,h2.af4 (o+sz) J⟩
end
theorem Fn.le {G:Nat->Option (List PV)}{k:Nat}{args U:List PV}{R:PV->Prop}(h:Fn P G k U R)(hl:Gi args U):Fn P G k args R :=
 λw Y vs J T hr=>h w Y vs J T (hl.rep _ hr)
theorem aha {i T r U a b:Nat}(h1:i=T)(h2:r=U)(h:a=b):LeP (.os i r a) (.os T U b):=by subst h1 h2 h;exact .refl _
theorem Ua {p q:PV}(h:p=q):LeP p q:=h ▸ .refl p
theorem adx {P:Program}{T:Tab}(hT:jv P T)(hp:T.pG=0)(hW:Bg P){k:Nat}{fn:Func}{c:Code}(O:P.funcs[k]?=some fn)(hb:fn.body=some c)
  (J:∀ args w,(callFunc k args).run P w=.ok (.enter k args) w) {args:List PV} {v:PV} {m:Nat} (hm:fn.ntmps-args.length=m)
  (h:∀ S R,S=jb.jJ P T->(∀ u,LeP u v->R u)->Hz T S c (aeK T S fn.results.toList R) ⟨uX args (rO m),[],0⟩) (hyl:T.yl=none:=by rfl):Fn P T.gl k args (λu=>u=v):=by
 have H:=ZY hT hp hW O hb J hm (hyl:=hyl) (R:=λu=>LeP u v) λS hS=>h S _ hS λ_ h=>h;intro w Y U C g hr;obtain⟨h1,h2⟩:=H w Y U C g hr;refine⟨h1,Calls.mono h2 λe w' hh=>?_⟩;obtain⟨cv,u,I,hu,hv,hc⟩:=hh;exact⟨cv,v,I,rfl,hu.rep _ hv,hc⟩
theorem Gi.refl:∀ ps:List PV,Gi ps ps
 | []=>.nil
 | p::ps=>.cons _ _ _ _ (.refl p) (Gi.refl ps)
inductive LeB:Option mP->Option mP->Prop
 | var (ro:Bool) (row row' : List PV):Gi row row'->LeB (some (.var ro row)) (some (.var ro row'))
 | refl (x:Option mP):LeB x x
inductive LeS:St->St->Prop
 | nil:LeS [] []
 | cons (b:Nat) (x y:Option mP) (s t:St):LeB x y->LeS s t->LeS ((b,x)::s) ((b,y)::t)
theorem LeS.refl:∀ s:St,LeS s s
 | []=>.nil
 | (b,x)::s=>.cons b x x s s (.refl x) (LeS.refl s)
theorem LeS.look:∀ {s t:St} (_:LeS s t) (b:Nat),jr t b=jr s b\/∃ ro row U,jr s b=some (.var ro row)/\jr t b=some (.var ro U)/\Gi row U
 | _,_,.nil,b=>.inl rfl
 | _,_,.cons c x y s t h1 h2,b=>by
  simp only[jr]
  cases Nat.beq c b with
  | true =>
   cases h1 with
   | var ro row U h=>exact .inr ⟨ro,row,U,rfl,rfl,h⟩
   | refl x=>exact .inl rfl
  | false=>exact h2.look b
theorem LeS.Ov {s t:St}(h:LeS s t)(w:World)(Y:Nat->Prop)(σ:Sg)(b:Nat):jr t b=jr s b\/∃ ro row U,jr s b=some (.var ro row)/\jr t b=some (.var ro U)/\U.length=row.length/\∀ cb o,jA w Y σ cb row o->jA w Y σ cb U o:=by
 rcases h.look b with e|⟨ro,row,U,e1,e2,e3⟩
 exact .inl e
 exact .inr ⟨ro,row,U,e1,e2,e3.len,λcb o=>e3.agp o⟩
theorem LeS.rep {w:World}{Y:Nat->Prop}{σ:Sg}{s t:St}(h:LeS s t)(H:DK w Y σ s):DK w Y σ t:=by
 have U : ∀ b x,jr t b=some x->∃ y,jr s b=some y:=by
  intro b x hx;rcases h.look b with e|⟨ro,row,row',e1,e2,_⟩
  exact⟨x,by rw[<- e];exact hx⟩
  exact⟨_,e1⟩
 refine⟨λb x hx=>?_,λb C x x' l l' hx I hl T e=>?_⟩
 rcases h.Ov w Y σ b with e|⟨ro,row,row',e1,e2,e3,e4⟩
 exact H.blk b x (by rw[<- e];exact hx)
 rw[e2] at hx;cases hx;rcases H.blk b _ e1 with ⟨l,hl,hB⟩|⟨_,hx⟩
 refine .inl ⟨l,hl,?_⟩;unfold iw at hB |-;exact⟨hB.1,by rw[e3];exact hB.2.1,by rw[e3];exact hB.2.2.1,e4 _ _ hB.2.2.2.1,hB.2.2.2.2⟩
 cases hx
 obtain⟨y,hy⟩:=U b x hx;obtain⟨g,J⟩:=U C x' I;exact H.inj b C y g l l' hy J hl T e
theorem LeS.agq {σ:Sg}{s t:St}(h:LeS s t):DW σ t=DW σ s:=by
 funext k
 refine propext ⟨?_,?_⟩
 rintro⟨b,x,l,h1,h2⟩
 rcases h.look b with e|⟨ro,row,row',e1,e2,_⟩
 exact⟨b,x,l,by rw[<- e];exact h1,h2⟩
 exact⟨b,_,l,e1,h2⟩
 rintro⟨b,x,l,h1,h2⟩
 rcases h.look b with e|⟨ro,row,row',e1,e2,_⟩
 exact⟨b,x,l,by rw[e];exact h1,h2⟩
 exact⟨b,_,l,e2,h2⟩
theorem LeS.lS:∀ {s t:St} (_:LeS s t),Pv.lS s=true->Pv.lS t=true
 | _,_,.nil,h=>h
 | _,_,.cons b x y s t h1 h2,h=>by
  cases h1 with
  | var ro row U T=>simp only[Pv.lS] at h |-;exact h2.lS h
  | refl x =>
   cases x with
   | none=>simp only[Pv.lS] at h |-;exact h2.lS h
   | some x=>cases x<;>simp only[Pv.lS] at h |-<;>first|exact h2.lS h|exact h
theorem FnS.le {G:Nat->Option (List PV)}{k:Nat}{args U:List PV}{st T:St}{n:Nat}{R:PV->St->Nat->Prop}(h:FnS P G k U T n R)(hl:Gi args U)(hs:LeS st T):FnS P G k args st n R:=by
 intro w Y σ vs hG C hn hr J I;obtain⟨h1,h2⟩:=h w Y σ vs hG C hn (hl.rep _ hr) (hs.rep J) (hs.lS I);refine⟨h1,Calls.mono h2 λe w' hh=>?_⟩;obtain⟨cv,v,st',n',Y',σ',g,hR,H⟩:=hh;refine⟨cv,v,st',n',Y',σ',g,hR,?_⟩
 have e:yf ⟨λ_=>.bad,G,n,[],0,[],[],none,λ_=>[]⟩ w Y σ T=yf ⟨λ_=>.bad,G,n,[],0,[],[],none,λ_=>[]⟩ w Y σ st:=by
  unfold yf;rw[hs.agq]
 rw[e] at H;exact H
theorem FnS.cv {P:Program}{T:Tab}{G:Nat->Option (List PV)}(cvs:List Cv){k:Nat}{args:List PV}{st:St}{n:Nat}{v g : PV}{st1 U : St}{n1 J : Nat}(h:FnS P G k args st n (λu s m=>u=v/\s=st1/\m=n1))(e:FV n [0] (IE (jb.jJ P T) cvs ⟨[v],st1,n1⟩)=⟨[g],U,J⟩):FnS P G k args st n (λu s m=>u=g/\s=U/\m=J):=by
 intro w Y σ vs hG hY hn hr I C;obtain⟨h1,h2⟩:=h w Y σ vs hG hY hn hr I C;refine⟨h1,Calls.mono h2 λen w' hh=>?_⟩;obtain⟨cv,u,s,m,Y',σ',he,⟨rfl,rfl,rfl⟩,H⟩:=hh;obtain⟨Y1,σ1,H1,_⟩:=Z4 (P:=P) (T':=T) cvs ⟨[u],s,m⟩ H;have H2:=H1.rP (Ie _ [0] 0 _ H1.vals);obtain⟨g1,g2,g3⟩:=JO n (IE (jb.jJ P T) cvs ⟨[u],s,m⟩).st (LY [0] 0 (IE (jb.jJ P T) cvs ⟨[u],s,m⟩).tmps);obtain⟨σ2,H3,_⟩:=H2.X7 g1 g2 g3;have H4:SW (yf ⟨λ_=>.bad,G,n,[],0,[],[],none,λ_=>[]⟩ w Y σ st) w' Y1 σ2 (FV n [0] (IE (jb.jJ P T) cvs ⟨[u],s,m⟩)).tmps [cv] (FV n [0] (IE (jb.jJ P T) cvs ⟨[u],s,m⟩)).st (FV n [0] (IE (jb.jJ P T) cvs ⟨[u],s,m⟩)).next:=H3
 rw[e] at H4;exact⟨cv,g,U,J,Y1,σ2,he,⟨rfl,rfl,rfl⟩,H4⟩
theorem BV {P:Program}{T:Tab}(hT:jv P T)(hW:Bg P){k:Nat}{fn:Func}{c:Code}(O:P.funcs[k]?=some fn)(hb:fn.body=some c)
  (J:∀ args w,(callFunc k args).run P w=.ok (.enter k args) w) {args:List PV} {st:St} {v:PV} {st1:St} {n1:Nat} {m:Nat} (hm:fn.ntmps-args.length=m)
  (h:∀ S R,S=jb.jJ P T->(∀ u s n,LeP u v->LeS s st1->n=n1->R u s n)->Hz T S c (acP T S fn.results.toList R) ⟨uX args (rO m),st,T.pG⟩) (hyl:T.yl=none:=by rfl):FnS P T.gl k args st T.pG (λu s n=>u=v/\s=st1/\n=n1):=by
 have H:=YC hT hW O hb J hm (hyl:=hyl) (st:=st) (R:=λu s n=>LeP u v/\LeS s st1/\n=n1) λS hS=>h S _ hS λ_ _ _ h1 h2 g=>⟨h1,h2,g⟩
 intro w Y σ U hG hY hn hr I C;obtain⟨h1,h2⟩:=H w Y σ U hG hY hn hr I C;refine⟨h1,Calls.mono h2 λe w' hh=>?_⟩;obtain⟨cv,u,s,n,Y',σ',he,⟨g,h4,h5⟩,H⟩:=hh;refine⟨cv,v,st1,n,Y',σ',he,⟨rfl,rfl,h5⟩,?_⟩
 have hv:gV w' Y' σ' [v] [cv]:=by
  have:=H.vals;unfold gV at this |-;obtain⟨c,cs,e,h6,h7⟩:=this;cases e;exact⟨_,_,rfl,g.rep _ h6,by unfold gV at h7 |-;exact h7⟩
 exact (H.rP hv).Ov (h4.Ov w' Y' σ')
theorem le_eq {ps qs:List PV}(h:ps=qs):Gi ps qs:=h ▸ Gi.refl ps
variable {α β σ ρ:Type}{r:ρ}
theorem wL {o:Option α}{k:α->Option ρ}(h:bnd o k=some r):∃ x,o=some x/\k x=some r:=by
 cases o with
 | none=>cases h
 | some x=>exact⟨x,rfl,h⟩
theorem YI {x:α}{k:α->Option ρ}(h:lt x k=some r):k x=some r:=h
theorem lt2 {j:Nat}(h:j<2):j=0\/j=1:=by omega
theorem lt3 {j:Nat}(h:j<3):j=0\/j=1\/j=2:=by omega
theorem lt5 {j:Nat}(h:j<5):j=0\/j=1\/j=2\/j=3\/j=4:=by omega
theorem lt6 {j:Nat}(h:j<6):j=0\/j=1\/j=2\/j=3\/j=4\/j=5:=by omega
theorem lt11 {j:Nat}(h:j<11):j=0\/j=1\/j=2\/j=3\/j=4\/j=5\/j=6\/j=7\/j=8\/j=9\/j=10:=by omega
theorem WQ {i:Int}{n:Nat}{k:Nat->Option ρ}(O:qR i n k=some r):∃ j:Nat,j<n/\i=(j:Int)/\k j=some r:=by
 unfold qR at O
 cases i with
 | ofNat j =>
  simp only at O
  cases hb:Nat.blt j n with
  | false=>rw[hb] at O;cases O
  | true=>rw[hb] at O;exact⟨j,(Nat.blt_eq).mp hb,rfl,O⟩
 | negSucc j=>cases O
include hS
theorem Nr {cs:List PV}{e:α->List PV}{v:α}{K:List PV->Prop}{k:α->Option ρ}(O:lt v k=some r)(hl:Gi cs (e v))(h:∀ x,k x=some r->K (e x)):S.wk cs K:=by
 subst hS;exact⟨e v,hl.len,hl.iT,λ_ _ _ _ hr=>hl.rep _ hr,h v O⟩
theorem agr (hM:M=lC){rows:List (List PV)}{l:List (Int×α)}{e:α->List PV}{n J : Int}{z:List PV}{U:α}{K:List PV->Bool->Prop}{k:α->Bool->Option ρ}(O:uY l J U k=some r)(I:rows=M.m (Int×α) (eKV e) l)(hn:n=J)(C:Gi z (e U))(h:∀ x b,k x b=some r->K (e x) b):S.afX rows n z K:=by
 subst hS hM I hn;have T:Bl (l.map (eKV e)) n=(EW l n).map e:=Vu e n l;refine⟨λcs hc=>?_,λhc=>⟨e U,λ_ _ _ _ hr=>C.rep _ hr,?_⟩⟩
 have hc:Bl (l.map (eKV e)) n=some cs:=hc;rw[T] at hc
 cases hk:EW l n with
 | none=>rw[hk] at hc;cases hc
 | some v =>
  rw[hk] at hc;cases hc;unfold uY at O;rw[hk] at O;exact h _ _ O
 have hc:Bl (l.map (eKV e)) n=none:=hc;rw[T] at hc
 cases hk:EW l n with
 | some v=>rw[hk] at hc;cases hc
 | none =>
  unfold uY at O;rw[hk] at O;exact h _ _ O
theorem ahu {cs:List PV}(c:List PV){K:List PV->Prop}(hl:Gi cs c)(h:K c):S.wk cs K:=by
 subst hS;exact⟨c,hl.len,hl.iT,λ_ _ _ _ hr=>hl.rep _ hr,h⟩
theorem Qn {c J : Bool}{T U:Option ρ}{A B:Unit->Prop}(O:br J T U=some r)(e:c=J)(I:T=some r->A ())(hb:U=some r->B ()):S.br c A B:=by
 subst e
 cases c with
 | true=>exact ahj hS rfl (I O)
 | false=>exact ahk hS rfl (hb O)
theorem ady (hM:M=lC){U:List (List PV)}{l:List α}{e:α->List PV}{i T : Int}{k:α->Option ρ}{K:List PV->Prop}(O:bnd (jS l T) k=some r)(J:U=M.m α e l)(hi:i=T)(h:∀ x,k x=some r->K (e x)):S.idx U i K:=by
 subst hM J hi;obtain⟨x,hx,hk⟩:=wL O;clear O
 cases i with
 | ofNat j=>exact ahl hS (j:=j) rfl (by simp only[jS] at hx;simp[lC,hx]) (h x hk)
 | negSucc j=>simp[jS] at hx
theorem nZ {n U : Nat}{i T : Int}{k:Nat->Option ρ}{K:Nat->Prop}(O:bnd (lK U T) k=some r)(hn:n=U)(hi:i=T)(h:∀ j,j<n->k j=some r->K j):S.ix n i K:=by
 subst hn hi;obtain⟨x,hx,hk⟩:=wL O;clear O
 cases i with
 | ofNat j' =>
  simp only[lK] at hx
  cases hb:Nat.blt j' n with
  | false=>rw[hb] at hx;cases hx
  | true =>
   rw[hb] at hx;simp only[cond_true,Option.some.injEq] at hx;subst hx;have hb:=(Nat.blt_eq).mp hb;exact ahm hS rfl hb (h _ hb hk)
 | negSucc j=>simp[lK] at hx
theorem adz {n:Nat}{i U : Int}{K:Nat->Prop}(hi:i=U)(h:∃ j:Nat,j<n/\U=(j:Int)/\K j):S.ix n i K:=by
 obtain⟨j,h1,h2,T⟩:=h;exact ahm hS (hi.trans h2) h1 T
theorem kR (hM:M=lC){T:List (List PV)}{l:List α}{e:α->List PV}{j U : Nat}{k:α->Option ρ}{K:List PV->Prop}(O:bnd (l[U]?) k=some r)(J:T=M.m α e l)(hj:j=U)(h:∀ x,k x=some r->K (e x)):S.row T j K:=by
 subst hM J hj;obtain⟨x,hx,hk⟩:=wL O;clear O;exact afJ hS (by simp[lC,hx]) (h x hk)
theorem Dt (hM:M=lC){T:List (List PV)}{H:Nat->Hdr}{l:List α}{e:Hdr->α->List PV}{j U : Nat}{k:α->Option ρ}{K:List PV->Prop}(O:bnd (l[U]?) k=some r)(J:T=M.h H α e l)(hj:j=U)(h:∀ x,k x=some r->K (e (H U) x)):S.row T j K:=by
 subst hM J hj;obtain⟨x,hx,hk⟩:=wL O;clear O;refine afJ hS ?_ (h x hk);show (G6 H e l)[j]?=_;simp[G6,hx]
theorem Ns {k:Nat}{args:List PV}{U:List PV}{K:PV->Prop}{g:Option α}{v:α->PV}{J:α->Option ρ}(O:bnd g J=some r)(hF:∀ y,g=some y->Fn P T.gl k U (λu=>u=v y))(I:Gi args U)(h:∀ y,J y=some r->K (v y)):S.SC k args K:=by
 obtain⟨x,hx,hk⟩:=wL O;clear O;exact afb hS ((hF x hx).le I) (h x hk)
theorem aba {k:Nat}{args as bs:List PV}{U:List PV}{E:Env}{K:PV->Env->Prop}{g:Option α}{v:α->PV}{J:α->Option ρ}(O:bnd g J=some r)(hF:∀ y,g=some y->Fn P T.gl k U (λu=>u=v y))(I:Gi as U)(h:∀ y,J y=some r->K (v y) E):S.QK k args as bs E K:=by
 obtain⟨x,hx,hk⟩:=wL O;clear O;subst hS;exact .inl ⟨_,(hF x hx).le I,h x hk⟩
theorem mJ {k:Nat}{args as bs:List PV}{U:List PV}{E:Env}{K:PV->Env->Prop}{g:Option α}{v:α->PV}{st1:α->St}{n1:Nat}{J:α->Option ρ}(O:bnd g J=some r)(hF:∀ y,g=some y->FnS P T.gl k U [] 0 (λu st n=>u=v y/\st=st1 y/\n=n1))(I:Gi bs U)(h:∀ y,J y=some r->K (vk (Bf [] E.next) 8 (v y)) (DV [] E (st1 y) n1)):S.QK k args as bs E K:=by
 obtain⟨x,hx,hk⟩:=wL O;clear O;subst hS;exact .inr (.inl ⟨_,_,_,(hF x hx).le I .nil,h x hk⟩)
theorem Qo (hT:jv P T)(hW:Bg P)(n:Nat){b:Code}{Q:Post}{E:Env}(h:∀ R:Nat->Env->Prop,(∀ k E,Hz T S b (GR (R k) Q) E->R (k+1) E)->R n E):S.loop b Q E:=by
 refine adv hT hW hS n (h (λn E=>adt T S b Q n E) λk E hk=>?_);unfold adt;exact hk
theorem Ub {ci:Nat}{U:Env}{A:Post->Prop}{B:Env->Prop}{Q:Post}(cvs:List Cv)(h:A (GR (λE=>B (IE S cvs E)) Q)):S.seq ci U A B Q:=by
 subst hS;refine⟨_,h,λn E h=>?_⟩
 cases n with
 | zero=>exact⟨IE (jb.jJ P T) cvs E,zY (P:=P) (T':=T) cvs E,h⟩
 | succ n=>exact⟨E,Ent.refl E,h⟩
theorem WR {k:Nat}{args:List PV}{U:List PV}{K:PV->mP->Prop}{g:Option α}{v I : α->PV}{st1:α->St}{n1:Nat}{x:α->mP}{J:α->Option ρ}(cvs:List Cv)(O:bnd g J=some r)(hF:∀ y,g=some y->FnS P T.gl k U [] 0 (λu st n=>u=v y/\st=st1 y/\n=n1))(C:Gi args U)(hx:∀ y,FV 0 [0] (IE S cvs ⟨[v y],st1 y,n1⟩)=⟨[I y],[(0,some (x y))],1⟩)(h:∀ y,J y=some r->K (I y) (x y)):S.acz k args K:=by
 obtain⟨y,hy,hk⟩:=wL O;clear O;subst hS;exact⟨_,_,FnS.cv cvs ((hF y hy).le C .nil) (hx y),h y hk⟩
theorem La {k:Nat}{args U:List PV}{C : List Nat}{st0 J:St}{m:Nat}{K:PV->St->Nat->Prop}{g:Option α}{v:α->PV}{st1:α->St}{n1:Nat}{I:α->Option ρ}(O:bnd g I=some r)(hF:∀ y,g=some y->FnS P T.gl k U J m (λu st n=>u=v y/\st=st1 y/\n=n1))(ha:Gi args U)(hs:LeS st0 J)(hm:m=lh C)(h0:lS st0=true)
  (h:∀ y,I y=some r->K (v y) (st1 y) n1):S.X3 k args st0 C K:=by
 obtain⟨y,hy,hk⟩:=wL O;clear O;subst hS;subst hm;exact⟨_,_,_,h0,(hF y hy).le ha hs,h y hk⟩
theorem jT {k:Nat}{args as U:List PV}{E:Env}{I free:Option (List PV)}{J : List Nat}{st0 C:St}{m:Nat}{K:PV->Env->Prop}{g:Option α}{v:α->PV}{st1:α->St}{n1:Nat}{kk:α->Option ρ}(O:bnd g kk=some r)(hF:∀ y,g=some y->FnS P T.gl k U C m (λu st n=>u=v y/\st=st1 y/\n=n1))(ha:Gi as U)(hs:LeS st0 C)(hm:m=lh J)(h1:JF J=true)(h2:ltN E.next J=true)(h0:lS st0=true)
  (h:∀ y,kk y=some r->K (vk (Bf J E.next) 8 (v y)) (DV J E (st1 y) n1)):S.call k args E I free J as st0 K:=by
 obtain⟨x,hx,hk⟩:=wL O;clear O;exact aa1 hS ((hF x hx).le ha hs) hm h1 h2 h0 (h x hk)
theorem Vw {k:Nat}{args:List PV}{E:Env}{K:PV->Env->Prop}(zs:List (Nat×Bool)){c:List PV×St×Nat}(e:BN S zs args E.st E.next=c)(h:SI S k c.1 ⟨E.tmps,c.2.1,c.2.2⟩ K):QR P T k args E K:=by
 subst hS;subst e;have hc:=JP h;intro C Y σ w vs U H hr;obtain⟨Y',σ',H',J,_⟩:=GZ (P:=P) (T':=T) zs args H hr;exact hc C Y' σ' w vs U H' J
theorem adA {k:Nat}{args as:List PV}{E:Env}{U free:Option (List PV)}{T : List Nat}{st0:St}{K:PV->Env->Prop}(zs:List (Nat×Bool)){c:List PV×St×Nat}(e:BN S zs args E.st E.next=c)(h:SI S k c.1 ⟨E.tmps,c.2.1,c.2.2⟩ K):S.call k args E U free T as st0 K:=by
 have:=Vw hS zs e h;subst hS;exact .inr (.inr (.inr this))
theorem adB {k:Nat}{args as:List PV}{E:Env}{T free:Option (List PV)}{J : List Nat}{st0:St}{K:PV->Env->Prop}{s:St}(e:roS E.st J=s)(h:SI S k args ⟨E.tmps,s,E.next⟩ K):S.call k args E T free J as st0 K:=by
 subst hS;subst e;have hc:=JP h;refine .inr (.inr (.inr ?_));intro C Y σ w vs U H hr;obtain⟨Y',H',I⟩:=SW.roS J H;exact hc C Y' σ w vs U H' (gV.keep _ ⟨λ_ _ _=>rfl,λk _=>I k,Nat.le_refl _,ou.refl _⟩ _ hr)
theorem ags {k:Nat}{args as bs:List PV}{E:Env}{K:PV->Env->Prop}(zs:List (Nat×Bool)){c:List PV×St×Nat}(e:BN S zs args E.st E.next=c)(h:SI S k c.1 ⟨E.tmps,c.2.1,c.2.2⟩ K):S.QK k args as bs E K:=by
 have:=Vw hS zs e h;subst hS;exact .inr (.inr this)
theorem D6 {k:Nat}{args bs U as:List PV}{E:Env}{free:Option (List PV)}{ρ' : List Nat}{st0:St}{K:PV->Env->Prop}{g:Option α}{v:α->PV}{I:α->Option ρ}(O:bnd g I=some r)(hF:∀ y,g=some y->Fn P T.gl k U (λu=>u=v y))(C:Gi bs U)(J:∀ y,Hy 6 (v y)=true)(h:∀ y,I y=some r->K (v y) E):S.call k args E (some bs) free ρ' as st0 K:=by
 obtain⟨x,hx,hk⟩:=wL O;clear O;exact afd hS ((hF x hx).le C) (J x) (h x hk)
theorem abb {k:Nat}{args bs U as:List PV}{E:Env}{J:Option (List PV)}{C : List Nat}{st0:St}{K:PV->Env->Prop}{g:Option α}{v:α->PV}{I:α->Option ρ}(O:bnd g I=some r)(hF:∀ y,g=some y->Fn P T.gl k U (λu=>u=v y))(ha:Gi bs U)(h:∀ y,I y=some r->K (v y) ⟨E.tmps,roS E.st C,E.next⟩):S.call k args E J (some bs) C as st0 K:=by
 obtain⟨x,hx,hk⟩:=wL O;clear O;exact afe hS ((hF x hx).le ha) (h x hk)
theorem abd {k:Nat}{args:List PV}{U:List PV}{K:PV->Prop}{g:Option α}{v:α->PV}{I:α->Option ρ}(O:bnd g I=some r)(hF:∀ y,g=some y->Fn P T.gl k U (λu=>u=v y))(C:Gi args U)(J:∀ y,Hy 6 (v y)=true)(h:∀ y,I y=some r->K (v y)):S.U1 k args K:=by
 obtain⟨x,hx,hk⟩:=wL O;clear O;exact afc hS ((hF x hx).le C) (J x) (h x hk)
theorem YJ {op:BinOp}{kd:IntKind}{a b U T : Int}{K:Int->Prop}{k:Int->Option ρ}(O:bnd (divO op kd U T) k=some r)(J:a=U)(hb:b=T)(h:∀ x,k x=some r->K x):S.div op kd a b K:=by
 subst hS J hb;obtain⟨x,hx,hk⟩:=wL O;clear O;unfold divO at hx
 by_cases h0:b=0
 simp[h0] at hx
 simp only[h0,decide_false,cond_false,Option.some.injEq] at hx;subst hx;exact⟨h0,h _ hk⟩
theorem Vx {op:BinOp}{kd:IntKind}{a b U T : Int}{K:Int->Prop}{k:Int->Option ρ}(O:bnd (lu op kd U T) k=some r)(J:a=U)(hb:b=T)(h:∀ x,k x=some r->K x):S.shf op kd a b K:=by
 subst hS J hb;obtain⟨x,hx,hk⟩:=wL O;clear O;unfold lu at hx
 by_cases h0:0<=b
 simp only[h0,decide_true,cond_true,Option.some.injEq] at hx;subst hx;exact⟨h0,h _ hk⟩
 simp[h0] at hx
theorem Vy {a b T U : ByteArray}{K:ByteArray->Prop}{k:ByteArray->Option ρ}(O:bnd (jR T U) k=some r)(J:a=T)(hb:b=U)(h:∀ x,k x=some r->K x):S.acB a b K:=by
 subst hS J hb;obtain⟨x,hx,hk⟩:=wL O;clear O;unfold jR at hx
 cases h0:Nat.ble (a.size+b.size) 4611686018427387904 with
 | false=>rw[h0] at hx;cases hx
 | true=>rw[h0] at hx;cases hx;exact⟨by simpa using h0,h _ hk⟩
theorem abe {s U : ByteArray}{i T : Int}{K:Int->Prop}{k:Int->Option ρ}(O:bnd (kY U T) k=some r)(J:s=U)(hb:i=T)(h:∀ x,k x=some r->K x):S.acA s i K:=by
 subst hS J hb;obtain⟨x,hx,hk⟩:=wL O;clear O
 cases i with
 | negSucc j=>simp[kY] at hx
 | ofNat j =>
  simp only[kY] at hx
  split at hx
  rename_i c hc;cases hx;exact⟨j,c,rfl,hc,h _ hk⟩
  cases hx
theorem rU {n U b:Nat}{p:Prop}{k:Option ρ}(O:kT U b k=some r)(hn:n=U)(h:k=some r->p):S.room n b p:=by
 subst hn;unfold kT at O
 cases h1:Nat.ble ((2*n+192)*b) 140737488355328 with
 | false=>rw[h1] at O;cases O
 | true =>
  cases h2:Nat.ble n 4611686018427387904 with
  | false=>rw[h1,h2] at O;cases O
  | true=>rw[h1,h2] at O;exact agl hS eU eX (h O)
theorem Q5 {n m U T : Int}{b:Nat}{K:Nat->Prop}{k:Nat->Option ρ}(O:bnd (lD U T b) k=some r)(hn:n=U)(J:m=T)(h:∀ j,k j=some r->K j):S.mks n m b K:=by
 subst hS hn J;obtain⟨x,hx,hk⟩:=wL O;clear O;unfold lD at hx
 by_cases h0:0<=n/\n<=m/\(b:Int)*m<=140737488355328/\m<=9223372036854775807
 simp only[h0,and_self,decide_true,cond_true,Option.some.injEq] at hx;subst hx;exact⟨n.toNat,by omega,h0.2.1,h0.2.2.1,h0.2.2.2,h _ hk⟩
 simp[h0] at hx
theorem YK {n U : Nat}{a b T J : Int}{K:Nat->Nat->Prop}{k:Nat×Nat->Option ρ}(O:bnd (lU U T J) k=some r)(hn:n=U)(I:a=T)(hb:b=J)(h:∀ x,aho U x->k x=some r->K x.1 x.2):S.slc n a b K:=by
 subst hS hn I hb;obtain⟨x,hx,hk⟩:=wL O;clear O;unfold lU at hx
 by_cases h0:0<=a/\a<=b/\b<=(n:Int)
 simp only[h0,and_self,decide_true,cond_true,Option.some.injEq] at hx;subst hx;exact⟨a.toNat,b.toNat,by omega,by omega,by omega,by omega,h _ ⟨by show a.toNat<=b.toNat;omega,by show b.toNat<=n;omega⟩ hk⟩
 simp[h0] at hx
theorem ahv {s T : ByteArray}{a b U J : Int}{K:ByteArray->Prop}{k:ByteArray->Option ρ}(O:bnd (mg T U J) k=some r)(hn:s=T)(I:a=U)(hb:b=J)(h:∀ x,k x=some r->K x):S.Zq s a b K:=by
 subst hS hn I hb;obtain⟨x,hx,hk⟩:=wL O;clear O;unfold mg at hx
 by_cases h0:0<=a/\a<=b/\b<=(s.size:Int)
 simp only[h0,and_self,decide_true,cond_true,Option.some.injEq] at hx;subst hx;exact⟨a.toNat,b.toNat,by omega,by omega,by omega,by omega,h _ hk⟩
 simp[h0] at hx
theorem ahw (hM:M=lC){T:List (List PV)}{l:List α}{e:α->List PV}{a b:Option ρ}{K:Bool->Prop}(O:rQ a b=some r)(J:T=M.m α e l)(U:l=[]->b=some r->a=some r)(I:a=some r->K true)(hb:b=some r->K false):S.SE T K:=by
 subst hS hM J;intro c hc
 cases c with
 | false=>exact hb O
 | true =>
  have:=hc rfl;exact I (U (by simpa [lC] using this) O)
theorem ahx (hM:M=lC){t:Nat}{b c:ByteArray}{K:List (List PV)->Prop}{k:List Int->Option ρ}(O:lt (WO c) k=some r)(hu:∃ e,P.underlying t=some (.slice e)/\P.underlying e=some (.int .u8))(U:c=b)(h:∀ x,k x=some r->K (M.m Int (eI .u8) x)):S.toB t b K:=by
 subst hS hM U;have h2:=h _ O;refine⟨hu,?_⟩
 simpa [lC,WO,List.map_map,eI,Function.comp_def] using h2
theorem afK (hM:M=lC){t:Nat}{rows:List (List PV)}{l:List Int}{K:ByteArray->Prop}{k:ByteArray->Option ρ}(O:bnd (l9 l) k=some r)(hu:∃ e,P.underlying t=some (.slice e)/\P.underlying e=some (.int .u8))(T:rows=M.m Int (eI .u8) l)(h:∀ x,k x=some r->K x):S.toS t rows K:=by
 subst hS hM T;obtain⟨x,hx,hk⟩:=wL O;clear O;refine⟨hu,x,?_,h x hk⟩;unfold l9 at hx
 cases U:l.all (λn=>decide (0<=n/\n<256)) with
 | false=>rw[U] at hx;cases hx
 | true =>
  rw[U] at hx;cases hx;simp only[lC,List.map_map];refine List.map_congr_left λn hn=>?_;have:=List.all_eq_true.1 U n hn;simp only[decide_eq_true_eq] at this;simp only[Function.comp,eI,aaP]
  congr 1
  rw[UInt8.toNat_ofNat_of_lt' (by show n.toNat<256;omega)];omega
theorem abf {η:Type}(hT:jv P T)(hW:Bg P){b:Code}{Q:Post}{E:Env}{step:σ->(σ->Option ρ)->Option ρ}{J:σ}(cvs:List Cv)(keep:List Nat)(F:σ->η->Env)(g0:η)(O:ig step J=some r)(he:FV T.pG keep (wkE (IE S cvs E))=F J g0)
  (h:∀ (I:σ->η->Env) (k:σ->Option ρ) (s:σ) (g:η),(∀ s g,I s g=F s g)->step s k=some r->∀ e,e=F s g->Hz T S b (GR (λE'=>∃ s' g',k s'=some r/\FV T.pG keep (wkE (IE S cvs E'))=I s' g') Q) e):S.loop b Q E:=by
 subst hS;intro C a w hA
 have key:∀ (n:Nat) (s:σ) (g:η),jK step n s=some r->∀ (C:Ctx T) a w,lI C (F s g) a w->Code.rounds P b (lift C Q) n a w:=by
  intro n
  induction n with
  | zero=>intro s g h;cases h
  | succ n ih =>
   intro s g hs C a w hA;unfold Code.rounds;refine wp_mono (zn hT hW b _ _ (h F (jK step n) s g (λ_ _=>rfl) hs _ rfl) C a w hA) (Gh λE' U w' hA' hq=>?_);obtain⟨j,g',hj,he⟩:=hq;exact ih j g' hj C U w' (he ▸ ER keep _ C U w' (IZ _ C U w' (zY (P:=P) (T':=T) cvs E' C U w' hA')))
 exact wp_loop_rounds fuel (key _ J g0 O C a w (he ▸ ER keep _ C a w (IZ _ C a w (zY (P:=P) (T':=T) cvs E C a w hA))))
theorem afL {ci:Nat}{U:Env}{A:Post->Prop}{B:Env->Prop}{Q:Post}{rest:σ->Option ρ}{body:(σ->Option ρ)->Option ρ}(cvs:List Cv)(keep:List Nat)(F:σ->Env)(O:jn rest body=some r)
  (h:∀ (I:σ->Env) (k:σ->Option ρ),(∀ s,I s=F s)->body k=some r->A (GR (λE=>∃ s,k s=some r/\FV T.pG keep (wkE (IE S cvs E))=I s) Q)) (h2:∀ s,rest s=some r->B (F s)):S.seq ci U A B Q:=by
 subst hS;refine⟨_,h F rest (λ_=>rfl) O,λn E h=>?_⟩
 cases n with
 | zero =>
  obtain⟨s,hs,J⟩:=h;refine⟨F s,?_,h2 s hs⟩;rw[<- J];exact (zY (P:=P) (T':=T) cvs E).trans ((IZ _).trans (ER keep _))
 | succ n=>exact⟨E,Ent.refl E,h⟩
theorem I4 (hT:jv P T)(hW:Bg P){b:Code}{Q:Post}{E:Env}{step:σ->(σ->Option ρ)->Option ρ}{g:σ}(cvs:List Cv)(keep:List Nat)(F:σ->Env)(O:ig step g=some r)(he:FV T.pG keep (wkE (IE S cvs E))=F g)
  (h:∀ (I:σ->Env) (k:σ->Option ρ) (s:σ),(∀ s,I s=F s)->step s k=some r->∀ e,e=F s->Hz T S b (GR (λE'=>∃ s',k s'=some r/\FV T.pG keep (wkE (IE S cvs E'))=I s') Q) e):S.loop b Q E:=by
 subst hS;intro C a w hA
 have key:∀ (n:Nat) (s:σ),jK step n s=some r->∀ (C:Ctx T) a w,lI C (F s) a w->Code.rounds P b (lift C Q) n a w:=by
  intro n
  induction n with
  | zero=>intro s h;cases h
  | succ n ih =>
   intro s hs C a w hA;unfold Code.rounds;refine wp_mono (zn hT hW b _ _ (h F (jK step n) s (λ_=>rfl) hs _ rfl) C a w hA) (Gh λE' U w' J hq=>?_);obtain⟨j,hj,he⟩:=hq;exact ih j hj C U w' (he ▸ ER keep _ C U w' (IZ _ C U w' (zY (P:=P) (T':=T) cvs E' C U w' J)))
 exact wp_loop_rounds fuel (key _ g O C a w (he ▸ ER keep _ C a w (IZ _ C a w (zY (P:=P) (T':=T) cvs E C a w hA))))
end
end Go.Pv
namespace Go.Pv
open Go
section
variable {α β σ τ ρ:Type}
def Ok (Q:ρ->Prop)(o:Option ρ):Prop:=∃ r,o=some r/\Q r
theorem gB {Q:ρ->Prop}{x:ρ}(h:Q x):Ok Q (some x):=⟨x,rfl,h⟩
theorem ok_eq {c:ρ}{o:Option ρ}(h:Ok (λr=>r=c) o):o=some c:=by obtain⟨r,e,q⟩:=h;subst q;exact e
theorem gK {Q:ρ->Prop}{c:Bool}{a b:Option ρ}(h1:c=true->Ok Q a)(h2:c=false->Ok Q b):Ok Q (br c a b):=by
 cases c with
 | true=>exact h1 rfl
 | false=>exact h2 rfl
theorem gG {Q:ρ->Prop}{p:Prop}[Decidable p]{a b:Option ρ}(h1:p->Ok Q a)(h2:¬p->Ok Q b):Ok Q (br (decide p) a b) :=
 gK (λh=>h1 (of_decide_eq_true h)) (λh=>h2 (of_decide_eq_false h))
theorem lN {Q:ρ->Prop}{p:Prop}[Decidable p]{a b:Option ρ}(h1:¬p->Ok Q a)(h2:p->Ok Q b):Ok Q (br (!decide p) a b) :=
 gK (λh=>h1 dh) (λh=>h2 dh)
theorem gJ {Q:ρ->Prop}{R:α->Prop}{o:Option α}{k:α->Option ρ}(h:Ok R o)(hk:∀ x,R x->Ok Q (k x)):Ok Q (bnd o k):=by
 obtain⟨x,e,q⟩:=h;rw[e];exact hk x q
theorem iq {Q:ρ->Prop}{o:Option α}{x:α}{k:α->Option ρ}(h:o=some x)(hk:Ok Q (k x)):Ok Q (bnd o k):=by
 rw[h];exact hk
theorem Bo {Q:ρ->Prop}{x:α}{k:α->Option ρ}(hk:Ok Q (k x)):Ok Q (lt x k):=hk
theorem gZ {Q:ρ->Prop}(J:σ->Prop){rest:σ->Option ρ}{body:(σ->Option ρ)->Option ρ}(h1:∀ k,(∀ s,J s->Ok Q (k s))->Ok Q (body k))(h2:∀ s,J s->Ok Q (rest s)):Ok Q (jn rest body):=h1 rest h2
theorem ku {Q:ρ->Prop}{n b:Nat}{k:Option ρ}(h1:(2*n+192)*b<=140737488355328)(h2:n<=4611686018427387904)(hk:Ok Q k):Ok Q (kT n b k):=by
 unfold kT;rw[Nat.ble_eq_true_of_le h1,Nat.ble_eq_true_of_le h2];exact hk
theorem afh (l:List α)(n:Nat):jS l (n:Int)=l[n]?:=rfl
theorem je {Q:ρ->Prop}{l:List α}{i:Int}{k:α->Option ρ}(n:Nat)(hi:i=(n:Int))(hn:n<l.length)(hk:Ok Q (k (l[n]))):Ok Q (bnd (jS l i) k):=by
 subst hi;rw[afh,List.getElem?_eq_getElem hn];exact hk
theorem jd {Q:ρ->Prop}{m:Nat}{i:Int}{k:Nat->Option ρ}(n:Nat)(hi:i=(n:Int))(hn:n<m)(hk:Ok Q (k n)):Ok Q (bnd (lK m i) k):=by
 subst hi;show Ok Q (bnd (bif Nat.blt n m then some n else none) k);have:Nat.blt n m=true:=by rw[Nat.blt_eq];exact hn
 rw[this];exact hk
theorem iV {Q:ρ->Prop}{l:List α}{n:Nat}{k:α->Option ρ}(hn:n<l.length)(hk:Ok Q (k (l[n]))):Ok Q (bnd (l[n]?) k):=by
 rw[List.getElem?_eq_getElem hn];exact hk
theorem I5 {Q:ρ->Prop}{n:Nat}{a m:Int}{b:Nat}{k:Nat->Option ρ}(hn:a=(n:Int))(U:m=(n:Int))(h0:0<b)(hb:b*n<=140737488355328)(hk:Ok Q (k n)):Ok Q (bnd (lD a m b) k):=by
 subst hn U;have h1:n<=b*n:=Nat.le_mul_of_pos_left n h0;have h2:(b:Int)*(n:Int)<=140737488355328:=by rw[<- Int.natCast_mul];exact Int.ofNat_le.2 hb
 have:lD (n:Int) (n:Int) b=some n:=by
  unfold lD;rw[decide_eq_true (show 0<=(n:Int)/\(n:Int)<=(n:Int)/\(b:Int)*(n:Int)<=140737488355328/\(n:Int)<=9223372036854775807 from ⟨by omega,by omega,h2,by omega⟩)];rfl
 rw[this];exact hk
theorem adC {Q:ρ->Prop}{a b:Int}{n i j:Nat}{k:Nat×Nat->Option ρ}(T:a=(i:Int))(hb:b=(j:Int))(U:i<=j)(hj:j<=n)(hk:Ok Q (k (i,j))):Ok Q (bnd (lU n a b) k):=by
 subst T hb
 have:lU n (i:Int) (j:Int)=some (i,j):=by
  unfold lU;rw[decide_eq_true (show 0<=(i:Int)/\(i:Int)<=(j:Int)/\(j:Int)<=(n:Int) from ⟨by omega,by omega,by omega⟩)];rfl
 rw[this];exact hk
theorem wrap_in {n:Int}(h1 : -9223372036854775808<=n)(h2:n<9223372036854775808):IntKind.i64.wrap n=n:=by rw[IntKind.wrap_i64];omega
theorem kC {a b:Int}(h1 : -9223372036854775808<=a+b)(h2:a+b<9223372036854775808):iI a b=a+b:=by
 show IntKind.i64.wrap (a+b)=a+b;exact wrap_in h1 h2
theorem lW {n:Nat}(h:n<4611686018427387904):iI (n:Int) 1=((n+1:Nat):Int):=by
 rw[kC ah ah];rfl
theorem jg {Q:ρ->Prop}{step:σ->(σ->Option ρ)->Option ρ}{T:σ}(Inv:σ->Prop)(μ:σ->Nat)(h0:Inv T)(I:μ T<fuel)
  (h:∀ s k,Inv s->(∀ U,Inv U->μ U<μ s->Ok Q (k U))->Ok Q (step s k)):Ok Q (ig step T):=by
 have key:∀ n s,Inv s->μ s<n->Ok Q (jK step n s):=by
  intro n
  induction n with
  | zero=>intro s _ h;omega
  | succ n C=>intro s hs hn;exact h s _ hs λU J hl=>C U J ah
 exact key fuel T h0 I
theorem kN {Q:ρ->Prop}{step:Int×τ->(Int×τ->Option ρ)->Option ρ}{t0:τ}(a n:Nat)(Inv:Nat->τ->Prop)(i0:Int)(I:i0=(a:Int))(C:a<=n)(hn:n<4611686018427387904)(h0:Inv a t0)
  (h:∀ i t k,i<n->Inv i t->(∀ U,Inv (i+1) U->Ok Q (k (iI (i:Int) 1,U)))->Ok Q (step ((i:Int),t) k))
  (g:∀ t k,Inv n t->Ok Q (step ((n:Int),t) k)):Ok Q (ig step (i0,t0)):=by
 subst I;refine jg (λs=>∃ i:Nat,s.1=(i:Int)/\i<=n/\Inv i s.2) (λs=>n-s.1.toNat) ⟨a,rfl,C,h0⟩ dU ?_
 rintro⟨i',t⟩ k ⟨i,e,hi,J⟩ hk
 simp only at e J;subst e
 by_cases h' : i=n
 subst h';exact g t k J
 refine h i t k ah J λU T=>hk _ ⟨i+1,lW ah,by omega,T⟩ ?_;rw[lW ah];simp only[Int.toNat_natCast];omega
theorem qi {Q:ρ->Prop}{step:Int->(Int->Option ρ)->Option ρ}(a n:Nat)(Inv:Nat->Prop)(i0:Int)(T:i0=(a:Int))(J:a<=n)(hn:n<4611686018427387904)(h0:Inv a)
  (h:∀ i k,i<n->Inv i->(Inv (i+1)->Ok Q (k (iI (i:Int) 1)))->Ok Q (step (i:Int) k))
  (I:∀ k,Inv n->Ok Q (step (n:Int) k)):Ok Q (ig step i0):=by
 subst T;refine jg (λs=>∃ i:Nat,s=(i:Int)/\i<=n/\Inv i) (λs=>n-s.toNat) ⟨a,rfl,J,h0⟩ dU ?_
 rintro i' k ⟨i,e,hi,hI⟩ hk
 subst e
 by_cases h' : i=n
 subst h';exact I k hI
 refine h i k ah hI λU=>hk _ ⟨i+1,lW ah,by omega,U⟩ ?_;rw[lW ah];simp only[Int.toNat_natCast];omega
theorem D7 {Q:ρ->Prop}{step:τ×Int->(τ×Int->Option ρ)->Option ρ}{t0:τ}(a n:Nat)(Inv:Nat->τ->Prop)(i0:Int)(I:i0=(a:Int))(C:a<=n)(hn:n<4611686018427387904)(h0:Inv a t0)
  (h:∀ i t k,i<n->Inv i t->(∀ U,Inv (i+1) U->Ok Q (k (U,iI (i:Int) 1)))->Ok Q (step (t,(i:Int)) k))
  (g:∀ t k,Inv n t->Ok Q (step (t,(n:Int)) k)):Ok Q (ig step (t0,i0)):=by
 subst I;refine jg (λs=>∃ i:Nat,s.2=(i:Int)/\i<=n/\Inv i s.1) (λs=>n-s.2.toNat) ⟨a,rfl,C,h0⟩ dU ?_
 rintro⟨t,i'⟩ k ⟨i,e,hi,J⟩ hk
 simp only at e J;subst e
 by_cases h' : i=n
 subst h';exact g t k J
 refine h i t k ah J λU T=>hk _ ⟨i+1,lW ah,by omega,T⟩ ?_;rw[lW ah];simp only[Int.toNat_natCast];omega
end
end Go.Pv
namespace Go.Pv
open Go
theorem wM {α:Type}{enc:α->List PV}{ok:α->Prop}:∀ {U:List (List PV)},(∀ r∈U,∃ x,r=enc x/\ok x)->∃ l:List α,U=l.map enc/\(∀ x∈l,ok x)/\l.length=U.length
 | [],_=>⟨[],rfl,by simp,rfl⟩
 | r::U,h=>by
  obtain⟨x,e,hx⟩:=h r aS;obtain⟨l,J,h2,T⟩:=wM λr hr=>h r (List.mem_cons_of_mem _ hr);refine⟨x::l,by rw[e,J];rfl,λy hy=>?_,by simp[T]⟩;rcases List.mem_cons.1 hy with rfl|hy
  exact hx
  exact h2 y hy
end Go.Pv
namespace Go.Pv
open Go
structure Fit {H:Type}(N:Nat)(fit:DataW H->Prop):Prop where
 str:∀ b,fit (.lit (.string b))->b.length<=N
 sl:∀ es rest,fit (.slice es rest)->es.length<=N/\∀ e∈es,fit e
 agg:∀ es,fit (.agg es)->∀ e∈es,fit e
 ptr:∀ d,fit (.ptr d)->fit d
mutual
inductive Sn (P:Program) (N:Nat):TypeId->List PV->Prop
 | int {t:TypeId} {k:IntKind} {n:Int}:P.underlying t=some (.int k)->(Lit.int k n).wf=true->Sn P N t [.si k n]
 | bool {t:TypeId} {b:Bool}:P.underlying t=some .bool->Sn P N t [.sb b]
 | str {t:TypeId} {s:ByteArray}:P.underlying t=some .string->s.size<=N->Sn P N t [.str s]
 | FU {t e:TypeId}:P.underlying t=some (.pointer e)->Sn P N t [.FU]
 | pp {t e:TypeId} {cs:List PV}:P.underlying t=some (.pointer e)->Sn P N e cs->Sn P N t [.pp cs]
 | sl {t e:TypeId} {es:List (List PV)}:P.underlying t=some (.slice e)->(∀ r∈es,Sn P N e r)->es.length<=N->Sn P N t [.sl (P.cellsOf e) es false]
 | struct {t:TypeId} {fs:Array Field} {cs:List PV}:P.underlying t=some (.struct fs)->SnL P N (fs.toList.map (·.type)) cs->Sn P N t cs
 | arr {t e:TypeId} {n:Nat} {cs:List PV}:P.underlying t=some (.array n e)->SnL P N (List.replicate n e) cs->Sn P N t cs
inductive SnL (P:Program) (N:Nat):List TypeId->List PV->Prop
 | nil:SnL P N [] []
 | cons {t:TypeId} {ts:List TypeId} {a b:List PV}:Sn P N t a->SnL P N ts b->SnL P N (t::ts) (a++b)
end
section
variable {H:Type}{enc:TypeId×Value->H}{P:Program}{w:World}{base:Nat}{sp:Nat->Bool}{held:Bool}{N:Nat}{fit:DataW H->Prop}
mutual
theorem Sn.cells {t:TypeId}{cs:List PV}:Sn P N t cs->iT cs=true
 | .int _ _=>rfl
 | .bool _=>rfl
 | .str _ _=>rfl
 | .FU _=>rfl
 | .pp _ _=>rfl
 | .sl _ _ _=>rfl
 | .struct _ h=>SnL.cells h
 | .arr _ h=>SnL.cells h
theorem SnL.cells {ts:List TypeId}{cs:List PV}:SnL P N ts cs->iT cs=true
 | .nil=>rfl
 | .cons h k=>JW _ _ (Sn.cells h) (SnL.cells k)
end
theorem OA {ts:List TypeId}{cs:List Value}{xs:Nat->Option (DataW H×List MemPlace)}{m:Nat}
  (C:∀ (t:TypeId) (cs:List Value) x,t∈ts->DataW.trod enc P w base sp held m t cs=some x->fit x.1->∃ ps,gV w NoY iW ps cs/\Sn P N t ps/\cs.length=P.cellsOf t) :
  ∀ (T:List Field) (n k:Nat),TW P ts T n=some cs.length->n<=cs.length ->
   (∀ (i:Nat) (f:Field),T[i]?=some f->DataW.trod enc P w base sp held m f.type ((cs.drop f.offset).take (P.cellsOf f.type))=xs (k+i)/\∃ y,xs (k+i)=some y/\fit y.1) ->
   ∃ ps,gV w NoY iW ps (cs.drop n)/\SnL P N (T.map (·.type)) ps
 | [],n,k,hc,hn,_=>by
  simp only[TW,Option.some.injEq] at hc;subst hc;exact⟨[],by simp[gV],.nil⟩
 | f::T,n,k,hc,hn,hx=>by
  simp only[TW] at hc
  cases hb:(Nat.beq f.offset n&&ts.contains f.type) with
  | false=>rw[hb] at hc;cases hc
  | true =>
   rw[hb] at hc;simp only[cond_true] at hc;simp only[Bool.and_eq_true] at hb;have U:=Nat.eq_of_beq_eq_true hb.1;obtain⟨h1,y,h2,h3⟩:=hx 0 f rfl;rw[h2,U] at h1;obtain⟨ps,hr,hs,hl⟩:=C _ _ _ (by simpa using hb.2) h1 h3
   have hle:n+P.cellsOf f.type<=cs.length:=by
    rw[List.length_take,List.length_drop] at hl;omega
   obtain⟨qs,J,I⟩:=OA C T (n+P.cellsOf f.type) (k+1) hc hle λi g hg=>by
    have:=hx (i+1) g (by simpa using hg);rw[show k+(i+1)=k+1+i by omega] at this;exact this
   refine⟨ps++qs,?_,by simpa using SnL.cons hs I⟩;have:=hr.append J
   rwa [<- List.drop_drop,List.take_append_drop] at this
theorem Q7 {e:TypeId}{cs:List Value}{m sz:Nat}{xs:Nat->Option (DataW H×List MemPlace)}
  (J:∀ (cs:List Value) x,DataW.trod enc P w base sp held m e cs=some x->fit x.1->∃ ps,gV w NoY iW ps cs/\Sn P N e ps/\cs.length=P.cellsOf e) (hsz:sz=P.cellsOf e) :
  ∀ (k s:Nat),cs.length=(s+k)*sz->(∀ i,i<s+k->DataW.trod enc P w base sp held m e ((cs.drop (i*sz)).take sz)=xs i/\∃ y,xs i=some y/\fit y.1) ->
   ∃ ps,gV w NoY iW ps (cs.drop (s*sz))/\SnL P N (List.replicate k e) ps
 | 0,s,hl,_=>by
  refine⟨[],?_,.nil⟩;rw[List.drop_eq_nil_of_le fC];simp[gV]
 | k+1,s,hl,hx=>by
  obtain⟨h1,y,h2,C⟩:=hx s ah;rw[h2] at h1;obtain⟨ps,hr,hs,I⟩:=J _ _ h1 C;obtain⟨qs,U,T⟩:=Q7 J hsz k (s+1) (by rw[hl];congr 1;omega) λi hi=>hx i ah;refine⟨ps++qs,?_,by rw[List.replicate_succ];exact .cons hs T⟩;have:=hr.append U
  rwa [show (s+1)*sz=s*sz+sz by rw[Nat.add_mul];omega,<- List.drop_drop,List.take_append_drop] at this
theorem Uc {e:TypeId}{m:Nat}{a:Addr}{xs:Nat->Option (DataW H×List MemPlace)}(U:a.spot=none)
  (ih:∀ (cs:List Value) x,DataW.trod enc P w base sp held m e cs=some x->fit x.1->∃ ps,gV w NoY iW ps cs/\Sn P N e ps/\cs.length=P.cellsOf e) :
  ∀ (k s:Nat),(∀ i,i<s+k->(w.cells? base (a.add (i*P.cellsOf e)) (P.cellsOf e)).bind (DataW.trod enc P w base sp held m e)=xs i/\∃ y,xs i=some y/\fit y.1) ->
   ∃ T,jG w NoY iW a.block (P.cellsOf e) T (a.off+s*P.cellsOf e)/\(∀ r∈T,Sn P N e r)/\T.length=k
 | 0,s,_=>⟨[],by simp[jG],by simp,rfl⟩
 | k+1,s,hx=>by
  obtain⟨h1,y,h2,h3⟩:=hx s ah;rw[h2] at h1;obtain⟨vs,hv,ht⟩:=Option.bind_eq_some_iff.1 h1;obtain⟨ps,hr,hs,hl⟩:=ih _ _ ht h3;obtain⟨T,C,g,J⟩:=Uc U ih k (s+1) λi hi=>hx i ah;rw[ab1 U] at hv;refine⟨ps::T,?_,?_,by simp[J]⟩
  unfold jG;refine⟨⟨by rw[<- hr.length,hl],hs.cells⟩,Ox hv hr,?_⟩;rw[show a.off+s*P.cellsOf e+P.cellsOf e=a.off+(s+1)*P.cellsOf e by rw[Nat.add_mul];omega];exact C
  intro r I;rcases List.mem_cons.1 I with rfl|h
  exact hs
  exact g r h
theorem Vz {ts:List TypeId}(F:Fit N fit)(hts:layAll P ts ts=true):∀ (fuel:Nat) (t:TypeId) (cs:List Value) (x:DataW H×List MemPlace),t∈ts ->
  DataW.trod enc P w base sp held fuel t cs=some x->fit x.1->∃ ps,gV w NoY iW ps cs/\Sn P N t ps/\cs.length=P.cellsOf t
 | 0,t,cs,x,_,h,_=>by simp[DataW.trod] at h
 | m+1,t,cs,x,hmem,h,hft=>by
  have hl:=JV ts hts t hmem;have ih:=Vz F hts m;have one:∀ {p:PV} {v:Value},Rep w NoY iW p v->gV w NoY iW [p] [v]:=λh=>by unfold gV;exact⟨_,_,rfl,h,by unfold gV;rfl⟩
  unfold afg at hl
  split at hl
  rename_i hu;obtain⟨b,rfl,_⟩:=DataW.trod_bool hu h;exact⟨[.sb b],one bU,.bool hu,(Nat.eq_of_beq_eq_true hl).symm⟩
  rename_i k hu;obtain⟨n,rfl,_,hw⟩:=DataW.trod_int hu h;exact⟨[.si k n],one bU,.int hu hw,(Nat.eq_of_beq_eq_true hl).symm⟩
  rename_i hu;obtain⟨s,rfl,rfl,hs⟩:=DataW.trod_string hu h;exact⟨[.str s],one bU,.str hu (by simpa using F.str _ hft),(Nat.eq_of_beq_eq_true hl).symm⟩
  rename_i e hu;simp only[Bool.and_eq_true,Nat.blt_eq] at hl;obtain⟨⟨h1,h2⟩,I⟩:=hl;have I:e∈ts:=by simpa using I
  have h1:=(Nat.eq_of_beq_eq_true h1).symm;rcases DataW.trod_pointer hu h with ⟨rfl,_⟩|⟨a,cs',y,n,O,rfl,rfl,hc,ht⟩
  exact⟨[.FU],one bU,.FU hu,h1⟩
  cases O;obtain⟨ps,hr,hs,_⟩:=ih e _ _ I ht (F.ptr _ hft);obtain⟨U,J⟩:=TY h2 hc;refine⟨[.pp ps],one ?_,.pp hu hs,h1⟩;have ha:a=⟨a.block,a.off,none⟩:=by cases a;simp at U;simp[U]
  rw[ha] at hc;unfold Rep;exact⟨a.block,a.off,by rw[<- ha],⟨J,λh=>h⟩,Ox hc hr⟩
  rename_i e hu;simp only[Bool.and_eq_true,Nat.blt_eq] at hl;obtain⟨⟨h1,h2⟩,I⟩:=hl;have I:e∈ts:=by simpa using I
  have h1:=(Nat.eq_of_beq_eq_true h1).symm;rcases DataW.trod_slice hu h with ⟨rfl,_⟩|⟨a,len,cap,elems,rest,n,O,rfl,rfl,_,hle,hmax,hlen,hel,_⟩
  refine⟨[.sl (P.cellsOf e) [] false],one ?_,.sl hu aS aS,h1⟩;unfold Rep;exact⟨none,0,0,rfl,rfl,Nat.le_refl _,(λh=>by cases h),.inl rfl⟩
  cases O;obtain⟨hN,hfe⟩:=F.sl _ _ hft;have hN:len<=N:=by simpa [hlen] using hN
  by_cases h0:len=0
  subst h0;refine⟨[.sl (P.cellsOf e) [] false],one ?_,.sl hu aS aS,h1⟩;unfold Rep;exact⟨some a,0,cap,rfl,rfl,hle,(λh=>by cases h),.inl rfl⟩
  have hx:∀ i,i<len->∃ y,elems[i]?=some y/\fit y.1:=λi hi=>⟨_,List.getElem?_eq_getElem ah,hfe _ (List.mem_map.2 ⟨_,List.getElem_mem _,rfl⟩)⟩
  obtain⟨y,hy,_⟩:=hx 0 ah;have he0:=hel 0 ah;rw[hy] at he0;obtain⟨vs,hv,_⟩:=Option.bind_eq_some_iff.1 he0;obtain⟨U,J⟩:=TY h2 hv;rw[Nat.zero_mul,show a.add 0=a by simp[Addr.add]] at U J;obtain⟨es,hr,hs,g⟩:=Uc (xs:=λi=>elems[i]?) U (λcs x hx O=>ih e cs x I hx O) len 0 λi hi=>⟨hel i ah,hx i ah⟩
  refine⟨[.sl (P.cellsOf e) es false],one ?_,.sl hu hs (by rw[g];omega),h1⟩;have ha:a=⟨a.block,a.off,none⟩:=by cases a;simp at U;simp[U]
  unfold Rep;refine⟨some a,len,cap,rfl,g.symm,hle,(λh=>by cases h),.inr ⟨a.block,a.off,by rw[<- ha],⟨J,λh=>h⟩,?_⟩⟩
  simpa using hr
  rename_i fs hu
  split at hl
  rename_i n hc;obtain⟨xs,n',O,rfl,T,hxl,hx⟩:=DataW.trod_struct hu h;cases O;have hn:=Nat.eq_of_beq_eq_true hl
  obtain⟨ps,hr,hs⟩:=OA (ts:=ts) (xs:=λi=>xs[i]?) (λt cs x=>ih t cs x) fs.toList 0 0 (by rw[hc,hn,T]) (Nat.zero_le _) λi f hi=>by
   have C : fs[i]?=some f:=by simpa using hi
   have J:i<fs.size:=by
    by_cases h:i<fs.size
    exact h
    rw[Array.getElem?_eq_none (Nat.le_of_not_lt h)] at C;cases C
   refine⟨by simpa using hx i f C,_,by rw[Nat.zero_add];exact List.getElem?_eq_getElem ah,F.agg _ hft _ (List.mem_map.2 ⟨_,List.getElem_mem _,rfl⟩)⟩
  exact⟨ps,by simpa using hr,.struct hu hs,T⟩
  cases hl
  rename_i n e hu;simp only[Bool.and_eq_true] at hl;have I:e∈ts:=by simpa using hl.2
  obtain⟨xs,m',O,rfl,T,hxl,hx⟩:=DataW.trod_array hu h;cases O;obtain⟨ps,hr,hs⟩:=Q7 (xs:=λi=>xs[i]?) (λcs x hx O=>ih e cs x I hx O) rfl n 0 (by rw[T,Nat.zero_add];exact Nat.eq_of_beq_eq_true hl.1) λi hi=>⟨hx i ah,_,List.getElem?_eq_getElem ah,F.agg _ hft _ (List.mem_map.2 ⟨_,List.getElem_mem _,rfl⟩)⟩
  exact⟨ps,by simpa using hr,.arr hu hs,T⟩
  cases hl
inductive SnV (P:Program) (N:Nat) (t:TypeId):PV->Prop
 | one {p:PV}:Sn P N t [p]->lG P t=false->SnV P N t p
 | agg {cs:List PV}:Sn P N t cs->lG P t=true->SnV P N t (.agg cs)
inductive OB (P:Program) (N:Nat):List TypeId->List PV->Prop
 | nil:OB P N [] []
 | cons {t:TypeId} {ts:List TypeId} {p:PV} {ps:List PV}:SnV P N t p->OB P N ts ps->OB P N (t::ts) (p::ps)
theorem Z7 {ts:List TypeId}(F:Fit N fit)(J:layAll P ts ts=true){t:TypeId}(T:t∈ts){v:Value}{d:DataW H}{pl:List MemPlace}{r:Reach}{b0:Nat}(U:Value.okWide P w r b0 t v)(h:DataW.Trod enc P w base sp held t v d pl)(I:fit d) :
  ∃ p,Rep w NoY iW p v/\SnV P N t p:=by
 obtain⟨fuel,h⟩:=h;obtain⟨ps,hr,hs,_⟩:=Vz F J fuel t _ _ T h I;have hl:=JV ts J t T
 have agg:(∃ cs,v=.agg cs)->lG P t=true->∃ p,Rep w NoY iW p v/\SnV P N t p:=by
  rintro⟨cs,rfl⟩ C
  refine⟨.agg ps,?_,.agg hs C⟩;unfold Rep;exact⟨cs.toList,by simp,by simpa [Value.cells] using hr⟩
 have one:v.cells.toList=[v]->lG P t=false->∃ p,Rep w NoY iW p v/\SnV P N t p:=by
  intro hv C;rw[hv] at hr;have hlen:=hr.length
  match ps,hr,hs,hlen with
  | [p],hr,hs,_ =>
   obtain⟨u,e,hp⟩:=Gf hr;cases e;exact⟨p,hp,.one hs C⟩
 unfold afg at hl;unfold Value.okWide at U
 split at hl
 rename_i hu;rw[hu] at U;obtain⟨b,hb,_⟩:=DataW.trod_bool hu h;refine one ?_ dK;cases v<;>simp_all[Value.cells,Cell.okWide,Cell.ok]
 rename_i k hu;rw[hu] at U;obtain⟨b,hb,_⟩:=DataW.trod_int hu h;refine one ?_ dK;cases v<;>simp_all[Value.cells,Cell.okWide,Cell.ok]
 rename_i hu;rw[hu] at U;obtain⟨b,hb,_⟩:=DataW.trod_string hu h;refine one ?_ dK;cases v<;>simp_all[Value.cells,Cell.okWide,Cell.ok]
 rename_i e hu;rw[hu] at U;refine one ?_ dK;cases v<;>simp_all[Value.cells,Cell.okWide,Cell.ok]
 rename_i e hu;rw[hu] at U;refine one ?_ dK;cases v<;>simp_all[Value.cells,Cell.okWide,Cell.ok]
 rename_i g hu;rw[hu] at U;obtain⟨cs,hc,_⟩:=U;exact agg ⟨cs,hc⟩ dK
 rename_i n e hu;rw[hu] at U;obtain⟨cs,hc,_⟩:=U;exact agg ⟨cs,hc⟩ dK
 cases hl
theorem VA {ts:List TypeId}(F:Fit N fit)(U:layAll P ts ts=true){r:Reach}{b0:Nat}:∀ (params:List TypeId) (vs:List Value) (T:List (DataW H)) (pl:List MemPlace),(∀ t∈params,t∈ts) ->
  (∀ (j:Nat) t v,params[j]?=some t->vs[j]?=some v->Value.okWide P w r b0 t v)->DataW.TrodAll enc P w base sp held params vs T pl->(∀ d∈T,fit d) ->
  ∃ ps,gV w NoY iW ps vs/\OB P N params ps/\T.length=params.length
 | [],[],[],_,_,_,_,_=>⟨[],by simp[gV],.nil,rfl⟩
 | t::params,v::vs,d::T,pl,hm,hval,h,hft=>by
  obtain⟨p,q,h1,h2,_⟩:=h;obtain⟨x,hx,hs⟩:=Z7 F U (hm t aS) (hval 0 t v rfl rfl) h1 (hft d aS);obtain⟨xs,J,I,hl⟩:=VA F U params vs T q (λt ht=>hm t (by simp[ht])) (λj t v h1 h2=>hval (j+1) t v eU eX) h2 (λd C=>hft d (by simp[C]));exact⟨x::xs,by unfold gV;exact⟨v,vs,rfl,hx,J⟩,.cons hs I,by simp[hl]⟩
 | [],_::_,_,_,_,_,h,_=>h.elim
 | [],[],_::_,_,_,_,h,_=>h.elim
 | _::_,[],_,_,_,_,h,_=>h.elim
 | _::_,_::_,[],_,_,_,h,_=>h.elim
theorem Z8 (F:Fit N fit){f:FuncId}{fn:Func}{s:ChangeSpec}{apart:Bool}{ts:List TypeId}(hB:ahn P ts fn.params.toList=true)(T:s.vars=[]){tb:TypeId}(hres:fn.resultTypes=#[tb])(hb:P.underlying tb=some .bool)
  (hspec:∀ (J:List (DataW H)),J.length=fn.params.toList.length->(s.fn H J).results=[.lit (.bool true)]/\(s.fn H J).args=J/\(s.fn H J).vars=[])
  {G:Nat->Option (List PV)} (hFn:∀ C,OB P N fn.params.toList C->Fn P G f C (λu=>u=.sb true))
  (W:World) (hG:Ry G W NoY) (base:Nat) (args:Array Value) (J gs:List (DataW H)) (before:List MemPlace)
  (hval:∀ (j:Nat) t v,fn.params[j]?=some t->args[j]?=some v->Value.okWide P W .any base t v)
  (hft:∀ d∈J,fit d) (hW:DataW.Whole enc P fn.params.toList s.vars apart W args.toList J gs before) :
  Calls P f args W λe W'=>∃ v,e=.returned v/\s.post enc P fn apart true false false W args v W':=by
 unfold ahn at hB;simp only[Bool.and_eq_true,List.all_eq_true] at hB;obtain⟨⟨hl,hts⟩,hp⟩:=hB
 have hp:∀ t∈fn.params.toList,t∈ts/\P.readableRec t=true/\t<P.types.size:=λt ht=>by
  have:=hp t ht;rw[Nat.blt_eq] at this;exact⟨by simpa using this.1.1,this.1.2,this.2⟩
 have hW0:=hW;obtain⟨pa,pv,hA,hV,hbef,_,_⟩:=hW;obtain⟨C,hr,hs,hlen⟩:=VA F hts fn.params.toList args.toList J pa (λt ht=>(hp t ht).1) (λj t v h1 h2=>hval j t v eU eX) hA hft;obtain⟨_,I⟩:=hFn C hs W NoY args.toList hG (λ_ h=>h.elim) hr;refine Calls.mono I λe W' h=>?_;obtain⟨cv,v,rfl,rfl,hrep,hchg⟩:=h;have hcv:=JJ hrep;subst hcv;refine⟨.bool true,rfl,?_⟩;rw[T] at hV
 have hgs:gs=[]/\pv=[]:=by
  cases gs with
  | nil=>exact⟨rfl,hV⟩
  | cons g gs=>exact hV.elim
 obtain⟨rfl,rfl⟩:=hgs;obtain⟨s1,s2,s3⟩:=hspec J hlen;have U:∀ p∈before,p.block<W.heap.size:=λp hp=>by simpa using hW0.lt p hp
 unfold ChangeSpec.post;refine⟨J,[],before,[],pa,[],hW0,?_,?_,?_,hchg.below.frame _,λh=>by cases h⟩
 rw[List.append_nil,s1,hres];refine⟨[],[],⟨1,?_⟩,rfl,rfl⟩;simp[DataW.trod,hb,Value.cells]
 rw[List.append_nil,s2];exact Vt hl hchg.below _ _ _ _ (λt ht=>(hp t ht).2) (λx hx=>U x (by rw[hbef];simp[hx])) hA
 rw[List.append_nil,s3,T];rfl
end
section
variable {P:Program}{N:Nat}{t e:TypeId}{cs:List PV}{p:PV}
theorem Sn.WM {k:IntKind}(hu:P.underlying t=some (.int k))(h:Sn P N t cs):∃ n,cs=[.si k n]/\(Lit.int k n).wf=true:=by
 cases h with
 | int h1 h2=>rw[hu] at h1;cases h1;exact⟨_,rfl,h2⟩
 | _=>simp_all
theorem Sn.YG (hu:P.underlying t=some .bool)(h:Sn P N t cs):∃ b,cs=[.sb b]:=by
 cases h with
 | bool h1=>exact⟨_,rfl⟩
 | _=>simp_all
theorem Sn.aa8 (hu:P.underlying t=some .string)(h:Sn P N t cs):∃ s,cs=[.str s]/\s.size<=N:=by
 cases h with
 | str h1 h2=>exact⟨_,rfl,h2⟩
 | _=>simp_all
theorem Sn.qC (hu:P.underlying t=some (.slice e))(h:Sn P N t cs):∃ U,cs=[.sl (P.cellsOf e) U false]/\(∀ r∈U,Sn P N e r)/\U.length<=N:=by
 cases h with
 | sl h1 h2 T=>rw[hu] at h1;cases h1;exact⟨_,rfl,h2,T⟩
 | _=>simp_all
theorem Sn.kS {U:Array Field}(hu:P.underlying t=some (.struct U))(h:Sn P N t cs):SnL P N (U.toList.map (·.type)) cs:=by
 cases h with
 | struct h1 h2=>rw[hu] at h1;cases h1;exact h2
 | _=>simp_all
theorem Sn.Si {n:Nat}(hu:P.underlying t=some (.array n e))(h:Sn P N t cs):SnL P N (List.replicate n e) cs:=by
 cases h with
 | arr h1 h2=>rw[hu] at h1;cases h1;exact h2
 | _=>simp_all
theorem SnL.EU {ts:List TypeId}(h:SnL P N (t::ts) cs):∃ a b,cs=a++b/\Sn P N t a/\SnL P N ts b:=by
 cases h with
 | cons h1 h2=>exact⟨_,_,rfl,h1,h2⟩
theorem SnL.nH (h:SnL P N [] cs):cs=[]:=by cases h;rfl
theorem SnV.aa9 (U:lG P t=true)(h:SnV P N t p):∃ cs,p=.agg cs/\Sn P N t cs:=by
 cases h with
 | one h1 h2=>rw[U] at h2;cases h2
 | agg h1 h2=>exact⟨_,rfl,h1⟩
theorem SnV.inv_one (U:lG P t=false)(h:SnV P N t p):Sn P N t [p]:=by
 cases h with
 | one h1 h2=>exact h1
 | agg h1 h2=>rw[U] at h2;cases h2
theorem OB.EU {ts:List TypeId}{ps:List PV}(h:OB P N (t::ts) ps):∃ a b,ps=a::b/\SnV P N t a/\OB P N ts b:=by
 cases h with
 | cons h1 h2=>exact⟨_,_,rfl,h1,h2⟩
theorem OB.nH {ps:List PV}(h:OB P N [] ps):ps=[]:=by cases h;rfl
end
end Go.Pv
namespace Go.Pv
open Go
def VB:List PV->Bool
 | []=>true
 | v::vs=>(match v with
  | .bool _|.sb _|.int _ _|.si _ _|.str _|.sl _ _ _|.pp _|.FU|.SB=>true
  | .fn _ []=>true
  | _=>false)&&VB vs
def agt (S:jb)(b c:Nat)(E:Env):Env :=
 match jr E.st b with
 | some (.nor sz rows r row)=>(match jD row c with
  | .os id r0 n=>(match jr E.st id with
   | some (.arr _ z es)=>⟨E.tmps,oH (oH E.st id (some (.arr true z es))) b (some (.nor sz rows r (oq row c (.sl z (S.sub es r0 n) false)))),E.next⟩
   | _=>E)
  | _=>E)
 | _=>E
def adD (S:jb)(b:Nat):Nat->Nat->Env->Env
 | _,0,E=>E
 | c,k+1,E=>adD S b (c+1) k (agt S b c E)
def opO (S:jb)(t:Nat)(E:Env)(K:Env->Prop):Prop :=
 match jD E.tmps t with
 | .lp b r _=>(match jr E.st b with
  | some (.arr false sz rows)=>S.row rows r λrow=>K ⟨E.tmps,oH E.st b (some (.nor sz rows r row)),E.next⟩
  | _=>False)
 | _=>False
def ahy (S:jb)(b:Nat)(E:Env)(K:Env->Prop):Prop :=
 match jr E.st b with
 | some (.nor sz rows r row)=>bif VB row then wkC S row λrow=>K ⟨E.tmps,oH E.st b (some (.arr false sz (S.MN rows r row))),E.next⟩ else False
 | _=>False
def clO (S:jb)(b:Nat)(E:Env)(K:Env->Prop):Prop :=
 match jr E.st b with
 | some (.nor _ _ _ row)=>ahy S b (adD S b 0 (oG row) E) K
 | _=>False
inductive Cw where
 | cv (c:Cv)
 | op (t:Nat)
 | cl (b:Nat)
def cwK (S:jb):List Cw->Env->(Env->Prop)->Prop
 | [],E,K=>K E
 | .cv c::l,E,K=>cwK S l (cv1 S c E) K
 | .op t::l,E,K=>opO S t E λE=>cwK S l E K
 | .cl b::l,E,K=>clO S b E λE=>cwK S l E K
section
variable {P:Program}{T T' : Tab}
theorem Ud {w:World}{Y:Nat->Prop}{σ:Sg}:∀ (ps:List PV),VB ps=true->(∀ p∈ps,sO p=true/\∀ v,Rep w Y σ p v->Rep w Y iW p v)
 | [],_=>by simp
 | p::ps,h=>by
  simp only[VB,Bool.and_eq_true] at h;intro q hq;rcases List.mem_cons.1 hq with rfl|hq
  ·have h1:=h.1;cases q
   case fn f cs =>
    cases cs with
    | nil =>
     refine⟨rfl,λv hv=>?_⟩;unfold Rep at hv |-;obtain⟨zs,e1,U⟩:=hv;unfold gV at U;subst U;exact⟨[],e1,by unfold gV;rfl⟩
    | cons c cs=>simp at h1
   all_goals first|(simp at h1;done)|exact⟨rfl,λv hv=>by unfold Rep at hv |-;exact hv⟩
  exact Ud ps h.2 q hq
theorem agu {t b r c sz:Nat}{E:Env}{rows:List (List PV)}{row:List PV}(ht:jD E.tmps t=.lp b r c)(hb:jr E.st b=some (.arr false sz rows))(hr:rows[r]?=some row):Ent T E ⟨E.tmps,oH E.st b (some (.nor sz rows r row)),E.next⟩:=by
 rintro C a w ⟨⟨Y,σ,H⟩,hd⟩
 refine⟨⟨Y,σ,?_⟩,hd⟩;have U:=H.vals.get _ _ t;rw[ht] at U;unfold Rep at U;obtain⟨l,hl,_⟩:=U;have hB:=iw.yA H (λ_ _ h=>h) hb hl;unfold iw at hB;obtain⟨h1,h2,h3,h4,h5,g,h7⟩:=hB
 have J:r<rows.length:=by
  by_cases hh:r<rows.length
  exact hh
  simp[List.getElem?_eq_none (Nat.le_of_not_lt hh)] at hr
 have I:=jG.row rows _ r row h5 hr;refine H.update hb hl (g rfl) rfl rfl rfl rfl (λ_ _=>rfl) (λ_ _ h=>by cases h) λ_=>?_;unfold iw;exact⟨h1,h2,h3,h4,⟨J,I.1.1⟩,λi x hx _=>jG.row rows _ i x h5 hx,jA.keep row ⟨λ_ _ _=>rfl,λ_ _ h=>h,Nat.le_refl _,λ_ _ h=>by cases h⟩ (λ_=>rfl) _ I.2,g rfl⟩
theorem abg {C:Ctx T}{w:World}{Y:Nat->Prop}{σ:Sg}{ps:List PV}{vs:List Value}{st:St}{n b sz r:Nat}{rows:List (List PV)}{row:List PV}(H:SW C w Y σ ps vs st n)(hb:jr st b=some (.nor sz rows r row)):∃ l,σ b=some l/\iw w Y σ l (.nor sz rows r row):=by
 rcases H.store.blk b _ hb with h|⟨_,h⟩
 exact h
 cases h
theorem afi (b c:Nat)(E:Env):Ent T E (agt (jb.jJ P T') b c E):=by
 rintro C a w ⟨⟨Y,σ,H⟩,hd⟩
 unfold agt
 split
 rename_i sz rows r row I
 split
 rename_i id r0 m hp
 split
 rename_i ro z J hb;obtain⟨Y',H1,hfr,hY⟩:=H.freeze hb (.inr ⟨ro,z,J,rfl,rfl⟩);refine⟨⟨Y',σ,?_⟩,hd⟩;have hne:¬ id=b:=by intro e;rw[e,I] at hb;cases hb
 have U:jr (oH E.st id (some (.arr true z J))) b=some (.nor sz rows r row):=by rw[iR,if_neg hne];exact I
 obtain⟨l,hl,hB⟩:=abg H1 U;have hB0:=hB;unfold iw at hB;obtain⟨h1,h2,h3,h4,⟨h5,h6⟩,h7,h8,h9⟩:=hB;refine H1.update U hl h9 rfl rfl rfl rfl (λ_ _=>rfl) (λ_ _ h=>by cases h) λ_=>?_;unfold iw;refine⟨h1,h2,h3,h4,⟨h5,by simpa [rq] using h6⟩,h7,jA.pI _ _ _ (λv hv=>?_) h8,h9⟩;rw[hp] at hv;have hb' : jr (oH E.st id (some (.arr true z J))) id=some (.arr true z J):=by rw[iR,if_pos rfl]
 obtain⟨x,cap,ev,hn,hlen,hr⟩:=F9 hv (H1.store.blk id _ hb');show Rep w Y' σ (.sl z ((J.drop r0).take m) false) _;unfold Rep;refine⟨x,m,cap,ev,hlen,hn,(λh=>by cases h),hr.imp _root_.id λ⟨b2,o,e,hlt,⟨l,g,e2⟩,hR⟩=>⟨b2,o,e,⟨hlt,by rw[e2];exact hfr l g⟩,hR⟩⟩
 exact⟨⟨Y,σ,H⟩,hd⟩
 exact⟨⟨Y,σ,H⟩,hd⟩
 exact⟨⟨Y,σ,H⟩,hd⟩
theorem abh (b:Nat):∀ (k c:Nat) (E:Env),Ent T E (adD (jb.jJ P T') b c k E)
 | 0,_,E=>Ent.refl E
 | k+1,c,E=>(afi b c E).trans (abh b k (c+1) _)
theorem afj {b sz r:Nat}{E:Env}{rows:List (List PV)}{row U : List PV}(hb:jr E.st b=some (.nor sz rows r row))(hn:VB row=true)(hl:U.length=row.length)(hc:iT row=true->iT U=true)
  (hw:∀ (w:World) (Y:Nat->Prop) (σ:Sg) (vs:List Value),gV w Y σ row vs->gV w Y σ U vs):Ent T E ⟨E.tmps,oH E.st b (some (.arr false sz (rows.set r U))),E.next⟩:=by
 rintro C a w ⟨⟨Y,σ,H⟩,hd⟩
 refine⟨⟨Y,σ,?_⟩,hd⟩;obtain⟨l,hs,hB⟩:=abg H hb;unfold iw at hB;obtain⟨h1,h2,h3,h4,⟨h5,h6⟩,h7,h8,h9⟩:=hB;refine H.update hb hs h9 rfl rfl rfl rfl (λ_ _=>rfl) (λ_ _ h=>by cases h) λ_=>?_;have hcell:iT row=true:=by rw[qx];exact λp hp=>(Ud (w:=w) (Y:=Y) (σ:=σ) row hn p hp).1
 have g : jA w Y iW l.cb row (l.co+r*sz):=by
  rw[jA.iff] at h8 |-;intro i p hi;obtain⟨v,hv,hp⟩:=h8 i p hi;exact⟨v,hv,(Ud row hn p (List.mem_of_getElem? hi)).2 v hp⟩
 obtain⟨us,hu1,hu2⟩:=g.vals;have I : jA w Y iW l.cb U (l.co+r*sz):=jA.IJ _ _ _ (hw w Y iW us hu1) hu2;unfold iw;refine⟨h1,h2,h3,⟨by simpa using h4.1,by simpa using h4.2⟩,?_,λ_=>h9,λh=>by cases h⟩;rw[jG.iff];intro i x hi;rw[List.getElem?_set] at hi
 by_cases J:r=i
 subst J;rw[if_pos rfl,if_pos h5] at hi;cases hi;exact⟨⟨by rw[hl];exact h6,hc hcell⟩,I⟩
 rw[if_neg J] at hi;exact h7 i x hi λe=>J e.symm
theorem afk {t:Nat}{E:Env}{K:Env->Prop}(h:opO (jb.jJ P T') t E K):∃ F,Ent T E F/\K F:=by
 unfold opO at h
 split at h
 rename_i b r c ht
 split at h
 rename_i sz rows hb;obtain⟨row,hr,h⟩:=h;exact⟨_,agu ht hb hr,h⟩
 exact h.elim
 exact h.elim
theorem afl {b:Nat}{E:Env}{K:Env->Prop}(h:clO (jb.jJ P T') b E K):∃ F,Ent T E F/\K F:=by
 unfold clO at h
 split at h
 rename_i sz rows r row hb;have h1:Ent T E (adD (jb.jJ P T') b 0 (oG row) E):=abh b _ 0 E;generalize adD (jb.jJ P T') b 0 (oG row) E=E1 at h h1;unfold ahy at h
 split at h
 rename_i C J r2 U I
 cases hn:VB U with
 | false=>rw[hn] at h;exact h.elim
 | true =>
  rw[hn] at h;obtain⟨g,g1,g2,g3,g4,_⟩:=zS h;exact⟨_,h1.trans (afj I hn g1 g2 g3),g4⟩
 exact h.elim
 exact h.elim
theorem Sj:∀ (l:List Cw) {E:Env} {K:Env->Prop},cwK (jb.jJ P T') l E K->∃ F,Ent T E F/\K F
 | [],E,K,h=>⟨E,Ent.refl E,h⟩
 | .cv c::l,E,K,h=>by
  obtain⟨F,h1,h2⟩:=Sj l h;exact⟨F,(aa7 (P:=P) (T':=T') c E).trans h1,h2⟩
 | .op t::l,E,K,h=>by
  obtain⟨F,h1,h2⟩:=afk (T:=T) h;obtain⟨G,U,J⟩:=Sj l h2;exact⟨G,h1.trans U,J⟩
 | .cl b::l,E,K,h=>by
  obtain⟨F,h1,h2⟩:=afl (T:=T) h;obtain⟨G,U,J⟩:=Sj l h2;exact⟨G,h1.trans U,J⟩
variable {S:jb}(hS:S=jb.jJ P T)
include hS
theorem adE {ci:Nat}{U:Env}{A:Post->Prop}{B:Env->Prop}{Q:Post}(l:List Cw)(h:A (GR (λE=>cwK S l E B) Q)):S.seq ci U A B Q:=by
 subst hS;refine⟨_,h,λn E h=>?_⟩
 cases n with
 | zero=>exact Sj l h
 | succ n=>exact⟨E,Ent.refl E,h⟩
end
end Go.Pv
namespace Go.Pv
open Go
section
variable {P:Program}{T:Tab}{S:jb}{M:iO}{α β σ ρ:Type}{r:ρ}
theorem d_x {I F:σ->Env}{k:σ->Option ρ}{s:σ}{E:Env}(hk:∀ s,I s=F s)(O:k s=some r)(e:E=F s:=by (conv=>lhs;cbv)<;>(try simp only[q])<;>(try rfl)<;>(try simp only[eL,q])<;>(try rfl)<;>(try (subst hM;rfl))):∃ s,k s=some r/\E=I s:=⟨s,O,e.trans (hk s).symm⟩
theorem d_l {u v:PV}(e:u=v:=by simp only[q];try first|rfl|simp[zL,eI,eB,eL,eS,q]):LeP u v:=Ua e
theorem mi {α:Sort _}{u v:α}(e:u=v:=by simp only[q];try first|rfl|simp[zL,eI,eB,eL,eS,q]):u=v:=e
theorem Z9 (hS:S=jb.jJ P T)(hT:jv P T)(hW:Bg P){b:Code}{Q:Post}{E:Env}{step:σ->(σ->Option ρ)->Option ρ}{U:σ}(cvs:List Cv)(keep:List Nat)(F:σ->Env)(O:ig step U=some r)
  (h:∀ (I:σ->Env) (k:σ->Option ρ) (s:σ),(∀ s,I s=F s)->step s k=some r->∀ e,e=F s->Hz T S b (GR (λg=>∃ J,k J=some r/\FV T.pG keep (wkE (IE S cvs g))=I J) Q) e) (C:FV T.pG keep (wkE (IE S cvs E))=F U:=by (conv=>lhs;cbv)<;>(try simp only[q])<;>(try rfl)):S.loop b Q E:=I4 hS hT hW cvs keep F O C h
theorem FX (hS:S=jb.jJ P T){k:Nat}{args as bs:List PV}{cargs:List PV}{E:Env}{K:PV->Env->Prop}{g:Option α}{v:α->PV}{kk:α->Option ρ}(O:bnd g kk=some r)(hF:∀ y,g=some y->Fn P T.gl k cargs (λu=>u=v y))(h:∀ y,kk y=some r->K (v y) E)(ha:as=cargs:=by rfl):S.QK k args as bs E K:=aba hS O hF (le_eq ha) h
theorem d_c (hS:S=jb.jJ P T){k:Nat}{args:List PV}{cargs:List PV}{K:PV->Prop}{g:Option α}{v:α->PV}{kk:α->Option ρ}(O:bnd g kk=some r)(hF:∀ y,g=some y->Fn P T.gl k cargs (λu=>u=v y))(h:∀ y,kk y=some r->K (v y))(ha:args=cargs:=by rfl):S.SC k args K:=Ns hS O hF (le_eq ha) h
theorem WS (hS:S=jb.jJ P T)(hT:jv P T)(hW:Bg P){b:Code}{Q:Post}{E:Env}{step:σ->(σ->Option ρ)->Option ρ}{g:σ}(U cvs:List Cv)(keep:List Nat)(F:σ->Env)(O:ig step g=some r)(he:FV T.pG keep (wkE (IE S U E))=F g)
  (h:∀ (I:σ->Env) (k:σ->Option ρ) (s:σ),(∀ s,I s=F s)->step s k=some r->∀ e,e=F s->Hz T S b (GR (λE'=>∃ s',k s'=some r/\FV T.pG keep (wkE (IE S cvs E'))=I s') Q) e):S.loop b Q E:=by
 subst hS;intro C a w hA
 have key:∀ (n:Nat) (s:σ),jK step n s=some r->∀ (C:Ctx T) a w,lI C (F s) a w->Code.rounds P b (lift C Q) n a w:=by
  intro n
  induction n with
  | zero=>intro s h;cases h
  | succ n ih =>
   intro s hs C a w hA;unfold Code.rounds;refine wp_mono (zn hT hW b _ _ (h F (jK step n) s (λ_=>rfl) hs _ rfl) C a w hA) (Gh λE' J w' hA' hq=>?_);obtain⟨j,hj,he⟩:=hq;exact ih j hj C J w' (he ▸ ER keep _ C J w' (IZ _ C J w' (zY (P:=P) (T':=T) cvs E' C J w' hA')))
 exact wp_loop_rounds fuel (key _ g O C a w (he ▸ ER keep _ C a w (IZ _ C a w (zY (P:=P) (T':=T) U E C a w hA))))
theorem Ii (hS:S=jb.jJ P T){l:Array Oper}{p:Prop}(h:p)(hd:EN T l=true:=by kernel_rfl):S.order l p:=aa2 hS hd h
end
def Qp (T:Tab)(S:jb)(cvs:List Cv)(rs:List ResultVar)(R:PV->St->Nat->Prop):Post
 | 0,E=>QQ T S rs (IE S cvs E) R
 | 1,E=>QQ T S rs (IE S cvs E) R
 | _+2,_=>False
theorem JX {P:Program}{T:Tab}(hT:jv P T)(hW:Bg P){k:Nat}{fn:Func}{c:Code}(O:P.funcs[k]?=some fn)(hb:fn.body=some c)
  (hcall:∀ args w,(callFunc k args).run P w=.ok (.enter k args) w) {args:List PV} {st:St} {R:PV->St->Nat->Prop} {m:Nat} (hm:fn.ntmps-args.length=m)
  (cvs:List Cv) (h:∀ S,S=jb.jJ P T->Hz T S c (Qp T S cvs fn.results.toList R) ⟨uX args (rO m),st,T.pG⟩) {w:World} {Y:Nat->Prop} {σ:Sg} {U:List Value} (hG:Ry T.gl w Y) (hY:∀ b,Y b->b<w.heap.size) (hn:∀ b,T.pG<=b->σ b=none) (I:gV w Y σ args U) (hst:DK w Y σ st) (hnn:lS st=true) (hyk:YOK (yf T w Y σ st)) :
  (callFunc k U.toArray).run P w=.ok (.enter k U.toArray) w /\
  Calls P k U.toArray w λe w'=>∃ cv v st' n' Y' σ',e=.returned cv/\R v st' n'/\SW (yf ⟨λ_=>.bad,T.gl,T.pG,[],0,[],[],none,λ_=>[]⟩ w Y σ st) w' Y' σ' [v] [cv] st' n':=by
 refine⟨hcall _ _,?_⟩;have hlen:=I.length
 let C:Ctx T:=yf T w Y σ st
 have H0:SW C w Y σ (uX args (rO m)) ((U.toArray++Array.replicate (fn.ntmps-U.toArray.size) Go.undef).toList) st T.pG:=by
  refine⟨?_,hst,hn,hY,λ_ h=>h.1,λk h=>⟨hY k h.1,h.2⟩,λk h _=>?_,JG.refl _ w,λb x l h1 h2=>.inr ⟨b,x,l,h1,h2,rfl⟩,hG,⟨Nat.le_refl _,λ_ _=>rfl⟩,zQ.none (IY st hnn)⟩
  have:(U.toArray++Array.replicate (fn.ntmps-U.toArray.size) Go.undef).toList=U++List.replicate m Go.undef:=by simp[hlen,hm]
  rw[this];exact gV.app _ _ _ _ I (ET m)
  by_cases hi:DW σ st k
  exact .inr ⟨h,hi⟩
  exact .inl ⟨h,hi⟩
 have hwp:=zn hT hW c _ _ (h _ rfl) C { tmps:=U.toArray++Array.replicate (fn.ntmps-U.toArray.size) Go.undef,defers:=[] } w ⟨⟨Y,σ,H0⟩,rfl,hyk⟩;refine calls_of_wp O hb (wp_mono hwp ?_)
 have key:∀ (a:Act) (w' : World),(∃ E,lI C E a w'/\QQ T (jb.jJ P T) fn.results.toList (IE (jb.jJ P T) cvs E) R)->a.defers=[]/\∃ v,(results fn a.tmps).run P w'=.ok v w' /\
   ∃ cv u st' n' Y' σ',Ending.returned v=.returned cv/\R u st' n'/\SW (yf ⟨λ_=>.bad,T.gl,T.pG,[],0,[],[],none,λ_=>[]⟩ w Y σ st) w' Y' σ' [u] [cv] st' n':=by
  rintro a w' ⟨E0,hA0,hr⟩
  obtain⟨⟨Y',σ',H⟩,hd⟩:=zY (P:=P) (T':=T) cvs E0 C a w' hA0;generalize IE (jb.jJ P T) cvs E0=E at *;refine⟨hd.1,?_⟩;unfold QQ at hr
  split at hr
  rename_i vs hv;obtain⟨cv,hrun,hrep⟩:=KZ hT H hv;have H1:SW C w' Y' σ' [GU vs] [cv] E.st E.next:=H.rP eG
  obtain⟨Y1,σ1,n',H2,g⟩:=QZ (P:=P) (T':=T) T.own (GU vs) H1 hrep;have H3:=H2.rP (show gV w' Y1 σ1 [(U9 (jb.jJ P T) T.own (GU vs) E.st E.next).1] [cv] by unfold gV;exact⟨_,_,rfl,g,by unfold gV;rfl⟩)
  split at hr
  rename_i v st2 n2 he;rw[he] at H3;obtain⟨h1,h2,h3⟩:=JO T.pG st2 [v];obtain⟨σ2,J,_⟩:=H3.X7 h1 h2 h3;refine⟨cv,hrun,cv,_,_,_,Y1,σ2,rfl,hr,⟨?_,J.store,J.next,J.vw,J.y0,J.c0,J.wI,J.qh,J.own,J.wJ,J.fix,J.nest⟩⟩
  simpa only[zH] using J.vals
  exact hr.elim
 intro e a w' hq
 cases e with
 | normal=>exact key a w' hq
 | ret=>exact key a w' hq
 | exit n=>obtain⟨E,_,hq⟩:=hq;exact hq.elim
 | _=>exact hq.elim
theorem WT {P:Program}{T:Tab}(hT:jv P T)(hW:Bg P){k:Nat}{fn:Func}{c:Code}(O:P.funcs[k]?=some fn)(hb:fn.body=some c)
  (J:∀ args w,(callFunc k args).run P w=.ok (.enter k args) w) {args:List PV} {st:St} {R:PV->St->Nat->Prop} {m:Nat} (hm:fn.ntmps-args.length=m)
  (cvs:List Cv) (h:∀ S,S=jb.jJ P T->Hz T S c (Qp T S cvs fn.results.toList R) ⟨uX args (rO m),st,T.pG⟩) (hyl:T.yl=none:=by rfl):FnS P T.gl k args st T.pG R :=
 λ_ _ _ _ hG g hn U I C=>JX hT hW O hb J hm cvs h hG g hn U I C (YOK.none hyl)
theorem xe {P:Program}{T:Tab}(hT:jv P T)(hW:Bg P){k:Nat}{fn:Func}{c:Code}(O:P.funcs[k]?=some fn)(hb:fn.body=some c)
  (J:∀ args w,(callFunc k args).run P w=.ok (.enter k args) w) {args:List PV} {st:St} {v:PV} {st1:St} {n1:Nat} {m:Nat} (hm:fn.ntmps-args.length=m)
  (cvs:List Cv) (h:∀ S R,S=jb.jJ P T->(∀ u s n,LeP u v->LeS s st1->n=n1->R u s n)->Hz T S c (Qp T S cvs fn.results.toList R) ⟨uX args (rO m),st,T.pG⟩) (hyl:T.yl=none:=by rfl):FnS P T.gl k args st T.pG (λu s n=>u=v/\s=st1/\n=n1):=by
 have H:=WT hT hW O hb J hm (hyl:=hyl) (st:=st) (cvs:=cvs) (R:=λu s n=>LeP u v/\LeS s st1/\n=n1) λS hS=>h S _ hS λ_ _ _ h1 h2 g=>⟨h1,h2,g⟩
 intro w Y σ U hG hY hn hr I C;obtain⟨h1,h2⟩:=H w Y σ U hG hY hn hr I C;refine⟨h1,Calls.mono h2 λe w' hh=>?_⟩;obtain⟨cv,u,s,n,Y',σ',he,⟨g,h4,h5⟩,H⟩:=hh;refine⟨cv,v,st1,n,Y',σ',he,⟨rfl,rfl,h5⟩,?_⟩
 have hv:gV w' Y' σ' [v] [cv]:=by
  have:=H.vals;unfold gV at this |-;obtain⟨c,cs,e,h6,h7⟩:=this;cases e;exact⟨_,_,rfl,g.rep _ h6,by unfold gV at h7 |-;exact h7⟩
 exact (H.rP hv).Ov (h4.Ov w' Y' σ')
end Go.Pv
namespace Go.Pv
open Go
theorem d_R {p:Prop}(h:p:=by intro O;cbv;cases O;first|exact hR _ (Ua rfl)|exact hR _ d_l):p:=h
theorem ab2 {p:Prop}(h:p:=by intro _ O;cbv;cases O;first|exact hR _ (Ua rfl)|exact hR _ d_l):p:=h
theorem ahz {p:Prop}(h:p:=by cases O;first|exact hR _ (Ua rfl)|exact hR _ d_l):p:=h
theorem sV {p:Prop}(h:p:=by intro O;cbv;exact d_x dC O):p:=h
theorem zK {p:Prop}(h:p:=by intro _ O;cbv;exact d_x dC O):p:=h
theorem uB {p:Prop}(h:p:=by exact d_x dC O):p:=h
abbrev sI (x:Int):PV:=.si .i64 x
abbrev vR (l:List PV):Option mP:=some (.var false l)
abbrev aR (n:Nat) (l:List (List PV)):Option mP:=some (.arr false n l)
abbrev mI (M:iO) (l:List Int):List (List PV):=M.m Int (eI .i64) l
def stL:Nat->List (Option mP)->St
 | _,[]=>[]
 | i,b::l=>(i,b)::stL (i+1) l
def ahA:List (Option mP)->Nat
 | []=>0
 | _::l=>ahA l+1
def f3 (n:Nat)(ts:List (Nat×PV))(bs:List (Option mP)):Env:=⟨aff 0 n ts,stL 0 bs,ahA bs⟩
def ahB:List Nat->List PV->List (Nat×PV)
 | k::ks,v::vs=>(k,v)::ahB ks vs
 | _,_=>[]
def f4 (n:Nat)(vs:List PV)(bs:List (Option mP))(ks:List Nat):Env:=f3 n (ahB ks vs) bs
section
variable {P:Program}{T:Tab}{S:jb}{M:iO}{α β σ ρ:Type}{r:ρ}
theorem pW {c c' : Bool}{fa fb:Option ρ}{A B:Unit->Prop}(ha:fa=some r->A ())(hb:fb=some r->B ())(hS:S=jb.jJ P T:=by assumption)(O:br c' fa fb=some r:=by exact O)(e:c=c':=by simp only[q];try first|rfl|simp[zL,eI,eB,eL,eS,q]):S.br c A B:=Qn hS O e ha hb
theorem vH {c c' : Bool}{fa fb:Option ρ}{A B:Unit->Prop}(ha:fa=some r->A ())(hb:fb=some r->B ())(hS:S=jb.jJ P T:=by assumption)(O:br c' fa fb=some r:=by exact O)(e:c=c':=by rfl):S.br c A B:=Qn hS O e ha hb
theorem d_I {es:List (List PV)}{l:List α}{e:α->List PV}{i i' : Int}{k:α->Option ρ}{K:List PV->Prop}(h:∀ x,k x=some r->K (e x))(hS:S=jb.jJ P T:=by assumption)(hM:M=lC:=by assumption)(O:bnd (jS l i') k=some r:=by exact O)(he:es=M.m α e l:=by rfl)(hi:i=i':=by rfl):S.idx es i K:=ady hS hM O he hi h
theorem Bd {ci:Nat}{U:Env}{A:Post->Prop}{B:Env->Prop}{Q:Post}{rest:σ->Option ρ}{body:(σ->Option ρ)->Option ρ}(cvs:List Cv)(keep:List Nat)(F:σ->List Nat->Env)(O:jn rest body=some r)
  (h:∀ (I:σ->Env) (k:σ->Option ρ),(∀ s,I s=F s keep)->body k=some r->A (GR (λE=>∃ s,k s=some r/\FV T.pG keep (wkE (IE S cvs E))=I s) Q)) (h2:∀ s,rest s=some r->B (F s keep)) (hS:S=jb.jJ P T:=by assumption):S.seq ci U A B Q:=afL hS cvs keep (λs=>F s keep) O h h2
theorem d_L (hT:jv P T){b:Code}{Q:Post}{E:Env}{step:σ->(σ->Option ρ)->Option ρ}{U:σ}(cvs:List Cv)(keep:List Nat)(F:σ->List Nat->Env)(O:ig step U=some r)
  (h:∀ (I:σ->Env) (k:σ->Option ρ) (s:σ),(∀ s,I s=F s keep)->step s k=some r->∀ e,e=F s keep->Hz T S b (GR (λg=>∃ J,k J=some r/\FV T.pG keep (wkE (IE S cvs g))=I J) Q) e) (C:FV T.pG keep (wkE (IE S cvs E))=F U keep:=by (conv=>lhs;cbv)<;>(try simp only[q])<;>(try rfl)) (hS:S=jb.jJ P T:=by assumption) (hW:Bg P:=by exact wf):S.loop b Q E:=Z9 hS hT hW cvs keep (λs=>F s keep) O h C
end
theorem Ij {P:Program}{T:Tab}(hT:jv P T){k:Nat}{fn:Func}{c:Code}(O:P.funcs[k]?=some fn)
  (U:∀ args w,(callFunc k args).run P w=.ok (.enter k args) w) {args:List PV} {v:PV} {m:Nat}
  {M:iO} (h:∀ S R,S=jb.jJ P T->(∀ u,LeP u v->R u)->SF M S->Hz T S c (aeK T S fn.results.toList R) ⟨uX args (rO m),[],0⟩) (hM:M=lC:=by assumption) (hp:T.pG=0:=by rfl) (hW:Bg P:=by exact wf) (hb:fn.body=some c:=by rfl) (J:fn.ntmps-args.length=m:=by rfl) (hyl:T.yl=none:=by rfl):Fn P T.gl k args (λu=>u=v):=adx hT hp hW O hb U J (hyl:=hyl) λS R hS hR=>h S R hS hR (sf hM hS)
end Go.Pv
