import Derived.LoopN
import Derived.OpenShut
import Derived.DataReads
import Derived.Carry
import Derived.Handed
import Derived.JoinedCond
import Derived.Test.YtchmoabpofnbaaaGreatB05
set_option linter.all false
namespace Go.Pv
open Go
def adS (T:Tab)(S:iK)(b:Code)(Q:Post):Nat->Env->Prop
 | 0,_=>False
 | n+1,E=>pwp T S b (Lh (λE=>adS T S b Q n E) Q) E
theorem ET {P:Program}{T:Tab}{C:Ctx T}{b:Code}{Q:Post}{nx:Env->Prop}{n:Nat}(hb:∀ E a w,kC C E a w->nx E->Code.rounds P b (lift C Q) n a w):∀ e a w,lift C (Lh nx Q) e a w->Exit.then (Code.rounds P b (lift C Q) n) (lift C Q) e a w:=by
 intro e a w h
 cases e with
 | normal=>obtain⟨E,hA,hq⟩:=h;exact hb E a w hA hq
 | ret=>obtain⟨E,hA,hq⟩:=h;exact⟨E,hA,hq⟩
 | exit n=>obtain⟨E,hA,hq⟩:=h;exact⟨E,hA,hq⟩
 | _=>exact h.elim
theorem SN {P:Program}{T:Tab}(hT:jg P T)(hW:CW P){b:Code}{Q:Post}:∀ (n:Nat) (E:Env),adS T (iK.jd P T) b Q n E->∀ (C:Ctx T) a w,kC C E a w->Code.rounds P b (lift C Q) n a w
 | 0,E,h,_,_,_,_=>h.elim
 | n+1,E,h,C,a,w,hA=>by
  unfold Code.rounds;exact wp_mono (Aj hT hW b _ E h C a w hA) (ET λR J w' U hq=>SN hT hW n R hq C J w' U)
def wkV:PV->PV
 | .int k n=>.si k n
 | .bool b=>.sb b
 | v=>v
def wkB:Option jq->Option jq
 | some (.var ro row)=>some (.var ro (DR wkV row))
 | x=>x
def wkS:St->St
 | []=>[]
 | (b,x)::l=>(b,wkB x)::wkS l
def wkE (E:Env):Env:=⟨DR wkV E.tmps,wkS E.st,E.next⟩
theorem abe (c:Nat):∀ st:St,iO (wkS st) c=wkB (iO st c)
 | []=>rfl
 | (b,x)::l=>by
  simp only[wkS,iO]
  cases Nat.beq b c with
  | true=>rfl
  | false=>exact abe c l
theorem abf {w:World}{Y:Nat->Prop}{σ:Sg}(p:PV)(v:Value)(h:Rep w Y σ p v):Rep w Y σ (wkV p) v:=by
 cases p<;>first|exact h|(unfold wkV;unfold Rep at h |-;exact h)
theorem abg {w:World}{Y:Nat->Prop}{σ:Sg}:∀ (ps:List PV) (vs:List Value),gB w Y σ ps vs->gB w Y σ (DR wkV ps) vs
 | [],vs,h=>h
 | p::ps,vs,h=>by
  unfold gB at h;obtain⟨v,U,rfl,h1,h2⟩:=h;simp only[DR];unfold gB;exact⟨v,U,rfl,abf p v h1,abg ps U h2⟩
theorem SW.UA {T:Tab}{C:Ctx T}{w:World}{Y:Nat->Prop}{σ:Sg}{ps:List PV}{vs:List Value}{st st' : St}{n:Nat}(H:SW C w Y σ ps vs st n)
  (h:∀ b,iO st' b=iO st b\/∃ ro row U,iO st b=some (.var ro row)/\iO st' b=some (.var ro U)/\U.length=row.length/\∀ cb o,jc w Y σ cb row o->jc w Y σ cb U o):SW C w Y σ ps vs st' n:=by
 have R : ∀ b x,iO st' b=some x->∃ y,iO st b=some y:=by
  intro b x hx;rcases h b with e|⟨ro,row,U,e1,e2,_⟩
  exact⟨x,by rw[<- e];exact hx⟩
  exact⟨_,e1⟩
 have ow:∀ b r c I sz J,lM st' b r c I sz J->lM st b r c I sz J:=by
  rintro b r c I sz J ⟨sz0,rows,row,h1,h2⟩
  rcases h b with e|⟨ro,row1,U,e1,e2,_⟩
  exact⟨sz0,rows,row,by rw[<- e];exact h1,h2⟩
  rw[e2] at h1;cases h1
 refine⟨H.vals,⟨?_,?_⟩,H.next,H.vg,H.y0,H.c0,H.vk,H.mf,?_,H.wz,H.fix,⟨?_,?_,?_,?_⟩⟩
 intro b x hx;rcases h b with e|⟨ro,row,U,e1,e2,e3,e4⟩
 exact H.store.blk b x (by rw[<- e];exact hx)
 rw[e2] at hx;cases hx;rcases H.store.blk b _ e1 with ⟨l,hl,hB⟩|⟨_,_,_,hx⟩
 refine .inl ⟨l,hl,?_⟩;unfold gJ at hB |-;exact⟨hB.1,by rw[e3];exact hB.2.1,by rw[e3];exact hB.2.2.1,e4 _ _ hB.2.2.2.1,hB.2.2.2.2⟩
 cases hx
 intro b g x x' l l' hx hx' hl hl' e;obtain⟨y,hy⟩:=R b x hx;obtain⟨y',hy'⟩:=R g x' hx';exact H.store.inj b g y y' l l' hy hy' hl hl' e
 intro b x l hx hl;obtain⟨y,hy⟩:=R b x hx;exact H.own b y l hy hl
 intro b r c I sz J ho;exact H.nest.rep _ _ _ _ _ _ (ow _ _ _ _ _ _ ho)
 intro b r c I sz J ho;exact H.nest.old _ _ _ _ _ _ (ow _ _ _ _ _ _ ho)
 intro b r c I sz J g r' c' h2 sz' es' ho ho' e;exact H.nest.one _ _ _ _ _ _ _ _ _ _ _ _ (ow _ _ _ _ _ _ ho) (ow _ _ _ _ _ _ ho') e
 intro b r c I sz J g x l ho hx hl;obtain⟨y,hy⟩:=R g x hx;exact H.nest.sep _ _ _ _ _ _ g y l (ow _ _ _ _ _ _ ho) hy hl
theorem Ii {T:Tab}(E:Env):Ent T E (wkE E):=by
 intro C a w hA;obtain⟨⟨Y,σ,H⟩,U⟩:=hA;refine⟨⟨Y,σ,(H.qo (abg _ _ H.vals)).UA λb=>?_⟩,U⟩;have hk:iO (wkE E).st b=wkB (iO E.st b):=abe b E.st;rw[hk]
 cases hb:iO E.st b with
 | none=>exact .inl rfl
 | some x =>
  cases x with
  | var ro row =>
   refine .inr ⟨ro,row,DR wkV row,rfl,rfl,by rw[Bd];simp,λcb o h=>?_⟩;rw[Bd];exact jc.map abf row o h
  | _=>exact .inl rfl
theorem jc.oG {w:World}{Y:Nat->Prop}{σ:Sg}{b:Nat}{p:PV}:∀ (ps:List PV) (o t:Nat),(∀ v,Rep w Y σ (iZ ps t) v->Rep w Y σ p v)->jc w Y σ b ps o->jc w Y σ b (qU ps t p) o
 | [],o,t,_,h=>by simpa [qU] using h
 | q::ps,o,0,hp,h=>by
  unfold jc at h;obtain⟨⟨v,h1,h2⟩,U⟩:=h;simp only[qU];unfold jc;exact⟨⟨v,h1,hp v h2⟩,U⟩
 | q::ps,o,t+1,hp,h=>by
  unfold jc at h;obtain⟨h1,U⟩:=h;simp only[qU];unfold jc;exact⟨h1,jc.oG ps (o+1) t hp U⟩
inductive Cv where
 | tO (t z:Nat)
 | tS (t z:Nat)
 | cO (b c z:Nat)
 | cS (b c z:Nat)
 | tR (t:Nat)
 | tF (t:Nat)
 | tP (t:Nat)
 | cF (b c:Nat)
 | cR (b c:Nat)
def cvS (z:Nat)(v:PV):PV :=
 match v with
 | .sl a es f=>(match f with
  | true=>(match es with
   | []=>.sl z [] false
   | _::_=>.sl a es f)
  | false=>.sl a es f)
 | v=>v
theorem abh {w:World}{Y:Nat->Prop}{σ:Sg}(z:Nat)(p:PV)(v:Value)(h:Rep w Y σ p v):Rep w Y σ (cvS z p) v:=by
 unfold cvS
 split
 split
 split
 unfold Rep at h |-;obtain⟨a,len,cap,e,hl,U,_,_⟩:=h;exact⟨a,len,cap,e,hl,U,(λh=>by cases h),.inl rfl⟩
 exact h
 exact h
 exact h
def cvO (z n:Nat)(v:PV):Option PV :=
 match v with
 | .sl _ es f=>(match f with
  | true=>(match es with
   | []=>some (.os n 0 0)
   | _::_=>none)
  | false=>none)
 | _=>none
theorem abj {w:World}{Y:Nat->Prop}{σ:Sg}{z n:Nat}{p q:PV}(e:cvO z n p=some q)(v:Value)(h:Rep w Y σ p v):Rep w Y σ q v:=by
 unfold cvO at e
 split at e
 split at e
 split at e
 cases e;unfold Rep at h |-;obtain⟨T,len,cap,e,hl,U,O,_⟩:=h;have hl:len=0:=by simpa using hl
 have U:=O rfl;subst hl;rw[e,U];exact .inr ⟨rfl,T,rfl⟩
 cases e
 cases e
 cases e
def cv1 (S:iK):Cv->Env->Env
 | .tO t z,E=>(match cvO z E.next (iZ E.tmps t) with
  | some v=>⟨qU E.tmps t v,nI E.st E.next (some (.arr false z [])),E.next+1⟩
  | none=>E)
 | .tS t z,E=>⟨qU E.tmps t (cvS z (iZ E.tmps t)),E.st,E.next⟩
 | .cO b c z,E=>(match iO E.st b with
  | some (.var ro row)=>(match cvO z E.next (iZ row c) with
   | some v=>⟨E.tmps,nI (nI E.st b (some (.var ro (qU row c v)))) E.next (some (.arr false z [])),E.next+1⟩
   | none=>E)
  | _=>E)
 | .cS b c z,E=>(match iO E.st b with
  | some (.var ro row)=>⟨E.tmps,nI E.st b (some (.var ro (qU row c (cvS z (iZ row c))))),E.next⟩
  | _=>E)
 | .tR t,E=>(match iZ E.tmps t with
  | .os b r m=>(match iO E.st b with
   | some (.arr false sz rows)=>⟨qU E.tmps t (.os E.next 0 m),nI (nI E.st b none) E.next (some (.arr false sz (S.sub rows r m))),E.next+1⟩
   | _=>E)
  | _=>E)
 | .tF t,E=>(match iZ E.tmps t with
  | .os b r m=>(match iO E.st b with
   | some (.arr _ sz rows)=>⟨qU E.tmps t (.sl sz (S.sub rows r m) false),nI E.st b (some (.arr true sz rows)),E.next⟩
   | _=>E)
  | _=>E)
 | .tP t,E=>(match iZ E.tmps t with
  | .lv b c=>(match iO E.st b with
   | some (.var _ row)=>(match FM S (λ_=>none) row with
    | some _=>⟨qU E.tmps t (.pp (Cj c row)),nI E.st b (some (.var true row)),E.next⟩
    | none=>E)
   | _=>E)
  | _=>E)
 | .cF b c,E=>(match iO E.st b with
  | some (.var ro row)=>(match iZ row c with
   | .os b' r m=>(match iO E.st b' with
    | some (.arr _ sz rows)=>⟨E.tmps,nI (nI E.st b' (some (.arr true sz rows))) b (some (.var ro (qU row c (.sl sz (S.sub rows r m) false)))),E.next⟩
    | _=>E)
   | _=>E)
  | _=>E)
 | .cR b c,E=>(match iO E.st b with
  | some (.var false row)=>(match iZ row c with
   | .os b' r m=>(match iO E.st b' with
    | some (.arr false sz rows)=>⟨E.tmps,nI (nI (nI E.st b' none) E.next (some (.arr false sz (S.sub rows r m)))) b (some (.var false (qU row c (.os E.next 0 m)))),E.next+1⟩
    | _=>E)
   | _=>E)
  | _=>E)
def cvE (S:iK):List Cv->Env->Env
 | [],E=>E
 | c::l,E=>cvE S l (cv1 S c E)
theorem adT {P:Program}{T T' : Tab}{C:Ctx T}{w:World}{Y:Nat->Prop}{σ:Sg}{vs:List Value}(c:Cv)(E:Env)(H:SW C w Y σ E.tmps vs E.st E.next):∃ Y' σ',SW C w Y' σ' (cv1 (iK.jd P T') c E).tmps vs (cv1 (iK.jd P T') c E).st (cv1 (iK.jd P T') c E).next/\Keep w w Y Y' σ σ':=by
 have K0:Keep w w Y Y σ σ:=Keep.same (mg.refl _)
 have H1:∀ z,SW C w Y σ E.tmps vs (nI E.st E.next (some (.arr false z []))) (E.next+1):=by
  intro z;have H1:=H.empty (id:=E.next) ⟨H.next _ (Nat.le_refl _),H.fix.1⟩ z;have hm:max E.next (E.next+1)=E.next+1:=by omega
  rw[hm] at H1;exact H1
 cases c with
 | tO t z =>
  simp only[cv1]
  split
  rename_i v he;exact⟨Y,σ,(H1 z).qo (gB.oG _ _ _ H.vals (abj he _ (H.vals.get _ _ t))),K0⟩
  exact fF
 | tS t z=>exact⟨Y,σ,H.qo (gB.oG _ _ _ H.vals (abh z _ _ (H.vals.get _ _ t))),K0⟩
 | cO b c z =>
  simp only[cv1]
  split
  rename_i ro row hb
  split
  rename_i v he;refine⟨Y,σ,(H1 z).UA λU=>?_,K0⟩
  have hne:¬ E.next=b:=by
   intro e;rcases H.store.blk b _ hb with ⟨l,hl,_⟩|⟨_,_,_,hx⟩
   rw[H.next b ah] at hl;cases hl
   cases hx
  simp only[iG]
  by_cases h1:E.next=U
  exact .inl (by simp[h1])
  by_cases h2:b=U
  subst h2;exact .inr ⟨ro,row,qU row c v,by simp[h1,hb],by simp[h1],by simp[qK],λcb o h=>jc.oG _ _ _ (λv=>abj he v) h⟩
  exact .inl (by simp[h1,h2])
  exact fF
  exact fF
 | cS b c z =>
  simp only[cv1]
  split
  rename_i ro row hb;refine⟨Y,σ,H.UA λU=>?_,K0⟩;simp only[iG]
  by_cases h2:b=U
  subst h2;exact .inr ⟨ro,row,qU row c (cvS z (iZ row c)),hb,by simp,by simp[qK],λcb o h=>jc.oG _ _ _ (λv=>abh z _ v) h⟩
  exact .inl (by simp[h2])
  exact fF
 | tR t =>
  simp only[cv1];have hg:=H.vals.get _ _ t
  split
  rename_i b r m hp;rw[hp] at hg
  split
  rename_i sz rows hb;obtain⟨σ',H1,h1,k1⟩:=H.ZP hb hg;exact⟨Y,σ',H1.qo (gB.oG _ _ _ H1.vals h1),Keep.same k1⟩
  exact fF
  exact fF
 | tF t =>
  simp only[cv1]
  split
  rename_i b r m hp
  split
  rename_i ro sz rows hb;obtain⟨Y',H1,g,hY⟩:=H.freeze hb (.inr ⟨ro,sz,rows,rfl,rfl⟩);refine⟨Y',σ,H1.qo (gB.oG _ _ _ H1.vals ?_),⟨λ_ _ _=>rfl,λk _=>hY k,Nat.le_refl _,mg.refl _⟩⟩;have hg:=H1.vals.get _ _ t;rw[hp] at hg;have hb' : iO (nI E.st b (some (.arr true sz rows))) b=some (.arr true sz rows):=by rw[iG,if_pos rfl]
  obtain⟨x,cap,ev,hn,hl,hr⟩:=ER hg (H1.store.blk b _ hb');show Rep w Y' σ (.sl sz ((rows.drop r).take m) false) _;unfold Rep;refine⟨x,m,cap,ev,hl,hn,(λh=>by cases h),hr.imp id λ⟨U,o,e,I,⟨l,J,e2⟩,hR⟩=>⟨U,o,e,⟨I,by rw[e2];exact g l J⟩,hR⟩⟩
  exact fF
  exact fF
 | tP t =>
  simp only[cv1]
  split
  rename_i b c hp
  split
  rename_i ro row hb
  split
  rename_i pr hpur;obtain⟨Y',H1,g,hY⟩:=H.freeze hb (x':=.var true row) (.inl ⟨ro,row,rfl,rfl⟩);refine⟨Y',σ,H1.qo (gB.oG _ _ _ H1.vals ?_),⟨λ_ _ _=>rfl,λk _=>hY k,Nat.le_refl _,mg.refl _⟩⟩;have hg:=H1.vals.get _ _ t;rw[hp] at hg;unfold Rep at hg |-;obtain⟨l,hs,ev⟩:=hg;have hB:=gJ.wW H1 (lk:=iO (nI E.st b (some (.var true row)))) (λ_ _ h=>h) eQ hs;have I:=hB.lt;unfold gJ at hB;obtain⟨us,hr,hcell⟩:=hB.2.2.2.1.vals;have hr':=Pj _ _ _ hpur hr;have hrc:=(jc.Hw row us l.co hr' hcell).drop c _ _;exact⟨l.cb,l.co+c,ev,⟨I,g l hs⟩,by rw[su];exact hrc⟩
  exact fF
  exact fF
  exact fF
 | cF b c =>
  simp only[cv1]
  split
  rename_i ro row R
  split
  rename_i U r m hp
  split
  rename_i ro' sz rows hb;obtain⟨Y',H1,g,hY⟩:=H.freeze hb (.inr ⟨ro',sz,rows,rfl,rfl⟩);refine⟨Y',σ,H1.UA λd=>?_,⟨λ_ _ _=>rfl,λk _=>hY k,Nat.le_refl _,mg.refl _⟩⟩;have hne:¬ U=b:=by intro e;rw[e,R] at hb;cases hb
  rw[iG]
  by_cases h2:b=d
  subst h2;refine .inr ⟨ro,row,qU row c (.sl sz ((iK.jd P T').sub rows r m) false),by rw[iG,if_neg hne];exact R,by rw[if_pos rfl],by simp[qK],λcb o h=>jc.oG _ _ _ (λv hv=>?_) h⟩;rw[hp] at hv;have hb' : iO (nI E.st U (some (.arr true sz rows))) U=some (.arr true sz rows):=by rw[iG,if_pos rfl]
  obtain⟨x,cap,ev,hn,hl,hr⟩:=ER hv (H1.store.blk U _ hb');show Rep w Y' σ (.sl sz ((rows.drop r).take m) false) _;unfold Rep;refine⟨x,m,cap,ev,hl,hn,(λh=>by cases h),hr.imp id λ⟨b2,o,e,I,⟨l,J,e2⟩,hR⟩=>⟨b2,o,e,⟨I,by rw[e2];exact g l J⟩,hR⟩⟩
  exact .inl (by rw[if_neg h2])
  exact fF
  exact fF
  exact fF
 | cR b c =>
  simp only[cv1]
  split
  rename_i row R
  split
  rename_i U r m hp
  split
  rename_i sz rows hb
  obtain⟨l,hl,hB⟩:∃ l,σ b=some l/\gJ w Y σ l (.var false row):=by
   rcases H.store.blk b _ R with h|⟨_,_,_,h⟩
   exact h
   cases h
  have hB0:=hB;unfold gJ at hB;obtain⟨hat,hsz,htot,hrow,hY,hY'⟩:=hB
  have hc:c<row.length:=by
   by_cases hh:c<row.length
   exact hh
   rw[uU (Nat.le_of_not_lt hh)] at hp;cases hp
  obtain⟨v,hv1,hv2⟩:=jc.get row _ c hrow hc;rw[hp] at hv2;obtain⟨σ',H1,h1,k1⟩:=H.ZP hb hv2;have hne:¬ U=b:=by intro e;rw[e,R] at hb;cases hb
  have hnx:¬ E.next=b:=by
   intro e;rw[H.next b ah] at hl;cases hl
  have hbv1:iO (nI (nI E.st U none) E.next (some (.arr false sz ((rows.drop r).take m)))) b=some (.var false row):=by
   rw[iG,if_neg hnx,iG,if_neg hne];exact R
  refine⟨Y,σ',H1.update hbv1 (k1 _ _ hl) (hY rfl) rfl rfl rfl rfl (λ_ _=>rfl) (λ_ _ h=>by cases h) (λ_=>?_),Keep.same k1⟩
  obtain⟨l2,J,hB2⟩:∃ l,σ' b=some l/\gJ w Y σ' l (.var false row):=by
   rcases H1.store.blk b _ hbv1 with h|⟨_,_,_,h⟩
   exact h
   cases h
  rw[k1 _ _ hl] at J;cases J;unfold gJ at hB2 |-;obtain⟨g1,g2,g3,g4,g5,g6⟩:=hB2;refine⟨g1,by rw[g2];simp[qK],by simpa [qK] using g3,?_,g5,g6⟩;rw[jc.iff] at g4 |-;intro i p hi;rw[qK] at hi
  by_cases hic:i=c
  subst hic;rw[List.getElem?_set_self hc] at hi;cases hi;exact⟨v,hv1,h1⟩
  rw[List.getElem?_set_ne ah] at hi;exact g4 i p hi
  exact fF
  exact fF
  exact fF
theorem ZV {P:Program}{T T' : Tab}{C:Ctx T}{w:World}{vs:List Value}:∀ (l:List Cv) (E:Env) {Y:Nat->Prop} {σ:Sg},SW C w Y σ E.tmps vs E.st E.next->∃ Y' σ',SW C w Y' σ' (cvE (iK.jd P T') l E).tmps vs (cvE (iK.jd P T') l E).st (cvE (iK.jd P T') l E).next/\Keep w w Y Y' σ σ'
 | [],E,Y,σ,H=>⟨Y,σ,H,Keep.same (mg.refl _)⟩
 | c::l,E,Y,σ,H=>by
  obtain⟨I,g,H1,k1⟩:=adT (P:=P) (T':=T') c E H;obtain⟨R,J,U,k2⟩:=ZV (P:=P) (T':=T') l _ H1;exact⟨R,J,U,k1.ZQ k2⟩
theorem abk {P:Program}{T T' : Tab}(c:Cv)(E:Env):Ent T E (cv1 (iK.jd P T') c E):=by
 intro C a w hA;obtain⟨⟨Y,σ,H⟩,R⟩:=hA;obtain⟨Y',σ',U,_⟩:=adT (P:=P) (T':=T') c E H;exact⟨⟨Y',σ',U⟩,R⟩
theorem Bf {P:Program}{T T' : Tab}:∀ (l:List Cv) (E:Env),Ent T E (cvE (iK.jd P T') l E)
 | [],E=>Ent.refl E
 | c::l,E=>λC a w h=>Bf l _ C a w (abk c E C a w h)
def tpsL:Nat->Nat->List (Nat×PV)->List PV
 | _,0,_=>[]
 | i,n+1,[]=>.top::tpsL (i+1) n []
 | i,n+1,(k,v)::l=>bif Nat.beq k i then v::tpsL (i+1) n l else .top::tpsL (i+1) n ((k,v)::l)
theorem Ent.trans {T:Tab}{E F G:Env}(h:Ent T E F)(k:Ent T F G):Ent T E G:=λC a w x=>k C a w (h C a w x)
section
variable {P:Program}{T:Tab}(hT:jg P T)(hW:CW P){S:iK}(hS:S=iK.jd P T)
include hT hW hS
theorem adU (n:Nat){b:Code}{Q:Post}{E:Env}(h:adS T S b Q n E):S.loop b Q E:=by
 subst hS;intro C a w hA;exact wp_loop_rounds n (SN hT hW n E h C a w hA)
end
end Go.Pv
namespace Go.Pv
open Go
mutual
inductive Shp (P:Program):TypeId->List PV->Prop
 | int {t:TypeId} {k:IntKind} {n:Int}:P.underlying t=some (.int k)->(Lit.int k n).wf=true->Shp P t [.si k n]
 | bool {t:TypeId} {b:Bool}:P.underlying t=some .bool->Shp P t [.sb b]
 | str {t:TypeId} {s:ByteArray}:P.underlying t=some .string->s.size<=maxLen->Shp P t [.str s]
 | Bv {t e:TypeId}:P.underlying t=some (.pointer e)->Shp P t [.Bv]
 | pp {t e:TypeId} {cs:List PV}:P.underlying t=some (.pointer e)->Shp P e cs->Shp P t [.pp cs]
 | sl {t e:TypeId} {es:List (List PV)}:P.underlying t=some (.slice e)->(∀ r∈es,Shp P e r)->es.length<=maxLen->Shp P t [.sl (P.cellsOf e) es false]
 | struct {t:TypeId} {fs:Array Field} {cs:List PV}:P.underlying t=some (.struct fs)->Jv P (fs.toList.map (·.type)) cs->Shp P t cs
 | arr {t e:TypeId} {n:Nat} {cs:List PV}:P.underlying t=some (.array n e)->Jv P (List.replicate n e) cs->Shp P t cs
inductive Jv (P:Program):List TypeId->List PV->Prop
 | nil:Jv P [] []
 | cons {t:TypeId} {ts:List TypeId} {a b:List PV}:Shp P t a->Jv P ts b->Jv P (t::ts) (a++b)
end
def SQ (P:Program)(ts:List TypeId):List Field->Nat->Option Nat
 | [],n=>some n
 | f::fs,n=>bif Nat.beq f.offset n&&ts.contains f.type then SQ P ts fs (n+P.cellsOf f.type) else none
def af9 (P:Program)(ts:List TypeId)(t:TypeId):Bool :=
 match P.underlying t with
 | some .bool|some (.int _)|some .string=>Nat.beq (P.cellsOf t) 1
 | some (.pointer e)=>Nat.beq (P.cellsOf t) 1&&Nat.blt 0 (P.cellsOf e)&&ts.contains e
 | some (.slice e)=>Nat.beq (P.cellsOf t) 1&&Nat.blt 0 (P.cellsOf e)&&ts.contains e
 | some (.struct fs)=>match SQ P ts fs.toList 0 with|some n=>Nat.beq n (P.cellsOf t)|none=>false
 | some (.array n e)=>Nat.beq (P.cellsOf t) (n*P.cellsOf e)&&ts.contains e
 | _=>false
def layAll (P:Program)(ts:List TypeId):List TypeId->Bool
 | []=>true
 | t::l=>af9 P ts t&&layAll P ts l
theorem Jw {P:Program}{ts:List TypeId}:∀ (l:List TypeId),layAll P ts l=true->∀ t∈l,af9 P ts t=true
 | [],_,t,h=>by simp at h
 | u::l,h,t,ht=>by
  simp only[layAll,Bool.and_eq_true] at h;rcases List.mem_cons.1 ht with rfl|ht
  exact h.1
  exact Jw l h.2 t ht
section
variable {H:Type}{enc:TypeId×Value->H}{P:Program}{w:World}{base:Nat}{sp:Nat->Bool}{held:Bool}
def NoY:Nat->Prop:=λ_=>False
theorem Jy:∀ (a b:List PV),iE a=true->iE b=true->iE (a++b)=true
 | [],b,_,h=>by simpa using h
 | x::a,b,h,k=>by
  simp only[iE,Bool.and_eq_true,List.cons_append] at h |-;exact⟨h.1,Jy a b h.2 k⟩
mutual
theorem Shp.cells {t:TypeId}{cs:List PV}:Shp P t cs->iE cs=true
 | .int _ _=>rfl
 | .bool _=>rfl
 | .str _ _=>rfl
 | .Bv _=>rfl
 | .pp _ _=>rfl
 | .sl _ _ _=>rfl
 | .struct _ h=>Jv.cells h
 | .arr _ h=>Jv.cells h
theorem Jv.cells {ts:List TypeId}{cs:List PV}:Jv P ts cs->iE cs=true
 | .nil=>rfl
 | .cons h k=>Jy _ _ (Shp.cells h) (Jv.cells k)
end
theorem gB.append {Y:Nat->Prop}{σ:Sg}{a b:List PV}{vs us:List Value}(h:gB w Y σ a vs)(k:gB w Y σ b us):gB w Y σ (a++b) (vs++us):=by
 have:=gB.app a b vs us h k
 rwa [KF] at this
theorem Wq {a:Addr}{v:Value}(h:w.cell? a=some v):a.spot=none:=by
 unfold World.cell? at h
 split at h
 split at h
 cases h
 rename_i hs
 cases hh:a.spot with
 | none=>rfl
 | some s=>rw[hh] at hs;simp at hs
 cases h
theorem NU {b:Nat}{o:Nat}{n:Nat}{vs:List Value}{ps:List PV}(U:w.cells? base ⟨b,o,none⟩ n=some vs)(hr:gB w NoY iQ ps vs):jc w NoY iQ b ps o:=by
 obtain⟨_,hl,T⟩:=World.cells?_some U;refine jc.Hw _ _ _ hr λi v hv=>?_
 have hi:i<n:=by
  rw[<- hl]
  by_cases h:i<vs.length
  exact h
  rw[List.getElem?_eq_none (Nat.le_of_not_lt h)] at hv;cases hv
 have:=T i hi;rw[hv] at this;unfold Addr.add at this
 by_cases h0:i=0
 subst h0;simpa using this
 rw[if_neg h0] at this;exact this
theorem ack {a:Addr}(h:a.spot=none)(n:Nat):a.add n=⟨a.block,a.off+n,none⟩:=by
 unfold Addr.add
 by_cases h0:n=0
 subst h0;simp;cases a;simp at h;simp[h]
 rw[if_neg h0]
theorem SS {a:Addr}{n:Nat}{vs:List Value}(hn:0<n)(h:w.cells? base a n=some vs):a.spot=none/\a.block<w.heap.size:=by
 obtain⟨_,hl,T⟩:=World.cells?_some h;have h0:=T 0 hn;have:vs[0]?=some vs[0]:=List.getElem?_eq_getElem ah;rw[this] at h0;have U:a.add 0=a:=by simp[Addr.add]
 rw[U] at h0;refine⟨Wq h0,?_⟩;unfold World.cell? at h0
 by_cases hb:a.block<w.heap.size
 exact hb
 simp[Array.getElem?_eq_none (Nat.le_of_not_lt hb)] at h0
inductive acm (P:Program) (t:TypeId):PV->Prop
 | one {p:PV}:Shp P t [p]->jW P t=false->acm P t p
 | agg {cs:List PV}:Shp P t cs->jW P t=true->acm P t (.agg cs)
end
end Go.Pv
namespace Go.Pv
open Go
inductive Qw (P:Program):List TypeId->List PV->Prop
 | nil:Qw P [] []
 | cons {t:TypeId} {ts:List TypeId} {p:PV} {ps:List PV}:acm P t p->Qw P ts ps->Qw P (t::ts) (p::ps)
section
variable {H:Type}{enc:TypeId×Value->H}{P:Program}{w:World}{base:Nat}{sp:Nat->Bool}{held:Bool}
theorem Vh {W T : World}(hl:laidOutB P=true)(hb:RowKit.Below W.heap.size W T):∀ (params:List TypeId) (vs:List Value) (U:List (DataW H)) (pl:List MemPlace),(∀ t∈params,P.readableRec t=true/\t<P.types.size) ->
  (∀ x∈pl,x.block<W.heap.size)->DataW.TrodAll enc P W 0 (λ_=>true) true params vs U pl->DataW.TrodAll enc P T 0 (λb=>decide (b<W.heap.size)) true params vs U pl
 | [],[],[],_,_,_,h=>h
 | t::params,v::vs,d::U,pl,hm,hlt,h=>by
  obtain⟨p,q,h1,h2,e⟩:=h;subst e;exact⟨p,q,RowKit.Below.trod hl (hm t aB).1 (hm t aB).2 h1 hb (λx hx=>hlt x (by simp[hx])),Vh hl hb params vs U q (λt ht=>hm t (by simp[ht])) (λx hx=>hlt x (by simp[hx])) h2,rfl⟩
 | [],_::_,_,_,_,_,h=>h.elim
 | [],[],_::_,_,_,_,h=>h.elim
 | _::_,[],_,_,_,_,h=>h.elim
 | _::_,_::_,[],_,_,_,h=>h.elim
def ajH (P:Program)(ts params:List TypeId):Bool:=laidOutB P&&layAll P ts ts&&params.all λt=>ts.contains t&&P.readableRec t&&Nat.blt t P.types.size
end
section
variable {P:Program}{t e:TypeId}{cs:List PV}{p:PV}
theorem Shp.Ws {k:IntKind}(hu:P.underlying t=some (.int k))(h:Shp P t cs):∃ n,cs=[.si k n]/\(Lit.int k n).wf=true:=by
 cases h with
 | int h1 h2=>rw[hu] at h1;cases h1;exact⟨_,rfl,h2⟩
 | _=>simp_all
theorem Shp.Yg (hu:P.underlying t=some .bool)(h:Shp P t cs):∃ b,cs=[.sb b]:=by
 cases h with
 | bool h1=>exact⟨_,rfl⟩
 | _=>simp_all
theorem Shp.abl (hu:P.underlying t=some .string)(h:Shp P t cs):∃ s,cs=[.str s]/\s.size<=maxLen:=by
 cases h with
 | str h1 h2=>exact⟨_,rfl,h2⟩
 | _=>simp_all
theorem Shp.oh (hu:P.underlying t=some (.slice e))(h:Shp P t cs):∃ U,cs=[.sl (P.cellsOf e) U false]/\(∀ r∈U,Shp P e r)/\U.length<=maxLen:=by
 cases h with
 | sl h1 h2 T=>rw[hu] at h1;cases h1;exact⟨_,rfl,h2,T⟩
 | _=>simp_all
theorem Shp.jB {U:Array Field}(hu:P.underlying t=some (.struct U))(h:Shp P t cs):Jv P (U.toList.map (·.type)) cs:=by
 cases h with
 | struct h1 h2=>rw[hu] at h1;cases h1;exact h2
 | _=>simp_all
theorem Shp.Q4 {n:Nat}(hu:P.underlying t=some (.array n e))(h:Shp P t cs):Jv P (List.replicate n e) cs:=by
 cases h with
 | arr h1 h2=>rw[hu] at h1;cases h1;exact h2
 | _=>simp_all
theorem Jv.Jz {ts:List TypeId}(h:Jv P (t::ts) cs):∃ a b,cs=a++b/\Shp P t a/\Jv P ts b:=by
 cases h with
 | cons h1 h2=>exact⟨_,_,rfl,h1,h2⟩
theorem Jv.kL (h:Jv P [] cs):cs=[]:=by cases h;rfl
theorem acm.abm (U:jW P t=true)(h:acm P t p):∃ cs,p=.agg cs/\Shp P t cs:=by
 cases h with
 | one h1 h2=>rw[U] at h2;cases h2
 | agg h1 h2=>exact⟨_,rfl,h1⟩
theorem Qw.Jz {ts:List TypeId}{ps:List PV}(h:Qw P (t::ts) ps):∃ a b,ps=a::b/\acm P t a/\Qw P ts b:=by
 cases h with
 | cons h1 h2=>exact⟨_,_,rfl,h1,h2⟩
theorem Qw.kL {ps:List PV}(h:Qw P [] ps):ps=[]:=by cases h;rfl
end
end Go.Pv
namespace Go.Pv
open Go
section
variable {α β σ ρ:Type}
def br (c:Bool)(a b:Option ρ):Option ρ:=match c with|true=>a|false=>b
def bnd (o:Option α)(k:α->Option ρ):Option ρ:=match o with|none=>none|some x=>k x
def lt (x:α)(k:α->Option ρ):Option ρ:=k x
def jn (rest:σ->Option ρ)(body:(σ->Option ρ)->Option ρ):Option ρ:=body rest
def NV (step:σ->(σ->Option ρ)->Option ρ):Nat->σ->Option ρ
 | 0,_=>none
 | n+1,s=>step s (NV step n)
def fuel:Nat:=18446744073709551616
def iF (step:σ->(σ->Option ρ)->Option ρ)(s:σ):Option ρ:=NV step fuel s
def CY (n:Nat):Int->Option Nat
 | .ofNat j=>bif Nat.blt j n then some j else none
 | .negSucc _=>none
def kQ (l:List α):Int->Option α
 | .ofNat j=>l[j]?
 | .negSucc _=>none
def gK (l:List α):Int:=(l.length:Int)
def Zi (l:List α)(r:Nat)(new:List α):List α:=l.take r++new++l.drop (r+new.length)
def VH (l:List α)(r n:Nat):List α:=(l.drop r).take n
def iL (a b:Int):Int:=jS .add .i64 a b
def Cc (a b:Int):Int:=jS .sub .i64 a b
def ajI (a b:Int):Int:=jS .mul .i64 a b
def lZ (n bytes:Nat)(k:Option ρ):Option ρ:=bif Nat.ble ((2*n+192)*bytes) 140737488355328&&Nat.ble n 4611686018427387904 then k else none
def divO (op:BinOp)(k:IntKind)(a b:Int):Option Int:=bif decide (b=0) then none else some (match op with|.quo=>k.wrap (a.tdiv b)|_=>a.tmod b)
def SV (op:BinOp)(k:IntKind)(a y:Int):Option Int:=bif decide (0<=y) then some (match op with|.shl=>k.wrap (a*2 ^ (min y.toNat k.bits))|_=>a.fdiv (2 ^ (min y.toNat k.bits))) else none
def rQ (a b:ByteArray):Option ByteArray:=bif Nat.ble (a.size+b.size) 4611686018427387904 then some (a++b) else none
def Je (s:ByteArray):Int->Option Int
 | .ofNat j=>match s[j]? with|some c=>some (c.toNat:Int)|none=>none
 | .negSucc _=>none
def NW (n m:Int)(bytes:Nat):Option Nat:=bif decide (0<=n/\n<=m/\(bytes:Int)*m<=140737488355328/\m<=9223372036854775807) then some n.toNat else none
structure ajJ (n:Nat)(x:Nat×Nat):Prop where
 le:x.1<=x.2
 lt:x.2<=n
def Wu (len:Nat)(a b:Int):Option (Nat×Nat):=bif decide (0<=a/\a<=b/\b<=(len:Int)) then some (a.toNat,b.toNat) else none
def acn (s:ByteArray)(a b:Int):Option ByteArray:=bif decide (0<=a/\a<=b/\b<=(s.size:Int)) then some (s.extract a.toNat b.toNat) else none
def bs (l:List UInt8):ByteArray:=⟨l.toArray⟩
def sel (i:Int)(n:Nat)(k:Nat->Option ρ):Option ρ:=match i with|.ofNat j=>(bif Nat.blt j n then k j else none)|.negSucc _=>none
def nlO (a b:Option ρ):Option ρ:=match a with|_=>b
def Wv (b:ByteArray):List Int:=b.data.toList.map λc=>(c.toNat:Int)
def ZW (l:List Int):Option ByteArray:=bif l.all (λn=>decide (0<=n/\n<256)) then some ⟨(l.map λn=>UInt8.ofNat n.toNat).toArray⟩ else none
end
structure Arr2 (α:Type) where
 a0:α
 a1:α
structure NY (α:Type) where
 a0:α
 a1:α
 a2:α
structure ZX (α:Type) where
 a0:α
 a1:α
 a2:α
 a3:α
 a4:α
structure Lj (α:Type) where
 a0:α
 a1:α
 a2:α
 a3:α
 a4:α
 a5:α
def ahI:Arr2 Int:=⟨0,0⟩
def ZY:NY Int:=⟨0,0,0⟩
def adV:ZX Int:=⟨0,0,0,0,0⟩
def ZZ:Lj Int:=⟨0,0,0,0,0,0⟩
structure EncM where
 m:(α:Type)->(α->List PV)->List α->List (List PV)
 n:(α:Type)->List α->Nat
 h:(Nat->Hdr)->(α:Type)->(Hdr->α->List PV)->List α->List (List PV)
 up:(Nat->Hdr)->Nat->Hdr->Nat->Hdr
def FV {α:Type}(H:Nat->Hdr)(e:Hdr->α->List PV)(l:List α):List (List PV):=l.mapIdx λi x=>e (H i) x
def upH (H:Nat->Hdr)(j:Nat)(h:Hdr):Nat->Hdr:=λi=>bif Nat.beq i j then h else H i
def mapE:EncM:=⟨λ_ e l=>l.map e,λ_ l=>l.length,λH _ e l=>FV H e l,upH⟩
def eI (k:IntKind)(x:Int):List PV:=[.si k x]
def eB (x:Bool):List PV:=[.sb x]
def eS (x:ByteArray):List PV:=[.str x]
def eL {α:Type}(M:EncM)(sz:Nat)(e:α->List PV)(x:List α):List PV:=[.sl sz (M.m α e x) false]
def ajK {α:Type}(e:α->List PV)(x:NY α):List PV:=e x.a0++(e x.a1++e x.a2)
def ajL {α:Type}(e:α->List PV)(x:ZX α):List PV:=e x.a0++(e x.a1++(e x.a2++(e x.a3++e x.a4)))
def ajM {α:Type}(e:α->List PV)(x:Lj α):List PV:=e x.a0++(e x.a1++(e x.a2++(e x.a3++(e x.a4++e x.a5))))
def eKV {α:Type}(e:α->List PV)(x:Int×α):List PV:=.si .i64 x.1::e x.2
def D8 {α:Type}:List (Int×α)->Int->Option α
 | [],_=>none
 | (k,v)::l,n=>if k=n then some v else D8 l n
def NZ {α:Type}:List (Int×α)->Int->α->List (Int×α)
 | [],n,v=>[(n,v)]
 | (k,w)::l,n,v=>if k=n then (n,v)::l else (k,w)::NZ l n v
def mgO {α ρ:Type}(l:List (Int×α))(n:Int)(z:α)(k:α->Bool->Option ρ):Option ρ:=match D8 l n with|some v=>k v true|none=>k z false
theorem Vj {α:Type}(e:α->List PV)(n:Int):∀ l:List (Int×α),Aa (l.map (eKV e)) n=(D8 l n).map e
 | []=>rfl
 | (k,v)::l=>by
  by_cases h:k=n
  simp[eKV,Aa,D8,h]
  simp[eKV,Aa,D8,h,Vj e n l]
theorem Yh {α:Type}(e:α->List PV)(n:Int)(x:α):∀ l:List (Int×α),Pg (l.map (eKV e)) n (e x)=(NZ l n x).map (eKV e)
 | []=>rfl
 | (k,v)::l=>by
  by_cases h:k=n
  simp[eKV,Pg,NZ,h]
  simp[eKV,Pg,NZ,h];exact Yh e n x l
def eO {α:Type}(M:EncM)(sz:Nat)(e:α->List PV)(h:Hdr)(x:List α):List PV:=[.ow h sz (M.m α e x)]
section
variable {P:Program}{T:Tab}{S:iK}{M:EncM}(hS:S=iK.jd P T)
abbrev SF (M:EncM) (S:iK):Prop :=
  S.bin=jS/\S.cmp=xQ/\(∀ k n,S.conv k n=k.wrap n)/\(∀ k n,S.neg k n=k.wrap (0-n))/\(∀ a b,S.beq a b=(a==b))/\(∀ a b,S.band a b=(a&&b))/\S.afl=iP /\
  (∀ s,S.slen s=(s.size:Int))/\(∀ n:Nat,S.FK n=(n:Int))/\(∀ a b:Nat,S.LQ a b=a+b)/\(∀ a b:Nat,S.XA a b=a-b)/\(∀ n:Nat,0+n=n)/\(∀ a,S.app [] a=a) /\
  (∀ (α:Type) (e:α->List PV) (l:List α),S.len (M.m α e l)=gK l)/\(∀ (α:Type) (e:α->List PV) (l:List α),S.lenN (M.m α e l)=l.length)/\(∀ (α:Type) (l:List α),M.n α l=l.length) /\
  (∀ rows n,S.lenN rows=n->S.sub rows 0 n=rows)/\S.len []=0/\(∀ (α:Type) (l:List α),gK l=(l.length:Int)) /\
  S.afm=(λa b=>if b<a then b else a)/\S.ag9=(λa b=>if a<b then b else a) /\
  (∀ a b,S.lenN (S.app a b)=S.lenN a+S.lenN b)/\(∀ a j r,S.lenN (S.MZ a j r)=S.lenN a)/\(∀ n r,S.lenN (S.rep n r)=n)/\S.lenN []=0/\(∀ r rows,S.lenN (r::rows)=S.lenN rows+1) /\
  (∀ (α:Type) (e:α->List PV),M.m α e []=[])/\(∀ (α:Type) (e:α->List PV) (x:α) (l:List α),M.m α e (x::l)=e x::M.m α e l) /\
  (∀ (α:Type) (e:α->List PV) (a b:List α),M.m α e (a++b)=S.app (M.m α e a) (M.m α e b)) /\
  (∀ (α:Type) (e:α->List PV) (l:List α) (r n:Nat),M.m α e (VH l r n)=S.sub (M.m α e l) r n) /\
  (∀ (α:Type) (e:α->List PV) (l:List α) (r:Nat) (new:List α),M.m α e (Zi l r new)=S.spl (M.m α e l) r (M.m α e new)) /\
  (∀ (α:Type) (e:α->List PV) (l:List α) (j:Nat) (x:α),M.m α e (l.set j x)=S.MZ (M.m α e l) j (e x)) /\
  (∀ (α:Type) (e:α->List PV) (n:Nat) (x:α),M.m α e (List.replicate n x)=S.rep n (e x)) /\
  (∀ (α:Type) (a b:List α),(a++b).length=a.length+b.length)/\(∀ (α:Type) (l:List α) (j:Nat) (x:α),(l.set j x).length=l.length) /\
  (∀ (α:Type) (n:Nat) (x:α),(List.replicate n x).length=n)/\(∀ (α:Type) (x:α) (l:List α),(x::l).length=l.length+1)/\(∀ (α:Type),([]:List α).length=0) /\
  (∀ (α:Type) (e:α->List PV) (l:List α) (r n:Nat),S.len (S.sub (M.m α e l) r n)=((VH l r n).length:Int))/\(∀ (α:Type) (e:α->List PV) (l:List α) (r n:Nat),S.lenN (S.sub (M.m α e l) r n)=(VH l r n).length) /\
  (∀ (α:Type) (e:α->List PV) (l:List (Int×α)) (n:Int) (x:α),M.m (Int×α) (eKV e) (NZ l n x)=S.afo (M.m (Int×α) (eKV e) l) n (e x))
theorem sf (hM:M=mapE)(hS:S=iK.jd P T):SF M S:=by
 subst hS hM;refine⟨rfl,rfl,?_⟩
 have h:∀ (α:Type) (e:α->List PV) (l:List α),List.take l.length (List.map e l)=List.map e l:=by
  intro α e l;rw[List.take_of_length_le aB]
 have h2:∀ (rows:List (List PV)) (n:Nat),rows.length=n->(rows.drop 0).take n=rows:=by
  intro rows n e;subst e;simp
 refine⟨λ_ _=>rfl,λ_ _=>rfl,λ_ _=>rfl,λ_ _=>rfl,rfl,λ_=>rfl,λ_=>rfl,λ_ _=>rfl,λ_ _=>rfl,λn=>Nat.zero_add n,λ_=>rfl,?_,?_,?_,h2,rfl,λ_ _=>rfl,rfl,?_,?_⟩
 simp[iK.jd,mapE,gK]
 simp[iK.jd,mapE]
 simp[mapE]
 rfl
 refine⟨?_,?_,?_,?_,?_,?_,?_,?_,?_,?_,?_,?_,?_,?_,?_,?_,?_,?_,?_,λα e l n x=>(Yh e n x l).symm⟩<;>simp[iK.jd,mapE,VH,Zi,List.map_take,List.map_drop,List.map_set]
theorem ajN (hM:M=mapE)(hS:S=iK.jd P T) :
  (∀ (H:Nat->Hdr) (α:Type) (e:Hdr->α->List PV) (l:List α) (j:Nat) (h:Hdr) (x:α),M.h (M.up H j h) α e (l.set j x)=S.MZ (M.h H α e l) j (e h x)) /\
  (∀ (α:Type) (e:Hdr->α->List PV) (h:Hdr) (n:Nat) (x:α),M.h (λ_=>h) α e (List.replicate n x)=S.rep n (e h x)) /\
  (∀ (H:Nat->Hdr) (α:Type) (e:Hdr->α->List PV) (l:List α) (h:Hdr) (x:α),M.h (M.up H l.length h) α e (l++[x])=S.app (M.h H α e l) [e h x]):=by
 subst hS hM;refine⟨λH α e l j h x=>?_,λα e h n x=>?_,λH α e l h x=>?_⟩
 show FV (upH H j h) e _=(FV H e l).set j _;unfold FV;apply List.ext_getElem?;intro i;simp only[List.getElem?_mapIdx,List.getElem?_set,List.length_mapIdx]
 by_cases U:j=i
 subst U
 by_cases hl:j<l.length<;>simp[hl,upH]
 have:Nat.beq i j=false:=by cases hb:Nat.beq i j with|false=>rfl|true=>exact absurd (Nat.eq_of_beq_eq_true hb).symm U
 simp[U,upH,this]
 show FV _ e _=List.replicate n _;unfold FV;apply List.ext_getElem?;intro i;simp only[List.getElem?_mapIdx,List.getElem?_replicate]
 by_cases hi:i<n<;>simp[hi]
 show FV (upH H l.length h) e (l++[x])=FV H e l++[e h x];unfold FV;rw[List.mapIdx_append]
 congr 1
 apply List.ext_getElem?;intro i;simp only[List.getElem?_mapIdx]
 by_cases hi:i<l.length
 have:Nat.beq i l.length=false:=by cases hb:Nat.beq i l.length with|false=>rfl|true=>exact absurd (Nat.eq_of_beq_eq_true hb) ah
 simp[upH,this]
 simp[List.getElem?_eq_none (Nat.le_of_not_lt hi)]
 simp[upH]
theorem ajO (hM:M=mapE)(hS:S=iK.jd P T) :
  (∀ (H:Nat->Hdr) (α:Type) (e:Hdr->α->List PV) (l:List α) (j:Nat) (x:α),M.h H α e (l.set j x)=S.MZ (M.h H α e l) j (e (H j) x)) /\
  (∀ (H:Nat->Hdr) (α:Type) (e:Hdr->α->List PV) (l:List α),S.lenN (M.h H α e l)=l.length) /\
  (∀ (H:Nat->Hdr) (α:Type) (e:Hdr->α->List PV) (l:List α),S.sub (M.h H α e l) 0 l.length=M.h H α e l) /\
  (∀ (H:Nat->Hdr) (α:Type) (e:α->List PV) (sz:Nat) (l:List (List α)),S.fz (M.h H (List α) (eO M sz e) l)=M.m (List α) (eL M sz e) l) /\
  (∀ (H:Nat->Hdr) (α:Type) (e:Hdr->α->List PV),M.h H α e []=[]):=by
 subst hS hM;refine⟨λH α e l j x=>?_,λH α e l=>?_,λH α e l=>?_,λH α e sz l=>?_,λ_ _ _=>rfl⟩
 show FV _ e _=(FV H e l).set j _;unfold FV;apply List.ext_getElem?;intro i;simp only[List.getElem?_mapIdx,List.getElem?_set,List.length_mapIdx]
 by_cases U:j=i
 subst U
 by_cases hl:j<l.length<;>simp[hl]
 simp[U]
 show (FV H e l).length=_;simp[FV]
 show ((FV H e l).drop 0).take l.length=FV H e l;rw[List.drop_zero,List.take_of_length_le (by simp[FV])]
 show (FV H _ l).map _=l.map _;unfold FV;apply List.ext_getElem?;intro i;simp only[List.getElem?_mapIdx,List.getElem?_map];cases l[i]?<;>rfl
mutual
inductive LeP:PV->PV->Prop
 | nil (z0:Nat) (f:Bool) (z:Nat):LeP (.sl z0 [] f) (.sl z [] false)
 | int (k:IntKind) (n:Int):LeP (.int k n) (.si k n)
 | bool (b:Bool):LeP (.bool b) (.sb b)
 | agg (ps qs:List PV):LeL ps qs->LeP (.agg ps) (.agg qs)
 | FH (ps qs:List PV):LeL ps qs->LeP (.FH ps) (.FH qs)
 | rows (z:Nat) (f:Bool) (es es' : List (List PV)):LeR es es'->LeP (.sl z es f) (.sl z es' false)
 | refl (p:PV):LeP p p
inductive LeL:List PV->List PV->Prop
 | nil:LeL [] []
 | cons (p q:PV) (ps qs:List PV):LeP p q->LeL ps qs->LeL (p::ps) (q::qs)
inductive LeR:List (List PV)->List (List PV)->Prop
 | same (es:List (List PV)):LeR es es
 | cons (r q:List PV) (rs qs:List (List PV)):LeL r q->LeR rs qs->LeR (r::rs) (q::qs)
end
theorem LeL.len:∀ {ps qs:List PV},LeL ps qs->qs.length=ps.length
 | _,_,.nil=>rfl
 | _,_,.cons p q ps qs _ h=>by simp[h.len]
theorem LeR.len:∀ {ps qs:List (List PV)},LeR ps qs->qs.length=ps.length
 | _,_,.same _=>rfl
 | _,_,.cons p q ps qs _ h=>by simp[h.len]
theorem LeP.sZ {p q:PV}(h:LeP p q):Pv.sZ p=true->Pv.sZ q=true:=by
 cases h<;>intro h<;>first|rfl|exact h|cases h
theorem LeL.iE:∀ {ps qs:List PV},LeL ps qs->Pv.iE ps=true->Pv.iE qs=true
 | _,_,.nil,h=>h
 | _,_,.cons p q ps qs h1 h2,h=>by
  simp only[Pv.iE,Bool.and_eq_true] at h |-;exact⟨h1.sZ h.1,h2.iE h.2⟩
mutual
theorem LeP.rep {w:World}{Y:Nat->Prop}{σ:Sg}:∀ {p q:PV} (_:LeP p q) (v:Value),Rep w Y σ p v->Rep w Y σ q v
 | _,_,.nil z0 f z,v,h=>by
  unfold Rep at h |-;obtain⟨a,len,cap,e,hl,U,_,_⟩:=h;exact⟨a,len,cap,e,hl,U,(λh=>by cases h),.inl rfl⟩
 | _,_,.int k n,v,h=>by unfold Rep at h |-;exact h
 | _,_,.bool b,v,h=>by unfold Rep at h |-;exact h
 | _,_,.agg ps qs hl,v,h=>by
  unfold Rep at h |-;obtain⟨vs,e,h⟩:=h;exact⟨vs,e,hl.rep vs h⟩
 | _,_,.FH ps qs hl,v,h=>by
  unfold Rep at h |-;obtain⟨vs,e,h⟩:=h;exact⟨vs,e,hl.rep vs h⟩
 | _,_,.rows z f es es' hr,v,h=>by
  unfold Rep at h |-;obtain⟨a,len,cap,e,hl,U,_,h⟩:=h;refine⟨a,len,cap,e,by rw[hl,hr.len],U,(λh=>by cases h),?_⟩;rcases h with h|⟨b,o,h1,h2,h3⟩
  refine .inl (List.length_eq_zero_iff.1 ?_);rw[hr.len,h];rfl
  exact .inr ⟨b,o,h1,h2,hr.ab3 o h3⟩
 | _,_,.refl p,v,h=>h
theorem LeL.rep {w:World}{Y:Nat->Prop}{σ:Sg}:∀ {ps qs:List PV} (_:LeL ps qs) (vs:List Value),gB w Y σ ps vs->gB w Y σ qs vs
 | _,_,.nil,vs,h=>h
 | _,_,.cons p q ps qs h1 h2,vs,h=>by
  unfold gB at h |-;obtain⟨v,U,e,R,T⟩:=h;exact⟨v,U,e,h1.rep v R,h2.rep U T⟩
theorem LeL.ahJ {w:World}{Y:Nat->Prop}{σ:Sg}{cb:Nat}:∀ {ps qs:List PV} (_:LeL ps qs) (o:Nat),jc w Y σ cb ps o->jc w Y σ cb qs o
 | _,_,.nil,o,h=>h
 | _,_,.cons p q ps qs h1 h2,o,h=>by
  unfold jc at h |-;obtain⟨⟨v,T,U⟩,h5⟩:=h;exact⟨⟨v,T,h1.rep v U⟩,h2.ahJ (o+1) h5⟩
theorem LeR.ab3 {w:World}{Y:Nat->Prop}{σ:Sg}{b sz:Nat}:∀ {ps qs:List (List PV)} (_:LeR ps qs) (o:Nat),jh w Y σ b sz ps o->jh w Y σ b sz qs o
 | _,_,.same _,o,h=>h
 | _,_,.cons p q ps qs h1 h2,o,h=>by
  unfold jh at h |-;obtain⟨⟨R,U⟩,h5,T⟩:=h;exact⟨⟨by rw[h1.len,R],h1.iE U⟩,h1.ahJ o h5,h2.ab3 (o+sz) T⟩
end
theorem Fn.le {G:Nat->Option (List PV)}{k:Nat}{args U:List PV}{R:PV->Prop}(h:Fn P G k U R)(hl:LeL args U):Fn P G k args R :=
 λw Y vs J T hr=>h w Y vs J T (hl.rep _ hr)
theorem ajl {i U r T a b:Nat}(h1:i=U)(h2:r=T)(h:a=b):LeP (.os i r a) (.os U T b):=by subst h1 h2 h;exact .refl _
theorem Yi {p q:PV}(h:p=q):LeP p q:=h ▸ .refl p
theorem ahK {P:Program}{T:Tab}(hT:jg P T)(hp:T.qJ=0)(hW:CW P){k:Nat}{fn:Func}{c:Code}(O:P.funcs[k]?=some fn)(hb:fn.body=some c)
  (U:∀ args w,(callFunc k args).run P w=.ok (.enter k args) w) {args:List PV} {v:PV} {m:Nat} (C:fn.ntmps-args.length=m)
  (h:∀ S R,S=iK.jd P T->(∀ u,LeP u v->R u)->pwp T S c (ahg T S fn.results.toList R) ⟨wU args (rZ m),[],0⟩):Fn P T.gl k args (λu=>u=v):=by
 have H:=ZR hT hp hW O hb U C (R:=λu=>LeP u v) λS hS=>h S _ hS λ_ h=>h;intro w Y J hG g hr;obtain⟨h1,h2⟩:=H w Y J hG g hr;refine⟨h1,Calls.mono h2 λe w' hh=>?_⟩;obtain⟨cv,u,he,hu,hv,I⟩:=hh;exact⟨cv,v,he,rfl,hu.rep _ hv,I⟩
theorem LeL.refl:∀ ps:List PV,LeL ps ps
 | []=>.nil
 | p::ps=>.cons _ _ _ _ (.refl p) (LeL.refl ps)
inductive LeB:Option jq->Option jq->Prop
 | var (ro:Bool) (row row' : List PV):LeL row row'->LeB (some (.var ro row)) (some (.var ro row'))
 | refl (x:Option jq):LeB x x
inductive LeS:St->St->Prop
 | nil:LeS [] []
 | cons (b:Nat) (x y:Option jq) (s t:St):LeB x y->LeS s t->LeS ((b,x)::s) ((b,y)::t)
theorem LeS.refl:∀ s:St,LeS s s
 | []=>.nil
 | (b,x)::s=>.cons b x x s s (.refl x) (LeS.refl s)
theorem LeS.look:∀ {s t:St} (_:LeS s t) (b:Nat),iO t b=iO s b\/∃ ro row U,iO s b=some (.var ro row)/\iO t b=some (.var ro U)/\LeL row U
 | _,_,.nil,b=>.inl rfl
 | _,_,.cons c x y s t h1 h2,b=>by
  simp only[iO]
  cases Nat.beq c b with
  | true =>
   cases h1 with
   | var ro row U h=>exact .inr ⟨ro,row,U,rfl,rfl,h⟩
   | refl x=>exact .inl rfl
  | false=>exact h2.look b
theorem LeS.UA {s t:St}(h:LeS s t)(w:World)(Y:Nat->Prop)(σ:Sg)(b:Nat):iO t b=iO s b\/∃ ro row U,iO s b=some (.var ro row)/\iO t b=some (.var ro U)/\U.length=row.length/\∀ cb o,jc w Y σ cb row o->jc w Y σ cb U o:=by
 rcases h.look b with e|⟨ro,row,U,e1,e2,e3⟩
 exact .inl e
 exact .inr ⟨ro,row,U,e1,e2,e3.len,λcb o=>e3.ahJ o⟩
theorem LeS.rep {w:World}{Y:Nat->Prop}{σ:Sg}{s t:St}(h:LeS s t)(H:I8 w Y σ s):I8 w Y σ t:=by
 have U : ∀ b x,iO t b=some x->∃ y,iO s b=some y:=by
  intro b x hx;rcases h.look b with e|⟨ro,row,row',e1,e2,_⟩
  exact⟨x,by rw[<- e];exact hx⟩
  exact⟨_,e1⟩
 refine⟨λb x hx=>?_,λb I x x' l l' hx J hl R e=>?_⟩
 rcases h.UA w Y σ b with e|⟨ro,row,row',e1,e2,e3,e4⟩
 exact H.blk b x (by rw[<- e];exact hx)
 rw[e2] at hx;cases hx;rcases H.blk b _ e1 with ⟨l,hl,hB⟩|⟨_,_,_,hx⟩
 refine .inl ⟨l,hl,?_⟩;unfold gJ at hB |-;exact⟨hB.1,by rw[e3];exact hB.2.1,by rw[e3];exact hB.2.2.1,e4 _ _ hB.2.2.2.1,hB.2.2.2.2⟩
 cases hx
 obtain⟨y,hy⟩:=U b x hx;obtain⟨C,T⟩:=U I x' J;exact H.inj b I y C l l' hy T hl R e
theorem LeS.inSt {σ:Sg}{s t:St}(h:LeS s t):BZ σ t=BZ σ s:=by
 funext k
 refine propext ⟨?_,?_⟩
 rintro⟨b,x,l,h1,h2⟩
 rcases h.look b with e|⟨ro,row,row',e1,e2,_⟩
 exact⟨b,x,l,by rw[<- e];exact h1,h2⟩
 exact⟨b,_,l,e1,h2⟩
 rintro⟨b,x,l,h1,h2⟩
 rcases h.look b with e|⟨ro,row,row',e1,e2,_⟩
 exact⟨b,x,l,by rw[e];exact h1,h2⟩
 exact⟨b,_,l,e2,h2⟩
theorem LeS.qM:∀ {s t:St} (_:LeS s t),Pv.qM s=true->Pv.qM t=true
 | _,_,.nil,h=>h
 | _,_,.cons b x y s t h1 h2,h=>by
  cases h1 with
  | var ro row U T=>simp only[Pv.qM] at h |-;exact h2.qM h
  | refl x =>
   cases x with
   | none=>simp only[Pv.qM] at h |-;exact h2.qM h
   | some x=>cases x<;>simp only[Pv.qM] at h |-<;>first|exact h2.qM h|exact h
theorem FnS.le {G:Nat->Option (List PV)}{k:Nat}{args U:List PV}{st T:St}{n:Nat}{R:PV->St->Nat->Prop}(h:FnS P G k U T n R)(hl:LeL args U)(hs:LeS st T):FnS P G k args st n R:=by
 intro w Y σ vs hG C hn hr J I;obtain⟨h1,h2⟩:=h w Y σ vs hG C hn (hl.rep _ hr) (hs.rep J) (hs.qM I);refine⟨h1,Calls.mono h2 λe w' hh=>?_⟩;obtain⟨cv,v,st',g,Y',σ',he,hR,H⟩:=hh;refine⟨cv,v,st',g,Y',σ',he,hR,?_⟩
 have e:EJ ⟨λ_=>.bad,G,n,[],0,[],[]⟩ w Y σ T=EJ ⟨λ_=>.bad,G,n,[],0,[],[]⟩ w Y σ st:=by
  unfold EJ;rw[hs.inSt]
 rw[e] at H;exact H
theorem FnS.cv {P:Program}{T:Tab}{G:Nat->Option (List PV)}(cvs:List Cv){k:Nat}{args:List PV}{st:St}{n:Nat}{v J : PV}{st1 U : St}{n1 R : Nat}(h:FnS P G k args st n (λu s m=>u=v/\s=st1/\m=n1))(e:Jh n [0] (cvE (iK.jd P T) cvs ⟨[v],st1,n1⟩)=⟨[J],U,R⟩):FnS P G k args st n (λu s m=>u=J/\s=U/\m=R):=by
 intro w Y σ vs hG hY hn hr I C;obtain⟨h1,h2⟩:=h w Y σ vs hG hY hn hr I C;refine⟨h1,Calls.mono h2 λen w' hh=>?_⟩;obtain⟨cv,u,s,m,Y',σ',he,⟨rfl,rfl,rfl⟩,H⟩:=hh;obtain⟨Y1,σ1,H1,_⟩:=ZV (P:=P) (T':=T) cvs ⟨[u],s,m⟩ H;have H2:=H1.qo (Gn _ [0] 0 _ H1.vals);obtain⟨g1,g2,g3⟩:=NK n (cvE (iK.jd P T) cvs ⟨[u],s,m⟩).st (Lm [0] 0 (cvE (iK.jd P T) cvs ⟨[u],s,m⟩).tmps);obtain⟨σ2,H3,_⟩:=H2.abV g1 g2 g3;have g:SW (EJ ⟨λ_=>.bad,G,n,[],0,[],[]⟩ w Y σ st) w' Y1 σ2 (Jh n [0] (cvE (iK.jd P T) cvs ⟨[u],s,m⟩)).tmps [cv] (Jh n [0] (cvE (iK.jd P T) cvs ⟨[u],s,m⟩)).st (Jh n [0] (cvE (iK.jd P T) cvs ⟨[u],s,m⟩)).next:=H3
 rw[e] at g;exact⟨cv,J,U,R,Y1,σ2,he,⟨rfl,rfl,rfl⟩,g⟩
theorem fnS_dec {P:Program}{T:Tab}(hT:jg P T)(hW:CW P){k:Nat}{fn:Func}{c:Code}(O:P.funcs[k]?=some fn)(hb:fn.body=some c)
  (U:∀ args w,(callFunc k args).run P w=.ok (.enter k args) w) {args:List PV} {st:St} {v:PV} {st1:St} {n1:Nat} {m:Nat} (hm:fn.ntmps-args.length=m)
  (h:∀ S R,S=iK.jd P T->(∀ u s n,LeP u v->LeS s st1->n=n1->R u s n)->pwp T S c (agW T S fn.results.toList R) ⟨wU args (rZ m),st,T.qJ⟩):FnS P T.gl k args st T.qJ (λu s n=>u=v/\s=st1/\n=n1):=by
 have H:=Yf hT hW O hb U hm (st:=st) (R:=λu s n=>LeP u v/\LeS s st1/\n=n1) λS hS=>h S _ hS λ_ _ _ h1 h2 g=>⟨h1,h2,g⟩
 intro w Y σ J hG hY hn hr I C;obtain⟨h1,h2⟩:=H w Y σ J hG hY hn hr I C;refine⟨h1,Calls.mono h2 λe w' hh=>?_⟩;obtain⟨cv,u,s,n,Y',σ',he,⟨g,h4,h5⟩,H⟩:=hh;refine⟨cv,v,st1,n,Y',σ',he,⟨rfl,rfl,h5⟩,?_⟩
 have hv:gB w' Y' σ' [v] [cv]:=by
  have:=H.vals;unfold gB at this |-;obtain⟨c,cs,e,h6,h7⟩:=this;cases e;exact⟨_,_,rfl,g.rep _ h6,by unfold gB at h7 |-;exact h7⟩
 exact (H.qo hv).UA (h4.UA w' Y' σ')
theorem le_eq {ps qs:List PV}(h:ps=qs):LeL ps qs:=h ▸ LeL.refl ps
variable {α β σ ρ:Type}{r:ρ}
theorem yj {o:Option α}{k:α->Option ρ}(h:bnd o k=some r):∃ x,o=some x/\k x=some r:=by
 cases o with
 | none=>cases h
 | some x=>exact⟨x,rfl,h⟩
theorem uZ {x:α}{k:α->Option ρ}(h:lt x k=some r):k x=some r:=h
theorem lt2 {j:Nat}(h:j<2):j=0\/j=1:=by omega
theorem lt3 {j:Nat}(h:j<3):j=0\/j=1\/j=2:=by omega
theorem lt5 {j:Nat}(h:j<5):j=0\/j=1\/j=2\/j=3\/j=4:=by omega
theorem lt6 {j:Nat}(h:j<6):j=0\/j=1\/j=2\/j=3\/j=4\/j=5:=by omega
theorem ng {i:Int}{n:Nat}{k:Nat->Option ρ}(O:sel i n k=some r):∃ j:Nat,j<n/\i=(j:Int)/\k j=some r:=by
 unfold sel at O
 cases i with
 | ofNat j =>
  simp only at O
  cases hb:Nat.blt j n with
  | false=>rw[hb] at O;cases O
  | true=>rw[hb] at O;exact⟨j,(Nat.blt_eq).mp hb,rfl,O⟩
 | negSucc j=>cases O
include hS
theorem d_wk {cs:List PV}{e:α->List PV}{v:α}{K:List PV->Prop}{k:α->Option ρ}(O:lt v k=some r)(hl:LeL cs (e v))(h:∀ x,k x=some r->K (e x)):S.wk cs K:=by
 subst hS;exact⟨e v,hl.len,hl.iE,λ_ _ _ _ hr=>hl.rep _ hr,h v O⟩
theorem ahL (hM:M=mapE){rows:List (List PV)}{l:List (Int×α)}{e:α->List PV}{n R : Int}{z:List PV}{T:α}{K:List PV->Bool->Prop}{k:α->Bool->Option ρ}(O:mgO l R T k=some r)(he:rows=M.m (Int×α) (eKV e) l)(hn:n=R)(I:LeL z (e T))(h:∀ x b,k x b=some r->K (e x) b):S.ahc rows n z K:=by
 subst hS hM he hn;have J:Aa (l.map (eKV e)) n=(D8 l n).map e:=Vj e n l;refine⟨λcs U=>?_,λU=>⟨e T,λ_ _ _ _ hr=>I.rep _ hr,?_⟩⟩
 have U:Aa (l.map (eKV e)) n=some cs:=U;rw[J] at U
 cases hk:D8 l n with
 | none=>rw[hk] at U;cases U
 | some v =>
  rw[hk] at U;cases U;unfold mgO at O;rw[hk] at O;exact h _ _ O
 have U:Aa (l.map (eKV e)) n=none:=U;rw[J] at U
 cases hk:D8 l n with
 | some v=>rw[hk] at U;cases U
 | none =>
  unfold mgO at O;rw[hk] at O;exact h _ _ O
theorem d_br {c T : Bool}{U R:Option ρ}{A B:Unit->Prop}(O:br T U R=some r)(e:c=T)(J:U=some r->A ())(hb:R=some r->B ()):S.br c A B:=by
 subst e
 cases c with
 | true=>exact ajC hS rfl (J O)
 | false=>exact ajD hS rfl (hb O)
theorem d_idx (hM:M=mapE){T:List (List PV)}{l:List α}{e:α->List PV}{i U : Int}{k:α->Option ρ}{K:List PV->Prop}(O:bnd (kQ l U) k=some r)(he:T=M.m α e l)(hi:i=U)(h:∀ x,k x=some r->K (e x)):S.idx T i K:=by
 subst hM he hi;obtain⟨x,hx,hk⟩:=yj O;clear O
 cases i with
 | ofNat j=>exact ajF hS (j:=j) rfl (by simp only[kQ] at hx;simp[mapE,hx]) (h x hk)
 | negSucc j=>simp[kQ] at hx
theorem rD {n T : Nat}{i U : Int}{k:Nat->Option ρ}{K:Nat->Prop}(O:bnd (CY T U) k=some r)(hn:n=T)(hi:i=U)(h:∀ j,j<n->k j=some r->K j):S.ix n i K:=by
 subst hn hi;obtain⟨x,hx,hk⟩:=yj O;clear O
 cases i with
 | ofNat j' =>
  simp only[CY] at hx
  cases hb:Nat.blt j' n with
  | false=>rw[hb] at hx;cases hx
  | true =>
   rw[hb] at hx;simp only[cond_true,Option.some.injEq] at hx;subst hx;have hb:=(Nat.blt_eq).mp hb;exact ajG hS rfl hb (h _ hb hk)
 | negSucc j=>simp[CY] at hx
theorem vO {n:Nat}{i U : Int}{K:Nat->Prop}(hi:i=U)(h:∃ j:Nat,j<n/\U=(j:Int)/\K j):S.ix n i K:=by
 obtain⟨j,h1,h2,T⟩:=h;exact ajG hS (hi.trans h2) h1 T
theorem mW (hM:M=mapE){U:List (List PV)}{l:List α}{e:α->List PV}{j T : Nat}{k:α->Option ρ}{K:List PV->Prop}(O:bnd (l[T]?) k=some r)(he:U=M.m α e l)(hj:j=T)(h:∀ x,k x=some r->K (e x)):S.row U j K:=by
 subst hM he hj;obtain⟨x,hx,hk⟩:=yj O;clear O;exact ag2 hS (by simp[mapE,hx]) (h x hk)
theorem Ce (hM:M=mapE){T:List (List PV)}{H:Nat->Hdr}{l:List α}{e:Hdr->α->List PV}{j U : Nat}{k:α->Option ρ}{K:List PV->Prop}(O:bnd (l[U]?) k=some r)(he:T=M.h H α e l)(hj:j=U)(h:∀ x,k x=some r->K (e (H U) x)):S.row T j K:=by
 subst hM he hj;obtain⟨x,hx,hk⟩:=yj O;clear O;refine ag2 hS ?_ (h x hk);show (FV H e l)[j]?=_;simp[FV,hx]
theorem Z4 {k:Nat}{args:List PV}{U:List PV}{K:PV->Prop}{g:Option α}{v:α->PV}{R:α->Option ρ}(O:bnd g R=some r)(hF:∀ y,g=some y->Fn P T.gl k U (λu=>u=v y))(J:LeL args U)(h:∀ y,R y=some r->K (v y)):S.XB k args K:=by
 obtain⟨x,hx,hk⟩:=yj O;clear O;exact af2 hS ((hF x hx).le J) (h x hk)
theorem tC {k:Nat}{args as bs:List PV}{U:List PV}{E:Env}{K:PV->Env->Prop}{g:Option α}{v:α->PV}{R:α->Option ρ}(O:bnd g R=some r)(hF:∀ y,g=some y->Fn P T.gl k U (λu=>u=v y))(J:LeL as U)(h:∀ y,R y=some r->K (v y) E):S.Rk k args as bs E K:=by
 obtain⟨x,hx,hk⟩:=yj O;clear O;subst hS;exact .inl ⟨_,(hF x hx).le J,h x hk⟩
theorem CZ {k:Nat}{args as bs:List PV}{U:List PV}{E:Env}{K:PV->Env->Prop}{g:Option α}{v:α->PV}{st1:α->St}{n1:Nat}{R:α->Option ρ}(O:bnd g R=some r)(hF:∀ y,g=some y->FnS P T.gl k U [] 0 (λu st n=>u=v y/\st=st1 y/\n=n1))(J:LeL bs U)(h:∀ y,R y=some r->K (Af (DU [] E.next) 8 (v y)) (QH [] E (st1 y) n1)):S.Rk k args as bs E K:=by
 obtain⟨x,hx,hk⟩:=yj O;clear O;subst hS;exact .inr (.inl ⟨_,_,_,(hF x hx).le J .nil,h x hk⟩)
theorem Vk (hT:jg P T)(hW:CW P)(n:Nat){b:Code}{Q:Post}{E:Env}(h:∀ R:Nat->Env->Prop,(∀ k E,pwp T S b (Lh (R k) Q) E->R (k+1) E)->R n E):S.loop b Q E:=by
 refine adU hT hW hS n (h (λn E=>adS T S b Q n E) λk E hk=>?_);unfold adS;exact hk
theorem adW {A:Post->Prop}{B:Env->Prop}{Q:Post}(cvs:List Cv)(h:A (Lh (λE=>B (cvE S cvs E)) Q)):S.seq A B Q:=by
 subst hS;refine⟨_,h,λn E h=>?_⟩
 cases n with
 | zero=>exact⟨cvE (iK.jd P T) cvs E,Bf (P:=P) (T':=T) cvs E,h⟩
 | succ n=>exact⟨E,Ent.refl E,h⟩
theorem Ij {k:Nat}{args U:List PV}{I : List Nat}{st0 R:St}{m:Nat}{K:PV->St->Nat->Prop}{g:Option α}{v:α->PV}{st1:α->St}{n1:Nat}{J:α->Option ρ}(O:bnd g J=some r)(hF:∀ y,g=some y->FnS P T.gl k U R m (λu st n=>u=v y/\st=st1 y/\n=n1))(ha:LeL args U)(hs:LeS st0 R)(C:m=kZ I)(h0:qM st0=true)
  (h:∀ y,J y=some r->K (v y) (st1 y) n1):S.acZ k args st0 I K:=by
 obtain⟨y,hy,hk⟩:=yj O;clear O;subst hS;subst C;exact⟨_,_,_,h0,(hF y hy).le ha hs,h y hk⟩
theorem jO {k:Nat}{args as U:List PV}{E:Env}{I free:Option (List PV)}{R : List Nat}{st0 J:St}{m:Nat}{K:PV->Env->Prop}{g:Option α}{v:α->PV}{st1:α->St}{n1:Nat}{C:α->Option ρ}(O:bnd g C=some r)(hF:∀ y,g=some y->FnS P T.gl k U J m (λu st n=>u=v y/\st=st1 y/\n=n1))(ha:LeL as U)(hs:LeS st0 J)(hm:m=kZ R)(h1:VM R=true)(h2:ltN E.next R=true)(h0:qM st0=true)
  (h:∀ y,C y=some r->K (Af (DU R E.next) 8 (v y)) (QH R E (st1 y) n1)):S.call k args E I free R as st0 K:=by
 obtain⟨x,hx,hk⟩:=yj O;clear O;exact af7 hS ((hF x hx).le ha hs) hm h1 h2 h0 (h x hk)
theorem Vl {k:Nat}{args:List PV}{E:Env}{K:PV->Env->Prop}(zs:List (Nat×Bool)){c:List PV×St×Nat}(e:A7 S zs args E.st E.next=c)(h:Rq S k c.1 ⟨E.tmps,c.2.1,c.2.2⟩ K):Ql P T k args E K:=by
 subst hS;subst e;have J:=Jr h;intro C Y σ w vs U H hr;obtain⟨Y',σ',I,R,_⟩:=FU (P:=P) (T':=T) zs args H hr;exact J C Y' σ' w vs U I R
theorem ag3 {k:Nat}{args as:List PV}{E:Env}{U free:Option (List PV)}{T : List Nat}{st0:St}{K:PV->Env->Prop}(zs:List (Nat×Bool)){c:List PV×St×Nat}(e:A7 S zs args E.st E.next=c)(h:Rq S k c.1 ⟨E.tmps,c.2.1,c.2.2⟩ K):S.call k args E U free T as st0 K:=by
 have:=Vl hS zs e h;subst hS;exact .inr (.inr (.inr this))
theorem ahM {k:Nat}{args as:List PV}{E:Env}{R free:Option (List PV)}{g : List Nat}{st0:St}{K:PV->Env->Prop}(cvs:List Cv){J : Env}(e:cvE S cvs E=J)(h:Rq S k args J K):S.call k args E R free g as st0 K:=by
 subst hS;subst e;have I:=Jr h;refine .inr (.inr (.inr ?_));intro C Y σ w vs U H hr;obtain⟨Y',σ',H',k⟩:=ZV (P:=P) (T':=T) cvs E H;exact I C Y' σ' w vs U H' (gB.keep _ k _ hr)
theorem ahN {k:Nat}{args as bs:List PV}{E:Env}{K:PV->Env->Prop}(zs:List (Nat×Bool)){c:List PV×St×Nat}(e:A7 S zs args E.st E.next=c)(h:Rq S k c.1 ⟨E.tmps,c.2.1,c.2.2⟩ K):S.Rk k args as bs E K:=by
 have:=Vl hS zs e h;subst hS;exact .inr (.inr this)
theorem oO {k:Nat}{args bs U as:List PV}{E:Env}{free:Option (List PV)}{I : List Nat}{st0:St}{K:PV->Env->Prop}{g:Option α}{v:α->PV}{J:α->Option ρ}(O:bnd g J=some r)(hF:∀ y,g=some y->Fn P T.gl k U (λu=>u=v y))(C:LeL bs U)(R:∀ y,Gf 6 (v y)=true)(h:∀ y,J y=some r->K (v y) E):S.call k args E (some bs) free I as st0 K:=by
 obtain⟨x,hx,hk⟩:=yj O;clear O;exact af5 hS ((hF x hx).le C) (R x) (h x hk)
theorem abn {k:Nat}{args bs U as:List PV}{E:Env}{R:Option (List PV)}{I : List Nat}{st0:St}{K:PV->Env->Prop}{g:Option α}{v:α->PV}{J:α->Option ρ}(O:bnd g J=some r)(hF:∀ y,g=some y->Fn P T.gl k U (λu=>u=v y))(C:LeL bs U)(h:∀ y,J y=some r->K (v y) ⟨E.tmps,roS E.st I,E.next⟩):S.call k args E R (some bs) I as st0 K:=by
 obtain⟨x,hx,hk⟩:=yj O;clear O;exact af6 hS ((hF x hx).le C) (h x hk)
theorem Q5 {k:Nat}{args:List PV}{U:List PV}{K:PV->Prop}{g:Option α}{v:α->PV}{J:α->Option ρ}(O:bnd g J=some r)(hF:∀ y,g=some y->Fn P T.gl k U (λu=>u=v y))(I:LeL args U)(R:∀ y,Gf 6 (v y)=true)(h:∀ y,J y=some r->K (v y)):S.aaN k args K:=by
 obtain⟨x,hx,hk⟩:=yj O;clear O;exact af4 hS ((hF x hx).le I) (R x) (h x hk)
theorem CB {op:BinOp}{kd:IntKind}{a b T U : Int}{K:Int->Prop}{k:Int->Option ρ}(O:bnd (divO op kd T U) k=some r)(R:a=T)(hb:b=U)(h:∀ x,k x=some r->K x):S.div op kd a b K:=by
 subst hS R hb;obtain⟨x,hx,hk⟩:=yj O;clear O;unfold divO at hx
 by_cases h0:b=0
 simp[h0] at hx
 simp only[h0,decide_false,cond_false,Option.some.injEq] at hx;subst hx;exact⟨h0,h _ hk⟩
theorem Yj {op:BinOp}{kd:IntKind}{a b T U : Int}{K:Int->Prop}{k:Int->Option ρ}(O:bnd (SV op kd T U) k=some r)(R:a=T)(hb:b=U)(h:∀ x,k x=some r->K x):S.shf op kd a b K:=by
 subst hS R hb;obtain⟨x,hx,hk⟩:=yj O;clear O;unfold SV at hx
 by_cases h0:0<=b
 simp only[h0,decide_true,cond_true,Option.some.injEq] at hx;subst hx;exact⟨h0,h _ hk⟩
 simp[h0] at hx
theorem nS {a b T U : ByteArray}{K:ByteArray->Prop}{k:ByteArray->Option ρ}(O:bnd (rQ T U) k=some r)(R:a=T)(hb:b=U)(h:∀ x,k x=some r->K x):S.ahb a b K:=by
 subst hS R hb;obtain⟨x,hx,hk⟩:=yj O;clear O;unfold rQ at hx
 cases h0:Nat.ble (a.size+b.size) 4611686018427387904 with
 | false=>rw[h0] at hx;cases hx
 | true=>rw[h0] at hx;cases hx;exact⟨by simpa using h0,h _ hk⟩
theorem Gq {s T : ByteArray}{i U : Int}{K:Int->Prop}{k:Int->Option ρ}(O:bnd (Je T U) k=some r)(J:s=T)(hb:i=U)(h:∀ x,k x=some r->K x):S.aha s i K:=by
 subst hS J hb;obtain⟨x,hx,hk⟩:=yj O;clear O
 cases i with
 | negSucc j=>simp[Je] at hx
 | ofNat j =>
  simp only[Je] at hx
  split at hx
  rename_i c R;cases hx;exact⟨j,c,rfl,R,h _ hk⟩
  cases hx
theorem d_room {n U b:Nat}{p:Prop}{k:Option ρ}(O:lZ U b k=some r)(hn:n=U)(h:k=some r->p):S.room n b p:=by
 subst hn;unfold lZ at O
 cases h1:Nat.ble ((2*n+192)*b) 140737488355328 with
 | false=>rw[h1] at O;cases O
 | true =>
  cases h2:Nat.ble n 4611686018427387904 with
  | false=>rw[h1,h2] at O;cases O
  | true=>rw[h1,h2] at O;exact ahH hS eF eG (h O)
theorem N7 {n m T U : Int}{b:Nat}{K:Nat->Prop}{k:Nat->Option ρ}(O:bnd (NW T U b) k=some r)(hn:n=T)(R:m=U)(h:∀ j,k j=some r->K j):S.mks n m b K:=by
 subst hS hn R;obtain⟨x,hx,hk⟩:=yj O;clear O;unfold NW at hx
 by_cases h0:0<=n/\n<=m/\(b:Int)*m<=140737488355328/\m<=9223372036854775807
 simp only[h0,and_self,decide_true,cond_true,Option.some.injEq] at hx;subst hx;exact⟨n.toNat,by omega,h0.2.1,h0.2.2.1,h0.2.2.2,h _ hk⟩
 simp[h0] at hx
theorem abo {n U : Nat}{a b R T : Int}{K:Nat->Nat->Prop}{k:Nat×Nat->Option ρ}(O:bnd (Wu U R T) k=some r)(hn:n=U)(J:a=R)(hb:b=T)(h:∀ x,ajJ U x->k x=some r->K x.1 x.2):S.slc n a b K:=by
 subst hS hn J hb;obtain⟨x,hx,hk⟩:=yj O;clear O;unfold Wu at hx
 by_cases h0:0<=a/\a<=b/\b<=(n:Int)
 simp only[h0,and_self,decide_true,cond_true,Option.some.injEq] at hx;subst hx;exact⟨a.toNat,b.toNat,by omega,by omega,by omega,by omega,h _ ⟨by show a.toNat<=b.toNat;omega,by show b.toNat<=n;omega⟩ hk⟩
 simp[h0] at hx
theorem ajP {s U : ByteArray}{a b R T : Int}{K:ByteArray->Prop}{k:ByteArray->Option ρ}(O:bnd (acn U R T) k=some r)(hn:s=U)(J:a=R)(hb:b=T)(h:∀ x,k x=some r->K x):S.ac0 s a b K:=by
 subst hS hn J hb;obtain⟨x,hx,hk⟩:=yj O;clear O;unfold acn at hx
 by_cases h0:0<=a/\a<=b/\b<=(s.size:Int)
 simp only[h0,and_self,decide_true,cond_true,Option.some.injEq] at hx;subst hx;exact⟨a.toNat,b.toNat,by omega,by omega,by omega,by omega,h _ hk⟩
 simp[h0] at hx
theorem Gs (hM:M=mapE){T:List (List PV)}{l:List α}{e:α->List PV}{a b:Option ρ}{K:Bool->Prop}(O:nlO a b=some r)(he:T=M.m α e l)(U:l=[]->b=some r->a=some r)(J:a=some r->K true)(hb:b=some r->K false):S.VJ T K:=by
 subst hS hM he;intro c R
 cases c with
 | false=>exact hb O
 | true =>
  have:=R rfl;exact J (U (by simpa [mapE] using this) O)
theorem ajQ (hM:M=mapE){t:Nat}{b c:ByteArray}{K:List (List PV)->Prop}{k:List Int->Option ρ}(O:lt (Wv c) k=some r)(hu:∃ e,P.underlying t=some (.slice e)/\P.underlying e=some (.int .u8))(he:c=b)(h:∀ x,k x=some r->K (M.m Int (eI .u8) x)):S.toB t b K:=by
 subst hS hM he;have h2:=h _ O;refine⟨hu,?_⟩
 simpa [mapE,Wv,List.map_map,eI,Function.comp_def] using h2
theorem ag4 (hM:M=mapE){t:Nat}{rows:List (List PV)}{l:List Int}{K:ByteArray->Prop}{k:ByteArray->Option ρ}(O:bnd (ZW l) k=some r)(hu:∃ e,P.underlying t=some (.slice e)/\P.underlying e=some (.int .u8))(he:rows=M.m Int (eI .u8) l)(h:∀ x,k x=some r->K x):S.toS t rows K:=by
 subst hS hM he;obtain⟨x,hx,hk⟩:=yj O;clear O;refine⟨hu,x,?_,h x hk⟩;unfold ZW at hx
 cases U:l.all (λn=>decide (0<=n/\n<256)) with
 | false=>rw[U] at hx;cases hx
 | true =>
  rw[U] at hx;cases hx;simp only[mapE,List.map_map];refine List.map_congr_left λn hn=>?_;have:=List.all_eq_true.1 U n hn;simp only[decide_eq_true_eq] at this;simp only[Function.comp,eI,aa0]
  congr 1
  rw[UInt8.toNat_ofNat_of_lt' (by show n.toNat<256;omega)];omega
theorem abp {η:Type}(hT:jg P T)(hW:CW P){b:Code}{Q:Post}{E:Env}{step:σ->(σ->Option ρ)->Option ρ}{R:σ}(cvs:List Cv)(keep:List Nat)(F:σ->η->Env)(g0:η)(O:iF step R=some r)(he:Jh T.qJ keep (wkE (cvE S cvs E))=F R g0)
  (h:∀ (I:σ->η->Env) (k:σ->Option ρ) (s:σ) (g:η),(∀ s g,I s g=F s g)->step s k=some r->∀ e,e=F s g->pwp T S b (Lh (λJ=>∃ s' g',k s'=some r/\Jh T.qJ keep (wkE (cvE S cvs J))=I s' g') Q) e):S.loop b Q E:=by
 subst hS;intro C a w hA
 have key:∀ (n:Nat) (s:σ) (g:η),NV step n s=some r->∀ (C:Ctx T) a w,kC C (F s g) a w->Code.rounds P b (lift C Q) n a w:=by
  intro n
  induction n with
  | zero=>intro s g h;cases h
  | succ n ih =>
   intro s g hs C a w hA;unfold Code.rounds;refine wp_mono (Aj hT hW b _ _ (h F (NV step n) s g (λ_ _=>rfl) hs _ rfl) C a w hA) (ET λJ U w' hA' hq=>?_);obtain⟨j,g',hj,he⟩:=hq;exact ih j g' hj C U w' (he ▸ DY keep _ C U w' (Ii _ C U w' (Bf (P:=P) (T':=T) cvs J C U w' hA')))
 exact wp_loop_rounds fuel (key _ R g0 O C a w (he ▸ DY keep _ C a w (Ii _ C a w (Bf (P:=P) (T':=T) cvs E C a w hA))))
theorem d_cut {A:Post->Prop}{B:Env->Prop}{Q:Post}{rest:σ->Option ρ}{body:(σ->Option ρ)->Option ρ}(cvs:List Cv)(keep:List Nat)(F:σ->Env)(O:jn rest body=some r)
  (h:∀ (I:σ->Env) (k:σ->Option ρ),(∀ s,I s=F s)->body k=some r->A (Lh (λE=>∃ s,k s=some r/\Jh T.qJ keep (wkE (cvE S cvs E))=I s) Q)) (h2:∀ s,rest s=some r->B (F s)):S.seq A B Q:=by
 subst hS;refine⟨_,h F rest (λ_=>rfl) O,λn E h=>?_⟩
 cases n with
 | zero =>
  obtain⟨s,hs,he⟩:=h;refine⟨F s,?_,h2 s hs⟩;rw[<- he];exact (Bf (P:=P) (T':=T) cvs E).trans ((Ii _).trans (DY keep _))
 | succ n=>exact⟨E,Ent.refl E,h⟩
theorem JA (hT:jg P T)(hW:CW P){b:Code}{Q:Post}{E:Env}{step:σ->(σ->Option ρ)->Option ρ}{J:σ}(cvs:List Cv)(keep:List Nat)(F:σ->Env)(O:iF step J=some r)(he:Jh T.qJ keep (wkE (cvE S cvs E))=F J)
  (h:∀ (I:σ->Env) (k:σ->Option ρ) (s:σ),(∀ s,I s=F s)->step s k=some r->∀ e,e=F s->pwp T S b (Lh (λg=>∃ s',k s'=some r/\Jh T.qJ keep (wkE (cvE S cvs g))=I s') Q) e):S.loop b Q E:=by
 subst hS;intro C a w hA
 have key:∀ (n:Nat) (s:σ),NV step n s=some r->∀ (C:Ctx T) a w,kC C (F s) a w->Code.rounds P b (lift C Q) n a w:=by
  intro n
  induction n with
  | zero=>intro s h;cases h
  | succ n ih =>
   intro s hs C a w hA;unfold Code.rounds;refine wp_mono (Aj hT hW b _ _ (h F (NV step n) s (λ_=>rfl) hs _ rfl) C a w hA) (ET λg U w' R hq=>?_);obtain⟨j,hj,he⟩:=hq;exact ih j hj C U w' (he ▸ DY keep _ C U w' (Ii _ C U w' (Bf (P:=P) (T':=T) cvs g C U w' R)))
 exact wp_loop_rounds fuel (key _ J O C a w (he ▸ DY keep _ C a w (Ii _ C a w (Bf (P:=P) (T':=T) cvs E C a w hA))))
end
end Go.Pv
namespace Go.Pv
open Go
section
variable {α β σ τ ρ:Type}
def Ok (Q:ρ->Prop)(o:Option ρ):Prop:=∃ r,o=some r/\Q r
theorem fZ {Q:ρ->Prop}{x:ρ}(h:Q x):Ok Q (some x):=⟨x,rfl,h⟩
theorem ok_eq {c:ρ}{o:Option ρ}(h:Ok (λr=>r=c) o):o=some c:=by obtain⟨r,e,q⟩:=h;subst q;exact e
theorem gq {Q:ρ->Prop}{c:Bool}{a b:Option ρ}(h1:c=true->Ok Q a)(h2:c=false->Ok Q b):Ok Q (br c a b):=by
 cases c with
 | true=>exact h1 rfl
 | false=>exact h2 rfl
theorem gm {Q:ρ->Prop}{p:Prop}[Decidable p]{a b:Option ρ}(h1:p->Ok Q a)(h2:¬p->Ok Q b):Ok Q (br (decide p) a b) :=
 gq (λh=>h1 (of_decide_eq_true h)) (λh=>h2 (of_decide_eq_false h))
theorem lN {Q:ρ->Prop}{p:Prop}[Decidable p]{a b:Option ρ}(h1:¬p->Ok Q a)(h2:p->Ok Q b):Ok Q (br (!decide p) a b) :=
 gq (λh=>h1 bY) (λh=>h2 bY)
theorem gp {Q:ρ->Prop}{R:α->Prop}{o:Option α}{k:α->Option ρ}(h:Ok R o)(hk:∀ x,R x->Ok Q (k x)):Ok Q (bnd o k):=by
 obtain⟨x,e,q⟩:=h;rw[e];exact hk x q
theorem iJ {Q:ρ->Prop}{o:Option α}{x:α}{k:α->Option ρ}(h:o=some x)(hk:Ok Q (k x)):Ok Q (bnd o k):=by
 rw[h];exact hk
theorem BC {Q:ρ->Prop}{x:α}{k:α->Option ρ}(hk:Ok Q (k x)):Ok Q (lt x k):=hk
theorem gU {Q:ρ->Prop}(J:σ->Prop){rest:σ->Option ρ}{body:(σ->Option ρ)->Option ρ}(h1:∀ k,(∀ s,J s->Ok Q (k s))->Ok Q (body k))(h2:∀ s,J s->Ok Q (rest s)):Ok Q (jn rest body):=h1 rest h2
theorem lU {Q:ρ->Prop}{n b:Nat}{k:Option ρ}(h1:(2*n+192)*b<=140737488355328)(h2:n<=4611686018427387904)(hk:Ok Q k):Ok Q (lZ n b k):=by
 unfold lZ;rw[Nat.ble_eq_true_of_le h1,Nat.ble_eq_true_of_le h2];exact hk
theorem aga (l:List α)(n:Nat):kQ l (n:Int)=l[n]?:=rfl
theorem iV {Q:ρ->Prop}{l:List α}{i:Int}{k:α->Option ρ}(n:Nat)(hi:i=(n:Int))(hn:n<l.length)(hk:Ok Q (k (l[n]))):Ok Q (bnd (kQ l i) k):=by
 subst hi;rw[aga,List.getElem?_eq_getElem hn];exact hk
theorem kJ {Q:ρ->Prop}{m:Nat}{i:Int}{k:Nat->Option ρ}(n:Nat)(hi:i=(n:Int))(hn:n<m)(hk:Ok Q (k n)):Ok Q (bnd (CY m i) k):=by
 subst hi;show Ok Q (bnd (bif Nat.blt n m then some n else none) k);have:Nat.blt n m=true:=by rw[Nat.blt_eq];exact hn
 rw[this];exact hk
theorem jF {Q:ρ->Prop}{l:List α}{n:Nat}{k:α->Option ρ}(hn:n<l.length)(hk:Ok Q (k (l[n]))):Ok Q (bnd (l[n]?) k):=by
 rw[List.getElem?_eq_getElem hn];exact hk
theorem Ik {Q:ρ->Prop}{n:Nat}{a m:Int}{b:Nat}{k:Nat->Option ρ}(hn:a=(n:Int))(U:m=(n:Int))(h0:0<b)(hb:b*n<=140737488355328)(hk:Ok Q (k n)):Ok Q (bnd (NW a m b) k):=by
 subst hn U;have h1:n<=b*n:=Nat.le_mul_of_pos_left n h0;have h2:(b:Int)*(n:Int)<=140737488355328:=by rw[<- Int.natCast_mul];exact Int.ofNat_le.2 hb
 have:NW (n:Int) (n:Int) b=some n:=by
  unfold NW;rw[decide_eq_true (show 0<=(n:Int)/\(n:Int)<=(n:Int)/\(b:Int)*(n:Int)<=140737488355328/\(n:Int)<=9223372036854775807 from ⟨by omega,by omega,h2,by omega⟩)];rfl
 rw[this];exact hk
theorem adX {Q:ρ->Prop}{a b:Int}{n i j:Nat}{k:Nat×Nat->Option ρ}(U:a=(i:Int))(hb:b=(j:Int))(T:i<=j)(hj:j<=n)(hk:Ok Q (k (i,j))):Ok Q (bnd (Wu n a b) k):=by
 subst U hb
 have:Wu n (i:Int) (j:Int)=some (i,j):=by
  unfold Wu;rw[decide_eq_true (show 0<=(i:Int)/\(i:Int)<=(j:Int)/\(j:Int)<=(n:Int) from ⟨by omega,by omega,by omega⟩)];rfl
 rw[this];exact hk
theorem wrap_in {n:Int}(h1 : -9223372036854775808<=n)(h2:n<9223372036854775808):IntKind.i64.wrap n=n:=by rw[IntKind.wrap_i64];omega
theorem jI {a b:Int}(h1 : -9223372036854775808<=a+b)(h2:a+b<9223372036854775808):iL a b=a+b:=by
 show IntKind.i64.wrap (a+b)=a+b;exact wrap_in h1 h2
theorem qw {n:Nat}(h:n<4611686018427387904):iL (n:Int) 1=((n+1:Nat):Int):=by
 rw[jI ah ah];rfl
theorem ji {Q:ρ->Prop}{step:σ->(σ->Option ρ)->Option ρ}{T:σ}(Inv:σ->Prop)(μ:σ->Nat)(h0:Inv T)(I:μ T<fuel)
  (h:∀ s k,Inv s->(∀ U,Inv U->μ U<μ s->Ok Q (k U))->Ok Q (step s k)):Ok Q (iF step T):=by
 have key:∀ n s,Inv s->μ s<n->Ok Q (NV step n s):=by
  intro n
  induction n with
  | zero=>intro s _ h;omega
  | succ n J=>intro s hs hn;exact h s _ hs λU R hl=>J U R ah
 exact key fuel T h0 I
theorem lq {Q:ρ->Prop}{step:Int×τ->(Int×τ->Option ρ)->Option ρ}{t0:τ}(a n:Nat)(Inv:Nat->τ->Prop)(i0:Int)(R:i0=(a:Int))(I:a<=n)(hn:n<4611686018427387904)(h0:Inv a t0)
  (h:∀ i t k,i<n->Inv i t->(∀ J,Inv (i+1) J->Ok Q (k (iL (i:Int) 1,J)))->Ok Q (step ((i:Int),t) k))
  (he:∀ t k,Inv n t->Ok Q (step ((n:Int),t) k)):Ok Q (iF step (i0,t0)):=by
 subst R;refine ji (λs=>∃ i:Nat,s.1=(i:Int)/\i<=n/\Inv i s.2) (λs=>n-s.1.toNat) ⟨a,rfl,I,h0⟩ dO ?_
 rintro⟨C,t⟩ k ⟨i,e,hi,T⟩ hk
 simp only at e T;subst e
 by_cases h' : i=n
 subst h';exact he t k T
 refine h i t k ah T λJ U=>hk _ ⟨i+1,qw ah,by omega,U⟩ ?_;rw[qw ah];simp only[Int.toNat_natCast];omega
theorem uV {Q:ρ->Prop}{step:Int->(Int->Option ρ)->Option ρ}(a n:Nat)(Inv:Nat->Prop)(i0:Int)(T:i0=(a:Int))(R:a<=n)(hn:n<4611686018427387904)(h0:Inv a)
  (h:∀ i k,i<n->Inv i->(Inv (i+1)->Ok Q (k (iL (i:Int) 1)))->Ok Q (step (i:Int) k))
  (he:∀ k,Inv n->Ok Q (step (n:Int) k)):Ok Q (iF step i0):=by
 subst T;refine ji (λs=>∃ i:Nat,s=(i:Int)/\i<=n/\Inv i) (λs=>n-s.toNat) ⟨a,rfl,R,h0⟩ dO ?_
 rintro i' k ⟨i,e,hi,hI⟩ hk
 subst e
 by_cases h' : i=n
 subst h';exact he k hI
 refine h i k ah hI λU=>hk _ ⟨i+1,qw ah,by omega,U⟩ ?_;rw[qw ah];simp only[Int.toNat_natCast];omega
theorem Il {Q:ρ->Prop}{step:τ×Int->(τ×Int->Option ρ)->Option ρ}{t0:τ}(a n:Nat)(Inv:Nat->τ->Prop)(i0:Int)(R:i0=(a:Int))(I:a<=n)(hn:n<4611686018427387904)(h0:Inv a t0)
  (h:∀ i t k,i<n->Inv i t->(∀ J,Inv (i+1) J->Ok Q (k (J,iL (i:Int) 1)))->Ok Q (step (t,(i:Int)) k))
  (he:∀ t k,Inv n t->Ok Q (step (t,(n:Int)) k)):Ok Q (iF step (t0,i0)):=by
 subst R;refine ji (λs=>∃ i:Nat,s.2=(i:Int)/\i<=n/\Inv i s.1) (λs=>n-s.2.toNat) ⟨a,rfl,I,h0⟩ dO ?_
 rintro⟨t,C⟩ k ⟨i,e,hi,T⟩ hk
 simp only at e T;subst e
 by_cases h' : i=n
 subst h';exact he t k T
 refine h i t k ah T λJ U=>hk _ ⟨i+1,qw ah,by omega,U⟩ ?_;rw[qw ah];simp only[Int.toNat_natCast];omega
end
end Go.Pv
namespace Go.Pv
open Go
theorem tH {α:Type}{enc:α->List PV}{ok:α->Prop}:∀ {U:List (List PV)},(∀ r∈U,∃ x,r=enc x/\ok x)->∃ l:List α,U=l.map enc/\(∀ x∈l,ok x)/\l.length=U.length
 | [],_=>⟨[],rfl,by simp,rfl⟩
 | r::U,h=>by
  obtain⟨x,e,hx⟩:=h r aB;obtain⟨l,R,h2,T⟩:=tH λr hr=>h r (List.mem_cons_of_mem _ hr);refine⟨x::l,by rw[e,R];rfl,λy hy=>?_,by simp[T]⟩;rcases List.mem_cons.1 hy with rfl|hy
  exact hx
  exact h2 y hy
end Go.Pv
namespace Go.Pv
open Go
structure Fit {H:Type}(N:Nat)(fit:DataW H->Prop):Prop where
 str:∀ b,fit (.lit (.string b))->b.length<=N
 sl:∀ es rest,fit (.slice es rest)->es.length<=N/\∀ e∈es,fit e
 agg:∀ es,fit (.agg es)->∀ e∈es,fit e
 ptr:∀ d,fit (.ptr d)->fit d
mutual
inductive Sn (P:Program) (N:Nat):TypeId->List PV->Prop
 | int {t:TypeId} {k:IntKind} {n:Int}:P.underlying t=some (.int k)->(Lit.int k n).wf=true->Sn P N t [.si k n]
 | bool {t:TypeId} {b:Bool}:P.underlying t=some .bool->Sn P N t [.sb b]
 | str {t:TypeId} {s:ByteArray}:P.underlying t=some .string->s.size<=N->Sn P N t [.str s]
 | Bv {t e:TypeId}:P.underlying t=some (.pointer e)->Sn P N t [.Bv]
 | pp {t e:TypeId} {cs:List PV}:P.underlying t=some (.pointer e)->Sn P N e cs->Sn P N t [.pp cs]
 | sl {t e:TypeId} {es:List (List PV)}:P.underlying t=some (.slice e)->(∀ r∈es,Sn P N e r)->es.length<=N->Sn P N t [.sl (P.cellsOf e) es false]
 | struct {t:TypeId} {fs:Array Field} {cs:List PV}:P.underlying t=some (.struct fs)->SnL P N (fs.toList.map (·.type)) cs->Sn P N t cs
 | arr {t e:TypeId} {n:Nat} {cs:List PV}:P.underlying t=some (.array n e)->SnL P N (List.replicate n e) cs->Sn P N t cs
inductive SnL (P:Program) (N:Nat):List TypeId->List PV->Prop
 | nil:SnL P N [] []
 | cons {t:TypeId} {ts:List TypeId} {a b:List PV}:Sn P N t a->SnL P N ts b->SnL P N (t::ts) (a++b)
end
section
variable {H:Type}{enc:TypeId×Value->H}{P:Program}{w:World}{base:Nat}{sp:Nat->Bool}{held:Bool}{N:Nat}{fit:DataW H->Prop}
mutual
theorem Sn.cells {t:TypeId}{cs:List PV}:Sn P N t cs->iE cs=true
 | .int _ _=>rfl
 | .bool _=>rfl
 | .str _ _=>rfl
 | .Bv _=>rfl
 | .pp _ _=>rfl
 | .sl _ _ _=>rfl
 | .struct _ h=>SnL.cells h
 | .arr _ h=>SnL.cells h
theorem SnL.cells {ts:List TypeId}{cs:List PV}:SnL P N ts cs->iE cs=true
 | .nil=>rfl
 | .cons h k=>Jy _ _ (Sn.cells h) (SnL.cells k)
end
theorem N8 {ts:List TypeId}{cs:List Value}{xs:Nat->Option (DataW H×List MemPlace)}{m:Nat}
  (I:∀ (t:TypeId) (cs:List Value) x,t∈ts->DataW.trod enc P w base sp held m t cs=some x->fit x.1->∃ ps,gB w NoY iQ ps cs/\Sn P N t ps/\cs.length=P.cellsOf t) :
  ∀ (U:List Field) (n k:Nat),SQ P ts U n=some cs.length->n<=cs.length ->
   (∀ (i:Nat) (f:Field),U[i]?=some f->DataW.trod enc P w base sp held m f.type ((cs.drop f.offset).take (P.cellsOf f.type))=xs (k+i)/\∃ y,xs (k+i)=some y/\fit y.1) ->
   ∃ ps,gB w NoY iQ ps (cs.drop n)/\SnL P N (U.map (·.type)) ps
 | [],n,k,hc,hn,_=>by
  simp only[SQ,Option.some.injEq] at hc;subst hc;exact⟨[],by simp[gB],.nil⟩
 | f::U,n,k,hc,hn,hx=>by
  simp only[SQ] at hc
  cases hb:(Nat.beq f.offset n&&ts.contains f.type) with
  | false=>rw[hb] at hc;cases hc
  | true =>
   rw[hb] at hc;simp only[cond_true] at hc;simp only[Bool.and_eq_true] at hb;have T:=Nat.eq_of_beq_eq_true hb.1;obtain⟨h1,y,h2,h3⟩:=hx 0 f rfl;rw[h2,T] at h1;obtain⟨ps,hr,hs,hl⟩:=I _ _ _ (by simpa using hb.2) h1 h3
   have hle:n+P.cellsOf f.type<=cs.length:=by
    rw[List.length_take,List.length_drop] at hl;omega
   obtain⟨qs,J,R⟩:=N8 I U (n+P.cellsOf f.type) (k+1) hc hle λi g C=>by
    have:=hx (i+1) g (by simpa using C);rw[show k+(i+1)=k+1+i by omega] at this;exact this
   refine⟨ps++qs,?_,by simpa using SnL.cons hs R⟩;have:=hr.append J
   rwa [<- List.drop_drop,List.take_append_drop] at this
theorem Qx {e:TypeId}{cs:List Value}{m sz:Nat}{xs:Nat->Option (DataW H×List MemPlace)}
  (R:∀ (cs:List Value) x,DataW.trod enc P w base sp held m e cs=some x->fit x.1->∃ ps,gB w NoY iQ ps cs/\Sn P N e ps/\cs.length=P.cellsOf e) (hsz:sz=P.cellsOf e) :
  ∀ (k s:Nat),cs.length=(s+k)*sz->(∀ i,i<s+k->DataW.trod enc P w base sp held m e ((cs.drop (i*sz)).take sz)=xs i/\∃ y,xs i=some y/\fit y.1) ->
   ∃ ps,gB w NoY iQ ps (cs.drop (s*sz))/\SnL P N (List.replicate k e) ps
 | 0,s,hl,_=>by
  refine⟨[],?_,.nil⟩;rw[List.drop_eq_nil_of_le eU];simp[gB]
 | k+1,s,hl,hx=>by
  obtain⟨h1,y,h2,I⟩:=hx s ah;rw[h2] at h1;obtain⟨ps,hr,hs,J⟩:=R _ _ h1 I;obtain⟨qs,T,U⟩:=Qx R hsz k (s+1) (by rw[hl];congr 1;omega) λi hi=>hx i ah;refine⟨ps++qs,?_,by rw[List.replicate_succ];exact .cons hs U⟩;have:=hr.append T
  rwa [show (s+1)*sz=s*sz+sz by rw[Nat.add_mul];omega,<- List.drop_drop,List.take_append_drop] at this
theorem SX {e:TypeId}{m:Nat}{a:Addr}{xs:Nat->Option (DataW H×List MemPlace)}(U:a.spot=none)
  (g:∀ (cs:List Value) x,DataW.trod enc P w base sp held m e cs=some x->fit x.1->∃ ps,gB w NoY iQ ps cs/\Sn P N e ps/\cs.length=P.cellsOf e) :
  ∀ (k s:Nat),(∀ i,i<s+k->(w.cells? base (a.add (i*P.cellsOf e)) (P.cellsOf e)).bind (DataW.trod enc P w base sp held m e)=xs i/\∃ y,xs i=some y/\fit y.1) ->
   ∃ T,jh w NoY iQ a.block (P.cellsOf e) T (a.off+s*P.cellsOf e)/\(∀ r∈T,Sn P N e r)/\T.length=k
 | 0,s,_=>⟨[],by simp[jh],by simp,rfl⟩
 | k+1,s,hx=>by
  obtain⟨h1,y,h2,h3⟩:=hx s ah;rw[h2] at h1;obtain⟨vs,hv,ht⟩:=Option.bind_eq_some_iff.1 h1;obtain⟨ps,hr,hs,hl⟩:=g _ _ ht h3;obtain⟨T,C,J,R⟩:=SX U g k (s+1) λi hi=>hx i ah;rw[ack U] at hv;refine⟨ps::T,?_,?_,by simp[R]⟩
  unfold jh;refine⟨⟨by rw[<- hr.length,hl],hs.cells⟩,NU hv hr,?_⟩;rw[show a.off+s*P.cellsOf e+P.cellsOf e=a.off+(s+1)*P.cellsOf e by rw[Nat.add_mul];omega];exact C
  intro r I;rcases List.mem_cons.1 I with rfl|h
  exact hs
  exact J r h
theorem Vm {ts:List TypeId}(F:Fit N fit)(g:layAll P ts ts=true):∀ (fuel:Nat) (t:TypeId) (cs:List Value) (x:DataW H×List MemPlace),t∈ts ->
  DataW.trod enc P w base sp held fuel t cs=some x->fit x.1->∃ ps,gB w NoY iQ ps cs/\Sn P N t ps/\cs.length=P.cellsOf t
 | 0,t,cs,x,_,h,_=>by simp[DataW.trod] at h
 | m+1,t,cs,x,hmem,h,hft=>by
  have hl:=Jw ts g t hmem;have ih:=Vm F g m;have one:∀ {p:PV} {v:Value},Rep w NoY iQ p v->gB w NoY iQ [p] [v]:=λh=>by unfold gB;exact⟨_,_,rfl,h,by unfold gB;rfl⟩
  unfold af9 at hl
  split at hl
  rename_i hu;obtain⟨b,rfl,_⟩:=DataW.trod_bool hu h;exact⟨[.sb b],one bH,.bool hu,(Nat.eq_of_beq_eq_true hl).symm⟩
  rename_i k hu;obtain⟨n,rfl,_,hw⟩:=DataW.trod_int hu h;exact⟨[.si k n],one bH,.int hu hw,(Nat.eq_of_beq_eq_true hl).symm⟩
  rename_i hu;obtain⟨s,rfl,rfl,hs⟩:=DataW.trod_string hu h;exact⟨[.str s],one bH,.str hu (by simpa using F.str _ hft),(Nat.eq_of_beq_eq_true hl).symm⟩
  rename_i e hu;simp only[Bool.and_eq_true,Nat.blt_eq] at hl;obtain⟨⟨h1,h2⟩,J⟩:=hl;have J:e∈ts:=by simpa using J
  have h1:=(Nat.eq_of_beq_eq_true h1).symm;rcases DataW.trod_pointer hu h with ⟨rfl,_⟩|⟨a,cs',y,n,O,rfl,rfl,C,ht⟩
  exact⟨[.Bv],one bH,.Bv hu,h1⟩
  cases O;obtain⟨ps,hr,hs,_⟩:=ih e _ _ J ht (F.ptr _ hft);obtain⟨U,T⟩:=SS h2 C;refine⟨[.pp ps],one ?_,.pp hu hs,h1⟩;have ha:a=⟨a.block,a.off,none⟩:=by cases a;simp at U;simp[U]
  rw[ha] at C;unfold Rep;exact⟨a.block,a.off,by rw[<- ha],⟨T,λh=>h⟩,NU C hr⟩
  rename_i e hu;simp only[Bool.and_eq_true,Nat.blt_eq] at hl;obtain⟨⟨h1,h2⟩,J⟩:=hl;have J:e∈ts:=by simpa using J
  have h1:=(Nat.eq_of_beq_eq_true h1).symm;rcases DataW.trod_slice hu h with ⟨rfl,_⟩|⟨a,len,cap,elems,rest,n,O,rfl,rfl,_,hle,hmax,hlen,hel,_⟩
  refine⟨[.sl (P.cellsOf e) [] false],one ?_,.sl hu aB aB,h1⟩;unfold Rep;exact⟨none,0,0,rfl,rfl,Nat.le_refl _,(λh=>by cases h),.inl rfl⟩
  cases O;obtain⟨hN,hfe⟩:=F.sl _ _ hft;have hN:len<=N:=by simpa [hlen] using hN
  by_cases h0:len=0
  subst h0;refine⟨[.sl (P.cellsOf e) [] false],one ?_,.sl hu aB aB,h1⟩;unfold Rep;exact⟨some a,0,cap,rfl,rfl,hle,(λh=>by cases h),.inl rfl⟩
  have hx:∀ i,i<len->∃ y,elems[i]?=some y/\fit y.1:=λi hi=>⟨_,List.getElem?_eq_getElem ah,hfe _ (List.mem_map.2 ⟨_,List.getElem_mem _,rfl⟩)⟩
  obtain⟨y,hy,_⟩:=hx 0 ah;have he0:=hel 0 ah;rw[hy] at he0;obtain⟨vs,hv,_⟩:=Option.bind_eq_some_iff.1 he0;obtain⟨U,T⟩:=SS h2 hv;rw[Nat.zero_mul,show a.add 0=a by simp[Addr.add]] at U T;obtain⟨es,hr,hs,hl2⟩:=SX (xs:=λi=>elems[i]?) U (λcs x hx O=>ih e cs x J hx O) len 0 λi hi=>⟨hel i ah,hx i ah⟩
  refine⟨[.sl (P.cellsOf e) es false],one ?_,.sl hu hs (by rw[hl2];omega),h1⟩;have ha:a=⟨a.block,a.off,none⟩:=by cases a;simp at U;simp[U]
  unfold Rep;refine⟨some a,len,cap,rfl,hl2.symm,hle,(λh=>by cases h),.inr ⟨a.block,a.off,by rw[<- ha],⟨T,λh=>h⟩,?_⟩⟩
  simpa using hr
  rename_i fs hu
  split at hl
  rename_i n C;obtain⟨xs,n',O,rfl,R,hxl,hx⟩:=DataW.trod_struct hu h;cases O;have hn:=Nat.eq_of_beq_eq_true hl
  obtain⟨ps,hr,hs⟩:=N8 (ts:=ts) (xs:=λi=>xs[i]?) (λt cs x=>ih t cs x) fs.toList 0 0 (by rw[C,hn,R]) (Nat.zero_le _) λi f hi=>by
   have I : fs[i]?=some f:=by simpa using hi
   have T:i<fs.size:=by
    by_cases h:i<fs.size
    exact h
    rw[Array.getElem?_eq_none (Nat.le_of_not_lt h)] at I;cases I
   refine⟨by simpa using hx i f I,_,by rw[Nat.zero_add];exact List.getElem?_eq_getElem ah,F.agg _ hft _ (List.mem_map.2 ⟨_,List.getElem_mem _,rfl⟩)⟩
  exact⟨ps,by simpa using hr,.struct hu hs,R⟩
  cases hl
  rename_i n e hu;simp only[Bool.and_eq_true] at hl;have J:e∈ts:=by simpa using hl.2
  obtain⟨xs,m',O,rfl,R,hxl,hx⟩:=DataW.trod_array hu h;cases O;obtain⟨ps,hr,hs⟩:=Qx (xs:=λi=>xs[i]?) (λcs x hx O=>ih e cs x J hx O) rfl n 0 (by rw[R,Nat.zero_add];exact Nat.eq_of_beq_eq_true hl.1) λi hi=>⟨hx i ah,_,List.getElem?_eq_getElem ah,F.agg _ hft _ (List.mem_map.2 ⟨_,List.getElem_mem _,rfl⟩)⟩
  exact⟨ps,by simpa using hr,.arr hu hs,R⟩
  cases hl
inductive SnV (P:Program) (N:Nat) (t:TypeId):PV->Prop
 | one {p:PV}:Sn P N t [p]->jW P t=false->SnV P N t p
 | agg {cs:List PV}:Sn P N t cs->jW P t=true->SnV P N t (.agg cs)
inductive QN (P:Program) (N:Nat):List TypeId->List PV->Prop
 | nil:QN P N [] []
 | cons {t:TypeId} {ts:List TypeId} {p:PV} {ps:List PV}:SnV P N t p->QN P N ts ps->QN P N (t::ts) (p::ps)
theorem Z5 {ts:List TypeId}(F:Fit N fit)(R:layAll P ts ts=true){t:TypeId}(T:t∈ts){v:Value}{d:DataW H}{pl:List MemPlace}{r:Reach}{b0:Nat}(U:Value.okWide P w r b0 t v)(h:DataW.Trod enc P w base sp held t v d pl)(C:fit d) :
  ∃ p,Rep w NoY iQ p v/\SnV P N t p:=by
 obtain⟨fuel,h⟩:=h;obtain⟨ps,hr,hs,_⟩:=Vm F R fuel t _ _ T h C;have hl:=Jw ts R t T
 have agg:(∃ cs,v=.agg cs)->jW P t=true->∃ p,Rep w NoY iQ p v/\SnV P N t p:=by
  rintro⟨cs,rfl⟩ I
  refine⟨.agg ps,?_,.agg hs I⟩;unfold Rep;exact⟨cs.toList,by simp,by simpa [Value.cells] using hr⟩
 have one:v.cells.toList=[v]->jW P t=false->∃ p,Rep w NoY iQ p v/\SnV P N t p:=by
  intro hv I;rw[hv] at hr;have hlen:=hr.length
  match ps,hr,hs,hlen with
  | [p],hr,hs,_ =>
   obtain⟨u,e,hp⟩:=Ia hr;cases e;exact⟨p,hp,.one hs I⟩
 unfold af9 at hl;unfold Value.okWide at U
 split at hl
 rename_i hu;rw[hu] at U;obtain⟨b,hb,_⟩:=DataW.trod_bool hu h;refine one ?_ dH;cases v<;>simp_all[Value.cells,Cell.okWide,Cell.ok]
 rename_i k hu;rw[hu] at U;obtain⟨b,hb,_⟩:=DataW.trod_int hu h;refine one ?_ dH;cases v<;>simp_all[Value.cells,Cell.okWide,Cell.ok]
 rename_i hu;rw[hu] at U;obtain⟨b,hb,_⟩:=DataW.trod_string hu h;refine one ?_ dH;cases v<;>simp_all[Value.cells,Cell.okWide,Cell.ok]
 rename_i e hu;rw[hu] at U;refine one ?_ dH;cases v<;>simp_all[Value.cells,Cell.okWide,Cell.ok]
 rename_i e hu;rw[hu] at U;refine one ?_ dH;cases v<;>simp_all[Value.cells,Cell.okWide,Cell.ok]
 rename_i g hu;rw[hu] at U;obtain⟨cs,J,_⟩:=U;exact agg ⟨cs,J⟩ dH
 rename_i n e hu;rw[hu] at U;obtain⟨cs,J,_⟩:=U;exact agg ⟨cs,J⟩ dH
 cases hl
theorem Vo {ts:List TypeId}(F:Fit N fit)(T:layAll P ts ts=true){r:Reach}{b0:Nat}:∀ (params:List TypeId) (vs:List Value) (U:List (DataW H)) (pl:List MemPlace),(∀ t∈params,t∈ts) ->
  (∀ (j:Nat) t v,params[j]?=some t->vs[j]?=some v->Value.okWide P w r b0 t v)->DataW.TrodAll enc P w base sp held params vs U pl->(∀ d∈U,fit d) ->
  ∃ ps,gB w NoY iQ ps vs/\QN P N params ps/\U.length=params.length
 | [],[],[],_,_,_,_,_=>⟨[],by simp[gB],.nil,rfl⟩
 | t::params,v::vs,d::U,pl,hm,hval,h,hft=>by
  obtain⟨p,q,h1,h2,_⟩:=h;obtain⟨x,hx,hs⟩:=Z5 F T (hm t aB) (hval 0 t v rfl rfl) h1 (hft d aB);obtain⟨xs,J,R,hl⟩:=Vo F T params vs U q (λt ht=>hm t (by simp[ht])) (λj t v h1 h2=>hval (j+1) t v eF eG) h2 (λd I=>hft d (by simp[I]));exact⟨x::xs,by unfold gB;exact⟨v,vs,rfl,hx,J⟩,.cons hs R,by simp[hl]⟩
 | [],_::_,_,_,_,_,h,_=>h.elim
 | [],[],_::_,_,_,_,h,_=>h.elim
 | _::_,[],_,_,_,_,h,_=>h.elim
 | _::_,_::_,[],_,_,_,h,_=>h.elim
theorem Z7 (F:Fit N fit){f:FuncId}{fn:Func}{s:ChangeSpec}{apart:Bool}{ts:List TypeId}(hB:ajH P ts fn.params.toList=true)(T:s.vars=[]){tb:TypeId}(hres:fn.resultTypes=#[tb])(hb:P.underlying tb=some .bool)
  (hspec:∀ (U:List (DataW H)),U.length=fn.params.toList.length->(s.fn H U).results=[.lit (.bool true)]/\(s.fn H U).args=U/\(s.fn H U).vars=[])
  {G:Nat->Option (List PV)} (hFn:∀ I,QN P N fn.params.toList I->Fn P G f I (λu=>u=.sb true))
  (W:World) (hG:VP G W NoY) (base:Nat) (args:Array Value) (U gs:List (DataW H)) (before:List MemPlace)
  (hval:∀ (j:Nat) t v,fn.params[j]?=some t->args[j]?=some v->Value.okWide P W .any base t v)
  (hft:∀ d∈U,fit d) (hW:DataW.Whole enc P fn.params.toList s.vars apart W args.toList U gs before) :
  Calls P f args W λe W'=>∃ v,e=.returned v/\s.post enc P fn apart true false false W args v W':=by
 unfold ajH at hB;simp only[Bool.and_eq_true,List.all_eq_true] at hB;obtain⟨⟨hl,hts⟩,hp⟩:=hB
 have hp:∀ t∈fn.params.toList,t∈ts/\P.readableRec t=true/\t<P.types.size:=λt ht=>by
  have:=hp t ht;rw[Nat.blt_eq] at this;exact⟨by simpa using this.1.1,this.1.2,this.2⟩
 have hW0:=hW;obtain⟨pa,pv,hA,hV,hbef,_,_⟩:=hW;obtain⟨I,hr,hs,hlen⟩:=Vo F hts fn.params.toList args.toList U pa (λt ht=>(hp t ht).1) (λj t v h1 h2=>hval j t v eF eG) hA hft;obtain⟨_,J⟩:=hFn I hs W NoY args.toList hG (λ_ h=>h.elim) hr;refine Calls.mono J λe W' h=>?_;obtain⟨cv,v,rfl,rfl,hrep,C⟩:=h;have hcv:=Jn hrep;subst hcv;refine⟨.bool true,rfl,?_⟩;rw[T] at hV
 have hgs:gs=[]/\pv=[]:=by
  cases gs with
  | nil=>exact⟨rfl,hV⟩
  | cons g gs=>exact hV.elim
 obtain⟨rfl,rfl⟩:=hgs;obtain⟨s1,s2,s3⟩:=hspec U hlen;have R:∀ p∈before,p.block<W.heap.size:=λp hp=>by simpa using hW0.lt p hp
 unfold ChangeSpec.post;refine⟨U,[],before,[],pa,[],hW0,?_,?_,?_,C.below.frame _,λh=>by cases h⟩
 rw[List.append_nil,s1,hres];refine⟨[],[],⟨1,?_⟩,rfl,rfl⟩;simp[DataW.trod,hb,Value.cells]
 rw[List.append_nil,s2];exact Vh hl C.below _ _ _ _ (λt ht=>(hp t ht).2) (λx hx=>R x (by rw[hbef];simp[hx])) hA
 rw[List.append_nil,s3,T];rfl
end
section
variable {P:Program}{N:Nat}{t e:TypeId}{cs:List PV}{p:PV}
theorem Sn.Ws {k:IntKind}(hu:P.underlying t=some (.int k))(h:Sn P N t cs):∃ n,cs=[.si k n]/\(Lit.int k n).wf=true:=by
 cases h with
 | int h1 h2=>rw[hu] at h1;cases h1;exact⟨_,rfl,h2⟩
 | _=>simp_all
theorem Sn.Yg (hu:P.underlying t=some .bool)(h:Sn P N t cs):∃ b,cs=[.sb b]:=by
 cases h with
 | bool h1=>exact⟨_,rfl⟩
 | _=>simp_all
theorem Sn.abl (hu:P.underlying t=some .string)(h:Sn P N t cs):∃ s,cs=[.str s]/\s.size<=N:=by
 cases h with
 | str h1 h2=>exact⟨_,rfl,h2⟩
 | _=>simp_all
theorem Sn.oh (hu:P.underlying t=some (.slice e))(h:Sn P N t cs):∃ U,cs=[.sl (P.cellsOf e) U false]/\(∀ r∈U,Sn P N e r)/\U.length<=N:=by
 cases h with
 | sl h1 h2 T=>rw[hu] at h1;cases h1;exact⟨_,rfl,h2,T⟩
 | _=>simp_all
theorem Sn.jB {U:Array Field}(hu:P.underlying t=some (.struct U))(h:Sn P N t cs):SnL P N (U.toList.map (·.type)) cs:=by
 cases h with
 | struct h1 h2=>rw[hu] at h1;cases h1;exact h2
 | _=>simp_all
theorem Sn.Q4 {n:Nat}(hu:P.underlying t=some (.array n e))(h:Sn P N t cs):SnL P N (List.replicate n e) cs:=by
 cases h with
 | arr h1 h2=>rw[hu] at h1;cases h1;exact h2
 | _=>simp_all
theorem SnL.Jz {ts:List TypeId}(h:SnL P N (t::ts) cs):∃ a b,cs=a++b/\Sn P N t a/\SnL P N ts b:=by
 cases h with
 | cons h1 h2=>exact⟨_,_,rfl,h1,h2⟩
theorem SnL.kL (h:SnL P N [] cs):cs=[]:=by cases h;rfl
theorem SnV.abm (U:jW P t=true)(h:SnV P N t p):∃ cs,p=.agg cs/\Sn P N t cs:=by
 cases h with
 | one h1 h2=>rw[U] at h2;cases h2
 | agg h1 h2=>exact⟨_,rfl,h1⟩
theorem QN.Jz {ts:List TypeId}{ps:List PV}(h:QN P N (t::ts) ps):∃ a b,ps=a::b/\SnV P N t a/\QN P N ts b:=by
 cases h with
 | cons h1 h2=>exact⟨_,_,rfl,h1,h2⟩
theorem QN.kL {ps:List PV}(h:QN P N [] ps):ps=[]:=by cases h;rfl
end
end Go.Pv
namespace Go.Pv
open Go
def Vp:List PV->Bool
 | []=>true
 | v::vs=>(match v with
  | .bool _|.sb _|.int _ _|.si _ _|.str _|.sl _ _ _|.pp _|.Bv|.LP=>true
  | .fn _ []=>true
  | _=>false)&&Vp vs
def ahO (S:iK)(b c:Nat)(E:Env):Env :=
 match iO E.st b with
 | some (.nor sz rows r row)=>(match iZ row c with
  | .os id r0 n=>(match iO E.st id with
   | some (.arr _ z es)=>⟨E.tmps,nI (nI E.st id (some (.arr true z es))) b (some (.nor sz rows r (qU row c (.sl z (S.sub es r0 n) false)))),E.next⟩
   | _=>E)
  | _=>E)
 | _=>E
def adY (S:iK)(b:Nat):Nat->Nat->Env->Env
 | _,0,E=>E
 | c,k+1,E=>adY S b (c+1) k (ahO S b c E)
def opO (S:iK)(t:Nat)(E:Env)(K:Env->Prop):Prop :=
 match iZ E.tmps t with
 | .lp b r _=>(match iO E.st b with
  | some (.arr false sz rows)=>S.row rows r λrow=>K ⟨E.tmps,nI E.st b (some (.nor sz rows r row)),E.next⟩
  | _=>False)
 | _=>False
def ajR (S:iK)(b:Nat)(E:Env)(K:Env->Prop):Prop :=
 match iO E.st b with
 | some (.nor sz rows r row)=>bif Vp row then wkC S row λrow=>K ⟨E.tmps,nI E.st b (some (.arr false sz (S.MZ rows r row))),E.next⟩ else False
 | _=>False
def clO (S:iK)(b:Nat)(E:Env)(K:Env->Prop):Prop :=
 match iO E.st b with
 | some (.nor _ _ _ row)=>ajR S b (adY S b 0 (lG row) E) K
 | _=>False
inductive Cw where
 | cv (c:Cv)
 | op (t:Nat)
 | cl (b:Nat)
def cwK (S:iK):List Cw->Env->(Env->Prop)->Prop
 | [],E,K=>K E
 | .cv c::l,E,K=>cwK S l (cv1 S c E) K
 | .op t::l,E,K=>opO S t E λE=>cwK S l E K
 | .cl b::l,E,K=>clO S b E λE=>cwK S l E K
section
variable {P:Program}{T T' : Tab}
theorem SY {w:World}{Y:Nat->Prop}{σ:Sg}:∀ (ps:List PV),Vp ps=true->(∀ p∈ps,sZ p=true/\∀ v,Rep w Y σ p v->Rep w Y iQ p v)
 | [],_=>by simp
 | p::ps,h=>by
  simp only[Vp,Bool.and_eq_true] at h;intro q hq;rcases List.mem_cons.1 hq with rfl|hq
  ·have h1:=h.1;cases q
   case fn f cs =>
    cases cs with
    | nil =>
     refine⟨rfl,λv hv=>?_⟩;unfold Rep at hv |-;obtain⟨zs,e1,U⟩:=hv;unfold gB at U;subst U;exact⟨[],e1,by unfold gB;rfl⟩
    | cons c cs=>simp at h1
   all_goals first|(simp at h1;done)|exact⟨rfl,λv hv=>by unfold Rep at hv |-;exact hv⟩
  exact SY ps h.2 q hq
theorem ahP {t b r c sz:Nat}{E:Env}{rows:List (List PV)}{row:List PV}(ht:iZ E.tmps t=.lp b r c)(hb:iO E.st b=some (.arr false sz rows))(hr:rows[r]?=some row):Ent T E ⟨E.tmps,nI E.st b (some (.nor sz rows r row)),E.next⟩:=by
 rintro C a w ⟨⟨Y,σ,H⟩,hd⟩
 refine⟨⟨Y,σ,?_⟩,hd⟩;have R:=H.vals.get _ _ t;rw[ht] at R;unfold Rep at R;obtain⟨l,hl,_⟩:=R;have hB:=gJ.wW H (λ_ _ h=>h) hb hl;unfold gJ at hB;obtain⟨h1,h2,h3,g,h5,I,h7⟩:=hB
 have U:r<rows.length:=by
  by_cases hh:r<rows.length
  exact hh
  simp[List.getElem?_eq_none (Nat.le_of_not_lt hh)] at hr
 have J:=jh.row rows _ r row h5 hr;refine H.update hb hl (I rfl) rfl rfl rfl rfl (λ_ _=>rfl) (λ_ _ h=>by cases h) λ_=>?_;unfold gJ;exact⟨h1,h2,h3,g,⟨U,J.1.1⟩,λi x hx _=>jh.row rows _ i x h5 hx,jc.keep row ⟨λ_ _ _=>rfl,λ_ _ h=>h,Nat.le_refl _,λ_ _ h=>by cases h⟩ (λ_=>rfl) _ J.2,I rfl⟩
theorem abq {C:Ctx T}{w:World}{Y:Nat->Prop}{σ:Sg}{ps:List PV}{vs:List Value}{st:St}{n b sz r:Nat}{rows:List (List PV)}{row:List PV}(H:SW C w Y σ ps vs st n)(hb:iO st b=some (.nor sz rows r row)):∃ l,σ b=some l/\gJ w Y σ l (.nor sz rows r row):=by
 rcases H.store.blk b _ hb with h|⟨_,_,_,h⟩
 exact h
 cases h
theorem agb (b c:Nat)(E:Env):Ent T E (ahO (iK.jd P T') b c E):=by
 rintro C a w ⟨⟨Y,σ,H⟩,hd⟩
 unfold ahO
 split
 rename_i sz rows r row R
 split
 rename_i id r0 m hp
 split
 rename_i ro z J hb;obtain⟨Y',H1,hfr,hY⟩:=H.freeze hb (.inr ⟨ro,z,J,rfl,rfl⟩);refine⟨⟨Y',σ,?_⟩,hd⟩;have g:¬ id=b:=by intro e;rw[e,R] at hb;cases hb
 have U:iO (nI E.st id (some (.arr true z J))) b=some (.nor sz rows r row):=by rw[iG,if_neg g];exact R
 obtain⟨l,hl,hB⟩:=abq H1 U;have hB0:=hB;unfold gJ at hB;obtain⟨h1,h2,h3,h4,⟨h5,h6⟩,h7,h8,h9⟩:=hB;refine H1.update U hl h9 rfl rfl rfl rfl (λ_ _=>rfl) (λ_ _ h=>by cases h) λ_=>?_;unfold gJ;refine⟨h1,h2,h3,h4,⟨h5,by simpa [qK] using h6⟩,h7,jc.oG _ _ _ (λv hv=>?_) h8,h9⟩;rw[hp] at hv;have I : iO (nI E.st id (some (.arr true z J))) id=some (.arr true z J):=by rw[iG,if_pos rfl]
 obtain⟨x,cap,ev,hn,hlen,hr⟩:=ER hv (H1.store.blk id _ I);show Rep w Y' σ (.sl z ((J.drop r0).take m) false) _;unfold Rep;refine⟨x,m,cap,ev,hlen,hn,(λh=>by cases h),hr.imp _root_.id λ⟨b2,o,e,hlt,⟨l,hl2,e2⟩,hR⟩=>⟨b2,o,e,⟨hlt,by rw[e2];exact hfr l hl2⟩,hR⟩⟩
 exact⟨⟨Y,σ,H⟩,hd⟩
 exact⟨⟨Y,σ,H⟩,hd⟩
 exact⟨⟨Y,σ,H⟩,hd⟩
theorem abr (b:Nat):∀ (k c:Nat) (E:Env),Ent T E (adY (iK.jd P T') b c k E)
 | 0,_,E=>Ent.refl E
 | k+1,c,E=>(agb b c E).trans (abr b k (c+1) _)
theorem agc {b sz r:Nat}{E:Env}{rows:List (List PV)}{row U : List PV}(hb:iO E.st b=some (.nor sz rows r row))(hn:Vp row=true)(hl:U.length=row.length)(hc:iE row=true->iE U=true)
  (hw:∀ (w:World) (Y:Nat->Prop) (σ:Sg) (vs:List Value),gB w Y σ row vs->gB w Y σ U vs):Ent T E ⟨E.tmps,nI E.st b (some (.arr false sz (rows.set r U))),E.next⟩:=by
 rintro C a w ⟨⟨Y,σ,H⟩,hd⟩
 refine⟨⟨Y,σ,?_⟩,hd⟩;obtain⟨l,hs,hB⟩:=abq H hb;unfold gJ at hB;obtain⟨h1,h2,h3,h4,⟨h5,h6⟩,h7,h8,h9⟩:=hB;refine H.update hb hs h9 rfl rfl rfl rfl (λ_ _=>rfl) (λ_ _ h=>by cases h) λ_=>?_;have hcell:iE row=true:=by rw[qi];exact λp hp=>(SY (w:=w) (Y:=Y) (σ:=σ) row hn p hp).1
 have I : jc w Y iQ l.cb row (l.co+r*sz):=by
  rw[jc.iff] at h8 |-;intro i p hi;obtain⟨v,hv,hp⟩:=h8 i p hi;exact⟨v,hv,(SY row hn p (List.mem_of_getElem? hi)).2 v hp⟩
 obtain⟨us,hu1,g⟩:=I.vals;have J : jc w Y iQ l.cb U (l.co+r*sz):=jc.Hw _ _ _ (hw w Y iQ us hu1) g;unfold gJ;refine⟨h1,h2,h3,⟨by simpa using h4.1,by simpa using h4.2⟩,?_,λ_=>h9,λh=>by cases h⟩;rw[jh.iff];intro i x hi;rw[List.getElem?_set] at hi
 by_cases R:r=i
 subst R;rw[if_pos rfl,if_pos h5] at hi;cases hi;exact⟨⟨by rw[hl];exact h6,hc hcell⟩,J⟩
 rw[if_neg R] at hi;exact h7 i x hi λe=>R e.symm
theorem agd {t:Nat}{E:Env}{K:Env->Prop}(h:opO (iK.jd P T') t E K):∃ F,Ent T E F/\K F:=by
 unfold opO at h
 split at h
 rename_i b r c ht
 split at h
 rename_i sz rows hb;obtain⟨row,hr,h⟩:=h;exact⟨_,ahP ht hb hr,h⟩
 exact h.elim
 exact h.elim
theorem age {b:Nat}{E:Env}{K:Env->Prop}(h:clO (iK.jd P T') b E K):∃ F,Ent T E F/\K F:=by
 unfold clO at h
 split at h
 rename_i sz rows r row hb;have h1:Ent T E (adY (iK.jd P T') b 0 (lG row) E):=abr b _ 0 E;generalize adY (iK.jd P T') b 0 (lG row) E=E1 at h h1;unfold ajR at h
 split at h
 rename_i I R r2 U J
 cases hn:Vp U with
 | false=>rw[hn] at h;exact h.elim
 | true =>
  rw[hn] at h;obtain⟨C,g1,g2,g3,g4,_⟩:=yL h;exact⟨_,h1.trans (agc J hn g1 g2 g3),g4⟩
 exact h.elim
 exact h.elim
theorem Q7:∀ (l:List Cw) {E:Env} {K:Env->Prop},cwK (iK.jd P T') l E K->∃ F,Ent T E F/\K F
 | [],E,K,h=>⟨E,Ent.refl E,h⟩
 | .cv c::l,E,K,h=>by
  obtain⟨F,h1,h2⟩:=Q7 l h;exact⟨F,(abk (P:=P) (T':=T') c E).trans h1,h2⟩
 | .op t::l,E,K,h=>by
  obtain⟨F,h1,h2⟩:=agd (T:=T) h;obtain⟨G,U,R⟩:=Q7 l h2;exact⟨G,h1.trans U,R⟩
 | .cl b::l,E,K,h=>by
  obtain⟨F,h1,h2⟩:=age (T:=T) h;obtain⟨G,U,R⟩:=Q7 l h2;exact⟨G,h1.trans U,R⟩
variable {S:iK}(hS:S=iK.jd P T)
include hS
theorem adZ {A:Post->Prop}{B:Env->Prop}{Q:Post}(l:List Cw)(h:A (Lh (λE=>cwK S l E B) Q)):S.seq A B Q:=by
 subst hS;refine⟨_,h,λn E h=>?_⟩
 cases n with
 | zero=>exact Q7 l h
 | succ n=>exact⟨E,Ent.refl E,h⟩
end
end Go.Pv
namespace Go.Pv
open Go
section
variable {P:Program}{T:Tab}{S:iK}{M:EncM}{α β σ ρ:Type}{r:ρ}
theorem d_x {I F:σ->Env}{k:σ->Option ρ}{s:σ}{E:Env}(hk:∀ s,I s=F s)(O:k s=some r)(e:E=F s:=by (conv=>lhs;cbv)<;>(try simp only[q])<;>(try rfl)<;>(try simp only[eL,q])<;>(try rfl)<;>(try (subst hM;rfl))):∃ s,k s=some r/\E=I s:=⟨s,O,e.trans (hk s).symm⟩
theorem d_l {u v:PV}(e:u=v:=by simp only[q];try first|rfl|simp[xQ,eI,eB,eL,eS,q]):LeP u v:=Yi e
theorem d_e {α:Sort _}{u v:α}(e:u=v:=by simp only[q];try first|rfl|simp[xQ,eI,eB,eL,eS,q]):u=v:=e
theorem d_lp (hS:S=iK.jd P T)(hT:jg P T)(hW:CW P){b:Code}{Q:Post}{E:Env}{step:σ->(σ->Option ρ)->Option ρ}{R:σ}(cvs:List Cv)(keep:List Nat)(F:σ->Env)(O:iF step R=some r)
  (h:∀ (I:σ->Env) (k:σ->Option ρ) (s:σ),(∀ s,I s=F s)->step s k=some r->∀ e,e=F s->pwp T S b (Lh (λJ=>∃ U,k U=some r/\Jh T.qJ keep (wkE (cvE S cvs J))=I U) Q) e) (he:Jh T.qJ keep (wkE (cvE S cvs E))=F R:=by (conv=>lhs;cbv)<;>(try simp only[q])<;>(try rfl)):S.loop b Q E:=JA hS hT hW cvs keep F O he h
theorem d_p (hS:S=iK.jd P T){k:Nat}{args as bs:List PV}{cargs:List PV}{E:Env}{K:PV->Env->Prop}{g:Option α}{v:α->PV}{kk:α->Option ρ}(O:bnd g kk=some r)(hF:∀ y,g=some y->Fn P T.gl k cargs (λu=>u=v y))(h:∀ y,kk y=some r->K (v y) E)(ha:as=cargs:=by rfl):S.Rk k args as bs E K:=tC hS O hF (le_eq ha) h
theorem Ac (hS:S=iK.jd P T){k:Nat}{args:List PV}{cargs:List PV}{K:PV->Prop}{g:Option α}{v:α->PV}{kk:α->Option ρ}(O:bnd g kk=some r)(hF:∀ y,g=some y->Fn P T.gl k cargs (λu=>u=v y))(h:∀ y,kk y=some r->K (v y))(ha:args=cargs:=by rfl):S.XB k args K:=Z4 hS O hF (le_eq ha) h
theorem abt (hS:S=iK.jd P T)(hT:jg P T)(hW:CW P){b:Code}{Q:Post}{E:Env}{step:σ->(σ->Option ρ)->Option ρ}{J:σ}(U cvs:List Cv)(keep:List Nat)(F:σ->Env)(O:iF step J=some r)(he:Jh T.qJ keep (wkE (cvE S U E))=F J)
  (h:∀ (I:σ->Env) (k:σ->Option ρ) (s:σ),(∀ s,I s=F s)->step s k=some r->∀ e,e=F s->pwp T S b (Lh (λg=>∃ s',k s'=some r/\Jh T.qJ keep (wkE (cvE S cvs g))=I s') Q) e):S.loop b Q E:=by
 subst hS;intro C a w hA
 have key:∀ (n:Nat) (s:σ),NV step n s=some r->∀ (C:Ctx T) a w,kC C (F s) a w->Code.rounds P b (lift C Q) n a w:=by
  intro n
  induction n with
  | zero=>intro s h;cases h
  | succ n ih =>
   intro s hs C a w hA;unfold Code.rounds;refine wp_mono (Aj hT hW b _ _ (h F (NV step n) s (λ_=>rfl) hs _ rfl) C a w hA) (ET λg R w' hA' hq=>?_);obtain⟨j,hj,he⟩:=hq;exact ih j hj C R w' (he ▸ DY keep _ C R w' (Ii _ C R w' (Bf (P:=P) (T':=T) cvs g C R w' hA')))
 exact wp_loop_rounds fuel (key _ J O C a w (he ▸ DY keep _ C a w (Ii _ C a w (Bf (P:=P) (T':=T) U E C a w hA))))
theorem zU (hS:S=iK.jd P T){l:Array Oper}{p:Prop}(h:p)(hd:DV T l=true:=by kernel_rfl):S.order l p:=af8 hS hd h
end
def ad1 (T:Tab)(S:iK)(cvs:List Cv)(rs:List ResultVar)(R:PV->St->Nat->Prop):Post
 | 0,E=>Qh T S rs (cvE S cvs E) R
 | 1,E=>Qh T S rs (cvE S cvs E) R
 | _+2,_=>False
theorem Wx {P:Program}{T:Tab}(hT:jg P T)(hW:CW P){k:Nat}{fn:Func}{c:Code}(O:P.funcs[k]?=some fn)(hb:fn.body=some c)
  (g:∀ args w,(callFunc k args).run P w=.ok (.enter k args) w) {args:List PV} {st:St} {R:PV->St->Nat->Prop} {m:Nat} (hm:fn.ntmps-args.length=m)
  (cvs:List Cv) (h:∀ S,S=iK.jd P T->pwp T S c (ad1 T S cvs fn.results.toList R) ⟨wU args (rZ m),st,T.qJ⟩):FnS P T.gl k args st T.qJ R:=by
 intro w Y σ U hG hY hn I hst hnn;refine⟨g _ _,?_⟩;have hlen:=I.length
 let C:Ctx T:=EJ T w Y σ st
 have H0:SW C w Y σ (wU args (rZ m)) ((U.toArray++Array.replicate (fn.ntmps-U.toArray.size) Go.undef).toList) st T.qJ:=by
  refine⟨?_,hst,hn,hY,λ_ h=>h.1,λk h=>⟨hY k h.1,h.2⟩,λk h _=>?_,Ji.refl _ w,λb x l h1 h2=>.inr ⟨b,x,l,h1,h2,rfl⟩,hG,⟨Nat.le_refl _,λ_ _=>rfl⟩,yK.none (Ig st hnn)⟩
  have:(U.toArray++Array.replicate (fn.ntmps-U.toArray.size) Go.undef).toList=U++List.replicate m Go.undef:=by simp[hlen,hm]
  rw[this];exact gB.app _ _ _ _ I (D7 m)
  by_cases hi:BZ σ st k
  exact .inr ⟨h,hi⟩
  exact .inl ⟨h,hi⟩
 have hwp:=Aj hT hW c _ _ (h _ rfl) C { tmps:=U.toArray++Array.replicate (fn.ntmps-U.toArray.size) Go.undef,defers:=[] } w ⟨⟨Y,σ,H0⟩,rfl⟩;refine calls_of_wp O hb (wp_mono hwp ?_)
 have key:∀ (a:Act) (w' : World),(∃ E,kC C E a w'/\Qh T (iK.jd P T) fn.results.toList (cvE (iK.jd P T) cvs E) R)->a.defers=[]/\∃ v,(results fn a.tmps).run P w'=.ok v w' /\
   ∃ cv u st' n' Y' σ',Ending.returned v=.returned cv/\R u st' n'/\SW (EJ ⟨λ_=>.bad,T.gl,T.qJ,[],0,[],[]⟩ w Y σ st) w' Y' σ' [u] [cv] st' n':=by
  rintro a w' ⟨E0,hA0,hr⟩
  obtain⟨⟨Y',σ',H⟩,hd⟩:=Bf (P:=P) (T':=T) cvs E0 C a w' hA0;generalize cvE (iK.jd P T) cvs E0=E at *;refine⟨hd,?_⟩;unfold Qh at hr
  split at hr
  rename_i vs hv;obtain⟨cv,hrun,hrep⟩:=KR hT H hv;have H1:SW C w' Y' σ' [Ah vs] [cv] E.st E.next:=H.qo dC
  obtain⟨Y1,σ1,n',H2,hrep2⟩:=Qu (P:=P) (T':=T) T.own (Ah vs) H1 hrep;have H3:=H2.qo (show gB w' Y1 σ1 [(UT (iK.jd P T) T.own (Ah vs) E.st E.next).1] [cv] by unfold gB;exact⟨_,_,rfl,hrep2,by unfold gB;rfl⟩)
  split at hr
  rename_i v st2 n2 he;rw[he] at H3;obtain⟨h1,h2,h3⟩:=NK T.qJ st2 [v];obtain⟨σ2,J,_⟩:=H3.abV h1 h2 h3;refine⟨cv,hrun,cv,_,_,_,Y1,σ2,rfl,hr,⟨?_,J.store,J.next,J.vg,J.y0,J.c0,J.vk,J.mf,J.own,J.wz,J.fix,J.nest⟩⟩
  simpa only[DR] using J.vals
  exact hr.elim
 intro e a w' hq
 cases e with
 | normal=>exact key a w' hq
 | ret=>exact key a w' hq
 | exit n=>obtain⟨E,_,hq⟩:=hq;exact hq.elim
 | _=>exact hq.elim
theorem mr {P:Program}{T:Tab}(hT:jg P T)(hW:CW P){k:Nat}{fn:Func}{c:Code}(O:P.funcs[k]?=some fn)(hb:fn.body=some c)
  (U:∀ args w,(callFunc k args).run P w=.ok (.enter k args) w) {args:List PV} {st:St} {v:PV} {st1:St} {n1:Nat} {m:Nat} (hm:fn.ntmps-args.length=m)
  (cvs:List Cv) (h:∀ S R,S=iK.jd P T->(∀ u s n,LeP u v->LeS s st1->n=n1->R u s n)->pwp T S c (ad1 T S cvs fn.results.toList R) ⟨wU args (rZ m),st,T.qJ⟩):FnS P T.gl k args st T.qJ (λu s n=>u=v/\s=st1/\n=n1):=by
 have H:=Wx hT hW O hb U hm (st:=st) (cvs:=cvs) (R:=λu s n=>LeP u v/\LeS s st1/\n=n1) λS hS=>h S _ hS λ_ _ _ h1 h2 g=>⟨h1,h2,g⟩
 intro w Y σ J hG hY hn hr I C;obtain⟨h1,h2⟩:=H w Y σ J hG hY hn hr I C;refine⟨h1,Calls.mono h2 λe w' hh=>?_⟩;obtain⟨cv,u,s,n,Y',σ',he,⟨g,h4,h5⟩,H⟩:=hh;refine⟨cv,v,st1,n,Y',σ',he,⟨rfl,rfl,h5⟩,?_⟩
 have hv:gB w' Y' σ' [v] [cv]:=by
  have:=H.vals;unfold gB at this |-;obtain⟨c,cs,e,h6,h7⟩:=this;cases e;exact⟨_,_,rfl,g.rep _ h6,by unfold gB at h7 |-;exact h7⟩
 exact (H.qo hv).UA (h4.UA w' Y' σ')
end Go.Pv
namespace Go.Pv
open Go
theorem gQ {p:Prop}(h:p:=by intro O;cbv;cases O;first|exact hR _ (Yi rfl)|exact hR _ d_l):p:=h
theorem ja {p:Prop}(h:p:=by intro _ O;cbv;cases O;first|exact hR _ (Yi rfl)|exact hR _ d_l):p:=h
theorem qO {p:Prop}(h:p:=by cases O;first|exact hR _ (Yi rfl)|exact hR _ d_l):p:=h
theorem iC {p:Prop}(h:p:=by intro O;cbv;exact d_x dR O):p:=h
theorem jP {p:Prop}(h:p:=by intro _ O;cbv;exact d_x dR O):p:=h
theorem nM {p:Prop}(h:p:=by exact d_x dR O):p:=h
abbrev sI (x:Int):PV:=.si .i64 x
abbrev vR (l:List PV):Option jq:=some (.var false l)
abbrev aR (n:Nat) (l:List (List PV)):Option jq:=some (.arr false n l)
abbrev mI (M:EncM) (l:List Int):List (List PV):=M.m Int (eI .i64) l
def stL:Nat->List (Option jq)->St
 | _,[]=>[]
 | i,b::l=>(i,b)::stL (i+1) l
def ajS:List (Option jq)->Nat
 | []=>0
 | _::l=>ajS l+1
def f3 (n:Nat)(ts:List (Nat×PV))(bs:List (Option jq)):Env:=⟨tpsL 0 n ts,stL 0 bs,ajS bs⟩
def ajT:List Nat->List PV->List (Nat×PV)
 | k::ks,v::vs=>(k,v)::ajT ks vs
 | _,_=>[]
def f4 (n:Nat)(vs:List PV)(bs:List (Option jq))(ks:List Nat):Env:=f3 n (ajT ks vs) bs
section
variable {P:Program}{T:Tab}{S:iK}{M:EncM}{α β σ ρ:Type}{r:ρ}
theorem gu {c c' : Bool}{fa fb:Option ρ}{A B:Unit->Prop}(ha:fa=some r->A ())(hb:fb=some r->B ())(hS:S=iK.jd P T:=by assumption)(O:br c' fa fb=some r:=by exact O)(e:c=c':=by simp only[q];try first|rfl|simp[xQ,eI,eB,eL,eS,q]):S.br c A B:=d_br hS O e ha hb
theorem iq {c c' : Bool}{fa fb:Option ρ}{A B:Unit->Prop}(ha:fa=some r->A ())(hb:fb=some r->B ())(hS:S=iK.jd P T:=by assumption)(O:br c' fa fb=some r:=by exact O)(e:c=c':=by rfl):S.br c A B:=d_br hS O e ha hb
theorem iH {k:Nat}{args as bs:List PV}{cargs:List PV}{E:Env}{K:PV->Env->Prop}{g:Option α}{v:α->PV}{kk:α->Option ρ}(hF:∀ {y},g=some y->Fn P T.gl k cargs (λu=>u=v y))(h:∀ y,kk y=some r->K (v y) E)(hS:S=iK.jd P T:=by assumption)(O:bnd g kk=some r:=by exact O)(ha:as=cargs:=by rfl):S.Rk k args as bs E K:=d_p hS O (λ_=>hF) h ha
theorem lH {es:List (List PV)}{l:List α}{e:α->List PV}{i i' : Int}{k:α->Option ρ}{K:List PV->Prop}(h:∀ x,k x=some r->K (e x))(hS:S=iK.jd P T:=by assumption)(hM:M=mapE:=by assumption)(O:bnd (kQ l i') k=some r:=by exact O)(he:es=M.m α e l:=by rfl)(hi:i=i':=by rfl):S.idx es i K:=d_idx hS hM O he hi h
theorem jJ {A:Post->Prop}{B:Env->Prop}{Q:Post}{rest:σ->Option ρ}{body:(σ->Option ρ)->Option ρ}(cvs:List Cv)(keep:List Nat)(F:σ->List Nat->Env)(O:jn rest body=some r)
  (h:∀ (I:σ->Env) (k:σ->Option ρ),(∀ s,I s=F s keep)->body k=some r->A (Lh (λE=>∃ s,k s=some r/\Jh T.qJ keep (wkE (cvE S cvs E))=I s) Q)) (h2:∀ s,rest s=some r->B (F s keep)) (hS:S=iK.jd P T:=by assumption):S.seq A B Q:=d_cut hS cvs keep (λs=>F s keep) O h h2
theorem wB (hT:jg P T){b:Code}{Q:Post}{E:Env}{step:σ->(σ->Option ρ)->Option ρ}{R:σ}(cvs:List Cv)(keep:List Nat)(F:σ->List Nat->Env)(O:iF step R=some r)
  (h:∀ (I:σ->Env) (k:σ->Option ρ) (s:σ),(∀ s,I s=F s keep)->step s k=some r->∀ e,e=F s keep->pwp T S b (Lh (λJ=>∃ U,k U=some r/\Jh T.qJ keep (wkE (cvE S cvs J))=I U) Q) e) (he:Jh T.qJ keep (wkE (cvE S cvs E))=F R keep:=by (conv=>lhs;cbv)<;>(try simp only[q])<;>(try rfl)) (hS:S=iK.jd P T:=by assumption) (hW:CW P:=by exact wf):S.loop b Q E:=d_lp hS hT hW cvs keep (λs=>F s keep) O h he
end
theorem iw {P:Program}{T:Tab}(hT:jg P T){k:Nat}{fn:Func}{c:Code}(O:P.funcs[k]?=some fn)
  (U:∀ args w,(callFunc k args).run P w=.ok (.enter k args) w) {args:List PV} {v:PV} {m:Nat}
  {M:EncM} (h:∀ S R,S=iK.jd P T->(∀ u,LeP u v->R u)->SF M S->pwp T S c (ahg T S fn.results.toList R) ⟨wU args (rZ m),[],0⟩) (hM:M=mapE:=by assumption) (hp:T.qJ=0:=by rfl) (hW:CW P:=by exact wf) (hb:fn.body=some c:=by rfl) (J:fn.ntmps-args.length=m:=by rfl):Fn P T.gl k args (λu=>u=v):=ahK hT hp hW O hb U J λS R hS hR=>h S R hS hR (sf hM hS)
end Go.Pv
