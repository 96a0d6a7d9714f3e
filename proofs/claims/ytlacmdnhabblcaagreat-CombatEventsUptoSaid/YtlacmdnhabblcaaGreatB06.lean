import Derived.LoopN
import Derived.OpenShut
import Derived.DataReads
import Derived.Carry
import Derived.Handed
import Derived.JoinedCond
import Derived.Test.YtlacmdnhabblcaaGreatB05
set_option linter.all false
namespace Go.Pv
open Go
def ahS (T:Tab)(S:kK)(b:Code)(Q:Post):Nat->Env->Prop
 | 0,_=>False
 | n+1,E=>pwp T S b (Uy (λE=>ahS T S b Q n E) Q) E
theorem Je {P:Program}{T:Tab}{C:Ctx T}{b:Code}{Q:Post}{nx:Env->Prop}{n:Nat}(hb:∀ E a w,nX C E a w->nx E->Code.rounds P b (lift C Q) n a w):∀ e a w,lift C (Uy nx Q) e a w->Exit.then (Code.rounds P b (lift C Q) n) (lift C Q) e a w:=by
 intro e a w h
 cases e with
 | normal=>obtain⟨E,hA,hq⟩:=h;exact hb E a w hA hq
 | ret=>obtain⟨E,hA,hq⟩:=h;exact⟨E,hA,hq⟩
 | exit n=>obtain⟨E,hA,hq⟩:=h;exact⟨E,hA,hq⟩
 | _=>exact h.elim
theorem XH {P:Program}{T:Tab}(hT:lW P T)(hW:I4 P){b:Code}{Q:Post}:∀ (n:Nat) (E:Env),ahS T (kK.lM P T) b Q n E->∀ (C:Ctx T) a w,nX C E a w->Code.rounds P b (lift C Q) n a w
 | 0,E,h,_,_,_,_=>h.elim
 | n+1,E,h,C,a,w,hA=>by
  unfold Code.rounds;exact wp_mono (Dv hT hW b _ E h C a w hA) (Je λR J w' U hq=>XH hT hW n R hq C J w' U)
def wkV:PV->PV
 | .int k n=>.si k n
 | .bool b=>.sb b
 | v=>v
def wkB:Option mJ->Option mJ
 | some (.var ro row)=>some (.var ro (IY wkV row))
 | x=>x
def wkS:St->St
 | []=>[]
 | (b,x)::l=>(b,wkB x)::wkS l
def wkE (E:Env):Env:=⟨IY wkV E.tmps,wkS E.st,E.next⟩
theorem afi (c:Nat):∀ st:St,kR (wkS st) c=wkB (kR st c)
 | []=>rfl
 | (b,x)::l=>by
  simp only[wkS,kR]
  cases Nat.beq b c with
  | true=>rfl
  | false=>exact afi c l
theorem afj {w:World}{Y:Nat->Prop}{σ:Sg}(p:PV)(v:Value)(h:Rep w Y σ p v):Rep w Y σ (wkV p) v:=by
 cases p<;>first|exact h|(unfold wkV;unfold Rep at h |-;exact h)
theorem afk {w:World}{Y:Nat->Prop}{σ:Sg}:∀ (ps:List PV) (vs:List Value),jo w Y σ ps vs->jo w Y σ (IY wkV ps) vs
 | [],vs,h=>h
 | p::ps,vs,h=>by
  unfold jo at h;obtain⟨v,U,rfl,h1,h2⟩:=h;simp only[IY];unfold jo;exact⟨v,U,rfl,afj p v h1,afk ps U h2⟩
theorem SW.YM {T:Tab}{C:Ctx T}{w:World}{Y:Nat->Prop}{σ:Sg}{ps:List PV}{vs:List Value}{st st' : St}{n:Nat}(H:SW C w Y σ ps vs st n)
  (h:∀ b,kR st' b=kR st b\/∃ ro row U,kR st b=some (.var ro row)/\kR st' b=some (.var ro U)/\U.length=row.length/\∀ cb o,lT w Y σ cb row o->lT w Y σ cb U o):SW C w Y σ ps vs st' n:=by
 have R : ∀ b x,kR st' b=some x->∃ y,kR st b=some y:=by
  intro b x hx;rcases h b with e|⟨ro,row,U,e1,e2,_⟩
  exact⟨x,by rw[<- e];exact hx⟩
  exact⟨_,e1⟩
 have ow:∀ b r c J sz g,pY st' b r c J sz g->pY st b r c J sz g:=by
  rintro b r c J sz g ⟨sz0,rows,row,h1,h2⟩
  rcases h b with e|⟨ro,row1,U,e1,e2,_⟩
  exact⟨sz0,rows,row,by rw[<- e];exact h1,h2⟩
  rw[e2] at h1;cases h1
 refine⟨H.vals,⟨?_,?_⟩,H.next,H.yK,H.y0,H.c0,H.xI,H.qh,?_,H.zi,H.fix,⟨?_,?_,?_,?_⟩⟩
 intro b x hx;rcases h b with e|⟨ro,row,U,e1,e2,e3,e4⟩
 exact H.store.blk b x (by rw[<- e];exact hx)
 rw[e2] at hx;cases hx;rcases H.store.blk b _ e1 with ⟨l,I,hB⟩|⟨_,_,_,hx⟩
 refine .inl ⟨l,I,?_⟩;unfold jH at hB |-;exact⟨hB.1,by rw[e3];exact hB.2.1,by rw[e3];exact hB.2.2.1,e4 _ _ hB.2.2.2.1,hB.2.2.2.2⟩
 cases hx
 intro b b' x x' l l' hx hx' I hl' e;obtain⟨y,hy⟩:=R b x hx;obtain⟨y',hy'⟩:=R b' x' hx';exact H.store.inj b b' y y' l l' hy hy' I hl' e
 intro b x l hx I;obtain⟨y,hy⟩:=R b x hx;exact H.own b y l hy I
 intro b r c J sz g ho;exact H.nest.rep _ _ _ _ _ _ (ow _ _ _ _ _ _ ho)
 intro b r c J sz g ho;exact H.nest.old _ _ _ _ _ _ (ow _ _ _ _ _ _ ho)
 intro b r c J sz g b' r' c' h2 sz' es' ho ho' e;exact H.nest.one _ _ _ _ _ _ _ _ _ _ _ _ (ow _ _ _ _ _ _ ho) (ow _ _ _ _ _ _ ho') e
 intro b r c J sz g b' x l ho hx I;obtain⟨y,hy⟩:=R b' x hx;exact H.nest.sep _ _ _ _ _ _ b' y l (ow _ _ _ _ _ _ ho) hy I
theorem MV {T:Tab}(E:Env):Ent T E (wkE E):=by
 intro C a w hA;obtain⟨⟨Y,σ,H⟩,U⟩:=hA;refine⟨⟨Y,σ,(H.uS (afk _ _ H.vals)).YM λb=>?_⟩,U⟩;have hk:kR (wkE E).st b=wkB (kR E.st b):=afi b E.st;rw[hk]
 cases hb:kR E.st b with
 | none=>exact .inl rfl
 | some x =>
  cases x with
  | var ro row =>
   refine .inr ⟨ro,row,IY wkV row,rfl,rfl,by rw[Gg];simp,λcb o h=>?_⟩;rw[Gg];exact lT.map afj row o h
  | _=>exact .inl rfl
theorem lT.rX {w:World}{Y:Nat->Prop}{σ:Sg}{b:Nat}{p:PV}:∀ (ps:List PV) (o t:Nat),(∀ v,Rep w Y σ (kY ps t) v->Rep w Y σ p v)->lT w Y σ b ps o->lT w Y σ b (uX ps t p) o
 | [],o,t,_,h=>by simpa [uX] using h
 | q::ps,o,0,hp,h=>by
  unfold lT at h;obtain⟨⟨v,h1,h2⟩,U⟩:=h;simp only[uX];unfold lT;exact⟨⟨v,h1,hp v h2⟩,U⟩
 | q::ps,o,t+1,hp,h=>by
  unfold lT at h;obtain⟨h1,U⟩:=h;simp only[uX];unfold lT;exact⟨h1,lT.rX ps (o+1) t hp U⟩
inductive Cv where
 | tO (t z:Nat)
 | tS (t z:Nat)
 | cO (b c z:Nat)
 | cS (b c z:Nat)
 | tR (t:Nat)
 | tF (t:Nat)
 | cF (b c:Nat)
 | cR (b c:Nat)
def cvS (z:Nat)(v:PV):PV :=
 match v with
 | .sl a es f=>(match f with
  | true=>(match es with
   | []=>.sl z [] false
   | _::_=>.sl a es f)
  | false=>.sl a es f)
 | v=>v
theorem afl {w:World}{Y:Nat->Prop}{σ:Sg}(z:Nat)(p:PV)(v:Value)(h:Rep w Y σ p v):Rep w Y σ (cvS z p) v:=by
 unfold cvS
 split
 split
 split
 unfold Rep at h |-;obtain⟨a,len,cap,e,U,T,_,_⟩:=h;exact⟨a,len,cap,e,U,T,(λh=>by cases h),.inl rfl⟩
 exact h
 exact h
 exact h
def cvO (z n:Nat)(v:PV):Option PV :=
 match v with
 | .sl _ es f=>(match f with
  | true=>(match es with
   | []=>some (.os n 0 0)
   | _::_=>none)
  | false=>none)
 | _=>none
theorem afm {w:World}{Y:Nat->Prop}{σ:Sg}{z n:Nat}{p q:PV}(e:cvO z n p=some q)(v:Value)(h:Rep w Y σ p v):Rep w Y σ q v:=by
 unfold cvO at e
 split at e
 split at e
 split at e
 cases e;unfold Rep at h |-;obtain⟨R,len,cap,e,U,T,O,_⟩:=h;have U:len=0:=by simpa using U
 have T:=O rfl;subst U;rw[e,T];exact .inr ⟨rfl,R,rfl⟩
 cases e
 cases e
 cases e
def cv1 (S:kK):Cv->Env->Env
 | .tO t z,E=>(match cvO z E.next (kY E.tmps t) with
  | some v=>⟨uX E.tmps t v,rW E.st E.next (some (.arr false z [])),E.next+1⟩
  | none=>E)
 | .tS t z,E=>⟨uX E.tmps t (cvS z (kY E.tmps t)),E.st,E.next⟩
 | .cO b c z,E=>(match kR E.st b with
  | some (.var ro row)=>(match cvO z E.next (kY row c) with
   | some v=>⟨E.tmps,rW (rW E.st b (some (.var ro (uX row c v)))) E.next (some (.arr false z [])),E.next+1⟩
   | none=>E)
  | _=>E)
 | .cS b c z,E=>(match kR E.st b with
  | some (.var ro row)=>⟨E.tmps,rW E.st b (some (.var ro (uX row c (cvS z (kY row c))))),E.next⟩
  | _=>E)
 | .tR t,E=>(match kY E.tmps t with
  | .os b r m=>(match kR E.st b with
   | some (.arr false sz rows)=>⟨uX E.tmps t (.os E.next 0 m),rW (rW E.st b none) E.next (some (.arr false sz (S.sub rows r m))),E.next+1⟩
   | _=>E)
  | _=>E)
 | .tF t,E=>(match kY E.tmps t with
  | .os b r m=>(match kR E.st b with
   | some (.arr _ sz rows)=>⟨uX E.tmps t (.sl sz (S.sub rows r m) false),rW E.st b (some (.arr true sz rows)),E.next⟩
   | _=>E)
  | _=>E)
 | .cF b c,E=>(match kR E.st b with
  | some (.var ro row)=>(match kY row c with
   | .os b' r m=>(match kR E.st b' with
    | some (.arr _ sz rows)=>⟨E.tmps,rW (rW E.st b' (some (.arr true sz rows))) b (some (.var ro (uX row c (.sl sz (S.sub rows r m) false)))),E.next⟩
    | _=>E)
   | _=>E)
  | _=>E)
 | .cR b c,E=>(match kR E.st b with
  | some (.var false row)=>(match kY row c with
   | .os b' r m=>(match kR E.st b' with
    | some (.arr false sz rows)=>⟨E.tmps,rW (rW (rW E.st b' none) E.next (some (.arr false sz (S.sub rows r m)))) b (some (.var false (uX row c (.os E.next 0 m)))),E.next+1⟩
    | _=>E)
   | _=>E)
  | _=>E)
def cvE (S:kK):List Cv->Env->Env
 | [],E=>E
 | c::l,E=>cvE S l (cv1 S c E)
theorem ahT {P:Program}{T T' : Tab}{C:Ctx T}{w:World}{Y:Nat->Prop}{σ:Sg}{vs:List Value}(c:Cv)(E:Env)(H:SW C w Y σ E.tmps vs E.st E.next):∃ Y' σ',SW C w Y' σ' (cv1 (kK.lM P T') c E).tmps vs (cv1 (kK.lM P T') c E).st (cv1 (kK.lM P T') c E).next/\Keep w w Y Y' σ σ':=by
 have U:Keep w w Y Y σ σ:=Keep.same (qI.refl _)
 have H1:∀ z,SW C w Y σ E.tmps vs (rW E.st E.next (some (.arr false z []))) (E.next+1):=by
  intro z;have H1:=H.empty (id:=E.next) ⟨H.next _ (Nat.le_refl _),H.fix.1⟩ z;have hm:max E.next (E.next+1)=E.next+1:=by omega
  rw[hm] at H1;exact H1
 cases c with
 | tO t z =>
  simp only[cv1]
  split
  rename_i v he;exact⟨Y,σ,(H1 z).uS (jo.rX _ _ _ H.vals (afm he _ (H.vals.get _ _ t))),U⟩
  exact⟨Y,σ,H,U⟩
 | tS t z=>exact⟨Y,σ,H.uS (jo.rX _ _ _ H.vals (afl z _ _ (H.vals.get _ _ t))),U⟩
 | cO b c z =>
  simp only[cv1]
  split
  rename_i ro row hb
  split
  rename_i v he;refine⟨Y,σ,(H1 z).YM λR=>?_,U⟩
  have hne:¬ E.next=b:=by
   intro e;rcases H.store.blk b _ hb with ⟨l,g,_⟩|⟨_,_,_,hx⟩
   rw[H.next b ai] at g;cases g
   cases hx
  simp only[kC]
  by_cases h1:E.next=R
  exact .inl (by simp[h1])
  by_cases h2:b=R
  subst h2;exact .inr ⟨ro,row,uX row c v,by simp[h1,hb],by simp[h1],by simp[um],λcb o h=>lT.rX _ _ _ (λv=>afm he v) h⟩
  exact .inl (by simp[h1,h2])
  exact⟨Y,σ,H,U⟩
  exact⟨Y,σ,H,U⟩
 | cS b c z =>
  simp only[cv1]
  split
  rename_i ro row hb;refine⟨Y,σ,H.YM λR=>?_,U⟩;simp only[kC]
  by_cases h2:b=R
  subst h2;exact .inr ⟨ro,row,uX row c (cvS z (kY row c)),hb,by simp,by simp[um],λcb o h=>lT.rX _ _ _ (λv=>afl z _ v) h⟩
  exact .inl (by simp[h2])
  exact⟨Y,σ,H,U⟩
 | tR t =>
  simp only[cv1];have hg:=H.vals.get _ _ t
  split
  rename_i b r m hp;rw[hp] at hg
  split
  rename_i sz rows hb;obtain⟨σ',H1,h1,k1⟩:=H.adR hb hg;exact⟨Y,σ',H1.uS (jo.rX _ _ _ H1.vals h1),Keep.same k1⟩
  exact⟨Y,σ,H,U⟩
  exact⟨Y,σ,H,U⟩
 | tF t =>
  simp only[cv1]
  split
  rename_i b r m hp
  split
  rename_i ro sz rows hb;obtain⟨Y',H1,hfr,hY⟩:=H.freeze hb (.inr ⟨ro,sz,rows,rfl,rfl⟩);refine⟨Y',σ,H1.uS (jo.rX _ _ _ H1.vals ?_),⟨λ_ _ _=>rfl,λk _=>hY k,Nat.le_refl _,qI.refl _⟩⟩;have hg:=H1.vals.get _ _ t;rw[hp] at hg;have hb' : kR (rW E.st b (some (.arr true sz rows))) b=some (.arr true sz rows):=by rw[kC,if_pos rfl]
  obtain⟨x,cap,ev,hn,g,hr⟩:=MM hg (H1.store.blk b _ hb');show Rep w Y' σ (.sl sz ((rows.drop r).take m) false) _;unfold Rep;refine⟨x,m,cap,ev,g,hn,(λh=>by cases h),hr.imp id λ⟨R,o,e,hlt,⟨l,I,e2⟩,hR⟩=>⟨R,o,e,⟨hlt,by rw[e2];exact hfr l I⟩,hR⟩⟩
  exact⟨Y,σ,H,U⟩
  exact⟨Y,σ,H,U⟩
 | cF b c =>
  simp only[cv1]
  split
  rename_i ro row J
  split
  rename_i R r m hp
  split
  rename_i ro' sz rows hb;obtain⟨Y',H1,hfr,hY⟩:=H.freeze hb (.inr ⟨ro',sz,rows,rfl,rfl⟩);refine⟨Y',σ,H1.YM λd=>?_,⟨λ_ _ _=>rfl,λk _=>hY k,Nat.le_refl _,qI.refl _⟩⟩;have hne:¬ R=b:=by intro e;rw[e,J] at hb;cases hb
  rw[kC]
  by_cases h2:b=d
  subst h2;refine .inr ⟨ro,row,uX row c (.sl sz ((kK.lM P T').sub rows r m) false),by rw[kC,if_neg hne];exact J,by rw[if_pos rfl],by simp[um],λcb o h=>lT.rX _ _ _ (λv hv=>?_) h⟩;rw[hp] at hv;have hb' : kR (rW E.st R (some (.arr true sz rows))) R=some (.arr true sz rows):=by rw[kC,if_pos rfl]
  obtain⟨x,cap,ev,hn,g,hr⟩:=MM hv (H1.store.blk R _ hb');show Rep w Y' σ (.sl sz ((rows.drop r).take m) false) _;unfold Rep;refine⟨x,m,cap,ev,g,hn,(λh=>by cases h),hr.imp id λ⟨b2,o,e,hlt,⟨l,I,e2⟩,hR⟩=>⟨b2,o,e,⟨hlt,by rw[e2];exact hfr l I⟩,hR⟩⟩
  exact .inl (by rw[if_neg h2])
  exact⟨Y,σ,H,U⟩
  exact⟨Y,σ,H,U⟩
  exact⟨Y,σ,H,U⟩
 | cR b c =>
  simp only[cv1]
  split
  rename_i row J
  split
  rename_i R r m hp
  split
  rename_i sz rows hb
  obtain⟨l,g,hB⟩:∃ l,σ b=some l/\jH w Y σ l (.var false row):=by
   rcases H.store.blk b _ J with h|⟨_,_,_,h⟩
   exact h
   cases h
  have hB0:=hB;unfold jH at hB;obtain⟨hat,hsz,htot,hrow,hY,hY'⟩:=hB
  have hc:c<row.length:=by
   by_cases hh:c<row.length
   exact hh
   rw[xh (Nat.le_of_not_lt hh)] at hp;cases hp
  obtain⟨v,hv1,hv2⟩:=lT.get row _ c hrow hc;rw[hp] at hv2;obtain⟨σ',H1,h1,k1⟩:=H.adR hb hv2;have hne:¬ R=b:=by intro e;rw[e,J] at hb;cases hb
  have hnx:¬ E.next=b:=by
   intro e;rw[H.next b ai] at g;cases g
  have hbv1:kR (rW (rW E.st R none) E.next (some (.arr false sz ((rows.drop r).take m)))) b=some (.var false row):=by
   rw[kC,if_neg hnx,kC,if_neg hne];exact J
  refine⟨Y,σ',H1.update hbv1 (k1 _ _ g) (hY rfl) rfl rfl rfl rfl (λ_ _=>rfl) (λ_ _ h=>by cases h) (λ_=>?_),Keep.same k1⟩
  obtain⟨l2,I,hB2⟩:∃ l,σ' b=some l/\jH w Y σ' l (.var false row):=by
   rcases H1.store.blk b _ hbv1 with h|⟨_,_,_,h⟩
   exact h
   cases h
  rw[k1 _ _ g] at I;cases I;unfold jH at hB2 |-;obtain⟨g1,g2,g3,g4,g5,g6⟩:=hB2;refine⟨g1,by rw[g2];simp[um],by simpa [um] using g3,?_,g5,g6⟩;rw[lT.iff] at g4 |-;intro i p hi;rw[um] at hi
  by_cases hic:i=c
  subst hic;rw[List.getElem?_set_self hc] at hi;cases hi;exact⟨v,hv1,h1⟩
  rw[List.getElem?_set_ne ai] at hi;exact g4 i p hi
  exact⟨Y,σ,H,U⟩
  exact⟨Y,σ,H,U⟩
  exact⟨Y,σ,H,U⟩
theorem ahU {P:Program}{T T' : Tab}{C:Ctx T}{w:World}{vs:List Value}:∀ (l:List Cv) (E:Env) {Y:Nat->Prop} {σ:Sg},SW C w Y σ E.tmps vs E.st E.next->∃ Y' σ',SW C w Y' σ' (cvE (kK.lM P T') l E).tmps vs (cvE (kK.lM P T') l E).st (cvE (kK.lM P T') l E).next/\Keep w w Y Y' σ σ'
 | [],E,Y,σ,H=>⟨Y,σ,H,Keep.same (qI.refl _)⟩
 | c::l,E,Y,σ,H=>by
  obtain⟨g,I,H1,k1⟩:=ahT (P:=P) (T':=T') c E H;obtain⟨U,J,R,k2⟩:=ahU (P:=P) (T':=T') l _ H1;exact⟨U,J,R,k1.adS k2⟩
theorem akt {P:Program}{T T' : Tab}(c:Cv)(E:Env):Ent T E (cv1 (kK.lM P T') c E):=by
 intro C a w hA;obtain⟨⟨Y,σ,H⟩,U⟩:=hA;obtain⟨Y',σ',R,_⟩:=ahT (P:=P) (T':=T') c E H;exact⟨⟨Y',σ',R⟩,U⟩
theorem Gh {P:Program}{T T' : Tab}:∀ (l:List Cv) (E:Env),Ent T E (cvE (kK.lM P T') l E)
 | [],E=>Ent.refl E
 | c::l,E=>λC a w h=>Gh l _ C a w (akt c E C a w h)
def aku:Nat->Nat->List (Nat×PV)->List PV
 | _,0,_=>[]
 | i,n+1,[]=>.top::aku (i+1) n []
 | i,n+1,(k,v)::l=>bif Nat.beq k i then v::aku (i+1) n l else .top::aku (i+1) n ((k,v)::l)
theorem Ent.trans {T:Tab}{E F G:Env}(h:Ent T E F)(k:Ent T F G):Ent T E G:=λC a w x=>k C a w (h C a w x)
section
variable {P:Program}{T:Tab}(hT:lW P T)(hW:I4 P){S:kK}(hS:S=kK.lM P T)
include hT hW hS
theorem ahV (n:Nat){b:Code}{Q:Post}{E:Env}(h:ahS T S b Q n E):S.loop b Q E:=by
 subst hS;intro C a w hA;exact wp_loop_rounds n (XH hT hW n E h C a w hA)
end
end Go.Pv
namespace Go.Pv
open Go
mutual
inductive Shp (P:Program):TypeId->List PV->Prop
 | int {t:TypeId} {k:IntKind} {n:Int}:P.underlying t=some (.int k)->(Lit.int k n).wf=true->Shp P t [.si k n]
 | bool {t:TypeId} {b:Bool}:P.underlying t=some .bool->Shp P t [.sb b]
 | str {t:TypeId} {s:ByteArray}:P.underlying t=some .string->s.size<=maxLen->Shp P t [.str s]
 | yJ {t e:TypeId}:P.underlying t=some (.pointer e)->Shp P t [.yJ]
 | pp {t e:TypeId} {cs:List PV}:P.underlying t=some (.pointer e)->Shp P e cs->Shp P t [.pp cs]
 | sl {t e:TypeId} {es:List (List PV)}:P.underlying t=some (.slice e)->(∀ r∈es,Shp P e r)->es.length<=maxLen->Shp P t [.sl (P.cellsOf e) es false]
 | struct {t:TypeId} {fs:Array Field} {cs:List PV}:P.underlying t=some (.struct fs)->OJ P (fs.toList.map (·.type)) cs->Shp P t cs
 | arr {t e:TypeId} {n:Nat} {cs:List PV}:P.underlying t=some (.array n e)->OJ P (List.replicate n e) cs->Shp P t cs
inductive OJ (P:Program):List TypeId->List PV->Prop
 | nil:OJ P [] []
 | cons {t:TypeId} {ts:List TypeId} {a b:List PV}:Shp P t a->OJ P ts b->OJ P (t::ts) (a++b)
end
def XI (P:Program)(ts:List TypeId):List Field->Nat->Option Nat
 | [],n=>some n
 | f::fs,n=>bif Nat.beq f.offset n&&ts.contains f.type then XI P ts fs (n+P.cellsOf f.type) else none
def akv (P:Program)(ts:List TypeId)(t:TypeId):Bool :=
 match P.underlying t with
 | some .bool|some (.int _)|some .string=>Nat.beq (P.cellsOf t) 1
 | some (.pointer e)=>Nat.beq (P.cellsOf t) 1&&Nat.blt 0 (P.cellsOf e)&&ts.contains e
 | some (.slice e)=>Nat.beq (P.cellsOf t) 1&&Nat.blt 0 (P.cellsOf e)&&ts.contains e
 | some (.struct fs)=>match XI P ts fs.toList 0 with|some n=>Nat.beq n (P.cellsOf t)|none=>false
 | some (.array n e)=>Nat.beq (P.cellsOf t) (n*P.cellsOf e)&&ts.contains e
 | _=>false
def layAll (P:Program)(ts:List TypeId):List TypeId->Bool
 | []=>true
 | t::l=>akv P ts t&&layAll P ts l
theorem OL {P:Program}{ts:List TypeId}:∀ (l:List TypeId),layAll P ts l=true->∀ t∈l,akv P ts t=true
 | [],_,t,h=>by simp at h
 | u::l,h,t,ht=>by
  simp only[layAll,Bool.and_eq_true] at h;rcases List.mem_cons.1 ht with rfl|ht
  exact h.1
  exact OL l h.2 t ht
section
variable {H:Type}{enc:TypeId×Value->H}{P:Program}{w:World}{base:Nat}{sp:Nat->Bool}{held:Bool}
def NoY:Nat->Prop:=λ_=>False
theorem OM:∀ (a b:List PV),jR a=true->jR b=true->jR (a++b)=true
 | [],b,_,h=>by simpa using h
 | x::a,b,h,k=>by
  simp only[jR,Bool.and_eq_true,List.cons_append] at h |-;exact⟨h.1,OM a b h.2 k⟩
mutual
theorem Shp.cells {t:TypeId}{cs:List PV}:Shp P t cs->jR cs=true
 | .int _ _=>rfl
 | .bool _=>rfl
 | .str _ _=>rfl
 | .yJ _=>rfl
 | .pp _ _=>rfl
 | .sl _ _ _=>rfl
 | .struct _ h=>OJ.cells h
 | .arr _ h=>OJ.cells h
theorem OJ.cells {ts:List TypeId}{cs:List PV}:OJ P ts cs->jR cs=true
 | .nil=>rfl
 | .cons h k=>OM _ _ (Shp.cells h) (OJ.cells k)
end
theorem jo.append {Y:Nat->Prop}{σ:Sg}{a b:List PV}{vs us:List Value}(h:jo w Y σ a vs)(k:jo w Y σ b us):jo w Y σ (a++b) (vs++us):=by
 have:=jo.app a b vs us h k
 rwa [Qh] at this
theorem aaN {a:Addr}{v:Value}(h:w.cell? a=some v):a.spot=none:=by
 unfold World.cell? at h
 split at h
 split at h
 cases h
 rename_i hs
 cases hh:a.spot with
 | none=>rfl
 | some s=>rw[hh] at hs;simp at hs
 cases h
theorem Tf {b:Nat}{o:Nat}{n:Nat}{vs:List Value}{ps:List PV}(R:w.cells? base ⟨b,o,none⟩ n=some vs)(hr:jo w NoY kX ps vs):lT w NoY kX b ps o:=by
 obtain⟨_,U,T⟩:=World.cells?_some R;refine lT.Sm _ _ _ hr λi v hv=>?_
 have hi:i<n:=by
  rw[<- U]
  by_cases h:i<vs.length
  exact h
  rw[List.getElem?_eq_none (Nat.le_of_not_lt h)] at hv;cases hv
 have:=T i hi;rw[hv] at this;unfold Addr.add at this
 by_cases h0:i=0
 subst h0;simpa using this
 rw[if_neg h0] at this;exact this
theorem agb {a:Addr}(h:a.spot=none)(n:Nat):a.add n=⟨a.block,a.off+n,none⟩:=by
 unfold Addr.add
 by_cases h0:n=0
 subst h0;simp;cases a;simp at h;simp[h]
 rw[if_neg h0]
theorem XJ {a:Addr}{n:Nat}{vs:List Value}(R:0<n)(h:w.cells? base a n=some vs):a.spot=none/\a.block<w.heap.size:=by
 obtain⟨_,J,T⟩:=World.cells?_some h;have h0:=T 0 R;have:vs[0]?=some vs[0]:=List.getElem?_eq_getElem ai;rw[this] at h0;have U:a.add 0=a:=by simp[Addr.add]
 rw[U] at h0;refine⟨aaN h0,?_⟩;unfold World.cell? at h0
 by_cases hb:a.block<w.heap.size
 exact hb
 simp[Array.getElem?_eq_none (Nat.le_of_not_lt hb)] at h0
inductive acm (P:Program) (t:TypeId):PV->Prop
 | one {p:PV}:Shp P t [p]->nz P t=false->acm P t p
 | agg {cs:List PV}:Shp P t cs->nz P t=true->acm P t (.agg cs)
end
end Go.Pv
namespace Go.Pv
open Go
inductive VK (P:Program):List TypeId->List PV->Prop
 | nil:VK P [] []
 | cons {t:TypeId} {ts:List TypeId} {p:PV} {ps:List PV}:acm P t p->VK P ts ps->VK P (t::ts) (p::ps)
section
variable {H:Type}{enc:TypeId×Value->H}{P:Program}{w:World}{base:Nat}{sp:Nat->Bool}{held:Bool}
theorem ZN {W R : World}(T:laidOutB P=true)(hb:RowKit.Below W.heap.size W R):∀ (params:List TypeId) (vs:List Value) (U:List (DataW H)) (pl:List MemPlace),(∀ t∈params,P.readableRec t=true/\t<P.types.size) ->
  (∀ x∈pl,x.block<W.heap.size)->DataW.TrodAll enc P W 0 (λ_=>true) true params vs U pl->DataW.TrodAll enc P R 0 (λb=>decide (b<W.heap.size)) true params vs U pl
 | [],[],[],_,_,_,h=>h
 | t::params,v::vs,d::U,pl,hm,hlt,h=>by
  obtain⟨p,q,h1,h2,e⟩:=h;subst e;exact⟨p,q,RowKit.Below.trod T (hm t aI).1 (hm t aI).2 h1 hb (λx hx=>hlt x (by simp[hx])),ZN T hb params vs U q (λt ht=>hm t (by simp[ht])) (λx hx=>hlt x (by simp[hx])) h2,rfl⟩
 | [],_::_,_,_,_,_,h=>h.elim
 | [],[],_::_,_,_,_,h=>h.elim
 | _::_,[],_,_,_,_,h=>h.elim
 | _::_,_::_,[],_,_,_,h=>h.elim
def aoe (P:Program)(ts params:List TypeId):Bool:=laidOutB P&&layAll P ts ts&&params.all λt=>ts.contains t&&P.readableRec t&&Nat.blt t P.types.size
end
section
variable {P:Program}{t e:TypeId}{cs:List PV}{p:PV}
theorem Shp.aaO {k:IntKind}(hu:P.underlying t=some (.int k))(h:Shp P t cs):∃ n,cs=[.si k n]/\(Lit.int k n).wf=true:=by
 cases h with
 | int h1 h2=>rw[hu] at h1;cases h1;exact⟨_,rfl,h2⟩
 | _=>simp_all
theorem Shp.acn (hu:P.underlying t=some .bool)(h:Shp P t cs):∃ b,cs=[.sb b]:=by
 cases h with
 | bool h1=>exact⟨_,rfl⟩
 | _=>simp_all
theorem Shp.afn (hu:P.underlying t=some .string)(h:Shp P t cs):∃ s,cs=[.str s]/\s.size<=maxLen:=by
 cases h with
 | str h1 h2=>exact⟨_,rfl,h2⟩
 | _=>simp_all
theorem Shp.qB (hu:P.underlying t=some (.slice e))(h:Shp P t cs):∃ U,cs=[.sl (P.cellsOf e) U false]/\(∀ r∈U,Shp P e r)/\U.length<=maxLen:=by
 cases h with
 | sl h1 h2 T=>rw[hu] at h1;cases h1;exact⟨_,rfl,h2,T⟩
 | _=>simp_all
theorem Shp.l7 {U:Array Field}(hu:P.underlying t=some (.struct U))(h:Shp P t cs):OJ P (U.toList.map (·.type)) cs:=by
 cases h with
 | struct h1 h2=>rw[hu] at h1;cases h1;exact h2
 | _=>simp_all
theorem Shp.Wv {n:Nat}(hu:P.underlying t=some (.array n e))(h:Shp P t cs):OJ P (List.replicate n e) cs:=by
 cases h with
 | arr h1 h2=>rw[hu] at h1;cases h1;exact h2
 | _=>simp_all
theorem OJ.ql {ts:List TypeId}(h:OJ P (t::ts) cs):∃ a b,cs=a++b/\Shp P t a/\OJ P ts b:=by
 cases h with
 | cons h1 h2=>exact⟨_,_,rfl,h1,h2⟩
theorem OJ.mO (h:OJ P [] cs):cs=[]:=by cases h;rfl
theorem acm.Wx (U:nz P t=true)(h:acm P t p):∃ cs,p=.agg cs/\Shp P t cs:=by
 cases h with
 | one h1 h2=>rw[U] at h2;cases h2
 | agg h1 h2=>exact⟨_,rfl,h1⟩
theorem acm.inv_one (U:nz P t=false)(h:acm P t p):Shp P t [p]:=by
 cases h with
 | one h1 h2=>exact h1
 | agg h1 h2=>rw[U] at h2;cases h2
theorem VK.ql {ts:List TypeId}{ps:List PV}(h:VK P (t::ts) ps):∃ a b,ps=a::b/\acm P t a/\VK P ts b:=by
 cases h with
 | cons h1 h2=>exact⟨_,_,rfl,h1,h2⟩
theorem VK.mO {ps:List PV}(h:VK P [] ps):ps=[]:=by cases h;rfl
end
end Go.Pv
namespace Go.Pv
open Go
section
variable {α β σ ρ:Type}
def br (c:Bool)(a b:Option ρ):Option ρ:=match c with|true=>a|false=>b
def bnd (o:Option α)(k:α->Option ρ):Option ρ:=match o with|none=>none|some x=>k x
def lt (x:α)(k:α->Option ρ):Option ρ:=k x
def jn (rest:σ->Option ρ)(body:(σ->Option ρ)->Option ρ):Option ρ:=body rest
def KG (step:σ->(σ->Option ρ)->Option ρ):Nat->σ->Option ρ
 | 0,_=>none
 | n+1,s=>step s (KG step n)
def fuel:Nat:=18446744073709551616
def jw (step:σ->(σ->Option ρ)->Option ρ)(s:σ):Option ρ:=KG step fuel s
def Hz (n:Nat):Int->Option Nat
 | .ofNat j=>bif Nat.blt j n then some j else none
 | .negSucc _=>none
def kJ (l:List α):Int->Option α
 | .ofNat j=>l[j]?
 | .negSucc _=>none
def iV (l:List α):Int:=(l.length:Int)
def adt (l:List α)(r:Nat)(new:List α):List α:=l.take r++new++l.drop (r+new.length)
def zo (l:List α)(r n:Nat):List α:=(l.drop r).take n
def jq (a b:Int):Int:=kz .add .i64 a b
def jS (a b:Int):Int:=kz .sub .i64 a b
def zu (a b:Int):Int:=kz .mul .i64 a b
def jW (n bytes:Nat)(k:Option ρ):Option ρ:=bif Nat.ble ((2*n+192)*bytes) 140737488355328&&Nat.ble n 4611686018427387904 then k else none
def divO (op:BinOp)(k:IntKind)(a b:Int):Option Int:=bif decide (b=0) then none else some (match op with|.quo=>k.wrap (a.tdiv b)|_=>a.tmod b)
def adV (op:BinOp)(k:IntKind)(a y:Int):Option Int:=bif decide (0<=y) then some (match op with|.shl=>k.wrap (a*2 ^ (min y.toNat k.bits))|_=>a.fdiv (2 ^ (min y.toNat k.bits))) else none
def uY (a b:ByteArray):Option ByteArray:=bif Nat.ble (a.size+b.size) 4611686018427387904 then some (a++b) else none
def Rn (s:ByteArray):Int->Option Int
 | .ofNat j=>match s[j]? with|some c=>some (c.toNat:Int)|none=>none
 | .negSucc _=>none
def XK (n m:Int)(bytes:Nat):Option Nat:=bif decide (0<=n/\n<=m/\(bytes:Int)*m<=140737488355328/\m<=9223372036854775807) then some n.toNat else none
structure aof (n:Nat)(x:Nat×Nat):Prop where
 le:x.1<=x.2
 lt:x.2<=n
def UO (len:Nat)(a b:Int):Option (Nat×Nat):=bif decide (0<=a/\a<=b/\b<=(len:Int)) then some (a.toNat,b.toNat) else none
def agc (s:ByteArray)(a b:Int):Option ByteArray:=bif decide (0<=a/\a<=b/\b<=(s.size:Int)) then some (s.extract a.toNat b.toNat) else none
def bs (l:List UInt8):ByteArray:=⟨l.toArray⟩
def sel (i:Int)(n:Nat)(k:Nat->Option ρ):Option ρ:=match i with|.ofNat j=>(bif Nat.blt j n then k j else none)|.negSucc _=>none
def adW (l:List Int):Option ByteArray:=bif l.all (λn=>decide (0<=n/\n<256)) then some ⟨(l.map λn=>UInt8.ofNat n.toNat).toArray⟩ else none
end
structure Arr2 (α:Type) where
 a0:α
 a1:α
structure UQ (α:Type) where
 a0:α
 a1:α
 a2:α
structure aco (α:Type) where
 a0:α
 a1:α
 a2:α
 a3:α
 a4:α
structure rQ (α:Type) where
 a0:α
 a1:α
 a2:α
 a3:α
 a4:α
 a5:α
def amk:Arr2 Int:=⟨0,0⟩
def UR:UQ Int:=⟨0,0,0⟩
def ahW:aco Int:=⟨0,0,0,0,0⟩
def Bd:rQ Int:=⟨0,0,0,0,0,0⟩
structure kM where
 m:(α:Type)->(α->List PV)->List α->List (List PV)
 n:(α:Type)->List α->Nat
 h:(Nat->Hdr)->(α:Type)->(Hdr->α->List PV)->List α->List (List PV)
 up:(Nat->Hdr)->Nat->Hdr->Nat->Hdr
def JO {α:Type}(H:Nat->Hdr)(e:Hdr->α->List PV)(l:List α):List (List PV):=l.mapIdx λi x=>e (H i) x
def upH (H:Nat->Hdr)(j:Nat)(h:Hdr):Nat->Hdr:=λi=>bif Nat.beq i j then h else H i
def jT:kM:=⟨λ_ e l=>l.map e,λ_ l=>l.length,λH _ e l=>JO H e l,upH⟩
def eI (k:IntKind)(x:Int):List PV:=[.si k x]
def eB (x:Bool):List PV:=[.sb x]
def eS (x:ByteArray):List PV:=[.str x]
def eL {α:Type}(M:kM)(sz:Nat)(e:α->List PV)(x:List α):List PV:=[.sl sz (M.m α e x) false]
def aog {α:Type}(e:α->List PV)(x:UQ α):List PV:=e x.a0++(e x.a1++e x.a2)
def aoh {α:Type}(e:α->List PV)(x:aco α):List PV:=e x.a0++(e x.a1++(e x.a2++(e x.a3++e x.a4)))
def aoi {α:Type}(e:α->List PV)(x:rQ α):List PV:=e x.a0++(e x.a1++(e x.a2++(e x.a3++(e x.a4++e x.a5))))
def eO {α:Type}(M:kM)(sz:Nat)(e:α->List PV)(h:Hdr)(x:List α):List PV:=[.ow h sz (M.m α e x)]
section
variable {P:Program}{T:Tab}{S:kK}{M:kM}(hS:S=kK.lM P T)
theorem sf (hM:M=jT)(hS:S=kK.lM P T) :
  S.bin=kz/\S.cmp=zZ/\(∀ k n,S.conv k n=k.wrap n)/\(∀ k n,S.neg k n=k.wrap (0-n))/\(∀ a b,S.beq a b=(a==b))/\(∀ a b,S.band a b=(a&&b))/\S.ajJ=lg /\
  (∀ s,S.slen s=(s.size:Int))/\(∀ n:Nat,S.Kv n=(n:Int))/\(∀ a b:Nat,S.MB a b=a+b)/\(∀ a b:Nat,S.abD a b=a-b)/\(∀ n:Nat,0+n=n)/\(∀ a,S.app [] a=a) /\
  (∀ (α:Type) (e:α->List PV) (l:List α),S.len (M.m α e l)=iV l)/\(∀ (α:Type) (e:α->List PV) (l:List α),S.jD (M.m α e l)=l.length)/\(∀ (α:Type) (l:List α),M.n α l=l.length) /\
  (∀ rows n,S.jD rows=n->S.sub rows 0 n=rows)/\S.len []=0/\(∀ (α:Type) (l:List α),iV l=(l.length:Int)) /\
  S.Dn=(λa b=>if b<a then b else a)/\S.alI=(λa b=>if a<b then b else a) /\
  (∀ a b,S.jD (S.app a b)=S.jD a+S.jD b)/\(∀ a j r,S.jD (S.JF a j r)=S.jD a)/\(∀ n r,S.jD (S.rep n r)=n)/\S.jD []=0/\(∀ r rows,S.jD (r::rows)=S.jD rows+1) /\
  (∀ (α:Type) (e:α->List PV),M.m α e []=[])/\(∀ (α:Type) (e:α->List PV) (x:α) (l:List α),M.m α e (x::l)=e x::M.m α e l) /\
  (∀ (α:Type) (e:α->List PV) (a b:List α),M.m α e (a++b)=S.app (M.m α e a) (M.m α e b)) /\
  (∀ (α:Type) (e:α->List PV) (l:List α) (r n:Nat),M.m α e (zo l r n)=S.sub (M.m α e l) r n) /\
  (∀ (α:Type) (e:α->List PV) (l:List α) (r:Nat) (new:List α),M.m α e (adt l r new)=S.spl (M.m α e l) r (M.m α e new)) /\
  (∀ (α:Type) (e:α->List PV) (l:List α) (j:Nat) (x:α),M.m α e (l.set j x)=S.JF (M.m α e l) j (e x)) /\
  (∀ (α:Type) (e:α->List PV) (n:Nat) (x:α),M.m α e (List.replicate n x)=S.rep n (e x)) /\
  (∀ (α:Type) (a b:List α),(a++b).length=a.length+b.length)/\(∀ (α:Type) (l:List α) (j:Nat) (x:α),(l.set j x).length=l.length) /\
  (∀ (α:Type) (n:Nat) (x:α),(List.replicate n x).length=n)/\(∀ (α:Type) (x:α) (l:List α),(x::l).length=l.length+1)/\(∀ (α:Type),([]:List α).length=0) /\
  (∀ (α:Type) (e:α->List PV) (l:List α) (r n:Nat),S.len (S.sub (M.m α e l) r n)=((zo l r n).length:Int))/\(∀ (α:Type) (e:α->List PV) (l:List α) (r n:Nat),S.jD (S.sub (M.m α e l) r n)=(zo l r n).length):=by
 subst hS hM;refine⟨rfl,rfl,?_⟩
 have h:∀ (α:Type) (e:α->List PV) (l:List α),List.take l.length (List.map e l)=List.map e l:=by
  intro α e l;rw[List.take_of_length_le aI]
 have h2:∀ (rows:List (List PV)) (n:Nat),rows.length=n->(rows.drop 0).take n=rows:=by
  intro rows n e;subst e;simp
 refine⟨λ_ _=>rfl,λ_ _=>rfl,λ_ _=>rfl,λ_ _=>rfl,rfl,λ_=>rfl,λ_=>rfl,λ_ _=>rfl,λ_ _=>rfl,λn=>Nat.zero_add n,λ_=>rfl,?_,?_,?_,h2,rfl,λ_ _=>rfl,rfl,?_,?_⟩
 simp[kK.lM,jT,iV]
 simp[kK.lM,jT]
 simp[jT]
 rfl
 simp[kK.lM,jT,zo,adt,List.map_take,List.map_drop,List.map_set]
theorem sfh1 (hM:M=jT)(hS:S=kK.lM P T) :
  (∀ (H:Nat->Hdr) (α:Type) (e:Hdr->α->List PV) (l:List α) (j:Nat) (h:Hdr) (x:α),M.h (M.up H j h) α e (l.set j x)=S.JF (M.h H α e l) j (e h x)) /\
  (∀ (α:Type) (e:Hdr->α->List PV) (h:Hdr) (n:Nat) (x:α),M.h (λ_=>h) α e (List.replicate n x)=S.rep n (e h x)) /\
  (∀ (H:Nat->Hdr) (α:Type) (e:Hdr->α->List PV) (l:List α) (h:Hdr) (x:α),M.h (M.up H l.length h) α e (l++[x])=S.app (M.h H α e l) [e h x]):=by
 subst hS hM;refine⟨λH α e l j h x=>?_,λα e h n x=>?_,λH α e l h x=>?_⟩
 show JO (upH H j h) e _=(JO H e l).set j _;unfold JO;apply List.ext_getElem?;intro i;simp only[List.getElem?_mapIdx,List.getElem?_set,List.length_mapIdx]
 by_cases U:j=i
 subst U
 by_cases R:j<l.length<;>simp[R,upH]
 have:Nat.beq i j=false:=by cases hb:Nat.beq i j with|false=>rfl|true=>exact absurd (Nat.eq_of_beq_eq_true hb).symm U
 simp[U,upH,this]
 show JO _ e _=List.replicate n _;unfold JO;apply List.ext_getElem?;intro i;simp only[List.getElem?_mapIdx,List.getElem?_replicate]
 by_cases hi:i<n<;>simp[hi]
 show JO (upH H l.length h) e (l++[x])=JO H e l++[e h x];unfold JO;rw[List.mapIdx_append]
 congr 1
 apply List.ext_getElem?;intro i;simp only[List.getElem?_mapIdx]
 by_cases hi:i<l.length
 have:Nat.beq i l.length=false:=by cases hb:Nat.beq i l.length with|false=>rfl|true=>exact absurd (Nat.eq_of_beq_eq_true hb) ai
 simp[upH,this]
 simp[List.getElem?_eq_none (Nat.le_of_not_lt hi)]
 simp[upH]
theorem sfh2 (hM:M=jT)(hS:S=kK.lM P T) :
  (∀ (H:Nat->Hdr) (α:Type) (e:Hdr->α->List PV) (l:List α) (j:Nat) (x:α),M.h H α e (l.set j x)=S.JF (M.h H α e l) j (e (H j) x)) /\
  (∀ (H:Nat->Hdr) (α:Type) (e:Hdr->α->List PV) (l:List α),S.jD (M.h H α e l)=l.length) /\
  (∀ (H:Nat->Hdr) (α:Type) (e:Hdr->α->List PV) (l:List α),S.sub (M.h H α e l) 0 l.length=M.h H α e l) /\
  (∀ (H:Nat->Hdr) (α:Type) (e:α->List PV) (sz:Nat) (l:List (List α)),S.fz (M.h H (List α) (eO M sz e) l)=M.m (List α) (eL M sz e) l) /\
  (∀ (H:Nat->Hdr) (α:Type) (e:Hdr->α->List PV),M.h H α e []=[]):=by
 subst hS hM;refine⟨λH α e l j x=>?_,λH α e l=>?_,λH α e l=>?_,λH α e sz l=>?_,λ_ _ _=>rfl⟩
 show JO _ e _=(JO H e l).set j _;unfold JO;apply List.ext_getElem?;intro i;simp only[List.getElem?_mapIdx,List.getElem?_set,List.length_mapIdx]
 by_cases U:j=i
 subst U
 by_cases R:j<l.length<;>simp[R]
 simp[U]
 show (JO H e l).length=_;simp[JO]
 show ((JO H e l).drop 0).take l.length=JO H e l;rw[List.drop_zero,List.take_of_length_le (by simp[JO])]
 show (JO H _ l).map _=l.map _;unfold JO;apply List.ext_getElem?;intro i;simp only[List.getElem?_mapIdx,List.getElem?_map];cases l[i]?<;>rfl
mutual
inductive LeP:PV->PV->Prop
 | nil (z0:Nat) (f:Bool) (z:Nat):LeP (.sl z0 [] f) (.sl z [] false)
 | int (k:IntKind) (n:Int):LeP (.int k n) (.si k n)
 | bool (b:Bool):LeP (.bool b) (.sb b)
 | agg (ps qs:List PV):LeL ps qs->LeP (.agg ps) (.agg qs)
 | IX (ps qs:List PV):LeL ps qs->LeP (.IX ps) (.IX qs)
 | rows (z:Nat) (f:Bool) (es es' : List (List PV)):LeR es es'->LeP (.sl z es f) (.sl z es' false)
 | refl (p:PV):LeP p p
inductive LeL:List PV->List PV->Prop
 | nil:LeL [] []
 | cons (p q:PV) (ps qs:List PV):LeP p q->LeL ps qs->LeL (p::ps) (q::qs)
inductive LeR:List (List PV)->List (List PV)->Prop
 | same (es:List (List PV)):LeR es es
 | cons (r q:List PV) (rs qs:List (List PV)):LeL r q->LeR rs qs->LeR (r::rs) (q::qs)
end
theorem LeL.len:∀ {ps qs:List PV},LeL ps qs->qs.length=ps.length
 | _,_,.nil=>rfl
 | _,_,.cons p q ps qs _ h=>by simp[h.len]
theorem LeR.len:∀ {ps qs:List (List PV)},LeR ps qs->qs.length=ps.length
 | _,_,.same _=>rfl
 | _,_,.cons p q ps qs _ h=>by simp[h.len]
theorem LeP.xe {p q:PV}(h:LeP p q):Pv.xe p=true->Pv.xe q=true:=by
 cases h<;>intro h<;>first|rfl|exact h|cases h
theorem LeL.jR:∀ {ps qs:List PV},LeL ps qs->Pv.jR ps=true->Pv.jR qs=true
 | _,_,.nil,h=>h
 | _,_,.cons p q ps qs h1 h2,h=>by
  simp only[Pv.jR,Bool.and_eq_true] at h |-;exact⟨h1.xe h.1,h2.jR h.2⟩
mutual
theorem LeP.rep {w:World}{Y:Nat->Prop}{σ:Sg}:∀ {p q:PV} (_:LeP p q) (v:Value),Rep w Y σ p v->Rep w Y σ q v
 | _,_,.nil z0 f z,v,h=>by
  unfold Rep at h |-;obtain⟨a,len,cap,e,U,T,_,_⟩:=h;exact⟨a,len,cap,e,U,T,(λh=>by cases h),.inl rfl⟩
 | _,_,.int k n,v,h=>by unfold Rep at h |-;exact h
 | _,_,.bool b,v,h=>by unfold Rep at h |-;exact h
 | _,_,.agg ps qs U,v,h=>by
  unfold Rep at h |-;obtain⟨vs,e,h⟩:=h;exact⟨vs,e,U.rep vs h⟩
 | _,_,.IX ps qs U,v,h=>by
  unfold Rep at h |-;obtain⟨vs,e,h⟩:=h;exact⟨vs,e,U.rep vs h⟩
 | _,_,.rows z f es es' hr,v,h=>by
  unfold Rep at h |-;obtain⟨a,len,cap,e,U,T,_,h⟩:=h;refine⟨a,len,cap,e,by rw[U,hr.len],T,(λh=>by cases h),?_⟩;rcases h with h|⟨b,o,h1,h2,h3⟩
  refine .inl (List.length_eq_zero_iff.1 ?_);rw[hr.len,h];rfl
  exact .inr ⟨b,o,h1,h2,hr.afX o h3⟩
 | _,_,.refl p,v,h=>h
theorem LeL.rep {w:World}{Y:Nat->Prop}{σ:Sg}:∀ {ps qs:List PV} (_:LeL ps qs) (vs:List Value),jo w Y σ ps vs->jo w Y σ qs vs
 | _,_,.nil,vs,h=>h
 | _,_,.cons p q ps qs h1 h2,vs,h=>by
  unfold jo at h |-;obtain⟨v,U,e,R,T⟩:=h;exact⟨v,U,e,h1.rep v R,h2.rep U T⟩
theorem LeL.aml {w:World}{Y:Nat->Prop}{σ:Sg}{cb:Nat}:∀ {ps qs:List PV} (_:LeL ps qs) (o:Nat),lT w Y σ cb ps o->lT w Y σ cb qs o
 | _,_,.nil,o,h=>h
 | _,_,.cons p q ps qs h1 h2,o,h=>by
  unfold lT at h |-;obtain⟨⟨v,R,U⟩,T⟩:=h;exact⟨⟨v,R,h1.rep v U⟩,h2.aml (o+1) T⟩
theorem LeR.afX {w:World}{Y:Nat->Prop}{σ:Sg}{b sz:Nat}:∀ {ps qs:List (List PV)} (_:LeR ps qs) (o:Nat),lV w Y σ b sz ps o->lV w Y σ b sz qs o
 | _,_,.same _,o,h=>h
 | _,_,.cons p q ps qs h1 h2,o,h=>by
  unfold lV at h |-;obtain⟨⟨J,T⟩,R,U⟩:=h;exact⟨⟨by rw[h1.len,J],h1.jR T⟩,h1.aml o R,h2.afX (o+sz) U⟩
end
theorem Fn.le {G:Nat->Option (List PV)}{k:Nat}{args U:List PV}{R:PV->Prop}(h:Fn P G k U R)(T:LeL args U):Fn P G k args R :=
 λw Y vs J I hr=>h w Y vs J I (T.rep _ hr)
theorem afo {p q:PV}(h:p=q):LeP p q:=h ▸ .refl p
theorem amm {P:Program}{T:Tab}(hT:lW P T)(C:T.vY=0)(hW:I4 P){k:Nat}{fn:Func}{c:Code}(O:P.funcs[k]?=some fn)(hb:fn.body=some c)
  (J:∀ args w,(callFunc k args).run P w=.ok (.enter k args) w) {args:List PV} {v:PV} {m:Nat} (hm:fn.ntmps-args.length=m)
  (h:∀ S R,S=kK.lM P T->(∀ u,LeP u v->R u)->pwp T S c (alO T S fn.results.toList R) ⟨Dp args (vN m),[],0⟩):Fn P T.gl k args (λu=>u=v):=by
 have H:=adT hT C hW O hb J hm (R:=λu=>LeP u v) λS hS=>h S _ hS λ_ h=>h;intro w Y U g I hr;obtain⟨h1,h2⟩:=H w Y U g I hr;refine⟨h1,Calls.mono h2 λe w' hh=>?_⟩;obtain⟨cv,u,he,hu,hv,hc⟩:=hh;exact⟨cv,v,he,rfl,hu.rep _ hv,hc⟩
theorem LeL.refl:∀ ps:List PV,LeL ps ps
 | []=>.nil
 | p::ps=>.cons _ _ _ _ (.refl p) (LeL.refl ps)
inductive LeB:Option mJ->Option mJ->Prop
 | var (ro:Bool) (row row' : List PV):LeL row row'->LeB (some (.var ro row)) (some (.var ro row'))
 | refl (x:Option mJ):LeB x x
inductive LeS:St->St->Prop
 | nil:LeS [] []
 | cons (b:Nat) (x y:Option mJ) (s t:St):LeB x y->LeS s t->LeS ((b,x)::s) ((b,y)::t)
theorem LeS.refl:∀ s:St,LeS s s
 | []=>.nil
 | (b,x)::s=>.cons b x x s s (.refl x) (LeS.refl s)
theorem LeS.look:∀ {s t:St} (_:LeS s t) (b:Nat),kR t b=kR s b\/∃ ro row U,kR s b=some (.var ro row)/\kR t b=some (.var ro U)/\LeL row U
 | _,_,.nil,b=>.inl rfl
 | _,_,.cons c x y s t h1 h2,b=>by
  simp only[kR]
  cases Nat.beq c b with
  | true =>
   cases h1 with
   | var ro row U h=>exact .inr ⟨ro,row,U,rfl,rfl,h⟩
   | refl x=>exact .inl rfl
  | false=>exact h2.look b
theorem LeS.YM {s t:St}(h:LeS s t)(w:World)(Y:Nat->Prop)(σ:Sg)(b:Nat):kR t b=kR s b\/∃ ro row U,kR s b=some (.var ro row)/\kR t b=some (.var ro U)/\U.length=row.length/\∀ cb o,lT w Y σ cb row o->lT w Y σ cb U o:=by
 rcases h.look b with e|⟨ro,row,U,e1,e2,e3⟩
 exact .inl e
 exact .inr ⟨ro,row,U,e1,e2,e3.len,λcb o=>e3.aml o⟩
theorem LeS.rep {w:World}{Y:Nat->Prop}{σ:Sg}{s t:St}(h:LeS s t)(H:N8 w Y σ s):N8 w Y σ t:=by
 have U : ∀ b x,kR t b=some x->∃ y,kR s b=some y:=by
  intro b x hx;rcases h.look b with e|⟨ro,row,row',e1,e2,_⟩
  exact⟨x,by rw[<- e];exact hx⟩
  exact⟨_,e1⟩
 refine⟨λb x hx=>?_,λb C x x' l l' hx T R J e=>?_⟩
 rcases h.YM w Y σ b with e|⟨ro,row,row',e1,e2,e3,e4⟩
 exact H.blk b x (by rw[<- e];exact hx)
 rw[e2] at hx;cases hx;rcases H.blk b _ e1 with ⟨l,R,hB⟩|⟨_,_,_,hx⟩
 refine .inl ⟨l,R,?_⟩;unfold jH at hB |-;exact⟨hB.1,by rw[e3];exact hB.2.1,by rw[e3];exact hB.2.2.1,e4 _ _ hB.2.2.2.1,hB.2.2.2.2⟩
 cases hx
 obtain⟨y,hy⟩:=U b x hx;obtain⟨g,I⟩:=U C x' T;exact H.inj b C y g l l' hy I R J e
theorem LeS.inSt {σ:Sg}{s t:St}(h:LeS s t):F6 σ t=F6 σ s:=by
 funext k
 refine propext ⟨?_,?_⟩
 rintro⟨b,x,l,h1,h2⟩
 rcases h.look b with e|⟨ro,row,row',e1,e2,_⟩
 exact⟨b,x,l,by rw[<- e];exact h1,h2⟩
 exact⟨b,_,l,e1,h2⟩
 rintro⟨b,x,l,h1,h2⟩
 rcases h.look b with e|⟨ro,row,row',e1,e2,_⟩
 exact⟨b,x,l,by rw[e];exact h1,h2⟩
 exact⟨b,_,l,e2,h2⟩
theorem LeS.tY:∀ {s t:St} (_:LeS s t),Pv.tY s=true->Pv.tY t=true
 | _,_,.nil,h=>h
 | _,_,.cons b x y s t h1 h2,h=>by
  cases h1 with
  | var ro row U T=>simp only[Pv.tY] at h |-;exact h2.tY h
  | refl x =>
   cases x with
   | none=>simp only[Pv.tY] at h |-;exact h2.tY h
   | some x=>cases x<;>simp only[Pv.tY] at h |-<;>first|exact h2.tY h|exact h
theorem FW.le {G:Nat->Option (List PV)}{k:Nat}{args U:List PV}{st T:St}{n:Nat}{R:PV->St->Nat->Prop}(h:FW P G k U T n R)(g:LeL args U)(hs:LeS st T):FW P G k args st n R:=by
 intro w Y σ vs hG hY hn hr J I;obtain⟨h1,h2⟩:=h w Y σ vs hG hY hn (g.rep _ hr) (hs.rep J) (hs.tY I);refine⟨h1,Calls.mono h2 λe w' hh=>?_⟩;obtain⟨cv,v,st',C,Y',σ',he,hR,H⟩:=hh;refine⟨cv,v,st',C,Y',σ',he,hR,?_⟩
 have e:JI ⟨λ_=>.bad,G,n,[],0,[],[]⟩ w Y σ T=JI ⟨λ_=>.bad,G,n,[],0,[],[]⟩ w Y σ st:=by
  unfold JI;rw[hs.inSt]
 rw[e] at H;exact H
theorem FW.cv {P:Program}{T:Tab}{G:Nat->Option (List PV)}(cvs:List Cv){k:Nat}{args:List PV}{st:St}{n:Nat}{v J : PV}{st1 U : St}{n1 R : Nat}(h:FW P G k args st n (λu s m=>u=v/\s=st1/\m=n1))(e:QY n [0] (cvE (kK.lM P T) cvs ⟨[v],st1,n1⟩)=⟨[J],U,R⟩):FW P G k args st n (λu s m=>u=J/\s=U/\m=R):=by
 intro w Y σ vs hG hY hn hr I C;obtain⟨h1,h2⟩:=h w Y σ vs hG hY hn hr I C;refine⟨h1,Calls.mono h2 λen w' hh=>?_⟩;obtain⟨cv,u,s,m,Y',σ',he,⟨rfl,rfl,rfl⟩,H⟩:=hh;obtain⟨Y1,σ1,H1,_⟩:=ahU (P:=P) (T':=T) cvs ⟨[u],s,m⟩ H;have H2:=H1.uS (KF _ [0] 0 _ H1.vals);obtain⟨g1,g2,g3⟩:=SV n (cvE (kK.lM P T) cvs ⟨[u],s,m⟩).st (QO [0] 0 (cvE (kK.lM P T) cvs ⟨[u],s,m⟩).tmps);obtain⟨σ2,H3,_⟩:=H2.WQ g1 g2 g3;have g:SW (JI ⟨λ_=>.bad,G,n,[],0,[],[]⟩ w Y σ st) w' Y1 σ2 (QY n [0] (cvE (kK.lM P T) cvs ⟨[u],s,m⟩)).tmps [cv] (QY n [0] (cvE (kK.lM P T) cvs ⟨[u],s,m⟩)).st (QY n [0] (cvE (kK.lM P T) cvs ⟨[u],s,m⟩)).next:=H3
 rw[e] at g;exact⟨cv,J,U,R,Y1,σ2,he,⟨rfl,rfl,rfl⟩,g⟩
theorem qw {P:Program}{T:Tab}(hT:lW P T)(hW:I4 P){k:Nat}{fn:Func}{c:Code}(O:P.funcs[k]?=some fn)(hb:fn.body=some c)
  (J:∀ args w,(callFunc k args).run P w=.ok (.enter k args) w) {args:List PV} {st:St} {v:PV} {st1:St} {n1:Nat} {m:Nat} (hm:fn.ntmps-args.length=m)
  (h:∀ S R,S=kK.lM P T->(∀ u s n,LeP u v->LeS s st1->n=n1->R u s n)->pwp T S c (alp T S fn.results.toList R) ⟨Dp args (vN m),st,T.vY⟩):FW P T.gl k args st T.vY (λu s n=>u=v/\s=st1/\n=n1):=by
 have H:=ack hT hW O hb J hm (st:=st) (R:=λu s n=>LeP u v/\LeS s st1/\n=n1) λS hS=>h S _ hS λ_ _ _ h1 h2 C=>⟨h1,h2,C⟩
 intro w Y σ U hG hY hn hr I g;obtain⟨h1,h2⟩:=H w Y σ U hG hY hn hr I g;refine⟨h1,Calls.mono h2 λe w' hh=>?_⟩;obtain⟨cv,u,s,n,Y',σ',he,⟨C,h4,h5⟩,H⟩:=hh;refine⟨cv,v,st1,n,Y',σ',he,⟨rfl,rfl,h5⟩,?_⟩
 have hv:jo w' Y' σ' [v] [cv]:=by
  have:=H.vals;unfold jo at this |-;obtain⟨c,cs,e,h6,h7⟩:=this;cases e;exact⟨_,_,rfl,C.rep _ h6,by unfold jo at h7 |-;exact h7⟩
 exact (H.uS hv).YM (h4.YM w' Y' σ')
theorem le_eq {ps qs:List PV}(h:ps=qs):LeL ps qs:=h ▸ LeL.refl ps
variable {α β σ ρ:Type}{r:ρ}
theorem Aj {o:Option α}{k:α->Option ρ}(h:bnd o k=some r):∃ x,o=some x/\k x=some r:=by
 cases o with
 | none=>cases h
 | some x=>exact⟨x,rfl,h⟩
theorem pO {x:α}{k:α->Option ρ}(h:lt x k=some r):k x=some r:=h
theorem lt3 {j:Nat}(h:j<3):j=0\/j=1\/j=2:=by omega
theorem lt5 {j:Nat}(h:j<5):j=0\/j=1\/j=2\/j=3\/j=4:=by omega
theorem lt6 {j:Nat}(h:j<6):j=0\/j=1\/j=2\/j=3\/j=4\/j=5:=by omega
theorem oz {i:Int}{n:Nat}{k:Nat->Option ρ}(O:sel i n k=some r):∃ j:Nat,j<n/\i=(j:Int)/\k j=some r:=by
 unfold sel at O
 cases i with
 | ofNat j =>
  simp only at O
  cases hb:Nat.blt j n with
  | false=>rw[hb] at O;cases O
  | true=>rw[hb] at O;exact⟨j,(Nat.blt_eq).mp hb,rfl,O⟩
 | negSucc j=>cases O
include hS
theorem Dw {cs:List PV}{e:α->List PV}{v:α}{K:List PV->Prop}{k:α->Option ρ}(O:lt v k=some r)(U:LeL cs (e v))(h:∀ x,k x=some r->K (e x)):S.wk cs K:=by
 subst hS;exact⟨e v,U.len,U.jR,λ_ _ _ _ hr=>U.rep _ hr,h v O⟩
theorem jA {c T : Bool}{U R:Option ρ}{A B:Unit->Prop}(O:br T U R=some r)(e:c=T)(J:U=some r->A ())(hb:R=some r->B ()):S.br c A B:=by
 subst e
 cases c with
 | true=>exact aoa hS rfl (J O)
 | false=>exact aob hS rfl (hb O)
theorem acp (hM:M=jT){T:List (List PV)}{l:List α}{e:α->List PV}{i U : Int}{k:α->Option ρ}{K:List PV->Prop}(O:bnd (kJ l U) k=some r)(he:T=M.m α e l)(hi:i=U)(h:∀ x,k x=some r->K (e x)):S.idx T i K:=by
 subst hM he hi;obtain⟨x,hx,hk⟩:=Aj O;clear O
 cases i with
 | ofNat j=>exact aoc hS (j:=j) rfl (by simp only[kJ] at hx;simp[jT,hx]) (h x hk)
 | negSucc j=>simp[kJ] at hx
theorem wM {n U : Nat}{i T : Int}{k:Nat->Option ρ}{K:Nat->Prop}(O:bnd (Hz U T) k=some r)(R:n=U)(hi:i=T)(h:∀ j,j<n->k j=some r->K j):S.ix n i K:=by
 subst R hi;obtain⟨x,hx,hk⟩:=Aj O;clear O
 cases i with
 | ofNat j' =>
  simp only[Hz] at hx
  cases hb:Nat.blt j' n with
  | false=>rw[hb] at hx;cases hx
  | true =>
   rw[hb] at hx;simp only[cond_true,Option.some.injEq] at hx;subst hx;have hb:=(Nat.blt_eq).mp hb;exact aod hS rfl hb (h _ hb hk)
 | negSucc j=>simp[Hz] at hx
theorem tZ {n:Nat}{i U : Int}{K:Nat->Prop}(hi:i=U)(h:∃ j:Nat,j<n/\U=(j:Int)/\K j):S.ix n i K:=by
 obtain⟨j,h1,h2,T⟩:=h;exact aod hS (hi.trans h2) h1 T
theorem qJ (hM:M=jT){T:List (List PV)}{l:List α}{e:α->List PV}{j U : Nat}{k:α->Option ρ}{K:List PV->Prop}(O:bnd (l[U]?) k=some r)(he:T=M.m α e l)(hj:j=U)(h:∀ x,k x=some r->K (e x)):S.row T j K:=by
 subst hM he hj;obtain⟨x,hx,hk⟩:=Aj O;clear O;exact alx hS (by simp[jT,hx]) (h x hk)
theorem ahX (hM:M=jT){T:List (List PV)}{H:Nat->Hdr}{l:List α}{e:Hdr->α->List PV}{j U : Nat}{k:α->Option ρ}{K:List PV->Prop}(O:bnd (l[U]?) k=some r)(he:T=M.h H α e l)(hj:j=U)(h:∀ x,k x=some r->K (e (H U) x)):S.row T j K:=by
 subst hM he hj;obtain⟨x,hx,hk⟩:=Aj O;clear O;refine alx hS ?_ (h x hk);show (JO H e l)[j]?=_;simp[JO,hx]
theorem adX {k:Nat}{args:List PV}{U:List PV}{K:PV->Prop}{g:Option α}{v:α->PV}{R:α->Option ρ}(O:bnd g R=some r)(hF:∀ y,g=some y->Fn P T.gl k U (λu=>u=v y))(J:LeL args U)(h:∀ y,R y=some r->K (v y)):S.abE k args K:=by
 obtain⟨x,hx,hk⟩:=Aj O;clear O;exact ako hS ((hF x hx).le J) (h x hk)
theorem qU {k:Nat}{args as bs:List PV}{U:List PV}{E:Env}{K:PV->Env->Prop}{g:Option α}{v:α->PV}{R:α->Option ρ}(O:bnd g R=some r)(hF:∀ y,g=some y->Fn P T.gl k U (λu=>u=v y))(J:LeL as U)(h:∀ y,R y=some r->K (v y) E):S.Zi k args as bs E K:=by
 obtain⟨x,hx,hk⟩:=Aj O;clear O;subst hS;exact .inl ⟨_,(hF x hx).le J,h x hk⟩
theorem GU (hT:lW P T)(hW:I4 P)(n:Nat){b:Code}{Q:Post}{E:Env}(h:∀ R:Nat->Env->Prop,(∀ k E,pwp T S b (Uy (R k) Q) E->R (k+1) E)->R n E):S.loop b Q E:=by
 refine ahV hT hW hS n (h (λn E=>ahS T S b Q n E) λk E hk=>?_);unfold ahS;exact hk
theorem uZ {k:Nat}{args as U:List PV}{E:Env}{J free:Option (List PV)}{R : List Nat}{st0 I:St}{m:Nat}{K:PV->Env->Prop}{g:Option α}{v:α->PV}{st1:α->St}{n1:Nat}{C:α->Option ρ}(O:bnd g C=some r)(hF:∀ y,g=some y->FW P T.gl k U I m (λu st n=>u=v y/\st=st1 y/\n=n1))(ha:LeL as U)(hs:LeS st0 I)(hm:m=oN R)(h1:aao R=true)(h2:ltN E.next R=true)(h0:tY st0=true)
  (h:∀ y,C y=some r->K (ER (Hm R E.next) 8 (v y)) (VY R E (st1 y) n1)):S.call k args E J free R as st0 K:=by
 obtain⟨x,hx,hk⟩:=Aj O;clear O;exact akr hS ((hF x hx).le ha hs) hm h1 h2 h0 (h x hk)
theorem ZO {k:Nat}{args:List PV}{E:Env}{K:PV->Env->Prop}(zs:List (Nat×Bool)){c:List PV×St×Nat}(e:Eg S zs args E.st E.next=c)(h:WR S k c.1 ⟨E.tmps,c.2.1,c.2.2⟩ K):VA P T k args E K:=by
 subst hS;subst e;have I:=OD h;intro C Y σ w vs U H hr;obtain⟨Y',σ',J,R,_⟩:=JM (P:=P) (T':=T) zs args H hr;exact I C Y' σ' w vs U J R
theorem amn {k:Nat}{args as bs:List PV}{E:Env}{K:PV->Env->Prop}(zs:List (Nat×Bool)){c:List PV×St×Nat}(e:Eg S zs args E.st E.next=c)(h:WR S k c.1 ⟨E.tmps,c.2.1,c.2.2⟩ K):S.Zi k args as bs E K:=by
 have:=ZO hS zs e h;subst hS;exact .inr (.inr this)
theorem tN {k:Nat}{args bs U as:List PV}{E:Env}{free:Option (List PV)}{I : List Nat}{st0:St}{K:PV->Env->Prop}{g:Option α}{v:α->PV}{J:α->Option ρ}(O:bnd g J=some r)(hF:∀ y,g=some y->Fn P T.gl k U (λu=>u=v y))(C:LeL bs U)(R:∀ y,Ky 6 (v y)=true)(h:∀ y,J y=some r->K (v y) E):S.call k args E (some bs) free I as st0 K:=by
 obtain⟨x,hx,hk⟩:=Aj O;clear O;exact akq hS ((hF x hx).le C) (R x) (h x hk)
theorem aaP {k:Nat}{args:List PV}{U:List PV}{K:PV->Prop}{g:Option α}{v:α->PV}{J:α->Option ρ}(O:bnd g J=some r)(hF:∀ y,g=some y->Fn P T.gl k U (λu=>u=v y))(I:LeL args U)(R:∀ y,Ky 6 (v y)=true)(h:∀ y,J y=some r->K (v y)):S.aeQ k args K:=by
 obtain⟨x,hx,hk⟩:=Aj O;clear O;exact akp hS ((hF x hx).le I) (R x) (h x hk)
theorem xW {op:BinOp}{kd:IntKind}{a b U T : Int}{K:Int->Prop}{k:Int->Option ρ}(O:bnd (divO op kd U T) k=some r)(R:a=U)(hb:b=T)(h:∀ x,k x=some r->K x):S.div op kd a b K:=by
 subst hS R hb;obtain⟨x,hx,hk⟩:=Aj O;clear O;unfold divO at hx
 by_cases h0:b=0
 simp[h0] at hx
 simp only[h0,decide_false,cond_false,Option.some.injEq] at hx;subst hx;exact⟨h0,h _ hk⟩
theorem aoj {op:BinOp}{kd:IntKind}{a b U T : Int}{K:Int->Prop}{k:Int->Option ρ}(O:bnd (adV op kd U T) k=some r)(R:a=U)(hb:b=T)(h:∀ x,k x=some r->K x):S.shf op kd a b K:=by
 subst hS R hb;obtain⟨x,hx,hk⟩:=Aj O;clear O;unfold adV at hx
 by_cases h0:0<=b
 simp only[h0,decide_true,cond_true,Option.some.injEq] at hx;subst hx;exact⟨h0,h _ hk⟩
 simp[h0] at hx
theorem qK {a b U T : ByteArray}{K:ByteArray->Prop}{k:ByteArray->Option ρ}(O:bnd (uY U T) k=some r)(R:a=U)(hb:b=T)(h:∀ x,k x=some r->K x):S.alK a b K:=by
 subst hS R hb;obtain⟨x,hx,hk⟩:=Aj O;clear O;unfold uY at hx
 cases h0:Nat.ble (a.size+b.size) 4611686018427387904 with
 | false=>rw[h0] at hx;cases hx
 | true=>rw[h0] at hx;cases hx;exact⟨by simpa using h0,h _ hk⟩
theorem QR {s U : ByteArray}{i T : Int}{K:Int->Prop}{k:Int->Option ρ}(O:bnd (Rn U T) k=some r)(R:s=U)(hb:i=T)(h:∀ x,k x=some r->K x):S.alJ s i K:=by
 subst hS R hb;obtain⟨x,hx,hk⟩:=Aj O;clear O
 cases i with
 | negSucc j=>simp[Rn] at hx
 | ofNat j =>
  simp only[Rn] at hx
  split at hx
  rename_i c J;cases hx;exact⟨j,c,rfl,J,h _ hk⟩
  cases hx
theorem jM {n U b:Nat}{p:Prop}{k:Option ρ}(O:jW U b k=some r)(T:n=U)(h:k=some r->p):S.room n b p:=by
 subst T;unfold jW at O
 cases h1:Nat.ble ((2*n+192)*b) 140737488355328 with
 | false=>rw[h1] at O;cases O
 | true =>
  cases h2:Nat.ble n 4611686018427387904 with
  | false=>rw[h1,h2] at O;cases O
  | true=>rw[h1,h2] at O;exact amg hS gm gp (h O)
theorem ZP {n m U T : Int}{b:Nat}{K:Nat->Prop}{k:Nat->Option ρ}(O:bnd (XK U T b) k=some r)(J:n=U)(R:m=T)(h:∀ j,k j=some r->K j):S.mks n m b K:=by
 subst hS J R;obtain⟨x,hx,hk⟩:=Aj O;clear O;unfold XK at hx
 by_cases h0:0<=n/\n<=m/\(b:Int)*m<=140737488355328/\m<=9223372036854775807
 simp only[h0,and_self,decide_true,cond_true,Option.some.injEq] at hx;subst hx;exact⟨n.toNat,by omega,h0.2.1,h0.2.2.1,h0.2.2.2,h _ hk⟩
 simp[h0] at hx
theorem ZQ {n U : Nat}{a b T R : Int}{K:Nat->Nat->Prop}{k:Nat×Nat->Option ρ}(O:bnd (UO U T R) k=some r)(I:n=U)(J:a=T)(hb:b=R)(h:∀ x,aof U x->k x=some r->K x.1 x.2):S.slc n a b K:=by
 subst hS I J hb;obtain⟨x,hx,hk⟩:=Aj O;clear O;unfold UO at hx
 by_cases h0:0<=a/\a<=b/\b<=(n:Int)
 simp only[h0,and_self,decide_true,cond_true,Option.some.injEq] at hx;subst hx;exact⟨a.toNat,b.toNat,by omega,by omega,by omega,by omega,h _ ⟨by show a.toNat<=b.toNat;omega,by show b.toNat<=n;omega⟩ hk⟩
 simp[h0] at hx
theorem aok {s U : ByteArray}{a b T R : Int}{K:ByteArray->Prop}{k:ByteArray->Option ρ}(O:bnd (agc U T R) k=some r)(I:s=U)(J:a=T)(hb:b=R)(h:∀ x,k x=some r->K x):S.ag5 s a b K:=by
 subst hS I J hb;obtain⟨x,hx,hk⟩:=Aj O;clear O;unfold agc at hx
 by_cases h0:0<=a/\a<=b/\b<=(s.size:Int)
 simp only[h0,and_self,decide_true,cond_true,Option.some.injEq] at hx;subst hx;exact⟨a.toNat,b.toNat,by omega,by omega,by omega,by omega,h _ hk⟩
 simp[h0] at hx
theorem aly (hM:M=jT){t:Nat}{rows:List (List PV)}{l:List Int}{K:ByteArray->Prop}{k:ByteArray->Option ρ}(O:bnd (adW l) k=some r)(hu:∃ e,P.underlying t=some (.slice e)/\P.underlying e=some (.int .u8))(he:rows=M.m Int (eI .u8) l)(h:∀ x,k x=some r->K x):S.toS t rows K:=by
 subst hS hM he;obtain⟨x,hx,hk⟩:=Aj O;clear O;refine⟨hu,x,?_,h x hk⟩;unfold adW at hx
 cases U:l.all (λn=>decide (0<=n/\n<256)) with
 | false=>rw[U] at hx;cases hx
 | true =>
  rw[U] at hx;cases hx;simp only[jT,List.map_map];refine List.map_congr_left λn T=>?_;have:=List.all_eq_true.1 U n T;simp only[decide_eq_true_eq] at this;simp only[Function.comp,eI,ae2]
  congr 1
  rw[UInt8.toNat_ofNat_of_lt' (by show n.toNat<256;omega)];omega
theorem akw {η:Type}(hT:lW P T)(hW:I4 P){b:Code}{Q:Post}{E:Env}{step:σ->(σ->Option ρ)->Option ρ}{J:σ}(cvs:List Cv)(keep:List Nat)(F:σ->η->Env)(g0:η)(O:jw step J=some r)(he:QY T.vY keep (wkE (cvE S cvs E))=F J g0)
  (h:∀ (I:σ->η->Env) (k:σ->Option ρ) (s:σ) (g:η),(∀ s g,I s g=F s g)->step s k=some r->∀ e,e=F s g->pwp T S b (Uy (λR=>∃ s' g',k s'=some r/\QY T.vY keep (wkE (cvE S cvs R))=I s' g') Q) e):S.loop b Q E:=by
 subst hS;intro C a w hA
 have key:∀ (n:Nat) (s:σ) (g:η),KG step n s=some r->∀ (C:Ctx T) a w,nX C (F s g) a w->Code.rounds P b (lift C Q) n a w:=by
  intro n
  induction n with
  | zero=>intro s g h;cases h
  | succ n ih =>
   intro s g hs C a w hA;unfold Code.rounds;refine wp_mono (Dv hT hW b _ _ (h F (KG step n) s g (λ_ _=>rfl) hs _ rfl) C a w hA) (Je λR U w' hA' hq=>?_);obtain⟨j,g',hj,he⟩:=hq;exact ih j g' hj C U w' (he ▸ Ht keep _ C U w' (MV _ C U w' (Gh (P:=P) (T':=T) cvs R C U w' hA')))
 exact wp_loop_rounds fuel (key _ J g0 O C a w (he ▸ Ht keep _ C a w (MV _ C a w (Gh (P:=P) (T':=T) cvs E C a w hA))))
theorem jk {A:Post->Prop}{B:Env->Prop}{Q:Post}{rest:σ->Option ρ}{body:(σ->Option ρ)->Option ρ}(cvs:List Cv)(keep:List Nat)(F:σ->Env)(O:jn rest body=some r)
  (h:∀ (I:σ->Env) (k:σ->Option ρ),(∀ s,I s=F s)->body k=some r->A (Uy (λE=>∃ s,k s=some r/\QY T.vY keep (wkE (cvE S cvs E))=I s) Q)) (h2:∀ s,rest s=some r->B (F s)):S.seq A B Q:=by
 subst hS;refine⟨_,h F rest (λ_=>rfl) O,λn E h=>?_⟩
 cases n with
 | zero =>
  obtain⟨s,hs,he⟩:=h;refine⟨F s,?_,h2 s hs⟩;rw[<- he];exact (Gh (P:=P) (T':=T) cvs E).trans ((MV _).trans (Ht keep _))
 | succ n=>exact⟨E,Ent.refl E,h⟩
theorem adY (hT:lW P T)(hW:I4 P){b:Code}{Q:Post}{E:Env}{step:σ->(σ->Option ρ)->Option ρ}{g:σ}(cvs:List Cv)(keep:List Nat)(F:σ->Env)(O:jw step g=some r)(he:QY T.vY keep (wkE (cvE S cvs E))=F g)
  (h:∀ (I:σ->Env) (k:σ->Option ρ) (s:σ),(∀ s,I s=F s)->step s k=some r->∀ e,e=F s->pwp T S b (Uy (λJ=>∃ s',k s'=some r/\QY T.vY keep (wkE (cvE S cvs J))=I s') Q) e):S.loop b Q E:=by
 subst hS;intro C a w hA
 have key:∀ (n:Nat) (s:σ),KG step n s=some r->∀ (C:Ctx T) a w,nX C (F s) a w->Code.rounds P b (lift C Q) n a w:=by
  intro n
  induction n with
  | zero=>intro s h;cases h
  | succ n ih =>
   intro s hs C a w hA;unfold Code.rounds;refine wp_mono (Dv hT hW b _ _ (h F (KG step n) s (λ_=>rfl) hs _ rfl) C a w hA) (Je λJ U w' R hq=>?_);obtain⟨j,hj,he⟩:=hq;exact ih j hj C U w' (he ▸ Ht keep _ C U w' (MV _ C U w' (Gh (P:=P) (T':=T) cvs J C U w' R)))
 exact wp_loop_rounds fuel (key _ g O C a w (he ▸ Ht keep _ C a w (MV _ C a w (Gh (P:=P) (T':=T) cvs E C a w hA))))
end
end Go.Pv
namespace Go.Pv
open Go
section
variable {α β σ τ ρ:Type}
def Ok (Q:ρ->Prop)(o:Option ρ):Prop:=∃ r,o=some r/\Q r
theorem iK {Q:ρ->Prop}{x:ρ}(h:Q x):Ok Q (some x):=⟨x,rfl,h⟩
theorem ok_eq {c:ρ}{o:Option ρ}(h:Ok (λr=>r=c) o):o=some c:=by obtain⟨r,e,q⟩:=h;subst q;exact e
theorem iR {Q:ρ->Prop}{c:Bool}{a b:Option ρ}(h1:c=true->Ok Q a)(h2:c=false->Ok Q b):Ok Q (br c a b):=by
 cases c with
 | true=>exact h1 rfl
 | false=>exact h2 rfl
theorem iJ {Q:ρ->Prop}{p:Prop}[Decidable p]{a b:Option ρ}(h1:p->Ok Q a)(h2:¬p->Ok Q b):Ok Q (br (decide p) a b) :=
 iR (λh=>h1 (of_decide_eq_true h)) (λh=>h2 (of_decide_eq_false h))
theorem lI {Q:ρ->Prop}{p:Prop}[Decidable p]{a b:Option ρ}(h1:¬p->Ok Q a)(h2:p->Ok Q b):Ok Q (br (!decide p) a b) :=
 iR (λh=>h1 bH) (λh=>h2 bH)
theorem iO {Q:ρ->Prop}{R:α->Prop}{o:Option α}{k:α->Option ρ}(h:Ok R o)(hk:∀ x,R x->Ok Q (k x)):Ok Q (bnd o k):=by
 obtain⟨x,e,q⟩:=h;rw[e];exact hk x q
theorem iU {Q:ρ->Prop}{o:Option α}{x:α}{k:α->Option ρ}(h:o=some x)(hk:Ok Q (k x)):Ok Q (bnd o k):=by
 rw[h];exact hk
theorem uf {Q:ρ->Prop}{x:α}{k:α->Option ρ}(hk:Ok Q (k x)):Ok Q (lt x k):=hk
theorem jf {Q:ρ->Prop}(J:σ->Prop){rest:σ->Option ρ}{body:(σ->Option ρ)->Option ρ}(h1:∀ k,(∀ s,J s->Ok Q (k s))->Ok Q (body k))(h2:∀ s,J s->Ok Q (rest s)):Ok Q (jn rest body):=h1 rest h2
theorem jG {Q:ρ->Prop}{n b:Nat}{k:Option ρ}(h1:(2*n+192)*b<=140737488355328)(h2:n<=4611686018427387904)(hk:Ok Q k):Ok Q (jW n b k):=by
 unfold jW;rw[Nat.ble_eq_true_of_le h1,Nat.ble_eq_true_of_le h2];exact hk
theorem Wy (l:List α)(n:Nat):kJ l (n:Int)=l[n]?:=rfl
theorem jl {Q:ρ->Prop}{l:List α}{i:Int}{k:α->Option ρ}(n:Nat)(hi:i=(n:Int))(U:n<l.length)(hk:Ok Q (k (l[n]))):Ok Q (bnd (kJ l i) k):=by
 subst hi;rw[Wy,List.getElem?_eq_getElem U];exact hk
theorem oJ {Q:ρ->Prop}{m:Nat}{i:Int}{k:Nat->Option ρ}(n:Nat)(hi:i=(n:Int))(U:n<m)(hk:Ok Q (k n)):Ok Q (bnd (Hz m i) k):=by
 subst hi;show Ok Q (bnd (bif Nat.blt n m then some n else none) k);have:Nat.blt n m=true:=by rw[Nat.blt_eq];exact U
 rw[this];exact hk
theorem oD {Q:ρ->Prop}{l:List α}{n:Nat}{k:α->Option ρ}(U:n<l.length)(hk:Ok Q (k (l[n]))):Ok Q (bnd (l[n]?) k):=by
 rw[List.getElem?_eq_getElem U];exact hk
theorem UT {Q:ρ->Prop}{n:Nat}{a m:Int}{b:Nat}{k:Nat->Option ρ}(T:a=(n:Int))(U:m=(n:Int))(h0:0<b)(hb:b*n<=140737488355328)(hk:Ok Q (k n)):Ok Q (bnd (XK a m b) k):=by
 subst T U;have h1:n<=b*n:=Nat.le_mul_of_pos_left n h0;have h2:(b:Int)*(n:Int)<=140737488355328:=by rw[<- Int.natCast_mul];exact Int.ofNat_le.2 hb
 have:XK (n:Int) (n:Int) b=some n:=by
  unfold XK;rw[decide_eq_true (show 0<=(n:Int)/\(n:Int)<=(n:Int)/\(b:Int)*(n:Int)<=140737488355328/\(n:Int)<=9223372036854775807 from ⟨by omega,by omega,h2,by omega⟩)];rfl
 rw[this];exact hk
theorem UU {Q:ρ->Prop}{a b:Int}{n i j:Nat}{k:Nat×Nat->Option ρ}(U:a=(i:Int))(hb:b=(j:Int))(T:i<=j)(hj:j<=n)(hk:Ok Q (k (i,j))):Ok Q (bnd (UO n a b) k):=by
 subst U hb
 have:UO n (i:Int) (j:Int)=some (i,j):=by
  unfold UO;rw[decide_eq_true (show 0<=(i:Int)/\(i:Int)<=(j:Int)/\(j:Int)<=(n:Int) from ⟨by omega,by omega,by omega⟩)];rfl
 rw[this];exact hk
theorem wrap_in {n:Int}(h1 : -9223372036854775808<=n)(h2:n<9223372036854775808):IntKind.i64.wrap n=n:=by rw[IntKind.wrap_i64];omega
theorem lN {a b:Int}(h1 : -9223372036854775808<=a+b)(h2:a+b<9223372036854775808):jq a b=a+b:=by
 show IntKind.i64.wrap (a+b)=a+b;exact wrap_in h1 h2
theorem lC {n:Nat}(h:n<4611686018427387904):jq (n:Int) 1=((n+1:Nat):Int):=by
 rw[lN ai ai];rfl
theorem kW {Q:ρ->Prop}{step:σ->(σ->Option ρ)->Option ρ}{T:σ}(Inv:σ->Prop)(μ:σ->Nat)(h0:Inv T)(J:μ T<fuel)
  (h:∀ s k,Inv s->(∀ U,Inv U->μ U<μ s->Ok Q (k U))->Ok Q (step s k)):Ok Q (jw step T):=by
 have key:∀ n s,Inv s->μ s<n->Ok Q (KG step n s):=by
  intro n
  induction n with
  | zero=>intro s _ h;omega
  | succ n I=>intro s hs g;exact h s _ hs λU R C=>I U R ai
 exact key fuel T h0 J
theorem lK {Q:ρ->Prop}{step:Int×τ->(Int×τ->Option ρ)->Option ρ}{t0:τ}(a n:Nat)(Inv:Nat->τ->Prop)(i0:Int)(R:i0=(a:Int))(J:a<=n)(I:n<4611686018427387904)(h0:Inv a t0)
  (h:∀ i t k,i<n->Inv i t->(∀ T,Inv (i+1) T->Ok Q (k (jq (i:Int) 1,T)))->Ok Q (step ((i:Int),t) k))
  (he:∀ t k,Inv n t->Ok Q (step ((n:Int),t) k)):Ok Q (jw step (i0,t0)):=by
 subst R;refine kW (λs=>∃ i:Nat,s.1=(i:Int)/\i<=n/\Inv i s.2) (λs=>n-s.1.toNat) ⟨a,rfl,J,h0⟩ dE ?_
 rintro⟨C,t⟩ k ⟨i,e,hi,hI⟩ hk
 simp only at e hI;subst e
 by_cases h' : i=n
 subst h';exact he t k hI
 refine h i t k ai hI λT U=>hk _ ⟨i+1,lC ai,by omega,U⟩ ?_;rw[lC ai];simp only[Int.toNat_natCast];omega
theorem lH {Q:ρ->Prop}{step:Int->(Int->Option ρ)->Option ρ}(a n:Nat)(Inv:Nat->Prop)(i0:Int)(T:i0=(a:Int))(R:a<=n)(J:n<4611686018427387904)(h0:Inv a)
  (h:∀ i k,i<n->Inv i->(Inv (i+1)->Ok Q (k (jq (i:Int) 1)))->Ok Q (step (i:Int) k))
  (he:∀ k,Inv n->Ok Q (step (n:Int) k)):Ok Q (jw step i0):=by
 subst T;refine kW (λs=>∃ i:Nat,s=(i:Int)/\i<=n/\Inv i) (λs=>n-s.toNat) ⟨a,rfl,R,h0⟩ dE ?_
 rintro i' k ⟨i,e,hi,hI⟩ hk
 subst e
 by_cases h' : i=n
 subst h';exact he k hI
 refine h i k ai hI λU=>hk _ ⟨i+1,lC ai,by omega,U⟩ ?_;rw[lC ai];simp only[Int.toNat_natCast];omega
theorem ve {Q:ρ->Prop}{step:τ×Int->(τ×Int->Option ρ)->Option ρ}{t0:τ}(a n:Nat)(Inv:Nat->τ->Prop)(i0:Int)(R:i0=(a:Int))(J:a<=n)(I:n<4611686018427387904)(h0:Inv a t0)
  (h:∀ i t k,i<n->Inv i t->(∀ T,Inv (i+1) T->Ok Q (k (T,jq (i:Int) 1)))->Ok Q (step (t,(i:Int)) k))
  (he:∀ t k,Inv n t->Ok Q (step (t,(n:Int)) k)):Ok Q (jw step (t0,i0)):=by
 subst R;refine kW (λs=>∃ i:Nat,s.2=(i:Int)/\i<=n/\Inv i s.1) (λs=>n-s.2.toNat) ⟨a,rfl,J,h0⟩ dE ?_
 rintro⟨t,C⟩ k ⟨i,e,hi,hI⟩ hk
 simp only at e hI;subst e
 by_cases h' : i=n
 subst h';exact he t k hI
 refine h i t k ai hI λT U=>hk _ ⟨i+1,lC ai,by omega,U⟩ ?_;rw[lC ai];simp only[Int.toNat_natCast];omega
end
end Go.Pv
namespace Go.Pv
open Go
theorem vg {α:Type}{enc:α->List PV}{ok:α->Prop}:∀ {U:List (List PV)},(∀ r∈U,∃ x,r=enc x/\ok x)->∃ l:List α,U=l.map enc/\(∀ x∈l,ok x)/\l.length=U.length
 | [],_=>⟨[],rfl,by simp,rfl⟩
 | r::U,h=>by
  obtain⟨x,e,hx⟩:=h r aI;obtain⟨l,R,h2,T⟩:=vg λr hr=>h r (List.mem_cons_of_mem _ hr);refine⟨x::l,by rw[e,R];rfl,λy hy=>?_,by simp[T]⟩;rcases List.mem_cons.1 hy with rfl|hy
  exact hx
  exact h2 y hy
end Go.Pv
namespace Go.Pv
open Go
structure Fit {H:Type}(N:Nat)(fit:DataW H->Prop):Prop where
 str:∀ b,fit (.lit (.string b))->b.length<=N
 sl:∀ es rest,fit (.slice es rest)->es.length<=N/\∀ e∈es,fit e
 agg:∀ es,fit (.agg es)->∀ e∈es,fit e
 ptr:∀ d,fit (.ptr d)->fit d
mutual
inductive Sn (P:Program) (N:Nat):TypeId->List PV->Prop
 | int {t:TypeId} {k:IntKind} {n:Int}:P.underlying t=some (.int k)->(Lit.int k n).wf=true->Sn P N t [.si k n]
 | bool {t:TypeId} {b:Bool}:P.underlying t=some .bool->Sn P N t [.sb b]
 | str {t:TypeId} {s:ByteArray}:P.underlying t=some .string->s.size<=N->Sn P N t [.str s]
 | yJ {t e:TypeId}:P.underlying t=some (.pointer e)->Sn P N t [.yJ]
 | pp {t e:TypeId} {cs:List PV}:P.underlying t=some (.pointer e)->Sn P N e cs->Sn P N t [.pp cs]
 | sl {t e:TypeId} {es:List (List PV)}:P.underlying t=some (.slice e)->(∀ r∈es,Sn P N e r)->es.length<=N->Sn P N t [.sl (P.cellsOf e) es false]
 | struct {t:TypeId} {fs:Array Field} {cs:List PV}:P.underlying t=some (.struct fs)->SnL P N (fs.toList.map (·.type)) cs->Sn P N t cs
 | arr {t e:TypeId} {n:Nat} {cs:List PV}:P.underlying t=some (.array n e)->SnL P N (List.replicate n e) cs->Sn P N t cs
inductive SnL (P:Program) (N:Nat):List TypeId->List PV->Prop
 | nil:SnL P N [] []
 | cons {t:TypeId} {ts:List TypeId} {a b:List PV}:Sn P N t a->SnL P N ts b->SnL P N (t::ts) (a++b)
end
section
variable {H:Type}{enc:TypeId×Value->H}{P:Program}{w:World}{base:Nat}{sp:Nat->Bool}{held:Bool}{N:Nat}{fit:DataW H->Prop}
mutual
theorem Sn.cells {t:TypeId}{cs:List PV}:Sn P N t cs->jR cs=true
 | .int _ _=>rfl
 | .bool _=>rfl
 | .str _ _=>rfl
 | .yJ _=>rfl
 | .pp _ _=>rfl
 | .sl _ _ _=>rfl
 | .struct _ h=>SnL.cells h
 | .arr _ h=>SnL.cells h
theorem SnL.cells {ts:List TypeId}{cs:List PV}:SnL P N ts cs->jR cs=true
 | .nil=>rfl
 | .cons h k=>OM _ _ (Sn.cells h) (SnL.cells k)
end
theorem Ti {ts:List TypeId}{cs:List Value}{xs:Nat->Option (DataW H×List MemPlace)}{m:Nat}
  (I:∀ (t:TypeId) (cs:List Value) x,t∈ts->DataW.trod enc P w base sp held m t cs=some x->fit x.1->∃ ps,jo w NoY kX ps cs/\Sn P N t ps/\cs.length=P.cellsOf t) :
  ∀ (U:List Field) (n k:Nat),XI P ts U n=some cs.length->n<=cs.length ->
   (∀ (i:Nat) (f:Field),U[i]?=some f->DataW.trod enc P w base sp held m f.type ((cs.drop f.offset).take (P.cellsOf f.type))=xs (k+i)/\∃ y,xs (k+i)=some y/\fit y.1) ->
   ∃ ps,jo w NoY kX ps (cs.drop n)/\SnL P N (U.map (·.type)) ps
 | [],n,k,hc,hn,_=>by
  simp only[XI,Option.some.injEq] at hc;subst hc;exact⟨[],by simp[jo],.nil⟩
 | f::U,n,k,hc,hn,hx=>by
  simp only[XI] at hc
  cases hb:(Nat.beq f.offset n&&ts.contains f.type) with
  | false=>rw[hb] at hc;cases hc
  | true =>
   rw[hb] at hc;simp only[cond_true] at hc;simp only[Bool.and_eq_true] at hb;have T:=Nat.eq_of_beq_eq_true hb.1;obtain⟨h1,y,h2,h3⟩:=hx 0 f rfl;rw[h2,T] at h1;obtain⟨ps,hr,hs,C⟩:=I _ _ _ (by simpa using hb.2) h1 h3
   have hle:n+P.cellsOf f.type<=cs.length:=by
    rw[List.length_take,List.length_drop] at C;omega
   obtain⟨qs,R,J⟩:=Ti I U (n+P.cellsOf f.type) (k+1) hc hle λi g hg=>by
    have:=hx (i+1) g (by simpa using hg);rw[show k+(i+1)=k+1+i by omega] at this;exact this
   refine⟨ps++qs,?_,by simpa using SnL.cons hs J⟩;have:=hr.append R
   rwa [<- List.drop_drop,List.take_append_drop] at this
theorem VL {e:TypeId}{cs:List Value}{m sz:Nat}{xs:Nat->Option (DataW H×List MemPlace)}
  (R:∀ (cs:List Value) x,DataW.trod enc P w base sp held m e cs=some x->fit x.1->∃ ps,jo w NoY kX ps cs/\Sn P N e ps/\cs.length=P.cellsOf e) (hsz:sz=P.cellsOf e) :
  ∀ (k s:Nat),cs.length=(s+k)*sz->(∀ i,i<s+k->DataW.trod enc P w base sp held m e ((cs.drop (i*sz)).take sz)=xs i/\∃ y,xs i=some y/\fit y.1) ->
   ∃ ps,jo w NoY kX ps (cs.drop (s*sz))/\SnL P N (List.replicate k e) ps
 | 0,s,hl,_=>by
  refine⟨[],?_,.nil⟩;rw[List.drop_eq_nil_of_le (by rw[hl];simp)];simp[jo]
 | k+1,s,hl,hx=>by
  obtain⟨h1,y,h2,J⟩:=hx s ai;rw[h2] at h1;obtain⟨ps,hr,hs,I⟩:=R _ _ h1 J;obtain⟨qs,U,T⟩:=VL R hsz k (s+1) (by rw[hl];congr 1;omega) λi hi=>hx i ai;refine⟨ps++qs,?_,by rw[List.replicate_succ];exact .cons hs T⟩;have:=hr.append U
  rwa [show (s+1)*sz=s*sz+sz by rw[Nat.add_mul];omega,<- List.drop_drop,List.take_append_drop] at this
theorem XL {e:TypeId}{m:Nat}{a:Addr}{xs:Nat->Option (DataW H×List MemPlace)}(U:a.spot=none)
  (g:∀ (cs:List Value) x,DataW.trod enc P w base sp held m e cs=some x->fit x.1->∃ ps,jo w NoY kX ps cs/\Sn P N e ps/\cs.length=P.cellsOf e) :
  ∀ (k s:Nat),(∀ i,i<s+k->(w.cells? base (a.add (i*P.cellsOf e)) (P.cellsOf e)).bind (DataW.trod enc P w base sp held m e)=xs i/\∃ y,xs i=some y/\fit y.1) ->
   ∃ T,lV w NoY kX a.block (P.cellsOf e) T (a.off+s*P.cellsOf e)/\(∀ r∈T,Sn P N e r)/\T.length=k
 | 0,s,_=>⟨[],by simp[lV],by simp,rfl⟩
 | k+1,s,hx=>by
  obtain⟨h1,y,h2,h3⟩:=hx s ai;rw[h2] at h1;obtain⟨vs,hv,ht⟩:=Option.bind_eq_some_iff.1 h1;obtain⟨ps,hr,hs,hl⟩:=g _ _ ht h3;obtain⟨T,J,I,C⟩:=XL U g k (s+1) λi hi=>hx i ai;rw[agb U] at hv;refine⟨ps::T,?_,?_,by simp[C]⟩
  unfold lV;refine⟨⟨by rw[<- hr.length,hl],hs.cells⟩,Tf hv hr,?_⟩;rw[show a.off+s*P.cellsOf e+P.cellsOf e=a.off+(s+1)*P.cellsOf e by rw[Nat.add_mul];omega];exact J
  intro r R;rcases List.mem_cons.1 R with rfl|h
  exact hs
  exact I r h
theorem ZR {ts:List TypeId}(F:Fit N fit)(hts:layAll P ts ts=true):∀ (fuel:Nat) (t:TypeId) (cs:List Value) (x:DataW H×List MemPlace),t∈ts ->
  DataW.trod enc P w base sp held fuel t cs=some x->fit x.1->∃ ps,jo w NoY kX ps cs/\Sn P N t ps/\cs.length=P.cellsOf t
 | 0,t,cs,x,_,h,_=>by simp[DataW.trod] at h
 | m+1,t,cs,x,hmem,h,hft=>by
  have U:=OL ts hts t hmem;have ih:=ZR F hts m;have one:∀ {p:PV} {v:Value},Rep w NoY kX p v->jo w NoY kX [p] [v]:=λh=>by unfold jo;exact⟨_,_,rfl,h,by unfold jo;rfl⟩
  unfold akv at U
  split at U
  rename_i hu;obtain⟨b,rfl,_⟩:=DataW.trod_bool hu h;exact⟨[.sb b],one bF,.bool hu,(Nat.eq_of_beq_eq_true U).symm⟩
  rename_i k hu;obtain⟨n,rfl,_,hw⟩:=DataW.trod_int hu h;exact⟨[.si k n],one bF,.int hu hw,(Nat.eq_of_beq_eq_true U).symm⟩
  rename_i hu;obtain⟨s,rfl,rfl,hs⟩:=DataW.trod_string hu h;exact⟨[.str s],one bF,.str hu (by simpa using F.str _ hft),(Nat.eq_of_beq_eq_true U).symm⟩
  rename_i e hu;simp only[Bool.and_eq_true,Nat.blt_eq] at U;obtain⟨⟨h1,h2⟩,I⟩:=U;have I:e∈ts:=by simpa using I
  have h1:=(Nat.eq_of_beq_eq_true h1).symm;rcases DataW.trod_pointer hu h with ⟨rfl,_⟩|⟨a,cs',y,n,O,rfl,rfl,hc,ht⟩
  exact⟨[.yJ],one bF,.yJ hu,h1⟩
  cases O;obtain⟨ps,hr,hs,_⟩:=ih e _ _ I ht (F.ptr _ hft);obtain⟨T,R⟩:=XJ h2 hc;refine⟨[.pp ps],one ?_,.pp hu hs,h1⟩;have ha:a=⟨a.block,a.off,none⟩:=by cases a;simp at T;simp[T]
  rw[ha] at hc;unfold Rep;exact⟨a.block,a.off,by rw[<- ha],⟨R,λh=>h⟩,Tf hc hr⟩
  rename_i e hu;simp only[Bool.and_eq_true,Nat.blt_eq] at U;obtain⟨⟨h1,h2⟩,I⟩:=U;have I:e∈ts:=by simpa using I
  have h1:=(Nat.eq_of_beq_eq_true h1).symm;rcases DataW.trod_slice hu h with ⟨rfl,_⟩|⟨a,len,cap,elems,rest,n,O,rfl,rfl,_,hle,hmax,hlen,hel,_⟩
  refine⟨[.sl (P.cellsOf e) [] false],one ?_,.sl hu aI aI,h1⟩;unfold Rep;exact⟨none,0,0,rfl,rfl,Nat.le_refl _,(λh=>by cases h),.inl rfl⟩
  cases O;obtain⟨hN,hfe⟩:=F.sl _ _ hft;have hN:len<=N:=by simpa [hlen] using hN
  by_cases h0:len=0
  subst h0;refine⟨[.sl (P.cellsOf e) [] false],one ?_,.sl hu aI aI,h1⟩;unfold Rep;exact⟨some a,0,cap,rfl,rfl,hle,(λh=>by cases h),.inl rfl⟩
  have hx:∀ i,i<len->∃ y,elems[i]?=some y/\fit y.1:=λi hi=>⟨_,List.getElem?_eq_getElem ai,hfe _ (List.mem_map.2 ⟨_,List.getElem_mem _,rfl⟩)⟩
  obtain⟨y,hy,_⟩:=hx 0 ai;have g:=hel 0 ai;rw[hy] at g;obtain⟨vs,hv,_⟩:=Option.bind_eq_some_iff.1 g;obtain⟨T,R⟩:=XJ h2 hv;rw[Nat.zero_mul,show a.add 0=a by simp[Addr.add]] at T R;obtain⟨es,hr,hs,hl2⟩:=XL (xs:=λi=>elems[i]?) T (λcs x hx O=>ih e cs x I hx O) len 0 λi hi=>⟨hel i ai,hx i ai⟩
  refine⟨[.sl (P.cellsOf e) es false],one ?_,.sl hu hs (by rw[hl2];omega),h1⟩;have ha:a=⟨a.block,a.off,none⟩:=by cases a;simp at T;simp[T]
  unfold Rep;refine⟨some a,len,cap,rfl,hl2.symm,hle,(λh=>by cases h),.inr ⟨a.block,a.off,by rw[<- ha],⟨R,λh=>h⟩,?_⟩⟩
  simpa using hr
  rename_i fs hu
  split at U
  rename_i n hc;obtain⟨xs,n',O,rfl,J,hxl,hx⟩:=DataW.trod_struct hu h;cases O;have hn:=Nat.eq_of_beq_eq_true U
  obtain⟨ps,hr,hs⟩:=Ti (ts:=ts) (xs:=λi=>xs[i]?) (λt cs x=>ih t cs x) fs.toList 0 0 (by rw[hc,hn,J]) (Nat.zero_le _) λi f hi=>by
   have C : fs[i]?=some f:=by simpa using hi
   have R:i<fs.size:=by
    by_cases h:i<fs.size
    exact h
    rw[Array.getElem?_eq_none (Nat.le_of_not_lt h)] at C;cases C
   refine⟨by simpa using hx i f C,_,by rw[Nat.zero_add];exact List.getElem?_eq_getElem ai,F.agg _ hft _ (List.mem_map.2 ⟨_,List.getElem_mem _,rfl⟩)⟩
  exact⟨ps,by simpa using hr,.struct hu hs,J⟩
  cases U
  rename_i n e hu;simp only[Bool.and_eq_true] at U;have I:e∈ts:=by simpa using U.2
  obtain⟨xs,m',O,rfl,J,hxl,hx⟩:=DataW.trod_array hu h;cases O;obtain⟨ps,hr,hs⟩:=VL (xs:=λi=>xs[i]?) (λcs x hx O=>ih e cs x I hx O) rfl n 0 (by rw[J,Nat.zero_add];exact Nat.eq_of_beq_eq_true U.1) λi hi=>⟨hx i ai,_,List.getElem?_eq_getElem ai,F.agg _ hft _ (List.mem_map.2 ⟨_,List.getElem_mem _,rfl⟩)⟩
  exact⟨ps,by simpa using hr,.arr hu hs,J⟩
  cases U
inductive SnV (P:Program) (N:Nat) (t:TypeId):PV->Prop
 | one {p:PV}:Sn P N t [p]->nz P t=false->SnV P N t p
 | agg {cs:List PV}:Sn P N t cs->nz P t=true->SnV P N t (.agg cs)
inductive zh (P:Program) (N:Nat):List TypeId->List PV->Prop
 | nil:zh P N [] []
 | cons {t:TypeId} {ts:List TypeId} {p:PV} {ps:List PV}:SnV P N t p->zh P N ts ps->zh P N (t::ts) (p::ps)
theorem adZ {ts:List TypeId}(F:Fit N fit)(R:layAll P ts ts=true){t:TypeId}(T:t∈ts){v:Value}{d:DataW H}{pl:List MemPlace}{r:Reach}{b0:Nat}(U:Value.okWide P w r b0 t v)(h:DataW.Trod enc P w base sp held t v d pl)(C:fit d) :
  ∃ p,Rep w NoY kX p v/\SnV P N t p:=by
 obtain⟨fuel,h⟩:=h;obtain⟨ps,hr,hs,_⟩:=ZR F R fuel t _ _ T h C;have J:=OL ts R t T
 have agg:(∃ cs,v=.agg cs)->nz P t=true->∃ p,Rep w NoY kX p v/\SnV P N t p:=by
  rintro⟨cs,rfl⟩ I
  refine⟨.agg ps,?_,.agg hs I⟩;unfold Rep;exact⟨cs.toList,by simp,by simpa [Value.cells] using hr⟩
 have one:v.cells.toList=[v]->nz P t=false->∃ p,Rep w NoY kX p v/\SnV P N t p:=by
  intro hv I;rw[hv] at hr;have hlen:=hr.length
  match ps,hr,hs,hlen with
  | [p],hr,hs,_ =>
   obtain⟨u,e,hp⟩:=Qn hr;cases e;exact⟨p,hp,.one hs I⟩
 unfold akv at J;unfold Value.okWide at U
 split at J
 rename_i hu;rw[hu] at U;obtain⟨b,hb,_⟩:=DataW.trod_bool hu h;refine one ?_ dP;cases v<;>simp_all[Value.cells,Cell.okWide,Cell.ok]
 rename_i k hu;rw[hu] at U;obtain⟨b,hb,_⟩:=DataW.trod_int hu h;refine one ?_ dP;cases v<;>simp_all[Value.cells,Cell.okWide,Cell.ok]
 rename_i hu;rw[hu] at U;obtain⟨b,hb,_⟩:=DataW.trod_string hu h;refine one ?_ dP;cases v<;>simp_all[Value.cells,Cell.okWide,Cell.ok]
 rename_i e hu;rw[hu] at U;refine one ?_ dP;cases v<;>simp_all[Value.cells,Cell.okWide,Cell.ok]
 rename_i e hu;rw[hu] at U;refine one ?_ dP;cases v<;>simp_all[Value.cells,Cell.okWide,Cell.ok]
 rename_i fs hu;rw[hu] at U;obtain⟨cs,g,_⟩:=U;exact agg ⟨cs,g⟩ dP
 rename_i n e hu;rw[hu] at U;obtain⟨cs,g,_⟩:=U;exact agg ⟨cs,g⟩ dP
 cases J
theorem ZT {ts:List TypeId}(F:Fit N fit)(U:layAll P ts ts=true){r:Reach}{b0:Nat}:∀ (params:List TypeId) (vs:List Value) (T:List (DataW H)) (pl:List MemPlace),(∀ t∈params,t∈ts) ->
  (∀ (j:Nat) t v,params[j]?=some t->vs[j]?=some v->Value.okWide P w r b0 t v)->DataW.TrodAll enc P w base sp held params vs T pl->(∀ d∈T,fit d) ->
  ∃ ps,jo w NoY kX ps vs/\zh P N params ps/\T.length=params.length
 | [],[],[],_,_,_,_,_=>⟨[],by simp[jo],.nil,rfl⟩
 | t::params,v::vs,d::T,pl,hm,hval,h,hft=>by
  obtain⟨p,q,h1,h2,_⟩:=h;obtain⟨x,hx,hs⟩:=adZ F U (hm t aI) (hval 0 t v rfl rfl) h1 (hft d aI);obtain⟨xs,J,R,C⟩:=ZT F U params vs T q (λt ht=>hm t (by simp[ht])) (λj t v h1 h2=>hval (j+1) t v gm gp) h2 (λd I=>hft d (by simp[I]));exact⟨x::xs,by unfold jo;exact⟨v,vs,rfl,hx,J⟩,.cons hs R,by simp[C]⟩
 | [],_::_,_,_,_,_,h,_=>h.elim
 | [],[],_::_,_,_,_,h,_=>h.elim
 | _::_,[],_,_,_,_,h,_=>h.elim
 | _::_,_::_,[],_,_,_,h,_=>h.elim
theorem xC (F:Fit N fit){f:FuncId}{fn:Func}{s:ChangeSpec}{apart:Bool}{ts:List TypeId}(hB:aoe P ts fn.params.toList=true)(T:s.vars=[]){tb:TypeId}(hres:fn.resultTypes=#[tb])(hb:P.underlying tb=some .bool)
  (hspec:∀ (U:List (DataW H)),U.length=fn.params.toList.length->(s.fn H U).results=[.lit (.bool true)]/\(s.fn H U).args=U/\(s.fn H U).vars=[])
  {G:Nat->Option (List PV)} (hFn:∀ J,zh P N fn.params.toList J->Fn P G f J (λu=>u=.sb true))
  (W:World) (hG:abN G W NoY) (base:Nat) (args:Array Value) (U gs:List (DataW H)) (before:List MemPlace)
  (hval:∀ (j:Nat) t v,fn.params[j]?=some t->args[j]?=some v->Value.okWide P W .any base t v)
  (hft:∀ d∈U,fit d) (hW:DataW.Whole enc P fn.params.toList s.vars apart W args.toList U gs before) :
  Calls P f args W λe W'=>∃ v,e=.returned v/\s.post enc P fn apart true false false W args v W':=by
 unfold aoe at hB;simp only[Bool.and_eq_true,List.all_eq_true] at hB;obtain⟨⟨hl,hts⟩,hp⟩:=hB
 have hp:∀ t∈fn.params.toList,t∈ts/\P.readableRec t=true/\t<P.types.size:=λt ht=>by
  have:=hp t ht;rw[Nat.blt_eq] at this;exact⟨by simpa using this.1.1,this.1.2,this.2⟩
 have hW0:=hW;obtain⟨pa,pv,hA,hV,hbef,_,_⟩:=hW;obtain⟨J,hr,hs,hlen⟩:=ZT F hts fn.params.toList args.toList U pa (λt ht=>(hp t ht).1) (λj t v h1 h2=>hval j t v gm gp) hA hft;obtain⟨_,I⟩:=hFn J hs W NoY args.toList hG (λ_ h=>h.elim) hr;refine Calls.mono I λe W' h=>?_;obtain⟨cv,v,rfl,rfl,hrep,C⟩:=h;have hcv:=OB hrep;subst hcv;refine⟨.bool true,rfl,?_⟩;rw[T] at hV
 have hgs:gs=[]/\pv=[]:=by
  cases gs with
  | nil=>exact⟨rfl,hV⟩
  | cons g gs=>exact hV.elim
 obtain⟨rfl,rfl⟩:=hgs;obtain⟨s1,s2,s3⟩:=hspec U hlen;have R:∀ p∈before,p.block<W.heap.size:=λp hp=>by simpa using hW0.lt p hp
 unfold ChangeSpec.post;refine⟨U,[],before,[],pa,[],hW0,?_,?_,?_,C.below.frame _,λh=>by cases h⟩
 rw[List.append_nil,s1,hres];refine⟨[],[],⟨1,?_⟩,rfl,rfl⟩;simp[DataW.trod,hb,Value.cells]
 rw[List.append_nil,s2];exact ZN hl C.below _ _ _ _ (λt ht=>(hp t ht).2) (λx hx=>R x (by rw[hbef];simp[hx])) hA
 rw[List.append_nil,s3,T];rfl
end
section
variable {P:Program}{N:Nat}{t e:TypeId}{cs:List PV}{p:PV}
theorem Sn.aaO {k:IntKind}(hu:P.underlying t=some (.int k))(h:Sn P N t cs):∃ n,cs=[.si k n]/\(Lit.int k n).wf=true:=by
 cases h with
 | int h1 h2=>rw[hu] at h1;cases h1;exact⟨_,rfl,h2⟩
 | _=>simp_all
theorem Sn.acn (hu:P.underlying t=some .bool)(h:Sn P N t cs):∃ b,cs=[.sb b]:=by
 cases h with
 | bool h1=>exact⟨_,rfl⟩
 | _=>simp_all
theorem Sn.afn (hu:P.underlying t=some .string)(h:Sn P N t cs):∃ s,cs=[.str s]/\s.size<=N:=by
 cases h with
 | str h1 h2=>exact⟨_,rfl,h2⟩
 | _=>simp_all
theorem Sn.qB (hu:P.underlying t=some (.slice e))(h:Sn P N t cs):∃ U,cs=[.sl (P.cellsOf e) U false]/\(∀ r∈U,Sn P N e r)/\U.length<=N:=by
 cases h with
 | sl h1 h2 T=>rw[hu] at h1;cases h1;exact⟨_,rfl,h2,T⟩
 | _=>simp_all
theorem Sn.l7 {U:Array Field}(hu:P.underlying t=some (.struct U))(h:Sn P N t cs):SnL P N (U.toList.map (·.type)) cs:=by
 cases h with
 | struct h1 h2=>rw[hu] at h1;cases h1;exact h2
 | _=>simp_all
theorem Sn.Wv {n:Nat}(hu:P.underlying t=some (.array n e))(h:Sn P N t cs):SnL P N (List.replicate n e) cs:=by
 cases h with
 | arr h1 h2=>rw[hu] at h1;cases h1;exact h2
 | _=>simp_all
theorem SnL.ql {ts:List TypeId}(h:SnL P N (t::ts) cs):∃ a b,cs=a++b/\Sn P N t a/\SnL P N ts b:=by
 cases h with
 | cons h1 h2=>exact⟨_,_,rfl,h1,h2⟩
theorem SnL.mO (h:SnL P N [] cs):cs=[]:=by cases h;rfl
theorem SnV.Wx (U:nz P t=true)(h:SnV P N t p):∃ cs,p=.agg cs/\Sn P N t cs:=by
 cases h with
 | one h1 h2=>rw[U] at h2;cases h2
 | agg h1 h2=>exact⟨_,rfl,h1⟩
theorem SnV.inv_one (U:nz P t=false)(h:SnV P N t p):Sn P N t [p]:=by
 cases h with
 | one h1 h2=>exact h1
 | agg h1 h2=>rw[U] at h2;cases h2
theorem zh.ql {ts:List TypeId}{ps:List PV}(h:zh P N (t::ts) ps):∃ a b,ps=a::b/\SnV P N t a/\zh P N ts b:=by
 cases h with
 | cons h1 h2=>exact⟨_,_,rfl,h1,h2⟩
theorem zh.mO {ps:List PV}(h:zh P N [] ps):ps=[]:=by cases h;rfl
end
end Go.Pv
namespace Go.Pv
open Go
theorem afp {m f:Nat}(h:m<f):Nat.div m 2<f:=Nat.lt_of_le_of_lt (Nat.div_le_self m 2) h
theorem ag2 {m k:Nat}(J:Nat.beq (Nat.mod m 2) 0=Nat.beq (Nat.mod k 2) 0)(R:Nat.div m 2=Nat.div k 2):m=k:=by
 have h1:m / 2=k / 2:=R;have h2:Nat.beq (m % 2) 0=Nat.beq (k % 2) 0:=J;have T:m % 2=0\/m % 2=1:=by omega
 have U:k % 2=0\/k % 2=1:=by omega
 rcases T with T|T<;>rcases U with U|U<;>rw[T,U] at h2<;>first|omega|(cases h2)
noncomputable def Tj (f:Nat):PV->Nat->Tr PV->Tr PV:=λx k t=>Nat.rec (motive:=λ_=>PV->Nat->Tr PV->Tr PV) (λ_ _ t=>t)
 (λ_ ih x k t=>Tr.rec (motive:=λ_=>Tr PV)
  (Nat.rec (motive:=λ_=>Tr PV) (Tr.n x Tr.e Tr.e) (λm _=>Bool.rec (motive:=λ_=>Tr PV) (Tr.n PV.undef Tr.e (ih x (Nat.div m 2) Tr.e)) (Tr.n PV.undef (ih x (Nat.div m 2) Tr.e) Tr.e) (Nat.beq (Nat.mod m 2) 0)) k)
  (λv l r _ _=>Nat.rec (motive:=λ_=>Tr PV) (Tr.n x l r) (λm _=>Bool.rec (motive:=λ_=>Tr PV) (Tr.n v l (ih x (Nat.div m 2) r)) (Tr.n v (ih x (Nat.div m 2) l) r) (Nat.beq (Nat.mod m 2) 0)) k) t) f x k t
theorem MW (v:PV)(l r:Tr PV)(m:Nat):qp (.n v l r) (m+1)=Bool.rec (motive:=λ_=>PV) (qp r (Nat.div m 2)) (qp l (Nat.div m 2)) (Nat.beq (Nat.mod m 2) 0):=rfl
theorem XM:∀ (f k:Nat),k<f->∀ (x:PV) (t:Tr PV) (j:Nat),qp (Tj f x k t) j=if j=k then x else qp t j
 | 0,k,h,_,_,_=>by omega
 | f+1,0,_,x,t,j=>by
  cases t with
  | e =>
   show qp (Tr.n x Tr.e Tr.e) j=_
   cases j with
   | zero=>rfl
   | succ j =>
    rw[MW,if_neg ai];show _=PV.undef;cases Nat.beq (Nat.mod j 2) 0<;>rfl
  | n v l r =>
   show qp (Tr.n x l r) j=_
   cases j with
   | zero=>rfl
   | succ j=>rw[if_neg ai];rfl
 | f+1,k+1,h,x,t,j=>by
  have U:=λ(t:Tr PV) (j:Nat)=>XM f (Nat.div k 2) (afp ai) x t j
  cases t with
  | e =>
   show qp (Bool.rec (motive:=λ_=>Tr PV) (Tr.n PV.undef Tr.e (Tj f x (Nat.div k 2) Tr.e)) (Tr.n PV.undef (Tj f x (Nat.div k 2) Tr.e) Tr.e) (Nat.beq (Nat.mod k 2) 0)) j=_
   cases hb:Nat.beq (Nat.mod k 2) 0 with
   | false =>
    cases j with
    | zero=>rw[if_neg ai];rfl
    | succ j =>
     rw[MW]
     cases hj:Nat.beq (Nat.mod j 2) 0 with
     | false =>
      show qp (Tj f x (Nat.div k 2) Tr.e) (Nat.div j 2)=_;rw[U]
      by_cases he:Nat.div j 2=Nat.div k 2
      rw[if_pos he,if_pos bK]
      rw[if_neg he,if_neg bD];rfl
     | true =>
      show qp Tr.e _=_;rw[if_neg bg];rfl
   | true =>
    cases j with
    | zero=>rw[if_neg ai];rfl
    | succ j =>
     rw[MW]
     cases hj:Nat.beq (Nat.mod j 2) 0 with
     | true =>
      show qp (Tj f x (Nat.div k 2) Tr.e) (Nat.div j 2)=_;rw[U]
      by_cases he:Nat.div j 2=Nat.div k 2
      rw[if_pos he,if_pos bK]
      rw[if_neg he,if_neg bD];rfl
     | false =>
      show qp Tr.e _=_;rw[if_neg bg];rfl
  | n v l r =>
   show qp (Bool.rec (motive:=λ_=>Tr PV) (Tr.n v l (Tj f x (Nat.div k 2) r)) (Tr.n v (Tj f x (Nat.div k 2) l) r) (Nat.beq (Nat.mod k 2) 0)) j=_
   cases hb:Nat.beq (Nat.mod k 2) 0 with
   | false =>
    cases j with
    | zero=>rw[if_neg ai];rfl
    | succ j =>
     rw[MW,MW]
     cases hj:Nat.beq (Nat.mod j 2) 0 with
     | false =>
      show qp (Tj f x (Nat.div k 2) r) (Nat.div j 2)=_;rw[U]
      by_cases he:Nat.div j 2=Nat.div k 2
      rw[if_pos he,if_pos bK]
      rw[if_neg he,if_neg bD]
     | true=>rw[if_neg bg]
   | true =>
    cases j with
    | zero=>rw[if_neg ai];rfl
    | succ j =>
     rw[MW,MW]
     cases hj:Nat.beq (Nat.mod j 2) 0 with
     | true =>
      show qp (Tj f x (Nat.div k 2) l) (Nat.div j 2)=_;rw[U]
      by_cases he:Nat.div j 2=Nat.div k 2
      rw[if_pos he,if_pos bK]
      rw[if_neg he,if_neg bD]
     | false=>rw[if_neg bg]
theorem UW (x:PV)(k:Nat)(t:Tr PV)(j:Nat):qp (ady x k t) j=if j=k then x else qp t j:=XM (k+1) k ai x t j
noncomputable def Tm (f:Nat):Option mJ->Nat->Sb->Sb:=λx k t=>Nat.rec (motive:=λ_=>Option mJ->Nat->Sb->Sb) (λ_ _ t=>t)
 (λ_ ih x k t=>Tr.rec (motive:=λ_=>Sb)
  (Nat.rec (motive:=λ_=>Sb) (Tr.n x Tr.e Tr.e) (λm _=>Bool.rec (motive:=λ_=>Sb) (Tr.n none Tr.e (ih x (Nat.div m 2) Tr.e)) (Tr.n none (ih x (Nat.div m 2) Tr.e) Tr.e) (Nat.beq (Nat.mod m 2) 0)) k)
  (λv l r _ _=>Nat.rec (motive:=λ_=>Sb) (Tr.n x l r) (λm _=>Bool.rec (motive:=λ_=>Sb) (Tr.n v l (ih x (Nat.div m 2) r)) (Tr.n v (ih x (Nat.div m 2) l) r) (Nat.beq (Nat.mod m 2) 0)) k) t) f x k t
theorem Jf (v:Option mJ)(l r:Sb)(m:Nat):mF (.n v l r) (m+1)=Bool.rec (motive:=λ_=>Option mJ) (mF r (Nat.div m 2)) (mF l (Nat.div m 2)) (Nat.beq (Nat.mod m 2) 0):=rfl
theorem XN:∀ (f k:Nat),k<f->∀ (x:Option mJ) (t:Sb) (j:Nat),mF (Tm f x k t) j=if j=k then x else mF t j
 | 0,k,h,_,_,_=>by omega
 | f+1,0,_,x,t,j=>by
  cases t with
  | e =>
   show mF (Tr.n x Tr.e Tr.e) j=_
   cases j with
   | zero=>rfl
   | succ j =>
    rw[Jf,if_neg ai];show _=none;cases Nat.beq (Nat.mod j 2) 0<;>rfl
  | n v l r =>
   show mF (Tr.n x l r) j=_
   cases j with
   | zero=>rfl
   | succ j=>rw[if_neg ai];rfl
 | f+1,k+1,h,x,t,j=>by
  have U:=λ(t:Sb) (j:Nat)=>XN f (Nat.div k 2) (afp ai) x t j
  cases t with
  | e =>
   show mF (Bool.rec (motive:=λ_=>Sb) (Tr.n none Tr.e (Tm f x (Nat.div k 2) Tr.e)) (Tr.n none (Tm f x (Nat.div k 2) Tr.e) Tr.e) (Nat.beq (Nat.mod k 2) 0)) j=_
   cases hb:Nat.beq (Nat.mod k 2) 0 with
   | false =>
    cases j with
    | zero=>rw[if_neg ai];rfl
    | succ j =>
     rw[Jf]
     cases hj:Nat.beq (Nat.mod j 2) 0 with
     | false =>
      show mF (Tm f x (Nat.div k 2) Tr.e) (Nat.div j 2)=_;rw[U]
      by_cases he:Nat.div j 2=Nat.div k 2
      rw[if_pos he,if_pos bK]
      rw[if_neg he,if_neg bD];rfl
     | true =>
      show mF Tr.e _=_;rw[if_neg bg];rfl
   | true =>
    cases j with
    | zero=>rw[if_neg ai];rfl
    | succ j =>
     rw[Jf]
     cases hj:Nat.beq (Nat.mod j 2) 0 with
     | true =>
      show mF (Tm f x (Nat.div k 2) Tr.e) (Nat.div j 2)=_;rw[U]
      by_cases he:Nat.div j 2=Nat.div k 2
      rw[if_pos he,if_pos bK]
      rw[if_neg he,if_neg bD];rfl
     | false =>
      show mF Tr.e _=_;rw[if_neg bg];rfl
  | n v l r =>
   show mF (Bool.rec (motive:=λ_=>Sb) (Tr.n v l (Tm f x (Nat.div k 2) r)) (Tr.n v (Tm f x (Nat.div k 2) l) r) (Nat.beq (Nat.mod k 2) 0)) j=_
   cases hb:Nat.beq (Nat.mod k 2) 0 with
   | false =>
    cases j with
    | zero=>rw[if_neg ai];rfl
    | succ j =>
     rw[Jf,Jf]
     cases hj:Nat.beq (Nat.mod j 2) 0 with
     | false =>
      show mF (Tm f x (Nat.div k 2) r) (Nat.div j 2)=_;rw[U]
      by_cases he:Nat.div j 2=Nat.div k 2
      rw[if_pos he,if_pos bK]
      rw[if_neg he,if_neg bD]
     | true=>rw[if_neg bg]
   | true =>
    cases j with
    | zero=>rw[if_neg ai];rfl
    | succ j =>
     rw[Jf,Jf]
     cases hj:Nat.beq (Nat.mod j 2) 0 with
     | true =>
      show mF (Tm f x (Nat.div k 2) l) (Nat.div j 2)=_;rw[U]
      by_cases he:Nat.div j 2=Nat.div k 2
      rw[if_pos he,if_pos bK]
      rw[if_neg he,if_neg bD]
     | false=>rw[if_neg bg]
theorem KH (x:Option mJ)(k:Nat)(t:Sb)(j:Nat):mF (setB x k t) j=if j=k then x else mF t j:=XN (k+1) k ai x t j
@[simp] theorem En:∀ l,FZ l=l.length
 | []=>rfl
 | _::l=>by show Nat.succ (FZ l)=_;rw[En l];rfl
@[simp] theorem HY:∀ l,N9 l=l.length
 | []=>rfl
 | _::l=>by show Nat.succ (N9 l)=_;rw[HY l];rfl
@[simp] theorem OO:∀ n l,WY n l=l.drop n
 | 0,l=>rfl
 | n+1,[]=>by simp;rfl
 | n+1,x::l=>by show WY n l=_;rw[OO n l];simp
@[simp] theorem XO:∀ n l,abP n l=l.take n
 | 0,l=>by simp;rfl
 | n+1,[]=>by simp;rfl
 | n+1,x::l=>by show x::abP n l=_;rw[XO n l];simp
@[simp] theorem GV:∀ n l,MG n l=l.drop n
 | 0,l=>rfl
 | n+1,[]=>by simp;rfl
 | n+1,x::l=>by show MG n l=_;rw[GV n l];simp
@[simp] theorem GX:∀ n l,MH n l=l.take n
 | 0,l=>by simp;rfl
 | n+1,[]=>by simp;rfl
 | n+1,x::l=>by show x::MH n l=_;rw[GX n l];simp
@[simp] theorem XP:∀ l m,WZ l m=l++m
 | [],m=>by simp;rfl
 | x::l,m=>by show x::WZ l m=_;rw[XP l m];simp
@[simp] theorem WA:∀ l m,UA l m=l++m
 | [],m=>by simp;rfl
 | x::l,m=>by show x::UA l m=_;rw[WA l m];simp
@[simp] theorem aaQ:∀ l m,ajW l m=l++m
 | [],m=>by simp;rfl
 | x::l,m=>by show x::ajW l m=_;rw[aaQ l m];simp
@[simp] theorem acr:∀ l n v,ahf l n v=l.set n v
 | [],n,v=>by simp;rfl
 | x::l,0,v=>by simp;rfl
 | x::l,n+1,v=>by show x::ahf l n v=_;rw[acr l n v];simp
@[simp] theorem aaR:∀ n l,afX n l=Oi n l
 | 0,l=>rfl
 | n+1,l=>by show UA l (afX n l)=Dp l (Oi n l);rw[aaR n l];simp
@[simp] theorem XQ:∀ n l,abQ n l=List.replicate n l
 | 0,l=>by simp;rfl
 | n+1,l=>by show l::abQ n l=_;rw[XQ n l];simp[List.replicate_succ]
@[simp] theorem afq:∀ n sz l,alS n sz l=chunks sz n l
 | 0,sz,l=>rfl
 | n+1,sz,l=>by show abP sz l::alS n sz (WY sz l)=RZ sz l::chunks sz n (Hf sz l);rw[afq n];simp
@[simp] theorem Tn {T:Tab} {ps:List PV} {U:Operand->PV} (h:∀ x,U x=tK T ps x):∀ l,Xb U l=evA T ps l
 | []=>rfl
 | x::l=>by show U x::Xb U l=_;rw[Tn h l,h x];rfl
theorem acs:∀ (cs row:List PV) (j:Nat),cs.length<=row.length->(ajS cs row)[j]?=if j<cs.length then cs[j]? else row[j]?
 | [],row,j,_=>by rw[if_neg aI];rfl
 | x::cs,[],j,h=>by simp at h
 | x::cs,y::row,0,h=>by rw[if_pos aI];rfl
 | x::cs,y::row,j+1,h=>by
  show (x::ajS cs row)[j+1]?=_;simp only[List.getElem?_cons_succ,List.length_cons];rw[acs cs row j bH]
  by_cases hj:j<cs.length
  rw[if_pos hj,if_pos ai]
  rw[if_neg hj,if_neg ai]
theorem acu:∀ (c:Nat) (cs row:List PV) (j:Nat),c+cs.length<=row.length->(afW c cs row)[j]?=if c<=j/\j<c+cs.length then cs[j-c]? else row[j]?
 | 0,cs,row,j,h=>by
  show (ajS cs row)[j]?=_;rw[acs cs row j ai]
  by_cases hj:j<cs.length
  rw[if_pos hj,if_pos ai];rfl
  rw[if_neg hj,if_neg ai]
 | c+1,cs,[],j,h=>by simp at h
 | c+1,cs,x::row,0,h=>by rw[if_neg ai];rfl
 | c+1,cs,x::row,j+1,h=>by
  show (x::afW c cs row)[j+1]?=_;simp only[List.getElem?_cons_succ];rw[acu c cs row j (by simp at h;omega)]
  by_cases hj:c<=j/\j<c+cs.length
  rw[if_pos hj,if_pos ai];congr 1;omega
  rw[if_neg hj,if_neg ai]
theorem afr {c:Nat}{cs row:List PV}(h:c+cs.length<=row.length):afW c cs row=nS row c cs:=by
 apply List.ext_getElem?;intro j;rw[acu _ _ _ _ h,MK _ _ _ _ h]
theorem kH {b:Bool}{x:Rs}{r:PV×Dl}(h:wJ b x=some r):b=true/\x=some r:=by
 cases b with
 | false=>cases h
 | true=>exact⟨rfl,h⟩
theorem qV {t:TI}{K:Bool->Nat->Option (List PV)->Option (List Nat)->TK->Rs}{r:PV×Dl}(h:okK t K=some r):∃ agg size zero plain kind,t=⟨true,agg,size,zero,plain,kind⟩/\K agg size zero plain kind=some r:=by
 obtain⟨ok,agg,size,zero,plain,kind⟩:=t
 cases ok with
 | false=>cases h
 | true=>exact⟨agg,size,zero,plain,kind,rfl,h⟩
theorem acv {t:TK}{K:List FI->Rs}{r:PV×Dl}(h:alR t K=some r):∃ U,t=.struct U/\K U=some r:=by
 cases t<;>first|(cases h;done)|exact⟨_,rfl,h⟩
theorem zy {t:TK}{K:Nat->Nat->Option (List PV)->Rs}{r:PV×Dl}(h:Uz t K=some r):∃ sz bytes zero,t=.slice sz bytes zero/\K sz bytes zero=some r:=by
 cases t<;>first|(cases h;done)|exact⟨_,_,_,rfl,h⟩
theorem ahY {t:TK}{K:IntKind->Rs}{r:PV×Dl}(h:anZ t K=some r):∃ k,t=.int k/\K k=some r:=by
 cases t<;>first|(cases h;done)|exact⟨_,rfl,h⟩
theorem ahZ {t:TK}{K:Rs}{r:PV×Dl}(h:an0 t K=some r):t=.str/\K=some r:=by
 cases t<;>first|(cases h;done)|exact⟨rfl,h⟩
theorem afs {t:TK}{U:Nat->Nat->Option (List PV)->Rs}{R:Nat->Nat->Bool->Rs}{T:Rs}{r:PV×Dl}(h:ixT t U R T=some r) :
  (∃ sz bytes zero,t=.slice sz bytes zero/\U sz bytes zero=some r)\/(∃ n sz agg,t=.arr n sz agg/\R n sz agg=some r)\/(t=.str/\T=some r):=by
 cases t<;>first|(cases h;done)|exact .inl ⟨_,_,_,rfl,h⟩|exact .inr (.inl ⟨_,_,_,rfl,h⟩)|exact .inr (.inr ⟨rfl,h⟩)
theorem XR {x:Option mJ}{K:Bool->List PV->Rs}{r:PV×Dl}(h:ajP x K=some r):∃ ro row,x=some (.var ro row)/\K ro row=some r:=by
 cases x with
 | none=>cases h
 | some x=>cases x<;>first|(cases h;done)|exact⟨_,_,rfl,h⟩
theorem H6 {x:Option mJ}{K:Bool->Nat->List (List PV)->Rs}{r:PV×Dl}(h:aau x K=some r):∃ ro sz rows,x=some (.arr ro sz rows)/\K ro sz rows=some r:=by
 cases x with
 | none=>cases h
 | some x=>cases x<;>first|(cases h;done)|exact⟨_,_,_,rfl,h⟩
theorem KI {x:Option (List PV)}{K:List PV->Rs}{r:PV×Dl}(h:adz x K=some r):∃ z,x=some z/\K z=some r:=by
 cases x with
 | none=>cases h
 | some z=>exact⟨z,rfl,h⟩
theorem Tq:∀ {l:List FI} {n:Nat} {K:Nat->Nat->Bool->Rs} {r:PV×Dl},ajQ l n K=some r->∃ fd,FY l n=some fd/\K fd.off fd.size fd.agg=some r
 | [],n,K,r,h=>by cases h
 | f::l,0,K,r,h=>⟨f,rfl,h⟩
 | f::l,n+1,K,r,h=>Tq (l:=l) h
theorem Tt:∀ {l:List (List PV)} {n:Nat} {K:List PV->Rs} {r:PV×Dl},ajR l n K=some r->∃ row,l[n]?=some row/\K row=some r
 | [],n,K,r,h=>by cases h
 | f::l,0,K,r,h=>⟨f,rfl,h⟩
 | f::l,n+1,K,r,h=>by
  obtain⟨row,h1,h2⟩:=Tt (l:=l) h;exact⟨row,by simpa using h1,h2⟩
theorem H7 {n:Int}{K:Nat->Rs}{r:PV×Dl}(h:WX n K=some r):∃ m:Nat,n=(m:Int)/\K m=some r:=by
 cases n with
 | ofNat m=>exact⟨m,rfl,h⟩
 | negSucc m=>cases h
theorem uu {v:PV}{K:IntKind->Int->Rs}{r:PV×Dl}(h:Ov v K=some r):∃ k n,v=.int k n/\K k n=some r:=by
 cases v<;>first|(cases h;done)|exact⟨_,_,rfl,h⟩
theorem ah0 {v:PV}{K:IntKind->Int->Rs}{D:Rs}{r:PV×Dl}(h:anW v K D=some r):(∃ k n,v=.int k n/\K k n=some r)\/((∀ k n,v≠.int k n)/\D=some r):=by
 cases v<;>first|exact .inl ⟨_,_,rfl,h⟩|exact .inr ⟨λ_ _ e=>by (cases e),h⟩
theorem acw {v:PV}{X Y:Rs}{r:PV×Dl}(h:ajN v X Y=some r):(v=.bool true/\X=some r)\/(v=.bool false/\Y=some r):=by
 cases v with
 | bool b=>cases b with
  | true=>exact .inl ⟨rfl,h⟩
  | false=>exact .inr ⟨rfl,h⟩
 | _=>cases h
theorem acx {v:PV}{X Y:Oc}{r:Nat×EV}(h:ajO v X Y=some r):(v=.bool true/\X=some r)\/(v=.bool false/\Y=some r):=by
 cases v with
 | bool b=>cases b with
  | true=>exact .inl ⟨rfl,h⟩
  | false=>exact .inr ⟨rfl,h⟩
 | _=>cases h
theorem OQ {v:PV}{U:Nat->Nat->Rs}{R:Nat->Nat->Nat->Rs}{T:List PV->Rs}{r:PV×Dl}(h:abO v U R T=some r) :
  (∃ b c,v=.lv b c/\U b c=some r)\/(∃ b i c,v=.lp b i c/\R b i c=some r)\/(∃ cs,v=.pp cs/\T cs=some r):=by
 cases v<;>first|(cases h;done)|exact .inl ⟨_,_,rfl,h⟩|exact .inr (.inl ⟨_,_,_,rfl,h⟩)|exact .inr (.inr ⟨_,rfl,h⟩)
theorem Be {v:PV}{U:Nat->List (List PV)->Bool->Rs}{J:Nat->Nat->Nat->Rs}{T:ByteArray->Rs}{r:PV×Dl}(h:V4 v U J T=some r) :
  (∃ sz R full,v=.sl sz R full/\U sz R full=some r)\/(∃ b i n,v=.os b i n/\J b i n=some r)\/(∃ s,v=.str s/\T s=some r):=by
 cases v<;>first|(cases h;done)|exact .inl ⟨_,_,_,rfl,h⟩|exact .inr (.inl ⟨_,_,_,rfl,h⟩)|exact .inr (.inr ⟨_,rfl,h⟩)
theorem acy {v:PV}{K:List PV->Rs}{r:PV×Dl}(h:alQ v K=some r):∃ cs,v=.agg cs/\K cs=some r:=by
 cases v<;>first|(cases h;done)|exact⟨_,rfl,h⟩
theorem ah1 {v:PV}{K:List PV->Rs}{r:PV×Dl}(h:anY v K=some r):∃ cs,v=.IX cs/\K cs=some r:=by
 cases v<;>first|(cases h;done)|exact⟨_,rfl,h⟩
theorem Tu {v:PV}{K:List PV->Rs}{r:PV×Dl}(h:afV v K=some r):v≠.top/\K (nT v)=some r:=by
 cases v<;>first|(cases h;done)|exact⟨by simp,h⟩
theorem WB {v:PV}{K:Nat->List PV->Option (PV×Sb×Nat)}{r:PV×Sb×Nat}(h:fnE v K=some r):∃ k U,v=.fn k U/\K k U=some r:=by
 cases v<;>first|(cases h;done)|exact⟨_,_,rfl,h⟩
theorem Tv:∀ {l:List PV} {n:Nat} {v:PV} {δ:Dl},alX l n=some (v,δ)->δ=[]/\n<l.length/\v=kY l n
 | [],n,v,δ,h=>by cases h
 | x::l,0,v,δ,h=>by
  have h:some (x,([]:Dl))=some (v,δ):=h;cases h;exact⟨rfl,by simp,rfl⟩
 | x::l,n+1,v,δ,h=>by
  obtain⟨h1,h2,U⟩:=Tv (l:=l) h;exact⟨h1,by simpa using h2,U⟩
theorem UX {f:PV->Bool}:∀ {l:List PV},allB f l=true->∀ x∈l,f x=true
 | [],_,x,hx=>by cases hx
 | y::l,h,x,hx=>by
  have h:Bool.rec (motive:=λ_=>Bool) false (allB f l) (f y)=true:=h
  cases hy:f y with
  | false=>rw[hy] at h;cases h
  | true =>
   rw[hy] at h;rcases List.mem_cons.1 hx with rfl|hx
   exact hy
   exact UX h x hx
theorem ah2 (v:PV):WW v=xe v:=by cases v<;>rfl
theorem MZ:∀ {l:List PV},allB WW l=true->jR l=true
 | [],_=>rfl
 | y::l,h=>by
  have h1:=UX h y aI;have h:Bool.rec (motive:=λ_=>Bool) false (allB WW l) (WW y)=true:=h;rw[h1] at h;simp only[jR,Bool.and_eq_true];exact⟨by rw[<- ah2];exact h1,MZ h⟩
theorem acz {size:Nat}{row:List PV}{c:Nat}{cs:List PV}{K:List PV->Rs}{r:PV×Dl}(h:alY size row c cs K=some r):cs.length=size/\c+cs.length<=row.length/\K (nS row c cs)=some r:=by
 obtain⟨h1,h⟩:=kH h;obtain⟨h2,h⟩:=kH h;have h1:=Nat.eq_of_beq_eq_true h1;have h2:=Nat.le_of_ble_eq_true h2;simp only[En] at h1 h2;have h2:c+cs.length<=row.length:=by rw[h1];exact h2
 rw[afr h2] at h;exact⟨h1,h2,h⟩
theorem KJ {agg:Bool}{size:Nat}{row:List PV}{c:Nat}{v:PV}{δ:Dl}(h:W9 agg size row c=some (v,δ)):δ=[]/\∀ K:PV->Prop,K v->loadRow agg size row c K:=by
 cases agg with
 | false =>
  obtain⟨h1,h2,U⟩:=Tv h;refine⟨h1,λK hk=>?_⟩;unfold loadRow;simp only[cond_false,pg,IW,Nat.blt_eq];exact⟨h2,by rw[<- U];exact hk⟩
 | true =>
  obtain⟨h1,h2⟩:=kH h;simp only[XO,OO,Option.some.injEq,Prod.mk.injEq] at h2;obtain⟨rfl,rfl⟩:=h2;refine⟨rfl,λK hk=>?_⟩;unfold loadRow;simp only[cond_true,IW,pg,Kz,wI];exact⟨by simpa using h1,hk⟩
end Go.Pv
namespace Go.Pv
open Go
def Sim (v' v:PV):Prop:=∀ w Y σ u,Rep w Y σ v' u->Rep w Y σ v u
theorem Sim.refl (v:PV):Sim v v:=λ_ _ _ _ h=>h
theorem Sim.si (k:IntKind)(n:Int):Sim (.si k n) (.int k n):=λw Y σ u h=>by unfold Rep at h |-;exact h
theorem Sim.sb (b:Bool):Sim (.sb b) (.bool b):=λw Y σ u h=>by unfold Rep at h |-;exact h
def KS (v:PV)(δ:Dl):PV->Dl->Prop:=λv' δ'=>Sim v' v/\δ'=δ
theorem KS.refl (v:PV)(δ:Dl):KS v δ v δ:=⟨Sim.refl v,rfl⟩
theorem XT {a b:IntKind}(h:kEq a b=true):a=b:=by
 have h:=Nat.eq_of_beq_eq_true h;cases a<;>cases b<;>first|rfl|(cases h)
theorem nP (k:IntKind):sW k k=true:=by cases k<;>rfl
theorem UY:∀ a b:Int,eqI a b=decide (a=b)
 | .ofNat a,.ofNat b=>by
  show Nat.beq a b=_
  by_cases h:a=b
  subst h;simp
  rw[show Nat.beq a b=false from dA];symm;rw[decide_eq_false_iff_not];intro e;first|exact h (Int.ofNat.inj e)|exact h (Int.negSucc.inj e)
 | .negSucc a,.negSucc b=>by
  show Nat.beq a b=_
  by_cases h:a=b
  subst h;simp
  rw[show Nat.beq a b=false from dA];symm;rw[decide_eq_false_iff_not];intro e;first|exact h (Int.ofNat.inj e)|exact h (Int.negSucc.inj e)
 | .ofNat _,.negSucc _=>by show false=_;simp
 | .negSucc _,.ofNat _=>by show false=_;simp
theorem OT:∀ a b:Int,ltI a b=decide (a<b)
 | .ofNat a,.ofNat b=>by
  show Nat.ble (Nat.succ a) b=_;rw[Bool.eq_iff_iff,Nat.ble_eq,decide_eq_true_iff];exact⟨λh=>Int.ofNat_lt.2 h,λh=>Int.ofNat_lt.1 h⟩
 | .negSucc a,.negSucc b=>by
  show Nat.ble (Nat.succ b) a=_;rw[Bool.eq_iff_iff,Nat.ble_eq,decide_eq_true_iff];omega
 | .ofNat a,.negSucc b=>by
  show false=_
  symm;rw[decide_eq_false_iff_not]
  have:(Int.ofNat a)=(a:Int):=rfl;omega
 | .negSucc a,.ofNat b=>by
  show true=_
  symm;rw[decide_eq_true_iff]
  have:(Int.ofNat b)=(b:Int):=rfl;omega
theorem aaS (b:Bool):F5 b=!b:=by cases b<;>rfl
theorem aft (m n:Nat):afY m n=(m:Int)-(n:Int):=by
 unfold afY;show Nat.rec (motive:=λ_=>Int) (Int.ofNat (m-n)) (λk _=>Int.negSucc k) (n-m)=_;rcases Nat.lt_or_ge m n with h|h
 obtain⟨k,hk⟩:∃ k,n-m=k+1:=⟨n-m-1,by omega⟩;rw[hk];show Int.negSucc k=_;omega
 rw[show n-m=0 by omega];show Int.ofNat (m-n)=_;have:(Int.ofNat (m-n))=((m-n:Nat):Int):=rfl;omega
theorem afu:∀ a b:Int,ahg a b=a+b
 | .ofNat a,.ofNat b=>rfl
 | .ofNat a,.negSucc b=>by
  show afY a (b+1)=_;rw[aft];have:(Int.ofNat a)=(a:Int):=rfl;omega
 | .negSucc a,.ofNat b=>by
  show afY b (a+1)=_;rw[aft];have:(Int.ofNat b)=(b:Int):=rfl;omega
 | .negSucc a,.negSucc b=>rfl
theorem afv:∀ a:Int,ajT a=-a
 | .ofNat 0=>rfl
 | .ofNat (n+1)=>rfl
 | .negSucc n=>rfl
theorem acA (k:IntKind)(n:Int):k.wrap n=if (k.signed&&decide (n % 2 ^ k.bits ≥ 2 ^ (k.bits-1)))=true then n % 2 ^ k.bits-2 ^ k.bits else n % 2 ^ k.bits:=rfl
theorem ah3 (k:IntKind)(m:Nat)(h:m+1<=half k):k.wrap (m:Int)=(m:Int):=by
 rw[acA];cases k
 case i8=>have h:m+1<=128:=h;show (if (true&&decide ((m:Int) % 2 ^ 8 ≥ 2 ^ (8-1)))=true then (m:Int) % 2 ^ 8-2 ^ 8 else (m:Int) % 2 ^ 8)=_;split<;>rename_i hh<;>simp at hh<;>omega
 case i16=>have h:m+1<=32768:=h;show (if (true&&decide ((m:Int) % 2 ^ 16 ≥ 2 ^ (16-1)))=true then (m:Int) % 2 ^ 16-2 ^ 16 else (m:Int) % 2 ^ 16)=_;split<;>rename_i hh<;>simp at hh<;>omega
 case i32=>have h:m+1<=2147483648:=h;show (if (true&&decide ((m:Int) % 2 ^ 32 ≥ 2 ^ (32-1)))=true then (m:Int) % 2 ^ 32-2 ^ 32 else (m:Int) % 2 ^ 32)=_;split<;>rename_i hh<;>simp at hh<;>omega
 case i64=>have h:m+1<=9223372036854775808:=h;show (if (true&&decide ((m:Int) % 2 ^ 64 ≥ 2 ^ (64-1)))=true then (m:Int) % 2 ^ 64-2 ^ 64 else (m:Int) % 2 ^ 64)=_;split<;>rename_i hh<;>simp at hh<;>omega
 case u8=>have h:m+1<=256:=h;show (if (false&&decide ((m:Int) % 2 ^ 8 ≥ 2 ^ (8-1)))=true then (m:Int) % 2 ^ 8-2 ^ 8 else (m:Int) % 2 ^ 8)=_;split<;>rename_i hh<;>simp at hh<;>omega
 case u16=>have h:m+1<=65536:=h;show (if (false&&decide ((m:Int) % 2 ^ 16 ≥ 2 ^ (16-1)))=true then (m:Int) % 2 ^ 16-2 ^ 16 else (m:Int) % 2 ^ 16)=_;split<;>rename_i hh<;>simp at hh<;>omega
 case u32=>have h:m+1<=4294967296:=h;show (if (false&&decide ((m:Int) % 2 ^ 32 ≥ 2 ^ (32-1)))=true then (m:Int) % 2 ^ 32-2 ^ 32 else (m:Int) % 2 ^ 32)=_;split<;>rename_i hh<;>simp at hh<;>omega
 case u64=>have h:m+1<=18446744073709551616:=h;show (if (false&&decide ((m:Int) % 2 ^ 64 ≥ 2 ^ (64-1)))=true then (m:Int) % 2 ^ 64-2 ^ 64 else (m:Int) % 2 ^ 64)=_;split<;>rename_i hh<;>simp at hh<;>omega
theorem ah4 (k:IntKind)(m:Nat)(h:m+1<=aeS k):k.wrap (Int.negSucc m)=Int.negSucc m:=by
 rw[acA];cases k
 case i8=>have h:m+1<=128:=h;show (if (true&&decide ((Int.negSucc m) % 2 ^ 8 ≥ 2 ^ (8-1)))=true then (Int.negSucc m) % 2 ^ 8-2 ^ 8 else (Int.negSucc m) % 2 ^ 8)=_;split<;>rename_i hh<;>simp at hh<;>omega
 case i16=>have h:m+1<=32768:=h;show (if (true&&decide ((Int.negSucc m) % 2 ^ 16 ≥ 2 ^ (16-1)))=true then (Int.negSucc m) % 2 ^ 16-2 ^ 16 else (Int.negSucc m) % 2 ^ 16)=_;split<;>rename_i hh<;>simp at hh<;>omega
 case i32=>have h:m+1<=2147483648:=h;show (if (true&&decide ((Int.negSucc m) % 2 ^ 32 ≥ 2 ^ (32-1)))=true then (Int.negSucc m) % 2 ^ 32-2 ^ 32 else (Int.negSucc m) % 2 ^ 32)=_;split<;>rename_i hh<;>simp at hh<;>omega
 case i64=>have h:m+1<=9223372036854775808:=h;show (if (true&&decide ((Int.negSucc m) % 2 ^ 64 ≥ 2 ^ (64-1)))=true then (Int.negSucc m) % 2 ^ 64-2 ^ 64 else (Int.negSucc m) % 2 ^ 64)=_;split<;>rename_i hh<;>simp at hh<;>omega
 case u8=>have h:m+1<=0:=h;omega
 case u16=>have h:m+1<=0:=h;omega
 case u32=>have h:m+1<=0:=h;omega
 case u64=>have h:m+1<=0:=h;omega
theorem OU (k:IntKind)(n:Int):Sr k n=k.wrap n:=by
 cases n with
 | ofNat m =>
  show Bool.rec (motive:=λ_=>Int) (k.wrap (Int.ofNat m)) (Int.ofNat m) (Nat.ble (Nat.succ m) (half k))=_
  cases h:Nat.ble (Nat.succ m) (half k) with
  | false=>rfl
  | true=>exact (ah3 k m (Nat.le_of_ble_eq_true h)).symm
 | negSucc m =>
  show Bool.rec (motive:=λ_=>Int) (k.wrap (Int.negSucc m)) (Int.negSucc m) (Nat.ble (Nat.succ m) (aeS k))=_
  cases h:Nat.ble (Nat.succ m) (aeS k) with
  | false=>rfl
  | true=>exact (ah4 k m (Nat.le_of_ble_eq_true h)).symm
theorem amo (n:Int)(K:Int->Rs):fzI n K=K n:=by
 cases n with
 | ofNat m=>cases m<;>rfl
 | negSucc m=>rfl
theorem rY {k:IntKind}{n:Int}{v:PV}{δ:Dl}(h:okI k n=some (v,δ)):v=.int k n/\δ=[]:=by
 unfold okI at h;rw[amo] at h;cases h;exact⟨rfl,rfl⟩
theorem ah5:∀ a b:List UInt8,eqB a b=decide (a=b)
 | [],[]=>by simp[eqB]
 | [],_::_=>by simp[eqB]
 | _::_,[]=>by simp[eqB]
 | a::l,b::m=>by
  unfold eqB
  by_cases h:a=b
  subst h;simp[ah5 l m]
  have:Nat.beq a.toNat b.toNat=false:=by
   cases hb:Nat.beq a.toNat b.toNat with
   | false=>rfl
   | true=>exact absurd (UInt8.toNat_inj.1 (Nat.eq_of_beq_eq_true hb)) h
  rw[this];simp[h]
theorem aaT (a b:ByteArray):eqS a b=decide (a=b):=by
 unfold eqS;rw[ah5]
 by_cases h:a=b
 subst h;simp
 rw[decide_eq_false h,decide_eq_false];intro e;apply h;cases a;cases b;exact congrArg ByteArray.mk (Array.ext' e)
end Go.Pv
