import Derived.Scope
import Derived.Test.YtchmoabpofnbaaaGreatC04
set_option linter.all false
namespace Go.Pv
open Go
section
variable {P:Program}{T:Tab}
structure Facts (P:Program)(T:Tab)(all:Array Oper)(rs:List Rec)(st:St)(nx nxf:Nat):Prop where
 len:rs.length=all.size
 old:∀ b,jk st b≠none->b<nx
 ids:∀ (i:Nat) (r:Rec),rs[i]?=some r->r.big=true->r.id=BR rs nx i/\nx<=r.id/\r.id+32<=nxf
 small:∀ (i:Nat) (r:Rec),rs[i]?=some r->r.big=false->r.δ=[]
 cls:∀ (i:Nat) (o:Oper) (r:Rec),all[i]?=some o->rs[i]?=some r->r.big=true->(wR T o=1/\(∃ x,r.δ=[(r.id,some x)])/\r.lk=Uw)\/(wR T o=2/\(∀ b,acp r.δ b->b<r.id+32)/\r.lk=jk (Am rs st i))
 looks:∀ (i:Nat) (o:Oper) (r:Rec),all[i]?=some o->rs[i]?=some r->r.wb=true->∀ b x,r.lk b=some x->jk (Am rs st i) b=some x/\(wR T o=2\/wR T o=3) /\
  (wR T o=3->∀ (k:Nat) (rk:Rec) (ok:Oper),k<i->rs[k]?=some rk->all[k]?=some ok->rk.big=true->wR T ok=1->rk.id=b->∃ m om,k<m/\m<i/\all[m]?=some om/\wR T om=2)
theorem XZ {rs:List Rec}{nx i k:Nat}{r U : Rec}(J:i<k)(hr:rs[i]?=some r)(T:r.big=true)(h:r.id=BR rs nx i)(I : U.id=BR rs nx k):r.id+32<=U.id:=by
 have h1:=MR rs nx i r hr;rw[T] at h1;have h2:=Rl (rs:=rs) (n:=nx) (show i+1<=k by omega);rw[h1] at h2;simp only[bump] at h2;omega
theorem U0 {P:Program}{T:Tab}{all:Array Oper}:∀ (l:List Oper) (rs:List Rec) {p:List PV} {st:St} {nx:Nat} {pend:List Nat} {f:List PV} {J:St} {I:Nat},ChD P T all l rs p st nx pend f J I->(∀ b,jk st b≠none->b<nx)->∀ i b,jk (Am rs st i) b≠none->b<BR rs nx i
 | l,rs,_,_,_,_,_,_,_,_,h0,0,b,hb=>by simp only[Am,BR] at hb |-;exact h0 b hb
 | [],[],_,_,_,_,_,_,_,_,h0,i+1,b,hb=>h0 b hb
 | o::l,r::rs,_,st,nx,_,_,_,_,h,h0,i+1,b,hb=>by
  simp only[Am,BR] at hb |-;refine U0 l rs h.2 (λc hc=>?_) i b hb;rw[xY] at hc;rcases h.1.cls with ⟨h1,h2,_⟩|⟨_,h1,h2,_,⟨x,U⟩,_⟩|⟨_,h1,h2,_,U,_⟩
  rw[h2] at hc;rw[h1];exact h0 c hc
  rw[h1];rw[U] at hc;simp only[kM,bump] at hc |-
  by_cases hn:nx=c
  omega
  rw[if_neg hn] at hc;have:=h0 c hc;omega
  rw[h1];simp only[bump]
  by_cases hl:kM r.δ c=none
  rw[hl] at hc;have:=h0 c hc;omega
  exact U c (OC _ _ hl)
 | [],_::_,_,_,_,_,_,_,_,h,_,_,_,_=>h.elim
 | _::_,[],_,_,_,_,_,_,_,h,_,_,_,_=>h.elim
theorem WR {P:Program}{T:Tab}{all:Array Oper}:∀ (l:List Oper) (rs:List Rec) {p:List PV} {st:St} {nx:Nat} {pend:List Nat} {f:List PV} {stf:St} {nxf:Nat},ChD P T all l rs p st nx pend f stf nxf ->
  ∀ i,(∀ k g ok,k<i->rs[k]?=some g->l[k]?=some ok->g.big=true->wR T ok=1->g.id∈OA T l rs pend i\/∃ m U,k<m/\m<i/\l[m]?=some U/\wR T U=2) /\
   (∀ b,b∈pend->b∈OA T l rs pend i\/∃ m U,m<i/\l[m]?=some U/\wR T U=2)
 | l,rs,_,_,_,_,_,_,_,_,0=>by simp only[OA];exact⟨λk g ok h=>by omega,λb I=>.inl I⟩
 | [],[],_,_,_,_,_,_,_,_,i+1=>⟨λk g ok _ h=>by simp at h,λb I=>.inl I⟩
 | o::l,r::rs,_,_,_,pend,_,_,_,h,i+1=>by
  obtain⟨h1,h2⟩:=WR l rs h.2 i;simp only[OA]
  have lift:(∃ m U,m<i/\l[m]?=some U/\wR T U=2)->∃ m U,0<m/\m<i+1/\(o::l)[m]?=some U/\wR T U=2:=by
   rintro⟨m,U,J,C,h5⟩
   exact⟨m+1,U,by omega,by omega,by simpa using C,h5⟩
  have two:wR T o=2->∃ m U,m<i+1/\(o::l)[m]?=some U/\wR T U=2:=λh=>⟨0,o,by omega,rfl,h⟩
  refine⟨λk g ok hk hr ho I hc=>?_,λb I=>?_⟩
  cases k with
  | zero=>
   simp at hr ho;subst hr;subst ho
   have hm:r.id∈PM T o r pend:=by
    unfold PM;rw[I];simp[hc]
   rcases h2 r.id hm with J|J
   exact .inl J
   exact .inr (lift J)
  | succ k=>
   rcases h1 k g ok ah dm (by simpa using ho) I hc with J|⟨m,U,J,C,h5,h6⟩
   exact .inl J
   exact .inr ⟨m+1,U,by omega,by omega,by simpa using h5,h6⟩
  by_cases hp:b∈PM T o r pend
  rcases h2 b hp with J|J
  exact .inl J
  obtain⟨m,U,_,C,h5,h6⟩:=lift J;exact .inr ⟨m,U,C,h5,h6⟩
  refine .inr (two ?_);rcases h.1.cls with ⟨J,_⟩|⟨_,J,_,C,_⟩|⟨_,J,_,C,_⟩
  exfalso;apply hp;unfold PM;rw[J];exact I
  exfalso;apply hp;unfold PM;rw[J];simp[C,I]
  exact C
 | [],_::_,_,_,_,_,_,_,_,h,_=>h.elim
 | _::_,[],_,_,_,_,_,_,_,h,_=>h.elim
theorem aeJ {all:Array Oper}{rs:List Rec}{p:List PV}{st:St}{nx:Nat}{f:List PV}{stf:St}{nxf:Nat}(h:ChD P T all all.toList rs p st nx [] f stf nxf)(h0:∀ b,jk st b≠none->b<nx):Facts P T all rs st nx nxf:=by
 have hl:=(ChD.len _ _ h).1;have hnf:=(ChD.fin _ _ h).2
 have get:∀ i r,rs[i]?=some r->∃ o q,all[i]?=some o/\aa2 P T all o r q (Am rs st i) (BR rs nx i) (OA T all.toList rs [] i):=by
  intro i r hr
  have hlt:i<rs.length:=by
   by_cases hh:i<rs.length
   exact hh
   rw[List.getElem?_eq_none (Nat.le_of_not_lt hh)] at hr;cases hr
  have I : i<all.toList.length:=by omega
  obtain⟨r',q,a0,_,a2,_⟩:=ChD.get _ _ h i _ (List.getElem?_eq_getElem I);rw[hr] at a0;cases a0;exact⟨_,q,by rw[<- Array.getElem?_toList];exact List.getElem?_eq_getElem I,a2⟩
 refine⟨by simpa using hl,h0,λi r hr U=>?_,λi r hr U=>?_,λi o r ho hr U=>?_,λi o r ho hr hw b x U=>?_⟩
 obtain⟨o,q,_,hs⟩:=get i r hr
 have hid:r.id=BR rs nx i:=by
  rcases hs.cls with ⟨h1,_⟩|⟨_,_,h1,_⟩|⟨_,_,h1,_⟩
  rw[U] at h1;cases h1
  exact h1
  exact h1
 refine⟨hid,by rw[hid];exact OB _ _ _,?_⟩
 have hlt:i<rs.length:=by
  by_cases hh:i<rs.length
  exact hh
  rw[List.getElem?_eq_none (Nat.le_of_not_lt hh)] at hr;cases hr
 have h2:=Rl (rs:=rs) (n:=nx) (show i+1<=rs.length by omega);rw[MR _ _ _ _ hr,U,<- hnf] at h2;simp only[bump] at h2;omega
 obtain⟨o,q,_,hs⟩:=get i r hr;rcases hs.cls with ⟨_,h1,_⟩|⟨_,h1,_⟩|⟨_,h1,_⟩
 exact h1
 rw[U] at h1;cases h1
 rw[U] at h1;cases h1
 obtain⟨o',q,J,hs⟩:=get i r hr;rw[ho] at J;cases J;rcases hs.cls with ⟨h1,_⟩|⟨_,_,h1,h2,⟨x,g⟩,C⟩|⟨_,_,h1,h2,g,C⟩
 rw[U] at h1;cases h1
 exact .inl ⟨h2,⟨x,by rw[g,h1]⟩,C⟩
 exact .inr ⟨h2,by rw[h1];exact g,C⟩
 obtain⟨o',q,J,hs⟩:=get i r hr;rw[ho] at J;cases J;rcases hs.cls with ⟨_,_,g⟩|⟨_,_,_,_,_,C⟩|⟨_,_,_,h2,_,C⟩
 obtain⟨c1,c2,c3⟩:=g hw b x U;refine⟨c3,.inr c1,λ_ k rk ok hk hrk hok hbk hck hid=>?_⟩;rcases (WR _ _ h i).1 k rk ok hk hrk (by simpa using hok) hbk hck with h5|⟨m,om,h5,h6,h7,h8⟩
 rw[hid] at h5;exact absurd h5 c2
 exact⟨m,om,h5,h6,by simpa using h7,h8⟩
 rw[C] at U;cases U
 rw[C] at U;exact⟨U,.inl h2,λh=>by rw[h2] at h;cases h⟩
theorem WS:∀ l:List Oper,UC l=l.length
 | []=>rfl
 | _::l=>by simp[UC,WS l]
theorem U1 {l:List Nat}:∀ n,allIn l n=true->∀ k,k<n->k∈l
 | 0,_,k,h=>by omega
 | n+1,h,k,hk=>by
  simp only[allIn,Bool.and_eq_true] at h;rcases Nat.lt_or_ge k n with h'|h'
  exact U1 n h.2 k h'
  rw[show k=n by omega];exact(Ja _ _).1 h.1
theorem ZN {all:Array Oper}(h:Oh all=true){i k:Nat}(hi:i+1=all.size)(hk:k<i):Bef all k i:=by
 unfold Oh at h
 split at h
 cases h
 rename_i o l e
 have hl:l.length=i:=by
  have:all.toList.length=i+1:=by simpa using hi.symm
  rw[e] at this;simpa using this
 rw[WS,hl] at h;exact JG all.toList [] (λk o h=>by simpa using h) (λi b U=>by simp[BV] at U) i k (U1 _ h _ hk)
theorem aa3.get {all:Array Oper}{K:Env->Prop}:∀ (l:List Oper) (rs:List Rec) {st:St} {f:List PV} {J:St} {U:Nat},aa3 P T all K l rs st f J U->(∀ (i:Nat) (r:Rec),rs[i]?=some r->r.nd=false)/\K ⟨f,J,U⟩ \/
  ∃ (i:Nat) (o:Oper) (r:Rec),i+1=l.length/\i+1=rs.length/\l[i]?=some o/\rs[i]?=some r/\r.nd=true/\(∀ (k:Nat) (I : Rec),k≠i->rs[k]?=some I->I.nd=false)/\Oh all=true/\U=r.id+32 /\
   oO T (iW.jI P T) o.op r.er (jk (Am rs st i)) r.id (λv δ=>bif ltD (r.id+32) δ then K ⟨AL r.er o.dst v,jJ δ (Am rs st i),r.id+32⟩ else False)
 | [],[],_,_,_,_,h=>.inl ⟨λi r h=>by simp at h,h⟩
 | [],r::rs,_,_,_,_,h=>h.elim
 | o::l,[],_,_,_,_,h=>h.elim
 | o::l,r::rs,st,f,J,U,h=>by
  cases hn:r.nd with
  | true=>
   obtain⟨rfl,rfl,h1,h2,h3⟩:=h.1 hn;exact .inr ⟨0,o,r,rfl,rfl,rfl,rfl,hn,λk I hk hr=>by cases k with|zero=>exact absurd rfl hk|succ k=>simp at hr,h1,h2,h3⟩
  | false=>
   rcases aa3.get l rs (h.2 hn) with ⟨h1,h2⟩|⟨i,o',I,a1,a2,a3,a4,a5,a6,g,C,a9⟩
   exact .inl ⟨λi I hr=>by cases i with|zero=>simp at hr;rw[<- hr];exact hn|succ i=>exact h1 i I dm,h2⟩
   exact .inr ⟨i+1,o',I,by simp[a1],by simp[a2],by simpa using a3,by simpa using a4,a5,λk r2 hk hr=>by cases k with|zero=>simp at hr;rw[<- hr];exact hn|succ k=>exact a6 k r2 ah dm,g,C,by simpa [Am] using a9⟩
def acr {T:Tab}(C:Ctx T)(all:Array Oper)(rs:List Rec)(st:St)(n:Nat)(p f:List PV)(listed:Array Bool)(a:Act)(w:World):Prop := DF C a/\∃ Y σ ps stx,SW C w Y σ ps a.tmps.toList stx n/\ps.length=p.length /\ (∀ j o t,all[j]?=some o->o.dst=some t->listed.getD j true=true->Eqv (jD ps t) (jD f t)) /\ (∀ t,(∀ j o,all[j]?=some o->o.dst=some t->listed.getD j true=false)->Eqv (jD ps t) (jD p t)) /\ (∀ b,jk stx b=orS st b (lst rs (λk=>listed.getD k true) 0 b)) /\ (∀ j r,rs[j]?=some r->listed.getD j true=false->r.big=true->∀ b,r.id<=b->b<r.id+32->σ b=none)
theorem aa5 (hT:jq P T)(hW:Ci P){KE:Env->Prop}{C:Ctx T}{all:Array Oper}{rs:List Rec}{st:St}{nx n:Nat}{p f:List PV}{stf:St}(hchk:FU T all=true)(hch:ChD P T all all.toList rs p st nx [] f stf n)(hF:Facts P T all rs st nx n)(hpas:T.qf<=nx){listed:Array Bool}{a:Act}{w:World}
  (hsz:listed.size=all.size) (hclosed:∀ j o,all[j]?=some o->listed.getD j true=true->∀ e∈o.after,Region.binds .any e=true->listed.getD e.on true=true)
  (hkeys:∀ i b,jk (Am rs st i) b≠none->b<BR rs nx i)
  (hs:acr C all rs st n p f listed a w) {i:Nat} (hr:i∈Region.ready .any all listed) {Q:Exit->Act->World->Prop} {K:Act->World->Prop}
  (hND:∀ o r,all[i]?=some o->rs[i]?=some r->r.nd=true->i+1=all.size/\Oh all=true/\n=r.id+32/\oO T (iW.jI P T) o.op r.er (jk (Am rs st i)) r.id (λv δ=>bif ltD (r.id+32) δ then KE ⟨AL r.er o.dst v,jJ δ (Am rs st i),r.id+32⟩ else False))
  (hEnd:∀ a' w' E,(∀ k,(listed.setIfInBounds i true).getD k true=true)->lL C E a' w'->KE E->K a' w')
  (hK:(∀ r,rs[i]?=some r->r.nd=false)->∀ a' w',acr C all rs st n p f (listed.setIfInBounds i true) a' w'->K a' w'):wpOp P all Q i K a w:=by
 obtain⟨hun,o,ho,hall⟩:=mem_ready.1 hr;obtain⟨hd,Y,σ,ps,stx,H,hlen,hdone,hrest,hst,hfree⟩:=hs;have hL:all.toList[i]?=some o:=by simpa using ho
 have hilt:i<listed.size:=by
  rcases Nat.lt_or_ge i listed.size with h|h
  exact h
  simp[Array.getElem?_eq_none h] at hun
 obtain⟨r,q,hri,qlen,hS,h6,h7,h8⟩:=hch.get _ _ i o hL;have hspec:=DN hchk ho;have agt:=(hch.len _ _).2
 have hall' : ∀ e∈o.after,Region.binds .any e=true->listed.getD e.on true=true:=by
  intro e he hb;have:=hall e he hb;rcases Nat.lt_or_ge e.on listed.size with h|h
  simp[h] at this |-;exact this
  simp[Array.getElem?_eq_none h]
 have befIn:∀ k,Bef all k i->listed.getD k true=true:=λk h=>h.ready hclosed o ho hall'
 have befOut:∀ k,Bef all i k->listed.getD k true=false:=λk h=>by
  cases hk:listed.getD k true with
  | false=>rfl
  | true=>have:=h.listed hclosed hk;rw[hun] at this;cases this
 have look0:∀ t∈o.looksAt all,Eqv (jD ps t) (jD q t):=by
  intro t ht
  by_cases hex:∃ j pj,all[j]?=some pj/\j≠i/\pj.dst=some t
  obtain⟨j,pj,hj,hne,hdst⟩:=hex;obtain⟨hdd,hor⟩:=hspec.2 j pj hj hne t hdst
  have uniq:∀ k pk,all[k]?=some pk->pk.dst=some t->k=j:=by
   intro k pk hk g
   by_cases hkj:k=j
   exact hkj
   exact absurd g ((DN hchk hk).2 j pj hj (Ne.symm hkj) t hdst).1
  rcases hor ht with ⟨e,he,hb,heq⟩|⟨e,he,hb,heq⟩
  have hlj:listed.getD j true=true:=by
   have:=hall' e he hb
   rwa [heq] at this
  have hji:j<i:=by rw[<- heq];exact hspec.1 e he hb
  have O:=hdone j pj t hj hdst hlj
  have:=h7 t λk pk hk hpk g=>by
   have:=uniq k pk (by simpa using hpk) g;omega
  exact O.trans this.symm
  have hij:i<j:=by rw[<- heq];exact(DN hchk hj).1 e he hb
  have hju:listed.getD j true=false:=by
   cases hlj:listed.getD j true with
   | false=>rfl
   | true=>
    have:=hclosed j pj hj hlj e he hb;rw[heq,hun] at this;cases this
  have hp:=hrest t λk pk hk g=>by
   rw[uniq k pk hk g];exact hju
  have:=h6 t λk pk hk hpk g=>by
   have:=uniq k pk (by simpa using hpk) g;omega
  exact hp.trans this
  have hp:=hrest t λk pk hk g=>by
   by_cases U:k=i
   rw[U];exact hun
   exact absurd ⟨k,pk,hk,U,g⟩ hex
  have:=h6 t λk pk hk hpk g=>hex ⟨k,pk,by simpa using hpk,by omega,g⟩;exact hp.trans this
 have look:∀ t∈o.looksAt all,Eqv (jD ps t) (jD r.e1 t)/\Eqv (jD ps t) (jD r.er t):=λt ht=>⟨(look0 t ht).trans (hS.e1.2 t),(look0 t ht).trans (hS.er.2 t)⟩
 have big_of:∀ (k:Nat) (rk:Rec),rs[k]?=some rk->∀ b,kM rk.δ b≠none->rk.big=true:=by
  intro k rk J b hb
  cases hbig:rk.big with
  | true=>rfl
  | false=>rw[hF.small k rk J hbig] at hb;exact absurd rfl hb
 have oper:∀ (k:Nat) (rk:Rec),rs[k]?=some rk->∃ ok,all[k]?=some ok:=by
  intro k rk J
  have:k<all.size:=by
   rw[<- hF.len]
   by_cases hh:k<rs.length
   exact hh
   rw[List.getElem?_eq_none (Nat.le_of_not_lt hh)] at J;cases J
  exact⟨_,Array.getElem?_eq_getElem this⟩
 have hlk:r.wb=true->∀ b x,r.lk b=some x->jk stx b=some x:=by
  intro hw b x hb;obtain⟨c1,c2,c3⟩:=hF.looks i o r ho hri hw b x hb;rw[hst b,<- c1,MS rs st i 0 b]
  congr 1
  refine zX _ _ _ _ _ λk rk J I=>?_;rw[Nat.zero_add,Nat.zero_add];have hbig:=big_of k rk J b I;obtain⟨ok,hok⟩:=oper k rk J;rcases Nat.lt_trichotomy k i with U|U|U
  simp only[U,decide_true];rcases hF.cls k ok rk hok J hbig with ⟨d1,⟨y,d2⟩,_⟩|⟨d1,d2,_⟩
  have hidb:rk.id=b:=by
   rw[d2] at I;simp only[kM] at I
   by_cases hh:rk.id=b
   exact hh
   rw[if_neg hh] at I;exact absurd rfl I
  rcases c2 with c2|c2
  exact befIn k (FH hchk U hok ho (by rw[d1,c2];rfl))
  obtain⟨m,om,e1,e2,e3,e4⟩:=c3 c2 k rk ok U J hok hbig d1 hidb;exact befIn k (.trans (FH hchk e1 hok e3 (by rw[d1,e4];rfl)) (FH hchk e2 e3 ho (by rw[c2,e4];rfl)))
  exact befIn k (FH hchk U hok ho eY)
  subst U;simp only[Nat.lt_irrefl,decide_false];exact hun
  have:¬ k<i:=by omega
  simp only[this,decide_false];rcases hF.cls k ok rk hok J hbig with ⟨d1,⟨y,d2⟩,_⟩|⟨d1,d2,_⟩
  have hidb:rk.id=b:=by
   rw[d2] at I;simp only[kM] at I
   by_cases hh:rk.id=b
   exact hh
   rw[if_neg hh] at I;exact absurd rfl I
  have h1:=hkeys i b (by rw[c1];simp);have h2:=(hF.ids k rk J hbig).1;have h3:=Rl (rs:=rs) (n:=nx) (show i<=k by omega);omega
  exact befOut k (FH hchk U ho hok eY)
 have lastOut:∀ b,kM r.δ b≠none->∀ (k:Nat) (rk:Rec),i<k->rs[k]?=some rk->listed.getD k true=true->kM rk.δ b=none:=by
  intro b hb k rk hik J hlk
  by_cases I:kM rk.δ b=none
  exact I
  exfalso
  have hbi:=big_of i r hri b hb;have hbk:=big_of k rk J b I;obtain⟨ok,hok⟩:=oper k rk J
  have no:clash (wR T o) (wR T ok)=true->False:=λhc=>by
   have:=befOut k (FH hchk hik ho hok hc);rw[hlk] at this;cases this
  rcases hF.cls i o r ho hri hbi with ⟨d1,⟨y,d2⟩,_⟩|⟨d1,d2,_⟩
  rcases hF.cls k ok rk hok J hbk with ⟨g1,⟨z,g2⟩,_⟩|⟨g1,_⟩
  have e1:r.id=b:=by
   rw[d2] at hb;simp only[kM] at hb
   by_cases hh:r.id=b
   exact hh
   rw[if_neg hh] at hb;exact absurd rfl hb
  have e2:rk.id=b:=by
   rw[g2] at I;simp only[kM] at I
   by_cases hh:rk.id=b
   exact hh
   rw[if_neg hh] at I;exact absurd rfl I
  have:=XZ hik hri hbi (hF.ids i r hri hbi).1 (hF.ids k rk J hbk).1;omega
  exact no (by rw[d1,g1];rfl)
  rcases hF.cls k ok rk hok J hbk with ⟨g1,⟨z,g2⟩,_⟩|⟨g1,_⟩
  have e2:rk.id=b:=by
   rw[g2] at I;simp only[kM] at I
   by_cases hh:rk.id=b
   exact hh
   rw[if_neg hh] at I;exact absurd rfl I
  have h1:=d2 b (OC _ _ hb);have:=XZ hik hri hbi (hF.ids i r hri hbi).1 (hF.ids k rk J hbk).1;omega
  exact no (by rw[d1,g1];rfl)
 have setD:∀ k,(listed.setIfInBounds i true).getD k true=(if k=i then true else listed.getD k true):=by
  intro k
  by_cases U:k=i
  subst U;simp[hilt]
  rw[if_neg U];exact getD_set_ne true (Ne.symm U)
 have newSt:∀ stn:St,(∀ b,jk stn b=(match kM r.δ b with|some x=>x|none=>jk stx b))->∀ b,jk stn b=orS st b (lst rs (λk=>(listed.setIfInBounds i true).getD k true) 0 b):=by
  intro stn hstn b;rw[hstn b]
  cases hb:kM r.δ b with
  | none=>
   rw[hst b]
   congr 1
   refine zX _ _ _ _ _ λk rk J I=>?_;rw[Nat.zero_add,setD]
   by_cases U:k=i
   subst U;rw[hri] at J;cases J;exact absurd hb I
   rw[if_neg U]
  | some x=>
   rw[UY rs _ 0 i b r x hri (by rw[Nat.zero_add,setD,if_pos rfl]) hb λk rk hik J hlk=>?_]
   rfl
   rw[Nat.zero_add,setD,if_neg ah] at hlk;exact lastOut b (by rw[hb];simp) k rk hik J hlk
 have after:r.nd=false->∀ cv w' Y' σ' qs stn,Ak ps qs->SW C w' Y' σ' qs a.tmps.toList stn n->(∀ b,jk stn b=(match kM r.δ b with|some x=>x|none=>jk stx b))->(∀ (j:Nat) (rj:Rec),j≠i->rs[j]?=some rj->rj.big=true->∀ b,rj.id<=b->b<rj.id+32->σ b=none->σ' b=none)->Rep w' Y' σ' r.v cv->K (a.put o.dst cv) w':=by
  intro hnd0 cv w' Y' σ' qs stn hq H' hstn hfr hv;refine hK (λr' hr'=>by rw[hri] at hr';cases hr';exact hnd0) _ _ ⟨DF.put hd _ _,Y',σ',AL qs o.dst r.v,stn,H'.AL hv o.dst,by rw[vC,<- hq.1,hlen],?_,?_,newSt stn hstn,?_⟩
  intro j oj t hj hdst hlj;rw[xu hun] at hlj
  by_cases hji:j=i
  subst hji;rw[ho] at hj;cases hj
  by_cases hlt:t<qs.length
  rw[hdst];simp only[AL,xU];rw[if_pos ⟨trivial,hlt⟩];refine h8 t hdst (by rw[<- hlen,hq.1];exact hlt) λk pk hk hpk g=>?_;exact absurd hdst ((DN hchk ho).2 k pk (by simpa using hpk) ah t g).1
  rw[xW (by rw[vC];exact Nat.le_of_not_lt hlt),xW (by rw[agt,<- hlen,hq.1];exact Nat.le_of_not_lt hlt)];exact Eqv.refl _
  have hne:=(hspec.2 j oj hj hji t hdst).1;rw[Dk hne];rcases hlj with h|h
  exact absurd h hji
  exact(hq.2 t).symm.trans (hdone j oj t hj hdst h)
  intro t ht
  have hne:o.dst≠some t:=λe=>by
   have:=ht i o ho e;rw[(xu hun).2 (.inl rfl)] at this;cases this
  rw[Dk hne];refine(hq.2 t).symm.trans (hrest t λk pk hk g=>?_);have:=ht k pk hk g
  cases hlk:listed.getD k true with
  | false=>rfl
  | true=>rw[(xu hun).2 (.inr hlk)] at this;cases this
  intro j rj hrj hlj hbj;rw[setD] at hlj
  by_cases hji:j=i
  rw[if_pos hji] at hlj;cases hlj
  rw[if_neg hji] at hlj;exact λb hb1 hb2=>hfr j rj hji hrj hbj b hb1 hb2 (hfree j rj hrj hlj hbj b hb1 hb2)
 have q1:=WQ (sl:=o.looksAt all) (er:=r.e1) (ps:=ps) λt ht=>(look t ht).1;have q2:=WQ (sl:=o.looksAt all) (er:=r.er) (ps:=ps) λt ht=>(look t ht).2;have l1:r.e1.length=ps.length:=by rw[<- hS.e1.1,hlen];assumption
 have l2:r.er.length=ps.length:=by rw[<- hS.er.1,hlen];assumption
 have hwb:=hS.gd C _ Y σ a w stx n (SK l1) (H.rG (H.vals.eqv q1)) hd;unfold wpOp;simp only[ho]
 cases hw:r.wb with
 | true=>
  rw[hw] at hwb;rw[if_pos hwb]
  cases hnd:r.nd with
  | true=>
   obtain⟨g1,g2,g3,g4⟩:=hND o r ho hri hnd
   have hoth:∀ k,k≠i->listed.getD k true=true:=λk hk=>by
    rcases Nat.lt_or_ge k i with h|h
    exact befIn k (ZN g2 g1 h)
    have:listed[k]?=none:=Array.getElem?_eq_none ah;simp[this]
   have hq:Ak ps q:=⟨by rw[hlen];exact qlen.symm,λt=>by
    by_cases hex:∃ j pj,all[j]?=some pj/\j≠i/\pj.dst=some t
    obtain⟨j,pj,hj,hne,hdst⟩:=hex;have O:=hdone j pj t hj hdst (hoth j hne)
    have:=h7 t λk pk hk hpk g=>by
     have U:k=i:=by
      have:k<all.size:=by
       by_cases hh:k<all.size
       exact hh
       rw[Array.getElem?_toList,Array.getElem?_eq_none (Nat.le_of_not_lt hh)] at hpk;cases hpk
      omega
     subst U;rw[hL] at hpk;cases hpk;exact(hspec.2 j pj hj hne t hdst).1 g
    exact O.trans this.symm
    have hp:=hrest t λk pk hk g=>by
     by_cases U:k=i
     rw[U];exact hun
     exact absurd ⟨k,pk,hk,U,g⟩ hex
    have:=h6 t λk pk hk hpk g=>hex ⟨k,pk,by simpa using hpk,by omega,g⟩;exact hp.trans this⟩
   have H1:SW C w Y σ r.er a.tmps.toList (Am rs st i) n:=(H.rG (H.vals.eqv (hq.trans hS.er))).ext λb x hb=>by
    rw[hst b,<- hb,MS rs st i 0 b]
    congr 1
    refine zX _ _ _ _ _ λk rk J _=>?_;rw[Nat.zero_add,Nat.zero_add]
    by_cases U:k=i
    subst U;rw[hun];simp
    rw[hoth k U]
    have:k<all.size:=by
     rw[<- hF.len]
     by_cases hh:k<rs.length
     exact hh
     rw[List.getElem?_eq_none (Nat.le_of_not_lt hh)] at J;cases J
    simp;omega
   have hb:=(hS.ndw hnd).2;obtain⟨i1,i2,i3⟩:=hF.ids i r hri hb;obtain⟨v',δ',cv,w',Y',σ',hk,hrun,H',hv,hoff⟩:=zl hT hW H1 (λb x h=>h) ⟨hfree i r hri hun hb r.id (Nat.le_refl _) ah,Nat.le_trans hpas i2⟩ g4
   cases hlt:ltD (r.id+32) δ' with
   | false=>rw[hlt] at hk;exact hk.elim
   | true=>
    rw[hlt] at hk;have hn:uH δ' n r.id<=n:=by cases δ'<;>simp[uH]<;>omega
    have:=hEnd (a.put o.dst cv) w' _ (λk=>by
     rw[setD];by_cases U:k=i
     rw[if_pos U]
     rw[if_neg U];exact hoth k U) ⟨⟨Y',σ',by rw[<- g3];exact(H'.mono hn).AL hv o.dst⟩,DF.put hd _ _⟩ hk
    refine .inl ?_;unfold Oper.wp;rcases hrun with hrun|⟨hrun,rfl⟩
    rw[hrun];exact this
    rw[hrun];exact this
  | false=>
  refine .inl (hS.sem hw hnd C _ Y σ a w stx n (SK l2) (H.rG (H.vals.eqv q2)) hd (hlk hw) (λhb=>?_) K Q λcv w' Y' σ' H' hoff hsame hv=>?_)
  obtain⟨g1,g2,g3⟩:=hF.ids i r hri hb;exact⟨hfree i r hri hun hb,Nat.le_trans hpas g2,g3⟩
  refine after hnd cv w' Y' σ' _ _ q2 H' (λb=>xY _ _ _) (λj rj hji hrj hbj b hb1 hb2 hn=>?_) hv
  cases hb:r.big with
  | false=>rw[hsame hb];exact hn
  | true=>
   rw[hoff _ ?_];· exact hn
   have e1:=(hF.ids i r hri hb).1;have e2:=(hF.ids j rj hrj hbj).1;rcases Nat.lt_or_ge i j with hij|hij
   have:=XZ hij hri hb e1 e2;omega
   have:=XZ (show j<i by omega) hrj hbj e2 e1;omega
 | false=>
  rw[hw] at hwb;rw[if_neg (by rw[hwb];simp)]
  have hδ:r.δ=[]:=by
   rcases hS.cls with ⟨_,h,_⟩|⟨h,_⟩|⟨h,_⟩
   exact h
   rw[hw] at h;cases h
   rw[hw] at h;cases h
  refine after (by cases h:r.nd with|false=>rfl|true=>rw[(hS.ndw h).1] at hw;cases hw) _ w Y σ ps stx (Ak.refl _) H (λb=>by rw[hδ];rfl) (λ_ _ _ _ _ _ _ _ h=>h) (by rw[hS.skip hw];simp[Rep])
theorem VS {all:Array Oper}(J:FU T all=true){listed:Array Bool}(hsz:listed.size=all.size)(hr:Region.ready .any all listed=[]):∀ j,listed.getD j true=true:=by
 intro j
 induction j using Nat.strongRecOn with
 | _ j ih=>
  cases h:listed.getD j true with
  | true=>rfl
  | false=>
   have I:j<listed.size:=by
    rcases Nat.lt_or_ge j listed.size with h'|h'
    exact h'
    simp[Array.getElem?_eq_none h'] at h
   have hj:all[j]?=some all[j]:=Array.getElem?_eq_getElem ah
   have:j∈Region.ready .any all listed:=mem_ready.2 ⟨h,_,hj,λe C g=>by
    have U:=(DN J hj).1 e C g;have:=ih e.on U;have h2:e.on<listed.size:=by omega
    simp[h2] at this |-;exact this⟩
   rw[hr] at this;cases this
theorem count_set {listed:Array Bool}{i k:Nat}(hi:listed.getD i true=false)(h:listed.toList.count false=k+1):(listed.setIfInBounds i true).toList.count false=k:=by
 have U:i<listed.size:=by
  rcases Nat.lt_or_ge i listed.size with h'|h'
  exact h'
  simp[Array.getElem?_eq_none h'] at hi
 have T:listed[i]=false:=by simpa [U] using hi
 rw[Array.toList_setIfInBounds,List.count_set (by simpa using U)];simp[T,h]
theorem aeK (hT:jq P T)(hW:Ci P){KE:Env->Prop}{C:Ctx T}{all:Array Oper}{rs:List Rec}{st:St}{nx n:Nat}{p f:List PV}{stf:St}(hchk:FU T all=true)(hch:ChD P T all all.toList rs p st nx [] f stf n)(hF:Facts P T all rs st nx n)(hpas:T.qf<=nx)(hkeys:∀ i b,jk (Am rs st i) b≠none->b<BR rs nx i){Q:Exit->Act->World->Prop}
  (hfin:aa3 P T all KE all.toList rs st f stf n)
  (hQ:∀ E a w,lL C E a w->KE E->Q .normal a w):∀ (fuel:Nat) (listed:Array Bool) (a:Act) (w:World),listed.size=all.size->listed.toList.count false=fuel ->
   (∀ j o,all[j]?=some o->listed.getD j true=true->∀ e∈o.after,Region.binds .any e=true->listed.getD e.on true=true) ->
   (∀ (j:Nat) (r:Rec),rs[j]?=some r->r.nd=true->listed.getD j true=false) ->
   acr C all rs st n p f listed a w->wpAny P .any all Q fuel listed a w:=by
 have g:=hfin.get
 have fin:∀ (listed:Array Bool) (a:Act) (w:World),listed.size=all.size->(∀ (j:Nat) (r:Rec),rs[j]?=some r->r.nd=true->listed.getD j true=false)->acr C all rs st n p f listed a w->Region.ready .any all listed=[]->Q .normal a w:=by
  intro listed a w hsz hu hs hr;have hl:=VS hchk hsz hr
  have hKE:KE ⟨f,stf,n⟩:=by
   rcases g with ⟨_,h⟩|⟨i,o,r,_,_,_,h4,h5,_⟩
   exact h
   have:=hu i r h4 h5;rw[hl i] at this;cases this
  obtain⟨hd,Y,σ,ps,stx,H,hlen,hdone,hrest,hst,_⟩:=hs;have H1:SW C w Y σ f a.tmps.toList stx n:=H.rG (H.vals.eqv ⟨by rw[hlen,(hch.len _ _).2],λt=>?_⟩)
  refine hQ _ a w ⟨⟨Y,σ,H1.ext λb x hb=>?_⟩,hd⟩ hKE;rw[hst b,<- hb,(hch.fin _ _).1,MS rs st rs.length 0 b]
  congr 1
  refine zX _ _ _ _ _ λk rk hrk _=>?_;rw[Nat.zero_add,Nat.zero_add,hl k]
  have:k<rs.length:=by
   by_cases hh:k<rs.length
   exact hh
   rw[List.getElem?_eq_none (Nat.le_of_not_lt hh)] at hrk;cases hrk
  simp[this]
  by_cases hex:∃ (j:Nat) (o:Oper),all[j]?=some o/\o.dst=some t
  obtain⟨j,o,hj,J⟩:=hex;exact hdone j o t hj J (hl j)
  refine(hrest t λj o hj J=>absurd ⟨j,o,hj,J⟩ hex).trans (hch.keep _ _ λo ho J=>?_);obtain⟨j,hj⟩:=List.getElem?_of_mem ho;exact hex ⟨j,o,by simpa using hj,J⟩
 intro fuel
 induction fuel with
 | zero=>
  intro listed a w hsz hc U hu hs
  have hr:Region.ready .any all listed=[]:=by
   rw[List.eq_nil_iff_forall_not_mem];intro i hi;have I:=(mem_ready.1 hi).1
   have hlt:i<listed.size:=by
    rcases Nat.lt_or_ge i listed.size with h'|h'
    exact h'
    simp[Array.getElem?_eq_none h'] at I
   have hget:listed[i]=false:=by simpa [hlt] using I
   have hm:false∈listed.toList:=by rw[<- hget];simp
   exact(List.count_eq_zero.1 hc) hm
  exact⟨hr,fin listed a w hsz hu hs hr⟩
 | succ fuel ih=>
  intro listed a w hsz hc U hu hs;refine⟨fin listed a w hsz hu hs,λi hi=>?_⟩;have I:=(mem_ready.1 hi).1;refine aa5 hT hW (KE:=KE) hchk hch hF hpas hsz U hkeys hs hi (λo r ho hr hn=>?_) (λa' w' E hall hA hE=>?_) λhnd a' w' hs'=>ih _ a' w' (by simpa using hsz) (count_set I hc) ?_ (λj r hj hn=>?_) hs'
  rcases g with ⟨h,_⟩|⟨i',o',r',a1,a2,a3,a4,a5,a6,a7,a8,a9⟩
  rw[h i r hr] at hn;cases hn
  have hii:i=i':=by
   by_cases hh:i=i'
   exact hh
   rw[a6 i r hh hr] at hn;cases hn
  subst hii;rw[hr] at a4;cases a4;rw[Array.getElem?_toList,ho] at a3;cases a3;exact⟨by simpa using a1,a7,a8,a9⟩
  have hrn:Region.ready .any all (listed.setIfInBounds i true)=[]:=by
   rw[List.eq_nil_iff_forall_not_mem];intro k hk;have:=(mem_ready.1 hk).1;rw[hall k] at this;cases this
  cases fuel with
  | zero=>exact⟨hrn,hQ E a' w' hA hE⟩
  | succ fuel=>exact⟨λ_=>hQ E a' w' hA hE,λk hk=>by rw[hrn] at hk;cases hk⟩
  rotate_left
  by_cases hji:j=i
  subst hji;rw[hnd r hj] at hn;cases hn
  rw[getD_set_ne true (Ne.symm hji)];exact hu j r hj hn
  intro j o hj hlj e he hb;rw[xu I] at hlj |-;rcases hlj with h|h
  subst h;obtain⟨_,o',ho',hall⟩:=mem_ready.1 hi;rw[hj] at ho';cases ho';have:=hall e he hb;refine .inr ?_;rcases Nat.lt_or_ge e.on listed.size with h'|h'
  simp[h'] at this |-;exact this
  simp[Array.getElem?_eq_none h'] at this
  exact .inr (U j o hj h e he hb)
theorem U3 {n:Nat}:∀ (st:St),ltS n st=true->∀ b,jk st b≠none->b<n
 | [],_,b,h=>absurd rfl h
 | (c,x)::st,h,b,hb=>by
  simp only[ltS,Bool.and_eq_true,Nat.blt_eq] at h;simp only[jk] at hb
  by_cases hc:c=b
  rw[<- hc];exact h.1
  rw[Q4 hc] at hb;exact U3 st h.2 b hb
theorem aa6 (hT:jq P T)(hW:Ci P){id:Nat}{l:Array Oper}{E:Env}{K:Env->Prop}(g:FU T l=true)(U:ltS E.next E.st=true)(h:aaQ T (iW.jI P T) l l.toList [] E K) :
  ∀ (C:Ctx T) a w,lL C E a w->∀ Q:Exit->Act->World->Prop,(∀ E' a' w',lL C E' a' w'->K E'->Q .normal a' w')->(Code.region id l true).wp P Q a w:=by
 intro C a w hA Q hQ;obtain⟨rs,f,stf,nxf,I,hK⟩:=FY hT hW _ _ _ _ h;obtain⟨⟨Y,σ,H⟩,hd⟩:=hA;have U:=U3 _ U;have hF:=aeJ I U;have hle:E.next<=nxf:=by rw[(I.fin _ _).2];exact OB _ _ _
 have hrep:∀ j,j<l.size->(Array.replicate l.size false).getD j true=false:=λj hj=>by simp[hj]
 have hno:∀ j o,l[j]?=some o->(Array.replicate l.size false).getD j true=true->False:=by
  intro j o hj J
  have U:j<l.size:=by
   rcases Nat.lt_or_ge j l.size with h'|h'
   exact h'
   simp[Array.getElem?_eq_none h'] at hj
  rw[hrep j U] at J;cases J
 refine wp_region_any hW.mixed (aeK hT hW g I hF H.fix.1 (U0 _ _ I U) (C:=C) hK (λE a' w' hA' hE=>hQ _ a' w' hA' hE) l.size _ a _ aC ?_ ?_ (λj r hr hn=>hrep j ?_) ?_)
 simp
 intro j o hj J;exact(hno j o hj J).elim
 rw[<- hF.len]
 by_cases hh:j<rs.length
 exact hh
 rw[List.getElem?_eq_none (Nat.le_of_not_lt hh)] at hr;cases hr
 refine⟨hd,Y,σ,E.tmps,E.st,(H.drawn _).mono hle,rfl,?_,λt _=>Eqv.refl _,λb=>?_,λj r hr _ hb=>?_⟩
 intro j o t hj hdst J;exact(hno j o hj J).elim
 rw[Jc _ _ _ _ λk r hr hD=>?_];· rfl
 rw[Nat.zero_add] at hD
 have:k<l.size:=by
  rw[<- hF.len]
  by_cases hh:k<rs.length
  exact hh
  rw[List.getElem?_eq_none (Nat.le_of_not_lt hh)] at hr;cases hr
 rw[hrep k this] at hD;cases hD
 exact λb hb1 _=>H.next b (Nat.le_trans (hF.ids j r hr hb).2.1 hb1)
end
end Go.Pv
namespace Go.Pv
open Go
def X0 (o:Obj):Prop:=(∀ arr ty,o≠.cells arr ty (0,0))/\∀ es ck,o≠.map es ck
theorem Ed.cells {w:World}{Y:Nat->Prop}{σ:Sg}{st:St}(hs:EE w Y σ st){k:Nat}(h:Ed σ st k):(∃ arr ty,w.heap[k]?=some (.cells arr ty (0,0)))\/∃ T J,w.heap[k]?=some (.map T J):=by
 obtain⟨b,x,l,h1,h2,rfl⟩:=h;rcases hs.blk b x h1 with ⟨l',U,hB⟩|⟨hn,_⟩
 rw[h2] at U;cases U;cases x<;>(unfold gW at hB;first|(obtain⟨arr,ty,I,_⟩:=hB.1.blk;exact .inl ⟨arr,ty,I⟩)|(obtain⟨T,J,I,_⟩:=hB.1;exact .inr ⟨T,J,I⟩))
 rw[h2] at hn;cases hn
theorem SW.kept {T' : Tab}{w w' : World}{Y Y' : Nat->Prop}{σ σ' : Sg}{qs:List PV}{us:List Value}{st st' : St}{C : Nat}(hs:EE w Y σ st)(H' : SW (xR T' w Y σ st) w' Y' σ' qs us st' C){k:Nat}{o:Obj}(ho:w.heap[k]?=some o)(hc:X0 o):w'.heap[k]?=some o/\(Y k->Y' k):=by
 have T:k<w.heap.size:=(Array.getElem?_eq_some_iff.1 ho).1
 have U:¬ Ed σ st k:=λh=>by
  rcases h.cells hs with ⟨arr,ty,h1⟩|⟨J,I,h1⟩
  rw[ho] at h1;cases h1;exact hc.1 arr ty rfl
  rw[ho] at h1;cases h1;exact hc.2 J I rfl
 exact⟨by rw[H'.qm.block k T λh=>U h.2];exact ho,λhy=>H'.y0 k ⟨hy,U⟩⟩
theorem KR.step {B:Nat}{T' : Tab}{D:List Nat}{w w' : World}{Y Y' : Nat->Prop}{σ σ' : Sg}{qs:List PV}{us:List Value}{st st' : St}{J : Nat}(h:KR B D w Y)(hs:EE w Y σ st)(H' : SW (xR T' w Y σ st) w' Y' σ' qs us st' J):KR B D w' Y' :=
 ⟨h.1,λr hr=>by
  obtain⟨h0,h1,h2⟩:=h.2 r hr;obtain⟨U,T⟩:=H'.kept hs h2 ⟨λ_ _ e=>dw,λ_ _ e=>dw⟩;exact⟨h0,T h1,U⟩⟩
def NNs (st:St):Prop:=∀ b sz rows,jk st b≠some (.mg sz rows)
def aeL (P:Program)(T:Tab)(all:Array Oper)(o:Oper)(er:List PV)(lk:Nat->Option mO)(id m:Nat)(v:PV)(δ:Dl):Prop := ∀ (C:Ctx T) ps Y σ (a:Act) w st n,(∀ t∈o.looksAt all,jD ps t=jD er t)->SW C w Y σ ps a.tmps.toList st n->NNs st->(∀ b x,lk b=some x->jk st b=some x) -> (∀ b,id<=b->b<id+m->σ b=none/\jk st b=none)->T.qf<=id->id+m<=n->∀ next Q,(∀ cv w' Y' σ' st',SW C w' Y' σ' ps a.tmps.toList st' n->(∀ b,jk st' b=(match kM δ b with|some x=>x|none=>jk st b)) -> (∀ b,(b<id\/id+m<=b)->σ' b=σ b)->Rep w' Y' σ' v cv->(∀ B D,KR B D w Y->KR B D w' Y')->next (a.put o.dst cv) w')->o.wp P a w next Q
def aiz (T:Tab)(all:Array Oper)(o:Oper)(er:List PV)(wb:Bool):Prop := ∀ (C:Ctx T) ps Y σ (a:Act) w st n,(∀ t∈o.looksAt all,jD ps t=jD er t)->SW C w Y σ ps a.tmps.toList st n->Region.wanted o (yielded all a.tmps)=wb
structure aa7 (P:Program)(T:Tab)(all:Array Oper)(o:Oper)(r:Rec)(p:List PV)(st:St)(nx m:Nat):Prop where
 id:r.id=nx
 gd:aiz T all o p r.wb
 sem:r.wb=true->aeL P T all o p r.lk nx m r.v r.δ
 skip:r.wb=false->r.v=.undef/\r.δ=[]
 lk:∀ b x,r.lk b=some x->jk st b=some x
 key:∀ b,kM r.δ b≠none->(nx<=b/\b<nx+m)\/jk st b≠none
 nn:∀ b sz rows,kM r.δ b≠some (some (.mg sz rows))
def ChF (P:Program)(T:Tab)(all:Array Oper):List Oper->List Rec->List PV->St->Nat->List PV->St->Nat->Prop
 | [],[],p,st,nx,f,stf,nxf=>p=f/\st=stf/\nx=nxf
 | o::l,r::rs,p,st,nx,f,stf,nxf=>∃ m,aa7 P T all o r p st nx m/\ChF P T all l rs (AL p o.dst r.v) (jJ r.δ st) (nx+m) f stf nxf
 | _,_,_,_,_,_,_,_=>False
theorem U4 {a b:Bool}(h:(a&&b)=true):a=true/\b=true:=by rw[Bool.and_eq_true] at h;exact h
theorem PN:∀ (l:List Nat) (b:Nat),VO l b=true↔b∈l
 | [],b=>by simp;rfl
 | c::l,b=>by
  have e:VO (c::l) b=Bool.rec (motive:=λ_=>Bool) (VO l b) true (Nat.beq c b):=rfl;rw[e]
  by_cases h:c=b
  subst h;simp
  rw[Q4 h];show VO l b=true↔_;rw[PN l b];simp[Ne.symm h]
section
variable {P:Program}{T:Tab}
theorem SW.PO {C:Ctx T}{w:World}{Y:Nat->Prop}{σ:Sg}{ps:List PV}{vs:List Value}{st:St}{n:Nat}(H:SW C w Y σ ps vs st n)(hn:NNs st):SW (xR T w Y σ st) w Y σ ps vs st n :=
 ⟨H.vals,H.store,H.next,H.vJ,λ_ h=>h.1,λk h=>⟨H.vJ k h.1,h.2⟩,λk h _=>by
  by_cases hi:Ed σ st k
  exact .inr ⟨h,hi⟩
  exact .inl ⟨h,hi⟩,KL.refl _ w,λb x l h1 h2=>.inr ⟨b,x,l,h1,h2,rfl⟩,H.wU,⟨H.fix.1,λ_ _=>rfl⟩,Aj.none hn⟩
theorem SW.Jd {C:Ctx T}{w w' : World}{Y Y' : Nat->Prop}{σ σ' : Sg}{ps qs:List PV}{vs us:List Value}{st st' : St}{n J : Nat}(H:SW C w Y σ ps vs st n)
  (H' : SW (xR T w Y σ st) w' Y' σ' qs us st' J):SW C w' Y' σ' qs us st' J:=by
 have excl:∀ k,k<w.heap.size->Y' k->Y k:=by
  intro k hk hy;rcases H'.wS k hy hk with h|h
  exact h.1
  exact h.1
 have away:∀ k,C.Y0 k->¬ Ed σ st k:=λk hk ⟨b,x,l,h1,h2,h3⟩=>H.away h1 h2 (h3 ▸ hk)
 have old:∀ k,(w.heap.size<=k\/Ed σ st k)->C.w0.heap.size<=k\/C.L k:=λk h=>by
  rcases h with h|⟨b,x,l,h1,h2,h3⟩
  exact .inl (Nat.le_trans H.qm.size h)
  rw[<- h3];exact H.own b x l h1 h2
 refine⟨H'.vals,H'.store,H'.next,H'.vJ,λk hk=>H'.y0 k ⟨H.y0 k hk,away k hk⟩,H.c0,λk hk U=>H.wS k (excl k (Nat.lt_of_lt_of_le U H.qm.size) hk) U,?_,λb x l h1 h2=>old _ (H'.own b x l h1 h2),H'.wU,⟨H'.fix.1,λb I=>?_⟩,?_⟩
 refine⟨by rw[H'.qm.os];exact H.qm.os,by rw[H'.qm.tape];exact H.qm.tape,by rw[H'.qm.output];exact H.qm.output,Nat.le_trans H.qm.size H'.qm.size,λk hk hM=>?_⟩;rw[H'.qm.block k (Nat.lt_of_lt_of_le hk H.qm.size) λh=>?_]
 exact H.qm.block k hk hM
 obtain⟨h1,h2⟩:=h;rcases H.wS k h1 hk with h3|h3
 exact away k h3 h2
 exact hM h3
 rw[H'.fix.2 b I];exact H.fix.2 b I
 exact⟨H'.nest.rep,λb r c h sz g k=>old _ (H'.nest.old b r c h sz g k),H'.nest.one,H'.nest.sep⟩
def ahC (r:Rec)(tc:Tc):Prop:=(∀ b,r.lk b≠none->b∈tc.1)/\(∀ b,kM r.δ b≠none->b∈tc.2.2)/\(∀ b∈tc.2.2,b∈tc.2.1)
theorem Rq:∀ (l m:List Nat),meets l m=true↔∃ b,b∈l/\b∈m
 | [],m=>by
  constructor;· intro h;cases h
  rintro⟨b,h,_⟩;cases h
 | c::l,m=>by
  have e:meets (c::l) m=Bool.rec (motive:=λ_=>Bool) (meets l m) true (VO m c):=rfl;rw[e]
  cases hc:VO m c with
  | true=>exact⟨λ_=>⟨c,by simp,(PN _ _).1 hc⟩,λ_=>rfl⟩
  | false=>
   show meets l m=true↔_;rw[Rq l m];constructor
   rintro⟨b,h1,h2⟩;exact⟨b,List.mem_cons_of_mem _ h1,h2⟩
   rintro⟨b,h1,h2⟩
   rcases List.mem_cons.1 h1 with rfl|h1
   rw[(PN _ _).2 h2] at hc;cases hc
   exact⟨b,h1,h2⟩
theorem WT {B:List (List Nat)}{i:Nat}{x:Tc}:∀ (l:List Tc) (k:Nat),aei B i x l k=true->∀ (j:Nat) (y:Tc),l[j]?=some y->pairT B i (k+j) x y=true
 | [],k,h,j,y,hj=>by simp at hj
 | z::l,k,h,0,y,hj=>by
  simp at hj;subst hj;unfold aei at h;exact(U4 h).1
 | z::l,k,h,j+1,y,hj=>by
  unfold aei at h;have:=WT l (k+1) (U4 h).2 j y dD
  rwa [show k+(j+1)=k+1+j by omega]
theorem WU {B:List (List Nat)}:∀ (l:List Tc) (i:Nat),ac6 B l i=true->∀ (a b:Nat) (x y:Tc),a<b->l[a]?=some x->l[b]?=some y->pairT B (i+a) (i+b) x y=true
 | [],i,h,a,b,x,y,_,ha,_=>by simp at ha
 | z::l,i,h,0,b+1,x,y,_,ha,hb=>by
  simp at ha;subst ha;unfold ac6 at h;have:=WT l (i+1) (U4 h).1 b y (by simpa using hb)
  rwa [show i+1+b=i+(b+1) by omega] at this
 | z::l,i,h,a+1,b+1,x,y,hab,ha,hb=>by
  unfold ac6 at h;have:=WU l (i+1) (U4 h).2 a b x y ah (by simpa using ha) (by simpa using hb)
  rwa [show i+1+a=i+(a+1) by omega,show i+1+b=i+(b+1) by omega] at this
 | z::l,i,h,_,0,x,y,hab,_,_=>by omega
theorem aa8 {all:Array Oper}{i k:Nat}{T U:Rec}{x y:Tc}(hx:ahC T x)(hy:ahC U y)(h:pairT (UB all.toList []) i k x y=true)
  (hc:∃ b,(kM T.δ b≠none/\(U.lk b≠none\/kM U.δ b≠none))\/(T.lk b≠none/\kM U.δ b≠none)):Bef all i k:=by
 have key:(meets x.2.2 y.1 || (meets x.2.2 y.2.2 || meets y.2.2 x.1))=true:=by
  obtain⟨b,h1⟩:=hc;simp only[Bool.or_eq_true,Rq];rcases h1 with ⟨h1,h2|h2⟩|⟨h1,h2⟩
  exact .inl ⟨b,hx.2.1 b h1,hy.1 b h2⟩
  exact .inr (.inl ⟨b,hx.2.1 b h1,hy.2.1 b h2⟩)
  exact .inr (.inr ⟨b,hy.2.1 b h2,hx.1 b h1⟩)
 have sup:(meets x.2.1 y.1 || (meets x.2.1 y.2.1 || meets y.2.1 x.1))=true:=by
  simp only[Bool.or_eq_true,Rq] at key |-;rcases key with ⟨b,h1,h2⟩|⟨b,h1,h2⟩|⟨b,h1,h2⟩
  exact .inl ⟨b,hx.2.2 b h1,h2⟩
  exact .inr (.inl ⟨b,hx.2.2 b h1,hy.2.2 b h2⟩)
  exact .inr (.inr ⟨b,hy.2.2 b h1,h2⟩)
 unfold pairT at h;rw[sup,key] at h;simp only at h
 have h:VO (BV (UB all.toList []) k) i=true:=by
  cases hh:VO (BV (UB all.toList []) k) i with
  | true=>rfl
  | false=>rw[hh] at h;cases h
 exact JG all.toList [] (λk o hk=>by simpa using hk) (λi b J=>by simp[BV] at J) k i ((PN _ _).1 h)
theorem AO {all:Array Oper}(h:FT all all.toList 0=true){i:Nat}{o:Oper}(hi:all[i]?=some o) :
  (∀ e∈o.after,Region.binds .any e=true->e.on<i)/\∀ (j:Nat) (p:Oper),all[j]?=some p->j≠i->∀ d,p.dst=some d->o.dst≠some d /\
   (d∈o.looksAt all->(∃ e∈o.after,Region.binds .any e=true/\e.on=j)\/(∃ e∈p.after,Region.binds .any e=true/\e.on=i)):=by
 obtain⟨h1,h2⟩:=Ld all.toList 0 h i o cu;rw[Nat.zero_add] at h1 h2;refine⟨h1,λj p hp T d C=>?_⟩;have:=h2 j p hp;have J:Nat.beq i j=false:=Q4 λe=>T e.symm;simp only[Uy,J,C,Bool.false_or,Bool.and_eq_true,Bool.or_eq_true,bne_iff_ne,ne_eq,Bool.not_eq_true',List.contains_eq_mem,decide_eq_false_iff_not] at this;refine⟨this.1,λg=>?_⟩;rcases this.2 with (hh|hh)|hh
 exact absurd g hh
 obtain⟨e,I,U⟩:=Array.any_eq_true'.1 hh;simp only[Bool.and_eq_true] at U;exact .inl ⟨e,I,U.1,Nat.eq_of_beq_eq_true U.2⟩
 obtain⟨e,I,U⟩:=Array.any_eq_true'.1 hh;simp only[Bool.and_eq_true] at U;exact .inr ⟨e,I,U.1,Nat.eq_of_beq_eq_true U.2⟩
theorem ChF.len {all:Array Oper}:∀ (l:List Oper) (rs:List Rec) {p:List PV} {st:St} {nx:Nat} {f:List PV} {J:St} {U:Nat},ChF P T all l rs p st nx f J U->rs.length=l.length/\f.length=p.length/\nx<=U
 | [],[],_,_,_,_,_,_,h=>⟨rfl,by rw[h.1],by rw[h.2.2];exact Nat.le_refl _⟩
 | o::l,r::rs,_,_,_,_,_,_,⟨m,h,h'⟩=>by
  obtain⟨h1,h2,I⟩:=ChF.len l rs h';exact⟨by simp[h1],by rw[h2,vC],by omega⟩
 | [],_::_,_,_,_,_,_,_,h=>h.elim
 | _::_,[],_,_,_,_,_,_,h=>h.elim
theorem ChF.keep {all:Array Oper}{t:Nat}:∀ (l:List Oper) (rs:List Rec) {p:List PV} {st:St} {nx:Nat} {f:List PV} {U:St} {J:Nat},ChF P T all l rs p st nx f U J->(∀ o∈l,o.dst≠some t)->jD p t=jD f t
 | [],[],_,_,_,_,_,_,h,_=>by rw[h.1]
 | o::l,r::rs,_,_,_,_,_,_,⟨m,h,h'⟩,hn=>by
  have:=ChF.keep l rs h' λo ho=>hn o (by simp[ho]);rw[Dk (hn o aC)] at this;exact this
 | [],_::_,_,_,_,_,_,_,h,_=>h.elim
 | _::_,[],_,_,_,_,_,_,h,_=>h.elim
def idA (rs:List Rec)(nxf:Nat)(i:Nat):Nat:=match rs[i]? with|some r=>r.id|none=>nxf
theorem ChF.get {all:Array Oper}:∀ (l:List Oper) (rs:List Rec) {p:List PV} {st:St} {nx:Nat} {f:List PV} {J:St} {U:Nat},ChF P T all l rs p st nx f J U->∀ (i:Nat) (o:Oper),l[i]?=some o ->
  ∃ r q m,rs[i]?=some r/\q.length=p.length/\aa7 P T all o r q (Am rs st i) (idA rs U i) m/\idA rs U (i+1)=idA rs U i+m/\nx<=idA rs U i /\
   (∀ t,(∀ j oj,j<i->l[j]?=some oj->oj.dst≠some t)->jD p t=jD q t) /\
   (∀ t,(∀ j oj,i<=j->l[j]?=some oj->oj.dst≠some t)->jD q t=jD f t) /\
   (∀ d,o.dst=some d->d<p.length->(∀ j oj,i<j->l[j]?=some oj->oj.dst≠some d)->r.v=jD f d)
 | [],_,_,_,_,_,_,_,_,i,o,hi=>by simp at hi
 | _::_,[],_,_,_,_,_,_,h,_,_,_=>h.elim
 | o'::l,r::rs,p,st,nx,f,J,U,⟨m,h1,h6⟩,0,o,hi=>by
  simp at hi;subst hi;have hid:idA (r::rs) U 0=nx:=by simp[idA,h1.id]
  have C:idA (r::rs) U 1=nx+m:=by
   cases l with
   | nil=>cases rs with
    | nil=>simp[idA,h6.2.2]
    | cons _ _=>exact h6.elim
   | cons o2 l=>cases rs with
    | nil=>exact h6.elim
    | cons r2 rs=>obtain⟨m2,h7,_⟩:=h6;simp[idA,h7.id]
  refine⟨r,p,m,rfl,rfl,by rw[hid];exact h1,by rw[hid,C],by rw[hid];exact Nat.le_refl _,λt _=>rfl,λt ht=>?_,λd g I hn=>?_⟩
  have hk:=ChF.keep l rs h6 (t:=t) λo ho=>by
   obtain⟨j,hj⟩:=List.getElem?_of_mem ho;exact ht (j+1) o ah dD
  rw[Dk (ht 0 o' ah aC)] at hk;exact hk
  have hk:=ChF.keep l rs h6 (t:=d) λo ho=>by
   obtain⟨j,hj⟩:=List.getElem?_of_mem ho;exact hn (j+1) o ah dD
  rw[g] at hk;simp only[AL,xU] at hk;rw[if_pos ⟨trivial,I⟩] at hk;exact hk
 | o'::l,r::rs,p,st,nx,f,J,U,⟨m,h1,h6⟩,i+1,o,hi=>by
  obtain⟨r',q,m',a0,a1,a2,a3,a4,a6,a7,a8⟩:=ChF.get l rs h6 i o cu;have hl:(AL p o'.dst r.v).length=p.length:=by rw[vC]
  have e1:∀ j,idA (r::rs) U (j+1)=idA rs U j:=λj=>by simp[idA]
  refine⟨r',q,m',by simpa using a0,by rw[a1,hl],by rw[e1];exact a2,by rw[e1,e1];exact a3,by rw[e1];omega,λt ht=>?_,λt ht=>?_,λd g I hn=>?_⟩
  have hk:=a6 t λj oj hj hoj=>ht (j+1) oj ah dn;rw[Dk (ht 0 o' ah aC)] at hk;exact hk
  exact a7 t λj oj hj hoj=>ht (j+1) oj ah dn
  exact a8 d g (by rw[hl];exact I) λj oj hj hoj=>hn (j+1) oj ah dn
theorem ChF.fin {all:Array Oper}:∀ (l:List Oper) (rs:List Rec) {p:List PV} {st:St} {nx:Nat} {f:List PV} {U:St} {J:Nat},ChF P T all l rs p st nx f U J->U=Am rs st rs.length
 | [],[],_,_,_,_,_,_,h=>h.2.1.symm
 | o::l,r::rs,_,_,_,_,_,_,⟨m,h,h'⟩=>ChF.fin l rs h'
 | [],_::_,_,_,_,_,_,_,h=>h.elim
 | _::_,[],_,_,_,_,_,_,h=>h.elim
structure JH (P:Program)(T:Tab)(all:Array Oper)(rs:List Rec)(p:List PV)(st:St)(nx:Nat)(f:List PV)(n:Nat):Prop where
 chk:FT all all.toList 0=true
 len:rs.length=all.size
 get:∀ (i:Nat) (o:Oper),all[i]?=some o->∃ r q m,rs[i]?=some r/\q.length=p.length/\aa7 P T all o r q (Am rs st i) (idA rs n i) m/\idA rs n (i+1)=idA rs n i+m/\nx<=idA rs n i /\
   (∀ t,(∀ j oj,j<i->all[j]?=some oj->oj.dst≠some t)->jD p t=jD q t) /\
   (∀ t,(∀ j oj,i<=j->all[j]?=some oj->oj.dst≠some t)->jD q t=jD f t) /\
   (∀ d,o.dst=some d->d<p.length->(∀ j oj,i<j->all[j]?=some oj->oj.dst≠some d)->r.v=jD f d)
 agt:f.length=p.length
 keep:∀ t,(∀ o∈all.toList,o.dst≠some t)->jD p t=jD f t
 old:∀ b,nx<=b->jk st b=none
 clash:∀ (i k:Nat) (ri rk:Rec),i<k->rs[i]?=some ri->rs[k]?=some rk->(∃ b,(kM ri.δ b≠none/\(rk.lk b≠none\/kM rk.δ b≠none))\/(ri.lk b≠none/\kM rk.δ b≠none))->Bef all i k
theorem JH.oper {all:Array Oper}{rs:List Rec}{p:List PV}{st:St}{nx:Nat}{f:List PV}{n:Nat}(F:JH P T all rs p st nx f n){k:Nat}{U:Rec}(h:rs[k]?=some U):∃ ok,all[k]?=some ok:=by
 have:k<all.size:=by
  rw[<- F.len]
  by_cases hh:k<rs.length
  exact hh
  rw[List.getElem?_eq_none (Nat.le_of_not_lt hh)] at h;cases h
 exact⟨_,Array.getElem?_eq_getElem this⟩
theorem JH.mono {all:Array Oper}{rs:List Rec}{p:List PV}{st:St}{nx:Nat}{f:List PV}{n:Nat}(F:JH P T all rs p st nx f n):∀ {i j:Nat},i<=j->j<=all.size->idA rs n i<=idA rs n j:=by
 intro i j h
 induction h with
 | refl=>intro _;exact Nat.le_refl _
 | step h ih=>
  rename_i m;intro U;have h1:=ih ah;obtain⟨r,q,J,_,_,_,h2,_⟩:=F.get m _ (Array.getElem?_eq_getElem ah);rw[h2];omega
theorem JH.dom {all:Array Oper}{rs:List Rec}{p:List PV}{st:St}{nx:Nat}{f:List PV}{n:Nat}(F:JH P T all rs p st nx f n){j:Nat}{rj:Rec}(hj:rs[j]?=some rj){b:Nat}(h1:idA rs n j<=b)(h2:b<idA rs n (j+1)):∀ i,i<=all.size->jk (Am rs st i) b≠none->j<i/\kM rj.δ b≠none:=by
 have hjs:j<all.size:=by
  obtain⟨o,ho⟩:=F.oper hj
  by_cases h:j<all.size
  exact h
  rw[Array.getElem?_eq_none (Nat.le_of_not_lt h)] at ho;cases ho
 intro i
 induction i with
 | zero=>
  intro _ h
  exfalso
  obtain⟨_,_,_,_,_,_,_,g,_⟩:=F.get j _ (Array.getElem?_eq_getElem hjs);have C:=F.old b ah;have e:Am rs st 0=st:=by cases rs<;>rfl
  rw[e] at h;exact h C
 | succ i ih=>
  intro hi h;obtain⟨U,q,m,I,_,hS,hm,_⟩:=F.get i _ (Array.getElem?_eq_getElem ah)
  have J:∀ (rs:List Rec) (st:St) (i:Nat) (U:Rec),rs[i]?=some U->Am rs st (i+1)=jJ U.δ (Am rs st i):=by
   intro rs
   induction rs with
   | nil=>intro st i U h;simp at h
   | cons r rs ih=>
    intro st i U h
    cases i with
    | zero=>simp at h;subst h;cases rs<;>rfl
    | succ i=>simp only[Am];exact ih _ i U bW
  rw[J rs st i U I,xY] at h
  have old:jk (Am rs st i) b≠none->j<i+1/\kM rj.δ b≠none:=λh=>by
   obtain⟨g,C⟩:=ih ah h;exact⟨by omega,C⟩
  cases hl:kM U.δ b with
  | none=>rw[hl] at h;exact old h
  | some x=>
   rcases hS.key b fA with g|g
    
   have hij:i=j:=by
    rcases Nat.lt_trichotomy i j with C|C|C
    have:=F.mono (i:=i+1) (j:=j) ah ah;omega
    exact C
    have:=F.mono (i:=j+1) (j:=i) ah ah;omega
   subst hij;rw[hj] at I;cases I;exact⟨by omega,by rw[hl];simp⟩
   exact old g
def X3 {T:Tab}(C:Ctx T)(all:Array Oper)(rs:List Rec)(st:St)(n:Nat)(p f:List PV)(D:List Nat)(dl:List Deferred)(listed:Array Bool)(a:Act)(w:World):Prop := a.defers=dl/\∃ Y σ ps stx,SW C w Y σ ps a.tmps.toList stx n/\ps.length=p.length /\ (∀ j o t,all[j]?=some o->o.dst=some t->listed.getD j true=true->jD ps t=jD f t) /\ (∀ t,(∀ j o,all[j]?=some o->o.dst=some t->listed.getD j true=false)->jD ps t=jD p t) /\ (∀ b,jk stx b=orS st b (lst rs (λk=>listed.getD k true) 0 b)) /\ (∀ j,j<all.size->listed.getD j true=false->∀ b,idA rs n j<=b->b<idA rs n (j+1)->σ b=none)/\KR C.w0.heap.size D w Y/\NNs stx
theorem ZO {nx:Nat}(hpas:T.qf<=nx){C:Ctx T}{all:Array Oper}{rs:List Rec}{st:St}{n:Nat}{p f:List PV}{D:List Nat}{dl:List Deferred}(F:JH P T all rs p st nx f n){listed:Array Bool}{a:Act}{w:World}
  (hsz:listed.size=all.size) (hclosed:∀ j o,all[j]?=some o->listed.getD j true=true->∀ e∈o.after,Region.binds .any e=true->listed.getD e.on true=true)
  (hs:X3 C all rs st n p f D dl listed a w) {i:Nat} (hr:i∈Region.ready .any all listed) {Q:Exit->Act->World->Prop} {K:Act->World->Prop}
  (hK:∀ a' w',X3 C all rs st n p f D dl (listed.setIfInBounds i true) a' w'->K a' w'):wpOp P all Q i K a w:=by
 obtain⟨hun,o,ho,hall⟩:=mem_ready.1 hr;obtain⟨hd,Y,σ,ps,stx,H,hlen,hdone,hrest,hst,hfree,hD,hnn⟩:=hs
 have hilt:i<listed.size:=by
  rcases Nat.lt_or_ge i listed.size with h|h
  exact h
  simp[Array.getElem?_eq_none h] at hun
 obtain⟨r,q,m,hri,qlen,hS,hm,hnx,h6,h7,h8⟩:=F.get i o ho;have hspec:=AO F.chk ho
 have hall' : ∀ e∈o.after,Region.binds .any e=true->listed.getD e.on true=true:=by
  intro e he hb;have:=hall e he hb;rcases Nat.lt_or_ge e.on listed.size with h|h
  simp[h] at this |-;exact this
  simp[Array.getElem?_eq_none h]
 have befIn:∀ k,Bef all k i->listed.getD k true=true:=λk h=>h.ready hclosed o ho hall'
 have befOut:∀ k,Bef all i k->listed.getD k true=false:=λk h=>by
  cases hk:listed.getD k true with
  | false=>rfl
  | true=>have:=h.listed hclosed hk;rw[hun] at this;cases this
 have look:∀ t∈o.looksAt all,jD ps t=jD q t:=by
  intro t ht
  by_cases hex:∃ j pj,all[j]?=some pj/\j≠i/\pj.dst=some t
  obtain⟨j,pj,hj,hne,I⟩:=hex;obtain⟨hdd,hor⟩:=hspec.2 j pj hj hne t I
  have uniq:∀ k pk,all[k]?=some pk->pk.dst=some t->k=j:=by
   intro k pk hk J
   by_cases hkj:k=j
   exact hkj
   exact absurd J ((AO F.chk hk).2 j pj hj (Ne.symm hkj) t I).1
  rcases hor ht with ⟨e,he,hb,heq⟩|⟨e,he,hb,heq⟩
  have hlj:listed.getD j true=true:=by
   have:=hall' e he hb
   rwa [heq] at this
  have hji:j<i:=by rw[<- heq];exact hspec.1 e he hb
  have O:=hdone j pj t hj I hlj
  have:=h7 t λk pk hk hpk J=>by
   have:=uniq k pk hpk J;omega
  exact O.trans this.symm
  have hij:i<j:=by rw[<- heq];exact(AO F.chk hj).1 e he hb
  have hju:listed.getD j true=false:=by
   cases hlj:listed.getD j true with
   | false=>rfl
   | true=>
    have:=hclosed j pj hj hlj e he hb;rw[heq,hun] at this;cases this
  have hp:=hrest t λk pk hk J=>by
   rw[uniq k pk hk J];exact hju
  have:=h6 t λk pk hk hpk J=>by
   have:=uniq k pk hpk J;omega
  exact hp.trans this
  have hp:=hrest t λk pk hk J=>by
   by_cases U:k=i
   rw[U];exact hun
   exact absurd ⟨k,pk,hk,U,J⟩ hex
  have:=h6 t λk pk hk hpk J=>hex ⟨k,pk,hpk,by omega,J⟩;exact hp.trans this
 have g:∀ b x,r.lk b=some x->jk stx b=some x:=by
  intro b x hb;have c1:=hS.lk b x hb;rw[hst b,<- c1,MS rs st i 0 b]
  congr 1
  refine zX _ _ _ _ _ λk rk hrk hkb=>?_;rw[Nat.zero_add,Nat.zero_add];rcases Nat.lt_trichotomy k i with U|U|U
  simp only[U,decide_true];exact befIn k (F.clash k i rk r U hrk hri ⟨b,.inl ⟨hkb,.inl (by rw[hb];simp)⟩⟩)
  subst U;simp only[Nat.lt_irrefl,decide_false];exact hun
  have:¬ k<i:=by omega
  simp only[this,decide_false];exact befOut k (F.clash i k r rk U hri hrk ⟨b,.inr ⟨by rw[hb];simp,hkb⟩⟩)
 have hisz:i<all.size:=by omega
 have hwin:∀ b,idA rs n i<=b->b<idA rs n i+m->σ b=none/\jk stx b=none:=by
  intro b h1 h2;refine⟨hfree i hisz hun b h1 (by rw[hm];exact h2),?_⟩;rw[hst b]
  have hno:lst rs (λk=>listed.getD k true) 0 b=none:=by
   refine Jc _ _ _ _ λk rk hrk g=>?_;rw[Nat.zero_add] at g
   cases hx:kM rk.δ b with
   | none=>rfl
   | some x=>
    exfalso
    obtain⟨ok,hok⟩:=F.oper hrk;obtain⟨rk',_,mk,hrk',_,hSk,hmk,_⟩:=F.get k ok hok;rw[hrk] at hrk';cases hrk'
    have hksz:k<all.size:=by
     by_cases h:k<all.size
     exact h
     rw[Array.getElem?_eq_none (Nat.le_of_not_lt h)] at hok;cases hok
    rcases hSk.key b (by rw[hx];simp) with h3|h3
    have:k=i:=by
     rcases Nat.lt_trichotomy k i with h4|h4|h4
     have:=F.mono (i:=k+1) (j:=i) ah ah;omega
     exact h4
     have:=F.mono (i:=i+1) (j:=k) ah ah;omega
    subst this;rw[hun] at g;cases g
    obtain⟨h4,h5⟩:=F.dom hri h1 (by rw[hm];exact h2) k ah h3;have:=befOut k (F.clash i k r rk h4 hri hrk ⟨b,.inl ⟨h5,.inr (by rw[hx];simp)⟩⟩);rw[g] at this;cases this
  rw[hno];exact F.old b ah
 have lastOut:∀ b,kM r.δ b≠none->∀ (k:Nat) (rk:Rec),i<k->rs[k]?=some rk->listed.getD k true=true->kM rk.δ b=none:=by
  intro b hb k rk hik hrk g
  cases hkb:kM rk.δ b with
  | none=>rfl
  | some x=>
   have:=befOut k (F.clash i k r rk hik hri hrk ⟨b,.inl ⟨hb,.inr (by rw[hkb];simp)⟩⟩);rw[g] at this;cases this
 have setD:∀ k,(listed.setIfInBounds i true).getD k true=(if k=i then true else listed.getD k true):=by
  intro k
  by_cases U:k=i
  subst U;simp[hilt]
  rw[if_neg U];exact getD_set_ne true (Ne.symm U)
 have newSt:∀ stn:St,(∀ b,jk stn b=(match kM r.δ b with|some x=>x|none=>jk stx b))->∀ b,jk stn b=orS st b (lst rs (λk=>(listed.setIfInBounds i true).getD k true) 0 b):=by
  intro stn hstn b;rw[hstn b]
  cases hb:kM r.δ b with
  | none=>
   rw[hst b]
   congr 1
   refine zX _ _ _ _ _ λk rk hrk hkb=>?_;rw[Nat.zero_add,setD]
   by_cases U:k=i
   subst U;rw[hri] at hrk;cases hrk;exact absurd hb hkb
   rw[if_neg U]
  | some x=>
   rw[UY rs _ 0 i b r x hri (by rw[Nat.zero_add,setD,if_pos rfl]) hb λk rk hik hrk g=>?_]
   rfl
   rw[Nat.zero_add,setD,if_neg ah] at g;exact lastOut b (by rw[hb];simp) k rk hik hrk g
 have after:∀ cv w' Y' σ' qs stn,(qs.length=ps.length/\∀ t,jD qs t=jD ps t)->SW C w' Y' σ' qs a.tmps.toList stn n->(∀ b,jk stn b=(match kM r.δ b with|some x=>x|none=>jk stx b)) ->
   (∀ b,(b<idA rs n i\/idA rs n i+m<=b)->σ' b=σ b)->Rep w' Y' σ' r.v cv->KR C.w0.heap.size D w' Y'->K (a.put o.dst cv) w':=by
  intro cv w' Y' σ' qs stn hq H' hstn hoff hv hD';refine hK _ _ ⟨by rw[put_defers];exact hd,Y',σ',AL qs o.dst r.v,stn,H'.AL hv o.dst,by rw[vC,hq.1,hlen],?_,?_,newSt stn hstn,?_,hD',λb sz rows hb=>?_⟩
  intro j oj t hj I hlj;rw[xu hun] at hlj
  by_cases hji:j=i
  subst hji;rw[ho] at hj;cases hj
  by_cases hlt:t<qs.length
  rw[I];simp only[AL,xU];rw[if_pos ⟨trivial,hlt⟩];refine h8 t I (by rw[<- hlen,<- hq.1];exact hlt) λk pk hk hpk J=>?_;exact absurd I ((AO F.chk ho).2 k pk hpk ah t J).1
  exact(xW (by rw[vC];exact Nat.le_of_not_lt hlt)).trans (xW (by rw[F.agt,<- hlen,<- hq.1];exact Nat.le_of_not_lt hlt)).symm
  have hne:=(hspec.2 j oj hj hji t I).1;rw[Dk hne,hq.2];rcases hlj with h|h
  exact absurd h hji
  exact hdone j oj t hj I h
  intro t ht
  have hne:o.dst≠some t:=λe=>by
   have:=ht i o ho e;rw[(xu hun).2 (.inl rfl)] at this;cases this
  rw[Dk hne,hq.2];refine hrest t λk pk hk J=>?_;have:=ht k pk hk J
  cases g:listed.getD k true with
  | false=>rfl
  | true=>rw[(xu hun).2 (.inr g)] at this;cases this
  intro j hj hlj b hb1 hb2;rw[setD] at hlj
  by_cases hji:j=i
  rw[if_pos hji] at hlj;cases hlj
  rw[if_neg hji] at hlj;rw[hoff b ?_];· exact hfree j hj hlj b hb1 hb2
  rcases Nat.lt_or_ge i j with hij|hij
  right;have:=F.mono (i:=i+1) (j:=j) ah ah;omega
  left;have:=F.mono (i:=j+1) (j:=i) ah ah;omega
  rw[hstn b] at hb
  cases hx:kM r.δ b with
  | none=>rw[hx] at hb;exact hnn b sz rows hb
  | some x=>rw[hx] at hb;simp only at hb;subst hb;exact hS.nn b sz rows hx
 have q1:jD (patch (o.looksAt all) q ps)=jD ps:=by
  funext t
  by_cases ht:t<ps.length
  rw[Ro ht]
  split
  rename_i h;exact(look t h).symm
  rfl
  rw[xW dJ,xW (Nat.le_of_not_lt ht)]
 have l1:q.length=ps.length:=by rw[qlen,hlen]
 have hwb:=hS.gd C _ Y σ a w stx n look H;unfold wpOp;simp only[ho]
 cases hw:r.wb with
 | true=>
  rw[hw] at hwb;rw[if_pos hwb]
  have hle:idA rs n i+m<=n:=by
   rw[<- hm];have:=F.mono (i:=i+1) (j:=all.size) ah (Nat.le_refl _);have e:idA rs n all.size=n:=by simp[idA,List.getElem?_eq_none (Nat.le_of_eq F.len)]
   omega
  exact .inl (hS.sem hw C _ Y σ a w stx n look H hnn g hwin (Nat.le_trans hpas hnx) hle K Q λcv w' Y' σ' st' H' hst' hoff hv hD'=>after cv w' Y' σ' ps st' ⟨rfl,λ_=>rfl⟩ H' hst' hoff hv (hD' _ D hD))
 | false=>
  rw[hw] at hwb;rw[if_neg (by rw[hwb];simp)];obtain⟨e1,e2⟩:=hS.skip hw;exact after _ w Y σ ps stx ⟨rfl,λ_=>rfl⟩ H (λb=>by rw[e2];rfl) (λ_ _=>rfl) (by rw[e1];simp[Rep]) hD
theorem U5 {all:Array Oper}(T:FT all all.toList 0=true){listed:Array Bool}(hsz:listed.size=all.size)(hr:Region.ready .any all listed=[]):∀ j,listed.getD j true=true:=by
 intro j
 induction j using Nat.strongRecOn with
 | _ j ih=>
  cases h:listed.getD j true with
  | true=>rfl
  | false=>
   have J:j<listed.size:=by
    rcases Nat.lt_or_ge j listed.size with h'|h'
    exact h'
    simp[Array.getElem?_eq_none h'] at h
   have hj:all[j]?=some all[j]:=Array.getElem?_eq_getElem ah
   have:j∈Region.ready .any all listed:=mem_ready.2 ⟨h,_,hj,λe I C=>by
    have U:=(AO T hj).1 e I C;have:=ih e.on U;have h2:e.on<listed.size:=by omega
    simp[h2] at this |-;exact this⟩
   rw[hr] at this;cases this
theorem ado {nx:Nat}(hpas:T.qf<=nx){C:Ctx T}{all:Array Oper}{rs:List Rec}{st:St}{n:Nat}{p f:List PV}{D:List Nat}{dl:List Deferred}(F:JH P T all rs p st nx f n){Q:Exit->Act->World->Prop}
  (hQ:∀ a w Y σ stx,a.defers=dl->SW C w Y σ f a.tmps.toList stx n->(∀ b,jk stx b=jk (Am rs st rs.length) b)->KR C.w0.heap.size D w Y->Q .normal a w):∀ (fuel:Nat) (listed:Array Bool) (a:Act) (w:World),listed.size=all.size->listed.toList.count false=fuel ->
   (∀ j o,all[j]?=some o->listed.getD j true=true->∀ e∈o.after,Region.binds .any e=true->listed.getD e.on true=true) ->
   X3 C all rs st n p f D dl listed a w->wpAny P .any all Q fuel listed a w:=by
 have fin:∀ (listed:Array Bool) (a:Act) (w:World),listed.size=all.size->X3 C all rs st n p f D dl listed a w->Region.ready .any all listed=[]->Q .normal a w:=by
  intro listed a w hsz hs hr;have hl:=U5 F.chk hsz hr;obtain⟨hd,Y,σ,ps,stx,H,hlen,g,hrest,hst,_,hD,_⟩:=hs
  have hpf:∀ t,jD ps t=jD f t:=by
   intro t
   by_cases hex:∃ (j:Nat) (o:Oper),all[j]?=some o/\o.dst=some t
   obtain⟨j,o,hj,J⟩:=hex;exact g j o t hj J (hl j)
   rw[hrest t λj o hj J=>absurd ⟨j,o,hj,J⟩ hex];refine F.keep t λo ho J=>?_;obtain⟨j,hj⟩:=List.getElem?_of_mem ho;exact hex ⟨j,o,by simpa using hj,J⟩
  have heq:Ak ps f:=⟨by rw[hlen,F.agt],λt=>by rw[hpf t];exact Eqv.refl _⟩;refine hQ a w Y σ stx hd (H.rG (H.vals.eqv heq)) (λb=>?_) hD;rw[hst b,MS rs st rs.length 0 b]
  congr 1
  refine zX _ _ _ _ _ λk rk hrk _=>?_;rw[Nat.zero_add,Nat.zero_add,hl k]
  have:k<rs.length:=by
   by_cases hh:k<rs.length
   exact hh
   rw[List.getElem?_eq_none (Nat.le_of_not_lt hh)] at hrk;cases hrk
  simp[this]
 intro fuel
 induction fuel with
 | zero=>
  intro listed a w hsz hc U hs
  have hr:Region.ready .any all listed=[]:=by
   rw[List.eq_nil_iff_forall_not_mem];intro i hi;have I:=(mem_ready.1 hi).1
   have hlt:i<listed.size:=by
    rcases Nat.lt_or_ge i listed.size with h'|h'
    exact h'
    simp[Array.getElem?_eq_none h'] at I
   have hget:listed[i]=false:=by simpa [hlt] using I
   have hm:false∈listed.toList:=by rw[<- hget];simp
   exact(List.count_eq_zero.1 hc) hm
  exact⟨hr,fin listed a w hsz hs hr⟩
 | succ fuel ih=>
  intro listed a w hsz hc U hs;refine⟨fin listed a w hsz hs,λi hi=>?_⟩;have I:=(mem_ready.1 hi).1;refine ZO hpas F hsz U hs hi λa' w' hs'=>ih _ a' w' (by simpa using hsz) (count_set I hc) ?_ hs';intro j o hj hlj e he hb;rw[xu I] at hlj |-;rcases hlj with h|h
  subst h;obtain⟨_,o',ho',hall⟩:=mem_ready.1 hi;rw[hj] at ho';cases ho';have:=hall e he hb;refine .inr ?_;rcases Nat.lt_or_ge e.on listed.size with h'|h'
  simp[h'] at this |-;exact this
  simp[Array.getElem?_eq_none h'] at this
  exact .inr (U j o hj h e he hb)
theorem qg:∀ (st:St),lY st=true->NNs st
 | [],_,b,sz,rows,h=>by simp[jk] at h
 | (c,x)::st,h,b,sz,rows,hb=>by
  have h1:lY st=true/\∀ sz rows,x≠some (.mg sz rows):=by
   cases x with
   | none=>exact⟨by simpa [lY] using h,by simp⟩
   | some y=>cases y<;>simp_all[lY]
  simp only[jk] at hb
  cases hc:Nat.beq c b with
  | true=>rw[hc] at hb;exact h1.2 _ _ hb
  | false=>rw[hc] at hb;exact qg st h1.1 b sz rows hb
theorem MV:∀ (l:List Nat) (b:Nat),xe l b=true↔b∈l
 | [],b=>by simp[xe]
 | c::l,b=>by
  simp only[xe]
  cases hc:Nat.beq c b with
  | true=>simp[Nat.eq_of_beq_eq_true hc]
  | false=>
   have:¬ b=c:=λe=>by subst e;rw[Nat.beq_refl] at hc;cases hc
   simp[MV l b,this]
theorem ZP {st:St}{nx:Nat}:∀ (δ:Dl),okG st nx δ=true->(∀ b,kM δ b≠none->b=nx\/jk st b≠none)/\(∀ b sz rows,kM δ b≠some (some (.mg sz rows)))/\∀ b,kM δ b≠none->b∈FV δ
 | [],_=>⟨λb h=>absurd rfl h,λb sz rows (h:(none:Option (Option mO))=some (some (.mg sz rows)))=>(by cases h),λb h=>absurd rfl h⟩
 | (c,x)::δ,h=>by
  simp only[okG,Bool.and_eq_true,Bool.or_eq_true] at h;obtain⟨h1,h2,T⟩:=h;obtain⟨g1,g2,g3⟩:=ZP δ T;refine⟨λb U=>?_,λb sz rows U=>?_,λb U=>?_⟩
  simp only[kM] at U
  cases hl:kM δ b with
  | some y=>exact g1 b fA
  | none=>
   rw[hl] at U
   by_cases hc:c=b
   subst hc;rcases h2 with h2|h2
   exact .inl (Nat.eq_of_beq_eq_true h2)
   refine .inr λe=>?_;rw[e] at h2;cases h2
   simp[hc] at U
  simp only[kM] at U
  cases hl:kM δ b with
  | some y=>rw[hl] at U;simp only[Option.some.injEq] at U;subst U;exact g2 b sz rows hl
  | none=>
   rw[hl] at U
   by_cases hc:c=b
   subst hc;simp at U;subst U;simp at h1
   simp[hc] at U
  simp only[kM] at U;simp only[FV]
  cases hl:kM δ b with
  | some y=>exact List.mem_cons_of_mem _ (g3 b fA)
  | none=>
   rw[hl] at U
   by_cases hc:c=b
   subst hc;simp
   simp[hc] at U
theorem aeM (hT:jq P T)(hW:Ci P){all:Array Oper}{o:Oper}{ps:List PV}{lk:Nat->Option mO}{id:Nat}{v:PV}{δ:Dl}(hF:∀ K' : PV->Dl->Prop,K' v δ->oO T (iW.jI P T) o.op ps lk id K'):aeL P T all o ps lk id 1 v δ:=by
 intro C qs Y σ a w st n hl H hn hlk hwin g hle next Q J
 have H2:=H.PO hn;have h4:=hF (λv' δ'=>v'=v/\δ'=δ) ⟨rfl,rfl⟩;rw[<- Rj (xX hl)] at h4;obtain⟨v',δ',cv,w',Y',σ',⟨rfl,rfl⟩,U,H',hrep,I⟩:=zl hT hW H2 hlk ⟨(hwin id (Nat.le_refl _) ah).1,g⟩ h4;have hni:uH δ' n id<=n:=by cases δ'<;>simp[uH]<;>omega
 have H3:=(H.Jd H').mono hni;have:=J cv w' Y' σ' (jJ δ' st) H3 (λb=>xY _ _ _) (λb hb=>I b ah) hrep (λB D hD=>hD.step H.store H');unfold Oper.wp;rcases U with U|⟨U,rfl⟩
 rw[U];exact this
 rw[U];exact this
theorem ZQ {st:St}{nx:Nat}:∀ (δ:Dl),okH st nx δ=true->(∀ b,kM δ b≠none->(nx<=b/\b<nx+32)\/jk st b≠none)/\(∀ b sz rows,kM δ b≠some (some (.mg sz rows)))/\∀ b,kM δ b≠none->b∈FV δ
 | [],_=>⟨λb h=>absurd rfl h,λb sz rows (h:(none:Option (Option mO))=some (some (.mg sz rows)))=>(by cases h),λb h=>absurd rfl h⟩
 | (c,x)::δ,h=>by
  simp only[okH,Bool.and_eq_true,Bool.or_eq_true] at h;obtain⟨h1,h2,T⟩:=h;obtain⟨g1,g2,g3⟩:=ZQ δ T;refine⟨λb U=>?_,λb sz rows U=>?_,λb U=>?_⟩
  simp only[kM] at U
  cases hl:kM δ b with
  | some y=>exact g1 b fA
  | none=>
   rw[hl] at U
   by_cases hc:c=b
   subst hc;rcases h2 with ⟨h2,J⟩|h2
   exact .inl ⟨Nat.le_of_ble_eq_true h2,by simpa [Nat.blt_eq] using J⟩
   refine .inr λe=>?_;rw[e] at h2;cases h2
   simp[hc] at U
  simp only[kM] at U
  cases hl:kM δ b with
  | some y=>rw[hl] at U;simp only[Option.some.injEq] at U;subst U;exact g2 b sz rows hl
  | none=>
   rw[hl] at U
   by_cases hc:c=b
   subst hc;simp at U;subst U;simp at h1
   simp[hc] at U
  simp only[kM] at U;simp only[FV]
  cases hl:kM δ b with
  | some y=>exact List.mem_cons_of_mem _ (g3 b fA)
  | none=>
   rw[hl] at U
   by_cases hc:c=b
   subst hc;simp
   simp[hc] at U
theorem PQ {R:List Nat}{st:St}{b:Nat}{x:mO}(h:lkG R st b=some x):b∈R/\jk st b=some x:=by
 unfold lkG at h
 cases hh:xe R b with
 | true=>rw[hh] at h;exact⟨(MV _ _).1 hh,h⟩
 | false=>rw[hh] at h;cases h
theorem ahD {R:List Nat}{st:St}{b:Nat}(h:b∈R):lkG R st b=jk st b:=by
 unfold lkG;rw[(MV _ _).2 h];rfl
theorem aa9 (hT:jq P T)(hW:Ci P){all:Array Oper}{o:Oper}{f:Operand}{args:Array Operand}{ts:Array TypeId}(ho:o.op=.call { callee:=.value f,args:=args,argTypes:=ts }){ps:List PV}{lk:Nat->Option mO}{id nx:Nat}{K:PV->Prop}
  (h:opQ T (iW.jI P T) (.call { callee:=.value f,args:=args,argTypes:=ts }) ps lk id K):∃ v,aeL P T all o ps lk nx 0 v []/\K v:=by
 unfold opQ at h;simp only at h
 split at h
 rename_i k caps O
 have main:∀ v,(∀ (C:Ctx T) Y σ w qs vs U st n,(∀ b x,lk b=some x->jk st b=some x)->SW C w Y σ qs vs st n->gI w Y σ (FQ (T.hid k) (vk (evA T ps args.toList) caps)) U->PG P k C Y σ w U qs vs st n v)->aeL P T all o ps lk nx 0 v []:=by
  intro v hsem C qs Y σ a w st n hl H hn J _ _ _ next Q hnext
  have hev:=xX (T:=T) hl;rw[ho] at hev;have g:=lD H f;rw[hev f dH,O] at g;unfold Rep at g;obtain⟨cs,ef,hcs⟩:=g;have I:=vM H args.toList;rw[Cj (ps:=qs) (qs:=ps) args.toList λx hx=>hev x bH] at I;have hall:=FB (T.hid k) _ _ (gI.app _ _ _ _ I hcs);have H2:=H.PO hn;obtain⟨hent,hcall⟩:=hsem _ Y σ w qs a.tmps.toList _ st n J H2 (by simpa using hall);unfold Oper.wp;rw[Lc ho ef hent];refine Calls.mono hcall λe w' hh=>?_;obtain⟨cv,rfl,H',hv⟩:=hh;exact hnext cv w' Y σ st (H.Jd H') (λb=>rfl) (λ_ _=>rfl) hv (λB D hD=>hD.step H.store H')
 unfold ad6 at h
 split at h
 rename_i as hm;obtain⟨v,hF,hK⟩:=h;refine⟨v,main v λC Y σ w qs vs U st n J H hr=>TW H (λb x hb=>?_) hm hr hF,hK⟩
 split at hb
 rename_i e;cases hb;exact⟨J _ _ e,rfl⟩
 rename_i e;cases hb;exact⟨J _ _ e,rfl⟩
 cases hb
 split at h
 rename_i as hm;obtain⟨v,hF,O,hK⟩:=h;exact⟨v,main v λC Y σ w qs vs U st n J H hr=>Q8 H J hm hr hF O,hK⟩
 exact h.elim
 exact h.elim
theorem aba (hT:jq P T)(hW:Ci P){all:Array Oper}{o:Oper}{f:Operand}{args:Array Operand}{ts:Array TypeId}(ho:o.op=.call { callee:=.value f,args:=args,argTypes:=ts }){E:Env}{v:PV}{δ:Dl}
  (hF:∀ K' : PV->Dl->Prop,K' v δ->opW T (iW.jI P T) (.call { callee:=.value f,args:=args,argTypes:=ts }) E.tmps (jk E.st) E.st E.next true K'):aeL P T all o E.tmps (lkG (Pg T f args E) E.st) E.next 32 v δ:=by
 intro C qs Y σ a w stn n hl H hn hlk hwin hpas hle next Q hnext
 have g:=hF (λv' δ'=>v'=v/\δ'=δ) ⟨rfl,rfl⟩;unfold opW at g;simp only at g
 split at g
 rename_i k J O;have hev:=xX (T:=T) hl;rw[ho] at hev;have hfv:=lD H f;rw[hev f dH,O] at hfv;unfold Rep at hfv;obtain⟨cs,ef,hcs⟩:=hfv;have U:=vM H args.toList;rw[Cj (ps:=qs) (qs:=E.tmps) args.toList λx hx=>hev x bH] at U;have hall:=FB (T.hid k) _ _ (gI.app _ _ _ _ U hcs);have hR:Pg T f args E=G6 (FQ (T.hid k) (vk (evA T E.tmps args.toList) J)) E.st:=by unfold Pg;rw[O]
 rw[hR] at hlk;unfold Ux at g
 split at g
 rename_i I;simp only[Bool.and_eq_true] at I;obtain⟨c1,c2,c3⟩:=I;obtain⟨v0,st1,n1,h0,hF0,hK⟩:=g
 split at hK
 rename_i hb;obtain⟨rfl,rfl⟩:=hK;have hb:=Nat.le_of_ble_eq_true hb
 have hren:=Oz (st:=E.st) (st':=stn) (DL (G6 (FQ (T.hid k) (vk (evA T E.tmps args.toList) J)) E.st)) (G6 (FQ (T.hid k) (vk (evA T E.tmps args.toList) J)) E.st) 0 λb hb=>by
  obtain⟨x,hx⟩:=Rk _ c3 b hb;rw[hx,hlk b x (by rw[ahD hb];exact hx)]
 rw[hren] at h0 hF0;have H2:=H.PO hn;obtain⟨hent,hcall⟩:=XV (E:=⟨qs,stn,E.next⟩) (n0:=n) (N:=n) (v:=v0) (st1:=st1) H2 c2 c1 h0 hpas (λb hb1 hb2=>(hwin b hb1 (by simp only at hb2;omega)).1) ⟨by simp only;omega,Nat.le_refl _⟩ hall hF0;unfold Oper.wp;rw[Lc ho ef hent];refine Calls.mono hcall λe w' hh=>?_;obtain⟨cv,Y',σ',rfl,H',hv',hoff⟩:=hh;have H3:=H.Jd H';refine hnext cv w' Y' σ' _ H3 (λb=>?_) (λb hb'=>hoff b aF) hv' (λB D hD=>hD.step H.store H');show jk (Zn _ _ _ _ _) b=_;rw[XX];exact xY _ _ _
 exact hK.elim
 exact g.elim
 exact g.elim
theorem PR:∀ (l:List (List Nat×List Nat×List Nat)) x,Wx l x=l++[x]
 | [],x=>rfl
 | y::l,x=>by simp[Wx,PR l x]
theorem JI (hT:jq P T)(hW:Ci P){all:Array Oper}:∀ (l:List Oper) (E:Env) (tr:List Tc) (K:Env->List Tc->Prop),NNs E.st->ac3 T (iW.jI P T) l E tr K ->
  ∃ rs E' J,ChF P T all l rs E.tmps E.st E.next E'.tmps E'.st E'.next/\K E' (tr++J)/\(∀ (i:Nat) (r:Rec),rs[i]?=some r->∃ tc,J[i]?=some tc/\ahC r tc)
 | [],E,tr,K,_,h=>⟨[],E,[],⟨rfl,rfl,rfl⟩,by rw[List.append_nil];exact h,λi r hr=>by simp at hr⟩
 | o::l,E,tr,K,hnn,h=>by
  unfold ac3 stepG at h;have g:∀ (v:PV) (e:Env),qj e o.dst v=⟨AL e.tmps o.dst v,e.st,e.next⟩:=λv e=>by cases hd:o.dst<;>simp[qj,AL]
  split at h
  rename_i f args ts ho;unfold ag0 at h
  split at h
  exact h.elim
  rename_i hg
  split at h
  rename_i hcl;have hcl2:Jy T o.op=2:=TZ hcl bJ;rw[ho] at hcl2;obtain⟨v,δ,hK,hF⟩:=XY (.inr hcl2) (by simp[ndO]) h
  cases I:okH E.st E.next δ with
  | false=>rw[I] at hK;exact hK.elim
  | true=>
   rw[I] at hK;obtain⟨g1,g2,g3⟩:=ZQ δ I;rw[g] at hK
   have hnn2:NNs (jJ δ E.st):=λb sz rows U=>by
    rw[xY] at U
    cases hl:kM δ b with
    | none=>rw[hl] at U;exact hnn b sz rows U
    | some y=>rw[hl] at U;have U:y=some (.mg sz rows):=U;exact g2 b sz rows (by rw[hl,U])
   obtain⟨rs,E',J,hc,hk,ht⟩:=JI hT hW l _ _ K hnn2 hK;refine⟨⟨E.tmps,E.tmps,lkG (Pg T f args E) E.st,v,δ,E.next,true,true,false⟩::rs,E',(Pg T f args E,FV δ,FV δ)::J,⟨32,⟨rfl,?_,λ_=>aba hT hW ho hF,λe=>by(cases e),λb x U=>(PQ U).2,g1,g2⟩,hc⟩,by rw[PR] at hk;simpa using hk,λi r hr=>?_⟩
   intro C ps Y σ a w st n _ _;simp[Region.wanted,hg]
   cases i with
   | zero=>
    simp at hr;subst hr;refine⟨_,rfl,λb U=>?_,g3,λb U=>U⟩;have U:lkG (Pg T f args E) E.st b≠none:=U
    cases hx:lkG (Pg T f args E) E.st b with
    | none=>exact absurd hx U
    | some x=>exact(PQ hx).1
   | succ i=>exact ht i r dm
  rename_i hcl;obtain⟨v,hs,hK⟩:=aa9 hT hW (all:=all) (nx:=E.next) ho h;rw[g] at hK;obtain⟨rs,E',J,hc,hk,ht⟩:=JI hT hW l ⟨AL E.tmps o.dst v,E.st,E.next⟩ (Wx tr (Pg T f args E,[],[])) K hnn hK;refine⟨⟨E.tmps,E.tmps,lkG (Pg T f args E) E.st,v,[],E.next,true,true,false⟩::rs,E',(Pg T f args E,[],[])::J,⟨0,⟨rfl,?_,λ_=>hs,λe=>by(cases e),λb x U=>(PQ U).2,λb U=>absurd rfl U,λb sz rows U=>by cases U⟩,hc⟩,by rw[PR] at hk;simpa using hk,λi r hr=>?_⟩
  intro C ps Y σ a w st n _ _;simp[Region.wanted,hg]
  cases i with
  | zero=>
   simp at hr;subst hr;refine⟨_,rfl,λb U=>?_,λb U=>absurd rfl U,λb U=>by cases U⟩;have U:lkG (Pg T f args E) E.st b≠none:=U
   cases hx:lkG (Pg T f args E) E.st b with
   | none=>exact absurd hx U
   | some x=>exact(PQ hx).1
  | succ i=>exact ht i r dm
  exact h.elim
  rename_i hnc;unfold aec at h
  split at h
  rename_i hg
  split at h
  rename_i hq hnd
  have hdet:∃ v δ,(match okG E.st E.next δ with
   | true=>ac3 T (iW.jI P T) l (qj ⟨E.tmps,jJ δ E.st,E.next+1⟩ o.dst v) (Wx tr (rdG T E.tmps o.op,FV δ,FV δ)) K
   | false=>False)/\∀ K' : PV->Dl->Prop,K' v δ->oO T (iW.jI P T) o.op E.tmps (lkG (rdG T E.tmps o.op) E.st) E.next K':=by
   cases hQ:isQ o.op with
   | true=>exact acn hQ h
   | false=>
    rw[hQ] at hq;have hq:(Nat.beq (Jy T o.op) 1 || Nat.beq (Jy T o.op) 2)=true:=hq;rw[Bool.or_eq_true] at hq;exact ZM (hq.imp Nat.eq_of_beq_eq_true Nat.eq_of_beq_eq_true) hnd h
  obtain⟨v,δ,hK,hF⟩:=hdet
  cases I:okG E.st E.next δ with
  | false=>rw[I] at hK;exact hK.elim
  | true=>
   rw[I] at hK;obtain⟨g1,g2,g3⟩:=ZP δ I;have g:∀ (e:Env),qj e o.dst v=⟨AL e.tmps o.dst v,e.st,e.next⟩:=λe=>by cases hd:o.dst<;>simp[qj,AL]
   rw[g] at hK
   have hnn2:NNs (jJ δ E.st):=λb sz rows U=>by
    rw[xY] at U
    cases hl:kM δ b with
    | none=>rw[hl] at U;exact hnn b sz rows U
    | some y=>rw[hl] at U;have U:y=some (.mg sz rows):=U;exact g2 b sz rows (by rw[hl,U])
   obtain⟨rs,E',J,hc,hk,ht⟩:=JI hT hW l _ _ K hnn2 hK;refine⟨⟨E.tmps,E.tmps,lkG (rdG T E.tmps o.op) E.st,v,δ,E.next,true,true,false⟩::rs,E',(rdG T E.tmps o.op,FV δ,FV δ)::J,⟨1,⟨rfl,?_,λ_=>aeM hT hW hF,λe=>by(cases e),λb x U=>?_,λb U=>?_,g2⟩,hc⟩,by rw[PR] at hk;simpa using hk,λi r hr=>?_⟩
   intro C ps Y σ a w st n _ _;simp[Region.wanted,hg]
   show jk E.st b=some x;have U:lkG (rdG T E.tmps o.op) E.st b=some x:=U;unfold lkG at U
   cases hh:xe (rdG T E.tmps o.op) b with
   | true=>rw[hh] at U;exact U
   | false=>rw[hh] at U;cases U
   rcases g1 b U with rfl|h1
   exact .inl ⟨Nat.le_refl _,by omega⟩
   exact .inr h1
   cases i with
   | zero=>
    simp at hr;subst hr;refine⟨_,rfl,λb U=>?_,g3,λb U=>U⟩;have U:lkG (rdG T E.tmps o.op) E.st b≠none:=U;unfold lkG at U
    cases hh:xe (rdG T E.tmps o.op) b with
    | true=>exact(MV _ _).1 hh
    | false=>rw[hh] at U;exact absurd rfl U
   | succ i=>exact ht i r dm
  exact h.elim
  exact h.elim
theorem abb (hT:jq P T)(hW:Ci P){id:Nat}{l:Array Oper}{E:Env}{K:Env->Prop}(J:ltS E.next E.st=true)(hnn:lY E.st=true)(h:ac3 T (iW.jI P T) l.toList E [] λE tr=>(iW.jI P T).ac0 l tr (K E)) :
  ∀ (C:Ctx T) a w,lL C E a w->∀ Q:Exit->Act->World->Prop,(∀ E' a' w',lL C E' a' w'->K E'->Q .normal a' w')->(Code.region id l true).wp P Q a w:=by
 intro C a w hA Q hQ;obtain⟨rs,E',tr,I,⟨g,hK⟩,h5⟩:=JI hT hW (all:=l) l.toList E [] _ (qg _ hnn) h;rw[List.nil_append] at g;obtain⟨hc1,hc2⟩:=U4 g;obtain⟨⟨Y,σ,H⟩,hdf⟩:=hA;obtain⟨hl1,hl2,hl3⟩:=I.len _ _
 have F:JH P T l rs E.tmps E.st E.next E'.tmps E'.next:=by
  refine⟨hc1,by simpa using hl1,λi o hi=>?_,hl2,λt ht=>I.keep _ _ ht,λb hb=>?_,λi k ri rk hik hi hk hc=>?_⟩
  obtain⟨r,q,m,a0,a1,a2,a3,a4,a6,a7,a8⟩:=I.get _ _ i o cu;exact⟨r,q,m,a0,a1,a2,a3,a4,λt ht=>a6 t λj oj hj hoj=>ht j oj hj dn,λt ht=>a7 t λj oj hj hoj=>ht j oj hj dn,λd hd J hn=>a8 d hd J λj oj hj hoj=>hn j oj hj dn⟩
  cases hx:jk E.st b with
  | none=>rfl
  | some x=>exact absurd (U3 _ J b (by rw[hx];simp)) ah
  obtain⟨x,hx,hx2⟩:=h5 i ri hi;obtain⟨y,hy,hy2⟩:=h5 k rk hk;have:=WU tr 0 hc2 i k x y hik hx hy;rw[Nat.zero_add,Nat.zero_add] at this;exact aa8 hx2 hy2 this hc
 have hrep:∀ j,j<l.size->(Array.replicate l.size false).getD j true=false:=λj hj=>by simp[hj]
 have hno:∀ j o,l[j]?=some o->(Array.replicate l.size false).getD j true=true->False:=by
  intro j o hj U
  have J:j<l.size:=by
   rcases Nat.lt_or_ge j l.size with h'|h'
   exact h'
   simp[Array.getElem?_eq_none h'] at hj
  rw[hrep j J] at U;cases U
 refine wp_region_any hW.mixed (ado (C:=C) (D:=[]) (dl:=C.df) H.fix.1 F (λa' w' Y' σ' stx hd' H' hstx hD'=>hQ E' a' w' ⟨⟨Y',σ',H'.ext λb x hx=>?_⟩,hd',hdf.2⟩ hK) l.size _ a _ aC ?_ ?_ ?_)
 rw[hstx b,<- I.fin];exact hx
 simp
 intro j o hj U;exact(hno j o hj U).elim
 refine⟨hdf.1,Y,σ,E.tmps,E.st,(H.drawn _).mono hl3,rfl,?_,λt _=>rfl,λb=>?_,λj hj _ b hb1 _=>?_,⟨List.nodup_nil,λr hr=>by cases hr⟩,qg _ hnn⟩
 intro j o t hj hdst U;exact(hno j o hj U).elim
 rw[Jc _ _ _ _ λk r hr hDD=>?_];· rfl
 rw[Nat.zero_add] at hDD;obtain⟨ok,hok⟩:=F.oper hr;exact(hno k ok hok hDD).elim
 obtain⟨_,_,_,_,_,_,_,h6,_⟩:=F.get j _ (Array.getElem?_eq_getElem hj);exact H.next b (Nat.le_trans h6 hb1)
end
end Go.Pv
namespace Go.Pv
open Go
theorem lift_seq {T:Tab}{C:Ctx T}{P:Program}{b:Code}{Q:Post}{nx:Env->Prop}(U:∀ E a w,lL C E a w->nx E->b.wp P (lift C Q) a w):∀ e a w,lift C (Iw nx Q) e a w->Exit.then (b.wp P (lift C Q)) (lift C Q) e a w:=by
 intro e a w h
 cases e with
 | normal=>obtain⟨E,hA,hq⟩:=h;exact U E a w hA hq
 | ret=>obtain⟨E,hA,hq⟩:=h;exact⟨E,hA,hq⟩
 | exit n=>obtain⟨E,hA,hq⟩:=h;exact⟨E,hA,hq⟩
 | _=>exact h.elim
theorem aeN {T:Tab}{C:Ctx T}{Q U : Post}(h:∀ n E,Q n E->∃ F,Ent T E F/\U n F):∀ e a w,lift C Q e a w->lift C U e a w:=by
 intro e a w hq
 have go:∀ n,(∃ E,lL C E a w/\Q n E)->∃ E,lL C E a w/\U n E:=by
  rintro n ⟨E,hA,hq⟩
  obtain⟨F,h1,h2⟩:=h n E hq;exact⟨F,h1 C a w hA,h2⟩
 cases e with
 | normal=>exact go 0 hq
 | ret=>exact go 1 hq
 | exit n=>exact go (n+2) hq
 | _=>exact hq.elim
theorem zY {P:Program}{T:Tab}(hT:jq P T)(hW:Ci P):∀ (c:Code) (Q:Post) (E:Env),I4 T (iW.jI P T) c Q E->TR P T c Q E:=by
 intro c
 induction c with
 | skip=>intro Q E h C a w hA;exact wp_skip ⟨E,hA,h⟩
 | region id l dr=>
  intro Q E h C a w hA
  cases dr with
  | true=>
   simp only[I4] at h
   cases g:xe T.cut (1000+id) with
   | true=>
    rw[g] at h;simp only[cond_true] at h
    cases hl:(ltS E.next E.st&&lY E.st) with
    | false=>rw[hl] at h;exact h.elim
    | true=>
     rw[hl] at h;rw[Bool.and_eq_true] at hl;exact abb hT hW hl.1 hl.2 h C a w hA _ λJ I w' U hK=>⟨J,U,hK⟩
   | false=>
   rw[g] at h;obtain⟨h1,h2⟩:=h
   cases hl:ltS E.next E.st with
   | false=>rw[hl] at h2;exact h2.elim
   | true=>rw[hl] at h2;exact aa6 hT hW h1 hl h2 C a w hA _ λJ I w' U hK=>⟨J,U,hK⟩
  | false=>exact aa0 hT hW h hA λJ I w' U hK=>⟨J,U,hK⟩
 | seq x y ihx ihy=>
  intro Q E h C a w hA;simp only[I4] at h
  cases hs:aed T.cut x y with
  | true=>
   rw[hs] at h;exact wp_seq (wp_mono (ihx _ E h C a w hA) (lift_seq λJ I w' U hq=>ihy Q J hq C I w' U))
  | false=>
   rw[hs] at h;obtain⟨Q',h1,h2⟩:=h;refine wp_seq (wp_mono (wp_mono (ihx Q' E h1 C a w hA) (aeN h2)) (lift_seq λJ I w' U hq=>ihy Q J hq C I w' U))
 | cond c x y ihx ihy=>
  intro Q E h C a w hA
  cases c with
  | tmp c=>
   simp only[I4] at h;have U:=hA;obtain⟨⟨Y,σ,H⟩,hd⟩:=U;have hg:=H.vals.get _ _ c;have hev:a.eval (.tmp c)=a.tmps.toList.getD c Go.undef:=by simp[Act.eval,Array.getD_eq_getD_getElem?,List.getD_eq_getElem?_getD]
   split at h
   rename_i e;rw[e] at hg;exact wp_cond_true (by rw[hev];exact yQ hg) (ihx Q E h C a w hA)
   rename_i e;rw[e] at hg;exact wp_cond_false (by rw[hev];exact yQ hg) (ihy Q E h C a w hA)
   rename_i t e;have hg2:=hg;rw[e] at hg2;refine wp_cond_split (t:=t) (by rw[hev];exact KT hg2) (λht=>?_) (λht=>?_)
   exact ihx Q _ (h.1 ht) C a w ⟨⟨Y,σ,H.pI e true ht⟩,hd⟩
   exact ihy Q _ (h.2 ht) C a w ⟨⟨Y,σ,H.pI e false ht⟩,hd⟩
   exact h.elim
  | const v=>
   cases v with
   | bool b=>
    cases b with
    | true=>exact wp_cond_true rfl (ihx Q E h C a w hA)
    | false=>exact wp_cond_false rfl (ihy Q E h C a w hA)
   | _=>exact(by simp[I4] at h)
  | _=>exact(by simp[I4] at h)
 | block id b ih=>
  intro Q E h C a w hA;refine wp_block (wp_mono (ih _ E h C a w hA) λe I w' hq=>?_)
  cases e with
  | normal=>exact hq
  | ret=>exact hq
  | exit n=>
   obtain⟨J,U,hq⟩:=hq;simp only[Exit.inBlock];have hq:(bif Nat.beq n id then Q 0 J else Q (n+2) J):=hq
   by_cases hn:n=id
   rw[if_pos hn];subst hn;simp only[Nat.beq_refl,cond_true] at hq;exact⟨J,U,hq⟩
   rw[if_neg hn];rw[Q4 hn] at hq;exact⟨J,U,hq⟩
  | _=>exact hq.elim
 | loop b ih=>intro Q E h;exact h
 | scope b ih=>
  intro Q E h C a w hA;refine wp_scope_straight (wp_mono (ih Q E h C a w hA) λe I w' hq=>?_)
  cases e with
  | normal=>exact hq
  | ret=>exact hq
  | exit n=>exact hq
  | _=>exact hq.elim
 | label l=>intro Q E h C a w hA;exact wp_label ⟨E,hA,h⟩
 | exit n=>intro Q E h C a w hA;exact wp_exit ⟨E,hA,h⟩
 | ret=>intro Q E h C a w hA;exact wp_ret ⟨E,hA,h⟩
 | _=>intro Q E h;exact(by simp[I4] at h)
end Go.Pv
namespace Go.Pv
open Go
theorem SW.abd {T:Tab}{C:Ctx T}{w:World}{Y:Nat->Prop}{σ:Sg}{ps:List PV}{vs:List Value}{st:St}{n:Nat}(H:SW C w Y σ ps vs st n){b r m sz:Nat}{rows:List (List PV)}{cv:Value}
  (hb:jk st b=some (.arr false sz rows)) (hv:Rep w Y σ (.os b r m) cv) :
  ∃ σ',SW C w Y σ' ps vs (oH (oH st b none) n (some (.arr false sz ((rows.drop r).take m)))) (n+1)/\Rep w Y σ' (.os n 0 m) cv/\oq σ σ':=by
 have hn:=H.next n (Nat.le_refl _)
 have nb:b≠n\/σ b=none:=by
  by_cases h:b=n
  right;rw[h];exact hn
  exact .inl h
 have old:∀ c x,jk (oH st b none) c=some x->c≠b/\jk st c=some x:=by
  intro c x h;rw[iQ] at h
  by_cases hc:b=c
  rw[if_pos hc] at h;cases h
  rw[if_neg hc] at h;exact⟨λe=>hc e.symm,h⟩
 have hv0:=hv;unfold Rep at hv;rcases hv with ⟨l,cap,hs,ev,hmc,htot,hnr⟩|⟨hm,a,ev⟩
 let l' : Loc:=⟨l.cb,l.co+r*l.sz,l.sz,l.tot,m⟩
 let σ' : Sg:=λk=>if k=n then some l' else σ k
 have hσ:∀ k,k≠n->σ' k=σ k:=λk h=>if_neg h;have g:σ' n=some l':=if_pos rfl
 have hle:oq σ σ':=by
  intro k x h
  by_cases hk:k=n
  rw[hk,hn] at h;cases h
  rw[hσ k hk];exact h
 have K:Keep w w Y Y σ σ':=⟨λ_ _ _=>rfl,λ_ _ h=>h,Nat.le_refl _,hle⟩;have hbn:b≠n:=by intro e;rw[e,hn] at hs;cases hs
 obtain⟨lb,hlb,hB⟩|⟨hno,_⟩:=H.store.blk b _ hb
 rw[hs] at hlb;cases hlb;unfold gW at hB;obtain⟨hat,hsz,hpos,⟨hfit,hnrw⟩,hrows,hY1,hY2⟩:=hB;have hlen:((rows.drop r).take m).length=m:=by rw[List.length_take,List.length_drop];omega
 refine⟨σ',⟨gI.keep _ K _ H.vals,⟨?_,?_⟩,?_,H.vJ,H.y0,H.c0,H.wS,H.qm,?_,H.wU,⟨by have:=H.fix.1;omega,?_⟩,?_⟩,?_,hle⟩
 intro c x hx;rw[iQ] at hx
 by_cases hc:n=c
 rw[if_pos hc] at hx;cases hx;subst hc;refine .inl ⟨l',g,?_⟩;unfold gW;refine⟨⟨hat.blk⟩,hsz,hpos,⟨?_,hlen⟩,?_,hY1,λh=>by cases h⟩
 rw[hlen];show l.co+r*l.sz+m*sz<=l.tot;have:m*l.sz<=cap*l.sz:=Nat.mul_le_mul_right _ hmc.1;rw[<- hsz] at *;omega
 show jw w Y iU l.cb sz _ (l.co+r*l.sz);rw[hsz];exact jw.take m _ _ (jw.drop r _ _ hrows)
 rw[if_neg hc] at hx;obtain⟨_,hx⟩:=old c x hx;rcases H.store.blk c x hx with ⟨l2,h2,hB2⟩|⟨h2,h3⟩
 exact .inl ⟨l2,hle _ _ h2,gW.keep K rfl Iff.rfl hB2⟩
 exact .inr ⟨by rw[hσ c (λe=>hc e.symm)];exact h2,h3⟩
 intro c I x x' lc lc' hx U hl J e;rw[iQ] at hx U
 by_cases hc:n=c
 by_cases hc' : n=I
 rw[<- hc,<- hc']
 rw[if_neg hc'] at U;obtain⟨hcb,U⟩:=old I x' U;subst hc;rw[g] at hl;cases hl;rw[hσ I (λe=>hc' e.symm)] at J;exact absurd (H.store.inj b I _ x' l lc' hb U hs J e).symm hcb
 rw[if_neg hc] at hx;obtain⟨hcb,hx⟩:=old c x hx;rw[hσ c (λe=>hc e.symm)] at hl
 by_cases hc' : n=I
 subst hc';rw[g] at J;cases J;exact absurd (H.store.inj c b x _ lc l hx hb hl hs e) hcb
 rw[if_neg hc'] at U;obtain⟨_,U⟩:=old I x' U;rw[hσ I (λe=>hc' e.symm)] at J;exact H.store.inj c I x x' lc lc' hx U hl J e
 intro k hk;rw[hσ k ah];exact H.next k ah
 intro c x lc hx hl;rw[iQ] at hx
 by_cases hc:n=c
 subst hc;rw[g] at hl;cases hl;exact H.own b _ l hb hs
 rw[if_neg hc] at hx;obtain⟨_,hx⟩:=old c x hx;rw[hσ c (λe=>hc e.symm)] at hl;exact H.own c x lc hx hl
 intro k hk;rw[hσ k (by have:=H.fix.1;omega)];exact H.fix.2 k hk
 have ow:∀ c rr cc h sz' es,ni (oH (oH st b none) n (some (.arr false sz ((rows.drop r).take m)))) c rr cc h sz' es->ni st c rr cc h sz' es:=by
  rintro c rr cc h sz' es ⟨s0,rws,row,h1,h2⟩
  rw[iQ] at h1
  by_cases hc:n=c
  rw[if_pos hc] at h1;cases h1
  rw[if_neg hc] at h1;exact⟨s0,rws,row,(old c _ h1).2,h2⟩
 refine⟨λ_ _ _ _ _ _ h=>H.nest.rep _ _ _ _ _ _ (ow _ _ _ _ _ _ h),λ_ _ _ _ _ _ h=>H.nest.old _ _ _ _ _ _ (ow _ _ _ _ _ _ h),λ_ _ _ _ _ _ _ _ _ _ _ _ h h'=>H.nest.one _ _ _ _ _ _ _ _ _ _ _ _ (ow _ _ _ _ _ _ h) (ow _ _ _ _ _ _ h'),?_⟩;intro c rr cc h sz' es I x lc ho hx hl;rw[iQ] at hx
 by_cases hc:n=I
 subst hc;rw[g] at hl;cases hl;exact H.nest.sep _ _ _ _ _ _ b _ l (ow _ _ _ _ _ _ ho) hb hs
 rw[if_neg hc] at hx;rw[hσ I (λe=>hc e.symm)] at hl;exact H.nest.sep _ _ _ _ _ _ I x lc (ow _ _ _ _ _ _ ho) (old I x hx).2 hl
 unfold Rep;refine .inl ⟨l',cap,g,?_,hmc,?_,?_⟩
 rw[ev];show Value.slice (some ⟨l.cb,l.co+r*l.sz,none⟩) m cap=Value.slice (some ⟨l.cb,l.co+r*l.sz+0*l.sz,none⟩) m cap;rw[Nat.zero_mul,Nat.add_zero]
 show l.co+r*l.sz+0*l.sz+cap*l.sz=l.tot;rw[Nat.zero_mul,Nat.add_zero];exact htot
 show 0+m<=m;omega
 rw[hs] at hno;cases hno
 subst hm;have H1:=(H.drop b).empty (id:=n) ⟨hn,H.fix.1⟩ sz;have hm:max n (n+1)=n+1:=by omega
 rw[hm] at H1;refine⟨σ,by simpa using H1,?_,oq.refl _⟩;unfold Rep;exact .inr ⟨rfl,a,ev⟩
section
variable {P:Program}{T T' : Tab}{C:Ctx T}{w:World}{ps:List PV}{vs:List Value}
theorem Keep.same {w:World}{Y:Nat->Prop}{σ σ' : Sg}(h:oq σ σ'):Keep w w Y Y σ σ':=⟨λ_ _ _=>rfl,λ_ _ h=>h,Nat.le_refl _,h⟩
theorem Keep.abe {w:World}{Y Y' T:Nat->Prop}{σ σ' U:Sg}(h:Keep w w Y Y' σ σ')(k:Keep w w Y' T σ' U):Keep w w Y T σ U:=⟨λ_ _ _=>rfl,λc hc h2=>h.excl c hc (k.excl c hc h2),Nat.le_refl _,h.sg.trans k.sg⟩
theorem U6 (v:PV){Y:Nat->Prop}{σ:Sg}{st:St}{n:Nat}{cv:Value}(H:SW C w Y σ ps vs st n)(hv:Rep w Y σ v cv) :
  ∃ Y' σ',SW C w Y' σ' ps vs (ac4 (iW.jI P T') v st n).2.1 (ac4 (iW.jI P T') v st n).2.2/\Rep w Y' σ' (ac4 (iW.jI P T') v st n).1 cv/\Keep w w Y Y' σ σ':=by
 have same:∃ Y' σ',SW C w Y' σ' ps vs st n/\Rep w Y' σ' v cv/\Keep w w Y Y' σ σ':=⟨Y,σ,H,hv,Keep.same (oq.refl _)⟩;simp only[ac4]
 split
 rename_i v' I;obtain⟨Y',H',hY⟩:=SW.roS (G6 [v] st) H;have K:Keep w w Y Y' σ σ:=⟨λ_ _ _=>rfl,λk _=>hY k,Nat.le_refl _,oq.refl _⟩
 have U:∀ b x l,aaM (roS st (G6 [v] st)) b=some x->σ b=some l->¬ Y' l.cb:=by
  intro b x l h1 h2;obtain⟨g,h4⟩:=He h1;rcases H'.store.blk b x g with ⟨l',J,hB⟩|⟨hn,_⟩
  rw[h2] at J;cases J;exact hB.ahy h4
  rw[h2] at hn;cases hn
 have hr:=Cf (P:=P) (T:=T') (Y0:=Y') H'.store (λb x h=>(He h).1) (λ_ h=>h) U (λb sz rows hb=>by have:=(He hb).2;cases this) 6 v v' cv I (Rep.keep _ K _ hv);exact⟨Y',σ,H',Rep.keep _ ⟨λ_ _ _=>rfl,λ_ _ h=>h,Nat.le_refl _,λb l h=>by simp[iU] at h⟩ _ hr,K⟩
 exact same
theorem PS (z:Nat×Bool)(v:PV){Y:Nat->Prop}{σ:Sg}{st:St}{n:Nat}{cv:Value}(H:SW C w Y σ ps vs st n)(hv:Rep w Y σ v cv) :
  ∃ Y' σ',SW C w Y' σ' ps vs (Iz (iW.jI P T') z v st n).2.1 (Iz (iW.jI P T') z v st n).2.2/\Rep w Y' σ' (Iz (iW.jI P T') z v st n).1 cv/\Keep w w Y Y' σ σ':=by
 have same:∃ Y' σ',SW C w Y' σ' ps vs st n/\Rep w Y' σ' v cv/\Keep w w Y Y' σ σ':=⟨Y,σ,H,hv,Keep.same (oq.refl _)⟩;obtain⟨z,re⟩:=z
 cases z with
 | zero=>
  cases re with
  | false=>exact same
  | true=>
   simp only[Iz]
   split
   rename_i b r m
   split
   rename_i sz rows U;obtain⟨Y',H',h1,h2,h3⟩:=H.ach U;have K:Keep w w Y Y' σ σ:=⟨λ_ _ _=>rfl,λk _=>h3 k,Nat.le_refl _,oq.refl _⟩
   have hr:=Cf (P:=P) (T:=T') (Y0:=Y') (lk:=λc=>if c=b then some (.mg sz rows) else none) H.store (λc x h=>by
     by_cases hc:c=b
     rw[if_pos hc] at h;cases h;rw[hc];exact U
     rw[if_neg hc] at h;cases h) h3 (λc x l h hl=>by
     by_cases hc:c=b
     rw[hc] at hl;exact h1 l hl
     rw[if_neg hc] at h;cases h) (λc sz2 g h r' row k h' J I e1 e2 e3=>by
     by_cases hc:c=b
     rw[if_pos hc] at h;cases h;have ho:ni st b r' k h' J I:=⟨sz,rows,row,U,e1,e2,e3⟩;exact⟨⟨(H.nest.rep _ _ _ _ _ _ ho).lt,h2 _ _ _ _ _ ho⟩,(H.nest.rep _ _ _ _ _ _ ho).rows⟩
     rw[if_neg hc] at h;cases h) 1 (.os b r m) (.sl sz ((iW.jI P T').fz ((iW.jI P T').sub rows r m)) false) cv (by simp[frz]) hv
   exact⟨Y',σ,H',Rep.keep _ ⟨λ_ _ _=>rfl,λ_ _ h=>h,Nat.le_refl _,λb l h=>by simp[iU] at h⟩ _ hr,K⟩
   exact U6 _ H hv
   exact U6 _ H hv
 | succ z=>
  cases v with
  | sl sz I f=>
   cases f with
   | false=>exact same
   | true=>
    cases I with
    | cons _ _=>exact same
    | nil=>
     have H1:=H.empty (id:=n) ⟨H.next _ (Nat.le_refl _),H.fix.1⟩ (z+1);have hm:max n (n+1)=n+1:=by omega
     rw[hm] at H1;refine⟨Y,σ,H1,?_,Keep.same (oq.refl _)⟩;show Rep w Y σ (.os n 0 0) cv;unfold Rep at hv |-;obtain⟨sx,len,cap,e,hl,hc,O,_⟩:=hv;have hl:len=0:=by simpa using hl
     have hc:=O rfl;subst hl;rw[e,hc];exact .inr ⟨rfl,sx,rfl⟩
  | os b r m=>
   cases re with
   | false=>exact same
   | true=>
    show ∃ Y' σ',SW C w Y' σ' ps vs (Iz (iW.jI P T') (z+1,true) (.os b r m) st n).2.1 (Iz (iW.jI P T') (z+1,true) (.os b r m) st n).2.2/\Rep w Y' σ' (Iz (iW.jI P T') (z+1,true) (.os b r m) st n).1 cv/\Keep w w Y Y' σ σ';simp only[Iz]
    split
    rename_i U;obtain⟨σ',H1,h1,h2⟩:=H.abd U hv;exact⟨Y,σ',H1,h1,Keep.same h2⟩
    exact same
  | _=>exact same
theorem IC:∀ (zs:List (Nat×Bool)) (cs:List PV) {Y:Nat->Prop} {σ:Sg} {st:St} {n:Nat} {cvs:List Value},SW C w Y σ ps vs st n->gI w Y σ cs cvs ->
  ∃ Y' σ',SW C w Y' σ' ps vs (Dc (iW.jI P T') zs cs st n).2.1 (Dc (iW.jI P T') zs cs st n).2.2/\gI w Y' σ' (Dc (iW.jI P T') zs cs st n).1 cvs/\Keep w w Y Y' σ σ'
 | z::zs,v::cs,Y,σ,st,n,cvs,H,hv=>by
  unfold gI at hv;obtain⟨c,U,rfl,h1,h2⟩:=hv;obtain⟨Y1,g,H1,h1,k1⟩:=PS (P:=P) (T':=T') z v H h1;obtain⟨J,T,I,h2,k2⟩:=IC zs cs H1 (gI.keep cs k1 _ h2);exact⟨J,T,I,by show gI w J T (_::_) _;unfold gI;exact⟨_,_,rfl,Rep.keep _ k2 _ h1,h2⟩,k1.abe k2⟩
 | [],cs,Y,σ,st,n,cvs,H,hv=>by unfold Dc;exact⟨_,σ,H,hv,Keep.same (oq.refl _)⟩
 | z::zs,[],Y,σ,st,n,cvs,H,hv=>by unfold Dc;exact⟨_,σ,H,hv,Keep.same (oq.refl _)⟩
theorem SN (zs:List (Nat×Bool))(v:PV){Y:Nat->Prop}{σ:Sg}{st:St}{n:Nat}{cv:Value}(H:SW C w Y σ ps vs st n)(hv:Rep w Y σ v cv) :
  ∃ Y' σ',SW C w Y' σ' ps vs (Wy (iW.jI P T') zs v st n).2.1 (Wy (iW.jI P T') zs v st n).2.2/\Rep w Y' σ' (Wy (iW.jI P T') zs v st n).1 cv/\Keep w w Y Y' σ σ':=by
 unfold Wy
 split
 rename_i cs;unfold Rep at hv;obtain⟨J,e,h⟩:=hv;obtain⟨T,U,H1,h1,k1⟩:=IC (P:=P) (T':=T') zs cs H h;exact⟨T,U,H1,by show Rep w T U (.agg _) _;unfold Rep;exact⟨_,e,h1⟩,k1⟩
 split
 exact PS _ _ H hv
 exact⟨_,σ,H,hv,Keep.same (oq.refl _)⟩
theorem PT:∀ (own:List (List (Nat×Bool))) (cs:List PV) {Y:Nat->Prop} {σ:Sg} {st:St} {n:Nat} {cvs:List Value},SW C w Y σ ps vs st n->gI w Y σ cs cvs ->
  ∃ Y' σ',SW C w Y' σ' ps vs (Oj (iW.jI P T') own cs st n).2.1 (Oj (iW.jI P T') own cs st n).2.2/\gI w Y' σ' (Oj (iW.jI P T') own cs st n).1 cvs/\Keep w w Y Y' σ σ'
 | z::zs,v::cs,Y,σ,st,n,cvs,H,hv=>by
  unfold gI at hv;obtain⟨c,U,rfl,h1,h2⟩:=hv;obtain⟨Y1,g,H1,h1,k1⟩:=SN (P:=P) (T':=T') z v H h1;obtain⟨J,T,I,h2,k2⟩:=PT zs cs H1 (gI.keep cs k1 _ h2);exact⟨J,T,I,by show gI w J T (_::_) _;unfold gI;exact⟨_,_,rfl,Rep.keep _ k2 _ h1,h2⟩,k1.abe k2⟩
 | [],cs,Y,σ,st,n,cvs,H,hv=>by unfold Oj;exact⟨_,σ,H,hv,Keep.same (oq.refl _)⟩
 | z::zs,[],Y,σ,st,n,cvs,H,hv=>by unfold Oj;exact⟨_,σ,H,hv,Keep.same (oq.refl _)⟩
theorem SQ (own:List (List (Nat×Bool)))(v:PV){Y:Nat->Prop}{σ:Sg}{st:St}{n:Nat}{cv:Value}(H:SW C w Y σ ps vs st n)(hv:Rep w Y σ v cv) :
  ∃ Y' σ' I,SW C w Y' σ' ps vs (WA (iW.jI P T') own v st n).2.1 I/\Rep w Y' σ' (WA (iW.jI P T') own v st n).1 cv:=by
 unfold WA
 split
 rename_i cs;unfold Rep at hv;obtain⟨J,e,h⟩:=hv;obtain⟨T,U,H1,h1,_⟩:=PT (P:=P) (T':=T') own cs H h;exact⟨T,U,_,H1,by show Rep w T U (.DJ _) _;unfold Rep;exact⟨_,e,h1⟩⟩
 split
 obtain⟨T,U,H1,h1,_⟩:=SN (P:=P) (T':=T') _ _ H hv;exact⟨T,U,_,H1,h1⟩
 exact⟨Y,σ,_,H,hv⟩
end
end Go.Pv
namespace Go.Pv
open Go
def aeO (tmps:Array Value):ResultVar->Sem Value
 | .tmp t=>pure (tmps.getD t Go.undef)
 | .cell a t=>do loadVar t (<- asAddr (tmps.getD a Go.undef))
theorem abf (fn:Func)(tmps:Array Value):results fn tmps=(do let vs <- fn.results.mapM (aeO tmps);pure (if h:vs.size=1 then vs[0] else .tuple vs)):=by
 unfold results
 congr 1
theorem SS {P:Program}{T:Tab}(hT:jq P T){C:Ctx T}{w:World}{Y:Nat->Prop}{σ:Sg}{E:Env}{tmps:Array Value}(H:SW C w Y σ E.tmps tmps.toList E.st E.next) :
  ∀ (rs:List ResultVar) (vs:List PV),UD T E rs=some vs ->
   ∃ cvs:List Value,(rs.mapM (aeO tmps)).run P w=.ok cvs w/\gI w Y σ vs cvs
 | [],vs,h=>by simp[UD] at h;subst h;exact⟨[],by simp,by simp[gI]⟩
 | r::rs,vs,h=>by
  unfold UD at h
  split at h
  cases h
  rename_i v hv
  split at h
  cases h
  rename_i vs' hvs;cases h;obtain⟨cvs,hrun,hr⟩:=SS hT H rs vs' hvs;have gd:∀ t,tmps.getD t Go.undef=tmps.toList.getD t Go.undef:=by intro t;simp[Array.getD_eq_getD_getElem?,List.getD_eq_getElem?_getD]
  have one:∃ cv,(aeO tmps r).run P w=.ok cv w/\Rep w Y σ v cv:=by
   cases r with
   | tmp t=>
    simp[ahm] at hv;subst hv;exact⟨tmps.getD t Go.undef,by simp[aeO],by rw[gd];exact H.vals.get _ _ t⟩
   | cell c t=>
    simp only[ahm] at hv
    split at hv
    rename_i b off agg size z plain kind e1 e2;obtain⟨U,hsize,hagg,g⟩:=UG hT e2;have hc:=H.vals.get _ _ c;rw[e1] at hc;unfold Rep at hc;obtain⟨l,hl,ec⟩:=hc
    split at hv
    rename_i ro row hb;have hB:=gW.yR H (λ_ _ h=>h) hb hl;unfold gW at hB
    have hld:loadRow agg size row off (λu=>u=v):=by
     unfold loadRow
     cases agg with
     | true=>
      simp only[cond_true] at hv |-
      cases hh:Nat.ble (off+size) (oG row) with
      | true=>rw[hh] at hv;simp only[cond_true] at hv |-;exact Option.some.inj hv
      | false=>rw[hh] at hv;cases hv
     | false=>
      simp only[cond_false] at hv |-
      cases hh:Nat.blt off (oG row) with
      | true=>rw[hh] at hv;simp only[cond_true] at hv |-;exact Option.some.inj hv
      | false=>rw[hh] at hv;cases hv
    obtain⟨u,cv,rfl,I,hrep⟩:=SC U hsize hagg g hB.2.2.2.1 hld;refine⟨cv,?_,hrep⟩;simp only[aeO];rw[gd,ec];simp only[asAddr,Sem.run_bind,Sem.run_pure,Result.andThen];exact I
    cases hv
    cases hv
  obtain⟨cv,J,hr1⟩:=one;refine⟨cv::cvs,?_,by unfold gI;exact⟨cv,cvs,rfl,hr1,hr⟩⟩;rw[List.mapM_cons];simp only[Sem.run_bind,J,Result.andThen,hrun,Sem.run_pure]
theorem MW {P:Program}{T:Tab}(hT:jq P T){C:Ctx T}{w:World}{Y:Nat->Prop}{σ:Sg}{E:Env}{tmps:Array Value}{fn:Func}(H:SW C w Y σ E.tmps tmps.toList E.st E.next){vs:List PV}(h:UD T E fn.results.toList=some vs) :
  ∃ cv,(results fn tmps).run P w=.ok cv w/\Rep w Y σ (Iy vs) cv:=by
 obtain⟨cvs,J,hrep⟩:=SS hT H _ _ h;have hl:=hrep.length
 have U:(results fn tmps).run P w=.ok (if h:cvs.toArray.size=1 then cvs.toArray[0] else .tuple cvs.toArray) w:=by
  rw[abf,Array.mapM_eq_mapM_toList];simp only[Sem.run_bind,map_eq_pure_bind,J,Result.andThen,Sem.run_pure]
 by_cases h1:cvs.length=1
 rw[h1] at hl
 match vs,hl,hrep with
 | [x],_,hrep=>
  obtain⟨cv,rfl,g⟩:=Ha hrep;exact⟨cv,by rw[U];simp,g⟩
 have I:¬ cvs.toArray.size=1:=by simpa using h1
 refine⟨.tuple cvs.toArray,by rw[U,dif_neg I],?_⟩
 have:Iy vs=.DJ vs:=by
  match vs,hl with
  | [],_=>rfl
  | [x],hl=>exact absurd hl h1
  | _::_::_,_=>rfl
 rw[this];unfold Rep;exact⟨cvs,rfl,hrep⟩
theorem FZ:∀ (st:St),lY st=true->∀ b sz rows,jk st b≠some (.mg sz rows)
 | [],_,b,sz,rows,h=>by simp[jk] at h
 | (c,x)::st,h,b,sz,rows,hb=>by
  have h1:lY st=true/\∀ sz rows,x≠some (.mg sz rows):=by
   cases x with
   | none=>exact⟨by simpa [lY] using h,by simp⟩
   | some y=>cases y<;>simp_all[lY]
  simp only[jk] at hb
  cases hc:Nat.beq c b with
  | true=>rw[hc] at hb;exact h1.2 _ _ hb
  | false=>rw[hc] at hb;exact FZ st h1.1 b sz rows hb
theorem F5 {w:World}{Y:Nat->Prop}{σ:Sg}:∀ n,gI w Y σ (sF n) (List.replicate n Go.undef)
 | 0=>by simp[sF,gI]
 | n+1=>by simp only[sF,List.replicate_succ];unfold gI;exact⟨_,_,rfl,by simp[Rep],F5 n⟩
theorem abg {P:Program}{T:Tab}(hT:jq P T)(hp:T.qf=0)(hW:Ci P){k:Nat}{fn:Func}{c:Code}(O:P.funcs[k]?=some fn)(hb:fn.body=some c)
  (I:∀ args w,(callFunc k args).run P w=.ok (.enter k args) w) {args:List PV} {R:PV->Prop} {m:Nat} (hm:fn.ntmps-args.length=m)
  (h:∀ S,S=iW.jI P T->I4 T S c (af2 T S fn.results.toList R) ⟨vk args (sF m),[],0⟩) (hyl:T.yl=none:=by rfl):Fn P T.gl k args R:=by
 intro w Y U hG hY J;refine⟨I _ _,?_⟩
 let C:Ctx T:=⟨w,Y,λ_=>False,λ_=>False,iU,[]⟩;have hlen:=J.length
 have H0:SW C w Y iU (vk args (sF m)) ((U.toArray++Array.replicate (fn.ntmps-U.toArray.size) Go.undef).toList) [] 0:=by
  refine⟨?_,⟨λb x h=>by simp[jk] at h,λb b' x x' l l' h=>by simp[jk] at h⟩,λ_ _=>rfl,hY,λ_ h=>h,λk h=>⟨hY k h,λh=>h⟩,λk h _=>.inl h,KL.refl _ w,λb x l h=>by simp[jk] at h,hG,⟨by omega,λ_ _=>rfl⟩,Aj.none (λb sz rows h=>by simp[jk] at h)⟩;have:(U.toArray++Array.replicate (fn.ntmps-U.toArray.size) Go.undef).toList=U++List.replicate m Go.undef:=by simp[hlen,hm]
  rw[this];exact gI.app _ _ _ _ J (F5 m)
 have hwp:=zY hT hW c _ _ (h _ rfl) C { tmps:=U.toArray++Array.replicate (fn.ntmps-U.toArray.size) Go.undef,defers:=[] } w ⟨⟨Y,iU,H0⟩,rfl,YOK.none hyl⟩;refine calls_of_wp O hb (wp_mono hwp ?_)
 have key:∀ (a:Act) (w' : World),(∃ E,lL C E a w'/\Zp T (iW.jI P T) fn.results.toList E R)->a.defers=[]/\∃ v,(results fn a.tmps).run P w'=.ok v w'/\∃ cv u,Ending.returned v=.returned cv/\R u/\Rep w' Y iU u cv/\Chg w w':=by
  rintro a w' ⟨E,⟨⟨Y',σ',H⟩,hd⟩,hr⟩
  refine⟨hd.1,?_⟩;unfold Zp at hr
  split at hr
  rename_i vs hv
  split at hr
  rename_i u hu;obtain⟨cv,hrun,hrep⟩:=MW hT H hv
  exact⟨cv,hrun,cv,u,rfl,hr,Cf H.store (λ_ _ h=>h) H.y0 (λb x l hx hl=>H.away hx hl) (λb sz rows hb r row c h sz' es h1 h2 h3=>by
   have hO:ni E.st b r c h sz' es:=⟨sz,rows,row,hb,h1,h2,h3⟩;have hN:=H.nest.rep _ _ _ _ _ _ hO;refine⟨⟨hN.lt,λhy=>?_⟩,hN.rows⟩;have:=H.c0 _ hy;rcases H.nest.old _ _ _ _ _ _ hO with g|g
   omega
   exact this.2 g) _ _ _ _ hu hrep,H.qm.qm λ_ h=>h⟩
  exact hr.elim
  exact hr.elim
 intro e a w' hq
 cases e with
 | normal=>exact key a w' hq
 | ret=>exact key a w' hq
 | exit n=>obtain⟨E,_,hq⟩:=hq;exact hq.elim
 | _=>exact hq.elim
theorem ZR {P:Program}{T:Tab}(hT:jq P T)(hW:Ci P){k:Nat}{fn:Func}{c:Code}(O:P.funcs[k]?=some fn)(hb:fn.body=some c)
  (hcall:∀ args w,(callFunc k args).run P w=.ok (.enter k args) w) {args:List PV} {st:St} {R:PV->St->Nat->Prop} {m:Nat} (hm:fn.ntmps-args.length=m)
  (h:∀ S,S=iW.jI P T->I4 T S c (aee T S fn.results.toList R) ⟨vk args (sF m),st,T.qf⟩) (hyl:T.yl=none:=by rfl):FnS P T.gl k args st T.qf R:=by
 intro w Y σ U hG hY hn I hst hnn;refine⟨hcall _ _,?_⟩;have hlen:=I.length
 let C:Ctx T:=xR T w Y σ st
 have H0:SW C w Y σ (vk args (sF m)) ((U.toArray++Array.replicate (fn.ntmps-U.toArray.size) Go.undef).toList) st T.qf:=by
  refine⟨?_,hst,hn,hY,λ_ h=>h.1,λk h=>⟨hY k h.1,h.2⟩,λk h _=>?_,KL.refl _ w,λb x l h1 h2=>.inr ⟨b,x,l,h1,h2,rfl⟩,hG,⟨Nat.le_refl _,λ_ _=>rfl⟩,Aj.none (FZ st hnn)⟩
  have:(U.toArray++Array.replicate (fn.ntmps-U.toArray.size) Go.undef).toList=U++List.replicate m Go.undef:=by simp[hlen,hm]
  rw[this];exact gI.app _ _ _ _ I (F5 m)
  by_cases hi:Ed σ st k
  exact .inr ⟨h,hi⟩
  exact .inl ⟨h,hi⟩
 have hwp:=zY hT hW c _ _ (h _ rfl) C { tmps:=U.toArray++Array.replicate (fn.ntmps-U.toArray.size) Go.undef,defers:=[] } w ⟨⟨Y,σ,H0⟩,rfl,YOK.none hyl⟩;refine calls_of_wp O hb (wp_mono hwp ?_)
 have key:∀ (a:Act) (w' : World),(∃ E,lL C E a w'/\SA T (iW.jI P T) fn.results.toList E R)->a.defers=[]/\∃ v,(results fn a.tmps).run P w'=.ok v w' /\
   ∃ cv u st' n' Y' σ',Ending.returned v=.returned cv/\R u st' n'/\SW (xR ⟨λ_=>.bad,T.gl,T.qf,[],0,[],[],none,λ_=>[]⟩ w Y σ st) w' Y' σ' [u] [cv] st' n':=by
  rintro a w' ⟨E,⟨⟨Y',σ',H⟩,hd⟩,hr⟩
  refine⟨hd.1,?_⟩;unfold SA at hr
  split at hr
  rename_i vs hv;obtain⟨cv,hrun,hrep⟩:=MW hT H hv;have H1:SW C w' Y' σ' [Iy vs] [cv] E.st E.next:=H.rG eF
  obtain⟨Y1,σ1,n',H2,g⟩:=SQ (P:=P) (T':=T) T.own (Iy vs) H1 hrep;have H3:=H2.rG (show gI w' Y1 σ1 [(WA (iW.jI P T) T.own (Iy vs) E.st E.next).1] [cv] by unfold gI;exact⟨_,_,rfl,g,by unfold gI;rfl⟩)
  split at hr
  rename_i v st2 n2 he;rw[he] at H3;obtain⟨h1,h2,h3⟩:=KY T.qf st2 [v];obtain⟨σ2,J,_⟩:=H3.Zm h1 h2 h3;refine⟨cv,hrun,cv,_,_,_,Y1,σ2,rfl,hr,⟨?_,J.store,J.next,J.vJ,J.y0,J.c0,J.wS,J.qm,J.own,J.wU,J.fix,J.nest⟩⟩
  simpa only[Ai] using J.vals
  exact hr.elim
 intro e a w' hq
 cases e with
 | normal=>exact key a w' hq
 | ret=>exact key a w' hq
 | exit n=>obtain⟨E,_,hq⟩:=hq;exact hq.elim
 | _=>exact hq.elim
end Go.Pv
namespace Go.Pv
open Go
def lkT:List (Nat×TI)->Nat->TI
 | [],_=>.bad
 | (k,i)::l,t=>bif Nat.beq k t then i else lkT l t
def ZT (P:Program):List (Nat×TI)->List TI
 | []=>[]
 | (k,_)::l=>(bif Nat.blt k P.types.size then ad2 P k else .bad)::ZT P l
def U7:List (Nat×TI)->List TI
 | []=>[]
 | (_,i)::l=>i::U7 l
def acs (l:List (Nat×TI))(gl:Nat->Option (List PV))(qf:Nat)(cut:List Nat)(mg:Nat)(own:List (List (Nat×Bool)))(dcl:List (Nat×Nat)):Tab:=⟨lkT l,gl,qf,cut,mg,own,dcl,none,λ_=>[]⟩
theorem ZU {P:Program}{gl:Nat->Option (List PV)}{qf:Nat}{cut:List Nat}{mg:Nat}{own:List (List (Nat×Bool))}{dcl:List (Nat×Nat)}:∀ (l:List (Nat×TI)),ZT P l=U7 l->jq P (acs l gl qf cut mg own dcl)
 | [],_=>λt h=>by simp[acs,lkT,TI.bad] at h
 | (k,i)::l,h=>λt hk=>by
  have T:=ZU (P:=P) (gl:=gl) (qf:=qf) (cut:=cut) (mg:=mg) (own:=own) (dcl:=dcl) l;simp only[acs] at hk T |-;simp only[ZT,U7,List.cons.injEq] at h;simp only[lkT] at hk |-
  cases e:Nat.beq k t with
  | true=>
   rw[e] at hk;simp only[cond_true] at hk |-;have e:=Nat.eq_of_beq_eq_true e;subst e
   cases U:Nat.blt k P.types.size with
   | true=>rw[U] at h;rw[Nat.blt_eq] at U;exact⟨h.1.symm,U⟩
   | false=>rw[U] at h;rw[<- h.1] at hk;simp[TI.bad] at hk
  | false=>
   rw[e] at hk;simp only[cond_false] at hk |-;exact T h.2 t hk
theorem Ua {P:Program}{T:Tab}(l:List (Nat×TI))(h:ZT P l=U7 l)(e:T.ti=lkT l):jq P T:=by
 intro t ht;have k:=ZU (gl:=λ_=>none) (qf:=0) (cut:=[]) (mg:=0) (own:=[]) (dcl:=[]) l h t;simp only[acs] at k;rw[e] at ht |-;exact k ht
def WV (P:Program)(t:TypeId):Bool :=
 match P.underlying t with
 | none=>false
 | some (.struct fs)=>fs.toList.all λf=>(P.info? f.type).isSome
 | some (.array _ e)=>(P.info? e).isSome
 | some _=>true
def agu (P:Program):Nat->Bool
 | 0=>true
 | n+1=>WV P n&&agu P n
theorem WW {P:Program}:∀ n,agu P n=true->∀ t,t<n->WV P t=true
 | 0,_,t,h=>by omega
 | n+1,h,t,ht=>by
  simp only[agu,Bool.and_eq_true] at h
  by_cases e:t=n
  rw[e];exact h.1
  exact WW n h.2 t ah
theorem abh {info:TypeId->Option TypeInfo}{d:TypeDesc}{i:TypeInfo}(h:Made.reckon info d=some i):∀ n u,i.desc≠.named n u:=by
 intro n u hn;cases d<;>simp only[Made.reckon,Option.bind_eq_bind,Option.pure_def] at h
 case pointer e=>
  obtain⟨j,_,h⟩:=Option.bind_eq_some_iff.1 h
  split at h
  cases h
  split at h
  cases h
  obtain⟨s,_,h⟩:=Option.bind_eq_some_iff.1 h;cases h;cases hn
  obtain⟨s,_,h⟩:=Option.bind_eq_some_iff.1 h;cases h;cases hn
 case struct fs=>
  unfold Made.reckonStruct at h;simp only[Option.bind_eq_bind,Option.pure_def] at h;obtain⟨x,_,h⟩:=Option.bind_eq_some_iff.1 h
  split at h<;>(cases h;cases hn)
 all_goals first
  | (cases h;done)
  | (obtain⟨s,_,h⟩:=Option.bind_eq_some_iff.1 h;cases h;cases hn;done)
  | (
   obtain⟨s,_,h⟩:=Option.bind_eq_some_iff.1 h;obtain⟨s,_,h⟩:=Option.bind_eq_some_iff.1 h;cases h;cases hn;done)
  | (
   obtain⟨s,_,h⟩:=Option.bind_eq_some_iff.1 h;obtain⟨s,_,h⟩:=Option.bind_eq_some_iff.1 h;obtain⟨s,_,h⟩:=Option.bind_eq_some_iff.1 h;obtain⟨s,_,h⟩:=Option.bind_eq_some_iff.1 h;cases h;cases hn;done)
theorem aiA {P:Program}(h:agu P P.types.size=true)(C:P.follows .mixedOrders=true):Ci P:=by
 have key:∀ t,t<P.types.size->WV P t=true:=WW _ h;refine⟨?_,?_,?_,C⟩
 intro t ht
 by_cases U:t<P.types.size
 have:=key t U;unfold WV at this
 cases hu:P.underlying t with
 | none=>rw[hu] at this;cases this
 | some d=>exact⟨d,rfl⟩
 cases hi:P.info? t with
 | none=>exact absurd hi ht
 | some i=>
  have T:=hi;unfold Tables.info? at T;rw[if_neg U,show Made.depth=99+1 from rfl,Made.infoAt,if_neg U] at T;obtain⟨d,_,I⟩:=Option.bind_eq_some_iff.1 T;have J:=abh I;refine⟨i.desc,?_⟩;unfold Program.underlying;rw[hi]
  split
  rename_i n u e;cases e;exact absurd rfl (J _ _)
  rename_i e;cases e;rfl
  rename_i e;cases e
 intro t g U hu f O;have:=key t U;unfold WV at this;rw[hu] at this;have:=List.all_eq_true.1 this f O;intro e;rw[e] at this;cases this
 intro t k e U hu;have:=key t U;unfold WV at this;rw[hu] at this;simp only at this;intro e;rw[e] at this;cases this
section
variable {P:Program}{T:Tab}{S:iW}(hS:S=iW.jI P T)
include hS
theorem aiB {b:Bool}{t f:Unit->Prop}(U:b=true)(h:t ()):S.br b t f:=by subst hS;exact⟨λ_=>h,λe=>(by rw[U] at e;cases e)⟩
theorem aiC {b:Bool}{t f:Unit->Prop}(U:b=false)(h:f ()):S.br b t f:=by subst hS;exact⟨λe=>(by rw[U] at e;cases e),λ_=>h⟩
theorem agv {k:Nat}{args:List PV}{K:PV->Prop}{v:PV}(hF:Fn P T.gl k args (λu=>u=v))(h:K v):S.Uo k args K:=by subst hS;exact⟨v,hF,h⟩
theorem agw {k:Nat}{args:List PV}{K:PV->Prop}{v:PV}(hF:Fn P T.gl k args (λu=>u=v))(O:IZ 6 v=true)(h:K v):S.Wp k args K:=by subst hS;exact⟨v,hF,O,h⟩
theorem agx {k:Nat}{args bs as:List PV}{E:Env}{free:Option (List PV)}{ρ:List Nat}{st0:St}{K:PV->Env->Prop}{v:PV}(hF:Fn P T.gl k bs (λu=>u=v))(O:IZ 6 v=true)(h:K v E):S.call k args E (some bs) free ρ as st0 K:=by
 subst hS;exact .inl ⟨bs,v,rfl,hF,O,h⟩
theorem agy {k:Nat}{args bs as:List PV}{E:Env}{U:Option (List PV)}{ρ:List Nat}{st0:St}{K:PV->Env->Prop}{v:PV}(hF:Fn P T.gl k bs (λu=>u=v))(h:K v ⟨E.tmps,roS E.st ρ,E.next⟩):S.call k args E U (some bs) ρ as st0 K:=by
 subst hS;exact .inr (.inl ⟨bs,v,rfl,hF,h⟩)
theorem acu {k:Nat}{args as:List PV}{E:Env}{U free:Option (List PV)}{ρ:List Nat}{st0:St}{m:Nat}{K:PV->Env->Prop}{v:PV}{st1:St}{n1:Nat}(hF:FnS P T.gl k as st0 m (λu s n=>u=v/\s=st1/\n=n1))(J:m=lH ρ)(h1:KP ρ=true)(h2:ltN E.next ρ=true)(h0:lY st0=true)
  (h:K (vI (BQ ρ E.next) 8 v) (EM ρ E st1 n1)):S.call k args E U free ρ as st0 K:=by
 subst hS;subst J;exact .inr (.inr (.inl ⟨v,st1,n1,h1,h2,h0,hF,h⟩))
theorem ahE {n bytes:Nat}{p:Prop}(h1:(2*n+192)*bytes<=140737488355328)(h2:n<=4611686018427387904)(h:p):S.room n bytes p:=by subst hS;exact⟨h1,h2,h⟩
theorem ahF {K:Hdr->Prop}(h:∀ x,K x):S.nu K:=by subst hS;exact h
theorem zN {x y:Hdr}{p:Prop}(e:x=y)(h:p):S.same x y p:=by subst hS;exact⟨e,h⟩
theorem acv {l:Array Oper}{p:Prop}(U:FU T l=true)(h:p):S.order l p:=by subst hS;exact⟨U,h⟩
theorem X4 {l:Array Oper}{p:Prop}(U:Oh l=true)(h:p):S.last l p:=by subst hS;exact⟨U,h⟩
theorem aeP {l:Array Oper}{tr:List (List Nat×List Nat×List Nat)}{p:Prop}(U:(FT l l.toList 0&&ac6 (UB l.toList []) tr 0)=true)(h:p):S.ac0 l tr p:=by subst hS;exact⟨U,h⟩
theorem aiD {U:List (List PV)}{i:Int}{K:List PV->Prop}{j:Nat}{row:List PV}(hi:i=(j:Int))(hr:U[j]?=some row)(h:K row):S.idx U i K:=by subst hS;exact⟨j,row,hi,hr,h⟩
theorem aiE {n:Nat}{i:Int}{K:Nat->Prop}{j:Nat}(hi:i=(j:Int))(hr:j<n)(h:K j):S.ix n i K:=by subst hS;exact⟨j,hi,hr,h⟩
theorem ag3 {rows:List (List PV)}{j:Nat}{K:List PV->Prop}{row:List PV}(hr:rows[j]?=some row)(h:K row):S.row rows j K:=by subst hS;exact⟨row,hr,h⟩
theorem oU {ci:Nat}{U:Env}{A:Post->Prop}{B:Env->Prop}{Q:Post}(h:A (Iw B Q)):S.seq ci U A B Q:=by subst hS;exact⟨_,h,λn E h=>⟨E,Ent.refl E,h⟩⟩
end
end Go.Pv
