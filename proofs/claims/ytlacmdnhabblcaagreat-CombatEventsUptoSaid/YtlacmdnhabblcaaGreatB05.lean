import Derived.Test.YtlacmdnhabblcaaGreatB04
set_option linter.all false
namespace Go.Pv
open Go
section
variable {P:Program}{T:Tab}
structure Facts (P:Program)(T:Tab)(all:Array Oper)(rs:List Rec)(st:St)(nx nxf:Nat):Prop where
 len:rs.length=all.size
 old:∀ b,kR st b≠none->b<nx
 ids:∀ (i:Nat) (r:Rec),rs[i]?=some r->r.big=true->r.id=Dc rs nx i/\nx<=r.id/\r.id+32<=nxf
 small:∀ (i:Nat) (r:Rec),rs[i]?=some r->r.big=false->r.δ=[]
 cls:∀ (i:Nat) (o:Oper) (r:Rec),all[i]?=some o->rs[i]?=some r->r.big=true->(sZ T o.op=1/\(∃ x,r.δ=[(r.id,some x)])/\r.lk=VZ)\/(sZ T o.op=2/\(∀ b,afe r.δ b->b<r.id+32)/\r.lk=kR (AY rs st i))
 looks:∀ (i:Nat) (o:Oper) (r:Rec),all[i]?=some o->rs[i]?=some r->r.wb=true->∀ b x,r.lk b=some x->kR (AY rs st i) b=some x/\(sZ T o.op=2\/sZ T o.op=3) /\
  (sZ T o.op=3->∀ (k:Nat) (rk:Rec) (ok:Oper),k<i->rs[k]?=some rk->all[k]?=some ok->rk.big=true->sZ T ok.op=1->rk.id=b->∃ m om,k<m/\m<i/\all[m]?=some om/\sZ T om.op=2)
theorem aaJ {rs:List Rec}{nx i k:Nat}{r U : Rec}(T:i<k)(hr:rs[i]?=some r)(hb:r.big=true)(h:r.id=Dc rs nx i)(R : U.id=Dc rs nx k):r.id+32<=U.id:=by
 have h1:=Qs rs nx i r hr;rw[hb] at h1;have h2:=UJ (rs:=rs) (n:=nx) (show i+1<=k by omega);rw[h1] at h2;simp only[bump] at h2;omega
theorem Xz {P:Program}{T:Tab}{all:Array Oper}:∀ (l:List Oper) (rs:List Rec) {p:List PV} {st:St} {nx:Nat} {pend:List Nat} {f:List PV} {R:St} {I:Nat},ChD P T all l rs p st nx pend f R I->(∀ b,kR st b≠none->b<nx)->∀ i b,kR (AY rs st i) b≠none->b<Dc rs nx i
 | l,rs,_,_,_,_,_,_,_,_,h0,0,b,hb=>by simp only[AY,Dc] at hb |-;exact h0 b hb
 | [],[],_,_,_,_,_,_,_,_,h0,i+1,b,hb=>h0 b hb
 | o::l,r::rs,_,st,nx,_,_,_,_,h,h0,i+1,b,hb=>by
  simp only[AY,Dc] at hb |-;refine Xz l rs h.2 (λc U=>?_) i b hb;rw[qO] at U;rcases h.1.cls with ⟨h1,h2,_⟩|⟨_,h1,h2,_,⟨x,J⟩,_⟩|⟨_,h1,h2,_,J,_⟩
  rw[h2] at U;rw[h1];exact h0 c U
  rw[h1];rw[J] at U;simp only[lU,bump] at U |-
  by_cases g:nx=c
  omega
  rw[if_neg g] at U;have:=h0 c U;omega
  rw[h1];simp only[bump]
  by_cases C:lU r.δ c=none
  rw[C] at U;have:=h0 c U;omega
  exact J c (MR _ _ C)
 | [],_::_,_,_,_,_,_,_,_,h,_,_,_,_=>h.elim
 | _::_,[],_,_,_,_,_,_,_,h,_,_,_,_=>h.elim
theorem ZG {P:Program}{T:Tab}{all:Array Oper}:∀ (l:List Oper) (rs:List Rec) {p:List PV} {st:St} {nx:Nat} {pend:List Nat} {f:List PV} {g:St} {nxf:Nat},ChD P T all l rs p st nx pend f g nxf ->
  ∀ i,(∀ k I ok,k<i->rs[k]?=some I->l[k]?=some ok->I.big=true->sZ T ok.op=1->I.id∈Ri T l rs pend i\/∃ m U,k<m/\m<i/\l[m]?=some U/\sZ T U.op=2) /\
   (∀ b,b∈pend->b∈Ri T l rs pend i\/∃ m U,m<i/\l[m]?=some U/\sZ T U.op=2)
 | l,rs,_,_,_,_,_,_,_,_,0=>by simp only[Ri];exact⟨λk I ok h=>by omega,λb hb=>.inl hb⟩
 | [],[],_,_,_,_,_,_,_,_,i+1=>⟨λk I ok _ h=>by simp at h,λb hb=>.inl hb⟩
 | o::l,r::rs,_,_,_,pend,_,_,_,h,i+1=>by
  obtain⟨h1,h2⟩:=ZG l rs h.2 i;simp only[Ri]
  have lift:(∃ m U,m<i/\l[m]?=some U/\sZ T U.op=2)->∃ m U,0<m/\m<i+1/\(o::l)[m]?=some U/\sZ T U.op=2:=by
   rintro⟨m,U,R,J,C⟩
   exact⟨m+1,U,by omega,by omega,by simpa using J,C⟩
  have two:sZ T o.op=2->∃ m U,m<i+1/\(o::l)[m]?=some U/\sZ T U.op=2:=λh=>⟨0,o,by omega,rfl,h⟩
  refine⟨λk I ok hk hr ho hb hc=>?_,λb hb=>?_⟩
  cases k with
  | zero =>
   simp at hr ho;subst hr;subst ho
   have hm:r.id∈SY T o r pend:=by
    unfold SY;rw[hb];simp[hc]
   rcases h2 r.id hm with R|R
   exact .inl R
   exact .inr (lift R)
  | succ k =>
   rcases h1 k I ok ai dF (by simpa using ho) hb hc with R|⟨m,U,R,J,C,h6⟩
   exact .inl R
   exact .inr ⟨m+1,U,by omega,by omega,by simpa using C,h6⟩
  by_cases hp:b∈SY T o r pend
  rcases h2 b hp with R|R
  exact .inl R
  obtain⟨m,U,_,J,C,h6⟩:=lift R;exact .inr ⟨m,U,J,C,h6⟩
  refine .inr (two ?_);rcases h.1.cls with ⟨R,_⟩|⟨_,R,_,J,_⟩|⟨_,R,_,J,_⟩
  exfalso;apply hp;unfold SY;rw[R];exact hb
  exfalso;apply hp;unfold SY;rw[R];simp[J,hb]
  exact J
 | [],_::_,_,_,_,_,_,_,_,h,_=>h.elim
 | _::_,[],_,_,_,_,_,_,_,h,_=>h.elim
theorem ahN {all:Array Oper}{rs:List Rec}{p:List PV}{st:St}{nx:Nat}{f:List PV}{stf:St}{C:Nat}(h:ChD P T all all.toList rs p st nx [] f stf C)(h0:∀ b,kR st b≠none->b<nx):Facts P T all rs st nx C:=by
 have hl:=(ChD.len _ _ h).1;have hnf:=(ChD.fin _ _ h).2
 have get:∀ i r,rs[i]?=some r->∃ o q,all[i]?=some o/\adL P T all o r q (AY rs st i) (Dc rs nx i) (Ri T all.toList rs [] i):=by
  intro i r hr
  have g:i<rs.length:=by
   by_cases hh:i<rs.length
   exact hh
   rw[List.getElem?_eq_none (Nat.le_of_not_lt hh)] at hr;cases hr
  have R : i<all.toList.length:=by omega
  obtain⟨r',q,a0,_,a2,_⟩:=ChD.get _ _ h i _ (List.getElem?_eq_getElem R);rw[hr] at a0;cases a0;exact⟨_,q,by rw[<- Array.getElem?_toList];exact List.getElem?_eq_getElem R,a2⟩
 refine⟨by simpa using hl,h0,λi r hr hb=>?_,λi r hr hb=>?_,λi o r ho hr hb=>?_,λi o r ho hr hw b x hb=>?_⟩
 obtain⟨o,q,_,hs⟩:=get i r hr
 have hid:r.id=Dc rs nx i:=by
  rcases hs.cls with ⟨h1,_⟩|⟨_,_,h1,_⟩|⟨_,_,h1,_⟩
  rw[hb] at h1;cases h1
  exact h1
  exact h1
 refine⟨hid,by rw[hid];exact Rj _ _ _,?_⟩
 have g:i<rs.length:=by
  by_cases hh:i<rs.length
  exact hh
  rw[List.getElem?_eq_none (Nat.le_of_not_lt hh)] at hr;cases hr
 have h2:=UJ (rs:=rs) (n:=nx) (show i+1<=rs.length by omega);rw[Qs _ _ _ _ hr,hb,<- hnf] at h2;simp only[bump] at h2;omega
 obtain⟨o,q,_,hs⟩:=get i r hr;rcases hs.cls with ⟨_,h1,_⟩|⟨_,h1,_⟩|⟨_,h1,_⟩
 exact h1
 rw[hb] at h1;cases h1
 rw[hb] at h1;cases h1
 obtain⟨o',q,U,hs⟩:=get i r hr;rw[ho] at U;cases U;rcases hs.cls with ⟨h1,_⟩|⟨_,_,h1,h2,⟨x,I⟩,J⟩|⟨_,_,h1,h2,I,J⟩
 rw[hb] at h1;cases h1
 exact .inl ⟨h2,⟨x,by rw[I,h1]⟩,J⟩
 exact .inr ⟨h2,by rw[h1];exact I,J⟩
 obtain⟨o',q,U,hs⟩:=get i r hr;rw[ho] at U;cases U;rcases hs.cls with ⟨_,_,I⟩|⟨_,_,_,_,_,J⟩|⟨_,_,_,h2,_,J⟩
 obtain⟨c1,c2,c3⟩:=I hw b x hb;refine⟨c3,.inr c1,λ_ k rk ok hk hrk hok hbk hck hid=>?_⟩;rcases (ZG _ _ h i).1 k rk ok hk hrk (by simpa using hok) hbk hck with h5|⟨m,om,h5,h6,h7,h8⟩
 rw[hid] at h5;exact absurd h5 c2
 exact⟨m,om,h5,h6,by simpa using h7,h8⟩
 rw[J] at hb;cases hb
 rw[J] at hb;exact⟨hb,.inl h2,λh=>by rw[h2] at h;cases h⟩
theorem ZH:∀ l:List Oper,WV l=l.length
 | []=>rfl
 | _::l=>by simp[WV,ZH l]
theorem XA {l:List Nat}:∀ n,allIn l n=true->∀ k,k<n->k∈l
 | 0,_,k,h=>by omega
 | n+1,h,k,hk=>by
  simp only[allIn,Bool.and_eq_true] at h;rcases Nat.lt_or_ge k n with h'|h'
  exact XA n h.2 k h'
  rw[show k=n by omega];exact (KD _ _).1 h.1
theorem acf {all:Array Oper}(h:QZ all=true){i k:Nat}(hi:i+1=all.size)(hk:k<i):Bef all k i:=by
 unfold QZ at h
 split at h
 cases h
 rename_i o l e
 have U:l.length=i:=by
  have:all.toList.length=i+1:=by simpa using hi.symm
  rw[e] at this;simpa using this
 rw[ZH,U] at h;exact MS all.toList [] (λk o h=>by simpa using h) (λi b hb=>by simp[Dj] at hb) i k (XA _ h _ hk)
theorem adM.get {all:Array Oper}{K:Env->Prop}:∀ (l:List Oper) (rs:List Rec) {st:St} {f:List PV} {J:St} {U:Nat},adM P T all K l rs st f J U->(∀ (i:Nat) (r:Rec),rs[i]?=some r->r.nd=false)/\K ⟨f,J,U⟩ \/
  ∃ (i:Nat) (o:Oper) (r:Rec),i+1=l.length/\i+1=rs.length/\l[i]?=some o/\rs[i]?=some r/\r.nd=true/\(∀ (k:Nat) (R : Rec),k≠i->rs[k]?=some R->R.nd=false)/\QZ all=true/\U=r.id+32 /\
   nK T (kK.lM P T) o.op r.er (kR (AY rs st i)) r.id (λv δ=>bif ltD (r.id+32) δ then K ⟨xR r.er o.dst v,lh δ (AY rs st i),r.id+32⟩ else False)
 | [],[],_,_,_,_,h=>.inl ⟨λi r h=>by simp at h,h⟩
 | [],r::rs,_,_,_,_,h=>h.elim
 | o::l,[],_,_,_,_,h=>h.elim
 | o::l,r::rs,st,f,J,U,h=>by
  cases I:r.nd with
  | true =>
   obtain⟨rfl,rfl,h1,h2,h3⟩:=h.1 I;exact .inr ⟨0,o,r,rfl,rfl,rfl,rfl,I,λk R hk hr=>by cases k with|zero=>exact absurd rfl hk|succ k=>simp at hr,h1,h2,h3⟩
  | false =>
   rcases adM.get l rs (h.2 I) with ⟨h1,h2⟩|⟨i,o',R,a1,a2,a3,a4,a5,a6,g,C,a9⟩
   exact .inl ⟨λi R hr=>by cases i with|zero=>simp at hr;rw[<- hr];exact I|succ i=>exact h1 i R dF,h2⟩
   exact .inr ⟨i+1,o',R,by simp[a1],by simp[a2],by simpa using a3,by simpa using a4,a5,λk r2 hk hr=>by cases k with|zero=>simp at hr;rw[<- hr];exact I|succ k=>exact a6 k r2 ai dF,g,C,by simpa [AY] using a9⟩
def aff {T:Tab}(C:Ctx T)(all:Array Oper)(rs:List Rec)(st:St)(n:Nat)(p f:List PV)(listed:Array Bool)(a:Act)(w:World):Prop :=
 a.defers=[]/\∃ Y σ ps stx,SW C w Y σ ps a.tmps.toList stx n/\ps.length=p.length /\
  (∀ j o t,all[j]?=some o->o.dst=some t->listed.getD j true=true->Eqv (kY ps t) (kY f t)) /\
  (∀ t,(∀ j o,all[j]?=some o->o.dst=some t->listed.getD j true=false)->Eqv (kY ps t) (kY p t)) /\
  (∀ b,kR stx b=orS st b (lst rs (λk=>listed.getD k true) 0 b)) /\
  (∀ j r,rs[j]?=some r->listed.getD j true=false->r.big=true->∀ b,r.id<=b->b<r.id+32->σ b=none)
theorem adO (hT:lW P T)(hW:I4 P){KE:Env->Prop}{C:Ctx T}{all:Array Oper}{rs:List Rec}{st:St}{nx n:Nat}{p f:List PV}{stf:St}(hchk:Ho T all=true)(hch:ChD P T all all.toList rs p st nx [] f stf n)(hF:Facts P T all rs st nx n)(hpas:T.vY<=nx){listed:Array Bool}{a:Act}{w:World}
  (hsz:listed.size=all.size) (hclosed:∀ j o,all[j]?=some o->listed.getD j true=true->∀ e∈o.after,Region.binds .any e=true->listed.getD e.on true=true)
  (hkeys:∀ i b,kR (AY rs st i) b≠none->b<Dc rs nx i)
  (hs:aff C all rs st n p f listed a w) {i:Nat} (hr:i∈Region.ready .any all listed) {Q:Exit->Act->World->Prop} {K:Act->World->Prop}
  (hND:∀ o r,all[i]?=some o->rs[i]?=some r->r.nd=true->i+1=all.size/\QZ all=true/\n=r.id+32/\nK T (kK.lM P T) o.op r.er (kR (AY rs st i)) r.id (λv δ=>bif ltD (r.id+32) δ then KE ⟨xR r.er o.dst v,lh δ (AY rs st i),r.id+32⟩ else False))
  (hEnd:∀ a' w' E,(∀ k,(listed.setIfInBounds i true).getD k true=true)->nX C E a' w'->KE E->K a' w')
  (hK:(∀ r,rs[i]?=some r->r.nd=false)->∀ a' w',aff C all rs st n p f (listed.setIfInBounds i true) a' w'->K a' w'):wpOp P all Q i K a w:=by
 obtain⟨hun,o,ho,hall⟩:=mem_ready.1 hr;obtain⟨hd,Y,σ,ps,stx,H,hlen,hdone,hrest,hst,hfree⟩:=hs;have hL:all.toList[i]?=some o:=by simpa using ho
 have hilt:i<listed.size:=by
  rcases Nat.lt_or_ge i listed.size with h|h
  exact h
  simp[Array.getElem?_eq_none h] at hun
 obtain⟨r,q,hri,qlen,hS,h6,h7,h8⟩:=hch.get _ _ i o hL;have hspec:=ET hchk ho;have akl:=(hch.len _ _).2
 have hall' : ∀ e∈o.after,Region.binds .any e=true->listed.getD e.on true=true:=by
  intro e he hb;have:=hall e he hb;rcases Nat.lt_or_ge e.on listed.size with h|h
  simp[h] at this |-;exact this
  simp[Array.getElem?_eq_none h]
 have befIn:∀ k,Bef all k i->listed.getD k true=true:=λk h=>h.ready hclosed o ho hall'
 have befOut:∀ k,Bef all i k->listed.getD k true=false:=λk h=>by
  cases hk:listed.getD k true with
  | false=>rfl
  | true=>have:=h.listed hclosed hk;rw[hun] at this;cases this
 have look0:∀ t∈o.looksAt all,Eqv (kY ps t) (kY q t):=by
  intro t ht
  by_cases hex:∃ j pj,all[j]?=some pj/\j≠i/\pj.dst=some t
  obtain⟨j,pj,hj,hne,hdst⟩:=hex;obtain⟨hdd,hor⟩:=hspec.2 j pj hj hne t hdst
  have uniq:∀ k pk,all[k]?=some pk->pk.dst=some t->k=j:=by
   intro k pk hk I
   by_cases hkj:k=j
   exact hkj
   exact absurd I ((ET hchk hk).2 j pj hj (Ne.symm hkj) t hdst).1
  rcases hor ht with ⟨e,he,hb,heq⟩|⟨e,he,hb,heq⟩
  have hlj:listed.getD j true=true:=by
   have:=hall' e he hb
   rwa [heq] at this
  have hji:j<i:=by rw[<- heq];exact hspec.1 e he hb
  have O:=hdone j pj t hj hdst hlj
  have:=h7 t λk pk hk hpk I=>by
   have:=uniq k pk (by simpa using hpk) I;omega
  exact O.trans this.symm
  have hij:i<j:=by rw[<- heq];exact (ET hchk hj).1 e he hb
  have hju:listed.getD j true=false:=by
   cases hlj:listed.getD j true with
   | false=>rfl
   | true =>
    have:=hclosed j pj hj hlj e he hb;rw[heq,hun] at this;cases this
  have hp:=hrest t λk pk hk I=>by
   rw[uniq k pk hk I];exact hju
  have:=h6 t λk pk hk hpk I=>by
   have:=uniq k pk (by simpa using hpk) I;omega
  exact hp.trans this
  have hp:=hrest t λk pk hk I=>by
   by_cases U:k=i
   rw[U];exact hun
   exact absurd ⟨k,pk,hk,U,I⟩ hex
  have:=h6 t λk pk hk hpk I=>hex ⟨k,pk,by simpa using hpk,by omega,I⟩;exact hp.trans this
 have look:∀ t∈o.looksAt all,Eqv (kY ps t) (kY r.e1 t)/\Eqv (kY ps t) (kY r.er t):=λt ht=>⟨(look0 t ht).trans (hS.e1.2 t),(look0 t ht).trans (hS.er.2 t)⟩
 have big_of:∀ (k:Nat) (g:Rec),rs[k]?=some g->∀ b,lU g.δ b≠none->g.big=true:=by
  intro k g R b hb
  cases hbig:g.big with
  | true=>rfl
  | false=>rw[hF.small k g R hbig] at hb;exact absurd rfl hb
 have oper:∀ (k:Nat) (g:Rec),rs[k]?=some g->∃ ok,all[k]?=some ok:=by
  intro k g R
  have:k<all.size:=by
   rw[<- hF.len]
   by_cases hh:k<rs.length
   exact hh
   rw[List.getElem?_eq_none (Nat.le_of_not_lt hh)] at R;cases R
  exact⟨_,Array.getElem?_eq_getElem this⟩
 have hlk:r.wb=true->∀ b x,r.lk b=some x->kR stx b=some x:=by
  intro hw b x hb;obtain⟨c1,c2,c3⟩:=hF.looks i o r ho hri hw b x hb;rw[hst b,<- c1,Qu rs st i 0 b]
  congr 1
  refine Ai _ _ _ _ _ λk g R J=>?_;rw[Nat.zero_add,Nat.zero_add];have hbig:=big_of k g R b J;obtain⟨ok,hok⟩:=oper k g R;rcases Nat.lt_trichotomy k i with U|U|U
  simp only[U,decide_true];rcases hF.cls k ok g hok R hbig with ⟨d1,⟨y,d2⟩,_⟩|⟨d1,d2,_⟩
  have hidb:g.id=b:=by
   rw[d2] at J;simp only[lU] at J
   by_cases hh:g.id=b
   exact hh
   rw[if_neg hh] at J;exact absurd rfl J
  rcases c2 with c2|c2
  exact befIn k (GR hchk U hok ho (by rw[d1,c2];rfl))
  obtain⟨m,om,e1,e2,e3,e4⟩:=c3 c2 k g ok U R hok hbig d1 hidb;exact befIn k (.trans (GR hchk e1 hok e3 (by rw[d1,e4];rfl)) (GR hchk e2 e3 ho (by rw[c2,e4];rfl)))
  exact befIn k (GR hchk U hok ho fO)
  subst U;simp only[Nat.lt_irrefl,decide_false];exact hun
  have:¬ k<i:=by omega
  simp only[this,decide_false];rcases hF.cls k ok g hok R hbig with ⟨d1,⟨y,d2⟩,_⟩|⟨d1,d2,_⟩
  have hidb:g.id=b:=by
   rw[d2] at J;simp only[lU] at J
   by_cases hh:g.id=b
   exact hh
   rw[if_neg hh] at J;exact absurd rfl J
  have h1:=hkeys i b (by rw[c1];simp);have h2:=(hF.ids k g R hbig).1;have h3:=UJ (rs:=rs) (n:=nx) (show i<=k by omega);omega
  exact befOut k (GR hchk U ho hok fO)
 have lastOut:∀ b,lU r.δ b≠none->∀ (k:Nat) (g:Rec),i<k->rs[k]?=some g->listed.getD k true=true->lU g.δ b=none:=by
  intro b hb k g hik R hlk
  by_cases J:lU g.δ b=none
  exact J
  exfalso
  have hbi:=big_of i r hri b hb;have hbk:=big_of k g R b J;obtain⟨ok,hok⟩:=oper k g R
  have no:clash (sZ T o.op) (sZ T ok.op)=true->False:=λhc=>by
   have:=befOut k (GR hchk hik ho hok hc);rw[hlk] at this;cases this
  rcases hF.cls i o r ho hri hbi with ⟨d1,⟨y,d2⟩,_⟩|⟨d1,d2,_⟩
  rcases hF.cls k ok g hok R hbk with ⟨g1,⟨z,g2⟩,_⟩|⟨g1,_⟩
  have e1:r.id=b:=by
   rw[d2] at hb;simp only[lU] at hb
   by_cases hh:r.id=b
   exact hh
   rw[if_neg hh] at hb;exact absurd rfl hb
  have e2:g.id=b:=by
   rw[g2] at J;simp only[lU] at J
   by_cases hh:g.id=b
   exact hh
   rw[if_neg hh] at J;exact absurd rfl J
  have:=aaJ hik hri hbi (hF.ids i r hri hbi).1 (hF.ids k g R hbk).1;omega
  exact no (by rw[d1,g1];rfl)
  rcases hF.cls k ok g hok R hbk with ⟨g1,⟨z,g2⟩,_⟩|⟨g1,_⟩
  have e2:g.id=b:=by
   rw[g2] at J;simp only[lU] at J
   by_cases hh:g.id=b
   exact hh
   rw[if_neg hh] at J;exact absurd rfl J
  have h1:=d2 b (MR _ _ hb);have:=aaJ hik hri hbi (hF.ids i r hri hbi).1 (hF.ids k g R hbk).1;omega
  exact no (by rw[d1,g1];rfl)
 have setD:∀ k,(listed.setIfInBounds i true).getD k true=(if k=i then true else listed.getD k true):=by
  intro k
  by_cases U:k=i
  subst U;simp[hilt]
  rw[if_neg U];exact getD_set_ne true (Ne.symm U)
 have newSt:∀ stn:St,(∀ b,kR stn b=(match lU r.δ b with|some x=>x|none=>kR stx b))->∀ b,kR stn b=orS st b (lst rs (λk=>(listed.setIfInBounds i true).getD k true) 0 b):=by
  intro stn hstn b;rw[hstn b]
  cases hb:lU r.δ b with
  | none =>
   rw[hst b]
   congr 1
   refine Ai _ _ _ _ _ λk g R J=>?_;rw[Nat.zero_add,setD]
   by_cases U:k=i
   subst U;rw[hri] at R;cases R;exact absurd hb J
   rw[if_neg U]
  | some x =>
   rw[Xx rs _ 0 i b r x hri (by rw[Nat.zero_add,setD,if_pos rfl]) hb λk g hik R hlk=>?_]
   rfl
   rw[Nat.zero_add,setD,if_neg ai] at hlk;exact lastOut b (by rw[hb];simp) k g hik R hlk
 have after:r.nd=false->∀ cv w' Y' σ' qs stn,AX ps qs->SW C w' Y' σ' qs a.tmps.toList stn n->(∀ b,kR stn b=(match lU r.δ b with|some x=>x|none=>kR stx b))->(∀ (j:Nat) (rj:Rec),j≠i->rs[j]?=some rj->rj.big=true->∀ b,rj.id<=b->b<rj.id+32->σ b=none->σ' b=none)->Rep w' Y' σ' r.v cv->K (a.put o.dst cv) w':=by
  intro hnd0 cv w' Y' σ' qs stn hq H' hstn hfr hv;refine hK (λr' hr'=>by rw[hri] at hr';cases hr';exact hnd0) _ _ ⟨by rw[put_defers];exact hd,Y',σ',xR qs o.dst r.v,stn,H'.xR hv o.dst,by rw[oO,<- hq.1,hlen],?_,?_,newSt stn hstn,?_⟩
  intro j oj t hj hdst hlj;rw[xU hun] at hlj
  by_cases hji:j=i
  subst hji;rw[ho] at hj;cases hj
  by_cases hlt:t<qs.length
  rw[hdst];simp only[xR,wW];rw[if_pos ⟨trivial,hlt⟩];refine h8 t hdst (by rw[<- hlen,hq.1];exact hlt) λk pk hk hpk I=>?_;exact absurd hdst ((ET hchk ho).2 k pk (by simpa using hpk) ai t I).1
  rw[xh (by rw[oO];exact Nat.le_of_not_lt hlt),xh (by rw[akl,<- hlen,hq.1];exact Nat.le_of_not_lt hlt)];exact Eqv.refl _
  have hne:=(hspec.2 j oj hj hji t hdst).1;rw[Em hne];rcases hlj with h|h
  exact absurd h hji
  exact (hq.2 t).symm.trans (hdone j oj t hj hdst h)
  intro t ht
  have hne:o.dst≠some t:=λe=>by
   have:=ht i o ho e;rw[(xU hun).2 (.inl rfl)] at this;cases this
  rw[Em hne];refine (hq.2 t).symm.trans (hrest t λk pk hk I=>?_);have:=ht k pk hk I
  cases hlk:listed.getD k true with
  | false=>rfl
  | true=>rw[(xU hun).2 (.inr hlk)] at this;cases this
  intro j rj hrj hlj hbj;rw[setD] at hlj
  by_cases hji:j=i
  rw[if_pos hji] at hlj;cases hlj
  rw[if_neg hji] at hlj;exact λb hb1 hb2=>hfr j rj hji hrj hbj b hb1 hb2 (hfree j rj hrj hlj hbj b hb1 hb2)
 have q1:=ZF (sl:=o.looksAt all) (er:=r.e1) (ps:=ps) λt ht=>(look t ht).1;have q2:=ZF (sl:=o.looksAt all) (er:=r.er) (ps:=ps) λt ht=>(look t ht).2;have l1:r.e1.length=ps.length:=by rw[<- hS.e1.1,hlen];assumption
 have l2:r.er.length=ps.length:=by rw[<- hS.er.1,hlen];assumption
 have hwb:=hS.gd C _ Y σ a w stx n (VG l1) (H.uS (H.vals.eqv q1)) hd;unfold wpOp;simp only[ho]
 cases hw:r.wb with
 | true =>
  rw[hw] at hwb;rw[if_pos hwb]
  cases hnd:r.nd with
  | true =>
   obtain⟨g1,g2,g3,g4⟩:=hND o r ho hri hnd
   have hoth:∀ k,k≠i->listed.getD k true=true:=λk hk=>by
    rcases Nat.lt_or_ge k i with h|h
    exact befIn k (acf g2 g1 h)
    have:listed[k]?=none:=Array.getElem?_eq_none ai;simp[this]
   have hq:AX ps q:=⟨by rw[hlen];exact qlen.symm,λt=>by
    by_cases hex:∃ j pj,all[j]?=some pj/\j≠i/\pj.dst=some t
    obtain⟨j,pj,hj,hne,hdst⟩:=hex;have O:=hdone j pj t hj hdst (hoth j hne)
    have:=h7 t λk pk hk hpk I=>by
     have U:k=i:=by
      have:k<all.size:=by
       by_cases hh:k<all.size
       exact hh
       rw[Array.getElem?_toList,Array.getElem?_eq_none (Nat.le_of_not_lt hh)] at hpk;cases hpk
      omega
     subst U;rw[hL] at hpk;cases hpk;exact (hspec.2 j pj hj hne t hdst).1 I
    exact O.trans this.symm
    have hp:=hrest t λk pk hk I=>by
     by_cases U:k=i
     rw[U];exact hun
     exact absurd ⟨k,pk,hk,U,I⟩ hex
    have:=h6 t λk pk hk hpk I=>hex ⟨k,pk,by simpa using hpk,by omega,I⟩;exact hp.trans this⟩
   have H1:SW C w Y σ r.er a.tmps.toList (AY rs st i) n:=(H.uS (H.vals.eqv (hq.trans hS.er))).ext λb x hb=>by
    rw[hst b,<- hb,Qu rs st i 0 b]
    congr 1
    refine Ai _ _ _ _ _ λk g R _=>?_;rw[Nat.zero_add,Nat.zero_add]
    by_cases U:k=i
    subst U;rw[hun];simp
    rw[hoth k U]
    have:k<all.size:=by
     rw[<- hF.len]
     by_cases hh:k<rs.length
     exact hh
     rw[List.getElem?_eq_none (Nat.le_of_not_lt hh)] at R;cases R
    simp;omega
   have hb:=(hS.ndw hnd).2;obtain⟨i1,i2,i3⟩:=hF.ids i r hri hb;obtain⟨v',δ',cv,w',Y',σ',hk,hrun,H',hv,hoff⟩:=Ba hT hW H1 (λb x h=>h) ⟨hfree i r hri hun hb r.id (Nat.le_refl _) ai,Nat.le_trans hpas i2⟩ g4
   cases hlt:ltD (r.id+32) δ' with
   | false=>rw[hlt] at hk;exact hk.elim
   | true =>
    rw[hlt] at hk;have hn:uk δ' n r.id<=n:=by cases δ'<;>simp[uk]<;>omega
    have:=hEnd (a.put o.dst cv) w' _ (λk=>by
     rw[setD];by_cases U:k=i
     rw[if_pos U]
     rw[if_neg U];exact hoth k U) ⟨⟨Y',σ',by rw[<- g3];exact (H'.mono hn).xR hv o.dst⟩,by rw[put_defers];exact hd⟩ hk
    refine .inl ?_;unfold Oper.wp;rcases hrun with hrun|⟨hrun,rfl⟩
    rw[hrun];exact this
    rw[hrun];exact this
  | false =>
  refine .inl (hS.sem hw hnd C _ Y σ a w stx n (VG l2) (H.uS (H.vals.eqv q2)) hd (hlk hw) (λhb=>?_) K Q λcv w' Y' σ' H' hoff hsame hv=>?_)
  obtain⟨g1,g2,g3⟩:=hF.ids i r hri hb;exact⟨hfree i r hri hun hb,Nat.le_trans hpas g2,g3⟩
  refine after hnd cv w' Y' σ' _ _ q2 H' (λb=>qO _ _ _) (λj rj hji hrj hbj b hb1 hb2 hn=>?_) hv
  cases hb:r.big with
  | false=>rw[hsame hb];exact hn
  | true =>
   rw[hoff _ ?_];· exact hn
   have e1:=(hF.ids i r hri hb).1;have e2:=(hF.ids j rj hrj hbj).1;rcases Nat.lt_or_ge i j with hij|hij
   have:=aaJ hij hri hb e1 e2;omega
   have:=aaJ (show j<i by omega) hrj hbj e2 e1;omega
 | false =>
  rw[hw] at hwb;rw[if_neg (by rw[hwb];simp)]
  have hδ:r.δ=[]:=by
   rcases hS.cls with ⟨_,h,_⟩|⟨h,_⟩|⟨h,_⟩
   exact h
   rw[hw] at h;cases h
   rw[hw] at h;cases h
  refine after (by cases h:r.nd with|false=>rfl|true=>rw[(hS.ndw h).1] at hw;cases hw) _ w Y σ ps stx (AX.refl _) H (λb=>by rw[hδ];rfl) (λ_ _ _ _ _ _ _ _ h=>h) (by rw[hS.skip hw];simp[Rep])
theorem YL {all:Array Oper}(U:Ho T all=true){listed:Array Bool}(hsz:listed.size=all.size)(hr:Region.ready .any all listed=[]):∀ j,listed.getD j true=true:=by
 intro j
 induction j using Nat.strongRecOn with
 | _ j ih =>
  cases h:listed.getD j true with
  | true=>rfl
  | false =>
   have J:j<listed.size:=by
    rcases Nat.lt_or_ge j listed.size with h'|h'
    exact h'
    simp[Array.getElem?_eq_none h'] at h
   have hj:all[j]?=some all[j]:=Array.getElem?_eq_getElem ai
   have:j∈Region.ready .any all listed:=mem_ready.2 ⟨h,_,hj,λe he hb=>by
    have R:=(ET U hj).1 e he hb;have:=ih e.on R;have h2:e.on<listed.size:=by omega
    simp[h2] at this |-;exact this⟩
   rw[hr] at this;cases this
theorem count_set {listed:Array Bool}{i k:Nat}(hi:listed.getD i true=false)(h:listed.toList.count false=k+1):(listed.setIfInBounds i true).toList.count false=k:=by
 have U:i<listed.size:=by
  rcases Nat.lt_or_ge i listed.size with h'|h'
  exact h'
  simp[Array.getElem?_eq_none h'] at hi
 have T:listed[i]=false:=by simpa [U] using hi
 rw[Array.toList_setIfInBounds,List.count_set (by simpa using U)];simp[T,h]
theorem ahO (hT:lW P T)(hW:I4 P){KE:Env->Prop}{C:Ctx T}{all:Array Oper}{rs:List Rec}{st:St}{nx n:Nat}{p f:List PV}{stf:St}(hchk:Ho T all=true)(hch:ChD P T all all.toList rs p st nx [] f stf n)(hF:Facts P T all rs st nx n)(hpas:T.vY<=nx)(hkeys:∀ i b,kR (AY rs st i) b≠none->b<Dc rs nx i){Q:Exit->Act->World->Prop}
  (hfin:adM P T all KE all.toList rs st f stf n)
  (hQ:∀ E a w,nX C E a w->KE E->Q .normal a w):∀ (fuel:Nat) (listed:Array Bool) (a:Act) (w:World),listed.size=all.size->listed.toList.count false=fuel ->
   (∀ j o,all[j]?=some o->listed.getD j true=true->∀ e∈o.after,Region.binds .any e=true->listed.getD e.on true=true) ->
   (∀ (j:Nat) (r:Rec),rs[j]?=some r->r.nd=true->listed.getD j true=false) ->
   aff C all rs st n p f listed a w->wpAny P .any all Q fuel listed a w:=by
 have J:=hfin.get
 have fin:∀ (listed:Array Bool) (a:Act) (w:World),listed.size=all.size->(∀ (j:Nat) (r:Rec),rs[j]?=some r->r.nd=true->listed.getD j true=false)->aff C all rs st n p f listed a w->Region.ready .any all listed=[]->Q .normal a w:=by
  intro listed a w hsz hu hs hr;have hl:=YL hchk hsz hr
  have hKE:KE ⟨f,stf,n⟩:=by
   rcases J with ⟨_,h⟩|⟨i,o,r,_,_,_,h4,h5,_⟩
   exact h
   have:=hu i r h4 h5;rw[hl i] at this;cases this
  obtain⟨hd,Y,σ,ps,stx,H,hlen,hdone,hrest,hst,_⟩:=hs;have H1:SW C w Y σ f a.tmps.toList stx n:=H.uS (H.vals.eqv ⟨by rw[hlen,(hch.len _ _).2],λt=>?_⟩)
  refine hQ _ a w ⟨⟨Y,σ,H1.ext λb x hb=>?_⟩,hd⟩ hKE;rw[hst b,<- hb,(hch.fin _ _).1,Qu rs st rs.length 0 b]
  congr 1
  refine Ai _ _ _ _ _ λk rk hrk _=>?_;rw[Nat.zero_add,Nat.zero_add,hl k]
  have:k<rs.length:=by
   by_cases hh:k<rs.length
   exact hh
   rw[List.getElem?_eq_none (Nat.le_of_not_lt hh)] at hrk;cases hrk
  simp[this]
  by_cases hex:∃ (j:Nat) (o:Oper),all[j]?=some o/\o.dst=some t
  obtain⟨j,o,hj,R⟩:=hex;exact hdone j o t hj R (hl j)
  refine (hrest t λj o hj R=>absurd ⟨j,o,hj,R⟩ hex).trans (hch.keep _ _ λo ho R=>?_);obtain⟨j,hj⟩:=List.getElem?_of_mem ho;exact hex ⟨j,o,by simpa using hj,R⟩
 intro fuel
 induction fuel with
 | zero =>
  intro listed a w hsz hc U hu hs
  have hr:Region.ready .any all listed=[]:=by
   rw[List.eq_nil_iff_forall_not_mem];intro i hi;have I:=(mem_ready.1 hi).1
   have hlt:i<listed.size:=by
    rcases Nat.lt_or_ge i listed.size with h'|h'
    exact h'
    simp[Array.getElem?_eq_none h'] at I
   have hget:listed[i]=false:=by simpa [hlt] using I
   have hm:false∈listed.toList:=by rw[<- hget];simp
   exact (List.count_eq_zero.1 hc) hm
  exact⟨hr,fin listed a w hsz hu hs hr⟩
 | succ fuel ih =>
  intro listed a w hsz hc U hu hs;refine⟨fin listed a w hsz hu hs,λi hi=>?_⟩;have I:=(mem_ready.1 hi).1;refine adO hT hW (KE:=KE) hchk hch hF hpas hsz U hkeys hs hi (λo r ho hr hn=>?_) (λa' w' E g hA hE=>?_) λhnd a' w' hs'=>ih _ a' w' (by simpa using hsz) (count_set I hc) ?_ (λj r hj hn=>?_) hs'
  rcases J with ⟨h,_⟩|⟨i',o',r',a1,a2,a3,a4,a5,a6,a7,a8,a9⟩
  rw[h i r hr] at hn;cases hn
  have hii:i=i':=by
   by_cases hh:i=i'
   exact hh
   rw[a6 i r hh hr] at hn;cases hn
  subst hii;rw[hr] at a4;cases a4;rw[Array.getElem?_toList,ho] at a3;cases a3;exact⟨by simpa using a1,a7,a8,a9⟩
  have hrn:Region.ready .any all (listed.setIfInBounds i true)=[]:=by
   rw[List.eq_nil_iff_forall_not_mem];intro k hk;have:=(mem_ready.1 hk).1;rw[g k] at this;cases this
  cases fuel with
  | zero=>exact⟨hrn,hQ E a' w' hA hE⟩
  | succ fuel=>exact⟨λ_=>hQ E a' w' hA hE,λk hk=>by rw[hrn] at hk;cases hk⟩
  rotate_left
  by_cases hji:j=i
  subst hji;rw[hnd r hj] at hn;cases hn
  rw[getD_set_ne true (Ne.symm hji)];exact hu j r hj hn
  intro j o hj hlj e he hb;rw[xU I] at hlj |-;rcases hlj with h|h
  subst h;obtain⟨_,o',ho',g⟩:=mem_ready.1 hi;rw[hj] at ho';cases ho';have:=g e he hb;refine .inr ?_;rcases Nat.lt_or_ge e.on listed.size with h'|h'
  simp[h'] at this |-;exact this
  simp[Array.getElem?_eq_none h'] at this
  exact .inr (U j o hj h e he hb)
theorem XB {n:Nat}:∀ (st:St),ltS n st=true->∀ b,kR st b≠none->b<n
 | [],_,b,h=>absurd rfl h
 | (c,x)::st,h,b,hb=>by
  simp only[ltS,Bool.and_eq_true,Nat.blt_eq] at h;simp only[kR] at hb
  by_cases U:c=b
  rw[<- U];exact h.1
  rw[SB U] at hb;exact XB st h.2 b hb
theorem adP (hT:lW P T)(hW:I4 P){id:Nat}{l:Array Oper}{E:Env}{K:Env->Prop}(I:Ho T l=true)(U:ltS E.next E.st=true)(h:adx T (kK.lM P T) l l.toList [] E K) :
  ∀ (C:Ctx T) a w,nX C E a w->∀ Q:Exit->Act->World->Prop,(∀ E' g w',nX C E' g w'->K E'->Q .normal g w')->(Code.region id l true).wp P Q a w:=by
 intro C a w hA Q hQ;obtain⟨rs,f,stf,nxf,J,hK⟩:=Hu hT hW _ _ _ _ h;obtain⟨⟨Y,σ,H⟩,hd⟩:=hA;have U:=XB _ U;have hF:=ahN J U;have hle:E.next<=nxf:=by rw[(J.fin _ _).2];exact Rj _ _ _
 have hrep:∀ j,j<l.size->(Array.replicate l.size false).getD j true=false:=λj hj=>by simp[hj]
 have hno:∀ j o,l[j]?=some o->(Array.replicate l.size false).getD j true=true->False:=by
  intro j o hj R
  have U:j<l.size:=by
   rcases Nat.lt_or_ge j l.size with h'|h'
   exact h'
   simp[Array.getElem?_eq_none h'] at hj
  rw[hrep j U] at R;cases R
 refine wp_region_any hW.mixed (ahO hT hW I J hF H.fix.1 (Xz _ _ J U) (C:=C) hK (λE g w' hA' hE=>hQ _ g w' hA' hE) l.size _ a _ aI ?_ ?_ (λj r hr hn=>hrep j ?_) ?_)
 simp
 intro j o hj R;exact (hno j o hj R).elim
 rw[<- hF.len]
 by_cases hh:j<rs.length
 exact hh
 rw[List.getElem?_eq_none (Nat.le_of_not_lt hh)] at hr;cases hr
 refine⟨hd,Y,σ,E.tmps,E.st,(H.drawn _).mono hle,rfl,?_,λt _=>Eqv.refl _,λb=>?_,λj r hr _ hb=>?_⟩
 intro j o t hj hdst R;exact (hno j o hj R).elim
 rw[Hw _ _ _ _ λk r hr hD=>?_];· rfl
 rw[Nat.zero_add] at hD
 have:k<l.size:=by
  rw[<- hF.len]
  by_cases hh:k<rs.length
  exact hh
  rw[List.getElem?_eq_none (Nat.le_of_not_lt hh)] at hr;cases hr
 rw[hrep k this] at hD;cases hD
 exact λb hb1 _=>H.next b (Nat.le_trans (hF.ids j r hr hb).2.1 hb1)
end
end Go.Pv
namespace Go.Pv
open Go
def marks (D:List Nat):List Deferred:=D.map λr=>{ target:=.collected r,args:=#[] }
def QQ (B:Nat)(D:List Nat)(w:World)(Y:Nat->Prop):Prop:=D.Nodup/\∀ r∈D,B<=r/\Y r/\w.heap[r]?=some (.deferred (some []))
theorem F6.cells {w:World}{Y:Nat->Prop}{σ:Sg}{st:St}(hs:N8 w Y σ st){k:Nat}(h:F6 σ st k):∃ arr ty,w.heap[k]?=some (.cells arr ty (0,0)):=by
 obtain⟨b,x,l,h1,h2,rfl⟩:=h;rcases hs.blk b x h1 with ⟨l',U,hB⟩|⟨T,_⟩
 rw[h2] at U;cases U;have:At w l:=by cases x<;>(unfold jH at hB;exact hB.1)
 obtain⟨arr,ty,R,_⟩:=this.blk;exact⟨arr,ty,R⟩
 rw[h2] at T;cases T
theorem SW.kept {T' : Tab}{w w' : World}{Y Y' : Nat->Prop}{σ σ' : Sg}{qs:List PV}{us:List Value}{st st' : St}{J : Nat}(hs:N8 w Y σ st)(R : SW (JI T' w Y σ st) w' Y' σ' qs us st' J){k:Nat}{o:Obj}(ho:w.heap[k]?=some o)(I:∀ arr ty,o≠.cells arr ty (0,0)):w'.heap[k]?=some o/\(Y k->Y' k):=by
 have T:k<w.heap.size:=(Array.getElem?_eq_some_iff.1 ho).1
 have U:¬ F6 σ st k:=λh=>by
  obtain⟨arr,ty,h1⟩:=h.cells hs;rw[ho] at h1;cases h1;exact I arr ty rfl
 exact⟨by rw[R.qh.block k T λh=>U h.2];exact ho,λhy=>R.y0 k ⟨hy,U⟩⟩
theorem QQ.step {B:Nat}{T' : Tab}{D:List Nat}{w w' : World}{Y Y' : Nat->Prop}{σ σ' : Sg}{qs:List PV}{us:List Value}{st st' : St}{U : Nat}(h:QQ B D w Y)(hs:N8 w Y σ st)(J : SW (JI T' w Y σ st) w' Y' σ' qs us st' U):QQ B D w' Y' :=
 ⟨h.1,λr hr=>by
  obtain⟨h0,h1,h2⟩:=h.2 r hr;obtain⟨T,R⟩:=J.kept hs h2 λarr ty e=>by cases e
  exact⟨h0,R h1,T⟩⟩
def NNs (st:St):Prop:=∀ b sz rows,kR st b≠some (.pU sz rows)
def akm (P:Program)(T:Tab)(all:Array Oper)(o:Oper)(er:List PV)(lk:Nat->Option mJ)(id m:Nat)(v:PV)(δ:Dl):Prop :=
 ∀ (C:Ctx T) ps Y σ (a:Act) w st n,(∀ t∈o.looksAt all,kY ps t=kY er t)->SW C w Y σ ps a.tmps.toList st n->NNs st->(∀ b x,lk b=some x->kR st b=some x) ->
  (∀ b,id<=b->b<id+m->σ b=none/\kR st b=none)->T.vY<=id->id+m<=n->∀ next Q,(∀ cv w' Y' σ' st',SW C w' Y' σ' ps a.tmps.toList st' n->(∀ b,kR st' b=(match lU δ b with|some x=>x|none=>kR st b)) ->
   (∀ b,(b<id\/id+m<=b)->σ' b=σ b)->Rep w' Y' σ' v cv->(∀ B D,QQ B D w Y->QQ B D w' Y')->next (a.put o.dst cv) w')->o.wp P a w next Q
def alv (T:Tab)(all:Array Oper)(o:Oper)(er:List PV)(wb:Bool):Prop :=
 ∀ (C:Ctx T) ps Y σ (a:Act) w st n,(∀ t∈o.looksAt all,kY ps t=kY er t)->SW C w Y σ ps a.tmps.toList st n->Region.wanted o (yielded all a.tmps)=wb
structure aaK (P:Program)(T:Tab)(all:Array Oper)(o:Oper)(r:Rec)(p:List PV)(st:St)(nx m:Nat):Prop where
 id:r.id=nx
 gd:alv T all o p r.wb
 sem:r.wb=true->akm P T all o p r.lk nx m r.v r.δ
 skip:r.wb=false->r.v=.undef/\r.δ=[]
 lk:∀ b x,r.lk b=some x->kR st b=some x
 key:∀ b,lU r.δ b≠none->(nx<=b/\b<nx+m)\/kR st b≠none
 nn:∀ b sz rows,lU r.δ b≠some (some (.pU sz rows))
def ChF (P:Program)(T:Tab)(all:Array Oper):List Oper->List Rec->List PV->St->Nat->List PV->St->Nat->Prop
 | [],[],p,st,nx,f,stf,nxf=>p=f/\st=stf/\nx=nxf
 | o::l,r::rs,p,st,nx,f,stf,nxf=>∃ m,aaK P T all o r p st nx m/\ChF P T all l rs (xR p o.dst r.v) (lh r.δ st) (nx+m) f stf nxf
 | _,_,_,_,_,_,_,_=>False
theorem ug {a b:Bool}(h:(a&&b)=true):a=true/\b=true:=by rw[Bool.and_eq_true] at h;exact h
theorem EU:∀ (l:List Nat) (b:Nat),JH l b=true↔b∈l
 | [],b=>by simp;rfl
 | c::l,b=>by
  have e:JH (c::l) b=Bool.rec (motive:=λ_=>Bool) (JH l b) true (Nat.beq c b):=rfl;rw[e]
  by_cases h:c=b
  subst h;simp
  rw[SB h];show JH l b=true↔_;rw[EU l b];simp[Ne.symm h]
section
variable {P:Program}{T:Tab}
theorem SW.afg {C:Ctx T}{w:World}{Y:Nat->Prop}{σ:Sg}{ps:List PV}{vs:List Value}{st:St}{n:Nat}(H:SW C w Y σ ps vs st n)(U:NNs st):SW (JI T w Y σ st) w Y σ ps vs st n :=
 ⟨H.vals,H.store,H.next,H.yK,λ_ h=>h.1,λk h=>⟨H.yK k h.1,h.2⟩,λk h _=>by
  by_cases hi:F6 σ st k
  exact .inr ⟨h,hi⟩
  exact .inl ⟨h,hi⟩,QM.refl _ w,λb x l h1 h2=>.inr ⟨b,x,l,h1,h2,rfl⟩,H.zi,⟨H.fix.1,λ_ _=>rfl⟩,C9.none U⟩
theorem SW.acg {C:Ctx T}{w w' : World}{Y Y' : Nat->Prop}{σ σ' : Sg}{ps qs:List PV}{vs us:List Value}{st st' : St}{n J : Nat}(H:SW C w Y σ ps vs st n)
  (U : SW (JI T w Y σ st) w' Y' σ' qs us st' J):SW C w' Y' σ' qs us st' J:=by
 have excl:∀ k,k<w.heap.size->Y' k->Y k:=by
  intro k hk hy;rcases U.xI k hy hk with h|h
  exact h.1
  exact h.1
 have away:∀ k,C.Y0 k->¬ F6 σ st k:=λk hk ⟨b,x,l,h1,h2,h3⟩=>H.away h1 h2 (h3 ▸ hk)
 have old:∀ k,(w.heap.size<=k\/F6 σ st k)->C.w0.heap.size<=k\/C.L k:=λk h=>by
  rcases h with h|⟨b,x,l,h1,h2,h3⟩
  exact iw
  rw[<- h3];exact H.own b x l h1 h2
 refine⟨U.vals,U.store,U.next,U.yK,λk hk=>U.y0 k ⟨H.y0 k hk,away k hk⟩,H.c0,λk hk R=>H.xI k (excl k (Nat.lt_of_lt_of_le R H.qh.size) hk) R,?_,λb x l h1 h2=>old _ (U.own b x l h1 h2),U.zi,⟨U.fix.1,λb hb=>?_⟩,?_⟩
 refine⟨by rw[U.qh.os];exact H.qh.os,by rw[U.qh.tape];exact H.qh.tape,by rw[U.qh.output];exact H.qh.output,Nat.le_trans H.qh.size U.qh.size,λk hk hM=>?_⟩;rw[U.qh.block k (Nat.lt_of_lt_of_le hk H.qh.size) λh=>?_]
 exact H.qh.block k hk hM
 obtain⟨h1,h2⟩:=h;rcases H.xI k h1 hk with h3|h3
 exact away k h3 h2
 exact hM h3
 rw[U.fix.2 b hb];exact H.fix.2 b hb
 exact⟨U.nest.rep,λb r c h sz I k=>old _ (U.nest.old b r c h sz I k),U.nest.one,U.nest.sep⟩
def af9 (r:Rec)(tc:Tc):Prop:=(∀ b,r.lk b≠none->b∈tc.1)/\(∀ b,lU r.δ b≠none->b∈tc.2.2)/\(∀ b∈tc.2.2,b∈tc.2.1)
theorem UM:∀ (l m:List Nat),meets l m=true↔∃ b,b∈l/\b∈m
 | [],m=>by
  constructor;· intro h;cases h
  rintro⟨b,h,_⟩;cases h
 | c::l,m=>by
  have e:meets (c::l) m=Bool.rec (motive:=λ_=>Bool) (meets l m) true (JH m c):=rfl;rw[e]
  cases U:JH m c with
  | true=>exact⟨λ_=>⟨c,by simp,(EU _ _).1 U⟩,λ_=>rfl⟩
  | false =>
   show meets l m=true↔_;rw[UM l m];constructor
   rintro⟨b,h1,h2⟩;exact⟨b,List.mem_cons_of_mem _ h1,h2⟩
   rintro⟨b,h1,h2⟩
   rcases List.mem_cons.1 h1 with rfl|h1
   rw[(EU _ _).2 h2] at U;cases U
   exact⟨b,h1,h2⟩
theorem ZI {B:List (List Nat)}{i:Nat}{x:Tc}:∀ (l:List Tc) (k:Nat),aho B i x l k=true->∀ (j:Nat) (y:Tc),l[j]?=some y->pairT B i (k+j) x y=true
 | [],k,h,j,y,hj=>by simp at hj
 | z::l,k,h,0,y,hj=>by
  simp at hj;subst hj;unfold aho at h;exact (ug h).1
 | z::l,k,h,j+1,y,hj=>by
  unfold aho at h;have:=ZI l (k+1) (ug h).2 j y fJ
  rwa [show k+(j+1)=k+1+j by omega]
theorem UN {B:List (List Nat)}:∀ (l:List Tc) (i:Nat),adB B l i=true->∀ (a b:Nat) (x y:Tc),a<b->l[a]?=some x->l[b]?=some y->pairT B (i+a) (i+b) x y=true
 | [],i,h,a,b,x,y,_,ha,_=>by simp at ha
 | z::l,i,h,0,b+1,x,y,_,ha,hb=>by
  simp at ha;subst ha;unfold adB at h;have:=ZI l (i+1) (ug h).1 b y (by simpa using hb)
  rwa [show i+1+b=i+(b+1) by omega] at this
 | z::l,i,h,a+1,b+1,x,y,hab,ha,hb=>by
  unfold adB at h;have:=UN l (i+1) (ug h).2 a b x y ai (by simpa using ha) (by simpa using hb)
  rwa [show i+1+a=i+(a+1) by omega,show i+1+b=i+(b+1) by omega] at this
 | z::l,i,h,_,0,x,y,hab,_,_=>by omega
theorem XC {all:Array Oper}{i k:Nat}{T U:Rec}{x y:Tc}(hx:af9 T x)(hy:af9 U y)(h:pairT (V3 all.toList []) i k x y=true)
  (R:∃ b,(lU T.δ b≠none/\(U.lk b≠none\/lU U.δ b≠none))\/(T.lk b≠none/\lU U.δ b≠none)):Bef all i k:=by
 have key:(meets x.2.2 y.1 || (meets x.2.2 y.2.2 || meets y.2.2 x.1))=true:=by
  obtain⟨b,h1⟩:=R;simp only[Bool.or_eq_true,UM];rcases h1 with ⟨h1,h2|h2⟩|⟨h1,h2⟩
  exact .inl ⟨b,hx.2.1 b h1,hy.1 b h2⟩
  exact .inr (.inl ⟨b,hx.2.1 b h1,hy.2.1 b h2⟩)
  exact .inr (.inr ⟨b,hy.2.1 b h2,hx.1 b h1⟩)
 have sup:(meets x.2.1 y.1 || (meets x.2.1 y.2.1 || meets y.2.1 x.1))=true:=by
  simp only[Bool.or_eq_true,UM] at key |-;rcases key with ⟨b,h1,h2⟩|⟨b,h1,h2⟩|⟨b,h1,h2⟩
  exact .inl ⟨b,hx.2.2 b h1,h2⟩
  exact .inr (.inl ⟨b,hx.2.2 b h1,hy.2.2 b h2⟩)
  exact .inr (.inr ⟨b,hy.2.2 b h1,h2⟩)
 unfold pairT at h;rw[sup,key] at h;simp only at h
 have h:JH (Dj (V3 all.toList []) k) i=true:=by
  cases hh:JH (Dj (V3 all.toList []) k) i with
  | true=>rfl
  | false=>rw[hh] at h;cases h
 exact MS all.toList [] (λk o hk=>by simpa using hk) (λi b hb=>by simp[Dj] at hb) k i ((EU _ _).1 h)
theorem Bc {all:Array Oper}(h:FD all all.toList 0=true){i:Nat}{o:Oper}(hi:all[i]?=some o) :
  (∀ e∈o.after,Region.binds .any e=true->e.on<i)/\∀ (j:Nat) (p:Oper),all[j]?=some p->j≠i->∀ d,p.dst=some d->o.dst≠some d /\
   (d∈o.looksAt all->(∃ e∈o.after,Region.binds .any e=true/\e.on=j)\/(∃ e∈p.after,Region.binds .any e=true/\e.on=i)):=by
 obtain⟨h1,h2⟩:=OH all.toList 0 h i o df;rw[Nat.zero_add] at h1 h2;refine⟨h1,λj p R U d J=>?_⟩;have:=h2 j p R;have T:Nat.beq i j=false:=SB λe=>U e.symm;simp only[WS,T,J,Bool.false_or,Bool.and_eq_true,Bool.or_eq_true,bne_iff_ne,ne_eq,Bool.not_eq_true',List.contains_eq_mem,decide_eq_false_iff_not] at this;refine⟨this.1,λI=>?_⟩;rcases this.2 with (hh|hh)|hh
 exact absurd I hh
 obtain⟨e,he,hb⟩:=Array.any_eq_true'.1 hh;simp only[Bool.and_eq_true] at hb;exact .inl ⟨e,he,hb.1,Nat.eq_of_beq_eq_true hb.2⟩
 obtain⟨e,he,hb⟩:=Array.any_eq_true'.1 hh;simp only[Bool.and_eq_true] at hb;exact .inr ⟨e,he,hb.1,Nat.eq_of_beq_eq_true hb.2⟩
theorem ChF.len {all:Array Oper}:∀ (l:List Oper) (rs:List Rec) {p:List PV} {st:St} {nx:Nat} {f:List PV} {R:St} {U:Nat},ChF P T all l rs p st nx f R U->rs.length=l.length/\f.length=p.length/\nx<=U
 | [],[],_,_,_,_,_,_,h=>⟨rfl,by rw[h.1],by rw[h.2.2];exact Nat.le_refl _⟩
 | o::l,r::rs,_,_,_,_,_,_,⟨m,h,h'⟩=>by
  obtain⟨h1,h2,J⟩:=ChF.len l rs h';exact⟨by simp[h1],by rw[h2,oO],by omega⟩
 | [],_::_,_,_,_,_,_,_,h=>h.elim
 | _::_,[],_,_,_,_,_,_,h=>h.elim
theorem ChF.keep {all:Array Oper}{t:Nat}:∀ (l:List Oper) (rs:List Rec) {p:List PV} {st:St} {nx:Nat} {f:List PV} {R:St} {U:Nat},ChF P T all l rs p st nx f R U->(∀ o∈l,o.dst≠some t)->kY p t=kY f t
 | [],[],_,_,_,_,_,_,h,_=>by rw[h.1]
 | o::l,r::rs,_,_,_,_,_,_,⟨m,h,h'⟩,hn=>by
  have:=ChF.keep l rs h' λo ho=>hn o (by simp[ho]);rw[Em (hn o aI)] at this;exact this
 | [],_::_,_,_,_,_,_,_,h,_=>h.elim
 | _::_,[],_,_,_,_,_,_,h,_=>h.elim
def idA (rs:List Rec)(nxf:Nat)(i:Nat):Nat:=match rs[i]? with|some r=>r.id|none=>nxf
theorem ChF.get {all:Array Oper}:∀ (l:List Oper) (rs:List Rec) {p:List PV} {st:St} {nx:Nat} {f:List PV} {J:St} {U:Nat},ChF P T all l rs p st nx f J U->∀ (i:Nat) (o:Oper),l[i]?=some o ->
  ∃ r q m,rs[i]?=some r/\q.length=p.length/\aaK P T all o r q (AY rs st i) (idA rs U i) m/\idA rs U (i+1)=idA rs U i+m/\nx<=idA rs U i /\
   (∀ t,(∀ j oj,j<i->l[j]?=some oj->oj.dst≠some t)->kY p t=kY q t) /\
   (∀ t,(∀ j oj,i<=j->l[j]?=some oj->oj.dst≠some t)->kY q t=kY f t) /\
   (∀ d,o.dst=some d->d<p.length->(∀ j oj,i<j->l[j]?=some oj->oj.dst≠some d)->r.v=kY f d)
 | [],_,_,_,_,_,_,_,_,i,o,hi=>by simp at hi
 | _::_,[],_,_,_,_,_,_,h,_,_,_=>h.elim
 | o'::l,r::rs,p,st,nx,f,J,U,⟨m,h1,h6⟩,0,o,hi=>by
  simp at hi;subst hi;have hid:idA (r::rs) U 0=nx:=by simp[idA,h1.id]
  have I:idA (r::rs) U 1=nx+m:=by
   cases l with
   | nil=>cases rs with
    | nil=>simp[idA,h6.2.2]
    | cons _ _=>exact h6.elim
   | cons o2 l=>cases rs with
    | nil=>exact h6.elim
    | cons r2 rs=>obtain⟨m2,h7,_⟩:=h6;simp[idA,h7.id]
  refine⟨r,p,m,rfl,rfl,by rw[hid];exact h1,by rw[hid,I],by rw[hid];exact Nat.le_refl _,λt _=>rfl,λt ht=>?_,λd C R g=>?_⟩
  have hk:=ChF.keep l rs h6 (t:=t) λo ho=>by
   obtain⟨j,hj⟩:=List.getElem?_of_mem ho;exact ht (j+1) o ai fJ
  rw[Em (ht 0 o' ai aI)] at hk;exact hk
  have hk:=ChF.keep l rs h6 (t:=d) λo ho=>by
   obtain⟨j,hj⟩:=List.getElem?_of_mem ho;exact g (j+1) o ai fJ
  rw[C] at hk;simp only[xR,wW] at hk;rw[if_pos ⟨trivial,R⟩] at hk;exact hk
 | o'::l,r::rs,p,st,nx,f,J,U,⟨m,h1,h6⟩,i+1,o,hi=>by
  obtain⟨r',q,m',a0,a1,a2,a3,a4,a6,a7,a8⟩:=ChF.get l rs h6 i o df;have hl:(xR p o'.dst r.v).length=p.length:=by rw[oO]
  have e1:∀ j,idA (r::rs) U (j+1)=idA rs U j:=λj=>by simp[idA]
  refine⟨r',q,m',by simpa using a0,by rw[a1,hl],by rw[e1];exact a2,by rw[e1,e1];exact a3,by rw[e1];omega,λt ht=>?_,λt ht=>?_,λd C R g=>?_⟩
  have hk:=a6 t λj oj hj hoj=>ht (j+1) oj ai bY;rw[Em (ht 0 o' ai aI)] at hk;exact hk
  exact a7 t λj oj hj hoj=>ht (j+1) oj ai bY
  exact a8 d C (by rw[hl];exact R) λj oj hj hoj=>g (j+1) oj ai bY
theorem ChF.fin {all:Array Oper}:∀ (l:List Oper) (rs:List Rec) {p:List PV} {st:St} {nx:Nat} {f:List PV} {U:St} {R:Nat},ChF P T all l rs p st nx f U R->U=AY rs st rs.length
 | [],[],_,_,_,_,_,_,h=>h.2.1.symm
 | o::l,r::rs,_,_,_,_,_,_,⟨m,h,h'⟩=>ChF.fin l rs h'
 | [],_::_,_,_,_,_,_,_,h=>h.elim
 | _::_,[],_,_,_,_,_,_,h=>h.elim
structure JL (P:Program)(T:Tab)(all:Array Oper)(rs:List Rec)(p:List PV)(st:St)(nx:Nat)(f:List PV)(n:Nat):Prop where
 chk:FD all all.toList 0=true
 len:rs.length=all.size
 get:∀ (i:Nat) (o:Oper),all[i]?=some o->∃ r q m,rs[i]?=some r/\q.length=p.length/\aaK P T all o r q (AY rs st i) (idA rs n i) m/\idA rs n (i+1)=idA rs n i+m/\nx<=idA rs n i /\
   (∀ t,(∀ j oj,j<i->all[j]?=some oj->oj.dst≠some t)->kY p t=kY q t) /\
   (∀ t,(∀ j oj,i<=j->all[j]?=some oj->oj.dst≠some t)->kY q t=kY f t) /\
   (∀ d,o.dst=some d->d<p.length->(∀ j oj,i<j->all[j]?=some oj->oj.dst≠some d)->r.v=kY f d)
 akl:f.length=p.length
 keep:∀ t,(∀ o∈all.toList,o.dst≠some t)->kY p t=kY f t
 old:∀ b,nx<=b->kR st b=none
 clash:∀ (i k:Nat) (ri rk:Rec),i<k->rs[i]?=some ri->rs[k]?=some rk->(∃ b,(lU ri.δ b≠none/\(rk.lk b≠none\/lU rk.δ b≠none))\/(ri.lk b≠none/\lU rk.δ b≠none))->Bef all i k
theorem JL.oper {all:Array Oper}{rs:List Rec}{p:List PV}{st:St}{nx:Nat}{f:List PV}{n:Nat}(F:JL P T all rs p st nx f n){k:Nat}{U:Rec}(h:rs[k]?=some U):∃ ok,all[k]?=some ok:=by
 have:k<all.size:=by
  rw[<- F.len]
  by_cases hh:k<rs.length
  exact hh
  rw[List.getElem?_eq_none (Nat.le_of_not_lt hh)] at h;cases h
 exact⟨_,Array.getElem?_eq_getElem this⟩
theorem JL.mono {all:Array Oper}{rs:List Rec}{p:List PV}{st:St}{nx:Nat}{f:List PV}{n:Nat}(F:JL P T all rs p st nx f n):∀ {i j:Nat},i<=j->j<=all.size->idA rs n i<=idA rs n j:=by
 intro i j h
 induction h with
 | refl=>intro _;exact Nat.le_refl _
 | step h ih =>
  rename_i m;intro R;have h1:=ih ai;obtain⟨r,q,U,_,_,_,h2,_⟩:=F.get m _ (Array.getElem?_eq_getElem ai);rw[h2];omega
theorem JL.dom {all:Array Oper}{rs:List Rec}{p:List PV}{st:St}{nx:Nat}{f:List PV}{n:Nat}(F:JL P T all rs p st nx f n){j:Nat}{rj:Rec}(hj:rs[j]?=some rj){b:Nat}(h1:idA rs n j<=b)(h2:b<idA rs n (j+1)):∀ i,i<=all.size->kR (AY rs st i) b≠none->j<i/\lU rj.δ b≠none:=by
 have hjs:j<all.size:=by
  obtain⟨o,ho⟩:=F.oper hj
  by_cases h:j<all.size
  exact h
  rw[Array.getElem?_eq_none (Nat.le_of_not_lt h)] at ho;cases ho
 intro i
 induction i with
 | zero =>
  intro _ h
  exfalso
  obtain⟨_,_,_,_,_,_,_,C,_⟩:=F.get j _ (Array.getElem?_eq_getElem hjs);have J:=F.old b ai;have e:AY rs st 0=st:=by cases rs<;>rfl
  rw[e] at h;exact h J
 | succ i ih =>
  intro hi h;obtain⟨U,q,m,I,_,hS,hm,_⟩:=F.get i _ (Array.getElem?_eq_getElem ai)
  have R:∀ (rs:List Rec) (st:St) (i:Nat) (U:Rec),rs[i]?=some U->AY rs st (i+1)=lh U.δ (AY rs st i):=by
   intro rs
   induction rs with
   | nil=>intro st i U h;simp at h
   | cons r rs ih =>
    intro st i U h
    cases i with
    | zero=>simp at h;subst h;cases rs<;>rfl
    | succ i=>simp only[AY];exact ih _ i U bH
  rw[R rs st i U I,qO] at h
  have old:kR (AY rs st i) b≠none->j<i+1/\lU rj.δ b≠none:=λh=>by
   obtain⟨C,J⟩:=ih ai h;exact⟨by omega,J⟩
  cases g:lU U.δ b with
  | none=>rw[g] at h;exact old h
  | some x =>
   rcases hS.key b (by rw[g];simp) with C|C
    
   have hij:i=j:=by
    rcases Nat.lt_trichotomy i j with J|J|J
    have:=F.mono (i:=i+1) (j:=j) ai ai;omega
    exact J
    have:=F.mono (i:=j+1) (j:=i) ai ai;omega
   subst hij;rw[hj] at I;cases I;exact⟨by omega,by rw[g];simp⟩
   exact old C
def aaL {T:Tab}(C:Ctx T)(all:Array Oper)(rs:List Rec)(st:St)(n:Nat)(p f:List PV)(D:List Nat)(listed:Array Bool)(a:Act)(w:World):Prop :=
 a.defers=marks D/\∃ Y σ ps stx,SW C w Y σ ps a.tmps.toList stx n/\ps.length=p.length /\
  (∀ j o t,all[j]?=some o->o.dst=some t->listed.getD j true=true->kY ps t=kY f t) /\
  (∀ t,(∀ j o,all[j]?=some o->o.dst=some t->listed.getD j true=false)->kY ps t=kY p t) /\
  (∀ b,kR stx b=orS st b (lst rs (λk=>listed.getD k true) 0 b)) /\
  (∀ j,j<all.size->listed.getD j true=false->∀ b,idA rs n j<=b->b<idA rs n (j+1)->σ b=none)/\QQ C.w0.heap.size D w Y/\NNs stx
theorem ach {nx:Nat}(hpas:T.vY<=nx){C:Ctx T}{all:Array Oper}{rs:List Rec}{st:St}{n:Nat}{p f:List PV}{D:List Nat}(F:JL P T all rs p st nx f n){listed:Array Bool}{a:Act}{w:World}
  (hsz:listed.size=all.size) (hclosed:∀ j o,all[j]?=some o->listed.getD j true=true->∀ e∈o.after,Region.binds .any e=true->listed.getD e.on true=true)
  (hs:aaL C all rs st n p f D listed a w) {i:Nat} (hr:i∈Region.ready .any all listed) {Q:Exit->Act->World->Prop} {K:Act->World->Prop}
  (hK:∀ a' w',aaL C all rs st n p f D (listed.setIfInBounds i true) a' w'->K a' w'):wpOp P all Q i K a w:=by
 obtain⟨hun,o,ho,hall⟩:=mem_ready.1 hr;obtain⟨hd,Y,σ,ps,stx,H,hlen,hdone,hrest,hst,hfree,hD,hnn⟩:=hs
 have hilt:i<listed.size:=by
  rcases Nat.lt_or_ge i listed.size with h|h
  exact h
  simp[Array.getElem?_eq_none h] at hun
 obtain⟨r,q,m,hri,qlen,hS,hm,hnx,h6,h7,h8⟩:=F.get i o ho;have hspec:=Bc F.chk ho
 have hall' : ∀ e∈o.after,Region.binds .any e=true->listed.getD e.on true=true:=by
  intro e he hb;have:=hall e he hb;rcases Nat.lt_or_ge e.on listed.size with h|h
  simp[h] at this |-;exact this
  simp[Array.getElem?_eq_none h]
 have befIn:∀ k,Bef all k i->listed.getD k true=true:=λk h=>h.ready hclosed o ho hall'
 have befOut:∀ k,Bef all i k->listed.getD k true=false:=λk h=>by
  cases hk:listed.getD k true with
  | false=>rfl
  | true=>have:=h.listed hclosed hk;rw[hun] at this;cases this
 have look:∀ t∈o.looksAt all,kY ps t=kY q t:=by
  intro t ht
  by_cases hex:∃ j pj,all[j]?=some pj/\j≠i/\pj.dst=some t
  obtain⟨j,pj,hj,hne,J⟩:=hex;obtain⟨hdd,hor⟩:=hspec.2 j pj hj hne t J
  have uniq:∀ k pk,all[k]?=some pk->pk.dst=some t->k=j:=by
   intro k pk hk R
   by_cases hkj:k=j
   exact hkj
   exact absurd R ((Bc F.chk hk).2 j pj hj (Ne.symm hkj) t J).1
  rcases hor ht with ⟨e,he,hb,heq⟩|⟨e,he,hb,heq⟩
  have hlj:listed.getD j true=true:=by
   have:=hall' e he hb
   rwa [heq] at this
  have hji:j<i:=by rw[<- heq];exact hspec.1 e he hb
  have O:=hdone j pj t hj J hlj
  have:=h7 t λk pk hk hpk R=>by
   have:=uniq k pk hpk R;omega
  exact O.trans this.symm
  have hij:i<j:=by rw[<- heq];exact (Bc F.chk hj).1 e he hb
  have hju:listed.getD j true=false:=by
   cases hlj:listed.getD j true with
   | false=>rfl
   | true =>
    have:=hclosed j pj hj hlj e he hb;rw[heq,hun] at this;cases this
  have hp:=hrest t λk pk hk R=>by
   rw[uniq k pk hk R];exact hju
  have:=h6 t λk pk hk hpk R=>by
   have:=uniq k pk hpk R;omega
  exact hp.trans this
  have hp:=hrest t λk pk hk R=>by
   by_cases U:k=i
   rw[U];exact hun
   exact absurd ⟨k,pk,hk,U,R⟩ hex
  have:=h6 t λk pk hk hpk R=>hex ⟨k,pk,hpk,by omega,R⟩;exact hp.trans this
 have g:∀ b x,r.lk b=some x->kR stx b=some x:=by
  intro b x hb;have c1:=hS.lk b x hb;rw[hst b,<- c1,Qu rs st i 0 b]
  congr 1
  refine Ai _ _ _ _ _ λk rk I hkb=>?_;rw[Nat.zero_add,Nat.zero_add];rcases Nat.lt_trichotomy k i with U|U|U
  simp only[U,decide_true];exact befIn k (F.clash k i rk r U I hri ⟨b,.inl ⟨hkb,.inl (by rw[hb];simp)⟩⟩)
  subst U;simp only[Nat.lt_irrefl,decide_false];exact hun
  have:¬ k<i:=by omega
  simp only[this,decide_false];exact befOut k (F.clash i k r rk U hri I ⟨b,.inr ⟨by rw[hb];simp,hkb⟩⟩)
 have hisz:i<all.size:=by omega
 have hwin:∀ b,idA rs n i<=b->b<idA rs n i+m->σ b=none/\kR stx b=none:=by
  intro b h1 h2;refine⟨hfree i hisz hun b h1 (by rw[hm];exact h2),?_⟩;rw[hst b]
  have hno:lst rs (λk=>listed.getD k true) 0 b=none:=by
   refine Hw _ _ _ _ λk rk I g=>?_;rw[Nat.zero_add] at g
   cases hx:lU rk.δ b with
   | none=>rfl
   | some x =>
    exfalso
    obtain⟨ok,hok⟩:=F.oper I;obtain⟨rk',_,mk,hrk',_,hSk,hmk,_⟩:=F.get k ok hok;rw[I] at hrk';cases hrk'
    have hksz:k<all.size:=by
     by_cases h:k<all.size
     exact h
     rw[Array.getElem?_eq_none (Nat.le_of_not_lt h)] at hok;cases hok
    rcases hSk.key b (by rw[hx];simp) with h3|h3
    have:k=i:=by
     rcases Nat.lt_trichotomy k i with h4|h4|h4
     have:=F.mono (i:=k+1) (j:=i) ai ai;omega
     exact h4
     have:=F.mono (i:=i+1) (j:=k) ai ai;omega
    subst this;rw[hun] at g;cases g
    obtain⟨h4,h5⟩:=F.dom hri h1 (by rw[hm];exact h2) k ai h3;have:=befOut k (F.clash i k r rk h4 hri I ⟨b,.inl ⟨h5,.inr (by rw[hx];simp)⟩⟩);rw[g] at this;cases this
  rw[hno];exact F.old b ai
 have lastOut:∀ b,lU r.δ b≠none->∀ (k:Nat) (rk:Rec),i<k->rs[k]?=some rk->listed.getD k true=true->lU rk.δ b=none:=by
  intro b hb k rk hik I g
  cases hkb:lU rk.δ b with
  | none=>rfl
  | some x =>
   have:=befOut k (F.clash i k r rk hik hri I ⟨b,.inl ⟨hb,.inr (by rw[hkb];simp)⟩⟩);rw[g] at this;cases this
 have setD:∀ k,(listed.setIfInBounds i true).getD k true=(if k=i then true else listed.getD k true):=by
  intro k
  by_cases U:k=i
  subst U;simp[hilt]
  rw[if_neg U];exact getD_set_ne true (Ne.symm U)
 have newSt:∀ stn:St,(∀ b,kR stn b=(match lU r.δ b with|some x=>x|none=>kR stx b))->∀ b,kR stn b=orS st b (lst rs (λk=>(listed.setIfInBounds i true).getD k true) 0 b):=by
  intro stn hstn b;rw[hstn b]
  cases hb:lU r.δ b with
  | none =>
   rw[hst b]
   congr 1
   refine Ai _ _ _ _ _ λk rk I hkb=>?_;rw[Nat.zero_add,setD]
   by_cases U:k=i
   subst U;rw[hri] at I;cases I;exact absurd hb hkb
   rw[if_neg U]
  | some x =>
   rw[Xx rs _ 0 i b r x hri (by rw[Nat.zero_add,setD,if_pos rfl]) hb λk rk hik I g=>?_]
   rfl
   rw[Nat.zero_add,setD,if_neg ai] at g;exact lastOut b (by rw[hb];simp) k rk hik I g
 have after:∀ cv w' Y' σ' qs stn,(qs.length=ps.length/\∀ t,kY qs t=kY ps t)->SW C w' Y' σ' qs a.tmps.toList stn n->(∀ b,kR stn b=(match lU r.δ b with|some x=>x|none=>kR stx b)) ->
   (∀ b,(b<idA rs n i\/idA rs n i+m<=b)->σ' b=σ b)->Rep w' Y' σ' r.v cv->QQ C.w0.heap.size D w' Y'->K (a.put o.dst cv) w':=by
  intro cv w' Y' σ' qs stn hq H' hstn hoff hv hD';refine hK _ _ ⟨by rw[put_defers];exact hd,Y',σ',xR qs o.dst r.v,stn,H'.xR hv o.dst,by rw[oO,hq.1,hlen],?_,?_,newSt stn hstn,?_,hD',λb sz rows hb=>?_⟩
  intro j oj t hj J hlj;rw[xU hun] at hlj
  by_cases hji:j=i
  subst hji;rw[ho] at hj;cases hj
  by_cases hlt:t<qs.length
  rw[J];simp only[xR,wW];rw[if_pos ⟨trivial,hlt⟩];refine h8 t J (by rw[<- hlen,<- hq.1];exact hlt) λk pk hk hpk R=>?_;exact absurd J ((Bc F.chk ho).2 k pk hpk ai t R).1
  exact (xh (by rw[oO];exact Nat.le_of_not_lt hlt)).trans (xh (by rw[F.akl,<- hlen,<- hq.1];exact Nat.le_of_not_lt hlt)).symm
  have hne:=(hspec.2 j oj hj hji t J).1;rw[Em hne,hq.2];rcases hlj with h|h
  exact absurd h hji
  exact hdone j oj t hj J h
  intro t ht
  have hne:o.dst≠some t:=λe=>by
   have:=ht i o ho e;rw[(xU hun).2 (.inl rfl)] at this;cases this
  rw[Em hne,hq.2];refine hrest t λk pk hk R=>?_;have:=ht k pk hk R
  cases g:listed.getD k true with
  | false=>rfl
  | true=>rw[(xU hun).2 (.inr g)] at this;cases this
  intro j hj hlj b hb1 hb2;rw[setD] at hlj
  by_cases hji:j=i
  rw[if_pos hji] at hlj;cases hlj
  rw[if_neg hji] at hlj;rw[hoff b ?_];· exact hfree j hj hlj b hb1 hb2
  rcases Nat.lt_or_ge i j with hij|hij
  right;have:=F.mono (i:=i+1) (j:=j) ai ai;omega
  left;have:=F.mono (i:=j+1) (j:=i) ai ai;omega
  rw[hstn b] at hb
  cases hx:lU r.δ b with
  | none=>rw[hx] at hb;exact hnn b sz rows hb
  | some x=>rw[hx] at hb;simp only at hb;subst hb;exact hS.nn b sz rows hx
 have q1:kY (patch (o.looksAt all) q ps)=kY ps:=by
  funext t
  by_cases ht:t<ps.length
  rw[UL ht]
  split
  rename_i h;exact (look t h).symm
  rfl
  rw[xh dO,xh (Nat.le_of_not_lt ht)]
 have l1:q.length=ps.length:=by rw[qlen,hlen]
 have hwb:=hS.gd C _ Y σ a w stx n look H;unfold wpOp;simp only[ho]
 cases hw:r.wb with
 | true =>
  rw[hw] at hwb;rw[if_pos hwb]
  have hle:idA rs n i+m<=n:=by
   rw[<- hm];have:=F.mono (i:=i+1) (j:=all.size) ai (Nat.le_refl _);have e:idA rs n all.size=n:=by simp[idA,List.getElem?_eq_none (Nat.le_of_eq F.len)]
   omega
  exact .inl (hS.sem hw C _ Y σ a w stx n look H hnn g hwin (Nat.le_trans hpas hnx) hle K Q λcv w' Y' σ' st' H' hst' hoff hv hD'=>after cv w' Y' σ' ps st' ⟨rfl,λ_=>rfl⟩ H' hst' hoff hv (hD' _ D hD))
 | false =>
  rw[hw] at hwb;rw[if_neg (by rw[hwb];simp)];obtain⟨e1,e2⟩:=hS.skip hw;exact after _ w Y σ ps stx ⟨rfl,λ_=>rfl⟩ H (λb=>by rw[e2];rfl) (λ_ _=>rfl) (by rw[e1];simp[Rep]) hD
theorem XD {all:Array Oper}(U:FD all all.toList 0=true){listed:Array Bool}(hsz:listed.size=all.size)(hr:Region.ready .any all listed=[]):∀ j,listed.getD j true=true:=by
 intro j
 induction j using Nat.strongRecOn with
 | _ j ih =>
  cases h:listed.getD j true with
  | true=>rfl
  | false =>
   have R:j<listed.size:=by
    rcases Nat.lt_or_ge j listed.size with h'|h'
    exact h'
    simp[Array.getElem?_eq_none h'] at h
   have hj:all[j]?=some all[j]:=Array.getElem?_eq_getElem ai
   have:j∈Region.ready .any all listed:=mem_ready.2 ⟨h,_,hj,λe he hb=>by
    have T:=(Bc U hj).1 e he hb;have:=ih e.on T;have h2:e.on<listed.size:=by omega
    simp[h2] at this |-;exact this⟩
   rw[hr] at this;cases this
theorem ZJ {nx:Nat}(hpas:T.vY<=nx){C:Ctx T}{all:Array Oper}{rs:List Rec}{st:St}{n:Nat}{p f:List PV}{D:List Nat}(F:JL P T all rs p st nx f n){Q:Exit->Act->World->Prop}
  (hQ:∀ a w Y σ stx,a.defers=marks D->SW C w Y σ f a.tmps.toList stx n->(∀ b,kR stx b=kR (AY rs st rs.length) b)->QQ C.w0.heap.size D w Y->Q .normal a w):∀ (fuel:Nat) (listed:Array Bool) (a:Act) (w:World),listed.size=all.size->listed.toList.count false=fuel ->
   (∀ j o,all[j]?=some o->listed.getD j true=true->∀ e∈o.after,Region.binds .any e=true->listed.getD e.on true=true) ->
   aaL C all rs st n p f D listed a w->wpAny P .any all Q fuel listed a w:=by
 have fin:∀ (listed:Array Bool) (a:Act) (w:World),listed.size=all.size->aaL C all rs st n p f D listed a w->Region.ready .any all listed=[]->Q .normal a w:=by
  intro listed a w hsz hs hr;have hl:=XD F.chk hsz hr;obtain⟨hd,Y,σ,ps,stx,H,hlen,I,g,hst,_,hD,_⟩:=hs
  have hpf:∀ t,kY ps t=kY f t:=by
   intro t
   by_cases hex:∃ (j:Nat) (o:Oper),all[j]?=some o/\o.dst=some t
   obtain⟨j,o,hj,R⟩:=hex;exact I j o t hj R (hl j)
   rw[g t λj o hj R=>absurd ⟨j,o,hj,R⟩ hex];refine F.keep t λo ho R=>?_;obtain⟨j,hj⟩:=List.getElem?_of_mem ho;exact hex ⟨j,o,by simpa using hj,R⟩
  have heq:AX ps f:=⟨by rw[hlen,F.akl],λt=>by rw[hpf t];exact Eqv.refl _⟩;refine hQ a w Y σ stx hd (H.uS (H.vals.eqv heq)) (λb=>?_) hD;rw[hst b,Qu rs st rs.length 0 b]
  congr 1
  refine Ai _ _ _ _ _ λk rk hrk _=>?_;rw[Nat.zero_add,Nat.zero_add,hl k]
  have:k<rs.length:=by
   by_cases hh:k<rs.length
   exact hh
   rw[List.getElem?_eq_none (Nat.le_of_not_lt hh)] at hrk;cases hrk
  simp[this]
 intro fuel
 induction fuel with
 | zero =>
  intro listed a w hsz hc U hs
  have hr:Region.ready .any all listed=[]:=by
   rw[List.eq_nil_iff_forall_not_mem];intro i hi;have J:=(mem_ready.1 hi).1
   have hlt:i<listed.size:=by
    rcases Nat.lt_or_ge i listed.size with h'|h'
    exact h'
    simp[Array.getElem?_eq_none h'] at J
   have hget:listed[i]=false:=by simpa [hlt] using J
   have hm:false∈listed.toList:=by rw[<- hget];simp
   exact (List.count_eq_zero.1 hc) hm
  exact⟨hr,fin listed a w hsz hs hr⟩
 | succ fuel ih =>
  intro listed a w hsz hc U hs;refine⟨fin listed a w hsz hs,λi hi=>?_⟩;have J:=(mem_ready.1 hi).1;refine ach hpas F hsz U hs hi λa' w' hs'=>ih _ a' w' (by simpa using hsz) (count_set J hc) ?_ hs';intro j o hj hlj e he hb;rw[xU J] at hlj |-;rcases hlj with h|h
  subst h;obtain⟨_,o',ho',hall⟩:=mem_ready.1 hi;rw[hj] at ho';cases ho';have:=hall e he hb;refine .inr ?_;rcases Nat.lt_or_ge e.on listed.size with h'|h'
  simp[h'] at this |-;exact this
  simp[Array.getElem?_eq_none h'] at this
  exact .inr (U j o hj h e he hb)
theorem OI:∀ (st:St),tY st=true->NNs st
 | [],_,b,sz,rows,h=>by simp[kR] at h
 | (c,x)::st,h,b,sz,rows,hb=>by
  have h1:tY st=true/\∀ sz rows,x≠some (.pU sz rows):=by
   cases x with
   | none=>exact⟨by simpa [tY] using h,by simp⟩
   | some y=>cases y<;>simp_all[tY]
  simp only[kR] at hb
  cases U:Nat.beq c b with
  | true=>rw[U] at hb;exact h1.2 _ _ hb
  | false=>rw[U] at hb;exact OI st h1.1 b sz rows hb
theorem ZK:∀ (l:List Nat) (b:Nat),Aa l b=true↔b∈l
 | [],b=>by simp[Aa]
 | c::l,b=>by
  simp only[Aa]
  cases U:Nat.beq c b with
  | true=>simp[Nat.eq_of_beq_eq_true U]
  | false =>
   have:¬ b=c:=λe=>by subst e;rw[Nat.beq_refl] at U;cases U
   simp[ZK l b,this]
theorem aci {st:St}{nx:Nat}:∀ (δ:Dl),okG st nx δ=true->(∀ b,lU δ b≠none->b=nx\/kR st b≠none)/\(∀ b sz rows,lU δ b≠some (some (.pU sz rows)))/\∀ b,lU δ b≠none->b∈Sl δ
 | [],_=>⟨λb h=>absurd rfl h,λb sz rows (h:(none:Option (Option mJ))=some (some (.pU sz rows)))=>bJ,λb h=>absurd rfl h⟩
 | (c,x)::δ,h=>by
  simp only[okG,Bool.and_eq_true,Bool.or_eq_true] at h;obtain⟨h1,h2,R⟩:=h;obtain⟨g1,g2,g3⟩:=aci δ R;refine⟨λb hb=>?_,λb sz rows hb=>?_,λb hb=>?_⟩
  simp only[lU] at hb
  cases U:lU δ b with
  | some y=>exact g1 b (by rw[U];simp)
  | none =>
   rw[U] at hb
   by_cases T:c=b
   subst T;rcases h2 with h2|h2
   exact .inl (Nat.eq_of_beq_eq_true h2)
   refine .inr λe=>?_;rw[e] at h2;cases h2
   simp[T] at hb
  simp only[lU] at hb
  cases U:lU δ b with
  | some y=>rw[U] at hb;simp only[Option.some.injEq] at hb;subst hb;exact g2 b sz rows U
  | none =>
   rw[U] at hb
   by_cases T:c=b
   subst T;simp at hb;subst hb;simp at h1
   simp[T] at hb
  simp only[lU] at hb;simp only[Sl]
  cases U:lU δ b with
  | some y=>exact List.mem_cons_of_mem _ (g3 b (by rw[U];simp))
  | none =>
   rw[U] at hb
   by_cases T:c=b
   subst T;simp
   simp[T] at hb
theorem ahP (hT:lW P T)(hW:I4 P){all:Array Oper}{o:Oper}{ps:List PV}{lk:Nat->Option mJ}{id:Nat}{v:PV}{δ:Dl}(hF:∀ K' : PV->Dl->Prop,K' v δ->nK T (kK.lM P T) o.op ps lk id K'):akm P T all o ps lk id 1 v δ:=by
 intro C qs Y σ a w st n hl H hn hlk g I hle next Q R
 have H2:=H.afg hn;have h4:=hF (λv' J=>v'=v/\J=δ) ⟨rfl,rfl⟩;rw[<- Qr (yM hl)] at h4;obtain⟨v',J,cv,w',Y',σ',⟨rfl,rfl⟩,U,H',hrep,hoff⟩:=Ba hT hW H2 hlk ⟨(g id (Nat.le_refl _) ai).1,I⟩ h4;have hni:uk J n id<=n:=by cases J<;>simp[uk]<;>omega
 have H3:=(H.acg H').mono hni;have:=R cv w' Y' σ' (lh J st) H3 (λb=>qO _ _ _) (λb hb=>hoff b ai) hrep (λB D hD=>hD.step H.store H');unfold Oper.wp;rcases U with U|⟨U,rfl⟩
 rw[U];exact this
 rw[U];exact this
theorem acj:∀ (l:List (List Nat×List Nat×List Nat)) x,abL l x=l++[x]
 | [],x=>rfl
 | y::l,x=>by simp[abL,acj l x]
theorem XE (hT:lW P T)(hW:I4 P){all:Array Oper}:∀ (l:List Oper) (E:Env) (tr:List Tc) (K:Env->List Tc->Prop),NNs E.st->afT T (kK.lM P T) l E tr K ->
  ∃ rs J U,ChF P T all l rs E.tmps E.st E.next J.tmps J.st J.next/\K J (tr++U)/\(∀ (i:Nat) (r:Rec),rs[i]?=some r->∃ tc,U[i]?=some tc/\af9 r tc)
 | [],E,tr,K,_,h=>⟨[],E,[],⟨rfl,rfl,rfl⟩,by rw[List.append_nil];exact h,λi r hr=>by simp at hr⟩
 | o::l,E,tr,K,hnn,h=>by
  unfold afT stepG at h
  split at h
  rename_i hg
  split at h
  rename_i hq hnd
  have I:∃ v δ,(match okG E.st E.next δ with
   | true=>afT T (kK.lM P T) l (rG ⟨E.tmps,lh δ E.st,E.next+1⟩ o.dst v) (abL tr (rdG T E.tmps o.op,Sl δ,Sl δ)) K
   | false=>False)/\∀ K' : PV->Dl->Prop,K' v δ->nK T (kK.lM P T) o.op E.tmps (lkG (rdG T E.tmps o.op) E.st) E.next K':=by
   cases hQ:isQ o.op with
   | true=>exact ae9 hQ h
   | false =>
    rw[hQ] at hq;have hq:(Nat.beq (sZ T o.op) 1 || Nat.beq (sZ T o.op) 2)=true:=hq;rw[Bool.or_eq_true] at hq;exact ace (hq.imp Nat.eq_of_beq_eq_true Nat.eq_of_beq_eq_true) hnd h
  obtain⟨v,δ,hK,hF⟩:=I
  cases R:okG E.st E.next δ with
  | false=>rw[R] at hK;exact hK.elim
  | true =>
   rw[R] at hK;obtain⟨g1,g2,g3⟩:=aci δ R;have hput:∀ (e:Env),rG e o.dst v=⟨xR e.tmps o.dst v,e.st,e.next⟩:=λe=>by cases hd:o.dst<;>simp[rG,xR]
   rw[hput] at hK
   have g:NNs (lh δ E.st):=λb sz rows hb=>by
    rw[qO] at hb
    cases hl:lU δ b with
    | none=>rw[hl] at hb;exact hnn b sz rows hb
    | some y=>rw[hl] at hb;have hb:y=some (.pU sz rows):=hb;exact g2 b sz rows (by rw[hl,hb])
   obtain⟨rs,J,U,hc,hk,ht⟩:=XE hT hW l _ _ K g hK;refine⟨⟨E.tmps,E.tmps,lkG (rdG T E.tmps o.op) E.st,v,δ,E.next,true,true,false⟩::rs,J,(rdG T E.tmps o.op,Sl δ,Sl δ)::U,⟨1,⟨rfl,?_,λ_=>ahP hT hW hF,λe=>by (cases e),λb x hb=>?_,λb hb=>?_,g2⟩,hc⟩,by rw[acj] at hk;simpa using hk,λi r hr=>?_⟩
   intro C ps Y σ a w st n _ _;simp[Region.wanted,hg]
   show kR E.st b=some x;have hb:lkG (rdG T E.tmps o.op) E.st b=some x:=hb;unfold lkG at hb
   cases hh:Aa (rdG T E.tmps o.op) b with
   | true=>rw[hh] at hb;exact hb
   | false=>rw[hh] at hb;cases hb
   rcases g1 b hb with rfl|h1
   exact .inl ⟨Nat.le_refl _,by omega⟩
   exact .inr h1
   cases i with
   | zero =>
    simp at hr;subst hr;refine⟨_,rfl,λb hb=>?_,g3,λb hb=>hb⟩;have hb:lkG (rdG T E.tmps o.op) E.st b≠none:=hb;unfold lkG at hb
    cases hh:Aa (rdG T E.tmps o.op) b with
    | true=>exact (ZK _ _).1 hh
    | false=>rw[hh] at hb;exact absurd rfl hb
   | succ i=>exact ht i r dF
  exact h.elim
  exact h.elim
theorem adQ (hT:lW P T)(hW:I4 P){id:Nat}{l:Array Oper}{E:Env}{K:Env->Prop}(R:ltS E.next E.st=true)(hnn:tY E.st=true)(h:afT T (kK.lM P T) l.toList E [] λE tr=>(kK.lM P T).ajK l tr (K E)) :
  ∀ (C:Ctx T) a w,nX C E a w->∀ Q:Exit->Act->World->Prop,(∀ g a' w',nX C g a' w'->K g->Q .normal a' w')->(Code.region id l true).wp P Q a w:=by
 intro C a w hA Q hQ;obtain⟨rs,g,tr,J,⟨I,hK⟩,h5⟩:=XE hT hW (all:=l) l.toList E [] _ (OI _ hnn) h;rw[List.nil_append] at I;obtain⟨hc1,hc2⟩:=ug I;obtain⟨⟨Y,σ,H⟩,hdf⟩:=hA;obtain⟨hl1,hl2,hl3⟩:=J.len _ _
 have F:JL P T l rs E.tmps E.st E.next g.tmps g.next:=by
  refine⟨hc1,by simpa using hl1,λi o hi=>?_,hl2,λt ht=>J.keep _ _ ht,λb hb=>?_,λi k ri rk hik hi hk hc=>?_⟩
  obtain⟨r,q,m,a0,a1,a2,a3,a4,a6,a7,a8⟩:=J.get _ _ i o df;exact⟨r,q,m,a0,a1,a2,a3,a4,λt ht=>a6 t λj oj hj hoj=>ht j oj hj bY,λt ht=>a7 t λj oj hj hoj=>ht j oj hj bY,λd hd R hn=>a8 d hd R λj oj hj hoj=>hn j oj hj bY⟩
  cases hx:kR E.st b with
  | none=>rfl
  | some x=>exact absurd (XB _ R b (by rw[hx];simp)) ai
  obtain⟨x,hx,hx2⟩:=h5 i ri hi;obtain⟨y,hy,hy2⟩:=h5 k rk hk;have:=UN tr 0 hc2 i k x y hik hx hy;rw[Nat.zero_add,Nat.zero_add] at this;exact XC hx2 hy2 this hc
 have hrep:∀ j,j<l.size->(Array.replicate l.size false).getD j true=false:=λj hj=>by simp[hj]
 have hno:∀ j o,l[j]?=some o->(Array.replicate l.size false).getD j true=true->False:=by
  intro j o hj U
  have R:j<l.size:=by
   rcases Nat.lt_or_ge j l.size with h'|h'
   exact h'
   simp[Array.getElem?_eq_none h'] at hj
  rw[hrep j R] at U;cases U
 refine wp_region_any hW.mixed (ZJ (C:=C) (D:=[]) H.fix.1 F (λa' w' Y' σ' stx hd' H' hstx hD'=>hQ g a' w' ⟨⟨Y',σ',H'.ext λb x hx=>?_⟩,hd'⟩ hK) l.size _ a _ aI ?_ ?_ ?_)
 rw[hstx b,<- J.fin];exact hx
 simp
 intro j o hj U;exact (hno j o hj U).elim
 refine⟨hdf,Y,σ,E.tmps,E.st,(H.drawn _).mono hl3,rfl,?_,λt _=>rfl,λb=>?_,λj hj _ b hb1 _=>?_,⟨List.nodup_nil,λr hr=>by cases hr⟩,OI _ hnn⟩
 intro j o t hj hdst U;exact (hno j o hj U).elim
 rw[Hw _ _ _ _ λk r hr hDD=>?_];· rfl
 rw[Nat.zero_add] at hDD;obtain⟨ok,hok⟩:=F.oper hr;exact (hno k ok hok hDD).elim
 obtain⟨_,_,_,_,_,_,_,h6,_⟩:=F.get j _ (Array.getElem?_eq_getElem hj);exact H.next b (Nat.le_trans h6 hb1)
end
end Go.Pv
namespace Go.Pv
open Go
theorem lift_seq {T:Tab}{C:Ctx T}{P:Program}{b:Code}{Q:Post}{nx:Env->Prop}(hb:∀ E a w,nX C E a w->nx E->b.wp P (lift C Q) a w):∀ e a w,lift C (Uy nx Q) e a w->Exit.then (b.wp P (lift C Q)) (lift C Q) e a w:=by
 intro e a w h
 cases e with
 | normal=>obtain⟨E,hA,hq⟩:=h;exact hb E a w hA hq
 | ret=>obtain⟨E,hA,hq⟩:=h;exact⟨E,hA,hq⟩
 | exit n=>obtain⟨E,hA,hq⟩:=h;exact⟨E,hA,hq⟩
 | _=>exact h.elim
theorem ahQ {T:Tab}{C:Ctx T}{Q U : Post}(h:∀ n E,Q n E->∃ F,Ent T E F/\U n F):∀ e a w,lift C Q e a w->lift C U e a w:=by
 intro e a w hq
 have go:∀ n,(∃ E,nX C E a w/\Q n E)->∃ E,nX C E a w/\U n E:=by
  rintro n ⟨E,hA,hq⟩
  obtain⟨F,h1,h2⟩:=h n E hq;exact⟨F,h1 C a w hA,h2⟩
 cases e with
 | normal=>exact go 0 hq
 | ret=>exact go 1 hq
 | exit n=>exact go (n+2) hq
 | _=>exact hq.elim
theorem Dv {P:Program}{T:Tab}(hT:lW P T)(hW:I4 P):∀ (c:Code) (Q:Post) (E:Env),pwp T (kK.lM P T) c Q E->ae1 P T c Q E:=by
 intro c
 induction c with
 | skip=>intro Q E h C a w hA;exact wp_skip ⟨E,hA,h⟩
 | region id l dr =>
  intro Q E h C a w hA
  cases dr with
  | true =>
   simp only[pwp] at h
   cases I:Aa T.cut (1000+id) with
   | true =>
    rw[I] at h;simp only[cond_true] at h
    cases J:(ltS E.next E.st&&tY E.st) with
    | false=>rw[J] at h;exact h.elim
    | true =>
     rw[J] at h;rw[Bool.and_eq_true] at J;exact adQ hT hW J.1 J.2 h C a w hA _ λR a' w' U hK=>⟨R,U,hK⟩
   | false =>
   rw[I] at h;obtain⟨h1,h2⟩:=h
   cases J:ltS E.next E.st with
   | false=>rw[J] at h2;exact h2.elim
   | true=>rw[J] at h2;exact adP hT hW h1 J h2 C a w hA _ λR a' w' U hK=>⟨R,U,hK⟩
  | false=>exact wp_region_list (Rh hT hW l.toList E _ h a w hA λR a' w' U hK=>⟨R,U,hK⟩)
 | seq x y ihx ihy =>
  intro Q E h C a w hA;simp only[pwp] at h
  cases hs:ahd T.cut x y with
  | true =>
   rw[hs] at h;exact wp_seq (wp_mono (ihx _ E h C a w hA) (lift_seq λR a' w' U hq=>ihy Q R hq C a' w' U))
  | false =>
   rw[hs] at h;obtain⟨Q',h1,h2⟩:=h;refine wp_seq (wp_mono (wp_mono (ihx Q' E h1 C a w hA) (ahQ h2)) (lift_seq λR a' w' U hq=>ihy Q R hq C a' w' U))
 | cond c x y ihx ihy =>
  intro Q E h C a w hA
  cases c with
  | tmp c =>
   simp only[pwp] at h;have U:=hA;obtain⟨⟨Y,σ,H⟩,hd⟩:=U;have hg:=H.vals.get _ _ c;have g:a.eval (.tmp c)=a.tmps.toList.getD c Go.undef:=by simp[Act.eval,Array.getD_eq_getD_getElem?,List.getD_eq_getElem?_getD]
   split at h
   rename_i e;rw[e] at hg;exact wp_cond_true (by rw[g];exact wK hg) (ihx Q E h C a w hA)
   rename_i e;rw[e] at hg;exact wp_cond_false (by rw[g];exact wK hg) (ihy Q E h C a w hA)
   rename_i t e;have hg2:=hg;rw[e] at hg2;refine wp_cond_split (t:=t) (by rw[g];exact OB hg2) (λht=>?_) (λht=>?_)
   exact ihx Q _ (h.1 ht) C a w ⟨⟨Y,σ,H.rX e true ht⟩,hd⟩
   exact ihy Q _ (h.2 ht) C a w ⟨⟨Y,σ,H.rX e false ht⟩,hd⟩
   exact h.elim
  | const v =>
   cases v with
   | bool b =>
    cases b with
    | true=>exact wp_cond_true rfl (ihx Q E h C a w hA)
    | false=>exact wp_cond_false rfl (ihy Q E h C a w hA)
   | _=>exact (by simp[pwp] at h)
  | _=>exact (by simp[pwp] at h)
 | block id b ih =>
  intro Q E h C a w hA;refine wp_block (wp_mono (ih _ E h C a w hA) λe a' w' hq=>?_)
  cases e with
  | normal=>exact hq
  | ret=>exact hq
  | exit n =>
   obtain⟨R,U,hq⟩:=hq;simp only[Exit.inBlock];have hq:(bif Nat.beq n id then Q 0 R else Q (n+2) R):=hq
   by_cases hn:n=id
   rw[if_pos hn];subst hn;simp only[Nat.beq_refl,cond_true] at hq;exact⟨R,U,hq⟩
   rw[if_neg hn];rw[SB hn] at hq;exact⟨R,U,hq⟩
  | _=>exact hq.elim
 | loop b ih=>intro Q E h;exact h
 | exit n=>intro Q E h C a w hA;exact wp_exit ⟨E,hA,h⟩
 | ret=>intro Q E h C a w hA;exact wp_ret ⟨E,hA,h⟩
 | _=>intro Q E h;exact (by simp[pwp] at h)
end Go.Pv
namespace Go.Pv
open Go
theorem SW.adR {T:Tab}{C:Ctx T}{w:World}{Y:Nat->Prop}{σ:Sg}{ps:List PV}{vs:List Value}{st:St}{n:Nat}(H:SW C w Y σ ps vs st n){b r m sz:Nat}{rows:List (List PV)}{cv:Value}
  (hb:kR st b=some (.arr false sz rows)) (hv:Rep w Y σ (.os b r m) cv) :
  ∃ σ',SW C w Y σ' ps vs (rW (rW st b none) n (some (.arr false sz ((rows.drop r).take m)))) (n+1)/\Rep w Y σ' (.os n 0 m) cv/\qI σ σ':=by
 have hn:=H.next n (Nat.le_refl _)
 have nb:b≠n\/σ b=none:=by
  by_cases h:b=n
  right;rw[h];exact hn
  exact .inl h
 have old:∀ c x,kR (rW st b none) c=some x->c≠b/\kR st c=some x:=by
  intro c x h;rw[kC] at h
  by_cases U:b=c
  rw[if_pos U] at h;cases h
  rw[if_neg U] at h;exact⟨λe=>U e.symm,h⟩
 have hv0:=hv;unfold Rep at hv;rcases hv with ⟨l,cap,hs,ev,hmc,htot,hnr⟩|⟨hm,a,ev⟩
 let l' : Loc:=⟨l.cb,l.co+r*l.sz,l.sz,l.tot,m⟩
 let σ' : Sg:=λk=>if k=n then some l' else σ k
 have hσ:∀ k,k≠n->σ' k=σ k:=λk h=>if_neg h;have I:σ' n=some l':=if_pos rfl
 have hle:qI σ σ':=by
  intro k x h
  by_cases hk:k=n
  rw[hk,hn] at h;cases h
  rw[hσ k hk];exact h
 have K:Keep w w Y Y σ σ':=⟨λ_ _ _=>rfl,λ_ _ h=>h,Nat.le_refl _,hle⟩;have hbn:b≠n:=by intro e;rw[e,hn] at hs;cases hs
 obtain⟨lb,hlb,hB⟩|⟨hno,_⟩:=H.store.blk b _ hb
 rw[hs] at hlb;cases hlb;unfold jH at hB;obtain⟨hat,hsz,hpos,⟨hfit,hnrw⟩,hrows,hY1,hY2⟩:=hB;have hlen:((rows.drop r).take m).length=m:=by rw[List.length_take,List.length_drop];omega
 refine⟨σ',⟨jo.keep _ K _ H.vals,⟨?_,?_⟩,?_,H.yK,H.y0,H.c0,H.xI,H.qh,?_,H.zi,⟨by have:=H.fix.1;omega,?_⟩,?_⟩,?_,hle⟩
 intro c x hx;rw[kC] at hx
 by_cases U:n=c
 rw[if_pos U] at hx;cases hx;subst U;refine .inl ⟨l',I,?_⟩;unfold jH;refine⟨⟨hat.blk⟩,hsz,hpos,⟨?_,hlen⟩,?_,hY1,λh=>by cases h⟩
 rw[hlen];show l.co+r*l.sz+m*sz<=l.tot;have:m*l.sz<=cap*l.sz:=Nat.mul_le_mul_right _ hmc;rw[<- hsz] at *;omega
 show lV w Y kX l.cb sz _ (l.co+r*l.sz);rw[hsz];exact lV.take m _ _ (lV.drop r _ _ hrows)
 rw[if_neg U] at hx;obtain⟨_,hx⟩:=old c x hx;rcases H.store.blk c x hx with ⟨l2,h2,hB2⟩|⟨h2,h3⟩
 exact .inl ⟨l2,hle _ _ h2,jH.keep K rfl Iff.rfl hB2⟩
 exact .inr ⟨by rw[hσ c (λe=>U e.symm)];exact h2,h3⟩
 intro c g x x' lc lc' hx R J hl' e;rw[kC] at hx R
 by_cases U:n=c
 by_cases hc' : n=g
 rw[<- U,<- hc']
 rw[if_neg hc'] at R;obtain⟨hcb,R⟩:=old g x' R;subst U;rw[I] at J;cases J;rw[hσ g (λe=>hc' e.symm)] at hl';exact absurd (H.store.inj b g _ x' l lc' hb R hs hl' e).symm hcb
 rw[if_neg U] at hx;obtain⟨hcb,hx⟩:=old c x hx;rw[hσ c (λe=>U e.symm)] at J
 by_cases hc' : n=g
 subst hc';rw[I] at hl';cases hl';exact absurd (H.store.inj c b x _ lc l hx hb J hs e) hcb
 rw[if_neg hc'] at R;obtain⟨_,R⟩:=old g x' R;rw[hσ g (λe=>hc' e.symm)] at hl';exact H.store.inj c g x x' lc lc' hx R J hl' e
 intro k hk;rw[hσ k ai];exact H.next k ai
 intro c x lc hx J;rw[kC] at hx
 by_cases U:n=c
 subst U;rw[I] at J;cases J;exact H.own b _ l hb hs
 rw[if_neg U] at hx;obtain⟨_,hx⟩:=old c x hx;rw[hσ c (λe=>U e.symm)] at J;exact H.own c x lc hx J
 intro k hk;rw[hσ k (by have:=H.fix.1;omega)];exact H.fix.2 k hk
 have ow:∀ c rr cc h sz' es,pY (rW (rW st b none) n (some (.arr false sz ((rows.drop r).take m)))) c rr cc h sz' es->pY st c rr cc h sz' es:=by
  rintro c rr cc h sz' es ⟨s0,rws,row,h1,h2⟩
  rw[kC] at h1
  by_cases U:n=c
  rw[if_pos U] at h1;cases h1
  rw[if_neg U] at h1;exact⟨s0,rws,row,(old c _ h1).2,h2⟩
 refine⟨λ_ _ _ _ _ _ h=>H.nest.rep _ _ _ _ _ _ (ow _ _ _ _ _ _ h),λ_ _ _ _ _ _ h=>H.nest.old _ _ _ _ _ _ (ow _ _ _ _ _ _ h),λ_ _ _ _ _ _ _ _ _ _ _ _ h h'=>H.nest.one _ _ _ _ _ _ _ _ _ _ _ _ (ow _ _ _ _ _ _ h) (ow _ _ _ _ _ _ h'),?_⟩;intro c rr cc h sz' es g x lc ho hx J;rw[kC] at hx
 by_cases U:n=g
 subst U;rw[I] at J;cases J;exact H.nest.sep _ _ _ _ _ _ b _ l (ow _ _ _ _ _ _ ho) hb hs
 rw[if_neg U] at hx;rw[hσ g (λe=>U e.symm)] at J;exact H.nest.sep _ _ _ _ _ _ g x lc (ow _ _ _ _ _ _ ho) (old g x hx).2 J
 unfold Rep;refine .inl ⟨l',cap,I,?_,hmc,?_,?_⟩
 rw[ev];show Value.slice (some ⟨l.cb,l.co+r*l.sz,none⟩) m cap=Value.slice (some ⟨l.cb,l.co+r*l.sz+0*l.sz,none⟩) m cap;rw[Nat.zero_mul,Nat.add_zero]
 show l.co+r*l.sz+0*l.sz+cap*l.sz=l.tot;rw[Nat.zero_mul,Nat.add_zero];exact htot
 show 0+m<=m;omega
 rw[hs] at hno;cases hno
 subst hm;have H1:=(H.drop b).empty (id:=n) ⟨hn,H.fix.1⟩ sz;have hm:max n (n+1)=n+1:=by omega
 rw[hm] at H1;refine⟨σ,by simpa using H1,?_,qI.refl _⟩;unfold Rep;exact .inr ⟨rfl,a,ev⟩
section
variable {P:Program}{T T' : Tab}{C:Ctx T}{w:World}{ps:List PV}{vs:List Value}
theorem Keep.same {w:World}{Y:Nat->Prop}{σ σ' : Sg}(h:qI σ σ'):Keep w w Y Y σ σ':=⟨λ_ _ _=>rfl,λ_ _ h=>h,Nat.le_refl _,h⟩
theorem Keep.adS {w:World}{Y Y' T:Nat->Prop}{σ σ' U:Sg}(h:Keep w w Y Y' σ σ')(k:Keep w w Y' T σ' U):Keep w w Y T σ U:=⟨λ_ _ _=>rfl,λc R h2=>h.excl c R (k.excl c R h2),Nat.le_refl _,h.sg.trans k.sg⟩
theorem S9 (z:Nat×Bool)(v:PV){Y:Nat->Prop}{σ:Sg}{st:St}{n:Nat}{cv:Value}(H:SW C w Y σ ps vs st n)(hv:Rep w Y σ v cv) :
  ∃ Y' σ',SW C w Y' σ' ps vs (JG (kK.lM P T') z v st n).2.1 (JG (kK.lM P T') z v st n).2.2/\Rep w Y' σ' (JG (kK.lM P T') z v st n).1 cv/\Keep w w Y Y' σ σ':=by
 have same:∃ Y' σ',SW C w Y' σ' ps vs st n/\Rep w Y' σ' v cv/\Keep w w Y Y' σ σ':=⟨Y,σ,H,hv,Keep.same (qI.refl _)⟩;obtain⟨z,re⟩:=z
 cases z with
 | zero =>
  cases re with
  | false=>exact same
  | true =>
   simp only[JG]
   split
   rename_i v' J;obtain⟨Y',g,hY⟩:=SW.roS (Vu [v] st) H;have K:Keep w w Y Y' σ σ:=⟨λ_ _ _=>rfl,λk _=>hY k,Nat.le_refl _,qI.refl _⟩
   have U:∀ b x l,adw (roS st (Vu [v] st)) b=some x->σ b=some l->¬ Y' l.cb:=by
    intro b x l h1 h2;obtain⟨h3,h4⟩:=Jd h1;rcases g.store.blk b x h3 with ⟨l',R,hB⟩|⟨hn,_⟩
    rw[h2] at R;cases R;exact hB.ame h4
    rw[h2] at hn;cases hn
   have hr:=Qp (P:=P) (T:=T') (Y0:=Y') g.store (λb x h=>(Jd h).1) (λ_ h=>h) U (λb sz rows hb=>by have:=(Jd hb).2;cases this) 6 v v' cv J (Rep.keep _ K _ hv);exact⟨Y',σ,g,Rep.keep _ ⟨λ_ _ _=>rfl,λ_ _ h=>h,Nat.le_refl _,λb l h=>by simp[kX] at h⟩ _ hr,K⟩
   exact same
 | succ z =>
  cases v with
  | sl sz es f =>
   cases f with
   | false=>exact same
   | true =>
    cases es with
    | cons _ _=>exact same
    | nil =>
     have H1:=H.empty (id:=n) ⟨H.next _ (Nat.le_refl _),H.fix.1⟩ (z+1);have hm:max n (n+1)=n+1:=by omega
     rw[hm] at H1;refine⟨Y,σ,H1,?_,Keep.same (qI.refl _)⟩;show Rep w Y σ (.os n 0 0) cv;unfold Rep at hv |-;obtain⟨sx,len,cap,e,I,hc,O,_⟩:=hv;have I:len=0:=by simpa using I
     have hc:=O rfl;subst I;rw[e,hc];exact .inr ⟨rfl,sx,rfl⟩
  | os b r m =>
   cases re with
   | false=>exact same
   | true =>
    show ∃ Y' σ',SW C w Y' σ' ps vs (JG (kK.lM P T') (z+1,true) (.os b r m) st n).2.1 (JG (kK.lM P T') (z+1,true) (.os b r m) st n).2.2/\Rep w Y' σ' (JG (kK.lM P T') (z+1,true) (.os b r m) st n).1 cv/\Keep w w Y Y' σ σ';simp only[JG]
    split
    rename_i hb;obtain⟨σ',H1,h1,h2⟩:=H.adR hb hv;exact⟨Y,σ',H1,h1,Keep.same h2⟩
    exact same
  | _=>exact same
theorem JM:∀ (zs:List (Nat×Bool)) (cs:List PV) {Y:Nat->Prop} {σ:Sg} {st:St} {n:Nat} {cvs:List Value},SW C w Y σ ps vs st n->jo w Y σ cs cvs ->
  ∃ Y' σ',SW C w Y' σ' ps vs (Eg (kK.lM P T') zs cs st n).2.1 (Eg (kK.lM P T') zs cs st n).2.2/\jo w Y' σ' (Eg (kK.lM P T') zs cs st n).1 cvs/\Keep w w Y Y' σ σ'
 | z::zs,v::cs,Y,σ,st,n,cvs,H,hv=>by
  unfold jo at hv;obtain⟨c,T,rfl,h1,h2⟩:=hv;obtain⟨g,I,H1,h1,k1⟩:=S9 (P:=P) (T':=T') z v H h1;obtain⟨U,R,J,h2,k2⟩:=JM zs cs H1 (jo.keep cs k1 _ h2);exact⟨U,R,J,by show jo w U R (_::_) _;unfold jo;exact⟨_,_,rfl,Rep.keep _ k2 _ h1,h2⟩,k1.adS k2⟩
 | [],cs,Y,σ,st,n,cvs,H,hv=>by unfold Eg;exact⟨_,σ,H,hv,Keep.same (qI.refl _)⟩
 | z::zs,[],Y,σ,st,n,cvs,H,hv=>by unfold Eg;exact⟨_,σ,H,hv,Keep.same (qI.refl _)⟩
theorem VH (zs:List (Nat×Bool))(v:PV){Y:Nat->Prop}{σ:Sg}{st:St}{n:Nat}{cv:Value}(H:SW C w Y σ ps vs st n)(hv:Rep w Y σ v cv) :
  ∃ Y' σ',SW C w Y' σ' ps vs (Zl (kK.lM P T') zs v st n).2.1 (Zl (kK.lM P T') zs v st n).2.2/\Rep w Y' σ' (Zl (kK.lM P T') zs v st n).1 cv/\Keep w w Y Y' σ σ':=by
 unfold Zl
 split
 rename_i cs;unfold Rep at hv;obtain⟨R,e,h⟩:=hv;obtain⟨T,U,H1,h1,k1⟩:=JM (P:=P) (T':=T') zs cs H h;exact⟨T,U,H1,by show Rep w T U (.agg _) _;unfold Rep;exact⟨_,e,h1⟩,k1⟩
 split
 exact S9 _ _ H hv
 exact⟨_,σ,H,hv,Keep.same (qI.refl _)⟩
theorem Td:∀ (own:List (List (Nat×Bool))) (cs:List PV) {Y:Nat->Prop} {σ:Sg} {st:St} {n:Nat} {cvs:List Value},SW C w Y σ ps vs st n->jo w Y σ cs cvs ->
  ∃ Y' σ',SW C w Y' σ' ps vs (Q3 (kK.lM P T') own cs st n).2.1 (Q3 (kK.lM P T') own cs st n).2.2/\jo w Y' σ' (Q3 (kK.lM P T') own cs st n).1 cvs/\Keep w w Y Y' σ σ'
 | z::zs,v::cs,Y,σ,st,n,cvs,H,hv=>by
  unfold jo at hv;obtain⟨c,T,rfl,h1,h2⟩:=hv;obtain⟨g,I,H1,h1,k1⟩:=VH (P:=P) (T':=T') z v H h1;obtain⟨U,R,J,h2,k2⟩:=Td zs cs H1 (jo.keep cs k1 _ h2);exact⟨U,R,J,by show jo w U R (_::_) _;unfold jo;exact⟨_,_,rfl,Rep.keep _ k2 _ h1,h2⟩,k1.adS k2⟩
 | [],cs,Y,σ,st,n,cvs,H,hv=>by unfold Q3;exact⟨_,σ,H,hv,Keep.same (qI.refl _)⟩
 | z::zs,[],Y,σ,st,n,cvs,H,hv=>by unfold Q3;exact⟨_,σ,H,hv,Keep.same (qI.refl _)⟩
theorem VI (own:List (List (Nat×Bool)))(v:PV){Y:Nat->Prop}{σ:Sg}{st:St}{n:Nat}{cv:Value}(H:SW C w Y σ ps vs st n)(hv:Rep w Y σ v cv) :
  ∃ Y' σ' R,SW C w Y' σ' ps vs (Zm (kK.lM P T') own v st n).2.1 R/\Rep w Y' σ' (Zm (kK.lM P T') own v st n).1 cv:=by
 unfold Zm
 split
 rename_i cs;unfold Rep at hv;obtain⟨J,e,h⟩:=hv;obtain⟨T,U,H1,h1,_⟩:=Td (P:=P) (T':=T') own cs H h;exact⟨T,U,_,H1,by show Rep w T U (.IX _) _;unfold Rep;exact⟨_,e,h1⟩⟩
 split
 obtain⟨T,U,H1,h1,_⟩:=VH (P:=P) (T':=T') _ _ H hv;exact⟨T,U,_,H1,h1⟩
 exact⟨Y,σ,_,H,hv⟩
end
end Go.Pv
namespace Go.Pv
open Go
def aga (tmps:Array Value):ResultVar->Sem Value
 | .tmp t=>pure (tmps.getD t Go.undef)
 | .cell a t=>do loadVar t (<- asAddr (tmps.getD a Go.undef))
theorem XF (fn:Func)(tmps:Array Value):results fn tmps=(do let vs <- fn.results.mapM (aga tmps);pure (if h:vs.size=1 then vs[0] else .tuple vs)):=by
 unfold results
 congr 1
theorem VJ {P:Program}{T:Tab}(hT:lW P T){C:Ctx T}{w:World}{Y:Nat->Prop}{σ:Sg}{E:Env}{tmps:Array Value}(H:SW C w Y σ E.tmps tmps.toList E.st E.next) :
  ∀ (rs:List ResultVar) (vs:List PV),Jc T E rs=some vs ->
   ∃ cvs:List Value,(rs.mapM (aga tmps)).run P w=.ok cvs w/\jo w Y σ vs cvs
 | [],vs,h=>by simp[Jc] at h;subst h;exact⟨[],by simp,by simp[jo]⟩
 | r::rs,vs,h=>by
  unfold Jc at h
  split at h
  cases h
  rename_i v hv
  split at h
  cases h
  rename_i vs' hvs;cases h;obtain⟨cvs,g,hr⟩:=VJ hT H rs vs' hvs;have gd:∀ t,tmps.getD t Go.undef=tmps.toList.getD t Go.undef:=by intro t;simp[Array.getD_eq_getD_getElem?,List.getD_eq_getElem?_getD]
  have one:∃ cv,(aga tmps r).run P w=.ok cv w/\Rep w Y σ v cv:=by
   cases r with
   | tmp t =>
    simp[abM] at hv;subst hv;exact⟨tmps.getD t Go.undef,by simp[aga],by rw[gd];exact H.vals.get _ _ t⟩
   | cell c t =>
    simp only[abM] at hv
    split at hv
    rename_i b off agg size z plain kind e1 e2;obtain⟨U,hsize,hagg,I⟩:=Xe hT e2;have hc:=H.vals.get _ _ c;rw[e1] at hc;unfold Rep at hc;obtain⟨l,hl,ec⟩:=hc
    split at hv
    rename_i ro row hb;have hB:=jH.Hq H (λ_ _ h=>h) hb hl;unfold jH at hB
    have hld:loadRow agg size row off (λu=>u=v):=by
     unfold loadRow
     cases agg with
     | true =>
      simp only[cond_true] at hv |-
      cases hh:Nat.ble (off+size) (pX row) with
      | true=>rw[hh] at hv;simp only[cond_true] at hv |-;exact Option.some.inj hv
      | false=>rw[hh] at hv;cases hv
     | false =>
      simp only[cond_false] at hv |-
      cases hh:Nat.blt off (pX row) with
      | true=>rw[hh] at hv;simp only[cond_true] at hv |-;exact Option.some.inj hv
      | false=>rw[hh] at hv;cases hv
    obtain⟨u,cv,rfl,R,hrep⟩:=VB U hsize hagg I hB.2.2.2.1 hld;refine⟨cv,?_,hrep⟩;simp only[aga];rw[gd,ec];simp only[asAddr,Sem.run_bind,Sem.run_pure,Result.andThen];exact R
    cases hv
    cases hv
  obtain⟨cv,J,hr1⟩:=one;refine⟨cv::cvs,?_,by unfold jo;exact⟨cv,cvs,rfl,hr1,hr⟩⟩;rw[List.mapM_cons];simp only[Sem.run_bind,J,Result.andThen,g,Sem.run_pure]
theorem Qv {P:Program}{T:Tab}(hT:lW P T){C:Ctx T}{w:World}{Y:Nat->Prop}{σ:Sg}{E:Env}{tmps:Array Value}{fn:Func}(H:SW C w Y σ E.tmps tmps.toList E.st E.next){vs:List PV}(h:Jc T E fn.results.toList=some vs) :
  ∃ cv,(results fn tmps).run P w=.ok cv w/\Rep w Y σ (Dq vs) cv:=by
 obtain⟨cvs,R,hrep⟩:=VJ hT H _ _ h;have J:=hrep.length
 have U:(results fn tmps).run P w=.ok (if h:cvs.toArray.size=1 then cvs.toArray[0] else .tuple cvs.toArray) w:=by
  rw[XF,Array.mapM_eq_mapM_toList];simp only[Sem.run_bind,map_eq_pure_bind,R,Result.andThen,Sem.run_pure]
 by_cases h1:cvs.length=1
 rw[h1] at J
 match vs,J,hrep with
 | [x],_,hrep =>
  obtain⟨cv,rfl,g⟩:=Qn hrep;exact⟨cv,by rw[U];simp,g⟩
 have I:¬ cvs.toArray.size=1:=by simpa using h1
 refine⟨.tuple cvs.toArray,by rw[U,dif_neg I],?_⟩
 have:Dq vs=.IX vs:=by
  match vs,J with
  | [],_=>rfl
  | [x],J=>exact absurd J h1
  | _::_::_,_=>rfl
 rw[this];unfold Rep;exact⟨cvs,rfl,hrep⟩
theorem Rl:∀ (st:St),tY st=true->∀ b sz rows,kR st b≠some (.pU sz rows)
 | [],_,b,sz,rows,h=>by simp[kR] at h
 | (c,x)::st,h,b,sz,rows,hb=>by
  have h1:tY st=true/\∀ sz rows,x≠some (.pU sz rows):=by
   cases x with
   | none=>exact⟨by simpa [tY] using h,by simp⟩
   | some y=>cases y<;>simp_all[tY]
  simp only[kR] at hb
  cases U:Nat.beq c b with
  | true=>rw[U] at hb;exact h1.2 _ _ hb
  | false=>rw[U] at hb;exact Rl st h1.1 b sz rows hb
theorem Hy {w:World}{Y:Nat->Prop}{σ:Sg}:∀ n,jo w Y σ (vN n) (List.replicate n Go.undef)
 | 0=>by simp[vN,jo]
 | n+1=>by simp only[vN,List.replicate_succ];unfold jo;exact⟨_,_,rfl,by simp[Rep],Hy n⟩
theorem adT {P:Program}{T:Tab}(hT:lW P T)(hp:T.vY=0)(hW:I4 P){k:Nat}{fn:Func}{c:Code}(O:P.funcs[k]?=some fn)(hb:fn.body=some c)
  (I:∀ args w,(callFunc k args).run P w=.ok (.enter k args) w) {args:List PV} {R:PV->Prop} {m:Nat} (hm:fn.ntmps-args.length=m)
  (h:∀ S,S=kK.lM P T->pwp T S c (alO T S fn.results.toList R) ⟨Dp args (vN m),[],0⟩):Fn P T.gl k args R:=by
 intro w Y U hG hY J;refine⟨I _ _,?_⟩
 let C:Ctx T:=⟨w,Y,λ_=>False,λ_=>False,kX⟩;have hlen:=J.length
 have H0:SW C w Y kX (Dp args (vN m)) ((U.toArray++Array.replicate (fn.ntmps-U.toArray.size) Go.undef).toList) [] 0:=by
  refine⟨?_,⟨λb x h=>by simp[kR] at h,λb b' x x' l l' h=>by simp[kR] at h⟩,λ_ _=>rfl,hY,λ_ h=>h,λk h=>⟨hY k h,λh=>h⟩,λk h _=>.inl h,QM.refl _ w,λb x l h=>by simp[kR] at h,hG,⟨by omega,λ_ _=>rfl⟩,C9.none (λb sz rows h=>by simp[kR] at h)⟩;have:(U.toArray++Array.replicate (fn.ntmps-U.toArray.size) Go.undef).toList=U++List.replicate m Go.undef:=by simp[hlen,hm]
  rw[this];exact jo.app _ _ _ _ J (Hy m)
 have hwp:=Dv hT hW c _ _ (h _ rfl) C { tmps:=U.toArray++Array.replicate (fn.ntmps-U.toArray.size) Go.undef,defers:=[] } w ⟨⟨Y,kX,H0⟩,rfl⟩;refine calls_of_wp O hb (wp_mono hwp ?_)
 have key:∀ (a:Act) (w' : World),(∃ E,nX C E a w'/\ajM T (kK.lM P T) fn.results.toList E R)->a.defers=[]/\∃ v,(results fn a.tmps).run P w'=.ok v w'/\∃ cv u,Ending.returned v=.returned cv/\R u/\Rep w' Y kX u cv/\Chg w w':=by
  rintro a w' ⟨E,⟨⟨Y',σ',H⟩,hd⟩,hr⟩
  refine⟨hd,?_⟩;unfold ajM at hr
  split at hr
  rename_i vs hv
  split at hr
  rename_i u hu;obtain⟨cv,hrun,hrep⟩:=Qv hT H hv
  exact⟨cv,hrun,cv,u,rfl,hr,Qp H.store (λ_ _ h=>h) H.y0 (λb x l hx hl=>H.away hx hl) (λb sz rows hb r row c h sz' es h1 h2 h3=>by
   have hO:pY E.st b r c h sz' es:=⟨sz,rows,row,hb,h1,h2,h3⟩;have hN:=H.nest.rep _ _ _ _ _ _ hO;refine⟨⟨hN.lt,λhy=>?_⟩,hN.rows⟩;have:=H.c0 _ hy;rcases H.nest.old _ _ _ _ _ _ hO with g|g
   omega
   exact this.2 g) _ _ _ _ hu hrep,H.qh.qh λ_ h=>h⟩
  exact hr.elim
  exact hr.elim
 intro e a w' hq
 cases e with
 | normal=>exact key a w' hq
 | ret=>exact key a w' hq
 | exit n=>obtain⟨E,_,hq⟩:=hq;exact hq.elim
 | _=>exact hq.elim
theorem ack {P:Program}{T:Tab}(hT:lW P T)(hW:I4 P){k:Nat}{fn:Func}{c:Code}(O:P.funcs[k]?=some fn)(hb:fn.body=some c)
  (hcall:∀ args w,(callFunc k args).run P w=.ok (.enter k args) w) {args:List PV} {st:St} {R:PV->St->Nat->Prop} {m:Nat} (hm:fn.ntmps-args.length=m)
  (h:∀ S,S=kK.lM P T->pwp T S c (alp T S fn.results.toList R) ⟨Dp args (vN m),st,T.vY⟩):FW P T.gl k args st T.vY R:=by
 intro w Y σ U hG hY hn I hst hnn;refine⟨hcall _ _,?_⟩;have hlen:=I.length
 let C:Ctx T:=JI T w Y σ st
 have H0:SW C w Y σ (Dp args (vN m)) ((U.toArray++Array.replicate (fn.ntmps-U.toArray.size) Go.undef).toList) st T.vY:=by
  refine⟨?_,hst,hn,hY,λ_ h=>h.1,λk h=>⟨hY k h.1,h.2⟩,λk h _=>?_,QM.refl _ w,λb x l h1 h2=>.inr ⟨b,x,l,h1,h2,rfl⟩,hG,⟨Nat.le_refl _,λ_ _=>rfl⟩,C9.none (Rl st hnn)⟩
  have:(U.toArray++Array.replicate (fn.ntmps-U.toArray.size) Go.undef).toList=U++List.replicate m Go.undef:=by simp[hlen,hm]
  rw[this];exact jo.app _ _ _ _ I (Hy m)
  by_cases hi:F6 σ st k
  exact .inr ⟨h,hi⟩
  exact .inl ⟨h,hi⟩
 have hwp:=Dv hT hW c _ _ (h _ rfl) C { tmps:=U.toArray++Array.replicate (fn.ntmps-U.toArray.size) Go.undef,defers:=[] } w ⟨⟨Y,σ,H0⟩,rfl⟩;refine calls_of_wp O hb (wp_mono hwp ?_)
 have key:∀ (a:Act) (w' : World),(∃ E,nX C E a w'/\Vw T (kK.lM P T) fn.results.toList E R)->a.defers=[]/\∃ v,(results fn a.tmps).run P w'=.ok v w' /\
   ∃ cv u st' n' Y' σ',Ending.returned v=.returned cv/\R u st' n'/\SW (JI ⟨λ_=>.bad,T.gl,T.vY,[],0,[],[]⟩ w Y σ st) w' Y' σ' [u] [cv] st' n':=by
  rintro a w' ⟨E,⟨⟨Y',σ',H⟩,hd⟩,hr⟩
  refine⟨hd,?_⟩;unfold Vw at hr
  split at hr
  rename_i vs hv;obtain⟨cv,hrun,hrep⟩:=Qv hT H hv;have H1:SW C w' Y' σ' [Dq vs] [cv] E.st E.next:=H.uS dD
  obtain⟨Y1,σ1,n',H2,g⟩:=VI (P:=P) (T':=T) T.own (Dq vs) H1 hrep;have H3:=H2.uS (show jo w' Y1 σ1 [(Zm (kK.lM P T) T.own (Dq vs) E.st E.next).1] [cv] by unfold jo;exact⟨_,_,rfl,g,by unfold jo;rfl⟩)
  split at hr
  rename_i v st2 n2 he;rw[he] at H3;obtain⟨h1,h2,h3⟩:=SV T.vY st2 [v];obtain⟨σ2,J,_⟩:=H3.WQ h1 h2 h3;refine⟨cv,hrun,cv,_,_,_,Y1,σ2,rfl,hr,⟨?_,J.store,J.next,J.yK,J.y0,J.c0,J.xI,J.qh,J.own,J.zi,J.fix,J.nest⟩⟩
  simpa only[IY] using J.vals
  exact hr.elim
 intro e a w' hq
 cases e with
 | normal=>exact key a w' hq
 | ret=>exact key a w' hq
 | exit n=>obtain⟨E,_,hq⟩:=hq;exact hq.elim
 | _=>exact hq.elim
end Go.Pv
namespace Go.Pv
open Go
def lkT:List (Nat×TI)->Nat->TI
 | [],_=>.bad
 | (k,i)::l,t=>bif Nat.beq k t then i else lkT l t
def afh (P:Program):List (Nat×TI)->List TI
 | []=>[]
 | (k,_)::l=>(bif Nat.blt k P.types.size then ag6 P k else .bad)::afh P l
def aaM:List (Nat×TI)->List TI
 | []=>[]
 | (_,i)::l=>i::aaM l
def ahR (l:List (Nat×TI))(gl:Nat->Option (List PV))(vY:Nat)(cut:List Nat)(pU:Nat)(own:List (List (Nat×Bool)))(dcl:List (Nat×Nat)):Tab:=⟨lkT l,gl,vY,cut,pU,own,dcl⟩
theorem XG {P:Program}{gl:Nat->Option (List PV)}{vY:Nat}{cut:List Nat}{pU:Nat}{own:List (List (Nat×Bool))}{dcl:List (Nat×Nat)}:∀ (l:List (Nat×TI)),afh P l=aaM l->lW P (ahR l gl vY cut pU own dcl)
 | [],_=>λt h=>by simp[ahR,lkT,TI.bad] at h
 | (k,i)::l,h=>λt hk=>by
  have U:=XG (P:=P) (gl:=gl) (vY:=vY) (cut:=cut) (pU:=pU) (own:=own) (dcl:=dcl) l;simp only[ahR] at hk U |-;simp only[afh,aaM,List.cons.injEq] at h;simp only[lkT] at hk |-
  cases e:Nat.beq k t with
  | true =>
   rw[e] at hk;simp only[cond_true] at hk |-;have e:=Nat.eq_of_beq_eq_true e;subst e
   cases hb:Nat.blt k P.types.size with
   | true=>rw[hb] at h;rw[Nat.blt_eq] at hb;exact⟨h.1.symm,hb⟩
   | false=>rw[hb] at h;rw[<- h.1] at hk;simp[TI.bad] at hk
  | false =>
   rw[e] at hk;simp only[cond_false] at hk |-;exact U h.2 t hk
def ZL (P:Program)(t:TypeId):Bool :=
 match P.underlying t with
 | none=>false
 | some (.struct fs)=>fs.toList.all λf=>(P.info? f.type).isSome
 | some (.array _ e)=>(P.info? e).isSome
 | some _=>true
def akn (P:Program):Nat->Bool
 | 0=>true
 | n+1=>ZL P n&&akn P n
theorem ZM {P:Program}:∀ n,akn P n=true->∀ t,t<n->ZL P t=true
 | 0,_,t,h=>by omega
 | n+1,h,t,ht=>by
  simp only[akn,Bool.and_eq_true] at h
  by_cases e:t=n
  rw[e];exact h.1
  exact ZM n h.2 t ai
theorem adU {info:TypeId->Option TypeInfo}{d:TypeDesc}{i:TypeInfo}(h:Made.reckon info d=some i):∀ n u,i.desc≠.named n u:=by
 intro n u U;cases d<;>simp only[Made.reckon,Option.bind_eq_bind,Option.pure_def] at h
 case pointer e =>
  obtain⟨j,_,h⟩:=Option.bind_eq_some_iff.1 h
  split at h
  cases h
  split at h
  cases h
  obtain⟨s,_,h⟩:=Option.bind_eq_some_iff.1 h;cases h;cases U
  obtain⟨s,_,h⟩:=Option.bind_eq_some_iff.1 h;cases h;cases U
 case struct fs =>
  unfold Made.reckonStruct at h;simp only[Option.bind_eq_bind,Option.pure_def] at h;obtain⟨x,_,h⟩:=Option.bind_eq_some_iff.1 h
  split at h<;>(cases h;cases U)
 all_goals first
  | (cases h;done)
  | (obtain⟨s,_,h⟩:=Option.bind_eq_some_iff.1 h;cases h;cases U;done)
  | (
   obtain⟨s,_,h⟩:=Option.bind_eq_some_iff.1 h;obtain⟨s,_,h⟩:=Option.bind_eq_some_iff.1 h;cases h;cases U;done)
  | (
   obtain⟨s,_,h⟩:=Option.bind_eq_some_iff.1 h;obtain⟨s,_,h⟩:=Option.bind_eq_some_iff.1 h;obtain⟨s,_,h⟩:=Option.bind_eq_some_iff.1 h;obtain⟨s,_,h⟩:=Option.bind_eq_some_iff.1 h;cases h;cases U;done)
theorem an9 {P:Program}(h:akn P P.types.size=true)(I:P.follows .mixedOrders=true):I4 P:=by
 have key:∀ t,t<P.types.size->ZL P t=true:=ZM _ h;refine⟨?_,?_,?_,I⟩
 intro t ht
 by_cases U:t<P.types.size
 have:=key t U;unfold ZL at this
 cases hu:P.underlying t with
 | none=>rw[hu] at this;cases this
 | some d=>exact⟨d,rfl⟩
 cases hi:P.info? t with
 | none=>exact absurd hi ht
 | some i =>
  have T:=hi;unfold Tables.info? at T;rw[if_neg U,show Made.depth=99+1 from rfl,Made.infoAt,if_neg U] at T;obtain⟨d,_,J⟩:=Option.bind_eq_some_iff.1 T;have R:=adU J;refine⟨i.desc,?_⟩;unfold Program.underlying;rw[hi]
  split
  rename_i n u e;cases e;exact absurd rfl (R _ _)
  rename_i e;cases e;rfl
  rename_i e;cases e
 intro t C U hu f O;have:=key t U;unfold ZL at this;rw[hu] at this;have:=List.all_eq_true.1 this f O;intro e;rw[e] at this;cases this
 intro t k e U hu;have:=key t U;unfold ZL at this;rw[hu] at this;simp only at this;intro e;rw[e] at this;cases this
section
variable {P:Program}{T:Tab}{S:kK}(hS:S=kK.lM P T)
include hS
theorem aoa {b:Bool}{t f:Unit->Prop}(hb:b=true)(h:t ()):S.br b t f:=by subst hS;exact⟨λ_=>h,λe=>(by rw[hb] at e;cases e)⟩
theorem aob {b:Bool}{t f:Unit->Prop}(hb:b=false)(h:f ()):S.br b t f:=by subst hS;exact⟨λe=>(by rw[hb] at e;cases e),λ_=>h⟩
theorem ako {k:Nat}{args:List PV}{K:PV->Prop}{v:PV}(hF:Fn P T.gl k args (λu=>u=v))(h:K v):S.abE k args K:=by subst hS;exact⟨v,hF,h⟩
theorem akp {k:Nat}{args:List PV}{K:PV->Prop}{v:PV}(hF:Fn P T.gl k args (λu=>u=v))(O:Ky 6 v=true)(h:K v):S.aeQ k args K:=by subst hS;exact⟨v,hF,O,h⟩
theorem akq {k:Nat}{args bs as:List PV}{E:Env}{free:Option (List PV)}{ρ:List Nat}{st0:St}{K:PV->Env->Prop}{v:PV}(hF:Fn P T.gl k bs (λu=>u=v))(O:Ky 6 v=true)(h:K v E):S.call k args E (some bs) free ρ as st0 K:=by
 subst hS;exact .inl ⟨bs,v,rfl,hF,O,h⟩
theorem akr {k:Nat}{args as:List PV}{E:Env}{U free:Option (List PV)}{ρ:List Nat}{st0:St}{m:Nat}{K:PV->Env->Prop}{v:PV}{st1:St}{n1:Nat}(hF:FW P T.gl k as st0 m (λu s n=>u=v/\s=st1/\n=n1))(R:m=oN ρ)(h1:aao ρ=true)(h2:ltN E.next ρ=true)(h0:tY st0=true)
  (h:K (ER (Hm ρ E.next) 8 v) (VY ρ E st1 n1)):S.call k args E U free ρ as st0 K:=by
 subst hS;subst R;exact .inr (.inr (.inl ⟨v,st1,n1,h1,h2,h0,hF,h⟩))
theorem amg {n bytes:Nat}{p:Prop}(h1:(2*n+192)*bytes<=140737488355328)(h2:n<=4611686018427387904)(h:p):S.room n bytes p:=by subst hS;exact⟨h1,h2,h⟩
theorem l_nu {K:Hdr->Prop}(h:∀ x,K x):S.nu K:=by subst hS;exact h
theorem amh {x y:Hdr}{p:Prop}(e:x=y)(h:p):S.same x y p:=by subst hS;exact⟨e,h⟩
theorem aks {l:Array Oper}{p:Prop}(U:Ho T l=true)(h:p):S.order l p:=by subst hS;exact⟨U,h⟩
theorem ami {l:Array Oper}{p:Prop}(U:QZ l=true)(h:p):S.last l p:=by subst hS;exact⟨U,h⟩
theorem amj {l:Array Oper}{tr:List (List Nat×List Nat×List Nat)}{p:Prop}(U:(FD l l.toList 0&&adB (V3 l.toList []) tr 0)=true)(h:p):S.ajK l tr p:=by subst hS;exact⟨U,h⟩
theorem aoc {U:List (List PV)}{i:Int}{K:List PV->Prop}{j:Nat}{row:List PV}(hi:i=(j:Int))(hr:U[j]?=some row)(h:K row):S.idx U i K:=by subst hS;exact⟨j,row,hi,hr,h⟩
theorem aod {n:Nat}{i:Int}{K:Nat->Prop}{j:Nat}(hi:i=(j:Int))(hr:j<n)(h:K j):S.ix n i K:=by subst hS;exact⟨j,hi,hr,h⟩
theorem alx {rows:List (List PV)}{j:Nat}{K:List PV->Prop}{row:List PV}(hr:rows[j]?=some row)(h:K row):S.row rows j K:=by subst hS;exact⟨row,hr,h⟩
theorem nJ {A:Post->Prop}{B:Env->Prop}{Q:Post}(h:A (Uy B Q)):S.seq A B Q:=by subst hS;exact⟨_,h,λn E h=>⟨E,Ent.refl E,h⟩⟩
end
end Go.Pv
