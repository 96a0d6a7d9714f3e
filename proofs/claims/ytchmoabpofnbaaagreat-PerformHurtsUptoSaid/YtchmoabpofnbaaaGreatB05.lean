import Derived.Scope
import Derived.Test.YtchmoabpofnbaaaGreatB04
set_option linter.all false
namespace Go.Pv
open Go
section
variable {P:Program}{T:Tab}
structure Facts (P:Program)(T:Tab)(all:Array Oper)(rs:List Rec)(st:St)(nx nxf:Nat):Prop where
 len:rs.length=all.size
 old:∀ b,jr st b≠none->b<nx
 ids:∀ (i:Nat) (r:Rec),rs[i]?=some r->r.big=true->r.id=Bh rs nx i/\nx<=r.id/\r.id+32<=nxf
 small:∀ (i:Nat) (r:Rec),rs[i]?=some r->r.big=false->r.δ=[]
 cls:∀ (i:Nat) (o:Oper) (r:Rec),all[i]?=some o->rs[i]?=some r->r.big=true->(wH T o=1/\(∃ x,r.δ=[(r.id,some x)])/\r.lk=SK)\/(wH T o=2/\(∀ b,aaY r.δ b->b<r.id+32)/\r.lk=jr (zJ rs st i))
 looks:∀ (i:Nat) (o:Oper) (r:Rec),all[i]?=some o->rs[i]?=some r->r.wb=true->∀ b x,r.lk b=some x->jr (zJ rs st i) b=some x/\(wH T o=2\/wH T o=3) /\
  (wH T o=3->∀ (k:Nat) (rk:Rec) (ok:Oper),k<i->rs[k]?=some rk->all[k]?=some ok->rk.big=true->wH T ok=1->rk.id=b->∃ m om,k<m/\m<i/\all[m]?=some om/\wH T om=2)
theorem WC {rs:List Rec}{nx i k:Nat}{r U : Rec}(T:i<k)(hr:rs[i]?=some r)(hb:r.big=true)(h:r.id=Bh rs nx i)(J : U.id=Bh rs nx k):r.id+32<=U.id:=by
 have h1:=KW rs nx i r hr;rw[hb] at h1;have h2:=Qi (rs:=rs) (n:=nx) (show i+1<=k by omega);rw[h1] at h2;simp only[bump] at h2;omega
theorem TN {P:Program}{T:Tab}{all:Array Oper}:∀ (l:List Oper) (rs:List Rec) {p:List PV} {st:St} {nx:Nat} {pend:List Nat} {f:List PV} {U:St} {I:Nat},ChD P T all l rs p st nx pend f U I->(∀ b,jr st b≠none->b<nx)->∀ i b,jr (zJ rs st i) b≠none->b<Bh rs nx i
 | l,rs,_,_,_,_,_,_,_,_,h0,0,b,hb=>by simp only[zJ,Bh] at hb |-;exact h0 b hb
 | [],[],_,_,_,_,_,_,_,_,h0,i+1,b,hb=>h0 b hb
 | o::l,r::rs,_,st,nx,_,_,_,_,h,h0,i+1,b,hb=>by
  simp only[zJ,Bh] at hb |-;refine TN l rs h.2 (λc hc=>?_) i b hb;rw[xN] at hc;rcases h.1.cls with ⟨h1,h2,_⟩|⟨_,h1,h2,_,⟨x,J⟩,_⟩|⟨_,h1,h2,_,J,_⟩
  rw[h2] at hc;rw[h1];exact h0 c hc
  rw[h1];rw[J] at hc;simp only[kM,bump] at hc |-
  by_cases hn:nx=c
  omega
  rw[if_neg hn] at hc;have:=h0 c hc;omega
  rw[h1];simp only[bump]
  by_cases hl:kM r.δ c=none
  rw[hl] at hc;have:=h0 c hc;omega
  exact J c (Np _ _ hl)
 | [],_::_,_,_,_,_,_,_,_,h,_,_,_,_=>h.elim
 | _::_,[],_,_,_,_,_,_,_,h,_,_,_,_=>h.elim
theorem Vm {P:Program}{T:Tab}{all:Array Oper}:∀ (l:List Oper) (rs:List Rec) {p:List PV} {st:St} {nx:Nat} {pend:List Nat} {f:List PV} {stf:St} {nxf:Nat},ChD P T all l rs p st nx pend f stf nxf ->
  ∀ i,(∀ k C ok,k<i->rs[k]?=some C->l[k]?=some ok->C.big=true->wH T ok=1->C.id∈Nk T l rs pend i\/∃ m U,k<m/\m<i/\l[m]?=some U/\wH T U=2) /\
   (∀ b,b∈pend->b∈Nk T l rs pend i\/∃ m U,m<i/\l[m]?=some U/\wH T U=2)
 | l,rs,_,_,_,_,_,_,_,_,0=>by simp only[Nk];exact⟨λk C ok h=>by omega,λb hb=>.inl hb⟩
 | [],[],_,_,_,_,_,_,_,_,i+1=>⟨λk C ok _ h=>by simp at h,λb hb=>.inl hb⟩
 | o::l,r::rs,_,_,_,pend,_,_,_,h,i+1=>by
  obtain⟨h1,h2⟩:=Vm l rs h.2 i;simp only[Nk]
  have lift:(∃ m U,m<i/\l[m]?=some U/\wH T U=2)->∃ m U,0<m/\m<i+1/\(o::l)[m]?=some U/\wH T U=2:=by
   rintro⟨m,U,J,I,h5⟩
   exact⟨m+1,U,by omega,by omega,by simpa using I,h5⟩
  have two:wH T o=2->∃ m U,m<i+1/\(o::l)[m]?=some U/\wH T U=2:=λh=>⟨0,o,by omega,rfl,h⟩
  refine⟨λk C ok hk hr ho hb hc=>?_,λb hb=>?_⟩
  cases k with
  | zero =>
   simp at hr ho;subst hr;subst ho
   have hm:r.id∈Oj T o r pend:=by
    unfold Oj;rw[hb];simp[hc]
   rcases h2 r.id hm with J|J
   exact .inl J
   exact .inr (lift J)
  | succ k =>
   rcases h1 k C ok ah dn (by simpa using ho) hb hc with J|⟨m,U,J,I,h5,g⟩
   exact .inl J
   exact .inr ⟨m+1,U,by omega,by omega,by simpa using h5,g⟩
  by_cases hp:b∈Oj T o r pend
  rcases h2 b hp with J|J
  exact .inl J
  obtain⟨m,U,_,I,h5,g⟩:=lift J;exact .inr ⟨m,U,I,h5,g⟩
  refine .inr (two ?_);rcases h.1.cls with ⟨J,_⟩|⟨_,J,_,I,_⟩|⟨_,J,_,I,_⟩
  exfalso;apply hp;unfold Oj;rw[J];exact hb
  exfalso;apply hp;unfold Oj;rw[J];simp[I,hb]
  exact I
 | [],_::_,_,_,_,_,_,_,_,h,_=>h.elim
 | _::_,[],_,_,_,_,_,_,_,h,_=>h.elim
theorem adm {all:Array Oper}{rs:List Rec}{p:List PV}{st:St}{nx:Nat}{f:List PV}{stf:St}{g:Nat}(h:ChD P T all all.toList rs p st nx [] f stf g)(h0:∀ b,jr st b≠none->b<nx):Facts P T all rs st nx g:=by
 have hl:=(ChD.len _ _ h).1;have hnf:=(ChD.fin _ _ h).2
 have get:∀ i r,rs[i]?=some r->∃ o q,all[i]?=some o/\ZK P T all o r q (zJ rs st i) (Bh rs nx i) (Nk T all.toList rs [] i):=by
  intro i r hr
  have hlt:i<rs.length:=by
   by_cases hh:i<rs.length
   exact hh
   rw[List.getElem?_eq_none (Nat.le_of_not_lt hh)] at hr;cases hr
  have J : i<all.toList.length:=by omega
  obtain⟨r',q,a0,_,a2,_⟩:=ChD.get _ _ h i _ (List.getElem?_eq_getElem J);rw[hr] at a0;cases a0;exact⟨_,q,by rw[<- Array.getElem?_toList];exact List.getElem?_eq_getElem J,a2⟩
 refine⟨by simpa using hl,h0,λi r hr hb=>?_,λi r hr hb=>?_,λi o r ho hr hb=>?_,λi o r ho hr hw b x hb=>?_⟩
 obtain⟨o,q,_,hs⟩:=get i r hr
 have hid:r.id=Bh rs nx i:=by
  rcases hs.cls with ⟨h1,_⟩|⟨_,_,h1,_⟩|⟨_,_,h1,_⟩
  rw[hb] at h1;cases h1
  exact h1
  exact h1
 refine⟨hid,by rw[hid];exact Nl _ _ _,?_⟩
 have hlt:i<rs.length:=by
  by_cases hh:i<rs.length
  exact hh
  rw[List.getElem?_eq_none (Nat.le_of_not_lt hh)] at hr;cases hr
 have h2:=Qi (rs:=rs) (n:=nx) (show i+1<=rs.length by omega);rw[KW _ _ _ _ hr,hb,<- hnf] at h2;simp only[bump] at h2;omega
 obtain⟨o,q,_,hs⟩:=get i r hr;rcases hs.cls with ⟨_,h1,_⟩|⟨_,h1,_⟩|⟨_,h1,_⟩
 exact h1
 rw[hb] at h1;cases h1
 rw[hb] at h1;cases h1
 obtain⟨o',q,U,hs⟩:=get i r hr;rw[ho] at U;cases U;rcases hs.cls with ⟨h1,_⟩|⟨_,_,h1,h2,⟨x,C⟩,I⟩|⟨_,_,h1,h2,C,I⟩
 rw[hb] at h1;cases h1
 exact .inl ⟨h2,⟨x,by rw[C,h1]⟩,I⟩
 exact .inr ⟨h2,by rw[h1];exact C,I⟩
 obtain⟨o',q,U,hs⟩:=get i r hr;rw[ho] at U;cases U;rcases hs.cls with ⟨_,_,C⟩|⟨_,_,_,_,_,I⟩|⟨_,_,_,h2,_,I⟩
 obtain⟨c1,c2,c3⟩:=C hw b x hb;refine⟨c3,.inr c1,λ_ k rk ok hk hrk hok hbk hck hid=>?_⟩;rcases (Vm _ _ h i).1 k rk ok hk hrk (by simpa using hok) hbk hck with h5|⟨m,om,h5,h6,h7,h8⟩
 rw[hid] at h5;exact absurd h5 c2
 exact⟨m,om,h5,h6,by simpa using h7,h8⟩
 rw[I] at hb;cases hb
 rw[I] at hb;exact⟨hb,.inl h2,λh=>by rw[h2] at h;cases h⟩
theorem Vo:∀ l:List Oper,SY l=l.length
 | []=>rfl
 | _::l=>by simp[SY,Vo l]
theorem TP {l:List Nat}:∀ n,allIn l n=true->∀ k,k<n->k∈l
 | 0,_,k,h=>by omega
 | n+1,h,k,hk=>by
  simp only[allIn,Bool.and_eq_true] at h;rcases Nat.lt_or_ge k n with h'|h'
  exact TP n h.2 k h'
  rw[show k=n by omega];exact (Ic _ _).1 h.1
theorem Yy {all:Array Oper}(h:MP all=true){i k:Nat}(hi:i+1=all.size)(hk:k<i):Bef all k i:=by
 unfold MP at h
 split at h
 cases h
 rename_i o l e
 have hl:l.length=i:=by
  have:all.toList.length=i+1:=by simpa using hi.symm
  rw[e] at this;simpa using this
 rw[Vo,hl] at h;exact IV all.toList [] (λk o h=>by simpa using h) (λi b hb=>by simp[Bj] at hb) i k (TP _ h _ hk)
theorem ZL.get {all:Array Oper}{K:Env->Prop}:∀ (l:List Oper) (rs:List Rec) {st:St} {f:List PV} {I:St} {U:Nat},ZL P T all K l rs st f I U->(∀ (i:Nat) (r:Rec),rs[i]?=some r->r.nd=false)/\K ⟨f,I,U⟩ \/
  ∃ (i:Nat) (o:Oper) (r:Rec),i+1=l.length/\i+1=rs.length/\l[i]?=some o/\rs[i]?=some r/\r.nd=true/\(∀ (k:Nat) (J : Rec),k≠i->rs[k]?=some J->J.nd=false)/\MP all=true/\U=r.id+32 /\
   oO T (jb.jJ P T) o.op r.er (jr (zJ rs st i)) r.id (λv δ=>bif ltD (r.id+32) δ then K ⟨zW r.er o.dst v,jL δ (zJ rs st i),r.id+32⟩ else False)
 | [],[],_,_,_,_,h=>.inl ⟨λi r h=>by simp at h,h⟩
 | [],r::rs,_,_,_,_,h=>h.elim
 | o::l,[],_,_,_,_,h=>h.elim
 | o::l,r::rs,st,f,I,U,h=>by
  cases hn:r.nd with
  | true =>
   obtain⟨rfl,rfl,h1,h2,g⟩:=h.1 hn;exact .inr ⟨0,o,r,rfl,rfl,rfl,rfl,hn,λk J hk hr=>by cases k with|zero=>exact absurd rfl hk|succ k=>simp at hr,h1,h2,g⟩
  | false =>
   rcases ZL.get l rs (h.2 hn) with ⟨h1,h2⟩|⟨i,o',J,a1,a2,a3,a4,a5,a6,C,a8,a9⟩
   exact .inl ⟨λi J hr=>by cases i with|zero=>simp at hr;rw[<- hr];exact hn|succ i=>exact h1 i J dn,h2⟩
   exact .inr ⟨i+1,o',J,by simp[a1],by simp[a2],by simpa using a3,by simpa using a4,a5,λk r2 hk hr=>by cases k with|zero=>simp at hr;rw[<- hr];exact hn|succ k=>exact a6 k r2 ah dn,C,a8,by simpa [zJ] using a9⟩
def aaZ {T:Tab}(C:Ctx T)(all:Array Oper)(rs:List Rec)(st:St)(n:Nat)(p f:List PV)(listed:Array Bool)(a:Act)(w:World):Prop :=
 DF C a/\∃ Y σ ps stx,SW C w Y σ ps a.tmps.toList stx n/\ps.length=p.length /\
  (∀ j o t,all[j]?=some o->o.dst=some t->listed.getD j true=true->Eqv (jD ps t) (jD f t)) /\
  (∀ t,(∀ j o,all[j]?=some o->o.dst=some t->listed.getD j true=false)->Eqv (jD ps t) (jD p t)) /\
  (∀ b,jr stx b=orS st b (lst rs (λk=>listed.getD k true) 0 b)) /\
  (∀ j r,rs[j]?=some r->listed.getD j true=false->r.big=true->∀ b,r.id<=b->b<r.id+32->σ b=none)
theorem ZN (hT:jv P T)(hW:Bg P){KE:Env->Prop}{C:Ctx T}{all:Array Oper}{rs:List Rec}{st:St}{nx n:Nat}{p f:List PV}{stf:St}(hchk:EN T all=true)(hch:ChD P T all all.toList rs p st nx [] f stf n)(hF:Facts P T all rs st nx n)(hpas:T.pG<=nx){listed:Array Bool}{a:Act}{w:World}
  (hsz:listed.size=all.size) (hclosed:∀ j o,all[j]?=some o->listed.getD j true=true->∀ e∈o.after,Region.binds .any e=true->listed.getD e.on true=true)
  (hkeys:∀ i b,jr (zJ rs st i) b≠none->b<Bh rs nx i)
  (hs:aaZ C all rs st n p f listed a w) {i:Nat} (hr:i∈Region.ready .any all listed) {Q:Exit->Act->World->Prop} {K:Act->World->Prop}
  (hND:∀ o r,all[i]?=some o->rs[i]?=some r->r.nd=true->i+1=all.size/\MP all=true/\n=r.id+32/\oO T (jb.jJ P T) o.op r.er (jr (zJ rs st i)) r.id (λv δ=>bif ltD (r.id+32) δ then KE ⟨zW r.er o.dst v,jL δ (zJ rs st i),r.id+32⟩ else False))
  (hEnd:∀ a' w' E,(∀ k,(listed.setIfInBounds i true).getD k true=true)->lI C E a' w'->KE E->K a' w')
  (hK:(∀ r,rs[i]?=some r->r.nd=false)->∀ a' w',aaZ C all rs st n p f (listed.setIfInBounds i true) a' w'->K a' w'):wpOp P all Q i K a w:=by
 obtain⟨hun,o,ho,hall⟩:=mem_ready.1 hr;obtain⟨hd,Y,σ,ps,stx,H,hlen,hdone,hrest,hst,hfree⟩:=hs;have hL:all.toList[i]?=some o:=by simpa using ho
 have hilt:i<listed.size:=by
  rcases Nat.lt_or_ge i listed.size with h|h
  exact h
  simp[Array.getElem?_eq_none h] at hun
 obtain⟨r,q,hri,qlen,hS,h6,h7,h8⟩:=hch.get _ _ i o hL;have hspec:=CU hchk ho;have ae9:=(hch.len _ _).2
 have hall' : ∀ e∈o.after,Region.binds .any e=true->listed.getD e.on true=true:=by
  intro e he hb;have:=hall e he hb;rcases Nat.lt_or_ge e.on listed.size with h|h
  simp[h] at this |-;exact this
  simp[Array.getElem?_eq_none h]
 have befIn:∀ k,Bef all k i->listed.getD k true=true:=λk h=>h.ready hclosed o ho hall'
 have befOut:∀ k,Bef all i k->listed.getD k true=false:=λk h=>by
  cases hk:listed.getD k true with
  | false=>rfl
  | true=>have:=h.listed hclosed hk;rw[hun] at this;cases this
 have look0:∀ t∈o.looksAt all,Eqv (jD ps t) (jD q t):=by
  intro t ht
  by_cases hex:∃ j pj,all[j]?=some pj/\j≠i/\pj.dst=some t
  obtain⟨j,pj,hj,hne,hdst⟩:=hex;obtain⟨hdd,hor⟩:=hspec.2 j pj hj hne t hdst
  have uniq:∀ k pk,all[k]?=some pk->pk.dst=some t->k=j:=by
   intro k pk hk g
   by_cases hkj:k=j
   exact hkj
   exact absurd g ((CU hchk hk).2 j pj hj (Ne.symm hkj) t hdst).1
  rcases hor ht with ⟨e,he,hb,heq⟩|⟨e,he,hb,heq⟩
  have hlj:listed.getD j true=true:=by
   have:=hall' e he hb
   rwa [heq] at this
  have hji:j<i:=by rw[<- heq];exact hspec.1 e he hb
  have O:=hdone j pj t hj hdst hlj
  have:=h7 t λk pk hk hpk g=>by
   have:=uniq k pk (by simpa using hpk) g;omega
  exact O.trans this.symm
  have hij:i<j:=by rw[<- heq];exact (CU hchk hj).1 e he hb
  have hju:listed.getD j true=false:=by
   cases hlj:listed.getD j true with
   | false=>rfl
   | true =>
    have:=hclosed j pj hj hlj e he hb;rw[heq,hun] at this;cases this
  have hp:=hrest t λk pk hk g=>by
   rw[uniq k pk hk g];exact hju
  have:=h6 t λk pk hk hpk g=>by
   have:=uniq k pk (by simpa using hpk) g;omega
  exact hp.trans this
  have hp:=hrest t λk pk hk g=>by
   by_cases U:k=i
   rw[U];exact hun
   exact absurd ⟨k,pk,hk,U,g⟩ hex
  have:=h6 t λk pk hk hpk g=>hex ⟨k,pk,by simpa using hpk,by omega,g⟩;exact hp.trans this
 have look:∀ t∈o.looksAt all,Eqv (jD ps t) (jD r.e1 t)/\Eqv (jD ps t) (jD r.er t):=λt ht=>⟨(look0 t ht).trans (hS.e1.2 t),(look0 t ht).trans (hS.er.2 t)⟩
 have big_of:∀ (k:Nat) (rk:Rec),rs[k]?=some rk->∀ b,kM rk.δ b≠none->rk.big=true:=by
  intro k rk J b hb
  cases hbig:rk.big with
  | true=>rfl
  | false=>rw[hF.small k rk J hbig] at hb;exact absurd rfl hb
 have oper:∀ (k:Nat) (rk:Rec),rs[k]?=some rk->∃ ok,all[k]?=some ok:=by
  intro k rk J
  have:k<all.size:=by
   rw[<- hF.len]
   by_cases hh:k<rs.length
   exact hh
   rw[List.getElem?_eq_none (Nat.le_of_not_lt hh)] at J;cases J
  exact⟨_,Array.getElem?_eq_getElem this⟩
 have hlk:r.wb=true->∀ b x,r.lk b=some x->jr stx b=some x:=by
  intro hw b x hb;obtain⟨c1,c2,c3⟩:=hF.looks i o r ho hri hw b x hb;rw[hst b,<- c1,KX rs st i 0 b]
  congr 1
  refine zl _ _ _ _ _ λk rk J I=>?_;rw[Nat.zero_add,Nat.zero_add];have hbig:=big_of k rk J b I;obtain⟨ok,hok⟩:=oper k rk J;rcases Nat.lt_trichotomy k i with U|U|U
  simp only[U,decide_true];rcases hF.cls k ok rk hok J hbig with ⟨d1,⟨y,d2⟩,_⟩|⟨d1,d2,_⟩
  have hidb:rk.id=b:=by
   rw[d2] at I;simp only[kM] at I
   by_cases hh:rk.id=b
   exact hh
   rw[if_neg hh] at I;exact absurd rfl I
  rcases c2 with c2|c2
  exact befIn k (Ez hchk U hok ho (by rw[d1,c2];rfl))
  obtain⟨m,om,e1,e2,e3,e4⟩:=c3 c2 k rk ok U J hok hbig d1 hidb;exact befIn k (.trans (Ez hchk e1 hok e3 (by rw[d1,e4];rfl)) (Ez hchk e2 e3 ho (by rw[c2,e4];rfl)))
  exact befIn k (Ez hchk U hok ho fA)
  subst U;simp only[Nat.lt_irrefl,decide_false];exact hun
  have:¬ k<i:=by omega
  simp only[this,decide_false];rcases hF.cls k ok rk hok J hbig with ⟨d1,⟨y,d2⟩,_⟩|⟨d1,d2,_⟩
  have hidb:rk.id=b:=by
   rw[d2] at I;simp only[kM] at I
   by_cases hh:rk.id=b
   exact hh
   rw[if_neg hh] at I;exact absurd rfl I
  have h1:=hkeys i b (by rw[c1];simp);have h2:=(hF.ids k rk J hbig).1;have h3:=Qi (rs:=rs) (n:=nx) (show i<=k by omega);omega
  exact befOut k (Ez hchk U ho hok fA)
 have lastOut:∀ b,kM r.δ b≠none->∀ (k:Nat) (rk:Rec),i<k->rs[k]?=some rk->listed.getD k true=true->kM rk.δ b=none:=by
  intro b hb k rk hik J hlk
  by_cases I:kM rk.δ b=none
  exact I
  exfalso
  have hbi:=big_of i r hri b hb;have hbk:=big_of k rk J b I;obtain⟨ok,hok⟩:=oper k rk J
  have no:clash (wH T o) (wH T ok)=true->False:=λhc=>by
   have:=befOut k (Ez hchk hik ho hok hc);rw[hlk] at this;cases this
  rcases hF.cls i o r ho hri hbi with ⟨d1,⟨y,d2⟩,_⟩|⟨d1,d2,_⟩
  rcases hF.cls k ok rk hok J hbk with ⟨g1,⟨z,g2⟩,_⟩|⟨g1,_⟩
  have e1:r.id=b:=by
   rw[d2] at hb;simp only[kM] at hb
   by_cases hh:r.id=b
   exact hh
   rw[if_neg hh] at hb;exact absurd rfl hb
  have e2:rk.id=b:=by
   rw[g2] at I;simp only[kM] at I
   by_cases hh:rk.id=b
   exact hh
   rw[if_neg hh] at I;exact absurd rfl I
  have:=WC hik hri hbi (hF.ids i r hri hbi).1 (hF.ids k rk J hbk).1;omega
  exact no (by rw[d1,g1];rfl)
  rcases hF.cls k ok rk hok J hbk with ⟨g1,⟨z,g2⟩,_⟩|⟨g1,_⟩
  have e2:rk.id=b:=by
   rw[g2] at I;simp only[kM] at I
   by_cases hh:rk.id=b
   exact hh
   rw[if_neg hh] at I;exact absurd rfl I
  have h1:=d2 b (Np _ _ hb);have:=WC hik hri hbi (hF.ids i r hri hbi).1 (hF.ids k rk J hbk).1;omega
  exact no (by rw[d1,g1];rfl)
 have setD:∀ k,(listed.setIfInBounds i true).getD k true=(if k=i then true else listed.getD k true):=by
  intro k
  by_cases U:k=i
  subst U;simp[hilt]
  rw[if_neg U];exact getD_set_ne true (Ne.symm U)
 have newSt:∀ stn:St,(∀ b,jr stn b=(match kM r.δ b with|some x=>x|none=>jr stx b))->∀ b,jr stn b=orS st b (lst rs (λk=>(listed.setIfInBounds i true).getD k true) 0 b):=by
  intro stn hstn b;rw[hstn b]
  cases hb:kM r.δ b with
  | none =>
   rw[hst b]
   congr 1
   refine zl _ _ _ _ _ λk rk J I=>?_;rw[Nat.zero_add,setD]
   by_cases U:k=i
   subst U;rw[hri] at J;cases J;exact absurd hb I
   rw[if_neg U]
  | some x =>
   rw[TL rs _ 0 i b r x hri (by rw[Nat.zero_add,setD,if_pos rfl]) hb λk rk hik J hlk=>?_]
   rfl
   rw[Nat.zero_add,setD,if_neg ah] at hlk;exact lastOut b (by rw[hb];simp) k rk hik J hlk
 have after:r.nd=false->∀ cv w' Y' σ' qs stn,zI ps qs->SW C w' Y' σ' qs a.tmps.toList stn n->(∀ b,jr stn b=(match kM r.δ b with|some x=>x|none=>jr stx b))->(∀ (j:Nat) (rj:Rec),j≠i->rs[j]?=some rj->rj.big=true->∀ b,rj.id<=b->b<rj.id+32->σ b=none->σ' b=none)->Rep w' Y' σ' r.v cv->K (a.put o.dst cv) w':=by
  intro hnd0 cv w' Y' σ' qs stn hq H' hstn hfr hv;refine hK (λr' hr'=>by rw[hri] at hr';cases hr';exact hnd0) _ _ ⟨DF.put hd _ _,Y',σ',zW qs o.dst r.v,stn,H'.zW hv o.dst,by rw[uZ,<- hq.1,hlen],?_,?_,newSt stn hstn,?_⟩
  intro j oj t hj hdst hlj;rw[wY hun] at hlj
  by_cases hji:j=i
  subst hji;rw[ho] at hj;cases hj
  by_cases hlt:t<qs.length
  rw[hdst];simp only[zW,xJ];rw[if_pos ⟨trivial,hlt⟩];refine h8 t hdst (by rw[<- hlen,hq.1];exact hlt) λk pk hk hpk g=>?_;exact absurd hdst ((CU hchk ho).2 k pk (by simpa using hpk) ah t g).1
  rw[xK (by rw[uZ];exact Nat.le_of_not_lt hlt),xK (by rw[ae9,<- hlen,hq.1];exact Nat.le_of_not_lt hlt)];exact Eqv.refl _
  have hne:=(hspec.2 j oj hj hji t hdst).1;rw[BU hne];rcases hlj with h|h
  exact absurd h hji
  exact (hq.2 t).symm.trans (hdone j oj t hj hdst h)
  intro t ht
  have hne:o.dst≠some t:=λe=>by
   have:=ht i o ho e;rw[(wY hun).2 (.inl rfl)] at this;cases this
  rw[BU hne];refine (hq.2 t).symm.trans (hrest t λk pk hk g=>?_);have:=ht k pk hk g
  cases hlk:listed.getD k true with
  | false=>rfl
  | true=>rw[(wY hun).2 (.inr hlk)] at this;cases this
  intro j rj hrj hlj hbj;rw[setD] at hlj
  by_cases hji:j=i
  rw[if_pos hji] at hlj;cases hlj
  rw[if_neg hji] at hlj;exact λb hb1 hb2=>hfr j rj hji hrj hbj b hb1 hb2 (hfree j rj hrj hlj hbj b hb1 hb2)
 have q1:=Vl (sl:=o.looksAt all) (er:=r.e1) (ps:=ps) λt ht=>(look t ht).1;have q2:=Vl (sl:=o.looksAt all) (er:=r.er) (ps:=ps) λt ht=>(look t ht).2;have l1:r.e1.length=ps.length:=by rw[<- hS.e1.1,hlen];assumption
 have l2:r.er.length=ps.length:=by rw[<- hS.er.1,hlen];assumption
 have hwb:=hS.gd C _ Y σ a w stx n (QX l1) (H.rP (H.vals.eqv q1)) hd;unfold wpOp;simp only[ho]
 cases hw:r.wb with
 | true =>
  rw[hw] at hwb;rw[if_pos hwb]
  cases hnd:r.nd with
  | true =>
   obtain⟨g1,g2,g3,g4⟩:=hND o r ho hri hnd
   have hoth:∀ k,k≠i->listed.getD k true=true:=λk hk=>by
    rcases Nat.lt_or_ge k i with h|h
    exact befIn k (Yy g2 g1 h)
    have:listed[k]?=none:=Array.getElem?_eq_none ah;simp[this]
   have hq:zI ps q:=⟨by rw[hlen];exact qlen.symm,λt=>by
    by_cases hex:∃ j pj,all[j]?=some pj/\j≠i/\pj.dst=some t
    obtain⟨j,pj,hj,hne,hdst⟩:=hex;have O:=hdone j pj t hj hdst (hoth j hne)
    have:=h7 t λk pk hk hpk g=>by
     have U:k=i:=by
      have:k<all.size:=by
       by_cases hh:k<all.size
       exact hh
       rw[Array.getElem?_toList,Array.getElem?_eq_none (Nat.le_of_not_lt hh)] at hpk;cases hpk
      omega
     subst U;rw[hL] at hpk;cases hpk;exact (hspec.2 j pj hj hne t hdst).1 g
    exact O.trans this.symm
    have hp:=hrest t λk pk hk g=>by
     by_cases U:k=i
     rw[U];exact hun
     exact absurd ⟨k,pk,hk,U,g⟩ hex
    have:=h6 t λk pk hk hpk g=>hex ⟨k,pk,by simpa using hpk,by omega,g⟩;exact hp.trans this⟩
   have H1:SW C w Y σ r.er a.tmps.toList (zJ rs st i) n:=(H.rP (H.vals.eqv (hq.trans hS.er))).ext λb x hb=>by
    rw[hst b,<- hb,KX rs st i 0 b]
    congr 1
    refine zl _ _ _ _ _ λk rk J _=>?_;rw[Nat.zero_add,Nat.zero_add]
    by_cases U:k=i
    subst U;rw[hun];simp
    rw[hoth k U]
    have:k<all.size:=by
     rw[<- hF.len]
     by_cases hh:k<rs.length
     exact hh
     rw[List.getElem?_eq_none (Nat.le_of_not_lt hh)] at J;cases J
    simp;omega
   have hb:=(hS.ndw hnd).2;obtain⟨i1,i2,i3⟩:=hF.ids i r hri hb;obtain⟨v',δ',cv,w',Y',σ',hk,hrun,H',hv,hoff⟩:=yI hT hW H1 (λb x h=>h) ⟨hfree i r hri hun hb r.id (Nat.le_refl _) ah,Nat.le_trans hpas i2⟩ g4
   cases hlt:ltD (r.id+32) δ' with
   | false=>rw[hlt] at hk;exact hk.elim
   | true =>
    rw[hlt] at hk;have hn:uz δ' n r.id<=n:=by cases δ'<;>simp[uz]<;>omega
    have:=hEnd (a.put o.dst cv) w' _ (λk=>by
     rw[setD];by_cases U:k=i
     rw[if_pos U]
     rw[if_neg U];exact hoth k U) ⟨⟨Y',σ',by rw[<- g3];exact (H'.mono hn).zW hv o.dst⟩,DF.put hd _ _⟩ hk
    refine .inl ?_;unfold Oper.wp;rcases hrun with hrun|⟨hrun,rfl⟩
    rw[hrun];exact this
    rw[hrun];exact this
  | false =>
  refine .inl (hS.sem hw hnd C _ Y σ a w stx n (QX l2) (H.rP (H.vals.eqv q2)) hd (hlk hw) (λhb=>?_) K Q λcv w' Y' σ' H' hoff hsame hv=>?_)
  obtain⟨g1,g2,g3⟩:=hF.ids i r hri hb;exact⟨hfree i r hri hun hb,Nat.le_trans hpas g2,g3⟩
  refine after hnd cv w' Y' σ' _ _ q2 H' (λb=>xN _ _ _) (λj rj hji hrj hbj b hb1 hb2 hn=>?_) hv
  cases hb:r.big with
  | false=>rw[hsame hb];exact hn
  | true =>
   rw[hoff _ ?_];· exact hn
   have e1:=(hF.ids i r hri hb).1;have e2:=(hF.ids j rj hrj hbj).1;rcases Nat.lt_or_ge i j with hij|hij
   have:=WC hij hri hb e1 e2;omega
   have:=WC (show j<i by omega) hrj hbj e2 e1;omega
 | false =>
  rw[hw] at hwb;rw[if_neg (by rw[hwb];simp)]
  have hδ:r.δ=[]:=by
   rcases hS.cls with ⟨_,h,_⟩|⟨h,_⟩|⟨h,_⟩
   exact h
   rw[hw] at h;cases h
   rw[hw] at h;cases h
  refine after (by cases h:r.nd with|false=>rfl|true=>rw[(hS.ndw h).1] at hw;cases hw) _ w Y σ ps stx (zI.refl _) H (λb=>by rw[hδ];rfl) (λ_ _ _ _ _ _ _ _ h=>h) (by rw[hS.skip hw];simp[Rep])
theorem UM {all:Array Oper}(U:EN T all=true){listed:Array Bool}(hsz:listed.size=all.size)(hr:Region.ready .any all listed=[]):∀ j,listed.getD j true=true:=by
 intro j
 induction j using Nat.strongRecOn with
 | _ j ih =>
  cases h:listed.getD j true with
  | true=>rfl
  | false =>
   have C:j<listed.size:=by
    rcases Nat.lt_or_ge j listed.size with h'|h'
    exact h'
    simp[Array.getElem?_eq_none h'] at h
   have hj:all[j]?=some all[j]:=Array.getElem?_eq_getElem ah
   have:j∈Region.ready .any all listed:=mem_ready.2 ⟨h,_,hj,λe I hb=>by
    have J:=(CU U hj).1 e I hb;have:=ih e.on J;have h2:e.on<listed.size:=by omega
    simp[h2] at this |-;exact this⟩
   rw[hr] at this;cases this
theorem count_set {listed:Array Bool}{i k:Nat}(hi:listed.getD i true=false)(h:listed.toList.count false=k+1):(listed.setIfInBounds i true).toList.count false=k:=by
 have U:i<listed.size:=by
  rcases Nat.lt_or_ge i listed.size with h'|h'
  exact h'
  simp[Array.getElem?_eq_none h'] at hi
 have T:listed[i]=false:=by simpa [U] using hi
 rw[Array.toList_setIfInBounds,List.count_set (by simpa using U)];simp[T,h]
theorem adn (hT:jv P T)(hW:Bg P){KE:Env->Prop}{C:Ctx T}{all:Array Oper}{rs:List Rec}{st:St}{nx n:Nat}{p f:List PV}{stf:St}(hchk:EN T all=true)(hch:ChD P T all all.toList rs p st nx [] f stf n)(hF:Facts P T all rs st nx n)(hpas:T.pG<=nx)(hkeys:∀ i b,jr (zJ rs st i) b≠none->b<Bh rs nx i){Q:Exit->Act->World->Prop}
  (hfin:ZL P T all KE all.toList rs st f stf n)
  (hQ:∀ E a w,lI C E a w->KE E->Q .normal a w):∀ (fuel:Nat) (listed:Array Bool) (a:Act) (w:World),listed.size=all.size->listed.toList.count false=fuel ->
   (∀ j o,all[j]?=some o->listed.getD j true=true->∀ e∈o.after,Region.binds .any e=true->listed.getD e.on true=true) ->
   (∀ (j:Nat) (r:Rec),rs[j]?=some r->r.nd=true->listed.getD j true=false) ->
   aaZ C all rs st n p f listed a w->wpAny P .any all Q fuel listed a w:=by
 have g:=hfin.get
 have fin:∀ (listed:Array Bool) (a:Act) (w:World),listed.size=all.size->(∀ (j:Nat) (r:Rec),rs[j]?=some r->r.nd=true->listed.getD j true=false)->aaZ C all rs st n p f listed a w->Region.ready .any all listed=[]->Q .normal a w:=by
  intro listed a w hsz hu hs hr;have hl:=UM hchk hsz hr
  have hKE:KE ⟨f,stf,n⟩:=by
   rcases g with ⟨_,h⟩|⟨i,o,r,_,_,_,h4,h5,_⟩
   exact h
   have:=hu i r h4 h5;rw[hl i] at this;cases this
  obtain⟨hd,Y,σ,ps,stx,H,hlen,hdone,hrest,hst,_⟩:=hs;have H1:SW C w Y σ f a.tmps.toList stx n:=H.rP (H.vals.eqv ⟨by rw[hlen,(hch.len _ _).2],λt=>?_⟩)
  refine hQ _ a w ⟨⟨Y,σ,H1.ext λb x hb=>?_⟩,hd⟩ hKE;rw[hst b,<- hb,(hch.fin _ _).1,KX rs st rs.length 0 b]
  congr 1
  refine zl _ _ _ _ _ λk rk hrk _=>?_;rw[Nat.zero_add,Nat.zero_add,hl k]
  have:k<rs.length:=by
   by_cases hh:k<rs.length
   exact hh
   rw[List.getElem?_eq_none (Nat.le_of_not_lt hh)] at hrk;cases hrk
  simp[this]
  by_cases hex:∃ (j:Nat) (o:Oper),all[j]?=some o/\o.dst=some t
  obtain⟨j,o,hj,J⟩:=hex;exact hdone j o t hj J (hl j)
  refine (hrest t λj o hj J=>absurd ⟨j,o,hj,J⟩ hex).trans (hch.keep _ _ λo ho J=>?_);obtain⟨j,hj⟩:=List.getElem?_of_mem ho;exact hex ⟨j,o,by simpa using hj,J⟩
 intro fuel
 induction fuel with
 | zero =>
  intro listed a w hsz hc U hu hs
  have hr:Region.ready .any all listed=[]:=by
   rw[List.eq_nil_iff_forall_not_mem];intro i hi;have hun:=(mem_ready.1 hi).1
   have hlt:i<listed.size:=by
    rcases Nat.lt_or_ge i listed.size with h'|h'
    exact h'
    simp[Array.getElem?_eq_none h'] at hun
   have hget:listed[i]=false:=by simpa [hlt] using hun
   have hm:false∈listed.toList:=by rw[<- hget];simp
   exact (List.count_eq_zero.1 hc) hm
  exact⟨hr,fin listed a w hsz hu hs hr⟩
 | succ fuel ih =>
  intro listed a w hsz hc U hu hs;refine⟨fin listed a w hsz hu hs,λi hi=>?_⟩;have hun:=(mem_ready.1 hi).1;refine ZN hT hW (KE:=KE) hchk hch hF hpas hsz U hkeys hs hi (λo r ho hr hn=>?_) (λa' w' E I hA hE=>?_) λhnd a' w' hs'=>ih _ a' w' (by simpa using hsz) (count_set hun hc) ?_ (λj r hj hn=>?_) hs'
  rcases g with ⟨h,_⟩|⟨i',o',r',a1,a2,a3,a4,a5,a6,a7,a8,a9⟩
  rw[h i r hr] at hn;cases hn
  have hii:i=i':=by
   by_cases hh:i=i'
   exact hh
   rw[a6 i r hh hr] at hn;cases hn
  subst hii;rw[hr] at a4;cases a4;rw[Array.getElem?_toList,ho] at a3;cases a3;exact⟨by simpa using a1,a7,a8,a9⟩
  have hrn:Region.ready .any all (listed.setIfInBounds i true)=[]:=by
   rw[List.eq_nil_iff_forall_not_mem];intro k hk;have:=(mem_ready.1 hk).1;rw[I k] at this;cases this
  cases fuel with
  | zero=>exact⟨hrn,hQ E a' w' hA hE⟩
  | succ fuel=>exact⟨λ_=>hQ E a' w' hA hE,λk hk=>by rw[hrn] at hk;cases hk⟩
  rotate_left
  by_cases hji:j=i
  subst hji;rw[hnd r hj] at hn;cases hn
  rw[getD_set_ne true (Ne.symm hji)];exact hu j r hj hn
  intro j o hj hlj e he hb;rw[wY hun] at hlj |-;rcases hlj with h|h
  subst h;obtain⟨_,o',ho',I⟩:=mem_ready.1 hi;rw[hj] at ho';cases ho';have:=I e he hb;refine .inr ?_;rcases Nat.lt_or_ge e.on listed.size with h'|h'
  simp[h'] at this |-;exact this
  simp[Array.getElem?_eq_none h'] at this
  exact .inr (U j o hj h e he hb)
theorem TQ {n:Nat}:∀ (st:St),ltS n st=true->∀ b,jr st b≠none->b<n
 | [],_,b,h=>absurd rfl h
 | (c,x)::st,h,b,hb=>by
  simp only[ltS,Bool.and_eq_true,Nat.blt_eq] at h;simp only[jr] at hb
  by_cases hc:c=b
  rw[<- hc];exact h.1
  rw[P6 hc] at hb;exact TQ st h.2 b hb
theorem ZO (hT:jv P T)(hW:Bg P){id:Nat}{l:Array Oper}{E:Env}{K:Env->Prop}(g:EN T l=true)(J:ltS E.next E.st=true)(h:Zx T (jb.jJ P T) l l.toList [] E K) :
  ∀ (C:Ctx T) a w,lI C E a w->∀ Q:Exit->Act->World->Prop,(∀ E' a' w',lI C E' a' w'->K E'->Q .normal a' w')->(Code.region id l true).wp P Q a w:=by
 intro C a w hA Q hQ;obtain⟨rs,f,stf,nxf,I,hK⟩:=ES hT hW _ _ _ _ h;obtain⟨⟨Y,σ,H⟩,hd⟩:=hA;have J:=TQ _ J;have hF:=adm I J;have hle:E.next<=nxf:=by rw[(I.fin _ _).2];exact Nl _ _ _
 have hrep:∀ j,j<l.size->(Array.replicate l.size false).getD j true=false:=λj hj=>by simp[hj]
 have hno:∀ j o,l[j]?=some o->(Array.replicate l.size false).getD j true=true->False:=by
  intro j o hj U
  have J:j<l.size:=by
   rcases Nat.lt_or_ge j l.size with h'|h'
   exact h'
   simp[Array.getElem?_eq_none h'] at hj
  rw[hrep j J] at U;cases U
 refine wp_region_any hW.mixed (adn hT hW g I hF H.fix.1 (TN _ _ I J) (C:=C) hK (λE a' w' hA' hE=>hQ _ a' w' hA' hE) l.size _ a _ aS ?_ ?_ (λj r hr hn=>hrep j ?_) ?_)
 simp
 intro j o hj U;exact (hno j o hj U).elim
 rw[<- hF.len]
 by_cases hh:j<rs.length
 exact hh
 rw[List.getElem?_eq_none (Nat.le_of_not_lt hh)] at hr;cases hr
 refine⟨hd,Y,σ,E.tmps,E.st,(H.drawn _).mono hle,rfl,?_,λt _=>Eqv.refl _,λb=>?_,λj r hr _ hb=>?_⟩
 intro j o t hj hdst U;exact (hno j o hj U).elim
 rw[Ig _ _ _ _ λk r hr hD=>?_];· rfl
 rw[Nat.zero_add] at hD
 have:k<l.size:=by
  rw[<- hF.len]
  by_cases hh:k<rs.length
  exact hh
  rw[List.getElem?_eq_none (Nat.le_of_not_lt hh)] at hr;cases hr
 rw[hrep k this] at hD;cases hD
 exact λb hb1 _=>H.next b (Nat.le_trans (hF.ids j r hr hb).2.1 hb1)
end
end Go.Pv
namespace Go.Pv
open Go
def WE (o:Obj):Prop:=(∀ arr ty,o≠.cells arr ty (0,0))/\∀ es ck,o≠.map es ck
theorem DW.cells {w:World}{Y:Nat->Prop}{σ:Sg}{st:St}(hs:DK w Y σ st){k:Nat}(h:DW σ st k):(∃ arr ty,w.heap[k]?=some (.cells arr ty (0,0)))\/∃ T I,w.heap[k]?=some (.map T I):=by
 obtain⟨b,x,l,h1,h2,rfl⟩:=h;rcases hs.blk b x h1 with ⟨l',U,hB⟩|⟨hn,_⟩
 rw[h2] at U;cases U;cases x<;>(unfold iw at hB;first|(obtain⟨arr,ty,J,_⟩:=hB.1.blk;exact .inl ⟨arr,ty,J⟩)|(obtain⟨T,I,J,_⟩:=hB.1;exact .inr ⟨T,I,J⟩))
 rw[h2] at hn;cases hn
theorem SW.kept {T' : Tab}{w w' : World}{Y Y' : Nat->Prop}{σ σ' : Sg}{qs:List PV}{us:List Value}{st st' : St}{I : Nat}(hs:DK w Y σ st)(H' : SW (yf T' w Y σ st) w' Y' σ' qs us st' I){k:Nat}{o:Obj}(ho:w.heap[k]?=some o)(hc:WE o):w'.heap[k]?=some o/\(Y k->Y' k):=by
 have T:k<w.heap.size:=(Array.getElem?_eq_some_iff.1 ho).1
 have U:¬ DW σ st k:=λh=>by
  rcases h.cells hs with ⟨arr,ty,h1⟩|⟨J,C,h1⟩
  rw[ho] at h1;cases h1;exact hc.1 arr ty rfl
  rw[ho] at h1;cases h1;exact hc.2 J C rfl
 exact⟨by rw[H'.qh.block k T λh=>U h.2];exact ho,λhy=>H'.y0 k ⟨hy,U⟩⟩
theorem JI.step {B:Nat}{T' : Tab}{D:List Nat}{w w' : World}{Y Y' : Nat->Prop}{σ σ' : Sg}{qs:List PV}{us:List Value}{st st' : St}{J : Nat}(h:JI B D w Y)(hs:DK w Y σ st)(H' : SW (yf T' w Y σ st) w' Y' σ' qs us st' J):JI B D w' Y' :=
 ⟨h.1,λr hr=>by
  obtain⟨h0,h1,h2⟩:=h.2 r hr;obtain⟨T,U⟩:=H'.kept hs h2 ⟨λ_ _ e=>dB,λ_ _ e=>dB⟩;exact⟨h0,U h1,T⟩⟩
def NNs (st:St):Prop:=∀ b sz rows,jr st b≠some (.l7 sz rows)
def ado (P:Program)(T:Tab)(all:Array Oper)(o:Oper)(er:List PV)(lk:Nat->Option mP)(id m:Nat)(v:PV)(δ:Dl):Prop :=
 ∀ (C:Ctx T) ps Y σ (a:Act) w st n,(∀ t∈o.looksAt all,jD ps t=jD er t)->SW C w Y σ ps a.tmps.toList st n->NNs st->(∀ b x,lk b=some x->jr st b=some x) ->
  (∀ b,id<=b->b<id+m->σ b=none/\jr st b=none)->T.pG<=id->id+m<=n->∀ next Q,(∀ cv w' Y' σ' st',SW C w' Y' σ' ps a.tmps.toList st' n->(∀ b,jr st' b=(match kM δ b with|some x=>x|none=>jr st b)) ->
   (∀ b,(b<id\/id+m<=b)->σ' b=σ b)->Rep w' Y' σ' v cv->(∀ B D,JI B D w Y->JI B D w' Y')->next (a.put o.dst cv) w')->o.wp P a w next Q
def ahh (T:Tab)(all:Array Oper)(o:Oper)(er:List PV)(wb:Bool):Prop :=
 ∀ (C:Ctx T) ps Y σ (a:Act) w st n,(∀ t∈o.looksAt all,jD ps t=jD er t)->SW C w Y σ ps a.tmps.toList st n->Region.wanted o (yielded all a.tmps)=wb
structure ZP (P:Program)(T:Tab)(all:Array Oper)(o:Oper)(r:Rec)(p:List PV)(st:St)(nx m:Nat):Prop where
 id:r.id=nx
 gd:ahh T all o p r.wb
 sem:r.wb=true->ado P T all o p r.lk nx m r.v r.δ
 skip:r.wb=false->r.v=.undef/\r.δ=[]
 lk:∀ b x,r.lk b=some x->jr st b=some x
 key:∀ b,kM r.δ b≠none->(nx<=b/\b<nx+m)\/jr st b≠none
 nn:∀ b sz rows,kM r.δ b≠some (some (.l7 sz rows))
def ChF (P:Program)(T:Tab)(all:Array Oper):List Oper->List Rec->List PV->St->Nat->List PV->St->Nat->Prop
 | [],[],p,st,nx,f,stf,nxf=>p=f/\st=stf/\nx=nxf
 | o::l,r::rs,p,st,nx,f,stf,nxf=>∃ m,ZP P T all o r p st nx m/\ChF P T all l rs (zW p o.dst r.v) (jL r.δ st) (nx+m) f stf nxf
 | _,_,_,_,_,_,_,_=>False
theorem TR {a b:Bool}(h:(a&&b)=true):a=true/\b=true:=by rw[Bool.and_eq_true] at h;exact h
theorem Ol:∀ (l:List Nat) (b:Nat),Td l b=true↔b∈l
 | [],b=>by simp;rfl
 | c::l,b=>by
  have e:Td (c::l) b=Bool.rec (motive:=λ_=>Bool) (Td l b) true (Nat.beq c b):=rfl;rw[e]
  by_cases h:c=b
  subst h;simp
  rw[P6 h];show Td l b=true↔_;rw[Ol l b];simp[Ne.symm h]
section
variable {P:Program}{T:Tab}
theorem SW.Om {C:Ctx T}{w:World}{Y:Nat->Prop}{σ:Sg}{ps:List PV}{vs:List Value}{st:St}{n:Nat}(H:SW C w Y σ ps vs st n)(hn:NNs st):SW (yf T w Y σ st) w Y σ ps vs st n :=
 ⟨H.vals,H.store,H.next,H.vw,λ_ h=>h.1,λk h=>⟨H.vw k h.1,h.2⟩,λk h _=>by
  by_cases hi:DW σ st k
  exact .inr ⟨h,hi⟩
  exact .inl ⟨h,hi⟩,JG.refl _ w,λb x l h1 h2=>.inr ⟨b,x,l,h1,h2,rfl⟩,H.wJ,⟨H.fix.1,λ_ _=>rfl⟩,zQ.none hn⟩
theorem SW.Ih {C:Ctx T}{w w' : World}{Y Y' : Nat->Prop}{σ σ' : Sg}{ps qs:List PV}{vs us:List Value}{st st' : St}{n J : Nat}(H:SW C w Y σ ps vs st n)
  (H' : SW (yf T w Y σ st) w' Y' σ' qs us st' J):SW C w' Y' σ' qs us st' J:=by
 have excl:∀ k,k<w.heap.size->Y' k->Y k:=by
  intro k hk hy;rcases H'.wI k hy hk with h|h
  exact h.1
  exact h.1
 have away:∀ k,C.Y0 k->¬ DW σ st k:=λk hk ⟨b,x,l,h1,h2,h3⟩=>H.away h1 h2 (h3 ▸ hk)
 have old:∀ k,(w.heap.size<=k\/DW σ st k)->C.w0.heap.size<=k\/C.L k:=λk h=>by
  rcases h with h|⟨b,x,l,h1,h2,h3⟩
  exact .inl (Nat.le_trans H.qh.size h)
  rw[<- h3];exact H.own b x l h1 h2
 refine⟨H'.vals,H'.store,H'.next,H'.vw,λk hk=>H'.y0 k ⟨H.y0 k hk,away k hk⟩,H.c0,λk hk U=>H.wI k (excl k (Nat.lt_of_lt_of_le U H.qh.size) hk) U,?_,λb x l h1 h2=>old _ (H'.own b x l h1 h2),H'.wJ,⟨H'.fix.1,λb hb=>?_⟩,?_⟩
 refine⟨by rw[H'.qh.os];exact H.qh.os,by rw[H'.qh.tape];exact H.qh.tape,by rw[H'.qh.output];exact H.qh.output,Nat.le_trans H.qh.size H'.qh.size,λk hk hM=>?_⟩;rw[H'.qh.block k (Nat.lt_of_lt_of_le hk H.qh.size) λh=>?_]
 exact H.qh.block k hk hM
 obtain⟨h1,h2⟩:=h;rcases H.wI k h1 hk with h3|h3
 exact away k h3 h2
 exact hM h3
 rw[H'.fix.2 b hb];exact H.fix.2 b hb
 exact⟨H'.nest.rep,λb r c h sz I k=>old _ (H'.nest.old b r c h sz I k),H'.nest.one,H'.nest.sep⟩
def agj (r:Rec)(tc:Tc):Prop:=(∀ b,r.lk b≠none->b∈tc.1)/\(∀ b,kM r.δ b≠none->b∈tc.2.2)/\(∀ b∈tc.2.2,b∈tc.2.1)
theorem Ql:∀ (l m:List Nat),meets l m=true↔∃ b,b∈l/\b∈m
 | [],m=>by
  constructor;· intro h;cases h
  rintro⟨b,h,_⟩;cases h
 | c::l,m=>by
  have e:meets (c::l) m=Bool.rec (motive:=λ_=>Bool) (meets l m) true (Td m c):=rfl;rw[e]
  cases hc:Td m c with
  | true=>exact⟨λ_=>⟨c,by simp,(Ol _ _).1 hc⟩,λ_=>rfl⟩
  | false =>
   show meets l m=true↔_;rw[Ql l m];constructor
   rintro⟨b,h1,h2⟩;exact⟨b,List.mem_cons_of_mem _ h1,h2⟩
   rintro⟨b,h1,h2⟩
   rcases List.mem_cons.1 h1 with rfl|h1
   rw[(Ol _ _).2 h2] at hc;cases hc
   exact⟨b,h1,h2⟩
theorem Vp {B:List (List Nat)}{i:Nat}{x:Tc}:∀ (l:List Tc) (k:Nat),acT B i x l k=true->∀ (j:Nat) (y:Tc),l[j]?=some y->pairT B i (k+j) x y=true
 | [],k,h,j,y,hj=>by simp at hj
 | z::l,k,h,0,y,hj=>by
  simp at hj;subst hj;unfold acT at h;exact (TR h).1
 | z::l,k,h,j+1,y,hj=>by
  unfold acT at h;have:=Vp l (k+1) (TR h).2 j y dR
  rwa [show k+(j+1)=k+1+j by omega]
theorem Vq {B:List (List Nat)}:∀ (l:List Tc) (i:Nat),abK B l i=true->∀ (a b:Nat) (x y:Tc),a<b->l[a]?=some x->l[b]?=some y->pairT B (i+a) (i+b) x y=true
 | [],i,h,a,b,x,y,_,ha,_=>by simp at ha
 | z::l,i,h,0,b+1,x,y,_,ha,hb=>by
  simp at ha;subst ha;unfold abK at h;have:=Vp l (i+1) (TR h).1 b y (by simpa using hb)
  rwa [show i+1+b=i+(b+1) by omega] at this
 | z::l,i,h,a+1,b+1,x,y,hab,ha,hb=>by
  unfold abK at h;have:=Vq l (i+1) (TR h).2 a b x y ah (by simpa using ha) (by simpa using hb)
  rwa [show i+1+a=i+(a+1) by omega,show i+1+b=i+(b+1) by omega] at this
 | z::l,i,h,_,0,x,y,hab,_,_=>by omega
theorem ZQ {all:Array Oper}{i k:Nat}{T U:Rec}{x y:Tc}(hx:agj T x)(hy:agj U y)(h:pairT (SX all.toList []) i k x y=true)
  (hc:∃ b,(kM T.δ b≠none/\(U.lk b≠none\/kM U.δ b≠none))\/(T.lk b≠none/\kM U.δ b≠none)):Bef all i k:=by
 have key:(meets x.2.2 y.1 || (meets x.2.2 y.2.2 || meets y.2.2 x.1))=true:=by
  obtain⟨b,h1⟩:=hc;simp only[Bool.or_eq_true,Ql];rcases h1 with ⟨h1,h2|h2⟩|⟨h1,h2⟩
  exact .inl ⟨b,hx.2.1 b h1,hy.1 b h2⟩
  exact .inr (.inl ⟨b,hx.2.1 b h1,hy.2.1 b h2⟩)
  exact .inr (.inr ⟨b,hy.2.1 b h2,hx.1 b h1⟩)
 have sup:(meets x.2.1 y.1 || (meets x.2.1 y.2.1 || meets y.2.1 x.1))=true:=by
  simp only[Bool.or_eq_true,Ql] at key |-;rcases key with ⟨b,h1,h2⟩|⟨b,h1,h2⟩|⟨b,h1,h2⟩
  exact .inl ⟨b,hx.2.2 b h1,h2⟩
  exact .inr (.inl ⟨b,hx.2.2 b h1,hy.2.2 b h2⟩)
  exact .inr (.inr ⟨b,hy.2.2 b h1,h2⟩)
 unfold pairT at h;rw[sup,key] at h;simp only at h
 have h:Td (Bj (SX all.toList []) k) i=true:=by
  cases hh:Td (Bj (SX all.toList []) k) i with
  | true=>rfl
  | false=>rw[hh] at h;cases h
 exact IV all.toList [] (λk o hk=>by simpa using hk) (λi b hb=>by simp[Bj] at hb) k i ((Ol _ _).1 h)
theorem zX {all:Array Oper}(h:EM all all.toList 0=true){i:Nat}{o:Oper}(hi:all[i]?=some o) :
  (∀ e∈o.after,Region.binds .any e=true->e.on<i)/\∀ (j:Nat) (p:Oper),all[j]?=some p->j≠i->∀ d,p.dst=some d->o.dst≠some d /\
   (d∈o.looksAt all->(∃ e∈o.after,Region.binds .any e=true/\e.on=j)\/(∃ e∈p.after,Region.binds .any e=true/\e.on=i)):=by
 obtain⟨h1,h2⟩:=JS all.toList 0 h i o bZ;rw[Nat.zero_add] at h1 h2;refine⟨h1,λj p hp U d I=>?_⟩;have:=h2 j p hp;have T:Nat.beq i j=false:=P6 λe=>U e.symm;simp only[SQ,T,I,Bool.false_or,Bool.and_eq_true,Bool.or_eq_true,bne_iff_ne,ne_eq,Bool.not_eq_true',List.contains_eq_mem,decide_eq_false_iff_not] at this;refine⟨this.1,λC=>?_⟩;rcases this.2 with (hh|hh)|hh
 exact absurd C hh
 obtain⟨e,J,hb⟩:=Array.any_eq_true'.1 hh;simp only[Bool.and_eq_true] at hb;exact .inl ⟨e,J,hb.1,Nat.eq_of_beq_eq_true hb.2⟩
 obtain⟨e,J,hb⟩:=Array.any_eq_true'.1 hh;simp only[Bool.and_eq_true] at hb;exact .inr ⟨e,J,hb.1,Nat.eq_of_beq_eq_true hb.2⟩
theorem ChF.len {all:Array Oper}:∀ (l:List Oper) (rs:List Rec) {p:List PV} {st:St} {nx:Nat} {f:List PV} {J:St} {U:Nat},ChF P T all l rs p st nx f J U->rs.length=l.length/\f.length=p.length/\nx<=U
 | [],[],_,_,_,_,_,_,h=>⟨rfl,by rw[h.1],by rw[h.2.2];exact Nat.le_refl _⟩
 | o::l,r::rs,_,_,_,_,_,_,⟨m,h,h'⟩=>by
  obtain⟨h1,h2,I⟩:=ChF.len l rs h';exact⟨by simp[h1],by rw[h2,uZ],by omega⟩
 | [],_::_,_,_,_,_,_,_,h=>h.elim
 | _::_,[],_,_,_,_,_,_,h=>h.elim
theorem ChF.keep {all:Array Oper}{t:Nat}:∀ (l:List Oper) (rs:List Rec) {p:List PV} {st:St} {nx:Nat} {f:List PV} {U:St} {J:Nat},ChF P T all l rs p st nx f U J->(∀ o∈l,o.dst≠some t)->jD p t=jD f t
 | [],[],_,_,_,_,_,_,h,_=>by rw[h.1]
 | o::l,r::rs,_,_,_,_,_,_,⟨m,h,h'⟩,hn=>by
  have:=ChF.keep l rs h' λo ho=>hn o (by simp[ho]);rw[BU (hn o aS)] at this;exact this
 | [],_::_,_,_,_,_,_,_,h,_=>h.elim
 | _::_,[],_,_,_,_,_,_,h,_=>h.elim
def idA (rs:List Rec)(nxf:Nat)(i:Nat):Nat:=match rs[i]? with|some r=>r.id|none=>nxf
theorem ChF.get {all:Array Oper}:∀ (l:List Oper) (rs:List Rec) {p:List PV} {st:St} {nx:Nat} {f:List PV} {J:St} {U:Nat},ChF P T all l rs p st nx f J U->∀ (i:Nat) (o:Oper),l[i]?=some o ->
  ∃ r q m,rs[i]?=some r/\q.length=p.length/\ZP P T all o r q (zJ rs st i) (idA rs U i) m/\idA rs U (i+1)=idA rs U i+m/\nx<=idA rs U i /\
   (∀ t,(∀ j oj,j<i->l[j]?=some oj->oj.dst≠some t)->jD p t=jD q t) /\
   (∀ t,(∀ j oj,i<=j->l[j]?=some oj->oj.dst≠some t)->jD q t=jD f t) /\
   (∀ d,o.dst=some d->d<p.length->(∀ j oj,i<j->l[j]?=some oj->oj.dst≠some d)->r.v=jD f d)
 | [],_,_,_,_,_,_,_,_,i,o,hi=>by simp at hi
 | _::_,[],_,_,_,_,_,_,h,_,_,_=>h.elim
 | o'::l,r::rs,p,st,nx,f,J,U,⟨m,h1,h6⟩,0,o,hi=>by
  simp at hi;subst hi;have hid:idA (r::rs) U 0=nx:=by simp[idA,h1.id]
  have C:idA (r::rs) U 1=nx+m:=by
   cases l with
   | nil=>cases rs with
    | nil=>simp[idA,h6.2.2]
    | cons _ _=>exact h6.elim
   | cons o2 l=>cases rs with
    | nil=>exact h6.elim
    | cons r2 rs=>obtain⟨m2,h7,_⟩:=h6;simp[idA,h7.id]
  refine⟨r,p,m,rfl,rfl,by rw[hid];exact h1,by rw[hid,C],by rw[hid];exact Nat.le_refl _,λt _=>rfl,λt ht=>?_,λd g I hn=>?_⟩
  have hk:=ChF.keep l rs h6 (t:=t) λo ho=>by
   obtain⟨j,hj⟩:=List.getElem?_of_mem ho;exact ht (j+1) o ah dR
  rw[BU (ht 0 o' ah aS)] at hk;exact hk
  have hk:=ChF.keep l rs h6 (t:=d) λo ho=>by
   obtain⟨j,hj⟩:=List.getElem?_of_mem ho;exact hn (j+1) o ah dR
  rw[g] at hk;simp only[zW,xJ] at hk;rw[if_pos ⟨trivial,I⟩] at hk;exact hk
 | o'::l,r::rs,p,st,nx,f,J,U,⟨m,h1,h6⟩,i+1,o,hi=>by
  obtain⟨r',q,m',a0,a1,a2,a3,a4,a6,a7,a8⟩:=ChF.get l rs h6 i o bZ;have hl:(zW p o'.dst r.v).length=p.length:=by rw[uZ]
  have e1:∀ j,idA (r::rs) U (j+1)=idA rs U j:=λj=>by simp[idA]
  refine⟨r',q,m',by simpa using a0,by rw[a1,hl],by rw[e1];exact a2,by rw[e1,e1];exact a3,by rw[e1];omega,λt ht=>?_,λt ht=>?_,λd g I hn=>?_⟩
  have hk:=a6 t λj oj hj hoj=>ht (j+1) oj ah dA;rw[BU (ht 0 o' ah aS)] at hk;exact hk
  exact a7 t λj oj hj hoj=>ht (j+1) oj ah dA
  exact a8 d g (by rw[hl];exact I) λj oj hj hoj=>hn (j+1) oj ah dA
theorem ChF.fin {all:Array Oper}:∀ (l:List Oper) (rs:List Rec) {p:List PV} {st:St} {nx:Nat} {f:List PV} {U:St} {J:Nat},ChF P T all l rs p st nx f U J->U=zJ rs st rs.length
 | [],[],_,_,_,_,_,_,h=>h.2.1.symm
 | o::l,r::rs,_,_,_,_,_,_,⟨m,h,h'⟩=>ChF.fin l rs h'
 | [],_::_,_,_,_,_,_,_,h=>h.elim
 | _::_,[],_,_,_,_,_,_,h=>h.elim
structure IW (P:Program)(T:Tab)(all:Array Oper)(rs:List Rec)(p:List PV)(st:St)(nx:Nat)(f:List PV)(n:Nat):Prop where
 chk:EM all all.toList 0=true
 len:rs.length=all.size
 get:∀ (i:Nat) (o:Oper),all[i]?=some o->∃ r q m,rs[i]?=some r/\q.length=p.length/\ZP P T all o r q (zJ rs st i) (idA rs n i) m/\idA rs n (i+1)=idA rs n i+m/\nx<=idA rs n i /\
   (∀ t,(∀ j oj,j<i->all[j]?=some oj->oj.dst≠some t)->jD p t=jD q t) /\
   (∀ t,(∀ j oj,i<=j->all[j]?=some oj->oj.dst≠some t)->jD q t=jD f t) /\
   (∀ d,o.dst=some d->d<p.length->(∀ j oj,i<j->all[j]?=some oj->oj.dst≠some d)->r.v=jD f d)
 ae9:f.length=p.length
 keep:∀ t,(∀ o∈all.toList,o.dst≠some t)->jD p t=jD f t
 old:∀ b,nx<=b->jr st b=none
 clash:∀ (i k:Nat) (ri rk:Rec),i<k->rs[i]?=some ri->rs[k]?=some rk->(∃ b,(kM ri.δ b≠none/\(rk.lk b≠none\/kM rk.δ b≠none))\/(ri.lk b≠none/\kM rk.δ b≠none))->Bef all i k
theorem IW.oper {all:Array Oper}{rs:List Rec}{p:List PV}{st:St}{nx:Nat}{f:List PV}{n:Nat}(F:IW P T all rs p st nx f n){k:Nat}{U:Rec}(h:rs[k]?=some U):∃ ok,all[k]?=some ok:=by
 have:k<all.size:=by
  rw[<- F.len]
  by_cases hh:k<rs.length
  exact hh
  rw[List.getElem?_eq_none (Nat.le_of_not_lt hh)] at h;cases h
 exact⟨_,Array.getElem?_eq_getElem this⟩
theorem IW.mono {all:Array Oper}{rs:List Rec}{p:List PV}{st:St}{nx:Nat}{f:List PV}{n:Nat}(F:IW P T all rs p st nx f n):∀ {i j:Nat},i<=j->j<=all.size->idA rs n i<=idA rs n j:=by
 intro i j h
 induction h with
 | refl=>intro _;exact Nat.le_refl _
 | step h ih =>
  rename_i m;intro J;have h1:=ih ah;obtain⟨r,q,U,_,_,_,h2,_⟩:=F.get m _ (Array.getElem?_eq_getElem ah);rw[h2];omega
theorem IW.dom {all:Array Oper}{rs:List Rec}{p:List PV}{st:St}{nx:Nat}{f:List PV}{n:Nat}(F:IW P T all rs p st nx f n){j:Nat}{rj:Rec}(hj:rs[j]?=some rj){b:Nat}(h1:idA rs n j<=b)(h2:b<idA rs n (j+1)):∀ i,i<=all.size->jr (zJ rs st i) b≠none->j<i/\kM rj.δ b≠none:=by
 have hjs:j<all.size:=by
  obtain⟨o,ho⟩:=F.oper hj
  by_cases h:j<all.size
  exact h
  rw[Array.getElem?_eq_none (Nat.le_of_not_lt h)] at ho;cases ho
 intro i
 induction i with
 | zero =>
  intro _ h
  exfalso
  obtain⟨_,_,_,_,_,_,_,g,_⟩:=F.get j _ (Array.getElem?_eq_getElem hjs);have J:=F.old b ah;have e:zJ rs st 0=st:=by cases rs<;>rfl
  rw[e] at h;exact h J
 | succ i ih =>
  intro hi h;obtain⟨U,q,m,I,_,hS,hm,_⟩:=F.get i _ (Array.getElem?_eq_getElem ah)
  have C:∀ (rs:List Rec) (st:St) (i:Nat) (U:Rec),rs[i]?=some U->zJ rs st (i+1)=jL U.δ (zJ rs st i):=by
   intro rs
   induction rs with
   | nil=>intro st i U h;simp at h
   | cons r rs ih =>
    intro st i U h
    cases i with
    | zero=>simp at h;subst h;cases rs<;>rfl
    | succ i=>simp only[zJ];exact ih _ i U dh
  rw[C rs st i U I,xN] at h
  have old:jr (zJ rs st i) b≠none->j<i+1/\kM rj.δ b≠none:=λh=>by
   obtain⟨g,J⟩:=ih ah h;exact⟨by omega,J⟩
  cases hl:kM U.δ b with
  | none=>rw[hl] at h;exact old h
  | some x =>
   rcases hS.key b fC with g|g
    
   have hij:i=j:=by
    rcases Nat.lt_trichotomy i j with J|J|J
    have:=F.mono (i:=i+1) (j:=j) ah ah;omega
    exact J
    have:=F.mono (i:=j+1) (j:=i) ah ah;omega
   subst hij;rw[hj] at I;cases I;exact⟨by omega,by rw[hl];simp⟩
   exact old g
def WG {T:Tab}(C:Ctx T)(all:Array Oper)(rs:List Rec)(st:St)(n:Nat)(p f:List PV)(D:List Nat)(dl:List Deferred)(listed:Array Bool)(a:Act)(w:World):Prop :=
 a.defers=dl/\∃ Y σ ps stx,SW C w Y σ ps a.tmps.toList stx n/\ps.length=p.length /\
  (∀ j o t,all[j]?=some o->o.dst=some t->listed.getD j true=true->jD ps t=jD f t) /\
  (∀ t,(∀ j o,all[j]?=some o->o.dst=some t->listed.getD j true=false)->jD ps t=jD p t) /\
  (∀ b,jr stx b=orS st b (lst rs (λk=>listed.getD k true) 0 b)) /\
  (∀ j,j<all.size->listed.getD j true=false->∀ b,idA rs n j<=b->b<idA rs n (j+1)->σ b=none)/\JI C.w0.heap.size D w Y/\NNs stx
theorem Yz {nx:Nat}(hpas:T.pG<=nx){C:Ctx T}{all:Array Oper}{rs:List Rec}{st:St}{n:Nat}{p f:List PV}{D:List Nat}{dl:List Deferred}(F:IW P T all rs p st nx f n){listed:Array Bool}{a:Act}{w:World}
  (hsz:listed.size=all.size) (hclosed:∀ j o,all[j]?=some o->listed.getD j true=true->∀ e∈o.after,Region.binds .any e=true->listed.getD e.on true=true)
  (hs:WG C all rs st n p f D dl listed a w) {i:Nat} (hr:i∈Region.ready .any all listed) {Q:Exit->Act->World->Prop} {K:Act->World->Prop}
  (hK:∀ a' w',WG C all rs st n p f D dl (listed.setIfInBounds i true) a' w'->K a' w'):wpOp P all Q i K a w:=by
 obtain⟨hun,o,ho,hall⟩:=mem_ready.1 hr;obtain⟨hd,Y,σ,ps,stx,H,hlen,hdone,hrest,hst,hfree,hD,hnn⟩:=hs
 have hilt:i<listed.size:=by
  rcases Nat.lt_or_ge i listed.size with h|h
  exact h
  simp[Array.getElem?_eq_none h] at hun
 obtain⟨r,q,m,hri,qlen,hS,hm,hnx,h6,h7,h8⟩:=F.get i o ho;have hspec:=zX F.chk ho
 have hall' : ∀ e∈o.after,Region.binds .any e=true->listed.getD e.on true=true:=by
  intro e he hb;have:=hall e he hb;rcases Nat.lt_or_ge e.on listed.size with h|h
  simp[h] at this |-;exact this
  simp[Array.getElem?_eq_none h]
 have befIn:∀ k,Bef all k i->listed.getD k true=true:=λk h=>h.ready hclosed o ho hall'
 have befOut:∀ k,Bef all i k->listed.getD k true=false:=λk h=>by
  cases hk:listed.getD k true with
  | false=>rfl
  | true=>have:=h.listed hclosed hk;rw[hun] at this;cases this
 have look:∀ t∈o.looksAt all,jD ps t=jD q t:=by
  intro t ht
  by_cases hex:∃ j pj,all[j]?=some pj/\j≠i/\pj.dst=some t
  obtain⟨j,pj,hj,hne,I⟩:=hex;obtain⟨hdd,hor⟩:=hspec.2 j pj hj hne t I
  have uniq:∀ k pk,all[k]?=some pk->pk.dst=some t->k=j:=by
   intro k pk hk J
   by_cases hkj:k=j
   exact hkj
   exact absurd J ((zX F.chk hk).2 j pj hj (Ne.symm hkj) t I).1
  rcases hor ht with ⟨e,he,hb,heq⟩|⟨e,he,hb,heq⟩
  have hlj:listed.getD j true=true:=by
   have:=hall' e he hb
   rwa [heq] at this
  have hji:j<i:=by rw[<- heq];exact hspec.1 e he hb
  have O:=hdone j pj t hj I hlj
  have:=h7 t λk pk hk hpk J=>by
   have:=uniq k pk hpk J;omega
  exact O.trans this.symm
  have hij:i<j:=by rw[<- heq];exact (zX F.chk hj).1 e he hb
  have hju:listed.getD j true=false:=by
   cases hlj:listed.getD j true with
   | false=>rfl
   | true =>
    have:=hclosed j pj hj hlj e he hb;rw[heq,hun] at this;cases this
  have hp:=hrest t λk pk hk J=>by
   rw[uniq k pk hk J];exact hju
  have:=h6 t λk pk hk hpk J=>by
   have:=uniq k pk hpk J;omega
  exact hp.trans this
  have hp:=hrest t λk pk hk J=>by
   by_cases U:k=i
   rw[U];exact hun
   exact absurd ⟨k,pk,hk,U,J⟩ hex
  have:=h6 t λk pk hk hpk J=>hex ⟨k,pk,hpk,by omega,J⟩;exact hp.trans this
 have hlk:∀ b x,r.lk b=some x->jr stx b=some x:=by
  intro b x hb;have c1:=hS.lk b x hb;rw[hst b,<- c1,KX rs st i 0 b]
  congr 1
  refine zl _ _ _ _ _ λk rk g hkb=>?_;rw[Nat.zero_add,Nat.zero_add];rcases Nat.lt_trichotomy k i with U|U|U
  simp only[U,decide_true];exact befIn k (F.clash k i rk r U g hri ⟨b,.inl ⟨hkb,.inl (by rw[hb];simp)⟩⟩)
  subst U;simp only[Nat.lt_irrefl,decide_false];exact hun
  have:¬ k<i:=by omega
  simp only[this,decide_false];exact befOut k (F.clash i k r rk U hri g ⟨b,.inr ⟨by rw[hb];simp,hkb⟩⟩)
 have hisz:i<all.size:=by omega
 have hwin:∀ b,idA rs n i<=b->b<idA rs n i+m->σ b=none/\jr stx b=none:=by
  intro b h1 h2;refine⟨hfree i hisz hun b h1 (by rw[hm];exact h2),?_⟩;rw[hst b]
  have hno:lst rs (λk=>listed.getD k true) 0 b=none:=by
   refine Ig _ _ _ _ λk rk g hlk=>?_;rw[Nat.zero_add] at hlk
   cases hx:kM rk.δ b with
   | none=>rfl
   | some x =>
    exfalso
    obtain⟨ok,hok⟩:=F.oper g;obtain⟨rk',_,mk,hrk',_,hSk,hmk,_⟩:=F.get k ok hok;rw[g] at hrk';cases hrk'
    have hksz:k<all.size:=by
     by_cases h:k<all.size
     exact h
     rw[Array.getElem?_eq_none (Nat.le_of_not_lt h)] at hok;cases hok
    rcases hSk.key b (by rw[hx];simp) with h3|h3
    have:k=i:=by
     rcases Nat.lt_trichotomy k i with h4|h4|h4
     have:=F.mono (i:=k+1) (j:=i) ah ah;omega
     exact h4
     have:=F.mono (i:=i+1) (j:=k) ah ah;omega
    subst this;rw[hun] at hlk;cases hlk
    obtain⟨h4,h5⟩:=F.dom hri h1 (by rw[hm];exact h2) k ah h3;have:=befOut k (F.clash i k r rk h4 hri g ⟨b,.inl ⟨h5,.inr (by rw[hx];simp)⟩⟩);rw[hlk] at this;cases this
  rw[hno];exact F.old b ah
 have lastOut:∀ b,kM r.δ b≠none->∀ (k:Nat) (rk:Rec),i<k->rs[k]?=some rk->listed.getD k true=true->kM rk.δ b=none:=by
  intro b hb k rk hik g hlk
  cases hkb:kM rk.δ b with
  | none=>rfl
  | some x =>
   have:=befOut k (F.clash i k r rk hik hri g ⟨b,.inl ⟨hb,.inr (by rw[hkb];simp)⟩⟩);rw[hlk] at this;cases this
 have setD:∀ k,(listed.setIfInBounds i true).getD k true=(if k=i then true else listed.getD k true):=by
  intro k
  by_cases U:k=i
  subst U;simp[hilt]
  rw[if_neg U];exact getD_set_ne true (Ne.symm U)
 have newSt:∀ stn:St,(∀ b,jr stn b=(match kM r.δ b with|some x=>x|none=>jr stx b))->∀ b,jr stn b=orS st b (lst rs (λk=>(listed.setIfInBounds i true).getD k true) 0 b):=by
  intro stn hstn b;rw[hstn b]
  cases hb:kM r.δ b with
  | none =>
   rw[hst b]
   congr 1
   refine zl _ _ _ _ _ λk rk g hkb=>?_;rw[Nat.zero_add,setD]
   by_cases U:k=i
   subst U;rw[hri] at g;cases g;exact absurd hb hkb
   rw[if_neg U]
  | some x =>
   rw[TL rs _ 0 i b r x hri (by rw[Nat.zero_add,setD,if_pos rfl]) hb λk rk hik g hlk=>?_]
   rfl
   rw[Nat.zero_add,setD,if_neg ah] at hlk;exact lastOut b (by rw[hb];simp) k rk hik g hlk
 have after:∀ cv w' Y' σ' qs stn,(qs.length=ps.length/\∀ t,jD qs t=jD ps t)->SW C w' Y' σ' qs a.tmps.toList stn n->(∀ b,jr stn b=(match kM r.δ b with|some x=>x|none=>jr stx b)) ->
   (∀ b,(b<idA rs n i\/idA rs n i+m<=b)->σ' b=σ b)->Rep w' Y' σ' r.v cv->JI C.w0.heap.size D w' Y'->K (a.put o.dst cv) w':=by
  intro cv w' Y' σ' qs stn hq H' hstn hoff hv hD';refine hK _ _ ⟨by rw[put_defers];exact hd,Y',σ',zW qs o.dst r.v,stn,H'.zW hv o.dst,by rw[uZ,hq.1,hlen],?_,?_,newSt stn hstn,?_,hD',λb sz rows hb=>?_⟩
  intro j oj t hj I hlj;rw[wY hun] at hlj
  by_cases hji:j=i
  subst hji;rw[ho] at hj;cases hj
  by_cases hlt:t<qs.length
  rw[I];simp only[zW,xJ];rw[if_pos ⟨trivial,hlt⟩];refine h8 t I (by rw[<- hlen,<- hq.1];exact hlt) λk pk hk hpk J=>?_;exact absurd I ((zX F.chk ho).2 k pk hpk ah t J).1
  exact (xK (by rw[uZ];exact Nat.le_of_not_lt hlt)).trans (xK (by rw[F.ae9,<- hlen,<- hq.1];exact Nat.le_of_not_lt hlt)).symm
  have hne:=(hspec.2 j oj hj hji t I).1;rw[BU hne,hq.2];rcases hlj with h|h
  exact absurd h hji
  exact hdone j oj t hj I h
  intro t ht
  have hne:o.dst≠some t:=λe=>by
   have:=ht i o ho e;rw[(wY hun).2 (.inl rfl)] at this;cases this
  rw[BU hne,hq.2];refine hrest t λk pk hk J=>?_;have:=ht k pk hk J
  cases hlk:listed.getD k true with
  | false=>rfl
  | true=>rw[(wY hun).2 (.inr hlk)] at this;cases this
  intro j hj hlj b hb1 hb2;rw[setD] at hlj
  by_cases hji:j=i
  rw[if_pos hji] at hlj;cases hlj
  rw[if_neg hji] at hlj;rw[hoff b ?_];· exact hfree j hj hlj b hb1 hb2
  rcases Nat.lt_or_ge i j with hij|hij
  right;have:=F.mono (i:=i+1) (j:=j) ah ah;omega
  left;have:=F.mono (i:=j+1) (j:=i) ah ah;omega
  rw[hstn b] at hb
  cases hx:kM r.δ b with
  | none=>rw[hx] at hb;exact hnn b sz rows hb
  | some x=>rw[hx] at hb;simp only at hb;subst hb;exact hS.nn b sz rows hx
 have q1:jD (patch (o.looksAt all) q ps)=jD ps:=by
  funext t
  by_cases ht:t<ps.length
  rw[Qk ht]
  split
  rename_i h;exact (look t h).symm
  rfl
  rw[xK dJ,xK (Nat.le_of_not_lt ht)]
 have l1:q.length=ps.length:=by rw[qlen,hlen]
 have hwb:=hS.gd C _ Y σ a w stx n look H;unfold wpOp;simp only[ho]
 cases hw:r.wb with
 | true =>
  rw[hw] at hwb;rw[if_pos hwb]
  have hle:idA rs n i+m<=n:=by
   rw[<- hm];have:=F.mono (i:=i+1) (j:=all.size) ah (Nat.le_refl _);have e:idA rs n all.size=n:=by simp[idA,List.getElem?_eq_none (Nat.le_of_eq F.len)]
   omega
  exact .inl (hS.sem hw C _ Y σ a w stx n look H hnn hlk hwin (Nat.le_trans hpas hnx) hle K Q λcv w' Y' σ' st' H' hst' hoff hv hD'=>after cv w' Y' σ' ps st' ⟨rfl,λ_=>rfl⟩ H' hst' hoff hv (hD' _ D hD))
 | false =>
  rw[hw] at hwb;rw[if_neg (by rw[hwb];simp)];obtain⟨e1,e2⟩:=hS.skip hw;exact after _ w Y σ ps stx ⟨rfl,λ_=>rfl⟩ H (λb=>by rw[e2];rfl) (λ_ _=>rfl) (by rw[e1];simp[Rep]) hD
theorem TS {all:Array Oper}(U:EM all all.toList 0=true){listed:Array Bool}(hsz:listed.size=all.size)(hr:Region.ready .any all listed=[]):∀ j,listed.getD j true=true:=by
 intro j
 induction j using Nat.strongRecOn with
 | _ j ih =>
  cases h:listed.getD j true with
  | true=>rfl
  | false =>
   have I:j<listed.size:=by
    rcases Nat.lt_or_ge j listed.size with h'|h'
    exact h'
    simp[Array.getElem?_eq_none h'] at h
   have hj:all[j]?=some all[j]:=Array.getElem?_eq_getElem ah
   have:j∈Region.ready .any all listed:=mem_ready.2 ⟨h,_,hj,λe J hb=>by
    have T:=(zX U hj).1 e J hb;have:=ih e.on T;have h2:e.on<listed.size:=by omega
    simp[h2] at this |-;exact this⟩
   rw[hr] at this;cases this
theorem abZ {nx:Nat}(hpas:T.pG<=nx){C:Ctx T}{all:Array Oper}{rs:List Rec}{st:St}{n:Nat}{p f:List PV}{D:List Nat}{dl:List Deferred}(F:IW P T all rs p st nx f n){Q:Exit->Act->World->Prop}
  (hQ:∀ a w Y σ stx,a.defers=dl->SW C w Y σ f a.tmps.toList stx n->(∀ b,jr stx b=jr (zJ rs st rs.length) b)->JI C.w0.heap.size D w Y->Q .normal a w):∀ (fuel:Nat) (listed:Array Bool) (a:Act) (w:World),listed.size=all.size->listed.toList.count false=fuel ->
   (∀ j o,all[j]?=some o->listed.getD j true=true->∀ e∈o.after,Region.binds .any e=true->listed.getD e.on true=true) ->
   WG C all rs st n p f D dl listed a w->wpAny P .any all Q fuel listed a w:=by
 have fin:∀ (listed:Array Bool) (a:Act) (w:World),listed.size=all.size->WG C all rs st n p f D dl listed a w->Region.ready .any all listed=[]->Q .normal a w:=by
  intro listed a w hsz hs hr;have hl:=TS F.chk hsz hr;obtain⟨hd,Y,σ,ps,stx,H,hlen,g,hrest,hst,_,hD,_⟩:=hs
  have hpf:∀ t,jD ps t=jD f t:=by
   intro t
   by_cases hex:∃ (j:Nat) (o:Oper),all[j]?=some o/\o.dst=some t
   obtain⟨j,o,hj,J⟩:=hex;exact g j o t hj J (hl j)
   rw[hrest t λj o hj J=>absurd ⟨j,o,hj,J⟩ hex];refine F.keep t λo ho J=>?_;obtain⟨j,hj⟩:=List.getElem?_of_mem ho;exact hex ⟨j,o,by simpa using hj,J⟩
  have heq:zI ps f:=⟨by rw[hlen,F.ae9],λt=>by rw[hpf t];exact Eqv.refl _⟩;refine hQ a w Y σ stx hd (H.rP (H.vals.eqv heq)) (λb=>?_) hD;rw[hst b,KX rs st rs.length 0 b]
  congr 1
  refine zl _ _ _ _ _ λk rk hrk _=>?_;rw[Nat.zero_add,Nat.zero_add,hl k]
  have:k<rs.length:=by
   by_cases hh:k<rs.length
   exact hh
   rw[List.getElem?_eq_none (Nat.le_of_not_lt hh)] at hrk;cases hrk
  simp[this]
 intro fuel
 induction fuel with
 | zero =>
  intro listed a w hsz hc U hs
  have hr:Region.ready .any all listed=[]:=by
   rw[List.eq_nil_iff_forall_not_mem];intro i hi;have I:=(mem_ready.1 hi).1
   have hlt:i<listed.size:=by
    rcases Nat.lt_or_ge i listed.size with h'|h'
    exact h'
    simp[Array.getElem?_eq_none h'] at I
   have hget:listed[i]=false:=by simpa [hlt] using I
   have hm:false∈listed.toList:=by rw[<- hget];simp
   exact (List.count_eq_zero.1 hc) hm
  exact⟨hr,fin listed a w hsz hs hr⟩
 | succ fuel ih =>
  intro listed a w hsz hc U hs;refine⟨fin listed a w hsz hs,λi hi=>?_⟩;have I:=(mem_ready.1 hi).1;refine Yz hpas F hsz U hs hi λa' w' hs'=>ih _ a' w' (by simpa using hsz) (count_set I hc) ?_ hs';intro j o hj hlj e he hb;rw[wY I] at hlj |-;rcases hlj with h|h
  subst h;obtain⟨_,o',ho',hall⟩:=mem_ready.1 hi;rw[hj] at ho';cases ho';have:=hall e he hb;refine .inr ?_;rcases Nat.lt_or_ge e.on listed.size with h'|h'
  simp[h'] at this |-;exact this
  simp[Array.getElem?_eq_none h'] at this
  exact .inr (U j o hj h e he hb)
theorem pY:∀ (st:St),lS st=true->NNs st
 | [],_,b,sz,rows,h=>by simp[jr] at h
 | (c,x)::st,h,b,sz,rows,hb=>by
  have h1:lS st=true/\∀ sz rows,x≠some (.l7 sz rows):=by
   cases x with
   | none=>exact⟨by simpa [lS] using h,by simp⟩
   | some y=>cases y<;>simp_all[lS]
  simp only[jr] at hb
  cases hc:Nat.beq c b with
  | true=>rw[hc] at hb;exact h1.2 _ _ hb
  | false=>rw[hc] at hb;exact pY st h1.1 b sz rows hb
theorem KY:∀ (l:List Nat) (b:Nat),wQ l b=true↔b∈l
 | [],b=>by simp[wQ]
 | c::l,b=>by
  simp only[wQ]
  cases hc:Nat.beq c b with
  | true=>simp[Nat.eq_of_beq_eq_true hc]
  | false =>
   have:¬ b=c:=λe=>by subst e;rw[Nat.beq_refl] at hc;cases hc
   simp[KY l b,this]
theorem YA {st:St}{nx:Nat}:∀ (δ:Dl),okG st nx δ=true->(∀ b,kM δ b≠none->b=nx\/jr st b≠none)/\(∀ b sz rows,kM δ b≠some (some (.l7 sz rows)))/\∀ b,kM δ b≠none->b∈EO δ
 | [],_=>⟨λb h=>absurd rfl h,λb sz rows (h:(none:Option (Option mP))=some (some (.l7 sz rows)))=>(by cases h),λb h=>absurd rfl h⟩
 | (c,x)::δ,h=>by
  simp only[okG,Bool.and_eq_true,Bool.or_eq_true] at h;obtain⟨h1,h2,U⟩:=h;obtain⟨g1,g2,g3⟩:=YA δ U;refine⟨λb hb=>?_,λb sz rows hb=>?_,λb hb=>?_⟩
  simp only[kM] at hb
  cases hl:kM δ b with
  | some y=>exact g1 b fC
  | none =>
   rw[hl] at hb
   by_cases hc:c=b
   subst hc;rcases h2 with h2|h2
   exact .inl (Nat.eq_of_beq_eq_true h2)
   refine .inr λe=>?_;rw[e] at h2;cases h2
   simp[hc] at hb
  simp only[kM] at hb
  cases hl:kM δ b with
  | some y=>rw[hl] at hb;simp only[Option.some.injEq] at hb;subst hb;exact g2 b sz rows hl
  | none =>
   rw[hl] at hb
   by_cases hc:c=b
   subst hc;simp at hb;subst hb;simp at h1
   simp[hc] at hb
  simp only[kM] at hb;simp only[EO]
  cases hl:kM δ b with
  | some y=>exact List.mem_cons_of_mem _ (g3 b fC)
  | none =>
   rw[hl] at hb
   by_cases hc:c=b
   subst hc;simp
   simp[hc] at hb
theorem adp (hT:jv P T)(hW:Bg P){all:Array Oper}{o:Oper}{ps:List PV}{lk:Nat->Option mP}{id:Nat}{v:PV}{δ:Dl}(hF:∀ K' : PV->Dl->Prop,K' v δ->oO T (jb.jJ P T) o.op ps lk id K'):ado P T all o ps lk id 1 v δ:=by
 intro C qs Y σ a w st n hl H hn hlk I hpas hle next Q J
 have H2:=H.Om hn;have h4:=hF (λv' g=>v'=v/\g=δ) ⟨rfl,rfl⟩;rw[<- Qg (xM hl)] at h4;obtain⟨v',g,cv,w',Y',σ',⟨rfl,rfl⟩,U,H',hrep,hoff⟩:=yI hT hW H2 hlk ⟨(I id (Nat.le_refl _) ah).1,hpas⟩ h4;have hni:uz g n id<=n:=by cases g<;>simp[uz]<;>omega
 have H3:=(H.Ih H').mono hni;have:=J cv w' Y' σ' (jL g st) H3 (λb=>xN _ _ _) (λb hb=>hoff b ah) hrep (λB D hD=>hD.step H.store H');unfold Oper.wp;rcases U with U|⟨U,rfl⟩
 rw[U];exact this
 rw[U];exact this
theorem YB {st:St}{nx:Nat}:∀ (δ:Dl),okH st nx δ=true->(∀ b,kM δ b≠none->(nx<=b/\b<nx+32)\/jr st b≠none)/\(∀ b sz rows,kM δ b≠some (some (.l7 sz rows)))/\∀ b,kM δ b≠none->b∈EO δ
 | [],_=>⟨λb h=>absurd rfl h,λb sz rows (h:(none:Option (Option mP))=some (some (.l7 sz rows)))=>(by cases h),λb h=>absurd rfl h⟩
 | (c,x)::δ,h=>by
  simp only[okH,Bool.and_eq_true,Bool.or_eq_true] at h;obtain⟨h1,h2,T⟩:=h;obtain⟨g1,g2,g3⟩:=YB δ T;refine⟨λb hb=>?_,λb sz rows hb=>?_,λb hb=>?_⟩
  simp only[kM] at hb
  cases hl:kM δ b with
  | some y=>exact g1 b fC
  | none =>
   rw[hl] at hb
   by_cases hc:c=b
   subst hc;rcases h2 with ⟨h2,U⟩|h2
   exact .inl ⟨Nat.le_of_ble_eq_true h2,by simpa [Nat.blt_eq] using U⟩
   refine .inr λe=>?_;rw[e] at h2;cases h2
   simp[hc] at hb
  simp only[kM] at hb
  cases hl:kM δ b with
  | some y=>rw[hl] at hb;simp only[Option.some.injEq] at hb;subst hb;exact g2 b sz rows hl
  | none =>
   rw[hl] at hb
   by_cases hc:c=b
   subst hc;simp at hb;subst hb;simp at h1
   simp[hc] at hb
  simp only[kM] at hb;simp only[EO]
  cases hl:kM δ b with
  | some y=>exact List.mem_cons_of_mem _ (g3 b fC)
  | none =>
   rw[hl] at hb
   by_cases hc:c=b
   subst hc;simp
   simp[hc] at hb
theorem Oo {R:List Nat}{st:St}{b:Nat}{x:mP}(h:lkG R st b=some x):b∈R/\jr st b=some x:=by
 unfold lkG at h
 cases hh:wQ R b with
 | true=>rw[hh] at h;exact⟨(KY _ _).1 hh,h⟩
 | false=>rw[hh] at h;cases h
theorem agk {R:List Nat}{st:St}{b:Nat}(h:b∈R):lkG R st b=jr st b:=by
 unfold lkG;rw[(KY _ _).2 h];rfl
theorem ZR (hT:jv P T)(hW:Bg P){all:Array Oper}{o:Oper}{f:Operand}{args:Array Operand}{ts:Array TypeId}(ho:o.op=.call { callee:=.value f,args:=args,argTypes:=ts }){ps:List PV}{lk:Nat->Option mP}{id nx:Nat}{K:PV->Prop}
  (h:opQ T (jb.jJ P T) (.call { callee:=.value f,args:=args,argTypes:=ts }) ps lk id K):∃ v,ado P T all o ps lk nx 0 v []/\K v:=by
 unfold opQ at h;simp only at h
 split at h
 rename_i k caps O
 have main:∀ v,(∀ (C:Ctx T) Y σ w qs vs U st n,(∀ b x,lk b=some x->jr st b=some x)->SW C w Y σ qs vs st n->gV w Y σ (EL (T.hid k) (uX (evA T ps args.toList) caps)) U->Oc P k C Y σ w U qs vs st n v)->ado P T all o ps lk nx 0 v []:=by
  intro v hsem C qs Y σ a w st n hl H hn J _ _ _ next Q g
  have hev:=xM (T:=T) hl;rw[ho] at hev;have hfv:=kX H f;rw[hev f dI,O] at hfv;unfold Rep at hfv;obtain⟨cs,ef,hcs⟩:=hfv;have I:=vF H args.toList;rw[BB (ps:=qs) (qs:=ps) args.toList λx hx=>hev x bF] at I;have hall:=Eu (T.hid k) _ _ (gV.app _ _ _ _ I hcs);have H2:=H.Om hn;obtain⟨hent,hcall⟩:=hsem _ Y σ w qs a.tmps.toList _ st n J H2 (by simpa using hall);unfold Oper.wp;rw[JR ho ef hent];refine Calls.mono hcall λe w' hh=>?_;obtain⟨cv,rfl,H',hv⟩:=hh;exact g cv w' Y σ st (H.Ih H') (λb=>rfl) (λ_ _=>rfl) hv (λB D hD=>hD.step H.store H')
 unfold acH at h
 split at h
 rename_i as hm;obtain⟨v,hF,hK⟩:=h;refine⟨v,main v λC Y σ w qs vs U st n J H hr=>RV H (λb x hb=>?_) hm hr hF,hK⟩
 split at hb
 rename_i e;cases hb;exact⟨J _ _ e,rfl⟩
 rename_i e;cases hb;exact⟨J _ _ e,rfl⟩
 cases hb
 split at h
 rename_i as hm;obtain⟨v,hF,O,hK⟩:=h;exact⟨v,main v λC Y σ w qs vs U st n J H hr=>Qa H J hm hr hF O,hK⟩
 exact h.elim
 exact h.elim
theorem ZT (hT:jv P T)(hW:Bg P){all:Array Oper}{o:Oper}{f:Operand}{args:Array Operand}{ts:Array TypeId}(ho:o.op=.call { callee:=.value f,args:=args,argTypes:=ts }){E:Env}{v:PV}{δ:Dl}
  (hF:∀ K' : PV->Dl->Prop,K' v δ->opW T (jb.jJ P T) (.call { callee:=.value f,args:=args,argTypes:=ts }) E.tmps (jr E.st) E.st E.next true K'):ado P T all o E.tmps (lkG (NR T f args E) E.st) E.next 32 v δ:=by
 intro C qs Y σ a w stn n hl H hn hlk hwin hpas hle next Q hnext
 have g:=hF (λv' δ'=>v'=v/\δ'=δ) ⟨rfl,rfl⟩;unfold opW at g;simp only at g
 split at g
 rename_i k J O;have hev:=xM (T:=T) hl;rw[ho] at hev;have hfv:=kX H f;rw[hev f dI,O] at hfv;unfold Rep at hfv;obtain⟨cs,ef,hcs⟩:=hfv;have U:=vF H args.toList;rw[BB (ps:=qs) (qs:=E.tmps) args.toList λx hx=>hev x bF] at U;have hall:=Eu (T.hid k) _ _ (gV.app _ _ _ _ U hcs);have hR:NR T f args E=F6 (EL (T.hid k) (uX (evA T E.tmps args.toList) J)) E.st:=by unfold NR;rw[O]
 rw[hR] at hlk;unfold SN at g
 split at g
 rename_i I;simp only[Bool.and_eq_true] at I;obtain⟨c1,c2,c3⟩:=I;obtain⟨v0,st1,n1,h0,hF0,hK⟩:=g
 split at hK
 rename_i hb;obtain⟨rfl,rfl⟩:=hK;have hb:=Nat.le_of_ble_eq_true hb
 have hren:=Nj (st:=E.st) (st':=stn) (CQ (F6 (EL (T.hid k) (uX (evA T E.tmps args.toList) J)) E.st)) (F6 (EL (T.hid k) (uX (evA T E.tmps args.toList) J)) E.st) 0 λb hb=>by
  obtain⟨x,hx⟩:=Qh _ c3 b hb;rw[hx,hlk b x (by rw[agk hb];exact hx)]
 rw[hren] at h0 hF0;have H2:=H.Om hn;obtain⟨hent,hcall⟩:=Wx (E:=⟨qs,stn,E.next⟩) (n0:=n) (N:=n) (v:=v0) (st1:=st1) H2 c2 c1 h0 hpas (λb hb1 hb2=>(hwin b hb1 (by simp only at hb2;omega)).1) ⟨by simp only;omega,Nat.le_refl _⟩ hall hF0;unfold Oper.wp;rw[JR ho ef hent];refine Calls.mono hcall λe w' hh=>?_;obtain⟨cv,Y',σ',rfl,H',hv',hoff⟩:=hh;have H3:=H.Ih H';refine hnext cv w' Y' σ' _ H3 (λb=>?_) (λb hb'=>hoff b aC) hv' (λB D hD=>hD.step H.store H');show jr (X8 _ _ _ _ _) b=_;rw[WA];exact xN _ _ _
 exact hK.elim
 exact g.elim
 exact g.elim
theorem Oq:∀ (l:List (List Nat×List Nat×List Nat)) x,U7 l x=l++[x]
 | [],x=>rfl
 | y::l,x=>by simp[U7,Oq l x]
theorem IX (hT:jv P T)(hW:Bg P){all:Array Oper}:∀ (l:List Oper) (E:Env) (tr:List Tc) (K:Env->List Tc->Prop),NNs E.st->abG T (jb.jJ P T) l E tr K ->
  ∃ rs E' U,ChF P T all l rs E.tmps E.st E.next E'.tmps E'.st E'.next/\K E' (tr++U)/\(∀ (i:Nat) (r:Rec),rs[i]?=some r->∃ tc,U[i]?=some tc/\agj r tc)
 | [],E,tr,K,_,h=>⟨[],E,[],⟨rfl,rfl,rfl⟩,by rw[List.append_nil];exact h,λi r hr=>by simp at hr⟩
 | o::l,E,tr,K,hnn,h=>by
  unfold abG stepG at h;have g:∀ (v:PV) (e:Env),qf e o.dst v=⟨zW e.tmps o.dst v,e.st,e.next⟩:=λv e=>by cases hd:o.dst<;>simp[qf,zW]
  split at h
  rename_i f args ts ho;unfold afH at h
  split at h
  exact h.elim
  rename_i hg
  split at h
  rename_i hcl;have hcl2:II T o.op=2:=RY hcl bG;rw[ho] at hcl2;obtain⟨v,δ,I,hF⟩:=WB (.inr hcl2) (by simp[ndO]) h
  cases J:okH E.st E.next δ with
  | false=>rw[J] at I;exact I.elim
  | true =>
   rw[J] at I;obtain⟨g1,g2,g3⟩:=YB δ J;rw[g] at I
   have hnn2:NNs (jL δ E.st):=λb sz rows hb=>by
    rw[xN] at hb
    cases hl:kM δ b with
    | none=>rw[hl] at hb;exact hnn b sz rows hb
    | some y=>rw[hl] at hb;have hb:y=some (.l7 sz rows):=hb;exact g2 b sz rows (by rw[hl,hb])
   obtain⟨rs,E',U,hc,hk,ht⟩:=IX hT hW l _ _ K hnn2 I;refine⟨⟨E.tmps,E.tmps,lkG (NR T f args E) E.st,v,δ,E.next,true,true,false⟩::rs,E',(NR T f args E,EO δ,EO δ)::U,⟨32,⟨rfl,?_,λ_=>ZT hT hW ho hF,λe=>by (cases e),λb x hb=>(Oo hb).2,g1,g2⟩,hc⟩,by rw[Oq] at hk;simpa using hk,λi r hr=>?_⟩
   intro C ps Y σ a w st n _ _;simp[Region.wanted,hg]
   cases i with
   | zero =>
    simp at hr;subst hr;refine⟨_,rfl,λb hb=>?_,g3,λb hb=>hb⟩;have hb:lkG (NR T f args E) E.st b≠none:=hb
    cases hx:lkG (NR T f args E) E.st b with
    | none=>exact absurd hx hb
    | some x=>exact (Oo hx).1
   | succ i=>exact ht i r dn
  rename_i hcl;obtain⟨v,hs,I⟩:=ZR hT hW (all:=all) (nx:=E.next) ho h;rw[g] at I;obtain⟨rs,E',U,hc,hk,ht⟩:=IX hT hW l ⟨zW E.tmps o.dst v,E.st,E.next⟩ (U7 tr (NR T f args E,[],[])) K hnn I;refine⟨⟨E.tmps,E.tmps,lkG (NR T f args E) E.st,v,[],E.next,true,true,false⟩::rs,E',(NR T f args E,[],[])::U,⟨0,⟨rfl,?_,λ_=>hs,λe=>by (cases e),λb x hb=>(Oo hb).2,λb hb=>absurd rfl hb,λb sz rows hb=>by cases hb⟩,hc⟩,by rw[Oq] at hk;simpa using hk,λi r hr=>?_⟩
  intro C ps Y σ a w st n _ _;simp[Region.wanted,hg]
  cases i with
  | zero =>
   simp at hr;subst hr;refine⟨_,rfl,λb hb=>?_,λb hb=>absurd rfl hb,λb hb=>by cases hb⟩;have hb:lkG (NR T f args E) E.st b≠none:=hb
   cases hx:lkG (NR T f args E) E.st b with
   | none=>exact absurd hx hb
   | some x=>exact (Oo hx).1
  | succ i=>exact ht i r dn
  exact h.elim
  rename_i hnc;unfold acN at h
  split at h
  rename_i hg
  split at h
  rename_i hq hnd
  have hdet:∃ v δ,(match okG E.st E.next δ with
   | true=>abG T (jb.jJ P T) l (qf ⟨E.tmps,jL δ E.st,E.next+1⟩ o.dst v) (U7 tr (rdG T E.tmps o.op,EO δ,EO δ)) K
   | false=>False)/\∀ K' : PV->Dl->Prop,K' v δ->oO T (jb.jJ P T) o.op E.tmps (lkG (rdG T E.tmps o.op) E.st) E.next K':=by
   cases hQ:isQ o.op with
   | true=>exact aaW hQ h
   | false =>
    rw[hQ] at hq;have hq:(Nat.beq (II T o.op) 1 || Nat.beq (II T o.op) 2)=true:=hq;rw[Bool.or_eq_true] at hq;exact Yx (hq.imp Nat.eq_of_beq_eq_true Nat.eq_of_beq_eq_true) hnd h
  obtain⟨v,δ,I,hF⟩:=hdet
  cases J:okG E.st E.next δ with
  | false=>rw[J] at I;exact I.elim
  | true =>
   rw[J] at I;obtain⟨g1,g2,g3⟩:=YA δ J;have g:∀ (e:Env),qf e o.dst v=⟨zW e.tmps o.dst v,e.st,e.next⟩:=λe=>by cases hd:o.dst<;>simp[qf,zW]
   rw[g] at I
   have hnn2:NNs (jL δ E.st):=λb sz rows hb=>by
    rw[xN] at hb
    cases hl:kM δ b with
    | none=>rw[hl] at hb;exact hnn b sz rows hb
    | some y=>rw[hl] at hb;have hb:y=some (.l7 sz rows):=hb;exact g2 b sz rows (by rw[hl,hb])
   obtain⟨rs,E',U,hc,hk,ht⟩:=IX hT hW l _ _ K hnn2 I;refine⟨⟨E.tmps,E.tmps,lkG (rdG T E.tmps o.op) E.st,v,δ,E.next,true,true,false⟩::rs,E',(rdG T E.tmps o.op,EO δ,EO δ)::U,⟨1,⟨rfl,?_,λ_=>adp hT hW hF,λe=>by (cases e),λb x hb=>?_,λb hb=>?_,g2⟩,hc⟩,by rw[Oq] at hk;simpa using hk,λi r hr=>?_⟩
   intro C ps Y σ a w st n _ _;simp[Region.wanted,hg]
   show jr E.st b=some x;have hb:lkG (rdG T E.tmps o.op) E.st b=some x:=hb;unfold lkG at hb
   cases hh:wQ (rdG T E.tmps o.op) b with
   | true=>rw[hh] at hb;exact hb
   | false=>rw[hh] at hb;cases hb
   rcases g1 b hb with rfl|h1
   exact .inl ⟨Nat.le_refl _,by omega⟩
   exact .inr h1
   cases i with
   | zero =>
    simp at hr;subst hr;refine⟨_,rfl,λb hb=>?_,g3,λb hb=>hb⟩;have hb:lkG (rdG T E.tmps o.op) E.st b≠none:=hb;unfold lkG at hb
    cases hh:wQ (rdG T E.tmps o.op) b with
    | true=>exact (KY _ _).1 hh
    | false=>rw[hh] at hb;exact absurd rfl hb
   | succ i=>exact ht i r dn
  exact h.elim
  exact h.elim
theorem ZU (hT:jv P T)(hW:Bg P){id:Nat}{l:Array Oper}{E:Env}{K:Env->Prop}(J:ltS E.next E.st=true)(hnn:lS E.st=true)(h:abG T (jb.jJ P T) l.toList E [] λE tr=>(jb.jJ P T).abC l tr (K E)) :
  ∀ (C:Ctx T) a w,lI C E a w->∀ Q:Exit->Act->World->Prop,(∀ E' a' w',lI C E' a' w'->K E'->Q .normal a' w')->(Code.region id l true).wp P Q a w:=by
 intro C a w hA Q hQ;obtain⟨rs,E',tr,I,⟨g,hK⟩,h5⟩:=IX hT hW (all:=l) l.toList E [] _ (pY _ hnn) h;rw[List.nil_append] at g;obtain⟨hc1,hc2⟩:=TR g;obtain⟨⟨Y,σ,H⟩,hdf⟩:=hA;obtain⟨hl1,hl2,hl3⟩:=I.len _ _
 have F:IW P T l rs E.tmps E.st E.next E'.tmps E'.next:=by
  refine⟨hc1,by simpa using hl1,λi o hi=>?_,hl2,λt ht=>I.keep _ _ ht,λb hb=>?_,λi k ri rk hik hi hk hc=>?_⟩
  obtain⟨r,q,m,a0,a1,a2,a3,a4,a6,a7,a8⟩:=I.get _ _ i o bZ;exact⟨r,q,m,a0,a1,a2,a3,a4,λt ht=>a6 t λj oj hj hoj=>ht j oj hj dA,λt ht=>a7 t λj oj hj hoj=>ht j oj hj dA,λd hd J hn=>a8 d hd J λj oj hj hoj=>hn j oj hj dA⟩
  cases hx:jr E.st b with
  | none=>rfl
  | some x=>exact absurd (TQ _ J b (by rw[hx];simp)) ah
  obtain⟨x,hx,hx2⟩:=h5 i ri hi;obtain⟨y,hy,hy2⟩:=h5 k rk hk;have:=Vq tr 0 hc2 i k x y hik hx hy;rw[Nat.zero_add,Nat.zero_add] at this;exact ZQ hx2 hy2 this hc
 have hrep:∀ j,j<l.size->(Array.replicate l.size false).getD j true=false:=λj hj=>by simp[hj]
 have hno:∀ j o,l[j]?=some o->(Array.replicate l.size false).getD j true=true->False:=by
  intro j o hj U
  have J:j<l.size:=by
   rcases Nat.lt_or_ge j l.size with h'|h'
   exact h'
   simp[Array.getElem?_eq_none h'] at hj
  rw[hrep j J] at U;cases U
 refine wp_region_any hW.mixed (abZ (C:=C) (D:=[]) (dl:=C.df) H.fix.1 F (λa' w' Y' σ' stx hd' H' hstx hD'=>hQ E' a' w' ⟨⟨Y',σ',H'.ext λb x hx=>?_⟩,hd',hdf.2⟩ hK) l.size _ a _ aS ?_ ?_ ?_)
 rw[hstx b,<- I.fin];exact hx
 simp
 intro j o hj U;exact (hno j o hj U).elim
 refine⟨hdf.1,Y,σ,E.tmps,E.st,(H.drawn _).mono hl3,rfl,?_,λt _=>rfl,λb=>?_,λj hj _ b hb1 _=>?_,⟨List.nodup_nil,λr hr=>by cases hr⟩,pY _ hnn⟩
 intro j o t hj hdst U;exact (hno j o hj U).elim
 rw[Ig _ _ _ _ λk r hr hDD=>?_];· rfl
 rw[Nat.zero_add] at hDD;obtain⟨ok,hok⟩:=F.oper hr;exact (hno k ok hok hDD).elim
 obtain⟨_,_,_,_,_,_,_,h6,_⟩:=F.get j _ (Array.getElem?_eq_getElem hj);exact H.next b (Nat.le_trans h6 hb1)
end
end Go.Pv
namespace Go.Pv
open Go
theorem lift_seq {T:Tab}{C:Ctx T}{P:Program}{b:Code}{Q:Post}{nx:Env->Prop}(hb:∀ E a w,lI C E a w->nx E->b.wp P (lift C Q) a w):∀ e a w,lift C (GR nx Q) e a w->Exit.then (b.wp P (lift C Q)) (lift C Q) e a w:=by
 intro e a w h
 cases e with
 | normal=>obtain⟨E,hA,hq⟩:=h;exact hb E a w hA hq
 | ret=>obtain⟨E,hA,hq⟩:=h;exact⟨E,hA,hq⟩
 | exit n=>obtain⟨E,hA,hq⟩:=h;exact⟨E,hA,hq⟩
 | _=>exact h.elim
theorem adq {T:Tab}{C:Ctx T}{Q U : Post}(h:∀ n E,Q n E->∃ F,Ent T E F/\U n F):∀ e a w,lift C Q e a w->lift C U e a w:=by
 intro e a w hq
 have go:∀ n,(∃ E,lI C E a w/\Q n E)->∃ E,lI C E a w/\U n E:=by
  rintro n ⟨E,hA,hq⟩
  obtain⟨F,h1,h2⟩:=h n E hq;exact⟨F,h1 C a w hA,h2⟩
 cases e with
 | normal=>exact go 0 hq
 | ret=>exact go 1 hq
 | exit n=>exact go (n+2) hq
 | _=>exact hq.elim
theorem zn {P:Program}{T:Tab}(hT:jv P T)(hW:Bg P):∀ (c:Code) (Q:Post) (E:Env),Hz T (jb.jJ P T) c Q E->RN P T c Q E:=by
 intro c
 induction c with
 | skip=>intro Q E h C a w hA;exact wp_skip ⟨E,hA,h⟩
 | region id l dr =>
  intro Q E h C a w hA
  cases dr with
  | true =>
   simp only[Hz] at h
   cases g:wQ T.cut (1000+id) with
   | true =>
    rw[g] at h;simp only[cond_true] at h
    cases hl:(ltS E.next E.st&&lS E.st) with
    | false=>rw[hl] at h;exact h.elim
    | true =>
     rw[hl] at h;rw[Bool.and_eq_true] at hl;exact ZU hT hW hl.1 hl.2 h C a w hA _ λJ I w' U hK=>⟨J,U,hK⟩
   | false =>
   rw[g] at h;obtain⟨h1,h2⟩:=h
   cases hl:ltS E.next E.st with
   | false=>rw[hl] at h2;exact h2.elim
   | true=>rw[hl] at h2;exact ZO hT hW h1 hl h2 C a w hA _ λJ I w' U hK=>⟨J,U,hK⟩
  | false=>exact ZI hT hW h hA λJ I w' U hK=>⟨J,U,hK⟩
 | seq x y ihx ihy =>
  intro Q E h C a w hA;simp only[Hz] at h
  cases hs:acO T.cut x y with
  | true =>
   rw[hs] at h;exact wp_seq (wp_mono (ihx _ E h C a w hA) (lift_seq λJ I w' U hq=>ihy Q J hq C I w' U))
  | false =>
   rw[hs] at h;obtain⟨Q',h1,h2⟩:=h;refine wp_seq (wp_mono (wp_mono (ihx Q' E h1 C a w hA) (adq h2)) (lift_seq λJ I w' U hq=>ihy Q J hq C I w' U))
 | cond c x y ihx ihy =>
  intro Q E h C a w hA
  cases c with
  | tmp c =>
   simp only[Hz] at h;have U:=hA;obtain⟨⟨Y,σ,H⟩,hd⟩:=U;have hg:=H.vals.get _ _ c;have hev:a.eval (.tmp c)=a.tmps.toList.getD c Go.undef:=by simp[Act.eval,Array.getD_eq_getD_getElem?,List.getD_eq_getElem?_getD]
   split at h
   rename_i e;rw[e] at hg;exact wp_cond_true (by rw[hev];exact yz hg) (ihx Q E h C a w hA)
   rename_i e;rw[e] at hg;exact wp_cond_false (by rw[hev];exact yz hg) (ihy Q E h C a w hA)
   rename_i t e;have hg2:=hg;rw[e] at hg2;refine wp_cond_split (t:=t) (by rw[hev];exact JJ hg2) (λht=>?_) (λht=>?_)
   exact ihx Q _ (h.1 ht) C a w ⟨⟨Y,σ,H.pI e true ht⟩,hd⟩
   exact ihy Q _ (h.2 ht) C a w ⟨⟨Y,σ,H.pI e false ht⟩,hd⟩
   exact h.elim
  | const v =>
   cases v with
   | bool b =>
    cases b with
    | true=>exact wp_cond_true rfl (ihx Q E h C a w hA)
    | false=>exact wp_cond_false rfl (ihy Q E h C a w hA)
   | _=>exact (by simp[Hz] at h)
  | _=>exact (by simp[Hz] at h)
 | block id b ih =>
  intro Q E h C a w hA;refine wp_block (wp_mono (ih _ E h C a w hA) λe I w' hq=>?_)
  cases e with
  | normal=>exact hq
  | ret=>exact hq
  | exit n =>
   obtain⟨J,U,hq⟩:=hq;simp only[Exit.inBlock];have hq:(bif Nat.beq n id then Q 0 J else Q (n+2) J):=hq
   by_cases hn:n=id
   rw[if_pos hn];subst hn;simp only[Nat.beq_refl,cond_true] at hq;exact⟨J,U,hq⟩
   rw[if_neg hn];rw[P6 hn] at hq;exact⟨J,U,hq⟩
  | _=>exact hq.elim
 | loop b ih=>intro Q E h;exact h
 | scope b ih =>
  intro Q E h C a w hA;refine wp_scope_straight (wp_mono (ih Q E h C a w hA) λe I w' hq=>?_)
  cases e with
  | normal=>exact hq
  | ret=>exact hq
  | exit n=>exact hq
  | _=>exact hq.elim
 | label l=>intro Q E h C a w hA;exact wp_label ⟨E,hA,h⟩
 | exit n=>intro Q E h C a w hA;exact wp_exit ⟨E,hA,h⟩
 | ret=>intro Q E h C a w hA;exact wp_ret ⟨E,hA,h⟩
 | _=>intro Q E h;exact (by simp[Hz] at h)
end Go.Pv
namespace Go.Pv
open Go
theorem SW.ZV {T:Tab}{C:Ctx T}{w:World}{Y:Nat->Prop}{σ:Sg}{ps:List PV}{vs:List Value}{st:St}{n:Nat}(H:SW C w Y σ ps vs st n){b r m sz:Nat}{rows:List (List PV)}{cv:Value}
  (hb:jr st b=some (.arr false sz rows)) (hv:Rep w Y σ (.os b r m) cv) :
  ∃ σ',SW C w Y σ' ps vs (oH (oH st b none) n (some (.arr false sz ((rows.drop r).take m)))) (n+1)/\Rep w Y σ' (.os n 0 m) cv/\ou σ σ':=by
 have hn:=H.next n (Nat.le_refl _)
 have nb:b≠n\/σ b=none:=by
  by_cases h:b=n
  right;rw[h];exact hn
  exact .inl h
 have old:∀ c x,jr (oH st b none) c=some x->c≠b/\jr st c=some x:=by
  intro c x h;rw[iR] at h
  by_cases hc:b=c
  rw[if_pos hc] at h;cases h
  rw[if_neg hc] at h;exact⟨λe=>hc e.symm,h⟩
 have hv0:=hv;unfold Rep at hv;rcases hv with ⟨l,cap,hs,ev,hmc,htot,hnr⟩|⟨hm,a,ev⟩
 let l' : Loc:=⟨l.cb,l.co+r*l.sz,l.sz,l.tot,m⟩
 let σ' : Sg:=λk=>if k=n then some l' else σ k
 have hσ:∀ k,k≠n->σ' k=σ k:=λk h=>if_neg h;have I:σ' n=some l':=if_pos rfl
 have hle:ou σ σ':=by
  intro k x h
  by_cases hk:k=n
  rw[hk,hn] at h;cases h
  rw[hσ k hk];exact h
 have K:Keep w w Y Y σ σ':=⟨λ_ _ _=>rfl,λ_ _ h=>h,Nat.le_refl _,hle⟩;have hbn:b≠n:=by intro e;rw[e,hn] at hs;cases hs
 obtain⟨lb,hlb,hB⟩|⟨hno,_⟩:=H.store.blk b _ hb
 rw[hs] at hlb;cases hlb;unfold iw at hB;obtain⟨hat,hsz,hpos,⟨hfit,hnrw⟩,hrows,hY1,hY2⟩:=hB;have hlen:((rows.drop r).take m).length=m:=by rw[List.length_take,List.length_drop];omega
 refine⟨σ',⟨gV.keep _ K _ H.vals,⟨?_,?_⟩,?_,H.vw,H.y0,H.c0,H.wI,H.qh,?_,H.wJ,⟨by have:=H.fix.1;omega,?_⟩,?_⟩,?_,hle⟩
 intro c x hx;rw[iR] at hx
 by_cases hc:n=c
 rw[if_pos hc] at hx;cases hx;subst hc;refine .inl ⟨l',I,?_⟩;unfold iw;refine⟨⟨hat.blk⟩,hsz,hpos,⟨?_,hlen⟩,?_,hY1,λh=>by cases h⟩
 rw[hlen];show l.co+r*l.sz+m*sz<=l.tot;have:m*l.sz<=cap*l.sz:=Nat.mul_le_mul_right _ hmc.1;rw[<- hsz] at *;omega
 show jG w Y iW l.cb sz _ (l.co+r*l.sz);rw[hsz];exact jG.take m _ _ (jG.drop r _ _ hrows)
 rw[if_neg hc] at hx;obtain⟨_,hx⟩:=old c x hx;rcases H.store.blk c x hx with ⟨l2,h2,hB2⟩|⟨h2,h3⟩
 exact .inl ⟨l2,hle _ _ h2,iw.keep K rfl Iff.rfl hB2⟩
 exact .inr ⟨by rw[hσ c (λe=>hc e.symm)];exact h2,h3⟩
 intro c g x x' lc lc' hx U hl J e;rw[iR] at hx U
 by_cases hc:n=c
 by_cases hc' : n=g
 rw[<- hc,<- hc']
 rw[if_neg hc'] at U;obtain⟨hcb,U⟩:=old g x' U;subst hc;rw[I] at hl;cases hl;rw[hσ g (λe=>hc' e.symm)] at J;exact absurd (H.store.inj b g _ x' l lc' hb U hs J e).symm hcb
 rw[if_neg hc] at hx;obtain⟨hcb,hx⟩:=old c x hx;rw[hσ c (λe=>hc e.symm)] at hl
 by_cases hc' : n=g
 subst hc';rw[I] at J;cases J;exact absurd (H.store.inj c b x _ lc l hx hb hl hs e) hcb
 rw[if_neg hc'] at U;obtain⟨_,U⟩:=old g x' U;rw[hσ g (λe=>hc' e.symm)] at J;exact H.store.inj c g x x' lc lc' hx U hl J e
 intro k hk;rw[hσ k ah];exact H.next k ah
 intro c x lc hx hl;rw[iR] at hx
 by_cases hc:n=c
 subst hc;rw[I] at hl;cases hl;exact H.own b _ l hb hs
 rw[if_neg hc] at hx;obtain⟨_,hx⟩:=old c x hx;rw[hσ c (λe=>hc e.symm)] at hl;exact H.own c x lc hx hl
 intro k hk;rw[hσ k (by have:=H.fix.1;omega)];exact H.fix.2 k hk
 have ow:∀ c rr cc h sz' es,nz (oH (oH st b none) n (some (.arr false sz ((rows.drop r).take m)))) c rr cc h sz' es->nz st c rr cc h sz' es:=by
  rintro c rr cc h sz' es ⟨s0,rws,row,h1,h2⟩
  rw[iR] at h1
  by_cases hc:n=c
  rw[if_pos hc] at h1;cases h1
  rw[if_neg hc] at h1;exact⟨s0,rws,row,(old c _ h1).2,h2⟩
 refine⟨λ_ _ _ _ _ _ h=>H.nest.rep _ _ _ _ _ _ (ow _ _ _ _ _ _ h),λ_ _ _ _ _ _ h=>H.nest.old _ _ _ _ _ _ (ow _ _ _ _ _ _ h),λ_ _ _ _ _ _ _ _ _ _ _ _ h h'=>H.nest.one _ _ _ _ _ _ _ _ _ _ _ _ (ow _ _ _ _ _ _ h) (ow _ _ _ _ _ _ h'),?_⟩;intro c rr cc h sz' es g x lc ho hx hl;rw[iR] at hx
 by_cases hc:n=g
 subst hc;rw[I] at hl;cases hl;exact H.nest.sep _ _ _ _ _ _ b _ l (ow _ _ _ _ _ _ ho) hb hs
 rw[if_neg hc] at hx;rw[hσ g (λe=>hc e.symm)] at hl;exact H.nest.sep _ _ _ _ _ _ g x lc (ow _ _ _ _ _ _ ho) (old g x hx).2 hl
 unfold Rep;refine .inl ⟨l',cap,I,?_,hmc,?_,?_⟩
 rw[ev];show Value.slice (some ⟨l.cb,l.co+r*l.sz,none⟩) m cap=Value.slice (some ⟨l.cb,l.co+r*l.sz+0*l.sz,none⟩) m cap;rw[Nat.zero_mul,Nat.add_zero]
 show l.co+r*l.sz+0*l.sz+cap*l.sz=l.tot;rw[Nat.zero_mul,Nat.add_zero];exact htot
 show 0+m<=m;omega
 rw[hs] at hno;cases hno
 subst hm;have H1:=(H.drop b).empty (id:=n) ⟨hn,H.fix.1⟩ sz;have hm:max n (n+1)=n+1:=by omega
 rw[hm] at H1;refine⟨σ,by simpa using H1,?_,ou.refl _⟩;unfold Rep;exact .inr ⟨rfl,a,ev⟩
section
variable {P:Program}{T T' : Tab}{C:Ctx T}{w:World}{ps:List PV}{vs:List Value}
theorem Keep.same {w:World}{Y:Nat->Prop}{σ σ' : Sg}(h:ou σ σ'):Keep w w Y Y σ σ':=⟨λ_ _ _=>rfl,λ_ _ h=>h,Nat.le_refl _,h⟩
theorem Keep.ZW {w:World}{Y Y' U:Nat->Prop}{σ σ' T:Sg}(h:Keep w w Y Y' σ σ')(k:Keep w w Y' U σ' T):Keep w w Y U σ T:=⟨λ_ _ _=>rfl,λc hc h2=>h.excl c hc (k.excl c hc h2),Nat.le_refl _,h.sg.trans k.sg⟩
theorem TT (v:PV){Y:Nat->Prop}{σ:Sg}{st:St}{n:Nat}{cv:Value}(H:SW C w Y σ ps vs st n)(hv:Rep w Y σ v cv) :
  ∃ Y' σ',SW C w Y' σ' ps vs (abH (jb.jJ P T') v st n).2.1 (abH (jb.jJ P T') v st n).2.2/\Rep w Y' σ' (abH (jb.jJ P T') v st n).1 cv/\Keep w w Y Y' σ σ':=by
 have same:∃ Y' σ',SW C w Y' σ' ps vs st n/\Rep w Y' σ' v cv/\Keep w w Y Y' σ σ':=⟨Y,σ,H,hv,Keep.same (ou.refl _)⟩;simp only[abH]
 split
 rename_i v' I;obtain⟨Y',H',g⟩:=SW.roS (F6 [v] st) H;have K:Keep w w Y Y' σ σ:=⟨λ_ _ _=>rfl,λk _=>g k,Nat.le_refl _,ou.refl _⟩
 have U:∀ b x l,Zt (roS st (F6 [v] st)) b=some x->σ b=some l->¬ Y' l.cb:=by
  intro b x l h1 h2;obtain⟨h3,h4⟩:=Gg h1;rcases H'.store.blk b x h3 with ⟨l',J,hB⟩|⟨hn,_⟩
  rw[h2] at J;cases J;exact hB.age h4
  rw[h2] at hn;cases hn
 have hr:=BA (P:=P) (T:=T') (Y0:=Y') H'.store (λb x h=>(Gg h).1) (λ_ h=>h) U (λb sz rows hb=>by have:=(Gg hb).2;cases this) 6 v v' cv I (Rep.keep _ K _ hv);exact⟨Y',σ,H',Rep.keep _ ⟨λ_ _ _=>rfl,λ_ _ h=>h,Nat.le_refl _,λb l h=>by simp[iW] at h⟩ _ hr,K⟩
 exact same
theorem Ot (z:Nat×Bool)(v:PV){Y:Nat->Prop}{σ:Sg}{st:St}{n:Nat}{cv:Value}(H:SW C w Y σ ps vs st n)(hv:Rep w Y σ v cv) :
  ∃ Y' σ',SW C w Y' σ' ps vs (GV (jb.jJ P T') z v st n).2.1 (GV (jb.jJ P T') z v st n).2.2/\Rep w Y' σ' (GV (jb.jJ P T') z v st n).1 cv/\Keep w w Y Y' σ σ':=by
 have same:∃ Y' σ',SW C w Y' σ' ps vs st n/\Rep w Y' σ' v cv/\Keep w w Y Y' σ σ':=⟨Y,σ,H,hv,Keep.same (ou.refl _)⟩;obtain⟨z,re⟩:=z
 cases z with
 | zero =>
  cases re with
  | false=>exact same
  | true =>
   simp only[GV]
   split
   rename_i b r m
   split
   rename_i sz rows hb;obtain⟨Y',H',h1,h2,g⟩:=H.aaR hb;have K:Keep w w Y Y' σ σ:=⟨λ_ _ _=>rfl,λk _=>g k,Nat.le_refl _,ou.refl _⟩
   have hr:=BA (P:=P) (T:=T') (Y0:=Y') (lk:=λc=>if c=b then some (.l7 sz rows) else none) H.store (λc x h=>by
     by_cases hc:c=b
     rw[if_pos hc] at h;cases h;rw[hc];exact hb
     rw[if_neg hc] at h;cases h) g (λc x l h hl=>by
     by_cases hc:c=b
     rw[hc] at hl;exact h1 l hl
     rw[if_neg hc] at h;cases h) (λc sz2 U h r' row k h' I J e1 e2 e3=>by
     by_cases hc:c=b
     rw[if_pos hc] at h;cases h;have ho:nz st b r' k h' I J:=⟨sz,rows,row,hb,e1,e2,e3⟩;exact⟨⟨(H.nest.rep _ _ _ _ _ _ ho).lt,h2 _ _ _ _ _ ho⟩,(H.nest.rep _ _ _ _ _ _ ho).rows⟩
     rw[if_neg hc] at h;cases h) 1 (.os b r m) (.sl sz ((jb.jJ P T').fz ((jb.jJ P T').sub rows r m)) false) cv (by simp[frz]) hv
   exact⟨Y',σ,H',Rep.keep _ ⟨λ_ _ _=>rfl,λ_ _ h=>h,Nat.le_refl _,λb l h=>by simp[iW] at h⟩ _ hr,K⟩
   exact TT _ H hv
   exact TT _ H hv
 | succ z =>
  cases v with
  | sl sz J f =>
   cases f with
   | false=>exact same
   | true =>
    cases J with
    | cons _ _=>exact same
    | nil =>
     have H1:=H.empty (id:=n) ⟨H.next _ (Nat.le_refl _),H.fix.1⟩ (z+1);have hm:max n (n+1)=n+1:=by omega
     rw[hm] at H1;refine⟨Y,σ,H1,?_,Keep.same (ou.refl _)⟩;show Rep w Y σ (.os n 0 0) cv;unfold Rep at hv |-;obtain⟨sx,len,cap,e,hl,hc,O,_⟩:=hv;have hl:len=0:=by simpa using hl
     have hc:=O rfl;subst hl;rw[e,hc];exact .inr ⟨rfl,sx,rfl⟩
  | os b r m =>
   cases re with
   | false=>exact same
   | true =>
    show ∃ Y' σ',SW C w Y' σ' ps vs (GV (jb.jJ P T') (z+1,true) (.os b r m) st n).2.1 (GV (jb.jJ P T') (z+1,true) (.os b r m) st n).2.2/\Rep w Y' σ' (GV (jb.jJ P T') (z+1,true) (.os b r m) st n).1 cv/\Keep w w Y Y' σ σ';simp only[GV]
    split
    rename_i hb;obtain⟨σ',H1,h1,h2⟩:=H.ZV hb hv;exact⟨Y,σ',H1,h1,Keep.same h2⟩
    exact same
  | _=>exact same
theorem GZ:∀ (zs:List (Nat×Bool)) (cs:List PV) {Y:Nat->Prop} {σ:Sg} {st:St} {n:Nat} {cvs:List Value},SW C w Y σ ps vs st n->gV w Y σ cs cvs ->
  ∃ Y' σ',SW C w Y' σ' ps vs (BN (jb.jJ P T') zs cs st n).2.1 (BN (jb.jJ P T') zs cs st n).2.2/\gV w Y' σ' (BN (jb.jJ P T') zs cs st n).1 cvs/\Keep w w Y Y' σ σ'
 | z::zs,v::cs,Y,σ,st,n,cvs,H,hv=>by
  unfold gV at hv;obtain⟨c,U,rfl,h1,h2⟩:=hv;obtain⟨Y1,g,H1,h1,k1⟩:=Ot (P:=P) (T':=T') z v H h1;obtain⟨J,T,I,h2,k2⟩:=GZ zs cs H1 (gV.keep cs k1 _ h2);exact⟨J,T,I,by show gV w J T (_::_) _;unfold gV;exact⟨_,_,rfl,Rep.keep _ k2 _ h1,h2⟩,k1.ZW k2⟩
 | [],cs,Y,σ,st,n,cvs,H,hv=>by unfold BN;exact⟨_,σ,H,hv,Keep.same (ou.refl _)⟩
 | z::zs,[],Y,σ,st,n,cvs,H,hv=>by unfold BN;exact⟨_,σ,H,hv,Keep.same (ou.refl _)⟩
theorem QY (zs:List (Nat×Bool))(v:PV){Y:Nat->Prop}{σ:Sg}{st:St}{n:Nat}{cv:Value}(H:SW C w Y σ ps vs st n)(hv:Rep w Y σ v cv) :
  ∃ Y' σ',SW C w Y' σ' ps vs (U8 (jb.jJ P T') zs v st n).2.1 (U8 (jb.jJ P T') zs v st n).2.2/\Rep w Y' σ' (U8 (jb.jJ P T') zs v st n).1 cv/\Keep w w Y Y' σ σ':=by
 unfold U8
 split
 rename_i cs;unfold Rep at hv;obtain⟨J,e,h⟩:=hv;obtain⟨T,U,H1,h1,k1⟩:=GZ (P:=P) (T':=T') zs cs H h;exact⟨T,U,H1,by show Rep w T U (.agg _) _;unfold Rep;exact⟨_,e,h1⟩,k1⟩
 split
 exact Ot _ _ H hv
 exact⟨_,σ,H,hv,Keep.same (ou.refl _)⟩
theorem Ou:∀ (own:List (List (Nat×Bool))) (cs:List PV) {Y:Nat->Prop} {σ:Sg} {st:St} {n:Nat} {cvs:List Value},SW C w Y σ ps vs st n->gV w Y σ cs cvs ->
  ∃ Y' σ',SW C w Y' σ' ps vs (MR (jb.jJ P T') own cs st n).2.1 (MR (jb.jJ P T') own cs st n).2.2/\gV w Y' σ' (MR (jb.jJ P T') own cs st n).1 cvs/\Keep w w Y Y' σ σ'
 | z::zs,v::cs,Y,σ,st,n,cvs,H,hv=>by
  unfold gV at hv;obtain⟨c,U,rfl,h1,h2⟩:=hv;obtain⟨Y1,g,H1,h1,k1⟩:=QY (P:=P) (T':=T') z v H h1;obtain⟨J,T,I,h2,k2⟩:=Ou zs cs H1 (gV.keep cs k1 _ h2);exact⟨J,T,I,by show gV w J T (_::_) _;unfold gV;exact⟨_,_,rfl,Rep.keep _ k2 _ h1,h2⟩,k1.ZW k2⟩
 | [],cs,Y,σ,st,n,cvs,H,hv=>by unfold MR;exact⟨_,σ,H,hv,Keep.same (ou.refl _)⟩
 | z::zs,[],Y,σ,st,n,cvs,H,hv=>by unfold MR;exact⟨_,σ,H,hv,Keep.same (ou.refl _)⟩
theorem QZ (own:List (List (Nat×Bool)))(v:PV){Y:Nat->Prop}{σ:Sg}{st:St}{n:Nat}{cv:Value}(H:SW C w Y σ ps vs st n)(hv:Rep w Y σ v cv) :
  ∃ Y' σ' J,SW C w Y' σ' ps vs (U9 (jb.jJ P T') own v st n).2.1 J/\Rep w Y' σ' (U9 (jb.jJ P T') own v st n).1 cv:=by
 unfold U9
 split
 rename_i cs;unfold Rep at hv;obtain⟨I,e,h⟩:=hv;obtain⟨T,U,H1,h1,_⟩:=Ou (P:=P) (T':=T') own cs H h;exact⟨T,U,_,H1,by show Rep w T U (.EJ _) _;unfold Rep;exact⟨_,e,h1⟩⟩
 split
 obtain⟨T,U,H1,h1,_⟩:=QY (P:=P) (T':=T') _ _ H hv;exact⟨T,U,_,H1,h1⟩
 exact⟨Y,σ,_,H,hv⟩
end
end Go.Pv
namespace Go.Pv
open Go
def adr (tmps:Array Value):ResultVar->Sem Value
 | .tmp t=>pure (tmps.getD t Go.undef)
 | .cell a t=>do loadVar t (<- asAddr (tmps.getD a Go.undef))
theorem ZX (fn:Func)(tmps:Array Value):results fn tmps=(do let vs <- fn.results.mapM (adr tmps);pure (if h:vs.size=1 then vs[0] else .tuple vs)):=by
 unfold results
 congr 1
theorem Q3 {P:Program}{T:Tab}(hT:jv P T){C:Ctx T}{w:World}{Y:Nat->Prop}{σ:Sg}{E:Env}{tmps:Array Value}(H:SW C w Y σ E.tmps tmps.toList E.st E.next) :
  ∀ (rs:List ResultVar) (vs:List PV),S9 T E rs=some vs ->
   ∃ cvs:List Value,(rs.mapM (adr tmps)).run P w=.ok cvs w/\gV w Y σ vs cvs
 | [],vs,h=>by simp[S9] at h;subst h;exact⟨[],by simp,by simp[gV]⟩
 | r::rs,vs,h=>by
  unfold S9 at h
  split at h
  cases h
  rename_i v hv
  split at h
  cases h
  rename_i vs' hvs;cases h;obtain⟨cvs,g,hr⟩:=Q3 hT H rs vs' hvs;have gd:∀ t,tmps.getD t Go.undef=tmps.toList.getD t Go.undef:=by intro t;simp[Array.getD_eq_getD_getElem?,List.getD_eq_getElem?_getD]
  have one:∃ cv,(adr tmps r).run P w=.ok cv w/\Rep w Y σ v cv:=by
   cases r with
   | tmp t =>
    simp[af1] at hv;subst hv;exact⟨tmps.getD t Go.undef,by simp[adr],by rw[gd];exact H.vals.get _ _ t⟩
   | cell c t =>
    simp only[af1] at hv
    split at hv
    rename_i b off agg size z plain kind e1 e2;obtain⟨J,hsize,hagg,hund⟩:=Tj hT e2;have hc:=H.vals.get _ _ c;rw[e1] at hc;unfold Rep at hc;obtain⟨l,hl,ec⟩:=hc
    split at hv
    rename_i ro row hb;have hB:=iw.yA H (λ_ _ h=>h) hb hl;unfold iw at hB
    have hld:loadRow agg size row off (λu=>u=v):=by
     unfold loadRow
     cases agg with
     | true =>
      simp only[cond_true] at hv |-
      cases hh:Nat.ble (off+size) (oG row) with
      | true=>rw[hh] at hv;simp only[cond_true] at hv |-;exact Option.some.inj hv
      | false=>rw[hh] at hv;cases hv
     | false =>
      simp only[cond_false] at hv |-
      cases hh:Nat.blt off (oG row) with
      | true=>rw[hh] at hv;simp only[cond_true] at hv |-;exact Option.some.inj hv
      | false=>rw[hh] at hv;cases hv
    obtain⟨u,cv,rfl,I,hrep⟩:=QS J hsize hagg hund hB.2.2.2.1 hld;refine⟨cv,?_,hrep⟩;simp only[adr];rw[gd,ec];simp only[asAddr,Sem.run_bind,Sem.run_pure,Result.andThen];exact I
    cases hv
    cases hv
  obtain⟨cv,U,hr1⟩:=one;refine⟨cv::cvs,?_,by unfold gV;exact⟨cv,cvs,rfl,hr1,hr⟩⟩;rw[List.mapM_cons];simp only[Sem.run_bind,U,Result.andThen,g,Sem.run_pure]
theorem KZ {P:Program}{T:Tab}(hT:jv P T){C:Ctx T}{w:World}{Y:Nat->Prop}{σ:Sg}{E:Env}{tmps:Array Value}{fn:Func}(H:SW C w Y σ E.tmps tmps.toList E.st E.next){vs:List PV}(h:S9 T E fn.results.toList=some vs) :
  ∃ cv,(results fn tmps).run P w=.ok cv w/\Rep w Y σ (GU vs) cv:=by
 obtain⟨cvs,J,hrep⟩:=Q3 hT H _ _ h;have hl:=hrep.length
 have U:(results fn tmps).run P w=.ok (if h:cvs.toArray.size=1 then cvs.toArray[0] else .tuple cvs.toArray) w:=by
  rw[ZX,Array.mapM_eq_mapM_toList];simp only[Sem.run_bind,map_eq_pure_bind,J,Result.andThen,Sem.run_pure]
 by_cases h1:cvs.length=1
 rw[h1] at hl
 match vs,hl,hrep with
 | [x],_,hrep =>
  obtain⟨cv,rfl,I⟩:=Gf hrep;exact⟨cv,by rw[U];simp,I⟩
 have g:¬ cvs.toArray.size=1:=by simpa using h1
 refine⟨.tuple cvs.toArray,by rw[U,dif_neg g],?_⟩
 have:GU vs=.EJ vs:=by
  match vs,hl with
  | [],_=>rfl
  | [x],hl=>exact absurd hl h1
  | _::_::_,_=>rfl
 rw[this];unfold Rep;exact⟨cvs,rfl,hrep⟩
theorem IY:∀ (st:St),lS st=true->∀ b sz rows,jr st b≠some (.l7 sz rows)
 | [],_,b,sz,rows,h=>by simp[jr] at h
 | (c,x)::st,h,b,sz,rows,hb=>by
  have h1:lS st=true/\∀ sz rows,x≠some (.l7 sz rows):=by
   cases x with
   | none=>exact⟨by simpa [lS] using h,by simp⟩
   | some y=>cases y<;>simp_all[lS]
  simp only[jr] at hb
  cases hc:Nat.beq c b with
  | true=>rw[hc] at hb;exact h1.2 _ _ hb
  | false=>rw[hc] at hb;exact IY st h1.1 b sz rows hb
theorem ET {w:World}{Y:Nat->Prop}{σ:Sg}:∀ n,gV w Y σ (rO n) (List.replicate n Go.undef)
 | 0=>by simp[rO,gV]
 | n+1=>by simp only[rO,List.replicate_succ];unfold gV;exact⟨_,_,rfl,by simp[Rep],ET n⟩
theorem ZY {P:Program}{T:Tab}(hT:jv P T)(hp:T.pG=0)(hW:Bg P){k:Nat}{fn:Func}{c:Code}(O:P.funcs[k]?=some fn)(hb:fn.body=some c)
  (I:∀ args w,(callFunc k args).run P w=.ok (.enter k args) w) {args:List PV} {R:PV->Prop} {m:Nat} (hm:fn.ntmps-args.length=m)
  (h:∀ S,S=jb.jJ P T->Hz T S c (aeK T S fn.results.toList R) ⟨uX args (rO m),[],0⟩) (hyl:T.yl=none:=by rfl):Fn P T.gl k args R:=by
 intro w Y U hG hY J;refine⟨I _ _,?_⟩
 let C:Ctx T:=⟨w,Y,λ_=>False,λ_=>False,iW,[]⟩;have hlen:=J.length
 have H0:SW C w Y iW (uX args (rO m)) ((U.toArray++Array.replicate (fn.ntmps-U.toArray.size) Go.undef).toList) [] 0:=by
  refine⟨?_,⟨λb x h=>by simp[jr] at h,λb b' x x' l l' h=>by simp[jr] at h⟩,λ_ _=>rfl,hY,λ_ h=>h,λk h=>⟨hY k h,λh=>h⟩,λk h _=>.inl h,JG.refl _ w,λb x l h=>by simp[jr] at h,hG,⟨by omega,λ_ _=>rfl⟩,zQ.none (λb sz rows h=>by simp[jr] at h)⟩;have:(U.toArray++Array.replicate (fn.ntmps-U.toArray.size) Go.undef).toList=U++List.replicate m Go.undef:=by simp[hlen,hm]
  rw[this];exact gV.app _ _ _ _ J (ET m)
 have hwp:=zn hT hW c _ _ (h _ rfl) C { tmps:=U.toArray++Array.replicate (fn.ntmps-U.toArray.size) Go.undef,defers:=[] } w ⟨⟨Y,iW,H0⟩,rfl,YOK.none hyl⟩;refine calls_of_wp O hb (wp_mono hwp ?_)
 have key:∀ (a:Act) (w' : World),(∃ E,lI C E a w'/\Ya T (jb.jJ P T) fn.results.toList E R)->a.defers=[]/\∃ v,(results fn a.tmps).run P w'=.ok v w'/\∃ cv u,Ending.returned v=.returned cv/\R u/\Rep w' Y iW u cv/\Chg w w':=by
  rintro a w' ⟨E,⟨⟨Y',σ',H⟩,hd⟩,hr⟩
  refine⟨hd.1,?_⟩;unfold Ya at hr
  split at hr
  rename_i vs hv
  split at hr
  rename_i u hu;obtain⟨cv,hrun,hrep⟩:=KZ hT H hv
  exact⟨cv,hrun,cv,u,rfl,hr,BA H.store (λ_ _ h=>h) H.y0 (λb x l hx hl=>H.away hx hl) (λb sz rows hb r row c h sz' es h1 h2 h3=>by
   have hO:nz E.st b r c h sz' es:=⟨sz,rows,row,hb,h1,h2,h3⟩;have hN:=H.nest.rep _ _ _ _ _ _ hO;refine⟨⟨hN.lt,λhy=>?_⟩,hN.rows⟩;have:=H.c0 _ hy;rcases H.nest.old _ _ _ _ _ _ hO with g|g
   omega
   exact this.2 g) _ _ _ _ hu hrep,H.qh.qh λ_ h=>h⟩
  exact hr.elim
  exact hr.elim
 intro e a w' hq
 cases e with
 | normal=>exact key a w' hq
 | ret=>exact key a w' hq
 | exit n=>obtain⟨E,_,hq⟩:=hq;exact hq.elim
 | _=>exact hq.elim
theorem YC {P:Program}{T:Tab}(hT:jv P T)(hW:Bg P){k:Nat}{fn:Func}{c:Code}(O:P.funcs[k]?=some fn)(hb:fn.body=some c)
  (hcall:∀ args w,(callFunc k args).run P w=.ok (.enter k args) w) {args:List PV} {st:St} {R:PV->St->Nat->Prop} {m:Nat} (hm:fn.ntmps-args.length=m)
  (h:∀ S,S=jb.jJ P T->Hz T S c (acP T S fn.results.toList R) ⟨uX args (rO m),st,T.pG⟩) (hyl:T.yl=none:=by rfl):FnS P T.gl k args st T.pG R:=by
 intro w Y σ U hG hY hn I hst hnn;refine⟨hcall _ _,?_⟩;have hlen:=I.length
 let C:Ctx T:=yf T w Y σ st
 have H0:SW C w Y σ (uX args (rO m)) ((U.toArray++Array.replicate (fn.ntmps-U.toArray.size) Go.undef).toList) st T.pG:=by
  refine⟨?_,hst,hn,hY,λ_ h=>h.1,λk h=>⟨hY k h.1,h.2⟩,λk h _=>?_,JG.refl _ w,λb x l h1 h2=>.inr ⟨b,x,l,h1,h2,rfl⟩,hG,⟨Nat.le_refl _,λ_ _=>rfl⟩,zQ.none (IY st hnn)⟩
  have:(U.toArray++Array.replicate (fn.ntmps-U.toArray.size) Go.undef).toList=U++List.replicate m Go.undef:=by simp[hlen,hm]
  rw[this];exact gV.app _ _ _ _ I (ET m)
  by_cases hi:DW σ st k
  exact .inr ⟨h,hi⟩
  exact .inl ⟨h,hi⟩
 have hwp:=zn hT hW c _ _ (h _ rfl) C { tmps:=U.toArray++Array.replicate (fn.ntmps-U.toArray.size) Go.undef,defers:=[] } w ⟨⟨Y,σ,H0⟩,rfl,YOK.none hyl⟩;refine calls_of_wp O hb (wp_mono hwp ?_)
 have key:∀ (a:Act) (w' : World),(∃ E,lI C E a w'/\QQ T (jb.jJ P T) fn.results.toList E R)->a.defers=[]/\∃ v,(results fn a.tmps).run P w'=.ok v w' /\
   ∃ cv u st' n' Y' σ',Ending.returned v=.returned cv/\R u st' n'/\SW (yf ⟨λ_=>.bad,T.gl,T.pG,[],0,[],[],none,λ_=>[]⟩ w Y σ st) w' Y' σ' [u] [cv] st' n':=by
  rintro a w' ⟨E,⟨⟨Y',σ',H⟩,hd⟩,hr⟩
  refine⟨hd.1,?_⟩;unfold QQ at hr
  split at hr
  rename_i vs hv;obtain⟨cv,hrun,hrep⟩:=KZ hT H hv;have H1:SW C w' Y' σ' [GU vs] [cv] E.st E.next:=H.rP eG
  obtain⟨Y1,σ1,n',H2,g⟩:=QZ (P:=P) (T':=T) T.own (GU vs) H1 hrep;have H3:=H2.rP (show gV w' Y1 σ1 [(U9 (jb.jJ P T) T.own (GU vs) E.st E.next).1] [cv] by unfold gV;exact⟨_,_,rfl,g,by unfold gV;rfl⟩)
  split at hr
  rename_i v st2 n2 he;rw[he] at H3;obtain⟨h1,h2,h3⟩:=JO T.pG st2 [v];obtain⟨σ2,J,_⟩:=H3.X7 h1 h2 h3;refine⟨cv,hrun,cv,_,_,_,Y1,σ2,rfl,hr,⟨?_,J.store,J.next,J.vw,J.y0,J.c0,J.wI,J.qh,J.own,J.wJ,J.fix,J.nest⟩⟩
  simpa only[zH] using J.vals
  exact hr.elim
 intro e a w' hq
 cases e with
 | normal=>exact key a w' hq
 | ret=>exact key a w' hq
 | exit n=>obtain⟨E,_,hq⟩:=hq;exact hq.elim
 | _=>exact hq.elim
end Go.Pv
namespace Go.Pv
open Go
def lkT:List (Nat×TI)->Nat->TI
 | [],_=>.bad
 | (k,i)::l,t=>bif Nat.beq k t then i else lkT l t
def YD (P:Program):List (Nat×TI)->List TI
 | []=>[]
 | (k,_)::l=>(bif Nat.blt k P.types.size then acD P k else .bad)::YD P l
def TU:List (Nat×TI)->List TI
 | []=>[]
 | (_,i)::l=>i::TU l
def aa0 (l:List (Nat×TI))(gl:Nat->Option (List PV))(pG:Nat)(cut:List Nat)(l7:Nat)(own:List (List (Nat×Bool)))(dcl:List (Nat×Nat)):Tab:=⟨lkT l,gl,pG,cut,l7,own,dcl,none,λ_=>[]⟩
theorem YE {P:Program}{gl:Nat->Option (List PV)}{pG:Nat}{cut:List Nat}{l7:Nat}{own:List (List (Nat×Bool))}{dcl:List (Nat×Nat)}:∀ (l:List (Nat×TI)),YD P l=TU l->jv P (aa0 l gl pG cut l7 own dcl)
 | [],_=>λt h=>by simp[aa0,lkT,TI.bad] at h
 | (k,i)::l,h=>λt hk=>by
  have U:=YE (P:=P) (gl:=gl) (pG:=pG) (cut:=cut) (l7:=l7) (own:=own) (dcl:=dcl) l;simp only[aa0] at hk U |-;simp only[YD,TU,List.cons.injEq] at h;simp only[lkT] at hk |-
  cases e:Nat.beq k t with
  | true =>
   rw[e] at hk;simp only[cond_true] at hk |-;have e:=Nat.eq_of_beq_eq_true e;subst e
   cases hb:Nat.blt k P.types.size with
   | true=>rw[hb] at h;rw[Nat.blt_eq] at hb;exact⟨h.1.symm,hb⟩
   | false=>rw[hb] at h;rw[<- h.1] at hk;simp[TI.bad] at hk
  | false =>
   rw[e] at hk;simp only[cond_false] at hk |-;exact U h.2 t hk
theorem RZ {P:Program}{T:Tab}(l:List (Nat×TI))(h:YD P l=TU l)(e:T.ti=lkT l):jv P T:=by
 intro t ht;have k:=YE (gl:=λ_=>none) (pG:=0) (cut:=[]) (l7:=0) (own:=[]) (dcl:=[]) l h t;simp only[aa0] at k;rw[e] at ht |-;exact k ht
def Vr (P:Program)(t:TypeId):Bool :=
 match P.underlying t with
 | none=>false
 | some (.struct fs)=>fs.toList.all λf=>(P.info? f.type).isSome
 | some (.array _ e)=>(P.info? e).isSome
 | some _=>true
def afa (P:Program):Nat->Bool
 | 0=>true
 | n+1=>Vr P n&&afa P n
theorem Vs {P:Program}:∀ n,afa P n=true->∀ t,t<n->Vr P t=true
 | 0,_,t,h=>by omega
 | n+1,h,t,ht=>by
  simp only[afa,Bool.and_eq_true] at h
  by_cases e:t=n
  rw[e];exact h.1
  exact Vs n h.2 t ah
theorem ZZ {info:TypeId->Option TypeInfo}{d:TypeDesc}{i:TypeInfo}(h:Made.reckon info d=some i):∀ n u,i.desc≠.named n u:=by
 intro n u hn;cases d<;>simp only[Made.reckon,Option.bind_eq_bind,Option.pure_def] at h
 case pointer e =>
  obtain⟨j,_,h⟩:=Option.bind_eq_some_iff.1 h
  split at h
  cases h
  split at h
  cases h
  obtain⟨s,_,h⟩:=Option.bind_eq_some_iff.1 h;cases h;cases hn
  obtain⟨s,_,h⟩:=Option.bind_eq_some_iff.1 h;cases h;cases hn
 case struct fs =>
  unfold Made.reckonStruct at h;simp only[Option.bind_eq_bind,Option.pure_def] at h;obtain⟨x,_,h⟩:=Option.bind_eq_some_iff.1 h
  split at h<;>(cases h;cases hn)
 all_goals first
  | (cases h;done)
  | (obtain⟨s,_,h⟩:=Option.bind_eq_some_iff.1 h;cases h;cases hn;done)
  | (
   obtain⟨s,_,h⟩:=Option.bind_eq_some_iff.1 h;obtain⟨s,_,h⟩:=Option.bind_eq_some_iff.1 h;cases h;cases hn;done)
  | (
   obtain⟨s,_,h⟩:=Option.bind_eq_some_iff.1 h;obtain⟨s,_,h⟩:=Option.bind_eq_some_iff.1 h;obtain⟨s,_,h⟩:=Option.bind_eq_some_iff.1 h;obtain⟨s,_,h⟩:=Option.bind_eq_some_iff.1 h;cases h;cases hn;done)
theorem ahi {P:Program}(h:afa P P.types.size=true)(C:P.follows .mixedOrders=true):Bg P:=by
 have key:∀ t,t<P.types.size->Vr P t=true:=Vs _ h;refine⟨?_,?_,?_,C⟩
 intro t ht
 by_cases U:t<P.types.size
 have:=key t U;unfold Vr at this
 cases hu:P.underlying t with
 | none=>rw[hu] at this;cases this
 | some d=>exact⟨d,rfl⟩
 cases hi:P.info? t with
 | none=>exact absurd hi ht
 | some i =>
  have T:=hi;unfold Tables.info? at T;rw[if_neg U,show Made.depth=99+1 from rfl,Made.infoAt,if_neg U] at T;obtain⟨d,_,I⟩:=Option.bind_eq_some_iff.1 T;have J:=ZZ I;refine⟨i.desc,?_⟩;unfold Program.underlying;rw[hi]
  split
  rename_i n u e;cases e;exact absurd rfl (J _ _)
  rename_i e;cases e;rfl
  rename_i e;cases e
 intro t g U hu f O;have:=key t U;unfold Vr at this;rw[hu] at this;have:=List.all_eq_true.1 this f O;intro e;rw[e] at this;cases this
 intro t k e U hu;have:=key t U;unfold Vr at this;rw[hu] at this;simp only at this;intro e;rw[e] at this;cases this
section
variable {P:Program}{T:Tab}{S:jb}(hS:S=jb.jJ P T)
include hS
theorem ahj {b:Bool}{t f:Unit->Prop}(hb:b=true)(h:t ()):S.br b t f:=by subst hS;exact⟨λ_=>h,λe=>(by rw[hb] at e;cases e)⟩
theorem ahk {b:Bool}{t f:Unit->Prop}(hb:b=false)(h:f ()):S.br b t f:=by subst hS;exact⟨λe=>(by rw[hb] at e;cases e),λ_=>h⟩
theorem afb {k:Nat}{args:List PV}{K:PV->Prop}{v:PV}(hF:Fn P T.gl k args (λu=>u=v))(h:K v):S.SC k args K:=by subst hS;exact⟨v,hF,h⟩
theorem afc {k:Nat}{args:List PV}{K:PV->Prop}{v:PV}(hF:Fn P T.gl k args (λu=>u=v))(O:Hy 6 v=true)(h:K v):S.U1 k args K:=by subst hS;exact⟨v,hF,O,h⟩
theorem afd {k:Nat}{args bs as:List PV}{E:Env}{free:Option (List PV)}{ρ:List Nat}{st0:St}{K:PV->Env->Prop}{v:PV}(hF:Fn P T.gl k bs (λu=>u=v))(O:Hy 6 v=true)(h:K v E):S.call k args E (some bs) free ρ as st0 K:=by
 subst hS;exact .inl ⟨bs,v,rfl,hF,O,h⟩
theorem afe {k:Nat}{args bs as:List PV}{E:Env}{U:Option (List PV)}{ρ:List Nat}{st0:St}{K:PV->Env->Prop}{v:PV}(hF:Fn P T.gl k bs (λu=>u=v))(h:K v ⟨E.tmps,roS E.st ρ,E.next⟩):S.call k args E U (some bs) ρ as st0 K:=by
 subst hS;exact .inr (.inl ⟨bs,v,rfl,hF,h⟩)
theorem aa1 {k:Nat}{args as:List PV}{E:Env}{U free:Option (List PV)}{ρ:List Nat}{st0:St}{m:Nat}{K:PV->Env->Prop}{v:PV}{st1:St}{n1:Nat}(hF:FnS P T.gl k as st0 m (λu s n=>u=v/\s=st1/\n=n1))(J:m=lh ρ)(h1:JF ρ=true)(h2:ltN E.next ρ=true)(h0:lS st0=true)
  (h:K (vk (Bf ρ E.next) 8 v) (DV ρ E st1 n1)):S.call k args E U free ρ as st0 K:=by
 subst hS;subst J;exact .inr (.inr (.inl ⟨v,st1,n1,h1,h2,h0,hF,h⟩))
theorem agl {n bytes:Nat}{p:Prop}(h1:(2*n+192)*bytes<=140737488355328)(h2:n<=4611686018427387904)(h:p):S.room n bytes p:=by subst hS;exact⟨h1,h2,h⟩
theorem agm {K:Hdr->Prop}(h:∀ x,K x):S.nu K:=by subst hS;exact h
theorem yX {x y:Hdr}{p:Prop}(e:x=y)(h:p):S.same x y p:=by subst hS;exact⟨e,h⟩
theorem aa2 {l:Array Oper}{p:Prop}(U:EN T l=true)(h:p):S.order l p:=by subst hS;exact⟨U,h⟩
theorem WH {l:Array Oper}{p:Prop}(U:MP l=true)(h:p):S.last l p:=by subst hS;exact⟨U,h⟩
theorem ads {l:Array Oper}{tr:List (List Nat×List Nat×List Nat)}{p:Prop}(U:(EM l l.toList 0&&abK (SX l.toList []) tr 0)=true)(h:p):S.abC l tr p:=by subst hS;exact⟨U,h⟩
theorem ahl {U:List (List PV)}{i:Int}{K:List PV->Prop}{j:Nat}{row:List PV}(hi:i=(j:Int))(hr:U[j]?=some row)(h:K row):S.idx U i K:=by subst hS;exact⟨j,row,hi,hr,h⟩
theorem ahm {n:Nat}{i:Int}{K:Nat->Prop}{j:Nat}(hi:i=(j:Int))(hr:j<n)(h:K j):S.ix n i K:=by subst hS;exact⟨j,hi,hr,h⟩
theorem afJ {rows:List (List PV)}{j:Nat}{K:List PV->Prop}{row:List PV}(hr:rows[j]?=some row)(h:K row):S.row rows j K:=by subst hS;exact⟨row,hr,h⟩
theorem rF {ci:Nat}{U:Env}{A:Post->Prop}{B:Env->Prop}{Q:Post}(h:A (GR B Q)):S.seq ci U A B Q:=by subst hS;exact⟨_,h,λn E h=>⟨E,Ent.refl E,h⟩⟩
end
end Go.Pv
