import Derived.Test.YthfepelpmalckaaGreatDoorD04
set_option linter.all false
namespace Go.Pv
open Go
section
variable {P:Program} {T:Tab}
structure Facts (P:Program) (T:Tab) (all:Array Oper) (rs:List Rec) (st:St) (nx nxf:Nat):Prop where
 len:rs.length=all.size
 old:∀ b,lkS st b ≠ none→b<nx
 ids:∀ (i:Nat) (r:Rec),rs[i]?=some r→r.big=true→r.id=nxAt rs nx i∧nx≤r.id∧r.id+32≤nxf
 small:∀ (i:Nat) (r:Rec),rs[i]?=some r→r.big=false→r.δ=[]
 cls:∀ (i:Nat) (o:Oper) (r:Rec),all[i]?=some o→rs[i]?=some r→r.big=true→(clsX T o=1∧(∃ x,r.δ=[(r.id,some x)])∧r.lk=noLk)∨(clsX T o=2∧(∀ b,keysD r.δ b→b<r.id+32)∧r.lk=lkS (stAt rs st i))
 looks:∀ (i:Nat) (o:Oper) (r:Rec),all[i]?=some o→rs[i]?=some r→r.wb=true→∀ b x,r.lk b=some x→lkS (stAt rs st i) b=some x∧(clsX T o=2∨clsX T o=3) ∧
  (clsX T o=3→∀ (k:Nat) (rk:Rec) (ok:Oper),k<i→rs[k]?=some rk→all[k]?=some ok→rk.big=true→clsX T ok=1→rk.id=b→∃ m om,k<m∧m<i∧all[m]?=some om∧clsX T om=2)
theorem ids_lt {rs:List Rec} {nx i k:Nat} {r r' : Rec} (hik:i<k) (hr:rs[i]?=some r) (hb:r.big=true) (h:r.id=nxAt rs nx i) (h' : r'.id=nxAt rs nx k):r.id+32≤r'.id:=by
 have h1:=nxAt_succ rs nx i r hr
 rw [hb] at h1
 have h2:=nxAt_mono (rs:=rs) (n:=nx) (show i+1≤k by omega)
 rw [h1] at h2
 simp only [bump] at h2
 omega
theorem keys_below {P:Program} {T:Tab} {all:Array Oper}:∀ (l:List Oper) (rs:List Rec) {p:List PV} {st:St} {nx:Nat} {pend:List Nat} {f:List PV} {stf:St} {nxf:Nat},ChD P T all l rs p st nx pend f stf nxf→(∀ b,lkS st b ≠ none→b<nx)→∀ i b,lkS (stAt rs st i) b ≠ none→b<nxAt rs nx i
 | l,rs,_,_,_,_,_,_,_,_,h0,0,b,hb=>by simp only [stAt,nxAt] at hb ⊢; exact h0 b hb
 | [],[],_,_,_,_,_,_,_,_,h0,i+1,b,hb=>h0 b hb
 | o::l,r::rs,_,st,nx,_,_,_,_,h,h0,i+1,b,hb=>by
  simp only [stAt,nxAt] at hb ⊢
  refine keys_below l rs h.2 (fun c hc=>?_) i b hb
  rw [lk_applyD] at hc
  rcases h.1.cls with ⟨h1,h2,_⟩ | ⟨_,h1,h2,_,⟨x,h3⟩,_⟩ | ⟨_,h1,h2,_,h3,_⟩
  ·rw [h2] at hc
   rw [h1]; exact h0 c hc
  ·rw [h1]
   rw [h3] at hc
   simp only [lastD,bump] at hc ⊢
   by_cases hn:nx=c
   ·omega
   ·rw [if_neg hn] at hc
    have:=h0 c hc; omega
  ·rw [h1]
   simp only [bump]
   by_cases hl:lastD r.δ c=none
   ·rw [hl] at hc; have:=h0 c hc; omega
   ·exact h3 c (lastD_keys _ _ hl)
 | [],_::_,_,_,_,_,_,_,_,h,_,_,_,_=>h.elim
 | _::_,[],_,_,_,_,_,_,_,h,_,_,_,_=>h.elim
theorem pend_spec {P:Program} {T:Tab} {all:Array Oper}:∀ (l:List Oper) (rs:List Rec) {p:List PV} {st:St} {nx:Nat} {pend:List Nat} {f:List PV} {stf:St} {nxf:Nat},ChD P T all l rs p st nx pend f stf nxf →
  ∀ i,(∀ k rk ok,k<i→rs[k]?=some rk→l[k]?=some ok→rk.big=true→clsX T ok=1→rk.id∈pendAt T l rs pend i∨∃ m om,k<m∧m<i∧l[m]?=some om∧clsX T om=2) ∧
   (∀ b,b∈pend→b∈pendAt T l rs pend i∨∃ m om,m<i∧l[m]?=some om∧clsX T om=2)
 | l,rs,_,_,_,_,_,_,_,_,0=>by simp only [pendAt]; exact ⟨fun k rk ok h=>by omega,fun b hb=>.inl hb⟩
 | [],[],_,_,_,_,_,_,_,_,i+1=>⟨fun k rk ok _ h=>by simp at h,fun b hb=>.inl hb⟩
 | o::l,r::rs,_,_,_,pend,_,_,_,h,i+1=>by
  obtain ⟨h1,h2⟩:=pend_spec l rs h.2 i
  simp only [pendAt]
  have lift:(∃ m om,m<i∧l[m]?=some om∧clsX T om=2)→∃ m om,0<m∧m<i+1∧(o::l)[m]?=some om∧clsX T om=2:=by
   rintro ⟨m,om,h3,h4,h5⟩
   exact ⟨m+1,om,by omega,by omega,by simpa using h4,h5⟩
  have two:clsX T o=2→∃ m om,m<i+1∧(o::l)[m]?=some om∧clsX T om=2:=fun h=>⟨0,o,by omega,rfl,h⟩
  refine ⟨fun k rk ok hk hr ho hb hc=>?_,fun b hb=>?_⟩
  ·cases k with
   | zero =>
    simp at hr ho; subst hr; subst ho
    have hm:r.id∈pendN T o r pend:=by
     unfold pendN; rw [hb]; simp [hc]
    rcases h2 r.id hm with h3 | h3
    ·exact .inl h3
    ·exact .inr (lift h3)
   | succ k =>
    rcases h1 k rk ok (by omega) (by simpa using hr) (by simpa using ho) hb hc with h3 | ⟨m,om,h3,h4,h5,h6⟩
    ·exact .inl h3
    ·exact .inr ⟨m+1,om,by omega,by omega,by simpa using h5,h6⟩
  ·by_cases hp:b∈pendN T o r pend
   ·rcases h2 b hp with h3 | h3
    ·exact .inl h3
    ·obtain ⟨m,om,_,h4,h5,h6⟩:=lift h3
     exact .inr ⟨m,om,h4,h5,h6⟩
   ·refine .inr (two ?_)
    rcases h.1.cls with ⟨h3,_⟩ | ⟨_,h3,_,h4,_⟩ | ⟨_,h3,_,h4,_⟩
    ·exfalso; apply hp; unfold pendN; rw [h3]; exact hb
    ·exfalso; apply hp; unfold pendN; rw [h3]; simp [h4,hb]
    ·exact h4
 | [],_::_,_,_,_,_,_,_,_,h,_=>h.elim
 | _::_,[],_,_,_,_,_,_,_,h,_=>h.elim
theorem facts_of {all:Array Oper} {rs:List Rec} {p:List PV} {st:St} {nx:Nat} {f:List PV} {stf:St} {nxf:Nat} (h:ChD P T all all.toList rs p st nx [] f stf nxf) (h0:∀ b,lkS st b ≠ none→b<nx):Facts P T all rs st nx nxf:=by
 have hl:=(ChD.len _ _ h).1
 have hnf:=(ChD.fin _ _ h).2
 have get:∀ i r,rs[i]?=some r→∃ o q,all[i]?=some o∧StepOK P T all o r q (stAt rs st i) (nxAt rs nx i) (pendAt T all.toList rs [] i):=by
  intro i r hr
  have hlt:i<rs.length:=by
   by_cases hh:i<rs.length
   ·exact hh
   ·rw [List.getElem?_eq_none (Nat.le_of_not_lt hh)] at hr; cases hr
  have hlt' : i<all.toList.length:=by omega
  obtain ⟨r',q,a0,_,a2,_⟩:=ChD.get _ _ h i _ (List.getElem?_eq_getElem hlt')
  rw [hr] at a0; cases a0
  exact ⟨_,q,by rw [← Array.getElem?_toList]; exact List.getElem?_eq_getElem hlt',a2⟩
 refine ⟨by simpa using hl,h0,fun i r hr hb=>?_,fun i r hr hb=>?_,fun i o r ho hr hb=>?_,fun i o r ho hr hw b x hb=>?_⟩
 ·obtain ⟨o,q,_,hs⟩:=get i r hr
  have hid:r.id=nxAt rs nx i:=by
   rcases hs.cls with ⟨h1,_⟩ | ⟨_,_,h1,_⟩ | ⟨_,_,h1,_⟩
   ·rw [hb] at h1; cases h1
   ·exact h1
   ·exact h1
  refine ⟨hid,by rw [hid]; exact nxAt_start _ _ _,?_⟩
  have hlt:i<rs.length:=by
   by_cases hh:i<rs.length
   ·exact hh
   ·rw [List.getElem?_eq_none (Nat.le_of_not_lt hh)] at hr; cases hr
  have h2:=nxAt_mono (rs:=rs) (n:=nx) (show i+1≤rs.length by omega)
  rw [nxAt_succ _ _ _ _ hr,hb,← hnf] at h2
  simp only [bump] at h2
  omega
 ·obtain ⟨o,q,_,hs⟩:=get i r hr
  rcases hs.cls with ⟨_,h1,_⟩ | ⟨_,h1,_⟩ | ⟨_,h1,_⟩
  ·exact h1
  ·rw [hb] at h1; cases h1
  ·rw [hb] at h1; cases h1
 ·obtain ⟨o',q,ho',hs⟩:=get i r hr
  rw [ho] at ho'; cases ho'
  rcases hs.cls with ⟨h1,_⟩ | ⟨_,_,h1,h2,⟨x,h3⟩,h4⟩ | ⟨_,_,h1,h2,h3,h4⟩
  ·rw [hb] at h1; cases h1
  ·exact .inl ⟨h2,⟨x,by rw [h3,h1]⟩,h4⟩
  ·exact .inr ⟨h2,by rw [h1]; exact h3,h4⟩
 ·obtain ⟨o',q,ho',hs⟩:=get i r hr
  rw [ho] at ho'; cases ho'
  rcases hs.cls with ⟨_,_,h3⟩ | ⟨_,_,_,_,_,h4⟩ | ⟨_,_,_,h2,_,h4⟩
  ·obtain ⟨c1,c2,c3⟩:=h3 hw b x hb
   refine ⟨c3,.inr c1,fun _ k rk ok hk hrk hok hbk hck hid=>?_⟩
   rcases (pend_spec _ _ h i).1 k rk ok hk hrk (by simpa using hok) hbk hck with h5 | ⟨m,om,h5,h6,h7,h8⟩
   ·rw [hid] at h5; exact absurd h5 c2
   ·exact ⟨m,om,h5,h6,by simpa using h7,h8⟩
  ·rw [h4] at hb; cases hb
  ·rw [h4] at hb
   exact ⟨hb,.inl h2,fun h=>by rw [h2] at h; cases h⟩
theorem lenNs0_eq:∀ l:List Oper,lenNs0 l=l.length
 | []=>rfl
 | _::l=>by simp [lenNs0,lenNs0_eq l]
theorem allIn_spec {l:List Nat}:∀ n,allIn l n=true→∀ k,k<n→k∈l
 | 0,_,k,h=>by omega
 | n+1,h,k,hk=>by
  simp only [allIn,Bool.and_eq_true] at h
  rcases Nat.lt_or_ge k n with h' | h'
  ·exact allIn_spec n h.2 k h'
  ·rw [show k=n by omega]; exact (hasN_iff _ _).1 h.1
theorem lastOK_spec {all:Array Oper} (h:lastOK all=true) {i k:Nat} (hi:i+1=all.size) (hk:k<i):Bef all k i:=by
 unfold lastOK at h
 split at h
 ·cases h
 ·rename_i o l e
  have hl:l.length=i:=by
   have:all.toList.length=i+1:=by simpa using hi.symm
   rw [e] at this; simpa using this
  rw [lenNs0_eq,hl] at h
  exact befs_sound all.toList [] (fun k o h=>by simpa using h) (fun i b hb=>by simp [getLL] at hb) i k (allIn_spec _ h _ hk)
theorem FinD.get {all:Array Oper} {K:Env→Prop}:∀ (l:List Oper) (rs:List Rec) {st:St} {f:List PV} {stf:St} {nxf:Nat},FinD P T all K l rs st f stf nxf→(∀ (i:Nat) (r:Rec),rs[i]?=some r→r.nd=false)∧K ⟨f,stf,nxf⟩ ∨
  ∃ (i:Nat) (o:Oper) (r:Rec),i+1=l.length∧i+1=rs.length∧l[i]?=some o∧rs[i]?=some r∧r.nd=true∧(∀ (k:Nat) (r' : Rec),k ≠ i→rs[k]?=some r'→r'.nd=false)∧lastOK all=true∧nxf=r.id+32 ∧
   opE T (Sig.std P T) o.op r.er (lkS (stAt rs st i)) r.id (fun v δ=>bif ltD (r.id+32) δ then K ⟨putT r.er o.dst v,applyD δ (stAt rs st i),r.id+32⟩ else False)
 | [],[],_,_,_,_,h=>.inl ⟨fun i r h=>by simp at h,h⟩
 | [],r::rs,_,_,_,_,h=>h.elim
 | o::l,[],_,_,_,_,h=>h.elim
 | o::l,r::rs,st,f,stf,nxf,h=>by
  cases hn:r.nd with
  | true =>
   obtain ⟨rfl,rfl,h1,h2,h3⟩:=h.1 hn
   exact .inr ⟨0,o,r,rfl,rfl,rfl,rfl,hn,fun k r' hk hr=>by cases k with | zero=>exact absurd rfl hk | succ k=>simp at hr,h1,h2,h3⟩
  | false =>
   rcases FinD.get l rs (h.2 hn) with ⟨h1,h2⟩ | ⟨i,o',r',a1,a2,a3,a4,a5,a6,a7,a8,a9⟩
   ·exact .inl ⟨fun i r' hr=>by cases i with | zero=>simp at hr; rw [← hr]; exact hn | succ i=>exact h1 i r' (by simpa using hr),h2⟩
   ·exact .inr ⟨i+1,o',r',by simp [a1],by simp [a2],by simpa using a3,by simpa using a4,a5,fun k r2 hk hr=>by cases k with | zero=>simp at hr; rw [← hr]; exact hn | succ k=>exact a6 k r2 (by omega) (by simpa using hr),a7,a8,by simpa [stAt] using a9⟩
def Stage {T:Tab} (C:Ctx T) (all:Array Oper) (rs:List Rec) (st:St) (n:Nat) (p f:List PV) (listed:Array Bool) (a:Act) (w:World):Prop :=
 a.defers=[]∧∃ Y σ ps stx,SW C w Y σ ps a.tmps.toList stx n∧ps.length=p.length ∧
  (∀ j o t,all[j]?=some o→o.dst=some t→listed.getD j true=true→Eqv (getL ps t) (getL f t)) ∧
  (∀ t,(∀ j o,all[j]?=some o→o.dst=some t→listed.getD j true=false)→Eqv (getL ps t) (getL p t)) ∧
  (∀ b,lkS stx b=orS st b (lst rs (fun k=>listed.getD k true) 0 b)) ∧
  (∀ j r,rs[j]?=some r→listed.getD j true=false→r.big=true→∀ b,r.id≤b→b<r.id+32→σ b=none)
theorem stage_step (hT:TabOK P T) (hW:PWf P) {KE:Env→Prop} {C:Ctx T} {all:Array Oper} {rs:List Rec} {st:St} {nx n:Nat} {p f:List PV} {stf:St} (hchk:drawOK T all=true) (hch:ChD P T all all.toList rs p st nx [] f stf n) (hF:Facts P T all rs st nx n) (hpas:T.pas≤nx) {listed:Array Bool} {a:Act} {w:World}
  (hsz:listed.size=all.size) (hclosed:∀ j o,all[j]?=some o→listed.getD j true=true→∀ e∈o.after,Region.binds .any e=true→listed.getD e.on true=true)
  (hkeys:∀ i b,lkS (stAt rs st i) b ≠ none→b<nxAt rs nx i)
  (hs:Stage C all rs st n p f listed a w) {i:Nat} (hr:i∈Region.ready .any all listed) {Q:Exit→Act→World→Prop} {K:Act→World→Prop}
  (hND:∀ o r,all[i]?=some o→rs[i]?=some r→r.nd=true→i+1=all.size∧lastOK all=true∧n=r.id+32∧opE T (Sig.std P T) o.op r.er (lkS (stAt rs st i)) r.id (fun v δ=>bif ltD (r.id+32) δ then KE ⟨putT r.er o.dst v,applyD δ (stAt rs st i),r.id+32⟩ else False))
  (hEnd:∀ a' w' E,(∀ k,(listed.setIfInBounds i true).getD k true=true)→ActRep C E a' w'→KE E→K a' w')
  (hK:(∀ r,rs[i]?=some r→r.nd=false)→∀ a' w',Stage C all rs st n p f (listed.setIfInBounds i true) a' w'→K a' w'):wpOp P all Q i K a w:=by
 obtain ⟨hun,o,ho,hall⟩:=mem_ready.1 hr
 obtain ⟨hd,Y,σ,ps,stx,H,hlen,hdone,hrest,hst,hfree⟩:=hs
 have hL:all.toList[i]?=some o:=by simpa using ho
 have hilt:i<listed.size:=by
  rcases Nat.lt_or_ge i listed.size with h | h
  ·exact h
  ·simp [Array.getElem?_eq_none h] at hun
 obtain ⟨r,q,hri,qlen,hS,h6,h7,h8⟩:=hch.get _ _ i o hL
 have hspec:=drawOK_spec hchk ho
 have flen:=(hch.len _ _).2
 have hall' : ∀ e∈o.after,Region.binds .any e=true→listed.getD e.on true=true:=by
  intro e he hb
  have:=hall e he hb
  rcases Nat.lt_or_ge e.on listed.size with h | h
  ·simp [h] at this ⊢; exact this
  ·simp [Array.getElem?_eq_none h]
 have befIn:∀ k,Bef all k i→listed.getD k true=true:=fun k h=>h.ready hclosed o ho hall'
 have befOut:∀ k,Bef all i k→listed.getD k true=false:=fun k h=>by
  cases hk:listed.getD k true with
  | false=>rfl
  | true=>have:=h.listed hclosed hk; rw [hun] at this; cases this
 have look0:∀ t∈o.looksAt all,Eqv (getL ps t) (getL q t):=by
  intro t ht
  by_cases hex:∃ j pj,all[j]?=some pj∧j ≠ i∧pj.dst=some t
  ·obtain ⟨j,pj,hj,hne,hdst⟩:=hex
   obtain ⟨hdd,hor⟩:=hspec.2 j pj hj hne t hdst
   have uniq:∀ k pk,all[k]?=some pk→pk.dst=some t→k=j:=by
    intro k pk hk hkd
    by_cases hkj:k=j
    ·exact hkj
    ·exact absurd hkd ((drawOK_spec hchk hk).2 j pj hj (Ne.symm hkj) t hdst).1
   rcases hor ht with ⟨e,he,hb,heq⟩ | ⟨e,he,hb,heq⟩
   ·have hlj:listed.getD j true=true:=by
     have:=hall' e he hb
     rwa [heq] at this
    have hji:j<i:=by rw [← heq]; exact hspec.1 e he hb
    have hf:=hdone j pj t hj hdst hlj
    have:=h7 t fun k pk hk hpk hkd=>by
     have:=uniq k pk (by simpa using hpk) hkd
     omega
    exact hf.trans this.symm
   ·have hij:i<j:=by rw [← heq]; exact (drawOK_spec hchk hj).1 e he hb
    have hju:listed.getD j true=false:=by
     cases hlj:listed.getD j true with
     | false=>rfl
     | true =>
      have:=hclosed j pj hj hlj e he hb
      rw [heq,hun] at this; cases this
    have hp:=hrest t fun k pk hk hkd=>by
     rw [uniq k pk hk hkd]; exact hju
    have:=h6 t fun k pk hk hpk hkd=>by
     have:=uniq k pk (by simpa using hpk) hkd
     omega
    exact hp.trans this
  ·have hp:=hrest t fun k pk hk hkd=>by
    by_cases hki:k=i
    ·rw [hki]; exact hun
    ·exact absurd ⟨k,pk,hk,hki,hkd⟩ hex
   have:=h6 t fun k pk hk hpk hkd=>hex ⟨k,pk,by simpa using hpk,by omega,hkd⟩
   exact hp.trans this
 have look:∀ t∈o.looksAt all,Eqv (getL ps t) (getL r.e1 t)∧Eqv (getL ps t) (getL r.er t):=fun t ht=>⟨(look0 t ht).trans (hS.e1.2 t),(look0 t ht).trans (hS.er.2 t)⟩
 have big_of:∀ (k:Nat) (rk:Rec),rs[k]?=some rk→∀ b,lastD rk.δ b ≠ none→rk.big=true:=by
  intro k rk hrk b hb
  cases hbig:rk.big with
  | true=>rfl
  | false=>rw [hF.small k rk hrk hbig] at hb; exact absurd rfl hb
 have oper:∀ (k:Nat) (rk:Rec),rs[k]?=some rk→∃ ok,all[k]?=some ok:=by
  intro k rk hrk
  have:k<all.size:=by
   rw [← hF.len]
   by_cases hh:k<rs.length
   ·exact hh
   ·rw [List.getElem?_eq_none (Nat.le_of_not_lt hh)] at hrk; cases hrk
  exact ⟨_,Array.getElem?_eq_getElem this⟩
 have hlk:r.wb=true→∀ b x,r.lk b=some x→lkS stx b=some x:=by
  intro hw b x hb
  obtain ⟨c1,c2,c3⟩:=hF.looks i o r ho hri hw b x hb
  rw [hst b,← c1,lk_stAt rs st i 0 b]
  congr 1
  refine lst_agree _ _ _ _ _ fun k rk hrk hkb=>?_
  rw [Nat.zero_add,Nat.zero_add]
  have hbig:=big_of k rk hrk b hkb
  obtain ⟨ok,hok⟩:=oper k rk hrk
  rcases Nat.lt_trichotomy k i with hki | hki | hki
  ·simp only [hki,decide_true]
   rcases hF.cls k ok rk hok hrk hbig with ⟨d1,⟨y,d2⟩,_⟩ | ⟨d1,d2,_⟩
   ·have hidb:rk.id=b:=by
     rw [d2] at hkb
     simp only [lastD] at hkb
     by_cases hh:rk.id=b
     ·exact hh
     ·rw [if_neg hh] at hkb; exact absurd rfl hkb
    rcases c2 with c2 | c2
    ·exact befIn k (clash_bef hchk hki hok ho (by rw [d1,c2]; rfl))
    ·obtain ⟨m,om,e1,e2,e3,e4⟩:=c3 c2 k rk ok hki hrk hok hbig d1 hidb
     exact befIn k (.trans (clash_bef hchk e1 hok e3 (by rw [d1,e4]; rfl)) (clash_bef hchk e2 e3 ho (by rw [c2,e4]; rfl)))
   ·exact befIn k (clash_bef hchk hki hok ho (by rw [d1]; rcases c2 with c2 | c2 <;> rw [c2] <;> rfl))
  ·subst hki
   simp only [Nat.lt_irrefl,decide_false]
   exact hun
  ·have:¬ k<i:=by omega
   simp only [this,decide_false]
   rcases hF.cls k ok rk hok hrk hbig with ⟨d1,⟨y,d2⟩,_⟩ | ⟨d1,d2,_⟩
   ·have hidb:rk.id=b:=by
     rw [d2] at hkb
     simp only [lastD] at hkb
     by_cases hh:rk.id=b
     ·exact hh
     ·rw [if_neg hh] at hkb; exact absurd rfl hkb
    have h1:=hkeys i b (by rw [c1]; simp)
    have h2:=(hF.ids k rk hrk hbig).1
    have h3:=nxAt_mono (rs:=rs) (n:=nx) (show i≤k by omega)
    omega
   ·exact befOut k (clash_bef hchk hki ho hok (by rw [d1]; rcases c2 with c2 | c2 <;> rw [c2] <;> rfl))
 have lastOut:∀ b,lastD r.δ b ≠ none→∀ (k:Nat) (rk:Rec),i<k→rs[k]?=some rk→listed.getD k true=true→lastD rk.δ b=none:=by
  intro b hb k rk hik hrk hlk
  by_cases hkb:lastD rk.δ b=none
  ·exact hkb
  ·exfalso
   have hbi:=big_of i r hri b hb
   have hbk:=big_of k rk hrk b hkb
   obtain ⟨ok,hok⟩:=oper k rk hrk
   have no:clash (clsX T o) (clsX T ok)=true→False:=fun hc=>by
    have:=befOut k (clash_bef hchk hik ho hok hc)
    rw [hlk] at this; cases this
   rcases hF.cls i o r ho hri hbi with ⟨d1,⟨y,d2⟩,_⟩ | ⟨d1,d2,_⟩
   ·rcases hF.cls k ok rk hok hrk hbk with ⟨g1,⟨z,g2⟩,_⟩ | ⟨g1,_⟩
    ·have e1:r.id=b:=by
      rw [d2] at hb; simp only [lastD] at hb
      by_cases hh:r.id=b
      ·exact hh
      ·rw [if_neg hh] at hb; exact absurd rfl hb
     have e2:rk.id=b:=by
      rw [g2] at hkb; simp only [lastD] at hkb
      by_cases hh:rk.id=b
      ·exact hh
      ·rw [if_neg hh] at hkb; exact absurd rfl hkb
     have:=ids_lt hik hri hbi (hF.ids i r hri hbi).1 (hF.ids k rk hrk hbk).1
     omega
    ·exact no (by rw [d1,g1]; rfl)
   ·rcases hF.cls k ok rk hok hrk hbk with ⟨g1,⟨z,g2⟩,_⟩ | ⟨g1,_⟩
    ·have e2:rk.id=b:=by
      rw [g2] at hkb; simp only [lastD] at hkb
      by_cases hh:rk.id=b
      ·exact hh
      ·rw [if_neg hh] at hkb; exact absurd rfl hkb
     have h1:=d2 b (lastD_keys _ _ hb)
     have:=ids_lt hik hri hbi (hF.ids i r hri hbi).1 (hF.ids k rk hrk hbk).1
     omega
    ·exact no (by rw [d1,g1]; rfl)
 have setD:∀ k,(listed.setIfInBounds i true).getD k true=(if k=i then true else listed.getD k true):=by
  intro k
  by_cases hki:k=i
  ·subst hki; simp [hilt]
  ·rw [if_neg hki]; exact getD_set_ne true (Ne.symm hki)
 have newSt:∀ stn:St,(∀ b,lkS stn b=(match lastD r.δ b with | some x=>x | none=>lkS stx b))→∀ b,lkS stn b=orS st b (lst rs (fun k=>(listed.setIfInBounds i true).getD k true) 0 b):=by
  intro stn hstn b
  rw [hstn b]
  cases hb:lastD r.δ b with
  | none =>
   rw [hst b]
   congr 1
   refine lst_agree _ _ _ _ _ fun k rk hrk hkb=>?_
   rw [Nat.zero_add,setD]
   by_cases hki:k=i
   ·subst hki; rw [hri] at hrk; cases hrk; exact absurd hb hkb
   ·rw [if_neg hki]
  | some x =>
   rw [lst_last rs _ 0 i b r x hri (by rw [Nat.zero_add,setD,if_pos rfl]) hb fun k rk hik hrk hlk=>?_]
   ·rfl
   ·rw [Nat.zero_add,setD,if_neg (by omega)] at hlk
    exact lastOut b (by rw [hb]; simp) k rk hik hrk hlk
 have after:r.nd=false→∀ cv w' Y' σ' qs stn,EqvL ps qs→SW C w' Y' σ' qs a.tmps.toList stn n→(∀ b,lkS stn b=(match lastD r.δ b with | some x=>x | none=>lkS stx b))→(∀ (j:Nat) (rj:Rec),j ≠ i→rs[j]?=some rj→rj.big=true→∀ b,rj.id≤b→b<rj.id+32→σ b=none→σ' b=none)→Rep w' Y' σ' r.v cv→K (a.put o.dst cv) w':=by
  intro hnd0 cv w' Y' σ' qs stn hq H' hstn hfr hv
  refine hK (fun r' hr'=>by rw [hri] at hr'; cases hr'; exact hnd0) _ _ ⟨by rw [put_defers]; exact hd,Y',σ',putT qs o.dst r.v,stn,H'.putT hv o.dst,by rw [putT_length,← hq.1,hlen],?_,?_,newSt stn hstn,?_⟩
  ·intro j oj t hj hdst hlj
   rw [set_listed hun] at hlj
   by_cases hji:j=i
   ·subst hji
    rw [ho] at hj; cases hj
    by_cases hlt:t<qs.length
    ·rw [hdst]
     simp only [putT,getL_setL]
     rw [if_pos ⟨trivial,hlt⟩]
     refine h8 t hdst (by rw [← hlen,hq.1]; exact hlt) fun k pk hk hpk hkd=>?_
     exact absurd hdst ((drawOK_spec hchk ho).2 k pk (by simpa using hpk) (by omega) t hkd).1
    ·rw [getL_ge (by rw [putT_length]; exact Nat.le_of_not_lt hlt),getL_ge (by rw [flen,← hlen,hq.1]; exact Nat.le_of_not_lt hlt)]; exact Eqv.refl _
   ·have hne:=(hspec.2 j oj hj hji t hdst).1
    rw [putT_ne hne]
    rcases hlj with h | h
    ·exact absurd h hji
    ·exact (hq.2 t).symm.trans (hdone j oj t hj hdst h)
  ·intro t ht
   have hne:o.dst ≠ some t:=fun e=>by
    have:=ht i o ho e
    rw [(set_listed hun).2 (.inl rfl)] at this; cases this
   rw [putT_ne hne]
   refine (hq.2 t).symm.trans (hrest t fun k pk hk hkd=>?_)
   have:=ht k pk hk hkd
   cases hlk:listed.getD k true with
   | false=>rfl
   | true=>rw [(set_listed hun).2 (.inr hlk)] at this; cases this
  ·intro j rj hrj hlj hbj
   rw [setD] at hlj
   by_cases hji:j=i
   ·rw [if_pos hji] at hlj; cases hlj
   ·rw [if_neg hji] at hlj
    exact fun b hb1 hb2=>hfr j rj hji hrj hbj b hb1 hb2 (hfree j rj hrj hlj hbj b hb1 hb2)
 have q1:=patch_eqv (sl:=o.looksAt all) (er:=r.e1) (ps:=ps) fun t ht=>(look t ht).1
 have q2:=patch_eqv (sl:=o.looksAt all) (er:=r.er) (ps:=ps) fun t ht=>(look t ht).2
 have l1:r.e1.length=ps.length:=by rw [← hS.e1.1,hlen]; assumption
 have l2:r.er.length=ps.length:=by rw [← hS.er.1,hlen]; assumption
 have hwb:=hS.gd C _ Y σ a w stx n (patch_looks l1) (H.vals' (H.vals.eqv q1)) hd
 unfold wpOp
 simp only [ho]
 cases hw:r.wb with
 | true =>
  rw [hw] at hwb
  rw [if_pos hwb]
  cases hnd:r.nd with
  | true =>
   obtain ⟨g1,g2,g3,g4⟩:=hND o r ho hri hnd
   have hoth:∀ k,k ≠ i→listed.getD k true=true:=fun k hk=>by
    rcases Nat.lt_or_ge k i with h | h
    ·exact befIn k (lastOK_spec g2 g1 h)
    ·have:listed[k]?=none:=Array.getElem?_eq_none (by omega)
     simp [this]
   have hq:EqvL ps q:=⟨by rw [hlen]; exact qlen.symm,fun t=>by
    by_cases hex:∃ j pj,all[j]?=some pj∧j ≠ i∧pj.dst=some t
    ·obtain ⟨j,pj,hj,hne,hdst⟩:=hex
     have hf:=hdone j pj t hj hdst (hoth j hne)
     have:=h7 t fun k pk hk hpk hkd=>by
      have hki:k=i:=by
       have:k<all.size:=by
        by_cases hh:k<all.size
        ·exact hh
        ·rw [Array.getElem?_toList,Array.getElem?_eq_none (Nat.le_of_not_lt hh)] at hpk; cases hpk
       omega
      subst hki
      rw [hL] at hpk; cases hpk
      exact (hspec.2 j pj hj hne t hdst).1 hkd
     exact hf.trans this.symm
    ·have hp:=hrest t fun k pk hk hkd=>by
      by_cases hki:k=i
      ·rw [hki]; exact hun
      ·exact absurd ⟨k,pk,hk,hki,hkd⟩ hex
     have:=h6 t fun k pk hk hpk hkd=>hex ⟨k,pk,by simpa using hpk,by omega,hkd⟩
     exact hp.trans this⟩
   have H1:SW C w Y σ r.er a.tmps.toList (stAt rs st i) n:=(H.vals' (H.vals.eqv (hq.trans hS.er))).ext fun b x hb=>by
    rw [hst b,← hb,lk_stAt rs st i 0 b]
    congr 1
    refine lst_agree _ _ _ _ _ fun k rk hrk _=>?_
    rw [Nat.zero_add,Nat.zero_add]
    by_cases hki:k=i
    ·subst hki; rw [hun]; simp
    ·rw [hoth k hki]
     have:k<all.size:=by
      rw [← hF.len]
      by_cases hh:k<rs.length
      ·exact hh
      ·rw [List.getElem?_eq_none (Nat.le_of_not_lt hh)] at hrk; cases hrk
     simp; omega
   have hb:=(hS.ndw hnd).2
   obtain ⟨i1,i2,i3⟩:=hF.ids i r hri hb
   obtain ⟨v',δ',cv,w',Y',σ',hk,hrun,H',hv,hoff⟩:=opE_res hT hW H1 (fun b x h=>h) ⟨hfree i r hri hun hb r.id (Nat.le_refl _) (by omega),Nat.le_trans hpas i2⟩ g4
   cases hlt:ltD (r.id+32) δ' with
   | false=>rw [hlt] at hk; exact hk.elim
   | true =>
    rw [hlt] at hk
    have hn:nextI δ' n r.id≤n:=by cases δ' <;> simp [nextI] <;> omega
    have:=hEnd (a.put o.dst cv) w' _ (fun k=>by
     rw [setD]; by_cases hki:k=i
     ·rw [if_pos hki]
     ·rw [if_neg hki]; exact hoth k hki) ⟨⟨Y',σ',by rw [← g3]; exact (H'.mono hn).putT hv o.dst⟩,by rw [put_defers]; exact hd⟩ hk
    refine .inl ?_
    unfold Oper.wp
    rcases hrun with hrun | ⟨hrun,rfl⟩
    ·rw [hrun]; exact this
    ·rw [hrun]; exact this
  | false =>
  refine .inl (hS.sem hw hnd C _ Y σ a w stx n (patch_looks l2) (H.vals' (H.vals.eqv q2)) hd (hlk hw) (fun hb=>?_) K Q fun cv w' Y' σ' H' hoff hsame hv=>?_)
  ·obtain ⟨g1,g2,g3⟩:=hF.ids i r hri hb
   exact ⟨hfree i r hri hun hb,Nat.le_trans hpas g2,g3⟩
  ·refine after hnd cv w' Y' σ' _ _ q2 H' (fun b=>lk_applyD _ _ _) (fun j rj hji hrj hbj b hb1 hb2 hn=>?_) hv
   cases hb:r.big with
   | false=>rw [hsame hb]; exact hn
   | true =>
    rw [hoff _ ?_]; · exact hn
    have e1:=(hF.ids i r hri hb).1
    have e2:=(hF.ids j rj hrj hbj).1
    rcases Nat.lt_or_ge i j with hij | hij
    ·have:=ids_lt hij hri hb e1 e2; omega
    ·have:=ids_lt (show j<i by omega) hrj hbj e2 e1; omega
 | false =>
  rw [hw] at hwb
  rw [if_neg (by rw [hwb]; simp)]
  have hδ:r.δ=[]:=by
   rcases hS.cls with ⟨_,h,_⟩ | ⟨h,_⟩ | ⟨h,_⟩
   ·exact h
   ·rw [hw] at h; cases h
   ·rw [hw] at h; cases h
  refine after (by cases h:r.nd with | false=>rfl | true=>rw [(hS.ndw h).1] at hw; cases hw) _ w Y σ ps stx (EqvL.refl _) H (fun b=>by rw [hδ]; rfl) (fun _ _ _ _ _ _ _ _ h=>h) (by rw [hS.skip hw]; simp [Rep])
theorem ready_nil_all {all:Array Oper} (hchk:drawOK T all=true) {listed:Array Bool} (hsz:listed.size=all.size) (hr:Region.ready .any all listed=[]):∀ j,listed.getD j true=true:=by
 intro j
 induction j using Nat.strongRecOn with
 | _ j ih =>
  cases h:listed.getD j true with
  | true=>rfl
  | false =>
   have hlt:j<listed.size:=by
    rcases Nat.lt_or_ge j listed.size with h' | h'
    ·exact h'
    ·simp [Array.getElem?_eq_none h'] at h
   have hj:all[j]?=some all[j]:=Array.getElem?_eq_getElem (by omega)
   have:j∈Region.ready .any all listed:=mem_ready.2 ⟨h,_,hj,fun e he hb=>by
    have hlt':=(drawOK_spec hchk hj).1 e he hb
    have:=ih e.on hlt'
    have h2:e.on<listed.size:=by omega
    simp [h2] at this ⊢; exact this⟩
   rw [hr] at this; cases this
theorem count_set {listed:Array Bool} {i k:Nat} (hi:listed.getD i true=false) (h:listed.toList.count false=k+1):(listed.setIfInBounds i true).toList.count false=k:=by
 have hlt:i<listed.size:=by
  rcases Nat.lt_or_ge i listed.size with h' | h'
  ·exact h'
  ·simp [Array.getElem?_eq_none h'] at hi
 have hget:listed[i]=false:=by simpa [hlt] using hi
 rw [Array.toList_setIfInBounds,List.count_set (by simpa using hlt)]
 simp [hget,h]
theorem draw_any (hT:TabOK P T) (hW:PWf P) {KE:Env→Prop} {C:Ctx T} {all:Array Oper} {rs:List Rec} {st:St} {nx n:Nat} {p f:List PV} {stf:St} (hchk:drawOK T all=true) (hch:ChD P T all all.toList rs p st nx [] f stf n) (hF:Facts P T all rs st nx n) (hpas:T.pas≤nx) (hkeys:∀ i b,lkS (stAt rs st i) b ≠ none→b<nxAt rs nx i) {Q:Exit→Act→World→Prop}
  (hfin:FinD P T all KE all.toList rs st f stf n)
  (hQ:∀ E a w,ActRep C E a w→KE E→Q .normal a w):∀ (fuel:Nat) (listed:Array Bool) (a:Act) (w:World),listed.size=all.size→listed.toList.count false=fuel →
   (∀ j o,all[j]?=some o→listed.getD j true=true→∀ e∈o.after,Region.binds .any e=true→listed.getD e.on true=true) →
   (∀ (j:Nat) (r:Rec),rs[j]?=some r→r.nd=true→listed.getD j true=false) →
   Stage C all rs st n p f listed a w→wpAny P .any all Q fuel listed a w:=by
 have hgetF:=hfin.get
 have fin:∀ (listed:Array Bool) (a:Act) (w:World),listed.size=all.size→(∀ (j:Nat) (r:Rec),rs[j]?=some r→r.nd=true→listed.getD j true=false)→Stage C all rs st n p f listed a w→Region.ready .any all listed=[]→Q .normal a w:=by
  intro listed a w hsz hu hs hr
  have hl:=ready_nil_all hchk hsz hr
  have hKE:KE ⟨f,stf,n⟩:=by
   rcases hgetF with ⟨_,h⟩ | ⟨i,o,r,_,_,_,h4,h5,_⟩
   ·exact h
   ·have:=hu i r h4 h5; rw [hl i] at this; cases this
  obtain ⟨hd,Y,σ,ps,stx,H,hlen,hdone,hrest,hst,_⟩:=hs
  have H1:SW C w Y σ f a.tmps.toList stx n:=H.vals' (H.vals.eqv ⟨by rw [hlen,(hch.len _ _).2],fun t=>?_⟩)
  ·refine hQ _ a w ⟨⟨Y,σ,H1.ext fun b x hb=>?_⟩,hd⟩ hKE
   rw [hst b,← hb,(hch.fin _ _).1,lk_stAt rs st rs.length 0 b]
   congr 1
   refine lst_agree _ _ _ _ _ fun k rk hrk _=>?_
   rw [Nat.zero_add,Nat.zero_add,hl k]
   have:k<rs.length:=by
    by_cases hh:k<rs.length
    ·exact hh
    ·rw [List.getElem?_eq_none (Nat.le_of_not_lt hh)] at hrk; cases hrk
   simp [this]
  ·by_cases hex:∃ (j:Nat) (o:Oper),all[j]?=some o∧o.dst=some t
   ·obtain ⟨j,o,hj,hdst⟩:=hex
    exact hdone j o t hj hdst (hl j)
   ·refine (hrest t fun j o hj hdst=>absurd ⟨j,o,hj,hdst⟩ hex).trans (hch.keep _ _ fun o ho hdst=>?_)
    obtain ⟨j,hj⟩:=List.getElem?_of_mem ho
    exact hex ⟨j,o,by simpa using hj,hdst⟩
 intro fuel
 induction fuel with
 | zero =>
  intro listed a w hsz hc hclosed hu hs
  have hr:Region.ready .any all listed=[]:=by
   rw [List.eq_nil_iff_forall_not_mem]
   intro i hi
   have hun:=(mem_ready.1 hi).1
   have hlt:i<listed.size:=by
    rcases Nat.lt_or_ge i listed.size with h' | h'
    ·exact h'
    ·simp [Array.getElem?_eq_none h'] at hun
   have hget:listed[i]=false:=by simpa [hlt] using hun
   have hm:false∈listed.toList:=by rw [← hget]; simp
   exact (List.count_eq_zero.1 hc) hm
  exact ⟨hr,fin listed a w hsz hu hs hr⟩
 | succ fuel ih =>
  intro listed a w hsz hc hclosed hu hs
  refine ⟨fin listed a w hsz hu hs,fun i hi=>?_⟩
  have hun:=(mem_ready.1 hi).1
  refine stage_step hT hW (KE:=KE) hchk hch hF hpas hsz hclosed hkeys hs hi (fun o r ho hr hn=>?_) (fun a' w' E hall hA hE=>?_) fun hnd a' w' hs'=>ih _ a' w' (by simpa using hsz) (count_set hun hc) ?_ (fun j r hj hn=>?_) hs'
  ·rcases hgetF with ⟨h,_⟩ | ⟨i',o',r',a1,a2,a3,a4,a5,a6,a7,a8,a9⟩
   ·rw [h i r hr] at hn; cases hn
   ·have hii:i=i':=by
     by_cases hh:i=i'
     ·exact hh
     ·rw [a6 i r hh hr] at hn; cases hn
    subst hii
    rw [hr] at a4; cases a4
    rw [Array.getElem?_toList,ho] at a3; cases a3
    exact ⟨by simpa using a1,a7,a8,a9⟩
  ·have hrn:Region.ready .any all (listed.setIfInBounds i true)=[]:=by
    rw [List.eq_nil_iff_forall_not_mem]
    intro k hk
    have:=(mem_ready.1 hk).1
    rw [hall k] at this; cases this
   cases fuel with
   | zero=>exact ⟨hrn,hQ E a' w' hA hE⟩
   | succ fuel=>exact ⟨fun _=>hQ E a' w' hA hE,fun k hk=>by rw [hrn] at hk; cases hk⟩
  rotate_left
  ·by_cases hji:j=i
   ·subst hji; rw [hnd r hj] at hn; cases hn
   ·rw [getD_set_ne true (Ne.symm hji)]; exact hu j r hj hn
  intro j o hj hlj e he hb
  rw [set_listed hun] at hlj ⊢
  rcases hlj with h | h
  ·subst h
   obtain ⟨_,o',ho',hall⟩:=mem_ready.1 hi
   rw [hj] at ho'; cases ho'
   have:=hall e he hb
   refine .inr ?_
   rcases Nat.lt_or_ge e.on listed.size with h' | h'
   ·simp [h'] at this ⊢; exact this
   ·simp [Array.getElem?_eq_none h'] at this
  ·exact .inr (hclosed j o hj h e he hb)
theorem ltS_spec {n:Nat}:∀ (st:St),ltS n st=true→∀ b,lkS st b ≠ none→b<n
 | [],_,b,h=>absurd rfl h
 | (c,x)::st,h,b,hb=>by
  simp only [ltS,Bool.and_eq_true,Nat.blt_eq] at h
  simp only [lkS] at hb
  by_cases hc:c=b
  ·rw [← hc]; exact h.1
  ·rw [beqN hc] at hb; exact ltS_spec st h.2 b hb
theorem draw_sound (hT:TabOK P T) (hW:PWf P) {id:Nat} {l:Array Oper} {E:Env} {K:Env→Prop} (hchk:drawOK T l=true) (hlt:ltS E.next E.st=true) (h:opsD T (Sig.std P T) l l.toList [] E K) :
  ∀ (C:Ctx T) a w,ActRep C E a w→∀ Q:Exit→Act→World→Prop,(∀ E' a' w',ActRep C E' a' w'→K E'→Q .normal a' w')→(Code.region id l true).wp P Q a w:=by
 intro C a w hA Q hQ
 obtain ⟨rs,f,stf,nxf,hch,hK⟩:=opsD_chain hT hW _ _ _ _ h
 obtain ⟨⟨Y,σ,H⟩,hd⟩:=hA
 have hlt:=ltS_spec _ hlt
 have hF:=facts_of hch hlt
 have hle:E.next≤nxf:=by rw [(hch.fin _ _).2]; exact nxAt_start _ _ _
 have hrep:∀ j,j<l.size→(Array.replicate l.size false).getD j true=false:=fun j hj=>by simp [hj]
 have hno:∀ j o,l[j]?=some o→(Array.replicate l.size false).getD j true=true→False:=by
  intro j o hj hlj
  have hlt:j<l.size:=by
   rcases Nat.lt_or_ge j l.size with h' | h'
   ·exact h'
   ·simp [Array.getElem?_eq_none h'] at hj
  rw [hrep j hlt] at hlj; cases hlj
 refine wp_region_any hW.mixed (draw_any hT hW hchk hch hF H.fix.1 (keys_below _ _ hch hlt) (C:=C) hK (fun E a' w' hA' hE=>hQ _ a' w' hA' hE) l.size _ a _ (by simp) ?_ ?_ (fun j r hr hn=>hrep j ?_) ?_)
 ·simp
 ·intro j o hj hlj; exact (hno j o hj hlj).elim
 ·rw [← hF.len]
  by_cases hh:j<rs.length
  ·exact hh
  ·rw [List.getElem?_eq_none (Nat.le_of_not_lt hh)] at hr; cases hr
 ·refine ⟨hd,Y,σ,E.tmps,E.st,(H.drawn _).mono hle,rfl,?_,fun t _=>Eqv.refl _,fun b=>?_,fun j r hr _ hb=>?_⟩
  ·intro j o t hj hdst hlj; exact (hno j o hj hlj).elim
  ·rw [lst_none _ _ _ _ fun k r hr hD=>?_]; · rfl
   rw [Nat.zero_add] at hD
   have:k<l.size:=by
    rw [← hF.len]
    by_cases hh:k<rs.length
    ·exact hh
    ·rw [List.getElem?_eq_none (Nat.le_of_not_lt hh)] at hr; cases hr
   rw [hrep k this] at hD; cases hD
  ·exact fun b hb1 _=>H.next b (Nat.le_trans (hF.ids j r hr hb).2.1 hb1)
end
end Go.Pv
namespace Go.Pv
open Go
def marks (D:List Nat):List Deferred:=D.map fun r=>{ target:=.collected r,args:=#[] }
def DefOK (B:Nat) (D:List Nat) (w:World) (Y:Nat→Prop):Prop:=D.Nodup∧∀ r∈D,B≤r∧Y r∧w.heap[r]?=some (.deferred (some []))
def NoCells (o:Obj):Prop:=(∀ arr ty,o ≠ .cells arr ty (0,0))∧∀ es ck,o ≠ .map es ck
theorem InSt.cells {w:World} {Y:Nat→Prop} {σ:Sg} {st:St} (hs:StRep w Y σ st) {k:Nat} (h:InSt σ st k):(∃ arr ty,w.heap[k]?=some (.cells arr ty (0,0)))∨∃ es ck,w.heap[k]?=some (.map es ck):=by
 obtain ⟨b,x,l,h1,h2,rfl⟩:=h
 rcases hs.blk b x h1 with ⟨l',hl',hB⟩ | ⟨hn,_⟩
 ·rw [h2] at hl'; cases hl'
  cases x <;> (unfold BlkRep at hB; first | (obtain ⟨arr,ty,h3,_⟩:=hB.1.blk; exact .inl ⟨arr,ty,h3⟩) | (obtain ⟨es,ck,h3,_⟩:=hB.1; exact .inr ⟨es,ck,h3⟩))
 ·rw [h2] at hn; cases hn
theorem SW.kept {T' : Tab} {w w' : World} {Y Y' : Nat→Prop} {σ σ' : Sg} {qs:List PV} {us:List Value} {st st' : St} {n' : Nat} (hs:StRep w Y σ st) (H' : SW (ctxS T' w Y σ st) w' Y' σ' qs us st' n') {k:Nat} {o:Obj} (ho:w.heap[k]?=some o) (hc:NoCells o):w'.heap[k]?=some o∧(Y k→Y' k):=by
 have hlt:k<w.heap.size:=(Array.getElem?_eq_some_iff.1 ho).1
 have hni:¬ InSt σ st k:=fun h=>by
  rcases h.cells hs with ⟨arr,ty,h1⟩ | ⟨es,ck,h1⟩
  ·rw [ho] at h1; cases h1; exact hc.1 arr ty rfl
  ·rw [ho] at h1; cases h1; exact hc.2 es ck rfl
 exact ⟨by rw [H'.chg.block k hlt fun h=>hni h.2]; exact ho,fun hy=>H'.y0 k ⟨hy,hni⟩⟩
theorem DefOK.step {B:Nat} {T' : Tab} {D:List Nat} {w w' : World} {Y Y' : Nat→Prop} {σ σ' : Sg} {qs:List PV} {us:List Value} {st st' : St} {n' : Nat} (h:DefOK B D w Y) (hs:StRep w Y σ st) (H' : SW (ctxS T' w Y σ st) w' Y' σ' qs us st' n'):DefOK B D w' Y' :=
 ⟨h.1,fun r hr=>by
  obtain ⟨h0,h1,h2⟩:=h.2 r hr
  obtain ⟨h3,h4⟩:=H'.kept hs h2 ⟨fun _ _ e=>(by cases e),fun _ _ e=>(by cases e)⟩
  exact ⟨h0,h4 h1,h3⟩⟩
def NNs (st:St):Prop:=∀ b sz rows,lkS st b ≠ some (.nar sz rows)
def SemF (P:Program) (T:Tab) (all:Array Oper) (o:Oper) (er:List PV) (lk:Nat→Option Blk) (id m:Nat) (v:PV) (δ:Dl):Prop :=
 ∀ (C:Ctx T) ps Y σ (a:Act) w st n,(∀ t∈o.looksAt all,getL ps t=getL er t)→SW C w Y σ ps a.tmps.toList st n→NNs st→(∀ b x,lk b=some x→lkS st b=some x) →
  (∀ b,id≤b→b<id+m→σ b=none∧lkS st b=none)→T.pas≤id→id+m≤n→∀ next Q,(∀ cv w' Y' σ' st',SW C w' Y' σ' ps a.tmps.toList st' n→(∀ b,lkS st' b=(match lastD δ b with | some x=>x | none=>lkS st b)) →
   (∀ b,(b<id∨id+m≤b)→σ' b=σ b)→Rep w' Y' σ' v cv→(∀ B D,DefOK B D w Y→DefOK B D w' Y')→next (a.put o.dst cv) w')→o.wp P a w next Q
def SemGF (T:Tab) (all:Array Oper) (o:Oper) (er:List PV) (wb:Bool):Prop :=
 ∀ (C:Ctx T) ps Y σ (a:Act) w st n,(∀ t∈o.looksAt all,getL ps t=getL er t)→SW C w Y σ ps a.tmps.toList st n→Region.wanted o (yielded all a.tmps)=wb
structure StepFO (P:Program) (T:Tab) (all:Array Oper) (o:Oper) (r:Rec) (p:List PV) (st:St) (nx m:Nat):Prop where
 id:r.id=nx
 gd:SemGF T all o p r.wb
 sem:r.wb=true→SemF P T all o p r.lk nx m r.v r.δ
 skip:r.wb=false→r.v=.undef∧r.δ=[]
 lk:∀ b x,r.lk b=some x→lkS st b=some x
 key:∀ b,lastD r.δ b ≠ none→(nx≤b∧b<nx+m)∨lkS st b ≠ none
 nn:∀ b sz rows,lastD r.δ b ≠ some (some (.nar sz rows))
def ChF (P:Program) (T:Tab) (all:Array Oper):List Oper→List Rec→List PV→St→Nat→List PV→St→Nat→Prop
 | [],[],p,st,nx,f,stf,nxf=>p=f∧st=stf∧nx=nxf
 | o::l,r::rs,p,st,nx,f,stf,nxf=>∃ m,StepFO P T all o r p st nx m∧ChF P T all l rs (putT p o.dst r.v) (applyD r.δ st) (nx+m) f stf nxf
 | _,_,_,_,_,_,_,_=>False
theorem and_tt {a b:Bool} (h:(a && b)=true):a=true∧b=true:=by rw [Bool.and_eq_true] at h; exact h
theorem hasR_iff:∀ (l:List Nat) (b:Nat),hasR l b=true ↔ b∈l
 | [],b=>by simp; rfl
 | c::l,b=>by
  have e:hasR (c::l) b=Bool.rec (motive:=fun _=>Bool) (hasR l b) true (Nat.beq c b):=rfl
  rw [e]
  by_cases h:c=b
  ·subst h; simp
  ·rw [beqN h]
   show hasR l b=true ↔ _
   rw [hasR_iff l b]
   simp [Ne.symm h]
section
variable {P:Program} {T:Tab}
theorem SW.rebaseT {C:Ctx T} {w:World} {Y:Nat→Prop} {σ:Sg} {ps:List PV} {vs:List Value} {st:St} {n:Nat} (H:SW C w Y σ ps vs st n) (hn:NNs st):SW (ctxS T w Y σ st) w Y σ ps vs st n :=
 ⟨H.vals,H.store,H.next,H.yold,fun _ h=>h.1,fun k h=>⟨H.yold k h.1,h.2⟩,fun k h _=>by
  by_cases hi:InSt σ st k
  ·exact .inr ⟨h,hi⟩
  ·exact .inl ⟨h,hi⟩,ChgM.refl _ w,fun b x l h1 h2=>.inr ⟨b,x,l,h1,h2,rfl⟩,H.glob,⟨H.fix.1,fun _ _=>rfl⟩,Nest.none hn⟩
theorem SW.composeT {C:Ctx T} {w w' : World} {Y Y' : Nat→Prop} {σ σ' : Sg} {ps qs:List PV} {vs us:List Value} {st st' : St} {n n' : Nat} (H:SW C w Y σ ps vs st n)
  (H' : SW (ctxS T w Y σ st) w' Y' σ' qs us st' n'):SW C w' Y' σ' qs us st' n':=by
 have excl:∀ k,k<w.heap.size→Y' k→Y k:=by
  intro k hk hy
  rcases H'.yshr k hy hk with h | h
  ·exact h.1
  ·exact h.1
 have away:∀ k,C.Y0 k→¬ InSt σ st k:=fun k hk ⟨b,x,l,h1,h2,h3⟩=>H.away h1 h2 (h3 ▸ hk)
 have old:∀ k,(w.heap.size≤k∨InSt σ st k)→C.w0.heap.size≤k∨C.L k:=fun k h=>by
  rcases h with h | ⟨b,x,l,h1,h2,h3⟩
  ·exact .inl (Nat.le_trans H.chg.size h)
  ·rw [← h3]; exact H.own b x l h1 h2
 refine ⟨H'.vals,H'.store,H'.next,H'.yold,fun k hk=>H'.y0 k ⟨H.y0 k hk,away k hk⟩,H.c0,fun k hk hlt=>H.yshr k (excl k (Nat.lt_of_lt_of_le hlt H.chg.size) hk) hlt,?_,fun b x l h1 h2=>old _ (H'.own b x l h1 h2),H'.glob,⟨H'.fix.1,fun b hb=>?_⟩,?_⟩
 ·refine ⟨by rw [H'.chg.os]; exact H.chg.os,by rw [H'.chg.tape]; exact H.chg.tape,by rw [H'.chg.output]; exact H.chg.output,Nat.le_trans H.chg.size H'.chg.size,fun k hk hM=>?_⟩
  rw [H'.chg.block k (Nat.lt_of_lt_of_le hk H.chg.size) fun h=>?_]
  ·exact H.chg.block k hk hM
  ·obtain ⟨h1,h2⟩:=h
   rcases H.yshr k h1 hk with h3 | h3
   ·exact away k h3 h2
   ·exact hM h3
 ·rw [H'.fix.2 b hb]; exact H.fix.2 b hb
 ·exact ⟨H'.nest.rep,fun b r c h sz es k=>old _ (H'.nest.old b r c h sz es k),H'.nest.one,H'.nest.sep⟩
def TcOK (r:Rec) (tc:Tc):Prop:=(∀ b,r.lk b ≠ none→b∈tc.1)∧(∀ b,lastD r.δ b ≠ none→b∈tc.2.2)∧(∀ b∈tc.2.2,b∈tc.2.1)
theorem meets_iff:∀ (l m:List Nat),meets l m=true ↔ ∃ b,b∈l∧b∈m
 | [],m=>by
  constructor; · intro h; cases h
  ·rintro ⟨b,h,_⟩; cases h
 | c::l,m=>by
  have e:meets (c::l) m=Bool.rec (motive:=fun _=>Bool) (meets l m) true (hasR m c):=rfl
  rw [e]
  cases hc:hasR m c with
  | true=>exact ⟨fun _=>⟨c,by simp,(hasR_iff _ _).1 hc⟩,fun _=>rfl⟩
  | false =>
   show meets l m=true ↔ _
   rw [meets_iff l m]
   constructor
   ·rintro ⟨b,h1,h2⟩; exact ⟨b,List.mem_cons_of_mem _ h1,h2⟩
   ·rintro ⟨b,h1,h2⟩
    rcases List.mem_cons.1 h1 with rfl | h1
    ·rw [(hasR_iff _ _).2 h2] at hc; cases hc
    ·exact ⟨b,h1,h2⟩
theorem oneT_spec {B:List (List Nat)} {i:Nat} {x:Tc}:∀ (l:List Tc) (k:Nat),oneT B i x l k=true→∀ (j:Nat) (y:Tc),l[j]?=some y→pairT B i (k+j) x y=true
 | [],k,h,j,y,hj=>by simp at hj
 | z::l,k,h,0,y,hj=>by
  simp at hj; subst hj
  unfold oneT at h
  exact (and_tt h).1
 | z::l,k,h,j+1,y,hj=>by
  unfold oneT at h
  have:=oneT_spec l (k+1) (and_tt h).2 j y (by simpa using hj)
  rwa [show k+(j+1)=k+1+j by omega]
theorem chkT_spec {B:List (List Nat)}:∀ (l:List Tc) (i:Nat),chkT B l i=true→∀ (a b:Nat) (x y:Tc),a<b→l[a]?=some x→l[b]?=some y→pairT B (i+a) (i+b) x y=true
 | [],i,h,a,b,x,y,_,ha,_=>by simp at ha
 | z::l,i,h,0,b+1,x,y,_,ha,hb=>by
  simp at ha; subst ha
  unfold chkT at h
  have:=oneT_spec l (i+1) (and_tt h).1 b y (by simpa using hb)
  rwa [show i+1+b=i+(b+1) by omega] at this
 | z::l,i,h,a+1,b+1,x,y,hab,ha,hb=>by
  unfold chkT at h
  have:=chkT_spec l (i+1) (and_tt h).2 a b x y (by omega) (by simpa using ha) (by simpa using hb)
  rwa [show i+1+a=i+(a+1) by omega,show i+1+b=i+(b+1) by omega] at this
 | z::l,i,h,_,0,x,y,hab,_,_=>by omega
theorem pairT_spec {all:Array Oper} {i k:Nat} {ri rk:Rec} {x y:Tc} (hx:TcOK ri x) (hy:TcOK rk y) (h:pairT (befs all.toList []) i k x y=true)
  (hc:∃ b,(lastD ri.δ b ≠ none∧(rk.lk b ≠ none∨lastD rk.δ b ≠ none))∨(ri.lk b ≠ none∧lastD rk.δ b ≠ none)):Bef all i k:=by
 have key:(meets x.2.2 y.1 || (meets x.2.2 y.2.2 || meets y.2.2 x.1))=true:=by
  obtain ⟨b,h1⟩:=hc
  simp only [Bool.or_eq_true,meets_iff]
  rcases h1 with ⟨h1,h2 | h2⟩ | ⟨h1,h2⟩
  ·exact .inl ⟨b,hx.2.1 b h1,hy.1 b h2⟩
  ·exact .inr (.inl ⟨b,hx.2.1 b h1,hy.2.1 b h2⟩)
  ·exact .inr (.inr ⟨b,hy.2.1 b h2,hx.1 b h1⟩)
 have sup:(meets x.2.1 y.1 || (meets x.2.1 y.2.1 || meets y.2.1 x.1))=true:=by
  simp only [Bool.or_eq_true,meets_iff] at key ⊢
  rcases key with ⟨b,h1,h2⟩ | ⟨b,h1,h2⟩ | ⟨b,h1,h2⟩
  ·exact .inl ⟨b,hx.2.2 b h1,h2⟩
  ·exact .inr (.inl ⟨b,hx.2.2 b h1,hy.2.2 b h2⟩)
  ·exact .inr (.inr ⟨b,hy.2.2 b h1,h2⟩)
 unfold pairT at h
 rw [sup,key] at h
 simp only at h
 have h:hasR (getLL (befs all.toList []) k) i=true:=by
  cases hh:hasR (getLL (befs all.toList []) k) i with
  | true=>rfl
  | false=>rw [hh] at h; cases h
 exact befs_sound all.toList [] (fun k o hk=>by simpa using hk) (fun i b hb=>by simp [getLL] at hb) k i ((hasR_iff _ _).1 h)
theorem chkAll_spec2 {all:Array Oper} (h:chkAll all all.toList 0=true) {i:Nat} {o:Oper} (hi:all[i]?=some o) :
  (∀ e∈o.after,Region.binds .any e=true→e.on<i)∧∀ (j:Nat) (p:Oper),all[j]?=some p→j ≠ i→∀ d,p.dst=some d→o.dst ≠ some d ∧
   (d∈o.looksAt all→(∃ e∈o.after,Region.binds .any e=true∧e.on=j)∨(∃ e∈p.after,Region.binds .any e=true∧e.on=i)):=by
 obtain ⟨h1,h2⟩:=chkAll_spec all.toList 0 h i o (by simpa using hi)
 rw [Nat.zero_add] at h1 h2
 refine ⟨h1,fun j p hp hne d hd=>?_⟩
 have:=h2 j p hp
 have hij:Nat.beq i j=false:=beqN fun e=>hne e.symm
 simp only [pairOK,hij,hd,Bool.false_or,Bool.and_eq_true,Bool.or_eq_true,bne_iff_ne,ne_eq,Bool.not_eq_true',List.contains_eq_mem,decide_eq_false_iff_not] at this
 refine ⟨this.1,fun hm=>?_⟩
 rcases this.2 with (hh | hh) | hh
 ·exact absurd hm hh
 ·obtain ⟨e,he,hb⟩:=Array.any_eq_true'.1 hh
  simp only [Bool.and_eq_true] at hb
  exact .inl ⟨e,he,hb.1,Nat.eq_of_beq_eq_true hb.2⟩
 ·obtain ⟨e,he,hb⟩:=Array.any_eq_true'.1 hh
  simp only [Bool.and_eq_true] at hb
  exact .inr ⟨e,he,hb.1,Nat.eq_of_beq_eq_true hb.2⟩
theorem ChF.len {all:Array Oper}:∀ (l:List Oper) (rs:List Rec) {p:List PV} {st:St} {nx:Nat} {f:List PV} {stf:St} {nxf:Nat},ChF P T all l rs p st nx f stf nxf→rs.length=l.length∧f.length=p.length∧nx≤nxf
 | [],[],_,_,_,_,_,_,h=>⟨rfl,by rw [h.1],by rw [h.2.2]; exact Nat.le_refl _⟩
 | o::l,r::rs,_,_,_,_,_,_,⟨m,h,h'⟩=>by
  obtain ⟨h1,h2,h3⟩:=ChF.len l rs h'
  exact ⟨by simp [h1],by rw [h2,putT_length],by omega⟩
 | [],_::_,_,_,_,_,_,_,h=>h.elim
 | _::_,[],_,_,_,_,_,_,h=>h.elim
theorem ChF.keep {all:Array Oper} {t:Nat}:∀ (l:List Oper) (rs:List Rec) {p:List PV} {st:St} {nx:Nat} {f:List PV} {stf:St} {nxf:Nat},ChF P T all l rs p st nx f stf nxf→(∀ o∈l,o.dst ≠ some t)→getL p t=getL f t
 | [],[],_,_,_,_,_,_,h,_=>by rw [h.1]
 | o::l,r::rs,_,_,_,_,_,_,⟨m,h,h'⟩,hn=>by
  have:=ChF.keep l rs h' fun o ho=>hn o (by simp [ho])
  rw [putT_ne (hn o (by simp))] at this
  exact this
 | [],_::_,_,_,_,_,_,_,h,_=>h.elim
 | _::_,[],_,_,_,_,_,_,h,_=>h.elim
def idA (rs:List Rec) (nxf:Nat) (i:Nat):Nat:=match rs[i]? with | some r=>r.id | none=>nxf
theorem ChF.get {all:Array Oper}:∀ (l:List Oper) (rs:List Rec) {p:List PV} {st:St} {nx:Nat} {f:List PV} {stf:St} {nxf:Nat},ChF P T all l rs p st nx f stf nxf→∀ (i:Nat) (o:Oper),l[i]?=some o →
  ∃ r q m,rs[i]?=some r∧q.length=p.length∧StepFO P T all o r q (stAt rs st i) (idA rs nxf i) m∧idA rs nxf (i+1)=idA rs nxf i+m∧nx≤idA rs nxf i ∧
   (∀ t,(∀ j oj,j<i→l[j]?=some oj→oj.dst ≠ some t)→getL p t=getL q t) ∧
   (∀ t,(∀ j oj,i≤j→l[j]?=some oj→oj.dst ≠ some t)→getL q t=getL f t) ∧
   (∀ d,o.dst=some d→d<p.length→(∀ j oj,i<j→l[j]?=some oj→oj.dst ≠ some d)→r.v=getL f d)
 | [],_,_,_,_,_,_,_,_,i,o,hi=>by simp at hi
 | _::_,[],_,_,_,_,_,_,h,_,_,_=>h.elim
 | o'::l,r::rs,p,st,nx,f,stf,nxf,⟨m,h1,h6⟩,0,o,hi=>by
  simp at hi; subst hi
  have hid:idA (r::rs) nxf 0=nx:=by simp [idA,h1.id]
  have hid1:idA (r::rs) nxf 1=nx+m:=by
   cases l with
   | nil=>cases rs with
    | nil=>simp [idA,h6.2.2]
    | cons _ _=>exact h6.elim
   | cons o2 l=>cases rs with
    | nil=>exact h6.elim
    | cons r2 rs=>obtain ⟨m2,h7,_⟩:=h6; simp [idA,h7.id]
  refine ⟨r,p,m,rfl,rfl,by rw [hid]; exact h1,by rw [hid,hid1],by rw [hid]; exact Nat.le_refl _,fun t _=>rfl,fun t ht=>?_,fun d hd hlt hn=>?_⟩
  ·have hk:=ChF.keep l rs h6 (t:=t) fun o ho=>by
    obtain ⟨j,hj⟩:=List.getElem?_of_mem ho
    exact ht (j+1) o (by omega) (by simpa using hj)
   rw [putT_ne (ht 0 o' (by omega) (by simp))] at hk
   exact hk
  ·have hk:=ChF.keep l rs h6 (t:=d) fun o ho=>by
    obtain ⟨j,hj⟩:=List.getElem?_of_mem ho
    exact hn (j+1) o (by omega) (by simpa using hj)
   rw [hd] at hk
   simp only [putT,getL_setL] at hk
   rw [if_pos ⟨trivial,hlt⟩] at hk
   exact hk
 | o'::l,r::rs,p,st,nx,f,stf,nxf,⟨m,h1,h6⟩,i+1,o,hi=>by
  obtain ⟨r',q,m',a0,a1,a2,a3,a4,a6,a7,a8⟩:=ChF.get l rs h6 i o (by simpa using hi)
  have hl:(putT p o'.dst r.v).length=p.length:=by rw [putT_length]
  have e1:∀ j,idA (r::rs) nxf (j+1)=idA rs nxf j:=fun j=>by simp [idA]
  refine ⟨r',q,m',by simpa using a0,by rw [a1,hl],by rw [e1]; exact a2,by rw [e1,e1]; exact a3,by rw [e1]; omega,fun t ht=>?_,fun t ht=>?_,fun d hd hlt hn=>?_⟩
  ·have hk:=a6 t fun j oj hj hoj=>ht (j+1) oj (by omega) (by simpa using hoj)
   rw [putT_ne (ht 0 o' (by omega) (by simp))] at hk
   exact hk
  ·exact a7 t fun j oj hj hoj=>ht (j+1) oj (by omega) (by simpa using hoj)
  ·exact a8 d hd (by rw [hl]; exact hlt) fun j oj hj hoj=>hn (j+1) oj (by omega) (by simpa using hoj)
theorem ChF.fin {all:Array Oper}:∀ (l:List Oper) (rs:List Rec) {p:List PV} {st:St} {nx:Nat} {f:List PV} {stf:St} {nxf:Nat},ChF P T all l rs p st nx f stf nxf→stf=stAt rs st rs.length
 | [],[],_,_,_,_,_,_,h=>h.2.1.symm
 | o::l,r::rs,_,_,_,_,_,_,⟨m,h,h'⟩=>ChF.fin l rs h'
 | [],_::_,_,_,_,_,_,_,h=>h.elim
 | _::_,[],_,_,_,_,_,_,h=>h.elim
structure FactsF (P:Program) (T:Tab) (all:Array Oper) (rs:List Rec) (p:List PV) (st:St) (nx:Nat) (f:List PV) (n:Nat):Prop where
 chk:chkAll all all.toList 0=true
 len:rs.length=all.size
 get:∀ (i:Nat) (o:Oper),all[i]?=some o→∃ r q m,rs[i]?=some r∧q.length=p.length∧StepFO P T all o r q (stAt rs st i) (idA rs n i) m∧idA rs n (i+1)=idA rs n i+m∧nx≤idA rs n i ∧
   (∀ t,(∀ j oj,j<i→all[j]?=some oj→oj.dst ≠ some t)→getL p t=getL q t) ∧
   (∀ t,(∀ j oj,i≤j→all[j]?=some oj→oj.dst ≠ some t)→getL q t=getL f t) ∧
   (∀ d,o.dst=some d→d<p.length→(∀ j oj,i<j→all[j]?=some oj→oj.dst ≠ some d)→r.v=getL f d)
 flen:f.length=p.length
 keep:∀ t,(∀ o∈all.toList,o.dst ≠ some t)→getL p t=getL f t
 old:∀ b,nx≤b→lkS st b=none
 clash:∀ (i k:Nat) (ri rk:Rec),i<k→rs[i]?=some ri→rs[k]?=some rk→(∃ b,(lastD ri.δ b ≠ none∧(rk.lk b ≠ none∨lastD rk.δ b ≠ none))∨(ri.lk b ≠ none∧lastD rk.δ b ≠ none))→Bef all i k
theorem FactsF.oper {all:Array Oper} {rs:List Rec} {p:List PV} {st:St} {nx:Nat} {f:List PV} {n:Nat} (F:FactsF P T all rs p st nx f n) {k:Nat} {rk:Rec} (h:rs[k]?=some rk):∃ ok,all[k]?=some ok:=by
 have:k<all.size:=by
  rw [← F.len]
  by_cases hh:k<rs.length
  ·exact hh
  ·rw [List.getElem?_eq_none (Nat.le_of_not_lt hh)] at h; cases h
 exact ⟨_,Array.getElem?_eq_getElem this⟩
theorem FactsF.mono {all:Array Oper} {rs:List Rec} {p:List PV} {st:St} {nx:Nat} {f:List PV} {n:Nat} (F:FactsF P T all rs p st nx f n):∀ {i j:Nat},i≤j→j≤all.size→idA rs n i≤idA rs n j:=by
 intro i j h
 induction h with
 | refl=>intro _; exact Nat.le_refl _
 | step h ih =>
  rename_i m
  intro hm
  have h1:=ih (by omega)
  obtain ⟨r,q,m',_,_,_,h2,_⟩:=F.get m _ (Array.getElem?_eq_getElem (by omega))
  rw [h2]; omega
theorem FactsF.dom {all:Array Oper} {rs:List Rec} {p:List PV} {st:St} {nx:Nat} {f:List PV} {n:Nat} (F:FactsF P T all rs p st nx f n) {j:Nat} {rj:Rec} (hj:rs[j]?=some rj) {b:Nat} (h1:idA rs n j≤b) (h2:b<idA rs n (j+1)):∀ i,i≤all.size→lkS (stAt rs st i) b ≠ none→j<i∧lastD rj.δ b ≠ none:=by
 have hjs:j<all.size:=by
  obtain ⟨o,ho⟩:=F.oper hj
  by_cases h:j<all.size
  ·exact h
  ·rw [Array.getElem?_eq_none (Nat.le_of_not_lt h)] at ho; cases ho
 intro i
 induction i with
 | zero =>
  intro _ h
  exfalso
  obtain ⟨_,_,_,_,_,_,_,h3,_⟩:=F.get j _ (Array.getElem?_eq_getElem hjs)
  have h4:=F.old b (by omega)
  have e:stAt rs st 0=st:=by cases rs <;> rfl
  rw [e] at h; exact h h4
 | succ i ih =>
  intro hi h
  obtain ⟨ri,q,m,hri,_,hS,hm,_⟩:=F.get i _ (Array.getElem?_eq_getElem (by omega))
  have hstep:∀ (rs:List Rec) (st:St) (i:Nat) (ri:Rec),rs[i]?=some ri→stAt rs st (i+1)=applyD ri.δ (stAt rs st i):=by
   intro rs
   induction rs with
   | nil=>intro st i ri h; simp at h
   | cons r rs ih =>
    intro st i ri h
    cases i with
    | zero=>simp at h; subst h; cases rs <;> rfl
    | succ i=>simp only [stAt]; exact ih _ i ri (by simpa using h)
  rw [hstep rs st i ri hri,lk_applyD] at h
  have old:lkS (stAt rs st i) b ≠ none→j<i+1∧lastD rj.δ b ≠ none:=fun h=>by
   obtain ⟨h3,h4⟩:=ih (by omega) h
   exact ⟨by omega,h4⟩
  cases hl:lastD ri.δ b with
  | none=>rw [hl] at h; exact old h
  | some x =>
   rcases hS.key b (by rw [hl]; simp) with h3 | h3
   ·
    have hij:i=j:=by
     rcases Nat.lt_trichotomy i j with h4 | h4 | h4
     ·have:=F.mono (i:=i+1) (j:=j) (by omega) (by omega); omega
     ·exact h4
     ·have:=F.mono (i:=j+1) (j:=i) (by omega) (by omega); omega
    subst hij
    rw [hj] at hri; cases hri
    exact ⟨by omega,by rw [hl]; simp⟩
   ·exact old h3
def StageF {T:Tab} (C:Ctx T) (all:Array Oper) (rs:List Rec) (st:St) (n:Nat) (p f:List PV) (D:List Nat) (listed:Array Bool) (a:Act) (w:World):Prop :=
 a.defers=marks D∧∃ Y σ ps stx,SW C w Y σ ps a.tmps.toList stx n∧ps.length=p.length ∧
  (∀ j o t,all[j]?=some o→o.dst=some t→listed.getD j true=true→getL ps t=getL f t) ∧
  (∀ t,(∀ j o,all[j]?=some o→o.dst=some t→listed.getD j true=false)→getL ps t=getL p t) ∧
  (∀ b,lkS stx b=orS st b (lst rs (fun k=>listed.getD k true) 0 b)) ∧
  (∀ j,j<all.size→listed.getD j true=false→∀ b,idA rs n j≤b→b<idA rs n (j+1)→σ b=none)∧DefOK C.w0.heap.size D w Y∧NNs stx
theorem stage_stepF {nx:Nat} (hpas:T.pas≤nx) {C:Ctx T} {all:Array Oper} {rs:List Rec} {st:St} {n:Nat} {p f:List PV} {D:List Nat} (F:FactsF P T all rs p st nx f n) {listed:Array Bool} {a:Act} {w:World}
  (hsz:listed.size=all.size) (hclosed:∀ j o,all[j]?=some o→listed.getD j true=true→∀ e∈o.after,Region.binds .any e=true→listed.getD e.on true=true)
  (hs:StageF C all rs st n p f D listed a w) {i:Nat} (hr:i∈Region.ready .any all listed) {Q:Exit→Act→World→Prop} {K:Act→World→Prop}
  (hK:∀ a' w',StageF C all rs st n p f D (listed.setIfInBounds i true) a' w'→K a' w'):wpOp P all Q i K a w:=by
 obtain ⟨hun,o,ho,hall⟩:=mem_ready.1 hr
 obtain ⟨hd,Y,σ,ps,stx,H,hlen,hdone,hrest,hst,hfree,hD,hnn⟩:=hs
 have hilt:i<listed.size:=by
  rcases Nat.lt_or_ge i listed.size with h | h
  ·exact h
  ·simp [Array.getElem?_eq_none h] at hun
 obtain ⟨r,q,m,hri,qlen,hS,hm,hnx,h6,h7,h8⟩:=F.get i o ho
 have hspec:=chkAll_spec2 F.chk ho
 have hall' : ∀ e∈o.after,Region.binds .any e=true→listed.getD e.on true=true:=by
  intro e he hb
  have:=hall e he hb
  rcases Nat.lt_or_ge e.on listed.size with h | h
  ·simp [h] at this ⊢; exact this
  ·simp [Array.getElem?_eq_none h]
 have befIn:∀ k,Bef all k i→listed.getD k true=true:=fun k h=>h.ready hclosed o ho hall'
 have befOut:∀ k,Bef all i k→listed.getD k true=false:=fun k h=>by
  cases hk:listed.getD k true with
  | false=>rfl
  | true=>have:=h.listed hclosed hk; rw [hun] at this; cases this
 have look:∀ t∈o.looksAt all,getL ps t=getL q t:=by
  intro t ht
  by_cases hex:∃ j pj,all[j]?=some pj∧j ≠ i∧pj.dst=some t
  ·obtain ⟨j,pj,hj,hne,hdst⟩:=hex
   obtain ⟨hdd,hor⟩:=hspec.2 j pj hj hne t hdst
   have uniq:∀ k pk,all[k]?=some pk→pk.dst=some t→k=j:=by
    intro k pk hk hkd
    by_cases hkj:k=j
    ·exact hkj
    ·exact absurd hkd ((chkAll_spec2 F.chk hk).2 j pj hj (Ne.symm hkj) t hdst).1
   rcases hor ht with ⟨e,he,hb,heq⟩ | ⟨e,he,hb,heq⟩
   ·have hlj:listed.getD j true=true:=by
     have:=hall' e he hb
     rwa [heq] at this
    have hji:j<i:=by rw [← heq]; exact hspec.1 e he hb
    have hf:=hdone j pj t hj hdst hlj
    have:=h7 t fun k pk hk hpk hkd=>by
     have:=uniq k pk hpk hkd
     omega
    exact hf.trans this.symm
   ·have hij:i<j:=by rw [← heq]; exact (chkAll_spec2 F.chk hj).1 e he hb
    have hju:listed.getD j true=false:=by
     cases hlj:listed.getD j true with
     | false=>rfl
     | true =>
      have:=hclosed j pj hj hlj e he hb
      rw [heq,hun] at this; cases this
    have hp:=hrest t fun k pk hk hkd=>by
     rw [uniq k pk hk hkd]; exact hju
    have:=h6 t fun k pk hk hpk hkd=>by
     have:=uniq k pk hpk hkd
     omega
    exact hp.trans this
  ·have hp:=hrest t fun k pk hk hkd=>by
    by_cases hki:k=i
    ·rw [hki]; exact hun
    ·exact absurd ⟨k,pk,hk,hki,hkd⟩ hex
   have:=h6 t fun k pk hk hpk hkd=>hex ⟨k,pk,hpk,by omega,hkd⟩
   exact hp.trans this
 have hlk:∀ b x,r.lk b=some x→lkS stx b=some x:=by
  intro b x hb
  have c1:=hS.lk b x hb
  rw [hst b,← c1,lk_stAt rs st i 0 b]
  congr 1
  refine lst_agree _ _ _ _ _ fun k rk hrk hkb=>?_
  rw [Nat.zero_add,Nat.zero_add]
  rcases Nat.lt_trichotomy k i with hki | hki | hki
  ·simp only [hki,decide_true]
   exact befIn k (F.clash k i rk r hki hrk hri ⟨b,.inl ⟨hkb,.inl (by rw [hb]; simp)⟩⟩)
  ·subst hki
   simp only [Nat.lt_irrefl,decide_false]
   exact hun
  ·have:¬ k<i:=by omega
   simp only [this,decide_false]
   exact befOut k (F.clash i k r rk hki hri hrk ⟨b,.inr ⟨by rw [hb]; simp,hkb⟩⟩)
 have hisz:i<all.size:=by omega
 have hwin:∀ b,idA rs n i≤b→b<idA rs n i+m→σ b=none∧lkS stx b=none:=by
  intro b h1 h2
  refine ⟨hfree i hisz hun b h1 (by rw [hm]; exact h2),?_⟩
  rw [hst b]
  have hno:lst rs (fun k=>listed.getD k true) 0 b=none:=by
   refine lst_none _ _ _ _ fun k rk hrk hlk=>?_
   rw [Nat.zero_add] at hlk
   cases hx:lastD rk.δ b with
   | none=>rfl
   | some x =>
    exfalso
    obtain ⟨ok,hok⟩:=F.oper hrk
    obtain ⟨rk',_,mk,hrk',_,hSk,hmk,_⟩:=F.get k ok hok
    rw [hrk] at hrk'; cases hrk'
    have hksz:k<all.size:=by
     by_cases h:k<all.size
     ·exact h
     ·rw [Array.getElem?_eq_none (Nat.le_of_not_lt h)] at hok; cases hok
    rcases hSk.key b (by rw [hx]; simp) with h3 | h3
    ·have:k=i:=by
      rcases Nat.lt_trichotomy k i with h4 | h4 | h4
      ·have:=F.mono (i:=k+1) (j:=i) (by omega) (by omega); omega
      ·exact h4
      ·have:=F.mono (i:=i+1) (j:=k) (by omega) (by omega); omega
     subst this; rw [hun] at hlk; cases hlk
    ·obtain ⟨h4,h5⟩:=F.dom hri h1 (by rw [hm]; exact h2) k (by omega) h3
     have:=befOut k (F.clash i k r rk h4 hri hrk ⟨b,.inl ⟨h5,.inr (by rw [hx]; simp)⟩⟩)
     rw [hlk] at this; cases this
  rw [hno]
  exact F.old b (by omega)
 have lastOut:∀ b,lastD r.δ b ≠ none→∀ (k:Nat) (rk:Rec),i<k→rs[k]?=some rk→listed.getD k true=true→lastD rk.δ b=none:=by
  intro b hb k rk hik hrk hlk
  cases hkb:lastD rk.δ b with
  | none=>rfl
  | some x =>
   have:=befOut k (F.clash i k r rk hik hri hrk ⟨b,.inl ⟨hb,.inr (by rw [hkb]; simp)⟩⟩)
   rw [hlk] at this; cases this
 have setD:∀ k,(listed.setIfInBounds i true).getD k true=(if k=i then true else listed.getD k true):=by
  intro k
  by_cases hki:k=i
  ·subst hki; simp [hilt]
  ·rw [if_neg hki]; exact getD_set_ne true (Ne.symm hki)
 have newSt:∀ stn:St,(∀ b,lkS stn b=(match lastD r.δ b with | some x=>x | none=>lkS stx b))→∀ b,lkS stn b=orS st b (lst rs (fun k=>(listed.setIfInBounds i true).getD k true) 0 b):=by
  intro stn hstn b
  rw [hstn b]
  cases hb:lastD r.δ b with
  | none =>
   rw [hst b]
   congr 1
   refine lst_agree _ _ _ _ _ fun k rk hrk hkb=>?_
   rw [Nat.zero_add,setD]
   by_cases hki:k=i
   ·subst hki; rw [hri] at hrk; cases hrk; exact absurd hb hkb
   ·rw [if_neg hki]
  | some x =>
   rw [lst_last rs _ 0 i b r x hri (by rw [Nat.zero_add,setD,if_pos rfl]) hb fun k rk hik hrk hlk=>?_]
   ·rfl
   ·rw [Nat.zero_add,setD,if_neg (by omega)] at hlk
    exact lastOut b (by rw [hb]; simp) k rk hik hrk hlk
 have after:∀ cv w' Y' σ' qs stn,(qs.length=ps.length∧∀ t,getL qs t=getL ps t)→SW C w' Y' σ' qs a.tmps.toList stn n→(∀ b,lkS stn b=(match lastD r.δ b with | some x=>x | none=>lkS stx b)) →
   (∀ b,(b<idA rs n i∨idA rs n i+m≤b)→σ' b=σ b)→Rep w' Y' σ' r.v cv→DefOK C.w0.heap.size D w' Y'→K (a.put o.dst cv) w':=by
  intro cv w' Y' σ' qs stn hq H' hstn hoff hv hD'
  refine hK _ _ ⟨by rw [put_defers]; exact hd,Y',σ',putT qs o.dst r.v,stn,H'.putT hv o.dst,by rw [putT_length,hq.1,hlen],?_,?_,newSt stn hstn,?_,hD',fun b sz rows hb=>?_⟩
  ·intro j oj t hj hdst hlj
   rw [set_listed hun] at hlj
   by_cases hji:j=i
   ·subst hji
    rw [ho] at hj; cases hj
    by_cases hlt:t<qs.length
    ·rw [hdst]
     simp only [putT,getL_setL]
     rw [if_pos ⟨trivial,hlt⟩]
     refine h8 t hdst (by rw [← hlen,← hq.1]; exact hlt) fun k pk hk hpk hkd=>?_
     exact absurd hdst ((chkAll_spec2 F.chk ho).2 k pk hpk (by omega) t hkd).1
    ·exact (getL_ge (by rw [putT_length]; exact Nat.le_of_not_lt hlt)).trans (getL_ge (by rw [F.flen,← hlen,← hq.1]; exact Nat.le_of_not_lt hlt)).symm
   ·have hne:=(hspec.2 j oj hj hji t hdst).1
    rw [putT_ne hne,hq.2]
    rcases hlj with h | h
    ·exact absurd h hji
    ·exact hdone j oj t hj hdst h
  ·intro t ht
   have hne:o.dst ≠ some t:=fun e=>by
    have:=ht i o ho e
    rw [(set_listed hun).2 (.inl rfl)] at this; cases this
   rw [putT_ne hne,hq.2]
   refine hrest t fun k pk hk hkd=>?_
   have:=ht k pk hk hkd
   cases hlk:listed.getD k true with
   | false=>rfl
   | true=>rw [(set_listed hun).2 (.inr hlk)] at this; cases this
  ·intro j hj hlj b hb1 hb2
   rw [setD] at hlj
   by_cases hji:j=i
   ·rw [if_pos hji] at hlj; cases hlj
   ·rw [if_neg hji] at hlj
    rw [hoff b ?_]; · exact hfree j hj hlj b hb1 hb2
    rcases Nat.lt_or_ge i j with hij | hij
    ·right; have:=F.mono (i:=i+1) (j:=j) (by omega) (by omega); omega
    ·left; have:=F.mono (i:=j+1) (j:=i) (by omega) (by omega); omega
  ·rw [hstn b] at hb
   cases hx:lastD r.δ b with
   | none=>rw [hx] at hb; exact hnn b sz rows hb
   | some x=>rw [hx] at hb; simp only at hb; subst hb; exact hS.nn b sz rows hx
 have q1:getL (patch (o.looksAt all) q ps)=getL ps:=by
  funext t
  by_cases ht:t<ps.length
  ·rw [patch_get ht]
   split
   ·rename_i h; exact (look t h).symm
   ·rfl
  ·rw [getL_ge (by rw [patch_length]; exact Nat.le_of_not_lt ht),getL_ge (Nat.le_of_not_lt ht)]
 have l1:q.length=ps.length:=by rw [qlen,hlen]
 have hwb:=hS.gd C _ Y σ a w stx n look H
 unfold wpOp
 simp only [ho]
 cases hw:r.wb with
 | true =>
  rw [hw] at hwb
  rw [if_pos hwb]
  have hle:idA rs n i+m≤n:=by
   rw [← hm]
   have:=F.mono (i:=i+1) (j:=all.size) (by omega) (Nat.le_refl _)
   have e:idA rs n all.size=n:=by simp [idA,List.getElem?_eq_none (Nat.le_of_eq F.len)]
   omega
  exact .inl (hS.sem hw C _ Y σ a w stx n look H hnn hlk hwin (Nat.le_trans hpas hnx) hle K Q fun cv w' Y' σ' st' H' hst' hoff hv hD'=>after cv w' Y' σ' ps st' ⟨rfl,fun _=>rfl⟩ H' hst' hoff hv (hD' _ D hD))
 | false =>
  rw [hw] at hwb
  rw [if_neg (by rw [hwb]; simp)]
  obtain ⟨e1,e2⟩:=hS.skip hw
  exact after _ w Y σ ps stx ⟨rfl,fun _=>rfl⟩ H (fun b=>by rw [e2]; rfl) (fun _ _=>rfl) (by rw [e1]; simp [Rep]) hD
theorem ready_nil_allF {all:Array Oper} (hchk:chkAll all all.toList 0=true) {listed:Array Bool} (hsz:listed.size=all.size) (hr:Region.ready .any all listed=[]):∀ j,listed.getD j true=true:=by
 intro j
 induction j using Nat.strongRecOn with
 | _ j ih =>
  cases h:listed.getD j true with
  | true=>rfl
  | false =>
   have hlt:j<listed.size:=by
    rcases Nat.lt_or_ge j listed.size with h' | h'
    ·exact h'
    ·simp [Array.getElem?_eq_none h'] at h
   have hj:all[j]?=some all[j]:=Array.getElem?_eq_getElem (by omega)
   have:j∈Region.ready .any all listed:=mem_ready.2 ⟨h,_,hj,fun e he hb=>by
    have hlt':=(chkAll_spec2 hchk hj).1 e he hb
    have:=ih e.on hlt'
    have h2:e.on<listed.size:=by omega
    simp [h2] at this ⊢; exact this⟩
   rw [hr] at this; cases this
theorem draw_anyF {nx:Nat} (hpas:T.pas≤nx) {C:Ctx T} {all:Array Oper} {rs:List Rec} {st:St} {n:Nat} {p f:List PV} {D:List Nat} (F:FactsF P T all rs p st nx f n) {Q:Exit→Act→World→Prop}
  (hQ:∀ a w Y σ stx,a.defers=marks D→SW C w Y σ f a.tmps.toList stx n→(∀ b,lkS stx b=lkS (stAt rs st rs.length) b)→DefOK C.w0.heap.size D w Y→Q .normal a w):∀ (fuel:Nat) (listed:Array Bool) (a:Act) (w:World),listed.size=all.size→listed.toList.count false=fuel →
   (∀ j o,all[j]?=some o→listed.getD j true=true→∀ e∈o.after,Region.binds .any e=true→listed.getD e.on true=true) →
   StageF C all rs st n p f D listed a w→wpAny P .any all Q fuel listed a w:=by
 have fin:∀ (listed:Array Bool) (a:Act) (w:World),listed.size=all.size→StageF C all rs st n p f D listed a w→Region.ready .any all listed=[]→Q .normal a w:=by
  intro listed a w hsz hs hr
  have hl:=ready_nil_allF F.chk hsz hr
  obtain ⟨hd,Y,σ,ps,stx,H,hlen,hdone,hrest,hst,_,hD,_⟩:=hs
  have hpf:∀ t,getL ps t=getL f t:=by
   intro t
   by_cases hex:∃ (j:Nat) (o:Oper),all[j]?=some o∧o.dst=some t
   ·obtain ⟨j,o,hj,hdst⟩:=hex
    exact hdone j o t hj hdst (hl j)
   ·rw [hrest t fun j o hj hdst=>absurd ⟨j,o,hj,hdst⟩ hex]
    refine F.keep t fun o ho hdst=>?_
    obtain ⟨j,hj⟩:=List.getElem?_of_mem ho
    exact hex ⟨j,o,by simpa using hj,hdst⟩
  have heq:EqvL ps f:=⟨by rw [hlen,F.flen],fun t=>by rw [hpf t]; exact Eqv.refl _⟩
  refine hQ a w Y σ stx hd (H.vals' (H.vals.eqv heq)) (fun b=>?_) hD
  rw [hst b,lk_stAt rs st rs.length 0 b]
  congr 1
  refine lst_agree _ _ _ _ _ fun k rk hrk _=>?_
  rw [Nat.zero_add,Nat.zero_add,hl k]
  have:k<rs.length:=by
   by_cases hh:k<rs.length
   ·exact hh
   ·rw [List.getElem?_eq_none (Nat.le_of_not_lt hh)] at hrk; cases hrk
  simp [this]
 intro fuel
 induction fuel with
 | zero =>
  intro listed a w hsz hc hclosed hs
  have hr:Region.ready .any all listed=[]:=by
   rw [List.eq_nil_iff_forall_not_mem]
   intro i hi
   have hun:=(mem_ready.1 hi).1
   have hlt:i<listed.size:=by
    rcases Nat.lt_or_ge i listed.size with h' | h'
    ·exact h'
    ·simp [Array.getElem?_eq_none h'] at hun
   have hget:listed[i]=false:=by simpa [hlt] using hun
   have hm:false∈listed.toList:=by rw [← hget]; simp
   exact (List.count_eq_zero.1 hc) hm
  exact ⟨hr,fin listed a w hsz hs hr⟩
 | succ fuel ih =>
  intro listed a w hsz hc hclosed hs
  refine ⟨fin listed a w hsz hs,fun i hi=>?_⟩
  have hun:=(mem_ready.1 hi).1
  refine stage_stepF hpas F hsz hclosed hs hi fun a' w' hs'=>ih _ a' w' (by simpa using hsz) (count_set hun hc) ?_ hs'
  intro j o hj hlj e he hb
  rw [set_listed hun] at hlj ⊢
  rcases hlj with h | h
  ·subst h
   obtain ⟨_,o',ho',hall⟩:=mem_ready.1 hi
   rw [hj] at ho'; cases ho'
   have:=hall e he hb
   refine .inr ?_
   rcases Nat.lt_or_ge e.on listed.size with h' | h'
   ·simp [h'] at this ⊢; exact this
   ·simp [Array.getElem?_eq_none h'] at this
  ·exact .inr (hclosed j o hj h e he hb)
theorem noNar_specG:∀ (st:St),noNar st=true→NNs st
 | [],_,b,sz,rows,h=>by simp [lkS] at h
 | (c,x)::st,h,b,sz,rows,hb=>by
  have h1:noNar st=true∧∀ sz rows,x ≠ some (.nar sz rows):=by
   cases x with
   | none=>exact ⟨by simpa [noNar] using h,by simp⟩
   | some y=>cases y <;> simp_all [noNar]
  simp only [lkS] at hb
  cases hc:Nat.beq c b with
  | true=>rw [hc] at hb; exact h1.2 _ _ hb
  | false=>rw [hc] at hb; exact noNar_specG st h1.1 b sz rows hb
theorem hasN_iffG:∀ (l:List Nat) (b:Nat),hasN l b=true ↔ b∈l
 | [],b=>by simp [hasN]
 | c::l,b=>by
  simp only [hasN]
  cases hc:Nat.beq c b with
  | true=>simp [Nat.eq_of_beq_eq_true hc]
  | false =>
   have:¬ b=c:=fun e=>by subst e; rw [Nat.beq_refl] at hc; cases hc
   simp [hasN_iffG l b,this]
theorem okG_spec {st:St} {nx:Nat}:∀ (δ:Dl),okG st nx δ=true→(∀ b,lastD δ b ≠ none→b=nx∨lkS st b ≠ none)∧(∀ b sz rows,lastD δ b ≠ some (some (.nar sz rows)))∧∀ b,lastD δ b ≠ none→b∈keysG δ
 | [],_=>⟨fun b h=>absurd rfl h,fun b sz rows (h:(none:Option (Option Blk))=some (some (.nar sz rows)))=>(by cases h),fun b h=>absurd rfl h⟩
 | (c,x)::δ,h=>by
  simp only [okG,Bool.and_eq_true,Bool.or_eq_true] at h
  obtain ⟨h1,h2,h3⟩:=h
  obtain ⟨g1,g2,g3⟩:=okG_spec δ h3
  refine ⟨fun b hb=>?_,fun b sz rows hb=>?_,fun b hb=>?_⟩
  ·simp only [lastD] at hb
   cases hl:lastD δ b with
   | some y=>exact g1 b (by rw [hl]; simp)
   | none =>
    rw [hl] at hb
    by_cases hc:c=b
    ·subst hc
     rcases h2 with h2 | h2
     ·exact .inl (Nat.eq_of_beq_eq_true h2)
     ·refine .inr fun e=>?_
      rw [e] at h2; cases h2
    ·simp [hc] at hb
  ·simp only [lastD] at hb
   cases hl:lastD δ b with
   | some y=>rw [hl] at hb; simp only [Option.some.injEq] at hb; subst hb; exact g2 b sz rows hl
   | none =>
    rw [hl] at hb
    by_cases hc:c=b
    ·subst hc; simp at hb; subst hb; simp at h1
    ·simp [hc] at hb
  ·simp only [lastD] at hb
   simp only [keysG]
   cases hl:lastD δ b with
   | some y=>exact List.mem_cons_of_mem _ (g3 b (by rw [hl]; simp))
   | none =>
    rw [hl] at hb
    by_cases hc:c=b
    ·subst hc; simp
    ·simp [hc] at hb
theorem opE_semF (hT:TabOK P T) (hW:PWf P) {all:Array Oper} {o:Oper} {ps:List PV} {lk:Nat→Option Blk} {id:Nat} {v:PV} {δ:Dl} (hF:∀ K' : PV→Dl→Prop,K' v δ→opE T (Sig.std P T) o.op ps lk id K'):SemF P T all o ps lk id 1 v δ:=by
 intro C qs Y σ a w st n hl H hn hlk hwin hpas hle next Q hnext
 have H2:=H.rebaseT hn
 have h4:=hF (fun v' δ'=>v'=v∧δ'=δ) ⟨rfl,rfl⟩
 rw [← opE_congr (tmp_looks hl)] at h4
 obtain ⟨v',δ',cv,w',Y',σ',⟨rfl,rfl⟩,hrun,H',hrep,hoff⟩:=opE_res hT hW H2 hlk ⟨(hwin id (Nat.le_refl _) (by omega)).1,hpas⟩ h4
 have hni:nextI δ' n id≤n:=by cases δ' <;> simp [nextI] <;> omega
 have H3:=(H.composeT H').mono hni
 have:=hnext cv w' Y' σ' (applyD δ' st) H3 (fun b=>lk_applyD _ _ _) (fun b hb=>hoff b (by omega)) hrep (fun B D hD=>hD.step H.store H')
 unfold Oper.wp
 rcases hrun with hrun | ⟨hrun,rfl⟩
 ·rw [hrun]; exact this
 ·rw [hrun]; exact this
theorem snocT_eq:∀ (l:List (List Nat × List Nat × List Nat)) x,snocT l x=l ++ [x]
 | [],x=>rfl
 | y::l,x=>by simp [snocT,snocT_eq l x]
theorem opsG_chain (hT:TabOK P T) (hW:PWf P) {all:Array Oper}:∀ (l:List Oper) (E:Env) (tr:List Tc) (K:Env→List Tc→Prop),NNs E.st→opsG T (Sig.std P T) l E tr K →
  ∃ rs E' tr',ChF P T all l rs E.tmps E.st E.next E'.tmps E'.st E'.next∧K E' (tr ++ tr')∧(∀ (i:Nat) (r:Rec),rs[i]?=some r→∃ tc,tr'[i]?=some tc∧TcOK r tc)
 | [],E,tr,K,_,h=>⟨[],E,[],⟨rfl,rfl,rfl⟩,by rw [List.append_nil]; exact h,fun i r hr=>by simp at hr⟩
 | o::l,E,tr,K,hnn,h=>by
  unfold opsG stepG at h
  split at h
  ·rename_i hg
   split at h
   ·rename_i hq hnd
    have hdet:∃ v δ,(match okG E.st E.next δ with
     | true=>opsG T (Sig.std P T) l (putE ⟨E.tmps,applyD δ E.st,E.next+1⟩ o.dst v) (snocT tr (rdG T E.tmps o.op,keysG δ,keysG δ)) K
     | false=>False)∧∀ K' : PV→Dl→Prop,K' v δ→opE T (Sig.std P T) o.op E.tmps (lkG (rdG T E.tmps o.op) E.st) E.next K':=by
     cases hQ:isQ o.op with
     | true=>exact opE_det hQ h
     | false =>
      rw [hQ] at hq
      have hq:(Nat.beq (clsO T o.op) 1 || Nat.beq (clsO T o.op) 2)=true:=hq
      rw [Bool.or_eq_true] at hq
      exact opE_det2 (hq.imp Nat.eq_of_beq_eq_true Nat.eq_of_beq_eq_true) hnd h
    obtain ⟨v,δ,hK,hF⟩:=hdet
    cases hok:okG E.st E.next δ with
    | false=>rw [hok] at hK; exact hK.elim
    | true =>
     rw [hok] at hK
     obtain ⟨g1,g2,g3⟩:=okG_spec δ hok
     have hput:∀ (e:Env),putE e o.dst v=⟨putT e.tmps o.dst v,e.st,e.next⟩:=fun e=>by cases hd:o.dst <;> simp [putE,putT]
     rw [hput] at hK
     have hnn2:NNs (applyD δ E.st):=fun b sz rows hb=>by
      rw [lk_applyD] at hb
      cases hl:lastD δ b with
      | none=>rw [hl] at hb; exact hnn b sz rows hb
      | some y=>rw [hl] at hb; have hb:y=some (.nar sz rows):=hb; exact g2 b sz rows (by rw [hl,hb])
     obtain ⟨rs,E',tr',hc,hk,ht⟩:=opsG_chain hT hW l _ _ K hnn2 hK
     refine ⟨⟨E.tmps,E.tmps,lkG (rdG T E.tmps o.op) E.st,v,δ,E.next,true,true,false⟩::rs,E',(rdG T E.tmps o.op,keysG δ,keysG δ)::tr',⟨1,⟨rfl,?_,fun _=>opE_semF hT hW hF,fun e=>by (cases e),fun b x hb=>?_,fun b hb=>?_,g2⟩,hc⟩,by rw [snocT_eq] at hk; simpa using hk,fun i r hr=>?_⟩
     ·intro C ps Y σ a w st n _ _
      simp [Region.wanted,hg]
     ·show lkS E.st b=some x
      have hb:lkG (rdG T E.tmps o.op) E.st b=some x:=hb
      unfold lkG at hb
      cases hh:hasN (rdG T E.tmps o.op) b with
      | true=>rw [hh] at hb; exact hb
      | false=>rw [hh] at hb; cases hb
     ·rcases g1 b hb with rfl | h1
      ·exact .inl ⟨Nat.le_refl _,by omega⟩
      ·exact .inr h1
     ·cases i with
      | zero =>
       simp at hr; subst hr
       refine ⟨_,rfl,fun b hb=>?_,g3,fun b hb=>hb⟩
       have hb:lkG (rdG T E.tmps o.op) E.st b ≠ none:=hb
       unfold lkG at hb
       cases hh:hasN (rdG T E.tmps o.op) b with
       | true=>exact (hasN_iffG _ _).1 hh
       | false=>rw [hh] at hb; exact absurd rfl hb
      | succ i=>exact ht i r (by simpa using hr)
   ·exact h.elim
  ·exact h.elim
theorem opsG_sound (hT:TabOK P T) (hW:PWf P) {id:Nat} {l:Array Oper} {E:Env} {K:Env→Prop} (hlt:ltS E.next E.st=true) (hnn:noNar E.st=true) (h:opsG T (Sig.std P T) l.toList E [] fun E tr=>(Sig.std P T).ordF l tr (K E)) :
  ∀ (C:Ctx T) a w,ActRep C E a w→∀ Q:Exit→Act→World→Prop,(∀ E' a' w',ActRep C E' a' w'→K E'→Q .normal a' w')→(Code.region id l true).wp P Q a w:=by
 intro C a w hA Q hQ
 obtain ⟨rs,E',tr,hch,⟨hchk,hK⟩,h5⟩:=opsG_chain hT hW (all:=l) l.toList E [] _ (noNar_specG _ hnn) h
 rw [List.nil_append] at hchk
 obtain ⟨hc1,hc2⟩:=and_tt hchk
 obtain ⟨⟨Y,σ,H⟩,hdf⟩:=hA
 obtain ⟨hl1,hl2,hl3⟩:=hch.len _ _
 have F:FactsF P T l rs E.tmps E.st E.next E'.tmps E'.next:=by
  refine ⟨hc1,by simpa using hl1,fun i o hi=>?_,hl2,fun t ht=>hch.keep _ _ ht,fun b hb=>?_,fun i k ri rk hik hi hk hc=>?_⟩
  ·obtain ⟨r,q,m,a0,a1,a2,a3,a4,a6,a7,a8⟩:=hch.get _ _ i o (by simpa using hi)
   exact ⟨r,q,m,a0,a1,a2,a3,a4,fun t ht=>a6 t fun j oj hj hoj=>ht j oj hj (by simpa using hoj),fun t ht=>a7 t fun j oj hj hoj=>ht j oj hj (by simpa using hoj),fun d hd hlt hn=>a8 d hd hlt fun j oj hj hoj=>hn j oj hj (by simpa using hoj)⟩
  ·cases hx:lkS E.st b with
   | none=>rfl
   | some x=>exact absurd (ltS_spec _ hlt b (by rw [hx]; simp)) (by omega)
  ·obtain ⟨x,hx,hx2⟩:=h5 i ri hi
   obtain ⟨y,hy,hy2⟩:=h5 k rk hk
   have:=chkT_spec tr 0 hc2 i k x y hik hx hy
   rw [Nat.zero_add,Nat.zero_add] at this
   exact pairT_spec hx2 hy2 this hc
 have hrep:∀ j,j<l.size→(Array.replicate l.size false).getD j true=false:=fun j hj=>by simp [hj]
 have hno:∀ j o,l[j]?=some o→(Array.replicate l.size false).getD j true=true→False:=by
  intro j o hj hlj
  have hlt:j<l.size:=by
   rcases Nat.lt_or_ge j l.size with h' | h'
   ·exact h'
   ·simp [Array.getElem?_eq_none h'] at hj
  rw [hrep j hlt] at hlj; cases hlj
 refine wp_region_any hW.mixed (draw_anyF (C:=C) (D:=[]) H.fix.1 F (fun a' w' Y' σ' stx hd' H' hstx hD'=>hQ E' a' w' ⟨⟨Y',σ',H'.ext fun b x hx=>?_⟩,hd'⟩ hK) l.size _ a _ (by simp) ?_ ?_ ?_)
 ·rw [hstx b,← hch.fin]; exact hx
 ·simp
 ·intro j o hj hlj; exact (hno j o hj hlj).elim
 ·refine ⟨hdf,Y,σ,E.tmps,E.st,(H.drawn _).mono hl3,rfl,?_,fun t _=>rfl,fun b=>?_,fun j hj _ b hb1 _=>?_,⟨List.nodup_nil,fun r hr=>by cases hr⟩,noNar_specG _ hnn⟩
  ·intro j o t hj hdst hlj; exact (hno j o hj hlj).elim
  ·rw [lst_none _ _ _ _ fun k r hr hDD=>?_]; · rfl
   rw [Nat.zero_add] at hDD
   obtain ⟨ok,hok⟩:=F.oper hr
   exact (hno k ok hok hDD).elim
  ·obtain ⟨_,_,_,_,_,_,_,h6,_⟩:=F.get j _ (Array.getElem?_eq_getElem hj)
   exact H.next b (Nat.le_trans h6 hb1)
end
end Go.Pv
namespace Go.Pv
open Go
theorem lift_seq {T:Tab} {C:Ctx T} {P:Program} {b:Code} {Q:Post} {nx:Env→Prop} (hb:∀ E a w,ActRep C E a w→nx E→b.wp P (lift C Q) a w):∀ e a w,lift C (seqQ nx Q) e a w→Exit.then (b.wp P (lift C Q)) (lift C Q) e a w:=by
 intro e a w h
 cases e with
 | normal=>obtain ⟨E,hA,hq⟩:=h; exact hb E a w hA hq
 | ret=>obtain ⟨E,hA,hq⟩:=h; exact ⟨E,hA,hq⟩
 | exit n=>obtain ⟨E,hA,hq⟩:=h; exact ⟨E,hA,hq⟩
 | _=>exact h.elim
theorem lift_ent {T:Tab} {C:Ctx T} {Q Q' : Post} (h:∀ n E,Q n E→∃ F,Ent T E F∧Q' n F):∀ e a w,lift C Q e a w→lift C Q' e a w:=by
 intro e a w hq
 have go:∀ n,(∃ E,ActRep C E a w∧Q n E)→∃ E,ActRep C E a w∧Q' n E:=by
  rintro n ⟨E,hA,hq⟩
  obtain ⟨F,h1,h2⟩:=h n E hq
  exact ⟨F,h1 C a w hA,h2⟩
 cases e with
 | normal=>exact go 0 hq
 | ret=>exact go 1 hq
 | exit n=>exact go (n+2) hq
 | _=>exact hq.elim
theorem pwp_sound {P:Program} {T:Tab} (hT:TabOK P T) (hW:PWf P):∀ (c:Code) (Q:Post) (E:Env),pwp T (Sig.std P T) c Q E→TripleC P T c Q E:=by
 intro c
 induction c with
 | skip=>intro Q E h C a w hA; exact wp_skip ⟨E,hA,h⟩
 | region id l dr =>
  intro Q E h C a w hA
  cases dr with
  | true =>
   simp only [pwp] at h
   cases hcut:hasN T.cut (1000+id) with
   | true =>
    rw [hcut] at h
    simp only [cond_true] at h
    cases hl:(ltS E.next E.st && noNar E.st) with
    | false=>rw [hl] at h; exact h.elim
    | true =>
     rw [hl] at h
     rw [Bool.and_eq_true] at hl
     exact opsG_sound hT hW hl.1 hl.2 h C a w hA _ fun E' a' w' hA' hK=>⟨E',hA',hK⟩
   | false =>
   rw [hcut] at h
   obtain ⟨h1,h2⟩:=h
   cases hl:ltS E.next E.st with
   | false=>rw [hl] at h2; exact h2.elim
   | true=>rw [hl] at h2; exact draw_sound hT hW h1 hl h2 C a w hA _ fun E' a' w' hA' hK=>⟨E',hA',hK⟩
  | false=>exact wp_region_list (opsE_sound hT hW l.toList E _ h a w hA fun E' a' w' hA' hK=>⟨E',hA',hK⟩)
 | seq x y ihx ihy =>
  intro Q E h C a w hA
  simp only [pwp] at h
  cases hs:goesOn T.cut x y with
  | true =>
   rw [hs] at h
   exact wp_seq (wp_mono (ihx _ E h C a w hA) (lift_seq fun E' a' w' hA' hq=>ihy Q E' hq C a' w' hA'))
  | false =>
   rw [hs] at h
   obtain ⟨Q',h1,h2⟩:=h
   refine wp_seq (wp_mono (wp_mono (ihx Q' E h1 C a w hA) (lift_ent h2)) (lift_seq fun E' a' w' hA' hq=>ihy Q E' hq C a' w' hA'))
 | cond c x y ihx ihy =>
  intro Q E h C a w hA
  cases c with
  | tmp c =>
   simp only [pwp] at h
   have hA':=hA
   obtain ⟨⟨Y,σ,H⟩,hd⟩:=hA'
   have hg:=H.vals.get _ _ c
   have hev:a.eval (.tmp c)=a.tmps.toList.getD c Go.undef:=by simp [Act.eval,Array.getD_eq_getD_getElem?,List.getD_eq_getElem?_getD]
   split at h
   ·rename_i e; rw [e] at hg
    exact wp_cond_true (by rw [hev]; exact rep_bool hg) (ihx Q E h C a w hA)
   ·rename_i e; rw [e] at hg
    exact wp_cond_false (by rw [hev]; exact rep_bool hg) (ihy Q E h C a w hA)
   ·rename_i t e
    have hg2:=hg
    rw [e] at hg2
    refine wp_cond_split (t:=t) (by rw [hev]; exact rep_sb hg2) (fun ht=>?_) (fun ht=>?_)
    ·exact ihx Q _ (h.1 ht) C a w ⟨⟨Y,σ,H.setSame e true ht⟩,hd⟩
    ·exact ihy Q _ (h.2 ht) C a w ⟨⟨Y,σ,H.setSame e false ht⟩,hd⟩
   ·exact h.elim
  | const v =>
   cases v with
   | bool b =>
    cases b with
    | true=>exact wp_cond_true rfl (ihx Q E h C a w hA)
    | false=>exact wp_cond_false rfl (ihy Q E h C a w hA)
   | _=>exact (by simp [pwp] at h)
  | _=>exact (by simp [pwp] at h)
 | block id b ih =>
  intro Q E h C a w hA
  refine wp_block (wp_mono (ih _ E h C a w hA) fun e a' w' hq=>?_)
  cases e with
  | normal=>exact hq
  | ret=>exact hq
  | exit n =>
   obtain ⟨E',hA',hq⟩:=hq
   simp only [Exit.inBlock]
   have hq:(bif Nat.beq n id then Q 0 E' else Q (n+2) E'):=hq
   by_cases hn:n=id
   ·rw [if_pos hn]
    subst hn
    simp only [Nat.beq_refl,cond_true] at hq
    exact ⟨E',hA',hq⟩
   ·rw [if_neg hn]
    rw [beqN hn] at hq
    exact ⟨E',hA',hq⟩
  | _=>exact hq.elim
 | loop b ih=>intro Q E h; exact h
 | exit n=>intro Q E h C a w hA; exact wp_exit ⟨E,hA,h⟩
 | ret=>intro Q E h C a w hA; exact wp_ret ⟨E,hA,h⟩
 | _=>intro Q E h; exact (by simp [pwp] at h)
end Go.Pv
namespace Go.Pv
open Go
theorem SW.reroot {T:Tab} {C:Ctx T} {w:World} {Y:Nat→Prop} {σ:Sg} {ps:List PV} {vs:List Value} {st:St} {n:Nat} (H:SW C w Y σ ps vs st n) {b r m sz:Nat} {rows:List (List PV)} {cv:Value}
  (hb:lkS st b=some (.arr false sz rows)) (hv:Rep w Y σ (.os b r m) cv) :
  ∃ σ',SW C w Y σ' ps vs (inS (inS st b none) n (some (.arr false sz ((rows.drop r).take m)))) (n+1)∧Rep w Y σ' (.os n 0 m) cv∧SgLe σ σ':=by
 have hn:=H.next n (Nat.le_refl _)
 have nb:b ≠ n∨σ b=none:=by
  by_cases h:b=n
  ·right; rw [h]; exact hn
  ·exact .inl h
 have old:∀ c x,lkS (inS st b none) c=some x→c ≠ b∧lkS st c=some x:=by
  intro c x h
  rw [lkS_inS] at h
  by_cases hc:b=c
  ·rw [if_pos hc] at h; cases h
  ·rw [if_neg hc] at h; exact ⟨fun e=>hc e.symm,h⟩
 have hv0:=hv
 unfold Rep at hv
 rcases hv with ⟨l,cap,hs,ev,hmc,htot,hnr⟩ | ⟨hm,a,ev⟩
 ·let l' : Loc:=⟨l.cb,l.co+r * l.sz,l.sz,l.tot,m⟩
  let σ' : Sg:=fun k=>if k=n then some l' else σ k
  have hσ:∀ k,k ≠ n→σ' k=σ k:=fun k h=>if_neg h
  have hσn:σ' n=some l':=if_pos rfl
  have hle:SgLe σ σ':=by
   intro k x h
   by_cases hk:k=n
   ·rw [hk,hn] at h; cases h
   ·rw [hσ k hk]; exact h
  have K:Keep w w Y Y σ σ':=⟨fun _ _ _=>rfl,fun _ _ h=>h,Nat.le_refl _,hle⟩
  have hbn:b ≠ n:=by intro e; rw [e,hn] at hs; cases hs
  obtain ⟨lb,hlb,hB⟩ | ⟨hno,_⟩:=H.store.blk b _ hb
  ·rw [hs] at hlb; cases hlb
   unfold BlkRep at hB
   obtain ⟨hat,hsz,hpos,⟨hfit,hnrw⟩,hrows,hY1,hY2⟩:=hB
   have hlen:((rows.drop r).take m).length=m:=by rw [List.length_take,List.length_drop]; omega
   refine ⟨σ',⟨RepL.keep _ K _ H.vals,⟨?_,?_⟩,?_,H.yold,H.y0,H.c0,H.yshr,H.chg,?_,H.glob,⟨by have:=H.fix.1; omega,?_⟩,?_⟩,?_,hle⟩
   ·intro c x hx
    rw [lkS_inS] at hx
    by_cases hc:n=c
    ·rw [if_pos hc] at hx; cases hx; subst hc
     refine .inl ⟨l',hσn,?_⟩
     unfold BlkRep
     refine ⟨⟨hat.blk⟩,hsz,hpos,⟨?_,hlen⟩,?_,hY1,fun h=>by cases h⟩
     ·rw [hlen]
      show l.co+r * l.sz+m * sz≤l.tot
      have:m * l.sz≤cap * l.sz:=Nat.mul_le_mul_right _ hmc
      rw [← hsz] at *; omega
     ·show RepR w Y noSg l.cb sz _ (l.co+r * l.sz)
      rw [hsz]
      exact RepR.take m _ _ (RepR.drop r _ _ hrows)
    ·rw [if_neg hc] at hx
     obtain ⟨_,hx⟩:=old c x hx
     rcases H.store.blk c x hx with ⟨l2,h2,hB2⟩ | ⟨h2,h3⟩
     ·exact .inl ⟨l2,hle _ _ h2,BlkRep.keep K rfl Iff.rfl hB2⟩
     ·exact .inr ⟨by rw [hσ c (fun e=>hc e.symm)]; exact h2,h3⟩
   ·intro c c' x x' lc lc' hx hx' hl hl' e
    rw [lkS_inS] at hx hx'
    by_cases hc:n=c
    ·by_cases hc' : n=c'
     ·rw [← hc,← hc']
     ·rw [if_neg hc'] at hx'
      obtain ⟨hcb,hx'⟩:=old c' x' hx'
      subst hc
      rw [hσn] at hl; cases hl
      rw [hσ c' (fun e=>hc' e.symm)] at hl'
      exact absurd (H.store.inj b c' _ x' l lc' hb hx' hs hl' e).symm hcb
    ·rw [if_neg hc] at hx
     obtain ⟨hcb,hx⟩:=old c x hx
     rw [hσ c (fun e=>hc e.symm)] at hl
     by_cases hc' : n=c'
     ·subst hc'
      rw [hσn] at hl'; cases hl'
      exact absurd (H.store.inj c b x _ lc l hx hb hl hs e) hcb
     ·rw [if_neg hc'] at hx'
      obtain ⟨_,hx'⟩:=old c' x' hx'
      rw [hσ c' (fun e=>hc' e.symm)] at hl'
      exact H.store.inj c c' x x' lc lc' hx hx' hl hl' e
   ·intro k hk
    rw [hσ k (by omega)]; exact H.next k (by omega)
   ·intro c x lc hx hl
    rw [lkS_inS] at hx
    by_cases hc:n=c
    ·subst hc
     rw [hσn] at hl; cases hl
     exact H.own b _ l hb hs
    ·rw [if_neg hc] at hx
     obtain ⟨_,hx⟩:=old c x hx
     rw [hσ c (fun e=>hc e.symm)] at hl
     exact H.own c x lc hx hl
   ·intro k hk
    rw [hσ k (by have:=H.fix.1; omega)]; exact H.fix.2 k hk
   ·have ow:∀ c rr cc h sz' es,OwAt (inS (inS st b none) n (some (.arr false sz ((rows.drop r).take m)))) c rr cc h sz' es→OwAt st c rr cc h sz' es:=by
     rintro c rr cc h sz' es ⟨s0,rws,row,h1,h2⟩
     rw [lkS_inS] at h1
     by_cases hc:n=c
     ·rw [if_pos hc] at h1; cases h1
     ·rw [if_neg hc] at h1
      exact ⟨s0,rws,row,(old c _ h1).2,h2⟩
    refine ⟨fun _ _ _ _ _ _ h=>H.nest.rep _ _ _ _ _ _ (ow _ _ _ _ _ _ h),fun _ _ _ _ _ _ h=>H.nest.old _ _ _ _ _ _ (ow _ _ _ _ _ _ h),fun _ _ _ _ _ _ _ _ _ _ _ _ h h'=>H.nest.one _ _ _ _ _ _ _ _ _ _ _ _ (ow _ _ _ _ _ _ h) (ow _ _ _ _ _ _ h'),?_⟩
    intro c rr cc h sz' es c' x lc ho hx hl
    rw [lkS_inS] at hx
    by_cases hc:n=c'
    ·subst hc
     rw [hσn] at hl; cases hl
     exact H.nest.sep _ _ _ _ _ _ b _ l (ow _ _ _ _ _ _ ho) hb hs
    ·rw [if_neg hc] at hx
     rw [hσ c' (fun e=>hc e.symm)] at hl
     exact H.nest.sep _ _ _ _ _ _ c' x lc (ow _ _ _ _ _ _ ho) (old c' x hx).2 hl
   ·unfold Rep
    refine .inl ⟨l',cap,hσn,?_,hmc,?_,?_⟩
    ·rw [ev]; show Value.slice (some ⟨l.cb,l.co+r * l.sz,none⟩) m cap=Value.slice (some ⟨l.cb,l.co+r * l.sz+0 * l.sz,none⟩) m cap
     rw [Nat.zero_mul,Nat.add_zero]
    ·show l.co+r * l.sz+0 * l.sz+cap * l.sz=l.tot
     rw [Nat.zero_mul,Nat.add_zero]; exact htot
    ·show 0+m≤m; omega
  ·rw [hs] at hno; cases hno
 ·subst hm
  have H1:=(H.drop b).empty (id:=n) ⟨hn,H.fix.1⟩ sz
  have hm:max n (n+1)=n+1:=by omega
  rw [hm] at H1
  refine ⟨σ,by simpa using H1,?_,SgLe.refl _⟩
  unfold Rep
  exact .inr ⟨rfl,a,ev⟩
section
variable {P:Program} {T T' : Tab} {C:Ctx T} {w:World} {ps:List PV} {vs:List Value}
theorem Keep.same {w:World} {Y:Nat→Prop} {σ σ' : Sg} (h:SgLe σ σ'):Keep w w Y Y σ σ':=⟨fun _ _ _=>rfl,fun _ _ h=>h,Nat.le_refl _,h⟩
theorem Keep.trans2 {w:World} {Y Y' Y2:Nat→Prop} {σ σ' σ2:Sg} (h:Keep w w Y Y' σ σ') (k:Keep w w Y' Y2 σ' σ2):Keep w w Y Y2 σ σ2:=⟨fun _ _ _=>rfl,fun c hc h2=>h.excl c hc (k.excl c hc h2),Nat.le_refl _,h.sg.trans k.sg⟩
theorem cvCell_sound (z:Nat × Bool) (v:PV) {Y:Nat→Prop} {σ:Sg} {st:St} {n:Nat} {cv:Value} (H:SW C w Y σ ps vs st n) (hv:Rep w Y σ v cv) :
  ∃ Y' σ',SW C w Y' σ' ps vs (cvCell (Sig.std P T') z v st n).2.1 (cvCell (Sig.std P T') z v st n).2.2∧Rep w Y' σ' (cvCell (Sig.std P T') z v st n).1 cv∧Keep w w Y Y' σ σ':=by
 have same:∃ Y' σ',SW C w Y' σ' ps vs st n∧Rep w Y' σ' v cv∧Keep w w Y Y' σ σ':=⟨Y,σ,H,hv,Keep.same (SgLe.refl _)⟩
 obtain ⟨z,re⟩:=z
 cases z with
 | zero =>
  cases re with
  | false=>exact same
  | true =>
   simp only [cvCell]
   split
   ·rename_i v' hfr
    obtain ⟨Y',H',hY⟩:=SW.roS (callN [v] st) H
    have K:Keep w w Y Y' σ σ:=⟨fun _ _ _=>rfl,fun k _=>hY k,Nat.le_refl _,SgLe.refl _⟩
    have hfree:∀ b x l,lkRo (roS st (callN [v] st)) b=some x→σ b=some l→¬ Y' l.cb:=by
     intro b x l h1 h2
     obtain ⟨h3,h4⟩:=lkRo_le h1
     rcases H'.store.blk b x h3 with ⟨l',hl',hB⟩ | ⟨hn,_⟩
     ·rw [h2] at hl'; cases hl'; exact hB.notY h4
     ·rw [h2] at hn; cases hn
    have hr:=frz_sound (P:=P) (T:=T') (Y0:=Y') H'.store (fun b x h=>(lkRo_le h).1) (fun _ h=>h) hfree (fun b sz rows hb=>by have:=(lkRo_le hb).2; cases this) 6 v v' cv hfr (Rep.keep _ K _ hv)
    exact ⟨Y',σ,H',Rep.keep _ ⟨fun _ _ _=>rfl,fun _ _ h=>h,Nat.le_refl _,fun b l h=>by simp [noSg] at h⟩ _ hr,K⟩
   ·exact same
 | succ z =>
  cases v with
  | sl sz es f =>
   cases f with
   | false=>exact same
   | true =>
    cases es with
    | cons _ _=>exact same
    | nil =>
     have H1:=H.empty (id:=n) ⟨H.next _ (Nat.le_refl _),H.fix.1⟩ (z+1)
     have hm:max n (n+1)=n+1:=by omega
     rw [hm] at H1
     refine ⟨Y,σ,H1,?_,Keep.same (SgLe.refl _)⟩
     show Rep w Y σ (.os n 0 0) cv
     unfold Rep at hv ⊢
     obtain ⟨sx,len,cap,e,hl,hc,hf,_⟩:=hv
     have hl:len=0:=by simpa using hl
     have hc:=hf rfl
     subst hl
     rw [e,hc]
     exact .inr ⟨rfl,sx,rfl⟩
  | os b r m =>
   cases re with
   | false=>exact same
   | true =>
    show ∃ Y' σ',SW C w Y' σ' ps vs (cvCell (Sig.std P T') (z+1,true) (.os b r m) st n).2.1 (cvCell (Sig.std P T') (z+1,true) (.os b r m) st n).2.2∧Rep w Y' σ' (cvCell (Sig.std P T') (z+1,true) (.os b r m) st n).1 cv∧Keep w w Y Y' σ σ'
    simp only [cvCell]
    split
    ·rename_i hb
     obtain ⟨σ',H1,h1,h2⟩:=H.reroot hb hv
     exact ⟨Y,σ',H1,h1,Keep.same h2⟩
    ·exact same
  | _=>exact same
theorem cvCells_sound:∀ (zs:List (Nat × Bool)) (cs:List PV) {Y:Nat→Prop} {σ:Sg} {st:St} {n:Nat} {cvs:List Value},SW C w Y σ ps vs st n→RepL w Y σ cs cvs →
  ∃ Y' σ',SW C w Y' σ' ps vs (cvCells (Sig.std P T') zs cs st n).2.1 (cvCells (Sig.std P T') zs cs st n).2.2∧RepL w Y' σ' (cvCells (Sig.std P T') zs cs st n).1 cvs∧Keep w w Y Y' σ σ'
 | z::zs,v::cs,Y,σ,st,n,cvs,H,hv=>by
  unfold RepL at hv
  obtain ⟨c,cvs',rfl,h1,h2⟩:=hv
  obtain ⟨Y1,σ1,H1,h1,k1⟩:=cvCell_sound (P:=P) (T':=T') z v H h1
  obtain ⟨Y2,σ2,H2,h2,k2⟩:=cvCells_sound zs cs H1 (RepL.keep cs k1 _ h2)
  exact ⟨Y2,σ2,H2,by show RepL w Y2 σ2 (_::_) _; unfold RepL; exact ⟨_,_,rfl,Rep.keep _ k2 _ h1,h2⟩,k1.trans2 k2⟩
 | [],cs,Y,σ,st,n,cvs,H,hv=>by unfold cvCells; exact ⟨_,σ,H,hv,Keep.same (SgLe.refl _)⟩
 | z::zs,[],Y,σ,st,n,cvs,H,hv=>by unfold cvCells; exact ⟨_,σ,H,hv,Keep.same (SgLe.refl _)⟩
theorem cvOne_sound (zs:List (Nat × Bool)) (v:PV) {Y:Nat→Prop} {σ:Sg} {st:St} {n:Nat} {cv:Value} (H:SW C w Y σ ps vs st n) (hv:Rep w Y σ v cv) :
  ∃ Y' σ',SW C w Y' σ' ps vs (cvOne (Sig.std P T') zs v st n).2.1 (cvOne (Sig.std P T') zs v st n).2.2∧Rep w Y' σ' (cvOne (Sig.std P T') zs v st n).1 cv∧Keep w w Y Y' σ σ':=by
 unfold cvOne
 split
 ·rename_i cs
  unfold Rep at hv
  obtain ⟨vs',e,h⟩:=hv
  obtain ⟨Y1,σ1,H1,h1,k1⟩:=cvCells_sound (P:=P) (T':=T') zs cs H h
  exact ⟨Y1,σ1,H1,by show Rep w Y1 σ1 (.agg _) _; unfold Rep; exact ⟨_,e,h1⟩,k1⟩
 ·split
  ·exact cvCell_sound _ _ H hv
  ·exact ⟨_,σ,H,hv,Keep.same (SgLe.refl _)⟩
theorem cvOnes_sound:∀ (own:List (List (Nat × Bool))) (cs:List PV) {Y:Nat→Prop} {σ:Sg} {st:St} {n:Nat} {cvs:List Value},SW C w Y σ ps vs st n→RepL w Y σ cs cvs →
  ∃ Y' σ',SW C w Y' σ' ps vs (cvOnes (Sig.std P T') own cs st n).2.1 (cvOnes (Sig.std P T') own cs st n).2.2∧RepL w Y' σ' (cvOnes (Sig.std P T') own cs st n).1 cvs∧Keep w w Y Y' σ σ'
 | z::zs,v::cs,Y,σ,st,n,cvs,H,hv=>by
  unfold RepL at hv
  obtain ⟨c,cvs',rfl,h1,h2⟩:=hv
  obtain ⟨Y1,σ1,H1,h1,k1⟩:=cvOne_sound (P:=P) (T':=T') z v H h1
  obtain ⟨Y2,σ2,H2,h2,k2⟩:=cvOnes_sound zs cs H1 (RepL.keep cs k1 _ h2)
  exact ⟨Y2,σ2,H2,by show RepL w Y2 σ2 (_::_) _; unfold RepL; exact ⟨_,_,rfl,Rep.keep _ k2 _ h1,h2⟩,k1.trans2 k2⟩
 | [],cs,Y,σ,st,n,cvs,H,hv=>by unfold cvOnes; exact ⟨_,σ,H,hv,Keep.same (SgLe.refl _)⟩
 | z::zs,[],Y,σ,st,n,cvs,H,hv=>by unfold cvOnes; exact ⟨_,σ,H,hv,Keep.same (SgLe.refl _)⟩
theorem cvRet_sound (own:List (List (Nat × Bool))) (v:PV) {Y:Nat→Prop} {σ:Sg} {st:St} {n:Nat} {cv:Value} (H:SW C w Y σ ps vs st n) (hv:Rep w Y σ v cv) :
  ∃ Y' σ' n',SW C w Y' σ' ps vs (cvRet (Sig.std P T') own v st n).2.1 n'∧Rep w Y' σ' (cvRet (Sig.std P T') own v st n).1 cv:=by
 unfold cvRet
 split
 ·rename_i cs
  unfold Rep at hv
  obtain ⟨vs',e,h⟩:=hv
  obtain ⟨Y1,σ1,H1,h1,_⟩:=cvOnes_sound (P:=P) (T':=T') own cs H h
  exact ⟨Y1,σ1,_,H1,by show Rep w Y1 σ1 (.tup _) _; unfold Rep; exact ⟨_,e,h1⟩⟩
 ·split
  ·obtain ⟨Y1,σ1,H1,h1,_⟩:=cvOne_sound (P:=P) (T':=T') _ _ H hv
   exact ⟨Y1,σ1,_,H1,h1⟩
  ·exact ⟨Y,σ,_,H,hv⟩
end
end Go.Pv
namespace Go.Pv
open Go
def retS (tmps:Array Value):ResultVar→Sem Value
 | .tmp t=>pure (tmps.getD t Go.undef)
 | .cell a t=>do loadVar t (← asAddr (tmps.getD a Go.undef))
theorem results_eq (fn:Func) (tmps:Array Value):results fn tmps=(do let vs ← fn.results.mapM (retS tmps); pure (if h:vs.size=1 then vs[0] else .tuple vs)):=by
 unfold results
 congr 1
theorem retVs_sound {P:Program} {T:Tab} (hT:TabOK P T) {C:Ctx T} {w:World} {Y:Nat→Prop} {σ:Sg} {E:Env} {tmps:Array Value} (H:SW C w Y σ E.tmps tmps.toList E.st E.next) :
  ∀ (rs:List ResultVar) (vs:List PV),retVs T E rs=some vs →
   ∃ cvs:List Value,(rs.mapM (retS tmps)).run P w=.ok cvs w∧RepL w Y σ vs cvs
 | [],vs,h=>by simp [retVs] at h; subst h; exact ⟨[],by simp,by simp [RepL]⟩
 | r::rs,vs,h=>by
  unfold retVs at h
  split at h
  ·cases h
  ·rename_i v hv
   split at h
   ·cases h
   ·rename_i vs' hvs
    cases h
    obtain ⟨cvs,hrun,hr⟩:=retVs_sound hT H rs vs' hvs
    have gd:∀ t,tmps.getD t Go.undef=tmps.toList.getD t Go.undef:=by intro t; simp [Array.getD_eq_getD_getElem?,List.getD_eq_getElem?_getD]
    have one:∃ cv,(retS tmps r).run P w=.ok cv w∧Rep w Y σ v cv:=by
     cases r with
     | tmp t =>
      simp [retV] at hv; subst hv
      exact ⟨tmps.getD t Go.undef,by simp [retS],by rw [gd]; exact H.vals.get _ _ t⟩
     | cell c t =>
      simp only [retV] at hv
      split at hv
      ·rename_i b off agg size z plain kind e1 e2
       obtain ⟨hinfo,hsize,hagg,hund⟩:=tab_size hT e2
       have hc:=H.vals.get _ _ c
       rw [e1] at hc
       unfold Rep at hc
       obtain ⟨l,hl,ec⟩:=hc
       split at hv
       ·rename_i ro row hb
        have hB:=BlkRep.of_lk H (fun _ _ h=>h) hb hl
        unfold BlkRep at hB
        have hld:loadRow agg size row off (fun u=>u=v):=by
         unfold loadRow
         cases agg with
         | true =>
          simp only [cond_true] at hv ⊢
          cases hh:Nat.ble (off+size) (lenL row) with
          | true=>rw [hh] at hv; simp only [cond_true] at hv ⊢; exact Option.some.inj hv
          | false=>rw [hh] at hv; cases hv
         | false =>
          simp only [cond_false] at hv ⊢
          cases hh:Nat.blt off (lenL row) with
          | true=>rw [hh] at hv; simp only [cond_true] at hv ⊢; exact Option.some.inj hv
          | false=>rw [hh] at hv; cases hv
        obtain ⟨u,cv,rfl,hrun',hrep⟩:=loadVar_rep hinfo hsize hagg hund hB.2.2.2.1 hld
        refine ⟨cv,?_,hrep⟩
        simp only [retS]
        rw [gd,ec]
        simp only [asAddr,Sem.run_bind,Sem.run_pure,Result.andThen]
        exact hrun'
       ·cases hv
      ·cases hv
    obtain ⟨cv,hrun1,hr1⟩:=one
    refine ⟨cv::cvs,?_,by unfold RepL; exact ⟨cv,cvs,rfl,hr1,hr⟩⟩
    rw [List.mapM_cons]
    simp only [Sem.run_bind,hrun1,Result.andThen,hrun,Sem.run_pure]
theorem ret_sound {P:Program} {T:Tab} (hT:TabOK P T) {C:Ctx T} {w:World} {Y:Nat→Prop} {σ:Sg} {E:Env} {tmps:Array Value} {fn:Func} (H:SW C w Y σ E.tmps tmps.toList E.st E.next) {vs:List PV} (h:retVs T E fn.results.toList=some vs) :
  ∃ cv,(results fn tmps).run P w=.ok cv w∧Rep w Y σ (retOne vs) cv:=by
 obtain ⟨cvs,hrun,hrep⟩:=retVs_sound hT H _ _ h
 have hl:=hrep.length
 have mapArr:(results fn tmps).run P w=.ok (if h:cvs.toArray.size=1 then cvs.toArray[0] else .tuple cvs.toArray) w:=by
  rw [results_eq,Array.mapM_eq_mapM_toList]
  simp only [Sem.run_bind,map_eq_pure_bind,hrun,Result.andThen,Sem.run_pure]
 by_cases h1:cvs.length=1
 ·rw [h1] at hl
  match vs,hl,hrep with
  | [x],_,hrep =>
   obtain ⟨cv,rfl,hcv⟩:=evA_one hrep
   exact ⟨cv,by rw [mapArr]; simp,hcv⟩
 ·have hn1:¬ cvs.toArray.size=1:=by simpa using h1
  refine ⟨.tuple cvs.toArray,by rw [mapArr,dif_neg hn1],?_⟩
  have:retOne vs=.tup vs:=by
   match vs,hl with
   | [],_=>rfl
   | [x],hl=>exact absurd hl h1
   | _::_::_,_=>rfl
  rw [this]
  unfold Rep; exact ⟨cvs,rfl,hrep⟩
theorem noNar_spec:∀ (st:St),noNar st=true→∀ b sz rows,lkS st b ≠ some (.nar sz rows)
 | [],_,b,sz,rows,h=>by simp [lkS] at h
 | (c,x)::st,h,b,sz,rows,hb=>by
  have h1:noNar st=true∧∀ sz rows,x ≠ some (.nar sz rows):=by
   cases x with
   | none=>exact ⟨by simpa [noNar] using h,by simp⟩
   | some y=>cases y <;> simp_all [noNar]
  simp only [lkS] at hb
  cases hc:Nat.beq c b with
  | true=>rw [hc] at hb; exact h1.2 _ _ hb
  | false=>rw [hc] at hb; exact noNar_spec st h1.1 b sz rows hb
theorem undefs_rep {w:World} {Y:Nat→Prop} {σ:Sg}:∀ n,RepL w Y σ (undefs n) (List.replicate n Go.undef)
 | 0=>by simp [undefs,RepL]
 | n+1=>by simp only [undefs,List.replicate_succ]; unfold RepL; exact ⟨_,_,rfl,by simp [Rep],undefs_rep n⟩
theorem fn_of_body {P:Program} {T:Tab} (hT:TabOK P T) (hp:T.pas=0) (hW:PWf P) {k:Nat} {fn:Func} {c:Code} (hf:P.funcs[k]?=some fn) (hb:fn.body=some c)
  (hcall:∀ args w,(callFunc k args).run P w=.ok (.enter k args) w) {args:List PV} {R:PV→Prop} {m:Nat} (hm:fn.ntmps - args.length=m)
  (h:∀ S,S=Sig.std P T→pwp T S c (retQ T S fn.results.toList R) ⟨appL args (undefs m),[],0⟩):Fn P T.gl k args R:=by
 intro w Y cargs hG hY hargs
 refine ⟨hcall _ _,?_⟩
 let C:Ctx T:=⟨w,Y,fun _=>False,fun _=>False,noSg⟩
 have hlen:=hargs.length
 have H0:SW C w Y noSg (appL args (undefs m)) ((cargs.toArray ++ Array.replicate (fn.ntmps - cargs.toArray.size) Go.undef).toList) [] 0:=by
  refine ⟨?_,⟨fun b x h=>by simp [lkS] at h,fun b b' x x' l l' h=>by simp [lkS] at h⟩,fun _ _=>rfl,hY,fun _ h=>h,fun k h=>⟨hY k h,fun h=>h⟩,fun k h _=>.inl h,ChgM.refl _ w,fun b x l h=>by simp [lkS] at h,hG,⟨by omega,fun _ _=>rfl⟩,Nest.none (fun b sz rows h=>by simp [lkS] at h)⟩
  have:(cargs.toArray ++ Array.replicate (fn.ntmps - cargs.toArray.size) Go.undef).toList=cargs ++ List.replicate m Go.undef:=by simp [hlen,hm]
  rw [this]
  exact RepL.app _ _ _ _ hargs (undefs_rep m)
 have hwp:=pwp_sound hT hW c _ _ (h _ rfl) C { tmps:=cargs.toArray ++ Array.replicate (fn.ntmps - cargs.toArray.size) Go.undef,defers:=[] } w ⟨⟨Y,noSg,H0⟩,rfl⟩
 refine calls_of_wp hf hb (wp_mono hwp ?_)
 have key:∀ (a:Act) (w' : World),(∃ E,ActRep C E a w'∧retE T (Sig.std P T) fn.results.toList E R)→a.defers=[]∧∃ v,(results fn a.tmps).run P w'=.ok v w'∧∃ cv u,Ending.returned v=.returned cv∧R u∧Rep w' Y noSg u cv∧Chg w w':=by
  rintro a w' ⟨E,⟨⟨Y',σ',H⟩,hd⟩,hr⟩
  refine ⟨hd,?_⟩
  unfold retE at hr
  split at hr
  ·rename_i vs hv
   split at hr
   ·rename_i u hu
    obtain ⟨cv,hrun,hrep⟩:=ret_sound hT H hv
    exact ⟨cv,hrun,cv,u,rfl,hr,frz_sound H.store (fun _ _ h=>h) H.y0 (fun b x l hx hl=>H.away hx hl) (fun b sz rows hb r row c h sz' es h1 h2 h3=>by
     have hO:OwAt E.st b r c h sz' es:=⟨sz,rows,row,hb,h1,h2,h3⟩
     have hN:=H.nest.rep _ _ _ _ _ _ hO
     refine ⟨⟨hN.lt,fun hy=>?_⟩,hN.rows⟩
     have:=H.c0 _ hy
     rcases H.nest.old _ _ _ _ _ _ hO with g | g
     ·omega
     ·exact this.2 g) _ _ _ _ hu hrep,H.chg.chg fun _ h=>h⟩
   ·exact hr.elim
  ·exact hr.elim
 intro e a w' hq
 cases e with
 | normal=>exact key a w' hq
 | ret=>exact key a w' hq
 | exit n=>obtain ⟨E,_,hq⟩:=hq; exact hq.elim
 | _=>exact hq.elim
theorem fnS_of_body {P:Program} {T:Tab} (hT:TabOK P T) (hW:PWf P) {k:Nat} {fn:Func} {c:Code} (hf:P.funcs[k]?=some fn) (hb:fn.body=some c)
  (hcall:∀ args w,(callFunc k args).run P w=.ok (.enter k args) w) {args:List PV} {st:St} {R:PV→St→Nat→Prop} {m:Nat} (hm:fn.ntmps - args.length=m)
  (h:∀ S,S=Sig.std P T→pwp T S c (retSQ T S fn.results.toList R) ⟨appL args (undefs m),st,T.pas⟩):FnS P T.gl k args st T.pas R:=by
 intro w Y σ cargs hG hY hn hargs hst hnn
 refine ⟨hcall _ _,?_⟩
 have hlen:=hargs.length
 let C:Ctx T:=ctxS T w Y σ st
 have H0:SW C w Y σ (appL args (undefs m)) ((cargs.toArray ++ Array.replicate (fn.ntmps - cargs.toArray.size) Go.undef).toList) st T.pas:=by
  refine ⟨?_,hst,hn,hY,fun _ h=>h.1,fun k h=>⟨hY k h.1,h.2⟩,fun k h _=>?_,ChgM.refl _ w,fun b x l h1 h2=>.inr ⟨b,x,l,h1,h2,rfl⟩,hG,⟨Nat.le_refl _,fun _ _=>rfl⟩,Nest.none (noNar_spec st hnn)⟩
  ·have:(cargs.toArray ++ Array.replicate (fn.ntmps - cargs.toArray.size) Go.undef).toList=cargs ++ List.replicate m Go.undef:=by simp [hlen,hm]
   rw [this]
   exact RepL.app _ _ _ _ hargs (undefs_rep m)
  ·by_cases hi:InSt σ st k
   ·exact .inr ⟨h,hi⟩
   ·exact .inl ⟨h,hi⟩
 have hwp:=pwp_sound hT hW c _ _ (h _ rfl) C { tmps:=cargs.toArray ++ Array.replicate (fn.ntmps - cargs.toArray.size) Go.undef,defers:=[] } w ⟨⟨Y,σ,H0⟩,rfl⟩
 refine calls_of_wp hf hb (wp_mono hwp ?_)
 have key:∀ (a:Act) (w' : World),(∃ E,ActRep C E a w'∧retSE T (Sig.std P T) fn.results.toList E R)→a.defers=[]∧∃ v,(results fn a.tmps).run P w'=.ok v w' ∧
   ∃ cv u st' n' Y' σ',Ending.returned v=.returned cv∧R u st' n'∧SW (ctxS ⟨fun _=>.bad,T.gl,T.pas,[],0,[],[]⟩ w Y σ st) w' Y' σ' [u] [cv] st' n':=by
  rintro a w' ⟨E,⟨⟨Y',σ',H⟩,hd⟩,hr⟩
  refine ⟨hd,?_⟩
  unfold retSE at hr
  split at hr
  ·rename_i vs hv
   obtain ⟨cv,hrun,hrep⟩:=ret_sound hT H hv
   have H1:SW C w' Y' σ' [retOne vs] [cv] E.st E.next:=H.vals' (by unfold RepL; exact ⟨_,_,rfl,hrep,by unfold RepL; rfl⟩)
   obtain ⟨Y1,σ1,n',H2,hrep2⟩:=cvRet_sound (P:=P) (T':=T) T.own (retOne vs) H1 hrep
   have H3:=H2.vals' (show RepL w' Y1 σ1 [(cvRet (Sig.std P T) T.own (retOne vs) E.st E.next).1] [cv] by unfold RepL; exact ⟨_,_,rfl,hrep2,by unfold RepL; rfl⟩)
   split at hr
   rename_i v st2 n2 he
   rw [he] at H3
   obtain ⟨h1,h2,h3⟩:=seenN_ok T.pas st2 [v]
   obtain ⟨σ2,H4,_⟩:=H3.canR h1 h2 h3
   refine ⟨cv,hrun,cv,_,_,_,Y1,σ2,rfl,hr,⟨?_,H4.store,H4.next,H4.yold,H4.y0,H4.c0,H4.yshr,H4.chg,H4.own,H4.glob,H4.fix,H4.nest⟩⟩
   simpa only [mapV] using H4.vals
  ·exact hr.elim
 intro e a w' hq
 cases e with
 | normal=>exact key a w' hq
 | ret=>exact key a w' hq
 | exit n=>obtain ⟨E,_,hq⟩:=hq; exact hq.elim
 | _=>exact hq.elim
end Go.Pv
namespace Go.Pv
open Go
def lkT:List (Nat × TI)→Nat→TI
 | [],_=>.bad
 | (k,i)::l,t=>bif Nat.beq k t then i else lkT l t
def madeT (P:Program):List (Nat × TI)→List TI
 | []=>[]
 | (k,_)::l=>(bif Nat.blt k P.types.size then mkTI P k else .bad)::madeT P l
def infosT:List (Nat × TI)→List TI
 | []=>[]
 | (_,i)::l=>i::infosT l
def mkTab (l:List (Nat × TI)) (gl:Nat→Option (List PV)) (pas:Nat) (cut:List Nat) (nar:Nat) (own:List (List (Nat × Bool))) (dcl:List (Nat × Nat)):Tab:=⟨lkT l,gl,pas,cut,nar,own,dcl⟩
theorem tabOK_of {P:Program} {gl:Nat→Option (List PV)} {pas:Nat} {cut:List Nat} {nar:Nat} {own:List (List (Nat × Bool))} {dcl:List (Nat × Nat)}:∀ (l:List (Nat × TI)),madeT P l=infosT l→TabOK P (mkTab l gl pas cut nar own dcl)
 | [],_=>fun t h=>by simp [mkTab,lkT,TI.bad] at h
 | (k,i)::l,h=>fun t hk=>by
  have ih:=tabOK_of (P:=P) (gl:=gl) (pas:=pas) (cut:=cut) (nar:=nar) (own:=own) (dcl:=dcl) l
  simp only [mkTab] at hk ih ⊢
  simp only [madeT,infosT,List.cons.injEq] at h
  simp only [lkT] at hk ⊢
  cases e:Nat.beq k t with
  | true =>
   rw [e] at hk
   simp only [cond_true] at hk ⊢
   have e:=Nat.eq_of_beq_eq_true e
   subst e
   cases hb:Nat.blt k P.types.size with
   | true=>rw [hb] at h; rw [Nat.blt_eq] at hb; exact ⟨h.1.symm,hb⟩
   | false=>rw [hb] at h; rw [← h.1] at hk; simp [TI.bad] at hk
  | false =>
   rw [e] at hk
   simp only [cond_false] at hk ⊢
   exact ih h.2 t hk
def wfOne (P:Program) (t:TypeId):Bool :=
 match P.underlying t with
 | none=>false
 | some (.struct fs)=>fs.toList.all fun f=>(P.info? f.type).isSome
 | some (.array _ e)=>(P.info? e).isSome
 | some _=>true
def wfUp (P:Program):Nat→Bool
 | 0=>true
 | n+1=>wfOne P n && wfUp P n
theorem wfUp_spec {P:Program}:∀ n,wfUp P n=true→∀ t,t<n→wfOne P t=true
 | 0,_,t,h=>by omega
 | n+1,h,t,ht=>by
  simp only [wfUp,Bool.and_eq_true] at h
  by_cases e:t=n
  ·rw [e]; exact h.1
  ·exact wfUp_spec n h.2 t (by omega)
theorem reckon_und {info:TypeId→Option TypeInfo} {d:TypeDesc} {i:TypeInfo} (h:Made.reckon info d=some i):∀ n u,i.desc ≠ .named n u:=by
 intro n u hn
 cases d <;> simp only [Made.reckon,Option.bind_eq_bind,Option.pure_def] at h
 case pointer e =>
  obtain ⟨j,_,h⟩:=Option.bind_eq_some_iff.1 h
  split at h
  ·cases h
  ·split at h
   ·cases h
   ·obtain ⟨s,_,h⟩:=Option.bind_eq_some_iff.1 h; cases h; cases hn
  ·obtain ⟨s,_,h⟩:=Option.bind_eq_some_iff.1 h; cases h; cases hn
 case struct fs =>
  unfold Made.reckonStruct at h
  simp only [Option.bind_eq_bind,Option.pure_def] at h
  obtain ⟨x,_,h⟩:=Option.bind_eq_some_iff.1 h
  split at h <;> (cases h; cases hn)
 all_goals first
  | (cases h; done)
  | (obtain ⟨s,_,h⟩:=Option.bind_eq_some_iff.1 h; cases h; cases hn; done)
  | (
   obtain ⟨s,_,h⟩:=Option.bind_eq_some_iff.1 h
   obtain ⟨s,_,h⟩:=Option.bind_eq_some_iff.1 h; cases h; cases hn; done)
  | (
   obtain ⟨s,_,h⟩:=Option.bind_eq_some_iff.1 h
   obtain ⟨s,_,h⟩:=Option.bind_eq_some_iff.1 h
   obtain ⟨s,_,h⟩:=Option.bind_eq_some_iff.1 h
   obtain ⟨s,_,h⟩:=Option.bind_eq_some_iff.1 h; cases h; cases hn; done)
theorem wf_of {P:Program} (h:wfUp P P.types.size=true) (hm:P.follows .mixedOrders=true):PWf P:=by
 have key:∀ t,t<P.types.size→wfOne P t=true:=wfUp_spec _ h
 refine ⟨?_,?_,?_,hm⟩
 ·intro t ht
  by_cases hlt:t<P.types.size
  ·have:=key t hlt
   unfold wfOne at this
   cases hu:P.underlying t with
   | none=>rw [hu] at this; cases this
   | some d=>exact ⟨d,rfl⟩
  ·cases hi:P.info? t with
   | none=>exact absurd hi ht
   | some i =>
    have hi':=hi
    unfold Tables.info? at hi'
    rw [if_neg hlt,show Made.depth=99+1 from rfl,Made.infoAt,if_neg hlt] at hi'
    obtain ⟨d,_,hd⟩:=Option.bind_eq_some_iff.1 hi'
    have hne:=reckon_und hd
    refine ⟨i.desc,?_⟩
    unfold Program.underlying
    rw [hi]
    split
    ·rename_i n u e; cases e; exact absurd rfl (hne _ _)
    ·rename_i e; cases e; rfl
    ·rename_i e; cases e
 ·intro t fs hlt hu f hf
  have:=key t hlt
  unfold wfOne at this
  rw [hu] at this
  have:=List.all_eq_true.1 this f hf
  intro e; rw [e] at this; cases this
 ·intro t k e hlt hu
  have:=key t hlt
  unfold wfOne at this
  rw [hu] at this
  simp only at this
  intro e; rw [e] at this; cases this
section
variable {P:Program} {T:Tab} {S:Sig} (hS:S=Sig.std P T)
include hS
theorem l_brT {b:Bool} {t f:Unit→Prop} (hb:b=true) (h:t ()):S.br b t f:=by subst hS; exact ⟨fun _=>h,fun e=>(by rw [hb] at e; cases e)⟩
theorem l_brF {b:Bool} {t f:Unit→Prop} (hb:b=false) (h:f ()):S.br b t f:=by subst hS; exact ⟨fun e=>(by rw [hb] at e; cases e),fun _=>h⟩
theorem l_callq {k:Nat} {args:List PV} {K:PV→Prop} {v:PV} (hF:Fn P T.gl k args (fun u=>u=v)) (h:K v):S.callq k args K:=by subst hS; exact ⟨v,hF,h⟩
theorem l_callL {k:Nat} {args bs as:List PV} {E:Env} {free:Option (List PV)} {ρ:List Nat} {st0:St} {K:PV→Env→Prop} {v:PV} (hF:Fn P T.gl k bs (fun u=>u=v)) (hf:flatV 6 v=true) (h:K v E):S.call k args E (some bs) free ρ as st0 K:=by
 subst hS; exact .inl ⟨bs,v,rfl,hF,hf,h⟩
theorem l_callF {k:Nat} {args bs as:List PV} {E:Env} {lend:Option (List PV)} {ρ:List Nat} {st0:St} {K:PV→Env→Prop} {v:PV} (hF:Fn P T.gl k bs (fun u=>u=v)) (h:K v ⟨E.tmps,roS E.st ρ,E.next⟩):S.call k args E lend (some bs) ρ as st0 K:=by
 subst hS; exact .inr (.inl ⟨bs,v,rfl,hF,h⟩)
theorem l_callS {k:Nat} {args as:List PV} {E:Env} {lend free:Option (List PV)} {ρ:List Nat} {st0:St} {m:Nat} {K:PV→Env→Prop} {v:PV} {st1:St} {n1:Nat} (hF:FnS P T.gl k as st0 m (fun u s n=>u=v∧s=st1∧n=n1)) (hm:m=lenNs ρ) (h1:nodN ρ=true) (h2:ltN E.next ρ=true) (h0:noNar st0=true)
  (h:K (renV (bakN ρ E.next) 8 v) (bakE ρ E st1 n1)):S.call k args E lend free ρ as st0 K:=by
 subst hS; subst hm; exact .inr (.inr (.inl ⟨v,st1,n1,h1,h2,h0,hF,h⟩))
theorem l_room {n bytes:Nat} {p:Prop} (h1:(2 * n+192) * bytes≤140737488355328) (h2:n≤4611686018427387904) (h:p):S.room n bytes p:=by subst hS; exact ⟨h1,h2,h⟩
theorem l_order {l:Array Oper} {p:Prop} (hd:drawOK T l=true) (h:p):S.order l p:=by subst hS; exact ⟨hd,h⟩
theorem l_idx {es:List (List PV)} {i:Int} {K:List PV→Prop} {j:Nat} {row:List PV} (hi:i=(j:Int)) (hr:es[j]?=some row) (h:K row):S.idx es i K:=by subst hS; exact ⟨j,row,hi,hr,h⟩
theorem l_ix {n:Nat} {i:Int} {K:Nat→Prop} {j:Nat} (hi:i=(j:Int)) (hr:j<n) (h:K j):S.ix n i K:=by subst hS; exact ⟨j,hi,hr,h⟩
theorem l_row {rows:List (List PV)} {j:Nat} {K:List PV→Prop} {row:List PV} (hr:rows[j]?=some row) (h:K row):S.row rows j K:=by subst hS; exact ⟨row,hr,h⟩
theorem l_seq {A:Post→Prop} {B:Env→Prop} {Q:Post} (h:A (seqQ B Q)):S.seq A B Q:=by subst hS; exact ⟨_,h,fun n E h=>⟨E,Ent.refl E,h⟩⟩
end
end Go.Pv
