import Derived.Test.YtchmoabpofnbaaaGreatC01
set_option linter.all false
namespace Go.Pv
open Go
section
variable {P:Program}{T:Tab}(hT:jq P T){C:Ctx T}{o:Oper}{a:Act}{w:World}{Y:Nat->Prop}{σ:Sg}{ps:List PV}{st:St}{n id:Nat}{K:PV->Dl->Prop}{lk:Nat->Option mO}
 (H:SW C w Y σ ps a.tmps.toList st n) (hlk:∀ b x,lk b=some x->jk st b=some x) (hid:σ id=none/\T.qf<=id) (hU:NR P)
theorem Pq {P:Program}{w:World}{op:BinOp}{t:TypeId}{x y:Operand}{u v:Value}(h:∀ cs,u≠.agg cs)(h2:u≠.nilIface):(eqGuard op t x y u v).run P w=.ok () w:=by
 have e:eqGuard op t x y u v=pure ():=by
  cases u<;>first|exact absurd rfl (h _)|exact absurd rfl h2|(cases op<;>rfl)
 rw[e];simp
theorem VP {P:Program}{w:World}{op:BinOp}{t:TypeId}{k:IntKind}{m c:Int}(h:EL op=true):(binOp op t (.int k m) (.int k c)).run P w=.ok (.int k (nC op k m c)) w:=by
 cases op<;>simp[EL] at h<;>simp[binOp,Op.intArith,Op.intBits,nC]
theorem Zy {P:Program}{w:World}{op:BinOp}{t:TypeId}{k:IntKind}{m c:Int}(h:IX op=true):(binOp op t (.int k m) (.int k c)).run P w=.ok (.bool (Ap op m c)) w:=by
 have e:(m==c)=decide (m=c):=by rw[Bool.eq_iff_iff];simp
 cases op<;>simp[IX] at h<;>simp[binOp,Op.intCmp,Ap,e,bne]
theorem aeu {P:Program}{w:World}{t:TypeId}{b c:Bool}(hu:P.underlying t=some .bool) :
  (binOp .eql t (.bool b) (.bool c)).run P w=.ok (.bool (b==c)) w/\(binOp .neq t (.bool b) (.bool c)).run P w=.ok (.bool (!(b==c))) w:=by
 constructor<;>simp[binOp,run_equal_bool w t b c hu]
theorem aaS {P:Program}{t:TypeId}:∀ {d:Nat},xm P d t=some [1]->lK P t=false->P.underlying t=some .bool
 | 0,h,_=>by simp[xm] at h
 | d+1,h,ha=>by
  unfold xm at h;unfold lK at ha
  split at h
  all_goals first
   | assumption
   | (cases h;done)
   | (rename_i hu;simp[hu] at ha;done)
theorem agb {P:Program}{w:World}{t e:TypeId}{p q:Option Addr}(hu:P.underlying t=some (.pointer e))(h:p=none\/q=none) :
  (binOp .eql t (.pointer p) (.pointer q)).run P w=.ok (.bool (p.isNone&&q.isNone)) w/\(binOp .neq t (.pointer p) (.pointer q)).run P w=.ok (.bool (!(p.isNone&&q.isNone))) w:=by
 have key:(Op.equal t (.pointer p) (.pointer q)).run P w=.ok (p.isNone&&q.isNone) w:=by
  unfold Op.equal Op.maxDepth;unfold Op.equalIn;simp only[Sem.run_bind,lh hu,Result.andThen];rcases h with rfl|rfl
  cases q<;>simp
  cases p<;>simp
 constructor<;>simp[binOp,key]
theorem XP {P:Program}{w:World}{t e:TypeId}{x:Option Addr}{len cap:Nat}(hu:P.underlying t=some (.slice e)) :
  (binOp .eql t (.slice x len cap) (.slice none 0 0)).run P w=.ok (.bool x.isNone) w/\(binOp .neq t (.slice x len cap) (.slice none 0 0)).run P w=.ok (.bool (!x.isNone)) w:=by
 have key:(Op.equal t (.slice x len cap) (.slice none 0 0)).run P w=.ok x.isNone w:=by
  unfold Op.equal Op.maxDepth;unfold Op.equalIn;simp only[Sem.run_bind,lh hu,Result.andThen];cases x<;>simp
 constructor<;>simp[binOp,key]
theorem agc {x:Operand}(h:XC x=true):x=.const (.slice none 0 0):=by
 unfold XC at h
 split at h
 rfl
 cases h
include hT H hU in
theorem agd {op:BinOp}{t u:TypeId}{x y:Operand}(ho:o.op=.binOp op t x y u)(hy:XC y=true)(h:oO T (iW.jI P T) (.binOp op t x y u) ps lk id K):qG P C o a w σ ps st n id K:=by
 have hx:=lD H x;have hy':=agc hy;subst hy';simp only[oO] at h;rw[hy] at h;simp only at h
 split at h
 rename_i agg size z plain sz bytes z' e;obtain⟨el,hu,_⟩:=nJ hT e
 have key:∀ (I:Option Addr) (len cap:Nat),a.eval x=.slice I len cap->eqL op I.isNone (λv=>K v [])->qG P C o a w σ ps st n id K:=by
  intro I len cap J U;have g:a.eval (.const (.slice none 0 0))=.slice none 0 0:=rfl;obtain⟨r1,r2⟩:=XP (P:=P) (w:=w) (x:=I) (len:=len) (cap:=cap) hu;have n1:∀ cs,a.eval x≠.agg cs:=by rw[J];intro cs e;cases e
  have n2:a.eval x≠.nilIface:=by rw[J];intro e;cases e
  have fin:∀ {v:PV} {cv:Value},(binOp op t (a.eval x) (a.eval (.const (.slice none 0 0)))).run P w=.ok cv w->Rep w Y σ v cv->K v []->qG P C o a w σ ps st n id K:=by
   intro v cv hr hv hK;refine qG.quiet H (cv:=cv) ?_ hv hK;simp[execOp,ho,Pq n1 n2,hr]
  unfold eqL at U
  cases g1:NL op with
  | true=>
   rw[g1] at U;have:op=.eql:=by cases op<;>simp[NL] at g1<;>rfl
   subst this;exact fin (by rw[J,g];exact r1) bU U
  | false=>
   rw[g1] at U
   cases g2:NM op with
   | true=>
    rw[g2] at U;have:op=.neq:=by cases op<;>simp[NM] at g2<;>rfl
    subst this
    cases hn:I.isNone with
    | true=>rw[hn] at U r2;exact fin (by rw[J,g];exact r2) bU U
    | false=>rw[hn] at U r2;exact fin (by rw[J,g];exact r2) bU U
   | false=>rw[g2] at U;exact U.elim
 split at h
 rename_i sz' es full hp;rw[hp] at hx;unfold Rep at hx;obtain⟨I,len,cap,J,hl,_,_,hes⟩:=hx
 have U:=h I.isNone (λhn=>by
  rcases hes with h|⟨b,o',e,_⟩
  exact h
  rw[e] at hn;cases hn)
 exact key I len cap J U
 rename_i b0 r0 n0 hp;rw[hp] at hx;unfold Rep at hx
 split at h
 rcases hx with ⟨l,cap,_,J,_⟩|⟨rfl,I,J⟩
 exact key _ _ _ J (h false (λe=>by cases e))
 exact key _ _ _ J (h I.isNone (λ_=>by simp[iW.jI]))
 exact h.elim
 exact h.elim
 exact h.elim
include hT H hU in
theorem aev {op:BinOp}{t u:TypeId}{x y:Operand}(ho:o.op=.binOp op t x y u)(h:oO T (iW.jI P T) (.binOp op t x y u) ps lk id K):qG P C o a w σ ps st n id K:=by
 cases hnil:XC y with
 | true=>exact agd hT H hU ho hnil h
 | false=>
 have hx:=lD H x;have hy:=lD H y;simp only[oO] at h;rw[hnil] at h;simp only at h;generalize sD T ps x=p at hx h;generalize sD T ps y=q at hy h
 have fin:∀ {v:PV} {cv:Value},(∀ cs,a.eval x≠.agg cs)->a.eval x≠.nilIface->(binOp op t (a.eval x) (a.eval y)).run P w=.ok cv w->Rep w Y σ v cv->K v []->qG P C o a w σ ps st n id K:=by
  intro v cv h1 h2 hr hv hK;refine qG.quiet H (cv:=cv) ?_ hv hK;simp[execOp,ho,Pq h1 h2,hr]
 have special:∀ {k g : IntKind} {m c:Int},a.eval x=.int k m->a.eval y=.int g c->VN (iW.jI P T) op k m g c (λv=>K v [])->qG P C o a w σ ps st n id K:=by
  intro k g m c e1 U h;have n1:∀ cs,a.eval x≠.agg cs:=by rw[e1];intro cs e;cases e
  have I:a.eval x≠.nilIface:=by rw[e1];intro e;cases e
  unfold VN at h
  split at h
  obtain⟨h0,h⟩:=h;refine fin n1 I ?_ dV h;rw[e1,U];have:¬ c<0:=by omega
  simp[binOp,Op.shift,this]
  obtain⟨h0,h⟩:=h;refine fin n1 I ?_ dV h;rw[e1,U];have:¬ c<0:=by omega
  simp[binOp,Op.shift,this]
  cases hk:tC k g with
  | false=>rw[hk] at h;exact h.elim
  | true=>
   rw[hk] at h;have:=FC hk;subst this;obtain⟨h0,h⟩:=h;refine fin n1 I ?_ dV h;rw[e1,U];simp[binOp,Op.intDiv,h0]
  cases hk:tC k g with
  | false=>rw[hk] at h;exact h.elim
  | true=>
   rw[hk] at h;have:=FC hk;subst this;obtain⟨h0,h⟩:=h;refine fin n1 I ?_ dV h;rw[e1,U];simp[binOp,Op.intDiv,h0]
  exact h.elim
 have J:∀ {k g : IntKind} {m c:Int} (mk:Int->PV) (mb:Bool->PV),(∀ v,Rep w Y σ (mk v) (.int k v))->(∀ b,Rep w Y σ (mb b) (.bool b))->a.eval x=.int k m->a.eval y=.int g c ->
   (bif isSpec op then VN (iW.jI P T) op k m g c (λv=>K v []) else bif tC k g then(bif EL op then K (mk (nC op k m c)) [] else bif IX op then K (mb (Ap op m c)) [] else False) else False)->qG P C o a w σ ps st n id K:=by
  intro k g m c mk mb h1 h2 e1 U h
  cases hs:isSpec op with
  | true=>rw[hs] at h;exact special e1 U h
  | false=>
  rw[hs] at h;simp only[cond_false] at h
  cases hk:tC k g with
  | false=>rw[hk] at h;exact h.elim
  | true=>
   rw[hk] at h;have:=FC hk;subst this;simp only[cond_true] at h;have n1:∀ cs,a.eval x≠.agg cs:=by rw[e1];intro cs e;cases e
   have I:a.eval x≠.nilIface:=by rw[e1];intro e;cases e
   cases ha:EL op with
   | true=>
    rw[ha] at h;exact fin n1 I (by rw[e1,U];exact VP ha) (h1 _) h
   | false=>
    rw[ha] at h
    cases hc:IX op with
    | true=>
     rw[hc] at h;exact fin n1 I (by rw[e1,U];exact Zy hc) (h2 _) h
    | false=>rw[hc] at h;exact h.elim
 have eqs:∀ {b:Bool},(∀ {v:PV} {cv:Value},(binOp op t (a.eval x) (a.eval y)).run P w=.ok cv w->Rep w Y σ v cv->K v []->qG P C o a w σ ps st n id K) ->
   (binOp .eql t (a.eval x) (a.eval y)).run P w=.ok (.bool b) w->(binOp .neq t (a.eval x) (a.eval y)).run P w=.ok (.bool (!b)) w->eqK (iW.jI P T) op b (λv=>K v [])->qG P C o a w σ ps st n id K:=by
  intro b fin e1 U hh;unfold eqK at hh
  cases h1:NL op with
  | true=>
   rw[h1] at hh;have:op=.eql:=by cases op<;>simp[NL] at h1<;>rfl
   subst this;exact fin e1 bU hh
  | false=>
   rw[h1] at hh
   cases h2:NM op with
   | true=>
    rw[h2] at hh;have:op=.neq:=by cases op<;>simp[NM] at h2<;>rfl
    subst this;exact fin U dO hh
   | false=>rw[h2] at hh;exact hh.elim
 split at h
 rename_i ti agg size z plain kind e;unfold ad1 at h
 split at h
 exact J (λv=>.int _ v) (λb=>.bool b) (λv=>by simp[Rep]) (λb=>by simp[Rep]) (vN hx) (vN hy) h
 rename_i s1 s2;have e1:=G8 hx;have U:=G8 hy;have n1:∀ cs,a.eval x≠.agg cs:=by rw[e1];intro cs e;cases e
 have I:a.eval x≠.nilIface:=by rw[e1];intro e;cases e
 cases h1:isAdd op with
 | true=>
  rw[h1] at h;have:op=.add:=by cases op<;>simp[isAdd] at h1<;>rfl
  subst this;obtain⟨hle,h⟩:=h;refine fin n1 I (cv:=.string (s1++s2)) ?_ bU h;rw[e1,U]
  have hb:¬ (((s1.size+s2.size:Nat):Int) > IntKind.i64.max):=by
   have:IntKind.i64.max=9223372036854775807:=by decide
   rw[this];omega
  simp only[binOp,Op.stringOp];rw[if_neg hb];simp
 | false=>
  rw[h1] at h
  cases h2:IX op with
  | true=>
   rw[h2] at h;refine fin n1 I (cv:=.bool (jc op s1 s2)) ?_ dV h;rw[e1,U];cases op<;>simp[IX] at h2<;>simp[binOp,Op.stringOp,jc,bytes_beq]
  | false=>rw[h2] at h;exact h.elim
 rename_i xs ys
 split at h
 rename_i size z ks kind e
 split at h
 rename_i b hb;obtain⟨i,d,h1,h2,h3,h4,h5,h6,h7,h8⟩:=wz hT e rfl;simp only at h7 h4
 have hg:P.eqGuardType P.depth t=false:=by
  cases hg:P.eqGuardType P.depth t with
  | true=>rw[hg] at h7;simp at h7
  | false=>rfl
 rw[hg] at h7;simp only[Bool.false_eq_true,if_false] at h7;unfold Rep at hx hy;obtain⟨us,e1,hu⟩:=hx;obtain⟨vs,U,hv⟩:=hy;have hc:=WC ks xs ys us vs b hb hu hv;have heq:=IA hU 20 t ks h7.symm 10000 ah us vs b hc w;rw[show valOf P t us=.agg us.toArray by simp[valOf,<- h4],show valOf P t vs=.agg vs.toArray by simp[valOf,<- h4]] at heq;refine eqs (b:=b) (λ{v cv} hr hv hK=>qG.quiet H (cv:=cv) ?_ hv hK) ?_ ?_ h
 rw[e1,U] at hr;simp[execOp,ho,e1,U,run_eqGuard_agg w op t x y us.toArray vs.toArray hg,hr]
 rw[e1,U,run_eql_struct,heq];rfl
 rw[e1,U,run_neq_struct,heq];rfl
 exact h.elim
 exact h.elim
 split at h
 rename_i k m g c h1 h2;exact J (λv=>.si _ v) (λb=>.sb b) (λv=>by simp[Rep]) (λb=>by simp[Rep]) (qo hx h1) (qo hy h2) h
 split at h
 rename_i b c h1 h2;have e1:=MN hx h1;have U:=MN hy h2;have n1:∀ cs,a.eval x≠.agg cs:=by rw[e1];intro cs e;cases e
 have I:a.eval x≠.nilIface:=by rw[e1];intro e;cases e
 split at h
 rename_i size2 z2 kind2 e3;obtain⟨i,d,g1,g2,g3,g4,g5,g6,g7,g8⟩:=wz hT e3 rfl;simp only at g7 g4
 have hg:P.eqGuardType P.depth t=false:=by
  cases hg:P.eqGuardType P.depth t with
  | true=>rw[hg] at g7;simp at g7
  | false=>rfl
 rw[hg] at g7;simp only[Bool.false_eq_true,if_false] at g7;have hu:=aaS g7.symm g4.symm;obtain⟨r1,r2⟩:=aeu (P:=P) (w:=w) (b:=b) (c:=c) hu;exact eqs (b:=b==c) (λ{v cv} hr hv hK=>fin n1 I hr hv hK) (by rw[e1,U];exact r1) (by rw[e1,U];exact r2) h
 exact h.elim
 split at h
 rename_i agg2 size2 z2 plain2 e3;obtain⟨e,hu⟩:=af8 hT e3
 have Ur:∀ (r:PV) (v:Value),Ar r=true->Rep w Y σ r v->v=.pointer none:=by
  intro r v h1 h2;cases r<;>simp[Ar] at h1;unfold Rep at h2;exact h2
 have ptrq:∀ (r:PV) (v:Value),KO r=true->Rep w Y σ r v->∃ x,v=.pointer (some x):=by
  intro r v h1 h2;cases r<;>simp[KO] at h1<;>unfold Rep at h2
  obtain⟨_,_,e⟩:=h2;exact⟨_,e⟩
  obtain⟨_,_,e⟩:=h2;exact⟨_,e⟩
  obtain⟨_,_,e,_⟩:=h2;exact⟨_,e⟩
  exact⟨_,h2⟩
 have go:∀ (p' q' : Option Addr) (b:Bool),a.eval x=.pointer p'->a.eval y=.pointer q'->(p'=none\/q'=none)->(p'.isNone&&q'.isNone)=b->eqL op b (λv=>K v [])->qG P C o a w σ ps st n id K:=by
  intro p' q' b e1 U hn hb hh;have n1:∀ cs,a.eval x≠.agg cs:=by rw[e1];intro cs e;cases e
  have I:a.eval x≠.nilIface:=by rw[e1];intro e;cases e
  obtain⟨r1,r2⟩:=agb (P:=P) (w:=w) hu hn;rw[hb] at r1 r2;clear h;unfold eqL at hh
  cases g1:NL op with
  | true=>
   rw[g1] at hh;have:op=.eql:=by cases op<;>simp[NL] at g1<;>rfl
   subst this;exact fin n1 I (by rw[e1,U];exact r1) bU hh
  | false=>
   rw[g1] at hh
   cases g2:NM op with
   | true=>
    rw[g2] at hh;have:op=.neq:=by cases op<;>simp[NM] at g2<;>rfl
    subst this
    cases b with
    | true=>exact fin n1 I (by rw[e1,U];exact r2) bU hh
    | false=>exact fin n1 I (by rw[e1,U];exact r2) bU hh
   | false=>rw[g2] at hh;exact hh.elim
 cases c1:(Ar p&&Ar q) with
 | true=>
  rw[c1] at h;rw[Bool.and_eq_true] at c1;exact go none none true (Ur _ _ c1.1 hx) (Ur _ _ c1.2 hy) (.inl rfl) rfl h
 | false=>
  rw[c1] at h;simp only[cond_false] at h
  cases c2:((Ar p&&KO q) || (KO p&&Ar q)) with
  | true=>
   rw[c2] at h;rw[Bool.or_eq_true,Bool.and_eq_true,Bool.and_eq_true] at c2;rcases c2 with ⟨d1,d2⟩|⟨d1,d2⟩
   obtain⟨z,ez⟩:=ptrq _ _ d2 hy;exact go none (some z) false (Ur _ _ d1 hx) ez (.inl rfl) rfl h
   obtain⟨z,ez⟩:=ptrq _ _ d1 hx;exact go (some z) none false ez (Ur _ _ d2 hy) (.inr rfl) rfl h
  | false=>rw[c2] at h;exact h.elim
 exact h.elim
 exact h.elim
end
end Go.Pv
namespace Go.Pv
open Go
theorem Px {w:World}{Y:Nat->Prop}{σ:Sg}(place:Nat->Option (Nat×Nat)):∀ (parts:List (Nat×PV)) (T:List (Nat×Value)) (cells:List PV) (U:Array Value) (cs:List PV),
  (parts.length=T.length/\∀ (i:Nat) (p:Nat×PV) (v:Nat×Value),parts[i]?=some p->T[i]?=some v->p.1=v.1/\Rep w Y σ p.2 v.2) ->
  gI w Y σ cells U.toList->IY place cells parts=some cs->(∀ p∈parts,p.2≠.top)->∃ vcs:Array Value,Instr.fill place U T=some vcs/\gI w Y σ cs vcs.toList
 | [],T,cells,U,cs,hp,hc,h,_=>by
  have:T=[]:=by have:=hp.1;simp at this;exact List.eq_nil_of_length_eq_zero this.symm
  subst this;simp[IY] at h;subst h;exact⟨U,rfl,hc⟩
 | (i,p)::parts,[],cells,U,cs,hp,hc,h,_=>by simp at hp
 | (i,p)::parts,(j,v)::T,cells,U,cs,hp,hc,h,hnt=>by
  obtain⟨hl,hp⟩:=hp;have h0:=hp 0 _ _ rfl rfl;simp only at h0;obtain⟨rfl,hrep⟩:=h0;simp only[IY] at h;simp only[Instr.fill]
  split at h
  cases h
  rename_i off size hpl;rw[hpl];simp only
  cases I:(Nat.beq (oG (mQ p)) size&&Nat.ble (off+size) (oG cells)) with
  | false=>rw[I] at h;cases h
  | true=>
   rw[I] at h;simp only[cond_true] at h;simp only[Bool.and_eq_true,vK] at I;have h1:=Nat.eq_of_beq_eq_true I.1;have h2:=Nat.le_of_ble_eq_true I.2;have C:=UI hrep (hnt (i,p) aC);have hlen:=C.length;have hlen2:=hc.length;rw[Array.length_toList] at hlen hlen2
   have J:¬ (v.cells.size≠size || decide (off+v.cells.size > U.size))=true:=by
    simp;omega
   rw[if_neg J]
   have key:∀ (ps:List PV) (us:List Value) (k:Nat) (cells:List PV) (U:Array Value),gI w Y σ ps us->gI w Y σ cells U.toList ->
     gI w Y σ (mP cells (off+k) ps) ((us.zipIdx k).foldl (λcs (x:Value×Nat)=>cs.setIfInBounds (off+x.2) x.1) U).toList:=by
    intro ps
    induction ps with
    | nil=>
     intro us k cells U h1 h2;unfold gI at h1;subst h1;have:mP cells (off+k) []=cells:=by cases cells<;>simp[mP]
     rw[this];simpa using h2
    | cons q ps ih=>
     intro us k cells U h1 h2;unfold gI at h1;obtain⟨u,g,rfl,h1,h3⟩:=h1
     have:=ih g (k+1) (nY cells (off+k) q) (U.setIfInBounds (off+k) u) h3 (by
      rw[Array.toList_setIfInBounds];exact gI.set h1 _ _ _ h2)
     have e:mP cells (off+k) (q::ps)=mP (nY cells (off+k) q) (off+(k+1)) ps:=by cases cells<;>rfl
     rw[e]
     simpa using this
   refine Px place parts T _ _ cs ⟨by simpa using hl,λn p' v' e1 e2=>hp (n+1) p' v' (by simpa using e1) (by simpa using e2)⟩ ?_ h (λp hp=>hnt p (by simp[hp]));have:=key (mQ p) v.cells.toList 0 cells U C hc
   have e:v.cells.zipIdx.foldl (λcs (x:Value×Nat)=>cs.setIfInBounds (off+x.2) x.1) U=(v.cells.toList.zipIdx 0).foldl (λcs (x:Value×Nat)=>cs.setIfInBounds (off+x.2) x.1) U:=by
    rw[<- Array.foldl_toList,Array.toList_zipIdx]
   simp only[Nat.add_zero] at this;rw[<- e] at this;exact this
theorem UK {T:Tab}{C:Ctx T}{w:World}{Y:Nat->Prop}{σ:Sg}{ps:List PV}{a:Act}{st:St}{n:Nat}(h:SW C w Y σ ps a.tmps.toList st n):∀ (l:List (Nat×Operand)),
  (evP T ps l).length=(l.map λx=>(x.1,a.eval x.2)).length/\∀ (i:Nat) (p:Nat×PV) (v:Nat×Value),(evP T ps l)[i]?=some p->(l.map λx=>(x.1,a.eval x.2))[i]?=some v->p.1=v.1/\Rep w Y σ p.2 v.2
 | []=>by simp[evP]
 | (j,x)::l=>by
  obtain⟨h1,h2⟩:=UK h l;refine⟨by simp[evP,h1],λi p v e1 U=>?_⟩
  cases i with
  | zero=>simp[evP] at e1 U;subst e1;subst U;exact⟨rfl,lD h x⟩
  | succ i=>simp[evP] at e1 U;exact h2 i p v e1 (by simpa using U)
theorem JC:∀ l,ED l=true->∀ p∈l,p.2≠PV.top
 | [],_,p,hp=>by simp at hp
 | (i,q)::l,h,p,hp=>by
  have hq:q≠.top:=by intro e;subst e;simp[ED] at h
  have hl:ED l=true:=by cases q<;>simp_all[ED]
  rcases List.mem_cons.1 hp with rfl|hp
  exact hq
  exact JC l hl p hp
end Go.Pv
namespace Go.Pv
open Go
theorem Ov:∀ (δ:Dl) (st:St) (e:Nat×Option mO),jJ (δ++[e]) st=oH (jJ δ st) e.1 e.2
 | [],_,_=>rfl
 | d::δ,st,e=>by simp only[List.cons_append,jJ];exact Ov δ _ e
theorem adb (δ:Dl)(e:Nat×Option mO)(n id:Nat):uH (δ++[e]) n id=max n (id+1):=by cases δ<;>rfl
theorem xq:∀ (n:Nat) (l:List PV),(Og n l).length=n*l.length
 | 0,l=>by simp[Og]
 | n+1,l=>by simp[Og,xq n l,Nat.add_mul];omega
theorem Zz:∀ (n:Nat) (l:List PV) (i:Nat),i<n*l.length->(Og n l)[i]?=l[i % l.length]?
 | 0,l,i,h=>by simp at h
 | n+1,l,i,h=>by
  simp only[Og,XF]
  by_cases h1:i<l.length
  rw[List.getElem?_append_left h1,Nat.mod_eq_of_lt h1]
  rw[List.getElem?_append_right ah,Zz n l (i-l.length) (by rw[Nat.add_mul] at h;omega)]
  congr 1
  rw[Nat.mod_eq_sub_mod (by omega:i ≥ l.length)]
theorem wJ (sz:Nat):∀ (n:Nat) (l:List PV),(chunks sz n l).length=n
 | 0,_=>rfl
 | n+1,l=>by simp[chunks,wJ sz n]
theorem jo.chunks {w:World}{Y:Nat->Prop}{σ:Sg}{b sz:Nat}:∀ (n:Nat) (l:List PV) (o:Nat),jo w Y σ b l o->iT l=true->n*sz<=l.length->jw w Y σ b sz (chunks sz n l) o
 | 0,l,o,_,_,_=>by simp[Pv.chunks,jw]
 | n+1,l,o,h,ha,hle=>by
  rw[Nat.add_mul] at hle;simp only[Pv.chunks,KQ,yP];unfold jw;refine⟨⟨by simp;omega,?_⟩,h.take sz _ _,jo.chunks n _ _ (h.drop sz _ _) ?_ bg⟩
  rw[qH] at ha |-;exact λp hp=>ha p (List.mem_of_mem_take hp)
  rw[qH] at ha |-;exact λp hp=>ha p (List.mem_of_mem_drop hp)
theorem I8 (place:Nat->Option (Nat×Nat)):∀ (parts:List (Nat×PV)) (cells cs:List PV),IY place cells parts=some cs->cs.length=cells.length
 | [],cells,cs,h=>by simp[IY] at h;rw[h]
 | (i,v)::parts,cells,cs,h=>by
  simp only[IY] at h
  split at h
  cases h
  rename_i off size _
  cases U:(Nat.beq (oG (mQ v)) size&&Nat.ble (off+size) (oG cells)) with
  | false=>rw[U] at h;cases h
  | true=>
   rw[U] at h;rw[I8 place parts _ cs h,xn]
theorem TS {S:iW}{lk:Nat->Option mO}:∀ (ps U : List PV) (δ:Dl),pur S lk ps=some (U,δ)->U.length=ps.length
 | [],U,δ,h=>by simp[pur] at h;simp[<- h.1]
 | p::ps,U,δ,h=>by
  unfold pur at h
  cases hp:pur S lk ps with
  | none=>rw[hp] at h;cases h
  | some r=>
   obtain⟨qs,d⟩:=r;rw[hp] at h;simp only at h;have T:=TS ps qs d hp
   split at h
   split at h
   cases h;simp[T]
   cases h
   all_goals first
    | (cases h;done)
    | (cases h;simp[T])
theorem Py {S:iW}{lk:Nat->Option mO}(ps U : List PV)(δ:Dl)(h:pur S lk ps=some (U,δ)):iT U=true/\iT ps=true:=MP ps U δ h
section
variable {P:Program}{T:Tab}(hT:jq P T){C:Ctx T}{o:Oper}{a:Act}{w:World}{Y:Nat->Prop}{σ:Sg}{ps:List PV}{st:St}{n id:Nat}{K:PV->Dl->Prop}{lk:Nat->Option mO}
 (H:SW C w Y σ ps a.tmps.toList st n) (hlk:∀ b x,lk b=some x->jk st b=some x) (hid:σ id=none/\T.qf<=id) (hU:NR P)
include hT H in
theorem aew {t:TypeId}{parts:Array (Nat×Operand)}(ho:o.op=.build t parts)(hall:∀ fs:Array Field,P.underlying t=some (.struct fs)->∀ f∈fs.toList,P.info? f.type≠none)
  (helem:∀ k e,P.underlying t=some (.array k e)->P.info? e≠none) (h:oO T (iW.jI P T) (.build t parts) ps lk id K):qG P C o a w σ ps st n id K:=by
 have hp:=UK H parts.toList;have I:(parts.map λ(x:Nat×Operand)=>(x.1,a.eval x.2)).toList=parts.toList.map λx=>(x.1,a.eval x.2):=by simp
 simp only[oO] at h
 split at h
 rename_i agg size z plain fs e;obtain⟨fl,hu,rfl,hz⟩:=Oq hT e;obtain⟨zv,hzr,J⟩:=FW hz.symm
 cases hb:ED (evP T ps parts.toList) with
 | false=>rw[hb] at h;exact h.elim
 | true=>
  rw[hb] at h;simp only[cond_true] at h
  split at h
  rename_i cs O;have hinf:=hall fl hu
  have places:(fl.mapM λf=>(do pure (f.offset,<- sizeOf f.type):Sem (Nat×Nat))).run P w=.ok (fl.map λf=>(f.offset,P.cellsOf f.type)) w:=by
   have key:∀ (l:List Field),(∀ f∈l,P.info? f.type≠none)->(l.mapM λf=>(do pure (f.offset,<- sizeOf f.type):Sem (Nat×Nat))).run P w=.ok (l.map λf=>(f.offset,P.cellsOf f.type)) w:=by
    intro l
    induction l with
    | nil=>intro _;simp
    | cons f l ih=>
     intro hl;rw[List.mapM_cons];simp only[Sem.run_bind,run_sizeOf (hl f aC),Result.andThen,Sem.run_pure,ih (λg hg=>hl g (by simp[hg]))];simp
   rw[Array.mapM_eq_mapM_toList];simp only[Sem.run_bind,map_eq_pure_bind];rw[key fl.toList hinf];simp only[Result.andThen,Sem.run_pure]
   congr 1
   apply Array.ext';simp
  obtain⟨vcs,U,hrep⟩:=Px (w:=w) (Y:=Y) (σ:=σ) _ (evP T ps parts.toList) (parts.toList.map λx=>(x.1,a.eval x.2)) z zv.cells cs hp (J w Y σ) O (JC _ hb)
  have hplace:Us (fl.toList.map λf=>({ off:=f.offset,size:=P.cellsOf f.type,agg:=lK P f.type }:FI))=((fl.map λf=>(f.offset,P.cellsOf f.type))[·]?):=by
   funext i
   unfold Us;rw[JA,List.getElem?_map,Array.getElem?_map,<- Array.getElem?_toList];cases fl.toList[i]?<;>rfl
  rw[hplace] at U;refine qG.quiet H (cv:=.agg vcs) ?_ (by unfold Rep;exact⟨vcs.toList,by simp,hrep⟩) h;simp only[execOp,ho,Instr.build,Sem.run_bind,hzr,Result.andThen,lh hu,places,I,U];simp
  exact h.elim
 rename_i agg size z plain k esz ag e;obtain⟨et,hu,rfl,_,hz⟩:=Ph hT e;obtain⟨zv,hzr,J⟩:=FW hz.symm
 cases hb:ED (evP T ps parts.toList) with
 | false=>rw[hb] at h;exact h.elim
 | true=>
  rw[hb] at h;simp only[cond_true] at h
  split at h
  rename_i cs O;obtain⟨vcs,U,hrep⟩:=Px (w:=w) (Y:=Y) (σ:=σ) _ (evP T ps parts.toList) (parts.toList.map λx=>(x.1,a.eval x.2)) z zv.cells cs hp (J w Y σ) O (JC _ hb);refine qG.quiet H (cv:=.agg vcs) ?_ (by unfold Rep;exact⟨vcs.toList,by simp,hrep⟩) h;simp only[execOp,ho,Instr.build,Sem.run_bind,hzr,Result.andThen,lh hu,run_sizeOf (helem _ _ hu),I,U];simp
  exact h.elim
 exact h.elim
theorem SW.TT (H:SW C w Y σ ps a.tmps.toList st n)(hid:σ id=none/\T.qf<=id){arr:Array Value}{rows:List (List PV)}{sz m:Nat}{x:mO}(hx:x=.arr false sz rows\/(x=.mg sz rows/\∀ (r:Nat) (row:List PV) (c:Nat) (h:Hdr) (sz' : Nat) (es:List (List PV)),rows[r]?=some row->row[c]?=some (PV.ow h sz' es)->h.cap=0))
  (ty:TypeId) (J:0<sz) (hm:rows.length<=m/\m<=9223372036854775807) (I:arr.size=m*sz)
  (U:∀ (w' : World) (Y' : Nat->Prop),(∀ p v,Rep w Y iU p v->Rep w' Y' iU p v)->w'.heap[w.heap.size]?=some (.cells arr ty (0,0))->jw w' Y' iU w.heap.size sz rows 0) :
  ∃ Y' σ',SW C (w.alloc (.cells arr ty)) Y' σ' ps a.tmps.toList (oH st id (some x)) (max n (id+1))/\Rep (w.alloc (.cells arr ty)) Y' σ' (.os id 0 rows.length) (.slice (some ⟨w.heap.size,0,none⟩) rows.length m)/\Off id σ σ':=by
 obtain⟨Y',σ',H',hs,_,_,g⟩:=H.alloc hid arr ty ⟨w.heap.size,0,sz,m*sz,rows.length⟩ rfl x (λsz1 rows1 e=>by
  rcases hx with hx|⟨hx,hno⟩
  rw[hx] at e;cases e
  rw[hx] at e;cases e;exact hno) (by
  intro w' Y' σ' _ hY hb hk;have:=Nat.mul_le_mul_right sz hm.1;rcases hx with hx|⟨hx,_⟩<;>subst hx<;>unfold gW
  exact⟨⟨_,ty,hb,I⟩,rfl,J,⟨by simpa using this,rfl⟩,U w' Y' hk hb,λ_=>hY,λh=>by cases h⟩
  exact⟨⟨_,ty,hb,I⟩,rfl,J,⟨by simpa using this,rfl⟩,U w' Y' hk hb,hY⟩)
 refine⟨Y',σ',H',?_,g⟩;unfold Rep;refine .inl ⟨_,m,hs,by simp,hm,by simp,by simp⟩
theorem SW.XQ (H:SW C w Y σ ps a.tmps.toList st n)(hid:σ id=none/\T.qf<=id){arr:Array Value}{rows:List (List PV)}{sz m:Nat}(ty:TypeId)(J:0<sz)(g:rows.length<=m/\m<=9223372036854775807)(I:arr.size=m*sz)
  (U:∀ (w' : World) (Y' : Nat->Prop),(∀ p v,Rep w Y iU p v->Rep w' Y' iU p v)->w'.heap[w.heap.size]?=some (.cells arr ty (0,0))->jw w' Y' iU w.heap.size sz rows 0) :
  ∃ Y' σ',SW C (w.alloc (.cells arr ty)) Y' σ' ps a.tmps.toList (oH st id (some (.arr false sz rows))) (max n (id+1))/\Rep (w.alloc (.cells arr ty)) Y' σ' (.os id 0 rows.length) (.slice (some ⟨w.heap.size,0,none⟩) rows.length m)/\Off id σ σ' :=
 SW.TT H hid (.inl rfl) ty J g I U
include hT H in
theorem wB {t:TypeId}{len:Nat}{parts:Array (Nat×Operand)}{z cs:List PV}{et:TypeId}(ho:o.op=.buildSlice t len parts)
  (hu:P.underlying t=some (.slice et)) (hz:some z=GZ P et) (hb1:lX (P.cellsOf et)=true) (I:z.length=P.cellsOf et) (hle:len*P.cellsOf et<=16777216) (hb4:ED (evP T ps parts.toList)=true)
  (O:IY (λi=>some (i*P.cellsOf et,P.cellsOf et)) (Og len z) (evP T ps parts.toList)=some cs) :
  ∃ vcs:Array Value,gI w Y σ cs vcs.toList/\vcs.size=len*P.cellsOf et/\(execOp a.eval o).run P w=.ok (.value (.slice (some ⟨w.heap.size,0,none⟩) len len)) (w.alloc (.cells vcs et)):=by
 have hp:=UK H parts.toList;have J:(parts.map λ(x:Nat×Operand)=>(x.1,a.eval x.2)).toList=parts.toList.map λx=>(x.1,a.eval x.2):=by simp
 obtain⟨zv,hzr,hzrep⟩:=FW hz.symm;have hinf:=lu hb1
 have hpos:0<P.cellsOf et:=by
  rcases Nat.eq_zero_or_pos (P.cellsOf et) with h0|h0
  rw[h0] at hb1;simp[lX] at hb1
  exact h0
 let C:Array Value:=if len*P.cellsOf et=0 then #[] else zv.cells
 have hz0:=hzrep w Y σ;have hzsz:zv.cells.size=P.cellsOf et:=by have:=hz0.length;rw[Array.length_toList] at this;omega
 have hvz:(if len*P.cellsOf et=0 then pure #[] else do pure (<- zeroValue et).cells:Sem (Array Value)).run P w=.ok C w:=by
  by_cases h0:len*P.cellsOf et=0
  simp[h0,C]
  simp only[h0,if_false,Sem.run_bind,hzr,Result.andThen,Sem.run_pure,C]
 have g:gI w Y σ (Og len z) ((Array.range (len*P.cellsOf et)).map (C[· % C.size]!)).toList:=by
  by_cases h0:len*P.cellsOf et=0
  have:len=0:=by
   rcases Nat.mul_eq_zero.1 h0 with h|h
   exact h
   omega
  subst this;simp[Og,gI]
  have hvz' : C=zv.cells:=by simp[C,h0]
  rw[hvz']
  have key:∀ (ps:List PV) (vs:List Value),ps.length=vs.length->(∀ (i:Nat) (p:PV) (v:Value),ps[i]?=some p->vs[i]?=some v->Rep w Y σ p v)->gI w Y σ ps vs:=by
   intro ps
   induction ps with
   | nil=>intro vs hl _;have:vs=[]:=List.eq_nil_of_length_eq_zero (by simpa using hl.symm);subst this;simp[gI]
   | cons p ps ih=>
    intro vs hl hh
    cases vs with
    | nil=>simp at hl
    | cons v vs=>unfold gI;exact⟨v,vs,rfl,hh 0 p v rfl rfl,ih vs (by simpa using hl) (λi p' v' h1 h2=>hh (i+1) p' v' eP eQ)⟩
  refine key _ _ (by rw[xq];simp[I]) ?_;intro i p v h1 h2
  have hi:i<len*z.length:=by
   have:i<(Og len z).length:=by
    by_cases hh:i<(Og len z).length
    exact hh
    rw[List.getElem?_eq_none (Nat.le_of_not_lt hh)] at h1;cases h1
   rwa [xq] at this
  rw[Zz len z i hi] at h1;have hmod:i % z.length<zv.cells.size:=by rw[hzsz,<- I];exact Nat.mod_lt _ ah
  obtain⟨u,hu1,hu2⟩:=hz0.get? h1
  have:v=u:=by
   simp at h2;obtain⟨i',hi',h2⟩:=h2
   have:i'=i:=by
    rw[List.getElem?_range (by rw[<- I];exact hi)] at hi';exact(Option.some.inj hi').symm
   subst this;rw[<- h2];rw[Array.getElem?_toList] at hu1;rw[hzsz,<- I];simp[getElem!_def,hu1]
  rw[this];exact hu2
 obtain⟨vcs,U,hrep⟩:=Px (w:=w) (Y:=Y) (σ:=σ) _ (evP T ps parts.toList) (parts.toList.map λx=>(x.1,a.eval x.2)) (Og len z) _ cs hp g O (JC _ hb4)
 have hvl:vcs.size=len*P.cellsOf et:=by
  have:=hrep.length;rw[Array.length_toList,I8 _ _ _ _ O,xq,I] at this;omega
 refine⟨vcs,hrep,hvl,?_⟩;simp only[execOp,ho,Instr.buildSlice,Sem.run_bind,lh hu,Result.andThen,run_sizeOf hinf];rw[if_neg ah]
 by_cases h0:len*P.cellsOf et=0
 have hv0:C=#[]:=by simp[C,h0]
 rw[hv0] at U;simp only[h0,if_true,Sem.run_bind,Sem.run_pure,Result.andThen,J] at U |-;rw[U];simp[newRow,newObj,Sem.run,Result.andThen]
 have hv0:C=zv.cells:=by simp[C,h0]
 rw[hv0] at U;simp only[h0,if_false,Sem.run_bind,hzr,Sem.run_pure,Result.andThen,J] at U |-;rw[U];simp[newRow,newObj,Sem.run,Result.andThen]
include hT H hlk hid in
theorem VQ {t:TypeId}{len:Nat}{parts:Array (Nat×Operand)}(ho:o.op=.buildSlice t len parts)(h:oO T (iW.jI P T) (.buildSlice t len parts) ps lk id K):qG P C o a w σ ps st n id K:=by
 simp only[oO] at h
 split at h
 rename_i agg size z0 plain esz bytes z e;obtain⟨et,hu,rfl,_,hz⟩:=nJ hT e
 cases hb:(lX (P.cellsOf et)&&Nat.beq (oG z) (P.cellsOf et)&&Nat.ble (len*P.cellsOf et) 16777216&&ED (evP T ps parts.toList)) with
 | false=>rw[hb] at h;exact h.elim
 | true=>
  rw[hb] at h;simp only[cond_true] at h;simp only[Bool.and_eq_true,vK] at hb;obtain⟨⟨⟨I,hb2⟩,hb3⟩,hb4⟩:=hb;have hinf:=lu I
  have hpos:0<P.cellsOf et:=by
   rcases Nat.eq_zero_or_pos (P.cellsOf et) with h0|h0
   rw[h0] at I;simp[lX] at I
   exact h0
  have hzl:=Nat.eq_of_beq_eq_true hb2;have hle:=Nat.le_of_ble_eq_true hb3
  split at h
  rename_i cs O
  split at h
  rename_i cs0 δ U;obtain⟨g,hl2,hc2,hw2,h,_⟩:=Aw h;obtain⟨vcs,hrep,hvl,hrun⟩:=wB hT H ho hu hz I hzl hle hb4 O;have hLk:Lk lk st:=λb ro sz rows h=>⟨ro,hlk _ _ h⟩
  obtain⟨Y1,H1,hr1,hy1⟩:=FD cs cs0 δ U Y st H hLk _ hrep;have hr1:=hw2 _ _ _ _ hr1;have hcsl:g.length=len*P.cellsOf et:=by rw[hl2,TS _ _ _ U,I8 _ _ _ _ O,xq,hzl]
  have hch:(chunks (P.cellsOf et) len g).length=len:=wJ _ _ _
  obtain⟨Y2,σ2,H2,J,hoff⟩:=SW.XQ (a:=a) (m:=len) (arr:=vcs) (rows:=chunks (P.cellsOf et) len g) H1 hid et hpos ⟨by omega,Nat.le_trans (Nat.le_mul_of_pos_right len hpos) (Nat.le_trans hle bJ)⟩ hvl (by
   intro w' Y' hk hb;refine jo.chunks len g 0 ?_ (hc2 (Py _ _ _ U).1) ah;rw[jo.iff];intro i p hi;obtain⟨v,hv,hp'⟩:=hr1.get? hi;exact⟨v,by rw[cell_of_block hb];simpa using hv,hk _ _ hp'⟩)
  rw[hch] at J;refine⟨_,_,_,_,Y2,σ2,h,.inl ?_,by rw[Ov,adb];exact H2,J,hoff⟩;exact hrun
  exact h.elim
  exact h.elim
 exact h.elim
end
end Go.Pv
namespace Go.Pv
open Go
section
variable {P:Program}{T:Tab}(hT:jq P T){C:Ctx T}{o:Oper}{a:Act}{w:World}{Y:Nat->Prop}{σ:Sg}{ps:List PV}{st:St}{n id:Nat}{K:PV->Dl->Prop}{lk:Nat->Option mO}
 (H:SW C w Y σ ps a.tmps.toList st n) (hlk:∀ b x,lk b=some x->jk st b=some x) (hid:σ id=none/\T.qf<=id) (hU:NR P)
theorem gI.EO {w:World}{Y:Nat->Prop}{σ:Sg}:∀ (ps:List PV) (vs:List Value),ps.length=vs.length->(∀ (i:Nat) (p:PV) (v:Value),ps[i]?=some p->vs[i]?=some v->Rep w Y σ p v)->gI w Y σ ps vs
 | [],vs,hl,_=>by have:vs=[]:=List.eq_nil_of_length_eq_zero (by simpa using hl.symm);subst this;simp[gI]
 | p::ps,[],hl,_=>by simp at hl
 | p::ps,v::vs,hl,hh=>by
  unfold gI;exact⟨v,vs,rfl,hh 0 p v rfl rfl,gI.EO ps vs (by simpa using hl) (λi T U h1 h2=>hh (i+1) T U eP eQ)⟩
theorem EP {P:Program}{w:World}{t:TypeId}{i:TypeInfo}(h:P.info? t=some i):(typeInfo t).run P w=.ok i w:=by
 simp[typeInfo,program,Sem.run,Result.andThen,h]
theorem Ox {P:Program}{t:TypeId}{i:TypeInfo}(h:P.info? t=some i):P.bytesOf t=i.bytes:=by simp[Program.bytesOf,h]
theorem wrap_i64 {m:Int}(h0:0<=m)(h1:m<=9223372036854775807):IntKind.i64.wrap m=m:=by
 have e1:IntKind.i64.bits=64:=rfl;have U:IntKind.i64.signed=true:=rfl;unfold IntKind.wrap;rw[e1,U];have h2:m % (2:Int) ^ 64=m:=Int.emod_eq_of_lt h0 ah;simp only[h2,Bool.true_and];rw[if_neg];simp;omega
theorem Pz:∀ (vs:List Value) (h:Hdr) (sz:Nat) (U:List (List PV)),PV.ow h sz U ∉ EK vs
 | [],_,_,_=>by simp[EK]
 | v::vs,h,sz,U=>by
  simp only[EK,List.mem_cons,not_or];refine⟨?_,Pz vs h sz U⟩;unfold Jw
  split<;>simp
theorem ade {P:Program}{e:TypeId}{z:List PV}(U:GZ P e=some z)(h:Hdr)(sz:Nat)(T:List (List PV)):PV.ow h sz T ∉ z:=by
 unfold GZ at U
 split at U
 split at U
 rename_i J _;cases U;unfold Wq
 split
 exact Pz _ _ _ _
 unfold Jw
 split<;>simp[mQ]
 cases U
 cases U
theorem aaT {P:Program}{T:Tab}{e:TypeId}{z z2:List PV}{sz j:Nat}(C:GZ P e=some z)(hn:∀ n,T.mg=n+1->Sr z=true->z2=owZ n z):ad3 T.mg sz z ((iW.jI P T).rep j z2)=.arr false sz ((iW.jI P T).rep j z2)\/(ad3 T.mg sz z ((iW.jI P T).rep j z2)=.mg sz ((iW.jI P T).rep j z2) /\
  ∀ (r:Nat) (row:List PV) (c:Nat) (h:Hdr) (U : Nat) (I:List (List PV)),((iW.jI P T).rep j z2)[r]?=some row->row[c]?=some (PV.ow h U I)->h.cap=0):=by
 unfold ad3
 cases J:T.mg with
 | zero=>exact .inl rfl
 | succ n=>
  cases hs:Sr z with
  | false=>exact .inl rfl
  | true=>
   obtain rfl:=hn n J hs;refine .inr ⟨rfl,λr row c h U I hr hc=>?_⟩
   have:row=owZ n z:=by
    have hr:(List.replicate j (owZ n z))[r]?=some row:=hr;rw[List.getElem?_replicate] at hr
    split at hr
    cases hr;rfl
    cases hr
   subst this;exact Q3 (λh sz I=>ade C h sz I) c hc
include hT H hid in
theorem XR {t:TypeId}{x y:Operand}(ho:o.op=.makeSlice t x y)(h:oO T (iW.jI P T) (.makeSlice t x y) ps lk id K):qG P C o a w σ ps st n id K:=by
 have hx:=lD H x;have hy:=lD H y;simp only[oO] at h
 split at h
 ·rename_i agg size z0 plain esz bytes z k1 m1 k2 m2 e hxe hye;obtain⟨et,hu,rfl,rfl,hz⟩:=nJ hT e;obtain⟨zv,hzr,J⟩:=FW hz.symm;have hxv:=qo hx hxe;have hyv:=qo hy hye
  cases hb:(lX (P.cellsOf et)&&Nat.beq (oG z) (P.cellsOf et)&&iT z) with
  | false=>rw[hb] at h;exact h.elim
  | true=>
   rw[hb] at h;simp only[cond_true] at h;simp only[Bool.and_eq_true,vK] at hb;have hbz:=hb.2;have hb:=hb.1;have hinf:=lu hb.1
   have hpos:0<P.cellsOf et:=by
    rcases Nat.eq_zero_or_pos (P.cellsOf et) with h0|h0
    have:=hb.1;rw[h0] at this;simp[lX] at this
    exact h0
   have hzl:=Nat.eq_of_beq_eq_true hb.2;obtain⟨j,rfl,hle,hby,hmax,h⟩:=h;obtain⟨z2,hl2,hc2,hw2,h,hn2,_⟩:=acg h;have U:∀ w Y σ,gI w Y σ z2 zv.cells.toList:=λw Y σ=>hw2 _ _ _ _ (J w Y σ);obtain⟨m,rfl⟩:∃ m:Nat,m2=(m:Int):=⟨m2.toNat,by omega⟩
   cases hi:P.info? et with
   | none=>exact absurd hi hinf
   | some inf=>
   have hbe:=Ox hi;rw[hbe] at hby;have hz0:=J w Y σ;have hzsz:zv.cells.size=P.cellsOf et:=by have:=hz0.length;rw[Array.length_toList] at this;omega
   let arr:Array Value:=(Array.range (m*P.cellsOf et)).map (zv.cells[· % zv.cells.size]!)
   have harr:arr.size=m*P.cellsOf et:=by simp[arr]
   have I:((iW.jI P T).rep j z2).length=j:=by simp[iW.jI]
   obtain⟨Y2,σ2,H2,g,hoff⟩:=SW.TT (a:=a) (m:=m) (arr:=arr) (rows:=(iW.jI P T).rep j z2) (x:=ad3 T.mg (P.cellsOf et) z ((iW.jI P T).rep j z2)) H hid (aaT hz.symm hn2) et hpos ⟨by rw[I];omega,by omega⟩ harr (by
    intro w' Y' hk hbl;rw[jw.iff];intro i r hr
    have hr' : r=z2/\i<j:=by
     have:(iW.jI P T).rep j z2=List.replicate j z2:=rfl;rw[this,List.getElem?_replicate] at hr
     split at hr
     cases hr;exact⟨rfl,‹_›⟩
     cases hr
    obtain⟨rfl,hij⟩:=hr';refine⟨⟨hl2.trans hzl,hc2 hbz⟩,?_⟩;rw[jo.iff];intro c p hc;obtain⟨v,hv,_⟩:=(U w Y iU).get? hc;have hrv:=(U w Y iU).get? hc;obtain⟨v,hv,hrv⟩:=hrv;refine⟨v,?_,hk _ _ hrv⟩;rw[cell_of_block hbl]
    have hcl:c<P.cellsOf et:=by
     rw[<- hzl,<- hl2]
     by_cases hh:c<r.length
     exact hh
     rw[List.getElem?_eq_none (Nat.le_of_not_lt hh)] at hc;cases hc
    have hlt:0+i*P.cellsOf et+c<m*P.cellsOf et:=by
     have:=Nat.mul_le_mul_right (P.cellsOf et) (show i+1<=m by omega);rw[Nat.add_mul] at this;omega
    simp only[arr];rw[Array.getElem?_map,Array.getElem?_range,if_pos hlt];simp only[Option.map_some]
    congr 1
    rw[hzsz]
    have:(0+i*P.cellsOf et+c) % P.cellsOf et=c:=by
     rw[Nat.zero_add,Nat.add_comm,Nat.add_mul_mod_self_right];exact Nat.mod_eq_of_lt hcl
    rw[this];rw[Array.getElem?_toList] at hv;simp[getElem!_def,hv])
   rw[I] at g;refine⟨_,_,_,_,Y2,σ2,h,.inl ?_,H2,g,hoff⟩;have w1:IntKind.i64.wrap (j:Int)=(j:Int):=wrap_i64 ah ah;have w2:IntKind.i64.wrap (m:Int)=(m:Int):=wrap_i64 ah ah
   have c1:¬ ((((m:Int)<0 || decide ((inf.bytes:Int)*m > 2 ^ 48)) || decide ((j:Int)<0) || decide ((j:Int) > m))=true):=by
    simp;omega
   have c3:¬ (m*inf.bytes > roomBytes):=by
    unfold roomBytes;have:((inf.bytes*m:Nat):Int)<=140737488355328:=by simpa using hby
    rw[Nat.mul_comm];omega
   simp only[execOp,ho,Instr.makeSlice,Sem.run_bind,lh hu,Result.andThen,hxv,hyv,asInt,tX,Sem.run_pure,EP hi,w1,w2];rw[if_neg c1];simp only[askRoom,Int.toNat_natCast];rw[if_neg c3];simp only[Sem.run_bind,Sem.run_pure,Result.andThen,run_sizeOf hinf]
   by_cases h0:m*P.cellsOf et=0
   have:arr=#[]:=by simp[arr,h0]
   rw[if_pos h0];simp only[h0,Sem.run_pure,Sem.run_bind,Result.andThen,newRow,newObj];rw[show(Array.range 0).map ((#[]:Array Value)[· % (#[]:Array Value).size]!)=arr by rw[this];simp]
   simp[Sem.run]
   rw[if_neg h0];simp only[Sem.run_bind,hzr,Sem.run_pure,Result.andThen,newRow,newObj];simp[Sem.run,arr]
 exact h.elim
theorem KU (m:Int):goInt m=.int .i64 m:=rfl
include H in
theorem uq {b:Builtin}{args:Array Operand}{ts:Array TypeId}{v:PV}{cv:Value}(ho:o.op=.call { callee:=.builtin b,args:=args,argTypes:=ts })
  (hr:∀ ty cs,(builtin b ts ty cs (args.toList.map a.eval).toArray).run P w=.ok (.value cv) w) (hv:Rep w Y σ v cv) (T:K v []):qG P C o a w σ ps st n id K:=by
 have U:args.map a.eval=(args.toList.map a.eval).toArray:=by apply Array.ext';simp
 refine qG.quiet H (cv:=cv) ?_ hv T;simp only[execOp,ho,resolve,U,Sem.run_bind,Sem.run_pure,Result.andThen,invoke];exact hr _ _
theorem age {w:World}{Y:Nat->Prop}{σ:Sg}{p q:PV}{l:List PV}{vs:List Value}(h:gI w Y σ (p::q::l) vs):∃ u v U,vs=u::v::U/\Rep w Y σ p u/\Rep w Y σ q v/\gI w Y σ l U:=by
 unfold gI at h;obtain⟨u,C,rfl,h1,h2⟩:=h;unfold gI at h2;obtain⟨v,T,rfl,I,J⟩:=h2;exact⟨u,v,T,rfl,h1,I,J⟩
theorem Ha {w:World}{Y:Nat->Prop}{σ:Sg}{p:PV}{vs:List Value}(h:gI w Y σ [p] vs):∃ u,vs=[u]/\Rep w Y σ p u:=by
 unfold gI at h;obtain⟨u,U,rfl,h1,h2⟩:=h;unfold gI at h2;subst h2;exact⟨u,rfl,h1⟩
theorem PD {w:World}{Y:Nat->Prop}{σ:Sg}{p q:PV}{vs:List Value}(h:gI w Y σ [p,q] vs):∃ u v,vs=[u,v]/\Rep w Y σ p u/\Rep w Y σ q v:=by
 obtain⟨u,v,T,rfl,h1,h2,U⟩:=age h;unfold gI at U;subst U;exact⟨u,v,rfl,h1,h2⟩
theorem I9 {α:Type}{x:Array α}{t:α}(h:x.toList=[t]):x=#[t]:=by apply Array.ext';simpa using h
include hT H in
theorem ahs {args:Array Operand}{ts:Array TypeId}(ho:o.op=.call { callee:=.builtin .len,args:=args,argTypes:=ts })(h:oO T (iW.jI P T) (.call { callee:=.builtin .len,args:=args,argTypes:=ts }) ps lk id K):qG P C o a w σ ps st n id K:=by
 have U:=vM H args.toList;simp only[oO] at h;generalize g:args.toList.map a.eval=vs at U
 split at h
 all_goals first|(exact h.elim)|skip
 rename_i s t hb he ht;rw[he] at U;obtain⟨u,rfl,hu⟩:=Ha U;have I:=I9 ht;subst I
 split at h
 rename_i e;refine uq H ho (cv:=.int .i64 s.size) (λty cs=>?_) dO h;rw[g,G8 hu];simp[builtin,Builtin.len_,lh (Pj hT e),KU]
 exact h.elim
 rename_i sz es full t hb he ht;rw[he] at U;obtain⟨u,rfl,hu⟩:=Ha U;have I:=I9 ht;subst I
 split at h
 rename_i e;obtain⟨et,J,_⟩:=nJ hT e;unfold Rep at hu;obtain⟨x,len,cap,rfl,hl,_⟩:=hu;refine uq H ho (cv:=.int .i64 es.length) (λty cs=>?_) dO h;rw[g];simp[builtin,Builtin.len_,lh J,KU,hl]
 exact h.elim
 rename_i b r c hd sz m t hb he ht;rw[he] at U;obtain⟨u,rfl,hu⟩:=Ha U;have I:=I9 ht;subst I
 split at h
 rename_i e;obtain⟨et,J,_⟩:=nJ hT e
 have:∃ x c,u=.slice x m c:=by
  unfold Rep at hu;rcases hu with ⟨_,rfl,_⟩|⟨_,rfl,x,rfl⟩
  exact⟨_,_,rfl⟩
  exact⟨_,_,rfl⟩
 obtain⟨x,c,rfl⟩:=this;refine uq H ho (cv:=.int .i64 m) (λty cs=>?_) dO h;rw[g];simp[builtin,Builtin.len_,lh J,KU]
 exact h.elim
 rename_i b r m t hb he ht;rw[he] at U;obtain⟨u,rfl,hu⟩:=Ha U;have I:=I9 ht;subst I
 split at h
 rename_i e;obtain⟨et,J,_⟩:=nJ hT e
 have:∃ x c,u=.slice x m c:=by
  unfold Rep at hu;rcases hu with ⟨l,cap,_,rfl,_⟩|⟨rfl,x,rfl⟩
  exact⟨_,_,rfl⟩
  exact⟨_,_,rfl⟩
 obtain⟨x,c,rfl⟩:=this;refine uq H ho (cv:=.int .i64 m) (λty cs=>?_) dO h;rw[g];simp[builtin,Builtin.len_,lh J,KU]
 exact h.elim
 all_goals contradiction
theorem aex {P:Program}{w:World}{ts:Array TypeId}{ty:TypeId}{k:IntKind}{m c:Int} :
  (Builtin.min_ ts ty #[.int k m,.int k c]).run P w=.ok (.int k (if c<m then c else m)) w/\(Builtin.max_ ts ty #[.int k m,.int k c]).run P w=.ok (.int k (if c > m then c else m)) w:=by
 constructor
 simp[Builtin.min_,Builtin.min2]
 simp[Builtin.max_,Builtin.max2]
include hT H in
theorem aht {args:Array Operand}{ts:Array TypeId}(ho:o.op=.call { callee:=.builtin .min,args:=args,argTypes:=ts })(h:oO T (iW.jI P T) (.call { callee:=.builtin .min,args:=args,argTypes:=ts }) ps lk id K):qG P C o a w σ ps st n id K:=by
 have U:=vM H args.toList;simp only[oO] at h;generalize I:args.toList.map a.eval=vs at U
 split at h
 all_goals first|(exact h.elim)|skip
 contradiction
 contradiction
 contradiction
 contradiction
 rename_i p q l hb g;rw[g] at U;obtain⟨u,v,rfl,hu,hv⟩:=PD U
 have fin:∀ {k J : IntKind} {m c:Int} (mk:Int->PV),(∀ z,Rep w Y σ (mk z) (.int k z))->u=.int k m->v=.int J c->(bif tC k J then K (mk (if c<m then c else m)) [] else False)->qG P C o a w σ ps st n id K:=by
  intro k J m c mk h1 e1 e2 hh
  cases hk:tC k J with
  | false=>rw[hk] at hh;exact hh.elim
  | true=>
   rw[hk] at hh;have:=FC hk;subst this;refine uq H ho (cv:=.int k (if c<m then c else m)) (λty cs=>?_) (h1 _) hh;rw[I,e1,e2];have:=(aex (P:=P) (w:=w) (ts:=ts) (ty:=ty) (k:=k) (m:=m) (c:=c)).1;simp only[builtin,Sem.run_bind,this,Result.andThen,Sem.run_pure]
 split at h
 exact fin (λz=>.int _ z) (λz=>by simp[Rep]) (vN hu) (vN hv) h
 split at h
 rename_i h1 h2;exact fin (λz=>.si _ z) (λz=>by simp[Rep]) (qo hu h1) (qo hv h2) h
 exact h.elim
 all_goals contradiction
include hT H in
theorem ahu {args:Array Operand}{ts:Array TypeId}(ho:o.op=.call { callee:=.builtin .max,args:=args,argTypes:=ts })(h:oO T (iW.jI P T) (.call { callee:=.builtin .max,args:=args,argTypes:=ts }) ps lk id K):qG P C o a w σ ps st n id K:=by
 have U:=vM H args.toList;simp only[oO] at h;generalize I:args.toList.map a.eval=vs at U
 split at h
 all_goals first|(exact h.elim)|skip
 contradiction
 contradiction
 contradiction
 contradiction
 contradiction
 rename_i p q l hb g;rw[g] at U;obtain⟨u,v,rfl,hu,hv⟩:=PD U
 have fin:∀ {k J : IntKind} {m c:Int} (mk:Int->PV),(∀ z,Rep w Y σ (mk z) (.int k z))->u=.int k m->v=.int J c->(bif tC k J then K (mk (if m<c then c else m)) [] else False)->qG P C o a w σ ps st n id K:=by
  intro k J m c mk h1 e1 e2 hh
  cases hk:tC k J with
  | false=>rw[hk] at hh;exact hh.elim
  | true=>
   rw[hk] at hh;have:=FC hk;subst this;refine uq H ho (cv:=.int k (if m<c then c else m)) (λty cs=>?_) (h1 _) hh;rw[I,e1,e2];have:=(aex (P:=P) (w:=w) (ts:=ts) (ty:=ty) (k:=k) (m:=m) (c:=c)).2;simp only[builtin,Sem.run_bind,this,Result.andThen,Sem.run_pure]
 split at h
 exact fin (λz=>.int _ z) (λz=>by simp[Rep]) (vN hu) (vN hv) h
 split at h
 rename_i h1 h2;exact fin (λz=>.si _ z) (λz=>by simp[Rep]) (qo hu h1) (qo hv h2) h
 exact h.elim
 all_goals contradiction
end
end Go.Pv
namespace Go.Pv
open Go
def adf (x:Option Addr)(cap i j size:Nat):Value:=.slice (if cap=i then x else x.map (·.add (i*size))) (j-i) (cap-i)
theorem ahv {w:World}{Y:Nat->Prop}{σ:Sg}{sz i j len cap:Nat}{T:List (List PV)}{full U : Bool}{x:Option Addr}(h:Rep w Y σ (.sl sz T full) (.slice x len cap))(h1:i<=j)(h2:j<=T.length)(O:U=true->full=true/\j=T.length) :
  Rep w Y σ (.sl sz ((T.drop i).take (j-i)) U) (adf x cap i j sz):=by
 unfold Rep at h |-;obtain⟨x',C,g,e,hl,hc,I,hr⟩:=h;cases e;refine⟨_,_,_,rfl,?_,by omega,?_,?_⟩
 rw[List.length_take,List.length_drop];omega
 intro h';obtain⟨g1,g2⟩:=O h';have:=I g1;omega
 by_cases J:i=j
 left;rw[J];simp
 rcases hr with hr|⟨b,o,rfl,hy,hr⟩
 left;rw[hr];simp
 right
 rw[if_neg ah];exact⟨b,o+i*sz,by simp[addr_add],hy,(hr.drop i _ _).take _ _ _⟩
theorem ahw {w:World}{Y:Nat->Prop}{σ:Sg}{b r n i j cap len size:Nat}{x:Option Addr}(h:Rep w Y σ (.os b r n) (.slice x len cap))(h1:i<=j)(h2:j<=n)(hs:∀ l,σ b=some l->l.sz=size) :
  Rep w Y σ (.os b (r+i) (j-i)) (adf x cap i j size):=by
 unfold Rep at h |-;rcases h with ⟨l,U,hl,e,hn,ht,hr⟩|⟨rfl,x',e⟩
 cases e;have hsz:=hs l hl
 by_cases hc:cap=i
 right
 refine⟨by omega,some ⟨l.cb,l.co+r*l.sz,none⟩,?_⟩;simp only[adf,hc,if_true];have e1:j-i=0:=by omega
 have T:i-i=0:=by omega
 rw[e1,T]
 left
 refine⟨l,cap-i,hl,?_,by omega,?_,by omega⟩
 simp only[adf,hc,if_false,Option.map_some,addr_add];rw[<- hsz,Nat.add_mul,Nat.add_assoc]
 rw[<- ht];have:i<=cap:=by omega
 rw[Nat.add_mul,Nat.sub_mul];have:=Nat.mul_le_mul_right l.sz this;omega
 cases e
 right
 have hi:i=0:=by omega
 have hj:j=0:=by omega
 subst hi;subst hj;exact⟨rfl,x,by simp[adf]⟩
theorem Ee {P:Program}{w:World}{len cap:Nat}{lo hi:Option Value}{i j:Nat}(U:lo=none/\i=0\/∃ k,lo=some (.int k (i:Int)))(T:hi=none/\j=len\/∃ k,hi=some (.int k (j:Int)))(h1:i<=j)(h2:j<=cap)(b:Bool) :
  (Instr.sliceBounds b len cap lo hi none).run P w=.ok (i,j,cap) w:=by
 have e1:(0:Int)<=(i:Int)/\(i:Int)<=(j:Int):=by omega
 have I:(0:Int)<=(j:Int)/\(j:Int)<=(cap:Int):=by omega
 rcases U with ⟨rfl,rfl⟩|⟨k,rfl⟩<;>rcases T with ⟨rfl,rfl⟩|⟨J,rfl⟩
 simp[Instr.sliceBounds]
 simp[Instr.sliceBounds,Instr.sliceBound,tX,h2]
 simp[Instr.sliceBounds,Instr.sliceBound,tX,h1]
 simp[Instr.sliceBounds,Instr.sliceBound,tX,h1,h2]
theorem acZ {P:Program}{w:World}{t e:TypeId}{x:Option Addr}{len cap i j:Nat}{lo hi:Option Value}(hu:P.underlying t=some (.slice e))(hinf:P.info? e≠none)
  (T:lo=none/\i=0\/∃ k,lo=some (.int k (i:Int))) (U:hi=none/\j=len\/∃ k,hi=some (.int k (j:Int))) (h1:i<=j) (h2:j<=cap) :
  (Instr.sliceAt t (.slice x len cap) lo hi none).run P w=.ok (adf x cap i j (P.cellsOf e)) w:=by
 simp only[Instr.sliceAt,Sem.run_bind,lh hu,Result.andThen,Instr.slice,Ee T U h1 h2,run_sizeOf hinf,Sem.run_pure];rfl
theorem WG {S:iW}{w:World}{Y:Nat->Prop}{σ:Sg}:∀ (ps:List PV) (vs:List Value) (r:List PV×Dl),pur S (λ_=>none) ps=some r->gI w Y σ ps vs->gI w Y iU ps vs
 | [],vs,_,_,h=>by unfold gI at h |-;exact h
 | p::ps,vs,r,hp,h=>by
  unfold gI at h;obtain⟨v,U,rfl,h1,h2⟩:=h;unfold pur at hp
  cases hq:pur S (λ_=>none) ps with
  | none=>rw[hq] at hp;cases hp
  | some q=>
   rw[hq] at hp;simp only at hp;have T:=WG ps U q hq h2;have fin:Rep w Y iU p v->gI w Y iU (p::ps) (v::U):=λh=>by unfold gI;exact⟨v,U,rfl,h,T⟩
   cases p
   case os=>simp at hp
   case fn f cs=>
    cases cs with
    | nil=>exact fin bM
    | cons _ _=>simp at hp
   all_goals first
    | (simp at hp;done)
    | exact fin bG
theorem agf {P:Program}{w:World}{t:TypeId}{s:ByteArray}{i j:Nat}{lo hi:Option Value}(hu:P.underlying t=some .string)
  (T:lo=none/\i=0\/∃ k,lo=some (.int k (i:Int))) (U:hi=none/\j=s.size\/∃ k,hi=some (.int k (j:Int))) (h1:i<=j) (h2:j<=s.size) :
  (Instr.sliceAt t (.string s) lo hi none).run P w=.ok (.string (s.extract i j)) w:=by
 simp only[Instr.sliceAt,Sem.run_bind,lh hu,Result.andThen,Instr.slice,Option.isSome_none,Bool.false_eq_true,if_false,Ee T U h1 h2,Sem.run_pure]
theorem aci {P:Program}{w:World}{t e:TypeId}{m b o:Nat}(hu:P.underlying t=some (.array m e))(hinf:P.info? e≠none) :
  (Instr.sliceAt t (.pointer (some ⟨b,o,none⟩)) none none none).run P w=.ok (.slice (some ⟨b,o,none⟩) m m) w:=by
 have U:=Ee (P:=P) (w:=w) (len:=m) (cap:=m) (lo:=none) (hi:=none) (i:=0) (j:=m) (.inl ⟨rfl,rfl⟩) (.inl ⟨rfl,rfl⟩) ah ah false;simp only[Instr.sliceAt,Sem.run_bind,lh hu,Result.andThen,Instr.sureAddr,Sem.run_pure,U,run_sizeOf hinf,Nat.zero_mul,addr_add];simp
theorem WH {P:Program}{w:World}{t e:TypeId}{x:Option Addr}{len cap:Nat}{k U : IntKind}(hu:P.underlying t=some (.slice e))(hinf:P.info? e≠none) :
  (Instr.sliceAt t (.slice x len cap) none (some (.int k 0)) (some (.int U 0))).run P w=.ok (.slice x 0 0) w:=by
 have c1:(0:Int)<=0/\(0:Int)<=(cap:Int):=by omega
 simp[Instr.sliceAt,lh hu,Instr.slice,Instr.sliceBounds,Instr.sliceBound,tX,run_sizeOf hinf]
section
variable {P:Program}{T:Tab}(hT:jq P T){C:Ctx T}{o:Oper}{a:Act}{w:World}{Y:Nat->Prop}{σ:Sg}{ps:List PV}{st:St}{n id:Nat}{K:PV->Dl->Prop}{lk:Nat->Option mO}
 (H:SW C w Y σ ps a.tmps.toList st n) (hlk:∀ b x,lk b=some x->jk st b=some x) (hid:σ id=none/\T.qf<=id) (hU:NR P)
theorem Q5 {T:Tab}{C:Ctx T}{w:World}{Y:Nat->Prop}{σ:Sg}{ps:List PV}{a:Act}{st:St}{n:Nat}(h:SW C w Y σ ps a.tmps.toList st n)(x:Option Operand) :
  (evO T ps x=none/\x.map a.eval=none)\/∃ p v,evO T ps x=some p/\x.map a.eval=some v/\Rep w Y σ p v:=by
 cases x with
 | none=>exact .inl ⟨rfl,rfl⟩
 | some x=>exact .inr ⟨_,_,rfl,rfl,lD h x⟩
include hT H hlk in
theorem aey {t:TypeId}{x:Operand}{lo hi mx:Option Operand}(ho:o.op=.slice t x lo hi mx)(hid:σ id=none/\T.qf<=id)(h:oO T (iW.jI P T) (.slice t x lo hi mx) ps lk id K):qG P C o a w σ ps st n id K:=by
 have hx:=lD H x;have J:=Q5 H lo;have I:=Q5 H hi;have hmx:=Q5 H mx
 have run:∀ {r:Result Value},(Instr.sliceAt t (a.eval x) (lo.map a.eval) (hi.map a.eval) (mx.map a.eval)).run P w=r->(execOp a.eval o).run P w=r.andThen λv w'=>.ok (.value v) w':=by
  intro r hr;simp only[execOp,ho,Sem.run_bind,hr,Sem.run_pure]
 generalize lo.map a.eval=vlo at J run;generalize hi.map a.eval=vhi at I run;generalize mx.map a.eval=vmx at hmx run;simp only[oO] at h;generalize evO T ps lo=plo at J h;generalize evO T ps hi=phi at I h;generalize evO T ps mx=pmx at hmx h;generalize sD T ps x=p at hx h
 have bound:∀ {q:Option PV} {v:Option Value} {r:PV} {k:IntKind} {i:Nat},((q=none/\v=none)\/∃ p u,q=some p/\v=some u/\Rep w Y σ p u)->q=some r->DK r=some (k,(i:Int))->∃ k,v=some (.int k (i:Int)):=by
  intro q v r k i hq e1 e2;rcases hq with ⟨e,_⟩|⟨p,u,e,e',hr⟩
  rw[e] at e1;cases e1
  rw[e] at e1;cases e1;exact⟨k,by rw[e',qo hr e2]⟩
 have U:∀ {q:Option PV} {v:Option Value},((q=none/\v=none)\/∃ p u,q=some p/\v=some u/\Rep w Y σ p u)->q=none->v=none:=by
  intro q v hq e;rcases hq with ⟨_,e'⟩|⟨p,u,e',_⟩
  exact e'
  rw[e] at e';cases e'
 split at h
 rename_i agg size z plain esz bytes z' sz es full e;obtain⟨et,hu,rfl,_,_⟩:=nJ hT e;have hm:=U hmx rfl;subst hm
 cases g:(lX (P.cellsOf et)&&Nat.beq sz (P.cellsOf et)) with
 | false=>rw[g] at h;exact h.elim
 | true=>
  rw[g] at h;simp only[cond_true] at h;rw[Bool.and_eq_true] at g;have hinf:=lu g.1;have hsz:=Nat.eq_of_beq_eq_true g.2;subst hsz;have hx':=hx;unfold Rep at hx';obtain⟨y,len,cap,ex,hl,hc,_,_⟩:=hx';rw[ex] at hx run
  have fin:∀ (i j:Nat) (full' : Bool),(vlo=none/\i=0\/∃ k,vlo=some (.int k (i:Int)))->(vhi=none/\j=len\/∃ k,vhi=some (.int k (j:Int)))->i<=j->j<=es.length->(full'=true->full=true/\j=es.length) ->
    K (.sl (P.cellsOf et) ((es.drop i).take (j-i)) full') []->qG P C o a w σ ps st n id K:=by
   intro i j full' g1 g2 g3 g4 g5 hK;exact qG.quiet H dZ (ahv hx g3 g4 g5) hK
  split at h
  have hv:=U I rfl
  split at h
  have hv2:=U J rfl;refine fin 0 len full (.inl ⟨hv2,rfl⟩) (.inl ⟨hv,rfl⟩) ah ah (λh=>⟨h,hl⟩) ?_;rw[hl];simpa using h
  split at h
  rename_i hint;obtain⟨i,j,rfl,e2,g1,g2,h⟩:=h;have:j=es.length:=by have:((es.length:Nat):Int)=(j:Int):=e2;omega
  subst this;exact fin i es.length full (.inr (bound J rfl hint)) (.inl ⟨hv,hl.symm⟩) g1 (Nat.le_refl _) (λh=>⟨h,rfl⟩) h
  exact h.elim
  split at h
  rename_i hint
  split at h
  have hv2:=U J rfl;obtain⟨i,j,e1,rfl,g1,g2,h⟩:=h;have:i=0:=by omega
  subst this;exact fin 0 j false (.inl ⟨hv2,rfl⟩) (.inr (bound I rfl hint)) g1 g2 (λh=>by cases h) h
  split at h
  rename_i hint2;obtain⟨i,j,rfl,rfl,g1,g2,h⟩:=h;exact fin i j false (.inr (bound J rfl hint2)) (.inr (bound I rfl hint)) g1 g2 (λh=>by cases h) h
  exact h.elim
  exact h.elim
 rename_i agg size z plain esz bytes z' b r m e;obtain⟨et,hu,rfl,_,_⟩:=nJ hT e;have hm:=U hmx rfl;subst hm
 split at h
 rename_i ro sz rows hbk
 cases g:(lX (P.cellsOf et)&&Nat.beq sz (P.cellsOf et)) with
 | false=>rw[g] at h;exact h.elim
 | true=>
  rw[g] at h;simp only[cond_true] at h;rw[Bool.and_eq_true] at g;have hinf:=lu g.1;have hsz:=Nat.eq_of_beq_eq_true g.2
  have hls:∀ l,σ b=some l->l.sz=P.cellsOf et:=by
   intro l hl;have hB:=gW.yR H hlk hbk hl;unfold gW at hB;rw[hB.2.1,hsz]
  have hx' : ∃ y cap,a.eval x=.slice y m cap/\m<=cap:=by
   unfold Rep at hx;rcases hx with ⟨l,cap,_,e,hn,_⟩|⟨rfl,y,e⟩
   exact⟨_,cap,e,hn.1⟩
   exact⟨y,0,e,Nat.le_refl _⟩
  obtain⟨y,cap,ex,hmc⟩:=hx';rw[ex] at hx run
  have fin:∀ (i j:Nat),(vlo=none/\i=0\/∃ k,vlo=some (.int k (i:Int)))->(vhi=none/\j=m\/∃ k,vhi=some (.int k (j:Int)))->i<=j->j<=m->K (.os b (r+i) (j-i)) []->qG P C o a w σ ps st n id K:=by
   intro i j g1 g2 g3 g4 hK;exact qG.quiet H dZ (ahw hx g3 g4 hls) hK
  split at h
  have hv:=U I rfl
  split at h
  have hv2:=U J rfl;exact fin 0 m (.inl ⟨hv2,rfl⟩) (.inl ⟨hv,rfl⟩) ah ah h
  split at h
  rename_i hint;obtain⟨i,j,rfl,e2,g1,g2,h⟩:=h;have:j=m:=by have:(m:Int)=(j:Int):=e2;omega
  subst this;exact fin i j (.inr (bound J rfl hint)) (.inl ⟨hv,rfl⟩) g1 g2 h
  exact h.elim
  split at h
  rename_i hint
  split at h
  have hv2:=U J rfl;obtain⟨i,j,e1,rfl,g1,g2,h⟩:=h;have:i=0:=by omega
  subst this;exact fin 0 j (.inl ⟨hv2,rfl⟩) (.inr (bound I rfl hint)) g1 g2 h
  split at h
  rename_i hint2;obtain⟨i,j,rfl,rfl,g1,g2,h⟩:=h;exact fin i j (.inr (bound J rfl hint2)) (.inr (bound I rfl hint)) g1 g2 h
  exact h.elim
  exact h.elim
 exact h.elim
 rename_i agg size z plain esz bytes z' sz es full k1 k2 e;obtain⟨et,hu,rfl,_,_⟩:=nJ hT e
 cases g:lX (P.cellsOf et) with
 | false=>rw[g] at h;exact h.elim
 | true=>
  rw[g] at h;have hinf:=lu g;have hl:=U J rfl;subst hl;rcases I with ⟨e1,_⟩|⟨p1,v1,e1,rfl,r1⟩
  cases e1
  cases e1;rcases hmx with ⟨e1,_⟩|⟨p2,v2,e2,rfl,r2⟩
  cases e1
  cases e2;rw[vN r1,vN r2] at run;unfold Rep at hx;obtain⟨y,len,cap,ex,_⟩:=hx;rw[ex] at run;refine qG.quiet H (by rw[run (WH hu hinf)];rfl) ?_ h;unfold Rep;exact⟨y,0,0,rfl,rfl,Nat.le_refl _,λ_=>rfl,.inl rfl⟩
 rename_i agg size z plain esz bytes z' b r m k1 k2 e;obtain⟨et,hu,rfl,_,_⟩:=nJ hT e
 cases g:lX (P.cellsOf et) with
 | false=>rw[g] at h;exact h.elim
 | true=>
  rw[g] at h;have hinf:=lu g;have hl:=U J rfl;subst hl;rcases I with ⟨e1,_⟩|⟨p1,v1,e1,rfl,r1⟩
  cases e1
  cases e1;rcases hmx with ⟨e1,_⟩|⟨p2,v2,e2,rfl,r2⟩
  cases e1
  cases e2;rw[vN r1,vN r2] at run
  have hx' : ∃ y cap,a.eval x=.slice y m cap:=by
   unfold Rep at hx;rcases hx with ⟨l,cap,_,e,_⟩|⟨rfl,y,e⟩
   exact⟨_,cap,e⟩
   exact⟨y,0,e⟩
  obtain⟨y,cap,ex⟩:=hx';rw[ex] at run;refine qG.quiet H (by rw[run (WH hu hinf)];rfl) ?_ h;unfold Rep;exact⟨y,0,0,rfl,rfl,Nat.le_refl _,λ_=>rfl,.inl rfl⟩
 rename_i agg size z plain s e;have hu:=Pj hT e;have hm:=U hmx rfl;subst hm;rw[G8 hx] at run
 have fin:∀ (i j:Nat),(vlo=none/\i=0\/∃ k,vlo=some (.int k (i:Int)))->(vhi=none/\j=s.size\/∃ k,vhi=some (.int k (j:Int)))->i<=j->j<=s.size->K (.str (s.extract i j)) []->qG P C o a w σ ps st n id K:=by
  intro i j g1 g2 g3 g4 hK;exact qG.quiet H (cv:=.string (s.extract i j)) (by rw[run (agf hu g1 g2 g3 g4)];rfl) bU hK
 split at h
 have hv2:=U J rfl
 split at h
 have hv:=U I rfl;refine fin 0 s.size (.inl ⟨hv2,rfl⟩) (.inl ⟨hv,rfl⟩) ah ah ?_
 simpa using h
 split at h
 rename_i hint;obtain⟨i,j,e1,rfl,g1,g2,h⟩:=h;have:i=0:=by omega
 subst this;exact fin 0 j (.inl ⟨hv2,rfl⟩) (.inr (bound I rfl hint)) g1 g2 h
 exact h.elim
 split at h
 rename_i hint
 split at h
 have hv:=U I rfl;obtain⟨i,j,rfl,e2,g1,g2,h⟩:=h;have:j=s.size:=by have:((s.size:Nat):Int)=(j:Int):=e2;omega
 subst this;exact fin i s.size (.inr (bound J rfl hint)) (.inl ⟨hv,rfl⟩) g1 g2 h
 split at h
 rename_i hint2;obtain⟨i,j,rfl,rfl,g1,g2,h⟩:=h;exact fin i j (.inr (bound J rfl hint)) (.inr (bound I rfl hint2)) g1 g2 h
 exact h.elim
 exact h.elim
 rename_i agg size z plain m esz ag b c e;obtain⟨et,hu,rfl,_,_⟩:=Ph hT e;have hm:=U hmx rfl;have hv:=U I rfl;have hl:=U J rfl;subst hm;subst hv;subst hl
 split at h
 rename_i ro row hbk
 cases g:(lX (P.cellsOf et)&&Nat.ble (c+m*P.cellsOf et) (oG row)) with
 | false=>rw[g] at h;exact h.elim
 | true=>
  rw[g] at h;simp only[cond_true] at h;rw[Bool.and_eq_true] at g;have hinf:=lu g.1;have hle:=Nat.le_of_ble_eq_true g.2;rw[vK] at hle
  split at h
  rename_i pr hpur;unfold Rep at hx;obtain⟨l,hs,ex⟩:=hx;rw[ex] at run;obtain⟨Y1,H1,hn1,hy1⟩:=H.freeze (hlk _ _ hbk) (x':=.var true row) (.inl ⟨ro,row,rfl,rfl⟩);have hB:=gW.yR H1 (lk:=jk (oH st b (some (.var true row)))) (λ_ _ h=>h) eX hs;have hlt:=hB.lt;unfold gW at hB;obtain⟨vs,hr,hcell⟩:=hB.2.2.2.1.vals;have hr':=WG _ _ _ hpur hr;have hrc:=(jo.Jz row vs l.co hr' hcell).drop c _ _;refine⟨_,_,.slice (some ⟨l.cb,l.co+c,none⟩) m m,w,Y1,σ,h,.inl ?_,?_,?_,Off.refl _ _⟩
  rw[run (aci hu hinf)];rfl
  simp only[jJ,uH];exact H1.mono ah
  unfold Rep;refine⟨_,_,_,rfl,by rw[wJ],Nat.le_refl _,λ_=>rfl,.inr ⟨l.cb,_,rfl,⟨hlt,hn1 l hs⟩,?_⟩⟩;rw[yP];refine jo.chunks m _ _ hrc ?_ (by rw[List.length_drop];omega);have:=(Py row _ _ hpur).2;rw[qH] at this |-;exact λp hp=>this p (List.mem_of_mem_drop hp)
  exact h.elim
 exact h.elim
 rename_i agg size z plain m esz ag cs e;obtain⟨et,hu,rfl,_,_⟩:=Ph hT e;have hm:=U hmx rfl;have hv:=U I rfl;have hl:=U J rfl;subst hm;subst hv;subst hl
 cases g:(lX (P.cellsOf et)&&iT cs&&Nat.ble (m*P.cellsOf et) (oG cs)) with
 | false=>rw[g] at h;exact h.elim
 | true=>
  rw[g] at h;simp only[cond_true] at h;rw[Bool.and_eq_true,Bool.and_eq_true] at g;have hinf:=lu g.1.1;have hle:=Nat.le_of_ble_eq_true g.2;rw[vK] at hle;unfold Rep at hx;obtain⟨b,o',ex,hy,hr⟩:=hx;rw[ex] at run;refine qG.quiet H (by rw[run (aci hu hinf)];rfl) ?_ h;unfold Rep;exact⟨_,_,_,rfl,by rw[wJ],Nat.le_refl _,λ_=>rfl,.inr ⟨b,o',rfl,hy,jo.chunks m cs o' hr g.1.2 hle⟩⟩
 exact h.elim
end
end Go.Pv
namespace Go.Pv
open Go
theorem SW.drawn {T:Tab}{C:Ctx T}{w:World}{Y:Nat->Prop}{σ:Sg}{ps:List PV}{vs:List Value}{st:St}{n:Nat}(H:SW C w Y σ ps vs st n)(d:Nat):SW C { w with drawn:=d } Y σ ps vs st n:=by
 have K:Keep w { w with drawn:=d } Y Y σ σ:=⟨λ_ _ _=>rfl,λ_ _ h=>h,Nat.le_refl _,oq.refl _⟩;refine⟨gI.keep _ K _ H.vals,⟨λb x hx=>?_,H.store.inj⟩,H.next,H.vJ,H.y0,H.c0,H.wS,⟨H.qm.os,H.qm.tape,H.qm.output,H.qm.size,H.qm.block⟩,H.own,H.wU.keep K.none,H.fix,H.nest.heap (Nat.le_refl _) (λ_ _=>rfl)⟩;rcases H.store.blk b x hx with ⟨l,hl,hB⟩|h
 exact .inl ⟨l,hl,gW.keep K rfl Iff.rfl hB⟩
 exact .inr h
theorem Rep.drawn {w:World}{Y:Nat->Prop}{σ:Sg}{p:PV}{v:Value}(h:Rep w Y σ p v)(d:Nat):Rep { w with drawn:=d } Y σ p v :=
 Rep.keep (w:=w) (w':={ w with drawn:=d }) p ⟨λ_ _ _=>rfl,λ_ _ h=>h,Nat.le_refl _,oq.refl _⟩ v h
theorem SW.aez {T:Tab}{C:Ctx T}{w:World}{Y:Nat->Prop}{σ:Sg}{ps:List PV}{vs:List Value}{st:St}{n id:Nat}(H:SW C w Y σ ps vs st n)(hid:σ id=none/\T.qf<=id){x:mO}(hE:Emp x):SW C w Y σ ps vs (oH st id (some x)) (max n (id+1)):=by
 have U:=hid.1;refine⟨H.vals,⟨λb y hx=>?_,λb g y y' l l' hx I hl J e=>?_⟩,λb hb=>H.next b ah,H.vJ,H.y0,H.c0,H.wS,H.qm,λb y l hx hl=>?_,H.wU,⟨by have:=H.fix.1;omega,H.fix.2⟩,?_⟩
 rw[iQ] at hx
 by_cases h:id=b
 rw[if_pos h] at hx;cases hx;subst h;exact .inr ⟨U,hE⟩
 rw[if_neg h] at hx;exact H.store.blk b y hx
 rw[iQ] at hx I
 by_cases h:id=b
 subst h;rw[U] at hl;cases hl
 by_cases h' : id=g
 subst h';rw[U] at J;cases J
 rw[if_neg h] at hx;rw[if_neg h'] at I;exact H.store.inj b g y y' l l' hx I hl J e
 rw[iQ] at hx
 by_cases h:id=b
 subst h;rw[U] at hl;cases hl
 rw[if_neg h] at hx;exact H.own b y l hx hl
 have back:∀ {c r k h s es},ni (oH st id (some x)) c r k h s es->ni st c r k h s es:=by
  rintro c r k h s es ⟨sz0,rows,row,h1,h2,h3⟩
  rw[iQ] at h1
  by_cases hc:id=c
  rw[if_pos hc] at h1;cases h1;cases hE;simp at h2
  rw[if_neg hc] at h1;exact⟨sz0,rows,row,h1,h2,h3⟩
 refine H.nest.keep ⟨λ_ _ _=>rfl,λ_ _ h=>h,Nat.le_refl _,oq.refl _⟩ (λ_ _ _ _ _ _ k=>back k) (λ_ _ _ _ _ _ _=>rfl) (λ_ _ _ _ _ _ k=>(H.nest.rep _ _ _ _ _ _ (back k)).own) λc r k h s es g y l hk hx hl=>?_;rw[iQ] at hx
 by_cases hc:id=g
 subst hc;rw[U] at hl;cases hl
 rw[if_neg hc] at hx;exact H.nest.sep _ _ _ _ _ _ _ _ _ (back hk) hx hl
theorem SW.empty {T:Tab}{C:Ctx T}{w:World}{Y:Nat->Prop}{σ:Sg}{ps:List PV}{vs:List Value}{st:St}{n id:Nat}(H:SW C w Y σ ps vs st n)(hid:σ id=none/\T.qf<=id)(sz:Nat):SW C w Y σ ps vs (oH st id (some (.arr false sz []))) (max n (id+1)):=H.aez hid (.arr _ _)
theorem SW.aaU {T:Tab}{C:Ctx T}{w w' : World}{Y:Nat->Prop}{σ:Sg}{ps:List PV}{vs:List Value}{st:St}{n id b:Nat}(H:SW C w Y σ ps vs st n)(hid:σ id=none/\T.qf<=id){x x' : mO}{l l' : Loc}
  (hx:jk st b=some x) (hnar:∀ sz rows,x'≠.mg sz rows) (hl:σ b=some l) (hm:Y l.cb) (hcb:l'.cb=l.cb)
  (hos:w'.os=w.os) (htape:w'.tape=w.tape) (hout:w'.output=w.output) (hsize:w'.heap.size=w.heap.size) (U:∀ k,k≠l.cb->w'.heap[k]?=w.heap[k]?)
  (hnew:∀ σ',(∀ p v,Rep w Y σ p v->Rep w' Y σ' p v)->(∀ p v,Rep w Y iU p v->Rep w' Y iU p v)->gW w' Y σ' l' x') :
  ∃ σ',SW C w' Y σ' ps vs (oH (oH st b none) id (some x')) (max n (id+1))/\σ' id=some l'/\Off id σ σ':=by
 have hfree:=hid.1
 let σ' : Sg:=λc=>if c=id then some l' else σ c
 have hsg:oq σ σ':=by
  intro c m h;show(if c=id then some l' else σ c)=some m
  by_cases hc:c=id
  subst hc;rw[hfree] at h;cases h
  rw[if_neg hc];exact h
 have K:Keep w w' Y Y σ σ':=⟨λk _ hk=>U k (λe=>hk (e ▸ hm)),λ_ _ h=>h,Nat.le_of_eq hsize.symm,hsg⟩;have own:=H.own b x l hx hl
 have look:∀ c y,jk (oH (oH st b none) id (some x')) c=some y->(c=id/\y=x')\/(c≠id/\c≠b/\jk st c=some y):=by
  intro c y h;rw[iQ] at h
  by_cases hc:id=c
  rw[if_pos hc] at h;cases h;exact .inl ⟨hc.symm,rfl⟩
  rw[if_neg hc,iQ] at h
  by_cases hc2:b=c
  rw[if_pos hc2] at h;cases h
  rw[if_neg hc2] at h;exact .inr ⟨λe=>hc e.symm,λe=>hc2 e.symm,h⟩
 refine⟨σ',⟨gI.keep _ K _ H.vals,⟨?_,?_⟩,?_,λk hk=>by rw[hsize];exact H.vJ k hk,H.y0,H.c0,H.wS,?_,?_,H.wU.keep K.none,⟨by have:=H.fix.1;omega,λb hb=>by show(if b=id then some l' else σ b)=_;rw[if_neg ah];exact H.fix.2 b hb⟩,?_⟩,by simp[σ'],λb hb=>by show(if b=id then some l' else σ b)=_;rw[if_neg hb]⟩
 intro c y h;rcases look c y h with ⟨rfl,rfl⟩|⟨h1,h2,I⟩
 exact .inl ⟨l',by simp[σ'],hnew σ' (λp v hp=>Rep.keep p K v hp) (λp v hp=>Rep.keep p K.none v hp)⟩
 rcases H.store.blk c y I with ⟨m,J,hB⟩|⟨hn,hy⟩
 refine .inl ⟨m,hsg _ _ J,gW.keep K (U _ λe=>h2 ?_) Iff.rfl hB⟩;exact H.store.inj c b y x m l I hx J hl e
 exact .inr ⟨by simp[σ',h1,hn],hy⟩
 intro c c' y y' m m' h h' g hm2 e;rcases look c y h with ⟨rfl,rfl⟩|⟨h1,h2,I⟩<;>rcases look c' y' h' with ⟨rfl,rfl⟩|⟨h1',h2',h3'⟩
 rfl
 exfalso
 simp[σ'] at g;subst g;have:σ c'=some m':=by simpa [σ',h1'] using hm2
 exact h2' (H.store.inj c' b y' x m' l h3' hx this hl (by rw[<- e,hcb]))
 exfalso
 simp[σ'] at hm2;subst hm2;have:σ c=some m:=by simpa [σ',h1] using g
 exact h2 (H.store.inj c b y x m l I hx this hl (by rw[e,hcb]))
 have e1:σ c=some m:=by simpa [σ',h1] using g
 have e2:σ c'=some m':=by simpa [σ',h1'] using hm2
 exact H.store.inj c c' y y' m m' I h3' e1 e2 e
 intro c hc;show(if c=id then some l' else σ c)=none;rw[if_neg ah];exact H.next c ah
 refine⟨by rw[hos];exact H.qm.os,by rw[htape];exact H.qm.tape,by rw[hout];exact H.qm.output,by rw[hsize];exact H.qm.size,λk hk hM=>?_⟩
 have hne:k≠l.cb:=λe=>by
  subst e;have h1:=H.away hx hl;rcases H.wS _ hm hk with h2|h2
  exact h1 h2
  exact hM h2
 rw[U k hne];exact H.qm.block k hk hM
 intro c y m h J;rcases look c y h with ⟨rfl,rfl⟩|⟨h1,h2,I⟩
 simp[σ'] at J;subst J;rw[hcb];exact own
 exact H.own c y m I (by simpa [σ',h1] using J)
 have back:∀ {c r k h s es},ni (oH (oH st b none) id (some x')) c r k h s es->ni st c r k h s es:=by
  rintro c r k h s es ⟨sz0,rows,row,h1,h2⟩
  rcases look _ _ h1 with ⟨_,e⟩|⟨_,_,I⟩
  exact absurd e.symm (hnar _ _)
  exact⟨sz0,rows,row,I,h2⟩
 refine H.nest.keep K.none (λ_ _ _ _ _ _ k=>back k) (λc r k h s es hk=>U _ (H.nest.sep _ _ _ _ _ _ _ _ _ (back hk) hx hl).symm) (λ_ _ _ _ _ _ k=>(H.nest.rep _ _ _ _ _ _ (back k)).own) λc r k h s es b' y m hk hy J=>?_;rcases look _ _ hy with ⟨e,_⟩|⟨h1,h2,I⟩
 subst e;simp[σ'] at J;subst J;rw[hcb];exact H.nest.sep _ _ _ _ _ _ _ _ _ (back hk) hx hl
 exact H.nest.sep _ _ _ _ _ _ _ _ _ (back hk) I (by simpa [σ',h1] using J)
theorem acj {w w' : World}{Y:Nat->Prop}{σ:Sg}{l:Loc}{T r c:Nat}{rows:List (List PV)}{row:List PV}{p q:PV}(hB:gW w Y σ l (.mg T rows))(U:rows[r]?=some row)(hc:row[c]?=some p)
  (K:Keep w w' Y Y iU iU) (hb:w'.heap[l.cb]?=w.heap[l.cb]?) (hq:tu q=true) (hpq:∀ v,Rep w' Y iU p v->Rep w' Y iU q v):gW w' Y σ l (.mg T (rows.set r (row.set c q))):=by
 unfold gW at hB |-;obtain⟨⟨arr,ty,b1,b2⟩,b3,b4,⟨b5,b6⟩,b7,b8⟩:=hB;refine⟨⟨arr,ty,by rw[hb];exact b1,b2⟩,b3,b4,⟨by simpa using b5,by simpa using b6⟩,?_,b8⟩;have b7:=jw.keep rows K (λ_=>hb) _ b7
 have g:r<rows.length:=by
  by_cases hh:r<rows.length
  exact hh
  simp[List.getElem?_eq_none (Nat.le_of_not_lt hh)] at U
 have C:c<row.length:=by
  by_cases hh:c<row.length
  exact hh
  simp[List.getElem?_eq_none (Nat.le_of_not_lt hh)] at hc
 rw[jw.iff] at b7 |-;intro i x hi;rw[List.getElem?_set] at hi
 by_cases J:r=i
 subst J;rw[if_pos rfl,if_pos g] at hi;cases hi;obtain⟨⟨q1,q2⟩,q3⟩:=b7 r row U;refine⟨⟨by simpa using q1,?_⟩,?_⟩
 rw[qH] at q2 |-;intro p hp;rcases List.mem_or_eq_of_mem_set hp with hh|hh
 exact q2 p hh
 rw[hh];exact hq
 rw[jo.iff] at q3 |-;intro i p' hi;rw[List.getElem?_set] at hi
 by_cases I:c=i
 subst I;rw[if_pos rfl,if_pos C] at hi;cases hi;obtain⟨v,hv,hp⟩:=q3 c _ hc;exact⟨v,hv,hpq v hp⟩
 rw[if_neg I] at hi;exact q3 i p' hi
 rw[if_neg J] at hi;exact b7 i x hi
theorem ZA {st:St}{b sz0 r c:Nat}{rows:List (List PV)}{row:List PV}{q:PV}(g:jk st b=some (.mg sz0 rows))(T:rows[r]?=some row)(hno:∀ h sz es,q≠.ow h sz es){d k j:Nat}{h2:Hdr}{s2:Nat}{e2:List (List PV)}
  (hO:∃ J rs U,(if d=b then some (.mg sz0 (rows.set r (row.set c q))) else jk st d)=some (.mg J rs)/\rs[k]?=some U/\U[j]?=some (.ow h2 s2 e2)/\h2.cap≠0):ni st d k j h2 s2 e2/\¬ (d=b/\k=r/\j=c):=by
 obtain⟨J,rs,U,g1,g2,g3,g4⟩:=hO
 have hrlt:r<rows.length:=by
  by_cases hh:r<rows.length
  exact hh
  simp[List.getElem?_eq_none (Nat.le_of_not_lt hh)] at T
 by_cases e1:d=b
 subst e1;rw[if_pos rfl] at g1;cases g1;rw[List.getElem?_set] at g2
 by_cases I:r=k
 subst I;rw[if_pos rfl,if_pos hrlt] at g2;cases g2;rw[List.getElem?_set] at g3
 by_cases C:c=j
 subst C;rw[if_pos rfl] at g3
 split at g3
 exact absurd (Option.some.inj g3) (hno _ _ _)
 cases g3
 rw[if_neg C] at g3;exact⟨⟨_,rows,row,g,T,g3,g4⟩,λhh=>C hh.2.2.symm⟩
 rw[if_neg I] at g2;exact⟨⟨_,rows,U,g,g2,g3,g4⟩,λhh=>I hh.2.1.symm⟩
 rw[if_neg e1] at g1;exact⟨⟨J,rs,U,g1,g2,g3,g4⟩,λhh=>e1 hh.1⟩
theorem SW.ahx {T:Tab}{C:Ctx T}{w:World}{Y:Nat->Prop}{σ:Sg}{ps:List PV}{vs:List Value}{st:St}{n b r c J:Nat}{rows:List (List PV)}{row:List PV}{p q:PV}(H:SW C w Y σ ps vs st n)(g:jk st b=some (.mg J rows))(I:rows[r]?=some row)(hc:row[c]?=some p)
  (hq:tu q=true) (hno:∀ h sz es,q≠.ow h sz es) (hpq:∀ v,Rep w Y iU p v->Rep w Y iU q v):SW C w Y σ ps vs (oH st b (some (.mg J (rows.set r (row.set c q))))) n:=by
 have K0:Keep w w Y Y iU iU:=⟨λ_ _ _=>rfl,λ_ _ h=>h,Nat.le_refl _,oq.refl _⟩
 have look:∀ d y,jk (oH st b (some (.mg J (rows.set r (row.set c q))))) d=some y->(d=b/\y=.mg J (rows.set r (row.set c q)))\/(d≠b/\jk st d=some y):=by
  intro d y U;rw[iQ] at U
  by_cases e:b=d
  rw[if_pos e] at U;cases U;exact .inl ⟨e.symm,rfl⟩
  rw[if_neg e] at U;exact .inr ⟨λh=>e h.symm,U⟩
 have back:∀ {d k j h2 s2 e2},ni (oH st b (some (.mg J (rows.set r (row.set c q))))) d k j h2 s2 e2->ni st d k j h2 s2 e2:=by
  rintro d k j h2 s2 e2 ⟨szx,rs,rw0,g1,g2,g3,g4⟩
  refine(ZA (c:=c) (q:=q) g I hno ⟨szx,rs,rw0,?_,g2,g3,g4⟩).1;rw[iQ] at g1
  by_cases e:b=d
  rw[if_pos e] at g1;rw[if_pos e.symm];exact g1
  rw[if_neg e] at g1;rw[if_neg (λh=>e h.symm)];exact g1
 have old:∀ d y,jk (oH st b (some (.mg J (rows.set r (row.set c q))))) d=some y->∃ z,jk st d=some z:=by
  intro d y U;rcases look d y U with ⟨rfl,_⟩|⟨_,U⟩
  exact⟨_,g⟩
  exact⟨_,U⟩
 refine⟨H.vals,⟨λd y U=>?_,λd d' y y' l l' U hd'=>?_⟩,H.next,H.vJ,H.y0,H.c0,H.wS,H.qm,λd y l U hl=>?_,H.wU,H.fix,?_⟩
 rcases look d y U with ⟨rfl,rfl⟩|⟨_,U⟩
 rcases H.store.blk d _ g with ⟨l,hl,hB⟩|⟨_,hE⟩
 exact .inl ⟨l,hl,acj hB I hc K0 rfl hq hpq⟩
 cases hE;simp at I
 exact H.store.blk d y U
 obtain⟨z,hz⟩:=old d y U;obtain⟨z',hz'⟩:=old d' y' hd';exact H.store.inj d d' z z' l l' hz hz'
 obtain⟨z,hz⟩:=old d y U;exact H.own d z l hz hl
 exact H.nest.keep K0 (λ_ _ _ _ _ _ k=>back k) (λ_ _ _ _ _ _ _=>rfl) (λ_ _ _ _ _ _ k=>(H.nest.rep _ _ _ _ _ _ (back k)).own) λd k j h2 s2 e2 b' y l hk hy hl=>by
  obtain⟨z,hz⟩:=old b' y hy;exact H.nest.sep _ _ _ _ _ _ _ _ _ (back hk) hz hl
theorem SW.take {T:Tab}{C:Ctx T}{w w' : World}{Y:Nat->Prop}{σ:Sg}{ps:List PV}{vs:List Value}{st:St}{n id b r c g sz:Nat}{rows:List (List PV)}{row:List PV}{h:Hdr}{es es' : List (List PV)}{q:PV}(H:SW C w Y σ ps vs st n)(hid:σ id=none/\T.qf<=id)
  (hst:jk st b=some (.mg g rows)) (hrow:rows[r]?=some row) (hc:row[c]?=some (.ow h sz es)) (hcap:h.cap≠0) (hbid:b≠id)
  (hq:tu q=true) (hno:∀ h sz es,q≠.ow h sz es) (hpq:∀ v,Rep w' Y iU (.ow h sz es) v->Rep w' Y iU q v)
  (hos:w'.os=w.os) (htape:w'.tape=w.tape) (hout:w'.output=w.output) (hsize:w'.heap.size=w.heap.size) (U:∀ k,k≠h.ν->w'.heap[k]?=w.heap[k]?)
  (hnew:(∀ p v,Rep w Y iU p v->Rep w' Y iU p v)->(∃ arr ty,w'.heap[h.ν]?=some (.cells arr ty (0,0))/\arr.size=h.o+h.cap*sz)/\es'.length<=h.cap/\jw w' Y iU h.ν sz es' h.o) :
  ∃ σ',SW C w' Y σ' ps vs (oH (oH st b (some (.mg g (rows.set r (row.set c q))))) id (some (.arr false sz es'))) (max n (id+1))/\σ' id=some ⟨h.ν,h.o,sz,h.o+h.cap*sz,es'.length⟩/\Off id σ σ':=by
 have hO:ni st b r c h sz es:=⟨g,rows,row,hst,hrow,hc,hcap⟩;have hN:=H.nest.rep _ _ _ _ _ _ hO;have hold:=H.nest.old _ _ _ _ _ _ hO;have hfree:=hid.1
 let l' : Loc:=⟨h.ν,h.o,sz,h.o+h.cap*sz,es'.length⟩
 let σ' : Sg:=λd=>if d=id then some l' else σ d
 have hsg:oq σ σ':=by
  intro d m J;show(if d=id then some l' else σ d)=some m
  by_cases e:d=id
  subst e;rw[hfree] at J;cases J
  rw[if_neg e];exact J
 have K:Keep w w' Y Y σ σ':=⟨λk _ hk=>U k (λe=>hk (e ▸ hN.own)),λ_ _ h=>h,Nat.le_of_eq hsize.symm,hsg⟩;have sepν:∀ d y m,jk st d=some y->σ d=some m->m.cb≠h.ν:=λd y m hy hm=>H.nest.sep _ _ _ _ _ _ _ _ _ hO hy hm;obtain⟨n1,n2,n3⟩:=hnew (λp v hp=>Rep.keep p K.none v hp)
 have look:∀ d y,jk (oH (oH st b (some (.mg g (rows.set r (row.set c q))))) id (some (.arr false sz es'))) d=some y ->
   (d=id/\y=.arr false sz es')\/(d≠id/\d=b/\y=.mg g (rows.set r (row.set c q)))\/(d≠id/\d≠b/\jk st d=some y):=by
  intro d y J;rw[iQ] at J
  by_cases e:id=d
  rw[if_pos e] at J;cases J;exact .inl ⟨e.symm,rfl⟩
  rw[if_neg e,iQ] at J
  by_cases I:b=d
  rw[if_pos I] at J;cases J;exact .inr (.inl ⟨λh=>e h.symm,I.symm,rfl⟩)
  rw[if_neg I] at J;exact .inr (.inr ⟨λh=>e h.symm,λh=>I h.symm,J⟩)
 have old:∀ d y,d≠id->jk (oH (oH st b (some (.mg g (rows.set r (row.set c q))))) id (some (.arr false sz es'))) d=some y->∃ z,jk st d=some z:=by
  intro d y J hy;rcases look d y hy with ⟨e,_⟩|⟨_,rfl,_⟩|⟨_,_,hz⟩
  exact absurd e J
  exact⟨_,hst⟩
  exact⟨_,hz⟩
 have back:∀ {d k j h2 s2 I},ni (oH (oH st b (some (.mg g (rows.set r (row.set c q))))) id (some (.arr false sz es'))) d k j h2 s2 I->ni st d k j h2 s2 I/\h2.ν≠h.ν:=by
  rintro d k j h2 s2 I ⟨szx,rs,rw0,g1,g2,g3,g4⟩
  have key:ni st d k j h2 s2 I/\¬ (d=b/\k=r/\j=c):=by
   refine ZA (c:=c) (q:=q) hst hrow hno ⟨szx,rs,rw0,?_,g2,g3,g4⟩;rcases look _ _ g1 with ⟨_,e⟩|⟨_,I,e3⟩|⟨_,I,e3⟩
   cases e
   rw[if_pos I,e3]
   rw[if_neg I];exact e3
  exact⟨key.1,λe=>key.2 (H.nest.one _ _ _ _ _ _ _ _ _ _ _ _ key.1 hO e)⟩
 have e1:∀ d m,d≠id->σ' d=some m->σ d=some m:=by
  intro d m J hm;have:(if d=id then some l' else σ d)=some m:=hm;rw[if_neg J] at this;exact this
 have I:∀ m,σ' id=some m->m=l':=by
  intro m hm;have:(if id=id then some l' else σ id)=some m:=hm;rw[if_pos rfl] at this;exact(Option.some.inj this).symm
 refine⟨σ',⟨gI.keep _ K _ H.vals,⟨λd y J=>?_,λd d' y y' m m' J hd' hm hm' e=>?_⟩,λd J=>?_,λk hk=>by rw[hsize];exact H.vJ k hk,H.y0,H.c0,H.wS,?_,λd y m J hm=>?_,H.wU.keep K.none,⟨by have:=H.fix.1;omega,λd J=>by show(if d=id then some l' else σ d)=_;rw[if_neg ah];exact H.fix.2 d J⟩,?_⟩,by show(if id=id then some l' else σ id)=_;rw[if_pos rfl],λd J=>by show(if d=id then some l' else σ d)=_;rw[if_neg J]⟩
 rcases look d y J with ⟨rfl,rfl⟩|⟨h1,rfl,rfl⟩|⟨h1,h2,h3⟩
 refine .inl ⟨l',by show(if d=d then some l' else σ d)=_;rw[if_pos rfl],?_⟩;unfold gW;refine⟨⟨n1⟩,rfl,hN.pos,⟨?_,rfl⟩,n3,λ_=>hN.own,λe=>by cases e⟩;show h.o+es'.length*sz<=h.o+h.cap*sz;have:=Nat.mul_le_mul_right sz n2;omega
 rcases H.store.blk d _ hst with ⟨l,hl,hB⟩|⟨_,hE⟩
 refine .inl ⟨l,hsg _ _ hl,?_⟩;have:=acj (σ:=σ') (l:=l) (by unfold gW at hB |-;exact hB) hrow hc K.none (U _ (sepν _ _ _ hst hl)) hq hpq;exact this
 cases hE;simp at hrow
 rcases H.store.blk d y h3 with ⟨l,hl,hB⟩|⟨hn,hE⟩
 exact .inl ⟨l,hsg _ _ hl,gW.keep K (U _ (sepν _ _ _ h3 hl)) Iff.rfl hB⟩
 exact .inr ⟨by show(if d=id then some l' else σ d)=none;rw[if_neg h1];exact hn,hE⟩
 by_cases c1:d=id<;>by_cases c2:d'=id
 rw[c1,c2]
 subst c1;obtain rfl:=I m hm;obtain⟨z,hz⟩:=old d' y' c2 hd';exact absurd e.symm (sepν d' z m' hz (e1 d' m' c2 hm'))
 subst c2;obtain rfl:=I m' hm';obtain⟨z,hz⟩:=old d y c1 J;exact absurd e (sepν d z m hz (e1 d m c1 hm))
 obtain⟨z,hz⟩:=old d y c1 J;obtain⟨z',hz'⟩:=old d' y' c2 hd';exact H.store.inj d d' z z' m m' hz hz' (e1 d m c1 hm) (e1 d' m' c2 hm') e
 show(if d=id then some l' else σ d)=none;rw[if_neg ah];exact H.next d ah
 refine⟨by rw[hos];exact H.qm.os,by rw[htape];exact H.qm.tape,by rw[hout];exact H.qm.output,by rw[hsize];exact H.qm.size,λk hk hM=>?_⟩
 have hne:k≠h.ν:=λe=>by
  subst e;rcases H.wS _ hN.own hk with h2|h2
  obtain⟨k1,k2⟩:=H.c0 _ h2;rcases hold with h1|h1
  omega
  exact k2 h1
  exact hM h2
 rw[U k hne];exact H.qm.block k hk hM
 by_cases c1:d=id
 subst c1;obtain rfl:=I m hm;exact hold
 obtain⟨z,hz⟩:=old d y c1 J;exact H.own d z m hz (e1 d m c1 hm)
 refine H.nest.keep K.none (λ_ _ _ _ _ _ k=>(back k).1) (λ_ _ _ _ _ _ k=>U _ (back k).2) (λ_ _ _ _ _ _ k=>(H.nest.rep _ _ _ _ _ _ (back k).1).own) λd k j h2 s2 es2 b' y m hk hy hm=>?_
 by_cases c1:b'=id
 subst c1;obtain rfl:=I m hm;exact λe=>(back hk).2 e.symm
 obtain⟨z,hz⟩:=old b' y c1 hy;exact H.nest.sep _ _ _ _ _ _ _ _ _ (back hk).1 hz (e1 b' m c1 hm)
theorem jw.vals {w:World}{Y:Nat->Prop}{σ:Sg}{b sz:Nat}:∀ (rs:List (List PV)) (o:Nat),jw w Y σ b sz rs o ->
  ∃ vs:List Value,(vs.length=rs.length*sz/\∀ v∈vs,Ol v=true)/\(∀ i v,vs[i]?=some v->w.cell? ⟨b,o+i,none⟩=some v) /\
   ∀ (w' : World) (Y' : Nat->Prop) (σ' : Sg) (I o' : Nat),(∀ p v,Rep w Y σ p v->Rep w' Y' σ' p v)->(∀ i v,vs[i]?=some v->w'.cell? ⟨I,o'+i,none⟩=some v)->jw w' Y' σ' I sz rs o'
 | [],o,_=>⟨[],⟨by simp,by simp⟩,by simp,λ_ _ _ _ _ _ _=>by simp[jw]⟩
 | r::rs,o,h=>by
  unfold jw at h;obtain⟨h1,h2,h3⟩:=h;obtain⟨us,U,hu2⟩:=h2.vals;obtain⟨vs,⟨C,J⟩,hv2,hv3⟩:=jw.vals rs (o+sz) h3;have T:us.length=sz:=by rw[U.length];exact h1.1
  refine⟨us++vs,⟨?_,λv hv=>(List.mem_append.1 hv).elim (λh=>zW _ _ h1.2 U v h) (J v)⟩,?_,?_⟩
  rw[List.length_append,C,T,List.length_cons,Nat.add_mul];omega
  intro i v hi
  by_cases g:i<us.length
  rw[List.getElem?_append_left g] at hi;exact hu2 i v hi
  rw[List.getElem?_append_right ah] at hi;have:=hv2 (i-us.length) v hi;rw[T] at this;rw[show o+i=o+sz+(i-sz) by omega];exact this
  intro w' Y' σ' I o' hk hc;unfold jw;refine⟨h1,jo.Jz r us o' ?_ (λi v hi=>hc i v (by rw[List.getElem?_append_left];exact hi;(by_cases hh:i<us.length;exact hh;rw[List.getElem?_eq_none ah] at hi;cases hi))),hv3 w' Y' σ' I (o'+sz) hk (λi v hi=>?_)⟩
  exact gI.EO _ _ (by rw[U.length]) (λi p v e1 e2=>by
   obtain⟨v',e3,e4⟩:=U.get? e1;rw[e2] at e3;cases e3;exact hk _ _ e4)
  have:=hc (sz+i) v (by rw[List.getElem?_append_right ah,T];simpa using hi);rw[show o'+sz+i=o'+(sz+i) by omega];exact this
theorem SG {P:Program}{T:Tab}{C:Ctx T}{w:World}{Y:Nat->Prop}{σ:Sg}{ps:List PV}{us:List Value}{st:St}{n U:Nat}(H:SW C w Y σ ps us st n){lk:Nat->Option mO}(g:∀ b x,lk b=some x->jk st b=some x)
  {p:PV} {v:Value} {rows:List (List PV)} (hv:Rep w Y σ p v) (h:rowsOf (iW.jI P T) U lk p=some rows) :
  ∃ x len cap,v=.slice x len cap/\len=rows.length/\(rows=[]\/∃ b o,x=some ⟨b,o,none⟩/\jw w Y iU b U rows o):=by
 cases p<;>simp[rowsOf] at h
 case sl sz es full=>
  unfold Rep at hv;obtain⟨x,len,cap,rfl,hl,_,_,hr⟩:=hv
  cases I:Nat.beq sz U with
  | true=>
   rw[I] at h;simp only[cond_true,Option.some.injEq] at h;subst h;have:=Nat.eq_of_beq_eq_true I;subst this;exact⟨x,len,cap,rfl,hl,hr.imp id λ⟨b,o,e,_,hr⟩=>⟨b,o,e,hr⟩⟩
  | false=>
   rw[I] at h;simp only[cond_false] at h
   cases es with
   | nil=>simp at h;subst h;exact⟨x,len,cap,rfl,hl,.inl rfl⟩
   | cons _ _=>simp at h
 case os b r m=>
  split at h
  rename_i ro sz rows' I
  cases J:Nat.beq sz U with
  | false=>rw[J] at h;simp at h
  | true=>
   rw[J] at h;simp only[cond_true,Option.some.injEq] at h;subst h;have:=Nat.eq_of_beq_eq_true J;subst this;obtain⟨x,cap,rfl,hn,hl,hr⟩:=G9 hv (H.store.blk b _ (g _ _ I));exact⟨x,m,cap,rfl,hl,hr.imp id λ⟨b',o,e,_,_,hr⟩=>⟨b',o,e,hr⟩⟩
  cases h
theorem Az {P:Program}{w:World}{size n:Nat}{x:Option Addr}{len cap:Nat}{vs:List Value}(hl:vs.length=n*size)(h:vs=[]\/∃ b o,x=some ⟨b,o,none⟩/\∀ i v,vs[i]?=some v->w.cell? ⟨b,o+i,none⟩=some v) :
  (Builtin.firstCells size n (.slice x len cap)).run P w=.ok vs.toArray w:=by
 cases x with
 | none=>
  rcases h with rfl|⟨b,o,e,_⟩
  simp[Builtin.firstCells]
  exact absurd e aC
 | some a=>
  rcases h with rfl|⟨b,o,e,hc⟩
  simp only[List.length_nil] at hl;simp only[Builtin.firstCells,<- hl,loadCells,loadCellsFrom,Sem.run_pure]
  obtain rfl:a=⟨b,o,none⟩:=Option.some.inj e;simp only[Builtin.firstCells,<- hl,loadCells];rw[Dh vs 0 #[] (λj v hj=>by simpa using hc j v hj)];simp
theorem WI:∀ (rounds U c:Nat),c<=U+U / 4+192->Builtin.growBy U rounds c<=U+U / 4+192
 | 0,U,c,h=>by simpa [Builtin.growBy] using h
 | rounds+1,U,c,h=>by
  simp only[Builtin.growBy]
  split
  exact h
  exact WI rounds U _ ah
theorem aaV {U cap:Nat}(h:¬ U<=cap):Builtin.nextslicecap U cap<=2*U+192:=by
 unfold Builtin.nextslicecap
 split
 omega
 split
 omega
 have:=WI 4 U cap ah;omega
theorem aaW {U old:Nat}{e:TypeId}(t:Nat)(h:U<=4611686018427387904):(Question.appendCap U old e).cut t<=9223372036854775807:=by
 simp only[Question.cut];have:=Nat.mod_lt t (show 2 ^ 63-U > 0 by omega);omega
theorem aaX {U old:Nat}{e:TypeId}(t:Nat):U<=(Question.appendCap U old e).cut t:=by
 simp only[Question.cut];omega
section
variable {P:Program}{T:Tab}(hT:jq P T){C:Ctx T}{o:Oper}{a:Act}{w:World}{Y:Nat->Prop}{σ:Sg}{ps:List PV}{st:St}{n id:Nat}{K:PV->Dl->Prop}{lk:Nat->Option mO}
 (H:SW C w Y σ ps a.tmps.toList st n) (hlk:∀ b x,lk b=some x->jk st b=some x) (hid:σ id=none/\T.qf<=id) (hU:NR P)
theorem JD (H:SW C w Y σ ps a.tmps.toList st n)(hid:σ id=none/\T.qf<=id){t u:TypeId}{ts:List TypeId}{et:TypeId}{inf:TypeInfo}{z:List PV}{old new:List (List PV)}{x y:Option Addr}{sl sc yl yc:Nat}{ty:TypeId}{us vs:List Value}{eu:TypeId}
  (hu:P.underlying t=some (.slice et)) (hu2:P.underlying u=some (.slice eu)) (hi:P.info? et=some inf) (hz:GZ P et=some z) (hpos:0<P.cellsOf et) (hzl:z.length=P.cellsOf et)
  (hold:us.length=sl*P.cellsOf et/\(us=[]\/∃ b o,x=some ⟨b,o,none⟩/\∀ i v,us[i]?=some v->w.cell? ⟨b,o+i,none⟩=some v))
  (I:vs.length=yl*P.cellsOf et/\(vs=[]\/∃ b o,y=some ⟨b,o,none⟩/\∀ i v,vs[i]?=some v->w.cell? ⟨b,o+i,none⟩=some v))
  (hsl:sl=old.length) (hyl:yl=new.length)
  (hrows:∀ (w' : World) (Y' : Nat->Prop) (b' : Nat),(∀ p v,Rep w Y iU p v->Rep w' Y' iU p v)->(∀ i v,(us++vs)[i]?=some v->w'.cell? ⟨b',0+i,none⟩=some v)->jw w' Y' iU b' (P.cellsOf et) (old++new) 0)
  (J:¬ sl+yl<=sc) (hroom:(2*(sl+yl)+192)*inf.bytes<=140737488355328) (hbig:sl+yl<=4611686018427387904) :
  ∃ cv w' Y' σ',(Builtin.append_ (t::u::ts).toArray ty #[.slice x sl sc,.slice y yl yc]).run P w=.ok cv w' /\
   SW C w' Y' σ' ps a.tmps.toList (oH st id (some (.arr false (P.cellsOf et) (old++new)))) (max n (id+1))/\Rep w' Y' σ' (.os id 0 (old.length+new.length)) cv/\Off id σ σ':=by
 obtain⟨zv,hzr,hzrep⟩:=FW hz;have hinf:P.info? et≠none:=by rw[hi];simp
 let wd:World:={ w with drawn:=w.drawn+1 };obtain⟨cap,U⟩:∃ cap,cap=(Question.appendCap (sl+yl) sc et).cut (w.tape w.drawn (Question.appendCap (sl+yl) sc et)):=⟨_,rfl⟩;have hge:sl+yl<=cap:=by rw[U];exact aaX _
 have Hd:=H.drawn (w.drawn+1)
 let rest:Array Value:=Builtin.zeroCells zv.cells (cap-(sl+yl))
 let arr:Array Value:=us.toArray++vs.toArray++rest
 have hzsz:zv.cells.size=P.cellsOf et:=by
  have:=(hzrep w Y iU).length;rw[Array.length_toList] at this;omega
 have harr:arr.size=cap*P.cellsOf et:=by
  simp only[arr,rest,Builtin.zeroCells,Array.size_append,List.size_toArray,hold.1,I.1,Array.size_map,Array.size_range,hzsz];rw[<- Nat.add_mul,<- Nat.add_mul]
  congr 1;omega
 obtain⟨Y2,σ2,H2,g,hoff⟩:=SW.XQ (a:=a) (m:=cap) (arr:=arr) (rows:=old++new) Hd hid et hpos ⟨by rw[List.length_append];omega,by rw[U];exact aaW _ hbig⟩ harr (by
  intro w' Y' hk hb;refine hrows w' Y' _ (λp v hp=>hk p v (hp.drawn _)) (λi v hv=>?_);rw[cell_of_block hb]
  have hlt:i<(us++vs).length:=by
   by_cases hh:i<(us++vs).length
   exact hh
   rw[List.getElem?_eq_none (Nat.le_of_not_lt hh)] at hv;cases hv
  simp only[arr,Nat.zero_add];rw[Array.getElem?_append_left (by simpa using hlt)];rw[<- hv];simp)
 rw[List.length_append] at g;refine⟨_,_,Y2,σ2,?_,H2,g,hoff⟩
 have c1:¬ (((sl+yl:Nat):Int) > IntKind.i64.max/\(False\/inf.bytes=0)):=by
  have:IntKind.i64.max=9223372036854775807:=by decide
  rw[this];omega
 have c2:¬ (Builtin.nextslicecap (sl+yl) sc*inf.bytes > 2 ^ 48):=by
  have:=Nat.mul_le_mul_right inf.bytes (aaV J);omega
 have r1:=Az (P:=P) (w:=wd) (size:=P.cellsOf et) (n:=sl) (x:=x) (len:=sl) (cap:=sc) hold.1 hold.2;have r2:=Az (P:=P) (w:=wd) (size:=P.cellsOf et) (n:=yl) (x:=y) (len:=yl) (cap:=yc) I.1 I.2
 have ask:∀ k,(askRoom k).run P wd=.ok () wd:=by
  intro k;unfold askRoom;split<;>simp[mark,Sem.run]
 have ch:(choose (Question.appendCap (sl+yl) sc et)).run P w=.ok cap wd:=by
  rw[U];simp[choose,Sem.run,Question.forced,wd]
 simp only[Builtin.append_,List.getElem?_toArray,List.getElem?_cons_zero,List.getElem?_cons_succ,Sem.run_bind,lh hu,lh hu2,Result.andThen,run_sizeOf hinf,Sem.run_pure];simp only[Bool.false_eq_true,if_false,Builtin.lenOf,Sem.run_bind,Sem.run_pure,Result.andThen];rw[if_neg J];simp only[Sem.run_bind,EP hi,Result.andThen];rw[if_neg c1];simp only[Sem.run_bind,EP hi,Result.andThen];rw[if_neg c2];simp only[Sem.run_bind,ch,EP hi,Result.andThen,ask,r1,Bool.not_false,if_true,r2,hzr,newRow,newObj,Sem.run_pure];simp only[Sem.run];rw[<- hsl,<- hyl];rfl
theorem JE {t u:TypeId}{ts:List TypeId}{et:TypeId}{x y:Option Addr}{sl sc yl yc:Nat}{ty:TypeId}{vs:List Value}{g:TypeId}
  (hu:P.underlying t=some (.slice et)) (J:P.underlying u=some (.slice g)) (hinf:P.info? et≠none)
  (U:vs.length=yl*P.cellsOf et/\(vs=[]\/∃ b o,y=some ⟨b,o,none⟩/\∀ i v,vs[i]?=some v->w.cell? ⟨b,o+i,none⟩=some v))
  (T:sl+yl<=sc) {w' : World} (I:∀ b o,x=some ⟨b,o,none⟩->(storeCells ⟨b,o+sl*P.cellsOf et,none⟩ vs).run P w=.ok () w') (C:x=none->w'=w) (hx:∀ a,x=some a->a.spot=none) :
  (Builtin.append_ (t::u::ts).toArray ty #[.slice x sl sc,.slice y yl yc]).run P w=.ok (.slice x (sl+yl) sc) w':=by
 have r2:=Az (P:=P) (w:=w) (size:=P.cellsOf et) (n:=yl) (x:=y) (len:=yl) (cap:=yc) U.1 U.2;simp only[Builtin.append_,List.getElem?_toArray,List.getElem?_cons_zero,List.getElem?_cons_succ,Sem.run_bind,lh hu,lh J,Result.andThen,run_sizeOf hinf,Sem.run_pure];simp only[Bool.false_eq_true,if_false,Builtin.lenOf,Sem.run_bind,Sem.run_pure,Result.andThen];rw[if_pos T];simp only[Sem.run_bind,Bool.not_false,if_true,r2,Result.andThen]
 cases x with
 | none=>simp only[Sem.run_pure];rw[C rfl]
 | some a=>
  obtain⟨b,o,sp⟩:=a;have:=hx _ rfl;simp only at this;subst this;simp only[Sem.run_bind,addr_add];have:=I b o rfl;simp only[this,Result.andThen,Sem.run_pure]
end
end Go.Pv
