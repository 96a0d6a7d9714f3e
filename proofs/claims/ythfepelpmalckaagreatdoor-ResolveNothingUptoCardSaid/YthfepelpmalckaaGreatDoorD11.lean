import Derived.RangeFuncRecord
import Derived.LoopN
import Derived.Scope
import Derived.Test.YthfepelpmalckaaGreatDoorD10
set_option linter.all false
namespace Go.Pv
open Go
section
variable {P:Program} {T:Tab} (hT:TabOK P T) (hW:PWf P) (hnar:T.nar=0) (hgl:∀ g,T.gl g=none) {call:CallV} (hcall:CallOK P T call)
theorem finF_inv {r:Rs} {R:List Nat} {tm:Tr PV} {n:Nat} {st:Sb} {nx:Nat} {dst:Option Nat} {E:EV} {tc:Tc} (h:finF r R tm n st nx dst=some (E,tc)) :
  ∃ v δ,r=some (v,δ)∧E=⟨putT1 tm n dst v,n,applB δ st,nx+1⟩∧tc=(R,keysR δ,keysR δ)∧∀ b∈keysR δ,b=nx∨getB st b ≠ none:=by
 unfold finF at h
 split at h
 ·rename_i v δ
  split at h
  ·rename_i hc
   simp only [Option.some.injEq,Prod.mk.injEq] at h
   obtain ⟨rfl,rfl⟩:=h
   refine ⟨v,δ,rfl,rfl,rfl,fun b hb=>?_⟩
   have hc:Bool.rec (motive:=fun _=>Bool) (Option.rec (motive:=fun _=>Bool) false (fun _=>true) (getB st b)) true (Nat.beq b nx)=true:=allR_spec hc b hb
   cases hn:Nat.beq b nx with
   | true=>exact .inl (Nat.eq_of_beq_eq_true hn)
   | false=>rw [hn] at hc; exact .inr (isSome_rec.1 hc)
  ·cases h
 ·cases h
theorem gdV_semGF (P:Program) {all:Array Oper} {o:Oper} {tm:Tr PV} {er:List PV} {g:Bool} (htm:∀ i,getP tm i=getL er i) (h:gdV all.toList o.guard tm=some g):SemGF T all o er g:=by
 intro C ps Y σ a w st n hl H
 have h2:∃ tm' : Tr PV,(∀ i,getP tm' i=getL ps i)∧gdV all.toList o.guard tm'=some g:=by
  let mk:List PV→Tr PV:=fun l=>argT l 0 Tr.e
  have hmk:∀ (l:List PV) (k:Nat) (t:Tr PV) (i:Nat),getP (argT l k t) i=if k≤i∧i<k+l.length then getL l (i - k) else getP t i:=by
   intro l
   induction l with
   | nil=>intro k t i; rw [if_neg (by simp)]; rfl
   | cons x l ih =>
    intro k t i
    have e:argT (x::l) k t=argT l (k+1) (setP x k t):=rfl
    rw [e,ih,getP_setP]
    by_cases h1:i=k
    ·subst h1
     rw [if_neg (by omega),if_pos rfl,if_pos (by simp),Nat.sub_self]; rfl
    ·by_cases h2:k+1≤i∧i<k+1+l.length
     ·rw [if_pos h2,if_pos (by simp; omega)]
      obtain ⟨j,hj⟩:∃ j,i - k=j+1:=⟨i - k - 1,by omega⟩
      rw [hj,show i - (k+1)=j by omega]; rfl
     ·rw [if_neg h2,if_neg h1,if_neg (by simp; omega)]
  have hps:∀ i,getP (mk ps) i=getL ps i:=fun i=>by
   show getP (argT ps 0 Tr.e) i=_
   rw [hmk]
   by_cases h:i<ps.length
   ·rw [if_pos (by omega),Nat.sub_zero]
   ·rw [if_neg (by omega),getL_ge (by omega)]; rfl
  refine ⟨mk ps,hps,?_⟩
  cases hg:o.guard with
  | none=>rw [hg] at h; exact h
  | some p =>
   obtain ⟨j,want⟩:=p
   rw [hg] at h
   have h:Option.rec (motive:=fun _=>Option Bool) none (fun o=>Option.rec (motive:=fun _=>Option Bool) none (fun d=>gdK (getP tm d) want) o.dst) (nthO all.toList j)=some g:=h
   show Option.rec (motive:=fun _=>Option Bool) none (fun o=>Option.rec (motive:=fun _=>Option Bool) none (fun d=>gdK (getP (mk ps) d) want) o.dst) (nthO all.toList j)=some g
   cases hj:nthO all.toList j with
   | none=>rw [hj] at h; cases h
   | some oj =>
    rw [hj] at h
    have h:Option.rec (motive:=fun _=>Option Bool) none (fun d=>gdK (getP tm d) want) oj.dst=some g:=h
    show Option.rec (motive:=fun _=>Option Bool) none (fun d=>gdK (getP (mk ps) d) want) oj.dst=some g
    cases hd:oj.dst with
    | none=>rw [hd] at h; cases h
    | some d =>
     rw [hd] at h
     have h:gdK (getP tm d) want=some g:=h
     show gdK (getP (mk ps) d) want=some g
     rw [hps,hl d ?_,← htm]
     ·exact h
     ·unfold Oper.looksAt
      refine List.mem_append_right _ ?_
      rw [nthO_eq,Array.getElem?_toList] at hj
      simp [hg,hj,hd]
 obtain ⟨tm',h3,h4⟩:=h2
 exact gdV_sound P h3 h4 H
include hT hW hnar hgl hcall in
theorem opsF_chain {all:Array Oper}:∀ (l:List Oper) (V V' : EV) (tr:List Tc) (p:List PV) (st:St),(∀ i,getP V.tm i=getL p i)→V.n=p.length→(∀ b,lkS st b=getB V.st b)→GT V.st V.nx→opsF T.ti call all.toList l V=some (V',tr) →
  ∃ rs f stf,ChF P T all l rs p st V.nx f stf V'.nx∧(∀ i,getP V'.tm i=getL f i)∧V'.n=f.length∧(∀ b,lkS stf b=getB V'.st b)∧GT V'.st V'.nx∧(∀ (i:Nat) (r:Rec),rs[i]?=some r→∃ tc,tr[i]?=some tc∧TcOK r tc)
 | [],V,V',tr,p,st,htm,hn,hst,hnn,h=>by
  have h:some (V,([]:List Tc))=some (V',tr):=h
  cases h
  exact ⟨[],p,st,⟨rfl,rfl,rfl⟩,htm,hn,hst,hnn,fun i r hr=>by simp at hr⟩
 | o::l,⟨tm,n,t,nx⟩,V',tr,p,st,htm,hn,hst,hnn,h=>by
  have htm:∀ i,getP tm i=getL p i:=htm
  have hn:n=p.length:=hn
  have hst:∀ b,lkS st b=getB t b:=hst
  have hnn:GT t nx:=hnn
  have h:Option.rec (motive:=fun _=>Option (EV × List Tc)) none
   (fun g=>Bool.rec (motive:=fun _=>Option (EV × List Tc)) (consF ([],[],[]) (opsF T.ti call all.toList l ⟨putT1 tm n o.dst PV.undef,n,t,nx⟩)) (Option.rec (motive:=fun _=>Option (EV × List Tc)) none (fun p=>Prod.rec (motive:=fun _=>Option (EV × List Tc)) (fun E' tc=>consF tc (opsF T.ti call all.toList l E')) p) (stepF T.ti call o tm n t nx)) g) (gdV all.toList o.guard tm)=some (V',tr):=h
  have consF_inv:∀ {tc:Tc} {r:Option (EV × List Tc)},consF tc r=some (V',tr)→∃ tr',r=some (V',tr')∧tr=tc::tr':=by
   intro tc r hh
   unfold consF at hh
   split at hh
   ·cases hh; exact ⟨_,rfl,rfl⟩
   ·cases hh
  cases hg:gdV all.toList o.guard tm with
  | none=>rw [hg] at h; cases h
  | some g =>
   rw [hg] at h
   have hgd:=gdV_semGF (T:=T) P htm hg
   have cont:∀ (V1:EV) (tc:Tc) (r:Rec) (m:Nat),StepFO P T all o r p st nx m→TcOK r tc→V1.tm=putT1 tm n o.dst r.v→V1.n=n→V1.nx=nx+m→(∀ b,lkS (applyD r.δ st) b=getB V1.st b)→GT V1.st V1.nx→consF tc (opsF T.ti call all.toList l V1)=some (V',tr) →
     ∃ rs f stf,ChF P T all (o::l) rs p st nx f stf V'.nx∧(∀ i,getP V'.tm i=getL f i)∧V'.n=f.length∧(∀ b,lkS stf b=getB V'.st b)∧GT V'.st V'.nx∧(∀ (i:Nat) (r:Rec),rs[i]?=some r→∃ tc,tr[i]?=some tc∧TcOK r tc):=by
    intro V1 tc r m hS hTc e1 e2 e3 e4 e5 hh
    obtain ⟨tr',hh2,rfl⟩:=consF_inv hh
    obtain ⟨rs,f,stf,hc,h1,h2,h3,h4,h5⟩:=opsF_chain l V1 V' tr' (putT p o.dst r.v) (applyD r.δ st) (by rw [e1]; exact putT1_get htm hn _ _) (by rw [e2,putT_length]; exact hn) e4 e5 hh2
    rw [e3] at hc
    refine ⟨r::rs,f,stf,⟨m,hS,hc⟩,h1,h2,h3,h4,fun i r' hr=>?_⟩
    cases i with
    | zero=>simp at hr; subst hr; exact ⟨tc,rfl,hTc⟩
    | succ i=>exact h5 i r' (by simpa using hr)
   cases g with
   | false =>
    refine cont ⟨putT1 tm n o.dst PV.undef,n,t,nx⟩ ([],[],[]) ⟨p,p,noLk,.undef,[],nx,false,false,false⟩ 0 ⟨rfl,hgd,fun e=>by (cases e),fun _=>⟨rfl,rfl⟩,fun b x e=>by (cases e),fun b e=>absurd rfl e,fun b sz rows e=>by (cases e)⟩ ⟨fun b e=>absurd rfl e,fun b e=>absurd rfl e,fun b e=>by (cases e)⟩ rfl rfl rfl (fun b=>hst b) hnn h
   | true =>
    have h:Option.rec (motive:=fun _=>Option (EV × List Tc)) none (fun p=>Prod.rec (motive:=fun _=>Option (EV × List Tc)) (fun E' tc=>consF tc (opsF T.ti call all.toList l E')) p) (stepF T.ti call o tm n t nx)=some (V',tr):=h
    cases hs:stepF T.ti call o tm n t nx with
    | none=>rw [hs] at h; cases h
    | some q =>
     obtain ⟨V1,tc⟩:=q
     rw [hs] at h
     have h:consF tc (opsF T.ti call all.toList l V1)=some (V',tr):=h
     unfold stepF at hs
     cases hc:isCall o.op with
     | none =>
      rw [hc] at hs
      have hs:finF (opV o.op T.ti (evV tm) (lk1 (rdO o.op (evV tm)) t) nx) (rdO o.op (evV tm)) tm n t nx o.dst=some (V1,tc):=hs
      obtain ⟨v,δ,hv,rfl,rfl,hk⟩:=finF_inv hs
      refine cont _ _ ⟨p,p,lk1 (rdO o.op (evV tm)) t,v,sanD δ,nx,true,true,false⟩ 1 ⟨rfl,hgd,fun _=>opV_semF hT hW hnar hgl htm hv,fun e=>by (cases e),fun b x hx=>by rw [hst]; exact (lk1_some hx).2,fun b hb=>?_,fun b sz rows=>sanD_nn δ b sz rows⟩ ⟨fun b hb=>?_,fun b hb=>sanD_none δ b hb,fun b hb=>hb⟩ rfl rfl rfl (fun b=>?_) ⟨applB_nn δ t hnn.1,fun b hb=>?_⟩ h
      ·rcases hk b (sanD_none δ b hb) with rfl | h1
       ·exact .inl ⟨Nat.le_refl _,by omega⟩
       ·exact .inr (by rw [hst]; exact h1)
      ·cases hx:lk1 (rdO o.op (evV tm)) t b with
       | none=>exact absurd hx hb
       | some x=>exact (lk1_some hx).1
      ·show lkS (applyD (sanD δ) st) b=getB (applB δ t) b
       rw [lk_applyD,getB_applB,hst]
       cases lastD (sanD δ) b <;> rfl
      ·have hb:nx+1≤b:=hb
       show getB (applB δ t) b=none
       rw [applB_out δ t b fun hk2=>?_]
       ·exact hnn.2 b (by omega)
       ·rcases hk b hk2 with h1 | h1
        ·omega
        ·exact h1 (hnn.2 b (by omega))
     | some q =>
      obtain ⟨f,args⟩:=q
      rw [hc] at hs
      obtain ⟨ts,ho⟩:=isCall_inv hc
      simp only at hs
      split at hs
      ·rename_i k caps hf
       obtain ⟨v,m,δ,hsem,e1,e2,e3,e4,e5,e6,e7,e8,e9⟩:=callF_sem (all:=all) hgl hcall ho htm hf hnn hs
       exact cont V1 tc ⟨p,p,lk1 tc.1 t,v,δ,nx,true,true,false⟩ m ⟨rfl,hgd,fun _=>hsem,fun e=>by (cases e),fun b x hx=>by rw [hst]; exact (lk1_some hx).2,fun b hb=>(e6 b hb).imp (fun h=>h) (fun h=>by rw [hst]; exact h),e7⟩
        ⟨fun b hb=>by
         cases hx:lk1 tc.1 t b with
         | none=>exact absurd hx hb
         | some x=>exact (lk1_some hx).1,e8,e9⟩ e1 e2 e3 (e4 st hst) e5 h
      ·cases hs
end
end Go.Pv
namespace Go.Pv
open Go
section
variable {P:Program} {T:Tab}
theorem regF_sound (hT:TabOK P T) (hW:PWf P) (hnar:T.nar=0) (hgl:∀ g,T.gl g=none) {call:CallV} (hcall:CallOK P T call) {id:Nat} {l:Array Oper} {V V' : EV} {m:Nat} (h:regF l (opsF T.ti call l.toList l.toList V)=some (m,V')) {C:Ctx T} {D:List Nat} {a:Act} {w:World} (hA:EvOK C V D a w) {Q:Exit→Act→World→Prop} (hQ:∀ a' w',EvOK C V' D a' w'→Q .normal a' w') :
  m=0∧(Code.region id l true).wp P Q a w:=by
 obtain ⟨hnn,hdf,ps,st,Y,σ,htm,hn,hst,H,hD⟩:=hA
 unfold regF at h
 split at h
 ·rename_i E tr ho
  split at h
  ·rename_i hchk
   cases h
   obtain ⟨hc1,hc2⟩:=and_tt hchk
   refine ⟨rfl,?_⟩
   obtain ⟨rs,f,stf,hch,h1,h2,h3,h4,h5⟩:=opsF_chain hT hW hnar hgl hcall l.toList V V' tr ps st htm hn hst hnn ho
   obtain ⟨hl1,hl2,hl3⟩:=hch.len _ _
   have F:FactsF P T l rs ps st V.nx f V'.nx:=by
    refine ⟨hc1,by simpa using hl1,fun i o hi=>?_,hl2,fun t ht=>hch.keep _ _ ht,fun b hb=>by rw [hst]; exact hnn.2 b hb,fun i k ri rk hik hi hk hc=>?_⟩
    ·obtain ⟨r,q,m,a0,a1,a2,a3,a4,a6,a7,a8⟩:=hch.get _ _ i o (by simpa using hi)
     exact ⟨r,q,m,a0,a1,a2,a3,a4,fun t ht=>a6 t fun j oj hj hoj=>ht j oj hj (by simpa using hoj),fun t ht=>a7 t fun j oj hj hoj=>ht j oj hj (by simpa using hoj),fun d hd hlt hn=>a8 d hd hlt fun j oj hj hoj=>hn j oj hj (by simpa using hoj)⟩
    ·obtain ⟨x,hx,hx2⟩:=h5 i ri hi
     obtain ⟨y,hy,hy2⟩:=h5 k rk hk
     have:=chkT_spec tr 0 hc2 i k x y hik hx hy
     rw [Nat.zero_add,Nat.zero_add] at this
     exact pairT_spec hx2 hy2 this hc
   have hrep:∀ j,j<l.size→(Array.replicate l.size false).getD j true=false:=fun j hj=>by simp [hj]
   have hno:∀ j o,l[j]?=some o→(Array.replicate l.size false).getD j true=true→False:=by
    intro j o hj hlj
    have hlt:j<l.size:=by
     rcases Nat.lt_or_ge j l.size with h' | h'
     ·exact h'
     ·simp [Array.getElem?_eq_none h'] at hj
    rw [hrep j hlt] at hlj; cases hlj
   refine wp_region_any hW.mixed (draw_anyF (C:=C) (D:=D) H.fix.1 F (fun a' w' Y' σ' stx hd' H' hstx hD'=>hQ a' w' ⟨h4,hd',f,stx,Y',σ',h1,h2,fun b=>?_,H',hD'⟩) l.size _ a _ (by simp) ?_ ?_ ?_)
   ·rw [hstx b,← hch.fin]; exact h3 b
   ·simp
   ·intro j o hj hlj; exact (hno j o hj hlj).elim
   ·refine ⟨hdf,Y,σ,ps,st,(H.drawn _).mono hl3,rfl,?_,fun t _=>rfl,fun b=>?_,fun j hj _ b hb1 _=>?_,?_,fun b sz rows=>by rw [hst]; exact hnn.1 b sz rows⟩
    ·intro j o t hj hdst hlj; exact (hno j o hj hlj).elim
    ·rw [lst_none _ _ _ _ fun k r hr hDD=>?_]; · rfl
     rw [Nat.zero_add] at hDD
     obtain ⟨ok,hok⟩:=F.oper hr
     exact (hno k ok hok hDD).elim
    ·obtain ⟨_,_,_,_,_,_,_,h6,_⟩:=F.get j _ (Array.getElem?_eq_getElem hj)
     exact H.next b (Nat.le_trans h6 hb1)
    ·exact ⟨hD.1,fun r hr=>hD.2 r hr⟩
  ·cases h
 ·cases h
end
end Go.Pv
namespace Go.Pv
open Go
section
variable {P:Program} {T:Tab}
theorem SW.allocOwn {C:Ctx T} {w:World} {Y:Nat→Prop} {σ:Sg} {ps:List PV} {vs:List Value} {st:St} {n:Nat} (H:SW C w Y σ ps vs st n) (hn:NNs st) (o:Obj):SW C (w.alloc o) (fun k=>Y k∨k=w.heap.size) σ ps vs st n:=by
 have hold:∀ k,k<w.heap.size→(w.alloc o).heap[k]?=w.heap[k]?:=by
  intro k hk
  show (w.heap.push o)[k]?=_
  rw [Array.getElem?_push,if_neg (by omega)]
 have hsz:(w.alloc o).heap.size=w.heap.size+1:=by show (w.heap.push o).size=_; simp
 have K:Keep w (w.alloc o) Y (fun k=>Y k∨k=w.heap.size) σ σ:=⟨fun k hk _=>hold k hk,fun k hk h=>h.resolve_right (by omega),by omega,SgLe.refl _⟩
 refine ⟨RepL.keep _ K _ H.vals,⟨fun b x hx=>?_,H.store.inj⟩,H.next,fun k hk=>?_,fun k hk=>.inl (H.y0 k hk),H.c0,fun k hk hlt=>?_,?_,H.own,H.glob.keep K.none,H.fix,Nest.none hn⟩
 ·rcases H.store.blk b x hx with ⟨l,hl,hB⟩ | h
  ·have:=hB.lt
   exact .inl ⟨l,hl,BlkRep.keep K (hold _ this) ⟨fun h=>h.resolve_right (by omega),.inl⟩ hB⟩
  ·exact .inr h
 ·rcases hk with h | h
  ·have:=H.yold k h; omega
  ·omega
 ·rcases hk with h | h
  ·exact H.yshr k h hlt
  ·have:=H.chg.size; omega
 ·exact ⟨H.chg.os,H.chg.tape,H.chg.output,by have:=H.chg.size; omega,fun k hk hM=>by rw [hold k (Nat.lt_of_lt_of_le hk H.chg.size)]; exact H.chg.block k hk hM⟩
theorem SW.putOwn {C:Ctx T} {w:World} {Y:Nat→Prop} {σ:Sg} {ps:List PV} {vs:List Value} {st:St} {n:Nat} (H:SW C w Y σ ps vs st n) (hn:NNs st) {l:Nat} {o:Obj} (o' : Obj) (hy:Y l) (hB:C.w0.heap.size≤l) (ho:w.heap[l]?=some o) (hc:NoCells o):SW C (w.putObj l o') Y σ ps vs st n:=by
 have hoth:∀ k,k ≠ l→(w.putObj l o').heap[k]?=w.heap[k]?:=fun k hk=>World.putObj_heap_other hk
 have hsz:(w.putObj l o').heap.size=w.heap.size:=by simp
 have K:Keep w (w.putObj l o') Y Y σ σ:=⟨fun k _ hk=>hoth k fun e=>hk (e ▸ hy),fun _ _ h=>h,by omega,SgLe.refl _⟩
 refine ⟨RepL.keep _ K _ H.vals,⟨fun b x hx=>?_,H.store.inj⟩,H.next,fun k hk=>by rw [hsz]; exact H.yold k hk,H.y0,H.c0,H.yshr,?_,H.own,H.glob.keep K.none,H.fix,Nest.none hn⟩
 ·rcases H.store.blk b x hx with ⟨l2,hl,hBl⟩ | h
  ·refine .inl ⟨l2,hl,BlkRep.keep K (hoth _ fun e=>?_) Iff.rfl hBl⟩
   rcases InSt.cells H.store (k:=l2.cb) ⟨b,x,l2,hx,hl,rfl⟩ with ⟨arr,ty,h1⟩ | ⟨es,ck,h1⟩
   ·rw [e,ho] at h1; cases h1; exact hc.1 arr ty rfl
   ·rw [e,ho] at h1; cases h1; exact hc.2 es ck rfl
  ·exact .inr h
 ·exact ⟨H.chg.os,H.chg.tape,H.chg.output,by rw [hsz]; exact H.chg.size,fun k hk hM=>by rw [hoth k (by omega)]; exact H.chg.block k hk hM⟩
def exitOf:Nat→Exit
 | 0=>.normal
 | 1=>.ret
 | n+2=>.exit n
def TrV (P:Program) (T:Tab) (c:Code) (V:EV) (m:Nat) (V' : EV):Prop:=∀ (C:Ctx T) (D:List Nat) a w,EvOK C V D a w→c.wp P (fun e a' w'=>e=exitOf m∧∃ D',EvOK C V' D' a' w') a w
theorem bol_eval (hgl:∀ g,T.gl g=none) {c:Operand} {V:EV} {C:Ctx T} {D:List Nat} {a:Act} {w:World} (hA:EvOK C V D a w) {b:Bool} (h:evV V.tm c=.bool b):a.eval c=.bool b:=by
 obtain ⟨_,_,ps,st,Y,σ,htm,_,_,H,_⟩:=hA
 have:=ev_rep H c
 rw [← evV_eq hgl htm,h] at this
 exact rep_bool this
theorem range_sound (hgl:∀ g,T.gl g=none) {call:CallV} (hcall:CallOK P T call) {g:Operand} {ps:Array Tmp} {assign body:Code} {V V' : EV} {m:Nat} (h:rangeV call g V=some (m,V')):TrV P T (.rangeFunc g ps assign body) V m V':=by
 obtain ⟨tm,n,t,nx⟩:=V
 have h:Option.rec (motive:=fun _=>Oc) none (fun p=>Prod.rec (motive:=fun _=>Oc) (fun _ q=>Prod.rec (motive:=fun _=>Oc) (fun st nx=>some (0,⟨tm,n,st,nx⟩)) q) p) (fnE (evV tm g) fun k caps=>call k (PV.top::caps) t nx)=some (m,V'):=h
 cases hr:fnE (evV tm g) fun k caps=>call k (PV.top::caps) t nx with
 | none=>rw [hr] at h; cases h
 | some q =>
  obtain ⟨v,t',n'⟩:=q
  rw [hr] at h
  cases h
  obtain ⟨k,caps,hf,hc⟩:=fnE_inv hr
  intro C D a w hA
  obtain ⟨hnn,hdf,pv,st,Y,σ,htm,hn,hst,H,hD⟩:=hA
  have hst:∀ b,lkS st b=getB t b:=hst
  have H:SW C w Y σ pv a.tmps.toList st nx:=H
  have hnn:GT t nx:=hnn
  have hNN:NNs st:=fun b sz rows=>by rw [hst]; exact hnn.1 b sz rows
  have hg:=ev_rep H g
  rw [← evV_eq hgl htm,hf] at hg
  unfold Rep at hg
  obtain ⟨cs,eg,hcs⟩:=hg
  refine wpIn_wide.1 (wpIn_rangeFunc (F:=Fence.wide) (n:=1) fun fn _=>?_)
  let rc:Loop:={ state:=.ready,pending:=none,fn,tmps:=a.tmps,params:=ps,assign,body,defers:=w.heap.size }
  let w1:=(w.alloc (.deferred (some []))).alloc (.loop rc)
  have hD1:w1.heap[w.heap.size]?=some (.deferred (some [])):=by
   show ((w.heap.push _).push _)[w.heap.size]?=_
   rw [Array.getElem?_push,if_neg (by simp),Array.getElem?_push,if_pos rfl]
  have hL1:w1.heap[w.heap.size+1]?=some (.loop rc):=by
   show ((w.heap.push _).push _)[w.heap.size+1]?=_
   rw [Array.getElem?_push,if_pos (by simp)]
  have hold:∀ k,k<w.heap.size→w1.heap[k]?=w.heap[k]?:=fun k hk=>by
   show ((w.heap.push _).push _)[k]?=_
   rw [Array.getElem?_push,if_neg (by simp; omega),Array.getElem?_push,if_neg (by omega)]
  have H0:=H.allocOwn hNN (.deferred (some []))
  have H1:=H0.allocOwn hNN (.loop rc)
  have hsz:(w.alloc (.deferred (some []))).heap.size=w.heap.size+1:=by simp
  rw [hsz] at H1
  obtain ⟨hG,hF⟩:=hcall _ _ _ _ _ _ _ hc hnn
  have harg:RepL w1 (fun k=>(Y k∨k=w.heap.size)∨k=w.heap.size+1) σ (.top::caps) (.func (.yield (w.heap.size+1)) #[] #[]::cs):=by
   unfold RepL
   refine ⟨_,cs,rfl,by simp [Rep],RepL.keep caps (σ:=σ) ⟨fun k hk _=>hold k hk,fun k hk h=>?_,?_,SgLe.refl _⟩ cs hcs⟩
   ·rcases h with (h | h) | h
    ·exact h
    ·omega
    ·omega
   ·show w.heap.size≤((w.heap.push _).push _).size; simp; omega
  obtain ⟨hent,hcalls⟩:=hF w1 _ σ _ st hst H1.glob H1.yold H1.next harg H1.store
  refine ⟨w.heap.size+1,[{ target:=.collected w.heap.size,args:=#[] }],w1,{ target:=.fn (.func k) cs.toArray,args:=#[.func (.yield (w.heap.size+1)) #[] #[]] },w1,k,
   #[.func (.yield (w.heap.size+1)) #[] #[]] ++ cs.toArray,w1,run_enterLoop_outer _ _ _ _ _,?_,fun _ _=>trivial,?_,fun e=>by (simp [Fence.wide] at e),?_⟩
  ·simp only [resolve,eg]
   simp [go_sem]
  ·have e : #[.func (.yield (w.heap.size+1)) #[] #[]] ++ cs.toArray=(Value.func (.yield (w.heap.size+1)) #[] #[]::cs).toArray:=by apply Array.ext'; simp
   rw [e,← hent]
   simp [invoke,go_sem]
  ·rw [callsIn_wide]
   have e : #[.func (.yield (w.heap.size+1)) #[] #[]] ++ cs.toArray=(Value.func (.yield (w.heap.size+1)) #[] #[]::cs).toArray:=by apply Array.ext'; simp
   rw [e]
   refine Calls.mono hcalls fun ed w3 hh=>?_
   obtain ⟨cv,Y3,σ3,st3,rfl,hst3,H3⟩:=hh
   obtain ⟨K,H4⟩:=H1.compose (T':=T.at nx) rfl rfl H3
   obtain ⟨g1,g2⟩:=H3.kept H1.store hD1 ⟨fun _ _ e=>(by cases e),fun _ _ e=>(by cases e)⟩
   obtain ⟨g3,g4⟩:=H3.kept H1.store hL1 ⟨fun _ _ e=>(by cases e),fun _ _ e=>(by cases e)⟩
   have hNN3:NNs st3:=fun b sz rows=>by rw [hst3]; exact hG.1 b sz rows
   have H5:=(H4.vals' (RepL.keep _ K _ H1.vals)).putOwn hNN3 (.loop { rc with state:=.exhausted }) (g4 (.inr rfl)) (by have:=H.chg.size; omega) g3 ⟨fun _ _ e=>(by cases e),fun _ _ e=>(by cases e)⟩
   refine ⟨none,_,run_endLoop g3 (by simp [rc]),rfl,w.heap.size::D,hG,?_,pv,st3,Y3,σ3,htm,hn,hst3,H5,?_⟩
   ·simp only [hdf,marks,List.map_cons]; rfl
   ·have hne:∀ r∈D,r<w.heap.size:=fun r hr=>(Array.getElem?_eq_some_iff.1 (hD.2 r hr).2.2).1
    refine ⟨List.nodup_cons.2 ⟨fun hm=>by have:=hne _ hm; omega,hD.1⟩,fun r hr=>?_⟩
    rcases List.mem_cons.1 hr with rfl | hr
    ·exact ⟨H.chg.size,g2 (.inl (.inr rfl)),by rw [World.putObj_heap_other (by omega)]; exact g1⟩
    ·obtain ⟨d0,d1,d2⟩:=hD.2 r hr
     have hlt:=hne r hr
     obtain ⟨g5,g6⟩:=H3.kept H1.store (k:=r) (by rw [hold r hlt]; exact d2) ⟨fun _ _ e=>(by cases e),fun _ _ e=>(by cases e)⟩
     exact ⟨d0,g6 (.inl (.inl d1)),by rw [World.putObj_heap_other (by omega)]; exact g5⟩
end
end Go.Pv
namespace Go.Pv
open Go
section
variable {P:Program} {T:Tab} (hT:TabOK P T) (hW:PWf P) (hnar:T.nar=0) (hgl:∀ g,T.gl g=none) {call:CallV} (hcall:CallOK P T call)
theorem iter_rounds {f:EV→Oc} {c:Code} (hf:∀ V m V',f V=some (m,V')→TrV P T c V m V') {C:Ctx T}:∀ (n:Nat) (V:EV) (m:Nat) (V' : EV),iterV f n V=some (m,V')→∀ D a w,EvOK C V D a w→Code.rounds P c (fun e a' w'=>e=exitOf m∧∃ D',EvOK C V' D' a' w') n a w
 | 0,V,m,V',h,D,a,w,hA=>by cases h
 | n+1,V,m,V',h,D,a,w,hA=>by
  have h:Option.rec (motive:=fun _=>Oc) none (fun p=>Prod.rec (motive:=fun _=>Oc) (fun k E'=>Nat.rec (motive:=fun _=>Oc) (iterV f n E') (fun m _=>some (Nat.succ m,E')) k) p) (f V)=some (m,V'):=h
  cases hv:f V with
  | none=>rw [hv] at h; cases h
  | some q =>
   obtain ⟨k,V1⟩:=q
   rw [hv] at h
   rw [rounds_succ]
   refine wp_mono (hf V k V1 hv C D a w hA) fun e a' w' hq=>?_
   obtain ⟨rfl,D',hA'⟩:=hq
   cases k with
   | zero=>exact iter_rounds hf n V1 m V' h D' a' w' hA'
   | succ k =>
    have h:some (Nat.succ k,V1)=some (m,V'):=h
    cases h
    cases k with
    | zero=>exact ⟨rfl,D',hA'⟩
    | succ k=>exact ⟨rfl,D',hA'⟩
include hT hW hnar hgl hcall in
theorem codeV_sound:∀ (c:Code) (V:EV) (m:Nat) (V' : EV),codeV T.ti call c V=some (m,V')→TrV P T c V m V':=by
 intro c
 induction c with
 | skip=>intro V m V' h C D a w hA; cases h; exact wp_skip ⟨rfl,D,hA⟩
 | region id l dr =>
  intro V m V' h C D a w hA
  cases dr with
  | false =>
   have h:regV (opsV T.ti call l.toList l.toList V)=some (m,V'):=h
   cases ho:opsV T.ti call l.toList l.toList V with
   | none=>rw [ho] at h; cases h
   | some V1 =>
    rw [ho] at h
    cases h
    exact wp_region_list (opsV_sound hT hW hnar hgl hcall l.toList V V' ho a w hA fun a' w' hA'=>⟨rfl,D,hA'⟩)
  | true =>
   have h:regF l (opsF T.ti call l.toList l.toList V)=some (m,V'):=h
   obtain ⟨rfl,h1⟩:=regF_sound (id:=id) hT hW hnar hgl hcall h hA (Q:=fun e a' w'=>e=exitOf m∧∃ D',EvOK C V' D' a' w') fun a' w' hA'=>by
    refine ⟨?_,D,hA'⟩
    have:m=0:=by
     unfold regF at h
     split at h
     ·split at h
      ·cases h; rfl
      ·cases h
     ·cases h
    subst this; rfl
   exact h1
 | seq x y ihx ihy =>
  intro V m V' h C D a w hA
  have h:seqV (codeV T.ti call x V) (codeV T.ti call y)=some (m,V'):=h
  cases hx:codeV T.ti call x V with
  | none=>rw [hx] at h; cases h
  | some q =>
   obtain ⟨k,V1⟩:=q
   rw [hx] at h
   refine wp_seq (wp_mono (ihx V k V1 hx C D a w hA) fun e a' w' hq=>?_)
   obtain ⟨rfl,D',hA'⟩:=hq
   cases k with
   | zero=>exact ihy V1 m V' h C D' a' w' hA'
   | succ k =>
    have h:some (Nat.succ k,V1)=some (m,V'):=h
    cases h
    cases k with
    | zero=>exact ⟨rfl,D',hA'⟩
    | succ k=>exact ⟨rfl,D',hA'⟩
 | cond c x y ihx ihy =>
  intro V m V' h C D a w hA
  obtain ⟨tm,n,st,nx⟩:=V
  have h:bolE (evV tm c) (codeV T.ti call x ⟨tm,n,st,nx⟩) (codeV T.ti call y ⟨tm,n,st,nx⟩)=some (m,V'):=h
  rcases bolE_inv h with ⟨e,h⟩ | ⟨e,h⟩
  ·exact wp_cond_true (bol_eval hgl hA e) (ihx _ m V' h C D a w hA)
  ·exact wp_cond_false (bol_eval hgl hA e) (ihy _ m V' h C D a w hA)
 | block id b ih =>
  intro V m V' h C D a w hA
  have h:blkV id (codeV T.ti call b V)=some (m,V'):=h
  cases hb:codeV T.ti call b V with
  | none=>rw [hb] at h; cases h
  | some q =>
   obtain ⟨k,V1⟩:=q
   rw [hb] at h
   refine wp_block (wp_mono (ih V k V1 hb C D a w hA) fun e a' w' hq=>?_)
   obtain ⟨rfl,D',hA'⟩:=hq
   cases k with
   | zero=>cases h; exact ⟨rfl,D',hA'⟩
   | succ k =>
    cases k with
    | zero=>cases h; exact ⟨rfl,D',hA'⟩
    | succ k =>
     have h:Bool.rec (motive:=fun _=>Oc) (some (Nat.succ (Nat.succ k),V1)) (some (0,V1)) (Nat.beq k id)=some (m,V'):=h
     show Exit.inBlock id _ (.exit k) a' w'
     simp only [Exit.inBlock]
     by_cases hk:k=id
     ·subst hk
      rw [if_pos rfl]
      rw [Nat.beq_refl] at h
      cases h; exact ⟨rfl,D',hA'⟩
     ·rw [if_neg hk]
      rw [beqN hk] at h
      cases h; exact ⟨rfl,D',hA'⟩
 | loop b ih =>
  intro V m V' h C D a w hA
  have h:iterV (codeV T.ti call b) 100000 V=some (m,V'):=h
  exact wp_loop_rounds 100000 (iter_rounds ih 100000 V m V' h D a w hA)
 | rangeFunc g ps x y ihx ihy=>intro V m V' h; exact range_sound hgl hcall h
 | exit n=>intro V m V' h C D a w hA; cases h; exact wp_exit ⟨rfl,D,hA⟩
 | scope b ih =>
  intro V m V' h C D a w hA
  refine wp_scope_straight (wp_mono (ih V m V' h C D a w hA) fun e a' w' hq=>?_)
  obtain ⟨rfl,D',hA'⟩:=hq
  cases m with
  | zero=>exact ⟨rfl,D',hA'⟩
  | succ m=>cases m with
   | zero=>exact ⟨rfl,D',hA'⟩
   | succ m=>exact ⟨rfl,D',hA'⟩
 | label l=>intro V m V' h C D a w hA; cases h; exact wp_label ⟨rfl,D,hA⟩
 | ret=>intro V m V' h C D a w hA; cases h; exact wp_ret ⟨rfl,D,hA⟩
 | _=>intro V m V' h; cases h
theorem resV_sound {V:EV} {ps:List PV} {st:St} (htm:∀ i,getP V.tm i=getL ps i) (hst:∀ b,lkS st b=getB V.st b) :
  ∀ (rs:List ResultVar) (acc:List PV) (v:PV) (t:Sb) (n:Nat),resV T.ti V rs acc=some (v,t,n)→∃ us,retVs T ⟨ps,st,V.nx⟩ rs=some us∧v=retOne (acc ++ us)∧t=V.st∧n=V.nx
 | [],acc,v,t,n,h=>by cases h; exact ⟨[],rfl,by simp,rfl,rfl⟩
 | r::rs,acc,v,t,n,h=>by
  have h:resK T.ti V r (fun v=>resV T.ti V rs (appR acc [v]))=some (v,t,n):=h
  have fin:∀ u,retV T ⟨ps,st,V.nx⟩ r=some u→resV T.ti V rs (appR acc [u])=some (v,t,n)→∃ us,retVs T ⟨ps,st,V.nx⟩ (r::rs)=some us∧v=retOne (acc ++ us)∧t=V.st∧n=V.nx:=by
   intro u hu hr
   obtain ⟨us,h1,h2,h3,h4⟩:=resV_sound htm hst rs _ v t n hr
   refine ⟨u::us,?_,?_,h3,h4⟩
   ·unfold retVs; rw [hu]; simp only [h1]
   ·rw [h2,appR_eq]; simp
  cases r with
  | tmp i =>
   have h:resV T.ti V rs (appR acc [getP V.tm i])=some (v,t,n):=h
   exact fin (getP V.tm i) (by simp only [retV]; rw [htm]) h
  | cell i ty =>
   have h:Option.rec (motive:=fun _=>Option (PV × Sb × Nat)) none (fun p=>resV T.ti V rs (appR acc [p.1])) (adrK (getP V.tm i) (fun b c=>v_load (T.ti ty) (PV.lv b c) (getB V.st)) (fun _ _ _=>none) (fun _=>none))=some (v,t,n):=h
   cases hx:adrK (getP V.tm i) (fun b c=>v_load (T.ti ty) (PV.lv b c) (getB V.st)) (fun _ _ _=>none) (fun _=>none) with
   | none=>rw [hx] at h; cases h
   | some q =>
    obtain ⟨u,δ⟩:=q
    rw [hx] at h
    rcases adrK_inv hx with ⟨b,c,e,hx⟩ | ⟨b,j,c,e,hx⟩ | ⟨cs,e,hx⟩
    ·obtain ⟨agg,size,zero,plain,kind,et,hx⟩:=okK_inv hx
     have hx:varK (getB V.st b) (fun _ row=>load1 agg size row c)=some (u,δ):=hx
     obtain ⟨ro,row,eb,hx⟩:=varK_inv hx
     refine fin u ?_ h
     rw [htm] at e
     simp only [retV,e,et,hst,eb]
     cases agg with
     | false =>
      obtain ⟨_,h2,rfl⟩:=nthK_inv hx
      simp only [cond_false,lenL_eq]
      rw [show Nat.blt c row.length=true by rw [Nat.blt_eq]; exact h2]; rfl
     | true =>
      obtain ⟨h1,h2⟩:=ifK_inv hx
      simp only [takeR_eq,dropR_eq,Option.some.injEq,Prod.mk.injEq] at h2
      obtain ⟨rfl,rfl⟩:=h2
      simp only [lenR_eq] at h1
      simp only [cond_true,lenL_eq,takeL_eq,dropL_eq]
      rw [show Nat.ble (c+size) row.length=true from h1]; rfl
    ·cases hx
    ·cases hx
end
end Go.Pv
namespace Go.Pv
open Go
section
variable {P:Program} {T:Tab}
def InvV (V:EV):Prop:=GT V.st V.nx∧∃ p:List PV,(∀ i,getP V.tm i=getL p i)∧V.n=p.length
variable (hT:TabOK P T) (hW:PWf P) (hnar:T.nar=0) (hgl:∀ g,T.gl g=none) {call:CallV} (hcall:CallOK P T call)
include hcall in
theorem stepV_inv {o:Oper} {tm:Tr PV} {n:Nat} {st:Sb} {nx:Nat} {V' : EV} (h:stepV T.ti call o tm n st nx=some V') (hI:InvV ⟨tm,n,st,nx⟩):InvV V':=by
 obtain ⟨hG,p,htm,hn⟩:=hI
 have hG:GT st nx:=hG
 unfold stepV at h
 cases hc:isCall o.op with
 | none =>
  rw [hc] at h
  obtain ⟨v,δ,hv,rfl,hkeys⟩:=fin_inv h
  refine ⟨⟨applB_nn δ st hG.1,fun b hb=>?_⟩,_,putT1_get htm hn _ _,by rw [putT_length]; exact hn⟩
  have hb:nextD δ nx≤b:=hb
  cases δ with
  | nil=>exact hG.2 b hb
  | cons y δ =>
   show getB (applB (y::δ) st) b=none
   rw [applB_out _ _ b fun hk=>by have:=hkeys b hk; simp only [nextD] at hb; omega]
   exact hG.2 b (by simp only [nextD] at hb; omega)
 | some q =>
  obtain ⟨f,args⟩:=q
  rw [hc] at h
  obtain ⟨v,t',n',hr,rfl⟩:=fin2_inv h
  obtain ⟨k,caps,hf,hr⟩:=fnE_inv hr
  exact ⟨(hcall _ _ _ _ _ _ _ hr hG).1,_,putT1_get htm hn _ _,by rw [putT_length]; exact hn⟩
include hcall in
theorem opsV_inv {all:List Oper}:∀ (l:List Oper) (V V' : EV),opsV T.ti call all l V=some V'→InvV V→InvV V'
 | [],V,V',h,hI=>by cases h; exact hI
 | o::l,⟨tm,n,st,nx⟩,V',h,hI=>by
  have h:Option.rec (motive:=fun _=>Oe) none
   (fun g=>Bool.rec (motive:=fun _=>Oe) (opsV T.ti call all l ⟨putT1 tm n o.dst PV.undef,n,st,nx⟩) (Option.rec (motive:=fun _=>Oe) none (fun E'=>opsV T.ti call all l E') (stepV T.ti call o tm n st nx)) g) (gdV all o.guard tm)=some V':=h
  cases hg:gdV all o.guard tm with
  | none=>rw [hg] at h; cases h
  | some g =>
   rw [hg] at h
   cases g with
   | true =>
    have h:Option.rec (motive:=fun _=>Oe) none (fun E'=>opsV T.ti call all l E') (stepV T.ti call o tm n st nx)=some V':=h
    cases hs:stepV T.ti call o tm n st nx with
    | none=>rw [hs] at h; cases h
    | some V1 =>
     rw [hs] at h
     exact opsV_inv l V1 V' h (stepV_inv hcall hs hI)
   | false =>
    have h:opsV T.ti call all l ⟨putT1 tm n o.dst PV.undef,n,st,nx⟩=some V':=h
    obtain ⟨hG,p,htm,hn⟩:=hI
    exact opsV_inv l _ V' h ⟨hG,_,putT1_get htm hn _ _,by rw [putT_length]; exact hn⟩
theorem iter_inv {f:EV→Oc} (hf:∀ V m V',f V=some (m,V')→InvV V→InvV V'):∀ (n:Nat) (V:EV) (m:Nat) (V' : EV),iterV f n V=some (m,V')→InvV V→InvV V'
 | 0,V,m,V',h,_=>by cases h
 | n+1,V,m,V',h,hI=>by
  have h:Option.rec (motive:=fun _=>Oc) none (fun p=>Prod.rec (motive:=fun _=>Oc) (fun k E'=>Nat.rec (motive:=fun _=>Oc) (iterV f n E') (fun m _=>some (Nat.succ m,E')) k) p) (f V)=some (m,V'):=h
  cases hv:f V with
  | none=>rw [hv] at h; cases h
  | some q =>
   obtain ⟨k,V1⟩:=q
   rw [hv] at h
   cases k with
   | zero=>exact iter_inv hf n V1 m V' h (hf V 0 V1 hv hI)
   | succ k =>
    have h:some (Nat.succ k,V1)=some (m,V'):=h
    cases h
    exact hf V _ V' hv hI
include hT hW hnar hgl hcall in
theorem codeV_inv:∀ (c:Code) (V:EV) (m:Nat) (V' : EV),codeV T.ti call c V=some (m,V')→InvV V→InvV V':=by
 intro c
 induction c with
 | skip=>intro V m V' h hI; cases h; exact hI
 | region id l dr =>
  intro V m V' h hI
  cases dr with
  | false =>
   have h:regV (opsV T.ti call l.toList l.toList V)=some (m,V'):=h
   cases ho:opsV T.ti call l.toList l.toList V with
   | none=>rw [ho] at h; cases h
   | some V1=>rw [ho] at h; cases h; exact opsV_inv hcall l.toList V V' ho hI
  | true =>
   have h:regF l (opsF T.ti call l.toList l.toList V)=some (m,V'):=h
   unfold regF at h
   split at h
   ·rename_i E tr ho
    split at h
    ·cases h
     obtain ⟨hG,p,htm,hn⟩:=hI
     obtain ⟨st,hst⟩:=stOf V.st
     obtain ⟨rs,f,stf,hch,h1,h2,h3,h4,h5⟩:=opsF_chain hT hW hnar hgl hcall l.toList V V' tr p st htm hn hst hG ho
     exact ⟨h4,f,h1,h2⟩
    ·cases h
   ·cases h
 | seq x y ihx ihy =>
  intro V m V' h hI
  have h:seqV (codeV T.ti call x V) (codeV T.ti call y)=some (m,V'):=h
  cases hx:codeV T.ti call x V with
  | none=>rw [hx] at h; cases h
  | some q =>
   obtain ⟨k,V1⟩:=q
   rw [hx] at h
   have:=ihx V k V1 hx hI
   cases k with
   | zero=>exact ihy V1 m V' h this
   | succ k =>
    have h:some (Nat.succ k,V1)=some (m,V'):=h
    cases h; exact this
 | cond c x y ihx ihy =>
  intro V m V' h hI
  obtain ⟨tm,n,st,nx⟩:=V
  have h:bolE (evV tm c) (codeV T.ti call x ⟨tm,n,st,nx⟩) (codeV T.ti call y ⟨tm,n,st,nx⟩)=some (m,V'):=h
  rcases bolE_inv h with ⟨e,h⟩ | ⟨e,h⟩
  ·exact ihx _ m V' h hI
  ·exact ihy _ m V' h hI
 | block id b ih =>
  intro V m V' h hI
  have h:blkV id (codeV T.ti call b V)=some (m,V'):=h
  cases hb:codeV T.ti call b V with
  | none=>rw [hb] at h; cases h
  | some q =>
   obtain ⟨k,V1⟩:=q
   rw [hb] at h
   have:=ih V k V1 hb hI
   cases k with
   | zero=>cases h; exact this
   | succ k =>
    cases k with
    | zero=>cases h; exact this
    | succ k =>
     have h:Bool.rec (motive:=fun _=>Oc) (some (Nat.succ (Nat.succ k),V1)) (some (0,V1)) (Nat.beq k id)=some (m,V'):=h
     cases hk:Nat.beq k id with
     | true=>rw [hk] at h; cases h; exact this
     | false=>rw [hk] at h; cases h; exact this
 | loop b ih=>intro V m V' h hI; exact iter_inv ih 100000 V m V' h hI
 | rangeFunc g ps x y ihx ihy =>
  intro V m V' h hI
  obtain ⟨tm,n,t,nx⟩:=V
  have h:Option.rec (motive:=fun _=>Oc) none (fun p=>Prod.rec (motive:=fun _=>Oc) (fun _ q=>Prod.rec (motive:=fun _=>Oc) (fun st nx=>some (0,⟨tm,n,st,nx⟩)) q) p) (fnE (evV tm g) fun k caps=>call k (PV.top::caps) t nx)=some (m,V'):=h
  cases hr:fnE (evV tm g) fun k caps=>call k (PV.top::caps) t nx with
  | none=>rw [hr] at h; cases h
  | some q =>
   obtain ⟨v,t',n'⟩:=q
   rw [hr] at h
   cases h
   obtain ⟨k,caps,hf,hc⟩:=fnE_inv hr
   exact ⟨(hcall _ _ _ _ _ _ _ hc hI.1).1,hI.2⟩
 | exit n=>intro V m V' h hI; cases h; exact hI
 | scope b ih=>intro V m V' h hI; exact ih V m V' h hI
 | label l=>intro V m V' h hI; cases h; exact hI
 | ret=>intro V m V' h hI; cases h; exact hI
 | _=>intro V m V' h; cases h
theorem argT_get:∀ (l:List PV) (k:Nat) (t:Tr PV) (i:Nat),getP (argT l k t) i=if k≤i∧i<k+l.length then getL l (i - k) else getP t i
 | [],k,t,i=>by rw [if_neg (by simp)]; rfl
 | x::l,k,t,i=>by
  have e:argT (x::l) k t=argT l (k+1) (setP x k t):=rfl
  rw [e,argT_get l,getP_setP]
  by_cases h1:i=k
  ·subst h1
   rw [if_neg (by omega),if_pos rfl,if_pos (by simp),Nat.sub_self]; rfl
  ·by_cases h2:k+1≤i∧i<k+1+l.length
   ·rw [if_pos h2,if_pos (by simp; omega)]
    obtain ⟨j,hj⟩:∃ j,i - k=j+1:=⟨i - k - 1,by omega⟩
    rw [hj,show i - (k+1)=j by omega]; rfl
   ·rw [if_neg h2,if_neg h1,if_neg (by simp; omega)]
theorem undefs_get:∀ (m i:Nat),getL (undefs m) i=.undef
 | 0,i=>rfl
 | m+1,0=>rfl
 | m+1,i+1=>undefs_get m i
theorem undefs_len:∀ m:Nat,(undefs m).length=m
 | 0=>rfl
 | m+1=>by simp [undefs,undefs_len m]
theorem getL_app (l m:List PV) (i:Nat):getL (l ++ m) i=if i<l.length then getL l i else getL m (i - l.length):=by
 rw [getL_eq,getL_eq,getL_eq,List.getD_eq_getElem?_getD,List.getD_eq_getElem?_getD,List.getD_eq_getElem?_getD]
 by_cases h:i<l.length
 ·rw [if_pos h,List.getElem?_append_left h]
 ·rw [if_neg h,List.getElem?_append_right (by omega)]
theorem leaves_marks {fn:Func} {R:Ending→World→Prop} {C:Ctx T} {Y:Nat→Prop} {σ:Sg} {ps:List PV} {tmps:Array Value} {st:St} {n:Nat} (hn:NNs st):∀ (D:List Nat) (w:World),SW C w Y σ ps tmps.toList st n→DefOK C.w0.heap.size D w Y →
  (∀ w',SW C w' Y σ ps tmps.toList st n→∃ v,(results fn tmps).run P w'=.ok v w'∧R (.returned v) w')→LeavesInM Fence.wide 1 P fn tmps R (marks D) .returning w
 | [],w,H,_,hR=>by
  obtain ⟨v,h1,h2⟩:=hR w H
  exact ⟨v,h1,h2⟩
 | r::D,w,H,hD,hR=>by
  obtain ⟨hnd,hall⟩:=hD
  obtain ⟨h0,h1,h2⟩:=hall r (by simp)
  have hnm:=(List.nodup_cons.1 hnd).1
  have H':=H.putOwn hn (.deferred none) h1 h0 h2 ⟨fun _ _ e=>(by cases e),fun _ _ e=>(by cases e)⟩
  refine ⟨by simp,.inl ⟨r,w.putObj r (.deferred none),rfl,run_takeDeferred h2,?_⟩⟩
  exact leaves_marks hn D _ H' ⟨(List.nodup_cons.1 hnd).2,fun q hq=>by
   obtain ⟨g0,g1,g2⟩:=hall q (by simp [hq])
   refine ⟨g0,g1,?_⟩
   have hne:q ≠ r:=by rintro rfl; exact hnm hq
   rw [World.putObj_heap_other hne]; exact g2⟩ hR
include hT hW hnar hgl hcall in
theorem fnV_of_code {k:Nat} {fn:Func} {c:Code} (hf:P.funcs[k]?=some fn) (hb:fn.body=some c) (henter:∀ args w,(callFunc k args).run P w=.ok (.enter k args) w) {args:List PV} {t:Sb} {nx m:Nat} {E:EV}
  (hc:codeV T.ti call c ⟨argT args 0 Tr.e,Nat.max (lenR args) fn.ntmps,t,nx⟩=some (m,E)) (hm:m≤1) {v:PV} {t' : Sb} {n' : Nat} (hr:resV T.ti E fn.results.toList []=some (v,t',n')):FnV P T k args t nx v t' n':=by
 intro hG
 have hps:∀ i,getP (argT args 0 Tr.e) i=getL (args ++ undefs (fn.ntmps - args.length)) i:=fun i=>by
  rw [argT_get,getL_app]
  by_cases h:i<args.length
  ·rw [if_pos (by omega),if_pos h]; rfl
  ·rw [if_neg (by omega),if_neg h,undefs_get]; rfl
 have hlen:Nat.max (lenR args) fn.ntmps=(args ++ undefs (fn.ntmps - args.length)).length:=by
  rw [List.length_append,undefs_len,lenR_eq]
  show max args.length fn.ntmps=_
  omega
 have hI:=codeV_inv hT hW hnar hgl hcall c _ m E hc ⟨hG,_,hps,hlen⟩
 have hE:t'=E.st∧n'=E.nx:=by
  obtain ⟨_,p,htm,_⟩:=hI
  obtain ⟨st,hst⟩:=stOf E.st
  obtain ⟨us,_,_,h3,h4⟩:=resV_sound htm hst _ _ v t' n' hr
  exact ⟨h3,h4⟩
 refine ⟨by rw [hE.1,hE.2]; exact hI.1,fun w Y σ cargs st hst hGl hY hn hargs hstR=>⟨henter _ _,?_⟩⟩
 have hcl:=hargs.length
 let C:Ctx (T.at nx):=ctxS (T.at nx) w Y σ st
 have H0:SW C w Y σ (args ++ undefs (fn.ntmps - args.length)) ((cargs.toArray ++ Array.replicate (fn.ntmps - cargs.toArray.size) Go.undef).toList) st nx:=by
  refine ⟨?_,hstR,hn,hY,fun _ h=>h.1,fun k h=>⟨hY k h.1,h.2⟩,fun k h _=>?_,ChgM.refl _ w,fun b x l h1 h2=>.inr ⟨b,x,l,h1,h2,rfl⟩,hGl,⟨Nat.le_refl _,fun _ _=>rfl⟩,Nest.none fun b sz rows=>by rw [hst]; exact hG.1 b sz rows⟩
  ·have:(cargs.toArray ++ Array.replicate (fn.ntmps - cargs.toArray.size) Go.undef).toList=cargs ++ List.replicate (fn.ntmps - args.length) Go.undef:=by simp [hcl]
   rw [this,← appL_eq]
   exact RepL.app _ _ _ _ hargs (undefs_rep _)
  ·by_cases hi:InSt σ st k
   ·exact .inr ⟨h,hi⟩
   ·exact .inl ⟨h,hi⟩
 have hA:EvOK C ⟨argT args 0 Tr.e,Nat.max (lenR args) fn.ntmps,t,nx⟩ [] { tmps:=cargs.toArray ++ Array.replicate (fn.ntmps - cargs.toArray.size) Go.undef,defers:=[] } w :=
  ⟨hG,rfl,_,st,Y,σ,hps,hlen,hst,H0,List.nodup_nil,fun r hr=>by cases hr⟩
 have hwp:=codeV_sound (T:=T.at nx) hT hW hnar hgl hcall c _ m E hc C [] _ w hA
 refine callsIn_wide.1 (callsIn_of_wp_marks (F:=Fence.wide) (n:=1) hf hb trivial (wpIn_wide.2 (wp_mono hwp ?_)))
 intro e a w' hq
 obtain ⟨rfl,D,hE'⟩:=hq
 have main:LeavesInM Fence.wide 1 P fn a.tmps (fun e w'=>∃ cv Y' σ' st',e=.returned cv∧(∀ b,lkS st' b=getB t' b)∧SW (ctxS (T.at nx) w Y σ st) w' Y' σ' [v] [cv] st' n') a.defers .returning w':=by
  obtain ⟨hG',hdf,ps,st1,Y1,σ1,htm,hn1,hst1,H1,hD⟩:=hE'
  rw [hdf]
  refine leaves_marks (T:=T.at nx) (fun b sz rows=>by rw [hst1]; exact hG'.1 b sz rows) D w' H1 hD fun w2 H2=>?_
  obtain ⟨us,h1,h2,h3,h4⟩:=resV_sound (T:=T) htm hst1 _ _ v t' n' hr
  rw [List.nil_append] at h2
  obtain ⟨cv,hrun,hrep⟩:=ret_sound (T:=T.at nx) (E:=⟨ps,st1,E.nx⟩) (fn:=fn) hT H2 (show retVs (T.at nx) ⟨ps,st1,E.nx⟩ fn.results.toList=some us from by
   rw [← h1]
   have:∀ rs,retVs (T.at nx) ⟨ps,st1,E.nx⟩ rs=retVs T ⟨ps,st1,E.nx⟩ rs:=by
    intro rs
    induction rs with
    | nil=>rfl
    | cons r rs ih =>
     unfold retVs
     rw [ih]
     have:retV (T.at nx) ⟨ps,st1,E.nx⟩ r=retV T ⟨ps,st1,E.nx⟩ r:=by cases r <;> rfl
     rw [this]
   exact this _)
  refine ⟨cv,hrun,cv,Y1,σ1,st1,rfl,by rw [h3]; exact hst1,?_⟩
  rw [h2,h4]
  exact H2.vals' (by unfold RepL; exact ⟨_,_,rfl,hrep,by unfold RepL; rfl⟩)
 have hm2:m=0∨m=1:=by omega
 rcases hm2 with rfl | rfl
 ·exact main
 ·exact main
end
end Go.Pv
namespace Go.Pv
open Go
section
variable {P:Program} {T:Tab}
def CloneOK (P:Program) (T:Tab) (k:Nat):Prop:=∀ x t n,((∃ sz f,x=.sl sz [] f)∨∃ b r,x=.os b r 0)→FnV P T k [x] t n (.sl 0 [] true) t n
theorem wpl_cons {all:Array Oper} {Q:Exit→Act→World→Prop} {o:Oper} {l:List Oper} {a:Act} {w w' : World} {v:Value} (hg:o.guard=none) (hr:(execOp a.eval o).run P w=.ok (.value v) w') (h:wpList P all Q l (a.put o.dst v) w'):wpList P all Q (o::l) a w:=by
 unfold wpList
 rw [if_pos (by simp [Region.wanted,hg])]
 refine .inl ?_
 unfold Oper.wp
 rw [hr]; exact h
theorem append_nil_run {o:Oper} {a:Act} {w:World} {s x:Operand} {t u:TypeId} {sx y:Option Addr} {yc:Nat} {et eu:TypeId} (ho:o.op=.call { callee:=.builtin .append,args:=#[s,x],argTypes:=#[t,u] }) (hu:P.underlying t=some (.slice et)) (hu2:P.underlying u=some (.slice eu)) (hinf:P.info? et ≠ none)
  (hs:a.eval s=.slice sx 0 0) (hx:a.eval x=.slice y 0 yc):(execOp a.eval o).run P w=.ok (.value (.slice sx 0 0)) w:=by
 have r2:=firstCells_run (P:=P) (w:=w) (size:=P.cellsOf et) (n:=0) (x:=y) (len:=0) (cap:=yc) (vs:=[]) (by simp) (.inl rfl)
 have key:∀ ty cs,(builtin .append #[t,u] ty cs #[Value.slice sx 0 0,Value.slice y 0 yc]).run P w=.ok (.value (.slice sx 0 0)) w:=by
  intro ty cs
  simp only [builtin,Builtin.append_,List.getElem?_toArray,List.getElem?_cons_zero,List.getElem?_cons_succ,Sem.run_bind,run_und hu,run_und hu2,Result.andThen,run_sizeOf hinf,Sem.run_pure]
  simp only [Bool.false_eq_true,if_false,Builtin.lenOf,Sem.run_bind,Sem.run_pure,Result.andThen]
  rw [if_pos (Nat.le_refl _)]
  simp only [Sem.run_bind,Bool.not_false,if_true,r2,Result.andThen]
  cases sx <;> simp [storeCells]
 simp only [execOp,ho,resolve,Sem.run_bind,Sem.run_pure,Result.andThen,invoke]
 simp only [List.map_toArray,List.map_cons,List.map_nil,hs,hx]
 exact key _ _
theorem clone_sound (hT:TabOK P T) (hW:PWf P) {k:Nat} {fn:Func} (hf:P.funcs[k]?=some fn) {t u ut:TypeId} {r0 r1 r2 r3:Nat} {o0 o1 o2 o3 o4 o5 o6 o7:Oper}
  (hb:fn.body=some (.seq (.region r0 #[o0] false) (.seq (.seq (.region r1 #[o1,o2] false) (.cond (.tmp 4) (.seq (.region r2 #[o3] false) .ret) .skip)) (.seq (.region r3 #[o4,o5,o6,o7] false) .ret))))
  (h0:o0.op=.assign (.const (.slice none 0 0))∧o0.dst=some 2∧o0.guard=none) (h1:o1.op=.move (.tmp 0)∧o1.dst=some 3∧o1.guard=none) (h2:o2.op=.binOp .eql t (.tmp 3) (.const (.slice none 0 0)) ut∧o2.dst=some 4∧o2.guard=none)
  (h3:o3.op=.assign (.const (.slice none 0 0))∧o3.dst=some 2∧o3.guard=none) (h4:o4.op=.buildSlice t 0 #[]∧o4.dst=some 5∧o4.guard=none) (h5:o5.op=.move (.tmp 0)∧o5.dst=some 6∧o5.guard=none)
  (h6:o6.op=.call { callee:=.builtin .append,args:=#[.tmp 5,.tmp 6],argTypes:=#[t,u] }∧o6.dst=some 7∧o6.guard=none) (h7:o7.op=.assign (.tmp 7)∧o7.dst=some 2∧o7.guard=none)
  (hnt:fn.ntmps=8) (hres:fn.results=#[.tmp 2]) (henter:∀ args w,(callFunc k args).run P w=.ok (.enter k args) w)
  {agg:Bool} {size:Nat} {zero:Option (List PV)} {plain:Option (List Nat)} {esz bytes:Nat} {z:List PV} (et:T.ti t=⟨true,agg,size,zero,plain,.slice esz bytes (some z)⟩) (hp:isPos esz=true) (hz:z.length=esz)
  {agg' : Bool} {size' : Nat} {zero' : Option (List PV)} {plain' : Option (List Nat)} {esz' bytes' : Nat} {z' : Option (List PV)} (eu:T.ti u=⟨true,agg',size',zero',plain',.slice esz' bytes' z'⟩):CloneOK P T k:=by
 intro x tr n hx hG
 refine ⟨hG,fun w Y σ cargs st hst hGl hY hn hargs hstR=>⟨henter _ _,?_⟩⟩
 unfold RepL at hargs
 obtain ⟨xv,vs',rfl,hxr,hv'⟩:=hargs
 unfold RepL at hv'
 subst hv'
 obtain ⟨el,hu,he,hbe,hzz⟩:=tab_slice hT et
 obtain ⟨el',hu',_⟩:=tab_slice hT eu
 have hxv:∃ ad cap,xv=.slice ad 0 cap:=by
  rcases hx with ⟨sz,f,rfl⟩ | ⟨b,r,rfl⟩
  ·unfold Rep at hxr
   obtain ⟨ad,len,cap,e,hl,_⟩:=hxr
   have hl:len=0:=by simpa using hl
   subst hl; exact ⟨ad,cap,e⟩
  ·unfold Rep at hxr
   rcases hxr with ⟨l,cap,_,e,_⟩ | ⟨_,ad,e⟩
   ·exact ⟨_,cap,e⟩
   ·exact ⟨ad,0,e⟩
 obtain ⟨ad,cap,rfl⟩:=hxv
 let C:Ctx (T.at n):=ctxS (T.at n) w Y σ st
 have H0:SW C w Y σ [] [] st n:=by
  refine ⟨by unfold RepL; rfl,hstR,hn,hY,fun _ h=>h.1,fun k h=>⟨hY k h.1,h.2⟩,fun k h _=>?_,ChgM.refl _ w,fun b x l h1 h2=>.inr ⟨b,x,l,h1,h2,rfl⟩,hGl,⟨Nat.le_refl _,fun _ _=>rfl⟩,Nest.none fun b sz rows=>by rw [hst]; exact hG.1 b sz rows⟩
  by_cases hi:InSt σ st k
  ·exact .inr ⟨h,hi⟩
  ·exact .inl ⟨h,hi⟩
 have nilrep:∀ (w:World) (Y:Nat→Prop) (σ:Sg) (sx:Option Addr),Rep w Y σ (.sl 0 [] true) (.slice sx 0 0):=fun w Y σ sx=>by
  unfold Rep; exact ⟨sx,0,0,rfl,rfl,Nat.le_refl _,fun _=>rfl,.inl rfl⟩
 refine calls_of_wp hf hb ?_
 have hnt' : fn.ntmps - ([Value.slice ad 0 cap].toArray).size=7:=by rw [hnt]; rfl
 rw [hnt']
 have htm:([Value.slice ad 0 cap].toArray ++ Array.replicate 7 Go.undef)=#[Value.slice ad 0 cap,Go.undef,Go.undef,Go.undef,Go.undef,Go.undef,Go.undef,Go.undef]:=rfl
 rw [htm]
 have ret:∀ (tm:Array Value) (sx:Option Addr) (w' : World),tm.getD 2 Go.undef=.slice sx 0 0→SW C w' Y σ [] [] st n→bodyPost P fn (fun e w'=>∃ cv Y' σ' st',e=.returned cv∧(∀ b,lkS st' b=getB tr b)∧SW (ctxS (T.at n) w Y σ st) w' Y' σ' [.sl 0 [] true] [cv] st' n) .ret { tmps:=tm,defers:=[] } w':=by
  intro tm sx w' h2 H'
  refine ⟨rfl,.slice sx 0 0,?_,_,Y,σ,st,rfl,hst,H'.vals' (by unfold RepL; exact ⟨_,_,rfl,nilrep _ _ _ _,by unfold RepL; rfl⟩)⟩
  rw [results_eq,hres]
  simp [retS,h2]
 refine wp_seq (wp_region_list (wpl_cons h0.2.2 (v:=.slice none 0 0) (w':=w) (by simp [execOp,h0.1,Act.eval]) ?_))
 simp only [h0.2.1,Act.put]
 show Exit.then _ _ .normal _ _
 refine wp_seq (wp_seq (wp_region_list (wpl_cons h1.2.2 (v:=.slice ad 0 cap) (w':=w) (by simp [execOp,h1.1,Act.eval]) ?_)))
 simp only [h1.2.1,Act.put]
 obtain ⟨e1,_⟩:=nilslice_run (P:=P) (w:=w) (x:=ad) (len:=0) (cap:=cap) hu
 refine wpl_cons h2.2.2 (v:=.bool ad.isNone) (w':=w) ?_ ?_
 ·have n1:∀ cs,Value.slice ad 0 cap ≠ .agg cs:=by intro cs e; cases e
  have n2:Value.slice ad 0 cap ≠ .nilIface:=by intro e; cases e
  simp [execOp,h2.1,Act.eval,guard_scalar n1 n2,e1]
 simp only [h2.2.1,Act.put]
 show Exit.then _ _ .normal _ _
 cases hn1:ad.isNone with
 | true =>
  refine wp_cond_true (by simp [Act.eval]) (wp_seq (wp_region_list (wpl_cons h3.2.2 (v:=.slice none 0 0) (w':=w) (by simp [execOp,h3.1,Act.eval]) ?_)))
  simp only [h3.2.1,Act.put]
  show Exit.then _ _ .normal _ _
  exact wp_ret (ret _ none w (by simp) H0)
 | false =>
  refine wp_cond_false (by simp [Act.eval]) (wp_skip ?_)
  show Code.wp P _ _ _ _
  have hinf:P.info? el ≠ none:=info_of_pos (by rw [← he]; exact hp)
  have hzl:z.length=P.cellsOf el:=by rw [hz]; exact he
  have hpe:isPos (P.cellsOf el)=true:=by rw [← he]; exact hp
  refine wp_seq (wp_region_list ?_)
  let a3:Act:={ tmps:=#[Value.slice ad 0 cap,Go.undef,.slice none 0 0,.slice ad 0 cap,.bool false,Go.undef,Go.undef,Go.undef],defers:=[] }
  have H1:SW C w Y σ [.top,.top,.top,.top,.top,.top,.top,.top] a3.tmps.toList st n:=H0.vals' (by
   show RepL w Y σ _ [_,_,_,_,_,_,_,_]
   simp only [RepL,Rep]
   exact ⟨_,_,rfl,trivial,_,_,rfl,trivial,_,_,rfl,trivial,_,_,rfl,trivial,_,_,rfl,trivial,_,_,rfl,trivial,_,_,rfl,trivial,_,_,rfl,trivial,rfl⟩)
  obtain ⟨vcs,hrep,hvl,hrun⟩:=buildSlice_core (T:=T.at n) (a:=a3) hT H1 h4.1 hu hzz hpe hzl (by omega) (show noTop (evP (T.at n) _ ([]:List (Nat × Operand)))=true from rfl) (cs:=[]) (by show fillV _ (repL 0 z) []=some []; rfl)
  obtain ⟨H2,_⟩:=H0.allocRo vcs el
  refine wpl_cons h4.2.2 hrun ?_
  simp only [h4.2.1,Act.put]
  refine wpl_cons h5.2.2 (v:=.slice ad 0 cap) (w':=w.alloc (.cells vcs el)) (by simp [execOp,h5.1,Act.eval,a3]) ?_
  simp only [h5.2.1,Act.put]
  refine wpl_cons h6.2.2 (v:=.slice (some ⟨w.heap.size,0,none⟩) 0 0) (w':=w.alloc (.cells vcs el)) (append_nil_run h6.1 hu hu' hinf (by simp [Act.eval,a3]) (y:=ad) (yc:=cap) (by simp [Act.eval,a3])) ?_
  simp only [h6.2.1,Act.put]
  refine wpl_cons h7.2.2 (v:=.slice (some ⟨w.heap.size,0,none⟩) 0 0) (w':=w.alloc (.cells vcs el)) (by simp [execOp,h7.1,Act.eval,a3]) ?_
  simp only [h7.2.1,Act.put]
  show Exit.then _ _ .normal _ _
  exact wp_ret (ret _ (some ⟨w.heap.size,0,none⟩) _ (by simp [a3]) H2)
theorem runV_sound (hT:TabOK P T) (hW:PWf P) (hnar:T.nar=0) (hgl:∀ g,T.gl g=none) {F:Nat→Option (Bool × Func)} (hF:∀ k cl fn,F k=some (cl,fn)→P.funcs[k]?=some fn∧(fn.body.isSome=true→∀ args w,(callFunc k args).run P w=.ok (.enter k args) w)∧(cl=true→CloneOK P T k)):∀ fuel,CallOK P T (runV T.ti F fuel):=by
 intro fuel
 induction fuel with
 | zero=>intro k args t n v t' n' h; cases h
 | succ fuel ih =>
  intro k args t n v t' n' h
  have h:Option.rec (motive:=fun _=>CallR) none (fun p=>Prod.rec (motive:=fun _=>CallR) (fun cl fn=>clnV cl args t n (Option.rec (motive:=fun _=>CallR) none
   (fun c=>Option.rec (motive:=fun _=>CallR) none (fun p=>Prod.rec (motive:=fun _=>CallR) (fun m E=>Bool.rec (motive:=fun _=>CallR) none (resV T.ti E fn.results.toList []) (Nat.ble m 1)) p)
    (codeV T.ti (runV T.ti F fuel) c ⟨argT args 0 Tr.e,Nat.max (lenR args) fn.ntmps,t,n⟩)) fn.body)) p) (F k)=some (v,t',n'):=h
  cases hk:F k with
  | none=>rw [hk] at h; cases h
  | some q =>
   obtain ⟨cl,fn⟩:=q
   rw [hk] at h
   obtain ⟨hf,hent,hcl⟩:=hF k cl fn hk
   have h:clnV cl args t n (Option.rec (motive:=fun _=>CallR) none
    (fun c=>Option.rec (motive:=fun _=>CallR) none (fun p=>Prod.rec (motive:=fun _=>CallR) (fun m E=>Bool.rec (motive:=fun _=>CallR) none (resV T.ti E fn.results.toList []) (Nat.ble m 1)) p)
     (codeV T.ti (runV T.ti F fuel) c ⟨argT args 0 Tr.e,Nat.max (lenR args) fn.ntmps,t,n⟩)) fn.body)=some (v,t',n'):=h
   have body:(Option.rec (motive:=fun _=>CallR) none
    (fun c=>Option.rec (motive:=fun _=>CallR) none (fun p=>Prod.rec (motive:=fun _=>CallR) (fun m E=>Bool.rec (motive:=fun _=>CallR) none (resV T.ti E fn.results.toList []) (Nat.ble m 1)) p)
     (codeV T.ti (runV T.ti F fuel) c ⟨argT args 0 Tr.e,Nat.max (lenR args) fn.ntmps,t,n⟩)) fn.body:CallR)=some (v,t',n')→FnV P T k args t n v t' n':=by
    intro h
    cases hb:fn.body with
    | none=>rw [hb] at h; cases h
    | some c =>
     rw [hb] at h
     have h:Option.rec (motive:=fun _=>CallR) none (fun p=>Prod.rec (motive:=fun _=>CallR) (fun m E=>Bool.rec (motive:=fun _=>CallR) none (resV T.ti E fn.results.toList []) (Nat.ble m 1)) p)
      (codeV T.ti (runV T.ti F fuel) c ⟨argT args 0 Tr.e,Nat.max (lenR args) fn.ntmps,t,n⟩)=some (v,t',n'):=h
     cases hc:codeV T.ti (runV T.ti F fuel) c ⟨argT args 0 Tr.e,Nat.max (lenR args) fn.ntmps,t,n⟩ with
     | none=>rw [hc] at h; cases h
     | some q =>
      obtain ⟨m,E⟩:=q
      rw [hc] at h
      have h:Bool.rec (motive:=fun _=>CallR) none (resV T.ti E fn.results.toList []) (Nat.ble m 1)=some (v,t',n'):=h
      cases hm:Nat.ble m 1 with
      | false=>rw [hm] at h; cases h
      | true =>
       rw [hm] at h
       exact fnV_of_code hT hW hnar hgl ih hf hb (hent (by rw [hb]; rfl)) hc (Nat.le_of_ble_eq_true hm) h
   cases cl with
   | false=>exact body h
   | true =>
    have hC:=hcl rfl
    unfold clnV at h
    simp only at h
    split at h
    ·cases h; exact hC _ _ _ (.inl ⟨_,_,rfl⟩)
    ·cases h; exact hC _ _ _ (.inr ⟨_,_,rfl⟩)
    ·exact body h
theorem lkP_eq:∀ (l:List Func) (k:Nat),lkP l k=l[k]?
 | [],k=>by simp; rfl
 | x::l,0=>rfl
 | x::l,k+1=>by show lkP l k=_; rw [lkP_eq l k]; simp
theorem enter_of {k : Nat} {fn : Func} (hf : P.funcs[k]? = some fn) (hn : (fn.name == "runtime.NumGoroutine") = false) (hb : fn.body.isSome = true) : ∀ args w, (callFunc k args).run P w = .ok (.enter k args) w := by
 intro args w
 have hn' : ¬ fn.name = "runtime.NumGoroutine" := by simpa using hn
 have hb' : ¬ fn.body=none:=by intro h; rw [h] at hb; cases hb
 simp [callFunc,hf,hn',hb']
theorem fnsV_ok {cl : List Nat} (hn : (P.funcs.toList.all fun f => !(f.name == "runtime.NumGoroutine")) = true) (hc : ∀ k ∈ cl, CloneOK P T k) : ∀ k c fn, fnsV P.funcs.toList cl k = some (c, fn) → P.funcs[k]? = some fn ∧ (fn.body.isSome = true → ∀ args w, (callFunc k args).run P w = .ok (.enter k args) w) ∧ (c = true → CloneOK P T k) := by
 intro k c fn h
 unfold fnsV at h
 rw [lkP_eq,Array.getElem?_toList] at h
 cases hk:P.funcs[k]? with
 | none=>rw [hk] at h; cases h
 | some f =>
  rw [hk] at h
  have h:some (hasR cl k,f)=some (c,fn):=h
  cases h
  refine ⟨rfl,fun hb=>enter_of hk ?_ hb,fun e=>hc k ((hasR_iff _ _).1 e)⟩
  have:=List.all_eq_true.1 hn fn (List.mem_of_getElem? (by rw [Array.getElem?_toList]; exact hk))
  simpa using this
theorem fn_of_run (hT:TabOK P T) (hW:PWf P) (hnar:T.nar=0) (hgl:∀ g,T.gl g=none) {F:Nat→Option (Bool × Func)} (hF:∀ k cl fn,F k=some (cl,fn)→P.funcs[k]?=some fn∧(fn.body.isSome=true→∀ args w,(callFunc k args).run P w=.ok (.enter k args) w)∧(cl=true→CloneOK P T k)) {fuel k:Nat}
  (h:okV (runV T.ti F fuel k [] Tr.e 0)=true):Fn P T.gl k [] (fun u=>u=.sb true):=by
 unfold okV at h
 split at h
 ·rename_i t' n' hr
  have hV:=runV_sound hT hW hnar hgl hF fuel _ _ _ _ _ _ _ hr
  obtain ⟨_,hV⟩:=hV ⟨fun b sz rows e=>by (cases e),fun b _=>rfl⟩
  intro w Y cargs hG hY hargs
  obtain ⟨h1,h2⟩:=hV w Y noSg cargs [] (fun b=>rfl) hG hY (fun b _=>rfl) hargs ⟨fun b x e=>by (cases e),fun b b' x x' l l' e=>by (cases e)⟩
  refine ⟨h1,Calls.mono h2 fun e w' hh=>?_⟩
  obtain ⟨cv,Y',σ',st',rfl,_,H'⟩:=hh
  have hv:=H'.vals
  unfold RepL at hv
  obtain ⟨c,cs,e,h3,h4⟩:=hv
  cases e
  have h3:=rep_bool h3
  subst h3
  exact ⟨_,_,rfl,rfl,by unfold Rep; rfl,H'.chg.chg fun k hk=>by
   obtain ⟨_,b,x,l,e,_⟩:=hk
   cases e⟩
 ·cases h
end
end Go.Pv
