import Derived.RangeFuncLeaves
import Derived.RangeFuncRecord
import Derived.LoopN
import Derived.Scope
import Derived.Test.YtlacmdnhabblcaaGreatX06
set_option linter.all false
namespace Go.Pv
open Go
section
variable {P:Program} {T:Tab} (hT:TabOK P T) (hW:PWf P) (hnar:T.nar=0) {C:Ctx T} {o:Oper} {a:Act} {w:World} {Y:Nat→Prop} {σ:Sg} {ps:List PV} {st:St} {n id:Nat} {lk:Nat→Option Blk}
 (H:SW C w Y σ ps a.tmps.toList st n) (hlk:∀ b x,lk b=some x→lkS st b=some x) (hid:σ id=none∧T.pas≤id) {ev:Operand→PV} {v:PV} {δ:Dl}
include H in
theorem op_nilos {op:BinOp} {t u:TypeId} {x y:Operand} (hT:TabOK P T) (ho:o.op=.binOp op t x y u) (hy:nilC y=true) {b r m sz bytes:Nat} {z:Option (List PV)} {agg:Bool} {size:Nat} {zero:Option (List PV)} {plain:Option (List Nat)} (et:T.ti t=⟨true,agg,size,zero,plain,.slice sz bytes z⟩)
  (hx:evL T ps x=.os b r (m+1)) (h:eqlR op false=some (v,δ)):Res P C o a w σ ps st n id (fun v' δ'=>v'=v∧δ'=δ):=by
 have hr:=ev_rep H x
 rw [hx] at hr
 have hy':=nilC_eq hy
 subst hy'
 obtain ⟨el,hu,_⟩:=tab_slice hT et
 unfold Rep at hr
 have main:∃ ad len cap,a.eval x=.slice (some ad) len cap:=by
  rcases hr with ⟨l,cap,_,e,_⟩ | ⟨e,_⟩
  ·exact ⟨_,_,_,e⟩
  ·cases e
 obtain ⟨ad,len,cap,ev⟩:=main
 have hev:a.eval (.const (.slice none 0 0))=.slice none 0 0:=rfl
 obtain ⟨r1,r2⟩:=nilslice_run (P:=P) (w:=w) (x:=some ad) (len:=len) (cap:=cap) hu
 have n1:∀ cs,a.eval x ≠ .agg cs:=by rw [ev]; intro cs e; cases e
 have n2:a.eval x ≠ .nilIface:=by rw [ev]; intro e; cases e
 have fin:∀ {v' : PV} {cv:Value},(binOp op t (a.eval x) (a.eval (.const (.slice none 0 0)))).run P w=.ok cv w→Rep w Y σ v' cv→v'=v∧[]=δ→Res P C o a w σ ps st n id (fun v' δ'=>v'=v∧δ'=δ):=by
  intro v' cv hr hv hK
  refine Res.quiet H (cv:=cv) ?_ hv hK
  simp [execOp,ho,guard_scalar n1 n2,hr]
 rcases eqlR_inv h with ⟨rfl,rfl,rfl⟩ | ⟨rfl,rfl,rfl⟩
 ·exact fin (by rw [ev,hev]; exact r1) (by simp [Rep]) ⟨rfl,rfl⟩
 ·exact fin (by rw [ev,hev]; exact r2) (by simp [Rep]) ⟨rfl,rfl⟩
include hT hW hnar H hlk hid in
theorem opV_res {er:List PV} (hev:∀ x,ev x=evL T er x) (hl:∀ x∈o.op.operands,evL T ps x=evL T er x) (h:opV o.op T.ti ev lk id=some (v,δ)):Res P C o a w σ ps st n id (fun v' δ'=>v'=v∧δ'=δ):=by
 have go:opE T (Sig.std P T) o.op er lk id (KS v δ)→Res P C o a w σ ps st n id (fun v' δ'=>v'=v∧δ'=δ):=fun h=>by
  rw [← opE_congr hl] at h
  obtain ⟨v',δ',cv,w',Y',σ',⟨hs,rfl⟩,hrun,H',hv,hoff⟩:=opE_res hT hW H hlk hid h
  exact ⟨v,δ',cv,w',Y',σ',⟨rfl,rfl⟩,hrun,H',hs _ _ _ _ hv,hoff⟩
 cases ho:o.op with
 | move x =>
  rw [ho] at h go
  have h:some (ev x,([]:Dl))=some (v,δ):=h
  cases h
  exact go (by simp only [opE]; rw [hev]; exact KS.refl _ _)
 | assign x =>
  rw [ho] at h go
  have h:some (ev x,([]:Dl))=some (v,δ):=h
  cases h
  exact go (by simp only [opE]; rw [hev]; exact KS.refl _ _)
 | pick c x y=>rw [ho] at h go; exact go (e_pick hev h)
 | alloc t=>rw [ho] at h go; exact go (e_alloc h)
 | box t x=>rw [ho] at h go; exact go (e_box hev h)
 | build t parts=>rw [ho] at h go; exact go (e_build hev h)
 | buildSlice t len parts=>rw [ho] at h go; exact go (e_buildSlice hev h)
 | load t x=>rw [ho] at h go; exact go (e_load hev h)
 | store t x y=>rw [ho] at h go; exact go (e_store hev h)
 | nilCheck x=>rw [ho] at h go; exact go (e_nilCheck hev h)
 | binOp op t x y u =>
  rw [ho] at h go
  have h:Bool.rec (motive:=fun _=>Rs) (binV (T.ti t) op (ev x) (ev y)) (nilV (T.ti t) op (ev x)) (nilC y)=some (v,δ):=h
  cases hn:nilC y with
  | false=>rw [hn] at h; exact go (e_binOp hev hn h)
  | true =>
   rw [hn] at h
   have h:nilV (T.ti t) op (ev x)=some (v,δ):=h
   obtain ⟨agg,size,zero,plain,kind,et,h1⟩:=okK_inv h
   obtain ⟨sz,bytes,z,ek,h2⟩:=sliK_inv h1
   subst ek
   rw [hev] at h2
   rcases slcK_inv h2 with ⟨sz',es,full,e,h3⟩ | ⟨b,r,m,e,h3⟩ | ⟨s,e,h3⟩
   ·cases es with
    | nil=>cases h3
    | cons _ _ =>
     refine go ?_
     simp only [opE,hn,et,e]
     intro b hb
     cases b with
     | true=>exact absurd (hb rfl) (by simp)
     | false =>
      unfold eqL
      rcases eqlR_inv (b:=false) h3 with ⟨rfl,rfl,rfl⟩ | ⟨rfl,rfl,rfl⟩
      ·simp only [isEql,cond_true]; exact KS.refl _ _
      ·simp only [isEql,isNeq,cond_true,cond_false]; exact KS.refl _ _
   ·cases m with
    | zero=>cases h3
    | succ m=>exact op_nilos H hT ho hn et (by rw [hl x (by rw [ho]; simp [Op.operands])]; exact e) h3
   ·cases h3
 | unOp op t x =>
  rw [ho] at h go
  cases op with
  | not=>exact go (e_not hev h)
  | neg=>exact go (e_neg hev h)
  | _=>cases h
 | convert s d x=>rw [ho] at h go; exact go (e_convert hev h)
 | makeFunc fn first cap=>rw [ho] at h go; exact go (e_makeFunc hev h)
 | makeSlice t x y=>rw [ho] at h go; exact go (e_makeSlice hev hnar h)
 | slice t x lo hi mx=>rw [ho] at h go; exact go (e_slice hev h)
 | fieldAddr t x f=>rw [ho] at h go; exact go (e_fieldAddr hev h)
 | field t x f=>rw [ho] at h go; exact go (e_field hev h)
 | indexAddr t x i=>rw [ho] at h go; exact go (e_indexAddr hev h)
 | index t x i=>rw [ho] at h go; exact go (e_index hev h)
 | extract t i=>rw [ho] at h go; exact go (e_extract hev h)
 | call c =>
  rw [ho] at h go
  obtain ⟨callee,args,ts⟩:=c
  cases callee with
  | builtin b=>exact go (e_callB hev h)
  | _=>cases h
 | _=>rw [ho] at h; cases h
end
abbrev Tab.at (T:Tab) (n:Nat):Tab:={ T with pas:=n }
def NN (t:Sb):Prop:=∀ b sz rows,getB t b ≠ some (.nar sz rows)
theorem SW.rebase0 {T:Tab} {C:Ctx T} {w:World} {Y:Nat→Prop} {σ:Sg} {ps:List PV} {vs:List Value} {st:St} {n:Nat} (H:SW C w Y σ ps vs st n) (hn:∀ b sz rows,lkS st b ≠ some (.nar sz rows)):SW (ctxS (T.at n) w Y σ st) w Y σ ps vs st n :=
 ⟨H.vals,H.store,H.next,H.yold,fun _ h=>h.1,fun k h=>⟨H.yold k h.1,h.2⟩,fun k h _=>by
  by_cases hi:InSt σ st k
  ·exact .inr ⟨h,hi⟩
  ·exact .inl ⟨h,hi⟩,ChgM.refl _ w,fun b x l h1 h2=>.inr ⟨b,x,l,h1,h2,rfl⟩,H.glob,⟨Nat.le_refl _,fun _ _=>rfl⟩,Nest.none hn⟩
theorem SW.compose {T T' : Tab} {C:Ctx T} {w w' : World} {Y Y' : Nat→Prop} {σ σ' : Sg} {ps qs:List PV} {vs us:List Value} {st st' : St} {n n' : Nat} (H:SW C w Y σ ps vs st n) (hgl:T'.gl=T.gl) (hp:T'.pas=n)
  (H' : SW (ctxS T' w Y σ st) w' Y' σ' qs us st' n'):Keep w w' Y Y' σ σ'∧SW C w' Y' σ' qs us st' n':=by
 have excl:∀ k,k<w.heap.size→Y' k→Y k:=by
  intro k hk hy
  rcases H'.yshr k hy hk with h | h
  ·exact h.1
  ·exact h.1
 have hfix:∀ b,b<n→σ' b=σ b:=fun b hb=>H'.fix.2 b (by rw [hp]; exact hb)
 have hle:n≤n':=by have:=H'.fix.1; rw [hp] at this; exact this
 have K:Keep w w' Y Y' σ σ':=⟨fun k hk hy=>H'.chg.block k hk fun h=>hy h.1,excl,H'.chg.size,fun b l hl=>by
  rcases Nat.lt_or_ge b n with h | h
  ·rw [hfix b h]; exact hl
  ·rw [H.next b h] at hl; cases hl⟩
 have away:∀ k,C.Y0 k→¬ InSt σ st k:=fun k hk ⟨b,x,l,h1,h2,h3⟩=>H.away h1 h2 (h3 ▸ hk)
 have old:∀ k,(w.heap.size≤k∨InSt σ st k)→C.w0.heap.size≤k∨C.L k:=fun k h=>by
  rcases h with h | ⟨b,x,l,h1,h2,h3⟩
  ·exact .inl (Nat.le_trans H.chg.size h)
  ·rw [← h3]; exact H.own b x l h1 h2
 refine ⟨K,H'.vals,H'.store,H'.next,H'.yold,fun k hk=>H'.y0 k ⟨H.y0 k hk,away k hk⟩,H.c0,fun k hk hlt=>H.yshr k (excl k (Nat.lt_of_lt_of_le hlt H.chg.size) hk) hlt,?_,fun b x l h1 h2=>old _ (H'.own b x l h1 h2),by have:=H'.glob; rw [hgl] at this; exact this,⟨Nat.le_trans H.fix.1 hle,fun b hb=>?_⟩,?_⟩
 ·refine ⟨by rw [H'.chg.os]; exact H.chg.os,by rw [H'.chg.tape]; exact H.chg.tape,by rw [H'.chg.output]; exact H.chg.output,Nat.le_trans H.chg.size H'.chg.size,fun k hk hM=>?_⟩
  rw [H'.chg.block k (Nat.lt_of_lt_of_le hk H.chg.size) fun h=>?_]
  ·exact H.chg.block k hk hM
  ·obtain ⟨h1,h2⟩:=h
   rcases H.yshr k h1 hk with h3 | h3
   ·exact away k h3 h2
   ·exact hM h3
 ·rw [hfix b (Nat.lt_of_lt_of_le hb H.fix.1)]; exact H.fix.2 b hb
 ·exact ⟨H'.nest.rep,fun b r c h sz es k=>old _ (H'.nest.old b r c h sz es k),H'.nest.one,H'.nest.sep⟩
theorem tr_bound:∀ t:Sb,∃ N,∀ b,N≤b→getB t b=none
 | .e=>⟨0,fun b _=>rfl⟩
 | .n v l r=>by
  obtain ⟨A,hA⟩:=tr_bound l
  obtain ⟨B,hB⟩:=tr_bound r
  refine ⟨2 * (A+B)+2,fun b hb=>?_⟩
  cases b with
  | zero=>omega
  | succ m =>
   rw [getB_ns]
   have h:A+B≤m / 2:=by omega
   cases Nat.beq (Nat.mod m 2) 0 with
   | true=>exact hA _ (by show A≤m / 2; omega)
   | false=>exact hB _ (by show B≤m / 2; omega)
theorem lkS_map {f:Nat→Option Blk}:∀ (m i b:Nat),lkS ((upN i m).map fun b=>(b,f b)) b=if i≤b∧b<i+m then f b else none
 | 0,i,b=>by simp [upN,lkS]; intro h1 h2; omega
 | m+1,i,b=>by
  show (bif Nat.beq i b then f i else lkS ((upN (i+1) m).map fun b=>(b,f b)) b)=_
  by_cases h:i=b
  ·subst h; simp
  ·rw [beqN h]
   simp only [cond_false]
   rw [lkS_map m (i+1) b]
   by_cases h2:i+1≤b∧b<i+1+m
   ·rw [if_pos h2,if_pos (by omega)]
   ·rw [if_neg h2,if_neg (by omega)]
theorem stOf (t:Sb):∃ st:St,∀ b,lkS st b=getB t b:=by
 obtain ⟨N,hN⟩:=tr_bound t
 refine ⟨(upN 0 N).map fun b=>(b,getB t b),fun b=>?_⟩
 rw [lkS_map]
 by_cases h:b<N
 ·rw [if_pos (by omega)]
 ·rw [if_neg (by omega),hN b (by omega)]
end Go.Pv
namespace Go.Pv
open Go
def GT (t:Sb) (n:Nat):Prop:=NN t∧∀ b,n≤b→getB t b=none
def FnV (P:Program) (T:Tab) (k:Nat) (args:List PV) (t:Sb) (n:Nat) (v:PV) (t' : Sb) (n' : Nat):Prop :=
 GT t n→GT t' n'∧∀ (w:World) (Y:Nat→Prop) (σ:Sg) (cargs:List Value) (st:St),(∀ b,lkS st b=getB t b)→Glob T.gl w Y→(∀ b,Y b→b<w.heap.size)→(∀ b,n≤b→σ b=none)→RepL w Y σ args cargs→StRep w Y σ st →
  (callFunc k cargs.toArray).run P w=.ok (.enter k cargs.toArray) w ∧
  Calls P k cargs.toArray w fun e w'=>∃ cv Y' σ' st',e=.returned cv∧(∀ b,lkS st' b=getB t' b)∧SW (ctxS (T.at n) w Y σ st) w' Y' σ' [v] [cv] st' n'
def CallOK (P:Program) (T:Tab) (call:CallV):Prop:=∀ k args t n v t' n',call k args t n=some (v,t',n')→FnV P T k args t n v t' n'
structure EvOK {T:Tab} (C:Ctx T) (V:EV) (D:List Nat) (a:Act) (w:World):Prop where
 nn:GT V.st V.nx
 dfr:a.defers=marks D
 env:∃ ps st Y σ,(∀ i,getP V.tm i=getL ps i)∧V.n=ps.length∧(∀ b,lkS st b=getB V.st b)∧SW C w Y σ ps a.tmps.toList st V.nx∧DefOK C.w0.heap.size D w Y
theorem noN_some {x:Option Blk} {y:Blk} (h:noN x=some y):x=some y∧∀ sz rows,y ≠ .nar sz rows:=by
 cases x with
 | none=>cases h
 | some x =>
  cases x with
  | nar _ _=>cases h
  | _=>cases h; exact ⟨rfl,fun _ _ e=>by cases e⟩
theorem allR_spec {f:Nat→Bool}:∀ {l:List Nat},allR f l=true→∀ x∈l,f x=true
 | [],_,x,hx=>by cases hx
 | y::l,h,x,hx=>by
  have h:Bool.rec (motive:=fun _=>Bool) false (allR f l) (f y)=true:=h
  cases hy:f y with
  | false=>rw [hy] at h; cases h
  | true =>
   rw [hy] at h
   rcases List.mem_cons.1 hx with rfl | hx
   ·exact hy
   ·exact allR_spec h x hx
theorem applB_out:∀ (δ:Dl) (t:Sb) (b:Nat),b ∉ keysR δ→getB (applB δ t) b=getB t b
 | [],t,b,_=>rfl
 | (c,y)::δ,t,b,h=>by
  have e:keysR ((c,y)::δ)=c::keysR δ:=rfl
  rw [e,List.mem_cons,not_or] at h
  show getB (applB δ (setB (noN y) c t)) b=_
  rw [applB_out δ _ b h.2,getB_setB,if_neg h.1]
theorem applB_le:∀ (δ:Dl) (t:Sb) (st:St),(∀ b x,getB t b=some x→lkS st b=some x)→∀ b x,getB (applB δ t) b=some x→lkS (applyD δ st) b=some x
 | [],t,st,h,b,x,hx=>h b x hx
 | (c,y)::δ,t,st,h,b,x,hx=>by
  refine applB_le δ (setB (noN y) c t) (inS st c y) (fun b x hx=>?_) b x hx
  rw [getB_setB] at hx
  rw [lkS_inS]
  by_cases hc:b=c
  ·subst hc; rw [if_pos rfl] at hx ⊢; exact (noN_some hx).1
  ·rw [if_neg hc] at hx; rw [if_neg (Ne.symm hc)]; exact h b x hx
theorem applB_nn:∀ (δ:Dl) (t:Sb),NN t→NN (applB δ t)
 | [],t,h=>h
 | (c,y)::δ,t,h=>applB_nn δ (setB (noN y) c t) fun b sz rows hb=>by
  rw [getB_setB] at hb
  by_cases hc:b=c
  ·rw [if_pos hc] at hb; exact (noN_some hb).2 sz rows rfl
  ·rw [if_neg hc] at hb; exact h b sz rows hb
theorem evV_eq {T:Tab} (hgl:∀ g,T.gl g=none) {tm:Tr PV} {ps:List PV} (h:∀ i,getP tm i=getL ps i) (x:Operand):evV tm x=evL T ps x:=by
 cases x with
 | tmp t=>exact h t
 | const v=>rfl
 | global g=>simp only [evL,hgl]; rfl
 | func f=>rfl
theorem putT1_get {tm:Tr PV} {n:Nat} {ps:List PV} (h:∀ i,getP tm i=getL ps i) (hn:n=ps.length) (d:Option Nat) (v:PV):∀ i,getP (putT1 tm n d v) i=getL (putT ps d v) i:=by
 intro i
 cases d with
 | none=>exact h i
 | some d =>
  show getP (Bool.rec (motive:=fun _=>Tr PV) tm (setP v d tm) (Nat.ble (Nat.succ d) n)) i=_
  simp only [putT,getL_setL]
  cases hb:Nat.ble (Nat.succ d) n with
  | true =>
   have hb:=Nat.le_of_ble_eq_true hb
   show getP (setP v d tm) i=_
   rw [getP_setP]
   by_cases hd:i=d
   ·subst hd; rw [if_pos rfl,if_pos ⟨rfl,by omega⟩]
   ·rw [if_neg hd,if_neg (by intro e; exact hd e.1.symm)]; exact h i
  | false =>
   have hb' : ¬ Nat.succ d≤n:=fun e=>by rw [show Nat.ble (Nat.succ d) n=true by rw [Nat.ble_eq]; exact e] at hb; cases hb
   show getP tm i=_
   rw [if_neg (by intro e; apply hb'; rw [hn]; exact e.2)]; exact h i
section
variable {P:Program} {T:Tab} (hT:TabOK P T) (hW:PWf P) (hnar:T.nar=0) (hgl:∀ g,T.gl g=none) {call:CallV} (hcall:CallOK P T call)
theorem call_V {C:Ctx T} {w:World} {Y:Nat→Prop} {σ:Sg} {ps:List PV} {vs:List Value} {st:St} {n:Nat} (H:SW C w Y σ ps vs st n) {t:Sb} (hst:∀ b,lkS st b=getB t b) (hn:GT t n) {k:Nat} {args:List PV} {cargs:List Value} {v:PV} {t' : Sb} {n' : Nat}
  (hr:RepL w Y σ args cargs) (hF:FnV P T k args t n v t' n'):GT t' n'∧(callFunc k cargs.toArray).run P w=.ok (.enter k cargs.toArray) w ∧
  Calls P k cargs.toArray w fun e w'=>∃ cv Y' σ' st',e=.returned cv∧(∀ b,lkS st' b=getB t' b)∧SW C w' Y' σ' ps vs st' n'∧Rep w' Y' σ' v cv∧∀ k o,w.heap[k]?=some o→(∀ arr ty,o ≠ .cells arr ty (0,0))→w'.heap[k]?=some o∧(Y k→Y' k):=by
 obtain ⟨h1,h2⟩:=hF hn
 obtain ⟨h3,h4⟩:=h2 w Y σ cargs st hst H.glob H.yold H.next hr H.store
 refine ⟨h1,h3,Calls.mono h4 fun e w' hh=>?_⟩
 obtain ⟨cv,Y',σ',st',rfl,h5,H'⟩:=hh
 obtain ⟨K,H2⟩:=H.compose (T':=T.at n) rfl rfl H'
 have hv:=H'.vals
 unfold RepL at hv
 obtain ⟨c,cs,e,h6,h7⟩:=hv
 cases e
 exact ⟨cv,Y',σ',st',rfl,h5,H2.vals' (RepL.keep _ K _ H.vals),h6,fun k o ho hc=>H'.kept H.store ho hc⟩
theorem nthO_eq:∀ (l:List Oper) (j:Nat),nthO l j=l[j]?
 | [],j=>by simp; rfl
 | x::l,0=>rfl
 | x::l,j+1=>by show nthO l j=_; rw [nthO_eq l j]; simp
theorem gdK_inv {v:PV} {want b:Bool} (h:gdK v want=some b):(∃ c,v=.bool c∧b=(c == want))∨(v=.undef∧b=false):=by
 cases v with
 | bool c=>cases h; left; exact ⟨c,rfl,by cases c <;> cases want <;> rfl⟩
 | undef=>cases h; exact .inr ⟨rfl,rfl⟩
 | _=>cases h
theorem gdV_sound (P:Program) {all:Array Oper} {o:Oper} {tm:Tr PV} {ps:List PV} {g:Bool} (htm:∀ i,getP tm i=getL ps i) (h:gdV all.toList o.guard tm=some g) {C:Ctx T} {Y:Nat→Prop} {σ:Sg} {a:Act} {w:World} {st:St} {n:Nat} (H:SW C w Y σ ps a.tmps.toList st n) :
  Region.wanted o (yielded all a.tmps)=g:=by
 have main:gd (Sig.std P T) all o.guard ⟨ps,st,n⟩ (fun _=>g=true) (fun _=>g=false):=by
  unfold gd
  cases hg:o.guard with
  | none=>rw [hg] at h; cases h; rfl
  | some p =>
   obtain ⟨j,want⟩:=p
   rw [hg] at h
   have h:Option.rec (motive:=fun _=>Option Bool) none (fun o=>Option.rec (motive:=fun _=>Option Bool) none (fun d=>gdK (getP tm d) want) o.dst) (nthO all.toList j)=some g:=h
   rw [nthO_eq,Array.getElem?_toList] at h
   simp only
   cases hj:all[j]? with
   | none=>rw [hj] at h; cases h
   | some oj =>
    rw [hj] at h
    have h:Option.rec (motive:=fun _=>Option Bool) none (fun d=>gdK (getP tm d) want) oj.dst=some g:=h
    simp only
    cases hd:oj.dst with
    | none=>rw [hd] at h; cases h
    | some d =>
     rw [hd] at h
     have h:gdK (getP tm d) want=some g:=h
     rw [htm] at h
     simp only
     rcases gdK_inv h with ⟨c,e,rfl⟩ | ⟨e,rfl⟩
     ·rw [e]; cases c <;> cases want <;> rfl
     ·rw [e]
 have:Region.wanted o (yielded all a.tmps)=Region.wanted o (yielded all ({ a with defers:=[] }:Act).tmps):=rfl
 rw [this]
 obtain ⟨E',_,hh⟩:=gd_sound main (C:=C) (a:={ a with defers:=[] }) (w:=w) ⟨⟨Y,σ,H⟩,rfl⟩
 rcases hh with ⟨h1,h2⟩ | ⟨h1,h2⟩
 ·rw [h1,h2]
 ·rw [h1,h2]
theorem fin_inv {r:Rs} {tm:Tr PV} {n:Nat} {st:Sb} {nx:Nat} {dst:Option Nat} {E:EV} (h:fin r tm n st nx dst=some E):∃ v δ,r=some (v,δ)∧E=⟨putT1 tm n dst v,n,applB δ st,nextD δ nx⟩∧∀ b∈keysR δ,b≤nx:=by
 cases r with
 | none=>cases h
 | some p =>
  obtain ⟨v,δ⟩:=p
  cases δ with
  | nil=>cases h; exact ⟨v,[],rfl,rfl,fun b hb=>by cases hb⟩
  | cons x δ =>
   have h:Bool.rec (motive:=fun _=>Oe) none (Nat.rec (motive:=fun _=>Oe) (some ⟨putT1 tm n dst v,n,applB (x::δ) st,1⟩) (fun m _=>some ⟨putT1 tm n dst v,n,applB (x::δ) st,Nat.succ (Nat.succ m)⟩) nx) (allR (fun b=>Nat.ble b nx) (keysR (x::δ)))=some E:=h
   cases hk:allR (fun b=>Nat.ble b nx) (keysR (x::δ)) with
   | false=>rw [hk] at h; cases h
   | true =>
    rw [hk] at h
    refine ⟨v,x::δ,rfl,?_,fun b hb=>Nat.le_of_ble_eq_true (allR_spec hk b hb)⟩
    cases nx with
    | zero=>cases h; rfl
    | succ m=>cases h; rfl
theorem fin2_inv {r:Option (PV × Sb × Nat)} {tm:Tr PV} {n:Nat} {dst:Option Nat} {E:EV} (h:fin2 r tm n dst=some E):∃ v t' n',r=some (v,t',n')∧E=⟨putT1 tm n dst v,n,t',n'⟩:=by
 cases r with
 | none=>cases h
 | some p =>
  obtain ⟨v,t',n'⟩:=p
  cases h
  exact ⟨v,t',n',rfl,rfl⟩
theorem isCall_inv {o:Op} {f:Operand} {args:Array Operand} (h:isCall o=some (f,args)):∃ ts,o=.call { callee:=.value f,args:=args,argTypes:=ts }:=by
 cases o with
 | call c =>
  obtain ⟨callee,args',ts⟩:=c
  cases callee with
  | value f'=>cases h; exact ⟨ts,rfl⟩
  | _=>cases h
 | _=>cases h
include hT hW hnar hgl hcall in
theorem stepV_sound {o:Oper} {tm:Tr PV} {n:Nat} {st:Sb} {nx:Nat} {V' : EV} (h:stepV T.ti call o tm n st nx=some V') {C:Ctx T} {D:List Nat} {a:Act} {w:World} (hA:EvOK C ⟨tm,n,st,nx⟩ D a w) {next:Act→World→Prop} {Q:Exit→Act→World→Prop} (hnext:∀ a' w',EvOK C V' D a' w'→next a' w'):o.wp P a w next Q:=by
 obtain ⟨hnn,hdf,ps,stl,Y,σ,htm,hn,hst,H,hD⟩:=hA
 have hst:∀ b,lkS stl b=getB st b:=hst
 have H:SW C w Y σ ps a.tmps.toList stl nx:=H
 unfold stepV at h
 cases hc:isCall o.op with
 | none =>
  rw [hc] at h
  obtain ⟨v,δ,hv,rfl,hkeys⟩:=fin_inv h
  have H2:=H.rebase0 fun b sz rows=>by rw [hst]; exact hnn.1 b sz rows
  obtain ⟨v',δ',cv,w',Y',σ',⟨rfl,rfl⟩,hrun,H',hrep,_⟩:=opV_res (P:=P) (T:=T.at nx) hT hW hnar H2 (lk:=getB st) (fun b x hx=>by rw [hst]; exact hx) ⟨H.next _ (Nat.le_refl _),Nat.le_refl _⟩ (evV_eq (T:=T.at nx) hgl htm) (fun _ _=>rfl) hv
  have hni:nextI δ' nx nx=nextD δ' nx:=by cases δ' <;> simp [nextI,nextD]
  rw [hni] at H'
  obtain ⟨K,H3⟩:=H.compose (T':=T.at nx) rfl rfl H'
  have hfin:EvOK C ⟨putT1 tm n o.dst v',n,applB δ' st,nextD δ' nx⟩ D (a.put o.dst cv) w':=by
   obtain ⟨st2,hst2⟩:=stOf (applB δ' st)
   refine ⟨⟨applB_nn δ' st hnn.1,fun b hb=>?_⟩,by rw [put_defers]; exact hdf,putT ps o.dst v',st2,Y',σ',putT1_get htm hn _ _,by rw [putT_length]; exact hn,hst2,?_,hD.step H.store H'⟩
   ·have hb:nextD δ' nx≤b:=hb
    cases δ' with
    | nil=>exact hnn.2 b hb
    | cons y δ' =>
     rw [applB_out _ _ b fun hk=>by have:=hkeys b hk; simp only [nextD] at hb; omega]
     exact hnn.2 b (by simp only [nextD] at hb; show nx≤b; omega)
   refine (H3.putT hrep o.dst).ext fun b x hx=>?_
   rw [hst2] at hx
   exact applB_le δ' st stl (fun b x hx=>by rw [hst]; exact hx) b x hx
  have:=hnext _ _ hfin
  unfold Oper.wp
  rcases hrun with hrun | ⟨hrun,rfl⟩
  ·rw [hrun]; exact this
  ·rw [hrun]; exact this
 | some p =>
  obtain ⟨f,args⟩:=p
  rw [hc] at h
  obtain ⟨v,t',n',hr,rfl⟩:=fin2_inv h
  obtain ⟨k,caps,hf,hr⟩:=fnE_inv hr
  obtain ⟨ts,ho⟩:=isCall_inv hc
  have hev:=evV_eq (T:=T) hgl htm
  rw [evA1_eq hev,appR_eq] at hr
  rw [hev] at hf
  have hfv:=ev_rep H f
  rw [hf] at hfv
  unfold Rep at hfv
  obtain ⟨cs,ef,hcs⟩:=hfv
  have hall:=RepL.app _ _ _ _ (evA_rep H args.toList) hcs
  rw [appL_eq] at hall
  obtain ⟨hn',hent,hc2⟩:=call_V H hst hnn hall (hcall _ _ _ _ _ _ _ hr)
  unfold Oper.wp
  rw [call_run ho ef hent]
  refine Calls.mono hc2 fun e w' hh=>?_
  obtain ⟨cv,Y',σ',st',rfl,hst',H',hv,hD'⟩:=hh
  exact hnext _ _ ⟨hn',by rw [put_defers]; exact hdf,putT ps o.dst v,st',Y',σ',putT1_get htm hn _ _,by rw [putT_length]; exact hn,hst',H'.putT hv o.dst,hD.1,fun r hr=>by
   obtain ⟨g0,g1,g2⟩:=hD.2 r hr
   obtain ⟨g3,g4⟩:=hD' r _ g2 fun arr ty e=>by cases e
   exact ⟨g0,g4 g1,g3⟩⟩
include hT hW hnar hgl hcall in
theorem opsV_sound {all:Array Oper} {Q:Exit→Act→World→Prop} {C:Ctx T} {D:List Nat}:∀ (l:List Oper) (V V' : EV),opsV T.ti call all.toList l V=some V' →
  ∀ a w,EvOK C V D a w→(∀ a' w',EvOK C V' D a' w'→Q .normal a' w')→wpList P all Q l a w
 | [],V,V',h,a,w,hA,hQ=>by cases h; exact hQ a w hA
 | o::l,⟨tm,n,st,nx⟩,V',h,a,w,hA,hQ=>by
  have h:Option.rec (motive:=fun _=>Oe) none
   (fun g=>Bool.rec (motive:=fun _=>Oe) (opsV T.ti call all.toList l ⟨putT1 tm n o.dst PV.undef,n,st,nx⟩) (Option.rec (motive:=fun _=>Oe) none (fun E'=>opsV T.ti call all.toList l E') (stepV T.ti call o tm n st nx)) g) (gdV all.toList o.guard tm)=some V':=h
  cases hg:gdV all.toList o.guard tm with
  | none=>rw [hg] at h; cases h
  | some g =>
   rw [hg] at h
   have hA':=hA
   obtain ⟨hnn,hdf,ps,stl,Y,σ,htm,hn,hst,H,hD⟩:=hA'
   have hw:=gdV_sound P htm hg H
   unfold wpList
   cases g with
   | true =>
    rw [if_pos hw]
    have h:Option.rec (motive:=fun _=>Oe) none (fun E'=>opsV T.ti call all.toList l E') (stepV T.ti call o tm n st nx)=some V':=h
    cases hs:stepV T.ti call o tm n st nx with
    | none=>rw [hs] at h; cases h
    | some V1 =>
     rw [hs] at h
     exact .inl (stepV_sound hT hW hnar hgl hcall hs hA fun a' w' hA2=>opsV_sound l V1 V' h a' w' hA2 hQ)
   | false =>
    rw [if_neg (by rw [hw]; simp)]
    have h:opsV T.ti call all.toList l ⟨putT1 tm n o.dst PV.undef,n,st,nx⟩=some V':=h
    refine opsV_sound l _ V' h _ w ⟨hnn,by rw [put_defers]; exact hdf,putT ps o.dst .undef,stl,Y,σ,putT1_get htm hn _ _,by rw [putT_length]; exact hn,hst,H.putT (by simp [Rep]) o.dst,hD⟩ hQ
end
end Go.Pv
namespace Go.Pv
open Go
theorem boolMatch {a b:Bool} (h:(match a with | true=>b | false=>!b)=true):a=b:=by cases a <;> cases b <;> simp_all
mutual
theorem eqP_sound:∀ (d:Nat) (x y:PV),eqP d x y=true→x=y
 | 0,x,y,h=>by simp [eqP] at h
 | d+1,x,y,h=>by
  unfold eqP at h
  split at h
  ·rw [boolMatch h]
  ·obtain ⟨h1,h2⟩:=and_tt h
   rw [eqI_eq,decide_eq_true_iff] at h2
   rw [kEq_eq h1,h2]
  ·rw [eqS_eq,decide_eq_true_iff] at h; rw [h]
  ·rfl
  ·rfl
  ·rfl
  ·obtain ⟨h1,h2⟩:=and_tt h
   obtain ⟨h2,h3⟩:=and_tt h2
   rw [Nat.eq_of_beq_eq_true h1,Nat.eq_of_beq_eq_true h2,Nat.eq_of_beq_eq_true h3]
  ·obtain ⟨h1,h2⟩:=and_tt h
   rw [Nat.eq_of_beq_eq_true h1,Nat.eq_of_beq_eq_true h2]
  ·obtain ⟨h1,h2⟩:=and_tt h
   obtain ⟨h2,h3⟩:=and_tt h2
   rw [Nat.eq_of_beq_eq_true h1,Nat.eq_of_beq_eq_true h2,Nat.eq_of_beq_eq_true h3]
  ·obtain ⟨h1,h2⟩:=and_tt h
   obtain ⟨h2,h3⟩:=and_tt h2
   rw [Nat.eq_of_beq_eq_true h1,boolMatch h2,eqRows_sound d _ _ h3]
  ·rw [eqRow_sound d _ _ h]
  ·rw [eqRow_sound d _ _ h]
  ·obtain ⟨h1,h2⟩:=and_tt h
   rw [Nat.eq_of_beq_eq_true h1,eqRow_sound d _ _ h2]
  ·cases h
theorem eqRow_sound:∀ (d:Nat) (x y:List PV),eqP.eqRow (eqP d) x y=true→x=y
 | d,[],[],_=>rfl
 | d,[],_::_,h=>by simp [eqP.eqRow] at h
 | d,_::_,[],h=>by simp [eqP.eqRow] at h
 | d,x::xs,y::ys,h=>by
  unfold eqP.eqRow at h
  obtain ⟨h1,h2⟩:=and_tt h
  rw [eqP_sound d x y h1,eqRow_sound d xs ys h2]
theorem eqRows_sound:∀ (d:Nat) (x y:List (List PV)),eqP.eqRows (eqP d) x y=true→x=y
 | d,[],[],_=>rfl
 | d,[],_::_,h=>by simp [eqP.eqRows] at h
 | d,_::_,[],h=>by simp [eqP.eqRows] at h
 | d,x::xs,y::ys,h=>by
  unfold eqP.eqRows at h
  obtain ⟨h1,h2⟩:=and_tt h
  rw [eqRow_sound d x y h1,eqRows_sound d xs ys h2]
end
theorem eqBk_sound {x y:Option Blk} (h:eqBk x y=true):x=y:=by
 unfold eqBk at h
 split at h
 ·obtain ⟨h1,h2⟩:=and_tt h
  rw [boolMatch h1,eqRow_sound _ _ _ h2]
 ·obtain ⟨h1,h2⟩:=and_tt h
  obtain ⟨h2,h3⟩:=and_tt h2
  rw [boolMatch h1,Nat.eq_of_beq_eq_true h2,eqRows_sound _ _ _ h3]
 ·cases h
theorem allN_agg (p:Nat→Bool):∀ cs:List PV,allN p (.agg cs)=allNs p cs
 | []=>rfl
 | x::cs=>by
  have e1:allN p (.agg (x::cs))=Bool.rec (motive:=fun _=>Bool) false (allN p (.agg cs)) (allN p x):=rfl
  have e2:allNs p (x::cs)=Bool.rec (motive:=fun _=>Bool) false (allNs p cs) (allN p x):=rfl
  rw [e1,e2,allN_agg p cs]
theorem allNs_cons {p:Nat→Bool} {x:PV} {cs:List PV} (h:allNs p (x::cs)=true):allN p x=true∧allNs p cs=true:=by
 have h:Bool.rec (motive:=fun _=>Bool) false (allNs p cs) (allN p x)=true:=h
 cases hx:allN p x with
 | false=>rw [hx] at h; cases h
 | true=>rw [hx] at h; exact ⟨rfl,h⟩
section
variable {p:Nat→Bool} {σ σ' : Sg} (hσ:∀ b,p b=true→σ' b=σ b) {w:World} {Y:Nat→Prop}
include hσ
mutual
theorem allN_rep:∀ (v:PV) (u:Value),allN p v=true→Rep w Y σ v u→Rep w Y σ' v u
 | .bool _,_,_,h | .sb _,_,_,h | .int _ _,_,_,h | .si _ _,_,_,h | .str _,_,_,h
 | .nilp,_,_,h | .nilf,_,_,h | .top,_,_,h | .undef,_,_,h=>by unfold Rep at h ⊢; exact h
 | .sl _ _ _,_,_,h | .pp _,_,_,h=>by unfold Rep at h ⊢; exact h
 | .ow _ _ _,_,e,_=>by cases e
 | .bo _ _ _ _ _ _,_,e,_=>by cases e
 | .np _ _ _ _ _ _ _,_,e,_=>by cases e
 | .agg cs,u,e,h=>by
  rw [allN_agg] at e
  unfold Rep at h ⊢
  obtain ⟨vs,e1,h⟩:=h
  exact ⟨vs,e1,allNs_rep cs vs e h⟩
 | .tup cs,u,e,h=>by
  have e:allN p (.agg cs)=true:=e
  rw [allN_agg] at e
  unfold Rep at h ⊢
  obtain ⟨vs,e1,h⟩:=h
  exact ⟨vs,e1,allNs_rep cs vs e h⟩
 | .fn f cs,u,e,h=>by
  have e:allN p (.agg cs)=true:=e
  rw [allN_agg] at e
  unfold Rep at h ⊢
  obtain ⟨vs,e1,h⟩:=h
  exact ⟨vs,e1,allNs_rep cs vs e h⟩
 | .os b r n,u,e,h=>by
  have e:p b=true:=e
  unfold Rep at h ⊢
  rw [hσ b e]; exact h
 | .lv b c,u,e,h=>by
  have e:p b=true:=e
  unfold Rep at h ⊢
  rw [hσ b e]; exact h
 | .lp b r c,u,e,h=>by
  have e:p b=true:=e
  unfold Rep at h ⊢
  rw [hσ b e]; exact h
theorem allNs_rep:∀ (cs:List PV) (vs:List Value),allNs p cs=true→RepL w Y σ cs vs→RepL w Y σ' cs vs
 | [],vs,_,h=>by unfold RepL at h ⊢; exact h
 | x::cs,vs,e,h=>by
  obtain ⟨e1,e2⟩:=allNs_cons e
  unfold RepL at h ⊢
  obtain ⟨v,vs',e3,h1,h2⟩:=h
  exact ⟨v,vs',e3,allN_rep x v e1 h1,allNs_rep cs vs' e2 h2⟩
end
theorem allNs_repC {b:Nat}:∀ (cs:List PV) (o:Nat),allNs p cs=true→RepC w Y σ b cs o→RepC w Y σ' b cs o
 | [],o,_,h=>by unfold RepC; trivial
 | x::cs,o,e,h=>by
  obtain ⟨e1,e2⟩:=allNs_cons e
  unfold RepC at h ⊢
  obtain ⟨⟨v,h1,h2⟩,h3⟩:=h
  exact ⟨⟨v,h1,allN_rep hσ x v e1 h2⟩,allNs_repC cs (o+1) e2 h3⟩
theorem allNB_rep {l:Loc} {x:Blk} (e:allNB p (some x)=true) (h:BlkRep w Y σ l x):BlkRep w Y σ' l x:=by
 cases x with
 | var ro row =>
  have e:allNs p row=true:=e
  unfold BlkRep at h ⊢
  obtain ⟨h1,h2,h3,h4,h5⟩:=h
  exact ⟨h1,h2,h3,allNs_repC hσ row _ e h4,h5⟩
 | arr ro sz rows=>unfold BlkRep at h ⊢; exact h
 | nar sz rows=>cases e
end
theorem SW.composeF {T T' : Tab} {C:Ctx T} {w w' : World} {Y Y' : Nat→Prop} {σ σc σ1:Sg} {ps qs:List PV} {vs us:List Value} {stn str st1 st' : St} {n id id1:Nat} (H:SW C w Y σ ps vs stn n) (hgl:T'.gl=T.gl) (hp:T'.pas=id)
  (hsub:∀ b x,lkS str b=some x→lkS stn b=some x∧b<id∧σc b=σ b) (hσc:∀ b l,σc b=some l→σ b=some l) (hwin:∀ b,id≤b→b<id1→σ b=none∧lkS stn b=none) (hid:T.pas≤id) (hN:id1≤n)
  (H' : SW (ctxS T' w Y σc str) w' Y' σ1 qs us st1 id1)
  (hst' : ∀ b x,lkS st' b=some x→((lkS str b ≠ none∨(id≤b∧b<id1))∧lkS st1 b=some x)∨(lkS str b=none∧lkS stn b=some x))
  (hnn:∀ b sz rows,lkS st' b ≠ some (.nar sz rows)) :
  ∃ σ',SW C w' Y' σ' ps vs st' n∧RepL w' Y' σ' qs us∧∀ b,(b<id∨id1≤b)→σ' b=σ b:=by
 have hle:id≤id1:=by have:=H'.fix.1; rw [hp] at this; exact this
 have hfix:∀ b,b<id→σ1 b=σc b:=fun b hb=>H'.fix.2 b (by rw [hp]; exact hb)
 let σn:Sg:=fun b=>if b<id∨id1≤b then σ b else σ1 b
 have hout:∀ b,(b<id∨id1≤b)→σn b=σ b:=fun b h=>if_pos h
 have hin:∀ b,id≤b→b<id1→σn b=σ1 b:=fun b h1 h2=>if_neg (by omega)
 have excl:∀ k,k<w.heap.size→Y' k→Y k:=by
  intro k hk hy
  rcases H'.yshr k hy hk with h | h
  ·exact h.1
  ·exact h.1
 have K:Keep w w' Y Y' σ σn:=⟨fun k hk hy=>H'.chg.block k hk fun h=>hy h.1,excl,H'.chg.size,fun b l hl=>by
  by_cases h:b<id∨id1≤b
  ·rw [hout b h]; exact hl
  ·rw [(hwin b (by omega) (by omega)).1] at hl; cases hl⟩
 have sg1:SgLe σ1 σn:=fun b l hl=>by
  rcases Nat.lt_or_ge b id with h | h
  ·rw [hout b (.inl h)]
   rw [hfix b h] at hl
   exact hσc b l hl
  ·rcases Nat.lt_or_ge b id1 with h2 | h2
   ·rw [hin b h h2]; exact hl
   ·rw [H'.next b h2] at hl; cases hl
 have K1:Keep w' w' Y' Y' σ1 σn:=⟨fun _ _ _=>rfl,fun _ _ h=>h,Nat.le_refl _,sg1⟩
 have inst:∀ k,InSt σc str k→∃ b y l,lkS str b ≠ none∧lkS stn b=some y∧σ b=some l∧l.cb=k:=by
  rintro k ⟨b,y,l,h1,h2,h3⟩
  exact ⟨b,y,l,by rw [h1]; simp,(hsub b y h1).1,hσc b l h2,h3⟩
 have eq1:∀ b,(lkS str b ≠ none∨(id≤b∧b<id1))→σn b=σ1 b:=by
  intro b hb
  rcases Nat.lt_or_ge b id with h | h
  ·rw [hout b (.inl h),hfix b h]
   rcases hb with hb | hb
   ·cases hs:lkS str b with
    | none=>exact absurd hs hb
    | some y=>exact (hsub b y hs).2.2.symm
   ·omega
  ·rcases hb with hb | hb
   ·cases hs:lkS str b with
    | none=>exact absurd hs hb
    | some y=>have:=(hsub b y hs).2.1; omega
   ·exact hin b hb.1 hb.2
 have eq2:∀ b x,lkS str b=none→lkS stn b=some x→σn b=σ b:=by
  intro b x _ hx
  refine hout b ?_
  rcases Nat.lt_or_ge b id with h | h
  ·exact .inl h
  ·rcases Nat.lt_or_ge b id1 with h2 | h2
   ·rw [(hwin b h h2).2] at hx; cases hx
   ·exact .inr h2
 have nin:∀ b x l,lkS str b=none→lkS stn b=some x→σ b=some l→¬ InSt σc str l.cb:=by
  intro b x l hb hx hl hi
  obtain ⟨b',y,l',h1,h2,h3,h4⟩:=inst _ hi
  have:=H.store.inj b' b y x l' l h2 hx h3 hl h4
  subst this; exact h1 hb
 have lt0:∀ b x l,lkS stn b=some x→σ b=some l→l.cb<w.heap.size:=by
  intro b x l hx hl
  rcases H.store.blk b x hx with ⟨l2,hl2,hB⟩ | ⟨hn,_⟩
  ·rw [hl] at hl2; cases hl2; exact hB.lt
  ·rw [hl] at hn; cases hn
 refine ⟨σn,⟨RepL.keep _ K _ H.vals,⟨fun b x hx=>?_,fun b b' x x' l l' hx hx' hl hl' e=>?_⟩,fun b hb=>?_,H'.yold,fun k hk=>?_,H.c0,fun k hk hlt=>?_,?_,fun b x l hx hl=>?_,by have:=H'.glob; rw [hgl] at this; exact this,?_,Nest.none hnn⟩,RepL.keep _ K1 _ H'.vals,hout⟩
 ·rcases hst' b x hx with ⟨h1,h2⟩ | ⟨h1,h2⟩
  ·rcases H'.store.blk b x h2 with ⟨l,hl,hB⟩ | ⟨hn,h3⟩
   ·exact .inl ⟨l,sg1 b l hl,BlkRep.keep K1 rfl Iff.rfl hB⟩
   ·exact .inr ⟨by rw [eq1 b h1]; exact hn,h3⟩
  ·rcases H.store.blk b x h2 with ⟨l,hl,hB⟩ | ⟨hn,h3⟩
   ·have hni:=nin b x l h1 h2 hl
    exact .inl ⟨l,K.sg b l hl,BlkRep.keep K (H'.chg.block _ hB.lt fun h=>hni h.2) ⟨excl _ hB.lt,fun h=>H'.y0 _ ⟨h,hni⟩⟩ hB⟩
   ·exact .inr ⟨by rw [eq2 b x h1 h2]; exact hn,h3⟩
 ·have side:∀ b b' x x' l l',((lkS str b ≠ none∨(id≤b∧b<id1))∧lkS st1 b=some x)→(lkS str b'=none∧lkS stn b'=some x')→σn b=some l→σn b'=some l'→l.cb=l'.cb→False:=by
   rintro b b' x x' l l' ⟨h1,h2⟩ ⟨h3,h4⟩ hl hl' e
   rw [eq1 b h1] at hl
   rw [eq2 b' x' h3 h4] at hl'
   have hlt':=lt0 b' x' l' h4 hl'
   rcases H'.own b x l h2 hl with h | h
   ·have h:w.heap.size≤l.cb:=h
    omega
   ·rw [e] at h
    exact nin b' x' l' h3 h4 hl' h
  rcases hst' b x hx with h | h <;> rcases hst' b' x' hx' with h' | h'
  ·exact H'.store.inj b b' x x' l l' h.2 h'.2 (by rw [← eq1 b h.1]; exact hl) (by rw [← eq1 b' h'.1]; exact hl') e
  ·exact (side b b' x x' l l' h h' hl hl' e).elim
  ·exact (side b' b x' x l' l h' h hl' hl e.symm).elim
  ·exact H.store.inj b b' x x' l l' h.2 h'.2 (by rw [← eq2 b x h.1 h.2]; exact hl) (by rw [← eq2 b' x' h'.1 h'.2]; exact hl') e
 ·rw [hout b (.inr (by omega))]; exact H.next b hb
 ·refine H'.y0 k ⟨H.y0 k hk,fun hi=>?_⟩
  obtain ⟨b,y,l,h1,h2,h3,rfl⟩:=inst k hi
  exact H.away h2 h3 hk
 ·exact H.yshr k (excl k (Nat.lt_of_lt_of_le hlt H.chg.size) hk) hlt
 ·refine ⟨by rw [H'.chg.os]; exact H.chg.os,by rw [H'.chg.tape]; exact H.chg.tape,by rw [H'.chg.output]; exact H.chg.output,Nat.le_trans H.chg.size H'.chg.size,fun k hk hM=>?_⟩
  rw [H'.chg.block k (Nat.lt_of_lt_of_le hk H.chg.size) fun h=>?_]
  ·exact H.chg.block k hk hM
  ·obtain ⟨h1,h2⟩:=h
   rcases H.yshr k h1 hk with h3 | h3
   ·obtain ⟨b,y,l,h4,h5,h6,rfl⟩:=inst k h2
    exact H.away h5 h6 h3
   ·exact hM h3
 ·rcases hst' b x hx with ⟨h1,h2⟩ | ⟨h1,h2⟩
  ·rw [eq1 b h1] at hl
   rcases H'.own b x l h2 hl with h | h
   ·exact .inl (Nat.le_trans H.chg.size h)
   ·obtain ⟨b',y',l',h5,h6,h7,h8⟩:=inst _ h
    rw [← h8]; exact H.own b' y' l' h6 h7
  ·rw [eq2 b x h1 h2] at hl
   exact H.own b x l h2 hl
 ·refine ⟨H.fix.1,fun b hb=>?_⟩
  rw [hout b (.inl (by omega))]; exact H.fix.2 b hb
end Go.Pv
namespace Go.Pv
open Go
noncomputable def sanD:Dl→Dl
 | []=>[]
 | (b,x)::δ=>(b,noN x)::sanD δ
theorem lastD_san:∀ (δ:Dl) (b:Nat),lastD (sanD δ) b=(lastD δ b).map noN
 | [],b=>rfl
 | (c,x)::δ,b=>by
  simp only [sanD,lastD]
  rw [lastD_san δ b]
  cases lastD δ b with
  | some y=>rfl
  | none =>
   by_cases h:c=b
   ·simp [h]
   ·simp [h]
theorem getB_applB:∀ (δ:Dl) (t:Sb) (b:Nat),getB (applB δ t) b=(match lastD (sanD δ) b with | some x=>x | none=>getB t b)
 | [],t,b=>rfl
 | (c,x)::δ,t,b=>by
  show getB (applB δ (setB (noN x) c t)) b=_
  rw [getB_applB δ]
  simp only [sanD,lastD]
  cases lastD (sanD δ) b with
  | some y=>rfl
  | none =>
   simp only
   rw [getB_setB]
   by_cases h:c=b
   ·subst h; simp
   ·rw [if_neg (Ne.symm h),if_neg h]
theorem sanD_nn (δ:Dl) (b sz:Nat) (rows:List (List PV)):lastD (sanD δ) b ≠ some (some (.nar sz rows)):=by
 rw [lastD_san]
 intro h
 cases hl:lastD δ b with
 | none=>rw [hl] at h; cases h
 | some y =>
  rw [hl] at h
  simp only [Option.map_some,Option.some.injEq] at h
  exact (noN_some h).2 sz rows rfl
theorem keysR_mem:∀ (δ:Dl) (b:Nat) (x:Option Blk),(b,x)∈δ→b∈keysR δ
 | [],b,x,h=>by cases h
 | (c,y)::δ,b,x,h=>by
  have e:keysR ((c,y)::δ)=c::keysR δ:=rfl
  rw [e]
  rcases List.mem_cons.1 h with h | h
  ·cases h; simp
  ·exact List.mem_cons_of_mem _ (keysR_mem δ b x h)
theorem sanD_none (δ:Dl) (b:Nat) (h:lastD (sanD δ) b ≠ none):b∈keysR δ:=by
 rw [lastD_san] at h
 obtain ⟨x,hx⟩:=lastD_keys δ b fun e=>h (by rw [e]; rfl)
 exact keysR_mem δ b x hx
theorem sanD_st {st:St} {δ:Dl} (b:Nat) (x:Blk) (h:lkS (applyD (sanD δ) st) b=some x):lkS (applyD δ st) b=some x:=by
 rw [lk_applyD,lastD_san] at h
 rw [lk_applyD]
 cases hl:lastD δ b with
 | none=>rw [hl] at h; exact h
 | some y =>
  rw [hl] at h
  exact (noN_some h).1
theorem lastD_map {f:Nat→Option Blk}:∀ (l:List Nat) (b:Nat),lastD (l.map fun b=>(b,f b)) b=if b∈l then some (f b) else none
 | [],b=>by simp [lastD]
 | c::l,b=>by
  simp only [List.map_cons,lastD]
  rw [lastD_map l b]
  by_cases h:b∈l
  ·rw [if_pos h,if_pos (List.mem_cons_of_mem _ h)]
  ·rw [if_neg h]
   by_cases hc:c=b
   ·subst hc; simp
   ·have hn:¬ b∈c::l:=by
     rw [List.mem_cons]
     rintro (e | e)
     ·exact hc e.symm
     ·exact h e
    rw [if_neg hn]
    simp only [if_neg hc]
section
variable {P:Program} {T:Tab} (hT:TabOK P T) (hW:PWf P) (hnar:T.nar=0) (hgl:∀ g,T.gl g=none) {call:CallV} (hcall:CallOK P T call)
include hT hW hnar hgl in
theorem opV_semF {all:Array Oper} {o:Oper} {tm:Tr PV} {er:List PV} (htm:∀ i,getP tm i=getL er i) {lk:Nat→Option Blk} {id:Nat} {v:PV} {δ:Dl} (h:opV o.op T.ti (evV tm) lk id=some (v,δ)):SemF P T all o er lk id 1 v (sanD δ):=by
 intro C ps Y σ a w st n hl H hn hlk hwin hpas hle next Q hnext
 have H2:=H.rebaseT hn
 obtain ⟨v',δ',cv,w',Y',σ',⟨rfl,rfl⟩,hrun,H',hrep,hoff⟩:=opV_res hT hW hnar H2 hlk ⟨(hwin id (Nat.le_refl _) (by omega)).1,hpas⟩ (evV_eq (T:=T) hgl htm) (tmp_looks hl) h
 have hni:nextI δ' n id≤n:=by cases δ' <;> simp [nextI] <;> omega
 have H3:=(H.composeT H').mono hni
 have:=hnext cv w' Y' σ' (applyD (sanD δ') st) (H3.ext fun b x hx=>sanD_st b x hx) (fun b=>lk_applyD _ _ _) (fun b hb=>hoff b (by omega)) hrep (fun B D hD=>hD.step H.store H')
 unfold Oper.wp
 rcases hrun with hrun | ⟨hrun,rfl⟩
 ·rw [hrun]; exact this
 ·rw [hrun]; exact this
end
end Go.Pv
namespace Go.Pv
open Go
theorem filR_mem {f:Nat→Bool}:∀ (l:List Nat) (x:Nat),x∈filR f l ↔ x∈l∧f x=true
 | [],x=>by simp [filR]
 | y::l,x=>by
  have e:filR f (y::l)=Bool.rec (motive:=fun _=>List Nat) (filR f l) (y::filR f l) (f y):=rfl
  rw [e]
  cases hy:f y with
  | false =>
   show x∈filR f l ↔ _
   rw [filR_mem l x,List.mem_cons]
   constructor
   ·rintro ⟨h1,h2⟩; exact ⟨.inr h1,h2⟩
   ·rintro ⟨rfl | h1,h2⟩
    ·rw [hy] at h2; cases h2
    ·exact ⟨h1,h2⟩
  | true =>
   show x∈y::filR f l ↔ _
   rw [List.mem_cons,filR_mem l x,List.mem_cons]
   constructor
   ·rintro (rfl | ⟨h1,h2⟩)
    ·exact ⟨.inl rfl,hy⟩
    ·exact ⟨.inr h1,h2⟩
   ·rintro ⟨rfl | h1,h2⟩
    ·exact .inl rfl
    ·exact .inr ⟨h1,h2⟩
theorem getB_subT (t:Sb):∀ (l:List Nat) (b:Nat),getB (subT t l) b=if b∈l then getB t b else none
 | [],b=>by simp; rfl
 | c::l,b=>by
  have e:subT t (c::l)=setB (getB t c) c (subT t l):=rfl
  rw [e,getB_setB,getB_subT t l b]
  by_cases h:b=c
  ·subst h; simp
  ·rw [if_neg h]
   by_cases h2:b∈l
   ·rw [if_pos h2,if_pos (List.mem_cons_of_mem _ h2)]
   ·rw [if_neg h2,if_neg (by rw [List.mem_cons]; rintro (e | e); exact h e; exact h2 e)]
theorem noN_id {x:Option Blk} (h:∀ sz rows,x ≠ some (.nar sz rows)):noN x=x:=by
 cases x with
 | none=>rfl
 | some x =>
  cases x with
  | nar sz rows=>exact absurd rfl (h sz rows)
  | _=>rfl
theorem isSome_rec {x:Option Blk}:(Option.rec (motive:=fun _=>Bool) false (fun _=>true) x:Bool)=true ↔ x ≠ none:=by
 cases x with
 | none=>simp
 | some y=>simp
theorem lk1_some {R:List Nat} {t:Sb} {b:Nat} {x:Blk} (h:lk1 R t b=some x):b∈R∧getB t b=some x:=by
 have h:Bool.rec (motive:=fun _=>Option Blk) none (getB t b) (hasR R b)=some x:=h
 cases hb:hasR R b with
 | false=>rw [hb] at h; cases h
 | true=>rw [hb] at h; exact ⟨(hasR_iff _ _).1 hb,h⟩
theorem lk1_of {R:List Nat} {t:Sb} {b:Nat} (hb:b∈R):lk1 R t b=getB t b:=by
 show Bool.rec (motive:=fun _=>Option Blk) none (getB t b) (hasR R b)=_
 rw [(hasR_iff _ _).2 hb]
section
variable {P:Program} {T:Tab} (hT:TabOK P T) (hW:PWf P) (hnar:T.nar=0) (hgl:∀ g,T.gl g=none) {call:CallV} (hcall:CallOK P T call)
include hgl hcall in
theorem callF_sem {all:Array Oper} {o:Oper} {f:Operand} {args:Array Operand} {ts:Array TypeId} (ho:o.op=.call { callee:=.value f,args:=args,argTypes:=ts }) {tm:Tr PV} {er:List PV} (htm:∀ i,getP tm i=getL er i) {k:Nat} {caps:List PV} (hf:evV tm f=.fn k caps)
  {n:Nat} {t:Sb} {id:Nat} {E' : EV} {tc:Tc} (hnt:GT t id) (h:callF call k (appR (evA1 (evV tm) args.toList) caps) tm n t id o.dst=some (E',tc)) :
  ∃ v m δ,SemF P T all o er (lk1 tc.1 t) id m v δ∧E'.tm=putT1 tm n o.dst v∧E'.n=n∧E'.nx=id+m∧(∀ st:St,(∀ b,lkS st b=getB t b)→∀ b,lkS (applyD δ st) b=getB E'.st b)∧GT E'.st E'.nx ∧
   (∀ b,lastD δ b ≠ none→(id≤b∧b<id+m)∨getB t b ≠ none)∧(∀ b sz rows,lastD δ b ≠ some (some (.nar sz rows)))∧(∀ b,lastD δ b ≠ none→b∈tc.2.2)∧(∀ b∈tc.2.2,b∈tc.2.1):=by
 unfold callF at h
 simp only at h
 generalize hρ:rch (getB t) 8 (nmLs (appR (evA1 (evV tm) args.toList) caps) []) []=ρ at h
 split at h
 ·rename_i hchk
  obtain ⟨c1,c2⟩:=and_tt hchk
  obtain ⟨c2,c3⟩:=and_tt c2
  have c1:∀ b∈ρ,b<id:=fun b hb=>Nat.le_of_ble_eq_true (allR_spec c1 b hb)
  have c3:∀ b∈ρ,allNB (hasR ρ) (getB t b)=true:=fun b hb=>allR_spec c3 b hb
  split at h
  ·rename_i v st1 id1 hc
   have hF:=hcall _ _ _ _ _ _ _ hc
   generalize hS:appN (filR (fun b=>Option.rec (motive:=fun _=>Bool) false (fun _=>true) (getB t b)) ρ) (filR (fun b=>Bool.rec (motive:=fun _=>Bool) false (Nat.ble (Nat.succ b) id1) (Nat.ble id b)) (rch (getB st1) 8 (nmL v ρ) []))=S at h
   have hle0:Nat.ble id id1=true:=by
    cases hle0:Nat.ble id id1 with
    | true=>rfl
    | false=>rw [hle0] at h; cases h
   rw [hle0] at h
   have hle:=Nat.le_of_ble_eq_true hle0
   simp only [Option.some.injEq,Prod.mk.injEq] at h
   obtain ⟨rfl,rfl⟩:=h
   have hSin:∀ b,b∈ρ→getB t b ≠ none→b∈S:=fun b h1 h2=>by
    rw [← hS,appN_eq,List.mem_append]
    exact .inl ((filR_mem _ _).2 ⟨h1,isSome_rec.2 h2⟩)
   have hSout:∀ b,b∈S→(b∈ρ∧getB t b ≠ none)∨(id≤b∧b<id1):=fun b hb=>by
    rw [← hS,appN_eq,List.mem_append] at hb
    rcases hb with hb | hb
    ·obtain ⟨h1,h2⟩:=(filR_mem _ _).1 hb
     exact .inl ⟨h1,isSome_rec.1 h2⟩
    ·obtain ⟨h1,h2⟩:=(filR_mem _ _).1 hb
     right
     cases hb2:Nat.ble id b with
     | false=>rw [hb2] at h2; cases h2
     | true =>
      rw [hb2] at h2
      exact ⟨Nat.le_of_ble_eq_true hb2,Nat.le_of_ble_eq_true h2⟩
   generalize hWd:filR (fun b=>notB (eqBk (getB st1 b) (getB t b))) S=W
   have hWS:∀ b∈W,b∈S:=fun b hb=>by rw [← hWd] at hb; exact ((filR_mem _ _).1 hb).1
   have hSW:∀ b,b∈S→b ∉ W→getB st1 b=getB t b:=fun b h1 h2=>by
    rw [← hWd,filR_mem] at h2
    refine eqBk_sound ?_
    cases he:eqBk (getB st1 b) (getB t b) with
    | true=>rfl
    | false=>exact absurd ⟨h1,by rw [he]; rfl⟩ h2
   have hsubNN:GT (subT t ρ) id:=by
    refine ⟨fun b sz rows hb=>?_,fun b hb=>?_⟩
    ·rw [getB_subT] at hb
     by_cases h:b∈ρ
     ·rw [if_pos h] at hb; exact hnt.1 b sz rows hb
     ·rw [if_neg h] at hb; cases hb
    ·rw [getB_subT]
     by_cases h:b∈ρ
     ·have:=c1 b h; omega
     ·rw [if_neg h]
   obtain ⟨⟨hn1,hn1b⟩,hF⟩:=hF hsubNN
   have lδ:∀ b,lastD (W.map fun b=>(b,getB st1 b)) b=if b∈W then some (getB st1 b) else none:=fun b=>lastD_map W b
   have hgetE:∀ b,getB (applB (S.map fun b=>(b,getB st1 b)) t) b=if b∈S then getB st1 b else getB t b:=fun b=>by
    rw [getB_applB,lastD_san,lastD_map]
    by_cases h:b∈S
    ·rw [if_pos h,if_pos h]; exact noN_id fun sz rows=>hn1 b sz rows
    ·rw [if_neg h,if_neg h]; rfl
   refine ⟨v,id1 - id,W.map fun b=>(b,getB st1 b),?_,rfl,rfl,by show id1=_; omega,fun st hst b=>?_,?_,fun b hb=>?_,fun b sz rows hb=>?_,fun b hb=>?_,hWS⟩
   ·intro C ps Y σ a w st n2 hl H hn hlk hwin hpas hle2 next Q hnext
    have hwin:∀ b,id≤b→b<id1→σ b=none∧lkS st b=none:=fun b h1 h2=>hwin b h1 (by omega)
    have hev:=tmp_looks (T:=T) hl
    rw [ho] at hev
    have hevV:=evV_eq (T:=T) hgl htm
    have hfv:=ev_rep H f
    rw [hev f (by simp [Op.operands,Call.operands]),← hevV,hf] at hfv
    unfold Rep at hfv
    obtain ⟨cs,ef,hcs⟩:=hfv
    have hargs:=evA_rep H args.toList
    rw [evA_congr (ps:=ps) (qs:=er) args.toList fun x hx=>hev x (by simp only [Op.operands,Call.operands]; simp; exact .inr (by simpa using hx))] at hargs
    have hall:=RepL.app _ _ _ _ hargs hcs
    rw [appL_eq,← evA1_eq hevV,← appR_eq] at hall
    let σc:Sg:=fun b=>if b∈ρ then σ b else none
    have hσc:∀ b,b∈ρ→σc b=σ b:=fun b hb=>if_pos hb
    have hσn:∀ b,b ∉ ρ→σc b=none:=fun b hb=>if_neg hb
    have hσp:∀ b,hasR ρ b=true→σc b=σ b:=fun b hb=>hσc b ((hasR_iff _ _).1 hb)
    have hσs:∀ b l,σc b=some l→σ b=some l:=fun b l hb=>by
     by_cases h:b∈ρ
     ·rw [← hσc b h]; exact hb
     ·rw [hσn b h] at hb; cases hb
    obtain ⟨str,hstr⟩:=stOf (subT t ρ)
    have hsub:∀ b x,lkS str b=some x→lkS st b=some x∧b<id∧σc b=σ b∧b∈ρ:=fun b x hx=>by
     rw [hstr,getB_subT] at hx
     by_cases h:b∈ρ
     ·rw [if_pos h] at hx
      exact ⟨hlk b x (by rw [lk1_of h]; exact hx),c1 b h,hσc b h,h⟩
     ·rw [if_neg h] at hx; cases hx
    have hstR:StRep w Y σc str:=by
     refine ⟨fun b x hx=>?_,fun b b' x x' l l' hx hx' hl hl' e=>?_⟩
     ·obtain ⟨h1,h2,h3,h4⟩:=hsub b x hx
      have h5:=c3 b h4
      rw [hstr,getB_subT,if_pos h4] at hx
      rw [hx] at h5
      rcases H.store.blk b x h1 with ⟨l,hl,hB⟩ | ⟨h6,h7⟩
      ·exact .inl ⟨l,by rw [h3]; exact hl,allNB_rep hσp h5 hB⟩
      ·exact .inr ⟨by rw [h3]; exact h6,h7⟩
     ·exact H.store.inj b b' x x' l l' (hsub b x hx).1 (hsub b' x' hx').1 (hσs b l hl) (hσs b' l' hl') e
    obtain ⟨hent,hcall2⟩:=hF w Y σc _ str hstr H.glob H.yold (fun b hb=>hσn b fun h=>by have:=c1 b h; omega) (allNs_rep hσp _ _ c2 hall) hstR
    unfold Oper.wp
    rw [call_run ho ef hent]
    refine Calls.mono hcall2 fun e w' hh=>?_
    obtain ⟨cv,Y',σ1,st1L,rfl,hst1,H'⟩:=hh
    obtain ⟨σ',H2,hv,hoff⟩:=SW.composeF (st':=applyD (W.map fun b=>(b,getB st1 b)) st) H (T':=T.at id) rfl rfl (fun b x hx=>by obtain ⟨h1,h2,h3,_⟩:=hsub b x hx; exact ⟨h1,h2,h3⟩) hσs hwin hpas (by omega) H' (fun b x hx=>by
     rw [lk_applyD,lδ] at hx
     by_cases hW2:b∈W
     ·rw [if_pos hW2] at hx
      simp only at hx
      left
      refine ⟨?_,by rw [hst1]; exact hx⟩
      rcases hSout b (hWS b hW2) with ⟨h1,h2⟩ | h1
      ·left; rw [hstr,getB_subT,if_pos h1]; exact h2
      ·exact .inr h1
     ·rw [if_neg hW2] at hx
      simp only at hx
      cases hs:lkS str b with
      | none=>exact .inr ⟨rfl,hx⟩
      | some y =>
       obtain ⟨h1,h2,h3,h4⟩:=hsub b y hs
       rw [hstr,getB_subT,if_pos h4] at hs
       left
       refine ⟨.inl (by simp),?_⟩
       rw [h1] at hx; cases hx
       rw [hst1,hSW b (hSin b h4 (by rw [hs]; simp)) hW2]; exact hs) (fun b sz rows hb=>by
     rw [lk_applyD,lδ] at hb
     by_cases hW2:b∈W
     ·rw [if_pos hW2] at hb; exact hn1 b sz rows hb
     ·rw [if_neg hW2] at hb; exact hn b sz rows hb)
    unfold RepL at hv
    obtain ⟨c,cs',e,h6,h7⟩:=hv
    cases e
    exact hnext cv w' Y' σ' _ H2 (fun b=>lk_applyD _ _ _) (fun b hb=>hoff b (hb.elim .inl fun h=>.inr (by omega))) h6 (fun B D hD=>hD.step hstR H')
   ·rw [lk_applyD,lδ,hst]
    show _=getB (applB (S.map fun b=>(b,getB st1 b)) t) b
    rw [hgetE]
    by_cases hW2:b∈W
    ·rw [if_pos hW2,if_pos (hWS b hW2)]
    ·rw [if_neg hW2]
     by_cases hS2:b∈S
     ·rw [if_pos hS2,hSW b hS2 hW2]
     ·rw [if_neg hS2]
   ·refine ⟨fun b sz rows hb=>?_,fun b hb=>?_⟩
    rotate_left
    ·show getB (applB (S.map fun b=>(b,getB st1 b)) t) b=none
     have hb:id1≤b:=hb
     rw [hgetE]
     by_cases hS2:b∈S
     ·rw [if_pos hS2]; exact hn1b b hb
     ·rw [if_neg hS2]; exact hnt.2 b (by omega)
    have hb:getB (applB (S.map fun b=>(b,getB st1 b)) t) b=some (.nar sz rows):=hb
    rw [hgetE] at hb
    by_cases hS2:b∈S
    ·rw [if_pos hS2] at hb; exact hn1 b sz rows hb
    ·rw [if_neg hS2] at hb; exact hnt.1 b sz rows hb
   ·rw [lδ] at hb
    by_cases hW2:b∈W
    ·rcases hSout b (hWS b hW2) with ⟨h1,h2⟩ | h1
     ·exact .inr h2
     ·exact .inl (by omega)
    ·rw [if_neg hW2] at hb; exact absurd rfl hb
   ·rw [lδ] at hb
    by_cases hW2:b∈W
    ·rw [if_pos hW2] at hb
     simp only [Option.some.injEq] at hb
     exact hn1 b sz rows hb
    ·rw [if_neg hW2] at hb; cases hb
   ·rw [lδ] at hb
    by_cases hW2:b∈W
    ·exact hW2
    ·rw [if_neg hW2] at hb; exact absurd rfl hb
  ·cases h
 ·cases h
end
end Go.Pv
namespace Go.Pv
open Go
section
variable {P:Program} {T:Tab} (hT:TabOK P T) (hW:PWf P) (hnar:T.nar=0) (hgl:∀ g,T.gl g=none) {call:CallV} (hcall:CallOK P T call)
theorem finF_inv {r:Rs} {R:List Nat} {tm:Tr PV} {n:Nat} {st:Sb} {nx:Nat} {dst:Option Nat} {E:EV} {tc:Tc} (h:finF r R tm n st nx dst=some (E,tc)) :
  ∃ v δ,r=some (v,δ)∧E=⟨putT1 tm n dst v,n,applB δ st,nx+1⟩∧tc=(R,keysR δ,keysR δ)∧∀ b∈keysR δ,b=nx∨getB st b ≠ none:=by
 unfold finF at h
 split at h
 ·rename_i v δ
  split at h
  ·rename_i hc
   simp only [Option.some.injEq,Prod.mk.injEq] at h
   obtain ⟨rfl,rfl⟩:=h
   refine ⟨v,δ,rfl,rfl,rfl,fun b hb=>?_⟩
   have hc:Bool.rec (motive:=fun _=>Bool) (Option.rec (motive:=fun _=>Bool) false (fun _=>true) (getB st b)) true (Nat.beq b nx)=true:=allR_spec hc b hb
   cases hn:Nat.beq b nx with
   | true=>exact .inl (Nat.eq_of_beq_eq_true hn)
   | false=>rw [hn] at hc; exact .inr (isSome_rec.1 hc)
  ·cases h
 ·cases h
theorem gdV_semGF (P:Program) {all:Array Oper} {o:Oper} {tm:Tr PV} {er:List PV} {g:Bool} (htm:∀ i,getP tm i=getL er i) (h:gdV all.toList o.guard tm=some g):SemGF T all o er g:=by
 intro C ps Y σ a w st n hl H
 have h2:∃ tm' : Tr PV,(∀ i,getP tm' i=getL ps i)∧gdV all.toList o.guard tm'=some g:=by
  let mk:List PV→Tr PV:=fun l=>argT l 0 Tr.e
  have hmk:∀ (l:List PV) (k:Nat) (t:Tr PV) (i:Nat),getP (argT l k t) i=if k≤i∧i<k+l.length then getL l (i - k) else getP t i:=by
   intro l
   induction l with
   | nil=>intro k t i; rw [if_neg (by simp)]; rfl
   | cons x l ih =>
    intro k t i
    have e:argT (x::l) k t=argT l (k+1) (setP x k t):=rfl
    rw [e,ih,getP_setP]
    by_cases h1:i=k
    ·subst h1
     rw [if_neg (by omega),if_pos rfl,if_pos (by simp),Nat.sub_self]; rfl
    ·by_cases h2:k+1≤i∧i<k+1+l.length
     ·rw [if_pos h2,if_pos (by simp; omega)]
      obtain ⟨j,hj⟩:∃ j,i - k=j+1:=⟨i - k - 1,by omega⟩
      rw [hj,show i - (k+1)=j by omega]; rfl
     ·rw [if_neg h2,if_neg h1,if_neg (by simp; omega)]
  have hps:∀ i,getP (mk ps) i=getL ps i:=fun i=>by
   show getP (argT ps 0 Tr.e) i=_
   rw [hmk]
   by_cases h:i<ps.length
   ·rw [if_pos (by omega),Nat.sub_zero]
   ·rw [if_neg (by omega),getL_ge (by omega)]; rfl
  refine ⟨mk ps,hps,?_⟩
  cases hg:o.guard with
  | none=>rw [hg] at h; exact h
  | some p =>
   obtain ⟨j,want⟩:=p
   rw [hg] at h
   have h:Option.rec (motive:=fun _=>Option Bool) none (fun o=>Option.rec (motive:=fun _=>Option Bool) none (fun d=>gdK (getP tm d) want) o.dst) (nthO all.toList j)=some g:=h
   show Option.rec (motive:=fun _=>Option Bool) none (fun o=>Option.rec (motive:=fun _=>Option Bool) none (fun d=>gdK (getP (mk ps) d) want) o.dst) (nthO all.toList j)=some g
   cases hj:nthO all.toList j with
   | none=>rw [hj] at h; cases h
   | some oj =>
    rw [hj] at h
    have h:Option.rec (motive:=fun _=>Option Bool) none (fun d=>gdK (getP tm d) want) oj.dst=some g:=h
    show Option.rec (motive:=fun _=>Option Bool) none (fun d=>gdK (getP (mk ps) d) want) oj.dst=some g
    cases hd:oj.dst with
    | none=>rw [hd] at h; cases h
    | some d =>
     rw [hd] at h
     have h:gdK (getP tm d) want=some g:=h
     show gdK (getP (mk ps) d) want=some g
     rw [hps,hl d ?_,← htm]
     ·exact h
     ·unfold Oper.looksAt
      refine List.mem_append_right _ ?_
      rw [nthO_eq,Array.getElem?_toList] at hj
      simp [hg,hj,hd]
 obtain ⟨tm',h3,h4⟩:=h2
 exact gdV_sound P h3 h4 H
include hT hW hnar hgl hcall in
theorem opsF_chain {all:Array Oper}:∀ (l:List Oper) (V V' : EV) (tr:List Tc) (p:List PV) (st:St),(∀ i,getP V.tm i=getL p i)→V.n=p.length→(∀ b,lkS st b=getB V.st b)→GT V.st V.nx→opsF T.ti call all.toList l V=some (V',tr) →
  ∃ rs f stf,ChF P T all l rs p st V.nx f stf V'.nx∧(∀ i,getP V'.tm i=getL f i)∧V'.n=f.length∧(∀ b,lkS stf b=getB V'.st b)∧GT V'.st V'.nx∧(∀ (i:Nat) (r:Rec),rs[i]?=some r→∃ tc,tr[i]?=some tc∧TcOK r tc)
 | [],V,V',tr,p,st,htm,hn,hst,hnn,h=>by
  have h:some (V,([]:List Tc))=some (V',tr):=h
  cases h
  exact ⟨[],p,st,⟨rfl,rfl,rfl⟩,htm,hn,hst,hnn,fun i r hr=>by simp at hr⟩
 | o::l,⟨tm,n,t,nx⟩,V',tr,p,st,htm,hn,hst,hnn,h=>by
  have htm:∀ i,getP tm i=getL p i:=htm
  have hn:n=p.length:=hn
  have hst:∀ b,lkS st b=getB t b:=hst
  have hnn:GT t nx:=hnn
  have h:Option.rec (motive:=fun _=>Option (EV × List Tc)) none
   (fun g=>Bool.rec (motive:=fun _=>Option (EV × List Tc)) (consF ([],[],[]) (opsF T.ti call all.toList l ⟨putT1 tm n o.dst PV.undef,n,t,nx⟩)) (Option.rec (motive:=fun _=>Option (EV × List Tc)) none (fun p=>Prod.rec (motive:=fun _=>Option (EV × List Tc)) (fun E' tc=>consF tc (opsF T.ti call all.toList l E')) p) (stepF T.ti call o tm n t nx)) g) (gdV all.toList o.guard tm)=some (V',tr):=h
  have consF_inv:∀ {tc:Tc} {r:Option (EV × List Tc)},consF tc r=some (V',tr)→∃ tr',r=some (V',tr')∧tr=tc::tr':=by
   intro tc r hh
   unfold consF at hh
   split at hh
   ·cases hh; exact ⟨_,rfl,rfl⟩
   ·cases hh
  cases hg:gdV all.toList o.guard tm with
  | none=>rw [hg] at h; cases h
  | some g =>
   rw [hg] at h
   have hgd:=gdV_semGF (T:=T) P htm hg
   have cont:∀ (V1:EV) (tc:Tc) (r:Rec) (m:Nat),StepFO P T all o r p st nx m→TcOK r tc→V1.tm=putT1 tm n o.dst r.v→V1.n=n→V1.nx=nx+m→(∀ b,lkS (applyD r.δ st) b=getB V1.st b)→GT V1.st V1.nx→consF tc (opsF T.ti call all.toList l V1)=some (V',tr) →
     ∃ rs f stf,ChF P T all (o::l) rs p st nx f stf V'.nx∧(∀ i,getP V'.tm i=getL f i)∧V'.n=f.length∧(∀ b,lkS stf b=getB V'.st b)∧GT V'.st V'.nx∧(∀ (i:Nat) (r:Rec),rs[i]?=some r→∃ tc,tr[i]?=some tc∧TcOK r tc):=by
    intro V1 tc r m hS hTc e1 e2 e3 e4 e5 hh
    obtain ⟨tr',hh2,rfl⟩:=consF_inv hh
    obtain ⟨rs,f,stf,hc,h1,h2,h3,h4,h5⟩:=opsF_chain l V1 V' tr' (putT p o.dst r.v) (applyD r.δ st) (by rw [e1]; exact putT1_get htm hn _ _) (by rw [e2,putT_length]; exact hn) e4 e5 hh2
    rw [e3] at hc
    refine ⟨r::rs,f,stf,⟨m,hS,hc⟩,h1,h2,h3,h4,fun i r' hr=>?_⟩
    cases i with
    | zero=>simp at hr; subst hr; exact ⟨tc,rfl,hTc⟩
    | succ i=>exact h5 i r' (by simpa using hr)
   cases g with
   | false =>
    refine cont ⟨putT1 tm n o.dst PV.undef,n,t,nx⟩ ([],[],[]) ⟨p,p,noLk,.undef,[],nx,false,false,false⟩ 0 ⟨rfl,hgd,fun e=>by (cases e),fun _=>⟨rfl,rfl⟩,fun b x e=>by (cases e),fun b e=>absurd rfl e,fun b sz rows e=>by (cases e)⟩ ⟨fun b e=>absurd rfl e,fun b e=>absurd rfl e,fun b e=>by (cases e)⟩ rfl rfl rfl (fun b=>hst b) hnn h
   | true =>
    have h:Option.rec (motive:=fun _=>Option (EV × List Tc)) none (fun p=>Prod.rec (motive:=fun _=>Option (EV × List Tc)) (fun E' tc=>consF tc (opsF T.ti call all.toList l E')) p) (stepF T.ti call o tm n t nx)=some (V',tr):=h
    cases hs:stepF T.ti call o tm n t nx with
    | none=>rw [hs] at h; cases h
    | some q =>
     obtain ⟨V1,tc⟩:=q
     rw [hs] at h
     have h:consF tc (opsF T.ti call all.toList l V1)=some (V',tr):=h
     unfold stepF at hs
     cases hc:isCall o.op with
     | none =>
      rw [hc] at hs
      have hs:finF (opV o.op T.ti (evV tm) (lk1 (rdO o.op (evV tm)) t) nx) (rdO o.op (evV tm)) tm n t nx o.dst=some (V1,tc):=hs
      obtain ⟨v,δ,hv,rfl,rfl,hk⟩:=finF_inv hs
      refine cont _ _ ⟨p,p,lk1 (rdO o.op (evV tm)) t,v,sanD δ,nx,true,true,false⟩ 1 ⟨rfl,hgd,fun _=>opV_semF hT hW hnar hgl htm hv,fun e=>by (cases e),fun b x hx=>by rw [hst]; exact (lk1_some hx).2,fun b hb=>?_,fun b sz rows=>sanD_nn δ b sz rows⟩ ⟨fun b hb=>?_,fun b hb=>sanD_none δ b hb,fun b hb=>hb⟩ rfl rfl rfl (fun b=>?_) ⟨applB_nn δ t hnn.1,fun b hb=>?_⟩ h
      ·rcases hk b (sanD_none δ b hb) with rfl | h1
       ·exact .inl ⟨Nat.le_refl _,by omega⟩
       ·exact .inr (by rw [hst]; exact h1)
      ·cases hx:lk1 (rdO o.op (evV tm)) t b with
       | none=>exact absurd hx hb
       | some x=>exact (lk1_some hx).1
      ·show lkS (applyD (sanD δ) st) b=getB (applB δ t) b
       rw [lk_applyD,getB_applB,hst]
       cases lastD (sanD δ) b <;> rfl
      ·have hb:nx+1≤b:=hb
       show getB (applB δ t) b=none
       rw [applB_out δ t b fun hk2=>?_]
       ·exact hnn.2 b (by omega)
       ·rcases hk b hk2 with h1 | h1
        ·omega
        ·exact h1 (hnn.2 b (by omega))
     | some q =>
      obtain ⟨f,args⟩:=q
      rw [hc] at hs
      obtain ⟨ts,ho⟩:=isCall_inv hc
      simp only at hs
      split at hs
      ·rename_i k caps hf
       obtain ⟨v,m,δ,hsem,e1,e2,e3,e4,e5,e6,e7,e8,e9⟩:=callF_sem (all:=all) hgl hcall ho htm hf hnn hs
       exact cont V1 tc ⟨p,p,lk1 tc.1 t,v,δ,nx,true,true,false⟩ m ⟨rfl,hgd,fun _=>hsem,fun e=>by (cases e),fun b x hx=>by rw [hst]; exact (lk1_some hx).2,fun b hb=>(e6 b hb).imp (fun h=>h) (fun h=>by rw [hst]; exact h),e7⟩
        ⟨fun b hb=>by
         cases hx:lk1 tc.1 t b with
         | none=>exact absurd hx hb
         | some x=>exact (lk1_some hx).1,e8,e9⟩ e1 e2 e3 (e4 st hst) e5 h
      ·cases hs
end
end Go.Pv
namespace Go.Pv
open Go
section
variable {P:Program} {T:Tab}
theorem regF_sound (hT:TabOK P T) (hW:PWf P) (hnar:T.nar=0) (hgl:∀ g,T.gl g=none) {call:CallV} (hcall:CallOK P T call) {id:Nat} {l:Array Oper} {V V' : EV} {m:Nat} (h:regF l (opsF T.ti call l.toList l.toList V)=some (m,V')) {C:Ctx T} {D:List Nat} {a:Act} {w:World} (hA:EvOK C V D a w) {Q:Exit→Act→World→Prop} (hQ:∀ a' w',EvOK C V' D a' w'→Q .normal a' w') :
  m=0∧(Code.region id l true).wp P Q a w:=by
 obtain ⟨hnn,hdf,ps,st,Y,σ,htm,hn,hst,H,hD⟩:=hA
 unfold regF at h
 split at h
 ·rename_i E tr ho
  split at h
  ·rename_i hchk
   cases h
   obtain ⟨hc1,hc2⟩:=and_tt hchk
   refine ⟨rfl,?_⟩
   obtain ⟨rs,f,stf,hch,h1,h2,h3,h4,h5⟩:=opsF_chain hT hW hnar hgl hcall l.toList V V' tr ps st htm hn hst hnn ho
   obtain ⟨hl1,hl2,hl3⟩:=hch.len _ _
   have F:FactsF P T l rs ps st V.nx f V'.nx:=by
    refine ⟨hc1,by simpa using hl1,fun i o hi=>?_,hl2,fun t ht=>hch.keep _ _ ht,fun b hb=>by rw [hst]; exact hnn.2 b hb,fun i k ri rk hik hi hk hc=>?_⟩
    ·obtain ⟨r,q,m,a0,a1,a2,a3,a4,a6,a7,a8⟩:=hch.get _ _ i o (by simpa using hi)
     exact ⟨r,q,m,a0,a1,a2,a3,a4,fun t ht=>a6 t fun j oj hj hoj=>ht j oj hj (by simpa using hoj),fun t ht=>a7 t fun j oj hj hoj=>ht j oj hj (by simpa using hoj),fun d hd hlt hn=>a8 d hd hlt fun j oj hj hoj=>hn j oj hj (by simpa using hoj)⟩
    ·obtain ⟨x,hx,hx2⟩:=h5 i ri hi
     obtain ⟨y,hy,hy2⟩:=h5 k rk hk
     have:=chkT_spec tr 0 hc2 i k x y hik hx hy
     rw [Nat.zero_add,Nat.zero_add] at this
     exact pairT_spec hx2 hy2 this hc
   have hrep:∀ j,j<l.size→(Array.replicate l.size false).getD j true=false:=fun j hj=>by simp [hj]
   have hno:∀ j o,l[j]?=some o→(Array.replicate l.size false).getD j true=true→False:=by
    intro j o hj hlj
    have hlt:j<l.size:=by
     rcases Nat.lt_or_ge j l.size with h' | h'
     ·exact h'
     ·simp [Array.getElem?_eq_none h'] at hj
    rw [hrep j hlt] at hlj; cases hlj
   refine wp_region_any hW.mixed (draw_anyF (C:=C) (D:=D) H.fix.1 F (fun a' w' Y' σ' stx hd' H' hstx hD'=>hQ a' w' ⟨h4,hd',f,stx,Y',σ',h1,h2,fun b=>?_,H',hD'⟩) l.size _ a _ (by simp) ?_ ?_ ?_)
   ·rw [hstx b,← hch.fin]; exact h3 b
   ·simp
   ·intro j o hj hlj; exact (hno j o hj hlj).elim
   ·refine ⟨hdf,Y,σ,ps,st,(H.drawn _).mono hl3,rfl,?_,fun t _=>rfl,fun b=>?_,fun j hj _ b hb1 _=>?_,?_,fun b sz rows=>by rw [hst]; exact hnn.1 b sz rows⟩
    ·intro j o t hj hdst hlj; exact (hno j o hj hlj).elim
    ·rw [lst_none _ _ _ _ fun k r hr hDD=>?_]; · rfl
     rw [Nat.zero_add] at hDD
     obtain ⟨ok,hok⟩:=F.oper hr
     exact (hno k ok hok hDD).elim
    ·obtain ⟨_,_,_,_,_,_,_,h6,_⟩:=F.get j _ (Array.getElem?_eq_getElem hj)
     exact H.next b (Nat.le_trans h6 hb1)
    ·exact ⟨hD.1,fun r hr=>hD.2 r hr⟩
  ·cases h
 ·cases h
end
end Go.Pv
namespace Go.Pv
open Go
section
variable {P:Program} {T:Tab}
theorem SW.allocOwn {C:Ctx T} {w:World} {Y:Nat→Prop} {σ:Sg} {ps:List PV} {vs:List Value} {st:St} {n:Nat} (H:SW C w Y σ ps vs st n) (hn:NNs st) (o:Obj):SW C (w.alloc o) (fun k=>Y k∨k=w.heap.size) σ ps vs st n:=by
 have hold:∀ k,k<w.heap.size→(w.alloc o).heap[k]?=w.heap[k]?:=by
  intro k hk
  show (w.heap.push o)[k]?=_
  rw [Array.getElem?_push,if_neg (by omega)]
 have hsz:(w.alloc o).heap.size=w.heap.size+1:=by show (w.heap.push o).size=_; simp
 have K:Keep w (w.alloc o) Y (fun k=>Y k∨k=w.heap.size) σ σ:=⟨fun k hk _=>hold k hk,fun k hk h=>h.resolve_right (by omega),by omega,SgLe.refl _⟩
 refine ⟨RepL.keep _ K _ H.vals,⟨fun b x hx=>?_,H.store.inj⟩,H.next,fun k hk=>?_,fun k hk=>.inl (H.y0 k hk),H.c0,fun k hk hlt=>?_,?_,H.own,H.glob.keep K.none,H.fix,Nest.none hn⟩
 ·rcases H.store.blk b x hx with ⟨l,hl,hB⟩ | h
  ·have:=hB.lt
   exact .inl ⟨l,hl,BlkRep.keep K (hold _ this) ⟨fun h=>h.resolve_right (by omega),.inl⟩ hB⟩
  ·exact .inr h
 ·rcases hk with h | h
  ·have:=H.yold k h; omega
  ·omega
 ·rcases hk with h | h
  ·exact H.yshr k h hlt
  ·have:=H.chg.size; omega
 ·exact ⟨H.chg.os,H.chg.tape,H.chg.output,by have:=H.chg.size; omega,fun k hk hM=>by rw [hold k (Nat.lt_of_lt_of_le hk H.chg.size)]; exact H.chg.block k hk hM⟩
theorem SW.putOwn {C:Ctx T} {w:World} {Y:Nat→Prop} {σ:Sg} {ps:List PV} {vs:List Value} {st:St} {n:Nat} (H:SW C w Y σ ps vs st n) (hn:NNs st) {l:Nat} {o:Obj} (o' : Obj) (hy:Y l) (hB:C.w0.heap.size≤l) (ho:w.heap[l]?=some o) (hc:∀ arr ty,o ≠ .cells arr ty (0,0)):SW C (w.putObj l o') Y σ ps vs st n:=by
 have hoth:∀ k,k ≠ l→(w.putObj l o').heap[k]?=w.heap[k]?:=fun k hk=>World.putObj_heap_other hk
 have hsz:(w.putObj l o').heap.size=w.heap.size:=by simp
 have K:Keep w (w.putObj l o') Y Y σ σ:=⟨fun k _ hk=>hoth k fun e=>hk (e ▸ hy),fun _ _ h=>h,by omega,SgLe.refl _⟩
 refine ⟨RepL.keep _ K _ H.vals,⟨fun b x hx=>?_,H.store.inj⟩,H.next,fun k hk=>by rw [hsz]; exact H.yold k hk,H.y0,H.c0,H.yshr,?_,H.own,H.glob.keep K.none,H.fix,Nest.none hn⟩
 ·rcases H.store.blk b x hx with ⟨l2,hl,hBl⟩ | h
  ·refine .inl ⟨l2,hl,BlkRep.keep K (hoth _ fun e=>?_) Iff.rfl hBl⟩
   obtain ⟨arr,ty,h1⟩:=InSt.cells H.store (k:=l2.cb) ⟨b,x,l2,hx,hl,rfl⟩
   rw [e,ho] at h1; cases h1; exact hc arr ty rfl
  ·exact .inr h
 ·exact ⟨H.chg.os,H.chg.tape,H.chg.output,by rw [hsz]; exact H.chg.size,fun k hk hM=>by rw [hoth k (by omega)]; exact H.chg.block k hk hM⟩
def exitOf:Nat→Exit
 | 0=>.normal
 | 1=>.ret
 | n+2=>.exit n
def TrV (P:Program) (T:Tab) (c:Code) (V:EV) (m:Nat) (V' : EV):Prop:=∀ (C:Ctx T) (D:List Nat) a w,EvOK C V D a w→c.wp P (fun e a' w'=>e=exitOf m∧∃ D',EvOK C V' D' a' w') a w
theorem bol_eval (hgl:∀ g,T.gl g=none) {c:Operand} {V:EV} {C:Ctx T} {D:List Nat} {a:Act} {w:World} (hA:EvOK C V D a w) {b:Bool} (h:evV V.tm c=.bool b):a.eval c=.bool b:=by
 obtain ⟨_,_,ps,st,Y,σ,htm,_,_,H,_⟩:=hA
 have:=ev_rep H c
 rw [← evV_eq hgl htm,h] at this
 exact rep_bool this
theorem range_sound (hgl:∀ g,T.gl g=none) {call:CallV} (hcall:CallOK P T call) {g:Operand} {ps:Array Tmp} {assign body:Code} {V V' : EV} {m:Nat} (h:rangeV call g V=some (m,V')):TrV P T (.rangeFunc g ps assign body) V m V':=by
 obtain ⟨tm,n,t,nx⟩:=V
 have h:Option.rec (motive:=fun _=>Oc) none (fun p=>Prod.rec (motive:=fun _=>Oc) (fun _ q=>Prod.rec (motive:=fun _=>Oc) (fun st nx=>some (0,⟨tm,n,st,nx⟩)) q) p) (fnE (evV tm g) fun k caps=>call k (PV.top::caps) t nx)=some (m,V'):=h
 cases hr:fnE (evV tm g) fun k caps=>call k (PV.top::caps) t nx with
 | none=>rw [hr] at h; cases h
 | some q =>
  obtain ⟨v,t',n'⟩:=q
  rw [hr] at h
  cases h
  obtain ⟨k,caps,hf,hc⟩:=fnE_inv hr
  intro C D a w hA
  obtain ⟨hnn,hdf,pv,st,Y,σ,htm,hn,hst,H,hD⟩:=hA
  have hst:∀ b,lkS st b=getB t b:=hst
  have H:SW C w Y σ pv a.tmps.toList st nx:=H
  have hnn:GT t nx:=hnn
  have hNN:NNs st:=fun b sz rows=>by rw [hst]; exact hnn.1 b sz rows
  have hg:=ev_rep H g
  rw [← evV_eq hgl htm,hf] at hg
  unfold Rep at hg
  obtain ⟨cs,eg,hcs⟩:=hg
  refine wpIn_wide.1 (wpIn_rangeFunc (F:=Fence.wide) (n:=1) fun fn _=>?_)
  let rc:Loop:={ state:=.ready,pending:=none,fn,tmps:=a.tmps,params:=ps,assign,body,defers:=w.heap.size }
  let w1:=(w.alloc (.deferred (some []))).alloc (.loop rc)
  have hD1:w1.heap[w.heap.size]?=some (.deferred (some [])):=by
   show ((w.heap.push _).push _)[w.heap.size]?=_
   rw [Array.getElem?_push,if_neg (by simp),Array.getElem?_push,if_pos rfl]
  have hL1:w1.heap[w.heap.size+1]?=some (.loop rc):=by
   show ((w.heap.push _).push _)[w.heap.size+1]?=_
   rw [Array.getElem?_push,if_pos (by simp)]
  have hold:∀ k,k<w.heap.size→w1.heap[k]?=w.heap[k]?:=fun k hk=>by
   show ((w.heap.push _).push _)[k]?=_
   rw [Array.getElem?_push,if_neg (by simp; omega),Array.getElem?_push,if_neg (by omega)]
  have H0:=H.allocOwn hNN (.deferred (some []))
  have H1:=H0.allocOwn hNN (.loop rc)
  have hsz:(w.alloc (.deferred (some []))).heap.size=w.heap.size+1:=by simp
  rw [hsz] at H1
  obtain ⟨hG,hF⟩:=hcall _ _ _ _ _ _ _ hc hnn
  have harg:RepL w1 (fun k=>(Y k∨k=w.heap.size)∨k=w.heap.size+1) σ (.top::caps) (.func (.yield (w.heap.size+1)) #[] #[]::cs):=by
   unfold RepL
   refine ⟨_,cs,rfl,by simp [Rep],RepL.keep caps (σ:=σ) ⟨fun k hk _=>hold k hk,fun k hk h=>?_,?_,SgLe.refl _⟩ cs hcs⟩
   ·rcases h with (h | h) | h
    ·exact h
    ·omega
    ·omega
   ·show w.heap.size≤((w.heap.push _).push _).size; simp; omega
  obtain ⟨hent,hcalls⟩:=hF w1 _ σ _ st hst H1.glob H1.yold H1.next harg H1.store
  refine ⟨w.heap.size+1,[{ target:=.collected w.heap.size,args:=#[] }],w1,{ target:=.fn (.func k) cs.toArray,args:=#[.func (.yield (w.heap.size+1)) #[] #[]] },w1,k,
   #[.func (.yield (w.heap.size+1)) #[] #[]] ++ cs.toArray,w1,run_enterLoop_outer _ _ _ _ _,?_,fun _ _=>trivial,?_,fun e=>by (simp [Fence.wide] at e),?_⟩
  ·simp only [resolve,eg]
   simp [go_sem]
  ·have e : #[.func (.yield (w.heap.size+1)) #[] #[]] ++ cs.toArray=(Value.func (.yield (w.heap.size+1)) #[] #[]::cs).toArray:=by apply Array.ext'; simp
   rw [e,← hent]
   simp [invoke,go_sem]
  ·rw [callsIn_wide]
   have e : #[.func (.yield (w.heap.size+1)) #[] #[]] ++ cs.toArray=(Value.func (.yield (w.heap.size+1)) #[] #[]::cs).toArray:=by apply Array.ext'; simp
   rw [e]
   refine Calls.mono hcalls fun ed w3 hh=>?_
   obtain ⟨cv,Y3,σ3,st3,rfl,hst3,H3⟩:=hh
   obtain ⟨K,H4⟩:=H1.compose (T':=T.at nx) rfl rfl H3
   obtain ⟨g1,g2⟩:=H3.kept H1.store hD1 fun arr ty e=>by cases e
   obtain ⟨g3,g4⟩:=H3.kept H1.store hL1 fun arr ty e=>by cases e
   have hNN3:NNs st3:=fun b sz rows=>by rw [hst3]; exact hG.1 b sz rows
   have H5:=(H4.vals' (RepL.keep _ K _ H1.vals)).putOwn hNN3 (.loop { rc with state:=.exhausted }) (g4 (.inr rfl)) (by have:=H.chg.size; omega) g3 fun arr ty e=>by cases e
   refine ⟨none,_,run_endLoop g3 (by simp [rc]),rfl,w.heap.size::D,hG,?_,pv,st3,Y3,σ3,htm,hn,hst3,H5,?_⟩
   ·simp only [hdf,marks,List.map_cons]; rfl
   ·have hne:∀ r∈D,r<w.heap.size:=fun r hr=>(Array.getElem?_eq_some_iff.1 (hD.2 r hr).2.2).1
    refine ⟨List.nodup_cons.2 ⟨fun hm=>by have:=hne _ hm; omega,hD.1⟩,fun r hr=>?_⟩
    rcases List.mem_cons.1 hr with rfl | hr
    ·exact ⟨H.chg.size,g2 (.inl (.inr rfl)),by rw [World.putObj_heap_other (by omega)]; exact g1⟩
    ·obtain ⟨d0,d1,d2⟩:=hD.2 r hr
     have hlt:=hne r hr
     obtain ⟨g5,g6⟩:=H3.kept H1.store (k:=r) (by rw [hold r hlt]; exact d2) fun arr ty e=>by cases e
     exact ⟨d0,g6 (.inl (.inl d1)),by rw [World.putObj_heap_other (by omega)]; exact g5⟩
end
end Go.Pv
namespace Go.Pv
open Go
section
variable {P:Program} {T:Tab} (hT:TabOK P T) (hW:PWf P) (hnar:T.nar=0) (hgl:∀ g,T.gl g=none) {call:CallV} (hcall:CallOK P T call)
theorem iter_rounds {f:EV→Oc} {c:Code} (hf:∀ V m V',f V=some (m,V')→TrV P T c V m V') {C:Ctx T}:∀ (n:Nat) (V:EV) (m:Nat) (V' : EV),iterV f n V=some (m,V')→∀ D a w,EvOK C V D a w→Code.rounds P c (fun e a' w'=>e=exitOf m∧∃ D',EvOK C V' D' a' w') n a w
 | 0,V,m,V',h,D,a,w,hA=>by cases h
 | n+1,V,m,V',h,D,a,w,hA=>by
  have h:Option.rec (motive:=fun _=>Oc) none (fun p=>Prod.rec (motive:=fun _=>Oc) (fun k E'=>Nat.rec (motive:=fun _=>Oc) (iterV f n E') (fun m _=>some (Nat.succ m,E')) k) p) (f V)=some (m,V'):=h
  cases hv:f V with
  | none=>rw [hv] at h; cases h
  | some q =>
   obtain ⟨k,V1⟩:=q
   rw [hv] at h
   rw [rounds_succ]
   refine wp_mono (hf V k V1 hv C D a w hA) fun e a' w' hq=>?_
   obtain ⟨rfl,D',hA'⟩:=hq
   cases k with
   | zero=>exact iter_rounds hf n V1 m V' h D' a' w' hA'
   | succ k =>
    have h:some (Nat.succ k,V1)=some (m,V'):=h
    cases h
    cases k with
    | zero=>exact ⟨rfl,D',hA'⟩
    | succ k=>exact ⟨rfl,D',hA'⟩
include hT hW hnar hgl hcall in
theorem codeV_sound:∀ (c:Code) (V:EV) (m:Nat) (V' : EV),codeV T.ti call c V=some (m,V')→TrV P T c V m V':=by
 intro c
 induction c with
 | skip=>intro V m V' h C D a w hA; cases h; exact wp_skip ⟨rfl,D,hA⟩
 | region id l dr =>
  intro V m V' h C D a w hA
  cases dr with
  | false =>
   have h:regV (opsV T.ti call l.toList l.toList V)=some (m,V'):=h
   cases ho:opsV T.ti call l.toList l.toList V with
   | none=>rw [ho] at h; cases h
   | some V1 =>
    rw [ho] at h
    cases h
    exact wp_region_list (opsV_sound hT hW hnar hgl hcall l.toList V V' ho a w hA fun a' w' hA'=>⟨rfl,D,hA'⟩)
  | true =>
   have h:regF l (opsF T.ti call l.toList l.toList V)=some (m,V'):=h
   obtain ⟨rfl,h1⟩:=regF_sound (id:=id) hT hW hnar hgl hcall h hA (Q:=fun e a' w'=>e=exitOf m∧∃ D',EvOK C V' D' a' w') fun a' w' hA'=>by
    refine ⟨?_,D,hA'⟩
    have:m=0:=by
     unfold regF at h
     split at h
     ·split at h
      ·cases h; rfl
      ·cases h
     ·cases h
    subst this; rfl
   exact h1
 | seq x y ihx ihy =>
  intro V m V' h C D a w hA
  have h:seqV (codeV T.ti call x V) (codeV T.ti call y)=some (m,V'):=h
  cases hx:codeV T.ti call x V with
  | none=>rw [hx] at h; cases h
  | some q =>
   obtain ⟨k,V1⟩:=q
   rw [hx] at h
   refine wp_seq (wp_mono (ihx V k V1 hx C D a w hA) fun e a' w' hq=>?_)
   obtain ⟨rfl,D',hA'⟩:=hq
   cases k with
   | zero=>exact ihy V1 m V' h C D' a' w' hA'
   | succ k =>
    have h:some (Nat.succ k,V1)=some (m,V'):=h
    cases h
    cases k with
    | zero=>exact ⟨rfl,D',hA'⟩
    | succ k=>exact ⟨rfl,D',hA'⟩
 | cond c x y ihx ihy =>
  intro V m V' h C D a w hA
  obtain ⟨tm,n,st,nx⟩:=V
  have h:bolE (evV tm c) (codeV T.ti call x ⟨tm,n,st,nx⟩) (codeV T.ti call y ⟨tm,n,st,nx⟩)=some (m,V'):=h
  rcases bolE_inv h with ⟨e,h⟩ | ⟨e,h⟩
  ·exact wp_cond_true (bol_eval hgl hA e) (ihx _ m V' h C D a w hA)
  ·exact wp_cond_false (bol_eval hgl hA e) (ihy _ m V' h C D a w hA)
 | block id b ih =>
  intro V m V' h C D a w hA
  have h:blkV id (codeV T.ti call b V)=some (m,V'):=h
  cases hb:codeV T.ti call b V with
  | none=>rw [hb] at h; cases h
  | some q =>
   obtain ⟨k,V1⟩:=q
   rw [hb] at h
   refine wp_block (wp_mono (ih V k V1 hb C D a w hA) fun e a' w' hq=>?_)
   obtain ⟨rfl,D',hA'⟩:=hq
   cases k with
   | zero=>cases h; exact ⟨rfl,D',hA'⟩
   | succ k =>
    cases k with
    | zero=>cases h; exact ⟨rfl,D',hA'⟩
    | succ k =>
     have h:Bool.rec (motive:=fun _=>Oc) (some (Nat.succ (Nat.succ k),V1)) (some (0,V1)) (Nat.beq k id)=some (m,V'):=h
     show Exit.inBlock id _ (.exit k) a' w'
     simp only [Exit.inBlock]
     by_cases hk:k=id
     ·subst hk
      rw [if_pos rfl]
      rw [Nat.beq_refl] at h
      cases h; exact ⟨rfl,D',hA'⟩
     ·rw [if_neg hk]
      rw [beqN hk] at h
      cases h; exact ⟨rfl,D',hA'⟩
 | loop b ih =>
  intro V m V' h C D a w hA
  have h:iterV (codeV T.ti call b) 100000 V=some (m,V'):=h
  exact wp_loop_rounds 100000 (iter_rounds ih 100000 V m V' h D a w hA)
 | rangeFunc g ps x y ihx ihy=>intro V m V' h; exact range_sound hgl hcall h
 | exit n=>intro V m V' h C D a w hA; cases h; exact wp_exit ⟨rfl,D,hA⟩
 | scope b ih =>
  intro V m V' h C D a w hA
  refine wp_scope_straight (wp_mono (ih V m V' h C D a w hA) fun e a' w' hq=>?_)
  obtain ⟨rfl,D',hA'⟩:=hq
  cases m with
  | zero=>exact ⟨rfl,D',hA'⟩
  | succ m=>cases m with
   | zero=>exact ⟨rfl,D',hA'⟩
   | succ m=>exact ⟨rfl,D',hA'⟩
 | label l=>intro V m V' h C D a w hA; cases h; exact wp_label ⟨rfl,D,hA⟩
 | ret=>intro V m V' h C D a w hA; cases h; exact wp_ret ⟨rfl,D,hA⟩
 | _=>intro V m V' h; cases h
theorem resV_sound {V:EV} {ps:List PV} {st:St} (htm:∀ i,getP V.tm i=getL ps i) (hst:∀ b,lkS st b=getB V.st b) :
  ∀ (rs:List ResultVar) (acc:List PV) (v:PV) (t:Sb) (n:Nat),resV T.ti V rs acc=some (v,t,n)→∃ us,retVs T ⟨ps,st,V.nx⟩ rs=some us∧v=retOne (acc ++ us)∧t=V.st∧n=V.nx
 | [],acc,v,t,n,h=>by cases h; exact ⟨[],rfl,by simp,rfl,rfl⟩
 | r::rs,acc,v,t,n,h=>by
  have h:resK T.ti V r (fun v=>resV T.ti V rs (appR acc [v]))=some (v,t,n):=h
  have fin:∀ u,retV T ⟨ps,st,V.nx⟩ r=some u→resV T.ti V rs (appR acc [u])=some (v,t,n)→∃ us,retVs T ⟨ps,st,V.nx⟩ (r::rs)=some us∧v=retOne (acc ++ us)∧t=V.st∧n=V.nx:=by
   intro u hu hr
   obtain ⟨us,h1,h2,h3,h4⟩:=resV_sound htm hst rs _ v t n hr
   refine ⟨u::us,?_,?_,h3,h4⟩
   ·unfold retVs; rw [hu]; simp only [h1]
   ·rw [h2,appR_eq]; simp
  cases r with
  | tmp i =>
   have h:resV T.ti V rs (appR acc [getP V.tm i])=some (v,t,n):=h
   exact fin (getP V.tm i) (by simp only [retV]; rw [htm]) h
  | cell i ty =>
   have h:Option.rec (motive:=fun _=>Option (PV × Sb × Nat)) none (fun p=>resV T.ti V rs (appR acc [p.1])) (adrK (getP V.tm i) (fun b c=>v_load (T.ti ty) (PV.lv b c) (getB V.st)) (fun _ _ _=>none) (fun _=>none))=some (v,t,n):=h
   cases hx:adrK (getP V.tm i) (fun b c=>v_load (T.ti ty) (PV.lv b c) (getB V.st)) (fun _ _ _=>none) (fun _=>none) with
   | none=>rw [hx] at h; cases h
   | some q =>
    obtain ⟨u,δ⟩:=q
    rw [hx] at h
    rcases adrK_inv hx with ⟨b,c,e,hx⟩ | ⟨b,j,c,e,hx⟩ | ⟨cs,e,hx⟩
    ·obtain ⟨agg,size,zero,plain,kind,et,hx⟩:=okK_inv hx
     have hx:varK (getB V.st b) (fun _ row=>load1 agg size row c)=some (u,δ):=hx
     obtain ⟨ro,row,eb,hx⟩:=varK_inv hx
     refine fin u ?_ h
     rw [htm] at e
     simp only [retV,e,et,hst,eb]
     cases agg with
     | false =>
      obtain ⟨_,h2,rfl⟩:=nthK_inv hx
      simp only [cond_false,lenL_eq]
      rw [show Nat.blt c row.length=true by rw [Nat.blt_eq]; exact h2]; rfl
     | true =>
      obtain ⟨h1,h2⟩:=ifK_inv hx
      simp only [takeR_eq,dropR_eq,Option.some.injEq,Prod.mk.injEq] at h2
      obtain ⟨rfl,rfl⟩:=h2
      simp only [lenR_eq] at h1
      simp only [cond_true,lenL_eq,takeL_eq,dropL_eq]
      rw [show Nat.ble (c+size) row.length=true from h1]; rfl
    ·cases hx
    ·cases hx
end
end Go.Pv
namespace Go.Pv
open Go
section
variable {P:Program} {T:Tab}
def InvV (V:EV):Prop:=GT V.st V.nx∧∃ p:List PV,(∀ i,getP V.tm i=getL p i)∧V.n=p.length
variable (hT:TabOK P T) (hW:PWf P) (hnar:T.nar=0) (hgl:∀ g,T.gl g=none) {call:CallV} (hcall:CallOK P T call)
include hcall in
theorem stepV_inv {o:Oper} {tm:Tr PV} {n:Nat} {st:Sb} {nx:Nat} {V' : EV} (h:stepV T.ti call o tm n st nx=some V') (hI:InvV ⟨tm,n,st,nx⟩):InvV V':=by
 obtain ⟨hG,p,htm,hn⟩:=hI
 have hG:GT st nx:=hG
 unfold stepV at h
 cases hc:isCall o.op with
 | none =>
  rw [hc] at h
  obtain ⟨v,δ,hv,rfl,hkeys⟩:=fin_inv h
  refine ⟨⟨applB_nn δ st hG.1,fun b hb=>?_⟩,_,putT1_get htm hn _ _,by rw [putT_length]; exact hn⟩
  have hb:nextD δ nx≤b:=hb
  cases δ with
  | nil=>exact hG.2 b hb
  | cons y δ =>
   show getB (applB (y::δ) st) b=none
   rw [applB_out _ _ b fun hk=>by have:=hkeys b hk; simp only [nextD] at hb; omega]
   exact hG.2 b (by simp only [nextD] at hb; omega)
 | some q =>
  obtain ⟨f,args⟩:=q
  rw [hc] at h
  obtain ⟨v,t',n',hr,rfl⟩:=fin2_inv h
  obtain ⟨k,caps,hf,hr⟩:=fnE_inv hr
  exact ⟨(hcall _ _ _ _ _ _ _ hr hG).1,_,putT1_get htm hn _ _,by rw [putT_length]; exact hn⟩
include hcall in
theorem opsV_inv {all:List Oper}:∀ (l:List Oper) (V V' : EV),opsV T.ti call all l V=some V'→InvV V→InvV V'
 | [],V,V',h,hI=>by cases h; exact hI
 | o::l,⟨tm,n,st,nx⟩,V',h,hI=>by
  have h:Option.rec (motive:=fun _=>Oe) none
   (fun g=>Bool.rec (motive:=fun _=>Oe) (opsV T.ti call all l ⟨putT1 tm n o.dst PV.undef,n,st,nx⟩) (Option.rec (motive:=fun _=>Oe) none (fun E'=>opsV T.ti call all l E') (stepV T.ti call o tm n st nx)) g) (gdV all o.guard tm)=some V':=h
  cases hg:gdV all o.guard tm with
  | none=>rw [hg] at h; cases h
  | some g =>
   rw [hg] at h
   cases g with
   | true =>
    have h:Option.rec (motive:=fun _=>Oe) none (fun E'=>opsV T.ti call all l E') (stepV T.ti call o tm n st nx)=some V':=h
    cases hs:stepV T.ti call o tm n st nx with
    | none=>rw [hs] at h; cases h
    | some V1 =>
     rw [hs] at h
     exact opsV_inv l V1 V' h (stepV_inv hcall hs hI)
   | false =>
    have h:opsV T.ti call all l ⟨putT1 tm n o.dst PV.undef,n,st,nx⟩=some V':=h
    obtain ⟨hG,p,htm,hn⟩:=hI
    exact opsV_inv l _ V' h ⟨hG,_,putT1_get htm hn _ _,by rw [putT_length]; exact hn⟩
theorem iter_inv {f:EV→Oc} (hf:∀ V m V',f V=some (m,V')→InvV V→InvV V'):∀ (n:Nat) (V:EV) (m:Nat) (V' : EV),iterV f n V=some (m,V')→InvV V→InvV V'
 | 0,V,m,V',h,_=>by cases h
 | n+1,V,m,V',h,hI=>by
  have h:Option.rec (motive:=fun _=>Oc) none (fun p=>Prod.rec (motive:=fun _=>Oc) (fun k E'=>Nat.rec (motive:=fun _=>Oc) (iterV f n E') (fun m _=>some (Nat.succ m,E')) k) p) (f V)=some (m,V'):=h
  cases hv:f V with
  | none=>rw [hv] at h; cases h
  | some q =>
   obtain ⟨k,V1⟩:=q
   rw [hv] at h
   cases k with
   | zero=>exact iter_inv hf n V1 m V' h (hf V 0 V1 hv hI)
   | succ k =>
    have h:some (Nat.succ k,V1)=some (m,V'):=h
    cases h
    exact hf V _ V' hv hI
include hT hW hnar hgl hcall in
theorem codeV_inv:∀ (c:Code) (V:EV) (m:Nat) (V' : EV),codeV T.ti call c V=some (m,V')→InvV V→InvV V':=by
 intro c
 induction c with
 | skip=>intro V m V' h hI; cases h; exact hI
 | region id l dr =>
  intro V m V' h hI
  cases dr with
  | false =>
   have h:regV (opsV T.ti call l.toList l.toList V)=some (m,V'):=h
   cases ho:opsV T.ti call l.toList l.toList V with
   | none=>rw [ho] at h; cases h
   | some V1=>rw [ho] at h; cases h; exact opsV_inv hcall l.toList V V' ho hI
  | true =>
   have h:regF l (opsF T.ti call l.toList l.toList V)=some (m,V'):=h
   unfold regF at h
   split at h
   ·rename_i E tr ho
    split at h
    ·cases h
     obtain ⟨hG,p,htm,hn⟩:=hI
     obtain ⟨st,hst⟩:=stOf V.st
     obtain ⟨rs,f,stf,hch,h1,h2,h3,h4,h5⟩:=opsF_chain hT hW hnar hgl hcall l.toList V V' tr p st htm hn hst hG ho
     exact ⟨h4,f,h1,h2⟩
    ·cases h
   ·cases h
 | seq x y ihx ihy =>
  intro V m V' h hI
  have h:seqV (codeV T.ti call x V) (codeV T.ti call y)=some (m,V'):=h
  cases hx:codeV T.ti call x V with
  | none=>rw [hx] at h; cases h
  | some q =>
   obtain ⟨k,V1⟩:=q
   rw [hx] at h
   have:=ihx V k V1 hx hI
   cases k with
   | zero=>exact ihy V1 m V' h this
   | succ k =>
    have h:some (Nat.succ k,V1)=some (m,V'):=h
    cases h; exact this
 | cond c x y ihx ihy =>
  intro V m V' h hI
  obtain ⟨tm,n,st,nx⟩:=V
  have h:bolE (evV tm c) (codeV T.ti call x ⟨tm,n,st,nx⟩) (codeV T.ti call y ⟨tm,n,st,nx⟩)=some (m,V'):=h
  rcases bolE_inv h with ⟨e,h⟩ | ⟨e,h⟩
  ·exact ihx _ m V' h hI
  ·exact ihy _ m V' h hI
 | block id b ih =>
  intro V m V' h hI
  have h:blkV id (codeV T.ti call b V)=some (m,V'):=h
  cases hb:codeV T.ti call b V with
  | none=>rw [hb] at h; cases h
  | some q =>
   obtain ⟨k,V1⟩:=q
   rw [hb] at h
   have:=ih V k V1 hb hI
   cases k with
   | zero=>cases h; exact this
   | succ k =>
    cases k with
    | zero=>cases h; exact this
    | succ k =>
     have h:Bool.rec (motive:=fun _=>Oc) (some (Nat.succ (Nat.succ k),V1)) (some (0,V1)) (Nat.beq k id)=some (m,V'):=h
     cases hk:Nat.beq k id with
     | true=>rw [hk] at h; cases h; exact this
     | false=>rw [hk] at h; cases h; exact this
 | loop b ih=>intro V m V' h hI; exact iter_inv ih 100000 V m V' h hI
 | rangeFunc g ps x y ihx ihy =>
  intro V m V' h hI
  obtain ⟨tm,n,t,nx⟩:=V
  have h:Option.rec (motive:=fun _=>Oc) none (fun p=>Prod.rec (motive:=fun _=>Oc) (fun _ q=>Prod.rec (motive:=fun _=>Oc) (fun st nx=>some (0,⟨tm,n,st,nx⟩)) q) p) (fnE (evV tm g) fun k caps=>call k (PV.top::caps) t nx)=some (m,V'):=h
  cases hr:fnE (evV tm g) fun k caps=>call k (PV.top::caps) t nx with
  | none=>rw [hr] at h; cases h
  | some q =>
   obtain ⟨v,t',n'⟩:=q
   rw [hr] at h
   cases h
   obtain ⟨k,caps,hf,hc⟩:=fnE_inv hr
   exact ⟨(hcall _ _ _ _ _ _ _ hc hI.1).1,hI.2⟩
 | exit n=>intro V m V' h hI; cases h; exact hI
 | scope b ih=>intro V m V' h hI; exact ih V m V' h hI
 | label l=>intro V m V' h hI; cases h; exact hI
 | ret=>intro V m V' h hI; cases h; exact hI
 | _=>intro V m V' h; cases h
theorem argT_get:∀ (l:List PV) (k:Nat) (t:Tr PV) (i:Nat),getP (argT l k t) i=if k≤i∧i<k+l.length then getL l (i - k) else getP t i
 | [],k,t,i=>by rw [if_neg (by simp)]; rfl
 | x::l,k,t,i=>by
  have e:argT (x::l) k t=argT l (k+1) (setP x k t):=rfl
  rw [e,argT_get l,getP_setP]
  by_cases h1:i=k
  ·subst h1
   rw [if_neg (by omega),if_pos rfl,if_pos (by simp),Nat.sub_self]; rfl
  ·by_cases h2:k+1≤i∧i<k+1+l.length
   ·rw [if_pos h2,if_pos (by simp; omega)]
    obtain ⟨j,hj⟩:∃ j,i - k=j+1:=⟨i - k - 1,by omega⟩
    rw [hj,show i - (k+1)=j by omega]; rfl
   ·rw [if_neg h2,if_neg h1,if_neg (by simp; omega)]
theorem undefs_get:∀ (m i:Nat),getL (undefs m) i=.undef
 | 0,i=>rfl
 | m+1,0=>rfl
 | m+1,i+1=>undefs_get m i
theorem undefs_len:∀ m:Nat,(undefs m).length=m
 | 0=>rfl
 | m+1=>by simp [undefs,undefs_len m]
theorem getL_app (l m:List PV) (i:Nat):getL (l ++ m) i=if i<l.length then getL l i else getL m (i - l.length):=by
 rw [getL_eq,getL_eq,getL_eq,List.getD_eq_getElem?_getD,List.getD_eq_getElem?_getD,List.getD_eq_getElem?_getD]
 by_cases h:i<l.length
 ·rw [if_pos h,List.getElem?_append_left h]
 ·rw [if_neg h,List.getElem?_append_right (by omega)]
theorem leaves_marks {fn:Func} {R:Ending→World→Prop} {C:Ctx T} {Y:Nat→Prop} {σ:Sg} {ps:List PV} {tmps:Array Value} {st:St} {n:Nat} (hn:NNs st):∀ (D:List Nat) (w:World),SW C w Y σ ps tmps.toList st n→DefOK C.w0.heap.size D w Y →
  (∀ w',SW C w' Y σ ps tmps.toList st n→∃ v,(results fn tmps).run P w'=.ok v w'∧R (.returned v) w')→LeavesInM Fence.wide 1 P fn tmps R (marks D) .returning w
 | [],w,H,_,hR=>by
  obtain ⟨v,h1,h2⟩:=hR w H
  exact ⟨v,h1,h2⟩
 | r::D,w,H,hD,hR=>by
  obtain ⟨hnd,hall⟩:=hD
  obtain ⟨h0,h1,h2⟩:=hall r (by simp)
  have hnm:=(List.nodup_cons.1 hnd).1
  have H':=H.putOwn hn (.deferred none) h1 h0 h2 fun arr ty e=>by cases e
  refine ⟨by simp,.inl ⟨r,w.putObj r (.deferred none),rfl,run_takeDeferred h2,?_⟩⟩
  exact leaves_marks hn D _ H' ⟨(List.nodup_cons.1 hnd).2,fun q hq=>by
   obtain ⟨g0,g1,g2⟩:=hall q (by simp [hq])
   refine ⟨g0,g1,?_⟩
   have hne:q ≠ r:=by rintro rfl; exact hnm hq
   rw [World.putObj_heap_other hne]; exact g2⟩ hR
include hT hW hnar hgl hcall in
theorem fnV_of_code {k:Nat} {fn:Func} {c:Code} (hf:P.funcs[k]?=some fn) (hb:fn.body=some c) (henter:∀ args w,(callFunc k args).run P w=.ok (.enter k args) w) {args:List PV} {t:Sb} {nx m:Nat} {E:EV}
  (hc:codeV T.ti call c ⟨argT args 0 Tr.e,Nat.max (lenR args) fn.ntmps,t,nx⟩=some (m,E)) (hm:m≤1) {v:PV} {t' : Sb} {n' : Nat} (hr:resV T.ti E fn.results.toList []=some (v,t',n')):FnV P T k args t nx v t' n':=by
 intro hG
 have hps:∀ i,getP (argT args 0 Tr.e) i=getL (args ++ undefs (fn.ntmps - args.length)) i:=fun i=>by
  rw [argT_get,getL_app]
  by_cases h:i<args.length
  ·rw [if_pos (by omega),if_pos h]; rfl
  ·rw [if_neg (by omega),if_neg h,undefs_get]; rfl
 have hlen:Nat.max (lenR args) fn.ntmps=(args ++ undefs (fn.ntmps - args.length)).length:=by
  rw [List.length_append,undefs_len,lenR_eq]
  show max args.length fn.ntmps=_
  omega
 have hI:=codeV_inv hT hW hnar hgl hcall c _ m E hc ⟨hG,_,hps,hlen⟩
 have hE:t'=E.st∧n'=E.nx:=by
  obtain ⟨_,p,htm,_⟩:=hI
  obtain ⟨st,hst⟩:=stOf E.st
  obtain ⟨us,_,_,h3,h4⟩:=resV_sound htm hst _ _ v t' n' hr
  exact ⟨h3,h4⟩
 refine ⟨by rw [hE.1,hE.2]; exact hI.1,fun w Y σ cargs st hst hGl hY hn hargs hstR=>⟨henter _ _,?_⟩⟩
 have hcl:=hargs.length
 let C:Ctx (T.at nx):=ctxS (T.at nx) w Y σ st
 have H0:SW C w Y σ (args ++ undefs (fn.ntmps - args.length)) ((cargs.toArray ++ Array.replicate (fn.ntmps - cargs.toArray.size) Go.undef).toList) st nx:=by
  refine ⟨?_,hstR,hn,hY,fun _ h=>h.1,fun k h=>⟨hY k h.1,h.2⟩,fun k h _=>?_,ChgM.refl _ w,fun b x l h1 h2=>.inr ⟨b,x,l,h1,h2,rfl⟩,hGl,⟨Nat.le_refl _,fun _ _=>rfl⟩,Nest.none fun b sz rows=>by rw [hst]; exact hG.1 b sz rows⟩
  ·have:(cargs.toArray ++ Array.replicate (fn.ntmps - cargs.toArray.size) Go.undef).toList=cargs ++ List.replicate (fn.ntmps - args.length) Go.undef:=by simp [hcl]
   rw [this,← appL_eq]
   exact RepL.app _ _ _ _ hargs (undefs_rep _)
  ·by_cases hi:InSt σ st k
   ·exact .inr ⟨h,hi⟩
   ·exact .inl ⟨h,hi⟩
 have hA:EvOK C ⟨argT args 0 Tr.e,Nat.max (lenR args) fn.ntmps,t,nx⟩ [] { tmps:=cargs.toArray ++ Array.replicate (fn.ntmps - cargs.toArray.size) Go.undef,defers:=[] } w :=
  ⟨hG,rfl,_,st,Y,σ,hps,hlen,hst,H0,List.nodup_nil,fun r hr=>by cases hr⟩
 have hwp:=codeV_sound (T:=T.at nx) hT hW hnar hgl hcall c _ m E hc C [] _ w hA
 refine callsIn_wide.1 (callsIn_of_wp_marks (F:=Fence.wide) (n:=1) hf hb trivial (wpIn_wide.2 (wp_mono hwp ?_)))
 intro e a w' hq
 obtain ⟨rfl,D,hE'⟩:=hq
 have main:LeavesInM Fence.wide 1 P fn a.tmps (fun e w'=>∃ cv Y' σ' st',e=.returned cv∧(∀ b,lkS st' b=getB t' b)∧SW (ctxS (T.at nx) w Y σ st) w' Y' σ' [v] [cv] st' n') a.defers .returning w':=by
  obtain ⟨hG',hdf,ps,st1,Y1,σ1,htm,hn1,hst1,H1,hD⟩:=hE'
  rw [hdf]
  refine leaves_marks (T:=T.at nx) (fun b sz rows=>by rw [hst1]; exact hG'.1 b sz rows) D w' H1 hD fun w2 H2=>?_
  obtain ⟨us,h1,h2,h3,h4⟩:=resV_sound (T:=T) htm hst1 _ _ v t' n' hr
  rw [List.nil_append] at h2
  obtain ⟨cv,hrun,hrep⟩:=ret_sound (T:=T.at nx) (E:=⟨ps,st1,E.nx⟩) (fn:=fn) hT H2 (show retVs (T.at nx) ⟨ps,st1,E.nx⟩ fn.results.toList=some us from by
   rw [← h1]
   have:∀ rs,retVs (T.at nx) ⟨ps,st1,E.nx⟩ rs=retVs T ⟨ps,st1,E.nx⟩ rs:=by
    intro rs
    induction rs with
    | nil=>rfl
    | cons r rs ih =>
     unfold retVs
     rw [ih]
     have:retV (T.at nx) ⟨ps,st1,E.nx⟩ r=retV T ⟨ps,st1,E.nx⟩ r:=by cases r <;> rfl
     rw [this]
   exact this _)
  refine ⟨cv,hrun,cv,Y1,σ1,st1,rfl,by rw [h3]; exact hst1,?_⟩
  rw [h2,h4]
  exact H2.vals' (by unfold RepL; exact ⟨_,_,rfl,hrep,by unfold RepL; rfl⟩)
 have hm2:m=0∨m=1:=by omega
 rcases hm2 with rfl | rfl
 ·exact main
 ·exact main
end
end Go.Pv
namespace Go.Pv
open Go
section
variable {P:Program} {T:Tab}
def CloneOK (P:Program) (T:Tab) (k:Nat):Prop:=∀ x t n,((∃ sz f,x=.sl sz [] f)∨∃ b r,x=.os b r 0)→FnV P T k [x] t n (.sl 0 [] true) t n
theorem wpl_cons {all:Array Oper} {Q:Exit→Act→World→Prop} {o:Oper} {l:List Oper} {a:Act} {w w' : World} {v:Value} (hg:o.guard=none) (hr:(execOp a.eval o).run P w=.ok (.value v) w') (h:wpList P all Q l (a.put o.dst v) w'):wpList P all Q (o::l) a w:=by
 unfold wpList
 rw [if_pos (by simp [Region.wanted,hg])]
 refine .inl ?_
 unfold Oper.wp
 rw [hr]; exact h
theorem append_nil_run {o:Oper} {a:Act} {w:World} {s x:Operand} {t u:TypeId} {sx y:Option Addr} {yc:Nat} {et eu:TypeId} (ho:o.op=.call { callee:=.builtin .append,args:=#[s,x],argTypes:=#[t,u] }) (hu:P.underlying t=some (.slice et)) (hu2:P.underlying u=some (.slice eu)) (hinf:P.info? et ≠ none)
  (hs:a.eval s=.slice sx 0 0) (hx:a.eval x=.slice y 0 yc):(execOp a.eval o).run P w=.ok (.value (.slice sx 0 0)) w:=by
 have r2:=firstCells_run (P:=P) (w:=w) (size:=P.cellsOf et) (n:=0) (x:=y) (len:=0) (cap:=yc) (vs:=[]) (by simp) (.inl rfl)
 have key:∀ ty cs,(builtin .append #[t,u] ty cs #[Value.slice sx 0 0,Value.slice y 0 yc]).run P w=.ok (.value (.slice sx 0 0)) w:=by
  intro ty cs
  simp only [builtin,Builtin.append_,List.getElem?_toArray,List.getElem?_cons_zero,List.getElem?_cons_succ,Sem.run_bind,run_und hu,run_und hu2,Result.andThen,run_sizeOf hinf,Sem.run_pure]
  simp only [Bool.false_eq_true,if_false,Builtin.lenOf,Sem.run_bind,Sem.run_pure,Result.andThen]
  rw [if_pos (Nat.le_refl _)]
  simp only [Sem.run_bind,Bool.not_false,if_true,r2,Result.andThen]
  cases sx <;> simp [storeCells]
 simp only [execOp,ho,resolve,Sem.run_bind,Sem.run_pure,Result.andThen,invoke]
 simp only [List.map_toArray,List.map_cons,List.map_nil,hs,hx]
 exact key _ _
theorem clone_sound (hT:TabOK P T) (hW:PWf P) {k:Nat} {fn:Func} (hf:P.funcs[k]?=some fn) {t u ut:TypeId} {r0 r1 r2 r3:Nat} {o0 o1 o2 o3 o4 o5 o6 o7:Oper}
  (hb:fn.body=some (.seq (.region r0 #[o0] false) (.seq (.seq (.region r1 #[o1,o2] false) (.cond (.tmp 4) (.seq (.region r2 #[o3] false) .ret) .skip)) (.seq (.region r3 #[o4,o5,o6,o7] false) .ret))))
  (h0:o0.op=.assign (.const (.slice none 0 0))∧o0.dst=some 2∧o0.guard=none) (h1:o1.op=.move (.tmp 0)∧o1.dst=some 3∧o1.guard=none) (h2:o2.op=.binOp .eql t (.tmp 3) (.const (.slice none 0 0)) ut∧o2.dst=some 4∧o2.guard=none)
  (h3:o3.op=.assign (.const (.slice none 0 0))∧o3.dst=some 2∧o3.guard=none) (h4:o4.op=.buildSlice t 0 #[]∧o4.dst=some 5∧o4.guard=none) (h5:o5.op=.move (.tmp 0)∧o5.dst=some 6∧o5.guard=none)
  (h6:o6.op=.call { callee:=.builtin .append,args:=#[.tmp 5,.tmp 6],argTypes:=#[t,u] }∧o6.dst=some 7∧o6.guard=none) (h7:o7.op=.assign (.tmp 7)∧o7.dst=some 2∧o7.guard=none)
  (hnt:fn.ntmps=8) (hres:fn.results=#[.tmp 2]) (henter:∀ args w,(callFunc k args).run P w=.ok (.enter k args) w)
  {agg:Bool} {size:Nat} {zero:Option (List PV)} {plain:Option (List Nat)} {esz bytes:Nat} {z:List PV} (et:T.ti t=⟨true,agg,size,zero,plain,.slice esz bytes (some z)⟩) (hp:isPos esz=true) (hz:z.length=esz)
  {agg' : Bool} {size' : Nat} {zero' : Option (List PV)} {plain' : Option (List Nat)} {esz' bytes' : Nat} {z' : Option (List PV)} (eu:T.ti u=⟨true,agg',size',zero',plain',.slice esz' bytes' z'⟩):CloneOK P T k:=by
 intro x tr n hx hG
 refine ⟨hG,fun w Y σ cargs st hst hGl hY hn hargs hstR=>⟨henter _ _,?_⟩⟩
 unfold RepL at hargs
 obtain ⟨xv,vs',rfl,hxr,hv'⟩:=hargs
 unfold RepL at hv'
 subst hv'
 obtain ⟨el,hu,he,hbe,hzz⟩:=tab_slice hT et
 obtain ⟨el',hu',_⟩:=tab_slice hT eu
 have hxv:∃ ad cap,xv=.slice ad 0 cap:=by
  rcases hx with ⟨sz,f,rfl⟩ | ⟨b,r,rfl⟩
  ·unfold Rep at hxr
   obtain ⟨ad,len,cap,e,hl,_⟩:=hxr
   have hl:len=0:=by simpa using hl
   subst hl; exact ⟨ad,cap,e⟩
  ·unfold Rep at hxr
   rcases hxr with ⟨l,cap,_,e,_⟩ | ⟨_,ad,e⟩
   ·exact ⟨_,cap,e⟩
   ·exact ⟨ad,0,e⟩
 obtain ⟨ad,cap,rfl⟩:=hxv
 let C:Ctx (T.at n):=ctxS (T.at n) w Y σ st
 have H0:SW C w Y σ [] [] st n:=by
  refine ⟨by unfold RepL; rfl,hstR,hn,hY,fun _ h=>h.1,fun k h=>⟨hY k h.1,h.2⟩,fun k h _=>?_,ChgM.refl _ w,fun b x l h1 h2=>.inr ⟨b,x,l,h1,h2,rfl⟩,hGl,⟨Nat.le_refl _,fun _ _=>rfl⟩,Nest.none fun b sz rows=>by rw [hst]; exact hG.1 b sz rows⟩
  by_cases hi:InSt σ st k
  ·exact .inr ⟨h,hi⟩
  ·exact .inl ⟨h,hi⟩
 have nilrep:∀ (w:World) (Y:Nat→Prop) (σ:Sg) (sx:Option Addr),Rep w Y σ (.sl 0 [] true) (.slice sx 0 0):=fun w Y σ sx=>by
  unfold Rep; exact ⟨sx,0,0,rfl,rfl,Nat.le_refl _,fun _=>rfl,.inl rfl⟩
 refine calls_of_wp hf hb ?_
 have hnt' : fn.ntmps - ([Value.slice ad 0 cap].toArray).size=7:=by rw [hnt]; rfl
 rw [hnt']
 have htm:([Value.slice ad 0 cap].toArray ++ Array.replicate 7 Go.undef)=#[Value.slice ad 0 cap,Go.undef,Go.undef,Go.undef,Go.undef,Go.undef,Go.undef,Go.undef]:=rfl
 rw [htm]
 have ret:∀ (tm:Array Value) (sx:Option Addr) (w' : World),tm.getD 2 Go.undef=.slice sx 0 0→SW C w' Y σ [] [] st n→bodyPost P fn (fun e w'=>∃ cv Y' σ' st',e=.returned cv∧(∀ b,lkS st' b=getB tr b)∧SW (ctxS (T.at n) w Y σ st) w' Y' σ' [.sl 0 [] true] [cv] st' n) .ret { tmps:=tm,defers:=[] } w':=by
  intro tm sx w' h2 H'
  refine ⟨rfl,.slice sx 0 0,?_,_,Y,σ,st,rfl,hst,H'.vals' (by unfold RepL; exact ⟨_,_,rfl,nilrep _ _ _ _,by unfold RepL; rfl⟩)⟩
  rw [results_eq,hres]
  simp [retS,h2]
 refine wp_seq (wp_region_list (wpl_cons h0.2.2 (v:=.slice none 0 0) (w':=w) (by simp [execOp,h0.1,Act.eval]) ?_))
 simp only [h0.2.1,Act.put]
 show Exit.then _ _ .normal _ _
 refine wp_seq (wp_seq (wp_region_list (wpl_cons h1.2.2 (v:=.slice ad 0 cap) (w':=w) (by simp [execOp,h1.1,Act.eval]) ?_)))
 simp only [h1.2.1,Act.put]
 obtain ⟨e1,_⟩:=nilslice_run (P:=P) (w:=w) (x:=ad) (len:=0) (cap:=cap) hu
 refine wpl_cons h2.2.2 (v:=.bool ad.isNone) (w':=w) ?_ ?_
 ·have n1:∀ cs,Value.slice ad 0 cap ≠ .agg cs:=by intro cs e; cases e
  have n2:Value.slice ad 0 cap ≠ .nilIface:=by intro e; cases e
  simp [execOp,h2.1,Act.eval,guard_scalar n1 n2,e1]
 simp only [h2.2.1,Act.put]
 show Exit.then _ _ .normal _ _
 cases hn1:ad.isNone with
 | true =>
  refine wp_cond_true (by simp [Act.eval]) (wp_seq (wp_region_list (wpl_cons h3.2.2 (v:=.slice none 0 0) (w':=w) (by simp [execOp,h3.1,Act.eval]) ?_)))
  simp only [h3.2.1,Act.put]
  show Exit.then _ _ .normal _ _
  exact wp_ret (ret _ none w (by simp) H0)
 | false =>
  refine wp_cond_false (by simp [Act.eval]) (wp_skip ?_)
  show Code.wp P _ _ _ _
  have hinf:P.info? el ≠ none:=info_of_pos (by rw [← he]; exact hp)
  have hzl:z.length=P.cellsOf el:=by rw [hz]; exact he
  have hpe:isPos (P.cellsOf el)=true:=by rw [← he]; exact hp
  refine wp_seq (wp_region_list ?_)
  let a3:Act:={ tmps:=#[Value.slice ad 0 cap,Go.undef,.slice none 0 0,.slice ad 0 cap,.bool false,Go.undef,Go.undef,Go.undef],defers:=[] }
  have H1:SW C w Y σ [.top,.top,.top,.top,.top,.top,.top,.top] a3.tmps.toList st n:=H0.vals' (by
   show RepL w Y σ _ [_,_,_,_,_,_,_,_]
   simp only [RepL,Rep]
   exact ⟨_,_,rfl,trivial,_,_,rfl,trivial,_,_,rfl,trivial,_,_,rfl,trivial,_,_,rfl,trivial,_,_,rfl,trivial,_,_,rfl,trivial,_,_,rfl,trivial,rfl⟩)
  obtain ⟨vcs,hrep,hvl,hrun⟩:=buildSlice_core (T:=T.at n) (a:=a3) hT H1 h4.1 hu hzz hpe hzl (by omega) (show noTop (evP (T.at n) _ ([]:List (Nat × Operand)))=true from rfl) (cs:=[]) (by show fillV _ (repL 0 z) []=some []; rfl)
  obtain ⟨H2,_⟩:=H0.allocRo vcs el
  refine wpl_cons h4.2.2 hrun ?_
  simp only [h4.2.1,Act.put]
  refine wpl_cons h5.2.2 (v:=.slice ad 0 cap) (w':=w.alloc (.cells vcs el)) (by simp [execOp,h5.1,Act.eval,a3]) ?_
  simp only [h5.2.1,Act.put]
  refine wpl_cons h6.2.2 (v:=.slice (some ⟨w.heap.size,0,none⟩) 0 0) (w':=w.alloc (.cells vcs el)) (append_nil_run h6.1 hu hu' hinf (by simp [Act.eval,a3]) (y:=ad) (yc:=cap) (by simp [Act.eval,a3])) ?_
  simp only [h6.2.1,Act.put]
  refine wpl_cons h7.2.2 (v:=.slice (some ⟨w.heap.size,0,none⟩) 0 0) (w':=w.alloc (.cells vcs el)) (by simp [execOp,h7.1,Act.eval,a3]) ?_
  simp only [h7.2.1,Act.put]
  show Exit.then _ _ .normal _ _
  exact wp_ret (ret _ (some ⟨w.heap.size,0,none⟩) _ (by simp [a3]) H2)
theorem runV_sound (hT:TabOK P T) (hW:PWf P) (hnar:T.nar=0) (hgl:∀ g,T.gl g=none) {F:Nat→Option (Bool × Func)} (hF:∀ k cl fn,F k=some (cl,fn)→P.funcs[k]?=some fn∧(fn.body.isSome=true→∀ args w,(callFunc k args).run P w=.ok (.enter k args) w)∧(cl=true→CloneOK P T k)):∀ fuel,CallOK P T (runV T.ti F fuel):=by
 intro fuel
 induction fuel with
 | zero=>intro k args t n v t' n' h; cases h
 | succ fuel ih =>
  intro k args t n v t' n' h
  have h:Option.rec (motive:=fun _=>CallR) none (fun p=>Prod.rec (motive:=fun _=>CallR) (fun cl fn=>clnV cl args t n (Option.rec (motive:=fun _=>CallR) none
   (fun c=>Option.rec (motive:=fun _=>CallR) none (fun p=>Prod.rec (motive:=fun _=>CallR) (fun m E=>Bool.rec (motive:=fun _=>CallR) none (resV T.ti E fn.results.toList []) (Nat.ble m 1)) p)
    (codeV T.ti (runV T.ti F fuel) c ⟨argT args 0 Tr.e,Nat.max (lenR args) fn.ntmps,t,n⟩)) fn.body)) p) (F k)=some (v,t',n'):=h
  cases hk:F k with
  | none=>rw [hk] at h; cases h
  | some q =>
   obtain ⟨cl,fn⟩:=q
   rw [hk] at h
   obtain ⟨hf,hent,hcl⟩:=hF k cl fn hk
   have h:clnV cl args t n (Option.rec (motive:=fun _=>CallR) none
    (fun c=>Option.rec (motive:=fun _=>CallR) none (fun p=>Prod.rec (motive:=fun _=>CallR) (fun m E=>Bool.rec (motive:=fun _=>CallR) none (resV T.ti E fn.results.toList []) (Nat.ble m 1)) p)
     (codeV T.ti (runV T.ti F fuel) c ⟨argT args 0 Tr.e,Nat.max (lenR args) fn.ntmps,t,n⟩)) fn.body)=some (v,t',n'):=h
   have body:(Option.rec (motive:=fun _=>CallR) none
    (fun c=>Option.rec (motive:=fun _=>CallR) none (fun p=>Prod.rec (motive:=fun _=>CallR) (fun m E=>Bool.rec (motive:=fun _=>CallR) none (resV T.ti E fn.results.toList []) (Nat.ble m 1)) p)
     (codeV T.ti (runV T.ti F fuel) c ⟨argT args 0 Tr.e,Nat.max (lenR args) fn.ntmps,t,n⟩)) fn.body:CallR)=some (v,t',n')→FnV P T k args t n v t' n':=by
    intro h
    cases hb:fn.body with
    | none=>rw [hb] at h; cases h
    | some c =>
     rw [hb] at h
     have h:Option.rec (motive:=fun _=>CallR) none (fun p=>Prod.rec (motive:=fun _=>CallR) (fun m E=>Bool.rec (motive:=fun _=>CallR) none (resV T.ti E fn.results.toList []) (Nat.ble m 1)) p)
      (codeV T.ti (runV T.ti F fuel) c ⟨argT args 0 Tr.e,Nat.max (lenR args) fn.ntmps,t,n⟩)=some (v,t',n'):=h
     cases hc:codeV T.ti (runV T.ti F fuel) c ⟨argT args 0 Tr.e,Nat.max (lenR args) fn.ntmps,t,n⟩ with
     | none=>rw [hc] at h; cases h
     | some q =>
      obtain ⟨m,E⟩:=q
      rw [hc] at h
      have h:Bool.rec (motive:=fun _=>CallR) none (resV T.ti E fn.results.toList []) (Nat.ble m 1)=some (v,t',n'):=h
      cases hm:Nat.ble m 1 with
      | false=>rw [hm] at h; cases h
      | true =>
       rw [hm] at h
       exact fnV_of_code hT hW hnar hgl ih hf hb (hent (by rw [hb]; rfl)) hc (Nat.le_of_ble_eq_true hm) h
   cases cl with
   | false=>exact body h
   | true =>
    have hC:=hcl rfl
    unfold clnV at h
    simp only at h
    split at h
    ·cases h; exact hC _ _ _ (.inl ⟨_,_,rfl⟩)
    ·cases h; exact hC _ _ _ (.inr ⟨_,_,rfl⟩)
    ·exact body h
theorem lkP_eq:∀ (l:List Func) (k:Nat),lkP l k=l[k]?
 | [],k=>by simp; rfl
 | x::l,0=>rfl
 | x::l,k+1=>by show lkP l k=_; rw [lkP_eq l k]; simp
theorem enter_of {k : Nat} {fn : Func} (hf : P.funcs[k]? = some fn) (hn : (fn.name == "runtime.NumGoroutine") = false) (hb : fn.body.isSome = true) : ∀ args w, (callFunc k args).run P w = .ok (.enter k args) w := by
 intro args w
 have hn' : ¬ fn.name = "runtime.NumGoroutine" := by simpa using hn
 have hb' : ¬ fn.body=none:=by intro h; rw [h] at hb; cases hb
 simp [callFunc,hf,hn',hb']
theorem fnsV_ok {cl : List Nat} (hn : (P.funcs.toList.all fun f => !(f.name == "runtime.NumGoroutine")) = true) (hc : ∀ k ∈ cl, CloneOK P T k) : ∀ k c fn, fnsV P.funcs.toList cl k = some (c, fn) → P.funcs[k]? = some fn ∧ (fn.body.isSome = true → ∀ args w, (callFunc k args).run P w = .ok (.enter k args) w) ∧ (c = true → CloneOK P T k) := by
 intro k c fn h
 unfold fnsV at h
 rw [lkP_eq,Array.getElem?_toList] at h
 cases hk:P.funcs[k]? with
 | none=>rw [hk] at h; cases h
 | some f =>
  rw [hk] at h
  have h:some (hasR cl k,f)=some (c,fn):=h
  cases h
  refine ⟨rfl,fun hb=>enter_of hk ?_ hb,fun e=>hc k ((hasR_iff _ _).1 e)⟩
  have:=List.all_eq_true.1 hn fn (List.mem_of_getElem? (by rw [Array.getElem?_toList]; exact hk))
  simpa using this
theorem fn_of_run (hT:TabOK P T) (hW:PWf P) (hnar:T.nar=0) (hgl:∀ g,T.gl g=none) {F:Nat→Option (Bool × Func)} (hF:∀ k cl fn,F k=some (cl,fn)→P.funcs[k]?=some fn∧(fn.body.isSome=true→∀ args w,(callFunc k args).run P w=.ok (.enter k args) w)∧(cl=true→CloneOK P T k)) {fuel k:Nat}
  (h:okV (runV T.ti F fuel k [] Tr.e 0)=true):Fn P T.gl k [] (fun u=>u=.sb true):=by
 unfold okV at h
 split at h
 ·rename_i t' n' hr
  have hV:=runV_sound hT hW hnar hgl hF fuel _ _ _ _ _ _ _ hr
  obtain ⟨_,hV⟩:=hV ⟨fun b sz rows e=>by (cases e),fun b _=>rfl⟩
  intro w Y cargs hG hY hargs
  obtain ⟨h1,h2⟩:=hV w Y noSg cargs [] (fun b=>rfl) hG hY (fun b _=>rfl) hargs ⟨fun b x e=>by (cases e),fun b b' x x' l l' e=>by (cases e)⟩
  refine ⟨h1,Calls.mono h2 fun e w' hh=>?_⟩
  obtain ⟨cv,Y',σ',st',rfl,_,H'⟩:=hh
  have hv:=H'.vals
  unfold RepL at hv
  obtain ⟨c,cs,e,h3,h4⟩:=hv
  cases e
  have h3:=rep_bool h3
  subst h3
  exact ⟨_,_,rfl,rfl,by unfold Rep; rfl,H'.chg.chg fun k hk=>by
   obtain ⟨_,b,x,l,e,_⟩:=hk
   cases e⟩
 ·cases h
end
end Go.Pv
namespace Go.Pv
open Go
section
variable {P:Program} {T:Tab} {S:Sig} {M:EncM} {α β σ ρ:Type} {r:ρ}
theorem d_b (hS:S=Sig.std P T) {c c' : Bool} {fa fb:Option ρ} {A B:Unit→Prop} (hf:br c' fa fb=some r) (ha:fa=some r→A ()) (hb:fb=some r→B ()) (e:c=c':=by simp only [q]; try first | rfl | simp [stdCmp,eI,eB,eL,eS,q]):S.br c A B:=d_br hS hf e ha hb
theorem d_x {I F:σ→Env} {k:σ→Option ρ} {s:σ} {E:Env} (hk:∀ s,I s=F s) (hf:k s=some r) (e:E=F s:=by (conv=>lhs; cbv) <;> (try simp only [q]) <;> (try rfl) <;> (try simp only [eL,q]) <;> (try rfl)):∃ s,k s=some r∧E=I s:=⟨s,hf,e.trans (hk s).symm⟩
theorem d_l {u v:PV} (e:u=v:=by simp only [q]; try first | rfl | simp [stdCmp,eI,eB,eL,eS,q]):LeP u v:=lp_eq e
theorem d_e {α:Sort _} {u v:α} (e:u=v:=by simp only [q]; try first | rfl | simp [stdCmp,eI,eB,eL,eS,q]):u=v:=e
theorem d_lp (hS:S=Sig.std P T) (hT:TabOK P T) (hW:PWf P) {b:Code} {Q:Post} {E:Env} {step:σ→(σ→Option ρ)→Option ρ} {s0:σ} (cvs:List Cv) (keep:List Nat) (F:σ→Env) (hf:loopF step s0=some r)
  (h:∀ (I:σ→Env) (k:σ→Option ρ) (s:σ),(∀ s,I s=F s)→step s k=some r→∀ e,e=F s→pwp T S b (seqQ (fun E'=>∃ s',k s'=some r∧canE T.pas keep (wkE (cvE S cvs E'))=I s') Q) e) (he:canE T.pas keep (wkE (cvE S cvs E))=F s0:=by (conv=>lhs; cbv) <;> (try simp only [q]) <;> (try rfl)):S.loop b Q E:=d_loop hS hT hW cvs keep F hf he h
theorem d_p (hS:S=Sig.std P T) {k:Nat} {args as bs:List PV} {cargs:List PV} {E:Env} {K:PV→Env→Prop} {g:Option α} {v:α→PV} {kk:α→Option ρ} (hf:bnd g kk=some r) (hF:∀ y,g=some y→Fn P T.gl k cargs (fun u=>u=v y)) (h:∀ y,kk y=some r→K (v y) E) (ha:as=cargs:=by rfl):S.callp k args as bs E K:=d_callp hS hf hF (le_eq ha) h
theorem d_c (hS:S=Sig.std P T) {k:Nat} {args:List PV} {cargs:List PV} {K:PV→Prop} {g:Option α} {v:α→PV} {kk:α→Option ρ} (hf:bnd g kk=some r) (hF:∀ y,g=some y→Fn P T.gl k cargs (fun u=>u=v y)) (h:∀ y,kk y=some r→K (v y)) (ha:args=cargs:=by rfl):S.callq k args K:=d_call hS hf hF (le_eq ha) h
theorem d_o (hS:S=Sig.std P T) {l:Array Oper} {p:Prop} (h:p) (hd:drawOK T l=true:=by kernel_rfl):S.order l p:=l_order hS hd h
end
def retSQC (T:Tab) (S:Sig) (cvs:List Cv) (rs:List ResultVar) (R:PV→St→Nat→Prop):Post
 | 0,E=>retSE T S rs (cvE S cvs E) R
 | 1,E=>retSE T S rs (cvE S cvs E) R
 | _+2,_=>False
theorem fnS_of_bodyC {P:Program} {T:Tab} (hT:TabOK P T) (hW:PWf P) {k:Nat} {fn:Func} {c:Code} (hf:P.funcs[k]?=some fn) (hb:fn.body=some c)
  (hcall:∀ args w,(callFunc k args).run P w=.ok (.enter k args) w) {args:List PV} {st:St} {R:PV→St→Nat→Prop} {m:Nat} (hm:fn.ntmps - args.length=m)
  (cvs:List Cv) (h:∀ S,S=Sig.std P T→pwp T S c (retSQC T S cvs fn.results.toList R) ⟨appL args (undefs m),st,T.pas⟩):FnS P T.gl k args st T.pas R:=by
 intro w Y σ cargs hG hY hn hargs hst hnn
 refine ⟨hcall _ _,?_⟩
 have hlen:=hargs.length
 let C:Ctx T:=ctxS T w Y σ st
 have H0:SW C w Y σ (appL args (undefs m)) ((cargs.toArray ++ Array.replicate (fn.ntmps - cargs.toArray.size) Go.undef).toList) st T.pas:=by
  refine ⟨?_,hst,hn,hY,fun _ h=>h.1,fun k h=>⟨hY k h.1,h.2⟩,fun k h _=>?_,ChgM.refl _ w,fun b x l h1 h2=>.inr ⟨b,x,l,h1,h2,rfl⟩,hG,⟨Nat.le_refl _,fun _ _=>rfl⟩,Nest.none (noNar_spec st hnn)⟩
  ·have:(cargs.toArray ++ Array.replicate (fn.ntmps - cargs.toArray.size) Go.undef).toList=cargs ++ List.replicate m Go.undef:=by simp [hlen,hm]
   rw [this]
   exact RepL.app _ _ _ _ hargs (undefs_rep m)
  ·by_cases hi:InSt σ st k
   ·exact .inr ⟨h,hi⟩
   ·exact .inl ⟨h,hi⟩
 have hwp:=pwp_sound hT hW c _ _ (h _ rfl) C { tmps:=cargs.toArray ++ Array.replicate (fn.ntmps - cargs.toArray.size) Go.undef,defers:=[] } w ⟨⟨Y,σ,H0⟩,rfl⟩
 refine calls_of_wp hf hb (wp_mono hwp ?_)
 have key:∀ (a:Act) (w' : World),(∃ E,ActRep C E a w'∧retSE T (Sig.std P T) fn.results.toList (cvE (Sig.std P T) cvs E) R)→a.defers=[]∧∃ v,(results fn a.tmps).run P w'=.ok v w' ∧
   ∃ cv u st' n' Y' σ',Ending.returned v=.returned cv∧R u st' n'∧SW (ctxS ⟨fun _=>.bad,T.gl,T.pas,[],0,[],[]⟩ w Y σ st) w' Y' σ' [u] [cv] st' n':=by
  rintro a w' ⟨E0,hA0,hr⟩
  obtain ⟨⟨Y',σ',H⟩,hd⟩:=ent_cvE (P:=P) (T':=T) cvs E0 C a w' hA0
  generalize cvE (Sig.std P T) cvs E0=E at *
  refine ⟨hd,?_⟩
  unfold retSE at hr
  split at hr
  ·rename_i vs hv
   obtain ⟨cv,hrun,hrep⟩:=ret_sound hT H hv
   have H1:SW C w' Y' σ' [retOne vs] [cv] E.st E.next:=H.vals' (by unfold RepL; exact ⟨_,_,rfl,hrep,by unfold RepL; rfl⟩)
   obtain ⟨Y1,σ1,n',H2,hrep2⟩:=cvRet_sound (P:=P) (T':=T) T.own (retOne vs) H1 hrep
   have H3:=H2.vals' (show RepL w' Y1 σ1 [(cvRet (Sig.std P T) T.own (retOne vs) E.st E.next).1] [cv] by unfold RepL; exact ⟨_,_,rfl,hrep2,by unfold RepL; rfl⟩)
   split at hr
   rename_i v st2 n2 he
   rw [he] at H3
   obtain ⟨h1,h2,h3⟩:=seenN_ok T.pas st2 [v]
   obtain ⟨σ2,H4,_⟩:=H3.canR h1 h2 h3
   refine ⟨cv,hrun,cv,_,_,_,Y1,σ2,rfl,hr,⟨?_,H4.store,H4.next,H4.yold,H4.y0,H4.c0,H4.yshr,H4.chg,H4.own,H4.glob,H4.fix,H4.nest⟩⟩
   simpa only [mapV] using H4.vals
  ·exact hr.elim
 intro e a w' hq
 cases e with
 | normal=>exact key a w' hq
 | ret=>exact key a w' hq
 | exit n=>obtain ⟨E,_,hq⟩:=hq; exact hq.elim
 | _=>exact hq.elim
theorem fnS_decC {P:Program} {T:Tab} (hT:TabOK P T) (hW:PWf P) {k:Nat} {fn:Func} {c:Code} (hf:P.funcs[k]?=some fn) (hb:fn.body=some c)
  (hcall:∀ args w,(callFunc k args).run P w=.ok (.enter k args) w) {args:List PV} {st:St} {v:PV} {st1:St} {n1:Nat} {m:Nat} (hm:fn.ntmps - args.length=m)
  (cvs:List Cv) (h:∀ S R,S=Sig.std P T→(∀ u s n,LeP u v→LeS s st1→n=n1→R u s n)→pwp T S c (retSQC T S cvs fn.results.toList R) ⟨appL args (undefs m),st,T.pas⟩):FnS P T.gl k args st T.pas (fun u s n=>u=v∧s=st1∧n=n1):=by
 have H:=fnS_of_bodyC hT hW hf hb hcall hm (st:=st) (cvs:=cvs) (R:=fun u s n=>LeP u v∧LeS s st1∧n=n1) fun S hS=>h S _ hS fun _ _ _ h1 h2 h3=>⟨h1,h2,h3⟩
 intro w Y σ cargs hG hY hn hr hst hnn
 obtain ⟨h1,h2⟩:=H w Y σ cargs hG hY hn hr hst hnn
 refine ⟨h1,Calls.mono h2 fun e w' hh=>?_⟩
 obtain ⟨cv,u,s,n,Y',σ',he,⟨h3,h4,h5⟩,H⟩:=hh
 refine ⟨cv,v,st1,n,Y',σ',he,⟨rfl,rfl,h5⟩,?_⟩
 have hv:RepL w' Y' σ' [v] [cv]:=by
  have:=H.vals
  unfold RepL at this ⊢
  obtain ⟨c,cs,e,h6,h7⟩:=this
  cases e
  exact ⟨_,_,rfl,h3.rep _ h6,by unfold RepL at h7 ⊢; exact h7⟩
 exact (H.vals' hv).stLe (h4.stLe w' Y' σ')
end Go.Pv
