import Derived.LoopN
import Derived.OpenShut
import Derived.DataReads
import Derived.Carry
import Derived.Handed
import Derived.JoinedCond
import Derived.Test.YthfepelpmalckaaGreatDoorD05
set_option linter.all false
namespace Go.Pv
open Go
def rndE (T:Tab) (S:Sig) (b:Code) (Q:Post):Nat→Env→Prop
 | 0,_=>False
 | n+1,E=>pwp T S b (seqQ (fun E=>rndE T S b Q n E) Q) E
theorem lift_rounds {P:Program} {T:Tab} {C:Ctx T} {b:Code} {Q:Post} {nx:Env→Prop} {n:Nat} (hb:∀ E a w,ActRep C E a w→nx E→Code.rounds P b (lift C Q) n a w):∀ e a w,lift C (seqQ nx Q) e a w→Exit.then (Code.rounds P b (lift C Q) n) (lift C Q) e a w:=by
 intro e a w h
 cases e with
 | normal=>obtain ⟨E,hA,hq⟩:=h; exact hb E a w hA hq
 | ret=>obtain ⟨E,hA,hq⟩:=h; exact ⟨E,hA,hq⟩
 | exit n=>obtain ⟨E,hA,hq⟩:=h; exact ⟨E,hA,hq⟩
 | _=>exact h.elim
theorem rndE_sound {P:Program} {T:Tab} (hT:TabOK P T) (hW:PWf P) {b:Code} {Q:Post}:∀ (n:Nat) (E:Env),rndE T (Sig.std P T) b Q n E→∀ (C:Ctx T) a w,ActRep C E a w→Code.rounds P b (lift C Q) n a w
 | 0,E,h,_,_,_,_=>h.elim
 | n+1,E,h,C,a,w,hA=>by
  unfold Code.rounds
  exact wp_mono (pwp_sound hT hW b _ E h C a w hA) (lift_rounds fun E' a' w' hA' hq=>rndE_sound hT hW n E' hq C a' w' hA')
def wkV:PV→PV
 | .int k n=>.si k n
 | .bool b=>.sb b
 | v=>v
def wkB:Option Blk→Option Blk
 | some (.var ro row)=>some (.var ro (mapV wkV row))
 | x=>x
def wkS:St→St
 | []=>[]
 | (b,x)::l=>(b,wkB x)::wkS l
def wkE (E:Env):Env:=⟨mapV wkV E.tmps,wkS E.st,E.next⟩
theorem lkS_wkS (c:Nat):∀ st:St,lkS (wkS st) c=wkB (lkS st c)
 | []=>rfl
 | (b,x)::l=>by
  simp only [wkS,lkS]
  cases Nat.beq b c with
  | true=>rfl
  | false=>exact lkS_wkS c l
theorem wkV_rep {w:World} {Y:Nat→Prop} {σ:Sg} (p:PV) (v:Value) (h:Rep w Y σ p v):Rep w Y σ (wkV p) v:=by
 cases p <;> first | exact h | (unfold wkV; unfold Rep at h ⊢; exact h)
theorem wkL_rep {w:World} {Y:Nat→Prop} {σ:Sg}:∀ (ps:List PV) (vs:List Value),RepL w Y σ ps vs→RepL w Y σ (mapV wkV ps) vs
 | [],vs,h=>h
 | p::ps,vs,h=>by
  unfold RepL at h
  obtain ⟨v,vs',rfl,h1,h2⟩:=h
  simp only [mapV]
  unfold RepL
  exact ⟨v,vs',rfl,wkV_rep p v h1,wkL_rep ps vs' h2⟩
theorem SW.stLe {T:Tab} {C:Ctx T} {w:World} {Y:Nat→Prop} {σ:Sg} {ps:List PV} {vs:List Value} {st st' : St} {n:Nat} (H:SW C w Y σ ps vs st n)
  (h:∀ b,lkS st' b=lkS st b∨∃ ro row row',lkS st b=some (.var ro row)∧lkS st' b=some (.var ro row')∧row'.length=row.length∧∀ cb o,RepC w Y σ cb row o→RepC w Y σ cb row' o):SW C w Y σ ps vs st' n:=by
 have some' : ∀ b x,lkS st' b=some x→∃ y,lkS st b=some y:=by
  intro b x hx
  rcases h b with e | ⟨ro,row,row',e1,e2,_⟩
  ·exact ⟨x,by rw [← e]; exact hx⟩
  ·exact ⟨_,e1⟩
 have ow:∀ b r c h' sz es,OwAt st' b r c h' sz es→OwAt st b r c h' sz es:=by
  rintro b r c h' sz es ⟨sz0,rows,row,h1,h2⟩
  rcases h b with e | ⟨ro,row1,row',e1,e2,_⟩
  ·exact ⟨sz0,rows,row,by rw [← e]; exact h1,h2⟩
  ·rw [e2] at h1; cases h1
 refine ⟨H.vals,⟨?_,?_⟩,H.next,H.yold,H.y0,H.c0,H.yshr,H.chg,?_,H.glob,H.fix,⟨?_,?_,?_,?_⟩⟩
 ·intro b x hx
  rcases h b with e | ⟨ro,row,row',e1,e2,e3,e4⟩
  ·exact H.store.blk b x (by rw [← e]; exact hx)
  ·rw [e2] at hx; cases hx
   rcases H.store.blk b _ e1 with ⟨l,hl,hB⟩ | ⟨_,_,_,hx⟩
   ·refine .inl ⟨l,hl,?_⟩
    unfold BlkRep at hB ⊢
    exact ⟨hB.1,by rw [e3]; exact hB.2.1,by rw [e3]; exact hB.2.2.1,e4 _ _ hB.2.2.2.1,hB.2.2.2.2⟩
   ·cases hx
 ·intro b b' x x' l l' hx hx' hl hl' e
  obtain ⟨y,hy⟩:=some' b x hx
  obtain ⟨y',hy'⟩:=some' b' x' hx'
  exact H.store.inj b b' y y' l l' hy hy' hl hl' e
 ·intro b x l hx hl
  obtain ⟨y,hy⟩:=some' b x hx
  exact H.own b y l hy hl
 ·intro b r c h' sz es ho; exact H.nest.rep _ _ _ _ _ _ (ow _ _ _ _ _ _ ho)
 ·intro b r c h' sz es ho; exact H.nest.old _ _ _ _ _ _ (ow _ _ _ _ _ _ ho)
 ·intro b r c h' sz es b' r' c' h2 sz' es' ho ho' e; exact H.nest.one _ _ _ _ _ _ _ _ _ _ _ _ (ow _ _ _ _ _ _ ho) (ow _ _ _ _ _ _ ho') e
 ·intro b r c h' sz es b' x l ho hx hl
  obtain ⟨y,hy⟩:=some' b' x hx
  exact H.nest.sep _ _ _ _ _ _ b' y l (ow _ _ _ _ _ _ ho) hy hl
theorem ent_wkE {T:Tab} (E:Env):Ent T E (wkE E):=by
 intro C a w hA
 obtain ⟨⟨Y,σ,H⟩,hd⟩:=hA
 refine ⟨⟨Y,σ,(H.vals' (wkL_rep _ _ H.vals)).stLe fun b=>?_⟩,hd⟩
 have hk:lkS (wkE E).st b=wkB (lkS E.st b):=lkS_wkS b E.st
 rw [hk]
 cases hb:lkS E.st b with
 | none=>exact .inl rfl
 | some x =>
  cases x with
  | var ro row =>
   refine .inr ⟨ro,row,mapV wkV row,rfl,rfl,by rw [mapV_eq]; simp,fun cb o h=>?_⟩
   rw [mapV_eq]
   exact RepC.map wkV_rep row o h
  | _=>exact .inl rfl
theorem RepC.setSame {w:World} {Y:Nat→Prop} {σ:Sg} {b:Nat} {p:PV}:∀ (ps:List PV) (o t:Nat),(∀ v,Rep w Y σ (getL ps t) v→Rep w Y σ p v)→RepC w Y σ b ps o→RepC w Y σ b (setL ps t p) o
 | [],o,t,_,h=>by simpa [setL] using h
 | q::ps,o,0,hp,h=>by
  unfold RepC at h; obtain ⟨⟨v,h1,h2⟩,h3⟩:=h
  simp only [setL]; unfold RepC; exact ⟨⟨v,h1,hp v h2⟩,h3⟩
 | q::ps,o,t+1,hp,h=>by
  unfold RepC at h; obtain ⟨h1,h3⟩:=h
  simp only [setL]; unfold RepC; exact ⟨h1,RepC.setSame ps (o+1) t hp h3⟩
inductive Cv where
 | tO (t z:Nat)
 | tS (t z:Nat)
 | cO (b c z:Nat)
 | cS (b c z:Nat)
 | tR (t:Nat)
 | tF (t:Nat)
 | tP (t:Nat)
 | cF (b c:Nat)
 | cR (b c:Nat)
def cvS (z:Nat) (v:PV):PV :=
 match v with
 | .sl a es f=>(match f with
  | true=>(match es with
   | []=>.sl z [] false
   | _::_=>.sl a es f)
  | false=>.sl a es f)
 | v=>v
theorem cvS_rep {w:World} {Y:Nat→Prop} {σ:Sg} (z:Nat) (p:PV) (v:Value) (h:Rep w Y σ p v):Rep w Y σ (cvS z p) v:=by
 unfold cvS
 split
 ·split
  ·split
   ·unfold Rep at h ⊢
    obtain ⟨a,len,cap,e,hl,hc,_,_⟩:=h
    exact ⟨a,len,cap,e,hl,hc,(fun h=>by cases h),.inl rfl⟩
   ·exact h
  ·exact h
 ·exact h
def cvO (z n:Nat) (v:PV):Option PV :=
 match v with
 | .sl _ es f=>(match f with
  | true=>(match es with
   | []=>some (.os n 0 0)
   | _::_=>none)
  | false=>none)
 | _=>none
theorem cvO_rep {w:World} {Y:Nat→Prop} {σ:Sg} {z n:Nat} {p q:PV} (e:cvO z n p=some q) (v:Value) (h:Rep w Y σ p v):Rep w Y σ q v:=by
 unfold cvO at e
 split at e
 ·split at e
  ·split at e
   ·cases e
    unfold Rep at h ⊢
    obtain ⟨sx,len,cap,e,hl,hc,hf,_⟩:=h
    have hl:len=0:=by simpa using hl
    have hc:=hf rfl
    subst hl
    rw [e,hc]
    exact .inr ⟨rfl,sx,rfl⟩
   ·cases e
  ·cases e
 ·cases e
def cv1 (S:Sig):Cv→Env→Env
 | .tO t z,E=>(match cvO z E.next (getL E.tmps t) with
  | some v=>⟨setL E.tmps t v,inS E.st E.next (some (.arr false z [])),E.next+1⟩
  | none=>E)
 | .tS t z,E=>⟨setL E.tmps t (cvS z (getL E.tmps t)),E.st,E.next⟩
 | .cO b c z,E=>(match lkS E.st b with
  | some (.var ro row)=>(match cvO z E.next (getL row c) with
   | some v=>⟨E.tmps,inS (inS E.st b (some (.var ro (setL row c v)))) E.next (some (.arr false z [])),E.next+1⟩
   | none=>E)
  | _=>E)
 | .cS b c z,E=>(match lkS E.st b with
  | some (.var ro row)=>⟨E.tmps,inS E.st b (some (.var ro (setL row c (cvS z (getL row c))))),E.next⟩
  | _=>E)
 | .tR t,E=>(match getL E.tmps t with
  | .os b r m=>(match lkS E.st b with
   | some (.arr false sz rows)=>⟨setL E.tmps t (.os E.next 0 m),inS (inS E.st b none) E.next (some (.arr false sz (S.sub rows r m))),E.next+1⟩
   | _=>E)
  | _=>E)
 | .tF t,E=>(match getL E.tmps t with
  | .os b r m=>(match lkS E.st b with
   | some (.arr _ sz rows)=>⟨setL E.tmps t (.sl sz (S.sub rows r m) false),inS E.st b (some (.arr true sz rows)),E.next⟩
   | _=>E)
  | _=>E)
 | .tP t,E=>(match getL E.tmps t with
  | .lv b c=>(match lkS E.st b with
   | some (.var _ row)=>(match pur S (fun _=>none) row with
    | some _=>⟨setL E.tmps t (.pp (dropL c row)),inS E.st b (some (.var true row)),E.next⟩
    | none=>E)
   | _=>E)
  | _=>E)
 | .cF b c,E=>(match lkS E.st b with
  | some (.var ro row)=>(match getL row c with
   | .os b' r m=>(match lkS E.st b' with
    | some (.arr _ sz rows)=>⟨E.tmps,inS (inS E.st b' (some (.arr true sz rows))) b (some (.var ro (setL row c (.sl sz (S.sub rows r m) false)))),E.next⟩
    | _=>E)
   | _=>E)
  | _=>E)
 | .cR b c,E=>(match lkS E.st b with
  | some (.var false row)=>(match getL row c with
   | .os b' r m=>(match lkS E.st b' with
    | some (.arr false sz rows)=>⟨E.tmps,inS (inS (inS E.st b' none) E.next (some (.arr false sz (S.sub rows r m)))) b (some (.var false (setL row c (.os E.next 0 m)))),E.next+1⟩
    | _=>E)
   | _=>E)
  | _=>E)
def cvE (S:Sig):List Cv→Env→Env
 | [],E=>E
 | c::l,E=>cvE S l (cv1 S c E)
theorem cv1_sw {P:Program} {T T' : Tab} {C:Ctx T} {w:World} {Y:Nat→Prop} {σ:Sg} {vs:List Value} (c:Cv) (E:Env) (H:SW C w Y σ E.tmps vs E.st E.next):∃ Y' σ',SW C w Y' σ' (cv1 (Sig.std P T') c E).tmps vs (cv1 (Sig.std P T') c E).st (cv1 (Sig.std P T') c E).next∧Keep w w Y Y' σ σ':=by
 have K0:Keep w w Y Y σ σ:=Keep.same (SgLe.refl _)
 have H1:∀ z,SW C w Y σ E.tmps vs (inS E.st E.next (some (.arr false z []))) (E.next+1):=by
  intro z
  have H1:=H.empty (id:=E.next) ⟨H.next _ (Nat.le_refl _),H.fix.1⟩ z
  have hm:max E.next (E.next+1)=E.next+1:=by omega
  rw [hm] at H1; exact H1
 cases c with
 | tO t z =>
  simp only [cv1]
  split
  ·rename_i v he
   exact ⟨Y,σ,(H1 z).vals' (RepL.setSame _ _ _ H.vals (cvO_rep he _ (H.vals.get _ _ t))),K0⟩
  ·exact ⟨Y,σ,H,K0⟩
 | tS t z=>exact ⟨Y,σ,H.vals' (RepL.setSame _ _ _ H.vals (cvS_rep z _ _ (H.vals.get _ _ t))),K0⟩
 | cO b c z =>
  simp only [cv1]
  split
  ·rename_i ro row hb
   split
   ·rename_i v he
    refine ⟨Y,σ,(H1 z).stLe fun b'=>?_,K0⟩
    have hne:¬ E.next=b:=by
     intro e
     rcases H.store.blk b _ hb with ⟨l,hl,_⟩ | ⟨_,_,_,hx⟩
     ·rw [H.next b (by omega)] at hl; cases hl
     ·cases hx
    simp only [lkS_inS]
    by_cases h1:E.next=b'
    ·exact .inl (by simp [h1])
    ·by_cases h2:b=b'
     ·subst h2
      exact .inr ⟨ro,row,setL row c v,by simp [h1,hb],by simp [h1],by simp [setL_eq],fun cb o h=>RepC.setSame _ _ _ (fun v=>cvO_rep he v) h⟩
     ·exact .inl (by simp [h1,h2])
   ·exact ⟨Y,σ,H,K0⟩
  ·exact ⟨Y,σ,H,K0⟩
 | cS b c z =>
  simp only [cv1]
  split
  ·rename_i ro row hb
   refine ⟨Y,σ,H.stLe fun b'=>?_,K0⟩
   simp only [lkS_inS]
   by_cases h2:b=b'
   ·subst h2
    exact .inr ⟨ro,row,setL row c (cvS z (getL row c)),hb,by simp,by simp [setL_eq],fun cb o h=>RepC.setSame _ _ _ (fun v=>cvS_rep z _ v) h⟩
   ·exact .inl (by simp [h2])
  ·exact ⟨Y,σ,H,K0⟩
 | tR t =>
  simp only [cv1]
  have hg:=H.vals.get _ _ t
  split
  ·rename_i b r m hp
   rw [hp] at hg
   split
   ·rename_i sz rows hb
    obtain ⟨σ',H1,h1,k1⟩:=H.reroot hb hg
    exact ⟨Y,σ',H1.vals' (RepL.setSame _ _ _ H1.vals h1),Keep.same k1⟩
   ·exact ⟨Y,σ,H,K0⟩
  ·exact ⟨Y,σ,H,K0⟩
 | tF t =>
  simp only [cv1]
  split
  ·rename_i b r m hp
   split
   ·rename_i ro sz rows hb
    obtain ⟨Y',H1,hfr,hY⟩:=H.freeze hb (.inr ⟨ro,sz,rows,rfl,rfl⟩)
    refine ⟨Y',σ,H1.vals' (RepL.setSame _ _ _ H1.vals ?_),⟨fun _ _ _=>rfl,fun k _=>hY k,Nat.le_refl _,SgLe.refl _⟩⟩
    have hg:=H1.vals.get _ _ t
    rw [hp] at hg
    have hb' : lkS (inS E.st b (some (.arr true sz rows))) b=some (.arr true sz rows):=by rw [lkS_inS,if_pos rfl]
    obtain ⟨x,cap,ev,hn,hl,hr⟩:=os_rows hg (H1.store.blk b _ hb')
    show Rep w Y' σ (.sl sz ((rows.drop r).take m) false) _
    unfold Rep
    refine ⟨x,m,cap,ev,hl,hn,(fun h=>by cases h),hr.imp id fun ⟨b',o,e,hlt,⟨l,hl2,e2⟩,hR⟩=>⟨b',o,e,⟨hlt,by rw [e2]; exact hfr l hl2⟩,hR⟩⟩
   ·exact ⟨Y,σ,H,K0⟩
  ·exact ⟨Y,σ,H,K0⟩
 | tP t =>
  simp only [cv1]
  split
  ·rename_i b c hp
   split
   ·rename_i ro row hb
    split
    ·rename_i pr hpur
     obtain ⟨Y',H1,hfr,hY⟩:=H.freeze hb (x':=.var true row) (.inl ⟨ro,row,rfl,rfl⟩)
     refine ⟨Y',σ,H1.vals' (RepL.setSame _ _ _ H1.vals ?_),⟨fun _ _ _=>rfl,fun k _=>hY k,Nat.le_refl _,SgLe.refl _⟩⟩
     have hg:=H1.vals.get _ _ t
     rw [hp] at hg
     unfold Rep at hg ⊢
     obtain ⟨l,hs,ev⟩:=hg
     have hB:=BlkRep.of_lk H1 (lk:=lkS (inS E.st b (some (.var true row)))) (fun _ _ h=>h) (by rw [lkS_inS,if_pos rfl]) hs
     have hlt:=hB.lt
     unfold BlkRep at hB
     obtain ⟨us,hr,hcell⟩:=hB.2.2.2.1.vals
     have hr':=plain_rep _ _ _ hpur hr
     have hrc:=(RepC.of_vals row us l.co hr' hcell).drop c _ _
     exact ⟨l.cb,l.co+c,ev,⟨hlt,hfr l hs⟩,by rw [dropL_eq]; exact hrc⟩
    ·exact ⟨Y,σ,H,K0⟩
   ·exact ⟨Y,σ,H,K0⟩
  ·exact ⟨Y,σ,H,K0⟩
 | cF b c =>
  simp only [cv1]
  split
  ·rename_i ro row hbv
   split
   ·rename_i b' r m hp
    split
    ·rename_i ro' sz rows hb
     obtain ⟨Y',H1,hfr,hY⟩:=H.freeze hb (.inr ⟨ro',sz,rows,rfl,rfl⟩)
     refine ⟨Y',σ,H1.stLe fun d=>?_,⟨fun _ _ _=>rfl,fun k _=>hY k,Nat.le_refl _,SgLe.refl _⟩⟩
     have hne:¬ b'=b:=by intro e; rw [e,hbv] at hb; cases hb
     rw [lkS_inS]
     by_cases h2:b=d
     ·subst h2
      refine .inr ⟨ro,row,setL row c (.sl sz ((Sig.std P T').sub rows r m) false),by rw [lkS_inS,if_neg hne]; exact hbv,by rw [if_pos rfl],by simp [setL_eq],fun cb o h=>RepC.setSame _ _ _ (fun v hv=>?_) h⟩
      rw [hp] at hv
      have hb' : lkS (inS E.st b' (some (.arr true sz rows))) b'=some (.arr true sz rows):=by rw [lkS_inS,if_pos rfl]
      obtain ⟨x,cap,ev,hn,hl,hr⟩:=os_rows hv (H1.store.blk b' _ hb')
      show Rep w Y' σ (.sl sz ((rows.drop r).take m) false) _
      unfold Rep
      refine ⟨x,m,cap,ev,hl,hn,(fun h=>by cases h),hr.imp id fun ⟨b2,o,e,hlt,⟨l,hl2,e2⟩,hR⟩=>⟨b2,o,e,⟨hlt,by rw [e2]; exact hfr l hl2⟩,hR⟩⟩
     ·exact .inl (by rw [if_neg h2])
    ·exact ⟨Y,σ,H,K0⟩
   ·exact ⟨Y,σ,H,K0⟩
  ·exact ⟨Y,σ,H,K0⟩
 | cR b c =>
  simp only [cv1]
  split
  ·rename_i row hbv
   split
   ·rename_i b' r m hp
    split
    ·rename_i sz rows hb
     obtain ⟨l,hl,hB⟩:∃ l,σ b=some l∧BlkRep w Y σ l (.var false row):=by
      rcases H.store.blk b _ hbv with h | ⟨_,_,_,h⟩
      ·exact h
      ·cases h
     have hB0:=hB
     unfold BlkRep at hB
     obtain ⟨hat,hsz,htot,hrow,hY,hY'⟩:=hB
     have hc:c<row.length:=by
      by_cases hh:c<row.length
      ·exact hh
      ·rw [getL_ge (Nat.le_of_not_lt hh)] at hp; cases hp
     obtain ⟨v,hv1,hv2⟩:=RepC.get row _ c hrow hc
     rw [hp] at hv2
     obtain ⟨σ',H1,h1,k1⟩:=H.reroot hb hv2
     have hne:¬ b'=b:=by intro e; rw [e,hbv] at hb; cases hb
     have hnx:¬ E.next=b:=by
      intro e
      rw [H.next b (by omega)] at hl; cases hl
     have hbv1:lkS (inS (inS E.st b' none) E.next (some (.arr false sz ((rows.drop r).take m)))) b=some (.var false row):=by
      rw [lkS_inS,if_neg hnx,lkS_inS,if_neg hne]; exact hbv
     refine ⟨Y,σ',H1.update hbv1 (k1 _ _ hl) (hY rfl) rfl rfl rfl rfl (fun _ _=>rfl) (fun _ _ h=>by cases h) (fun _=>?_),Keep.same k1⟩
     obtain ⟨l2,hl2,hB2⟩:∃ l,σ' b=some l∧BlkRep w Y σ' l (.var false row):=by
      rcases H1.store.blk b _ hbv1 with h | ⟨_,_,_,h⟩
      ·exact h
      ·cases h
     rw [k1 _ _ hl] at hl2; cases hl2
     unfold BlkRep at hB2 ⊢
     obtain ⟨g1,g2,g3,g4,g5,g6⟩:=hB2
     refine ⟨g1,by rw [g2]; simp [setL_eq],by simpa [setL_eq] using g3,?_,g5,g6⟩
     rw [RepC.iff] at g4 ⊢
     intro i p hi
     rw [setL_eq] at hi
     by_cases hic:i=c
     ·subst hic
      rw [List.getElem?_set_self hc] at hi
      cases hi
      exact ⟨v,hv1,h1⟩
     ·rw [List.getElem?_set_ne (by omega)] at hi
      exact g4 i p hi
    ·exact ⟨Y,σ,H,K0⟩
   ·exact ⟨Y,σ,H,K0⟩
  ·exact ⟨Y,σ,H,K0⟩
theorem cvE_sw {P:Program} {T T' : Tab} {C:Ctx T} {w:World} {vs:List Value}:∀ (l:List Cv) (E:Env) {Y:Nat→Prop} {σ:Sg},SW C w Y σ E.tmps vs E.st E.next→∃ Y' σ',SW C w Y' σ' (cvE (Sig.std P T') l E).tmps vs (cvE (Sig.std P T') l E).st (cvE (Sig.std P T') l E).next∧Keep w w Y Y' σ σ'
 | [],E,Y,σ,H=>⟨Y,σ,H,Keep.same (SgLe.refl _)⟩
 | c::l,E,Y,σ,H=>by
  obtain ⟨Y1,σ1,H1,k1⟩:=cv1_sw (P:=P) (T':=T') c E H
  obtain ⟨Y2,σ2,H2,k2⟩:=cvE_sw (P:=P) (T':=T') l _ H1
  exact ⟨Y2,σ2,H2,k1.trans2 k2⟩
theorem ent_cv1 {P:Program} {T T' : Tab} (c:Cv) (E:Env):Ent T E (cv1 (Sig.std P T') c E):=by
 intro C a w hA
 obtain ⟨⟨Y,σ,H⟩,hd⟩:=hA
 obtain ⟨Y',σ',H',_⟩:=cv1_sw (P:=P) (T':=T') c E H
 exact ⟨⟨Y',σ',H'⟩,hd⟩
theorem ent_cvE {P:Program} {T T' : Tab}:∀ (l:List Cv) (E:Env),Ent T E (cvE (Sig.std P T') l E)
 | [],E=>Ent.refl E
 | c::l,E=>fun C a w h=>ent_cvE l _ C a w (ent_cv1 c E C a w h)
def tpsL:Nat→Nat→List (Nat × PV)→List PV
 | _,0,_=>[]
 | i,n+1,[]=>.top::tpsL (i+1) n []
 | i,n+1,(k,v)::l=>bif Nat.beq k i then v::tpsL (i+1) n l else .top::tpsL (i+1) n ((k,v)::l)
theorem Ent.trans {T:Tab} {E F G:Env} (h:Ent T E F) (k:Ent T F G):Ent T E G:=fun C a w x=>k C a w (h C a w x)
section
variable {P:Program} {T:Tab} (hT:TabOK P T) (hW:PWf P) {S:Sig} (hS:S=Sig.std P T)
include hT hW hS
theorem l_rounds (n:Nat) {b:Code} {Q:Post} {E:Env} (h:rndE T S b Q n E):S.loop b Q E:=by
 subst hS
 intro C a w hA
 exact wp_loop_rounds n (rndE_sound hT hW n E h C a w hA)
end
end Go.Pv
namespace Go.Pv
open Go
mutual
inductive Shp (P:Program):TypeId→List PV→Prop
 | int {t:TypeId} {k:IntKind} {n:Int}:P.underlying t=some (.int k)→(Lit.int k n).wf=true→Shp P t [.si k n]
 | bool {t:TypeId} {b:Bool}:P.underlying t=some .bool→Shp P t [.sb b]
 | str {t:TypeId} {s:ByteArray}:P.underlying t=some .string→s.size≤maxLen→Shp P t [.str s]
 | nilp {t e:TypeId}:P.underlying t=some (.pointer e)→Shp P t [.nilp]
 | pp {t e:TypeId} {cs:List PV}:P.underlying t=some (.pointer e)→Shp P e cs→Shp P t [.pp cs]
 | sl {t e:TypeId} {es:List (List PV)}:P.underlying t=some (.slice e)→(∀ r∈es,Shp P e r)→es.length≤maxLen→Shp P t [.sl (P.cellsOf e) es false]
 | struct {t:TypeId} {fs:Array Field} {cs:List PV}:P.underlying t=some (.struct fs)→ShpL P (fs.toList.map (·.type)) cs→Shp P t cs
 | arr {t e:TypeId} {n:Nat} {cs:List PV}:P.underlying t=some (.array n e)→ShpL P (List.replicate n e) cs→Shp P t cs
inductive ShpL (P:Program):List TypeId→List PV→Prop
 | nil:ShpL P [] []
 | cons {t:TypeId} {ts:List TypeId} {a b:List PV}:Shp P t a→ShpL P ts b→ShpL P (t::ts) (a ++ b)
end
def contig (P:Program) (ts:List TypeId):List Field→Nat→Option Nat
 | [],n=>some n
 | f::fs,n=>bif Nat.beq f.offset n && ts.contains f.type then contig P ts fs (n+P.cellsOf f.type) else none
def lay1 (P:Program) (ts:List TypeId) (t:TypeId):Bool :=
 match P.underlying t with
 | some .bool | some (.int _) | some .string=>Nat.beq (P.cellsOf t) 1
 | some (.pointer e)=>Nat.beq (P.cellsOf t) 1 && Nat.blt 0 (P.cellsOf e) && ts.contains e
 | some (.slice e)=>Nat.beq (P.cellsOf t) 1 && Nat.blt 0 (P.cellsOf e) && ts.contains e
 | some (.struct fs)=>match contig P ts fs.toList 0 with | some n=>Nat.beq n (P.cellsOf t) | none=>false
 | some (.array n e)=>Nat.beq (P.cellsOf t) (n * P.cellsOf e) && ts.contains e
 | _=>false
def layAll (P:Program) (ts:List TypeId):List TypeId→Bool
 | []=>true
 | t::l=>lay1 P ts t && layAll P ts l
theorem layAll_spec {P:Program} {ts:List TypeId}:∀ (l:List TypeId),layAll P ts l=true→∀ t∈l,lay1 P ts t=true
 | [],_,t,h=>by simp at h
 | u::l,h,t,ht=>by
  simp only [layAll,Bool.and_eq_true] at h
  rcases List.mem_cons.1 ht with rfl | ht
  ·exact h.1
  ·exact layAll_spec l h.2 t ht
section
variable {H:Type} {enc:TypeId × Value→H} {P:Program} {w:World} {base:Nat} {sp:Nat→Bool} {held:Bool}
def NoY:Nat→Prop:=fun _=>False
theorem allCell_app:∀ (a b:List PV),allCell a=true→allCell b=true→allCell (a ++ b)=true
 | [],b,_,h=>by simpa using h
 | x::a,b,h,k=>by
  simp only [allCell,Bool.and_eq_true,List.cons_append] at h ⊢
  exact ⟨h.1,allCell_app a b h.2 k⟩
mutual
theorem Shp.cells {t:TypeId} {cs:List PV}:Shp P t cs→allCell cs=true
 | .int _ _=>rfl
 | .bool _=>rfl
 | .str _ _=>rfl
 | .nilp _=>rfl
 | .pp _ _=>rfl
 | .sl _ _ _=>rfl
 | .struct _ h=>ShpL.cells h
 | .arr _ h=>ShpL.cells h
theorem ShpL.cells {ts:List TypeId} {cs:List PV}:ShpL P ts cs→allCell cs=true
 | .nil=>rfl
 | .cons h k=>allCell_app _ _ (Shp.cells h) (ShpL.cells k)
end
theorem RepL.append {Y:Nat→Prop} {σ:Sg} {a b:List PV} {vs us:List Value} (h:RepL w Y σ a vs) (k:RepL w Y σ b us):RepL w Y σ (a ++ b) (vs ++ us):=by
 have:=RepL.app a b vs us h k
 rwa [appL_eq] at this
theorem spot_of_cell {a:Addr} {v:Value} (h:w.cell? a=some v):a.spot=none:=by
 unfold World.cell? at h
 split at h
 ·split at h
  ·cases h
  ·rename_i hs
   cases hh:a.spot with
   | none=>rfl
   | some s=>rw [hh] at hs; simp at hs
 ·cases h
theorem row_of_cells {b:Nat} {o:Nat} {n:Nat} {vs:List Value} {ps:List PV} (hc:w.cells? base ⟨b,o,none⟩ n=some vs) (hr:RepL w NoY noSg ps vs):RepC w NoY noSg b ps o:=by
 obtain ⟨_,hl,hg⟩:=World.cells?_some hc
 refine RepC.of_vals _ _ _ hr fun i v hv=>?_
 have hi:i<n:=by
  rw [← hl]
  by_cases h:i<vs.length
  ·exact h
  ·rw [List.getElem?_eq_none (Nat.le_of_not_lt h)] at hv; cases hv
 have:=hg i hi
 rw [hv] at this
 unfold Addr.add at this
 by_cases h0:i=0
 ·subst h0; simpa using this
 ·rw [if_neg h0] at this; exact this
theorem addr_plus {a:Addr} (h:a.spot=none) (n:Nat):a.add n=⟨a.block,a.off+n,none⟩:=by
 unfold Addr.add
 by_cases h0:n=0
 ·subst h0; simp; cases a; simp at h; simp [h]
 ·rw [if_neg h0]
theorem first_cell {a:Addr} {n:Nat} {vs:List Value} (hn:0<n) (h:w.cells? base a n=some vs):a.spot=none∧a.block<w.heap.size:=by
 obtain ⟨_,hl,hg⟩:=World.cells?_some h
 have h0:=hg 0 hn
 have:vs[0]?=some vs[0]:=List.getElem?_eq_getElem (by omega)
 rw [this] at h0
 have ha:a.add 0=a:=by simp [Addr.add]
 rw [ha] at h0
 refine ⟨spot_of_cell h0,?_⟩
 unfold World.cell? at h0
 by_cases hb:a.block<w.heap.size
 ·exact hb
 ·simp [Array.getElem?_eq_none (Nat.le_of_not_lt hb)] at h0
inductive ShpV (P:Program) (t:TypeId):PV→Prop
 | one {p:PV}:Shp P t [p]→isAggT P t=false→ShpV P t p
 | agg {cs:List PV}:Shp P t cs→isAggT P t=true→ShpV P t (.agg cs)
end
end Go.Pv
namespace Go.Pv
open Go
inductive ShpVL (P:Program):List TypeId→List PV→Prop
 | nil:ShpVL P [] []
 | cons {t:TypeId} {ts:List TypeId} {p:PV} {ps:List PV}:ShpV P t p→ShpVL P ts ps→ShpVL P (t::ts) (p::ps)
section
variable {H:Type} {enc:TypeId × Value→H} {P:Program} {w:World} {base:Nat} {sp:Nat→Bool} {held:Bool}
theorem args_stay {W W' : World} (hl:laidOutB P=true) (hb:RowKit.Below W.heap.size W W'):∀ (params:List TypeId) (vs:List Value) (ds:List (DataW H)) (pl:List MemPlace),(∀ t∈params,P.readableRec t=true∧t<P.types.size) →
  (∀ x∈pl,x.block<W.heap.size)→DataW.TrodAll enc P W 0 (fun _=>true) true params vs ds pl→DataW.TrodAll enc P W' 0 (fun b=>decide (b<W.heap.size)) true params vs ds pl
 | [],[],[],_,_,_,h=>h
 | t::params,v::vs,d::ds,pl,hm,hlt,h=>by
  obtain ⟨p,q,h1,h2,e⟩:=h
  subst e
  exact ⟨p,q,RowKit.Below.trod hl (hm t (by simp)).1 (hm t (by simp)).2 h1 hb (fun x hx=>hlt x (by simp [hx])),args_stay hl hb params vs ds q (fun t ht=>hm t (by simp [ht])) (fun x hx=>hlt x (by simp [hx])) h2,rfl⟩
 | [],_::_,_,_,_,_,h=>h.elim
 | [],[],_::_,_,_,_,h=>h.elim
 | _::_,[],_,_,_,_,h=>h.elim
 | _::_,_::_,[],_,_,_,h=>h.elim
def lawB (P:Program) (ts params:List TypeId):Bool:=laidOutB P && layAll P ts ts && params.all fun t=>ts.contains t && P.readableRec t && Nat.blt t P.types.size
end
section
variable {P:Program} {t e:TypeId} {cs:List PV} {p:PV}
theorem Shp.inv_int {k:IntKind} (hu:P.underlying t=some (.int k)) (h:Shp P t cs):∃ n,cs=[.si k n]∧(Lit.int k n).wf=true:=by
 cases h with
 | int h1 h2=>rw [hu] at h1; cases h1; exact ⟨_,rfl,h2⟩
 | _=>simp_all
theorem Shp.inv_bool (hu:P.underlying t=some .bool) (h:Shp P t cs):∃ b,cs=[.sb b]:=by
 cases h with
 | bool h1=>exact ⟨_,rfl⟩
 | _=>simp_all
theorem Shp.inv_str (hu:P.underlying t=some .string) (h:Shp P t cs):∃ s,cs=[.str s]∧s.size≤maxLen:=by
 cases h with
 | str h1 h2=>exact ⟨_,rfl,h2⟩
 | _=>simp_all
theorem Shp.inv_slice (hu:P.underlying t=some (.slice e)) (h:Shp P t cs):∃ es,cs=[.sl (P.cellsOf e) es false]∧(∀ r∈es,Shp P e r)∧es.length≤maxLen:=by
 cases h with
 | sl h1 h2 h3=>rw [hu] at h1; cases h1; exact ⟨_,rfl,h2,h3⟩
 | _=>simp_all
theorem Shp.inv_struct {fs:Array Field} (hu:P.underlying t=some (.struct fs)) (h:Shp P t cs):ShpL P (fs.toList.map (·.type)) cs:=by
 cases h with
 | struct h1 h2=>rw [hu] at h1; cases h1; exact h2
 | _=>simp_all
theorem Shp.inv_arr {n:Nat} (hu:P.underlying t=some (.array n e)) (h:Shp P t cs):ShpL P (List.replicate n e) cs:=by
 cases h with
 | arr h1 h2=>rw [hu] at h1; cases h1; exact h2
 | _=>simp_all
theorem ShpL.inv_cons {ts:List TypeId} (h:ShpL P (t::ts) cs):∃ a b,cs=a ++ b∧Shp P t a∧ShpL P ts b:=by
 cases h with
 | cons h1 h2=>exact ⟨_,_,rfl,h1,h2⟩
theorem ShpL.inv_nil (h:ShpL P [] cs):cs=[]:=by cases h; rfl
theorem ShpV.inv_agg (ha:isAggT P t=true) (h:ShpV P t p):∃ cs,p=.agg cs∧Shp P t cs:=by
 cases h with
 | one h1 h2=>rw [ha] at h2; cases h2
 | agg h1 h2=>exact ⟨_,rfl,h1⟩
theorem ShpV.inv_one (ha:isAggT P t=false) (h:ShpV P t p):Shp P t [p]:=by
 cases h with
 | one h1 h2=>exact h1
 | agg h1 h2=>rw [ha] at h2; cases h2
theorem ShpVL.inv_cons {ts:List TypeId} {ps:List PV} (h:ShpVL P (t::ts) ps):∃ a b,ps=a::b∧ShpV P t a∧ShpVL P ts b:=by
 cases h with
 | cons h1 h2=>exact ⟨_,_,rfl,h1,h2⟩
theorem ShpVL.inv_nil {ps:List PV} (h:ShpVL P [] ps):ps=[]:=by cases h; rfl
end
end Go.Pv
namespace Go.Pv
open Go
section
variable {α β σ ρ:Type}
def br (c:Bool) (a b:Option ρ):Option ρ:=match c with | true=>a | false=>b
def bnd (o:Option α) (k:α→Option ρ):Option ρ:=match o with | none=>none | some x=>k x
def lt (x:α) (k:α→Option ρ):Option ρ:=k x
def jn (rest:σ→Option ρ) (body:(σ→Option ρ)→Option ρ):Option ρ:=body rest
def loopK (step:σ→(σ→Option ρ)→Option ρ):Nat→σ→Option ρ
 | 0,_=>none
 | n+1,s=>step s (loopK step n)
def fuel:Nat:=18446744073709551616
def loopF (step:σ→(σ→Option ρ)→Option ρ) (s:σ):Option ρ:=loopK step fuel s
def ixO (n:Nat):Int→Option Nat
 | .ofNat j=>bif Nat.blt j n then some j else none
 | .negSucc _=>none
def ixL (l:List α):Int→Option α
 | .ofNat j=>l[j]?
 | .negSucc _=>none
def lenI (l:List α):Int:=(l.length:Int)
def splL (l:List α) (r:Nat) (new:List α):List α:=l.take r ++ new ++ l.drop (r+new.length)
def subL (l:List α) (r n:Nat):List α:=(l.drop r).take n
def addI (a b:Int):Int:=stdBin .add .i64 a b
def subI (a b:Int):Int:=stdBin .sub .i64 a b
def mulI (a b:Int):Int:=stdBin .mul .i64 a b
def roomO (n bytes:Nat) (k:Option ρ):Option ρ:=bif Nat.ble ((2 * n+192) * bytes) 140737488355328 && Nat.ble n 4611686018427387904 then k else none
def divO (op:BinOp) (k:IntKind) (a b:Int):Option Int:=bif decide (b=0) then none else some (match op with | .quo=>k.wrap (a.tdiv b) | _=>a.tmod b)
def shfO (op:BinOp) (k:IntKind) (a y:Int):Option Int:=bif decide (0≤y) then some (match op with | .shl=>k.wrap (a * 2 ^ (min y.toNat k.bits)) | _=>a.fdiv (2 ^ (min y.toNat k.bits))) else none
def catO (a b:ByteArray):Option ByteArray:=bif Nat.ble (a.size+b.size) 4611686018427387904 then some (a ++ b) else none
def sixO (s:ByteArray):Int→Option Int
 | .ofNat j=>match s[j]? with | some c=>some (c.toNat:Int) | none=>none
 | .negSucc _=>none
structure SlcIn (n:Nat) (x:Nat × Nat):Prop where
 le:x.1≤x.2
 lt:x.2≤n
def sslO (s:ByteArray) (a b:Int):Option ByteArray:=bif decide (0≤a∧a≤b∧b≤(s.size:Int)) then some (s.extract a.toNat b.toNat) else none
def bs (l:List UInt8):ByteArray:=⟨l.toArray⟩
def sel (i:Int) (n:Nat) (k:Nat→Option ρ):Option ρ:=match i with | .ofNat j=>(bif Nat.blt j n then k j else none) | .negSucc _=>none
def nlO (a b:Option ρ):Option ρ:=match a with | _=>b
def strO (l:List Int):Option ByteArray:=bif l.all (fun n=>decide (0≤n∧n<256)) then some ⟨(l.map fun n=>UInt8.ofNat n.toNat).toArray⟩ else none
end
structure Arr2 (α:Type) where
 a0:α
 a1:α
structure Arr3 (α:Type) where
 a0:α
 a1:α
 a2:α
structure Arr5 (α:Type) where
 a0:α
 a1:α
 a2:α
 a3:α
 a4:α
structure Arr6 (α:Type) where
 a0:α
 a1:α
 a2:α
 a3:α
 a4:α
 a5:α
def zArr2I:Arr2 Int:=⟨0,0⟩
def zArr3I:Arr3 Int:=⟨0,0,0⟩
def zArr5I:Arr5 Int:=⟨0,0,0,0,0⟩
def zArr6I:Arr6 Int:=⟨0,0,0,0,0,0⟩
structure EncM where
 m:(α:Type)→(α→List PV)→List α→List (List PV)
 n:(α:Type)→List α→Nat
 h:(Nat→Hdr)→(α:Type)→(Hdr→α→List PV)→List α→List (List PV)
 up:(Nat→Hdr)→Nat→Hdr→Nat→Hdr
def mapH {α:Type} (H:Nat→Hdr) (e:Hdr→α→List PV) (l:List α):List (List PV):=l.mapIdx fun i x=>e (H i) x
def upH (H:Nat→Hdr) (j:Nat) (h:Hdr):Nat→Hdr:=fun i=>bif Nat.beq i j then h else H i
def mapE:EncM:=⟨fun _ e l=>l.map e,fun _ l=>l.length,fun H _ e l=>mapH H e l,upH⟩
def eI (k:IntKind) (x:Int):List PV:=[.si k x]
def eB (x:Bool):List PV:=[.sb x]
def eS (x:ByteArray):List PV:=[.str x]
def eL {α:Type} (M:EncM) (sz:Nat) (e:α→List PV) (x:List α):List PV:=[.sl sz (M.m α e x) false]
def eArr3 {α:Type} (e:α→List PV) (x:Arr3 α):List PV:=e x.a0 ++ (e x.a1 ++ e x.a2)
def eArr5 {α:Type} (e:α→List PV) (x:Arr5 α):List PV:=e x.a0 ++ (e x.a1 ++ (e x.a2 ++ (e x.a3 ++ e x.a4)))
def eArr6 {α:Type} (e:α→List PV) (x:Arr6 α):List PV:=e x.a0 ++ (e x.a1 ++ (e x.a2 ++ (e x.a3 ++ (e x.a4 ++ e x.a5))))
def eKV {α:Type} (e:α→List PV) (x:Int × α):List PV:=.si .i64 x.1::e x.2
def setKV {α:Type}:List (Int × α)→Int→α→List (Int × α)
 | [],n,v=>[(n,v)]
 | (k,w)::l,n,v=>if k=n then (n,v)::l else (k,w)::setKV l n v
theorem setM_map {α:Type} (e:α→List PV) (n:Int) (x:α):∀ l:List (Int × α),setM (l.map (eKV e)) n (e x)=(setKV l n x).map (eKV e)
 | []=>rfl
 | (k,v)::l=>by
  by_cases h:k=n
  ·simp [eKV,setM,setKV,h]
  ·simp [eKV,setM,setKV,h]
   exact setM_map e n x l
section
variable {P:Program} {T:Tab} {S:Sig} {M:EncM} (hS:S=Sig.std P T)
theorem sf (hM:M=mapE) (hS:S=Sig.std P T) :
  S.bin=stdBin∧S.cmp=stdCmp∧(∀ k n,S.conv k n=k.wrap n)∧(∀ k n,S.neg k n=k.wrap (0 - n))∧(∀ a b,S.beq a b=(a == b))∧(∀ a b,S.band a b=(a && b))∧S.scmp=stdScmp ∧
  (∀ s,S.slen s=(s.size:Int))∧(∀ n:Nat,S.nint n=(n:Int))∧(∀ a b:Nat,S.nadd a b=a+b)∧(∀ a b:Nat,S.nsub a b=a - b)∧(∀ n:Nat,0+n=n)∧(∀ a,S.app [] a=a) ∧
  (∀ (α:Type) (e:α→List PV) (l:List α),S.len (M.m α e l)=lenI l)∧(∀ (α:Type) (e:α→List PV) (l:List α),S.lenN (M.m α e l)=l.length)∧(∀ (α:Type) (l:List α),M.n α l=l.length) ∧
  (∀ rows n,S.lenN rows=n→S.sub rows 0 n=rows)∧S.len []=0∧(∀ (α:Type) (l:List α),lenI l=(l.length:Int)) ∧
  S.smin=(fun a b=>if b<a then b else a)∧S.smax=(fun a b=>if a<b then b else a) ∧
  (∀ a b,S.lenN (S.app a b)=S.lenN a+S.lenN b)∧(∀ a j r,S.lenN (S.rset a j r)=S.lenN a)∧(∀ n r,S.lenN (S.rep n r)=n)∧S.lenN []=0∧(∀ r rows,S.lenN (r::rows)=S.lenN rows+1) ∧
  (∀ (α:Type) (e:α→List PV),M.m α e []=[])∧(∀ (α:Type) (e:α→List PV) (x:α) (l:List α),M.m α e (x::l)=e x::M.m α e l) ∧
  (∀ (α:Type) (e:α→List PV) (a b:List α),M.m α e (a ++ b)=S.app (M.m α e a) (M.m α e b)) ∧
  (∀ (α:Type) (e:α→List PV) (l:List α) (r n:Nat),M.m α e (subL l r n)=S.sub (M.m α e l) r n) ∧
  (∀ (α:Type) (e:α→List PV) (l:List α) (r:Nat) (new:List α),M.m α e (splL l r new)=S.spl (M.m α e l) r (M.m α e new)) ∧
  (∀ (α:Type) (e:α→List PV) (l:List α) (j:Nat) (x:α),M.m α e (l.set j x)=S.rset (M.m α e l) j (e x)) ∧
  (∀ (α:Type) (e:α→List PV) (n:Nat) (x:α),M.m α e (List.replicate n x)=S.rep n (e x)) ∧
  (∀ (α:Type) (a b:List α),(a ++ b).length=a.length+b.length)∧(∀ (α:Type) (l:List α) (j:Nat) (x:α),(l.set j x).length=l.length) ∧
  (∀ (α:Type) (n:Nat) (x:α),(List.replicate n x).length=n)∧(∀ (α:Type) (x:α) (l:List α),(x::l).length=l.length+1)∧(∀ (α:Type),([]:List α).length=0) ∧
  (∀ (α:Type) (e:α→List PV) (l:List α) (r n:Nat),S.len (S.sub (M.m α e l) r n)=((subL l r n).length:Int))∧(∀ (α:Type) (e:α→List PV) (l:List α) (r n:Nat),S.lenN (S.sub (M.m α e l) r n)=(subL l r n).length) ∧
  (∀ (α:Type) (e:α→List PV) (l:List (Int × α)) (n:Int) (x:α),M.m (Int × α) (eKV e) (setKV l n x)=S.mset (M.m (Int × α) (eKV e) l) n (e x)):=by
 subst hS hM
 refine ⟨rfl,rfl,?_⟩
 have h:∀ (α:Type) (e:α→List PV) (l:List α),List.take l.length (List.map e l)=List.map e l:=by
  intro α e l; rw [List.take_of_length_le (by simp)]
 have h2:∀ (rows:List (List PV)) (n:Nat),rows.length=n→(rows.drop 0).take n=rows:=by
  intro rows n e; subst e; simp
 refine ⟨fun _ _=>rfl,fun _ _=>rfl,fun _ _=>rfl,fun _ _=>rfl,rfl,fun _=>rfl,fun _=>rfl,fun _ _=>rfl,fun _ _=>rfl,fun n=>Nat.zero_add n,fun _=>rfl,?_,?_,?_,h2,rfl,fun _ _=>rfl,rfl,?_,?_⟩
 ·simp [Sig.std,mapE,lenI]
 ·simp [Sig.std,mapE]
 ·simp [mapE]
 ·rfl
 ·refine ⟨?_,?_,?_,?_,?_,?_,?_,?_,?_,?_,?_,?_,?_,?_,?_,?_,?_,?_,?_,fun α e l n x=>(setM_map e n x l).symm⟩ <;> simp [Sig.std,mapE,subL,splL,List.map_take,List.map_drop,List.map_set]
mutual
inductive LeP:PV→PV→Prop
 | nil (z0:Nat) (f:Bool) (z:Nat):LeP (.sl z0 [] f) (.sl z [] false)
 | int (k:IntKind) (n:Int):LeP (.int k n) (.si k n)
 | bool (b:Bool):LeP (.bool b) (.sb b)
 | agg (ps qs:List PV):LeL ps qs→LeP (.agg ps) (.agg qs)
 | tup (ps qs:List PV):LeL ps qs→LeP (.tup ps) (.tup qs)
 | rows (z:Nat) (f:Bool) (es es' : List (List PV)):LeR es es'→LeP (.sl z es f) (.sl z es' false)
 | refl (p:PV):LeP p p
inductive LeL:List PV→List PV→Prop
 | nil:LeL [] []
 | cons (p q:PV) (ps qs:List PV):LeP p q→LeL ps qs→LeL (p::ps) (q::qs)
inductive LeR:List (List PV)→List (List PV)→Prop
 | same (es:List (List PV)):LeR es es
 | cons (r q:List PV) (rs qs:List (List PV)):LeL r q→LeR rs qs→LeR (r::rs) (q::qs)
end
theorem LeL.len:∀ {ps qs:List PV},LeL ps qs→qs.length=ps.length
 | _,_,.nil=>rfl
 | _,_,.cons p q ps qs _ h=>by simp [h.len]
theorem LeR.len:∀ {ps qs:List (List PV)},LeR ps qs→qs.length=ps.length
 | _,_,.same _=>rfl
 | _,_,.cons p q ps qs _ h=>by simp [h.len]
theorem LeP.isCell {p q:PV} (h:LeP p q):Pv.isCell p=true→Pv.isCell q=true:=by
 cases h <;> intro h <;> first | rfl | exact h | cases h
theorem LeL.allCell:∀ {ps qs:List PV},LeL ps qs→Pv.allCell ps=true→Pv.allCell qs=true
 | _,_,.nil,h=>h
 | _,_,.cons p q ps qs h1 h2,h=>by
  simp only [Pv.allCell,Bool.and_eq_true] at h ⊢
  exact ⟨h1.isCell h.1,h2.allCell h.2⟩
mutual
theorem LeP.rep {w:World} {Y:Nat→Prop} {σ:Sg}:∀ {p q:PV} (_:LeP p q) (v:Value),Rep w Y σ p v→Rep w Y σ q v
 | _,_,.nil z0 f z,v,h=>by
  unfold Rep at h ⊢
  obtain ⟨a,len,cap,e,hl,hc,_,_⟩:=h
  exact ⟨a,len,cap,e,hl,hc,(fun h=>by cases h),.inl rfl⟩
 | _,_,.int k n,v,h=>by unfold Rep at h ⊢; exact h
 | _,_,.bool b,v,h=>by unfold Rep at h ⊢; exact h
 | _,_,.agg ps qs hl,v,h=>by
  unfold Rep at h ⊢
  obtain ⟨vs,e,h⟩:=h
  exact ⟨vs,e,hl.rep vs h⟩
 | _,_,.tup ps qs hl,v,h=>by
  unfold Rep at h ⊢
  obtain ⟨vs,e,h⟩:=h
  exact ⟨vs,e,hl.rep vs h⟩
 | _,_,.rows z f es es' hr,v,h=>by
  unfold Rep at h ⊢
  obtain ⟨a,len,cap,e,hl,hc,_,h⟩:=h
  refine ⟨a,len,cap,e,by rw [hl,hr.len],hc,(fun h=>by cases h),?_⟩
  rcases h with h | ⟨b,o,h1,h2,h3⟩
  ·refine .inl (List.length_eq_zero_iff.1 ?_)
   rw [hr.len,h]; rfl
  ·exact .inr ⟨b,o,h1,h2,hr.repR o h3⟩
 | _,_,.refl p,v,h=>h
theorem LeL.rep {w:World} {Y:Nat→Prop} {σ:Sg}:∀ {ps qs:List PV} (_:LeL ps qs) (vs:List Value),RepL w Y σ ps vs→RepL w Y σ qs vs
 | _,_,.nil,vs,h=>h
 | _,_,.cons p q ps qs h1 h2,vs,h=>by
  unfold RepL at h ⊢
  obtain ⟨v,vs',e,h3,h4⟩:=h
  exact ⟨v,vs',e,h1.rep v h3,h2.rep vs' h4⟩
theorem LeL.repC {w:World} {Y:Nat→Prop} {σ:Sg} {cb:Nat}:∀ {ps qs:List PV} (_:LeL ps qs) (o:Nat),RepC w Y σ cb ps o→RepC w Y σ cb qs o
 | _,_,.nil,o,h=>h
 | _,_,.cons p q ps qs h1 h2,o,h=>by
  unfold RepC at h ⊢
  obtain ⟨⟨v,h3,h4⟩,h5⟩:=h
  exact ⟨⟨v,h3,h1.rep v h4⟩,h2.repC (o+1) h5⟩
theorem LeR.repR {w:World} {Y:Nat→Prop} {σ:Sg} {b sz:Nat}:∀ {ps qs:List (List PV)} (_:LeR ps qs) (o:Nat),RepR w Y σ b sz ps o→RepR w Y σ b sz qs o
 | _,_,.same _,o,h=>h
 | _,_,.cons p q ps qs h1 h2,o,h=>by
  unfold RepR at h ⊢
  obtain ⟨⟨h3,h4⟩,h5,h6⟩:=h
  exact ⟨⟨by rw [h1.len,h3],h1.allCell h4⟩,h1.repC o h5,h2.repR (o+sz) h6⟩
end
theorem Fn.le {G:Nat→Option (List PV)} {k:Nat} {args cargs:List PV} {R:PV→Prop} (h:Fn P G k cargs R) (hl:LeL args cargs):Fn P G k args R :=
 fun w Y vs hG hY hr=>h w Y vs hG hY (hl.rep _ hr)
theorem lp_eq {p q:PV} (h:p=q):LeP p q:=h ▸ .refl p
theorem fn_dec {P:Program} {T:Tab} (hT:TabOK P T) (hp:T.pas=0) (hW:PWf P) {k:Nat} {fn:Func} {c:Code} (hf:P.funcs[k]?=some fn) (hb:fn.body=some c)
  (hcall:∀ args w,(callFunc k args).run P w=.ok (.enter k args) w) {args:List PV} {v:PV} {m:Nat} (hm:fn.ntmps - args.length=m)
  (h:∀ S R,S=Sig.std P T→(∀ u,LeP u v→R u)→pwp T S c (retQ T S fn.results.toList R) ⟨appL args (undefs m),[],0⟩):Fn P T.gl k args (fun u=>u=v):=by
 have H:=fn_of_body hT hp hW hf hb hcall hm (R:=fun u=>LeP u v) fun S hS=>h S _ hS fun _ h=>h
 intro w Y cargs hG hY hr
 obtain ⟨h1,h2⟩:=H w Y cargs hG hY hr
 refine ⟨h1,Calls.mono h2 fun e w' hh=>?_⟩
 obtain ⟨cv,u,he,hu,hv,hc⟩:=hh
 exact ⟨cv,v,he,rfl,hu.rep _ hv,hc⟩
theorem LeL.refl:∀ ps:List PV,LeL ps ps
 | []=>.nil
 | p::ps=>.cons _ _ _ _ (.refl p) (LeL.refl ps)
inductive LeB:Option Blk→Option Blk→Prop
 | var (ro:Bool) (row row' : List PV):LeL row row'→LeB (some (.var ro row)) (some (.var ro row'))
 | refl (x:Option Blk):LeB x x
inductive LeS:St→St→Prop
 | nil:LeS [] []
 | cons (b:Nat) (x y:Option Blk) (s t:St):LeB x y→LeS s t→LeS ((b,x)::s) ((b,y)::t)
theorem LeS.refl:∀ s:St,LeS s s
 | []=>.nil
 | (b,x)::s=>.cons b x x s s (.refl x) (LeS.refl s)
theorem LeS.look:∀ {s t:St} (_:LeS s t) (b:Nat),lkS t b=lkS s b∨∃ ro row row',lkS s b=some (.var ro row)∧lkS t b=some (.var ro row')∧LeL row row'
 | _,_,.nil,b=>.inl rfl
 | _,_,.cons c x y s t h1 h2,b=>by
  simp only [lkS]
  cases Nat.beq c b with
  | true =>
   cases h1 with
   | var ro row row' h=>exact .inr ⟨ro,row,row',rfl,rfl,h⟩
   | refl x=>exact .inl rfl
  | false=>exact h2.look b
theorem LeS.stLe {s t:St} (h:LeS s t) (w:World) (Y:Nat→Prop) (σ:Sg) (b:Nat):lkS t b=lkS s b∨∃ ro row row',lkS s b=some (.var ro row)∧lkS t b=some (.var ro row')∧row'.length=row.length∧∀ cb o,RepC w Y σ cb row o→RepC w Y σ cb row' o:=by
 rcases h.look b with e | ⟨ro,row,row',e1,e2,e3⟩
 ·exact .inl e
 ·exact .inr ⟨ro,row,row',e1,e2,e3.len,fun cb o=>e3.repC o⟩
theorem LeS.rep {w:World} {Y:Nat→Prop} {σ:Sg} {s t:St} (h:LeS s t) (H:StRep w Y σ s):StRep w Y σ t:=by
 have some' : ∀ b x,lkS t b=some x→∃ y,lkS s b=some y:=by
  intro b x hx
  rcases h.look b with e | ⟨ro,row,row',e1,e2,_⟩
  ·exact ⟨x,by rw [← e]; exact hx⟩
  ·exact ⟨_,e1⟩
 refine ⟨fun b x hx=>?_,fun b b' x x' l l' hx hx' hl hl' e=>?_⟩
 ·rcases h.stLe w Y σ b with e | ⟨ro,row,row',e1,e2,e3,e4⟩
  ·exact H.blk b x (by rw [← e]; exact hx)
  ·rw [e2] at hx; cases hx
   rcases H.blk b _ e1 with ⟨l,hl,hB⟩ | ⟨_,_,_,hx⟩
   ·refine .inl ⟨l,hl,?_⟩
    unfold BlkRep at hB ⊢
    exact ⟨hB.1,by rw [e3]; exact hB.2.1,by rw [e3]; exact hB.2.2.1,e4 _ _ hB.2.2.2.1,hB.2.2.2.2⟩
   ·cases hx
 ·obtain ⟨y,hy⟩:=some' b x hx
  obtain ⟨y',hy'⟩:=some' b' x' hx'
  exact H.inj b b' y y' l l' hy hy' hl hl' e
theorem LeS.inSt {σ:Sg} {s t:St} (h:LeS s t):InSt σ t=InSt σ s:=by
 funext k
 refine propext ⟨?_,?_⟩
 ·rintro ⟨b,x,l,h1,h2⟩
  rcases h.look b with e | ⟨ro,row,row',e1,e2,_⟩
  ·exact ⟨b,x,l,by rw [← e]; exact h1,h2⟩
  ·exact ⟨b,_,l,e1,h2⟩
 ·rintro ⟨b,x,l,h1,h2⟩
  rcases h.look b with e | ⟨ro,row,row',e1,e2,_⟩
  ·exact ⟨b,x,l,by rw [e]; exact h1,h2⟩
  ·exact ⟨b,_,l,e2,h2⟩
theorem LeS.noNar:∀ {s t:St} (_:LeS s t),Pv.noNar s=true→Pv.noNar t=true
 | _,_,.nil,h=>h
 | _,_,.cons b x y s t h1 h2,h=>by
  cases h1 with
  | var ro row row' h'=>simp only [Pv.noNar] at h ⊢; exact h2.noNar h
  | refl x =>
   cases x with
   | none=>simp only [Pv.noNar] at h ⊢; exact h2.noNar h
   | some x=>cases x <;> simp only [Pv.noNar] at h ⊢ <;> first | exact h2.noNar h | exact h
theorem FnS.le {G:Nat→Option (List PV)} {k:Nat} {args cargs:List PV} {st cst:St} {n:Nat} {R:PV→St→Nat→Prop} (h:FnS P G k cargs cst n R) (hl:LeL args cargs) (hs:LeS st cst):FnS P G k args st n R:=by
 intro w Y σ vs hG hY hn hr hst hnn
 obtain ⟨h1,h2⟩:=h w Y σ vs hG hY hn (hl.rep _ hr) (hs.rep hst) (hs.noNar hnn)
 refine ⟨h1,Calls.mono h2 fun e w' hh=>?_⟩
 obtain ⟨cv,v,st',n',Y',σ',he,hR,H⟩:=hh
 refine ⟨cv,v,st',n',Y',σ',he,hR,?_⟩
 have e:ctxS ⟨fun _=>.bad,G,n,[],0,[],[]⟩ w Y σ cst=ctxS ⟨fun _=>.bad,G,n,[],0,[],[]⟩ w Y σ st:=by
  unfold ctxS; rw [hs.inSt]
 rw [e] at H
 exact H
theorem FnS.cv {P:Program} {T:Tab} {G:Nat→Option (List PV)} (cvs:List Cv) {k:Nat} {args:List PV} {st:St} {n:Nat} {v v' : PV} {st1 st1' : St} {n1 n1' : Nat} (h:FnS P G k args st n (fun u s m=>u=v∧s=st1∧m=n1)) (e:canE n [0] (cvE (Sig.std P T) cvs ⟨[v],st1,n1⟩)=⟨[v'],st1',n1'⟩):FnS P G k args st n (fun u s m=>u=v'∧s=st1'∧m=n1'):=by
 intro w Y σ vs hG hY hn hr hst hnn
 obtain ⟨h1,h2⟩:=h w Y σ vs hG hY hn hr hst hnn
 refine ⟨h1,Calls.mono h2 fun en w' hh=>?_⟩
 obtain ⟨cv,u,s,m,Y',σ',he,⟨rfl,rfl,rfl⟩,H⟩:=hh
 obtain ⟨Y1,σ1,H1,_⟩:=cvE_sw (P:=P) (T':=T) cvs ⟨[u],s,m⟩ H
 have H2:=H1.vals' (maskL_rep _ [0] 0 _ H1.vals)
 obtain ⟨g1,g2,g3⟩:=seenN_ok n (cvE (Sig.std P T) cvs ⟨[u],s,m⟩).st (maskL [0] 0 (cvE (Sig.std P T) cvs ⟨[u],s,m⟩).tmps)
 obtain ⟨σ2,H3,_⟩:=H2.canR g1 g2 g3
 have H4:SW (ctxS ⟨fun _=>.bad,G,n,[],0,[],[]⟩ w Y σ st) w' Y1 σ2 (canE n [0] (cvE (Sig.std P T) cvs ⟨[u],s,m⟩)).tmps [cv] (canE n [0] (cvE (Sig.std P T) cvs ⟨[u],s,m⟩)).st (canE n [0] (cvE (Sig.std P T) cvs ⟨[u],s,m⟩)).next:=H3
 rw [e] at H4
 exact ⟨cv,v',st1',n1',Y1,σ2,he,⟨rfl,rfl,rfl⟩,H4⟩
theorem fnS_dec {P:Program} {T:Tab} (hT:TabOK P T) (hW:PWf P) {k:Nat} {fn:Func} {c:Code} (hf:P.funcs[k]?=some fn) (hb:fn.body=some c)
  (hcall:∀ args w,(callFunc k args).run P w=.ok (.enter k args) w) {args:List PV} {st:St} {v:PV} {st1:St} {n1:Nat} {m:Nat} (hm:fn.ntmps - args.length=m)
  (h:∀ S R,S=Sig.std P T→(∀ u s n,LeP u v→LeS s st1→n=n1→R u s n)→pwp T S c (retSQ T S fn.results.toList R) ⟨appL args (undefs m),st,T.pas⟩):FnS P T.gl k args st T.pas (fun u s n=>u=v∧s=st1∧n=n1):=by
 have H:=fnS_of_body hT hW hf hb hcall hm (st:=st) (R:=fun u s n=>LeP u v∧LeS s st1∧n=n1) fun S hS=>h S _ hS fun _ _ _ h1 h2 h3=>⟨h1,h2,h3⟩
 intro w Y σ cargs hG hY hn hr hst hnn
 obtain ⟨h1,h2⟩:=H w Y σ cargs hG hY hn hr hst hnn
 refine ⟨h1,Calls.mono h2 fun e w' hh=>?_⟩
 obtain ⟨cv,u,s,n,Y',σ',he,⟨h3,h4,h5⟩,H⟩:=hh
 refine ⟨cv,v,st1,n,Y',σ',he,⟨rfl,rfl,h5⟩,?_⟩
 have hv:RepL w' Y' σ' [v] [cv]:=by
  have:=H.vals
  unfold RepL at this ⊢
  obtain ⟨c,cs,e,h6,h7⟩:=this
  cases e
  exact ⟨_,_,rfl,h3.rep _ h6,by unfold RepL at h7 ⊢; exact h7⟩
 exact (H.vals' hv).stLe (h4.stLe w' Y' σ')
theorem le_eq {ps qs:List PV} (h:ps=qs):LeL ps qs:=h ▸ LeL.refl ps
variable {α β σ ρ:Type} {r:ρ}
theorem d_bnd {o:Option α} {k:α→Option ρ} (h:bnd o k=some r):∃ x,o=some x∧k x=some r:=by
 cases o with
 | none=>cases h
 | some x=>exact ⟨x,rfl,h⟩
theorem d_lt {x:α} {k:α→Option ρ} (h:lt x k=some r):k x=some r:=h
theorem lt3 {j:Nat} (h:j<3):j=0∨j=1∨j=2:=by omega
theorem lt5 {j:Nat} (h:j<5):j=0∨j=1∨j=2∨j=3∨j=4:=by omega
theorem lt6 {j:Nat} (h:j<6):j=0∨j=1∨j=2∨j=3∨j=4∨j=5:=by omega
theorem d_cases {i:Int} {n:Nat} {k:Nat→Option ρ} (hf:sel i n k=some r):∃ j:Nat,j<n∧i=(j:Int)∧k j=some r:=by
 unfold sel at hf
 cases i with
 | ofNat j =>
  simp only at hf
  cases hb:Nat.blt j n with
  | false=>rw [hb] at hf; cases hf
  | true=>rw [hb] at hf; exact ⟨j,(Nat.blt_eq).mp hb,rfl,hf⟩
 | negSucc j=>cases hf
include hS
theorem d_br {c c' : Bool} {fa fb:Option ρ} {A B:Unit→Prop} (hf:br c' fa fb=some r) (e:c=c') (ha:fa=some r→A ()) (hb:fb=some r→B ()):S.br c A B:=by
 subst e
 cases c with
 | true=>exact l_brT hS rfl (ha hf)
 | false=>exact l_brF hS rfl (hb hf)
theorem d_idx (hM:M=mapE) {es:List (List PV)} {l:List α} {e:α→List PV} {i i' : Int} {k:α→Option ρ} {K:List PV→Prop} (hf:bnd (ixL l i') k=some r) (he:es=M.m α e l) (hi:i=i') (h:∀ x,k x=some r→K (e x)):S.idx es i K:=by
 subst hM he hi
 obtain ⟨x,hx,hk⟩:=d_bnd hf; clear hf
 cases i with
 | ofNat j=>exact l_idx hS (j:=j) rfl (by simp only [ixL] at hx; simp [mapE,hx]) (h x hk)
 | negSucc j=>simp [ixL] at hx
theorem d_ix {n n' : Nat} {i i' : Int} {k:Nat→Option ρ} {K:Nat→Prop} (hf:bnd (ixO n' i') k=some r) (hn:n=n') (hi:i=i') (h:∀ j,j<n→k j=some r→K j):S.ix n i K:=by
 subst hn hi
 obtain ⟨x,hx,hk⟩:=d_bnd hf; clear hf
 cases i with
 | ofNat j' =>
  simp only [ixO] at hx
  cases hb:Nat.blt j' n with
  | false=>rw [hb] at hx; cases hx
  | true =>
   rw [hb] at hx
   simp only [cond_true,Option.some.injEq] at hx
   subst hx
   have hb:=(Nat.blt_eq).mp hb
   exact l_ix hS rfl hb (h _ hb hk)
 | negSucc j=>simp [ixO] at hx
theorem d_ixa {n:Nat} {i i' : Int} {K:Nat→Prop} (hi:i=i') (h:∃ j:Nat,j<n∧i'=(j:Int)∧K j):S.ix n i K:=by
 obtain ⟨j,h1,h2,h3⟩:=h
 exact l_ix hS (hi.trans h2) h1 h3
theorem d_row (hM:M=mapE) {es:List (List PV)} {l:List α} {e:α→List PV} {j j' : Nat} {k:α→Option ρ} {K:List PV→Prop} (hf:bnd (l[j']?) k=some r) (he:es=M.m α e l) (hj:j=j') (h:∀ x,k x=some r→K (e x)):S.row es j K:=by
 subst hM he hj
 obtain ⟨x,hx,hk⟩:=d_bnd hf; clear hf
 exact l_row hS (by simp [mapE,hx]) (h x hk)
theorem d_call {k:Nat} {args:List PV} {cargs:List PV} {K:PV→Prop} {g:Option α} {v:α→PV} {kk:α→Option ρ} (hf:bnd g kk=some r) (hF:∀ y,g=some y→Fn P T.gl k cargs (fun u=>u=v y)) (ha:LeL args cargs) (h:∀ y,kk y=some r→K (v y)):S.callq k args K:=by
 obtain ⟨x,hx,hk⟩:=d_bnd hf; clear hf
 exact l_callq hS ((hF x hx).le ha) (h x hk)
theorem d_callp {k:Nat} {args as bs:List PV} {cargs:List PV} {E:Env} {K:PV→Env→Prop} {g:Option α} {v:α→PV} {kk:α→Option ρ} (hf:bnd g kk=some r) (hF:∀ y,g=some y→Fn P T.gl k cargs (fun u=>u=v y)) (ha:LeL as cargs) (h:∀ y,kk y=some r→K (v y) E):S.callp k args as bs E K:=by
 obtain ⟨x,hx,hk⟩:=d_bnd hf; clear hf
 subst hS
 exact .inl ⟨_,(hF x hx).le ha,h x hk⟩
theorem d_callo {k:Nat} {args as bs:List PV} {cargs:List PV} {E:Env} {K:PV→Env→Prop} {g:Option α} {v:α→PV} {st1:α→St} {n1:Nat} {kk:α→Option ρ} (hf:bnd g kk=some r) (hF:∀ y,g=some y→FnS P T.gl k cargs [] 0 (fun u st n=>u=v y∧st=st1 y∧n=n1)) (ha:LeL bs cargs) (h:∀ y,kk y=some r→K (renV (bakN [] E.next) 8 (v y)) (bakE [] E (st1 y) n1)):S.callp k args as bs E K:=by
 obtain ⟨x,hx,hk⟩:=d_bnd hf; clear hf
 subst hS
 exact .inr (.inl ⟨_,_,_,(hF x hx).le ha .nil,h x hk⟩)
theorem l_roundsF (hT:TabOK P T) (hW:PWf P) (n:Nat) {b:Code} {Q:Post} {E:Env} (h:∀ R:Nat→Env→Prop,(∀ k E,pwp T S b (seqQ (R k) Q) E→R (k+1) E)→R n E):S.loop b Q E:=by
 refine l_rounds hT hW hS n (h (fun n E=>rndE T S b Q n E) fun k E hk=>?_)
 unfold rndE; exact hk
theorem d_callS {k:Nat} {args as cargs:List PV} {E:Env} {lend free:Option (List PV)} {ρ' : List Nat} {st0 cst:St} {m:Nat} {K:PV→Env→Prop} {g:Option α} {v:α→PV} {st1:α→St} {n1:Nat} {kk:α→Option ρ} (hf:bnd g kk=some r) (hF:∀ y,g=some y→FnS P T.gl k cargs cst m (fun u st n=>u=v y∧st=st1 y∧n=n1)) (ha:LeL as cargs) (hs:LeS st0 cst) (hm:m=lenNs ρ') (h1:nodN ρ'=true) (h2:ltN E.next ρ'=true) (h0:noNar st0=true)
  (h:∀ y,kk y=some r→K (renV (bakN ρ' E.next) 8 (v y)) (bakE ρ' E (st1 y) n1)):S.call k args E lend free ρ' as st0 K:=by
 obtain ⟨x,hx,hk⟩:=d_bnd hf; clear hf
 exact l_callS hS ((hF x hx).le ha hs) hm h1 h2 h0 (h x hk)
theorem pre_sound {k:Nat} {args:List PV} {E:Env} {K:PV→Env→Prop} (zs:List (Nat × Bool)) {c:List PV × St × Nat} (e:cvCells S zs args E.st E.next=c) (h:callE S k c.1 ⟨E.tmps,c.2.1,c.2.2⟩ K):CallT P T k args E K:=by
 subst hS
 subst e
 have hc:=callE_sound h
 intro C Y σ w vs cargs H hr
 obtain ⟨Y',σ',H',hr',_⟩:=cvCells_sound (P:=P) (T':=T) zs args H hr
 exact hc C Y' σ' w vs cargs H' hr'
theorem d_prep {k:Nat} {args as bs:List PV} {E:Env} {K:PV→Env→Prop} (zs:List (Nat × Bool)) {c:List PV × St × Nat} (e:cvCells S zs args E.st E.next=c) (h:callE S k c.1 ⟨E.tmps,c.2.1,c.2.2⟩ K):S.callp k args as bs E K:=by
 have:=pre_sound hS zs e h
 subst hS
 exact .inr (.inr this)
theorem d_callL {k:Nat} {args bs cargs as:List PV} {E:Env} {free:Option (List PV)} {ρ' : List Nat} {st0:St} {K:PV→Env→Prop} {g:Option α} {v:α→PV} {kk:α→Option ρ} (hf:bnd g kk=some r) (hF:∀ y,g=some y→Fn P T.gl k cargs (fun u=>u=v y)) (ha:LeL bs cargs) (hfl:∀ y,flatV 6 (v y)=true) (h:∀ y,kk y=some r→K (v y) E):S.call k args E (some bs) free ρ' as st0 K:=by
 obtain ⟨x,hx,hk⟩:=d_bnd hf; clear hf
 exact l_callL hS ((hF x hx).le ha) (hfl x) (h x hk)
theorem d_callF {k:Nat} {args bs cargs as:List PV} {E:Env} {lend:Option (List PV)} {ρ' : List Nat} {st0:St} {K:PV→Env→Prop} {g:Option α} {v:α→PV} {kk:α→Option ρ} (hf:bnd g kk=some r) (hF:∀ y,g=some y→Fn P T.gl k cargs (fun u=>u=v y)) (ha:LeL bs cargs) (h:∀ y,kk y=some r→K (v y) ⟨E.tmps,roS E.st ρ',E.next⟩):S.call k args E lend (some bs) ρ' as st0 K:=by
 obtain ⟨x,hx,hk⟩:=d_bnd hf; clear hf
 exact l_callF hS ((hF x hx).le ha) (h x hk)
theorem d_div {op:BinOp} {kd:IntKind} {a b a' b' : Int} {K:Int→Prop} {k:Int→Option ρ} (hf:bnd (divO op kd a' b') k=some r) (ha:a=a') (hb:b=b') (h:∀ x,k x=some r→K x):S.div op kd a b K:=by
 subst hS ha hb
 obtain ⟨x,hx,hk⟩:=d_bnd hf; clear hf
 unfold divO at hx
 by_cases h0:b=0
 ·simp [h0] at hx
 ·simp only [h0,decide_false,cond_false,Option.some.injEq] at hx
  subst hx
  exact ⟨h0,h _ hk⟩
theorem d_shf {op:BinOp} {kd:IntKind} {a b a' b' : Int} {K:Int→Prop} {k:Int→Option ρ} (hf:bnd (shfO op kd a' b') k=some r) (ha:a=a') (hb:b=b') (h:∀ x,k x=some r→K x):S.shf op kd a b K:=by
 subst hS ha hb
 obtain ⟨x,hx,hk⟩:=d_bnd hf; clear hf
 unfold shfO at hx
 by_cases h0:0≤b
 ·simp only [h0,decide_true,cond_true,Option.some.injEq] at hx
  subst hx
  exact ⟨h0,h _ hk⟩
 ·simp [h0] at hx
theorem d_cat {a b a' b' : ByteArray} {K:ByteArray→Prop} {k:ByteArray→Option ρ} (hf:bnd (catO a' b') k=some r) (ha:a=a') (hb:b=b') (h:∀ x,k x=some r→K x):S.scat a b K:=by
 subst hS ha hb
 obtain ⟨x,hx,hk⟩:=d_bnd hf; clear hf
 unfold catO at hx
 cases h0:Nat.ble (a.size+b.size) 4611686018427387904 with
 | false=>rw [h0] at hx; cases hx
 | true=>rw [h0] at hx; cases hx; exact ⟨by simpa using h0,h _ hk⟩
theorem d_six {s s' : ByteArray} {i i' : Int} {K:Int→Prop} {k:Int→Option ρ} (hf:bnd (sixO s' i') k=some r) (ha:s=s') (hb:i=i') (h:∀ x,k x=some r→K x):S.sidx s i K:=by
 subst hS ha hb
 obtain ⟨x,hx,hk⟩:=d_bnd hf; clear hf
 cases i with
 | negSucc j=>simp [sixO] at hx
 | ofNat j =>
  simp only [sixO] at hx
  split at hx
  ·rename_i c hc; cases hx; exact ⟨j,c,rfl,hc,h _ hk⟩
  ·cases hx
theorem d_room {n n' b:Nat} {p:Prop} {k:Option ρ} (hf:roomO n' b k=some r) (hn:n=n') (h:k=some r→p):S.room n b p:=by
 subst hn
 unfold roomO at hf
 cases h1:Nat.ble ((2 * n+192) * b) 140737488355328 with
 | false=>rw [h1] at hf; cases hf
 | true =>
  cases h2:Nat.ble n 4611686018427387904 with
  | false=>rw [h1,h2] at hf; cases hf
  | true=>rw [h1,h2] at hf; exact l_room hS (by simpa using h1) (by simpa using h2) (h hf)
theorem d_ssl {s s' : ByteArray} {a b a' b' : Int} {K:ByteArray→Prop} {k:ByteArray→Option ρ} (hf:bnd (sslO s' a' b') k=some r) (hn:s=s') (ha:a=a') (hb:b=b') (h:∀ x,k x=some r→K x):S.sslc s a b K:=by
 subst hS hn ha hb
 obtain ⟨x,hx,hk⟩:=d_bnd hf; clear hf
 unfold sslO at hx
 by_cases h0:0≤a∧a≤b∧b≤(s.size:Int)
 ·simp only [h0,and_self,decide_true,cond_true,Option.some.injEq] at hx
  subst hx
  exact ⟨a.toNat,b.toNat,by omega,by omega,by omega,by omega,h _ hk⟩
 ·simp [h0] at hx
theorem d_nil (hM:M=mapE) {es:List (List PV)} {l:List α} {e:α→List PV} {a b:Option ρ} {K:Bool→Prop} (hf:nlO a b=some r) (he:es=M.m α e l) (hab:l=[]→b=some r→a=some r) (ha:a=some r→K true) (hb:b=some r→K false):S.nilq es K:=by
 subst hS hM he
 intro c hc
 cases c with
 | false=>exact hb hf
 | true =>
  have:=hc rfl
  exact ha (hab (by simpa [mapE] using this) hf)
theorem d_toS (hM:M=mapE) {t:Nat} {rows:List (List PV)} {l:List Int} {K:ByteArray→Prop} {k:ByteArray→Option ρ} (hf:bnd (strO l) k=some r) (hu:∃ e,P.underlying t=some (.slice e)∧P.underlying e=some (.int .u8)) (he:rows=M.m Int (eI .u8) l) (h:∀ x,k x=some r→K x):S.toS t rows K:=by
 subst hS hM he
 obtain ⟨x,hx,hk⟩:=d_bnd hf; clear hf
 refine ⟨hu,x,?_,h x hk⟩
 unfold strO at hx
 cases hall:l.all (fun n=>decide (0≤n∧n<256)) with
 | false=>rw [hall] at hx; cases hx
 | true =>
  rw [hall] at hx
  cases hx
  simp only [mapE,List.map_map]
  refine List.map_congr_left fun n hn=>?_
  have:=List.all_eq_true.1 hall n hn
  simp only [decide_eq_true_eq] at this
  simp only [Function.comp,eI,byteR]
  congr 1
  rw [UInt8.toNat_ofNat_of_lt' (by show n.toNat<256; omega)]
  omega
theorem d_cut {A:Post→Prop} {B:Env→Prop} {Q:Post} {rest:σ→Option ρ} {body:(σ→Option ρ)→Option ρ} (cvs:List Cv) (keep:List Nat) (F:σ→Env) (hf:jn rest body=some r)
  (h:∀ (I:σ→Env) (k:σ→Option ρ),(∀ s,I s=F s)→body k=some r→A (seqQ (fun E=>∃ s,k s=some r∧canE T.pas keep (wkE (cvE S cvs E))=I s) Q)) (h2:∀ s,rest s=some r→B (F s)):S.seq A B Q:=by
 subst hS
 refine ⟨_,h F rest (fun _=>rfl) hf,fun n E h=>?_⟩
 cases n with
 | zero =>
  obtain ⟨s,hs,he⟩:=h
  refine ⟨F s,?_,h2 s hs⟩
  rw [← he]
  exact (ent_cvE (P:=P) (T':=T) cvs E).trans ((ent_wkE _).trans (ent_canE keep _))
 | succ n=>exact ⟨E,Ent.refl E,h⟩
theorem d_loop (hT:TabOK P T) (hW:PWf P) {b:Code} {Q:Post} {E:Env} {step:σ→(σ→Option ρ)→Option ρ} {s0:σ} (cvs:List Cv) (keep:List Nat) (F:σ→Env) (hf:loopF step s0=some r) (he:canE T.pas keep (wkE (cvE S cvs E))=F s0)
  (h:∀ (I:σ→Env) (k:σ→Option ρ) (s:σ),(∀ s,I s=F s)→step s k=some r→∀ e,e=F s→pwp T S b (seqQ (fun E'=>∃ s',k s'=some r∧canE T.pas keep (wkE (cvE S cvs E'))=I s') Q) e):S.loop b Q E:=by
 subst hS
 intro C a w hA
 have key:∀ (n:Nat) (s:σ),loopK step n s=some r→∀ (C:Ctx T) a w,ActRep C (F s) a w→Code.rounds P b (lift C Q) n a w:=by
  intro n
  induction n with
  | zero=>intro s h; cases h
  | succ n ih =>
   intro s hs C a w hA
   unfold Code.rounds
   refine wp_mono (pwp_sound hT hW b _ _ (h F (loopK step n) s (fun _=>rfl) hs _ rfl) C a w hA) (lift_rounds fun E' a' w' hA' hq=>?_)
   obtain ⟨j,hj,he⟩:=hq
   exact ih j hj C a' w' (he ▸ ent_canE keep _ C a' w' (ent_wkE _ C a' w' (ent_cvE (P:=P) (T':=T) cvs E' C a' w' hA')))
 exact wp_loop_rounds fuel (key _ s0 hf C a w (he ▸ ent_canE keep _ C a w (ent_wkE _ C a w (ent_cvE (P:=P) (T':=T) cvs E C a w hA))))
end
end Go.Pv
namespace Go.Pv
open Go
section
variable {α β σ τ ρ:Type}
def Ok (Q:ρ→Prop) (o:Option ρ):Prop:=∃ r,o=some r∧Q r
theorem ok_some {Q:ρ→Prop} {x:ρ} (h:Q x):Ok Q (some x):=⟨x,rfl,h⟩
theorem ok_eq {c:ρ} {o:Option ρ} (h:Ok (fun r=>r=c) o):o=some c:=by obtain ⟨r,e,q⟩:=h; subst q; exact e
theorem ok_br {Q:ρ→Prop} {c:Bool} {a b:Option ρ} (h1:c=true→Ok Q a) (h2:c=false→Ok Q b):Ok Q (br c a b):=by
 cases c with
 | true=>exact h1 rfl
 | false=>exact h2 rfl
theorem ok_brd {Q:ρ→Prop} {p:Prop} [Decidable p] {a b:Option ρ} (h1:p→Ok Q a) (h2:¬p→Ok Q b):Ok Q (br (decide p) a b) :=
 ok_br (fun h=>h1 (of_decide_eq_true h)) (fun h=>h2 (of_decide_eq_false h))
theorem ok_brn {Q:ρ→Prop} {p:Prop} [Decidable p] {a b:Option ρ} (h1:¬p→Ok Q a) (h2:p→Ok Q b):Ok Q (br (!decide p) a b) :=
 ok_br (fun h=>h1 (by simpa using h)) (fun h=>h2 (by simpa using h))
theorem ok_bnd {Q:ρ→Prop} {R:α→Prop} {o:Option α} {k:α→Option ρ} (h:Ok R o) (hk:∀ x,R x→Ok Q (k x)):Ok Q (bnd o k):=by
 obtain ⟨x,e,q⟩:=h
 rw [e]; exact hk x q
theorem ok_bnde {Q:ρ→Prop} {o:Option α} {x:α} {k:α→Option ρ} (h:o=some x) (hk:Ok Q (k x)):Ok Q (bnd o k):=by
 rw [h]; exact hk
theorem ok_jn {Q:ρ→Prop} (J:σ→Prop) {rest:σ→Option ρ} {body:(σ→Option ρ)→Option ρ} (h1:∀ k,(∀ s,J s→Ok Q (k s))→Ok Q (body k)) (h2:∀ s,J s→Ok Q (rest s)):Ok Q (jn rest body):=h1 rest h2
theorem ok_room {Q:ρ→Prop} {n b:Nat} {k:Option ρ} (h1:(2 * n+192) * b≤140737488355328) (h2:n≤4611686018427387904) (hk:Ok Q k):Ok Q (roomO n b k):=by
 unfold roomO
 rw [Nat.ble_eq_true_of_le h1,Nat.ble_eq_true_of_le h2]; exact hk
theorem ixL_nat (l:List α) (n:Nat):ixL l (n:Int)=l[n]?:=rfl
theorem ok_ixL {Q:ρ→Prop} {l:List α} {i:Int} {k:α→Option ρ} (n:Nat) (hi:i=(n:Int)) (hn:n<l.length) (hk:Ok Q (k (l[n]))):Ok Q (bnd (ixL l i) k):=by
 subst hi
 rw [ixL_nat,List.getElem?_eq_getElem hn]; exact hk
theorem ok_ixO {Q:ρ→Prop} {m:Nat} {i:Int} {k:Nat→Option ρ} (n:Nat) (hi:i=(n:Int)) (hn:n<m) (hk:Ok Q (k n)):Ok Q (bnd (ixO m i) k):=by
 subst hi
 show Ok Q (bnd (bif Nat.blt n m then some n else none) k)
 have:Nat.blt n m=true:=by rw [Nat.blt_eq]; exact hn
 rw [this]; exact hk
theorem ok_get {Q:ρ→Prop} {l:List α} {n:Nat} {k:α→Option ρ} (hn:n<l.length) (hk:Ok Q (k (l[n]))):Ok Q (bnd (l[n]?) k):=by
 rw [List.getElem?_eq_getElem hn]; exact hk
theorem wrap_in {n:Int} (h1 : -9223372036854775808≤n) (h2:n<9223372036854775808):IntKind.i64.wrap n=n:=by rw [IntKind.wrap_i64]; omega
theorem addI_eq {a b:Int} (h1 : -9223372036854775808≤a+b) (h2:a+b<9223372036854775808):addI a b=a+b:=by
 show IntKind.i64.wrap (a+b)=a+b
 exact wrap_in h1 h2
theorem addI_nat {n:Nat} (h:n<4611686018427387904):addI (n:Int) 1=((n+1:Nat):Int):=by
 rw [addI_eq (by omega) (by omega)]; rfl
theorem ok_loop {Q:ρ→Prop} {step:σ→(σ→Option ρ)→Option ρ} {s0:σ} (Inv:σ→Prop) (μ:σ→Nat) (h0:Inv s0) (hμ:μ s0<fuel)
  (h:∀ s k,Inv s→(∀ s',Inv s'→μ s'<μ s→Ok Q (k s'))→Ok Q (step s k)):Ok Q (loopF step s0):=by
 have key:∀ n s,Inv s→μ s<n→Ok Q (loopK step n s):=by
  intro n
  induction n with
  | zero=>intro s _ h; omega
  | succ n ih=>intro s hs hn; exact h s _ hs fun s' hs' hl=>ih s' hs' (by omega)
 exact key fuel s0 h0 hμ
theorem ok_for {Q:ρ→Prop} {step:Int × τ→(Int × τ→Option ρ)→Option ρ} {t0:τ} (a n:Nat) (Inv:Nat→τ→Prop) (i0:Int) (hi0:i0=(a:Int)) (ha:a≤n) (hn:n<4611686018427387904) (h0:Inv a t0)
  (h:∀ i t k,i<n→Inv i t→(∀ t',Inv (i+1) t'→Ok Q (k (addI (i:Int) 1,t')))→Ok Q (step ((i:Int),t) k))
  (he:∀ t k,Inv n t→Ok Q (step ((n:Int),t) k)):Ok Q (loopF step (i0,t0)):=by
 subst hi0
 refine ok_loop (fun s=>∃ i:Nat,s.1=(i:Int)∧i≤n∧Inv i s.2) (fun s=>n - s.1.toNat) ⟨a,rfl,ha,h0⟩ (by show n - _<18446744073709551616; omega) ?_
 rintro ⟨i',t⟩ k ⟨i,e,hi,hI⟩ hk
 simp only at e hI; subst e
 by_cases h' : i=n
 ·subst h'; exact he t k hI
 ·refine h i t k (by omega) hI fun t' ht'=>hk _ ⟨i+1,addI_nat (by omega),by omega,ht'⟩ ?_
  rw [addI_nat (by omega)]
  simp only [Int.toNat_natCast]; omega
theorem ok_for1 {Q:ρ→Prop} {step:Int→(Int→Option ρ)→Option ρ} (a n:Nat) (Inv:Nat→Prop) (i0:Int) (hi0:i0=(a:Int)) (ha:a≤n) (hn:n<4611686018427387904) (h0:Inv a)
  (h:∀ i k,i<n→Inv i→(Inv (i+1)→Ok Q (k (addI (i:Int) 1)))→Ok Q (step (i:Int) k))
  (he:∀ k,Inv n→Ok Q (step (n:Int) k)):Ok Q (loopF step i0):=by
 subst hi0
 refine ok_loop (fun s=>∃ i:Nat,s=(i:Int)∧i≤n∧Inv i) (fun s=>n - s.toNat) ⟨a,rfl,ha,h0⟩ (by show n - _<18446744073709551616; omega) ?_
 rintro i' k ⟨i,e,hi,hI⟩ hk
 subst e
 by_cases h' : i=n
 ·subst h'; exact he k hI
 ·refine h i k (by omega) hI fun ht'=>hk _ ⟨i+1,addI_nat (by omega),by omega,ht'⟩ ?_
  rw [addI_nat (by omega)]
  simp only [Int.toNat_natCast]; omega
theorem ok_forr {Q:ρ→Prop} {step:τ × Int→(τ × Int→Option ρ)→Option ρ} {t0:τ} (a n:Nat) (Inv:Nat→τ→Prop) (i0:Int) (hi0:i0=(a:Int)) (ha:a≤n) (hn:n<4611686018427387904) (h0:Inv a t0)
  (h:∀ i t k,i<n→Inv i t→(∀ t',Inv (i+1) t'→Ok Q (k (t',addI (i:Int) 1)))→Ok Q (step (t,(i:Int)) k))
  (he:∀ t k,Inv n t→Ok Q (step (t,(n:Int)) k)):Ok Q (loopF step (t0,i0)):=by
 subst hi0
 refine ok_loop (fun s=>∃ i:Nat,s.2=(i:Int)∧i≤n∧Inv i s.1) (fun s=>n - s.2.toNat) ⟨a,rfl,ha,h0⟩ (by show n - _<18446744073709551616; omega) ?_
 rintro ⟨t,i'⟩ k ⟨i,e,hi,hI⟩ hk
 simp only at e hI; subst e
 by_cases h' : i=n
 ·subst h'; exact he t k hI
 ·refine h i t k (by omega) hI fun t' ht'=>hk _ ⟨i+1,addI_nat (by omega),by omega,ht'⟩ ?_
  rw [addI_nat (by omega)]
  simp only [Int.toNat_natCast]; omega
end
end Go.Pv
namespace Go.Pv
open Go
theorem rows_of {α:Type} {enc:α→List PV} {ok:α→Prop}:∀ {es:List (List PV)},(∀ r∈es,∃ x,r=enc x∧ok x)→∃ l:List α,es=l.map enc∧(∀ x∈l,ok x)∧l.length=es.length
 | [],_=>⟨[],rfl,by simp,rfl⟩
 | r::es,h=>by
  obtain ⟨x,e,hx⟩:=h r (by simp)
  obtain ⟨l,e2,h2,h3⟩:=rows_of fun r hr=>h r (List.mem_cons_of_mem _ hr)
  refine ⟨x::l,by rw [e,e2]; rfl,fun y hy=>?_,by simp [h3]⟩
  rcases List.mem_cons.1 hy with rfl | hy
  ·exact hx
  ·exact h2 y hy
end Go.Pv
namespace Go.Pv
open Go
structure Fit {H:Type} (N:Nat) (fit:DataW H→Prop):Prop where
 str:∀ b,fit (.lit (.string b))→b.length≤N
 sl:∀ es rest,fit (.slice es rest)→es.length≤N∧∀ e∈es,fit e
 agg:∀ es,fit (.agg es)→∀ e∈es,fit e
 ptr:∀ d,fit (.ptr d)→fit d
mutual
inductive Sn (P:Program) (N:Nat):TypeId→List PV→Prop
 | int {t:TypeId} {k:IntKind} {n:Int}:P.underlying t=some (.int k)→(Lit.int k n).wf=true→Sn P N t [.si k n]
 | bool {t:TypeId} {b:Bool}:P.underlying t=some .bool→Sn P N t [.sb b]
 | str {t:TypeId} {s:ByteArray}:P.underlying t=some .string→s.size≤N→Sn P N t [.str s]
 | nilp {t e:TypeId}:P.underlying t=some (.pointer e)→Sn P N t [.nilp]
 | pp {t e:TypeId} {cs:List PV}:P.underlying t=some (.pointer e)→Sn P N e cs→Sn P N t [.pp cs]
 | sl {t e:TypeId} {es:List (List PV)}:P.underlying t=some (.slice e)→(∀ r∈es,Sn P N e r)→es.length≤N→Sn P N t [.sl (P.cellsOf e) es false]
 | struct {t:TypeId} {fs:Array Field} {cs:List PV}:P.underlying t=some (.struct fs)→SnL P N (fs.toList.map (·.type)) cs→Sn P N t cs
 | arr {t e:TypeId} {n:Nat} {cs:List PV}:P.underlying t=some (.array n e)→SnL P N (List.replicate n e) cs→Sn P N t cs
inductive SnL (P:Program) (N:Nat):List TypeId→List PV→Prop
 | nil:SnL P N [] []
 | cons {t:TypeId} {ts:List TypeId} {a b:List PV}:Sn P N t a→SnL P N ts b→SnL P N (t::ts) (a ++ b)
end
section
variable {H:Type} {enc:TypeId × Value→H} {P:Program} {w:World} {base:Nat} {sp:Nat→Bool} {held:Bool} {N:Nat} {fit:DataW H→Prop}
mutual
theorem Sn.cells {t:TypeId} {cs:List PV}:Sn P N t cs→allCell cs=true
 | .int _ _=>rfl
 | .bool _=>rfl
 | .str _ _=>rfl
 | .nilp _=>rfl
 | .pp _ _=>rfl
 | .sl _ _ _=>rfl
 | .struct _ h=>SnL.cells h
 | .arr _ h=>SnL.cells h
theorem SnL.cells {ts:List TypeId} {cs:List PV}:SnL P N ts cs→allCell cs=true
 | .nil=>rfl
 | .cons h k=>allCell_app _ _ (Sn.cells h) (SnL.cells k)
end
theorem fields_readN {ts:List TypeId} {cs:List Value} {xs:Nat→Option (DataW H × List MemPlace)} {m:Nat}
  (ih:∀ (t:TypeId) (cs:List Value) x,t∈ts→DataW.trod enc P w base sp held m t cs=some x→fit x.1→∃ ps,RepL w NoY noSg ps cs∧Sn P N t ps∧cs.length=P.cellsOf t) :
  ∀ (fs:List Field) (n k:Nat),contig P ts fs n=some cs.length→n≤cs.length →
   (∀ (i:Nat) (f:Field),fs[i]?=some f→DataW.trod enc P w base sp held m f.type ((cs.drop f.offset).take (P.cellsOf f.type))=xs (k+i)∧∃ y,xs (k+i)=some y∧fit y.1) →
   ∃ ps,RepL w NoY noSg ps (cs.drop n)∧SnL P N (fs.map (·.type)) ps
 | [],n,k,hc,hn,_=>by
  simp only [contig,Option.some.injEq] at hc
  subst hc
  exact ⟨[],by simp [RepL],.nil⟩
 | f::fs,n,k,hc,hn,hx=>by
  simp only [contig] at hc
  cases hb:(Nat.beq f.offset n && ts.contains f.type) with
  | false=>rw [hb] at hc; cases hc
  | true =>
   rw [hb] at hc
   simp only [cond_true] at hc
   simp only [Bool.and_eq_true] at hb
   have hoff:=Nat.eq_of_beq_eq_true hb.1
   obtain ⟨h1,y,h2,h3⟩:=hx 0 f rfl
   rw [h2,hoff] at h1
   obtain ⟨ps,hr,hs,hl⟩:=ih _ _ _ (by simpa using hb.2) h1 h3
   have hle:n+P.cellsOf f.type≤cs.length:=by
    rw [List.length_take,List.length_drop] at hl
    omega
   obtain ⟨qs,hr2,hs2⟩:=fields_readN ih fs (n+P.cellsOf f.type) (k+1) hc hle fun i g hg=>by
    have:=hx (i+1) g (by simpa using hg)
    rw [show k+(i+1)=k+1+i by omega] at this
    exact this
   refine ⟨ps ++ qs,?_,by simpa using SnL.cons hs hs2⟩
   have:=hr.append hr2
   rwa [← List.drop_drop,List.take_append_drop] at this
theorem elems_readN {e:TypeId} {cs:List Value} {m sz:Nat} {xs:Nat→Option (DataW H × List MemPlace)}
  (ih:∀ (cs:List Value) x,DataW.trod enc P w base sp held m e cs=some x→fit x.1→∃ ps,RepL w NoY noSg ps cs∧Sn P N e ps∧cs.length=P.cellsOf e) (hsz:sz=P.cellsOf e) :
  ∀ (k s:Nat),cs.length=(s+k) * sz→(∀ i,i<s+k→DataW.trod enc P w base sp held m e ((cs.drop (i * sz)).take sz)=xs i∧∃ y,xs i=some y∧fit y.1) →
   ∃ ps,RepL w NoY noSg ps (cs.drop (s * sz))∧SnL P N (List.replicate k e) ps
 | 0,s,hl,_=>by
  refine ⟨[],?_,.nil⟩
  rw [List.drop_eq_nil_of_le (by rw [hl]; simp)]
  simp [RepL]
 | k+1,s,hl,hx=>by
  obtain ⟨h1,y,h2,h3⟩:=hx s (by omega)
  rw [h2] at h1
  obtain ⟨ps,hr,hs,hl2⟩:=ih _ _ h1 h3
  obtain ⟨qs,hr2,hs2⟩:=elems_readN ih hsz k (s+1) (by rw [hl]; congr 1; omega) fun i hi=>hx i (by omega)
  refine ⟨ps ++ qs,?_,by rw [List.replicate_succ]; exact .cons hs hs2⟩
  have:=hr.append hr2
  rwa [show (s+1) * sz=s * sz+sz by rw [Nat.add_mul]; omega,← List.drop_drop,List.take_append_drop] at this
theorem rows_readN {e:TypeId} {m:Nat} {a:Addr} {xs:Nat→Option (DataW H × List MemPlace)} (hspot:a.spot=none)
  (ih:∀ (cs:List Value) x,DataW.trod enc P w base sp held m e cs=some x→fit x.1→∃ ps,RepL w NoY noSg ps cs∧Sn P N e ps∧cs.length=P.cellsOf e) :
  ∀ (k s:Nat),(∀ i,i<s+k→(w.cells? base (a.add (i * P.cellsOf e)) (P.cellsOf e)).bind (DataW.trod enc P w base sp held m e)=xs i∧∃ y,xs i=some y∧fit y.1) →
   ∃ es,RepR w NoY noSg a.block (P.cellsOf e) es (a.off+s * P.cellsOf e)∧(∀ r∈es,Sn P N e r)∧es.length=k
 | 0,s,_=>⟨[],by simp [RepR],by simp,rfl⟩
 | k+1,s,hx=>by
  obtain ⟨h1,y,h2,h3⟩:=hx s (by omega)
  rw [h2] at h1
  obtain ⟨vs,hv,ht⟩:=Option.bind_eq_some_iff.1 h1
  obtain ⟨ps,hr,hs,hl⟩:=ih _ _ ht h3
  obtain ⟨es,hr2,hs2,hl2⟩:=rows_readN hspot ih k (s+1) fun i hi=>hx i (by omega)
  rw [addr_plus hspot] at hv
  refine ⟨ps::es,?_,?_,by simp [hl2]⟩
  ·unfold RepR
   refine ⟨⟨by rw [← hr.length,hl],hs.cells⟩,row_of_cells hv hr,?_⟩
   rw [show a.off+s * P.cellsOf e+P.cellsOf e=a.off+(s+1) * P.cellsOf e by rw [Nat.add_mul]; omega]
   exact hr2
  ·intro r hr'
   rcases List.mem_cons.1 hr' with rfl | h
   ·exact hs
   ·exact hs2 r h
theorem trod_shpN {ts:List TypeId} (F:Fit N fit) (hts:layAll P ts ts=true):∀ (fuel:Nat) (t:TypeId) (cs:List Value) (x:DataW H × List MemPlace),t∈ts →
  DataW.trod enc P w base sp held fuel t cs=some x→fit x.1→∃ ps,RepL w NoY noSg ps cs∧Sn P N t ps∧cs.length=P.cellsOf t
 | 0,t,cs,x,_,h,_=>by simp [DataW.trod] at h
 | m+1,t,cs,x,hmem,h,hft=>by
  have hl:=layAll_spec ts hts t hmem
  have ih:=trod_shpN F hts m
  have one:∀ {p:PV} {v:Value},Rep w NoY noSg p v→RepL w NoY noSg [p] [v]:=fun h=>by unfold RepL; exact ⟨_,_,rfl,h,by unfold RepL; rfl⟩
  unfold lay1 at hl
  split at hl
  ·rename_i hu
   obtain ⟨b,rfl,_⟩:=DataW.trod_bool hu h
   exact ⟨[.sb b],one (by simp [Rep]),.bool hu,(Nat.eq_of_beq_eq_true hl).symm⟩
  ·rename_i k hu
   obtain ⟨n,rfl,_,hw⟩:=DataW.trod_int hu h
   exact ⟨[.si k n],one (by simp [Rep]),.int hu hw,(Nat.eq_of_beq_eq_true hl).symm⟩
  ·rename_i hu
   obtain ⟨s,rfl,rfl,hs⟩:=DataW.trod_string hu h
   exact ⟨[.str s],one (by simp [Rep]),.str hu (by simpa using F.str _ hft),(Nat.eq_of_beq_eq_true hl).symm⟩
  ·rename_i e hu
   simp only [Bool.and_eq_true,Nat.blt_eq] at hl
   obtain ⟨⟨h1,h2⟩,h3⟩:=hl
   have h3:e∈ts:=by simpa using h3
   have h1:=(Nat.eq_of_beq_eq_true h1).symm
   rcases DataW.trod_pointer hu h with ⟨rfl,_⟩ | ⟨a,cs',y,n,hf,rfl,rfl,hc,ht⟩
   ·exact ⟨[.nilp],one (by simp [Rep]),.nilp hu,h1⟩
   ·cases hf
    obtain ⟨ps,hr,hs,_⟩:=ih e _ _ h3 ht (F.ptr _ hft)
    obtain ⟨hsp,hlt⟩:=first_cell h2 hc
    refine ⟨[.pp ps],one ?_,.pp hu hs,h1⟩
    have ha:a=⟨a.block,a.off,none⟩:=by cases a; simp at hsp; simp [hsp]
    rw [ha] at hc
    unfold Rep
    exact ⟨a.block,a.off,by rw [← ha],⟨hlt,fun h=>h⟩,row_of_cells hc hr⟩
  ·rename_i e hu
   simp only [Bool.and_eq_true,Nat.blt_eq] at hl
   obtain ⟨⟨h1,h2⟩,h3⟩:=hl
   have h3:e∈ts:=by simpa using h3
   have h1:=(Nat.eq_of_beq_eq_true h1).symm
   rcases DataW.trod_slice hu h with ⟨rfl,_⟩ | ⟨a,len,cap,elems,rest,n,hf,rfl,rfl,_,hle,hmax,hlen,hel,_⟩
   ·refine ⟨[.sl (P.cellsOf e) [] false],one ?_,.sl hu (by simp) (by simp),h1⟩
    unfold Rep
    exact ⟨none,0,0,rfl,rfl,Nat.le_refl _,(fun h=>by cases h),.inl rfl⟩
   ·cases hf
    obtain ⟨hN,hfe⟩:=F.sl _ _ hft
    have hN:len≤N:=by simpa [hlen] using hN
    by_cases h0:len=0
    ·subst h0
     refine ⟨[.sl (P.cellsOf e) [] false],one ?_,.sl hu (by simp) (by simp),h1⟩
     unfold Rep
     exact ⟨some a,0,cap,rfl,rfl,hle,(fun h=>by cases h),.inl rfl⟩
    ·have hx:∀ i,i<len→∃ y,elems[i]?=some y∧fit y.1:=fun i hi=>⟨_,List.getElem?_eq_getElem (by omega),hfe _ (List.mem_map.2 ⟨_,List.getElem_mem _,rfl⟩)⟩
     obtain ⟨y,hy,_⟩:=hx 0 (by omega)
     have he0:=hel 0 (by omega)
     rw [hy] at he0
     obtain ⟨vs,hv,_⟩:=Option.bind_eq_some_iff.1 he0
     obtain ⟨hsp,hlt⟩:=first_cell h2 hv
     rw [Nat.zero_mul,show a.add 0=a by simp [Addr.add]] at hsp hlt
     obtain ⟨es,hr,hs,hl2⟩:=rows_readN (xs:=fun i=>elems[i]?) hsp (fun cs x hx hf=>ih e cs x h3 hx hf) len 0 fun i hi=>⟨hel i (by omega),hx i (by omega)⟩
     refine ⟨[.sl (P.cellsOf e) es false],one ?_,.sl hu hs (by rw [hl2]; omega),h1⟩
     have ha:a=⟨a.block,a.off,none⟩:=by cases a; simp at hsp; simp [hsp]
     unfold Rep
     refine ⟨some a,len,cap,rfl,hl2.symm,hle,(fun h=>by cases h),.inr ⟨a.block,a.off,by rw [← ha],⟨hlt,fun h=>h⟩,?_⟩⟩
     simpa using hr
  ·rename_i fs hu
   split at hl
   ·rename_i n hc
    obtain ⟨xs,n',hf,rfl,hcl,hxl,hx⟩:=DataW.trod_struct hu h
    cases hf
    have hn:=Nat.eq_of_beq_eq_true hl
    obtain ⟨ps,hr,hs⟩:=fields_readN (ts:=ts) (xs:=fun i=>xs[i]?) (fun t cs x=>ih t cs x) fs.toList 0 0 (by rw [hc,hn,hcl]) (Nat.zero_le _) fun i f hi=>by
     have hi' : fs[i]?=some f:=by simpa using hi
     have hlt:i<fs.size:=by
      by_cases h:i<fs.size
      ·exact h
      ·rw [Array.getElem?_eq_none (Nat.le_of_not_lt h)] at hi'; cases hi'
     refine ⟨by simpa using hx i f hi',_,by rw [Nat.zero_add]; exact List.getElem?_eq_getElem (by omega),F.agg _ hft _ (List.mem_map.2 ⟨_,List.getElem_mem _,rfl⟩)⟩
    exact ⟨ps,by simpa using hr,.struct hu hs,hcl⟩
   ·cases hl
  ·rename_i n e hu
   simp only [Bool.and_eq_true] at hl
   have h3:e∈ts:=by simpa using hl.2
   obtain ⟨xs,m',hf,rfl,hcl,hxl,hx⟩:=DataW.trod_array hu h
   cases hf
   obtain ⟨ps,hr,hs⟩:=elems_readN (xs:=fun i=>xs[i]?) (fun cs x hx hf=>ih e cs x h3 hx hf) rfl n 0 (by rw [hcl,Nat.zero_add]; exact Nat.eq_of_beq_eq_true hl.1) fun i hi=>⟨hx i (by omega),_,List.getElem?_eq_getElem (by omega),F.agg _ hft _ (List.mem_map.2 ⟨_,List.getElem_mem _,rfl⟩)⟩
   exact ⟨ps,by simpa using hr,.arr hu hs,hcl⟩
  ·cases hl
inductive SnV (P:Program) (N:Nat) (t:TypeId):PV→Prop
 | one {p:PV}:Sn P N t [p]→isAggT P t=false→SnV P N t p
 | agg {cs:List PV}:Sn P N t cs→isAggT P t=true→SnV P N t (.agg cs)
inductive SnVL (P:Program) (N:Nat):List TypeId→List PV→Prop
 | nil:SnVL P N [] []
 | cons {t:TypeId} {ts:List TypeId} {p:PV} {ps:List PV}:SnV P N t p→SnVL P N ts ps→SnVL P N (t::ts) (p::ps)
theorem value_shpN {ts:List TypeId} (F:Fit N fit) (hts:layAll P ts ts=true) {t:TypeId} (hmem:t∈ts) {v:Value} {d:DataW H} {pl:List MemPlace} {r:Reach} {b0:Nat} (hval:Value.okWide P w r b0 t v) (h:DataW.Trod enc P w base sp held t v d pl) (hft:fit d) :
  ∃ p,Rep w NoY noSg p v∧SnV P N t p:=by
 obtain ⟨fuel,h⟩:=h
 obtain ⟨ps,hr,hs,_⟩:=trod_shpN F hts fuel t _ _ hmem h hft
 have hl:=layAll_spec ts hts t hmem
 have agg:(∃ cs,v=.agg cs)→isAggT P t=true→∃ p,Rep w NoY noSg p v∧SnV P N t p:=by
  rintro ⟨cs,rfl⟩ ha
  refine ⟨.agg ps,?_,.agg hs ha⟩
  unfold Rep
  exact ⟨cs.toList,by simp,by simpa [Value.cells] using hr⟩
 have one:v.cells.toList=[v]→isAggT P t=false→∃ p,Rep w NoY noSg p v∧SnV P N t p:=by
  intro hv ha
  rw [hv] at hr
  have hlen:=hr.length
  match ps,hr,hs,hlen with
  | [p],hr,hs,_ =>
   obtain ⟨u,e,hp⟩:=evA_one hr
   cases e
   exact ⟨p,hp,.one hs ha⟩
 unfold lay1 at hl
 unfold Value.okWide at hval
 split at hl
 ·rename_i hu
  rw [hu] at hval
  obtain ⟨b,hb,_⟩:=DataW.trod_bool hu h
  refine one ?_ (by simp [isAggT,hu])
  cases v <;> simp_all [Value.cells,Cell.okWide,Cell.ok]
 ·rename_i k hu
  rw [hu] at hval
  obtain ⟨b,hb,_⟩:=DataW.trod_int hu h
  refine one ?_ (by simp [isAggT,hu])
  cases v <;> simp_all [Value.cells,Cell.okWide,Cell.ok]
 ·rename_i hu
  rw [hu] at hval
  obtain ⟨b,hb,_⟩:=DataW.trod_string hu h
  refine one ?_ (by simp [isAggT,hu])
  cases v <;> simp_all [Value.cells,Cell.okWide,Cell.ok]
 ·rename_i e hu
  rw [hu] at hval
  refine one ?_ (by simp [isAggT,hu])
  cases v <;> simp_all [Value.cells,Cell.okWide,Cell.ok]
 ·rename_i e hu
  rw [hu] at hval
  refine one ?_ (by simp [isAggT,hu])
  cases v <;> simp_all [Value.cells,Cell.okWide,Cell.ok]
 ·rename_i fs hu
  rw [hu] at hval
  obtain ⟨cs,hc,_⟩:=hval
  exact agg ⟨cs,hc⟩ (by simp [isAggT,hu])
 ·rename_i n e hu
  rw [hu] at hval
  obtain ⟨cs,hc,_⟩:=hval
  exact agg ⟨cs,hc⟩ (by simp [isAggT,hu])
 ·cases hl
theorem args_shpN {ts:List TypeId} (F:Fit N fit) (hts:layAll P ts ts=true) {r:Reach} {b0:Nat}:∀ (params:List TypeId) (vs:List Value) (ds:List (DataW H)) (pl:List MemPlace),(∀ t∈params,t∈ts) →
  (∀ (j:Nat) t v,params[j]?=some t→vs[j]?=some v→Value.okWide P w r b0 t v)→DataW.TrodAll enc P w base sp held params vs ds pl→(∀ d∈ds,fit d) →
  ∃ ps,RepL w NoY noSg ps vs∧SnVL P N params ps∧ds.length=params.length
 | [],[],[],_,_,_,_,_=>⟨[],by simp [RepL],.nil,rfl⟩
 | t::params,v::vs,d::ds,pl,hm,hval,h,hft=>by
  obtain ⟨p,q,h1,h2,_⟩:=h
  obtain ⟨x,hx,hs⟩:=value_shpN F hts (hm t (by simp)) (hval 0 t v rfl rfl) h1 (hft d (by simp))
  obtain ⟨xs,hxs,hss,hl⟩:=args_shpN F hts params vs ds q (fun t ht=>hm t (by simp [ht])) (fun j t v h1 h2=>hval (j+1) t v (by simpa using h1) (by simpa using h2)) h2 (fun d hd=>hft d (by simp [hd]))
  exact ⟨x::xs,by unfold RepL; exact ⟨v,vs,rfl,hx,hxs⟩,.cons hs hss,by simp [hl]⟩
 | [],_::_,_,_,_,_,h,_=>h.elim
 | [],[],_::_,_,_,_,h,_=>h.elim
 | _::_,[],_,_,_,_,h,_=>h.elim
 | _::_,_::_,[],_,_,_,h,_=>h.elim
theorem law_callsN (F:Fit N fit) {f:FuncId} {fn:Func} {s:ChangeSpec} {apart:Bool} {ts:List TypeId} (hB:lawB P ts fn.params.toList=true) (hvars:s.vars=[]) {tb:TypeId} (hres:fn.resultTypes=#[tb]) (hb:P.underlying tb=some .bool)
  (hspec:∀ (ds:List (DataW H)),ds.length=fn.params.toList.length→(s.fn H ds).results=[.lit (.bool true)]∧(s.fn H ds).args=ds∧(s.fn H ds).vars=[])
  {G:Nat→Option (List PV)} (hFn:∀ pvs,SnVL P N fn.params.toList pvs→Fn P G f pvs (fun u=>u=.sb true))
  (W:World) (hG:Glob G W NoY) (base:Nat) (args:Array Value) (ds gs:List (DataW H)) (before:List MemPlace)
  (hval:∀ (j:Nat) t v,fn.params[j]?=some t→args[j]?=some v→Value.okWide P W .any base t v)
  (hft:∀ d∈ds,fit d) (hW:DataW.Whole enc P fn.params.toList s.vars apart W args.toList ds gs before) :
  Calls P f args W fun e W'=>∃ v,e=.returned v∧s.post enc P fn apart true false false W args v W':=by
 unfold lawB at hB
 simp only [Bool.and_eq_true,List.all_eq_true] at hB
 obtain ⟨⟨hl,hts⟩,hp⟩:=hB
 have hp:∀ t∈fn.params.toList,t∈ts∧P.readableRec t=true∧t<P.types.size:=fun t ht=>by
  have:=hp t ht
  rw [Nat.blt_eq] at this
  exact ⟨by simpa using this.1.1,this.1.2,this.2⟩
 have hW0:=hW
 obtain ⟨pa,pv,hA,hV,hbef,_,_⟩:=hW
 obtain ⟨pvs,hr,hs,hlen⟩:=args_shpN F hts fn.params.toList args.toList ds pa (fun t ht=>(hp t ht).1) (fun j t v h1 h2=>hval j t v (by simpa using h1) (by simpa using h2)) hA hft
 obtain ⟨_,hcalls⟩:=hFn pvs hs W NoY args.toList hG (fun _ h=>h.elim) hr
 refine Calls.mono hcalls fun e W' h=>?_
 obtain ⟨cv,v,rfl,rfl,hrep,hchg⟩:=h
 have hcv:=rep_sb hrep
 subst hcv
 refine ⟨.bool true,rfl,?_⟩
 rw [hvars] at hV
 have hgs:gs=[]∧pv=[]:=by
  cases gs with
  | nil=>exact ⟨rfl,hV⟩
  | cons g gs=>exact hV.elim
 obtain ⟨rfl,rfl⟩:=hgs
 obtain ⟨s1,s2,s3⟩:=hspec ds hlen
 have hbefore:∀ p∈before,p.block<W.heap.size:=fun p hp=>by simpa using hW0.lt p hp
 unfold ChangeSpec.post
 refine ⟨ds,[],before,[],pa,[],hW0,?_,?_,?_,hchg.below.frame _,fun h=>by cases h⟩
 ·rw [List.append_nil,s1,hres]
  refine ⟨[],[],⟨1,?_⟩,rfl,rfl⟩
  simp [DataW.trod,hb,Value.cells]
 ·rw [List.append_nil,s2]
  exact args_stay hl hchg.below _ _ _ _ (fun t ht=>(hp t ht).2) (fun x hx=>hbefore x (by rw [hbef]; simp [hx])) hA
 ·rw [List.append_nil,s3,hvars]
  rfl
end
section
variable {P:Program} {N:Nat} {t e:TypeId} {cs:List PV} {p:PV}
theorem Sn.inv_int {k:IntKind} (hu:P.underlying t=some (.int k)) (h:Sn P N t cs):∃ n,cs=[.si k n]∧(Lit.int k n).wf=true:=by
 cases h with
 | int h1 h2=>rw [hu] at h1; cases h1; exact ⟨_,rfl,h2⟩
 | _=>simp_all
theorem Sn.inv_bool (hu:P.underlying t=some .bool) (h:Sn P N t cs):∃ b,cs=[.sb b]:=by
 cases h with
 | bool h1=>exact ⟨_,rfl⟩
 | _=>simp_all
theorem Sn.inv_str (hu:P.underlying t=some .string) (h:Sn P N t cs):∃ s,cs=[.str s]∧s.size≤N:=by
 cases h with
 | str h1 h2=>exact ⟨_,rfl,h2⟩
 | _=>simp_all
theorem Sn.inv_slice (hu:P.underlying t=some (.slice e)) (h:Sn P N t cs):∃ es,cs=[.sl (P.cellsOf e) es false]∧(∀ r∈es,Sn P N e r)∧es.length≤N:=by
 cases h with
 | sl h1 h2 h3=>rw [hu] at h1; cases h1; exact ⟨_,rfl,h2,h3⟩
 | _=>simp_all
theorem Sn.inv_struct {fs:Array Field} (hu:P.underlying t=some (.struct fs)) (h:Sn P N t cs):SnL P N (fs.toList.map (·.type)) cs:=by
 cases h with
 | struct h1 h2=>rw [hu] at h1; cases h1; exact h2
 | _=>simp_all
theorem Sn.inv_arr {n:Nat} (hu:P.underlying t=some (.array n e)) (h:Sn P N t cs):SnL P N (List.replicate n e) cs:=by
 cases h with
 | arr h1 h2=>rw [hu] at h1; cases h1; exact h2
 | _=>simp_all
theorem SnL.inv_cons {ts:List TypeId} (h:SnL P N (t::ts) cs):∃ a b,cs=a ++ b∧Sn P N t a∧SnL P N ts b:=by
 cases h with
 | cons h1 h2=>exact ⟨_,_,rfl,h1,h2⟩
theorem SnL.inv_nil (h:SnL P N [] cs):cs=[]:=by cases h; rfl
theorem SnV.inv_agg (ha:isAggT P t=true) (h:SnV P N t p):∃ cs,p=.agg cs∧Sn P N t cs:=by
 cases h with
 | one h1 h2=>rw [ha] at h2; cases h2
 | agg h1 h2=>exact ⟨_,rfl,h1⟩
theorem SnV.inv_one (ha:isAggT P t=false) (h:SnV P N t p):Sn P N t [p]:=by
 cases h with
 | one h1 h2=>exact h1
 | agg h1 h2=>rw [ha] at h2; cases h2
theorem SnVL.inv_cons {ts:List TypeId} {ps:List PV} (h:SnVL P N (t::ts) ps):∃ a b,ps=a::b∧SnV P N t a∧SnVL P N ts b:=by
 cases h with
 | cons h1 h2=>exact ⟨_,_,rfl,h1,h2⟩
theorem SnVL.inv_nil {ps:List PV} (h:SnVL P N [] ps):ps=[]:=by cases h; rfl
end
end Go.Pv
namespace Go.Pv
open Go
section
variable {P:Program} {T:Tab} {S:Sig} {M:EncM} {α β σ ρ:Type} {r:ρ}
theorem d_x {I F:σ→Env} {k:σ→Option ρ} {s:σ} {E:Env} (hk:∀ s,I s=F s) (hf:k s=some r) (e:E=F s:=by (conv=>lhs; cbv) <;> (try simp only [q]) <;> (try rfl) <;> (try simp only [eL,q]) <;> (try rfl) <;> (try (subst hM; rfl))):∃ s,k s=some r∧E=I s:=⟨s,hf,e.trans (hk s).symm⟩
theorem d_l {u v:PV} (e:u=v:=by simp only [q]; try first | rfl | simp [stdCmp,eI,eB,eL,eS,q]):LeP u v:=lp_eq e
theorem d_e {α:Sort _} {u v:α} (e:u=v:=by simp only [q]; try first | rfl | simp [stdCmp,eI,eB,eL,eS,q]):u=v:=e
theorem d_lp (hS:S=Sig.std P T) (hT:TabOK P T) (hW:PWf P) {b:Code} {Q:Post} {E:Env} {step:σ→(σ→Option ρ)→Option ρ} {s0:σ} (cvs:List Cv) (keep:List Nat) (F:σ→Env) (hf:loopF step s0=some r)
  (h:∀ (I:σ→Env) (k:σ→Option ρ) (s:σ),(∀ s,I s=F s)→step s k=some r→∀ e,e=F s→pwp T S b (seqQ (fun E'=>∃ s',k s'=some r∧canE T.pas keep (wkE (cvE S cvs E'))=I s') Q) e) (he:canE T.pas keep (wkE (cvE S cvs E))=F s0:=by (conv=>lhs; cbv) <;> (try simp only [q]) <;> (try rfl)):S.loop b Q E:=d_loop hS hT hW cvs keep F hf he h
theorem d_p (hS:S=Sig.std P T) {k:Nat} {args as bs:List PV} {cargs:List PV} {E:Env} {K:PV→Env→Prop} {g:Option α} {v:α→PV} {kk:α→Option ρ} (hf:bnd g kk=some r) (hF:∀ y,g=some y→Fn P T.gl k cargs (fun u=>u=v y)) (h:∀ y,kk y=some r→K (v y) E) (ha:as=cargs:=by rfl):S.callp k args as bs E K:=d_callp hS hf hF (le_eq ha) h
theorem d_c (hS:S=Sig.std P T) {k:Nat} {args:List PV} {cargs:List PV} {K:PV→Prop} {g:Option α} {v:α→PV} {kk:α→Option ρ} (hf:bnd g kk=some r) (hF:∀ y,g=some y→Fn P T.gl k cargs (fun u=>u=v y)) (h:∀ y,kk y=some r→K (v y)) (ha:args=cargs:=by rfl):S.callq k args K:=d_call hS hf hF (le_eq ha) h
theorem d_o (hS:S=Sig.std P T) {l:Array Oper} {p:Prop} (h:p) (hd:drawOK T l=true:=by kernel_rfl):S.order l p:=l_order hS hd h
end
end Go.Pv
namespace Go.Pv
open Go
theorem d_R {p:Prop} (h:p:=by intro hf; cbv; cases hf; first | exact hR _ (lp_eq rfl) | exact hR _ d_l):p:=h
theorem d_Ry {p:Prop} (h:p:=by intro _ hf; cbv; cases hf; first | exact hR _ (lp_eq rfl) | exact hR _ d_l):p:=h
theorem d_Rz {p:Prop} (h:p:=by cases hf; first | exact hR _ (lp_eq rfl) | exact hR _ d_l):p:=h
theorem d_X {p:Prop} (h:p:=by intro hf; cbv; exact d_x (by assumption) hf):p:=h
theorem d_Xy {p:Prop} (h:p:=by intro _ hf; cbv; exact d_x (by assumption) hf):p:=h
theorem d_Xz {p:Prop} (h:p:=by exact d_x (by assumption) hf):p:=h
abbrev sI (x:Int):PV:=.si .i64 x
abbrev vR (l:List PV):Option Blk:=some (.var false l)
abbrev aR (n:Nat) (l:List (List PV)):Option Blk:=some (.arr false n l)
abbrev mI (M:EncM) (l:List Int):List (List PV):=M.m Int (eI .i64) l
def stL:Nat→List (Option Blk)→St
 | _,[]=>[]
 | i,b::l=>(i,b)::stL (i+1) l
def lenB:List (Option Blk)→Nat
 | []=>0
 | _::l=>lenB l+1
def f3 (n:Nat) (ts:List (Nat × PV)) (bs:List (Option Blk)):Env:=⟨tpsL 0 n ts,stL 0 bs,lenB bs⟩
section
variable {P:Program} {T:Tab} {S:Sig} {M:EncM} {α β σ ρ:Type} {r:ρ}
theorem d_B {c c' : Bool} {fa fb:Option ρ} {A B:Unit→Prop} (ha:fa=some r→A ()) (hb:fb=some r→B ()) (hS:S=Sig.std P T:=by assumption) (hf:br c' fa fb=some r:=by exact hf) (e:c=c':=by simp only [q]; try first | rfl | simp [stdCmp,eI,eB,eL,eS,q]):S.br c A B:=d_br hS hf e ha hb
theorem d_I {es:List (List PV)} {l:List α} {e:α→List PV} {i i' : Int} {k:α→Option ρ} {K:List PV→Prop} (h:∀ x,k x=some r→K (e x)) (hS:S=Sig.std P T:=by assumption) (hM:M=mapE:=by assumption) (hf:bnd (ixL l i') k=some r:=by exact hf) (he:es=M.m α e l:=by rfl) (hi:i=i':=by rfl):S.idx es i K:=d_idx hS hM hf he hi h
end
theorem fn_D {P:Program} {T:Tab} (hT:TabOK P T) {k:Nat} {fn:Func} {c:Code} (hf:P.funcs[k]?=some fn)
  (hcall:∀ args w,(callFunc k args).run P w=.ok (.enter k args) w) {args:List PV} {v:PV} {m:Nat}
  (h:∀ S R,S=Sig.std P T→(∀ u,LeP u v→R u)→pwp T S c (retQ T S fn.results.toList R) ⟨appL args (undefs m),[],0⟩) (hp:T.pas=0:=by rfl) (hW:PWf P:=by exact wf) (hb:fn.body=some c:=by rfl) (hm:fn.ntmps - args.length=m:=by rfl):Fn P T.gl k args (fun u=>u=v):=fn_dec hT hp hW hf hb hcall hm h
end Go.Pv
