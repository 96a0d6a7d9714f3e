import Derived.Laws.StructEq
import Derived.ChangeKeysEq
import Derived.Test.YthfepelpmalckaaGreatDoorD01
set_option linter.all false
namespace Go.Pv
open Go
theorem os_rows {w:World} {Y:Nat→Prop} {σ:Sg} {b r n:Nat} {ro:Bool} {sz:Nat} {rows:List (List PV)} {v:Value} (hv:Rep w Y σ (.os b r n) v)
  (hst:(∃ l,σ b=some l∧BlkRep w Y σ l (.arr ro sz rows))∨(σ b=none∧∃ ro' sz',Blk.arr ro sz rows=.arr ro' sz' [])) :
  ∃ a cap,v=.slice a n cap∧n≤cap∧n=((rows.drop r).take n).length∧((rows.drop r).take n=[]∨∃ b' o,a=some ⟨b',o,none⟩∧b'<w.heap.size∧(∃ l,σ b=some l∧b'=l.cb)∧RepR w Y noSg b' sz ((rows.drop r).take n) o):=by
 unfold Rep at hv
 rcases hv with ⟨l,cap,hs,rfl,hn,ht,hr⟩ | ⟨rfl,a,rfl⟩
 ·rcases hst with ⟨l',hs',hB⟩ | ⟨hs',_⟩
  ·rw [hs] at hs'; cases hs'
   have hlt:=hB.lt
   unfold BlkRep at hB
   refine ⟨_,cap,rfl,hn,?_,.inr ⟨l.cb,_,rfl,hlt,⟨l,hs,rfl⟩,?_⟩⟩
   ·rw [List.length_take,List.length_drop]; have:=hB.2.2.2.1.2; omega
   ·rw [hB.2.1]; exact (hB.2.2.2.2.1.drop r _ _).take n _ _
  ·rw [hs] at hs'; cases hs'
 ·exact ⟨a,0,rfl,Nat.le_refl _,by simp,.inl (by simp)⟩
def Lk (lk:Nat→Option Blk) (st:St):Prop:=∀ b ro sz rows,lk b=some (.arr ro sz rows)→∃ ro',lkS st b=some (.arr ro' sz rows)
theorem lkS_applyD {b:Nat}:∀ (δ:Dl) (st:St),memD b δ=false→lkS (applyD δ st) b=lkS st b
 | [],st,_=>rfl
 | (c,x)::δ,st,h=>by
  simp only [memD,Bool.or_eq_false_iff] at h
  rw [applyD,lkS_applyD δ _ h.2,lkS_inS,if_neg]
  intro e; subst e; simp at h
theorem pur_sound {P:Program} {T:Tab} {C:Ctx T} {w:World} {σ:Sg} {qs:List PV} {us:List Value} {n:Nat} {lk:Nat→Option Blk} :
  ∀ (ps ps' : List PV) (δ:Dl),pur (Sig.std P T) lk ps=some (ps',δ)→∀ (Y:Nat→Prop) (st:St),SW C w Y σ qs us st n→Lk lk st→∀ vs,RepL w Y σ ps vs →
   ∃ Y',SW C w Y' σ qs us (applyD δ st) n∧RepL w Y' noSg ps' vs∧(∀ k,Y' k→Y k)
 | [],ps',δ,h,Y,st,H,_,vs,hv=>by
  simp [pur] at h; obtain ⟨rfl,rfl⟩:=h
  unfold RepL at hv; subst hv
  exact ⟨Y,H,by simp [RepL],fun _ h=>h⟩
 | p::ps,ps',δ,h,Y,st,H,hlk,vs,hv=>by
  unfold RepL at hv; obtain ⟨v,vs',rfl,h1,h2⟩:=hv
  unfold pur at h
  cases hp:pur (Sig.std P T) lk ps with
  | none=>rw [hp] at h; cases h
  | some r =>
   obtain ⟨qs',δ'⟩:=r
   rw [hp] at h
   simp only at h
   have plain:∀ (q:PV),Rep w Y noSg q v→(some (q::qs',δ')=some (ps',δ))→∃ Y',SW C w Y' σ qs us (applyD δ st) n∧RepL w Y' noSg ps' (v::vs')∧(∀ k,Y' k→Y k):=by
    intro q hq e
    cases e
    obtain ⟨Y',H',hr,hy⟩:=pur_sound ps qs' _ hp Y st H hlk vs' h2
    refine ⟨Y',H',?_,hy⟩
    unfold RepL
    exact ⟨v,vs',rfl,Rep.keep q ⟨fun _ _ _=>rfl,fun k _=>hy k,Nat.le_refl _,SgLe.refl _⟩ v hq,hr⟩
   cases p
   case os b r m =>
    simp only at h
    split at h
    ·rename_i ro sz rows hb
     cases h
     obtain ⟨ro',hst⟩:=hlk b ro sz rows hb
     obtain ⟨Y1,H1,hn1,hy1⟩:=H.freeze hst (x':=.arr true sz rows) (.inr ⟨ro',sz,rows,rfl,rfl⟩)
     have hlk1:Lk lk (inS st b (some (.arr true sz rows))):=by
      intro c ro2 sz2 rows2 hc
      rw [lkS_inS]
      by_cases e:b=c
      ·subst e; rw [hb] at hc; cases hc; exact ⟨true,by simp⟩
      ·rw [if_neg e]; exact hlk c _ _ _ hc
     have K1:Keep w w Y Y1 σ σ:=⟨fun _ _ _=>rfl,fun k _=>hy1 k,Nat.le_refl _,SgLe.refl _⟩
     obtain ⟨Y2,H2,hr2,hy2⟩:=pur_sound ps qs' δ' hp Y1 _ H1 hlk1 vs' (RepL.keep ps K1 vs' h2)
     refine ⟨Y2,H2,?_,fun k hk=>hy1 k (hy2 k hk)⟩
     unfold RepL
     refine ⟨v,vs',rfl,?_,hr2⟩
     have hB:=H1.store.blk b (.arr true sz rows) (by rw [lkS_inS,if_pos rfl])
     obtain ⟨a,cap,e1,e2,e3,e4⟩:=os_rows (Rep.keep _ K1 v h1) (hB.imp id fun ⟨x,y⟩=>⟨x,y⟩)
     have:Rep w Y1 noSg (.sl sz ((Sig.std P T).sub rows r m) false) v:=by
      unfold Rep
      refine ⟨a,m,cap,e1,e3,e2,(fun h=>by cases h),?_⟩
      rcases e4 with e4 | ⟨b',o,ea,eb,⟨l,el,el'⟩,er⟩
      ·exact .inl e4
      ·exact .inr ⟨b',o,ea,⟨eb,by rw [el']; exact hn1 l el⟩,er⟩
     exact Rep.keep _ ⟨fun _ _ _=>rfl,fun k _=>hy2 k,Nat.le_refl _,SgLe.refl _⟩ v this
    ·cases h
   case fn f cs =>
    cases cs with
    | nil=>exact plain _ (by unfold Rep at h1 ⊢; obtain ⟨ws,e,hr⟩:=h1; exact ⟨ws,e,by unfold RepL at hr ⊢; exact hr⟩) h
    | cons _ _=>cases h
   case bool=>exact plain _ (by unfold Rep at h1 ⊢; exact h1) h
   case sb=>exact plain _ (by unfold Rep at h1 ⊢; exact h1) h
   case int=>exact plain _ (by unfold Rep at h1 ⊢; exact h1) h
   case si=>exact plain _ (by unfold Rep at h1 ⊢; exact h1) h
   case str=>exact plain _ (by unfold Rep at h1 ⊢; exact h1) h
   case sl=>exact plain _ (by unfold Rep at h1 ⊢; exact h1) h
   case pp=>exact plain _ (by unfold Rep at h1 ⊢; exact h1) h
   case nilp=>exact plain _ (by unfold Rep at h1 ⊢; exact h1) h
   case nilf=>exact plain _ (by unfold Rep at h1 ⊢; exact h1) h
   all_goals cases h
theorem allCell_iff:∀ l,allCell l=true ↔ ∀ p∈l,isCell p=true
 | []=>by simp [allCell]
 | p::l=>by simp [allCell,allCell_iff l]
theorem allCell_write:∀ (vs l:List PV) (c:Nat),allCell l=true→allCell vs=true→allCell (writeL l c vs)=true
 | [],l,c,h,_=>by cases l <;> simpa [writeL] using h
 | v::vs,[],c,h,hv=>by
  simp only [allCell,Bool.and_eq_true] at hv
  simpa [writeL,setL] using allCell_write vs [] (c+1) h hv.2
 | v::vs,x::l,c,h,hv=>by
  simp only [allCell,Bool.and_eq_true] at hv
  rw [writeL]
  refine allCell_write vs _ (c+1) ?_ hv.2
  rw [setL_eq,allCell_iff]
  rw [allCell_iff] at h
  intro p hp
  rcases List.mem_or_eq_of_mem_set hp with h1 | h1
  ·exact h p h1
  ·rw [h1]; exact hv.1
theorem RepR.iff {w:World} {Y:Nat→Prop} {σ:Sg} {b sz:Nat}:∀ (rs:List (List PV)) (o:Nat),RepR w Y σ b sz rs o ↔ ∀ i r,rs[i]?=some r→(r.length=sz∧allCell r=true)∧RepC w Y σ b r (o+i * sz)
 | [],o=>by simp [RepR]
 | q::rs,o=>by
  unfold RepR
  rw [RepR.iff rs (o+sz)]
  constructor
  ·rintro ⟨h0,h1,h2⟩ i r hi
   cases i with
   | zero=>simp at hi; subst hi; exact ⟨h0,by simpa using h1⟩
   | succ i=>rw [show o+(i+1) * sz=o+sz+i * sz by rw [Nat.add_mul]; omega]; exact h2 i r (by simpa using hi)
  ·intro h
   refine ⟨(h 0 q rfl).1,by simpa using (h 0 q rfl).2,fun i r hi=>?_⟩
   rw [show o+sz+i * sz=o+(i+1) * sz by rw [Nat.add_mul]; omega]; exact h (i+1) r (by simpa using hi)
section
variable {P:Program} {T:Tab} (hT:TabOK P T) {C:Ctx T} {o:Oper} {a:Act} {w:World} {Y:Nat→Prop} {σ:Sg} {ps:List PV} {st:St} {n id:Nat} {K:PV→Dl→Prop} {lk:Nat→Option Blk}
 (H:SW C w Y σ ps a.tmps.toList st n) (hlk:∀ b x,lk b=some x→lkS st b=some x) (hid:σ id=none∧T.pas≤id)
theorem storeVar_arr {vs:List Value} (H:SW C w Y σ ps vs st n) {t:TypeId} {b r c size sz:Nat} {l:Loc} {rows:List (List PV)} {row cs:List PV} {v:Value} {K:List PV→Prop}
  (hinfo:P.info? t ≠ none) (hsize:size=P.cellsOf t) (hst:lkS st b=some (.arr false sz rows)) (hl:σ b=some l) (hrow:rows[r]?=some row)
  {us:List Value} (hcs:v.cells=us.toArray) (hv:RepL w Y noSg cs us) (h:storeRow size row c (.agg cs) K) :
  ∃ row' w',K row'∧(storeVar t ⟨l.cb,l.co+r * l.sz+c,none⟩ v).run P w=.ok () w'∧SW C w' Y σ ps vs (inS st b (some (.arr false sz (rows.set r row')))) n:=by
 unfold storeRow at h
 simp only [cellsV] at h
 cases hb:(allCell cs && Nat.beq (lenL cs) size && Nat.ble (c+lenL cs) (lenL row)) with
 | false=>rw [hb] at h; exact h.elim
 | true =>
  rw [hb] at h
  simp only [Bool.and_eq_true,lenL_eq] at hb
  obtain ⟨⟨h1,h2⟩,h3⟩:=hb
  have h2:=Nat.eq_of_beq_eq_true h2
  have h3:=Nat.le_of_ble_eq_true h3
  have hone:=allCell_one _ _ h1 hv
  have hlen:=hv.length
  have hB:BlkRep w Y σ l (.arr false sz rows):=by
   rcases H.store.blk b _ hst with ⟨l',hl',hB⟩ | ⟨hn,_⟩
   ·rw [hl] at hl'; cases hl'; exact hB
   ·rw [hl] at hn; cases hn
  unfold BlkRep at hB
  obtain ⟨⟨arr,ty,ha,has⟩,hsz,hpos,⟨hle,hnr⟩,hrows,hm,hr0⟩:=hB
  have hr:=RepR.row _ _ _ _ hrows hrow
  have hrlt:r<rows.length:=by
   by_cases hh:r<rows.length
   ·exact hh
   ·simp [List.getElem?_eq_none (Nat.le_of_not_lt hh)] at hrow
  have hbound:r * sz+sz≤rows.length * sz:=by
   have:=Nat.mul_le_mul_right sz (show r+1≤rows.length by omega)
   rw [Nat.add_mul] at this; omega
  rw [hsz]
  obtain ⟨w',hrun,W⟩:=storeVar_run (P:=P) (o:=l.co+r * sz+c) hinfo hsize hcs (by omega) ha (by omega) hone
  refine ⟨_,w',h,hrun,SW.update H hst hl (hm rfl) W.os W.tape W.output W.size W.other (fun _ _ e=>by cases e) fun _=>?_⟩
  have K0:Keep w w' Y Y noSg noSg:=⟨fun k _ hk=>W.other k (fun e=>hk (e ▸ hm rfl)),fun _ _ h=>h,Nat.le_of_eq W.size.symm,SgLe.refl _⟩
  obtain ⟨arr',h4,h5,h6⟩:=W.blk
  unfold BlkRep
  refine ⟨⟨arr',ty,h4,by omega⟩,hsz,hpos,⟨by simpa using hle,by simpa using hnr⟩,?_,hm,hr0⟩
  rw [RepR.iff] at hrows ⊢
  intro i q hi
  rw [List.getElem?_set] at hi
  by_cases hri:r=i
  ·subst hri
   rw [if_pos rfl,if_pos hrlt] at hi
   cases hi
   refine ⟨⟨by rw [writeL_len]; exact hr.1.1,allCell_write _ _ _ hr.1.2 h1⟩,?_⟩
   exact W.rep ha hr.2 hv (by omega) (fun p v hp=>Rep.keep p K0 v hp)
  ·rw [if_neg hri] at hi
   obtain ⟨h7,h8⟩:=hrows i q hi
   refine ⟨h7,?_⟩
   rw [RepC.iff] at h8 ⊢
   intro j p hj
   obtain ⟨u,hu,hp⟩:=h8 j p hj
   have hjlt:j<q.length:=by
    by_cases hh:j<q.length
    ·exact hh
    ·simp [List.getElem?_eq_none (Nat.le_of_not_lt hh)] at hj
   refine ⟨u,?_,Rep.keep p K0 u hp⟩
   rw [cell_of_block ha] at hu
   rw [cell_of_block h4,h6,if_neg,hu]
   rintro ⟨h9,h10⟩
   rcases Nat.lt_or_gt_of_ne hri with h11 | h11
   ·have:=Nat.mul_le_mul_right sz (show r+1≤i by omega)
    rw [Nat.add_mul] at this; omega
   ·have:=Nat.mul_le_mul_right sz (show i+1≤r by omega)
    rw [Nat.add_mul] at this; omega
theorem rowsWrite {cb co tot sz r c size:Nat} {arr:Array Value} {ty:TypeId} {rows:List (List PV)} {row cs:List PV} {v:Value} {t:TypeId} {K:List PV→Prop}
  (hinfo:P.info? t ≠ none) (hsize:size=P.cellsOf t) (ha:w.heap[cb]?=some (.cells arr ty (0,0))) (has:arr.size=tot) (hle:co+rows.length * sz≤tot) (hrows:RepR w Y noSg cb sz rows co) (hm:Y cb) (hrow:rows[r]?=some row)
  {us:List Value} (hcs:v.cells=us.toArray) (hv:RepL w Y noSg cs us) (h:storeRow size row c (.agg cs) K) :
  ∃ w',K (writeL row c cs)∧allCell cs=true∧c+cs.length≤row.length∧(storeVar t ⟨cb,co+r * sz+c,none⟩ v).run P w=.ok () w'∧(w'.os=w.os∧w'.tape=w.tape∧w'.output=w.output∧w'.heap.size=w.heap.size∧∀ k,k ≠ cb→w'.heap[k]?=w.heap[k]?) ∧
   (∃ arr',w'.heap[cb]?=some (.cells arr' ty (0,0))∧arr'.size=tot)∧RepR w' Y noSg cb sz (rows.set r (writeL row c cs)) co:=by
 unfold storeRow at h
 simp only [cellsV] at h
 cases hb:(allCell cs && Nat.beq (lenL cs) size && Nat.ble (c+lenL cs) (lenL row)) with
 | false=>rw [hb] at h; exact h.elim
 | true =>
  rw [hb] at h
  simp only [Bool.and_eq_true,lenL_eq] at hb
  obtain ⟨⟨h1,h2⟩,h3⟩:=hb
  have h2:=Nat.eq_of_beq_eq_true h2
  have h3:=Nat.le_of_ble_eq_true h3
  have hone:=allCell_one _ _ h1 hv
  have hlen:=hv.length
  have hr:=RepR.row _ _ _ _ hrows hrow
  have hrlt:r<rows.length:=by
   by_cases hh:r<rows.length
   ·exact hh
   ·simp [List.getElem?_eq_none (Nat.le_of_not_lt hh)] at hrow
  have hbound:r * sz+sz≤rows.length * sz:=by
   have:=Nat.mul_le_mul_right sz (show r+1≤rows.length by omega)
   rw [Nat.add_mul] at this; omega
  obtain ⟨w',hrun,W⟩:=storeVar_run (P:=P) (o:=co+r * sz+c) hinfo hsize hcs (by omega) ha (by omega) hone
  obtain ⟨arr',h4,h5,h6⟩:=W.blk
  have K0:Keep w w' Y Y noSg noSg:=⟨fun k _ hk=>W.other k (fun e=>hk (e ▸ hm)),fun _ _ h=>h,Nat.le_of_eq W.size.symm,SgLe.refl _⟩
  refine ⟨w',h,h1,h3,hrun,⟨W.os,W.tape,W.output,W.size,W.other⟩,⟨arr',h4,by omega⟩,?_⟩
  rw [RepR.iff] at hrows ⊢
  intro i q hi
  rw [List.getElem?_set] at hi
  by_cases hri:r=i
  ·subst hri
   rw [if_pos rfl,if_pos hrlt] at hi
   cases hi
   refine ⟨⟨by rw [writeL_len]; exact hr.1.1,allCell_write _ _ _ hr.1.2 h1⟩,?_⟩
   exact W.rep ha hr.2 hv (by omega) (fun p v hp=>Rep.keep p K0 v hp)
  ·rw [if_neg hri] at hi
   obtain ⟨h7,h8⟩:=hrows i q hi
   refine ⟨h7,?_⟩
   rw [RepC.iff] at h8 ⊢
   intro j p hj
   obtain ⟨u,hu,hp⟩:=h8 j p hj
   have hjlt:j<q.length:=by
    by_cases hh:j<q.length
    ·exact hh
    ·simp [List.getElem?_eq_none (Nat.le_of_not_lt hh)] at hj
   refine ⟨u,?_,Rep.keep p K0 u hp⟩
   rw [cell_of_block ha] at hu
   rw [cell_of_block h4,h6,if_neg,hu]
   rintro ⟨h9,h10⟩
   rcases Nat.lt_or_gt_of_ne hri with h11 | h11
   ·have:=Nat.mul_le_mul_right sz (show r+1≤i by omega)
    rw [Nat.add_mul] at this; omega
   ·have:=Nat.mul_le_mul_right sz (show i+1≤r by omega)
    rw [Nat.add_mul] at this; omega
theorem SW.updateN {vs:List Value} {w' : World} (H:SW C w Y σ ps vs st n) {b:Nat} {x x' : Blk} {l:Loc} {st' : St} (hx:lkS st b=some x) (hl:σ b=some l) {m:Nat} (hm:Y m) (hnb:∀ b' y l',b' ≠ b→lkS st b'=some y→σ b'=some l'→l'.cb ≠ m) (hnm:C.w0.heap.size≤m∨C.L m)
  (hsub:∀ c y,lkS st' c=some y→(c=b∧y=x')∨(c ≠ b∧lkS st c=some y))
  (hos:w'.os=w.os) (htape:w'.tape=w.tape) (hout:w'.output=w.output) (hsize:w'.heap.size=w.heap.size)
  (hother:∀ k,k ≠ m→w'.heap[k]?=w.heap[k]?) (hnew:(∀ p v,Rep w Y noSg p v→Rep w' Y noSg p v)→BlkRep w' Y σ l x') (hnest:(∀ p v,Rep w Y noSg p v→Rep w' Y noSg p v)→Nest C.w0 C.L w' Y σ st'):SW C w' Y σ ps vs st' n:=by
 have K:Keep w w' Y Y σ σ:=⟨fun k _ hk=>hother k (fun e=>hk (e ▸ hm)),fun _ _ h=>h,Nat.le_of_eq hsize.symm,SgLe.refl _⟩
 have old:∀ c y,lkS st' c=some y→∃ z,lkS st c=some z:=by
  intro c y h
  rcases hsub c y h with ⟨rfl,_⟩ | ⟨_,h⟩
  ·exact ⟨x,hx⟩
  ·exact ⟨y,h⟩
 refine ⟨RepL.keep _ K _ H.vals,⟨?_,?_⟩,H.next,fun k hk=>by rw [hsize]; exact H.yold k hk,H.y0,H.c0,H.yshr,?_,?_,H.glob.keep K.none,H.fix,hnest fun p v hp=>Rep.keep p K.none v hp⟩
 ·intro c y h
  rcases hsub c y h with ⟨rfl,rfl⟩ | ⟨hc,h⟩
  ·exact .inl ⟨l,hl,hnew fun p v hp=>Rep.keep p K.none v hp⟩
  ·rcases H.store.blk c y h with ⟨l',hl',hb⟩ | hn
   ·exact .inl ⟨l',hl',BlkRep.keep K (hother _ (hnb c y l' hc h hl')) Iff.rfl hb⟩
   ·exact .inr hn
 ·intro c c' y y' l1 l2 h h' h1 h2 e
  obtain ⟨z,hz⟩:=old _ _ h
  obtain ⟨z',hz'⟩:=old _ _ h'
  exact H.store.inj c c' z z' l1 l2 hz hz' h1 h2 e
 ·refine ⟨by rw [hos]; exact H.chg.os,by rw [htape]; exact H.chg.tape,by rw [hout]; exact H.chg.output,by rw [hsize]; exact H.chg.size,fun k hk hM=>?_⟩
  have hne:k ≠ m:=fun e=>by
   subst e
   rcases H.yshr _ hm hk with h2 | h2
   ·have:=H.c0 _ h2
    rcases hnm with h3 | h3
    ·omega
    ·exact this.2 h3
   ·exact hM h2
  rw [hother k hne]; exact H.chg.block k hk hM
 ·intro c y l' h h1
  obtain ⟨z,hz⟩:=old _ _ h
  exact H.own c z l' hz h1
theorem writeL_ow {row cs:List PV} {c i:Nat} {h:Hdr} {sz:Nat} {es:List (List PV)} (hle:c+cs.length≤row.length) (hi:(writeL row c cs)[i]?=some (.ow h sz es)):(c≤i∧i<c+cs.length∧PV.ow h sz es∈cs)∨((i<c∨c+cs.length≤i)∧row[i]?=some (.ow h sz es)):=by
 rw [writeL_get _ _ _ _ hle] at hi
 split at hi
 ·rename_i hh; exact .inl ⟨hh.1,hh.2,List.mem_of_getElem? hi⟩
 ·rename_i hh; exact .inr ⟨by omega,hi⟩
theorem narWrite {vs:List Value} {w' : World} (H:SW C w Y σ ps vs st n) {b r c sz:Nat} {rows:List (List PV)} {row cs:List PV} {l:Loc} (hst:lkS st b=some (.nar sz rows)) (hs:σ b=some l) (hm:Y l.cb)
  (others:∀ b' y l',b' ≠ b→lkS st b'=some y→σ b'=some l'→l'.cb ≠ l.cb) (hrow:rows[r]?=some row) (h2:c+cs.length≤row.length) (hno:∀ h sz es,PV.ow h sz es∈cs→es ≠ []→False)
  (w1:w'.os=w.os) (w2:w'.tape=w.tape) (w3:w'.output=w.output) (w4:w'.heap.size=w.heap.size) (w5:∀ k,k ≠ l.cb→w'.heap[k]?=w.heap[k]?)
  (hB:(∀ p v,Rep w Y noSg p v→Rep w' Y noSg p v)→BlkRep w' Y σ l (.nar sz (rows.set r (writeL row c cs)))):SW C w' Y σ ps vs (inS st b (some (.nar sz (rows.set r (writeL row c cs))))) n:=by
 refine SW.updateN H hst hs hm others (H.own b _ l hst hs) (fun c' y' hh=>?_) w1 w2 w3 w4 w5 hB fun hk=>?_
 ·rw [lkS_inS] at hh
  by_cases e1:b=c'
  ·rw [if_pos e1] at hh; cases hh; exact .inl ⟨e1.symm,rfl⟩
  ·rw [if_neg e1] at hh; exact .inr ⟨fun e=>e1 e.symm,hh⟩
 ·have K0:Keep w w' Y Y noSg noSg:=⟨fun k _ hy=>w5 k (fun e=>hy (e ▸ hm)),fun _ _ h=>h,Nat.le_of_eq w4.symm,SgLe.refl _⟩
  have back:∀ {b' r' c' h' sz2 es'},OwAt (inS st b (some (.nar sz (rows.set r (writeL row c cs))))) b' r' c' h' sz2 es'→OwAt st b' r' c' h' sz2 es':=by
   rintro b' r' c' h' sz2 es' ⟨sz0,rs,rw0,g1,g2,g3,g4⟩
   rw [lkS_inS] at g1
   by_cases e1:b=b'
   ·subst e1
    rw [if_pos rfl] at g1
    cases g1
    rw [List.getElem?_set] at g2
    by_cases hr:r=r'
    ·subst hr
     have hrlt:r<rows.length:=by
      by_cases hh:r<rows.length
      ·exact hh
      ·simp [List.getElem?_eq_none (Nat.le_of_not_lt hh)] at hrow
     rw [if_pos rfl,if_pos hrlt] at g2
     cases g2
     rcases writeL_ow h2 g3 with ⟨k1,k2,k3⟩ | ⟨k1,k2⟩
     ·exact (hno _ _ _ k3 g4).elim
     ·exact ⟨sz,rows,row,hst,hrow,k2,g4⟩
    ·rw [if_neg hr] at g2
     exact ⟨sz,rows,rw0,hst,g2,g3,g4⟩
   ·rw [if_neg e1] at g1
    exact ⟨sz0,rs,rw0,g1,g2,g3,g4⟩
  refine H.nest.keep K0 (fun _ _ _ _ _ _ hh=>back hh) (fun b' r' c' h' sz2 es' hh=>w5 _ (H.nest.sep _ _ _ _ _ _ _ _ _ (back hh) hst hs).symm) (fun b' r' c' h' sz2 es' hh=>(H.nest.rep _ _ _ _ _ _ (back hh)).own) fun b' r' c' h' sz2 es' b'' x l' hh hx hl'=>?_
  rw [lkS_inS] at hx
  by_cases e1:b=b''
  ·subst e1; exact H.nest.sep _ _ _ _ _ _ _ _ _ (back hh) hst hl'
  ·rw [if_neg e1] at hx; exact H.nest.sep _ _ _ _ _ _ _ _ _ (back hh) hx hl'
theorem pur_cell0 {S:Sig} {lk:Nat→Option Blk}:∀ (ps ps' : List PV) (δ:Dl),pur S lk ps=some (ps',δ)→allCell ps'=true∧allCell ps=true
 | [],ps',δ,h=>by simp [pur] at h; obtain ⟨rfl,_⟩:=h; simp [allCell]
 | p::ps,ps',δ,h=>by
  unfold pur at h
  cases hp:pur S lk ps with
  | none=>rw [hp] at h; cases h
  | some r =>
   obtain ⟨q,δ1⟩:=r
   rw [hp] at h
   obtain ⟨i1,i2⟩:=pur_cell0 ps q δ1 hp
   simp only at h
   cases p
   case os b r n =>
    simp only at h
    split at h
    ·cases h; exact ⟨by simp [allCell,isCell,i1],by simp [allCell,isCell,i2]⟩
    ·cases h
   case fn f cs=>cases cs <;> simp only at h <;> first | contradiction | (cases h; exact ⟨by simp [allCell,isCell,i1],by simp [allCell,isCell,i2]⟩)
   all_goals (simp only at h; first | contradiction | (cases h; exact ⟨by simp [allCell,isCell,i1],by simp [allCell,isCell,i2]⟩))
theorem pur_nil {S:Sig} {lk:Nat→Option Blk}:∀ {ps ps' : List PV} {us:List Value},pur S lk ps=some (ps',[])→RepL w Y σ ps us→RepL w Y noSg ps' us
 | [],ps',us,h,hr=>by simp [pur] at h; subst h; unfold RepL at hr ⊢; exact hr
 | p::ps,ps',us,h,hr=>by
  unfold pur at h
  cases hp:pur S lk ps with
  | none=>rw [hp] at h; cases h
  | some r =>
   obtain ⟨q,δ1⟩:=r
   rw [hp] at h
   simp only at h
   unfold RepL at hr
   obtain ⟨v,vs',rfl,h1,h2⟩:=hr
   cases p
   case os b r n =>
    simp only at h
    split at h
    ·cases h
    ·cases h
   case fn f cs =>
    cases cs <;> simp only at h <;> first | contradiction | skip
    cases h
    unfold RepL
    refine ⟨v,vs',rfl,?_,pur_nil hp h2⟩
    unfold Rep at h1 ⊢
    obtain ⟨zs,e1,e2⟩:=h1
    unfold RepL at e2
    subst e2
    exact ⟨[],e1,by unfold RepL; rfl⟩
   all_goals (simp only at h; first | contradiction | (cases h; unfold RepL; refine ⟨v,vs',rfl,?_,pur_nil hp h2⟩; unfold Rep at h1 ⊢; exact h1))
theorem pur_noOw {P:Program} {T:Tab} {lk:Nat→Option Blk}:∀ (ps ps' : List PV) (δ:Dl),pur (Sig.std P T) lk ps=some (ps',δ)→∀ h sz es,PV.ow h sz es ∉ ps'
 | [],ps',δ,h=>by simp [pur] at h; obtain ⟨rfl,_⟩:=h; simp
 | p::ps,ps',δ,h=>by
  unfold pur at h
  cases hp:pur (Sig.std P T) lk ps with
  | none=>rw [hp] at h; cases h
  | some r =>
   obtain ⟨q,δ1⟩:=r
   rw [hp] at h
   have ih:=pur_noOw ps q δ1 hp
   intro hh sz es hm
   have key:∀ u δ2,some (u::q,δ2)=some (ps',δ)→u ≠ .ow hh sz es→False:=by
    intro u δ2 e hu
    cases e
    rcases List.mem_cons.1 hm with e | e
    ·exact hu e.symm
    ·exact ih _ _ _ e
   simp only at h
   cases p
   case os b r n =>
    simp only at h
    split at h
    ·exact key _ _ h (by simp)
    ·cases h
   case fn f cs=>cases cs <;> simp only at h <;> first | contradiction | exact key _ _ h (by simp)
   all_goals (simp only at h; first | contradiction | exact key _ _ h (by simp))
include hT H hlk hid in
theorem op_store {t:TypeId} {x y:Operand} (ho:o.op=.store t x y) (h:opE T (Sig.std P T) (.store t x y) ps lk id K):Res P C o a w σ ps st n id K:=by
 have hx:=ev_rep H x
 have hy:=ev_rep H y
 simp only [opE] at h
 split at h
 ·rename_i agg size z plain kind e
  obtain ⟨hinfo,hsize,hagg,hund⟩:=tab_size hT e
  split at h
  ·rename_i b c e; rw [e] at hx
   unfold Rep at hx; obtain ⟨l,hs,e'⟩:=hx
   split at h
   ·rename_i row hb
    obtain ⟨row',w',hK,hrun,H'⟩:=storeVar_var H hinfo hsize (hlk _ _ hb) hs hy h
    refine ⟨_,_,Go.undef,w',Y,σ,hK,.inr ⟨?_,rfl⟩,?_,by simp [Rep],Off.refl _ _⟩
    ·simp [execOp,ho,e',Instr.storeAt,Instr.sureAddr,hrun]
    ·simp only [applyD,nextI]
     exact H'.mono (by omega)
   ·exact h.elim
  ·rename_i b r c e; rw [e] at hx
   unfold Rep at hx; obtain ⟨l,hs,e'⟩:=hx
   split at h
   ·rename_i sz rows hb
    split at h
    ·rename_i cs δ hp
     cases hm:memD b δ with
     | true=>rw [hm] at h; exact h.elim
     | false =>
      rw [hm] at h
      have h9:=wkC_std h
      clear h
      obtain ⟨cs2,hl2,hc2,hw2,⟨row,hrow,h⟩,h8⟩:=h9
      clear hl2 hc2 h8
      have hall:allCell (cellsV (evL T ps y))=true:=by
       clear h hm hs e' hrow hb e hw2
       generalize cellsV (evL T ps y)=l at hp
       induction l generalizing cs δ with
       | nil=>rfl
       | cons p l ih =>
        unfold pur at hp
        cases hp2:pur (Sig.std P T) lk l with
        | none=>rw [hp2] at hp; cases hp
        | some r =>
         rw [hp2] at hp
         simp only [allCell,ih _ _ hp2,Bool.and_true]
         cases p <;> simp [isCell] at hp ⊢
      obtain ⟨us,hcs,hr,hone⟩:=cells_rep hy hall
      have hLk:Lk lk st:=fun b ro sz rows h=>⟨ro,hlk _ _ h⟩
      obtain ⟨Y',H',hr',hyy⟩:=pur_sound _ _ _ hp Y st H hLk us hr
      have hst' : lkS (applyD δ st) b=some (.arr false sz rows):=by rw [lkS_applyD δ st hm]; exact hlk _ _ hb
      obtain ⟨row',w',hK,hrun,H2⟩:=storeVar_arr (P:=P) H' hinfo hsize hst' hs hrow hcs (hw2 _ _ _ _ hr') h
      refine ⟨_,_,Go.undef,w',Y',σ,hK,.inr ⟨?_,rfl⟩,?_,by simp [Rep],Off.refl _ _⟩
      ·simp [execOp,ho,e',Instr.storeAt,Instr.sureAddr,hrun]
      ·have:∀ (δ:Dl) (st:St) (e:Nat × Option Blk),applyD (δ ++ [e]) st=inS (applyD δ st) e.1 e.2:=by
        intro δ; induction δ with
        | nil=>intro st e; rfl
        | cons d δ ih=>intro st e; simp only [List.cons_append,applyD]; exact ih _ _
       rw [this]
       have hn:n≤nextI (δ ++ [(b,some (.arr false sz ((Sig.std P T).rset rows r row')))]) n id:=by
        cases δ <;> simp [nextI] <;> omega
       exact H2.mono hn
    ·exact h.elim
   ·rename_i sz rows hb
    have hst:=hlk _ _ hb
    have hB:BlkRep w Y σ l (.nar sz rows):=BlkRep.of_lk H hlk hb hs
    unfold BlkRep at hB
    obtain ⟨⟨arr,ty,ha,has⟩,hsz,hpos,⟨hle,hnr⟩,hrows,hm⟩:=hB
    have others:∀ b' y l',b' ≠ b→lkS st b'=some y→σ b'=some l'→l'.cb ≠ l.cb:=fun b' y l' hne h1 h2 e=>hne (H.store.inj b' b y _ l' l h1 hst h2 hs e)
    have blk:∀ {w' : World} {rows' : List (List PV)} {arr' : Array Value},rows'.length=rows.length→w'.heap[l.cb]?=some (.cells arr' ty (0,0))→arr'.size=l.tot→RepR w' Y noSg l.cb sz rows' l.co→BlkRep w' Y σ l (.nar sz rows'):=by
     intro w' rows' arr' h1 h2 h3 h4
     unfold BlkRep
     exact ⟨⟨arr',ty,h2,h3⟩,hsz,hpos,⟨by rw [h1]; exact hle,by rw [h1]; exact hnr⟩,h4,hm⟩
    split at h
    ·rename_i id0 r0 m ey
     rw [ey] at hy
     split at h
     ·rename_i sz' rows' hb2
      cases hc:(Nat.beq size 1 && Nat.beq id0 b) with
      | true=>rw [hc] at h; exact h.elim
      | false =>
       rw [hc] at h
       obtain ⟨row,hrow,h⟩:=h
       have hst2:=hlk _ _ hb2
       have hne:id0 ≠ b:=fun e=>by rw [e] at hst2; rw [hst] at hst2; cases hst2
       unfold Rep at hy
       by_cases hm0:m=0
       ·
        subst hm0
        have hsl:∃ a0 cap0,a.eval y=.slice a0 0 cap0:=by
         rcases hy with ⟨l2,cap,_,ey2,_⟩ | ⟨_,a0,ey2⟩
         ·exact ⟨_,cap,ey2⟩
         ·exact ⟨a0,0,ey2⟩
        let hd:Hdr:=⟨0,0,0⟩
        have h:storeRow size row c (.agg [.ow hd sz' []]) (fun row'=>K PV.undef [(id0,none),(b,some (Blk.nar sz ((Sig.std P T).rset rows r row')))]):=h hd
        have hrep:RepL w Y noSg [.ow hd sz' []] [a.eval y]:=by
         unfold RepL
         refine ⟨_,_,rfl,?_,by unfold RepL; rfl⟩
         unfold Rep
         exact .inr ⟨rfl,hsl⟩
        have hcells:(a.eval y).cells=#[a.eval y]:=cells_of_oneCell (by obtain ⟨a0,c0,e⟩:=hsl; rw [e]; rfl)
        obtain ⟨w',hK,h1,h2,hrun,⟨w1,w2,w3,w4,w5⟩,⟨arr',h5,h6⟩,h7⟩:=rowsWrite (P:=P) hinfo hsize ha has hle hrows hm hrow (us:=[a.eval y]) (by rw [hcells]) hrep h
        have H2:=narWrite H hst hs hm others hrow h2 (by intro h' sz2 es' hh hne; simp only [List.mem_singleton,PV.ow.injEq] at hh; exact hne hh.2.2) w1 w2 w3 w4 w5 (fun _=>blk (rows':=rows.set r (writeL row c [.ow hd sz' []])) (by simp) h5 h6 h7)
        refine ⟨_,_,Go.undef,w',Y,σ,hK,.inr ⟨?_,rfl⟩,?_,by simp [Rep],Off.refl _ _⟩
        ·rw [← hsz] at hrun
         simp [execOp,ho,e',Instr.storeAt,Instr.sureAddr,hrun]
        ·simp only [applyD]
         refine SW.mono (n:=n) ?_ (by simp [nextI]; omega)
         refine H2.ext fun c' y' hh=>?_
         simp only [lkS_inS] at hh ⊢
         by_cases e1:b=c'
         ·rw [if_pos e1] at hh ⊢; exact hh
         ·rw [if_neg e1] at hh ⊢
          by_cases e2:id0=c'
          ·rw [if_pos e2] at hh; cases hh
          ·rw [if_neg e2] at hh; exact hh
       rcases hy with ⟨l2,cap,hl2,ey2,hcap,htot,hrm⟩ | ⟨hm1,a0,ey2⟩
       ·have hB2:BlkRep w Y σ l2 (.arr false sz' rows'):=BlkRep.of_lk H hlk hb2 hl2
        unfold BlkRep at hB2
        obtain ⟨⟨arr2,ty2,ha2,has2⟩,hsz2,hpos2,⟨hle2,hnr2⟩,hrows2,hm2,_⟩:=hB2
        have hm2:=hm2 rfl
        let hd:Hdr:=⟨l2.cb,l2.co+r0 * l2.sz,cap⟩
        have hlen:((rows'.drop r0).take m).length=m:=by rw [List.length_take,List.length_drop]; omega
        have h:storeRow size row c (.agg [.ow hd sz' ((rows'.drop r0).take m)]) (fun row'=>K PV.undef [(id0,none),(b,some (Blk.nar sz ((Sig.std P T).rset rows r row')))]):=h hd
        have hrep:RepL w Y noSg [.ow hd sz' ((rows'.drop r0).take m)] [a.eval y]:=by
         unfold RepL
         refine ⟨_,_,rfl,?_,by unfold RepL; rfl⟩
         unfold Rep
         exact .inl ⟨fun e=>by rw [e] at hlen; simp at hlen; exact hm0 hlen.symm,by rw [hlen]; exact ey2,by rw [hlen]; exact hcap⟩
        have hcells:(a.eval y).cells=#[a.eval y]:=cells_of_oneCell (by rw [ey2]; rfl)
        obtain ⟨w',hK,h1,h2,hrun,⟨w1,w2,w3,w4,w5⟩,⟨arr',h5,h6⟩,h7⟩:=rowsWrite (P:=P) hinfo hsize ha has hle hrows hm hrow (us:=[a.eval y]) (by rw [hcells]) hrep h
        have look:∀ c' y',lkS (applyD [(id0,none),(b,some (.nar sz (rows.set r (writeL row c [.ow hd sz' ((rows'.drop r0).take m)]))))] st) c'=some y'→(c'=b∧y'=.nar sz (rows.set r (writeL row c [.ow hd sz' ((rows'.drop r0).take m)])))∨(c' ≠ b∧c' ≠ id0∧lkS st c'=some y'):=by
         intro c' y' hh
         simp only [applyD,lkS_inS] at hh
         by_cases e1:b=c'
         ·rw [if_pos e1] at hh; cases hh; exact .inl ⟨e1.symm,rfl⟩
         ·rw [if_neg e1] at hh
          by_cases e2:id0=c'
          ·rw [if_pos e2] at hh; cases hh
          ·rw [if_neg e2] at hh; exact .inr ⟨fun e=>e1 e.symm,fun e=>e2 e.symm,hh⟩
        have hν:hd.ν=l2.cb:=rfl
        have hl12:l2.cb ≠ l.cb:=others id0 _ l2 hne hst2 hl2
        have ow:∀ {b' r' c' h' sz2 es'},OwAt (applyD [(id0,none),(b,some (.nar sz (rows.set r (writeL row c [.ow hd sz' ((rows'.drop r0).take m)]))))] st) b' r' c' h' sz2 es' →
          (b'=b∧r'=r∧c'=c∧h'=hd∧sz2=sz'∧es'=(rows'.drop r0).take m)∨(OwAt st b' r' c' h' sz2 es'∧¬ (b'=b∧r'=r∧c'=c)):=by
         rintro b' r' c' h' sz2 es' ⟨sz0,rs,rw0,g1,g2,g3,g4⟩
         rcases look _ _ g1 with ⟨e0,g5⟩ | ⟨e1,e2,g1⟩
         ·subst e0
          cases g5
          rw [List.getElem?_set] at g2
          by_cases hr:r=r'
          ·subst hr
           have hrlt:r<rows.length:=by
            by_cases hh:r<rows.length
            ·exact hh
            ·simp [List.getElem?_eq_none (Nat.le_of_not_lt hh)] at hrow
           rw [if_pos rfl,if_pos hrlt] at g2
           cases g2
           rcases writeL_ow h2 g3 with ⟨k1,k2,k3⟩ | ⟨k1,k2⟩
           ·simp only [List.mem_singleton,PV.ow.injEq] at k3
            simp only [List.length_singleton] at k2
            exact .inl ⟨rfl,rfl,by omega,k3.1,k3.2.1,k3.2.2⟩
           ·simp only [List.length_singleton] at k1
            exact .inr ⟨⟨sz,rows,row,hst,hrow,k2,g4⟩,fun hh=>by omega⟩
          ·rw [if_neg hr] at g2
           exact .inr ⟨⟨sz,rows,rw0,hst,g2,g3,g4⟩,fun hh=>hr hh.2.1.symm⟩
         ·exact .inr ⟨⟨sz0,rs,rw0,g1,g2,g3,g4⟩,fun hh=>e1 hh.1⟩
        have H2:SW C w' Y σ ps a.tmps.toList (applyD [(id0,none),(b,some (.nar sz (rows.set r (writeL row c [.ow hd sz' ((rows'.drop r0).take m)]))))] st) n:=by
         refine SW.updateN H hst hs hm others (H.own b _ l hst hs) (fun c' y' hh=>(look c' y' hh).imp _root_.id fun hh=>⟨hh.1,hh.2.2⟩) w1 w2 w3 w4 w5 (fun _=>blk (by simp) h5 h6 h7) fun hk=>?_
         have K0:Keep w w' Y Y noSg noSg:=⟨fun k _ hy=>w5 k (fun e=>hy (e ▸ hm)),fun _ _ h=>h,Nat.le_of_eq w4.symm,SgLe.refl _⟩
         have notl:∀ {b' r' c' h' sz2 es'},OwAt st b' r' c' h' sz2 es'→h'.ν ≠ l.cb∧h'.ν ≠ l2.cb:=fun hh=>⟨(H.nest.sep _ _ _ _ _ _ _ _ _ hh hst hs).symm,(H.nest.sep _ _ _ _ _ _ _ _ _ hh hst2 hl2).symm⟩
         refine ⟨fun b' r' c' h' sz2 es' hh=>?_,fun b' r' c' h' sz2 es' hh=>?_,fun b' r' c' h' sz2 es' b'' r'' c'' h'' sz3 es'' hh hh' e=>?_,fun b' r' c' h' sz2 es' b'' x l' hh hx hl'=>?_⟩
         ·rcases ow hh with ⟨_,_,_,rfl,rfl,rfl⟩ | ⟨hh,_⟩
          ·refine ⟨hm2,hpos2,⟨arr2,ty2,by rw [hν,w5 _ hl12]; exact ha2,by rw [has2]; show l2.tot=l2.co+r0 * l2.sz+cap * sz2; rw [← htot,hsz2]⟩,by rw [hlen]; exact hcap,?_⟩
           show RepR w' Y noSg l2.cb sz2 _ (l2.co+r0 * l2.sz)
           rw [hsz2]
           exact RepR.keep _ K0 (fun _=>w5 _ hl12) _ ((hrows2.drop r0 _ _).take m _ _)
          ·exact (H.nest.rep _ _ _ _ _ _ hh).keep K0 (w5 _ (notl hh).1) (fun h=>h)
         ·rcases ow hh with ⟨_,_,_,rfl,rfl,rfl⟩ | ⟨hh,_⟩
          ·exact H.own id0 _ l2 hst2 hl2
          ·exact H.nest.old _ _ _ _ _ _ hh
         ·rcases ow hh with ⟨e1,e2,e3,e4,_⟩ | ⟨hh1,_⟩ <;> rcases ow hh' with ⟨f1,f2,f3,f4,_⟩ | ⟨hh2,_⟩
          ·exact ⟨by rw [e1,f1],by rw [e2,f2],by rw [e3,f3]⟩
          ·exact absurd (by rw [← e,e4]) (notl hh2).2
          ·exact absurd (by rw [e,f4]) (notl hh1).2
          ·exact H.nest.one _ _ _ _ _ _ _ _ _ _ _ _ hh1 hh2 e
         ·have hx2:(b''=b∨b'' ≠ b)∧b'' ≠ id0∧∃ z,lkS st b''=some z:=by
           rcases look _ _ hx with ⟨rfl,_⟩ | ⟨e1,e2,hx⟩
           ·exact ⟨.inl rfl,fun e=>hne e.symm,_,hst⟩
           ·exact ⟨.inr e1,e2,_,hx⟩
          obtain ⟨_,hxi,z,hz⟩:=hx2
          rcases ow hh with ⟨_,_,_,rfl,_⟩ | ⟨hh,_⟩
          ·exact fun e=>hxi (H.store.inj b'' id0 z _ l' l2 hz hst2 hl' hl2 e)
          ·exact H.nest.sep _ _ _ _ _ _ _ _ _ hh hz hl'
        refine ⟨_,_,Go.undef,w',Y,σ,hK,.inr ⟨?_,rfl⟩,H2.mono (by simp [nextI]; omega),by simp [Rep],Off.refl _ _⟩
        rw [← hsz] at hrun
        simp [execOp,ho,e',Instr.storeAt,Instr.sureAddr,hrun]
       ·exact absurd hm1 hm0
     ·exact h.elim
    ·split at h
     ·rename_i cs hp
      have hall:allCell (cellsV (evL T ps y))=true:=(pur_cell0 _ _ _ hp).2
      obtain ⟨us,hcs,hr,hone⟩:=cells_rep hy hall
      have hLk:Lk lk st:=fun b ro sz rows h=>⟨ro,hlk _ _ h⟩
      obtain ⟨row,hrow,h⟩:=h
      have hr':=pur_nil hp hr
      obtain ⟨w',hK,h1,h2,hrun,⟨w1,w2,w3,w4,w5⟩,⟨arr',h5,h6⟩,h7⟩:=rowsWrite (P:=P) hinfo hsize ha has hle hrows hm hrow hcs hr' h
      have H2:=narWrite H hst hs hm others hrow h2 (by intro h' sz2 es' hh hne; exact absurd hh (pur_noOw _ _ _ hp _ _ _)) w1 w2 w3 w4 w5 (fun _=>blk (rows':=rows.set r (writeL row c cs)) (by simp) h5 h6 h7)
      refine ⟨_,_,Go.undef,w',Y,σ,hK,.inr ⟨?_,rfl⟩,H2.mono (by simp [nextI]; omega),by simp [Rep],Off.refl _ _⟩
      rw [← hsz] at hrun
      simp [execOp,ho,e',Instr.storeAt,Instr.sureAddr,hrun]
     ·exact h.elim
   ·exact h.elim
  ·rename_i b r c hd sz j k e; rw [e] at hx
   unfold Rep at hx
   split at h
   ·rename_i sz0 rows hb
    have hst:=hlk _ _ hb
    split at h
    ·rename_i cs hp
     have hall:allCell (cellsV (evL T ps y))=true:=(pur_cell0 _ _ _ hp).2
     obtain ⟨us,hcs,hr,hone⟩:=cells_rep hy hall
     have h9:=wkC_std h
     clear h
     obtain ⟨cs2,hl2,hc2,hw2,⟨row,hrow,h⟩,h8⟩:=h9
     clear hl2 hc2 h8
     have hr':=hw2 _ _ _ _ (pur_nil hp hr)
     split at h
     ·rename_i h' sz' es ec
      cases hs:Nat.beq sz' sz with
      | false=>rw [hs] at h; exact h.elim
      | true =>
       rw [hs] at h
       simp only [cond_true] at h
       have hs:=Nat.eq_of_beq_eq_true hs
       subst hs
       obtain ⟨he,er,her,h⟩:=h
       subst he
       have hc:row[c]?=some (.ow hd sz' es):=by rw [getL_eq,List.getD_eq_getElem?_getD] at ec; exact getD_some ec
       have hne:es ≠ []:=by rintro rfl; simp at her
       have hO:OwAt st b r c hd sz' es:=⟨sz0,rows,row,hst,hrow,hc,hne⟩
       have hN:=H.nest.rep _ _ _ _ _ _ hO
       obtain ⟨arr,ty,ha,has⟩:=hN.blk
       have hle:hd.o+es.length * sz'≤hd.o+hd.cap * sz':=by have:=Nat.mul_le_mul_right sz' hN.len; omega
       obtain ⟨w',hK,h1,h2,hrun,⟨w1,w2,w3,w4,w5⟩,⟨arr',h5,h6⟩,h7⟩:=rowsWrite (P:=P) hinfo hsize ha has hle hN.rows hN.own her hcs hr' h
       obtain ⟨l,hl,hB⟩:∃ l,σ b=some l∧BlkRep w Y σ l (.nar sz0 rows):=by
        rcases H.store.blk b _ hst with h | ⟨_,_,_,hx⟩
        ·exact h
        ·cases hx
       have hlν:l.cb ≠ hd.ν:=H.nest.sep _ _ _ _ _ _ _ _ _ hO hst hl
       have hclt:c<row.length:=by
        by_cases hh:c<row.length
        ·exact hh
        ·simp [List.getElem?_eq_none (Nat.le_of_not_lt hh)] at hc
       have hrlt:r<rows.length:=by
        by_cases hh:r<rows.length
        ·exact hh
        ·simp [List.getElem?_eq_none (Nat.le_of_not_lt hh)] at hrow
       have hne' : es.set j (writeL er k cs2) ≠ []:=by
        intro h0
        have:=congrArg List.length h0
        simp at this
        exact hne this
       have ow:∀ {b' r' c' h2 sz2 es'},OwAt (inS st b (some (.nar sz0 (rows.set r (setL row c (.ow hd sz' (es.set j (writeL er k cs2)))))))) b' r' c' h2 sz2 es' →
         (b'=b∧r'=r∧c'=c∧h2=hd∧sz2=sz'∧es'=es.set j (writeL er k cs2))∨(OwAt st b' r' c' h2 sz2 es'∧¬ (b'=b∧r'=r∧c'=c)):=by
        rintro b' r' c' h2 sz2 es' ⟨szx,rs,rw0,g1,g2,g3,g4⟩
        rw [lkS_inS] at g1
        by_cases e1:b=b'
        ·subst e1
         rw [if_pos rfl] at g1
         cases g1
         rw [List.getElem?_set] at g2
         by_cases hrr:r=r'
         ·subst hrr
          rw [if_pos rfl,if_pos hrlt] at g2
          cases g2
          rw [setL_eq,List.getElem?_set] at g3
          by_cases hcc:c=c'
          ·subst hcc
           rw [if_pos rfl,if_pos hclt] at g3
           cases g3
           exact .inl ⟨rfl,rfl,rfl,rfl,rfl,rfl⟩
          ·rw [if_neg hcc] at g3
           exact .inr ⟨⟨sz0,rows,row,hst,hrow,g3,g4⟩,fun hh=>hcc hh.2.2.symm⟩
         ·rw [if_neg hrr] at g2
          exact .inr ⟨⟨sz0,rows,rw0,hst,g2,g3,g4⟩,fun hh=>hrr hh.2.1.symm⟩
        ·rw [if_neg e1] at g1
         exact .inr ⟨⟨szx,rs,rw0,g1,g2,g3,g4⟩,fun hh=>e1 hh.1.symm⟩
       have H2:SW C w' Y σ ps a.tmps.toList (inS st b (some (.nar sz0 (rows.set r (setL row c (.ow hd sz' (es.set j (writeL er k cs2)))))))) n:=by
        refine SW.updateN (b:=b) (x':=.nar sz0 (rows.set r (setL row c (.ow hd sz' (es.set j (writeL er k cs2)))))) H hst hl hN.own (fun b' y l' _ h1 h2=>H.nest.sep _ _ _ _ _ _ _ _ _ hO h1 h2) (H.nest.old _ _ _ _ _ _ hO) (fun c' y' hh=>?_) w1 w2 w3 w4 w5 (fun hk=>?_) fun hk=>?_
        ·rw [lkS_inS] at hh
         by_cases e1:b=c'
         ·rw [if_pos e1] at hh; cases hh; exact .inl ⟨e1.symm,rfl⟩
         ·rw [if_neg e1] at hh; exact .inr ⟨fun e=>e1 e.symm,hh⟩
        ·unfold BlkRep at hB ⊢
         obtain ⟨⟨arr0,ty0,b1,b2⟩,b3,b4,⟨b5,b6⟩,b7,b8⟩:=hB
         refine ⟨⟨arr0,ty0,by rw [w5 _ hlν]; exact b1,b2⟩,b3,b4,⟨by simpa using b5,by simpa using b6⟩,?_,b8⟩
         have K0:Keep w w' Y Y noSg noSg:=⟨fun k _ hy=>w5 k (fun e=>hy (e ▸ hN.own)),fun _ _ h=>h,Nat.le_of_eq w4.symm,SgLe.refl _⟩
         have b7:=RepR.keep rows K0 (fun _=>w5 _ hlν) _ b7
         rw [RepR.iff] at b7 ⊢
         intro i q hi
         rw [List.getElem?_set] at hi
         by_cases hri:r=i
         ·subst hri
          rw [if_pos rfl,if_pos hrlt] at hi
          cases hi
          obtain ⟨⟨q1,q2⟩,q3⟩:=b7 r row hrow
          refine ⟨⟨by rw [setL_eq]; simpa using q1,?_⟩,?_⟩
          ·rw [setL_eq,allCell_iff]
           rw [allCell_iff] at q2
           intro p hp
           rcases List.mem_or_eq_of_mem_set hp with hh | hh
           ·exact q2 p hh
           ·rw [hh]; rfl
          ·rw [RepC.iff] at q3 ⊢
           intro i p hi
           rw [setL_eq,List.getElem?_set] at hi
           by_cases hci:c=i
           ·subst hci
            rw [if_pos rfl,if_pos hclt] at hi
            cases hi
            obtain ⟨v,hv,hp⟩:=q3 c _ hc
            refine ⟨v,hv,?_⟩
            unfold Rep at hp ⊢
            rcases hp with ⟨_,p2,p3⟩ | ⟨p1,_⟩
            ·exact .inl ⟨hne',by simpa using p2,by simpa using p3⟩
            ·exact absurd p1 hne
           ·rw [if_neg hci] at hi
            exact q3 i p hi
         ·rw [if_neg hri] at hi
          exact b7 i q hi
        ·have K0:Keep w w' Y Y noSg noSg:=⟨fun k _ hy=>w5 k (fun e=>hy (e ▸ hN.own)),fun _ _ h=>h,Nat.le_of_eq w4.symm,SgLe.refl _⟩
         have other:∀ {b' r' c' h2 sz2 es'},OwAt st b' r' c' h2 sz2 es'→¬ (b'=b∧r'=r∧c'=c)→h2.ν ≠ hd.ν:=fun hh hn e=>hn (H.nest.one _ _ _ _ _ _ _ _ _ _ _ _ hh hO e)
         refine ⟨fun b' r' c' h2 sz2 es' hh=>?_,fun b' r' c' h2 sz2 es' hh=>?_,fun b' r' c' h2 sz2 es' b'' r'' c'' h3 sz3 es'' hh hh' e=>?_,fun b' r' c' h2 sz2 es' b'' x l' hh hx hl'=>?_⟩
         ·rcases ow hh with ⟨_,_,_,rfl,rfl,rfl⟩ | ⟨hh,hn⟩
          ·exact ⟨hN.own,hN.pos,⟨arr',ty,h5,h6⟩,by simpa using hN.len,h7⟩
          ·exact (H.nest.rep _ _ _ _ _ _ hh).keep K0 (w5 _ (other hh hn)) (fun h=>h)
         ·rcases ow hh with ⟨_,_,_,rfl,rfl,rfl⟩ | ⟨hh,_⟩
          ·exact H.nest.old _ _ _ _ _ _ hO
          ·exact H.nest.old _ _ _ _ _ _ hh
         ·rcases ow hh with ⟨e1,e2,e3,e4,_⟩ | ⟨hh1,n1⟩ <;> rcases ow hh' with ⟨f1,f2,f3,f4,_⟩ | ⟨hh2,n2⟩
          ·exact ⟨by rw [e1,f1],by rw [e2,f2],by rw [e3,f3]⟩
          ·exact absurd (by rw [← e,e4]) (other hh2 n2)
          ·exact absurd (by rw [e,f4]) (other hh1 n1)
          ·exact H.nest.one _ _ _ _ _ _ _ _ _ _ _ _ hh1 hh2 e
         ·have hz:∃ z,lkS st b''=some z:=by
           rw [lkS_inS] at hx
           by_cases e1:b=b''
           ·subst e1; exact ⟨_,hst⟩
           ·rw [if_neg e1] at hx; exact ⟨_,hx⟩
          obtain ⟨z,hz⟩:=hz
          rcases ow hh with ⟨_,_,_,rfl,_⟩ | ⟨hh,_⟩
          ·exact H.nest.sep _ _ _ _ _ _ _ _ _ hO hz hl'
          ·exact H.nest.sep _ _ _ _ _ _ _ _ _ hh hz hl'
       refine ⟨_,_,Go.undef,w',Y,σ,hK,.inr ⟨?_,rfl⟩,H2.mono (by simp [nextI]; omega),by simp [Rep],Off.refl _ _⟩
       simp [execOp,ho,hx,Instr.storeAt,Instr.sureAddr,hrun]
     ·exact h.elim
    ·exact h.elim
   ·exact h.elim
  ·exact h.elim
 ·exact h.elim
end
end Go.Pv
namespace Go.Pv
open Go
theorem zero_rep {P:Program} {t:TypeId} {z:List PV} (h:zeroT P t=some z):∃ zv,(∀ w,(zeroValue t).run P w=.ok zv w)∧∀ w Y σ,RepL w Y σ z zv.cells.toList:=by
 unfold zeroT at h
 split at h
 ·rename_i i hi
  split at h
  ·rename_i zv hz
   cases h
   refine ⟨zv,fun w=>by simp [zeroValue,typeInfo,program,Sem.run,Result.andThen,hi,hz],fun w Y σ=>?_⟩
   unfold ofVal
   split
   ·rename_i cs; exact ofCells_rep w Y σ _
   ·rename_i hna
    have h1:cellsV (ofCell zv)=[ofCell zv]:=by unfold ofCell; split <;> rfl
    have h2:zv.cells=#[zv]:=by
     cases zv <;> first | rfl | (exact absurd rfl (hna _))
    rw [h1,h2]
    unfold RepL
    exact ⟨zv,[],rfl,ofCell_rep w Y σ zv,by simp [RepL]⟩
  ·cases h
 ·cases h
theorem cellsV_rep {w:World} {Y:Nat→Prop} {σ:Sg} {p:PV} {v:Value} (h:Rep w Y σ p v) (hp:p ≠ .top):RepL w Y σ (cellsV p) v.cells.toList:=by
 cases p
 case top=>exact absurd rfl hp
 case agg cs=>unfold Rep at h; obtain ⟨vs,rfl,hr⟩:=h; exact hr
 case os =>
  have hc:v.cells=#[v]:=by
   unfold Rep at h
   rcases h with ⟨_,_,_,rfl,_⟩ | ⟨_,_,rfl⟩ <;> rfl
  rw [hc]
  simp only [cellsV]
  unfold RepL
  exact ⟨v,[],rfl,h,by simp [RepL]⟩
 case ow =>
  have hc:v.cells=#[v]:=by
   unfold Rep at h
   rcases h with ⟨_,rfl,_⟩ | ⟨_,_,_,rfl⟩ <;> rfl
  rw [hc]
  simp only [cellsV]
  unfold RepL
  exact ⟨v,[],rfl,h,by simp [RepL]⟩
 case bo =>
  have hc:v.cells=#[v]:=by
   unfold Rep at h
   rcases h with ⟨_,rfl,_⟩ | ⟨_,_,_,rfl⟩ <;> rfl
  rw [hc]
  simp only [cellsV]
  unfold RepL
  exact ⟨v,[],rfl,h,by simp [RepL]⟩
 all_goals
  have hc:v.cells=#[v]:=by
   unfold Rep at h
   first
    | (subst h; rfl)
    | (obtain ⟨_,rfl,_⟩:=h; rfl)
    | (obtain ⟨_,_,rfl⟩:=h; rfl)
    | (obtain ⟨_,_,rfl,_⟩:=h; rfl)
    | (obtain ⟨_,_,_,rfl,_⟩:=h; rfl)
  rw [hc]
  simp only [cellsV]
  unfold RepL
  exact ⟨v,[],rfl,h,by simp [RepL]⟩
section
variable {P:Program} {T:Tab} (hT:TabOK P T) {C:Ctx T} {o:Oper} {a:Act} {w:World} {Y:Nat→Prop} {σ:Sg} {ps:List PV} {st:St} {n id:Nat} {K:PV→Dl→Prop} {lk:Nat→Option Blk}
 (H:SW C w Y σ ps a.tmps.toList st n) (hlk:∀ b x,lk b=some x→lkS st b=some x) (hid:σ id=none∧T.pas≤id)
theorem SW.newVar (H:SW C w Y σ ps a.tmps.toList st n) (hid:σ id=none∧T.pas≤id) {vs:List Value} {row:List PV} (ty:TypeId) (hr:RepL w Y σ row vs) :
  ∃ Y' σ',SW C (w.alloc (.cells vs.toArray ty)) Y' σ' ps a.tmps.toList (inS st id (some (.var false row))) (max n (id+1))∧Rep (w.alloc (.cells vs.toArray ty)) Y' σ' (.lv id 0) (.pointer (some ⟨w.heap.size,0,none⟩))∧Off id σ σ':=by
 obtain ⟨Y',σ',H',hs,_,_,hoff⟩:=H.alloc hid vs.toArray ty ⟨w.heap.size,0,row.length,vs.length,1⟩ rfl (.var false row) (fun _ _ e=>by cases e) (by
  intro w' Y' σ' hk hY hb _
  unfold BlkRep
  refine ⟨⟨_,ty,hb,by simp⟩,rfl,by simp [hr.length],?_,fun _=>hY,fun h=>by cases h⟩
  rw [RepC.iff]
  intro i p hi
  obtain ⟨v,hv,hp⟩:=hr.get? hi
  exact ⟨v,by rw [cell_of_block hb]; simpa using hv,hk _ _ hp⟩)
 refine ⟨Y',σ',H',?_,hoff⟩
 unfold Rep
 exact ⟨_,hs,rfl⟩
include hT H hid in
theorem op_alloc {t:TypeId} (ho:o.op=.alloc t) (h:opE T (Sig.std P T) (.alloc t) ps lk id K):Res P C o a w σ ps st n id K:=by
 simp only [opE] at h
 split at h
 ·rename_i agg size z plain kind e
  obtain ⟨i,d,h1,h2,h3,h4,h5,h6,h7,h8⟩:=tab_open hT e rfl
  obtain ⟨zv,hz,hr⟩:=zero_rep h6.symm
  obtain ⟨Y',σ',H',hrep,hoff⟩:=H.newVar hid t (hr w Y σ)
  refine ⟨_,_,_,_,Y',σ',h,.inl ?_,H',hrep,hoff⟩
  simp [execOp,ho,Instr.alloc,hz,newVar,newRow,newObj,Sem.run,Result.andThen]
 ·exact h.elim
include H hid in
theorem op_box {t:TypeId} {x:Operand} (ho:o.op=.box t x) (h:opE T (Sig.std P T) (.box t x) ps lk id K):Res P C o a w σ ps st n id K:=by
 have hx:=ev_rep H x
 simp only [opE] at h
 split at h
 ·exact h.elim
 ·rename_i hnt
  obtain ⟨Y',σ',H',hrep,hoff⟩:=H.newVar hid t (cellsV_rep hx hnt)
  refine ⟨_,_,_,_,Y',σ',h,.inl ?_,H',hrep,hoff⟩
  simp [execOp,ho,Instr.box,newVar,newRow,newObj,Sem.run,Result.andThen]
include H in
theorem op_makeFunc {f:FuncId} {first cap:Array Operand} (ho:o.op=.makeFunc (.func f) first cap) (h:opE T (Sig.std P T) (.makeFunc (.func f) first cap) ps lk id K):Res P C o a w σ ps st n id K:=by
 simp only [opE] at h
 split at h
 ·rename_i hf
  have hf' : first=#[]:=by simpa using hf
  subst hf'
  refine Res.quiet H (cv:=.func (.func f) #[] (cap.map a.eval)) ?_ ?_ h
  ·simp [execOp,ho,Instr.makeFunc]
  ·unfold Rep
   refine ⟨cap.toList.map a.eval,?_,evA_rep H _⟩
   congr 1
   apply Array.ext'
   simp
 ·exact h.elim
theorem run_asIntOf {P:Program} {w:World} {k:IntKind} {m:Int}:(asIntOf (.int k m)).run P w=.ok (k,m) w:=by simp [asIntOf]
include hT H hlk in
theorem op_indexAddr {t:TypeId} {x i:Operand} (ho:o.op=.indexAddr t x i) (h:opE T (Sig.std P T) (.indexAddr t x i) ps lk id K):Res P C o a w σ ps st n id K:=by
 have hx:=ev_rep H x
 have hi:=ev_rep H i
 simp only [opE] at h
 split at h
 ·rename_i agg size z plain esz bytes z' e
  obtain ⟨et,hu,rfl,_,_⟩:=tab_slice hT e
  have run:∀ (k:IntKind) (j len cap:Nat) (b off:Nat),a.eval i=.int k (j:Int)→a.eval x=.slice (some ⟨b,off,none⟩) len cap→j<len→P.info? et ≠ none →
    (execOp a.eval o).run P w=.ok (.value (.pointer (some ⟨b,off+j * P.cellsOf et,none⟩))) w:=by
   intro k j len cap b off e1 e2 hj hinf
   have:(0:Int)≤(j:Int)∧(j:Int)<(len:Int):=by omega
   simp [execOp,ho,Instr.indexAt,e1,e2,run_asIntOf,run_und hu,run_sizeOf hinf,this,addr_add]
  split at h
  ·rename_i sz es full k m hxe hie
   rw [hxe] at hx
   have hiv:=rep_intV hi hie
   cases hb:(isPos (P.cellsOf et) && Nat.beq sz (P.cellsOf et)) with
   | false=>rw [hb] at h; exact h.elim
   | true =>
    rw [hb] at h
    rw [Bool.and_eq_true] at hb
    have hinf:=info_of_pos hb.1
    have hb:=Nat.eq_of_beq_eq_true hb.2
    obtain ⟨j,row,rfl,hrow,h⟩:=h
    unfold Rep at hx
    obtain ⟨a',len,cap,ex,hl,hc,_,hr⟩:=hx
    have hjlt:j<es.length:=by
     by_cases hh:j<es.length
     ·exact hh
     ·simp [List.getElem?_eq_none (Nat.le_of_not_lt hh)] at hrow
    rcases hr with hr | ⟨b,off,rfl,hy,hr⟩
    ·rw [hr] at hjlt; simp at hjlt
    ·refine Res.quiet H (run k j len cap b off hiv ex (by omega) hinf) ?_ h
     unfold Rep
     refine ⟨b,_,rfl,hy,?_⟩
     rw [← hb]
     exact (RepR.row _ _ _ _ hr hrow).2
  ·rename_i b r len k m hxe hie
   rw [hxe] at hx
   have hiv:=rep_intV hi hie
   split at h
   ·rename_i ro sz rows hbk
    cases hb:(isPos (P.cellsOf et) && Nat.beq sz (P.cellsOf et)) with
    | false=>rw [hb] at h; exact h.elim
    | true =>
     rw [hb] at h
     rw [Bool.and_eq_true] at hb
     have hinf:=info_of_pos hb.1
     have hb:=Nat.eq_of_beq_eq_true hb.2
     obtain ⟨j,rfl,hjlt,h⟩:=h
     unfold Rep at hx
     rcases hx with ⟨l,cap,hs,ex,hn,ht,hnr⟩ | ⟨rfl,_⟩
     ·have hB:=BlkRep.of_lk H hlk hbk hs
      unfold BlkRep at hB
      refine Res.quiet H (run k j len cap _ _ hiv ex hjlt hinf) ?_ h
      unfold Rep
      refine ⟨l,hs,?_⟩
      have:l.sz=P.cellsOf et:=by rw [hB.2.1,hb]
      show Value.pointer (some ⟨l.cb,l.co+r * l.sz+j * P.cellsOf et,none⟩)=Value.pointer (some ⟨l.cb,l.co+(r+j) * l.sz+0,none⟩)
      rw [← this,Nat.add_mul]
      simp [Nat.add_assoc]
     ·omega
   ·rename_i sz rows hbk
    cases hb:(isPos (P.cellsOf et) && Nat.beq sz (P.cellsOf et)) with
    | false=>rw [hb] at h; exact h.elim
    | true =>
     rw [hb] at h
     rw [Bool.and_eq_true] at hb
     have hinf:=info_of_pos hb.1
     have hb:=Nat.eq_of_beq_eq_true hb.2
     obtain ⟨j,rfl,hjlt,h⟩:=h
     unfold Rep at hx
     rcases hx with ⟨l,cap,hs,ex,hn,ht,hnr⟩ | ⟨rfl,_⟩
     ·have hB:=BlkRep.of_lk H hlk hbk hs
      unfold BlkRep at hB
      refine Res.quiet H (run k j len cap _ _ hiv ex hjlt hinf) ?_ h
      unfold Rep
      refine ⟨l,hs,?_⟩
      have:l.sz=P.cellsOf et:=by rw [hB.2.1,hb]
      show Value.pointer (some ⟨l.cb,l.co+r * l.sz+j * P.cellsOf et,none⟩)=Value.pointer (some ⟨l.cb,l.co+(r+j) * l.sz+0,none⟩)
      rw [← this,Nat.add_mul]
      simp [Nat.add_assoc]
     ·omega
   ·exact h.elim
  ·rename_i b r c hd sz len k m hxe hie
   rw [hxe] at hx
   have hiv:=rep_intV hi hie
   cases hb:(isPos (P.cellsOf et) && Nat.beq sz (P.cellsOf et)) with
   | false=>rw [hb] at h; exact h.elim
   | true =>
    rw [hb] at h
    rw [Bool.and_eq_true] at hb
    have hinf:=info_of_pos hb.1
    have hb:=Nat.eq_of_beq_eq_true hb.2
    obtain ⟨j,rfl,hjlt,h⟩:=h
    unfold Rep at hx
    rcases hx with ⟨_,ex,hn⟩ | ⟨rfl,_⟩
    ·refine Res.quiet H (run k j len hd.cap _ _ hiv ex hjlt hinf) ?_ h
     unfold Rep
     rw [← hb]; rfl
    ·omega
  ·exact h.elim
 ·rename_i agg size z plain len esz ag e
  obtain ⟨et,hu,rfl,_,_⟩:=tab_arr hT e
  cases hpos:isPos (P.cellsOf et) with
  | false=>rw [hpos] at h; exact h.elim
  | true =>
  rw [hpos] at h
  simp only [cond_true] at h
  have hinf:=info_of_pos hpos
  have run:∀ (k:IntKind) (j:Nat) (b off:Nat),a.eval i=.int k (j:Int)→a.eval x=.pointer (some ⟨b,off,none⟩)→j<len →
    (execOp a.eval o).run P w=.ok (.value (.pointer (some ⟨b,off+j * P.cellsOf et,none⟩))) w:=by
   intro k j b off e1 e2 hj
   have:(0:Int)≤(j:Int)∧(j:Int)<(len:Int):=by omega
   simp [execOp,ho,Instr.indexAt,e1,e2,run_asIntOf,run_und hu,run_sizeOf hinf,this,addr_add,Instr.sureAddr]
  have fin:∀ (k:IntKind) (j:Nat),a.eval i=.int k (j:Int)→j<len→(match evL T ps x with
    | .lv b c=>K (.lv b (c+j * P.cellsOf et)) []
    | .lp b r c=>K (.lp b r (c+j * P.cellsOf et)) []
    | .pp cs=>bif Nat.ble (j * P.cellsOf et) (lenL cs) then K (.pp (dropL (j * P.cellsOf et) cs)) [] else False
    | _=>False)→Res P C o a w σ ps st n id K:=by
   intro k j hiv hj h
   split at h
   ·rename_i b c hxe; rw [hxe] at hx; unfold Rep at hx; obtain ⟨l,hs,ex⟩:=hx
    refine Res.quiet H (run k j _ _ hiv ex hj) ?_ h
    unfold Rep; exact ⟨l,hs,by rw [Nat.add_assoc]⟩
   ·rename_i b r c hxe; rw [hxe] at hx; unfold Rep at hx; obtain ⟨l,hs,ex⟩:=hx
    refine Res.quiet H (run k j _ _ hiv ex hj) ?_ h
    unfold Rep; exact ⟨l,hs,by rw [Nat.add_assoc]⟩
   ·rename_i cs hxe; rw [hxe] at hx; unfold Rep at hx; obtain ⟨b,off,ex,hy,hr⟩:=hx
    cases hb:Nat.ble (j * P.cellsOf et) (lenL cs) with
    | false=>rw [hb] at h; exact h.elim
    | true =>
     rw [hb] at h
     refine Res.quiet H (run k j _ _ hiv ex hj) ?_ h
     unfold Rep; rw [dropL_eq]; exact ⟨b,_,rfl,hy,hr.drop _ _ _⟩
   ·exact h.elim
  split at h
  ·rename_i k m hie
   rw [hie] at hi
   cases hb:Nat.blt m len with
   | false=>simp only [hb,cond_false] at h
   | true =>
    simp only [hb,cond_true] at h
    exact fin k m (rep_int hi) (by simpa [Nat.blt_eq] using hb) h
  ·rename_i k m hie
   rw [hie] at hi
   obtain ⟨j,rfl,hj,h⟩:=h
   exact fin k j (rep_si hi) hj h
  ·exact h.elim
 ·exact h.elim
end
end Go.Pv
namespace Go.Pv
open Go
theorem part_rep {P:Program} {w:World} {Y:Nat→Prop} {σ:Sg} {t:TypeId} {c size:Nat} {cs:List PV} {vs:List Value} {agg:Bool} {K:PV→Prop}
  (hinfo:P.info? t ≠ none) (hsize:size=P.cellsOf t) (hagg:agg=isAggT P t) (hund:∃ d,P.underlying t=some d)
  (hr:RepL w Y σ cs vs) (h:loadRow agg size cs c K) :
  ∃ v cv,K v∧(part t vs.toArray c).run P w=.ok cv w∧Rep w Y σ v cv:=by
 obtain ⟨d,hu⟩:=hund
 unfold loadRow at h
 have hlen:=hr.length
 cases agg with
 | true =>
  simp only [cond_true] at h
  cases hb:Nat.ble (c+size) (lenL cs) with
  | false=>simp only [hb,cond_false] at h
  | true =>
   simp only [hb,cond_true,takeL_eq,dropL_eq] at h
   have hle:c+size≤cs.length:=by simpa using Nat.le_of_ble_eq_true hb
   refine ⟨_,.agg ((vs.drop c).take size).toArray,h,?_,?_⟩
   ·simp only [part,Sem.run_bind,run_isAgg hu,← hagg,Result.andThen,if_true,run_sizeOf hinfo,← hsize]
    simp only [Sem.run_pure]
    congr 2
    apply Array.ext'
    simp [List.extract_eq_take_drop]
   ·unfold Rep
    refine ⟨_,rfl,?_⟩
    clear h hb hle hlen
    have drop:∀ (n:Nat) (cs:List PV) (vs:List Value),RepL w Y σ cs vs→RepL w Y σ (cs.drop n) (vs.drop n):=by
     intro n; induction n with
     | zero=>intro cs vs h; simpa using h
     | succ n ih =>
      intro cs vs h
      cases cs with
      | nil=>unfold RepL at h; subst h; simp [RepL]
      | cons c cs=>unfold RepL at h; obtain ⟨v,vs',rfl,_,h2⟩:=h; simpa using ih cs vs' h2
    have take:∀ (n:Nat) (cs:List PV) (vs:List Value),RepL w Y σ cs vs→RepL w Y σ (cs.take n) (vs.take n):=by
     intro n; induction n with
     | zero=>intro cs vs h; simp [RepL]
     | succ n ih =>
      intro cs vs h
      cases cs with
      | nil=>unfold RepL at h; subst h; simp [RepL]
      | cons c cs =>
       unfold RepL at h; obtain ⟨v,vs',rfl,h1,h2⟩:=h
       simp only [List.take_succ_cons]; unfold RepL; exact ⟨v,_,rfl,h1,ih cs vs' h2⟩
    exact take size _ _ (drop c _ _ hr)
 | false =>
  simp only [cond_false] at h
  cases hb:Nat.blt c (lenL cs) with
  | false=>simp only [hb,cond_false] at h
  | true =>
   simp only [hb,cond_true] at h
   have hlt:c<vs.length:=by rw [hlen]; simpa [Nat.blt_eq] using hb
   have hg:=hr.get _ _ c
   rw [List.getD_eq_getElem?_getD,List.getElem?_eq_getElem hlt] at hg
   refine ⟨_,vs[c],h,?_,hg⟩
   simp only [part,Sem.run_bind,run_isAgg hu,← hagg,Result.andThen]
   simp [hlt]
def UndOK (P:Program):Prop:=∀ t,P.info? t ≠ none→∃ d,P.underlying t=some d
section
variable {P:Program} {T:Tab} (hT:TabOK P T) {C:Ctx T} {o:Oper} {a:Act} {w:World} {Y:Nat→Prop} {σ:Sg} {ps:List PV} {st:St} {n id:Nat} {K:PV→Dl→Prop} {lk:Nat→Option Blk}
 (H:SW C w Y σ ps a.tmps.toList st n) (hlk:∀ b x,lk b=some x→lkS st b=some x) (hid:σ id=none∧T.pas≤id) (hU:UndOK P)
include hT H hU in
theorem op_field {t:TypeId} {x:Operand} {f:Nat} (ho:o.op=.field t x f) (h:opE T (Sig.std P T) (.field t x f) ps lk id K):Res P C o a w σ ps st n id K:=by
 have hc:=ev_rep H x
 simp only [opE] at h
 split at h
 ·rename_i fs e
  obtain ⟨fl,hu,rfl,_⟩:=tab_struct hT e
  split at h
  ·rename_i fd hf
   rw [fieldOf_eq,List.getElem?_map] at hf
   cases hg:fl.toList[f]? with
   | none=>simp [hg] at hf
   | some g =>
    simp [hg] at hf
    subst hf
    have hg' : fl[f]?=some g:=by simpa using hg
    split at h
    ·rename_i cs e; rw [e] at hc
     cases hp:isPos (P.cellsOf g.type) with
     | false=>simp only [hp] at h; exact h.elim
     | true =>
      simp only [hp,cond_true] at h
      have hinfo:=info_of_pos hp
      unfold Rep at hc; obtain ⟨vs,e',hr⟩:=hc
      obtain ⟨v,cv,hK,hrun,hrep⟩:=part_rep hinfo rfl rfl (hU _ hinfo) hr h
      refine Res.quiet H (cv:=cv) ?_ hrep hK
      simp [execOp,ho,Instr.field,run_und hu,hg',e',asAgg,hrun]
    ·exact h.elim
  ·exact h.elim
 ·exact h.elim
include hT H hU in
theorem op_index {t:TypeId} {x i:Operand} (ho:o.op=.index t x i) (h:opE T (Sig.std P T) (.index t x i) ps lk id K):Res P C o a w σ ps st n id K:=by
 have hx:=ev_rep H x
 have hi:=ev_rep H i
 simp only [opE] at h
 split at h
 ·rename_i agg size z plain s k m e hxe hie
  rw [hxe] at hx
  have hu:=tab_str hT e
  have hiv:=rep_intV hi hie
  have hxv:=rep_str hx
  obtain ⟨j,c,rfl,hj,h⟩:=h
  refine Res.quiet H (cv:=.int .u8 c.toNat) ?_ (by simp [Rep]) h
  simp [execOp,ho,Instr.index,hiv,hxv,run_asIntOf,run_und hu,hj]
 ·rename_i agg size z plain len esz ag cs k m e hxe hie
  rw [hxe] at hx
  obtain ⟨et,hu,rfl,rfl,_⟩:=tab_arr hT e
  have hiv:=rep_intV hi hie
  cases hp:isPos (P.cellsOf et) with
  | false=>simp only [hp] at h; exact h.elim
  | true =>
   simp only [hp,cond_true] at h
   have hinfo:=info_of_pos hp
   obtain ⟨j,rfl,hj,h⟩:=h
   unfold Rep at hx; obtain ⟨vs,ex,hr⟩:=hx
   obtain ⟨v,cv,hK,hrun,hrep⟩:=part_rep hinfo rfl rfl (hU _ hinfo) hr h
   refine Res.quiet H (cv:=cv) ?_ hrep hK
   have:(0:Int)≤(j:Int)∧(j:Int)<(len:Int):=by omega
   simp [execOp,ho,Instr.index,hiv,ex,run_asIntOf,run_und hu,this,run_sizeOf hinfo,hrun]
 ·exact h.elim
end
theorem bytes_beq (a b:ByteArray):(a.toList == b.toList)=decide (a=b):=by
 rw [Bool.eq_iff_iff]
 simp only [beq_iff_eq,decide_eq_true_eq,ByteArray.toList_eq]
 obtain ⟨⟨x⟩⟩:=a
 obtain ⟨⟨y⟩⟩:=b
 simp
def ceq:Nat→Value→Value→Option Bool
 | 0,.int k a,.int k' b=>if k=k' then some (a == b) else none
 | 1,.bool a,.bool b=>some (a == b)
 | 2,.string a,.string b=>some (a.toList == b.toList)
 | _,_,_=>none
def ceqs:List Nat→List Value→List Value→Option Bool
 | [],[],[]=>some true
 | k::ks,x::xs,y::ys=>match ceq k x y with
  | none=>none
  | some a=>match ceqs ks xs ys with
   | none=>none
   | some b=>some (a && b)
 | _,_,_=>none
theorem eqC_ceq {P:Program} {T:Tab} {w:World} {Y:Nat→Prop} {σ:Sg} {k:Nat} {p q:PV} {u v:Value} {b:Bool} (h:eqC (Sig.std P T) k p q=some b) (hp:Rep w Y σ p u) (hq:Rep w Y σ q v):ceq k u v=some b:=by
 unfold eqC at h
 split at h
 ·split at h
  ·rename_i k1 a k2 c h1 h2
   cases hk:kindEq k1 k2 with
   | false=>simp [hk] at h
   | true =>
    simp only [hk,cond_true,Option.some.injEq] at h
    have:=kindEq_eq hk
    subst this
    rw [rep_intV hp h1,rep_intV hq h2]
    subst h
    have:(a == c)=decide (a=c):=by rw [Bool.eq_iff_iff]; simp
    simp [ceq,Sig.std,stdCmp,this]
  ·cases h
 ·split at h
  ·rename_i a c h1 h2
   rw [rep_boolV hp h1,rep_boolV hq h2]
   simp only [Option.some.injEq] at h
   subst h
   simp [ceq,Sig.std]
  ·cases h
 ·rw [rep_str hp,rep_str hq]
  simp only [Option.some.injEq] at h
  subst h
  simp [ceq,Sig.std,stdScmp,bytes_beq]
 ·cases h
theorem eqCs_ceqs {P:Program} {T:Tab} {w:World} {Y:Nat→Prop} {σ:Sg}:∀ (ks:List Nat) (ps qs:List PV) (us vs:List Value) (b:Bool),eqCs (Sig.std P T) ks ps qs=some b→RepL w Y σ ps us→RepL w Y σ qs vs→ceqs ks us vs=some b
 | [],[],[],us,vs,b,h,hp,hq=>by
  unfold RepL at hp hq; subst hp; subst hq; simp [eqCs] at h; subst h; rfl
 | k::ks,p::ps,q::qs,us,vs,b,h,hp,hq=>by
  unfold RepL at hp hq
  obtain ⟨u,us,rfl,hp1,hp2⟩:=hp
  obtain ⟨v,vs,rfl,hq1,hq2⟩:=hq
  simp only [eqCs] at h
  cases h1:eqC (Sig.std P T) k p q with
  | none=>rw [h1] at h; cases h
  | some a =>
   rw [h1] at h
   cases h2:eqCs (Sig.std P T) ks ps qs with
   | none=>rw [h2] at h; cases h
   | some c =>
    rw [h2] at h
    simp only [Option.some.injEq] at h
    subst h
    simp only [ceqs,eqC_ceq h1 hp1 hq1,eqCs_ceqs ks ps qs us vs c h2 hp2 hq2]
    rfl
 | [],[],_::_,_,_,_,h,_,_ | [],_::_,_,_,_,_,h,_,_ | _::_,[],_,_,_,_,h,_,_ | _::_,_::_,[],_,_,_,h,_,_=>by simp [eqCs] at h
theorem ceqs_len:∀ (ks:List Nat) (us vs:List Value) (b:Bool),ceqs ks us vs=some b→us.length=ks.length∧vs.length=ks.length
 | [],[],[],_,_=>by simp
 | k::ks,u::us,v::vs,b,h=>by
  simp only [ceqs] at h
  cases h1:ceq k u v with
  | none=>rw [h1] at h; cases h
  | some a =>
   rw [h1] at h
   cases h2:ceqs ks us vs with
   | none=>rw [h2] at h; cases h
   | some c=>have:=ceqs_len ks us vs c h2; simp [this]
 | [],[],_::_,_,h | [],_::_,_,_,h | _::_,[],_,_,h | _::_,_::_,[],_,h=>by simp [ceqs] at h
theorem ceqs_app:∀ (ks ls:List Nat) (us vs:List Value) (b:Bool),ceqs (ks ++ ls) us vs=some b →
  ∃ b1 b2,ceqs ks (us.take ks.length) (vs.take ks.length)=some b1∧ceqs ls (us.drop ks.length) (vs.drop ks.length)=some b2∧b=(b1 && b2)
 | [],ls,us,vs,b,h=>⟨true,b,by simp [ceqs],by simpa using h,by simp⟩
 | k::ks,ls,[],vs,b,h=>by simp [ceqs] at h
 | k::ks,ls,u::us,[],b,h=>by simp [ceqs] at h
 | k::ks,ls,u::us,v::vs,b,h=>by
  simp only [List.cons_append,ceqs] at h
  cases h1:ceq k u v with
  | none=>rw [h1] at h; cases h
  | some a =>
   rw [h1] at h
   cases h2:ceqs (ks ++ ls) us vs with
   | none=>rw [h2] at h; cases h
   | some c =>
    rw [h2] at h
    simp only [Option.some.injEq] at h
    obtain ⟨b1,b2,e1,e2,e3⟩:=ceqs_app ks ls us vs c h2
    refine ⟨a && b1,b2,by simp [ceqs,h1,e1],by simpa using e2,?_⟩
    rw [← h,e3,Bool.and_assoc]
def valOf (P:Program) (t:TypeId) (us:List Value):Value:=if isAggT P t then .agg us.toArray else us.headD Go.undef
theorem part_valOf {P:Program} {w:World} {t:TypeId} (hinfo:P.info? t ≠ none) (hund:∃ d,P.underlying t=some d) {us:List Value} {c s:Nat} (hs:s=P.cellsOf t) (hle:c+s≤us.length) (h1:isAggT P t=false→s=1) :
  (part t us.toArray c).run P w=.ok (valOf P t ((us.drop c).take s)) w:=by
 obtain ⟨d,hu⟩:=hund
 simp only [part,Sem.run_bind,run_isAgg hu,Result.andThen]
 unfold valOf
 cases ha:isAggT P t with
 | true =>
  simp only [if_true,Sem.run_bind,run_sizeOf hinfo,Result.andThen,Sem.run_pure,← hs]
  congr 2
  apply Array.ext'
  simp [List.extract_eq_take_drop]
 | false =>
  have:=h1 ha
  subst this
  have hlt:c<us.length:=by omega
  simp only [Bool.false_eq_true,if_false]
  rw [show us.toArray[c]?=some us[c] by simp [hlt]]
  have:(us.drop c).take 1=[us[c]]:=by rw [List.drop_eq_getElem_cons hlt]; rfl
  simp [this]
theorem plain_len {P:Program}:∀ (d:Nat) (t:TypeId) (ks:List Nat),plainT P d t=some ks→isAggT P t=false→ks.length=1
 | 0,_,_,h,_=>by simp [plainT] at h
 | d+1,t,ks,h,ha=>by
  unfold plainT at h
  unfold isAggT at ha
  split at h
  all_goals first
   | (cases h; done)
   | (cases h; rfl)
   | (rename_i hu; simp [hu] at ha; done)
theorem repN_length:∀ (n:Nat) (l:List Nat),(repN n l).length=n * l.length
 | 0,l=>by simp [repN]
 | n+1,l=>by simp [repN,repN_length n l,Nat.add_mul]; omega
theorem equalIn_plain {P:Program} (hU:UndOK P):∀ (d:Nat) (t:TypeId) (ks:List Nat),plainT P d t=some ks→∀ (D:Nat),d≤D→∀ (us vs:List Value) (b:Bool),ceqs ks us vs=some b →
  ∀ w,(Op.equalIn D t (valOf P t us) (valOf P t vs)).run P w=.ok b w
 | 0,_,_,h=>by simp [plainT] at h
 | d+1,t,ks,h=>by
  intro D hD us vs b hb w
  obtain ⟨D,rfl⟩:∃ D',D=D'+1:=⟨D - 1,by omega⟩
  have hD:d≤D:=by omega
  unfold plainT at h
  have one:∀ k,ks=[k]→∃ u v,us=[u]∧vs=[v]∧ceq k u v=some b:=by
   intro k e
   subst e
   have hl:=ceqs_len _ _ _ _ hb
   match us,vs,hl with
   | [u],[v],_ =>
    simp only [ceqs] at hb
    cases h1:ceq k u v with
    | none=>rw [h1] at hb; cases hb
    | some a=>rw [h1] at hb; simp at hb; subst hb; exact ⟨u,v,rfl,rfl,h1⟩
  split at h
  ·rename_i hu
   cases h
   obtain ⟨u,v,rfl,rfl,hc⟩:=one 1 rfl
   have:isAggT P t=false:=by simp [isAggT,hu]
   simp only [valOf,this,Bool.false_eq_true,if_false,List.headD_cons]
   unfold ceq at hc
   split at hc
   ·rename_i h0; cases h0
   ·simp only [Option.some.injEq] at hc; subst hc
    exact run_equalIn_bool' w D t _ _ hu
   ·rename_i h0; cases h0
   ·cases hc
  ·rename_i k hu
   cases h
   obtain ⟨u,v,rfl,rfl,hc⟩:=one 0 rfl
   have:isAggT P t=false:=by simp [isAggT,hu]
   simp only [valOf,this,Bool.false_eq_true,if_false,List.headD_cons]
   unfold ceq at hc
   split at hc
   ·split at hc
    ·simp only [Option.some.injEq] at hc; subst hc
     rename_i hk; subst hk
     exact run_equalIn_int w D t _ _ _ _ hu
    ·cases hc
   ·rename_i h0; cases h0
   ·rename_i h0; cases h0
   ·cases hc
  ·rename_i hu
   cases h
   obtain ⟨u,v,rfl,rfl,hc⟩:=one 2 rfl
   have:isAggT P t=false:=by simp [isAggT,hu]
   simp only [valOf,this,Bool.false_eq_true,if_false,List.headD_cons]
   unfold ceq at hc
   split at hc
   ·rename_i h0; cases h0
   ·rename_i h0; cases h0
   ·simp only [Option.some.injEq] at hc; subst hc
    exact run_equalIn_string w D t _ _ hu
   ·cases hc
  ·rename_i fs hu
   cases hst:P.stoodInHeld t with
   | true=>rw [hst] at h; cases h
   | false =>
    simp only [hst,Bool.false_eq_true,if_false] at h
    have ha:isAggT P t=true:=by simp [isAggT,hu]
    simp only [valOf,ha,if_true]
    have hf:P.fieldsOf t=fs:=by simp [Program.fieldsOf,hu]
    rw [run_equalIn_struct w D t _ _ (by rw [hf]; exact hu) hst,hf]
    have key:∀ (l:List Field) (off:Nat) (ks:List Nat) (b:Bool),plainFs P (plainT P d) l off=some ks→ceqs ks (us.drop off) (vs.drop off)=some b →
      (Op.eqFields D us.toArray vs.toArray l).run P w=.ok b w:=by
     intro l
     induction l with
     | nil =>
      intro off ks b h hb
      simp [plainFs] at h
      subst h
      have hb' : b=true:=by
       generalize us.drop off=x at hb; generalize vs.drop off=y at hb
       cases x <;> cases y <;> simp [ceqs] at hb
       exact hb
      subst hb'
      simp [Op.eqFields]
     | cons f l ih =>
      intro off ks b h hb
      unfold plainFs at h
      split at h
      ·rename_i hc
       obtain ⟨ho,hn,hi⟩:=hc
       cases hs:plainT P d f.type with
       | none=>rw [hs] at h; cases h
       | some s =>
        rw [hs] at h
        simp only at h
        split at h
        ·rename_i hsz0
         obtain ⟨hsz,hpos⟩:=hsz0
         cases hr:plainFs P (plainT P d) l (off+s.length) with
         | none=>rw [hr] at h; cases h
         | some r =>
          rw [hr] at h
          simp only [Option.some.injEq] at h
          subst h
          obtain ⟨b1,b2,e1,e2,rfl⟩:=ceqs_app _ _ _ _ _ hb
          rw [List.drop_drop,List.drop_drop] at e2
          have hl:=ceqs_len _ _ _ _ e1
          have hle1:off+s.length≤us.length:=by
           have:=hl.1; rw [List.length_take,List.length_drop] at this
           omega
          have hle2:off+s.length≤vs.length:=by
           have:=hl.2; rw [List.length_take,List.length_drop] at this
           omega
          have hone:isAggT P f.type=false→s.length=1:=fun ha=>plain_len d _ _ hs ha
          subst ho
          simp only [Op.eqFields,ne_eq,hn,not_false_eq_true,if_true,Sem.run_bind]
          rw [part_valOf hi (hU _ hi) hsz.symm hle1 hone]
          simp only [Result.andThen]
          rw [part_valOf hi (hU _ hi) hsz.symm hle2 hone]
          simp only [Result.andThen]
          rw [equalIn_plain hU d f.type s hs D hD _ _ b1 e1 w]
          simp only [Result.andThen]
          cases b1
          ·simp
          ·simpa using ih _ _ b2 hr e2
        ·cases h
      ·cases h
    exact key fs.toList 0 ks b h (by simpa using hb)
  ·rename_i n e hu
   cases hs:plainT P d e with
   | none=>rw [hs] at h; cases h
   | some s =>
    rw [hs] at h
    simp only at h
    split at h
    ·rename_i hc
     obtain ⟨hsz,hi⟩:=hc
     simp only [Option.some.injEq] at h
     subst h
     have ha:isAggT P t=true:=by simp [isAggT,hu]
     simp only [valOf,ha,if_true]
     cases hinf:P.info? e with
     | none=>exact absurd hinf hi
     | some inf =>
     rw [run_equalIn_array w D us.toArray vs.toArray hu hinf]
     have hone:isAggT P e=false→s.length=1:=fun ha=>plain_len d _ _ hs ha
     have hl:=ceqs_len _ _ _ _ hb
     rw [repN_length] at hl
     have key:∀ (m i:Nat) (b:Bool),i+m=n→ceqs (repN m s) (us.drop (i * s.length)) (vs.drop (i * s.length))=some b →
       (Op.eqItems D e (P.cellsOf e) us.toArray vs.toArray (List.range' i m)).run P w=.ok b w:=by
      intro m
      induction m with
      | zero =>
       intro i b _ hb
       have hb' : b=true:=by
        simp only [repN] at hb
        generalize us.drop (i * s.length)=x at hb; generalize vs.drop (i * s.length)=y at hb
        cases x <;> cases y <;> simp [ceqs] at hb
        exact hb
       subst hb'
       simp [Op.eqItems]
      | succ m ih =>
       intro i b him hb
       simp only [repN] at hb
       obtain ⟨b1,b2,e1,e2,rfl⟩:=ceqs_app _ _ _ _ _ hb
       rw [List.drop_drop,List.drop_drop] at e2
       have hb1:i * s.length+s.length≤n * s.length:=by
        have:=Nat.mul_le_mul_right s.length (show i+1≤n by omega)
        rw [Nat.add_mul] at this; omega
       simp only [List.range'_succ,Op.eqItems,Sem.run_bind,hsz]
       rw [part_valOf hi (hU _ hi) hsz.symm (by omega) hone]
       simp only [Result.andThen]
       rw [part_valOf hi (hU _ hi) hsz.symm (by omega) hone]
       simp only [Result.andThen]
       rw [equalIn_plain hU d e s hs D hD _ _ b1 e1 w]
       simp only [Result.andThen]
       cases b1
       ·simp
       ·have:=ih (i+1) b2 (by omega) (by rw [Nat.add_mul,Nat.one_mul]; exact e2)
        rw [hsz] at this
        simpa using this
     have:=key n 0 b (by omega) (by simpa using hb)
     rw [List.range_eq_range']
     exact this
    ·cases h
  ·cases h
end Go.Pv
namespace Go.Pv
open Go
section
variable {P:Program} {T:Tab} (hT:TabOK P T) {C:Ctx T} {o:Oper} {a:Act} {w:World} {Y:Nat→Prop} {σ:Sg} {ps:List PV} {st:St} {n id:Nat} {K:PV→Dl→Prop} {lk:Nat→Option Blk}
 (H:SW C w Y σ ps a.tmps.toList st n) (hlk:∀ b x,lk b=some x→lkS st b=some x) (hid:σ id=none∧T.pas≤id) (hU:UndOK P)
theorem guard_scalar {P:Program} {w:World} {op:BinOp} {t:TypeId} {x y:Operand} {u v:Value} (h:∀ cs,u ≠ .agg cs) (h2:u ≠ .nilIface):(eqGuard op t x y u v).run P w=.ok () w:=by
 have e:eqGuard op t x y u v=pure ():=by
  cases u <;> first | exact absurd rfl (h _) | exact absurd rfl h2 | (cases op <;> rfl)
 rw [e]
 simp
theorem int_arith_run {P:Program} {w:World} {op:BinOp} {t:TypeId} {k:IntKind} {m c:Int} (h:isArith op=true):(binOp op t (.int k m) (.int k c)).run P w=.ok (.int k (stdBin op k m c)) w:=by
 cases op <;> simp [isArith] at h <;> simp [binOp,Op.intArith,Op.intBits,stdBin]
theorem int_cmp_run {P:Program} {w:World} {op:BinOp} {t:TypeId} {k:IntKind} {m c:Int} (h:isCmp op=true):(binOp op t (.int k m) (.int k c)).run P w=.ok (.bool (stdCmp op m c)) w:=by
 have e:(m == c)=decide (m=c):=by rw [Bool.eq_iff_iff]; simp
 cases op <;> simp [isCmp] at h <;> simp [binOp,Op.intCmp,stdCmp,e,bne]
theorem bool_run {P:Program} {w:World} {t:TypeId} {b c:Bool} (hu:P.underlying t=some .bool) :
  (binOp .eql t (.bool b) (.bool c)).run P w=.ok (.bool (b == c)) w∧(binOp .neq t (.bool b) (.bool c)).run P w=.ok (.bool (!(b == c))) w:=by
 constructor <;> simp [binOp,run_equal_bool w t b c hu]
theorem plain_bool {P:Program} {t:TypeId}:∀ {d:Nat},plainT P d t=some [1]→isAggT P t=false→P.underlying t=some .bool
 | 0,h,_=>by simp [plainT] at h
 | d+1,h,ha=>by
  unfold plainT at h
  unfold isAggT at ha
  split at h
  all_goals first
   | assumption
   | (cases h; done)
   | (rename_i hu; simp [hu] at ha; done)
theorem ptr_run {P:Program} {w:World} {t e:TypeId} {p q:Option Addr} (hu:P.underlying t=some (.pointer e)) (h:p=none∨q=none) :
  (binOp .eql t (.pointer p) (.pointer q)).run P w=.ok (.bool (p.isNone && q.isNone)) w∧(binOp .neq t (.pointer p) (.pointer q)).run P w=.ok (.bool (!(p.isNone && q.isNone))) w:=by
 have key:(Op.equal t (.pointer p) (.pointer q)).run P w=.ok (p.isNone && q.isNone) w:=by
  unfold Op.equal Op.maxDepth
  unfold Op.equalIn
  simp only [Sem.run_bind,run_und hu,Result.andThen]
  rcases h with rfl | rfl
  ·cases q <;> simp
  ·cases p <;> simp
 constructor <;> simp [binOp,key]
theorem nilslice_run {P:Program} {w:World} {t e:TypeId} {x:Option Addr} {len cap:Nat} (hu:P.underlying t=some (.slice e)) :
  (binOp .eql t (.slice x len cap) (.slice none 0 0)).run P w=.ok (.bool x.isNone) w∧(binOp .neq t (.slice x len cap) (.slice none 0 0)).run P w=.ok (.bool (!x.isNone)) w:=by
 have key:(Op.equal t (.slice x len cap) (.slice none 0 0)).run P w=.ok x.isNone w:=by
  unfold Op.equal Op.maxDepth
  unfold Op.equalIn
  simp only [Sem.run_bind,run_und hu,Result.andThen]
  cases x <;> simp
 constructor <;> simp [binOp,key]
theorem nilC_eq {x:Operand} (h:nilC x=true):x=.const (.slice none 0 0):=by
 unfold nilC at h
 split at h
 ·rfl
 ·cases h
include hT H hU in
theorem op_nilq {op:BinOp} {t u:TypeId} {x y:Operand} (ho:o.op=.binOp op t x y u) (hy:nilC y=true) (h:opE T (Sig.std P T) (.binOp op t x y u) ps lk id K):Res P C o a w σ ps st n id K:=by
 have hx:=ev_rep H x
 have hy':=nilC_eq hy
 subst hy'
 simp only [opE] at h
 rw [hy] at h
 simp only at h
 split at h
 ·rename_i agg size z plain sz bytes z' e
  obtain ⟨el,hu,_⟩:=tab_slice hT e
  split at h
  ·rename_i sz' es full hp
   rw [hp] at hx
   unfold Rep at hx
   obtain ⟨ad,len,cap,ev,hl,_,_,hes⟩:=hx
   have hb:=h ad.isNone (fun hn=>by
    rcases hes with h | ⟨b,o',e,_⟩
    ·exact h
    ·rw [e] at hn; cases hn)
   have hev:a.eval (.const (.slice none 0 0))=.slice none 0 0:=rfl
   obtain ⟨r1,r2⟩:=nilslice_run (P:=P) (w:=w) (x:=ad) (len:=len) (cap:=cap) hu
   have n1:∀ cs,a.eval x ≠ .agg cs:=by rw [ev]; intro cs e; cases e
   have n2:a.eval x ≠ .nilIface:=by rw [ev]; intro e; cases e
   have fin:∀ {v:PV} {cv:Value},(binOp op t (a.eval x) (a.eval (.const (.slice none 0 0)))).run P w=.ok cv w→Rep w Y σ v cv→K v []→Res P C o a w σ ps st n id K:=by
    intro v cv hr hv hK
    refine Res.quiet H (cv:=cv) ?_ hv hK
    simp [execOp,ho,guard_scalar n1 n2,hr]
   unfold eqL at hb
   cases g1:isEql op with
   | true =>
    rw [g1] at hb
    have:op=.eql:=by cases op <;> simp [isEql] at g1 <;> rfl
    subst this
    exact fin (by rw [ev,hev]; exact r1) (by simp [Rep]) hb
   | false =>
    rw [g1] at hb
    cases g2:isNeq op with
    | true =>
     rw [g2] at hb
     have:op=.neq:=by cases op <;> simp [isNeq] at g2 <;> rfl
     subst this
     cases hn:ad.isNone with
     | true=>rw [hn] at hb r2; exact fin (by rw [ev,hev]; exact r2) (by simp [Rep]) hb
     | false=>rw [hn] at hb r2; exact fin (by rw [ev,hev]; exact r2) (by simp [Rep]) hb
    | false=>rw [g2] at hb; exact hb.elim
  ·exact h.elim
 ·exact h.elim
include hT H hU in
theorem op_binOp {op:BinOp} {t u:TypeId} {x y:Operand} (ho:o.op=.binOp op t x y u) (h:opE T (Sig.std P T) (.binOp op t x y u) ps lk id K):Res P C o a w σ ps st n id K:=by
 cases hnil:nilC y with
 | true=>exact op_nilq hT H hU ho hnil h
 | false =>
 have hx:=ev_rep H x
 have hy:=ev_rep H y
 simp only [opE] at h
 rw [hnil] at h
 simp only at h
 generalize evL T ps x=p at hx h
 generalize evL T ps y=q at hy h
 have fin:∀ {v:PV} {cv:Value},(∀ cs,a.eval x ≠ .agg cs)→a.eval x ≠ .nilIface→(binOp op t (a.eval x) (a.eval y)).run P w=.ok cv w→Rep w Y σ v cv→K v []→Res P C o a w σ ps st n id K:=by
  intro v cv h1 h2 hr hv hK
  refine Res.quiet H (cv:=cv) ?_ hv hK
  simp [execOp,ho,guard_scalar h1 h2,hr]
 have special:∀ {k k' : IntKind} {m c:Int},a.eval x=.int k m→a.eval y=.int k' c→binS (Sig.std P T) op k m k' c (fun v=>K v [])→Res P C o a w σ ps st n id K:=by
  intro k k' m c e1 e2 h
  have n1:∀ cs,a.eval x ≠ .agg cs:=by rw [e1]; intro cs e; cases e
  have n2:a.eval x ≠ .nilIface:=by rw [e1]; intro e; cases e
  unfold binS at h
  split at h
  ·obtain ⟨h0,h⟩:=h
   refine fin n1 n2 ?_ (by simp [Rep]; rfl) h
   rw [e1,e2]
   have:¬ c<0:=by omega
   simp [binOp,Op.shift,this]
  ·obtain ⟨h0,h⟩:=h
   refine fin n1 n2 ?_ (by simp [Rep]; rfl) h
   rw [e1,e2]
   have:¬ c<0:=by omega
   simp [binOp,Op.shift,this]
  ·cases hk:kindEq k k' with
   | false=>rw [hk] at h; exact h.elim
   | true =>
    rw [hk] at h
    have:=kindEq_eq hk; subst this
    obtain ⟨h0,h⟩:=h
    refine fin n1 n2 ?_ (by simp [Rep]; rfl) h
    rw [e1,e2]
    simp [binOp,Op.intDiv,h0]
  ·cases hk:kindEq k k' with
   | false=>rw [hk] at h; exact h.elim
   | true =>
    rw [hk] at h
    have:=kindEq_eq hk; subst this
    obtain ⟨h0,h⟩:=h
    refine fin n1 n2 ?_ (by simp [Rep]; rfl) h
    rw [e1,e2]
    simp [binOp,Op.intDiv,h0]
  ·exact h.elim
 have intsAll:∀ {k k' : IntKind} {m c:Int} (mk:Int→PV) (mb:Bool→PV),(∀ v,Rep w Y σ (mk v) (.int k v))→(∀ b,Rep w Y σ (mb b) (.bool b))→a.eval x=.int k m→a.eval y=.int k' c →
   (bif isSpec op then binS (Sig.std P T) op k m k' c (fun v=>K v []) else bif kindEq k k' then (bif isArith op then K (mk (stdBin op k m c)) [] else bif isCmp op then K (mb (stdCmp op m c)) [] else False) else False)→Res P C o a w σ ps st n id K:=by
  intro k k' m c mk mb h1 h2 e1 e2 h
  cases hs:isSpec op with
  | true=>rw [hs] at h; exact special e1 e2 h
  | false =>
  rw [hs] at h
  simp only [cond_false] at h
  cases hk:kindEq k k' with
  | false=>rw [hk] at h; exact h.elim
  | true =>
   rw [hk] at h
   have:=kindEq_eq hk; subst this
   simp only [cond_true] at h
   have n1:∀ cs,a.eval x ≠ .agg cs:=by rw [e1]; intro cs e; cases e
   have n2:a.eval x ≠ .nilIface:=by rw [e1]; intro e; cases e
   cases ha:isArith op with
   | true =>
    rw [ha] at h
    exact fin n1 n2 (by rw [e1,e2]; exact int_arith_run ha) (h1 _) h
   | false =>
    rw [ha] at h
    cases hc:isCmp op with
    | true =>
     rw [hc] at h
     exact fin n1 n2 (by rw [e1,e2]; exact int_cmp_run hc) (h2 _) h
    | false=>rw [hc] at h; exact h.elim
 have eqs:∀ {b:Bool},(∀ {v:PV} {cv:Value},(binOp op t (a.eval x) (a.eval y)).run P w=.ok cv w→Rep w Y σ v cv→K v []→Res P C o a w σ ps st n id K) →
   (binOp .eql t (a.eval x) (a.eval y)).run P w=.ok (.bool b) w→(binOp .neq t (a.eval x) (a.eval y)).run P w=.ok (.bool (!b)) w→eqK (Sig.std P T) op b (fun v=>K v [])→Res P C o a w σ ps st n id K:=by
  intro b fin e1 e2 hh
  unfold eqK at hh
  cases h1:isEql op with
  | true =>
   rw [h1] at hh
   have:op=.eql:=by cases op <;> simp [isEql] at h1 <;> rfl
   subst this
   exact fin e1 (by simp [Rep]) hh
  | false =>
   rw [h1] at hh
   cases h2:isNeq op with
   | true =>
    rw [h2] at hh
    have:op=.neq:=by cases op <;> simp [isNeq] at h2 <;> rfl
    subst this
    exact fin e2 (by simp [Rep,Sig.std]) hh
   | false=>rw [h2] at hh; exact hh.elim
 split at h
 ·rename_i ti agg size z plain kind e
  unfold binE at h
  split at h
  ·exact intsAll (fun v=>.int _ v) (fun b=>.bool b) (fun v=>by simp [Rep]) (fun b=>by simp [Rep]) (rep_int hx) (rep_int hy) h
  ·rename_i s1 s2
   have e1:=rep_str hx; have e2:=rep_str hy
   have n1:∀ cs,a.eval x ≠ .agg cs:=by rw [e1]; intro cs e; cases e
   have n2:a.eval x ≠ .nilIface:=by rw [e1]; intro e; cases e
   cases h1:isAdd op with
   | true =>
    rw [h1] at h
    have:op=.add:=by cases op <;> simp [isAdd] at h1 <;> rfl
    subst this
    obtain ⟨hle,h⟩:=h
    refine fin n1 n2 (cv:=.string (s1 ++ s2)) ?_ (by simp [Rep]) h
    rw [e1,e2]
    have hb:¬ (((s1.size+s2.size:Nat):Int) > IntKind.i64.max):=by
     have:IntKind.i64.max=9223372036854775807:=by decide
     rw [this]; omega
    simp only [binOp,Op.stringOp]
    rw [if_neg hb]
    simp
   | false =>
    rw [h1] at h
    cases h2:isCmp op with
    | true =>
     rw [h2] at h
     refine fin n1 n2 (cv:=.bool (stdScmp op s1 s2)) ?_ (by simp [Rep]; rfl) h
     rw [e1,e2]
     cases op <;> simp [isCmp] at h2 <;> simp [binOp,Op.stringOp,stdScmp,bytes_beq]
    | false=>rw [h2] at h; exact h.elim
  ·rename_i xs ys
   split at h
   ·rename_i size z ks kind e
    split at h
    ·rename_i b hb
     obtain ⟨i,d,h1,h2,h3,h4,h5,h6,h7,h8⟩:=tab_open hT e rfl
     simp only at h7 h4
     have hg:P.eqGuardType P.depth t=false:=by
      cases hg:P.eqGuardType P.depth t with
      | true=>rw [hg] at h7; simp at h7
      | false=>rfl
     rw [hg] at h7
     simp only [Bool.false_eq_true,if_false] at h7
     unfold Rep at hx hy
     obtain ⟨us,e1,hu⟩:=hx
     obtain ⟨vs,e2,hv⟩:=hy
     have hc:=eqCs_ceqs ks xs ys us vs b hb hu hv
     have heq:=equalIn_plain hU 20 t ks h7.symm 10000 (by omega) us vs b hc w
     rw [show valOf P t us=.agg us.toArray by simp [valOf,← h4],show valOf P t vs=.agg vs.toArray by simp [valOf,← h4]] at heq
     refine eqs (b:=b) (fun {v cv} hr hv hK=>Res.quiet H (cv:=cv) ?_ hv hK) ?_ ?_ h
     ·rw [e1,e2] at hr
      simp [execOp,ho,e1,e2,run_eqGuard_agg w op t x y us.toArray vs.toArray hg,hr]
     ·rw [e1,e2,run_eql_struct,heq]; rfl
     ·rw [e1,e2,run_neq_struct,heq]; rfl
    ·exact h.elim
   ·exact h.elim
  ·split at h
   ·rename_i k m k' c h1 h2
    exact intsAll (fun v=>.si _ v) (fun b=>.sb b) (fun v=>by simp [Rep]) (fun b=>by simp [Rep]) (rep_intV hx h1) (rep_intV hy h2) h
   ·split at h
    ·rename_i b c h1 h2
     have e1:=rep_boolV hx h1; have e2:=rep_boolV hy h2
     have n1:∀ cs,a.eval x ≠ .agg cs:=by rw [e1]; intro cs e; cases e
     have n2:a.eval x ≠ .nilIface:=by rw [e1]; intro e; cases e
     split at h
     ·rename_i size2 z2 kind2 e3
      obtain ⟨i,d,g1,g2,g3,g4,g5,g6,g7,g8⟩:=tab_open hT e3 rfl
      simp only at g7 g4
      have hg:P.eqGuardType P.depth t=false:=by
       cases hg:P.eqGuardType P.depth t with
       | true=>rw [hg] at g7; simp at g7
       | false=>rfl
      rw [hg] at g7
      simp only [Bool.false_eq_true,if_false] at g7
      have hu:=plain_bool g7.symm g4.symm
      obtain ⟨r1,r2⟩:=bool_run (P:=P) (w:=w) (b:=b) (c:=c) hu
      exact eqs (b:=b == c) (fun {v cv} hr hv hK=>fin n1 n2 hr hv hK) (by rw [e1,e2]; exact r1) (by rw [e1,e2]; exact r2) h
     ·exact h.elim
    ·split at h
     ·rename_i agg2 size2 z2 plain2 e3
      obtain ⟨e,hu⟩:=tab_ptr hT e3
      have nilq:∀ (r:PV) (v:Value),isNilP r=true→Rep w Y σ r v→v=.pointer none:=by
       intro r v h1 h2; cases r <;> simp [isNilP] at h1; unfold Rep at h2; exact h2
      have ptrq:∀ (r:PV) (v:Value),isPtrP r=true→Rep w Y σ r v→∃ x,v=.pointer (some x):=by
       intro r v h1 h2; cases r <;> simp [isPtrP] at h1 <;> unfold Rep at h2
       ·obtain ⟨_,_,e⟩:=h2; exact ⟨_,e⟩
       ·obtain ⟨_,_,e⟩:=h2; exact ⟨_,e⟩
       ·obtain ⟨_,_,e,_⟩:=h2; exact ⟨_,e⟩
       ·exact ⟨_,h2⟩
      have go:∀ (p' q' : Option Addr) (b:Bool),a.eval x=.pointer p'→a.eval y=.pointer q'→(p'=none∨q'=none)→(p'.isNone && q'.isNone)=b→eqL op b (fun v=>K v [])→Res P C o a w σ ps st n id K:=by
       intro p' q' b e1 e2 hn hb hh
       have n1:∀ cs,a.eval x ≠ .agg cs:=by rw [e1]; intro cs e; cases e
       have n2:a.eval x ≠ .nilIface:=by rw [e1]; intro e; cases e
       obtain ⟨r1,r2⟩:=ptr_run (P:=P) (w:=w) hu hn
       rw [hb] at r1 r2
       clear h
       unfold eqL at hh
       cases g1:isEql op with
       | true =>
        rw [g1] at hh
        have:op=.eql:=by cases op <;> simp [isEql] at g1 <;> rfl
        subst this
        exact fin n1 n2 (by rw [e1,e2]; exact r1) (by simp [Rep]) hh
       | false =>
        rw [g1] at hh
        cases g2:isNeq op with
        | true =>
         rw [g2] at hh
         have:op=.neq:=by cases op <;> simp [isNeq] at g2 <;> rfl
         subst this
         cases b with
         | true=>exact fin n1 n2 (by rw [e1,e2]; exact r2) (by simp [Rep]) hh
         | false=>exact fin n1 n2 (by rw [e1,e2]; exact r2) (by simp [Rep]) hh
        | false=>rw [g2] at hh; exact hh.elim
      cases c1:(isNilP p && isNilP q) with
      | true =>
       rw [c1] at h
       rw [Bool.and_eq_true] at c1
       exact go none none true (nilq _ _ c1.1 hx) (nilq _ _ c1.2 hy) (.inl rfl) rfl h
      | false =>
       rw [c1] at h
       simp only [cond_false] at h
       cases c2:((isNilP p && isPtrP q) || (isPtrP p && isNilP q)) with
       | true =>
        rw [c2] at h
        rw [Bool.or_eq_true,Bool.and_eq_true,Bool.and_eq_true] at c2
        rcases c2 with ⟨d1,d2⟩ | ⟨d1,d2⟩
        ·obtain ⟨z,ez⟩:=ptrq _ _ d2 hy
         exact go none (some z) false (nilq _ _ d1 hx) ez (.inl rfl) rfl h
        ·obtain ⟨z,ez⟩:=ptrq _ _ d1 hx
         exact go (some z) none false ez (nilq _ _ d2 hy) (.inr rfl) rfl h
       | false=>rw [c2] at h; exact h.elim
     ·exact h.elim
 ·exact h.elim
end
end Go.Pv
namespace Go.Pv
open Go
theorem fill_rep {w:World} {Y:Nat→Prop} {σ:Sg} (place:Nat→Option (Nat × Nat)):∀ (parts:List (Nat × PV)) (vparts:List (Nat × Value)) (cells:List PV) (vcells:Array Value) (cs:List PV),
  (parts.length=vparts.length∧∀ (i:Nat) (p:Nat × PV) (v:Nat × Value),parts[i]?=some p→vparts[i]?=some v→p.1=v.1∧Rep w Y σ p.2 v.2) →
  RepL w Y σ cells vcells.toList→fillV place cells parts=some cs→(∀ p∈parts,p.2 ≠ .top)→∃ vcs:Array Value,Instr.fill place vcells vparts=some vcs∧RepL w Y σ cs vcs.toList
 | [],vparts,cells,vcells,cs,hp,hc,h,_=>by
  have:vparts=[]:=by have:=hp.1; simp at this; exact List.eq_nil_of_length_eq_zero this.symm
  subst this
  simp [fillV] at h; subst h
  exact ⟨vcells,rfl,hc⟩
 | (i,p)::parts,[],cells,vcells,cs,hp,hc,h,_=>by simp at hp
 | (i,p)::parts,(j,v)::vparts,cells,vcells,cs,hp,hc,h,hnt=>by
  obtain ⟨hl,hp⟩:=hp
  have h0:=hp 0 _ _ rfl rfl
  simp only at h0
  obtain ⟨rfl,hrep⟩:=h0
  simp only [fillV] at h
  simp only [Instr.fill]
  split at h
  ·cases h
  ·rename_i off size hpl
   rw [hpl]
   simp only
   cases hb:(Nat.beq (lenL (cellsV p)) size && Nat.ble (off+size) (lenL cells)) with
   | false=>rw [hb] at h; cases h
   | true =>
    rw [hb] at h
    simp only [cond_true] at h
    simp only [Bool.and_eq_true,lenL_eq] at hb
    have h1:=Nat.eq_of_beq_eq_true hb.1
    have h2:=Nat.le_of_ble_eq_true hb.2
    have hcv:=cellsV_rep hrep (hnt (i,p) (by simp))
    have hlen:=hcv.length
    have hlen2:=hc.length
    rw [Array.length_toList] at hlen hlen2
    have hcond:¬ (v.cells.size ≠ size || decide (off+v.cells.size > vcells.size))=true:=by
     simp; omega
    rw [if_neg hcond]
    have key:∀ (ps:List PV) (us:List Value) (k:Nat) (cells:List PV) (vcells:Array Value),RepL w Y σ ps us→RepL w Y σ cells vcells.toList →
      RepL w Y σ (writeL cells (off+k) ps) ((us.zipIdx k).foldl (fun cs (x:Value × Nat)=>cs.setIfInBounds (off+x.2) x.1) vcells).toList:=by
     intro ps
     induction ps with
     | nil =>
      intro us k cells vcells h1 h2; unfold RepL at h1; subst h1; have:writeL cells (off+k) []=cells:=by cases cells <;> simp [writeL]
      rw [this]; simpa using h2
     | cons q ps ih =>
      intro us k cells vcells h1 h2
      unfold RepL at h1; obtain ⟨u,us',rfl,h1,h3⟩:=h1
      have:=ih us' (k+1) (setL cells (off+k) q) (vcells.setIfInBounds (off+k) u) h3 (by
       rw [Array.toList_setIfInBounds]; exact RepL.set h1 _ _ _ h2)
      have e:writeL cells (off+k) (q::ps)=writeL (setL cells (off+k) q) (off+(k+1)) ps:=by cases cells <;> rfl
      rw [e]
      simpa using this
    refine fill_rep place parts vparts _ _ cs ⟨by simpa using hl,fun n p' v' e1 e2=>hp (n+1) p' v' (by simpa using e1) (by simpa using e2)⟩ ?_ h (fun p hp=>hnt p (by simp [hp]))
    have:=key (cellsV p) v.cells.toList 0 cells vcells hcv hc
    have e:v.cells.zipIdx.foldl (fun cs (x:Value × Nat)=>cs.setIfInBounds (off+x.2) x.1) vcells=(v.cells.toList.zipIdx 0).foldl (fun cs (x:Value × Nat)=>cs.setIfInBounds (off+x.2) x.1) vcells:=by
     rw [← Array.foldl_toList,Array.toList_zipIdx]
    simp only [Nat.add_zero] at this
    rw [← e] at this
    exact this
theorem evP_spec {T:Tab} {C:Ctx T} {w:World} {Y:Nat→Prop} {σ:Sg} {ps:List PV} {a:Act} {st:St} {n:Nat} (h:SW C w Y σ ps a.tmps.toList st n):∀ (l:List (Nat × Operand)),
  (evP T ps l).length=(l.map fun x=>(x.1,a.eval x.2)).length∧∀ (i:Nat) (p:Nat × PV) (v:Nat × Value),(evP T ps l)[i]?=some p→(l.map fun x=>(x.1,a.eval x.2))[i]?=some v→p.1=v.1∧Rep w Y σ p.2 v.2
 | []=>by simp [evP]
 | (j,x)::l=>by
  obtain ⟨h1,h2⟩:=evP_spec h l
  refine ⟨by simp [evP,h1],fun i p v e1 e2=>?_⟩
  cases i with
  | zero=>simp [evP] at e1 e2; subst e1; subst e2; exact ⟨rfl,ev_rep h x⟩
  | succ i=>simp [evP] at e1 e2; exact h2 i p v e1 (by simpa using e2)
theorem noTop_spec:∀ l,noTop l=true→∀ p∈l,p.2 ≠ PV.top
 | [],_,p,hp=>by simp at hp
 | (i,q)::l,h,p,hp=>by
  have hq:q ≠ .top:=by intro e; subst e; simp [noTop] at h
  have hl:noTop l=true:=by cases q <;> simp_all [noTop]
  rcases List.mem_cons.1 hp with rfl | hp
  ·exact hq
  ·exact noTop_spec l hl p hp
end Go.Pv
namespace Go.Pv
open Go
theorem applyD_app:∀ (δ:Dl) (st:St) (e:Nat × Option Blk),applyD (δ ++ [e]) st=inS (applyD δ st) e.1 e.2
 | [],_,_=>rfl
 | d::δ,st,e=>by simp only [List.cons_append,applyD]; exact applyD_app δ _ e
theorem nextI_app (δ:Dl) (e:Nat × Option Blk) (n id:Nat):nextI (δ ++ [e]) n id=max n (id+1):=by cases δ <;> rfl
theorem repL_length:∀ (n:Nat) (l:List PV),(repL n l).length=n * l.length
 | 0,l=>by simp [repL]
 | n+1,l=>by simp [repL,repL_length n l,Nat.add_mul]; omega
theorem repL_get:∀ (n:Nat) (l:List PV) (i:Nat),i<n * l.length→(repL n l)[i]?=l[i % l.length]?
 | 0,l,i,h=>by simp at h
 | n+1,l,i,h=>by
  simp only [repL,appL_eq]
  by_cases h1:i<l.length
  ·rw [List.getElem?_append_left h1,Nat.mod_eq_of_lt h1]
  ·rw [List.getElem?_append_right (by omega),repL_get n l (i - l.length) (by rw [Nat.add_mul] at h; omega)]
   congr 1
   rw [Nat.mod_eq_sub_mod (by omega:i ≥ l.length)]
theorem chunks_length (sz:Nat):∀ (n:Nat) (l:List PV),(chunks sz n l).length=n
 | 0,_=>rfl
 | n+1,l=>by simp [chunks,chunks_length sz n]
theorem RepC.chunks {w:World} {Y:Nat→Prop} {σ:Sg} {b sz:Nat}:∀ (n:Nat) (l:List PV) (o:Nat),RepC w Y σ b l o→allCell l=true→n * sz≤l.length→RepR w Y σ b sz (chunks sz n l) o
 | 0,l,o,_,_,_=>by simp [Pv.chunks,RepR]
 | n+1,l,o,h,ha,hle=>by
  rw [Nat.add_mul] at hle
  simp only [Pv.chunks,takeL_eq,dropL_eq]
  unfold RepR
  refine ⟨⟨by simp; omega,?_⟩,h.take sz _ _,RepC.chunks n _ _ (h.drop sz _ _) ?_ (by simp; omega)⟩
  ·rw [allCell_iff] at ha ⊢; exact fun p hp=>ha p (List.mem_of_mem_take hp)
  ·rw [allCell_iff] at ha ⊢; exact fun p hp=>ha p (List.mem_of_mem_drop hp)
theorem fillV_len (place:Nat→Option (Nat × Nat)):∀ (parts:List (Nat × PV)) (cells cs:List PV),fillV place cells parts=some cs→cs.length=cells.length
 | [],cells,cs,h=>by simp [fillV] at h; rw [h]
 | (i,v)::parts,cells,cs,h=>by
  simp only [fillV] at h
  split at h
  ·cases h
  ·rename_i off size _
   cases hb:(Nat.beq (lenL (cellsV v)) size && Nat.ble (off+size) (lenL cells)) with
   | false=>rw [hb] at h; cases h
   | true =>
    rw [hb] at h
    rw [fillV_len place parts _ cs h,writeL_len]
theorem pur_len {S:Sig} {lk:Nat→Option Blk}:∀ (ps ps' : List PV) (δ:Dl),pur S lk ps=some (ps',δ)→ps'.length=ps.length
 | [],ps',δ,h=>by simp [pur] at h; simp [← h.1]
 | p::ps,ps',δ,h=>by
  unfold pur at h
  cases hp:pur S lk ps with
  | none=>rw [hp] at h; cases h
  | some r =>
   obtain ⟨qs,d⟩:=r
   rw [hp] at h
   simp only at h
   have ih:=pur_len ps qs d hp
   split at h
   ·split at h
    ·cases h; simp [ih]
    ·cases h
   all_goals first
    | (cases h; done)
    | (cases h; simp [ih])
theorem pur_cell {S:Sig} {lk:Nat→Option Blk} (ps ps' : List PV) (δ:Dl) (h:pur S lk ps=some (ps',δ)):allCell ps'=true∧allCell ps=true:=pur_cell0 ps ps' δ h
section
variable {P:Program} {T:Tab} (hT:TabOK P T) {C:Ctx T} {o:Oper} {a:Act} {w:World} {Y:Nat→Prop} {σ:Sg} {ps:List PV} {st:St} {n id:Nat} {K:PV→Dl→Prop} {lk:Nat→Option Blk}
 (H:SW C w Y σ ps a.tmps.toList st n) (hlk:∀ b x,lk b=some x→lkS st b=some x) (hid:σ id=none∧T.pas≤id) (hU:UndOK P)
include hT H in
theorem op_build {t:TypeId} {parts:Array (Nat × Operand)} (ho:o.op=.build t parts) (hall:∀ fs:Array Field,P.underlying t=some (.struct fs)→∀ f∈fs.toList,P.info? f.type ≠ none)
  (helem:∀ k e,P.underlying t=some (.array k e)→P.info? e ≠ none) (h:opE T (Sig.std P T) (.build t parts) ps lk id K):Res P C o a w σ ps st n id K:=by
 have hp:=evP_spec H parts.toList
 have hparts:(parts.map fun (x:Nat × Operand)=>(x.1,a.eval x.2)).toList=parts.toList.map fun x=>(x.1,a.eval x.2):=by simp
 simp only [opE] at h
 split at h
 ·rename_i agg size z plain fs e
  obtain ⟨fl,hu,rfl,hz⟩:=tab_struct hT e
  obtain ⟨zv,hzr,hzrep⟩:=zero_rep hz.symm
  cases hb:noTop (evP T ps parts.toList) with
  | false=>rw [hb] at h; exact h.elim
  | true =>
   rw [hb] at h
   simp only [cond_true] at h
   split at h
   ·rename_i cs hf
    have hinf:=hall fl hu
    have places:(fl.mapM fun f=>(do pure (f.offset,← sizeOf f.type):Sem (Nat × Nat))).run P w=.ok (fl.map fun f=>(f.offset,P.cellsOf f.type)) w:=by
     have key:∀ (l:List Field),(∀ f∈l,P.info? f.type ≠ none)→(l.mapM fun f=>(do pure (f.offset,← sizeOf f.type):Sem (Nat × Nat))).run P w=.ok (l.map fun f=>(f.offset,P.cellsOf f.type)) w:=by
      intro l
      induction l with
      | nil=>intro _; simp
      | cons f l ih =>
       intro hl
       rw [List.mapM_cons]
       simp only [Sem.run_bind,run_sizeOf (hl f (by simp)),Result.andThen,Sem.run_pure,ih (fun g hg=>hl g (by simp [hg]))]
       simp
     rw [Array.mapM_eq_mapM_toList]
     simp only [Sem.run_bind,map_eq_pure_bind]
     rw [key fl.toList hinf]
     simp only [Result.andThen,Sem.run_pure]
     congr 1
     apply Array.ext'
     simp
    obtain ⟨vcs,hfill,hrep⟩:=fill_rep (w:=w) (Y:=Y) (σ:=σ) _ (evP T ps parts.toList) (parts.toList.map fun x=>(x.1,a.eval x.2)) z zv.cells cs hp (hzrep w Y σ) hf (noTop_spec _ hb)
    have hplace:fldPlace (fl.toList.map fun f=>({ off:=f.offset,size:=P.cellsOf f.type,agg:=isAggT P f.type }:FI))=((fl.map fun f=>(f.offset,P.cellsOf f.type))[·]?):=by
     funext i
     unfold fldPlace
     rw [fieldOf_eq,List.getElem?_map,Array.getElem?_map,← Array.getElem?_toList]
     cases fl.toList[i]? <;> rfl
    rw [hplace] at hfill
    refine Res.quiet H (cv:=.agg vcs) ?_ (by unfold Rep; exact ⟨vcs.toList,by simp,hrep⟩) h
    simp only [execOp,ho,Instr.build,Sem.run_bind,hzr,Result.andThen,run_und hu,places,hparts,hfill]
    simp
   ·exact h.elim
 ·rename_i agg size z plain k esz ag e
  obtain ⟨et,hu,rfl,_,hz⟩:=tab_arr hT e
  obtain ⟨zv,hzr,hzrep⟩:=zero_rep hz.symm
  cases hb:noTop (evP T ps parts.toList) with
  | false=>rw [hb] at h; exact h.elim
  | true =>
   rw [hb] at h
   simp only [cond_true] at h
   split at h
   ·rename_i cs hf
    obtain ⟨vcs,hfill,hrep⟩:=fill_rep (w:=w) (Y:=Y) (σ:=σ) _ (evP T ps parts.toList) (parts.toList.map fun x=>(x.1,a.eval x.2)) z zv.cells cs hp (hzrep w Y σ) hf (noTop_spec _ hb)
    refine Res.quiet H (cv:=.agg vcs) ?_ (by unfold Rep; exact ⟨vcs.toList,by simp,hrep⟩) h
    simp only [execOp,ho,Instr.build,Sem.run_bind,hzr,Result.andThen,run_und hu,run_sizeOf (helem _ _ hu),hparts,hfill]
    simp
   ·exact h.elim
 ·exact h.elim
theorem SW.newArrX (H:SW C w Y σ ps a.tmps.toList st n) (hid:σ id=none∧T.pas≤id) {arr:Array Value} {rows:List (List PV)} {sz m:Nat} {x:Blk} (hx:x=.arr false sz rows∨(x=.nar sz rows∧∀ (r:Nat) (row:List PV) (c:Nat) (h:Hdr) (sz' : Nat) (es:List (List PV)),rows[r]?=some row→row[c]?=some (PV.ow h sz' es)→es=[]))
  (ty:TypeId) (hpos:0<sz) (hm:rows.length≤m) (harr:arr.size=m * sz)
  (hrows:∀ (w' : World) (Y' : Nat→Prop),(∀ p v,Rep w Y noSg p v→Rep w' Y' noSg p v)→w'.heap[w.heap.size]?=some (.cells arr ty (0,0))→RepR w' Y' noSg w.heap.size sz rows 0) :
  ∃ Y' σ',SW C (w.alloc (.cells arr ty)) Y' σ' ps a.tmps.toList (inS st id (some x)) (max n (id+1))∧Rep (w.alloc (.cells arr ty)) Y' σ' (.os id 0 rows.length) (.slice (some ⟨w.heap.size,0,none⟩) rows.length m)∧Off id σ σ':=by
 obtain ⟨Y',σ',H',hs,_,_,hoff⟩:=H.alloc hid arr ty ⟨w.heap.size,0,sz,m * sz,rows.length⟩ rfl x (fun sz1 rows1 e=>by
  rcases hx with hx | ⟨hx,hno⟩
  ·rw [hx] at e; cases e
  ·rw [hx] at e; cases e; exact hno) (by
  intro w' Y' σ' _ hY hb hk
  have:=Nat.mul_le_mul_right sz hm
  rcases hx with hx | ⟨hx,_⟩ <;> subst hx <;> unfold BlkRep
  ·exact ⟨⟨_,ty,hb,harr⟩,rfl,hpos,⟨by simpa using this,rfl⟩,hrows w' Y' hk hb,fun _=>hY,fun h=>by cases h⟩
  ·exact ⟨⟨_,ty,hb,harr⟩,rfl,hpos,⟨by simpa using this,rfl⟩,hrows w' Y' hk hb,hY⟩)
 refine ⟨Y',σ',H',?_,hoff⟩
 unfold Rep
 refine .inl ⟨_,m,hs,by simp,hm,by simp,by simp⟩
theorem SW.newArr (H:SW C w Y σ ps a.tmps.toList st n) (hid:σ id=none∧T.pas≤id) {arr:Array Value} {rows:List (List PV)} {sz m:Nat} (ty:TypeId) (hpos:0<sz) (hm:rows.length≤m) (harr:arr.size=m * sz)
  (hrows:∀ (w' : World) (Y' : Nat→Prop),(∀ p v,Rep w Y noSg p v→Rep w' Y' noSg p v)→w'.heap[w.heap.size]?=some (.cells arr ty (0,0))→RepR w' Y' noSg w.heap.size sz rows 0) :
  ∃ Y' σ',SW C (w.alloc (.cells arr ty)) Y' σ' ps a.tmps.toList (inS st id (some (.arr false sz rows))) (max n (id+1))∧Rep (w.alloc (.cells arr ty)) Y' σ' (.os id 0 rows.length) (.slice (some ⟨w.heap.size,0,none⟩) rows.length m)∧Off id σ σ' :=
 SW.newArrX H hid (.inl rfl) ty hpos hm harr hrows
include hT H in
theorem buildSlice_core {t:TypeId} {len:Nat} {parts:Array (Nat × Operand)} {z cs:List PV} {et:TypeId} (ho:o.op=.buildSlice t len parts)
  (hu:P.underlying t=some (.slice et)) (hz:some z=zeroT P et) (hb1:isPos (P.cellsOf et)=true) (hzl:z.length=P.cellsOf et) (hle:len * P.cellsOf et≤16777216) (hb4:noTop (evP T ps parts.toList)=true)
  (hf:fillV (fun i=>some (i * P.cellsOf et,P.cellsOf et)) (repL len z) (evP T ps parts.toList)=some cs) :
  ∃ vcs:Array Value,RepL w Y σ cs vcs.toList∧vcs.size=len * P.cellsOf et∧(execOp a.eval o).run P w=.ok (.value (.slice (some ⟨w.heap.size,0,none⟩) len len)) (w.alloc (.cells vcs et)):=by
 have hp:=evP_spec H parts.toList
 have hparts:(parts.map fun (x:Nat × Operand)=>(x.1,a.eval x.2)).toList=parts.toList.map fun x=>(x.1,a.eval x.2):=by simp
 obtain ⟨zv,hzr,hzrep⟩:=zero_rep hz.symm
 have hinf:=info_of_pos hb1
 have hpos:0<P.cellsOf et:=by
  rcases Nat.eq_zero_or_pos (P.cellsOf et) with h0 | h0
  ·rw [h0] at hb1; simp [isPos] at hb1
  ·exact h0
 let vz:Array Value:=if len * P.cellsOf et=0 then #[] else zv.cells
 have hz0:=hzrep w Y σ
 have hzsz:zv.cells.size=P.cellsOf et:=by have:=hz0.length; rw [Array.length_toList] at this; omega
 have hvz:(if len * P.cellsOf et=0 then pure #[] else do pure (← zeroValue et).cells:Sem (Array Value)).run P w=.ok vz w:=by
  by_cases h0:len * P.cellsOf et=0
  ·simp [h0,vz]
  ·simp only [h0,if_false,Sem.run_bind,hzr,Result.andThen,Sem.run_pure,vz]
 have hcells:RepL w Y σ (repL len z) ((Array.range (len * P.cellsOf et)).map (vz[· % vz.size]!)).toList:=by
  by_cases h0:len * P.cellsOf et=0
  ·have:len=0:=by
    rcases Nat.mul_eq_zero.1 h0 with h | h
    ·exact h
    ·omega
   subst this
   simp [repL,RepL]
  ·have hvz' : vz=zv.cells:=by simp [vz,h0]
   rw [hvz']
   have key:∀ (ps:List PV) (vs:List Value),ps.length=vs.length→(∀ (i:Nat) (p:PV) (v:Value),ps[i]?=some p→vs[i]?=some v→Rep w Y σ p v)→RepL w Y σ ps vs:=by
    intro ps
    induction ps with
    | nil=>intro vs hl _; have:vs=[]:=List.eq_nil_of_length_eq_zero (by simpa using hl.symm); subst this; simp [RepL]
    | cons p ps ih =>
     intro vs hl hh
     cases vs with
     | nil=>simp at hl
     | cons v vs=>unfold RepL; exact ⟨v,vs,rfl,hh 0 p v rfl rfl,ih vs (by simpa using hl) (fun i p' v' h1 h2=>hh (i+1) p' v' (by simpa using h1) (by simpa using h2))⟩
   refine key _ _ (by rw [repL_length]; simp [hzl]) ?_
   intro i p v h1 h2
   have hi:i<len * z.length:=by
    have:i<(repL len z).length:=by
     by_cases hh:i<(repL len z).length
     ·exact hh
     ·rw [List.getElem?_eq_none (Nat.le_of_not_lt hh)] at h1; cases h1
    rwa [repL_length] at this
   rw [repL_get len z i hi] at h1
   have hmod:i % z.length<zv.cells.size:=by rw [hzsz,← hzl]; exact Nat.mod_lt _ (by omega)
   obtain ⟨u,hu1,hu2⟩:=hz0.get? h1
   have:v=u:=by
    simp at h2
    obtain ⟨i',hi',h2⟩:=h2
    have:i'=i:=by
     rw [List.getElem?_range (by rw [← hzl]; exact hi)] at hi'
     exact (Option.some.inj hi').symm
    subst this
    rw [← h2]
    rw [Array.getElem?_toList] at hu1
    rw [hzsz,← hzl]
    simp [getElem!_def,hu1]
   rw [this]; exact hu2
 obtain ⟨vcs,hfill,hrep⟩:=fill_rep (w:=w) (Y:=Y) (σ:=σ) _ (evP T ps parts.toList) (parts.toList.map fun x=>(x.1,a.eval x.2)) (repL len z) _ cs hp hcells hf (noTop_spec _ hb4)
 have hvl:vcs.size=len * P.cellsOf et:=by
  have:=hrep.length; rw [Array.length_toList,fillV_len _ _ _ _ hf,repL_length,hzl] at this; omega
 refine ⟨vcs,hrep,hvl,?_⟩
 simp only [execOp,ho,Instr.buildSlice,Sem.run_bind,run_und hu,Result.andThen,run_sizeOf hinf]
 rw [if_neg (by omega)]
 by_cases h0:len * P.cellsOf et=0
 ·have hv0:vz=#[]:=by simp [vz,h0]
  rw [hv0] at hfill
  simp only [h0,if_true,Sem.run_bind,Sem.run_pure,Result.andThen,hparts] at hfill ⊢
  rw [hfill]
  simp [newRow,newObj,Sem.run,Result.andThen]
 ·have hv0:vz=zv.cells:=by simp [vz,h0]
  rw [hv0] at hfill
  simp only [h0,if_false,Sem.run_bind,hzr,Sem.run_pure,Result.andThen,hparts] at hfill ⊢
  rw [hfill]
  simp [newRow,newObj,Sem.run,Result.andThen]
include hT H hlk hid in
theorem op_buildSlice {t:TypeId} {len:Nat} {parts:Array (Nat × Operand)} (ho:o.op=.buildSlice t len parts) (h:opE T (Sig.std P T) (.buildSlice t len parts) ps lk id K):Res P C o a w σ ps st n id K:=by
 simp only [opE] at h
 split at h
 ·rename_i agg size z0 plain esz bytes z e
  obtain ⟨et,hu,rfl,_,hz⟩:=tab_slice hT e
  cases hb:(isPos (P.cellsOf et) && Nat.beq (lenL z) (P.cellsOf et) && Nat.ble (len * P.cellsOf et) 16777216 && noTop (evP T ps parts.toList)) with
  | false=>rw [hb] at h; exact h.elim
  | true =>
   rw [hb] at h
   simp only [cond_true] at h
   simp only [Bool.and_eq_true,lenL_eq] at hb
   obtain ⟨⟨⟨hb1,hb2⟩,hb3⟩,hb4⟩:=hb
   have hinf:=info_of_pos hb1
   have hpos:0<P.cellsOf et:=by
    rcases Nat.eq_zero_or_pos (P.cellsOf et) with h0 | h0
    ·rw [h0] at hb1; simp [isPos] at hb1
    ·exact h0
   have hzl:=Nat.eq_of_beq_eq_true hb2
   have hle:=Nat.le_of_ble_eq_true hb3
   split at h
   ·rename_i cs hf
    split at h
    ·rename_i cs0 δ hpur
     obtain ⟨cs',hl2,hc2,hw2,h,_⟩:=wkC_std h
     obtain ⟨vcs,hrep,hvl,hrun⟩:=buildSlice_core hT H ho hu hz hb1 hzl hle hb4 hf
     have hLk:Lk lk st:=fun b ro sz rows h=>⟨ro,hlk _ _ h⟩
     obtain ⟨Y1,H1,hr1,hy1⟩:=pur_sound cs cs0 δ hpur Y st H hLk _ hrep
     have hr1:=hw2 _ _ _ _ hr1
     have hcsl:cs'.length=len * P.cellsOf et:=by rw [hl2,pur_len _ _ _ hpur,fillV_len _ _ _ _ hf,repL_length,hzl]
     have hch:(chunks (P.cellsOf et) len cs').length=len:=chunks_length _ _ _
     obtain ⟨Y2,σ2,H2,hrep2,hoff⟩:=SW.newArr (a:=a) (m:=len) (arr:=vcs) (rows:=chunks (P.cellsOf et) len cs') H1 hid et hpos (by omega) hvl (by
      intro w' Y' hk hb
      refine RepC.chunks len cs' 0 ?_ (hc2 (pur_cell _ _ _ hpur).1) (by omega)
      rw [RepC.iff]
      intro i p hi
      obtain ⟨v,hv,hp'⟩:=hr1.get? hi
      exact ⟨v,by rw [cell_of_block hb]; simpa using hv,hk _ _ hp'⟩)
     rw [hch] at hrep2
     refine ⟨_,_,_,_,Y2,σ2,h,.inl ?_,by rw [applyD_app,nextI_app]; exact H2,hrep2,hoff⟩
     exact hrun
    ·exact h.elim
   ·exact h.elim
 ·exact h.elim
end
end Go.Pv
namespace Go.Pv
open Go
section
variable {P:Program} {T:Tab} (hT:TabOK P T) {C:Ctx T} {o:Oper} {a:Act} {w:World} {Y:Nat→Prop} {σ:Sg} {ps:List PV} {st:St} {n id:Nat} {K:PV→Dl→Prop} {lk:Nat→Option Blk}
 (H:SW C w Y σ ps a.tmps.toList st n) (hlk:∀ b x,lk b=some x→lkS st b=some x) (hid:σ id=none∧T.pas≤id) (hU:UndOK P)
theorem RepL.of_pointwise {w:World} {Y:Nat→Prop} {σ:Sg}:∀ (ps:List PV) (vs:List Value),ps.length=vs.length→(∀ (i:Nat) (p:PV) (v:Value),ps[i]?=some p→vs[i]?=some v→Rep w Y σ p v)→RepL w Y σ ps vs
 | [],vs,hl,_=>by have:vs=[]:=List.eq_nil_of_length_eq_zero (by simpa using hl.symm); subst this; simp [RepL]
 | p::ps,[],hl,_=>by simp at hl
 | p::ps,v::vs,hl,hh=>by
  unfold RepL
  exact ⟨v,vs,rfl,hh 0 p v rfl rfl,RepL.of_pointwise ps vs (by simpa using hl) (fun i p' v' h1 h2=>hh (i+1) p' v' (by simpa using h1) (by simpa using h2))⟩
theorem typeInfo_run {P:Program} {w:World} {t:TypeId} {i:TypeInfo} (h:P.info? t=some i):(typeInfo t).run P w=.ok i w:=by
 simp [typeInfo,program,Sem.run,Result.andThen,h]
theorem bytesOf_eq {P:Program} {t:TypeId} {i:TypeInfo} (h:P.info? t=some i):P.bytesOf t=i.bytes:=by simp [Program.bytesOf,h]
theorem wrap_i64 {m:Int} (h0:0≤m) (h1:m≤9223372036854775807):IntKind.i64.wrap m=m:=by
 have e1:IntKind.i64.bits=64:=rfl
 have e2:IntKind.i64.signed=true:=rfl
 unfold IntKind.wrap
 rw [e1,e2]
 have h2:m % (2:Int) ^ 64=m:=Int.emod_eq_of_lt h0 (by omega)
 simp only [h2,Bool.true_and]
 rw [if_neg]
 simp
 omega
theorem ofCells_noOw:∀ (vs:List Value) (h:Hdr) (sz:Nat) (es:List (List PV)),PV.ow h sz es ∉ ofCells vs
 | [],_,_,_=>by simp [ofCells]
 | v::vs,h,sz,es=>by
  simp only [ofCells,List.mem_cons,not_or]
  refine ⟨?_,ofCells_noOw vs h sz es⟩
  unfold ofCell
  split <;> simp
theorem zero_noOw {P:Program} {e:TypeId} {z:List PV} (hz:zeroT P e=some z) (h:Hdr) (sz:Nat) (es:List (List PV)):PV.ow h sz es ∉ z:=by
 unfold zeroT at hz
 split at hz
 ·split at hz
  ·rename_i zv _
   cases hz
   unfold ofVal
   split
   ·exact ofCells_noOw _ _ _ _
   ·unfold ofCell
    split <;> simp [cellsV]
  ·cases hz
 ·cases hz
theorem newB_cases {P:Program} {T:Tab} {e:TypeId} {z z2:List PV} {sz j:Nat} (hz:zeroT P e=some z) (hn:∀ n,T.nar=n+1→hasSl z=true→z2=owZ n z):newB T.nar sz z ((Sig.std P T).rep j z2)=.arr false sz ((Sig.std P T).rep j z2)∨(newB T.nar sz z ((Sig.std P T).rep j z2)=.nar sz ((Sig.std P T).rep j z2) ∧
  ∀ (r:Nat) (row:List PV) (c:Nat) (h:Hdr) (sz' : Nat) (es:List (List PV)),((Sig.std P T).rep j z2)[r]?=some row→row[c]?=some (PV.ow h sz' es)→es=[]):=by
 unfold newB
 cases hnar:T.nar with
 | zero=>exact .inl rfl
 | succ n =>
  cases hs:hasSl z with
  | false=>exact .inl rfl
  | true =>
   obtain rfl:=hn n hnar hs
   refine .inr ⟨rfl,fun r row c h sz' es hr hc=>?_⟩
   have:row=owZ n z:=by
    have hr:(List.replicate j (owZ n z))[r]?=some row:=hr
    rw [List.getElem?_replicate] at hr
    split at hr
    ·cases hr; rfl
    ·cases hr
   subst this
   exact owZ_empty (fun h sz es=>zero_noOw hz h sz es) c hc
include hT H hid in
theorem op_makeSlice {t:TypeId} {x y:Operand} (ho:o.op=.makeSlice t x y) (h:opE T (Sig.std P T) (.makeSlice t x y) ps lk id K):Res P C o a w σ ps st n id K:=by
 have hx:=ev_rep H x
 have hy:=ev_rep H y
 simp only [opE] at h
 split at h
 ·rename_i agg size z0 plain esz bytes z k1 m1 k2 m2 e hxe hye
  obtain ⟨et,hu,rfl,rfl,hz⟩:=tab_slice hT e
  obtain ⟨zv,hzr,hzrep⟩:=zero_rep hz.symm
  have hxv:=rep_intV hx hxe
  have hyv:=rep_intV hy hye
  cases hb:(isPos (P.cellsOf et) && Nat.beq (lenL z) (P.cellsOf et) && allCell z) with
  | false=>rw [hb] at h; exact h.elim
  | true =>
   rw [hb] at h
   simp only [cond_true] at h
   simp only [Bool.and_eq_true,lenL_eq] at hb
   have hbz:=hb.2
   have hb:=hb.1
   have hinf:=info_of_pos hb.1
   have hpos:0<P.cellsOf et:=by
    rcases Nat.eq_zero_or_pos (P.cellsOf et) with h0 | h0
    ·have:=hb.1; rw [h0] at this; simp [isPos] at this
    ·exact h0
   have hzl:=Nat.eq_of_beq_eq_true hb.2
   obtain ⟨j,rfl,hle,hby,hmax,h⟩:=h
   obtain ⟨z2,hl2,hc2,hw2,h,hn2,_⟩:=wkN_std h
   have hzrep2:∀ w Y σ,RepL w Y σ z2 zv.cells.toList:=fun w Y σ=>hw2 _ _ _ _ (hzrep w Y σ)
   obtain ⟨m,rfl⟩:∃ m:Nat,m2=(m:Int):=⟨m2.toNat,by omega⟩
   cases hi:P.info? et with
   | none=>exact absurd hi hinf
   | some inf =>
   have hbe:=bytesOf_eq hi
   rw [hbe] at hby
   have hz0:=hzrep w Y σ
   have hzsz:zv.cells.size=P.cellsOf et:=by have:=hz0.length; rw [Array.length_toList] at this; omega
   let arr:Array Value:=(Array.range (m * P.cellsOf et)).map (zv.cells[· % zv.cells.size]!)
   have harr:arr.size=m * P.cellsOf et:=by simp [arr]
   have hrepl:((Sig.std P T).rep j z2).length=j:=by simp [Sig.std]
   obtain ⟨Y2,σ2,H2,hrep2,hoff⟩:=SW.newArrX (a:=a) (m:=m) (arr:=arr) (rows:=(Sig.std P T).rep j z2) (x:=newB T.nar (P.cellsOf et) z ((Sig.std P T).rep j z2)) H hid (newB_cases hz.symm hn2) et hpos (by rw [hrepl]; omega) harr (by
    intro w' Y' hk hbl
    rw [RepR.iff]
    intro i r hr
    have hr' : r=z2∧i<j:=by
     have:(Sig.std P T).rep j z2=List.replicate j z2:=rfl
     rw [this,List.getElem?_replicate] at hr
     split at hr
     ·cases hr; exact ⟨rfl,‹_›⟩
     ·cases hr
    obtain ⟨rfl,hij⟩:=hr'
    refine ⟨⟨hl2.trans hzl,hc2 hbz⟩,?_⟩
    rw [RepC.iff]
    intro c p hc
    obtain ⟨v,hv,_⟩:=(hzrep2 w Y noSg).get? hc
    have hrv:=(hzrep2 w Y noSg).get? hc
    obtain ⟨v,hv,hrv⟩:=hrv
    refine ⟨v,?_,hk _ _ hrv⟩
    rw [cell_of_block hbl]
    have hcl:c<P.cellsOf et:=by
     rw [← hzl,← hl2]
     by_cases hh:c<r.length
     ·exact hh
     ·rw [List.getElem?_eq_none (Nat.le_of_not_lt hh)] at hc; cases hc
    have hlt:0+i * P.cellsOf et+c<m * P.cellsOf et:=by
     have:=Nat.mul_le_mul_right (P.cellsOf et) (show i+1≤m by omega)
     rw [Nat.add_mul] at this; omega
    simp only [arr]
    rw [Array.getElem?_map,Array.getElem?_range,if_pos hlt]
    simp only [Option.map_some]
    congr 1
    rw [hzsz]
    have:(0+i * P.cellsOf et+c) % P.cellsOf et=c:=by
     rw [Nat.zero_add,Nat.add_comm,Nat.add_mul_mod_self_right]; exact Nat.mod_eq_of_lt hcl
    rw [this]
    rw [Array.getElem?_toList] at hv
    simp [getElem!_def,hv])
   rw [hrepl] at hrep2
   refine ⟨_,_,_,_,Y2,σ2,h,.inl ?_,H2,hrep2,hoff⟩
   have w1:IntKind.i64.wrap (j:Int)=(j:Int):=wrap_i64 (by omega) (by omega)
   have w2:IntKind.i64.wrap (m:Int)=(m:Int):=wrap_i64 (by omega) (by omega)
   have c1:¬ ((((m:Int)<0 || decide ((inf.bytes:Int) * m > 2 ^ 48)) || decide ((j:Int)<0) || decide ((j:Int) > m))=true):=by
    simp; omega
   have c3:¬ (m * inf.bytes > roomBytes):=by
    unfold roomBytes
    have:((inf.bytes * m:Nat):Int)≤140737488355328:=by simpa using hby
    rw [Nat.mul_comm]; omega
   simp only [execOp,ho,Instr.makeSlice,Sem.run_bind,run_und hu,Result.andThen,hxv,hyv,asInt,run_asIntOf,Sem.run_pure,typeInfo_run hi,w1,w2]
   rw [if_neg c1]
   simp only [askRoom,Int.toNat_natCast]
   rw [if_neg c3]
   simp only [Sem.run_bind,Sem.run_pure,Result.andThen,run_sizeOf hinf]
   by_cases h0:m * P.cellsOf et=0
   ·have:arr=#[]:=by simp [arr,h0]
    rw [if_pos h0]
    simp only [h0,Sem.run_pure,Sem.run_bind,Result.andThen,newRow,newObj]
    rw [show (Array.range 0).map ((#[]:Array Value)[· % (#[]:Array Value).size]!)=arr by rw [this]; simp]
    simp [Sem.run]
   ·rw [if_neg h0]
    simp only [Sem.run_bind,hzr,Sem.run_pure,Result.andThen,newRow,newObj]
    simp [Sem.run,arr]
 ·exact h.elim
theorem goInt_eq (m:Int):goInt m=.int .i64 m:=rfl
include H in
theorem builtin_quiet {b:Builtin} {args:Array Operand} {ts:Array TypeId} {v:PV} {cv:Value} (ho:o.op=.call { callee:=.builtin b,args:=args,argTypes:=ts })
  (hr:∀ ty cs,(builtin b ts ty cs (args.toList.map a.eval).toArray).run P w=.ok (.value cv) w) (hv:Rep w Y σ v cv) (hK:K v []):Res P C o a w σ ps st n id K:=by
 have hmap:args.map a.eval=(args.toList.map a.eval).toArray:=by apply Array.ext'; simp
 refine Res.quiet H (cv:=cv) ?_ hv hK
 simp only [execOp,ho,resolve,hmap,Sem.run_bind,Sem.run_pure,Result.andThen,invoke]
 exact hr _ _
theorem evA_two {w:World} {Y:Nat→Prop} {σ:Sg} {p q:PV} {l:List PV} {vs:List Value} (h:RepL w Y σ (p::q::l) vs):∃ u v vs',vs=u::v::vs'∧Rep w Y σ p u∧Rep w Y σ q v∧RepL w Y σ l vs':=by
 unfold RepL at h; obtain ⟨u,vs1,rfl,h1,h2⟩:=h
 unfold RepL at h2; obtain ⟨v,vs2,rfl,h3,h4⟩:=h2
 exact ⟨u,v,vs2,rfl,h1,h3,h4⟩
theorem evA_one {w:World} {Y:Nat→Prop} {σ:Sg} {p:PV} {vs:List Value} (h:RepL w Y σ [p] vs):∃ u,vs=[u]∧Rep w Y σ p u:=by
 unfold RepL at h; obtain ⟨u,vs1,rfl,h1,h2⟩:=h
 unfold RepL at h2; subst h2
 exact ⟨u,rfl,h1⟩
theorem evA_twoX {w:World} {Y:Nat→Prop} {σ:Sg} {p q:PV} {vs:List Value} (h:RepL w Y σ [p,q] vs):∃ u v,vs=[u,v]∧Rep w Y σ p u∧Rep w Y σ q v:=by
 obtain ⟨u,v,vs',rfl,h1,h2,h3⟩:=evA_two h
 unfold RepL at h3; subst h3
 exact ⟨u,v,rfl,h1,h2⟩
theorem array_one {α:Type} {x:Array α} {t:α} (h:x.toList=[t]):x=#[t]:=by apply Array.ext'; simpa using h
include hT H in
theorem op_len {args:Array Operand} {ts:Array TypeId} (ho:o.op=.call { callee:=.builtin .len,args:=args,argTypes:=ts }) (h:opE T (Sig.std P T) (.call { callee:=.builtin .len,args:=args,argTypes:=ts }) ps lk id K):Res P C o a w σ ps st n id K:=by
 have hargs:=evA_rep H args.toList
 simp only [opE] at h
 generalize hvs:args.toList.map a.eval=vs at hargs
 split at h
 all_goals first | (exact h.elim) | skip
 ·rename_i s t hb he ht
  rw [he] at hargs
  obtain ⟨u,rfl,hu⟩:=evA_one hargs
  have ht':=array_one ht
  subst ht'
  split at h
  ·rename_i e
   refine builtin_quiet H ho (cv:=.int .i64 s.size) (fun ty cs=>?_) (by simp [Rep,Sig.std]) h
   rw [hvs,rep_str hu]
   simp [builtin,Builtin.len_,run_und (tab_str hT e),goInt_eq]
  ·exact h.elim
 ·rename_i sz es full t hb he ht
  rw [he] at hargs
  obtain ⟨u,rfl,hu⟩:=evA_one hargs
  have ht':=array_one ht
  subst ht'
  split at h
  ·rename_i e
   obtain ⟨et,hund,_⟩:=tab_slice hT e
   unfold Rep at hu
   obtain ⟨x,len,cap,rfl,hl,_⟩:=hu
   refine builtin_quiet H ho (cv:=.int .i64 es.length) (fun ty cs=>?_) (by simp [Rep,Sig.std]) h
   rw [hvs]
   simp [builtin,Builtin.len_,run_und hund,goInt_eq,hl]
  ·exact h.elim
 ·rename_i b r c hd sz m t hb he ht
  rw [he] at hargs
  obtain ⟨u,rfl,hu⟩:=evA_one hargs
  have ht':=array_one ht
  subst ht'
  split at h
  ·rename_i e
   obtain ⟨et,hund,_⟩:=tab_slice hT e
   have:∃ x c,u=.slice x m c:=by
    unfold Rep at hu
    rcases hu with ⟨_,rfl,_⟩ | ⟨rfl,x,c,rfl⟩
    ·exact ⟨_,_,rfl⟩
    ·exact ⟨_,_,rfl⟩
   obtain ⟨x,c,rfl⟩:=this
   refine builtin_quiet H ho (cv:=.int .i64 m) (fun ty cs=>?_) (by simp [Rep,Sig.std]) h
   rw [hvs]
   simp [builtin,Builtin.len_,run_und hund,goInt_eq]
  ·exact h.elim
 ·rename_i b r m t hb he ht
  rw [he] at hargs
  obtain ⟨u,rfl,hu⟩:=evA_one hargs
  have ht':=array_one ht
  subst ht'
  split at h
  ·rename_i e
   obtain ⟨et,hund,_⟩:=tab_slice hT e
   have:∃ x c,u=.slice x m c:=by
    unfold Rep at hu
    rcases hu with ⟨l,cap,_,rfl,_⟩ | ⟨rfl,x,rfl⟩
    ·exact ⟨_,_,rfl⟩
    ·exact ⟨_,_,rfl⟩
   obtain ⟨x,c,rfl⟩:=this
   refine builtin_quiet H ho (cv:=.int .i64 m) (fun ty cs=>?_) (by simp [Rep,Sig.std]) h
   rw [hvs]
   simp [builtin,Builtin.len_,run_und hund,goInt_eq]
  ·exact h.elim
 all_goals contradiction
theorem mm_run {P:Program} {w:World} {ts:Array TypeId} {ty:TypeId} {k:IntKind} {m c:Int} :
  (Builtin.min_ ts ty #[.int k m,.int k c]).run P w=.ok (.int k (if c<m then c else m)) w∧(Builtin.max_ ts ty #[.int k m,.int k c]).run P w=.ok (.int k (if c > m then c else m)) w:=by
 constructor
 ·simp [Builtin.min_,Builtin.min2]
 ·simp [Builtin.max_,Builtin.max2]
include hT H in
theorem op_min {args:Array Operand} {ts:Array TypeId} (ho:o.op=.call { callee:=.builtin .min,args:=args,argTypes:=ts }) (h:opE T (Sig.std P T) (.call { callee:=.builtin .min,args:=args,argTypes:=ts }) ps lk id K):Res P C o a w σ ps st n id K:=by
 have hargs:=evA_rep H args.toList
 simp only [opE] at h
 generalize hvs:args.toList.map a.eval=vs at hargs
 split at h
 all_goals first | (exact h.elim) | skip
 ·contradiction
 ·contradiction
 ·contradiction
 ·contradiction
 ·rename_i p q l hb he
  rw [he] at hargs
  obtain ⟨u,v,rfl,hu,hv⟩:=evA_twoX hargs
  have fin:∀ {k k' : IntKind} {m c:Int} (mk:Int→PV),(∀ z,Rep w Y σ (mk z) (.int k z))→u=.int k m→v=.int k' c→(bif kindEq k k' then K (mk (if c<m then c else m)) [] else False)→Res P C o a w σ ps st n id K:=by
   intro k k' m c mk h1 e1 e2 hh
   cases hk:kindEq k k' with
   | false=>rw [hk] at hh; exact hh.elim
   | true =>
    rw [hk] at hh
    have:=kindEq_eq hk; subst this
    refine builtin_quiet H ho (cv:=.int k (if c<m then c else m)) (fun ty cs=>?_) (h1 _) hh
    rw [hvs,e1,e2]
    have:=(mm_run (P:=P) (w:=w) (ts:=ts) (ty:=ty) (k:=k) (m:=m) (c:=c)).1
    simp only [builtin,Sem.run_bind,this,Result.andThen,Sem.run_pure]
  split at h
  ·exact fin (fun z=>.int _ z) (fun z=>by simp [Rep]) (rep_int hu) (rep_int hv) h
  ·split at h
   ·rename_i h1 h2
    exact fin (fun z=>.si _ z) (fun z=>by simp [Rep]) (rep_intV hu h1) (rep_intV hv h2) h
   ·exact h.elim
 all_goals contradiction
include hT H in
theorem op_max {args:Array Operand} {ts:Array TypeId} (ho:o.op=.call { callee:=.builtin .max,args:=args,argTypes:=ts }) (h:opE T (Sig.std P T) (.call { callee:=.builtin .max,args:=args,argTypes:=ts }) ps lk id K):Res P C o a w σ ps st n id K:=by
 have hargs:=evA_rep H args.toList
 simp only [opE] at h
 generalize hvs:args.toList.map a.eval=vs at hargs
 split at h
 all_goals first | (exact h.elim) | skip
 ·contradiction
 ·contradiction
 ·contradiction
 ·contradiction
 ·contradiction
 ·rename_i p q l hb he
  rw [he] at hargs
  obtain ⟨u,v,rfl,hu,hv⟩:=evA_twoX hargs
  have fin:∀ {k k' : IntKind} {m c:Int} (mk:Int→PV),(∀ z,Rep w Y σ (mk z) (.int k z))→u=.int k m→v=.int k' c→(bif kindEq k k' then K (mk (if m<c then c else m)) [] else False)→Res P C o a w σ ps st n id K:=by
   intro k k' m c mk h1 e1 e2 hh
   cases hk:kindEq k k' with
   | false=>rw [hk] at hh; exact hh.elim
   | true =>
    rw [hk] at hh
    have:=kindEq_eq hk; subst this
    refine builtin_quiet H ho (cv:=.int k (if m<c then c else m)) (fun ty cs=>?_) (h1 _) hh
    rw [hvs,e1,e2]
    have:=(mm_run (P:=P) (w:=w) (ts:=ts) (ty:=ty) (k:=k) (m:=m) (c:=c)).2
    simp only [builtin,Sem.run_bind,this,Result.andThen,Sem.run_pure]
  split at h
  ·exact fin (fun z=>.int _ z) (fun z=>by simp [Rep]) (rep_int hu) (rep_int hv) h
  ·split at h
   ·rename_i h1 h2
    exact fin (fun z=>.si _ z) (fun z=>by simp [Rep]) (rep_intV hu h1) (rep_intV hv h2) h
   ·exact h.elim
 all_goals contradiction
end
end Go.Pv
