import Derived.Test.YtddcpnlflncahaaP03
set_option linter.all false
namespace Go.Pv
open Go
def Eqv (p q : PV) : Prop := ∀ w Y σ v, Rep w Y σ p v ↔ Rep w Y σ q v
theorem Eqv.refl (p : PV) : Eqv p p := fun _ _ _ _ => Iff.rfl
theorem Eqv.symm {p q : PV} (h : Eqv p q) : Eqv q p := fun w Y σ v => (h w Y σ v).symm
theorem Eqv.trans {p q r : PV} (h : Eqv p q) (k : Eqv q r) : Eqv p r := fun w Y σ v => (h w Y σ v).trans (k w Y σ v)
theorem Eqv.bool (b : Bool) : Eqv (.sb b) (.bool b) := fun w Y σ v => by simp [Rep]
def EqvL (ps qs : List PV) : Prop := ps.length = qs.length ∧ ∀ t, Eqv (getL ps t) (getL qs t)
theorem EqvL.refl (ps : List PV) : EqvL ps ps := ⟨rfl, fun _ => Eqv.refl _⟩
theorem EqvL.trans {ps qs rs : List PV} (h : EqvL ps qs) (k : EqvL qs rs) : EqvL ps rs := ⟨h.1.trans k.1, fun t => (h.2 t).trans (k.2 t)⟩
theorem EqvL.symm {ps qs : List PV} (h : EqvL ps qs) : EqvL qs ps := ⟨h.1.symm, fun t => (h.2 t).symm⟩
theorem getL_setL (l : List PV) (d t : Nat) (v : PV) : getL (setL l d v) t = if d = t ∧ d < l.length then v else getL l t := by
  rw [getL_eq, setL_eq, getL_eq, List.getD_eq_getElem?_getD, List.getD_eq_getElem?_getD, List.getElem?_set]
  by_cases h : d = t
  · subst h
    by_cases hl : d < l.length
    · simp [hl]
    · simp [hl]
  · simp [h]
theorem length_setL (l : List PV) (d : Nat) (v : PV) : (setL l d v).length = l.length := by rw [setL_eq]; simp
theorem getL_ge {l : List PV} {t : Nat} (h : l.length ≤ t) : getL l t = .undef := by rw [getL_eq, List.getD_eq_getElem?_getD, List.getElem?_eq_none h]; rfl
theorem RepL.eqv {w : World} {Y : Nat → Prop} {σ : Sg} : ∀ {ps qs : List PV} {vs : List Value}, EqvL ps qs → RepL w Y σ ps vs → RepL w Y σ qs vs
  | [], [], vs, _, h => h
  | [], _ :: _, _, h, _ => by simp [EqvL] at h
  | _ :: _, [], _, h, _ => by simp [EqvL] at h
  | p :: ps, q :: qs, vs, h, hr => by
    unfold RepL at hr ⊢
    obtain ⟨v, vs', e, h1, h2⟩ := hr
    refine ⟨v, vs', e, (h.2 0 _ _ _ _).1 h1, RepL.eqv ⟨by simpa using h.1, fun t => h.2 (t + 1)⟩ h2⟩
theorem SW.eqv {T : Tab} {C : Ctx T} {w : World} {Y : Nat → Prop} {σ : Sg} {ps qs : List PV} {vs : List Value} {st : St} {n : Nat} (H : SW C w Y σ ps vs st n) (h : EqvL ps qs) : SW C w Y σ qs vs st n :=
  H.vals' (H.vals.eqv h)
def putT (ps : List PV) : Option Nat → PV → List PV
  | none, _ => ps
  | some d, v => setL ps d v
theorem putE_eq (E : Env) (d : Option Nat) (v : PV) : putE E d v = ⟨putT E.tmps d v, E.st, E.next⟩ := by cases d <;> rfl
theorem putT_length (ps : List PV) (d : Option Nat) (v : PV) : (putT ps d v).length = ps.length := by cases d <;> simp [putT, length_setL]
theorem putT_ne {ps : List PV} {d : Option Nat} {v : PV} {t : Nat} (h : d ≠ some t) : getL (putT ps d v) t = getL ps t := by
  cases d with
  | none => rfl
  | some d => simp only [putT, getL_setL]; rw [if_neg]; rintro ⟨rfl, _⟩; exact h rfl
theorem SW.putT {T : Tab} {C : Ctx T} {w : World} {Y : Nat → Prop} {σ : Sg} {ps : List PV} {a : Act} {st : St} {n : Nat} (H : SW C w Y σ ps a.tmps.toList st n) {v : PV} {cv : Value} (hv : Rep w Y σ v cv) (d : Option Nat) :
    SW C w Y σ (putT ps d v) (a.put d cv).tmps.toList st n := by
  cases d with
  | none => exact H
  | some d =>
    refine (H.vals' ?_)
    simp only [Act.put, Pv.putT, Array.toList_setIfInBounds]
    exact RepL.set hv _ _ _ H.vals
theorem put_defers (a : Act) (d : Option Nat) (v : Value) : (a.put d v).defers = a.defers := by cases d <;> rfl
section
variable {P : Program} {T : Tab}
def SemX (P : Program) (T : Tab) (all : Array Oper) (o : Oper) (er : List PV) (lk : Nat → Option Blk) (id : Nat) (v : PV) (δ : Dl) (big : Bool) : Prop :=
  ∀ (C : Ctx T) ps Y σ (a : Act) w st n, (∀ t ∈ o.looksAt all, getL ps t = getL er t) → SW C w Y σ ps a.tmps.toList st n → a.defers = [] → (∀ b x, lk b = some x → lkS st b = some x) →
    (big = true → (∀ b, id ≤ b → b < id + 32 → σ b = none) ∧ T.pas ≤ id ∧ id + 32 ≤ n) → ∀ next Q, (∀ cv w' Y' σ', SW C w' Y' σ' ps a.tmps.toList (applyD δ st) n → (∀ b, (b < id ∨ id + 32 ≤ b) → σ' b = σ b) → (big = false → σ' = σ) → Rep w' Y' σ' v cv → next (a.put o.dst cv) w') → o.wp P a w next Q
def SemGd (T : Tab) (all : Array Oper) (o : Oper) (er : List PV) (wb : Bool) : Prop :=
  ∀ (C : Ctx T) ps Y σ (a : Act) w st n, (∀ t ∈ o.looksAt all, getL ps t = getL er t) → SW C w Y σ ps a.tmps.toList st n → a.defers = [] → Region.wanted o (yielded all a.tmps) = wb
theorem semGd_of {all : Array Oper} {o : Oper} {er : List PV} {wb : Bool}
    (h : ∀ ps st n, (∀ t ∈ o.looksAt all, getL ps t = getL er t) → gd (Sig.std P T) all o.guard ⟨ps, st, n⟩ (fun _ => wb = true) (fun _ => wb = false)) : SemGd T all o er wb := by
  intro C ps Y σ a w st n hl H hd
  obtain ⟨E', _, hh⟩ := gd_sound (h ps st n hl) (C := C) (a := a) (w := w) ⟨⟨Y, σ, H⟩, hd⟩
  rcases hh with ⟨h1, h2⟩ | ⟨h1, h2⟩
  · rw [h1, h2]
  · rw [h1, h2]
theorem gd_split {all : Array Oper} {o : Oper} {E : Env} {run skip : Env → Prop} (h : gd (Sig.std P T) all o.guard E run skip) :
    ∃ E1 wb, EqvL E.tmps E1.tmps ∧ E1.st = E.st ∧ E1.next = E.next ∧ SemGd T all o E1.tmps wb ∧ (wb = true → run E1) ∧ (wb = false → skip E1) := by
  unfold gd at h
  split at h
  · rename_i hg
    exact ⟨E, true, EqvL.refl _, rfl, rfl, semGd_of (P := P) fun ps _ _ _ => by simp [gd, hg], fun _ => h, fun e => by cases e⟩
  · rename_i j want hg
    split at h
    · rename_i oj hj
      split at h
      · rename_i d hd
        have hmem : d ∈ o.looksAt all := by
          unfold Oper.looksAt
          refine List.mem_append_right _ ?_
          simp [hg, hj, hd]
        have sem : ∀ (E1 : Env) b, getL E1.tmps d = .bool b → SemGd T all o E1.tmps (b == want) := by
          intro E1 b hb
          refine semGd_of (P := P) fun ps _ _ hps => ?_
          have := hps d hmem
          rw [hb] at this
          simp only [gd, hg, hj, hd, this]
          cases b <;> cases want <;> rfl
        split at h
        · rename_i e
          refine ⟨E, true == want, EqvL.refl _, rfl, rfl, sem E true e, ?_, ?_⟩ <;> intro hw <;> cases want <;> first | (cases hw; done) | exact h
        · rename_i e
          refine ⟨E, false == want, EqvL.refl _, rfl, rfl, sem E false e, ?_, ?_⟩ <;> intro hw <;> cases want <;> first | (cases hw; done) | exact h
        · rename_i b e
          have hlt : d < E.tmps.length := by
            by_cases hh : d < E.tmps.length
            · exact hh
            · rw [getL_ge (Nat.le_of_not_lt hh)] at e; cases e
          have heq : EqvL E.tmps (putE E (some d) (.bool b)).tmps := by
            refine ⟨by simp [putE, length_setL], fun t => ?_⟩
            simp only [putE, getL_setL]
            split
            · rename_i hh; rw [← hh.1, e]; exact Eqv.bool b
            · exact Eqv.refl _
          have hget : getL (putE E (some d) (.bool b)).tmps d = .bool b := by simp [putE, getL_setL, hlt]
          obtain ⟨h1, h2⟩ := h
          refine ⟨putE E (some d) (.bool b), b == want, heq, rfl, rfl, sem _ b hget, ?_, ?_⟩
          · intro hw
            cases b with
            | true => have h1 := h1 rfl; cases want <;> first | (cases hw; done) | exact h1
            | false => have h2 := h2 rfl; cases want <;> first | (cases hw; done) | exact h2
          · intro hw
            cases b with
            | true => have h1 := h1 rfl; cases want <;> first | (cases hw; done) | exact h1
            | false => have h2 := h2 rfl; cases want <;> first | (cases hw; done) | exact h2
        · rename_i e
          refine ⟨E, false, EqvL.refl _, rfl, rfl, semGd_of (P := P) fun ps _ _ hps => ?_, (fun hw => by cases hw), fun _ => h⟩
          have := hps d hmem
          rw [e] at this
          simp only [gd, hg, hj, hd, this]
        · exact h.elim
      · exact h.elim
    · exact h.elim
theorem tmp_looks {all : Array Oper} {o : Oper} {er ps : List PV} (h : ∀ t ∈ o.looksAt all, getL ps t = getL er t) : ∀ x ∈ o.op.operands, evL T ps x = evL T er x := by
  intro x hx
  cases x with
  | tmp t =>
    simp only [evL]
    refine h t ?_
    unfold Oper.looksAt
    exact List.mem_append_left _ (List.mem_filterMap.2 ⟨.tmp t, by simpa using hx, rfl⟩)
  | _ => rfl
theorem opE_id {T : Tab} {S : Sig} {o : Op} {ps : List PV} {lk : Nat → Option Blk} {id id' : Nat} {K : PV → Dl → Prop} (hq : isQ o = true) : opE T S o ps lk id K = opE T S o ps lk id' K := by
  cases o
  case call c =>
    obtain ⟨callee, args, ts⟩ := c
    cases callee
    case builtin b =>
      cases b
      case len => simp only [opE]; generalize evA T ps args.toList = as; generalize ts.toList = tl; rcases as with _ | ⟨a, _ | ⟨b, _ | ⟨c, as⟩⟩⟩ <;> rcases tl with _ | ⟨t, _ | ⟨u, tl⟩⟩ <;> first | rfl | (cases a <;> first | rfl | (cases b <;> rfl))
      case min => simp only [opE]; generalize evA T ps args.toList = as; generalize ts.toList = tl; rcases as with _ | ⟨a, _ | ⟨b, _ | ⟨c, as⟩⟩⟩ <;> rcases tl with _ | ⟨t, _ | ⟨u, tl⟩⟩ <;> first | rfl | (cases a <;> first | rfl | (cases b <;> rfl))
      case max => simp only [opE]; generalize evA T ps args.toList = as; generalize ts.toList = tl; rcases as with _ | ⟨a, _ | ⟨b, _ | ⟨c, as⟩⟩⟩ <;> rcases tl with _ | ⟨t, _ | ⟨u, tl⟩⟩ <;> first | rfl | (cases a <;> first | rfl | (cases b <;> rfl))
      all_goals (simp [isQ] at hq)
    all_goals simp [isQ] at hq
  case makeFunc fn first cap => cases fn <;> rfl
  case unOp op t x => cases op <;> rfl
  all_goals first | rfl | (simp [isQ] at hq)
theorem opE_semQ (hT : TabOK P T) (hW : PWf P) {all : Array Oper} {o : Oper} {ps : List PV} {lk : Nat → Option Blk} {id i : Nat} {K : PV → Prop} (hq : isQ o.op = true) (h : opE T (Sig.std P T) o.op ps lk id (quietK K)) :
    ∃ v, SemX P T all o ps lk i v [] false ∧ K v := by
  obtain ⟨v, δ, hK, hF⟩ := opE_det hq h
  cases δ with
  | cons x δ => exact hK.elim
  | nil =>
    refine ⟨v, ?_, hK⟩
    intro C qs Y σ a w st n hl H hd hlk _ next Q hnext
    have h2 := hF (fun v' δ' => v' = v ∧ δ' = []) ⟨rfl, rfl⟩
    rw [← opE_congr (tmp_looks hl), opE_id (id' := n) hq] at h2
    obtain ⟨v', δ', cv, w', Y', σ', ⟨rfl, rfl⟩, hrun, H', hv, hoff⟩ := opE_res hT hW H hlk ⟨H.next _ (Nat.le_refl _), H.fix.1⟩ h2
    have hσ : σ' = σ := by
      funext b
      by_cases hb : b = n
      · subst hb; rw [H.next _ (Nat.le_refl _)]; exact H'.next _ (Nat.le_refl _)
      · exact hoff b hb
    subst hσ
    have := hnext cv w' Y' σ' H' (fun _ _ => rfl) (fun _ => rfl) hv
    unfold Oper.wp
    rcases hrun with hrun | ⟨hrun, rfl⟩
    · rw [hrun]; exact this
    · rw [hrun]; exact this
theorem call_run {P : Program} {o : Oper} {f : Operand} {args : Array Operand} {ts : Array TypeId} {a : Act} {w : World} {k : Nat} {cs : List Value} (ho : o.op = .call { callee := .value f, args, argTypes := ts })
    (ef : a.eval f = .func (.func k) #[] cs.toArray) (hent : (callFunc k (args.toList.map a.eval ++ cs).toArray).run P w = .ok (.enter k (args.toList.map a.eval ++ cs).toArray) w) :
    (execOp a.eval o).run P w = .ok (.enter k (args.toList.map a.eval ++ cs).toArray) w := by
  have hmap : args.map a.eval = (args.toList.map a.eval).toArray := by apply Array.ext'; simp
  simp only [execOp, ho, resolve, ef, Deferred.ofValue, Sem.run_bind, Sem.run_pure, Result.andThen, invoke, hmap]
  have : (#[] ++ (args.toList.map a.eval).toArray ++ cs.toArray) = (args.toList.map a.eval ++ cs).toArray := by apply Array.ext'; simp
  rw [this]
  exact hent
theorem SW.allocRo {C : Ctx T} {w : World} {Y : Nat → Prop} {σ : Sg} {ps : List PV} {vs : List Value} {st : St} {n : Nat} (H : SW C w Y σ ps vs st n) (arr : Array Value) (ty : TypeId) :
    SW C (w.alloc (.cells arr ty)) Y σ ps vs st n ∧ ∀ p v σ', Rep w Y σ' p v → Rep (w.alloc (.cells arr ty)) Y σ' p v := by
  have heap : (w.alloc (.cells arr ty)).heap = w.heap.push (.cells arr ty) := rfl
  have hold : ∀ k, k < w.heap.size → (w.alloc (.cells arr ty)).heap[k]? = w.heap[k]? := by
    intro k hk; rw [heap, Array.getElem?_push, if_neg (by omega)]
  have hsz : (w.alloc (.cells arr ty)).heap.size = w.heap.size + 1 := by rw [heap]; simp
  exact ⟨H.chgd ⟨rfl, rfl, rfl, by omega, hold⟩, fun p v σ' h => Rep.keep p ⟨fun k hk _ => hold k hk, fun _ _ h => h, by omega, SgLe.refl _⟩ v h⟩
theorem buildSlice_semQ (hT : TabOK P T) {all : Array Oper} {o : Oper} {ps : List PV} {lk : Nat → Option Blk} {id i : Nat} {K : PV → Prop} {t : TypeId} {len : Nat} {parts : Array (Nat × Operand)} (ho : o.op = .buildSlice t len parts) (h : opQ T (Sig.std P T) (.buildSlice t len parts) ps lk id K) :
    ∃ v, SemX P T all o ps noLk i v [] false ∧ K v := by
  simp only [opQ] at h
  split at h
  · rename_i agg size z0 plain esz bytes z e
    obtain ⟨et, hu, rfl, _, hz⟩ := tab_slice hT e
    cases hb : (isPos (P.cellsOf et) && Nat.beq (lenL z) (P.cellsOf et) && Nat.ble (len * P.cellsOf et) 16777216 && noTop (evP T ps parts.toList)) with
    | false => rw [hb] at h; exact h.elim
    | true =>
      rw [hb] at h
      simp only [cond_true] at h
      simp only [Bool.and_eq_true, lenL_eq] at hb
      obtain ⟨⟨⟨hb1, hb2⟩, hb3⟩, hb4⟩ := hb
      have hpos : 0 < P.cellsOf et := by
        rcases Nat.eq_zero_or_pos (P.cellsOf et) with h0 | h0
        · rw [h0] at hb1; simp [isPos] at hb1
        · exact h0
      have hzl := Nat.eq_of_beq_eq_true hb2
      have hle := Nat.le_of_ble_eq_true hb3
      split at h
      · rename_i cs hf
        split at h
        · rename_i cs0 hpur
          obtain ⟨cs', hl2, hc2, hw2, h, _⟩ := wkC_std h
          refine ⟨_, ?_, h⟩
          intro C qs Y σ a w st n hl H hd _ _ next Q hnext
          have hev := tmp_looks (T := T) hl
          rw [ho] at hev
          have hP := evP_congr (T := T) (ps := qs) (qs := ps) parts.toList fun x hx => hev x.2 (by simp only [Op.operands, List.mem_toArray, List.mem_map]; exact ⟨x, hx, rfl⟩)
          rw [← hP] at hf hb4
          obtain ⟨vcs, hrep, hvl, hrun⟩ := buildSlice_core hT H ho hu hz hb1 hzl hle hb4 hf
          have hLk : Lk (fun _ => none) st := fun b ro sz rows h => by cases h
          obtain ⟨Y1, H1, hr1, hy1⟩ := pur_sound cs cs0 [] hpur Y st H hLk _ hrep
          have hr1 := hw2 _ _ _ _ hr1
          obtain ⟨H2, hk2⟩ := H1.allocRo vcs et
          have hcsl : cs'.length = len * P.cellsOf et := by rw [hl2, pur_len _ _ _ hpur, fillV_len _ _ _ _ hf, repL_length, hzl]
          unfold Oper.wp
          rw [hrun]
          refine hnext _ _ Y1 σ H2 (fun _ _ => rfl) (fun _ => rfl) ?_
          unfold Rep
          refine ⟨_, len, len, rfl, by rw [chunks_length], Nat.le_refl _, fun _ => rfl, .inr ⟨w.heap.size, 0, rfl, ⟨?_, fun hy => ?_⟩, ?_⟩⟩
          · show w.heap.size < (w.heap.push _).size; simp
          · have := H1.yold _ hy; omega
          · refine RepC.chunks len cs' 0 ?_ (hc2 (pur_cell _ _ _ hpur).1) (by omega)
            rw [RepC.iff]
            intro j p hj
            obtain ⟨v, hv, hp'⟩ := hr1.get? hj
            refine ⟨v, ?_, hk2 _ _ _ hp'⟩
            rw [cell_of_block (arr := vcs) (ty := et) (by show (w.heap.push _)[w.heap.size]? = _; simp)]
            simpa using hv
        · exact h.elim
      · exact h.elim
  · exact h.elim
theorem opQ_sem (hT : TabOK P T) (hW : PWf P) {all : Array Oper} {o : Oper} {ps : List PV} {lk : Nat → Option Blk} {id : Nat} {K : PV → Prop} (i : Nat) (h : opQ T (Sig.std P T) o.op ps lk id K) :
    ∃ v, SemX P T all o ps lk i v [] false ∧ K v := by
  have h0 := h
  unfold opQ at h
  split at h
  · rename_i f args ts ho
    split at h
    · rename_i k caps hf
      have main : ∀ v, (∀ (C : Ctx T) Y σ w qs vs cargs st n, (∀ b x, lk b = some x → lkS st b = some x) → SW C w Y σ qs vs st n → RepL w Y σ (appL (evA T ps args.toList) caps) cargs → CallSem P k C Y σ w cargs qs vs st n v) → SemX P T all o ps lk i v [] false := by
        intro v hsem C qs Y σ a w st n hl H hd hlk _ next Q hnext
        have hev := tmp_looks (T := T) hl
        rw [ho] at hev
        have hfv := ev_rep H f
        rw [hev f (by simp [Op.operands, Call.operands]), hf] at hfv
        unfold Rep at hfv
        obtain ⟨cs, ef, hcs⟩ := hfv
        have hargs := evA_rep H args.toList
        rw [evA_congr (ps := qs) (qs := ps) args.toList fun x hx => hev x (by simp only [Op.operands, Call.operands]; simp; exact .inr (by simpa using hx))] at hargs
        have hall := RepL.app _ _ _ _ hargs hcs
        obtain ⟨hent, hcall⟩ := hsem C Y σ w qs a.tmps.toList _ st n hlk H (by simpa using hall)
        unfold Oper.wp
        rw [call_run ho ef hent]
        refine Calls.mono hcall fun e w' hh => ?_
        obtain ⟨cv, rfl, H', hv⟩ := hh
        exact hnext cv w' Y σ H' (fun _ _ => rfl) (fun _ => rfl) hv
      unfold callD at h
      split at h
      · rename_i as hm
        obtain ⟨v, hF, hK⟩ := h
        refine ⟨v, main v fun C Y σ w qs vs cargs st n hlk H hr => call_ro H (fun b x hb => ?_) hm hr hF, hK⟩
        split at hb
        · rename_i e; cases hb; exact ⟨hlk _ _ e, rfl⟩
        · rename_i e; cases hb; exact ⟨hlk _ _ e, rfl⟩
        · cases hb
      · split at h
        · rename_i as hm
          obtain ⟨v, hF, hf, hK⟩ := h
          exact ⟨v, main v fun C Y σ w qs vs cargs st n hlk H hr => call_flat H hlk hm hr hF hf, hK⟩
        · exact h.elim
    · exact h.elim
  · rename_i t len parts ho
    rw [ho] at h0
    obtain ⟨v, h1, h2⟩ := buildSlice_semQ hT (all := all) (i := i) ho h0
    exact ⟨v, fun C qs Y σ a w st n hl H hd _ hb next Q hnext => h1 C qs Y σ a w st n hl H hd (fun _ _ h => by cases h) hb next Q hnext, h2⟩
  · rw [bifF] at h
    exact opE_semQ hT hW h.1 h.2
theorem stepQ_split (hT : TabOK P T) (hW : PWf P) {all : Array Oper} {o : Oper} {lk : Nat → Option Blk} {E : Env} {K : Env → Prop} (i : Nat) (h : stepQ T (Sig.std P T) o lk E K) :
    ∃ E1 v, EqvL E.tmps E1.tmps ∧ E1.st = E.st ∧ E1.next = E.next ∧ SemX P T all o E1.tmps lk i v [] false ∧ K (putE E1 o.dst v) := by
  unfold stepQ at h
  have gen : (opQ T (Sig.std P T) o.op E.tmps lk E.next fun v => K (putE E o.dst v)) → ∃ E1 v, EqvL E.tmps E1.tmps ∧ E1.st = E.st ∧ E1.next = E.next ∧ SemX P T all o E1.tmps lk i v [] false ∧ K (putE E1 o.dst v) := fun h => by
    obtain ⟨v, h1, h2⟩ := opQ_sem hT hW (all := all) i h
    exact ⟨E, v, EqvL.refl _, rfl, rfl, h1, h2⟩
  split at h
  · rename_i c x y ho
    split at h
    · rename_i t hc
      have hlt : c < E.tmps.length := by
        by_cases hh : c < E.tmps.length
        · exact hh
        · rw [getL_ge (Nat.le_of_not_lt hh)] at hc; cases hc
      have heq : EqvL E.tmps (putE E (some c) (.bool t)).tmps := by
        refine ⟨by simp [putE, length_setL], fun u => ?_⟩
        simp only [putE, getL_setL]
        split
        · rename_i hh; rw [← hh.1, hc]; exact Eqv.bool t
        · exact Eqv.refl _
      have hget : getL (putE E (some c) (.bool t)).tmps c = .bool t := by simp [putE, getL_setL, hlt]
      have evq : ∀ z : Operand, Eqv (evL T (putE E (some c) (.bool t)).tmps z) (evL T E.tmps z) := by
        intro z
        cases z with
        | tmp u => exact (heq.2 u).symm
        | _ => exact Eqv.refl _
      have hsem : SemX P T all o (putE E (some c) (.bool t)).tmps lk i (if t then evL T E.tmps x else evL T E.tmps y) [] false := by
        intro C qs Y σ a w st n hl H hd _ _ next Q hnext
        have hev := tmp_looks (T := T) hl
        rw [ho] at hev
        have hcv := ev_rep H (.tmp c)
        rw [hev (.tmp c) (by simp [Op.operands])] at hcv
        simp only [evL, hget] at hcv
        have hcv := rep_bool hcv
        have hrun : (execOp a.eval o).run P w = .ok (.value (if t then a.eval x else a.eval y)) w := by
          simp [execOp, ho, hcv, asBool]
        unfold Oper.wp
        rw [hrun]
        refine hnext _ _ Y σ H (fun _ _ => rfl) (fun _ => rfl) ?_
        have hx := ev_rep H x
        have hy := ev_rep H y
        rw [hev x (by simp [Op.operands])] at hx
        rw [hev y (by simp [Op.operands])] at hy
        cases t with
        | true => exact (evq x _ _ _ _).1 hx
        | false => exact (evq y _ _ _ _).1 hy
      refine ⟨_, _, heq, rfl, rfl, hsem, ?_⟩
      cases t with
      | true => exact h.1 rfl
      | false => exact h.2 rfl
    · rw [← ho] at h
      exact gen h
  · exact gen h
theorem storeRow_det {size : Nat} {row : List PV} {c : Nat} {v : PV} {K : List PV → Prop} (h : storeRow size row c v K) : ∃ r, K r ∧ ∀ K' : List PV → Prop, K' r → storeRow size row c v K' := by
  unfold storeRow at h ⊢
  simp only [bifF] at h ⊢
  exact ⟨_, h.2, fun K' hk => ⟨h.1, hk⟩⟩
theorem det_and {c : Prop} {K : PV → Dl → Prop} {F : (PV → Dl → Prop) → Prop} (h0 : c) (h : ∃ v δ, K v δ ∧ ∀ K' : PV → Dl → Prop, K' v δ → F K') : ∃ v δ, K v δ ∧ ∀ K' : PV → Dl → Prop, K' v δ → c ∧ F K' := by
  obtain ⟨v, δ, h1, h2⟩ := h
  exact ⟨v, δ, h1, fun K' hk => ⟨h0, h2 K' hk⟩⟩
theorem opE_det2 {o : Op} {ps : List PV} {lk : Nat → Option Blk} {id : Nat} {K : PV → Dl → Prop} (hc : clsO T o = 1 ∨ clsO T o = 2) (hn : ndO T ps lk o = false) (h : opE T (Sig.std P T) o ps lk id K) :
    ∃ v δ, K v δ ∧ ∀ K' : PV → Dl → Prop, K' v δ → opE T (Sig.std P T) o ps lk id K' := by
  cases o
  case binOp op t x y u =>
    simp only [clsO, isQ] at hc
    cases hy : nilC y <;> rw [hy] at hc <;> simp at hc
  case alloc t =>
    simp only [opE] at h ⊢
    split at h
    all_goals first | exact ⟨_, _, h, fun _ hk => hk⟩ | exact h.elim
  case makeSlice t x y =>
    simp only [opE] at h ⊢
    split at h
    · simp only [bifF] at h ⊢
      obtain ⟨h0, j, h1, h2, h3, h4, h5⟩ := h
      obtain ⟨z2, _, _, _, h5, _, h6⟩ := wkN_std h5
      exact ⟨_, _, h5, fun _ hk => ⟨h0, j, h1, h2, h3, h4, h6 _ hk⟩⟩
    · exact h.elim
  case store t x y =>
    simp only [opE] at h ⊢
    split at h
    · split at h
      · split at h
        · obtain ⟨r, h1, h2⟩ := storeRow_det h
          exact ⟨_, _, h1, fun _ hk => h2 _ hk⟩
        · exact h.elim
      · split at h
        · split at h
          · rename_i sz rows hb _ cs δ hp
            cases hm : memD _ δ with
            | true => rw [hm] at h; exact h.elim
            | false =>
              rw [hm] at h
              simp only [cond_false] at h ⊢
              obtain ⟨cs2, _, _, _, ⟨row, h0, h⟩, h9⟩ := wkC_std h
              obtain ⟨r', h1, h2⟩ := storeRow_det h
              exact ⟨_, _, h1, fun _ hk => h9 _ ⟨row, h0, h2 _ hk⟩⟩
          · exact h.elim
        · rename_i e1 _ _ _ e2
          simp [ndO, e1, e2] at hn
        · exact h.elim
      · rename_i e1
        simp [ndO, e1] at hn
      · exact h.elim
    · exact h.elim
  case slice t x lo hi mx =>
    simp only [opE] at h ⊢
    split at h
    all_goals repeat' (first
      | exact h.elim
      | exact ⟨_, _, h, fun _ hk => hk⟩
      | (obtain ⟨i, j, h1, h2, h3, h4, h5⟩ := h; exact ⟨_, _, h5, fun _ hk => ⟨i, j, h1, h2, h3, h4, hk⟩⟩)
      | (split at h)
      | (simp only [bifF] at h ⊢; refine det_and h.1 ?_; replace h := h.2)
          | (refine det_and h.1 ?_; replace h := h.2))
  case call c =>
    obtain ⟨callee, args, ts⟩ := c
    cases callee
    case builtin b =>
      cases b
      case append =>
        simp only [opE] at h ⊢
        split at h
        all_goals repeat' (first
          | contradiction
          | exact h.elim
          | exact ⟨_, _, h, fun _ hk => hk⟩
          | (obtain ⟨h1, h2, h3⟩ := h; exact ⟨_, _, h3, fun _ hk => ⟨h1, h2, hk⟩⟩)
          | (split at h)
          | (simp only [bifF] at h ⊢; refine det_and h.1 ?_; replace h := h.2)
          | (refine det_and h.1 ?_; replace h := h.2))
      all_goals (rcases hc with hc | hc <;> simp [clsO, isQ] at hc)
    all_goals first | (simp only [opE] at h; done) | (simp only [opE] at h; exact h.elim) | (rcases hc with hc | hc <;> simp [clsO, isQ] at hc)
  all_goals (rcases hc with hc | hc <;> simp [clsO, isQ] at hc)
theorem storeRow_some {size : Nat} {row : List PV} {c : Nat} {v : PV} {K : List PV → Prop} (h : storeRow size row c v K) : ∃ r, K r := by
  obtain ⟨r, h, _⟩ := storeRow_det h
  exact ⟨r, h⟩
theorem opE_some {o : Op} {ps : List PV} {lk : Nat → Option Blk} {id : Nat} {K : PV → Dl → Prop} (hn : ndO T ps lk o = true) (h : opE T (Sig.std P T) o ps lk id K) : ∃ v δ, K v δ := by
  cases o
  case store t x y =>
    simp only [opE] at h
    split at h
    · split at h
      · rename_i e1; simp [ndO, e1] at hn
      · rename_i b r c e1
        split at h
        · rename_i e2; simp [ndO, e1, e2] at hn
        · split at h
          · split at h
            · revert h
              generalize (_ && _ : Bool) = bb
              intro h
              cases bb with
              | true => exact h.elim
              | false =>
                obtain ⟨row, _, h⟩ := h
                obtain ⟨r, h⟩ := storeRow_some (h ⟨0, 0, 0⟩)
                exact ⟨_, _, h⟩
            · exact h.elim
          · split at h
            · obtain ⟨row, _, h⟩ := h
              obtain ⟨r, h⟩ := storeRow_some h
              exact ⟨_, _, h⟩
            · exact h.elim
        · exact h.elim
      · split at h
        · split at h
          · have h9 := wkC_std h
            clear h
            obtain ⟨_, _, _, _, ⟨row, _, h⟩, _⟩ := h9
            split at h
            · simp only [bifF, Sig.std] at h
              obtain ⟨_, _, er, _, h⟩ := h
              obtain ⟨r, h⟩ := storeRow_some h
              exact ⟨_, _, h⟩
            · exact h.elim
          · exact h.elim
        · exact h.elim
      · exact h.elim
    · exact h.elim
  all_goals simp [ndO] at hn
theorem semX_big (hT : TabOK P T) (hW : PWf P) {all : Array Oper} {o : Oper} {ps : List PV} {lk : Nat → Option Blk} {id : Nat} {v : PV} {δ : Dl} (hF : ∀ K' : PV → Dl → Prop, K' v δ → opE T (Sig.std P T) o.op ps lk id K') : SemX P T all o ps lk id v δ true := by
  intro C qs Y σ a w st n hl H hd hlk hid next Q hnext
  obtain ⟨h1, h2, h3⟩ := hid rfl
  have h4 := hF (fun v' δ' => v' = v ∧ δ' = δ) ⟨rfl, rfl⟩
  rw [← opE_congr (tmp_looks hl)] at h4
  obtain ⟨v', δ', cv, w', Y', σ', ⟨rfl, rfl⟩, hrun, H', hv, hoff⟩ := opE_res hT hW H hlk ⟨h1 id (Nat.le_refl _) (by omega), h2⟩ h4
  have hn : nextI δ' n id ≤ n := by cases δ' <;> simp [nextI] <;> omega
  have := hnext cv w' Y' σ' (H'.mono hn) (fun b hb => hoff b (by omega)) (fun e => by cases e) hv
  unfold Oper.wp
  rcases hrun with hrun | ⟨hrun, rfl⟩
  · rw [hrun]; exact this
  · rw [hrun]; exact this
theorem opW_op {S : Sig} {o : Op} {ps : List PV} {lk : Nat → Option Blk} {st : St} {id : Nat} {c2 : Bool} {K : PV → Dl → Prop} (hn : ∀ f args ts, o = .call { callee := .value f, args := args, argTypes := ts } → False) : opW T S o ps lk st id c2 K = opE T S o ps lk id K := by
  unfold opW
  split
  · rename_i f args ts
    exact (hn f args ts rfl).elim
  · rfl
theorem bakO_dl (f : Nat → Option Nat) (st1 : St) : ∀ (l : List Nat) (i : Nat) (st : St), bakO f st1 i l st = applyD (dlO f st1 i l) st
  | [], i, st => rfl
  | b :: l, i, st => by simp only [bakO, dlO, applyD]; exact bakO_dl f st1 l (i + 1) _
theorem renS_congr (f : Nat → Option Nat) {st st' : St} : ∀ (ρ : List Nat) (i : Nat), (∀ b ∈ ρ, lkS st b = lkS st' b) → renS f st i ρ = renS f st' i ρ
  | [], i, _ => rfl
  | b :: ρ, i, h => by
    simp only [renS]
    rw [h b (by simp), renS_congr f ρ (i + 1) fun c hc => h c (by simp [hc])]
theorem allS_spec {st : St} : ∀ (ρ : List Nat), allS st ρ = true → ∀ b ∈ ρ, ∃ x, lkS st b = some x
  | [], _, b, h => by cases h
  | c :: ρ, h, b, hb => by
    simp only [allS, Bool.and_eq_true] at h
    rcases List.mem_cons.1 hb with rfl | hb
    · have := h.1
      cases hx : lkS st b with
      | none => rw [hx] at this; cases this
      | some x => exact ⟨x, rfl⟩
    · exact allS_spec ρ h.2 b hb
theorem opW_det {o : Op} {ps : List PV} {lk : Nat → Option Blk} {st : St} {id : Nat} {c2 : Bool} {K : PV → Dl → Prop} (hc : clsO T o = 1 ∨ clsO T o = 2) (hn : ndO T ps lk o = false) (h : opW T (Sig.std P T) o ps lk st id c2 K) :
    ∃ v δ, K v δ ∧ ∀ K' : PV → Dl → Prop, K' v δ → opW T (Sig.std P T) o ps lk st id c2 K' := by
  by_cases hv : ∃ f args ts, o = .call { callee := .value f, args := args, argTypes := ts }
  · obtain ⟨f, args, ts, rfl⟩ := hv
    unfold opW at h ⊢
    simp only at h ⊢
    split at h
    · rename_i k caps hf
      cases c2 with
      | false =>
        simp only at h
        split at h
        · rename_i as hm
          obtain ⟨v, x, hF, hK⟩ := h
          refine ⟨_, _, hK, fun K' hk => ?_⟩
          simp only [hm]
          exact ⟨v, x, hF, hk⟩
        · exact h.elim
      | true =>
        simp only at h
        unfold callW2 at h
        split at h
        · rename_i hcnd
          obtain ⟨v, st1, n1, h0, hF, hK⟩ := h
          split at hK
          · rename_i hb
            refine ⟨_, _, hK, fun K' hk => ?_⟩
            simp only
            unfold callW2
            simp only [hcnd]
            refine ⟨v, st1, n1, h0, hF, ?_⟩
            simp only [hb]; exact hk
          · exact hK.elim
        · exact h.elim
    · exact h.elim
  · have hv' : ∀ f args ts, o = .call { callee := .value f, args := args, argTypes := ts } → False := fun f args ts e => hv ⟨f, args, ts, e⟩
    rw [opW_op hv'] at h
    obtain ⟨v, δ, h1, h2⟩ := opE_det2 hc hn h
    exact ⟨v, δ, h1, fun K' hk => by rw [opW_op hv']; exact h2 K' hk⟩
theorem semX_W (hT : TabOK P T) (hW : PWf P) {all : Array Oper} {o : Oper} {ps : List PV} {lk : Nat → Option Blk} {st : St} {id : Nat} {v : PV} {δ : Dl} {c2 : Bool} (hst : c2 = true → lk = lkS st) (hF : ∀ K' : PV → Dl → Prop, K' v δ → opW T (Sig.std P T) o.op ps lk st id c2 K') : SemX P T all o ps lk id v δ true := by
  by_cases hv : ∃ f args ts, o.op = .call { callee := .value f, args := args, argTypes := ts }
  · obtain ⟨f, args, ts, ho⟩ := hv
    intro C qs Y σ a w stn n hl H hd hlk hid next Q hnext
    obtain ⟨g1, g2, g3⟩ := hid rfl
    have h4 := hF (fun v' δ' => v' = v ∧ δ' = δ) ⟨rfl, rfl⟩
    rw [ho] at h4
    unfold opW at h4
    simp only at h4
    split at h4
    · rename_i k caps hf
      have hev := tmp_looks (T := T) hl
      rw [ho] at hev
      have hfv := ev_rep H f
      rw [hev f (by simp [Op.operands, Call.operands]), hf] at hfv
      unfold Rep at hfv
      obtain ⟨cs, ef, hcs⟩ := hfv
      have hargs := evA_rep H args.toList
      rw [evA_congr (ps := qs) (qs := ps) args.toList fun x hx => hev x (by simp only [Op.operands, Call.operands]; simp; exact .inr (by simpa using hx))] at hargs
      have hall := RepL.app _ _ _ _ hargs hcs
      cases c2 with
      | false =>
        simp only at h4
        split at h4
        · rename_i as hm
          obtain ⟨v0, x, hF0, rfl, rfl⟩ := h4
          have hr0 := mapO_frz (P := P) (T := T) H.store (lk := noLk) (fun b x h => by cases h) (fun _ h => h) (fun b x l h => by cases h) (fun b sz rows hb => by cases hb) hm hall
          have hr1 : RepL w Y σ as _ := RepL.keep as (σ := noSg) (σ' := σ) ⟨fun _ _ _ => rfl, fun _ _ h => h, Nat.le_refl _, fun b l h => by simp [noSg] at h⟩ _ hr0
          obtain ⟨hent, hcall⟩ := call_W (E := ⟨qs, stn, id⟩) (ρ := []) (n0 := n) (N := n) (v := v0) (st1 := [(0, some x)]) (n1 := 1) H rfl rfl rfl g2 (fun b hb1 hb2 => by
            have : b = id := by simp only [lenNs] at hb1 hb2; omega
            rw [this]; exact g1 id (Nat.le_refl _) (by omega)) ⟨by simp only [lenNs]; omega, Nat.le_refl _⟩ hr1 hF0
          unfold Oper.wp
          rw [call_run ho ef hent]
          refine Calls.mono hcall fun e w' hh => ?_
          obtain ⟨cv, Y', σ', rfl, H', hv', hoff⟩ := hh
          exact hnext cv w' Y' σ' H' (fun b hb => hoff b (by simp only [lenNs]; omega)) (fun e => by cases e) hv'
        · exact h4.elim
      | true =>
        simp only at h4
        unfold callW2 at h4
        split at h4
        · rename_i hcnd
          simp only [Bool.and_eq_true] at hcnd
          obtain ⟨c1, c2, c3⟩ := hcnd
          obtain ⟨v0, st1, n1, h0, hF0, hK⟩ := h4
          split at hK
          · rename_i hb
            obtain ⟨rfl, rfl⟩ := hK
            have hb := Nat.le_of_ble_eq_true hb
            have hlk' := hlk
            rw [hst rfl] at hlk'
            have hren := renS_congr (st := st) (st' := stn) (ixN (callN (appL (evA T ps args.toList) caps) st)) (callN (appL (evA T ps args.toList) caps) st) 0 fun b hb => by
              obtain ⟨x, hx⟩ := allS_spec _ c3 b hb
              rw [hx, hlk' b x hx]
            rw [hren] at h0 hF0
            obtain ⟨hent, hcall⟩ := call_W (E := ⟨qs, stn, id⟩) (n0 := n) (N := n) (v := v0) (st1 := st1) H c2 c1 h0 g2 (fun b hb1 hb2 => g1 b hb1 (by simp only at hb2; omega)) ⟨by simp only; omega, Nat.le_refl _⟩ hall hF0
            unfold Oper.wp
            rw [call_run ho ef hent]
            refine Calls.mono hcall fun e w' hh => ?_
            obtain ⟨cv, Y', σ', rfl, H', hv', hoff⟩ := hh
            refine hnext cv w' Y' σ' ?_ (fun b hb' => hoff b (by simp only; omega)) (fun e => by cases e) hv'
            rw [← bakO_dl]; exact H'
          · exact hK.elim
        · exact h4.elim
    · exact h4.elim
  · have hv' : ∀ f args ts, o.op = .call { callee := .value f, args := args, argTypes := ts } → False := fun f args ts e => hv ⟨f, args, ts, e⟩
    exact semX_big hT hW fun K' hk => by have := hF K' hk; rw [opW_op hv'] at this; exact this
end
end Go.Pv
namespace Go.Pv
open Go
section
variable {P : Program} {T : Tab}
structure Rec where
  e1 : List PV
  er : List PV
  lk : Nat → Option Blk
  v : PV
  δ : Dl
  id : Nat
  big : Bool
  wb : Bool
  nd : Bool
def keysD (δ : Dl) (b : Nat) : Prop := ∃ x, (b, x) ∈ δ
structure StepOK (P : Program) (T : Tab) (all : Array Oper) (o : Oper) (r : Rec) (p : List PV) (st : St) (nx : Nat) (pend : List Nat) : Prop where
  e1 : EqvL p r.e1
  er : EqvL p r.er
  gd : SemGd T all o r.e1 r.wb
  sem : r.wb = true → r.nd = false → SemX P T all o r.er r.lk r.id r.v r.δ r.big
  ndw : r.nd = true → r.wb = true ∧ r.big = true
  skip : r.wb = false → r.v = .undef
  cls : (r.big = false ∧ r.δ = [] ∧ (r.wb = true → ∀ b x, r.lk b = some x → clsO T o.op = 3 ∧ b ∉ pend ∧ lkS st b = some x)) ∨
    (r.wb = true ∧ r.big = true ∧ r.id = nx ∧ clsO T o.op = 1 ∧ (∃ x, r.δ = [(nx, some x)]) ∧ r.lk = noLk) ∨
    (r.wb = true ∧ r.big = true ∧ r.id = nx ∧ clsO T o.op = 2 ∧ (∀ b, keysD r.δ b → b < nx + 32) ∧ r.lk = lkS st)
def bump (b : Bool) (n : Nat) : Nat := match b with | true => n + 32 | false => n
def pendN (T : Tab) (o : Oper) (r : Rec) (pend : List Nat) : List Nat := match r.big with
  | false => pend
  | true => if clsO T o.op = 1 then r.id :: pend else []
def ChD (P : Program) (T : Tab) (all : Array Oper) : List Oper → List Rec → List PV → St → Nat → List Nat → List PV → St → Nat → Prop
  | [], [], p, st, nx, _, f, stf, nxf => p = f ∧ st = stf ∧ nx = nxf
  | o :: l, r :: rs, p, st, nx, pend, f, stf, nxf => StepOK P T all o r p st nx pend ∧ ChD P T all l rs (putT r.er o.dst r.v) (applyD r.δ st) (bump r.big nx) (pendN T o r pend) f stf nxf
  | _, _, _, _, _, _, _, _, _ => False
def FinD (P : Program) (T : Tab) (all : Array Oper) (K : Env → Prop) : List Oper → List Rec → St → List PV → St → Nat → Prop
  | o :: l, r :: rs, st, f, stf, nxf => (r.nd = true → l = [] ∧ rs = [] ∧ lastOK all = true ∧ nxf = r.id + 32 ∧ opE T (Sig.std P T) o.op r.er (lkS st) r.id (fun v δ => bif ltD (r.id + 32) δ then K ⟨putT r.er o.dst v, applyD δ st, r.id + 32⟩ else False))
    ∧ (r.nd = false → FinD P T all K l rs (applyD r.δ st) f stf nxf)
  | [], [], _, f, stf, nxf => K ⟨f, stf, nxf⟩
  | _, _, _, _, _, _ => False
theorem ltD_spec {n : Nat} : ∀ (δ : Dl), ltD n δ = true → ∀ b, keysD δ b → b < n
  | [], _, b, h => by obtain ⟨x, h⟩ := h; cases h
  | (c, y) :: δ, h, b, hb => by
    simp only [ltD, Bool.and_eq_true, Nat.blt_eq] at h
    obtain ⟨x, hb⟩ := hb
    rcases List.mem_cons.1 hb with e | hb
    · cases e; exact h.1
    · exact ltD_spec δ h.2 b ⟨x, hb⟩
theorem hideD_spec {pend : List Nat} {lk : Nat → Option Blk} {b : Nat} {x : Blk} (h : hideD pend lk b = some x) : b ∉ pend ∧ lk b = some x := by
  unfold hideD at h
  cases hb : hasN pend b with
  | true => rw [hb] at h; cases h
  | false => rw [hb] at h; exact ⟨(fun hm => by rw [(hasN_iff _ _).2 hm] at hb; cases hb), h⟩
theorem ndO_one {o : Op} {ps : List PV} {lk : Nat → Option Blk} (h : clsO T o = 1) : ndO T ps lk o = false := by cases o <;> simp [ndO, clsO] at h ⊢
theorem opsD_chain (hT : TabOK P T) (hW : PWf P) {all : Array Oper} : ∀ (l : List Oper) (pend : List Nat) (E : Env) (K : Env → Prop), opsD T (Sig.std P T) all l pend E K →
    ∃ rs f stf nxf, ChD P T all l rs E.tmps E.st E.next pend f stf nxf ∧ FinD P T all K l rs E.st f stf nxf
  | [], pend, E, K, h => ⟨[], E.tmps, E.st, E.next, ⟨rfl, rfl, rfl⟩, h⟩
  | o :: l, pend, E, K, h => by
    simp only [opsD] at h
    obtain ⟨E1, wb, h1, h2, h3, h4, h5, h6⟩ := gd_split h
    cases wb with
    | false =>
      have k5 := h6 rfl
      rw [putE_eq, h2, h3] at k5
      obtain ⟨rs, f, stf, nxf, hc, hK⟩ := opsD_chain hT hW l pend _ _ k5
      exact ⟨⟨E1.tmps, E1.tmps, noLk, .undef, [], 0, false, false, false⟩ :: rs, f, stf, nxf, ⟨⟨h1, h1, h4, (fun e => by cases e), (fun e => by cases e), (fun _ => rfl), .inl ⟨rfl, rfl, fun e => by cases e⟩⟩, hc⟩, (fun e => by cases e), fun _ => hK⟩
    | true =>
      have h5 := h5 rfl
      unfold stepL at h5
      cases hnd : ndO T E1.tmps (lkS E1.st) o.op with
      | true =>
        rw [hnd] at h5
        cases l with
        | cons _ _ => exact h5.elim
        | nil =>
            obtain ⟨hlo, h5⟩ := h5
            obtain ⟨v, δ, hk⟩ := opE_some hnd h5
            cases hi : ltD (E1.next + 32) δ with
            | false => rw [hi] at hk; exact hk.elim
            | true =>
              have hcl : clsO T o.op = 2 := by
                revert hnd
                cases o.op <;> simp [ndO, clsO]
              refine ⟨[⟨E1.tmps, E1.tmps, lkS E1.st, v, δ, E1.next, true, true, true⟩], _, _, _, ⟨⟨h1, h1, h4, (fun _ e => by cases e), (fun _ => ⟨rfl, rfl⟩), (fun e => by cases e), .inr (.inr ⟨rfl, rfl, h3, hcl, ?_, by rw [h2]⟩)⟩, rfl, rfl, rfl⟩, fun _ => ⟨rfl, rfl, hlo, by simp [bump, h3], ?_⟩, fun e => by cases e⟩
              · rw [← h3]; exact ltD_spec δ hi
              · simp only [putE_eq, h2] at h5; exact h5
      | false =>
      rw [hnd] at h5
      simp only at h5
      unfold stepD at h5
      have quiet : ∀ lk, (clsO T o.op = 0 ∧ lk = noLk ∨ clsO T o.op = 3 ∧ lk = hideD pend (lkS E1.st)) → stepQ T (Sig.std P T) o lk E1 (fun E => opsD T (Sig.std P T) all l pend E K) →
          ∃ rs f stf nxf, ChD P T all (o :: l) rs E.tmps E.st E.next pend f stf nxf ∧ FinD P T all K (o :: l) rs E.st f stf nxf := by
        intro lk hlk hs
        obtain ⟨E2, v, k1, k2, k3, k4, k5⟩ := stepQ_split hT hW (all := all) 0 hs
        rw [putE_eq, k2, k3, h2, h3] at k5
        obtain ⟨rs, f, stf, nxf, hc, hK⟩ := opsD_chain hT hW l pend _ _ k5
        refine ⟨⟨E1.tmps, E2.tmps, lk, v, [], 0, false, true, false⟩ :: rs, f, stf, nxf, ⟨⟨h1, h1.trans k1, h4, fun _ _ => k4, (fun e => by cases e), (fun e => by cases e), .inl ⟨rfl, rfl, fun _ b x hb => ?_⟩⟩, hc⟩, (fun e => by cases e), fun _ => hK⟩
        rcases hlk with ⟨c0, rfl⟩ | ⟨c3, rfl⟩
        · cases hb
        · obtain ⟨a1, a2⟩ := hideD_spec hb
          rw [h2] at a2
          exact ⟨c3, a1, a2⟩
      split at h5
      · rename_i hc; exact quiet noLk (.inl ⟨hc, rfl⟩) h5
      · rename_i hc
        obtain ⟨v, δ, hk, hf⟩ := opW_det (.inl hc) (ndO_one hc) h5
        split at hk
        · rename_i id x
          cases hi : Nat.beq id E1.next with
          | false => rw [hi] at hk; exact hk.elim
          | true =>
            rw [hi] at hk
            simp only [cond_true] at hk
            have hid := Nat.eq_of_beq_eq_true hi
            subst hid
            rw [putE_eq, h2, h3] at hk
            obtain ⟨rs, f, stf, nxf, hc2, hK⟩ := opsD_chain hT hW l _ _ _ hk
            refine ⟨⟨E1.tmps, E1.tmps, noLk, v, [(E1.next, some x)], E1.next, true, true, false⟩ :: rs, f, stf, nxf, ⟨⟨h1, h1, h4, fun _ _ => ?_, (fun e => by cases e), (fun e => by cases e), .inr (.inl ⟨rfl, rfl, h3, hc, ⟨x, by rw [h3]⟩, rfl⟩)⟩, ?_⟩, (fun e => by cases e), fun _ => ?_⟩
            · exact semX_W hT hW (fun e => by cases e) hf
            · simp only [applyD, bump, pendN, hc, if_true, h3]; exact hc2
            · simp only [applyD, h3]; exact hK
        · exact hk.elim
      · rename_i hc
        obtain ⟨v, δ, hk, hf⟩ := opW_det (.inr hc) hnd h5
        cases hi : ltD (E1.next + 32) δ with
        | false => rw [hi] at hk; exact hk.elim
        | true =>
          rw [hi] at hk
          simp only [cond_true] at hk
          rw [putE_eq, h2, h3] at hk
          obtain ⟨rs, f, stf, nxf, hc2, hK⟩ := opsD_chain hT hW l _ _ _ hk
          refine ⟨⟨E1.tmps, E1.tmps, lkS E1.st, v, δ, E1.next, true, true, false⟩ :: rs, f, stf, nxf, ⟨⟨h1, h1, h4, fun _ _ => ?_, (fun e => by cases e), (fun e => by cases e), .inr (.inr ⟨rfl, rfl, h3, hc, ?_, by rw [h2]⟩)⟩, ?_⟩, (fun e => by cases e), fun _ => hK⟩
          · exact semX_W hT hW (fun _ => rfl) hf
          · rw [← h3]; exact ltD_spec δ hi
          · simp only [bump, pendN, hc, h3]; exact hc2
      · rename_i hc; exact quiet _ (.inr ⟨hc, rfl⟩) h5
      · exact h5.elim
theorem ChD.len {all : Array Oper} : ∀ (l : List Oper) (rs : List Rec) {p : List PV} {st : St} {nx : Nat} {pend : List Nat} {f : List PV} {stf : St} {nxf : Nat}, ChD P T all l rs p st nx pend f stf nxf → rs.length = l.length ∧ f.length = p.length
  | [], [], _, _, _, _, _, _, _, h => ⟨rfl, by rw [h.1]⟩
  | o :: l, r :: rs, _, _, _, _, _, _, _, h => by
    obtain ⟨h1, h2⟩ := ChD.len l rs h.2
    exact ⟨by simp [h1], by rw [h2, putT_length, h.1.er.1]⟩
  | [], _ :: _, _, _, _, _, _, _, _, h => h.elim
  | _ :: _, [], _, _, _, _, _, _, _, h => h.elim
theorem ChD.keep {all : Array Oper} {t : Nat} : ∀ (l : List Oper) (rs : List Rec) {p : List PV} {st : St} {nx : Nat} {pend : List Nat} {f : List PV} {stf : St} {nxf : Nat}, ChD P T all l rs p st nx pend f stf nxf → (∀ o ∈ l, o.dst ≠ some t) → Eqv (getL p t) (getL f t)
  | [], [], _, _, _, _, _, _, _, h, _ => by rw [h.1]; exact Eqv.refl _
  | o :: l, r :: rs, _, _, _, _, _, _, _, h, hn => by
    have := ChD.keep l rs h.2 fun o ho => hn o (by simp [ho])
    rw [putT_ne (hn o (by simp))] at this
    exact (h.1.er.2 t).trans this
  | [], _ :: _, _, _, _, _, _, _, _, h, _ => h.elim
  | _ :: _, [], _, _, _, _, _, _, _, h, _ => h.elim
def stAt : List Rec → St → Nat → St
  | _, st, 0 => st
  | [], st, _ + 1 => st
  | r :: rs, st, i + 1 => stAt rs (applyD r.δ st) i
def nxAt : List Rec → Nat → Nat → Nat
  | _, n, 0 => n
  | [], n, _ + 1 => n
  | r :: rs, n, i + 1 => nxAt rs (bump r.big n) i
def pendAt (T : Tab) : List Oper → List Rec → List Nat → Nat → List Nat
  | _, _, pd, 0 => pd
  | o :: l, r :: rs, pd, i + 1 => pendAt T l rs (pendN T o r pd) i
  | _, _, pd, _ => pd
theorem ChD.get {all : Array Oper} : ∀ (l : List Oper) (rs : List Rec) {p : List PV} {st : St} {nx : Nat} {pend : List Nat} {f : List PV} {stf : St} {nxf : Nat}, ChD P T all l rs p st nx pend f stf nxf → ∀ (i : Nat) (o : Oper), l[i]? = some o →
    ∃ r q, rs[i]? = some r ∧ q.length = p.length ∧ StepOK P T all o r q (stAt rs st i) (nxAt rs nx i) (pendAt T l rs pend i) ∧
      (∀ t, (∀ j oj, j < i → l[j]? = some oj → oj.dst ≠ some t) → Eqv (getL p t) (getL q t)) ∧
      (∀ t, (∀ j oj, i ≤ j → l[j]? = some oj → oj.dst ≠ some t) → Eqv (getL q t) (getL f t)) ∧
      (∀ d, o.dst = some d → d < p.length → (∀ j oj, i < j → l[j]? = some oj → oj.dst ≠ some d) → Eqv r.v (getL f d))
  | [], _, _, _, _, _, _, _, _, _, i, o, hi => by simp at hi
  | _ :: _, [], _, _, _, _, _, _, _, h, _, _, _ => h.elim
  | o' :: l, r :: rs, p, _, _, _, f, _, _, h, 0, o, hi => by
    obtain ⟨h1, h6⟩ := h
    simp at hi; subst hi
    refine ⟨r, p, rfl, rfl, h1, fun t _ => Eqv.refl _, fun t ht => ?_, fun d hd hlt hn => ?_⟩
    · have hk := ChD.keep l rs h6 (t := t) fun o ho => by
        obtain ⟨j, hj⟩ := List.getElem?_of_mem ho
        exact ht (j + 1) o (by omega) (by simpa using hj)
      rw [putT_ne (ht 0 o' (by omega) (by simp))] at hk
      exact (h1.er.2 t).trans hk
    · have hk := ChD.keep l rs h6 (t := d) fun o ho => by
        obtain ⟨j, hj⟩ := List.getElem?_of_mem ho
        exact hn (j + 1) o (by omega) (by simpa using hj)
      rw [hd] at hk
      simp only [putT, getL_setL] at hk
      rw [if_pos ⟨trivial, by rw [← h1.er.1]; exact hlt⟩] at hk
      exact hk
  | o' :: l, r :: rs, p, _, _, _, f, _, _, h, i + 1, o, hi => by
    obtain ⟨h1, h6⟩ := h
    obtain ⟨r', q, a0, a1, a2, a6, a7, a8⟩ := ChD.get l rs h6 i o (by simpa using hi)
    have hl : (putT r.er o'.dst r.v).length = p.length := by rw [putT_length, h1.er.1]
    refine ⟨r', q, by simpa using a0, by rw [a1, hl], a2, fun t ht => ?_, fun t ht => ?_, fun d hd hlt hn => ?_⟩
    · have hk := a6 t fun j oj hj hoj => ht (j + 1) oj (by omega) (by simpa using hoj)
      rw [putT_ne (ht 0 o' (by omega) (by simp))] at hk
      exact (h1.er.2 t).trans hk
    · exact a7 t fun j oj hj hoj => ht (j + 1) oj (by omega) (by simpa using hoj)
    · exact a8 d hd (by rw [hl]; exact hlt) fun j oj hj hoj => hn (j + 1) oj (by omega) (by simpa using hoj)
theorem ChD.fin {all : Array Oper} : ∀ (l : List Oper) (rs : List Rec) {p : List PV} {st : St} {nx : Nat} {pend : List Nat} {f : List PV} {stf : St} {nxf : Nat}, ChD P T all l rs p st nx pend f stf nxf → stf = stAt rs st rs.length ∧ nxf = nxAt rs nx rs.length
  | [], [], _, _, _, _, _, _, _, h => ⟨h.2.1.symm, h.2.2.symm⟩
  | o :: l, r :: rs, _, _, _, _, _, _, _, h => ChD.fin l rs h.2
  | [], _ :: _, _, _, _, _, _, _, _, h => h.elim
  | _ :: _, [], _, _, _, _, _, _, _, h => h.elim
theorem bump_le (b : Bool) (n : Nat) : n ≤ bump b n := by cases b <;> simp [bump]
theorem nxAt_start : ∀ (rs : List Rec) (n i : Nat), n ≤ nxAt rs n i
  | _, n, 0 => by simp [nxAt]
  | [], n, i + 1 => by simp [nxAt]
  | r :: rs, n, i + 1 => by simp only [nxAt]; exact Nat.le_trans (bump_le _ _) (nxAt_start rs _ i)
theorem nxAt_succ : ∀ (rs : List Rec) (n i : Nat) (r : Rec), rs[i]? = some r → nxAt rs n (i + 1) = bump r.big (nxAt rs n i)
  | [], n, i, r, h => by simp at h
  | r :: rs, n, 0, r', h => by simp at h; subst h; cases rs <;> simp [nxAt]
  | r :: rs, n, i + 1, r', h => by simp only [nxAt]; exact nxAt_succ rs _ i r' (by simpa using h)
theorem nxAt_over : ∀ (rs : List Rec) (n i : Nat), rs.length ≤ i → nxAt rs n (i + 1) = nxAt rs n i
  | [], n, 0, _ => by simp [nxAt]
  | [], n, i + 1, _ => by simp [nxAt]
  | r :: rs, n, 0, h => by simp at h
  | r :: rs, n, i + 1, h => by simp only [nxAt]; exact nxAt_over rs _ i (by simpa using h)
theorem nxAt_mono {rs : List Rec} {n i j : Nat} (h : i ≤ j) : nxAt rs n i ≤ nxAt rs n j := by
  induction h with
  | refl => exact Nat.le_refl _
  | step h ih =>
    rename_i m
    cases hm : rs[m]? with
    | some r => rw [nxAt_succ _ _ _ _ hm]; exact Nat.le_trans ih (bump_le _ _)
    | none => rw [nxAt_over _ _ _ (by rw [List.getElem?_eq_none_iff] at hm; exact hm)]; exact ih
def lastD : Dl → Nat → Option (Option Blk)
  | [], _ => none
  | (c, x) :: δ, b => match lastD δ b with
    | some y => some y
    | none => if c = b then some x else none
theorem lk_applyD : ∀ (δ : Dl) (st : St) (b : Nat), lkS (applyD δ st) b = (match lastD δ b with | some x => x | none => lkS st b)
  | [], st, b => rfl
  | (c, x) :: δ, st, b => by
    simp only [applyD, lk_applyD δ (inS st c x) b, lastD]
    cases lastD δ b with
    | some y => rfl
    | none =>
      simp only [lkS_inS]
      by_cases h : c = b <;> simp [h]
theorem lastD_keys : ∀ (δ : Dl) (b : Nat), lastD δ b ≠ none → keysD δ b
  | [], b, h => absurd rfl h
  | (c, x) :: δ, b, h => by
    simp only [lastD] at h
    split at h
    · rename_i y hy
      obtain ⟨z, hz⟩ := lastD_keys δ b (by rw [hy]; simp)
      exact ⟨z, List.mem_cons_of_mem _ hz⟩
    · by_cases hc : c = b
      · subst hc; exact ⟨x, by simp⟩
      · rw [if_neg hc] at h; exact absurd rfl h
def lst : List Rec → (Nat → Bool) → Nat → Nat → Option (Option Blk)
  | [], _, _, _ => none
  | r :: rs, D, i, b => match lst rs D (i + 1) b with
    | some y => some y
    | none => if D i then lastD r.δ b else none
def orS (st : St) (b : Nat) : Option (Option Blk) → Option Blk
  | some x => x
  | none => lkS st b
theorem lst_agree : ∀ (rs : List Rec) (D D' : Nat → Bool) (i b : Nat), (∀ k r, rs[k]? = some r → lastD r.δ b ≠ none → D (i + k) = D' (i + k)) → lst rs D i b = lst rs D' i b
  | [], _, _, _, _, _ => rfl
  | r :: rs, D, D', i, b, h => by
    have ih := lst_agree rs D D' (i + 1) b fun k r' hr hb => by
      have := h (k + 1) r' (by simpa using hr) hb
      rwa [show i + (k + 1) = i + 1 + k by omega] at this
    simp only [lst, ih]
    split
    · rfl
    · by_cases hb : lastD r.δ b = none
      · simp [hb]
      · have := h 0 r rfl hb
        simp only [Nat.add_zero] at this
        rw [this]
theorem lst_none : ∀ (rs : List Rec) (D : Nat → Bool) (i b : Nat), (∀ k r, rs[k]? = some r → D (i + k) = true → lastD r.δ b = none) → lst rs D i b = none
  | [], _, _, _, _ => rfl
  | r :: rs, D, i, b, h => by
    have ih := lst_none rs D (i + 1) b fun k r' hr hb => h (k + 1) r' (by simpa using hr) (by rwa [show i + (k + 1) = i + 1 + k by omega])
    simp only [lst, ih]
    split
    · rename_i h0; exact h 0 r rfl (by simpa using h0)
    · rfl
theorem lst_last : ∀ (rs : List Rec) (D : Nat → Bool) (i m b : Nat) (r : Rec) (x : Option Blk), rs[m]? = some r → D (i + m) = true → lastD r.δ b = some x → (∀ k r', m < k → rs[k]? = some r' → D (i + k) = true → lastD r'.δ b = none) → lst rs D i b = some x
  | [], _, _, m, _, _, _, h, _, _, _ => by simp at h
  | r :: rs, D, i, 0, b, r', x, h, hD, hx, hl => by
    simp at h; subst h
    have := lst_none rs D (i + 1) b fun k r' hr hb => hl (k + 1) r' (by omega) (by simpa using hr) (by rwa [show i + (k + 1) = i + 1 + k by omega])
    simp only [lst, this]
    rw [if_pos (by simpa using hD)]; exact hx
  | r :: rs, D, i, m + 1, b, r', x, h, hD, hx, hl => by
    have := lst_last rs D (i + 1) m b r' x (by simpa using h) (by rwa [show i + 1 + m = i + (m + 1) by omega]) hx fun k r2 hk hr hb => hl (k + 1) r2 (by omega) (by simpa using hr) (by rwa [show i + (k + 1) = i + 1 + k by omega])
    simp only [lst, this]
theorem lk_stAt : ∀ (rs : List Rec) (st : St) (i j b : Nat), lkS (stAt rs st i) b = orS st b (lst rs (fun k => decide (k < j + i)) j b)
  | [], st, 0, j, b => rfl
  | [], st, i + 1, j, b => rfl
  | r :: rs, st, 0, j, b => by
    simp only [stAt]
    rw [lst_none _ _ _ _ fun k r' _ h => by simp at h; omega]; rfl
  | r :: rs, st, i + 1, j, b => by
    simp only [stAt, lk_stAt rs (applyD r.δ st) i (j + 1) b, lst]
    rw [show (fun k => decide (k < j + 1 + i)) = (fun k => decide (k < j + (i + 1))) from funext fun k => by congr 2; omega]
    cases lst rs (fun k => decide (k < j + (i + 1))) (j + 1) b with
    | some y => rfl
    | none =>
      simp only [orS, lk_applyD]
      rw [if_pos (by simp)]
theorem chkOne_spec {all : Array Oper} {i : Nat} {o : Oper} {lo : List Tmp} : ∀ (l : List Oper) (j : Nat), chkOne all i o lo l j = true → ∀ (k : Nat) (p : Oper), l[k]? = some p → pairOK all i o lo (j + k) p = true
  | [], _, _, k, p, hk => by simp at hk
  | q :: l, j, h, 0, p, hk => by simp at hk; subst hk; simp only [chkOne, Bool.and_eq_true] at h; exact h.1
  | q :: l, j, h, k + 1, p, hk => by
    simp only [chkOne, Bool.and_eq_true] at h
    have := chkOne_spec l (j + 1) h.2 k p (by simpa using hk)
    rw [show j + (k + 1) = j + 1 + k by omega]; exact this
theorem chkAll_spec {all : Array Oper} : ∀ (l : List Oper) (i : Nat), chkAll all l i = true → ∀ (k : Nat) (o : Oper), l[k]? = some o →
    (∀ e ∈ o.after, Region.binds .any e = true → e.on < i + k) ∧ ∀ (j : Nat) (p : Oper), all[j]? = some p → pairOK all (i + k) o (o.looksAt all) j p = true
  | [], _, _, k, o, hk => by simp at hk
  | q :: l, i, h, 0, o, hk => by
    simp at hk; subst hk
    simp only [chkAll, Bool.and_eq_true] at h
    refine ⟨fun e he hb => ?_, fun j p hp => ?_⟩
    · have := Array.all_eq_true_iff_forall_mem.1 h.1.1 e he
      rw [hb, Bool.not_true, Bool.false_or, Nat.blt_eq] at this; simpa using this
    · have := chkOne_spec all.toList 0 h.1.2 j p (by simpa using hp)
      simpa using this
  | q :: l, i, h, k + 1, o, hk => by
    simp only [chkAll, Bool.and_eq_true] at h
    have := chkAll_spec l (i + 1) h.2 k o (by simpa using hk)
    rw [show i + (k + 1) = i + 1 + k by omega]; exact this
theorem drawOK_spec {all : Array Oper} (h0 : drawOK T all = true) {i : Nat} {o : Oper} (hi : all[i]? = some o) :
    (∀ e ∈ o.after, Region.binds .any e = true → e.on < i) ∧ ∀ (j : Nat) (p : Oper), all[j]? = some p → j ≠ i → ∀ d, p.dst = some d → o.dst ≠ some d ∧
      (d ∈ o.looksAt all → (∃ e ∈ o.after, Region.binds .any e = true ∧ e.on = j) ∨ (∃ e ∈ p.after, Region.binds .any e = true ∧ e.on = i)) := by
  have h : chkAll all all.toList 0 = true := by unfold drawOK at h0; rw [Bool.and_eq_true] at h0; exact h0.1
  obtain ⟨h1, h2⟩ := chkAll_spec all.toList 0 h i o (by simpa using hi)
  rw [Nat.zero_add] at h1 h2
  refine ⟨h1, fun j p hp hne d hd => ?_⟩
  have := h2 j p hp
  have hij : Nat.beq i j = false := beqN fun e => hne e.symm
  simp only [pairOK, hij, hd, Bool.false_or, Bool.and_eq_true, Bool.or_eq_true, bne_iff_ne, ne_eq, Bool.not_eq_true', List.contains_eq_mem, decide_eq_false_iff_not] at this
  refine ⟨this.1, fun hm => ?_⟩
  rcases this.2 with (hh | hh) | hh
  · exact absurd hm hh
  · obtain ⟨e, he, hb⟩ := Array.any_eq_true'.1 hh
    simp only [Bool.and_eq_true] at hb
    exact .inl ⟨e, he, hb.1, Nat.eq_of_beq_eq_true hb.2⟩
  · obtain ⟨e, he, hb⟩ := Array.any_eq_true'.1 hh
    simp only [Bool.and_eq_true] at hb
    exact .inr ⟨e, he, hb.1, Nat.eq_of_beq_eq_true hb.2⟩
inductive Bef (all : Array Oper) : Nat → Nat → Prop
  | one {i : Nat} {o : Oper} {e : Edge} : all[i]? = some o → e ∈ o.after → Region.binds .any e = true → Bef all e.on i
  | trans {i j k : Nat} : Bef all i j → Bef all j k → Bef all i k
theorem mem_unionN : ∀ (l m : List Nat) (b : Nat), b ∈ unionN l m → b ∈ l ∨ b ∈ m
  | [], m, b, h => .inr h
  | c :: l, m, b, h => by
    simp only [unionN] at h
    cases hc : hasN m c with
    | true =>
      rw [hc] at h
      rcases mem_unionN l m b h with h | h
      · exact .inl (List.mem_cons_of_mem _ h)
      · exact .inr h
    | false =>
      rw [hc] at h
      rcases mem_unionN l (c :: m) b h with h | h
      · exact .inl (List.mem_cons_of_mem _ h)
      · rcases List.mem_cons.1 h with rfl | h
        · exact .inl (by simp)
        · exact .inr h
theorem getLL_eq : ∀ (l : List (List Nat)) (i : Nat), getLL l i = l.getD i []
  | [], i => by simp [getLL]
  | x :: l, 0 => by simp [getLL]
  | x :: l, i + 1 => by simpa [getLL] using getLL_eq l i
theorem mem_befOf (acc : List (List Nat)) : ∀ (l : List Nat) (b : Nat), b ∈ befOf acc l → ∃ j ∈ l, b = j ∨ b ∈ getLL acc j
  | [], b, h => by simp [befOf] at h
  | j :: l, b, h => by
    simp only [befOf] at h
    rcases mem_unionN _ _ _ h with h | h
    · exact ⟨j, by simp, by simpa using h⟩
    · obtain ⟨j', h1, h2⟩ := mem_befOf acc l b h
      exact ⟨j', by simp [h1], h2⟩
theorem befs_sound {all : Array Oper} : ∀ (l : List Oper) (acc : List (List Nat)), (∀ k o, l[k]? = some o → all[acc.length + k]? = some o) → (∀ i b, b ∈ getLL acc i → Bef all b i) → ∀ i b, b ∈ getLL (befs l acc) i → Bef all b i
  | [], acc, _, h2 => by simpa [befs] using h2
  | o :: l, acc, h1, h2 => by
    simp only [befs]
    have hlen : (acc ++ [befOf acc (bindsOn o)]).length = acc.length + 1 := by simp
    refine befs_sound l _ (fun k o' hk => ?_) fun i b hb => ?_
    · have := h1 (k + 1) o' (by simpa using hk)
      rw [hlen, ← this]; congr 1; omega
    · rw [getLL_eq, List.getD_eq_getElem?_getD] at hb
      by_cases hi : i < acc.length
      · rw [List.getElem?_append_left hi] at hb
        exact h2 i b (by rw [getLL_eq, List.getD_eq_getElem?_getD]; exact hb)
      · rw [List.getElem?_append_right (by omega)] at hb
        have hi0 : i - acc.length = 0 := by
          by_cases h0 : i - acc.length = 0
          · exact h0
          · rw [List.getElem?_eq_none (by simp; omega)] at hb; simp at hb
        rw [hi0] at hb
        simp only [List.getElem?_cons_zero, Option.getD_some] at hb
        have hia : i = acc.length := by omega
        obtain ⟨j, hj, hb⟩ := mem_befOf acc _ _ hb
        have hall := h1 0 o rfl
        rw [Nat.add_zero] at hall
        simp only [bindsOn, List.mem_map, List.mem_filter] at hj
        obtain ⟨e, ⟨he, hbind⟩, rfl⟩ := hj
        have hone : Bef all e.on i := by rw [hia]; exact .one hall (by simpa using he) hbind
        rcases hb with rfl | hb
        · exact hone
        · exact .trans (h2 _ _ hb) hone
theorem wOne_spec {bef : List Nat} {c : Nat} : ∀ (l : List Oper) (i : Nat), wOne T bef c l i = true → ∀ k o, l[k]? = some o → clash (clsO T o.op) c = true → (i + k) ∈ bef
  | [], _, _, k, o, h, _ => by simp at h
  | q :: l, i, h, 0, o, hk, hc => by
    simp at hk; subst hk
    simp only [wOne, Bool.and_eq_true, hc, cond_true] at h
    exact (hasN_iff _ _).1 h.1
  | q :: l, i, h, k + 1, o, hk, hc => by
    simp only [wOne, Bool.and_eq_true] at h
    have := wOne_spec l (i + 1) h.2 k o (by simpa using hk) hc
    rwa [show i + 1 + k = i + (k + 1) by omega] at this
theorem wAll_spec {L : List Oper} {B : List (List Nat)} : ∀ (l : List Oper) (i : Nat), wAll T L B l i = true → ∀ k o, l[k]? = some o → wOne T (getLL B (i + k)) (clsO T o.op) (L.take (i + k)) 0 = true
  | [], _, _, k, o, h => by simp at h
  | q :: l, i, h, 0, o, hk => by
    simp at hk; subst hk
    simp only [wAll, Bool.and_eq_true] at h
    exact h.1
  | q :: l, i, h, k + 1, o, hk => by
    simp only [wAll, Bool.and_eq_true] at h
    have := wAll_spec l (i + 1) h.2 k o (by simpa using hk)
    rwa [show i + 1 + k = i + (k + 1) by omega] at this
theorem anyW_spec : ∀ (l : List Oper), anyW T l = false → ∀ o ∈ l, clsO T o.op ≠ 2
  | [], _, o, h => by cases h
  | q :: l, h, o, ho => by
    simp only [anyW, Bool.or_eq_false_iff] at h
    rcases List.mem_cons.1 ho with rfl | ho
    · intro e; rw [e] at h; simp at h
    · exact anyW_spec l h.2 o ho
theorem clash_bef {all : Array Oper} (h : drawOK T all = true) {i j : Nat} {oi oj : Oper} (hij : i < j) (hi : all[i]? = some oi) (hj : all[j]? = some oj) (hc : clash (clsO T oi.op) (clsO T oj.op) = true) : Bef all i j := by
  unfold drawOK at h
  rw [Bool.and_eq_true] at h
  have h := h.2
  have hi' : all.toList[i]? = some oi := by simpa using hi
  have hj' : all.toList[j]? = some oj := by simpa using hj
  cases hw : anyW T all.toList with
  | false =>
    have h1 := anyW_spec _ hw oi (List.mem_of_getElem? hi')
    have h2 := anyW_spec _ hw oj (List.mem_of_getElem? hj')
    exfalso
    simp only [clash, Bool.or_eq_true, Bool.and_eq_true] at hc
    rcases hc with hc | hc
    · exact h1 (Nat.eq_of_beq_eq_true hc.1)
    · exact h2 (Nat.eq_of_beq_eq_true hc.1)
  | true =>
    rw [hw] at h
    simp only [cond_true] at h
    have := wAll_spec _ 0 h j oj hj'
    rw [Nat.zero_add] at this
    have := wOne_spec _ 0 this i oi (by rw [List.getElem?_take_of_lt hij]; exact hi') hc
    rw [Nat.zero_add] at this
    exact befs_sound all.toList [] (fun k o hk => by simpa using hk) (fun i b hb => by simp [getLL] at hb) j i this
def patch (sl : List Tmp) (er ps : List PV) : List PV := (List.range ps.length).map fun t => if t ∈ sl then getL er t else getL ps t
theorem patch_length (sl : List Tmp) (er ps : List PV) : (patch sl er ps).length = ps.length := by simp [patch]
theorem patch_get {sl : List Tmp} {er ps : List PV} {t : Nat} (h : t < ps.length) : getL (patch sl er ps) t = if t ∈ sl then getL er t else getL ps t := by
  rw [getL_eq, List.getD_eq_getElem?_getD]
  simp [patch, h]
theorem patch_eqv {sl : List Tmp} {er ps : List PV} (h : ∀ t ∈ sl, Eqv (getL ps t) (getL er t)) : EqvL ps (patch sl er ps) := by
  refine ⟨by simp [patch], fun t => ?_⟩
  by_cases ht : t < ps.length
  · rw [patch_get ht]
    split
    · rename_i hm; exact h t hm
    · exact Eqv.refl _
  · rw [getL_ge (Nat.le_of_not_lt ht), getL_ge (by rw [patch_length]; exact Nat.le_of_not_lt ht)]; exact Eqv.refl _
theorem patch_looks {sl : List Tmp} {er ps : List PV} (hl : er.length = ps.length) : ∀ t ∈ sl, getL (patch sl er ps) t = getL er t := by
  intro t hm
  by_cases ht : t < ps.length
  · rw [patch_get ht, if_pos hm]
  · rw [getL_ge (by rw [patch_length]; exact Nat.le_of_not_lt ht), getL_ge (by rw [hl]; exact Nat.le_of_not_lt ht)]
theorem Bef.listed {all : Array Oper} {listed : Array Bool} (hclosed : ∀ j o, all[j]? = some o → listed.getD j true = true → ∀ e ∈ o.after, Region.binds .any e = true → listed.getD e.on true = true) {i j : Nat} (h : Bef all i j) : listed.getD j true = true → listed.getD i true = true := by
  induction h with
  | one h1 h2 h3 => intro h; exact hclosed _ _ h1 h _ h2 h3
  | trans _ _ ih1 ih2 => intro h; exact ih1 (ih2 h)
theorem set_listed {listed : Array Bool} {i j : Nat} (hi : listed.getD i true = false) : (listed.setIfInBounds i true).getD j true = true ↔ (j = i ∨ listed.getD j true = true) := by
  have hlt : i < listed.size := by
    rcases Nat.lt_or_ge i listed.size with h | h
    · exact h
    · simp [Array.getElem?_eq_none h] at hi
  by_cases hij : i = j
  · subst hij; simp [hlt]
  · rw [getD_set_ne true hij]
    constructor
    · intro h; exact .inr h
    · rintro (h | h)
      · exact absurd h.symm hij
      · exact h
theorem Bef.ready {all : Array Oper} {listed : Array Bool} (hclosed : ∀ j o, all[j]? = some o → listed.getD j true = true → ∀ e ∈ o.after, Region.binds .any e = true → listed.getD e.on true = true)
    {i j : Nat} (h : Bef all i j) : ∀ o, all[j]? = some o → (∀ e ∈ o.after, Region.binds .any e = true → listed.getD e.on true = true) → listed.getD i true = true := by
  induction h with
  | one h1 h2 h3 => intro o ho hall; rw [h1] at ho; cases ho; exact hall _ h2 h3
  | trans h1 h2 ih1 ih2 =>
    intro o ho hall
    exact h1.listed hclosed (ih2 o ho hall)
end
end Go.Pv
namespace Go.Pv
open Go
section
variable {P : Program} {T : Tab}
structure Facts (P : Program) (T : Tab) (all : Array Oper) (rs : List Rec) (st : St) (nx nxf : Nat) : Prop where
  len : rs.length = all.size
  old : ∀ b, lkS st b ≠ none → b < nx
  ids : ∀ (i : Nat) (r : Rec), rs[i]? = some r → r.big = true → r.id = nxAt rs nx i ∧ nx ≤ r.id ∧ r.id + 32 ≤ nxf
  small : ∀ (i : Nat) (r : Rec), rs[i]? = some r → r.big = false → r.δ = []
  cls : ∀ (i : Nat) (o : Oper) (r : Rec), all[i]? = some o → rs[i]? = some r → r.big = true → (clsO T o.op = 1 ∧ (∃ x, r.δ = [(r.id, some x)]) ∧ r.lk = noLk) ∨ (clsO T o.op = 2 ∧ (∀ b, keysD r.δ b → b < r.id + 32) ∧ r.lk = lkS (stAt rs st i))
  looks : ∀ (i : Nat) (o : Oper) (r : Rec), all[i]? = some o → rs[i]? = some r → r.wb = true → ∀ b x, r.lk b = some x → lkS (stAt rs st i) b = some x ∧ (clsO T o.op = 2 ∨ clsO T o.op = 3) ∧
    (clsO T o.op = 3 → ∀ (k : Nat) (rk : Rec) (ok : Oper), k < i → rs[k]? = some rk → all[k]? = some ok → rk.big = true → clsO T ok.op = 1 → rk.id = b → ∃ m om, k < m ∧ m < i ∧ all[m]? = some om ∧ clsO T om.op = 2)
theorem ids_lt {rs : List Rec} {nx i k : Nat} {r r' : Rec} (hik : i < k) (hr : rs[i]? = some r) (hb : r.big = true) (h : r.id = nxAt rs nx i) (h' : r'.id = nxAt rs nx k) : r.id + 32 ≤ r'.id := by
  have h1 := nxAt_succ rs nx i r hr
  rw [hb] at h1
  have h2 := nxAt_mono (rs := rs) (n := nx) (show i + 1 ≤ k by omega)
  rw [h1] at h2
  simp only [bump] at h2
  omega
theorem keys_below {P : Program} {T : Tab} {all : Array Oper} : ∀ (l : List Oper) (rs : List Rec) {p : List PV} {st : St} {nx : Nat} {pend : List Nat} {f : List PV} {stf : St} {nxf : Nat}, ChD P T all l rs p st nx pend f stf nxf → (∀ b, lkS st b ≠ none → b < nx) → ∀ i b, lkS (stAt rs st i) b ≠ none → b < nxAt rs nx i
  | l, rs, _, _, _, _, _, _, _, _, h0, 0, b, hb => by simp only [stAt, nxAt] at hb ⊢; exact h0 b hb
  | [], [], _, _, _, _, _, _, _, _, h0, i + 1, b, hb => h0 b hb
  | o :: l, r :: rs, _, st, nx, _, _, _, _, h, h0, i + 1, b, hb => by
    simp only [stAt, nxAt] at hb ⊢
    refine keys_below l rs h.2 (fun c hc => ?_) i b hb
    rw [lk_applyD] at hc
    rcases h.1.cls with ⟨h1, h2, _⟩ | ⟨_, h1, h2, _, ⟨x, h3⟩, _⟩ | ⟨_, h1, h2, _, h3, _⟩
    · rw [h2] at hc
      rw [h1]; exact h0 c hc
    · rw [h1]
      rw [h3] at hc
      simp only [lastD, bump] at hc ⊢
      by_cases hn : nx = c
      · omega
      · rw [if_neg hn] at hc
        have := h0 c hc; omega
    · rw [h1]
      simp only [bump]
      by_cases hl : lastD r.δ c = none
      · rw [hl] at hc; have := h0 c hc; omega
      · exact h3 c (lastD_keys _ _ hl)
  | [], _ :: _, _, _, _, _, _, _, _, h, _, _, _, _ => h.elim
  | _ :: _, [], _, _, _, _, _, _, _, h, _, _, _, _ => h.elim
theorem pend_spec {P : Program} {T : Tab} {all : Array Oper} : ∀ (l : List Oper) (rs : List Rec) {p : List PV} {st : St} {nx : Nat} {pend : List Nat} {f : List PV} {stf : St} {nxf : Nat}, ChD P T all l rs p st nx pend f stf nxf →
    ∀ i, (∀ k rk ok, k < i → rs[k]? = some rk → l[k]? = some ok → rk.big = true → clsO T ok.op = 1 → rk.id ∈ pendAt T l rs pend i ∨ ∃ m om, k < m ∧ m < i ∧ l[m]? = some om ∧ clsO T om.op = 2) ∧
      (∀ b, b ∈ pend → b ∈ pendAt T l rs pend i ∨ ∃ m om, m < i ∧ l[m]? = some om ∧ clsO T om.op = 2)
  | l, rs, _, _, _, _, _, _, _, _, 0 => by simp only [pendAt]; exact ⟨fun k rk ok h => by omega, fun b hb => .inl hb⟩
  | [], [], _, _, _, _, _, _, _, _, i + 1 => ⟨fun k rk ok _ h => by simp at h, fun b hb => .inl hb⟩
  | o :: l, r :: rs, _, _, _, pend, _, _, _, h, i + 1 => by
    obtain ⟨h1, h2⟩ := pend_spec l rs h.2 i
    simp only [pendAt]
    have lift : (∃ m om, m < i ∧ l[m]? = some om ∧ clsO T om.op = 2) → ∃ m om, 0 < m ∧ m < i + 1 ∧ (o :: l)[m]? = some om ∧ clsO T om.op = 2 := by
      rintro ⟨m, om, h3, h4, h5⟩
      exact ⟨m + 1, om, by omega, by omega, by simpa using h4, h5⟩
    have two : clsO T o.op = 2 → ∃ m om, m < i + 1 ∧ (o :: l)[m]? = some om ∧ clsO T om.op = 2 := fun h => ⟨0, o, by omega, rfl, h⟩
    refine ⟨fun k rk ok hk hr ho hb hc => ?_, fun b hb => ?_⟩
    · cases k with
      | zero =>
        simp at hr ho; subst hr; subst ho
        have hm : r.id ∈ pendN T o r pend := by
          unfold pendN; rw [hb]; simp [hc]
        rcases h2 r.id hm with h3 | h3
        · exact .inl h3
        · exact .inr (lift h3)
      | succ k =>
        rcases h1 k rk ok (by omega) (by simpa using hr) (by simpa using ho) hb hc with h3 | ⟨m, om, h3, h4, h5, h6⟩
        · exact .inl h3
        · exact .inr ⟨m + 1, om, by omega, by omega, by simpa using h5, h6⟩
    · by_cases hp : b ∈ pendN T o r pend
      · rcases h2 b hp with h3 | h3
        · exact .inl h3
        · obtain ⟨m, om, _, h4, h5, h6⟩ := lift h3
          exact .inr ⟨m, om, h4, h5, h6⟩
      · refine .inr (two ?_)
        rcases h.1.cls with ⟨h3, _⟩ | ⟨_, h3, _, h4, _⟩ | ⟨_, h3, _, h4, _⟩
        · exfalso; apply hp; unfold pendN; rw [h3]; exact hb
        · exfalso; apply hp; unfold pendN; rw [h3]; simp [h4, hb]
        · exact h4
  | [], _ :: _, _, _, _, _, _, _, _, h, _ => h.elim
  | _ :: _, [], _, _, _, _, _, _, _, h, _ => h.elim
theorem facts_of {all : Array Oper} {rs : List Rec} {p : List PV} {st : St} {nx : Nat} {f : List PV} {stf : St} {nxf : Nat} (h : ChD P T all all.toList rs p st nx [] f stf nxf) (h0 : ∀ b, lkS st b ≠ none → b < nx) : Facts P T all rs st nx nxf := by
  have hl := (ChD.len _ _ h).1
  have hnf := (ChD.fin _ _ h).2
  have get : ∀ i r, rs[i]? = some r → ∃ o q, all[i]? = some o ∧ StepOK P T all o r q (stAt rs st i) (nxAt rs nx i) (pendAt T all.toList rs [] i) := by
    intro i r hr
    have hlt : i < rs.length := by
      by_cases hh : i < rs.length
      · exact hh
      · rw [List.getElem?_eq_none (Nat.le_of_not_lt hh)] at hr; cases hr
    have hlt' : i < all.toList.length := by omega
    obtain ⟨r', q, a0, _, a2, _⟩ := ChD.get _ _ h i _ (List.getElem?_eq_getElem hlt')
    rw [hr] at a0; cases a0
    exact ⟨_, q, by rw [← Array.getElem?_toList]; exact List.getElem?_eq_getElem hlt', a2⟩
  refine ⟨by simpa using hl, h0, fun i r hr hb => ?_, fun i r hr hb => ?_, fun i o r ho hr hb => ?_, fun i o r ho hr hw b x hb => ?_⟩
  · obtain ⟨o, q, _, hs⟩ := get i r hr
    have hid : r.id = nxAt rs nx i := by
      rcases hs.cls with ⟨h1, _⟩ | ⟨_, _, h1, _⟩ | ⟨_, _, h1, _⟩
      · rw [hb] at h1; cases h1
      · exact h1
      · exact h1
    refine ⟨hid, by rw [hid]; exact nxAt_start _ _ _, ?_⟩
    have hlt : i < rs.length := by
      by_cases hh : i < rs.length
      · exact hh
      · rw [List.getElem?_eq_none (Nat.le_of_not_lt hh)] at hr; cases hr
    have h2 := nxAt_mono (rs := rs) (n := nx) (show i + 1 ≤ rs.length by omega)
    rw [nxAt_succ _ _ _ _ hr, hb, ← hnf] at h2
    simp only [bump] at h2
    omega
  · obtain ⟨o, q, _, hs⟩ := get i r hr
    rcases hs.cls with ⟨_, h1, _⟩ | ⟨_, h1, _⟩ | ⟨_, h1, _⟩
    · exact h1
    · rw [hb] at h1; cases h1
    · rw [hb] at h1; cases h1
  · obtain ⟨o', q, ho', hs⟩ := get i r hr
    rw [ho] at ho'; cases ho'
    rcases hs.cls with ⟨h1, _⟩ | ⟨_, _, h1, h2, ⟨x, h3⟩, h4⟩ | ⟨_, _, h1, h2, h3, h4⟩
    · rw [hb] at h1; cases h1
    · exact .inl ⟨h2, ⟨x, by rw [h3, h1]⟩, h4⟩
    · exact .inr ⟨h2, by rw [h1]; exact h3, h4⟩
  · obtain ⟨o', q, ho', hs⟩ := get i r hr
    rw [ho] at ho'; cases ho'
    rcases hs.cls with ⟨_, _, h3⟩ | ⟨_, _, _, _, _, h4⟩ | ⟨_, _, _, h2, _, h4⟩
    · obtain ⟨c1, c2, c3⟩ := h3 hw b x hb
      refine ⟨c3, .inr c1, fun _ k rk ok hk hrk hok hbk hck hid => ?_⟩
      rcases (pend_spec _ _ h i).1 k rk ok hk hrk (by simpa using hok) hbk hck with h5 | ⟨m, om, h5, h6, h7, h8⟩
      · rw [hid] at h5; exact absurd h5 c2
      · exact ⟨m, om, h5, h6, by simpa using h7, h8⟩
    · rw [h4] at hb; cases hb
    · rw [h4] at hb
      exact ⟨hb, .inl h2, fun h => by rw [h2] at h; cases h⟩
theorem lenNs0_eq : ∀ l : List Oper, lenNs0 l = l.length
  | [] => rfl
  | _ :: l => by simp [lenNs0, lenNs0_eq l]
theorem allIn_spec {l : List Nat} : ∀ n, allIn l n = true → ∀ k, k < n → k ∈ l
  | 0, _, k, h => by omega
  | n + 1, h, k, hk => by
    simp only [allIn, Bool.and_eq_true] at h
    rcases Nat.lt_or_ge k n with h' | h'
    · exact allIn_spec n h.2 k h'
    · rw [show k = n by omega]; exact (hasN_iff _ _).1 h.1
theorem lastOK_spec {all : Array Oper} (h : lastOK all = true) {i k : Nat} (hi : i + 1 = all.size) (hk : k < i) : Bef all k i := by
  unfold lastOK at h
  split at h
  · cases h
  · rename_i o l e
    have hl : l.length = i := by
      have : all.toList.length = i + 1 := by simpa using hi.symm
      rw [e] at this; simpa using this
    rw [lenNs0_eq, hl] at h
    exact befs_sound all.toList [] (fun k o h => by simpa using h) (fun i b hb => by simp [getLL] at hb) i k (allIn_spec _ h _ hk)
theorem FinD.get {all : Array Oper} {K : Env → Prop} : ∀ (l : List Oper) (rs : List Rec) {st : St} {f : List PV} {stf : St} {nxf : Nat}, FinD P T all K l rs st f stf nxf → (∀ (i : Nat) (r : Rec), rs[i]? = some r → r.nd = false) ∧ K ⟨f, stf, nxf⟩ ∨
    ∃ (i : Nat) (o : Oper) (r : Rec), i + 1 = l.length ∧ i + 1 = rs.length ∧ l[i]? = some o ∧ rs[i]? = some r ∧ r.nd = true ∧ (∀ (k : Nat) (r' : Rec), k ≠ i → rs[k]? = some r' → r'.nd = false) ∧ lastOK all = true ∧ nxf = r.id + 32 ∧
      opE T (Sig.std P T) o.op r.er (lkS (stAt rs st i)) r.id (fun v δ => bif ltD (r.id + 32) δ then K ⟨putT r.er o.dst v, applyD δ (stAt rs st i), r.id + 32⟩ else False)
  | [], [], _, _, _, _, h => .inl ⟨fun i r h => by simp at h, h⟩
  | [], r :: rs, _, _, _, _, h => h.elim
  | o :: l, [], _, _, _, _, h => h.elim
  | o :: l, r :: rs, st, f, stf, nxf, h => by
    cases hn : r.nd with
    | true =>
      obtain ⟨rfl, rfl, h1, h2, h3⟩ := h.1 hn
      exact .inr ⟨0, o, r, rfl, rfl, rfl, rfl, hn, fun k r' hk hr => by cases k with | zero => exact absurd rfl hk | succ k => simp at hr, h1, h2, h3⟩
    | false =>
      rcases FinD.get l rs (h.2 hn) with ⟨h1, h2⟩ | ⟨i, o', r', a1, a2, a3, a4, a5, a6, a7, a8, a9⟩
      · exact .inl ⟨fun i r' hr => by cases i with | zero => simp at hr; rw [← hr]; exact hn | succ i => exact h1 i r' (by simpa using hr), h2⟩
      · exact .inr ⟨i + 1, o', r', by simp [a1], by simp [a2], by simpa using a3, by simpa using a4, a5, fun k r2 hk hr => by cases k with | zero => simp at hr; rw [← hr]; exact hn | succ k => exact a6 k r2 (by omega) (by simpa using hr), a7, a8, by simpa [stAt] using a9⟩
def Stage {T : Tab} (C : Ctx T) (all : Array Oper) (rs : List Rec) (st : St) (n : Nat) (p f : List PV) (listed : Array Bool) (a : Act) (w : World) : Prop :=
  a.defers = [] ∧ ∃ Y σ ps stx, SW C w Y σ ps a.tmps.toList stx n ∧ ps.length = p.length ∧
    (∀ j o t, all[j]? = some o → o.dst = some t → listed.getD j true = true → Eqv (getL ps t) (getL f t)) ∧
    (∀ t, (∀ j o, all[j]? = some o → o.dst = some t → listed.getD j true = false) → Eqv (getL ps t) (getL p t)) ∧
    (∀ b, lkS stx b = orS st b (lst rs (fun k => listed.getD k true) 0 b)) ∧
    (∀ j r, rs[j]? = some r → listed.getD j true = false → r.big = true → ∀ b, r.id ≤ b → b < r.id + 32 → σ b = none)
theorem stage_step (hT : TabOK P T) (hW : PWf P) {KE : Env → Prop} {C : Ctx T} {all : Array Oper} {rs : List Rec} {st : St} {nx n : Nat} {p f : List PV} {stf : St} (hchk : drawOK T all = true) (hch : ChD P T all all.toList rs p st nx [] f stf n) (hF : Facts P T all rs st nx n) (hpas : T.pas ≤ nx) {listed : Array Bool} {a : Act} {w : World}
    (hsz : listed.size = all.size) (hclosed : ∀ j o, all[j]? = some o → listed.getD j true = true → ∀ e ∈ o.after, Region.binds .any e = true → listed.getD e.on true = true)
    (hkeys : ∀ i b, lkS (stAt rs st i) b ≠ none → b < nxAt rs nx i)
    (hs : Stage C all rs st n p f listed a w) {i : Nat} (hr : i ∈ Region.ready .any all listed) {Q : Exit → Act → World → Prop} {K : Act → World → Prop}
    (hND : ∀ o r, all[i]? = some o → rs[i]? = some r → r.nd = true → i + 1 = all.size ∧ lastOK all = true ∧ n = r.id + 32 ∧ opE T (Sig.std P T) o.op r.er (lkS (stAt rs st i)) r.id (fun v δ => bif ltD (r.id + 32) δ then KE ⟨putT r.er o.dst v, applyD δ (stAt rs st i), r.id + 32⟩ else False))
    (hEnd : ∀ a' w' E, (∀ k, (listed.setIfInBounds i true).getD k true = true) → ActRep C E a' w' → KE E → K a' w')
    (hK : (∀ r, rs[i]? = some r → r.nd = false) → ∀ a' w', Stage C all rs st n p f (listed.setIfInBounds i true) a' w' → K a' w') : wpOp P all Q i K a w := by
  obtain ⟨hun, o, ho, hall⟩ := mem_ready.1 hr
  obtain ⟨hd, Y, σ, ps, stx, H, hlen, hdone, hrest, hst, hfree⟩ := hs
  have hL : all.toList[i]? = some o := by simpa using ho
  have hilt : i < listed.size := by
    rcases Nat.lt_or_ge i listed.size with h | h
    · exact h
    · simp [Array.getElem?_eq_none h] at hun
  obtain ⟨r, q, hri, qlen, hS, h6, h7, h8⟩ := hch.get _ _ i o hL
  have hspec := drawOK_spec hchk ho
  have flen := (hch.len _ _).2
  have hall' : ∀ e ∈ o.after, Region.binds .any e = true → listed.getD e.on true = true := by
    intro e he hb
    have := hall e he hb
    rcases Nat.lt_or_ge e.on listed.size with h | h
    · simp [h] at this ⊢; exact this
    · simp [Array.getElem?_eq_none h]
  have befIn : ∀ k, Bef all k i → listed.getD k true = true := fun k h => h.ready hclosed o ho hall'
  have befOut : ∀ k, Bef all i k → listed.getD k true = false := fun k h => by
    cases hk : listed.getD k true with
    | false => rfl
    | true => have := h.listed hclosed hk; rw [hun] at this; cases this
  have look0 : ∀ t ∈ o.looksAt all, Eqv (getL ps t) (getL q t) := by
    intro t ht
    by_cases hex : ∃ j pj, all[j]? = some pj ∧ j ≠ i ∧ pj.dst = some t
    · obtain ⟨j, pj, hj, hne, hdst⟩ := hex
      obtain ⟨hdd, hor⟩ := hspec.2 j pj hj hne t hdst
      have uniq : ∀ k pk, all[k]? = some pk → pk.dst = some t → k = j := by
        intro k pk hk hkd
        by_cases hkj : k = j
        · exact hkj
        · exact absurd hkd ((drawOK_spec hchk hk).2 j pj hj (Ne.symm hkj) t hdst).1
      rcases hor ht with ⟨e, he, hb, heq⟩ | ⟨e, he, hb, heq⟩
      · have hlj : listed.getD j true = true := by
          have := hall' e he hb
          rwa [heq] at this
        have hji : j < i := by rw [← heq]; exact hspec.1 e he hb
        have hf := hdone j pj t hj hdst hlj
        have := h7 t fun k pk hk hpk hkd => by
          have := uniq k pk (by simpa using hpk) hkd
          omega
        exact hf.trans this.symm
      · have hij : i < j := by rw [← heq]; exact (drawOK_spec hchk hj).1 e he hb
        have hju : listed.getD j true = false := by
          cases hlj : listed.getD j true with
          | false => rfl
          | true =>
            have := hclosed j pj hj hlj e he hb
            rw [heq, hun] at this; cases this
        have hp := hrest t fun k pk hk hkd => by
          rw [uniq k pk hk hkd]; exact hju
        have := h6 t fun k pk hk hpk hkd => by
          have := uniq k pk (by simpa using hpk) hkd
          omega
        exact hp.trans this
    · have hp := hrest t fun k pk hk hkd => by
        by_cases hki : k = i
        · rw [hki]; exact hun
        · exact absurd ⟨k, pk, hk, hki, hkd⟩ hex
      have := h6 t fun k pk hk hpk hkd => hex ⟨k, pk, by simpa using hpk, by omega, hkd⟩
      exact hp.trans this
  have look : ∀ t ∈ o.looksAt all, Eqv (getL ps t) (getL r.e1 t) ∧ Eqv (getL ps t) (getL r.er t) := fun t ht => ⟨(look0 t ht).trans (hS.e1.2 t), (look0 t ht).trans (hS.er.2 t)⟩
  have big_of : ∀ (k : Nat) (rk : Rec), rs[k]? = some rk → ∀ b, lastD rk.δ b ≠ none → rk.big = true := by
    intro k rk hrk b hb
    cases hbig : rk.big with
    | true => rfl
    | false => rw [hF.small k rk hrk hbig] at hb; exact absurd rfl hb
  have oper : ∀ (k : Nat) (rk : Rec), rs[k]? = some rk → ∃ ok, all[k]? = some ok := by
    intro k rk hrk
    have : k < all.size := by
      rw [← hF.len]
      by_cases hh : k < rs.length
      · exact hh
      · rw [List.getElem?_eq_none (Nat.le_of_not_lt hh)] at hrk; cases hrk
    exact ⟨_, Array.getElem?_eq_getElem this⟩
  have hlk : r.wb = true → ∀ b x, r.lk b = some x → lkS stx b = some x := by
    intro hw b x hb
    obtain ⟨c1, c2, c3⟩ := hF.looks i o r ho hri hw b x hb
    rw [hst b, ← c1, lk_stAt rs st i 0 b]
    congr 1
    refine lst_agree _ _ _ _ _ fun k rk hrk hkb => ?_
    rw [Nat.zero_add, Nat.zero_add]
    have hbig := big_of k rk hrk b hkb
    obtain ⟨ok, hok⟩ := oper k rk hrk
    rcases Nat.lt_trichotomy k i with hki | hki | hki
    · simp only [hki, decide_true]
      rcases hF.cls k ok rk hok hrk hbig with ⟨d1, ⟨y, d2⟩, _⟩ | ⟨d1, d2, _⟩
      · have hidb : rk.id = b := by
          rw [d2] at hkb
          simp only [lastD] at hkb
          by_cases hh : rk.id = b
          · exact hh
          · rw [if_neg hh] at hkb; exact absurd rfl hkb
        rcases c2 with c2 | c2
        · exact befIn k (clash_bef hchk hki hok ho (by rw [d1, c2]; rfl))
        · obtain ⟨m, om, e1, e2, e3, e4⟩ := c3 c2 k rk ok hki hrk hok hbig d1 hidb
          exact befIn k (.trans (clash_bef hchk e1 hok e3 (by rw [d1, e4]; rfl)) (clash_bef hchk e2 e3 ho (by rw [c2, e4]; rfl)))
      · exact befIn k (clash_bef hchk hki hok ho (by rw [d1]; rcases c2 with c2 | c2 <;> rw [c2] <;> rfl))
    · subst hki
      simp only [Nat.lt_irrefl, decide_false]
      exact hun
    · have : ¬ k < i := by omega
      simp only [this, decide_false]
      rcases hF.cls k ok rk hok hrk hbig with ⟨d1, ⟨y, d2⟩, _⟩ | ⟨d1, d2, _⟩
      · have hidb : rk.id = b := by
          rw [d2] at hkb
          simp only [lastD] at hkb
          by_cases hh : rk.id = b
          · exact hh
          · rw [if_neg hh] at hkb; exact absurd rfl hkb
        have h1 := hkeys i b (by rw [c1]; simp)
        have h2 := (hF.ids k rk hrk hbig).1
        have h3 := nxAt_mono (rs := rs) (n := nx) (show i ≤ k by omega)
        omega
      · exact befOut k (clash_bef hchk hki ho hok (by rw [d1]; rcases c2 with c2 | c2 <;> rw [c2] <;> rfl))
  have lastOut : ∀ b, lastD r.δ b ≠ none → ∀ (k : Nat) (rk : Rec), i < k → rs[k]? = some rk → listed.getD k true = true → lastD rk.δ b = none := by
    intro b hb k rk hik hrk hlk
    by_cases hkb : lastD rk.δ b = none
    · exact hkb
    · exfalso
      have hbi := big_of i r hri b hb
      have hbk := big_of k rk hrk b hkb
      obtain ⟨ok, hok⟩ := oper k rk hrk
      have no : clash (clsO T o.op) (clsO T ok.op) = true → False := fun hc => by
        have := befOut k (clash_bef hchk hik ho hok hc)
        rw [hlk] at this; cases this
      rcases hF.cls i o r ho hri hbi with ⟨d1, ⟨y, d2⟩, _⟩ | ⟨d1, d2, _⟩
      · rcases hF.cls k ok rk hok hrk hbk with ⟨g1, ⟨z, g2⟩, _⟩ | ⟨g1, _⟩
        · have e1 : r.id = b := by
            rw [d2] at hb; simp only [lastD] at hb
            by_cases hh : r.id = b
            · exact hh
            · rw [if_neg hh] at hb; exact absurd rfl hb
          have e2 : rk.id = b := by
            rw [g2] at hkb; simp only [lastD] at hkb
            by_cases hh : rk.id = b
            · exact hh
            · rw [if_neg hh] at hkb; exact absurd rfl hkb
          have := ids_lt hik hri hbi (hF.ids i r hri hbi).1 (hF.ids k rk hrk hbk).1
          omega
        · exact no (by rw [d1, g1]; rfl)
      · rcases hF.cls k ok rk hok hrk hbk with ⟨g1, ⟨z, g2⟩, _⟩ | ⟨g1, _⟩
        · have e2 : rk.id = b := by
            rw [g2] at hkb; simp only [lastD] at hkb
            by_cases hh : rk.id = b
            · exact hh
            · rw [if_neg hh] at hkb; exact absurd rfl hkb
          have h1 := d2 b (lastD_keys _ _ hb)
          have := ids_lt hik hri hbi (hF.ids i r hri hbi).1 (hF.ids k rk hrk hbk).1
          omega
        · exact no (by rw [d1, g1]; rfl)
  have setD : ∀ k, (listed.setIfInBounds i true).getD k true = (if k = i then true else listed.getD k true) := by
    intro k
    by_cases hki : k = i
    · subst hki; simp [hilt]
    · rw [if_neg hki]; exact getD_set_ne true (Ne.symm hki)
  have newSt : ∀ stn : St, (∀ b, lkS stn b = (match lastD r.δ b with | some x => x | none => lkS stx b)) → ∀ b, lkS stn b = orS st b (lst rs (fun k => (listed.setIfInBounds i true).getD k true) 0 b) := by
    intro stn hstn b
    rw [hstn b]
    cases hb : lastD r.δ b with
    | none =>
      rw [hst b]
      congr 1
      refine lst_agree _ _ _ _ _ fun k rk hrk hkb => ?_
      rw [Nat.zero_add, setD]
      by_cases hki : k = i
      · subst hki; rw [hri] at hrk; cases hrk; exact absurd hb hkb
      · rw [if_neg hki]
    | some x =>
      rw [lst_last rs _ 0 i b r x hri (by rw [Nat.zero_add, setD, if_pos rfl]) hb fun k rk hik hrk hlk => ?_]
      · rfl
      · rw [Nat.zero_add, setD, if_neg (by omega)] at hlk
        exact lastOut b (by rw [hb]; simp) k rk hik hrk hlk
  have after : r.nd = false → ∀ cv w' Y' σ' qs stn, EqvL ps qs → SW C w' Y' σ' qs a.tmps.toList stn n → (∀ b, lkS stn b = (match lastD r.δ b with | some x => x | none => lkS stx b)) → (∀ (j : Nat) (rj : Rec), j ≠ i → rs[j]? = some rj → rj.big = true → ∀ b, rj.id ≤ b → b < rj.id + 32 → σ b = none → σ' b = none) → Rep w' Y' σ' r.v cv → K (a.put o.dst cv) w' := by
    intro hnd0 cv w' Y' σ' qs stn hq H' hstn hfr hv
    refine hK (fun r' hr' => by rw [hri] at hr'; cases hr'; exact hnd0) _ _ ⟨by rw [put_defers]; exact hd, Y', σ', putT qs o.dst r.v, stn, H'.putT hv o.dst, by rw [putT_length, ← hq.1, hlen], ?_, ?_, newSt stn hstn, ?_⟩
    · intro j oj t hj hdst hlj
      rw [set_listed hun] at hlj
      by_cases hji : j = i
      · subst hji
        rw [ho] at hj; cases hj
        by_cases hlt : t < qs.length
        · rw [hdst]
          simp only [putT, getL_setL]
          rw [if_pos ⟨trivial, hlt⟩]
          refine h8 t hdst (by rw [← hlen, hq.1]; exact hlt) fun k pk hk hpk hkd => ?_
          exact absurd hdst ((drawOK_spec hchk ho).2 k pk (by simpa using hpk) (by omega) t hkd).1
        · rw [getL_ge (by rw [putT_length]; exact Nat.le_of_not_lt hlt), getL_ge (by rw [flen, ← hlen, hq.1]; exact Nat.le_of_not_lt hlt)]; exact Eqv.refl _
      · have hne := (hspec.2 j oj hj hji t hdst).1
        rw [putT_ne hne]
        rcases hlj with h | h
        · exact absurd h hji
        · exact (hq.2 t).symm.trans (hdone j oj t hj hdst h)
    · intro t ht
      have hne : o.dst ≠ some t := fun e => by
        have := ht i o ho e
        rw [(set_listed hun).2 (.inl rfl)] at this; cases this
      rw [putT_ne hne]
      refine (hq.2 t).symm.trans (hrest t fun k pk hk hkd => ?_)
      have := ht k pk hk hkd
      cases hlk : listed.getD k true with
      | false => rfl
      | true => rw [(set_listed hun).2 (.inr hlk)] at this; cases this
    · intro j rj hrj hlj hbj
      rw [setD] at hlj
      by_cases hji : j = i
      · rw [if_pos hji] at hlj; cases hlj
      · rw [if_neg hji] at hlj
        exact fun b hb1 hb2 => hfr j rj hji hrj hbj b hb1 hb2 (hfree j rj hrj hlj hbj b hb1 hb2)
  have q1 := patch_eqv (sl := o.looksAt all) (er := r.e1) (ps := ps) fun t ht => (look t ht).1
  have q2 := patch_eqv (sl := o.looksAt all) (er := r.er) (ps := ps) fun t ht => (look t ht).2
  have l1 : r.e1.length = ps.length := by rw [← hS.e1.1, hlen]; assumption
  have l2 : r.er.length = ps.length := by rw [← hS.er.1, hlen]; assumption
  have hwb := hS.gd C _ Y σ a w stx n (patch_looks l1) (H.vals' (H.vals.eqv q1)) hd
  unfold wpOp
  simp only [ho]
  cases hw : r.wb with
  | true =>
    rw [hw] at hwb
    rw [if_pos hwb]
    cases hnd : r.nd with
    | true =>
      obtain ⟨g1, g2, g3, g4⟩ := hND o r ho hri hnd
      have hoth : ∀ k, k ≠ i → listed.getD k true = true := fun k hk => by
        rcases Nat.lt_or_ge k i with h | h
        · exact befIn k (lastOK_spec g2 g1 h)
        · have : listed[k]? = none := Array.getElem?_eq_none (by omega)
          simp [this]
      have hq : EqvL ps q := ⟨by rw [hlen]; exact qlen.symm, fun t => by
        by_cases hex : ∃ j pj, all[j]? = some pj ∧ j ≠ i ∧ pj.dst = some t
        · obtain ⟨j, pj, hj, hne, hdst⟩ := hex
          have hf := hdone j pj t hj hdst (hoth j hne)
          have := h7 t fun k pk hk hpk hkd => by
            have hki : k = i := by
              have : k < all.size := by
                by_cases hh : k < all.size
                · exact hh
                · rw [Array.getElem?_toList, Array.getElem?_eq_none (Nat.le_of_not_lt hh)] at hpk; cases hpk
              omega
            subst hki
            rw [hL] at hpk; cases hpk
            exact (hspec.2 j pj hj hne t hdst).1 hkd
          exact hf.trans this.symm
        · have hp := hrest t fun k pk hk hkd => by
            by_cases hki : k = i
            · rw [hki]; exact hun
            · exact absurd ⟨k, pk, hk, hki, hkd⟩ hex
          have := h6 t fun k pk hk hpk hkd => hex ⟨k, pk, by simpa using hpk, by omega, hkd⟩
          exact hp.trans this⟩
      have H1 : SW C w Y σ r.er a.tmps.toList (stAt rs st i) n := (H.vals' (H.vals.eqv (hq.trans hS.er))).ext fun b x hb => by
        rw [hst b, ← hb, lk_stAt rs st i 0 b]
        congr 1
        refine lst_agree _ _ _ _ _ fun k rk hrk _ => ?_
        rw [Nat.zero_add, Nat.zero_add]
        by_cases hki : k = i
        · subst hki; rw [hun]; simp
        · rw [hoth k hki]
          have : k < all.size := by
            rw [← hF.len]
            by_cases hh : k < rs.length
            · exact hh
            · rw [List.getElem?_eq_none (Nat.le_of_not_lt hh)] at hrk; cases hrk
          simp; omega
      have hb := (hS.ndw hnd).2
      obtain ⟨i1, i2, i3⟩ := hF.ids i r hri hb
      obtain ⟨v', δ', cv, w', Y', σ', hk, hrun, H', hv, hoff⟩ := opE_res hT hW H1 (fun b x h => h) ⟨hfree i r hri hun hb r.id (Nat.le_refl _) (by omega), Nat.le_trans hpas i2⟩ g4
      cases hlt : ltD (r.id + 32) δ' with
      | false => rw [hlt] at hk; exact hk.elim
      | true =>
        rw [hlt] at hk
        have hn : nextI δ' n r.id ≤ n := by cases δ' <;> simp [nextI] <;> omega
        have := hEnd (a.put o.dst cv) w' _ (fun k => by
          rw [setD]; by_cases hki : k = i
          · rw [if_pos hki]
          · rw [if_neg hki]; exact hoth k hki) ⟨⟨Y', σ', by rw [← g3]; exact (H'.mono hn).putT hv o.dst⟩, by rw [put_defers]; exact hd⟩ hk
        refine .inl ?_
        unfold Oper.wp
        rcases hrun with hrun | ⟨hrun, rfl⟩
        · rw [hrun]; exact this
        · rw [hrun]; exact this
    | false =>
    refine .inl (hS.sem hw hnd C _ Y σ a w stx n (patch_looks l2) (H.vals' (H.vals.eqv q2)) hd (hlk hw) (fun hb => ?_) K Q fun cv w' Y' σ' H' hoff hsame hv => ?_)
    · obtain ⟨g1, g2, g3⟩ := hF.ids i r hri hb
      exact ⟨hfree i r hri hun hb, Nat.le_trans hpas g2, g3⟩
    · refine after hnd cv w' Y' σ' _ _ q2 H' (fun b => lk_applyD _ _ _) (fun j rj hji hrj hbj b hb1 hb2 hn => ?_) hv
      cases hb : r.big with
      | false => rw [hsame hb]; exact hn
      | true =>
        rw [hoff _ ?_]; · exact hn
        have e1 := (hF.ids i r hri hb).1
        have e2 := (hF.ids j rj hrj hbj).1
        rcases Nat.lt_or_ge i j with hij | hij
        · have := ids_lt hij hri hb e1 e2; omega
        · have := ids_lt (show j < i by omega) hrj hbj e2 e1; omega
  | false =>
    rw [hw] at hwb
    rw [if_neg (by rw [hwb]; simp)]
    have hδ : r.δ = [] := by
      rcases hS.cls with ⟨_, h, _⟩ | ⟨h, _⟩ | ⟨h, _⟩
      · exact h
      · rw [hw] at h; cases h
      · rw [hw] at h; cases h
    refine after (by cases h : r.nd with | false => rfl | true => rw [(hS.ndw h).1] at hw; cases hw) _ w Y σ ps stx (EqvL.refl _) H (fun b => by rw [hδ]; rfl) (fun _ _ _ _ _ _ _ _ h => h) (by rw [hS.skip hw]; simp [Rep])
theorem ready_nil_all {all : Array Oper} (hchk : drawOK T all = true) {listed : Array Bool} (hsz : listed.size = all.size) (hr : Region.ready .any all listed = []) : ∀ j, listed.getD j true = true := by
  intro j
  induction j using Nat.strongRecOn with
  | _ j ih =>
    cases h : listed.getD j true with
    | true => rfl
    | false =>
      have hlt : j < listed.size := by
        rcases Nat.lt_or_ge j listed.size with h' | h'
        · exact h'
        · simp [Array.getElem?_eq_none h'] at h
      have hj : all[j]? = some all[j] := Array.getElem?_eq_getElem (by omega)
      have : j ∈ Region.ready .any all listed := mem_ready.2 ⟨h, _, hj, fun e he hb => by
        have hlt' := (drawOK_spec hchk hj).1 e he hb
        have := ih e.on hlt'
        have h2 : e.on < listed.size := by omega
        simp [h2] at this ⊢; exact this⟩
      rw [hr] at this; cases this
theorem count_set {listed : Array Bool} {i k : Nat} (hi : listed.getD i true = false) (h : listed.toList.count false = k + 1) : (listed.setIfInBounds i true).toList.count false = k := by
  have hlt : i < listed.size := by
    rcases Nat.lt_or_ge i listed.size with h' | h'
    · exact h'
    · simp [Array.getElem?_eq_none h'] at hi
  have hget : listed[i] = false := by simpa [hlt] using hi
  rw [Array.toList_setIfInBounds, List.count_set (by simpa using hlt)]
  simp [hget, h]
theorem draw_any (hT : TabOK P T) (hW : PWf P) {KE : Env → Prop} {C : Ctx T} {all : Array Oper} {rs : List Rec} {st : St} {nx n : Nat} {p f : List PV} {stf : St} (hchk : drawOK T all = true) (hch : ChD P T all all.toList rs p st nx [] f stf n) (hF : Facts P T all rs st nx n) (hpas : T.pas ≤ nx) (hkeys : ∀ i b, lkS (stAt rs st i) b ≠ none → b < nxAt rs nx i) {Q : Exit → Act → World → Prop}
    (hfin : FinD P T all KE all.toList rs st f stf n)
    (hQ : ∀ E a w, ActRep C E a w → KE E → Q .normal a w) : ∀ (fuel : Nat) (listed : Array Bool) (a : Act) (w : World), listed.size = all.size → listed.toList.count false = fuel →
      (∀ j o, all[j]? = some o → listed.getD j true = true → ∀ e ∈ o.after, Region.binds .any e = true → listed.getD e.on true = true) →
      (∀ (j : Nat) (r : Rec), rs[j]? = some r → r.nd = true → listed.getD j true = false) →
      Stage C all rs st n p f listed a w → wpAny P .any all Q fuel listed a w := by
  have hgetF := hfin.get
  have fin : ∀ (listed : Array Bool) (a : Act) (w : World), listed.size = all.size → (∀ (j : Nat) (r : Rec), rs[j]? = some r → r.nd = true → listed.getD j true = false) → Stage C all rs st n p f listed a w → Region.ready .any all listed = [] → Q .normal a w := by
    intro listed a w hsz hu hs hr
    have hl := ready_nil_all hchk hsz hr
    have hKE : KE ⟨f, stf, n⟩ := by
      rcases hgetF with ⟨_, h⟩ | ⟨i, o, r, _, _, _, h4, h5, _⟩
      · exact h
      · have := hu i r h4 h5; rw [hl i] at this; cases this
    obtain ⟨hd, Y, σ, ps, stx, H, hlen, hdone, hrest, hst, _⟩ := hs
    have H1 : SW C w Y σ f a.tmps.toList stx n := H.vals' (H.vals.eqv ⟨by rw [hlen, (hch.len _ _).2], fun t => ?_⟩)
    · refine hQ _ a w ⟨⟨Y, σ, H1.ext fun b x hb => ?_⟩, hd⟩ hKE
      rw [hst b, ← hb, (hch.fin _ _).1, lk_stAt rs st rs.length 0 b]
      congr 1
      refine lst_agree _ _ _ _ _ fun k rk hrk _ => ?_
      rw [Nat.zero_add, Nat.zero_add, hl k]
      have : k < rs.length := by
        by_cases hh : k < rs.length
        · exact hh
        · rw [List.getElem?_eq_none (Nat.le_of_not_lt hh)] at hrk; cases hrk
      simp [this]
    · by_cases hex : ∃ (j : Nat) (o : Oper), all[j]? = some o ∧ o.dst = some t
      · obtain ⟨j, o, hj, hdst⟩ := hex
        exact hdone j o t hj hdst (hl j)
      · refine (hrest t fun j o hj hdst => absurd ⟨j, o, hj, hdst⟩ hex).trans (hch.keep _ _ fun o ho hdst => ?_)
        obtain ⟨j, hj⟩ := List.getElem?_of_mem ho
        exact hex ⟨j, o, by simpa using hj, hdst⟩
  intro fuel
  induction fuel with
  | zero =>
    intro listed a w hsz hc hclosed hu hs
    have hr : Region.ready .any all listed = [] := by
      rw [List.eq_nil_iff_forall_not_mem]
      intro i hi
      have hun := (mem_ready.1 hi).1
      have hlt : i < listed.size := by
        rcases Nat.lt_or_ge i listed.size with h' | h'
        · exact h'
        · simp [Array.getElem?_eq_none h'] at hun
      have hget : listed[i] = false := by simpa [hlt] using hun
      have hm : false ∈ listed.toList := by rw [← hget]; simp
      exact (List.count_eq_zero.1 hc) hm
    exact ⟨hr, fin listed a w hsz hu hs hr⟩
  | succ fuel ih =>
    intro listed a w hsz hc hclosed hu hs
    refine ⟨fin listed a w hsz hu hs, fun i hi => ?_⟩
    have hun := (mem_ready.1 hi).1
    refine stage_step hT hW (KE := KE) hchk hch hF hpas hsz hclosed hkeys hs hi (fun o r ho hr hn => ?_) (fun a' w' E hall hA hE => ?_) fun hnd a' w' hs' => ih _ a' w' (by simpa using hsz) (count_set hun hc) ?_ (fun j r hj hn => ?_) hs'
    · rcases hgetF with ⟨h, _⟩ | ⟨i', o', r', a1, a2, a3, a4, a5, a6, a7, a8, a9⟩
      · rw [h i r hr] at hn; cases hn
      · have hii : i = i' := by
          by_cases hh : i = i'
          · exact hh
          · rw [a6 i r hh hr] at hn; cases hn
        subst hii
        rw [hr] at a4; cases a4
        rw [Array.getElem?_toList, ho] at a3; cases a3
        exact ⟨by simpa using a1, a7, a8, a9⟩
    · have hrn : Region.ready .any all (listed.setIfInBounds i true) = [] := by
        rw [List.eq_nil_iff_forall_not_mem]
        intro k hk
        have := (mem_ready.1 hk).1
        rw [hall k] at this; cases this
      cases fuel with
      | zero => exact ⟨hrn, hQ E a' w' hA hE⟩
      | succ fuel => exact ⟨fun _ => hQ E a' w' hA hE, fun k hk => by rw [hrn] at hk; cases hk⟩
    rotate_left
    · by_cases hji : j = i
      · subst hji; rw [hnd r hj] at hn; cases hn
      · rw [getD_set_ne true (Ne.symm hji)]; exact hu j r hj hn
    intro j o hj hlj e he hb
    rw [set_listed hun] at hlj ⊢
    rcases hlj with h | h
    · subst h
      obtain ⟨_, o', ho', hall⟩ := mem_ready.1 hi
      rw [hj] at ho'; cases ho'
      have := hall e he hb
      refine .inr ?_
      rcases Nat.lt_or_ge e.on listed.size with h' | h'
      · simp [h'] at this ⊢; exact this
      · simp [Array.getElem?_eq_none h'] at this
    · exact .inr (hclosed j o hj h e he hb)
theorem ltS_spec {n : Nat} : ∀ (st : St), ltS n st = true → ∀ b, lkS st b ≠ none → b < n
  | [], _, b, h => absurd rfl h
  | (c, x) :: st, h, b, hb => by
    simp only [ltS, Bool.and_eq_true, Nat.blt_eq] at h
    simp only [lkS] at hb
    by_cases hc : c = b
    · rw [← hc]; exact h.1
    · rw [beqN hc] at hb; exact ltS_spec st h.2 b hb
theorem draw_sound (hT : TabOK P T) (hW : PWf P) {id : Nat} {l : Array Oper} {E : Env} {K : Env → Prop} (hchk : drawOK T l = true) (hlt : ltS E.next E.st = true) (h : opsD T (Sig.std P T) l l.toList [] E K) :
    ∀ (C : Ctx T) a w, ActRep C E a w → ∀ Q : Exit → Act → World → Prop, (∀ E' a' w', ActRep C E' a' w' → K E' → Q .normal a' w') → (Code.region id l true).wp P Q a w := by
  intro C a w hA Q hQ
  obtain ⟨rs, f, stf, nxf, hch, hK⟩ := opsD_chain hT hW _ _ _ _ h
  obtain ⟨⟨Y, σ, H⟩, hd⟩ := hA
  have hlt := ltS_spec _ hlt
  have hF := facts_of hch hlt
  have hle : E.next ≤ nxf := by rw [(hch.fin _ _).2]; exact nxAt_start _ _ _
  have hrep : ∀ j, j < l.size → (Array.replicate l.size false).getD j true = false := fun j hj => by simp [hj]
  have hno : ∀ j o, l[j]? = some o → (Array.replicate l.size false).getD j true = true → False := by
    intro j o hj hlj
    have hlt : j < l.size := by
      rcases Nat.lt_or_ge j l.size with h' | h'
      · exact h'
      · simp [Array.getElem?_eq_none h'] at hj
    rw [hrep j hlt] at hlj; cases hlj
  refine wp_region_any hW.mixed (draw_any hT hW hchk hch hF H.fix.1 (keys_below _ _ hch hlt) (C := C) hK (fun E a' w' hA' hE => hQ _ a' w' hA' hE) l.size _ a _ (by simp) ?_ ?_ (fun j r hr hn => hrep j ?_) ?_)
  · simp
  · intro j o hj hlj; exact (hno j o hj hlj).elim
  · rw [← hF.len]
    by_cases hh : j < rs.length
    · exact hh
    · rw [List.getElem?_eq_none (Nat.le_of_not_lt hh)] at hr; cases hr
  · refine ⟨hd, Y, σ, E.tmps, E.st, (H.drawn _).mono hle, rfl, ?_, fun t _ => Eqv.refl _, fun b => ?_, fun j r hr _ hb => ?_⟩
    · intro j o t hj hdst hlj; exact (hno j o hj hlj).elim
    · rw [lst_none _ _ _ _ fun k r hr hD => ?_]; · rfl
      rw [Nat.zero_add] at hD
      have : k < l.size := by
        rw [← hF.len]
        by_cases hh : k < rs.length
        · exact hh
        · rw [List.getElem?_eq_none (Nat.le_of_not_lt hh)] at hr; cases hr
      rw [hrep k this] at hD; cases hD
    · exact fun b hb1 _ => H.next b (Nat.le_trans (hF.ids j r hr hb).2.1 hb1)
end
end Go.Pv
namespace Go.Pv
open Go
theorem lift_seq {T : Tab} {C : Ctx T} {P : Program} {b : Code} {Q : Post} {nx : Env → Prop} (hb : ∀ E a w, ActRep C E a w → nx E → b.wp P (lift C Q) a w) : ∀ e a w, lift C (seqQ nx Q) e a w → Exit.then (b.wp P (lift C Q)) (lift C Q) e a w := by
  intro e a w h
  cases e with
  | normal => obtain ⟨E, hA, hq⟩ := h; exact hb E a w hA hq
  | ret => obtain ⟨E, hA, hq⟩ := h; exact ⟨E, hA, hq⟩
  | exit n => obtain ⟨E, hA, hq⟩ := h; exact ⟨E, hA, hq⟩
  | _ => exact h.elim
theorem lift_ent {T : Tab} {C : Ctx T} {Q Q' : Post} (h : ∀ n E, Q n E → ∃ F, Ent T E F ∧ Q' n F) : ∀ e a w, lift C Q e a w → lift C Q' e a w := by
  intro e a w hq
  have go : ∀ n, (∃ E, ActRep C E a w ∧ Q n E) → ∃ E, ActRep C E a w ∧ Q' n E := by
    rintro n ⟨E, hA, hq⟩
    obtain ⟨F, h1, h2⟩ := h n E hq
    exact ⟨F, h1 C a w hA, h2⟩
  cases e with
  | normal => exact go 0 hq
  | ret => exact go 1 hq
  | exit n => exact go (n + 2) hq
  | _ => exact hq.elim
theorem pwp_sound {P : Program} {T : Tab} (hT : TabOK P T) (hW : PWf P) : ∀ (c : Code) (Q : Post) (E : Env), pwp T (Sig.std P T) c Q E → TripleC P T c Q E := by
  intro c
  induction c with
  | skip => intro Q E h C a w hA; exact wp_skip ⟨E, hA, h⟩
  | region id l dr =>
    intro Q E h C a w hA
    cases dr with
    | true =>
      obtain ⟨h1, h2⟩ := h
      cases hl : ltS E.next E.st with
      | false => rw [hl] at h2; exact h2.elim
      | true => rw [hl] at h2; exact draw_sound hT hW h1 hl h2 C a w hA _ fun E' a' w' hA' hK => ⟨E', hA', hK⟩
    | false => exact wp_region_list (opsE_sound hT hW l.toList E _ h a w hA fun E' a' w' hA' hK => ⟨E', hA', hK⟩)
  | seq x y ihx ihy =>
    intro Q E h C a w hA
    simp only [pwp] at h
    cases hs : goesOn T.cut x y with
    | true =>
      rw [hs] at h
      exact wp_seq (wp_mono (ihx _ E h C a w hA) (lift_seq fun E' a' w' hA' hq => ihy Q E' hq C a' w' hA'))
    | false =>
      rw [hs] at h
      obtain ⟨Q', h1, h2⟩ := h
      refine wp_seq (wp_mono (wp_mono (ihx Q' E h1 C a w hA) (lift_ent h2)) (lift_seq fun E' a' w' hA' hq => ihy Q E' hq C a' w' hA'))
  | cond c x y ihx ihy =>
    intro Q E h C a w hA
    cases c with
    | tmp c =>
      simp only [pwp] at h
      have hA' := hA
      obtain ⟨⟨Y, σ, H⟩, hd⟩ := hA'
      have hg := H.vals.get _ _ c
      have hev : a.eval (.tmp c) = a.tmps.toList.getD c Go.undef := by simp [Act.eval, Array.getD_eq_getD_getElem?, List.getD_eq_getElem?_getD]
      split at h
      · rename_i e; rw [e] at hg
        exact wp_cond_true (by rw [hev]; exact rep_bool hg) (ihx Q E h C a w hA)
      · rename_i e; rw [e] at hg
        exact wp_cond_false (by rw [hev]; exact rep_bool hg) (ihy Q E h C a w hA)
      · rename_i t e
        have hg2 := hg
        rw [e] at hg2
        refine wp_cond_split (t := t) (by rw [hev]; exact rep_sb hg2) (fun ht => ?_) (fun ht => ?_)
        · exact ihx Q _ (h.1 ht) C a w ⟨⟨Y, σ, H.setSame e true ht⟩, hd⟩
        · exact ihy Q _ (h.2 ht) C a w ⟨⟨Y, σ, H.setSame e false ht⟩, hd⟩
      · exact h.elim
    | const v =>
      cases v with
      | bool b =>
        cases b with
        | true => exact wp_cond_true rfl (ihx Q E h C a w hA)
        | false => exact wp_cond_false rfl (ihy Q E h C a w hA)
      | _ => exact (by simp [pwp] at h)
    | _ => exact (by simp [pwp] at h)
  | block id b ih =>
    intro Q E h C a w hA
    refine wp_block (wp_mono (ih _ E h C a w hA) fun e a' w' hq => ?_)
    cases e with
    | normal => exact hq
    | ret => exact hq
    | exit n =>
      obtain ⟨E', hA', hq⟩ := hq
      simp only [Exit.inBlock]
      have hq : (bif Nat.beq n id then Q 0 E' else Q (n + 2) E') := hq
      by_cases hn : n = id
      · rw [if_pos hn]
        subst hn
        simp only [Nat.beq_refl, cond_true] at hq
        exact ⟨E', hA', hq⟩
      · rw [if_neg hn]
        rw [beqN hn] at hq
        exact ⟨E', hA', hq⟩
    | _ => exact hq.elim
  | loop b ih => intro Q E h; exact h
  | exit n => intro Q E h C a w hA; exact wp_exit ⟨E, hA, h⟩
  | ret => intro Q E h C a w hA; exact wp_ret ⟨E, hA, h⟩
  | _ => intro Q E h; exact (by simp [pwp] at h)
end Go.Pv
namespace Go.Pv
open Go
theorem SW.reroot {T : Tab} {C : Ctx T} {w : World} {Y : Nat → Prop} {σ : Sg} {ps : List PV} {vs : List Value} {st : St} {n : Nat} (H : SW C w Y σ ps vs st n) {b r m sz : Nat} {rows : List (List PV)} {cv : Value}
    (hb : lkS st b = some (.arr false sz rows)) (hv : Rep w Y σ (.os b r m) cv) :
    ∃ σ', SW C w Y σ' ps vs (inS (inS st b none) n (some (.arr false sz ((rows.drop r).take m)))) (n + 1) ∧ Rep w Y σ' (.os n 0 m) cv ∧ SgLe σ σ' := by
  have hn := H.next n (Nat.le_refl _)
  have nb : b ≠ n ∨ σ b = none := by
    by_cases h : b = n
    · right; rw [h]; exact hn
    · exact .inl h
  have old : ∀ c x, lkS (inS st b none) c = some x → c ≠ b ∧ lkS st c = some x := by
    intro c x h
    rw [lkS_inS] at h
    by_cases hc : b = c
    · rw [if_pos hc] at h; cases h
    · rw [if_neg hc] at h; exact ⟨fun e => hc e.symm, h⟩
  have hv0 := hv
  unfold Rep at hv
  rcases hv with ⟨l, cap, hs, ev, hmc, htot, hnr⟩ | ⟨hm, a, ev⟩
  · let l' : Loc := ⟨l.cb, l.co + r * l.sz, l.sz, l.tot, m⟩
    let σ' : Sg := fun k => if k = n then some l' else σ k
    have hσ : ∀ k, k ≠ n → σ' k = σ k := fun k h => if_neg h
    have hσn : σ' n = some l' := if_pos rfl
    have hle : SgLe σ σ' := by
      intro k x h
      by_cases hk : k = n
      · rw [hk, hn] at h; cases h
      · rw [hσ k hk]; exact h
    have K : Keep w w Y Y σ σ' := ⟨fun _ _ _ => rfl, fun _ _ h => h, Nat.le_refl _, hle⟩
    have hbn : b ≠ n := by intro e; rw [e, hn] at hs; cases hs
    obtain ⟨lb, hlb, hB⟩ | ⟨hno, _⟩ := H.store.blk b _ hb
    · rw [hs] at hlb; cases hlb
      unfold BlkRep at hB
      obtain ⟨hat, hsz, hpos, ⟨hfit, hnrw⟩, hrows, hY1, hY2⟩ := hB
      have hlen : ((rows.drop r).take m).length = m := by rw [List.length_take, List.length_drop]; omega
      refine ⟨σ', ⟨RepL.keep _ K _ H.vals, ⟨?_, ?_⟩, ?_, H.yold, H.y0, H.c0, H.yshr, H.chg, ?_, H.glob, ⟨by have := H.fix.1; omega, ?_⟩, ?_⟩, ?_, hle⟩
      · intro c x hx
        rw [lkS_inS] at hx
        by_cases hc : n = c
        · rw [if_pos hc] at hx; cases hx; subst hc
          refine .inl ⟨l', hσn, ?_⟩
          unfold BlkRep
          refine ⟨⟨hat.blk⟩, hsz, hpos, ⟨?_, hlen⟩, ?_, hY1, fun h => by cases h⟩
          · rw [hlen]
            show l.co + r * l.sz + m * sz ≤ l.tot
            have : m * l.sz ≤ cap * l.sz := Nat.mul_le_mul_right _ hmc
            rw [← hsz] at *; omega
          · show RepR w Y noSg l.cb sz _ (l.co + r * l.sz)
            rw [hsz]
            exact RepR.take m _ _ (RepR.drop r _ _ hrows)
        · rw [if_neg hc] at hx
          obtain ⟨_, hx⟩ := old c x hx
          rcases H.store.blk c x hx with ⟨l2, h2, hB2⟩ | ⟨h2, h3⟩
          · exact .inl ⟨l2, hle _ _ h2, BlkRep.keep K rfl Iff.rfl hB2⟩
          · exact .inr ⟨by rw [hσ c (fun e => hc e.symm)]; exact h2, h3⟩
      · intro c c' x x' lc lc' hx hx' hl hl' e
        rw [lkS_inS] at hx hx'
        by_cases hc : n = c
        · by_cases hc' : n = c'
          · rw [← hc, ← hc']
          · rw [if_neg hc'] at hx'
            obtain ⟨hcb, hx'⟩ := old c' x' hx'
            subst hc
            rw [hσn] at hl; cases hl
            rw [hσ c' (fun e => hc' e.symm)] at hl'
            exact absurd (H.store.inj b c' _ x' l lc' hb hx' hs hl' e).symm hcb
        · rw [if_neg hc] at hx
          obtain ⟨hcb, hx⟩ := old c x hx
          rw [hσ c (fun e => hc e.symm)] at hl
          by_cases hc' : n = c'
          · subst hc'
            rw [hσn] at hl'; cases hl'
            exact absurd (H.store.inj c b x _ lc l hx hb hl hs e) hcb
          · rw [if_neg hc'] at hx'
            obtain ⟨_, hx'⟩ := old c' x' hx'
            rw [hσ c' (fun e => hc' e.symm)] at hl'
            exact H.store.inj c c' x x' lc lc' hx hx' hl hl' e
      · intro k hk
        rw [hσ k (by omega)]; exact H.next k (by omega)
      · intro c x lc hx hl
        rw [lkS_inS] at hx
        by_cases hc : n = c
        · subst hc
          rw [hσn] at hl; cases hl
          exact H.own b _ l hb hs
        · rw [if_neg hc] at hx
          obtain ⟨_, hx⟩ := old c x hx
          rw [hσ c (fun e => hc e.symm)] at hl
          exact H.own c x lc hx hl
      · intro k hk
        rw [hσ k (by have := H.fix.1; omega)]; exact H.fix.2 k hk
      · have ow : ∀ c rr cc h sz' es, OwAt (inS (inS st b none) n (some (.arr false sz ((rows.drop r).take m)))) c rr cc h sz' es → OwAt st c rr cc h sz' es := by
          rintro c rr cc h sz' es ⟨s0, rws, row, h1, h2⟩
          rw [lkS_inS] at h1
          by_cases hc : n = c
          · rw [if_pos hc] at h1; cases h1
          · rw [if_neg hc] at h1
            exact ⟨s0, rws, row, (old c _ h1).2, h2⟩
        refine ⟨fun _ _ _ _ _ _ h => H.nest.rep _ _ _ _ _ _ (ow _ _ _ _ _ _ h), fun _ _ _ _ _ _ h => H.nest.old _ _ _ _ _ _ (ow _ _ _ _ _ _ h), fun _ _ _ _ _ _ _ _ _ _ _ _ h h' => H.nest.one _ _ _ _ _ _ _ _ _ _ _ _ (ow _ _ _ _ _ _ h) (ow _ _ _ _ _ _ h'), ?_⟩
        intro c rr cc h sz' es c' x lc ho hx hl
        rw [lkS_inS] at hx
        by_cases hc : n = c'
        · subst hc
          rw [hσn] at hl; cases hl
          exact H.nest.sep _ _ _ _ _ _ b _ l (ow _ _ _ _ _ _ ho) hb hs
        · rw [if_neg hc] at hx
          rw [hσ c' (fun e => hc e.symm)] at hl
          exact H.nest.sep _ _ _ _ _ _ c' x lc (ow _ _ _ _ _ _ ho) (old c' x hx).2 hl
      · unfold Rep
        refine .inl ⟨l', cap, hσn, ?_, hmc, ?_, ?_⟩
        · rw [ev]; show Value.slice (some ⟨l.cb, l.co + r * l.sz, none⟩) m cap = Value.slice (some ⟨l.cb, l.co + r * l.sz + 0 * l.sz, none⟩) m cap
          rw [Nat.zero_mul, Nat.add_zero]
        · show l.co + r * l.sz + 0 * l.sz + cap * l.sz = l.tot
          rw [Nat.zero_mul, Nat.add_zero]; exact htot
        · show 0 + m ≤ m; omega
    · rw [hs] at hno; cases hno
  · subst hm
    have H1 := (H.drop b).empty (id := n) ⟨hn, H.fix.1⟩ sz
    have hm : max n (n + 1) = n + 1 := by omega
    rw [hm] at H1
    refine ⟨σ, by simpa using H1, ?_, SgLe.refl _⟩
    unfold Rep
    exact .inr ⟨rfl, a, ev⟩
section
variable {P : Program} {T T' : Tab} {C : Ctx T} {w : World} {ps : List PV} {vs : List Value}
theorem Keep.same {w : World} {Y : Nat → Prop} {σ σ' : Sg} (h : SgLe σ σ') : Keep w w Y Y σ σ' := ⟨fun _ _ _ => rfl, fun _ _ h => h, Nat.le_refl _, h⟩
theorem Keep.trans2 {w : World} {Y Y' Y2 : Nat → Prop} {σ σ' σ2 : Sg} (h : Keep w w Y Y' σ σ') (k : Keep w w Y' Y2 σ' σ2) : Keep w w Y Y2 σ σ2 := ⟨fun _ _ _ => rfl, fun c hc h2 => h.excl c hc (k.excl c hc h2), Nat.le_refl _, h.sg.trans k.sg⟩
theorem cvCell_sound (z : Nat × Bool) (v : PV) {Y : Nat → Prop} {σ : Sg} {st : St} {n : Nat} {cv : Value} (H : SW C w Y σ ps vs st n) (hv : Rep w Y σ v cv) :
    ∃ Y' σ', SW C w Y' σ' ps vs (cvCell (Sig.std P T') z v st n).2.1 (cvCell (Sig.std P T') z v st n).2.2 ∧ Rep w Y' σ' (cvCell (Sig.std P T') z v st n).1 cv ∧ Keep w w Y Y' σ σ' := by
  have same : ∃ Y' σ', SW C w Y' σ' ps vs st n ∧ Rep w Y' σ' v cv ∧ Keep w w Y Y' σ σ' := ⟨Y, σ, H, hv, Keep.same (SgLe.refl _)⟩
  obtain ⟨z, re⟩ := z
  cases z with
  | zero =>
    cases re with
    | false => exact same
    | true =>
      simp only [cvCell]
      split
      · rename_i v' hfr
        obtain ⟨Y', H', hY⟩ := SW.roS (callN [v] st) H
        have K : Keep w w Y Y' σ σ := ⟨fun _ _ _ => rfl, fun k _ => hY k, Nat.le_refl _, SgLe.refl _⟩
        have hfree : ∀ b x l, lkRo (roS st (callN [v] st)) b = some x → σ b = some l → ¬ Y' l.cb := by
          intro b x l h1 h2
          obtain ⟨h3, h4⟩ := lkRo_le h1
          rcases H'.store.blk b x h3 with ⟨l', hl', hB⟩ | ⟨hn, _⟩
          · rw [h2] at hl'; cases hl'; exact hB.notY h4
          · rw [h2] at hn; cases hn
        have hr := frz_sound (P := P) (T := T') (Y0 := Y') H'.store (fun b x h => (lkRo_le h).1) (fun _ h => h) hfree (fun b sz rows hb => by have := (lkRo_le hb).2; cases this) 6 v v' cv hfr (Rep.keep _ K _ hv)
        exact ⟨Y', σ, H', Rep.keep _ ⟨fun _ _ _ => rfl, fun _ _ h => h, Nat.le_refl _, fun b l h => by simp [noSg] at h⟩ _ hr, K⟩
      · exact same
  | succ z =>
    cases v with
    | sl sz es f =>
      cases f with
      | false => exact same
      | true =>
        cases es with
        | cons _ _ => exact same
        | nil =>
          have H1 := H.empty (id := n) ⟨H.next _ (Nat.le_refl _), H.fix.1⟩ (z + 1)
          have hm : max n (n + 1) = n + 1 := by omega
          rw [hm] at H1
          refine ⟨Y, σ, H1, ?_, Keep.same (SgLe.refl _)⟩
          show Rep w Y σ (.os n 0 0) cv
          unfold Rep at hv ⊢
          obtain ⟨sx, len, cap, e, hl, hc, hf, _⟩ := hv
          have hl : len = 0 := by simpa using hl
          have hc := hf rfl
          subst hl
          rw [e, hc]
          exact .inr ⟨rfl, sx, rfl⟩
    | os b r m =>
      cases re with
      | false => exact same
      | true =>
        show ∃ Y' σ', SW C w Y' σ' ps vs (cvCell (Sig.std P T') (z + 1, true) (.os b r m) st n).2.1 (cvCell (Sig.std P T') (z + 1, true) (.os b r m) st n).2.2 ∧ Rep w Y' σ' (cvCell (Sig.std P T') (z + 1, true) (.os b r m) st n).1 cv ∧ Keep w w Y Y' σ σ'
        simp only [cvCell]
        split
        · rename_i hb
          obtain ⟨σ', H1, h1, h2⟩ := H.reroot hb hv
          exact ⟨Y, σ', H1, h1, Keep.same h2⟩
        · exact same
    | _ => exact same
theorem cvCells_sound : ∀ (zs : List (Nat × Bool)) (cs : List PV) {Y : Nat → Prop} {σ : Sg} {st : St} {n : Nat} {cvs : List Value}, SW C w Y σ ps vs st n → RepL w Y σ cs cvs →
    ∃ Y' σ', SW C w Y' σ' ps vs (cvCells (Sig.std P T') zs cs st n).2.1 (cvCells (Sig.std P T') zs cs st n).2.2 ∧ RepL w Y' σ' (cvCells (Sig.std P T') zs cs st n).1 cvs ∧ Keep w w Y Y' σ σ'
  | z :: zs, v :: cs, Y, σ, st, n, cvs, H, hv => by
    unfold RepL at hv
    obtain ⟨c, cvs', rfl, h1, h2⟩ := hv
    obtain ⟨Y1, σ1, H1, h1, k1⟩ := cvCell_sound (P := P) (T' := T') z v H h1
    obtain ⟨Y2, σ2, H2, h2, k2⟩ := cvCells_sound zs cs H1 (RepL.keep cs k1 _ h2)
    exact ⟨Y2, σ2, H2, by show RepL w Y2 σ2 (_ :: _) _; unfold RepL; exact ⟨_, _, rfl, Rep.keep _ k2 _ h1, h2⟩, k1.trans2 k2⟩
  | [], cs, Y, σ, st, n, cvs, H, hv => by unfold cvCells; exact ⟨_, σ, H, hv, Keep.same (SgLe.refl _)⟩
  | z :: zs, [], Y, σ, st, n, cvs, H, hv => by unfold cvCells; exact ⟨_, σ, H, hv, Keep.same (SgLe.refl _)⟩
theorem cvOne_sound (zs : List (Nat × Bool)) (v : PV) {Y : Nat → Prop} {σ : Sg} {st : St} {n : Nat} {cv : Value} (H : SW C w Y σ ps vs st n) (hv : Rep w Y σ v cv) :
    ∃ Y' σ', SW C w Y' σ' ps vs (cvOne (Sig.std P T') zs v st n).2.1 (cvOne (Sig.std P T') zs v st n).2.2 ∧ Rep w Y' σ' (cvOne (Sig.std P T') zs v st n).1 cv ∧ Keep w w Y Y' σ σ' := by
  unfold cvOne
  split
  · rename_i cs
    unfold Rep at hv
    obtain ⟨vs', e, h⟩ := hv
    obtain ⟨Y1, σ1, H1, h1, k1⟩ := cvCells_sound (P := P) (T' := T') zs cs H h
    exact ⟨Y1, σ1, H1, by show Rep w Y1 σ1 (.agg _) _; unfold Rep; exact ⟨_, e, h1⟩, k1⟩
  · split
    · exact cvCell_sound _ _ H hv
    · exact ⟨_, σ, H, hv, Keep.same (SgLe.refl _)⟩
theorem cvOnes_sound : ∀ (own : List (List (Nat × Bool))) (cs : List PV) {Y : Nat → Prop} {σ : Sg} {st : St} {n : Nat} {cvs : List Value}, SW C w Y σ ps vs st n → RepL w Y σ cs cvs →
    ∃ Y' σ', SW C w Y' σ' ps vs (cvOnes (Sig.std P T') own cs st n).2.1 (cvOnes (Sig.std P T') own cs st n).2.2 ∧ RepL w Y' σ' (cvOnes (Sig.std P T') own cs st n).1 cvs ∧ Keep w w Y Y' σ σ'
  | z :: zs, v :: cs, Y, σ, st, n, cvs, H, hv => by
    unfold RepL at hv
    obtain ⟨c, cvs', rfl, h1, h2⟩ := hv
    obtain ⟨Y1, σ1, H1, h1, k1⟩ := cvOne_sound (P := P) (T' := T') z v H h1
    obtain ⟨Y2, σ2, H2, h2, k2⟩ := cvOnes_sound zs cs H1 (RepL.keep cs k1 _ h2)
    exact ⟨Y2, σ2, H2, by show RepL w Y2 σ2 (_ :: _) _; unfold RepL; exact ⟨_, _, rfl, Rep.keep _ k2 _ h1, h2⟩, k1.trans2 k2⟩
  | [], cs, Y, σ, st, n, cvs, H, hv => by unfold cvOnes; exact ⟨_, σ, H, hv, Keep.same (SgLe.refl _)⟩
  | z :: zs, [], Y, σ, st, n, cvs, H, hv => by unfold cvOnes; exact ⟨_, σ, H, hv, Keep.same (SgLe.refl _)⟩
theorem cvRet_sound (own : List (List (Nat × Bool))) (v : PV) {Y : Nat → Prop} {σ : Sg} {st : St} {n : Nat} {cv : Value} (H : SW C w Y σ ps vs st n) (hv : Rep w Y σ v cv) :
    ∃ Y' σ' n', SW C w Y' σ' ps vs (cvRet (Sig.std P T') own v st n).2.1 n' ∧ Rep w Y' σ' (cvRet (Sig.std P T') own v st n).1 cv := by
  unfold cvRet
  split
  · rename_i cs
    unfold Rep at hv
    obtain ⟨vs', e, h⟩ := hv
    obtain ⟨Y1, σ1, H1, h1, _⟩ := cvOnes_sound (P := P) (T' := T') own cs H h
    exact ⟨Y1, σ1, _, H1, by show Rep w Y1 σ1 (.tup _) _; unfold Rep; exact ⟨_, e, h1⟩⟩
  · split
    · obtain ⟨Y1, σ1, H1, h1, _⟩ := cvOne_sound (P := P) (T' := T') _ _ H hv
      exact ⟨Y1, σ1, _, H1, h1⟩
    · exact ⟨Y, σ, _, H, hv⟩
end
end Go.Pv
