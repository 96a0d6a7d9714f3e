/-
  Pv, part 20: regions whose order is drawn: quiet operations give the same in every order.
-/
import Derived.Test.YtkejjohamlimeaaPvDraw1
namespace Go.Pv
open Go
set_option linter.all false

/-! ### values that stand for the same -/
def Eqv (p q : PV) : Prop := ∀ w Y σ v, Rep w Y σ p v ↔ Rep w Y σ q v
theorem Eqv.refl (p : PV) : Eqv p p := fun _ _ _ _ => Iff.rfl
theorem Eqv.symm {p q : PV} (h : Eqv p q) : Eqv q p := fun w Y σ v => (h w Y σ v).symm
theorem Eqv.trans {p q r : PV} (h : Eqv p q) (k : Eqv q r) : Eqv p r := fun w Y σ v => (h w Y σ v).trans (k w Y σ v)
theorem Eqv.bool (b : Bool) : Eqv (.sb b) (.bool b) := fun w Y σ v => by simp [Rep]

def EqvL (ps qs : List PV) : Prop := ps.length = qs.length ∧ ∀ t, Eqv (getL ps t) (getL qs t)
theorem EqvL.refl (ps : List PV) : EqvL ps ps := ⟨rfl, fun _ => Eqv.refl _⟩
theorem EqvL.trans {ps qs rs : List PV} (h : EqvL ps qs) (k : EqvL qs rs) : EqvL ps rs := ⟨h.1.trans k.1, fun t => (h.2 t).trans (k.2 t)⟩
theorem EqvL.symm {ps qs : List PV} (h : EqvL ps qs) : EqvL qs ps := ⟨h.1.symm, fun t => (h.2 t).symm⟩

theorem getL_setL (l : List PV) (d t : Nat) (v : PV) : getL (setL l d v) t = if d = t ∧ d < l.length then v else getL l t := by
  rw [getL_eq, setL_eq, getL_eq, List.getD_eq_getElem?_getD, List.getD_eq_getElem?_getD, List.getElem?_set]
  by_cases h : d = t
  · subst h
    by_cases hl : d < l.length
    · simp [hl]
    · simp [hl]
  · simp [h]
theorem length_setL (l : List PV) (d : Nat) (v : PV) : (setL l d v).length = l.length := by rw [setL_eq]; simp
theorem getL_ge {l : List PV} {t : Nat} (h : l.length ≤ t) : getL l t = .undef := by rw [getL_eq, List.getD_eq_getElem?_getD, List.getElem?_eq_none h]; rfl

theorem RepL.eqv {w : World} {Y : Nat → Prop} {σ : Sg} : ∀ {ps qs : List PV} {vs : List Value}, EqvL ps qs → RepL w Y σ ps vs → RepL w Y σ qs vs
  | [], [], vs, _, h => h
  | [], _ :: _, _, h, _ => by simp [EqvL] at h
  | _ :: _, [], _, h, _ => by simp [EqvL] at h
  | p :: ps, q :: qs, vs, h, hr => by
    unfold RepL at hr ⊢
    obtain ⟨v, vs', e, h1, h2⟩ := hr
    refine ⟨v, vs', e, (h.2 0 _ _ _ _).1 h1, RepL.eqv ⟨by simpa using h.1, fun t => h.2 (t + 1)⟩ h2⟩
theorem SW.eqv {C : Ctx} {w : World} {Y : Nat → Prop} {σ : Sg} {ps qs : List PV} {vs : List Value} {st : St} {n : Nat} (H : SW C w Y σ ps vs st n) (h : EqvL ps qs) : SW C w Y σ qs vs st n :=
  ⟨H.vals.eqv h, H.store, H.next, H.yold, H.y0, H.c0, H.chg, H.own⟩

def putT (ps : List PV) : Option Nat → PV → List PV
  | none, _ => ps
  | some d, v => setL ps d v
theorem putE_eq (E : Env) (d : Option Nat) (v : PV) : putE E d v = ⟨putT E.tmps d v, E.st, E.next⟩ := by cases d <;> rfl
theorem putT_length (ps : List PV) (d : Option Nat) (v : PV) : (putT ps d v).length = ps.length := by cases d <;> simp [putT, length_setL]
theorem putT_ne {ps : List PV} {d : Option Nat} {v : PV} {t : Nat} (h : d ≠ some t) : getL (putT ps d v) t = getL ps t := by
  cases d with
  | none => rfl
  | some d => simp only [putT, getL_setL]; rw [if_neg]; rintro ⟨rfl, _⟩; exact h rfl
theorem putT_eqv {ps qs : List PV} (h : EqvL ps qs) (d : Option Nat) {v u : PV} (hv : Eqv v u) : EqvL (putT ps d v) (putT qs d u) := by
  refine ⟨by simp [putT_length, h.1], fun t => ?_⟩
  cases d with
  | none => exact h.2 t
  | some d =>
    simp only [putT, getL_setL, h.1]
    split
    · exact hv
    · exact h.2 t
theorem SW.putT {C : Ctx} {w : World} {Y : Nat → Prop} {σ : Sg} {ps : List PV} {a : Act} {st : St} {n : Nat} (H : SW C w Y σ ps a.tmps.toList st n) {v : PV} {cv : Value} (hv : Rep w Y σ v cv) (d : Option Nat) :
    SW C w Y σ (putT ps d v) (a.put d cv).tmps.toList st n := by
  cases d with
  | none => exact H
  | some d =>
    refine ⟨?_, H.store, H.next, H.yold, H.y0, H.c0, H.chg, H.own⟩
    simp only [Act.put, Pv.putT, Array.toList_setIfInBounds]
    exact RepL.set hv _ _ _ H.vals
theorem put_defers (a : Act) (d : Option Nat) (v : Value) : (a.put d v).defers = a.defers := by cases d <;> rfl

/-! ### one operation, at any state where its operands are right -/
section
variable {P : Program} {T : Tab}

def SemOp (P : Program) (all : Array Oper) (o : Oper) (er : List PV) (st : St) (n : Nat) (v : PV) : Prop :=
  ∀ C ps Y σ (a : Act) w, (∀ t ∈ o.looksAt all, getL ps t = getL er t) → SW C w Y σ ps a.tmps.toList st n → a.defers = [] →
    ∀ next Q, (∀ cv w' Y' σ', SW C w' Y' σ' ps a.tmps.toList st n → Rep w' Y' σ' v cv → next (a.put o.dst cv) w') → o.wp P a w next Q
def SemGd (all : Array Oper) (o : Oper) (er : List PV) (st : St) (n : Nat) (wb : Bool) : Prop :=
  ∀ C ps Y σ (a : Act) w, (∀ t ∈ o.looksAt all, getL ps t = getL er t) → SW C w Y σ ps a.tmps.toList st n → a.defers = [] → Region.wanted o (yielded all a.tmps) = wb

theorem semGd_of {all : Array Oper} {o : Oper} {er : List PV} {st : St} {n : Nat} {wb : Bool}
    (h : ∀ ps, (∀ t ∈ o.looksAt all, getL ps t = getL er t) → gd (Sig.std P) all o.guard ⟨ps, st, n⟩ (fun _ => wb = true) (fun _ => wb = false)) : SemGd all o er st n wb := by
  intro C ps Y σ a w hl H hd
  obtain ⟨E', _, hh⟩ := gd_sound (h ps hl) (C := C) (a := a) (w := w) ⟨⟨Y, σ, H⟩, hd⟩
  rcases hh with ⟨h1, h2⟩ | ⟨h1, h2⟩
  · rw [h1, h2]
  · rw [h1, h2]

theorem gd_split {all : Array Oper} {o : Oper} {E : Env} {run skip : Env → Prop} (h : gd (Sig.std P) all o.guard E run skip) :
    ∃ E1 wb, EqvL E.tmps E1.tmps ∧ E1.st = E.st ∧ E1.next = E.next ∧ SemGd all o E1.tmps E.st E.next wb ∧ (wb = true → run E1) ∧ (wb = false → skip E1) := by
  unfold gd at h
  split at h
  · rename_i hg
    exact ⟨E, true, EqvL.refl _, rfl, rfl, semGd_of (P := P) fun ps _ => by simp [gd, hg], fun _ => h, fun e => by cases e⟩
  · rename_i j want hg
    split at h
    · rename_i oj hj
      split at h
      · rename_i d hd
        have hmem : d ∈ o.looksAt all := by
          unfold Oper.looksAt
          refine List.mem_append_right _ ?_
          simp [hg, hj, hd]
        have sem : ∀ (E1 : Env) b, getL E1.tmps d = .bool b → SemGd all o E1.tmps E.st E.next (b == want) := by
          intro E1 b hb
          refine semGd_of (P := P) fun ps hps => ?_
          have := hps d hmem
          rw [hb] at this
          simp only [gd, hg, hj, hd, this]
          cases b <;> cases want <;> rfl
        split at h
        · rename_i e
          refine ⟨E, true == want, EqvL.refl _, rfl, rfl, sem E true e, ?_, ?_⟩ <;> intro hw <;> cases want <;> first | (cases hw; done) | exact h
        · rename_i e
          refine ⟨E, false == want, EqvL.refl _, rfl, rfl, sem E false e, ?_, ?_⟩ <;> intro hw <;> cases want <;> first | (cases hw; done) | exact h
        · rename_i b e
          have hlt : d < E.tmps.length := by
            by_cases hh : d < E.tmps.length
            · exact hh
            · rw [getL_ge (Nat.le_of_not_lt hh)] at e; cases e
          have heq : EqvL E.tmps (putE E (some d) (.bool b)).tmps := by
            refine ⟨by simp [putE, length_setL], fun t => ?_⟩
            simp only [putE, getL_setL]
            split
            · rename_i hh; rw [← hh.1, e]; exact Eqv.bool b
            · exact Eqv.refl _
          have hget : getL (putE E (some d) (.bool b)).tmps d = .bool b := by simp [putE, getL_setL, hlt]
          obtain ⟨h1, h2⟩ := h
          refine ⟨putE E (some d) (.bool b), b == want, heq, rfl, rfl, sem _ b hget, ?_, ?_⟩
          · intro hw
            cases b with
            | true => have h1 := h1 rfl; cases want <;> first | (cases hw; done) | exact h1
            | false => have h2 := h2 rfl; cases want <;> first | (cases hw; done) | exact h2
          · intro hw
            cases b with
            | true => have h1 := h1 rfl; cases want <;> first | (cases hw; done) | exact h1
            | false => have h2 := h2 rfl; cases want <;> first | (cases hw; done) | exact h2
        · rename_i e
          refine ⟨E, false, EqvL.refl _, rfl, rfl, semGd_of (P := P) fun ps hps => ?_, (fun hw => by cases hw), fun _ => h⟩
          have := hps d hmem
          rw [e] at this
          simp only [gd, hg, hj, hd, this]
        · exact h.elim
      · exact h.elim
    · exact h.elim

theorem tmp_looks {all : Array Oper} {o : Oper} {er ps : List PV} (h : ∀ t ∈ o.looksAt all, getL ps t = getL er t) : ∀ x ∈ o.op.operands, evL ps x = evL er x := by
  intro x hx
  cases x with
  | tmp t =>
    simp only [evL]
    refine h t ?_
    unfold Oper.looksAt
    exact List.mem_append_left _ (List.mem_filterMap.2 ⟨.tmp t, by simpa using hx, rfl⟩)
  | _ => rfl

theorem opE_sem (hT : TabOK P T) (hW : PWf P) {all : Array Oper} {o : Oper} {ps : List PV} {st : St} {n : Nat} {K : PV → Prop} (hq : isQ o.op = true) (h : opE T (Sig.std P) o.op ps (lkS st) n (quietK K)) :
    ∃ v, SemOp P all o ps st n v ∧ K v := by
  obtain ⟨v, δ, hK, hF⟩ := opE_det hq h
  cases δ with
  | cons x δ => exact hK.elim
  | nil =>
    refine ⟨v, ?_, hK⟩
    intro C qs Y σ a w hl H hd next Q hnext
    have h2 := hF (fun v' δ' => v' = v ∧ δ' = []) ⟨rfl, rfl⟩
    rw [← opE_congr (tmp_looks hl)] at h2
    obtain ⟨v', δ', cv, w', Y', σ', ⟨rfl, rfl⟩, hrun, H', hv⟩ := opE_res hT hW H (fun _ _ h => h) (Nat.le_refl _) h2
    have := hnext cv w' Y' σ' H' hv
    unfold Oper.wp
    rcases hrun with hrun | ⟨hrun, rfl⟩
    · rw [hrun]; exact this
    · rw [hrun]; exact this

theorem call_run {P : Program} {o : Oper} {f : Operand} {args : Array Operand} {ts : Array TypeId} {a : Act} {w : World} {k : Nat} {cs : List Value} (ho : o.op = .call { callee := .value f, args, argTypes := ts })
    (ef : a.eval f = .func (.func k) #[] cs.toArray) (hent : (callFunc k (args.toList.map a.eval ++ cs).toArray).run P w = .ok (.enter k (args.toList.map a.eval ++ cs).toArray) w) :
    (execOp a.eval o).run P w = .ok (.enter k (args.toList.map a.eval ++ cs).toArray) w := by
  have hmap : args.map a.eval = (args.toList.map a.eval).toArray := by apply Array.ext'; simp
  simp only [execOp, ho, resolve, ef, Deferred.ofValue, Sem.run_bind, Sem.run_pure, Result.andThen, invoke, hmap]
  have : (#[] ++ (args.toList.map a.eval).toArray ++ cs.toArray) = (args.toList.map a.eval ++ cs).toArray := by apply Array.ext'; simp
  rw [this]
  exact hent

theorem opQ_sem (hT : TabOK P T) (hW : PWf P) {all : Array Oper} {o : Oper} {ps : List PV} {st : St} {n : Nat} {K : PV → Prop} (h : opQ T (Sig.std P) o.op ps (lkS st) n K) :
    ∃ v, SemOp P all o ps st n v ∧ K v := by
  unfold opQ at h
  split at h
  · rename_i f args ts ho
    split at h
    · rename_i k caps hf
      have main : ∀ v, (∀ C Y σ w qs vs cargs, SW C w Y σ qs vs st n → RepL w Y σ (appL (evA ps args.toList) caps) cargs → CallSem P k C Y σ w cargs qs vs st n v) → SemOp P all o ps st n v := by
        intro v hsem C qs Y σ a w hl H hd next Q hnext
        have hev := tmp_looks hl
        rw [ho] at hev
        have hfv := ev_rep H.vals f
        rw [hev f (by simp [Op.operands, Call.operands]), hf] at hfv
        unfold Rep at hfv
        obtain ⟨cs, ef, hcs⟩ := hfv
        have hargs := evA_rep H.vals args.toList
        rw [evA_congr (ps := qs) (qs := ps) args.toList fun x hx => hev x (by simp only [Op.operands, Call.operands]; simp; exact .inr (by simpa using hx))] at hargs
        have hall := RepL.app _ _ _ _ hargs hcs
        obtain ⟨hent, hcall⟩ := hsem C Y σ w qs a.tmps.toList _ H (by simpa using hall)
        unfold Oper.wp
        rw [call_run ho ef hent]
        refine Calls.mono hcall fun e w' hh => ?_
        obtain ⟨cv, rfl, H', hv⟩ := hh
        exact hnext cv w' Y σ H' hv
      unfold callD at h
      split at h
      · rename_i as hm
        obtain ⟨v, hF, hK⟩ := h
        exact ⟨v, main v fun C Y σ w qs vs cargs H hr => call_pure H hm hr hF, hK⟩
      · split at h
        · rename_i as hm
          obtain ⟨v, hF, hf, hK⟩ := h
          exact ⟨v, main v fun C Y σ w qs vs cargs H hr => call_flat H (fun _ _ h => h) hm hr hF hf, hK⟩
        · exact h.elim
    · exact h.elim
  · rw [bifF] at h
    exact opE_sem hT hW h.1 h.2

theorem stepQ_split (hT : TabOK P T) (hW : PWf P) {all : Array Oper} {o : Oper} {E : Env} {K : Env → Prop} (h : stepQ T (Sig.std P) o E K) :
    ∃ E1 v, EqvL E.tmps E1.tmps ∧ E1.st = E.st ∧ E1.next = E.next ∧ SemOp P all o E1.tmps E.st E.next v ∧ K (putE E1 o.dst v) := by
  unfold stepQ at h
  have gen : (opQ T (Sig.std P) o.op E.tmps (lkS E.st) E.next fun v => K (putE E o.dst v)) → ∃ E1 v, EqvL E.tmps E1.tmps ∧ E1.st = E.st ∧ E1.next = E.next ∧ SemOp P all o E1.tmps E.st E.next v ∧ K (putE E1 o.dst v) := fun h => by
    obtain ⟨v, h1, h2⟩ := opQ_sem hT hW (all := all) h
    exact ⟨E, v, EqvL.refl _, rfl, rfl, h1, h2⟩
  split at h
  · rename_i c x y ho
    split at h
    · rename_i t hc
      have hlt : c < E.tmps.length := by
        by_cases hh : c < E.tmps.length
        · exact hh
        · rw [getL_ge (Nat.le_of_not_lt hh)] at hc; cases hc
      have heq : EqvL E.tmps (putE E (some c) (.bool t)).tmps := by
        refine ⟨by simp [putE, length_setL], fun u => ?_⟩
        simp only [putE, getL_setL]
        split
        · rename_i hh; rw [← hh.1, hc]; exact Eqv.bool t
        · exact Eqv.refl _
      have hget : getL (putE E (some c) (.bool t)).tmps c = .bool t := by simp [putE, getL_setL, hlt]
      have evq : ∀ z : Operand, Eqv (evL (putE E (some c) (.bool t)).tmps z) (evL E.tmps z) := by
        intro z
        cases z with
        | tmp u => exact (heq.2 u).symm
        | _ => exact Eqv.refl _
      have hsem : SemOp P all o (putE E (some c) (.bool t)).tmps E.st E.next (if t then evL E.tmps x else evL E.tmps y) := by
        intro C qs Y σ a w hl H hd next Q hnext
        have hev := tmp_looks hl
        rw [ho] at hev
        have hcv := ev_rep H.vals (.tmp c)
        rw [hev (.tmp c) (by simp [Op.operands])] at hcv
        simp only [evL, hget] at hcv
        have hcv := rep_bool hcv
        have hrun : (execOp a.eval o).run P w = .ok (.value (if t then a.eval x else a.eval y)) w := by
          simp [execOp, ho, hcv, asBool]
        unfold Oper.wp
        rw [hrun]
        refine hnext _ _ Y σ H ?_
        have hx := ev_rep H.vals x
        have hy := ev_rep H.vals y
        rw [hev x (by simp [Op.operands])] at hx
        rw [hev y (by simp [Op.operands])] at hy
        cases t with
        | true => exact (evq x _ _ _ _).1 hx
        | false => exact (evq y _ _ _ _).1 hy
      refine ⟨_, _, heq, rfl, rfl, hsem, ?_⟩
      cases t with
      | true => exact h.1 rfl
      | false => exact h.2 rfl
    · rw [← ho] at h
      exact gen h
  · exact gen h

/-! ### the trace in the order of the text -/
def Chain (P : Program) (all : Array Oper) (st : St) (n : Nat) : List Oper → List PV → List PV → Prop
  | [], p, f => p = f
  | o :: l, p, f => ∃ e1 er v wb, EqvL p e1 ∧ EqvL p er ∧ SemGd all o e1 st n wb ∧ (wb = true → SemOp P all o er st n v) ∧ (wb = false → v = .undef) ∧ Chain P all st n l (putT er o.dst v) f

theorem opsQ_chain (hT : TabOK P T) (hW : PWf P) {all : Array Oper} : ∀ (l : List Oper) (E : Env) (K : Env → Prop), opsQ T (Sig.std P) all l E K → ∃ f, Chain P all E.st E.next l E.tmps f ∧ K ⟨f, E.st, E.next⟩
  | [], E, K, h => ⟨E.tmps, rfl, h⟩
  | o :: l, E, K, h => by
    simp only [opsQ] at h
    obtain ⟨E1, wb, h1, h2, h3, h4, h5, h6⟩ := gd_split h
    cases wb with
    | true =>
      obtain ⟨E2, v, k1, k2, k3, k4, k5⟩ := stepQ_split hT hW (all := all) (h5 rfl)
      rw [putE_eq, k2, k3, h2, h3] at k5
      obtain ⟨f, hf, hK⟩ := opsQ_chain hT hW l _ _ k5
      rw [h2, h3] at k4
      exact ⟨f, ⟨E1.tmps, E2.tmps, v, true, h1, h1.trans k1, h4, fun _ => k4, (fun e => by cases e), hf⟩, hK⟩
    | false =>
      have k5 := h6 rfl
      rw [putE_eq, h2, h3] at k5
      obtain ⟨f, hf, hK⟩ := opsQ_chain hT hW l _ _ k5
      exact ⟨f, ⟨E1.tmps, E1.tmps, .undef, false, h1, h1, h4, (fun e => by cases e), fun _ => rfl, hf⟩, hK⟩

theorem Chain.length {all : Array Oper} {st : St} {n : Nat} : ∀ (l : List Oper) (p f : List PV), Chain P all st n l p f → f.length = p.length
  | [], p, f, h => by rw [show p = f from h]
  | o :: l, p, f, h => by
    obtain ⟨e1, er, v, wb, h1, h2, _, _, _, h6⟩ := h
    rw [Chain.length l _ _ h6, putT_length, h2.1]
/-- a slot that nobody writes -/
theorem Chain.keep {all : Array Oper} {st : St} {n : Nat} {t : Nat} : ∀ (l : List Oper) (p f : List PV), Chain P all st n l p f → (∀ o ∈ l, o.dst ≠ some t) → Eqv (getL p t) (getL f t)
  | [], p, f, h, _ => by rw [show p = f from h]; exact Eqv.refl _
  | o :: l, p, f, h, hn => by
    obtain ⟨e1, er, v, wb, h1, h2, _, _, _, h6⟩ := h
    have := Chain.keep l _ _ h6 fun o ho => hn o (by simp [ho])
    rw [putT_ne (hn o (by simp))] at this
    exact (h2.2 t).trans this
/-- what is known of the operation i -/
theorem Chain.get {all : Array Oper} {st : St} {n : Nat} : ∀ (l : List Oper) (p f : List PV), Chain P all st n l p f → ∀ (i : Nat) (o : Oper), l[i]? = some o →
    ∃ e1 er v wb, e1.length = p.length ∧ er.length = p.length ∧ SemGd all o e1 st n wb ∧ (wb = true → SemOp P all o er st n v) ∧ (wb = false → v = .undef) ∧
      (∀ t, (∀ j oj, j < i → l[j]? = some oj → oj.dst ≠ some t) → Eqv (getL p t) (getL e1 t) ∧ Eqv (getL p t) (getL er t)) ∧
      (∀ t, (∀ j oj, i ≤ j → l[j]? = some oj → oj.dst ≠ some t) → Eqv (getL e1 t) (getL f t) ∧ Eqv (getL er t) (getL f t)) ∧
      (∀ d, o.dst = some d → d < p.length → (∀ j oj, i < j → l[j]? = some oj → oj.dst ≠ some d) → Eqv v (getL f d))
  | [], p, f, _, i, o, hi => by simp at hi
  | o' :: l, p, f, h, 0, o, hi => by
    obtain ⟨e1, er, v, wb, h1, h2, h3, h4, h5, h6⟩ := h
    simp at hi; subst hi
    refine ⟨e1, er, v, wb, h1.1.symm, h2.1.symm, h3, h4, h5, fun t _ => ⟨h1.2 t, h2.2 t⟩, fun t ht => ?_, fun d hd hlt hn => ?_⟩
    · have hk := Chain.keep l _ _ h6 (t := t) fun o ho => by
        obtain ⟨j, hj⟩ := List.getElem?_of_mem ho
        exact ht (j + 1) o (by omega) (by simpa using hj)
      rw [putT_ne (ht 0 o' (by omega) (by simp))] at hk
      exact ⟨((h1.2 t).symm.trans (h2.2 t)).trans hk, hk⟩
    · have hk := Chain.keep l _ _ h6 (t := d) fun o ho => by
        obtain ⟨j, hj⟩ := List.getElem?_of_mem ho
        exact hn (j + 1) o (by omega) (by simpa using hj)
      rw [hd] at hk
      simp only [putT, getL_setL] at hk
      rw [if_pos ⟨trivial, by rw [← h2.1]; exact hlt⟩] at hk
      exact hk
  | o' :: l, p, f, h, i + 1, o, hi => by
    obtain ⟨e1, er, v, wb, h1, h2, h3, h4, h5, h6⟩ := h
    obtain ⟨e1', er', v', wb', a1, a2, a3, a4, a5, a6, a7, a8⟩ := Chain.get l _ _ h6 i o (by simpa using hi)
    have hl : (putT er o'.dst v).length = p.length := by rw [putT_length, h2.1]
    refine ⟨e1', er', v', wb', by rw [a1, hl], by rw [a2, hl], a3, a4, a5, fun t ht => ?_, fun t ht => ?_, fun d hd hlt hn => ?_⟩
    · have hk := a6 t fun j oj hj hoj => ht (j + 1) oj (by omega) (by simpa using hoj)
      rw [putT_ne (ht 0 o' (by omega) (by simp))] at hk
      exact ⟨(h2.2 t).trans hk.1, (h2.2 t).trans hk.2⟩
    · exact a7 t fun j oj hj hoj => ht (j + 1) oj (by omega) (by simpa using hoj)
    · exact a8 d hd (by rw [hl]; exact hlt) fun j oj hj hoj => hn (j + 1) oj (by omega) (by simpa using hoj)

/-! ### the check -/
theorem chkOne_spec {all : Array Oper} {i : Nat} {o : Oper} {lo : List Tmp} : ∀ (l : List Oper) (j : Nat), chkOne all i o lo l j = true → ∀ (k : Nat) (p : Oper), l[k]? = some p → pairOK all i o lo (j + k) p = true
  | [], _, _, k, p, hk => by simp at hk
  | q :: l, j, h, 0, p, hk => by simp at hk; subst hk; simp only [chkOne, Bool.and_eq_true] at h; exact h.1
  | q :: l, j, h, k + 1, p, hk => by
    simp only [chkOne, Bool.and_eq_true] at h
    have := chkOne_spec l (j + 1) h.2 k p (by simpa using hk)
    rw [show j + (k + 1) = j + 1 + k by omega]; exact this
theorem chkAll_spec {all : Array Oper} : ∀ (l : List Oper) (i : Nat), chkAll all l i = true → ∀ (k : Nat) (o : Oper), l[k]? = some o →
    (∀ e ∈ o.after, e.on < i + k) ∧ ∀ (j : Nat) (p : Oper), all[j]? = some p → pairOK all (i + k) o (o.looksAt all) j p = true
  | [], _, _, k, o, hk => by simp at hk
  | q :: l, i, h, 0, o, hk => by
    simp at hk; subst hk
    simp only [chkAll, Bool.and_eq_true] at h
    refine ⟨fun e he => ?_, fun j p hp => ?_⟩
    · have := Array.all_eq_true_iff_forall_mem.1 h.1.1 e he
      rw [Nat.blt_eq] at this; simpa using this
    · have := chkOne_spec all.toList 0 h.1.2 j p (by simpa using hp)
      simpa using this
  | q :: l, i, h, k + 1, o, hk => by
    simp only [chkAll, Bool.and_eq_true] at h
    have := chkAll_spec l (i + 1) h.2 k o (by simpa using hk)
    rw [show i + (k + 1) = i + 1 + k by omega]; exact this
theorem drawOK_spec {all : Array Oper} (h : drawOK all = true) {i : Nat} {o : Oper} (hi : all[i]? = some o) :
    (∀ e ∈ o.after, e.on < i) ∧ ∀ (j : Nat) (p : Oper), all[j]? = some p → j ≠ i → ∀ d, p.dst = some d → o.dst ≠ some d ∧
      (d ∈ o.looksAt all → (∃ e ∈ o.after, Region.binds .any e = true ∧ e.on = j) ∨ (∃ e ∈ p.after, Region.binds .any e = true ∧ e.on = i)) := by
  obtain ⟨h1, h2⟩ := chkAll_spec all.toList 0 h i o (by simpa using hi)
  rw [Nat.zero_add] at h1 h2
  refine ⟨h1, fun j p hp hne d hd => ?_⟩
  have := h2 j p hp
  have hij : Nat.beq i j = false := beqN fun e => hne e.symm
  simp only [pairOK, hij, hd, Bool.false_or, Bool.and_eq_true, Bool.or_eq_true, bne_iff_ne, ne_eq, Bool.not_eq_true', List.contains_eq_mem, decide_eq_false_iff_not] at this
  refine ⟨this.1, fun hm => ?_⟩
  rcases this.2 with (hh | hh) | hh
  · exact absurd hm hh
  · obtain ⟨e, he, hb⟩ := Array.any_eq_true'.1 hh
    simp only [Bool.and_eq_true] at hb
    exact .inl ⟨e, he, hb.1, Nat.eq_of_beq_eq_true hb.2⟩
  · obtain ⟨e, he, hb⟩ := Array.any_eq_true'.1 hh
    simp only [Bool.and_eq_true] at hb
    exact .inr ⟨e, he, hb.1, Nat.eq_of_beq_eq_true hb.2⟩

/-! ### any order -/
/-- the slots of ps at the places looked at are those of er -/
def patch (sl : List Tmp) (er ps : List PV) : List PV := (List.range ps.length).map fun t => if t ∈ sl then getL er t else getL ps t
theorem patch_length (sl : List Tmp) (er ps : List PV) : (patch sl er ps).length = ps.length := by simp [patch]
theorem patch_get {sl : List Tmp} {er ps : List PV} {t : Nat} (h : t < ps.length) : getL (patch sl er ps) t = if t ∈ sl then getL er t else getL ps t := by
  rw [getL_eq, List.getD_eq_getElem?_getD]
  simp [patch, h]
theorem patch_eqv {sl : List Tmp} {er ps : List PV} (h : ∀ t ∈ sl, Eqv (getL ps t) (getL er t)) : EqvL ps (patch sl er ps) := by
  refine ⟨by simp [patch], fun t => ?_⟩
  by_cases ht : t < ps.length
  · rw [patch_get ht]
    split
    · rename_i hm; exact h t hm
    · exact Eqv.refl _
  · rw [getL_ge (Nat.le_of_not_lt ht), getL_ge (by rw [patch_length]; exact Nat.le_of_not_lt ht)]; exact Eqv.refl _
theorem patch_looks {sl : List Tmp} {er ps : List PV} (hl : er.length = ps.length) : ∀ t ∈ sl, getL (patch sl er ps) t = getL er t := by
  intro t hm
  by_cases ht : t < ps.length
  · rw [patch_get ht, if_pos hm]
  · rw [getL_ge (by rw [patch_length]; exact Nat.le_of_not_lt ht), getL_ge (by rw [hl]; exact Nat.le_of_not_lt ht)]

/-- what holds while the operations of a set are done -/
def Stage (C : Ctx) (all : Array Oper) (st : St) (n : Nat) (p f : List PV) (listed : Array Bool) (a : Act) (w : World) : Prop :=
  a.defers = [] ∧ ∃ Y σ ps, SW C w Y σ ps a.tmps.toList st n ∧ ps.length = p.length ∧
    (∀ j o t, all[j]? = some o → o.dst = some t → listed.getD j true = true → Eqv (getL ps t) (getL f t)) ∧
    (∀ t, (∀ j o, all[j]? = some o → o.dst = some t → listed.getD j true = false) → Eqv (getL ps t) (getL p t))

theorem set_listed {listed : Array Bool} {i j : Nat} (hi : listed.getD i true = false) : (listed.setIfInBounds i true).getD j true = true ↔ (j = i ∨ listed.getD j true = true) := by
  have hlt : i < listed.size := by
    rcases Nat.lt_or_ge i listed.size with h | h
    · exact h
    · simp [Array.getElem?_eq_none h] at hi
  by_cases hij : i = j
  · subst hij; simp [hlt]
  · rw [getD_set_ne true hij]
    constructor
    · intro h; exact .inr h
    · rintro (h | h)
      · exact absurd h.symm hij
      · exact h

theorem stage_step {C : Ctx} {all : Array Oper} {st : St} {n : Nat} {p f : List PV} (hchk : drawOK all = true) (hch : Chain P all st n all.toList p f) {listed : Array Bool} {a : Act} {w : World}
    (hclosed : ∀ j o, all[j]? = some o → listed.getD j true = true → ∀ e ∈ o.after, Region.binds .any e = true → listed.getD e.on true = true)
    (hs : Stage C all st n p f listed a w) {i : Nat} (hr : i ∈ Region.ready .any all listed) {Q : Exit → Act → World → Prop} {K : Act → World → Prop}
    (hK : ∀ a' w', Stage C all st n p f (listed.setIfInBounds i true) a' w' → K a' w') : wpOp P all Q i K a w := by
  obtain ⟨hun, o, ho, hall⟩ := mem_ready.1 hr
  obtain ⟨hd, Y, σ, ps, H, hlen, hdone, hrest⟩ := hs
  have hL : all.toList[i]? = some o := by simpa using ho
  obtain ⟨e1, er, v, wb, l1, l2, sg, so, su, h6, h7, h8⟩ := hch.get _ _ _ i o hL
  have hspec := drawOK_spec hchk ho
  have flen := hch.length
  -- what is looked at is right
  have look : ∀ t ∈ o.looksAt all, Eqv (getL ps t) (getL e1 t) ∧ Eqv (getL ps t) (getL er t) := by
    intro t ht
    by_cases hex : ∃ j pj, all[j]? = some pj ∧ j ≠ i ∧ pj.dst = some t
    · obtain ⟨j, pj, hj, hne, hdst⟩ := hex
      obtain ⟨hdd, hor⟩ := hspec.2 j pj hj hne t hdst
      have uniq : ∀ k pk, all[k]? = some pk → pk.dst = some t → k = j := by
        intro k pk hk hkd
        by_cases hkj : k = j
        · exact hkj
        · exact absurd hkd ((drawOK_spec hchk hk).2 j pj hj (Ne.symm hkj) t hdst).1
      rcases hor ht with ⟨e, he, hb, heq⟩ | ⟨e, he, hb, heq⟩
      · have hlj : listed.getD j true = true := by
          have := hall e he hb
          rw [heq] at this
          rcases Nat.lt_or_ge j listed.size with h | h
          · simp [h] at this ⊢; exact this
          · simp [Array.getElem?_eq_none h] at this
        have hji : j < i := by rw [← heq]; exact hspec.1 e he
        have hf := hdone j pj t hj hdst hlj
        have := h7 t fun k pk hk hpk hkd => by
          have := uniq k pk (by simpa using hpk) hkd
          omega
        exact ⟨hf.trans this.1.symm, hf.trans this.2.symm⟩
      · have hij : i < j := by rw [← heq]; exact (drawOK_spec hchk hj).1 e he
        have hju : listed.getD j true = false := by
          cases hlj : listed.getD j true with
          | false => rfl
          | true =>
            have := hclosed j pj hj hlj e he hb
            rw [heq, hun] at this; cases this
        have hp := hrest t fun k pk hk hkd => by
          rw [uniq k pk hk hkd]; exact hju
        have := h6 t fun k pk hk hpk hkd => by
          have := uniq k pk (by simpa using hpk) hkd
          omega
        exact ⟨hp.trans this.1, hp.trans this.2⟩
    · have hp := hrest t fun k pk hk hkd => by
        by_cases hki : k = i
        · rw [hki]; exact hun
        · exact absurd ⟨k, pk, hk, hki, hkd⟩ hex
      have := h6 t fun k pk hk hpk hkd => hex ⟨k, pk, by simpa using hpk, by omega, hkd⟩
      exact ⟨hp.trans this.1, hp.trans this.2⟩
  -- the stage after a result
  have after : ∀ cv w' Y' σ' qs, EqvL ps qs → SW C w' Y' σ' qs a.tmps.toList st n → Rep w' Y' σ' v cv → K (a.put o.dst cv) w' := by
    intro cv w' Y' σ' qs hq H' hv
    refine hK _ _ ⟨by rw [put_defers]; exact hd, Y', σ', putT qs o.dst v, H'.putT hv o.dst, by rw [putT_length, ← hq.1, hlen], ?_, ?_⟩
    · intro j oj t hj hdst hlj
      rw [set_listed hun] at hlj
      by_cases hji : j = i
      · subst hji
        rw [ho] at hj; cases hj
        by_cases hlt : t < qs.length
        · rw [hdst]
          simp only [putT, getL_setL]
          rw [if_pos ⟨trivial, hlt⟩]
          refine h8 t hdst (by rw [← hlen, hq.1]; exact hlt) fun k pk hk hpk hkd => ?_
          exact absurd hdst ((drawOK_spec hchk ho).2 k pk (by simpa using hpk) (by omega) t hkd).1
        · rw [getL_ge (by rw [putT_length]; exact Nat.le_of_not_lt hlt), getL_ge (by rw [flen, ← hlen, hq.1]; exact Nat.le_of_not_lt hlt)]; exact Eqv.refl _
      · have hne := (hspec.2 j oj hj hji t hdst).1
        rw [putT_ne hne]
        rcases hlj with h | h
        · exact absurd h hji
        · exact (hq.2 t).symm.trans (hdone j oj t hj hdst h)
    · intro t ht
      have hne : o.dst ≠ some t := fun e => by
        have := ht i o ho e
        rw [(set_listed hun).2 (.inl rfl)] at this; cases this
      rw [putT_ne hne]
      refine (hq.2 t).symm.trans (hrest t fun k pk hk hkd => ?_)
      have := ht k pk hk hkd
      cases hlk : listed.getD k true with
      | false => rfl
      | true => rw [(set_listed hun).2 (.inr hlk)] at this; cases this
  have q1 := patch_eqv (sl := o.looksAt all) (er := e1) (ps := ps) fun t ht => (look t ht).1
  have q2 := patch_eqv (sl := o.looksAt all) (er := er) (ps := ps) fun t ht => (look t ht).2
  have hwb := sg C _ Y σ a w (patch_looks (by rw [l1, hlen])) (H.eqv q1) hd
  unfold wpOp
  simp only [ho]
  cases wb with
  | true =>
    rw [if_pos hwb]
    exact .inl (so rfl C _ Y σ a w (patch_looks (by rw [l2, hlen])) (H.eqv q2) hd K Q fun cv w' Y' σ' H' hv => after cv w' Y' σ' _ q2 H' hv)
  | false =>
    rw [if_neg (by rw [hwb]; simp)]
    exact after _ w Y σ ps (EqvL.refl _) H (by rw [su rfl]; simp [Rep])

theorem ready_nil_all {all : Array Oper} (hchk : drawOK all = true) {listed : Array Bool} (hsz : listed.size = all.size) (hr : Region.ready .any all listed = []) : ∀ j, listed.getD j true = true := by
  intro j
  induction j using Nat.strongRecOn with
  | _ j ih =>
    cases h : listed.getD j true with
    | true => rfl
    | false =>
      have hlt : j < listed.size := by
        rcases Nat.lt_or_ge j listed.size with h' | h'
        · exact h'
        · simp [Array.getElem?_eq_none h'] at h
      have hj : all[j]? = some all[j] := Array.getElem?_eq_getElem (by omega)
      have : j ∈ Region.ready .any all listed := mem_ready.2 ⟨h, _, hj, fun e he hb => by
        have hlt' := (drawOK_spec hchk hj).1 e he
        have := ih e.on hlt'
        have h2 : e.on < listed.size := by omega
        simp [h2] at this ⊢; exact this⟩
      rw [hr] at this; cases this

theorem count_set {listed : Array Bool} {i k : Nat} (hi : listed.getD i true = false) (h : listed.toList.count false = k + 1) : (listed.setIfInBounds i true).toList.count false = k := by
  have hlt : i < listed.size := by
    rcases Nat.lt_or_ge i listed.size with h' | h'
    · exact h'
    · simp [Array.getElem?_eq_none h'] at hi
  have hget : listed[i] = false := by simpa [hlt] using hi
  rw [Array.toList_setIfInBounds, List.count_set (by simpa using hlt)]
  simp [hget, h]

theorem draw_any {C : Ctx} {all : Array Oper} {st : St} {n : Nat} {p f : List PV} (hchk : drawOK all = true) (hch : Chain P all st n all.toList p f) {Q : Exit → Act → World → Prop}
    (hQ : ∀ a w, ActRep C ⟨f, st, n⟩ a w → Q .normal a w) : ∀ (fuel : Nat) (listed : Array Bool) (a : Act) (w : World), listed.size = all.size → listed.toList.count false = fuel →
      (∀ j o, all[j]? = some o → listed.getD j true = true → ∀ e ∈ o.after, Region.binds .any e = true → listed.getD e.on true = true) →
      Stage C all st n p f listed a w → wpAny P .any all Q fuel listed a w := by
  have fin : ∀ (listed : Array Bool) (a : Act) (w : World), listed.size = all.size → Stage C all st n p f listed a w → Region.ready .any all listed = [] → Q .normal a w := by
    intro listed a w hsz hs hr
    have hl := ready_nil_all hchk hsz hr
    obtain ⟨hd, Y, σ, ps, H, hlen, hdone, hrest⟩ := hs
    refine hQ a w ⟨⟨Y, σ, H.eqv ⟨by rw [hlen, hch.length], fun t => ?_⟩⟩, hd⟩
    by_cases hex : ∃ (j : Nat) (o : Oper), all[j]? = some o ∧ o.dst = some t
    · obtain ⟨j, o, hj, hdst⟩ := hex
      exact hdone j o t hj hdst (hl j)
    · refine (hrest t fun j o hj hdst => absurd ⟨j, o, hj, hdst⟩ hex).trans (hch.keep _ _ _ fun o ho hdst => ?_)
      obtain ⟨j, hj⟩ := List.getElem?_of_mem ho
      exact hex ⟨j, o, by simpa using hj, hdst⟩
  intro fuel
  induction fuel with
  | zero =>
    intro listed a w hsz hc hclosed hs
    have hr : Region.ready .any all listed = [] := by
      rw [List.eq_nil_iff_forall_not_mem]
      intro i hi
      have hun := (mem_ready.1 hi).1
      have hlt : i < listed.size := by
        rcases Nat.lt_or_ge i listed.size with h' | h'
        · exact h'
        · simp [Array.getElem?_eq_none h'] at hun
      have hget : listed[i] = false := by simpa [hlt] using hun
      have hm : false ∈ listed.toList := by rw [← hget]; simp
      exact (List.count_eq_zero.1 hc) hm
    exact ⟨hr, fin listed a w hsz hs hr⟩
  | succ fuel ih =>
    intro listed a w hsz hc hclosed hs
    refine ⟨fin listed a w hsz hs, fun i hi => ?_⟩
    have hun := (mem_ready.1 hi).1
    refine stage_step hchk hch hclosed hs hi fun a' w' hs' => ih _ a' w' (by simpa using hsz) (count_set hun hc) ?_ hs'
    intro j o hj hlj e he hb
    rw [set_listed hun] at hlj ⊢
    rcases hlj with h | h
    · subst h
      obtain ⟨_, o', ho', hall⟩ := mem_ready.1 hi
      rw [hj] at ho'; cases ho'
      have := hall e he hb
      refine .inr ?_
      rcases Nat.lt_or_ge e.on listed.size with h' | h'
      · simp [h'] at this ⊢; exact this
      · simp [Array.getElem?_eq_none h'] at this
    · exact .inr (hclosed j o hj h e he hb)

theorem draw_sound (hT : TabOK P T) (hW : PWf P) {id : Nat} {l : Array Oper} {E : Env} {K : Env → Prop} (hchk : drawOK l = true) (h : opsQ T (Sig.std P) l l.toList E K) :
    ∀ C a w, ActRep C E a w → ∀ Q : Exit → Act → World → Prop, (∀ E' a' w', ActRep C E' a' w' → K E' → Q .normal a' w') → (Code.region id l true).wp P Q a w := by
  intro C a w hA Q hQ
  obtain ⟨f, hch, hK⟩ := opsQ_chain hT hW _ _ _ h
  obtain ⟨⟨Y, σ, H⟩, hd⟩ := hA
  have hrep : ∀ j, j < l.size → (Array.replicate l.size false).getD j true = false := fun j hj => by simp [hj]
  refine wp_region_any hW.mixed (draw_any hchk hch (C := C) (fun a' w' hA' => hQ _ a' w' hA' hK) l.size _ a _ (by simp) ?_ ?_ ?_)
  · simp
  · intro j o hj hlj
    have hlt : j < l.size := by
      rcases Nat.lt_or_ge j l.size with h' | h'
      · exact h'
      · simp [Array.getElem?_eq_none h'] at hj
    rw [hrep j hlt] at hlj; cases hlj
  · refine ⟨hd, Y, σ, E.tmps, H.drawn _, rfl, ?_, fun t _ => Eqv.refl _⟩
    intro j o t hj hdst hlj
    have hlt : j < l.size := by
      rcases Nat.lt_or_ge j l.size with h' | h'
      · exact h'
      · simp [Array.getElem?_eq_none h'] at hj
    rw [hrep j hlt] at hlj; cases hlj
end
end Go.Pv
