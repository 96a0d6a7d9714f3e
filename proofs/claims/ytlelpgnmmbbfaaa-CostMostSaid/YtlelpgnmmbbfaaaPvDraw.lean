/-
  Pv, part 20: regions whose order is drawn: quiet operations give the same in every order.
-/
import Derived.Test.YtlelpgnmmbbfaaaPvDraw1
namespace Go.Pv
open Go
set_option linter.all false

/-! ### values that stand for the same -/
def Eqv (p q : PV) : Prop := ∀ w Y σ v, Rep w Y σ p v ↔ Rep w Y σ q v
theorem Eqv.refl (p : PV) : Eqv p p := fun _ _ _ _ => Iff.rfl
theorem Eqv.symm {p q : PV} (h : Eqv p q) : Eqv q p := fun w Y σ v => (h w Y σ v).symm
theorem Eqv.trans {p q r : PV} (h : Eqv p q) (k : Eqv q r) : Eqv p r := fun w Y σ v => (h w Y σ v).trans (k w Y σ v)
theorem Eqv.bool (b : Bool) : Eqv (.sb b) (.bool b) := fun w Y σ v => by simp [Rep]

def EqvL (ps qs : List PV) : Prop := ps.length = qs.length ∧ ∀ t, Eqv (getL ps t) (getL qs t)
theorem EqvL.refl (ps : List PV) : EqvL ps ps := ⟨rfl, fun _ => Eqv.refl _⟩
theorem EqvL.trans {ps qs rs : List PV} (h : EqvL ps qs) (k : EqvL qs rs) : EqvL ps rs := ⟨h.1.trans k.1, fun t => (h.2 t).trans (k.2 t)⟩
theorem EqvL.symm {ps qs : List PV} (h : EqvL ps qs) : EqvL qs ps := ⟨h.1.symm, fun t => (h.2 t).symm⟩

theorem getL_setL (l : List PV) (d t : Nat) (v : PV) : getL (setL l d v) t = if d = t ∧ d < l.length then v else getL l t := by
  rw [getL_eq, setL_eq, getL_eq, List.getD_eq_getElem?_getD, List.getD_eq_getElem?_getD, List.getElem?_set]
  by_cases h : d = t
  · subst h
    by_cases hl : d < l.length
    · simp [hl]
    · simp [hl]
  · simp [h]
theorem length_setL (l : List PV) (d : Nat) (v : PV) : (setL l d v).length = l.length := by rw [setL_eq]; simp
theorem getL_ge {l : List PV} {t : Nat} (h : l.length ≤ t) : getL l t = .undef := by rw [getL_eq, List.getD_eq_getElem?_getD, List.getElem?_eq_none h]; rfl

theorem RepL.eqv {w : World} {Y : Nat → Prop} {σ : Sg} : ∀ {ps qs : List PV} {vs : List Value}, EqvL ps qs → RepL w Y σ ps vs → RepL w Y σ qs vs
  | [], [], vs, _, h => h
  | [], _ :: _, _, h, _ => by simp [EqvL] at h
  | _ :: _, [], _, h, _ => by simp [EqvL] at h
  | p :: ps, q :: qs, vs, h, hr => by
    unfold RepL at hr ⊢
    obtain ⟨v, vs', e, h1, h2⟩ := hr
    refine ⟨v, vs', e, (h.2 0 _ _ _ _).1 h1, RepL.eqv ⟨by simpa using h.1, fun t => h.2 (t + 1)⟩ h2⟩
theorem SW.eqv {T : Tab} {C : Ctx T} {w : World} {Y : Nat → Prop} {σ : Sg} {ps qs : List PV} {vs : List Value} {st : St} {n : Nat} (H : SW C w Y σ ps vs st n) (h : EqvL ps qs) : SW C w Y σ qs vs st n :=
  H.vals' (H.vals.eqv h)

def putT (ps : List PV) : Option Nat → PV → List PV
  | none, _ => ps
  | some d, v => setL ps d v
theorem putE_eq (E : Env) (d : Option Nat) (v : PV) : putE E d v = ⟨putT E.tmps d v, E.st, E.next⟩ := by cases d <;> rfl
theorem putT_length (ps : List PV) (d : Option Nat) (v : PV) : (putT ps d v).length = ps.length := by cases d <;> simp [putT, length_setL]
theorem putT_ne {ps : List PV} {d : Option Nat} {v : PV} {t : Nat} (h : d ≠ some t) : getL (putT ps d v) t = getL ps t := by
  cases d with
  | none => rfl
  | some d => simp only [putT, getL_setL]; rw [if_neg]; rintro ⟨rfl, _⟩; exact h rfl
theorem putT_eqv {ps qs : List PV} (h : EqvL ps qs) (d : Option Nat) {v u : PV} (hv : Eqv v u) : EqvL (putT ps d v) (putT qs d u) := by
  refine ⟨by simp [putT_length, h.1], fun t => ?_⟩
  cases d with
  | none => exact h.2 t
  | some d =>
    simp only [putT, getL_setL, h.1]
    split
    · exact hv
    · exact h.2 t
theorem SW.putT {T : Tab} {C : Ctx T} {w : World} {Y : Nat → Prop} {σ : Sg} {ps : List PV} {a : Act} {st : St} {n : Nat} (H : SW C w Y σ ps a.tmps.toList st n) {v : PV} {cv : Value} (hv : Rep w Y σ v cv) (d : Option Nat) :
    SW C w Y σ (putT ps d v) (a.put d cv).tmps.toList st n := by
  cases d with
  | none => exact H
  | some d =>
    refine (H.vals' ?_)
    simp only [Act.put, Pv.putT, Array.toList_setIfInBounds]
    exact RepL.set hv _ _ _ H.vals
theorem put_defers (a : Act) (d : Option Nat) (v : Value) : (a.put d v).defers = a.defers := by cases d <;> rfl

/-! ### one operation, at any state where its operands are right -/
section
variable {P : Program} {T : Tab}

/-- what an operation does wherever its operands, and the blocks that it looks at, are right -/
def SemX (P : Program) (T : Tab) (all : Array Oper) (o : Oper) (er : List PV) (lk : Nat → Option Blk) (id : Nat) (v : PV) (δ : Dl) (big : Bool) : Prop :=
  ∀ (C : Ctx T) ps Y σ (a : Act) w st n, (∀ t ∈ o.looksAt all, getL ps t = getL er t) → SW C w Y σ ps a.tmps.toList st n → a.defers = [] → (∀ b x, lk b = some x → lkS st b = some x) →
    (big = true → (∀ b, id ≤ b → b < id + 32 → σ b = none) ∧ T.pas ≤ id ∧ id + 32 ≤ n) → ∀ next Q, (∀ cv w' Y' σ', SW C w' Y' σ' ps a.tmps.toList (applyD δ st) n → (∀ b, (b < id ∨ id + 32 ≤ b) → σ' b = σ b) → (big = false → σ' = σ) → Rep w' Y' σ' v cv → next (a.put o.dst cv) w') → o.wp P a w next Q
def SemGd (T : Tab) (all : Array Oper) (o : Oper) (er : List PV) (wb : Bool) : Prop :=
  ∀ (C : Ctx T) ps Y σ (a : Act) w st n, (∀ t ∈ o.looksAt all, getL ps t = getL er t) → SW C w Y σ ps a.tmps.toList st n → a.defers = [] → Region.wanted o (yielded all a.tmps) = wb

theorem semGd_of {all : Array Oper} {o : Oper} {er : List PV} {wb : Bool}
    (h : ∀ ps st n, (∀ t ∈ o.looksAt all, getL ps t = getL er t) → gd (Sig.std P T) all o.guard ⟨ps, st, n⟩ (fun _ => wb = true) (fun _ => wb = false)) : SemGd T all o er wb := by
  intro C ps Y σ a w st n hl H hd
  obtain ⟨E', _, hh⟩ := gd_sound (h ps st n hl) (C := C) (a := a) (w := w) ⟨⟨Y, σ, H⟩, hd⟩
  rcases hh with ⟨h1, h2⟩ | ⟨h1, h2⟩
  · rw [h1, h2]
  · rw [h1, h2]

theorem gd_split {all : Array Oper} {o : Oper} {E : Env} {run skip : Env → Prop} (h : gd (Sig.std P T) all o.guard E run skip) :
    ∃ E1 wb, EqvL E.tmps E1.tmps ∧ E1.st = E.st ∧ E1.next = E.next ∧ SemGd T all o E1.tmps wb ∧ (wb = true → run E1) ∧ (wb = false → skip E1) := by
  unfold gd at h
  split at h
  · rename_i hg
    exact ⟨E, true, EqvL.refl _, rfl, rfl, semGd_of (P := P) fun ps _ _ _ => by simp [gd, hg], fun _ => h, fun e => by cases e⟩
  · rename_i j want hg
    split at h
    · rename_i oj hj
      split at h
      · rename_i d hd
        have hmem : d ∈ o.looksAt all := by
          unfold Oper.looksAt
          refine List.mem_append_right _ ?_
          simp [hg, hj, hd]
        have sem : ∀ (E1 : Env) b, getL E1.tmps d = .bool b → SemGd T all o E1.tmps (b == want) := by
          intro E1 b hb
          refine semGd_of (P := P) fun ps _ _ hps => ?_
          have := hps d hmem
          rw [hb] at this
          simp only [gd, hg, hj, hd, this]
          cases b <;> cases want <;> rfl
        split at h
        · rename_i e
          refine ⟨E, true == want, EqvL.refl _, rfl, rfl, sem E true e, ?_, ?_⟩ <;> intro hw <;> cases want <;> first | (cases hw; done) | exact h
        · rename_i e
          refine ⟨E, false == want, EqvL.refl _, rfl, rfl, sem E false e, ?_, ?_⟩ <;> intro hw <;> cases want <;> first | (cases hw; done) | exact h
        · rename_i b e
          have hlt : d < E.tmps.length := by
            by_cases hh : d < E.tmps.length
            · exact hh
            · rw [getL_ge (Nat.le_of_not_lt hh)] at e; cases e
          have heq : EqvL E.tmps (putE E (some d) (.bool b)).tmps := by
            refine ⟨by simp [putE, length_setL], fun t => ?_⟩
            simp only [putE, getL_setL]
            split
            · rename_i hh; rw [← hh.1, e]; exact Eqv.bool b
            · exact Eqv.refl _
          have hget : getL (putE E (some d) (.bool b)).tmps d = .bool b := by simp [putE, getL_setL, hlt]
          obtain ⟨h1, h2⟩ := h
          refine ⟨putE E (some d) (.bool b), b == want, heq, rfl, rfl, sem _ b hget, ?_, ?_⟩
          · intro hw
            cases b with
            | true => have h1 := h1 rfl; cases want <;> first | (cases hw; done) | exact h1
            | false => have h2 := h2 rfl; cases want <;> first | (cases hw; done) | exact h2
          · intro hw
            cases b with
            | true => have h1 := h1 rfl; cases want <;> first | (cases hw; done) | exact h1
            | false => have h2 := h2 rfl; cases want <;> first | (cases hw; done) | exact h2
        · rename_i e
          refine ⟨E, false, EqvL.refl _, rfl, rfl, semGd_of (P := P) fun ps _ _ hps => ?_, (fun hw => by cases hw), fun _ => h⟩
          have := hps d hmem
          rw [e] at this
          simp only [gd, hg, hj, hd, this]
        · exact h.elim
      · exact h.elim
    · exact h.elim

theorem tmp_looks {all : Array Oper} {o : Oper} {er ps : List PV} (h : ∀ t ∈ o.looksAt all, getL ps t = getL er t) : ∀ x ∈ o.op.operands, evL T ps x = evL T er x := by
  intro x hx
  cases x with
  | tmp t =>
    simp only [evL]
    refine h t ?_
    unfold Oper.looksAt
    exact List.mem_append_left _ (List.mem_filterMap.2 ⟨.tmp t, by simpa using hx, rfl⟩)
  | _ => rfl


theorem opE_id {T : Tab} {S : Sig} {o : Op} {ps : List PV} {lk : Nat → Option Blk} {id id' : Nat} {K : PV → Dl → Prop} (hq : isQ o = true) : opE T S o ps lk id K = opE T S o ps lk id' K := by
  cases o
  case call c =>
    obtain ⟨callee, args, ts⟩ := c
    cases callee
    case builtin b =>
      cases b
      case len => simp only [opE]; generalize evA T ps args.toList = as; generalize ts.toList = tl; rcases as with _ | ⟨a, _ | ⟨b, _ | ⟨c, as⟩⟩⟩ <;> rcases tl with _ | ⟨t, _ | ⟨u, tl⟩⟩ <;> first | rfl | (cases a <;> first | rfl | (cases b <;> rfl))
      case min => simp only [opE]; generalize evA T ps args.toList = as; generalize ts.toList = tl; rcases as with _ | ⟨a, _ | ⟨b, _ | ⟨c, as⟩⟩⟩ <;> rcases tl with _ | ⟨t, _ | ⟨u, tl⟩⟩ <;> first | rfl | (cases a <;> first | rfl | (cases b <;> rfl))
      case max => simp only [opE]; generalize evA T ps args.toList = as; generalize ts.toList = tl; rcases as with _ | ⟨a, _ | ⟨b, _ | ⟨c, as⟩⟩⟩ <;> rcases tl with _ | ⟨t, _ | ⟨u, tl⟩⟩ <;> first | rfl | (cases a <;> first | rfl | (cases b <;> rfl))
      all_goals (simp [isQ] at hq)
    all_goals simp [isQ] at hq
  case makeFunc fn first cap => cases fn <;> rfl
  case unOp op t x => cases op <;> rfl
  all_goals first | rfl | (simp [isQ] at hq)

theorem opE_semQ (hT : TabOK P T) (hW : PWf P) {all : Array Oper} {o : Oper} {ps : List PV} {lk : Nat → Option Blk} {id i : Nat} {K : PV → Prop} (hq : isQ o.op = true) (h : opE T (Sig.std P T) o.op ps lk id (quietK K)) :
    ∃ v, SemX P T all o ps lk i v [] false ∧ K v := by
  obtain ⟨v, δ, hK, hF⟩ := opE_det hq h
  cases δ with
  | cons x δ => exact hK.elim
  | nil =>
    refine ⟨v, ?_, hK⟩
    intro C qs Y σ a w st n hl H hd hlk _ next Q hnext
    have h2 := hF (fun v' δ' => v' = v ∧ δ' = []) ⟨rfl, rfl⟩
    rw [← opE_congr (tmp_looks hl), opE_id (id' := n) hq] at h2
    obtain ⟨v', δ', cv, w', Y', σ', ⟨rfl, rfl⟩, hrun, H', hv, hoff⟩ := opE_res hT hW H hlk ⟨H.next _ (Nat.le_refl _), H.fix.1⟩ h2
    have hσ : σ' = σ := by
      funext b
      by_cases hb : b = n
      · subst hb; rw [H.next _ (Nat.le_refl _)]; exact H'.next _ (Nat.le_refl _)
      · exact hoff b hb
    subst hσ
    have := hnext cv w' Y' σ' H' (fun _ _ => rfl) (fun _ => rfl) hv
    unfold Oper.wp
    rcases hrun with hrun | ⟨hrun, rfl⟩
    · rw [hrun]; exact this
    · rw [hrun]; exact this

theorem call_run {P : Program} {o : Oper} {f : Operand} {args : Array Operand} {ts : Array TypeId} {a : Act} {w : World} {k : Nat} {cs : List Value} (ho : o.op = .call { callee := .value f, args, argTypes := ts })
    (ef : a.eval f = .func (.func k) #[] cs.toArray) (hent : (callFunc k (args.toList.map a.eval ++ cs).toArray).run P w = .ok (.enter k (args.toList.map a.eval ++ cs).toArray) w) :
    (execOp a.eval o).run P w = .ok (.enter k (args.toList.map a.eval ++ cs).toArray) w := by
  have hmap : args.map a.eval = (args.toList.map a.eval).toArray := by apply Array.ext'; simp
  simp only [execOp, ho, resolve, ef, Deferred.ofValue, Sem.run_bind, Sem.run_pure, Result.andThen, invoke, hmap]
  have : (#[] ++ (args.toList.map a.eval).toArray ++ cs.toArray) = (args.toList.map a.eval ++ cs).toArray := by apply Array.ext'; simp
  rw [this]
  exact hent


/-- a block that nobody writes -/
theorem SW.allocRo {C : Ctx T} {w : World} {Y : Nat → Prop} {σ : Sg} {ps : List PV} {vs : List Value} {st : St} {n : Nat} (H : SW C w Y σ ps vs st n) (arr : Array Value) (ty : TypeId) :
    SW C (w.alloc (.cells arr ty)) Y σ ps vs st n ∧ ∀ p v σ', Rep w Y σ' p v → Rep (w.alloc (.cells arr ty)) Y σ' p v := by
  have heap : (w.alloc (.cells arr ty)).heap = w.heap.push (.cells arr ty) := rfl
  have hold : ∀ k, k < w.heap.size → (w.alloc (.cells arr ty)).heap[k]? = w.heap[k]? := by
    intro k hk; rw [heap, Array.getElem?_push, if_neg (by omega)]
  have hsz : (w.alloc (.cells arr ty)).heap.size = w.heap.size + 1 := by rw [heap]; simp
  exact ⟨H.chgd ⟨rfl, rfl, rfl, by omega, hold⟩, fun p v σ' h => Rep.keep p ⟨fun k hk _ => hold k hk, fun _ _ h => h, by omega, SgLe.refl _⟩ v h⟩

theorem buildSlice_semQ (hT : TabOK P T) {all : Array Oper} {o : Oper} {ps : List PV} {lk : Nat → Option Blk} {id i : Nat} {K : PV → Prop} {t : TypeId} {len : Nat} {parts : Array (Nat × Operand)} (ho : o.op = .buildSlice t len parts) (h : opQ T (Sig.std P T) (.buildSlice t len parts) ps lk id K) :
    ∃ v, SemX P T all o ps noLk i v [] false ∧ K v := by
  simp only [opQ] at h
  split at h
  · rename_i agg size z0 plain esz bytes z e
    obtain ⟨et, hu, rfl, _, hz⟩ := tab_slice hT e
    cases hb : (isPos (P.cellsOf et) && Nat.beq (lenL z) (P.cellsOf et) && Nat.ble (len * P.cellsOf et) 16777216 && noTop (evP T ps parts.toList)) with
    | false => rw [hb] at h; exact h.elim
    | true =>
      rw [hb] at h
      simp only [cond_true] at h
      simp only [Bool.and_eq_true, lenL_eq] at hb
      obtain ⟨⟨⟨hb1, hb2⟩, hb3⟩, hb4⟩ := hb
      have hpos : 0 < P.cellsOf et := by
        rcases Nat.eq_zero_or_pos (P.cellsOf et) with h0 | h0
        · rw [h0] at hb1; simp [isPos] at hb1
        · exact h0
      have hzl := Nat.eq_of_beq_eq_true hb2
      have hle := Nat.le_of_ble_eq_true hb3
      split at h
      · rename_i cs hf
        split at h
        · rename_i cs0 hpur
          obtain ⟨cs', hl2, hc2, hw2, h, _⟩ := wkC_std h
          refine ⟨_, ?_, h⟩
          intro C qs Y σ a w st n hl H hd _ _ next Q hnext
          have hev := tmp_looks (T := T) hl
          rw [ho] at hev
          have hP := evP_congr (T := T) (ps := qs) (qs := ps) parts.toList fun x hx => hev x.2 (by simp only [Op.operands, List.mem_toArray, List.mem_map]; exact ⟨x, hx, rfl⟩)
          rw [← hP] at hf hb4
          obtain ⟨vcs, hrep, hvl, hrun⟩ := buildSlice_core hT H ho hu hz hb1 hzl hle hb4 hf
          have hLk : Lk (fun _ => none) st := fun b ro sz rows h => by cases h
          obtain ⟨Y1, H1, hr1, hy1⟩ := pur_sound cs cs0 [] hpur Y st H hLk _ hrep
          have hr1 := hw2 _ _ _ _ hr1
          obtain ⟨H2, hk2⟩ := H1.allocRo vcs et
          have hcsl : cs'.length = len * P.cellsOf et := by rw [hl2, pur_len _ _ _ hpur, fillV_len _ _ _ _ hf, repL_length, hzl]
          unfold Oper.wp
          rw [hrun]
          refine hnext _ _ Y1 σ H2 (fun _ _ => rfl) (fun _ => rfl) ?_
          unfold Rep
          refine ⟨_, len, len, rfl, by rw [chunks_length], Nat.le_refl _, fun _ => rfl, .inr ⟨w.heap.size, 0, rfl, ⟨?_, fun hy => ?_⟩, ?_⟩⟩
          · show w.heap.size < (w.heap.push _).size; simp
          · have := H1.yold _ hy; omega
          · refine RepC.chunks len cs' 0 ?_ (hc2 (pur_cell _ _ _ hpur).1) (by omega)
            rw [RepC.iff]
            intro j p hj
            obtain ⟨v, hv, hp'⟩ := hr1.get? hj
            refine ⟨v, ?_, hk2 _ _ _ hp'⟩
            rw [cell_of_block (arr := vcs) (ty := et) (by show (w.heap.push _)[w.heap.size]? = _; simp)]
            simpa using hv
        · exact h.elim
      · exact h.elim
  · exact h.elim

theorem opQ_sem (hT : TabOK P T) (hW : PWf P) {all : Array Oper} {o : Oper} {ps : List PV} {lk : Nat → Option Blk} {id : Nat} {K : PV → Prop} (i : Nat) (h : opQ T (Sig.std P T) o.op ps lk id K) :
    ∃ v, SemX P T all o ps lk i v [] false ∧ K v := by
  have h0 := h
  unfold opQ at h
  split at h
  · rename_i f args ts ho
    split at h
    · rename_i k caps hf
      have main : ∀ v, (∀ (C : Ctx T) Y σ w qs vs cargs st n, (∀ b x, lk b = some x → lkS st b = some x) → SW C w Y σ qs vs st n → RepL w Y σ (appL (evA T ps args.toList) caps) cargs → CallSem P k C Y σ w cargs qs vs st n v) → SemX P T all o ps lk i v [] false := by
        intro v hsem C qs Y σ a w st n hl H hd hlk _ next Q hnext
        have hev := tmp_looks (T := T) hl
        rw [ho] at hev
        have hfv := ev_rep H f
        rw [hev f (by simp [Op.operands, Call.operands]), hf] at hfv
        unfold Rep at hfv
        obtain ⟨cs, ef, hcs⟩ := hfv
        have hargs := evA_rep H args.toList
        rw [evA_congr (ps := qs) (qs := ps) args.toList fun x hx => hev x (by simp only [Op.operands, Call.operands]; simp; exact .inr (by simpa using hx))] at hargs
        have hall := RepL.app _ _ _ _ hargs hcs
        obtain ⟨hent, hcall⟩ := hsem C Y σ w qs a.tmps.toList _ st n hlk H (by simpa using hall)
        unfold Oper.wp
        rw [call_run ho ef hent]
        refine Calls.mono hcall fun e w' hh => ?_
        obtain ⟨cv, rfl, H', hv⟩ := hh
        exact hnext cv w' Y σ H' (fun _ _ => rfl) (fun _ => rfl) hv
      unfold callD at h
      split at h
      · rename_i as hm
        obtain ⟨v, hF, hK⟩ := h
        refine ⟨v, main v fun C Y σ w qs vs cargs st n hlk H hr => call_ro H (fun b x hb => ?_) hm hr hF, hK⟩
        split at hb
        · rename_i e; cases hb; exact ⟨hlk _ _ e, rfl⟩
        · rename_i e; cases hb; exact ⟨hlk _ _ e, rfl⟩
        · cases hb
      · split at h
        · rename_i as hm
          obtain ⟨v, hF, hf, hK⟩ := h
          exact ⟨v, main v fun C Y σ w qs vs cargs st n hlk H hr => call_flat H hlk hm hr hF hf, hK⟩
        · exact h.elim
    · exact h.elim
  · rename_i t len parts ho
    rw [ho] at h0
    obtain ⟨v, h1, h2⟩ := buildSlice_semQ hT (all := all) (i := i) ho h0
    exact ⟨v, fun C qs Y σ a w st n hl H hd _ hb next Q hnext => h1 C qs Y σ a w st n hl H hd (fun _ _ h => by cases h) hb next Q hnext, h2⟩
  · rw [bifF] at h
    exact opE_semQ hT hW h.1 h.2

theorem stepQ_split (hT : TabOK P T) (hW : PWf P) {all : Array Oper} {o : Oper} {lk : Nat → Option Blk} {E : Env} {K : Env → Prop} (i : Nat) (h : stepQ T (Sig.std P T) o lk E K) :
    ∃ E1 v, EqvL E.tmps E1.tmps ∧ E1.st = E.st ∧ E1.next = E.next ∧ SemX P T all o E1.tmps lk i v [] false ∧ K (putE E1 o.dst v) := by
  unfold stepQ at h
  have gen : (opQ T (Sig.std P T) o.op E.tmps lk E.next fun v => K (putE E o.dst v)) → ∃ E1 v, EqvL E.tmps E1.tmps ∧ E1.st = E.st ∧ E1.next = E.next ∧ SemX P T all o E1.tmps lk i v [] false ∧ K (putE E1 o.dst v) := fun h => by
    obtain ⟨v, h1, h2⟩ := opQ_sem hT hW (all := all) i h
    exact ⟨E, v, EqvL.refl _, rfl, rfl, h1, h2⟩
  split at h
  · rename_i c x y ho
    split at h
    · rename_i t hc
      have hlt : c < E.tmps.length := by
        by_cases hh : c < E.tmps.length
        · exact hh
        · rw [getL_ge (Nat.le_of_not_lt hh)] at hc; cases hc
      have heq : EqvL E.tmps (putE E (some c) (.bool t)).tmps := by
        refine ⟨by simp [putE, length_setL], fun u => ?_⟩
        simp only [putE, getL_setL]
        split
        · rename_i hh; rw [← hh.1, hc]; exact Eqv.bool t
        · exact Eqv.refl _
      have hget : getL (putE E (some c) (.bool t)).tmps c = .bool t := by simp [putE, getL_setL, hlt]
      have evq : ∀ z : Operand, Eqv (evL T (putE E (some c) (.bool t)).tmps z) (evL T E.tmps z) := by
        intro z
        cases z with
        | tmp u => exact (heq.2 u).symm
        | _ => exact Eqv.refl _
      have hsem : SemX P T all o (putE E (some c) (.bool t)).tmps lk i (if t then evL T E.tmps x else evL T E.tmps y) [] false := by
        intro C qs Y σ a w st n hl H hd _ _ next Q hnext
        have hev := tmp_looks (T := T) hl
        rw [ho] at hev
        have hcv := ev_rep H (.tmp c)
        rw [hev (.tmp c) (by simp [Op.operands])] at hcv
        simp only [evL, hget] at hcv
        have hcv := rep_bool hcv
        have hrun : (execOp a.eval o).run P w = .ok (.value (if t then a.eval x else a.eval y)) w := by
          simp [execOp, ho, hcv, asBool]
        unfold Oper.wp
        rw [hrun]
        refine hnext _ _ Y σ H (fun _ _ => rfl) (fun _ => rfl) ?_
        have hx := ev_rep H x
        have hy := ev_rep H y
        rw [hev x (by simp [Op.operands])] at hx
        rw [hev y (by simp [Op.operands])] at hy
        cases t with
        | true => exact (evq x _ _ _ _).1 hx
        | false => exact (evq y _ _ _ _).1 hy
      refine ⟨_, _, heq, rfl, rfl, hsem, ?_⟩
      cases t with
      | true => exact h.1 rfl
      | false => exact h.2 rfl
    · rw [← ho] at h
      exact gen h
  · exact gen h

/-! ### operations that make or write blocks: one outcome -/
theorem storeRow_det {size : Nat} {row : List PV} {c : Nat} {v : PV} {K : List PV → Prop} (h : storeRow size row c v K) : ∃ r, K r ∧ ∀ K' : List PV → Prop, K' r → storeRow size row c v K' := by
  unfold storeRow at h ⊢
  simp only [bifF] at h ⊢
  exact ⟨_, h.2, fun K' hk => ⟨h.1, hk⟩⟩

theorem det_and {c : Prop} {K : PV → Dl → Prop} {F : (PV → Dl → Prop) → Prop} (h0 : c) (h : ∃ v δ, K v δ ∧ ∀ K' : PV → Dl → Prop, K' v δ → F K') : ∃ v δ, K v δ ∧ ∀ K' : PV → Dl → Prop, K' v δ → c ∧ F K' := by
  obtain ⟨v, δ, h1, h2⟩ := h
  exact ⟨v, δ, h1, fun K' hk => ⟨h0, h2 K' hk⟩⟩
theorem opE_det2 {o : Op} {ps : List PV} {lk : Nat → Option Blk} {id : Nat} {K : PV → Dl → Prop} (hc : clsO T o = 1 ∨ clsO T o = 2) (hn : ndO T ps lk o = false) (h : opE T (Sig.std P T) o ps lk id K) :
    ∃ v δ, K v δ ∧ ∀ K' : PV → Dl → Prop, K' v δ → opE T (Sig.std P T) o ps lk id K' := by
  cases o
  case binOp op t x y u =>
    simp only [clsO, isQ] at hc
    cases hy : nilC y <;> rw [hy] at hc <;> simp at hc
  case alloc t =>
    simp only [opE] at h ⊢
    split at h
    all_goals first | exact ⟨_, _, h, fun _ hk => hk⟩ | exact h.elim
  case makeSlice t x y =>
    simp only [opE] at h ⊢
    split at h
    · simp only [bifF] at h ⊢
      obtain ⟨h0, j, h1, h2, h3, h4, h5⟩ := h
      obtain ⟨z2, _, _, _, h5, _, h6⟩ := wkN_std h5
      exact ⟨_, _, h5, fun _ hk => ⟨h0, j, h1, h2, h3, h4, h6 _ hk⟩⟩
    · exact h.elim
  case store t x y =>
    simp only [opE] at h ⊢
    split at h
    · split at h
      · split at h
        · obtain ⟨r, h1, h2⟩ := storeRow_det h
          exact ⟨_, _, h1, fun _ hk => h2 _ hk⟩
        · exact h.elim
      · split at h
        · split at h
          · rename_i sz rows hb _ cs δ hp
            cases hm : memD _ δ with
            | true => rw [hm] at h; exact h.elim
            | false =>
              rw [hm] at h
              simp only [cond_false] at h ⊢
              obtain ⟨cs2, _, _, _, ⟨row, h0, h⟩, h9⟩ := wkC_std h
              obtain ⟨r', h1, h2⟩ := storeRow_det h
              exact ⟨_, _, h1, fun _ hk => h9 _ ⟨row, h0, h2 _ hk⟩⟩
          · exact h.elim
        · rename_i e1 _ _ _ e2
          simp [ndO, e1, e2] at hn
        · exact h.elim
      · rename_i e1
        simp [ndO, e1] at hn
      · exact h.elim
    · exact h.elim
  case slice t x lo hi mx =>
    simp only [opE] at h ⊢
    split at h
    all_goals repeat' (first
      | exact h.elim
      | exact ⟨_, _, h, fun _ hk => hk⟩
      | (obtain ⟨i, j, h1, h2, h3, h4, h5⟩ := h; exact ⟨_, _, h5, fun _ hk => ⟨i, j, h1, h2, h3, h4, hk⟩⟩)
      | (split at h)
      | (simp only [bifF] at h ⊢; refine det_and h.1 ?_; replace h := h.2)
          | (refine det_and h.1 ?_; replace h := h.2))
  case call c =>
    obtain ⟨callee, args, ts⟩ := c
    cases callee
    case builtin b =>
      cases b
      case append =>
        simp only [opE] at h ⊢
        split at h
        all_goals repeat' (first
          | contradiction
          | exact h.elim
          | exact ⟨_, _, h, fun _ hk => hk⟩
          | (obtain ⟨h1, h2, h3⟩ := h; exact ⟨_, _, h3, fun _ hk => ⟨h1, h2, hk⟩⟩)
          | (split at h)
          | (simp only [bifF] at h ⊢; refine det_and h.1 ?_; replace h := h.2)
          | (refine det_and h.1 ?_; replace h := h.2))
      all_goals (rcases hc with hc | hc <;> simp [clsO, isQ] at hc)
    all_goals first | (simp only [opE] at h; done) | (simp only [opE] at h; exact h.elim) | (rcases hc with hc | hc <;> simp [clsO, isQ] at hc)
  all_goals (rcases hc with hc | hc <;> simp [clsO, isQ] at hc)

theorem storeRow_some {size : Nat} {row : List PV} {c : Nat} {v : PV} {K : List PV → Prop} (h : storeRow size row c v K) : ∃ r, K r := by
  obtain ⟨r, h, _⟩ := storeRow_det h
  exact ⟨r, h⟩
/-- a store has an outcome -/
theorem opE_some {o : Op} {ps : List PV} {lk : Nat → Option Blk} {id : Nat} {K : PV → Dl → Prop} (hn : ndO T ps lk o = true) (h : opE T (Sig.std P T) o ps lk id K) : ∃ v δ, K v δ := by
  cases o
  case store t x y =>
    simp only [opE] at h
    split at h
    · split at h
      · rename_i e1; simp [ndO, e1] at hn
      · rename_i b r c e1
        split at h
        · rename_i e2; simp [ndO, e1, e2] at hn
        · split at h
          · split at h
            · revert h
              generalize (_ && _ : Bool) = bb
              intro h
              cases bb with
              | true => exact h.elim
              | false =>
                obtain ⟨row, _, h⟩ := h
                obtain ⟨r, h⟩ := storeRow_some (h ⟨0, 0, 0⟩)
                exact ⟨_, _, h⟩
            · exact h.elim
          · split at h
            · obtain ⟨row, _, h⟩ := h
              obtain ⟨r, h⟩ := storeRow_some h
              exact ⟨_, _, h⟩
            · exact h.elim
        · exact h.elim
      · split at h
        · split at h
          · have h9 := wkC_std h
            clear h
            obtain ⟨_, _, _, _, ⟨row, _, h⟩, _⟩ := h9
            split at h
            · simp only [bifF, Sig.std] at h
              obtain ⟨_, _, er, _, h⟩ := h
              obtain ⟨r, h⟩ := storeRow_some h
              exact ⟨_, _, h⟩
            · exact h.elim
          · exact h.elim
        · exact h.elim
      · exact h.elim
    · exact h.elim
  all_goals simp [ndO] at hn

theorem semX_big (hT : TabOK P T) (hW : PWf P) {all : Array Oper} {o : Oper} {ps : List PV} {lk : Nat → Option Blk} {id : Nat} {v : PV} {δ : Dl} (hF : ∀ K' : PV → Dl → Prop, K' v δ → opE T (Sig.std P T) o.op ps lk id K') : SemX P T all o ps lk id v δ true := by
  intro C qs Y σ a w st n hl H hd hlk hid next Q hnext
  obtain ⟨h1, h2, h3⟩ := hid rfl
  have h4 := hF (fun v' δ' => v' = v ∧ δ' = δ) ⟨rfl, rfl⟩
  rw [← opE_congr (tmp_looks hl)] at h4
  obtain ⟨v', δ', cv, w', Y', σ', ⟨rfl, rfl⟩, hrun, H', hv, hoff⟩ := opE_res hT hW H hlk ⟨h1 id (Nat.le_refl _) (by omega), h2⟩ h4
  have hn : nextI δ' n id ≤ n := by cases δ' <;> simp [nextI] <;> omega
  have := hnext cv w' Y' σ' (H'.mono hn) (fun b hb => hoff b (by omega)) (fun e => by cases e) hv
  unfold Oper.wp
  rcases hrun with hrun | ⟨hrun, rfl⟩
  · rw [hrun]; exact this
  · rw [hrun]; exact this

theorem opW_op {S : Sig} {o : Op} {ps : List PV} {lk : Nat → Option Blk} {st : St} {id : Nat} {c2 : Bool} {K : PV → Dl → Prop} (hn : ∀ f args ts, o = .call { callee := .value f, args := args, argTypes := ts } → False) : opW T S o ps lk st id c2 K = opE T S o ps lk id K := by
  unfold opW
  split
  · rename_i f args ts
    exact (hn f args ts rfl).elim
  · rfl
theorem bakO_dl (f : Nat → Option Nat) (st1 : St) : ∀ (l : List Nat) (i : Nat) (st : St), bakO f st1 i l st = applyD (dlO f st1 i l) st
  | [], i, st => rfl
  | b :: l, i, st => by simp only [bakO, dlO, applyD]; exact bakO_dl f st1 l (i + 1) _
theorem renS_congr (f : Nat → Option Nat) {st st' : St} : ∀ (ρ : List Nat) (i : Nat), (∀ b ∈ ρ, lkS st b = lkS st' b) → renS f st i ρ = renS f st' i ρ
  | [], i, _ => rfl
  | b :: ρ, i, h => by
    simp only [renS]
    rw [h b (by simp), renS_congr f ρ (i + 1) fun c hc => h c (by simp [hc])]
theorem allS_spec {st : St} : ∀ (ρ : List Nat), allS st ρ = true → ∀ b ∈ ρ, ∃ x, lkS st b = some x
  | [], _, b, h => by cases h
  | c :: ρ, h, b, hb => by
    simp only [allS, Bool.and_eq_true] at h
    rcases List.mem_cons.1 hb with rfl | hb
    · have := h.1
      cases hx : lkS st b with
      | none => rw [hx] at this; cases this
      | some x => exact ⟨x, rfl⟩
    · exact allS_spec ρ h.2 b hb
theorem opW_det {o : Op} {ps : List PV} {lk : Nat → Option Blk} {st : St} {id : Nat} {c2 : Bool} {K : PV → Dl → Prop} (hc : clsO T o = 1 ∨ clsO T o = 2) (hn : ndO T ps lk o = false) (h : opW T (Sig.std P T) o ps lk st id c2 K) :
    ∃ v δ, K v δ ∧ ∀ K' : PV → Dl → Prop, K' v δ → opW T (Sig.std P T) o ps lk st id c2 K' := by
  by_cases hv : ∃ f args ts, o = .call { callee := .value f, args := args, argTypes := ts }
  · obtain ⟨f, args, ts, rfl⟩ := hv
    unfold opW at h ⊢
    simp only at h ⊢
    split at h
    · rename_i k caps hf
      cases c2 with
      | false =>
        simp only at h
        split at h
        · rename_i as hm
          obtain ⟨v, x, hF, hK⟩ := h
          refine ⟨_, _, hK, fun K' hk => ?_⟩
          simp only [hm]
          exact ⟨v, x, hF, hk⟩
        · exact h.elim
      | true =>
        simp only at h
        unfold callW2 at h
        split at h
        · rename_i hcnd
          obtain ⟨v, st1, n1, h0, hF, hK⟩ := h
          split at hK
          · rename_i hb
            refine ⟨_, _, hK, fun K' hk => ?_⟩
            simp only
            unfold callW2
            simp only [hcnd]
            refine ⟨v, st1, n1, h0, hF, ?_⟩
            simp only [hb]; exact hk
          · exact hK.elim
        · exact h.elim
    · exact h.elim
  · have hv' : ∀ f args ts, o = .call { callee := .value f, args := args, argTypes := ts } → False := fun f args ts e => hv ⟨f, args, ts, e⟩
    rw [opW_op hv'] at h
    obtain ⟨v, δ, h1, h2⟩ := opE_det2 hc hn h
    exact ⟨v, δ, h1, fun K' hk => by rw [opW_op hv']; exact h2 K' hk⟩
theorem semX_W (hT : TabOK P T) (hW : PWf P) {all : Array Oper} {o : Oper} {ps : List PV} {lk : Nat → Option Blk} {st : St} {id : Nat} {v : PV} {δ : Dl} {c2 : Bool} (hst : c2 = true → lk = lkS st) (hF : ∀ K' : PV → Dl → Prop, K' v δ → opW T (Sig.std P T) o.op ps lk st id c2 K') : SemX P T all o ps lk id v δ true := by
  by_cases hv : ∃ f args ts, o.op = .call { callee := .value f, args := args, argTypes := ts }
  · obtain ⟨f, args, ts, ho⟩ := hv
    intro C qs Y σ a w stn n hl H hd hlk hid next Q hnext
    obtain ⟨g1, g2, g3⟩ := hid rfl
    have h4 := hF (fun v' δ' => v' = v ∧ δ' = δ) ⟨rfl, rfl⟩
    rw [ho] at h4
    unfold opW at h4
    simp only at h4
    split at h4
    · rename_i k caps hf
      have hev := tmp_looks (T := T) hl
      rw [ho] at hev
      have hfv := ev_rep H f
      rw [hev f (by simp [Op.operands, Call.operands]), hf] at hfv
      unfold Rep at hfv
      obtain ⟨cs, ef, hcs⟩ := hfv
      have hargs := evA_rep H args.toList
      rw [evA_congr (ps := qs) (qs := ps) args.toList fun x hx => hev x (by simp only [Op.operands, Call.operands]; simp; exact .inr (by simpa using hx))] at hargs
      have hall := RepL.app _ _ _ _ hargs hcs
      cases c2 with
      | false =>
        simp only at h4
        split at h4
        · rename_i as hm
          obtain ⟨v0, x, hF0, rfl, rfl⟩ := h4
          have hr0 := mapO_frz (P := P) (T := T) H.store (lk := noLk) (fun b x h => by cases h) (fun _ h => h) (fun b x l h => by cases h) (fun b sz rows hb => by cases hb) hm hall
          have hr1 : RepL w Y σ as _ := RepL.keep as (σ := noSg) (σ' := σ) ⟨fun _ _ _ => rfl, fun _ _ h => h, Nat.le_refl _, fun b l h => by simp [noSg] at h⟩ _ hr0
          obtain ⟨hent, hcall⟩ := call_W (E := ⟨qs, stn, id⟩) (ρ := []) (n0 := n) (N := n) (v := v0) (st1 := [(0, some x)]) (n1 := 1) H rfl rfl rfl g2 (fun b hb1 hb2 => by
            have : b = id := by simp only [lenNs] at hb1 hb2; omega
            rw [this]; exact g1 id (Nat.le_refl _) (by omega)) ⟨by simp only [lenNs]; omega, Nat.le_refl _⟩ hr1 hF0
          unfold Oper.wp
          rw [call_run ho ef hent]
          refine Calls.mono hcall fun e w' hh => ?_
          obtain ⟨cv, Y', σ', rfl, H', hv', hoff⟩ := hh
          exact hnext cv w' Y' σ' H' (fun b hb => hoff b (by simp only [lenNs]; omega)) (fun e => by cases e) hv'
        · exact h4.elim
      | true =>
        simp only at h4
        unfold callW2 at h4
        split at h4
        · rename_i hcnd
          simp only [Bool.and_eq_true] at hcnd
          obtain ⟨c1, c2, c3⟩ := hcnd
          obtain ⟨v0, st1, n1, h0, hF0, hK⟩ := h4
          split at hK
          · rename_i hb
            obtain ⟨rfl, rfl⟩ := hK
            have hb := Nat.le_of_ble_eq_true hb
            have hlk' := hlk
            rw [hst rfl] at hlk'
            have hren := renS_congr (st := st) (st' := stn) (ixN (callN (appL (evA T ps args.toList) caps) st)) (callN (appL (evA T ps args.toList) caps) st) 0 fun b hb => by
              obtain ⟨x, hx⟩ := allS_spec _ c3 b hb
              rw [hx, hlk' b x hx]
            rw [hren] at h0 hF0
            obtain ⟨hent, hcall⟩ := call_W (E := ⟨qs, stn, id⟩) (n0 := n) (N := n) (v := v0) (st1 := st1) H c2 c1 h0 g2 (fun b hb1 hb2 => g1 b hb1 (by simp only at hb2; omega)) ⟨by simp only; omega, Nat.le_refl _⟩ hall hF0
            unfold Oper.wp
            rw [call_run ho ef hent]
            refine Calls.mono hcall fun e w' hh => ?_
            obtain ⟨cv, Y', σ', rfl, H', hv', hoff⟩ := hh
            refine hnext cv w' Y' σ' ?_ (fun b hb' => hoff b (by simp only; omega)) (fun e => by cases e) hv'
            rw [← bakO_dl]; exact H'
          · exact hK.elim
        · exact h4.elim
    · exact h4.elim
  · have hv' : ∀ f args ts, o.op = .call { callee := .value f, args := args, argTypes := ts } → False := fun f args ts e => hv ⟨f, args, ts, e⟩
    exact semX_big hT hW fun K' hk => by have := hF K' hk; rw [opW_op hv'] at this; exact this
end
end Go.Pv
