/-
  Pv, part 20a: an operation looks at its operands only, and has one outcome.
-/
import Derived.Test.YtlelpgnmmbbfaaaPvCode
namespace Go.Pv
open Go
set_option linter.all false

theorem evA_congr {T : Tab} {ps qs : List PV} : ∀ (l : List Operand), (∀ x ∈ l, evL T ps x = evL T qs x) → evA T ps l = evA T qs l
  | [], _ => rfl
  | x :: l, h => by simp only [evA]; rw [h x (by simp), evA_congr l fun y hy => h y (by simp [hy])]
theorem evP_congr {T : Tab} {ps qs : List PV} : ∀ (l : List (Nat × Operand)), (∀ x ∈ l, evL T ps x.2 = evL T qs x.2) → evP T ps l = evP T qs l
  | [], _ => rfl
  | (i, x) :: l, h => by simp only [evP]; rw [h (i, x) (by simp), evP_congr l fun y hy => h y (by simp [hy])]
theorem evO_congr {T : Tab} {ps qs : List PV} (l : Option Operand) (h : ∀ x, l = some x → evL T ps x = evL T qs x) : evO T ps l = evO T qs l := by
  cases l with
  | none => rfl
  | some x => simp only [evO]; rw [h x rfl]

theorem opE_congr {T : Tab} {S : Sig} {o : Op} {ps qs : List PV} {lk : Nat → Option Blk} {id : Nat} {K : PV → Dl → Prop} (h : ∀ x ∈ o.operands, evL T ps x = evL T qs x) :
    opE T S o ps lk id K = opE T S o qs lk id K := by
  cases o
  case build t parts =>
    have := evP_congr (ps := ps) (qs := qs) parts.toList fun x hx => h x.2 (by simp only [Op.operands, List.mem_toArray, List.mem_map]; exact ⟨x, hx, rfl⟩)
    simp only [opE, this]
  case buildSlice t len parts =>
    have := evP_congr (ps := ps) (qs := qs) parts.toList fun x hx => h x.2 (by simp only [Op.operands, List.mem_toArray, List.mem_map]; exact ⟨x, hx, rfl⟩)
    simp only [opE, this]
  case makeFunc fn first cap =>
    cases fn
    case func f =>
      have := evA_congr (ps := ps) (qs := qs) cap.toList fun x hx => h x (by simp only [Op.operands, Array.mem_append]; exact .inr (by simpa using hx))
      simp only [opE, this]
    all_goals simp only [opE]
  case slice t x lo hi mx =>
    have h0 := h x (by simp [Op.operands])
    have h1 := evO_congr (ps := ps) (qs := qs) lo fun y hy => h y (by subst hy; simp [Op.operands])
    have h2 := evO_congr (ps := ps) (qs := qs) hi fun y hy => h y (by subst hy; simp [Op.operands])
    have h3 := evO_congr (ps := ps) (qs := qs) mx fun y hy => h y (by subst hy; simp [Op.operands])
    simp only [opE, h0, h1, h2, h3]
  case call c =>
    obtain ⟨callee, args, ts⟩ := c
    cases callee
    case builtin b =>
      have := evA_congr (ps := ps) (qs := qs) args.toList fun x hx => h x (by simp only [Op.operands, Call.operands]; simpa using hx)
      simp only [opE, this]
    all_goals simp only [opE]
  case unOp op t x =>
    have h0 := h x (by simp [Op.operands])
    cases op <;> simp only [opE, h0]
  all_goals (simp only [Op.operands, List.mem_toArray, List.mem_cons, List.not_mem_nil, or_false, forall_eq_or_imp, forall_eq] at h; simp only [opE, h])

theorem bifF {b : Bool} {p : Prop} : (bif b then p else False) = (b = true ∧ p) := by cases b <;> simp

theorem loadRow_det {agg : Bool} {size : Nat} {row : List PV} {c : Nat} {K : PV → Prop} (h : loadRow agg size row c K) : ∃ v, K v ∧ ∀ K' : PV → Prop, K' v → loadRow agg size row c K' := by
  unfold loadRow at h ⊢
  cases agg <;> simp only [cond_true, cond_false, bifF] at h ⊢
  all_goals exact ⟨_, h.2, fun K' hk => ⟨h.1, hk⟩⟩

theorem binE_det {P : Program} {T : Tab} {op : BinOp} {t : TypeId} {x y : PV} {K : PV → Prop} (h : binE T (Sig.std P T) op t x y K) : ∃ v, K v ∧ ∀ K' : PV → Prop, K' v → binE T (Sig.std P T) op t x y K' := by
  have spec : ∀ {k k' : IntKind} {a b : Int}, binS (Sig.std P T) op k a k' b K → ∃ v, K v ∧ ∀ K' : PV → Prop, K' v → binS (Sig.std P T) op k a k' b K' := by
    intro k k' a b h
    cases op <;> simp only [binS, bifF, Sig.std] at h ⊢
    case shl => exact ⟨_, h.2, fun K' hk => ⟨h.1, hk⟩⟩
    case shr => exact ⟨_, h.2, fun K' hk => ⟨h.1, hk⟩⟩
    case quo => exact ⟨_, h.2.2, fun K' hk => ⟨h.1, h.2.1, hk⟩⟩
    case rem => exact ⟨_, h.2.2, fun K' hk => ⟨h.1, h.2.1, hk⟩⟩
  have eqk : ∀ {b : Bool}, eqK (Sig.std P T) op b K → ∃ v, K v ∧ ∀ K' : PV → Prop, K' v → eqK (Sig.std P T) op b K' := by
    intro b h
    unfold eqK at h ⊢
    cases h1 : isEql op <;> simp only [h1, cond_true, cond_false] at h ⊢
    · cases h2 : isNeq op <;> simp only [h2, cond_true, cond_false] at h ⊢
      exact ⟨_, h, fun K' hk => hk⟩
    · exact ⟨_, h, fun K' hk => hk⟩
  have eql : ∀ {b : Bool}, eqL op b K → ∃ v, K v ∧ ∀ K' : PV → Prop, K' v → eqL op b K' := by
    intro b h
    unfold eqL at h ⊢
    cases h1 : isEql op <;> simp only [h1, cond_true, cond_false] at h ⊢
    · cases h2 : isNeq op <;> simp only [h2, cond_true, cond_false] at h ⊢
      cases b <;> exact ⟨_, h, fun K' hk => hk⟩
    · exact ⟨_, h, fun K' hk => hk⟩
  have ints : ∀ {k k' : IntKind} {a b : Int} {v u : PV}, (bif isSpec op then binS (Sig.std P T) op k a k' b K
      else bif kindEq k k' then (bif isArith op then K v else bif isCmp op then K u else False) else False) →
      ∃ r, K r ∧ ∀ K' : PV → Prop, K' r → (bif isSpec op then binS (Sig.std P T) op k a k' b K'
      else bif kindEq k k' then (bif isArith op then K' v else bif isCmp op then K' u else False) else False) := by
    intro k k' a b v u h
    cases h1 : isSpec op <;> simp only [h1, cond_true, cond_false] at h ⊢
    · cases h2 : kindEq k k' <;> simp only [h2, cond_true, cond_false] at h ⊢
      cases h3 : isArith op <;> simp only [h3, cond_true, cond_false] at h ⊢
      · cases h4 : isCmp op <;> simp only [h4, cond_true, cond_false] at h ⊢
        exact ⟨_, h, fun K' hk => hk⟩
      · exact ⟨_, h, fun K' hk => hk⟩
    · exact spec h
  unfold binE at h ⊢
  split at h
  · exact ints h
  · cases h1 : isAdd op <;> simp only [h1, cond_true, cond_false] at h ⊢
    · cases h2 : isCmp op <;> simp only [h2, cond_true, cond_false] at h ⊢
      exact ⟨_, h, fun K' hk => hk⟩
    · simp only [Sig.std] at h ⊢
      exact ⟨_, h.2, fun K' hk => ⟨h.1, hk⟩⟩
  · split at h
    · split at h
      · exact eqk h
      · exact h.elim
    · exact h.elim
  · split at h
    · exact ints h
    · split at h
      · split at h
        · exact eqk h
        · exact h.elim
      · split at h
        · cases h1 : (isNilP x && isNilP y) <;> simp only [h1, cond_true, cond_false] at h ⊢
          · cases h2 : ((isNilP x && isPtrP y) || (isPtrP x && isNilP y)) <;> simp only [h2, cond_true, cond_false] at h ⊢
            exact eql h
          · exact eql h
        · exact h.elim

theorem opE_det {P : Program} {T : Tab} {o : Op} {ps : List PV} {lk : Nat → Option Blk} {id : Nat} {K : PV → Dl → Prop} (hq : isQ o = true) (h : opE T (Sig.std P T) o ps lk id K) :
    ∃ v δ, K v δ ∧ ∀ K' : PV → Dl → Prop, K' v δ → opE T (Sig.std P T) o ps lk id K' := by
  cases o
  case move x => exact ⟨_, _, h, fun _ hk => hk⟩
  case assign x => exact ⟨_, _, h, fun _ hk => hk⟩
  case pick c a b =>
    simp only [opE] at h ⊢
    split at h
    · exact ⟨_, _, h, fun _ hk => hk⟩
    · exact ⟨_, _, h, fun _ hk => hk⟩
    · exact h.elim
  case nilCheck x =>
    simp only [opE] at h ⊢
    split at h
    all_goals first | exact ⟨_, _, h, fun _ hk => hk⟩ | exact h.elim
  case extract t i =>
    simp only [opE] at h ⊢
    split at h
    · simp only [bifF] at h ⊢; exact ⟨_, _, h.2, fun _ hk => ⟨h.1, hk⟩⟩
    · exact h.elim
  case convert s d x =>
    simp only [opE] at h ⊢
    split at h
    · split at h
      · obtain ⟨h1, b, h2, h3⟩ := h
        exact ⟨_, _, h3, fun _ hk => ⟨h1, b, h2, hk⟩⟩
      · exact h.elim
    · split at h
      all_goals first | exact ⟨_, _, h, fun _ hk => hk⟩ | exact h.elim
    · exact h.elim
  case makeFunc fn first cap =>
    cases fn
    case func f =>
      simp only [opE] at h ⊢
      split at h
      all_goals first | exact ⟨_, _, h, fun _ hk => hk⟩ | exact h.elim
    all_goals exact (by simp [opE] at h)
  case unOp op t x =>
    cases op
    case not =>
      simp only [opE] at h ⊢
      split at h
      all_goals first | exact ⟨_, _, h, fun _ hk => hk⟩ | exact h.elim
    case neg =>
      simp only [opE] at h ⊢
      split at h
      all_goals first | exact ⟨_, _, h, fun _ hk => hk⟩ | exact h.elim
    all_goals exact (by simp [opE] at h)
  case fieldAddr t x f =>
    simp only [opE] at h ⊢
    split at h
    · split at h
      · simp only [bifF] at h ⊢
        obtain ⟨h0, h⟩ := h
        split at h
        · exact ⟨_, _, h, fun _ hk => ⟨h0, hk⟩⟩
        · exact ⟨_, _, h, fun _ hk => ⟨h0, hk⟩⟩
        · exact ⟨_, _, h, fun _ hk => ⟨h0, hk⟩⟩
        · exact ⟨_, _, h.2, fun _ hk => ⟨h0, h.1, hk⟩⟩
        · exact h.elim
      · exact h.elim
    · exact h.elim
  case field t x f =>
    simp only [opE] at h ⊢
    split at h
    · split at h
      · split at h
        · simp only [bifF] at h ⊢
          obtain ⟨v, h1, h2⟩ := loadRow_det h.2
          exact ⟨v, _, h1, fun _ hk => ⟨h.1, h2 _ hk⟩⟩
        · exact h.elim
      · exact h.elim
    · exact h.elim
  case load t x =>
    simp only [opE] at h ⊢
    split at h
    · split at h
      · split at h
        · obtain ⟨v, h1, h2⟩ := loadRow_det h
          exact ⟨v, _, h1, fun _ hk => h2 _ hk⟩
        · exact h.elim
      · split at h
        · simp only [Sig.std] at h ⊢
          obtain ⟨row, h0, h⟩ := h
          obtain ⟨v, h1, h2⟩ := loadRow_det h
          exact ⟨v, _, h1, fun _ hk => ⟨row, h0, h2 _ hk⟩⟩
        · simp only [Sig.std] at h ⊢
          obtain ⟨row, h0, h⟩ := h
          obtain ⟨v, h1, h2⟩ := loadRow_det h
          exact ⟨v, _, h1, fun _ hk => ⟨row, h0, h2 _ hk⟩⟩
        · exact h.elim
      · split at h
        · simp only [Sig.std, bifF] at h ⊢
          obtain ⟨row, h0, h⟩ := h
          split at h
          · rename_i h' sz' es he
            obtain ⟨h3, h4, er, h5, h⟩ := h
            obtain ⟨v, h1, h2⟩ := loadRow_det h
            refine ⟨v, _, h1, fun _ hk => ⟨row, h0, ?_⟩⟩
            rw [he]
            exact ⟨h3, h4, er, h5, h2 _ hk⟩
          · exact h.elim
        · exact h.elim
      · obtain ⟨v, h1, h2⟩ := loadRow_det h
        exact ⟨v, _, h1, fun _ hk => h2 _ hk⟩
      · exact h.elim
    · exact h.elim
  case binOp op t x y u =>
    have hn : nilC y = false := by
      cases hn : nilC y with
      | true => simp only [isQ, hn] at hq; cases hq
      | false => rfl
    simp only [opE] at h ⊢
    rw [hn] at h ⊢
    simp only at h ⊢
    split at h
    · obtain ⟨v, h1, h2⟩ := binE_det h
      exact ⟨v, _, h1, fun _ hk => h2 _ hk⟩
    · exact h.elim
  case indexAddr t x i =>
    simp only [opE] at h ⊢
    split at h
    · split at h
      · simp only [bifF] at h ⊢
        obtain ⟨h0, j, row, h1, h2, h⟩ := h
        exact ⟨_, _, h, fun _ hk => ⟨h0, j, row, h1, h2, hk⟩⟩
      · split at h
        · simp only [bifF] at h ⊢
          obtain ⟨h0, j, h1, h2, h⟩ := h
          exact ⟨_, _, h, fun _ hk => ⟨h0, j, h1, h2, hk⟩⟩
        · simp only [bifF] at h ⊢
          obtain ⟨h0, j, h1, h2, h⟩ := h
          exact ⟨_, _, h, fun _ hk => ⟨h0, j, h1, h2, hk⟩⟩
        · exact h.elim
      · simp only [bifF] at h ⊢
        obtain ⟨h0, j, h1, h2, h⟩ := h
        exact ⟨_, _, h, fun _ hk => ⟨h0, j, h1, h2, hk⟩⟩
      · exact h.elim
    · simp only [bifF] at h ⊢
      obtain ⟨h0, h⟩ := h
      split at h
      · obtain ⟨h1, h⟩ := h
        split at h
        · exact ⟨_, _, h, fun _ hk => ⟨h0, h1, hk⟩⟩
        · exact ⟨_, _, h, fun _ hk => ⟨h0, h1, hk⟩⟩
        · exact ⟨_, _, h.2, fun _ hk => ⟨h0, h1, h.1, hk⟩⟩
        · exact h.elim
      · obtain ⟨j, h1, h2, h⟩ := h
        split at h
        · exact ⟨_, _, h, fun _ hk => ⟨h0, j, h1, h2, hk⟩⟩
        · exact ⟨_, _, h, fun _ hk => ⟨h0, j, h1, h2, hk⟩⟩
        · exact ⟨_, _, h.2, fun _ hk => ⟨h0, j, h1, h2, h.1, hk⟩⟩
        · exact h.elim
      · exact h.elim
    · exact h.elim
  case index t x i =>
    simp only [opE] at h ⊢
    split at h
    · simp only [Sig.std] at h ⊢
      obtain ⟨j, c, h1, h2, h⟩ := h
      exact ⟨_, _, h, fun _ hk => ⟨j, c, h1, h2, hk⟩⟩
    · simp only [bifF] at h ⊢
      obtain ⟨h0, j, h1, h2, h⟩ := h
      obtain ⟨v, h3, h4⟩ := loadRow_det h
      exact ⟨v, _, h3, fun _ hk => ⟨h0, j, h1, h2, h4 _ hk⟩⟩
    · exact h.elim
  case build t parts =>
    simp only [opE] at h ⊢
    split at h
    · simp only [bifF] at h ⊢
      obtain ⟨h0, h⟩ := h
      split at h
      · exact ⟨_, _, h, fun _ hk => ⟨h0, hk⟩⟩
      · exact h.elim
    · simp only [bifF] at h ⊢
      obtain ⟨h0, h⟩ := h
      split at h
      · exact ⟨_, _, h, fun _ hk => ⟨h0, hk⟩⟩
      · exact h.elim
    · exact h.elim
  case call c =>
    obtain ⟨callee, args, ts⟩ := c
    cases callee
    case builtin b =>
      simp only [opE] at h ⊢
      split at h
      · split at h
        · exact ⟨_, _, h, fun _ hk => hk⟩
        · exact h.elim
      · split at h
        · exact ⟨_, _, h, fun _ hk => hk⟩
        · exact h.elim
      · split at h
        · exact ⟨_, _, h, fun _ hk => hk⟩
        · exact h.elim
      · split at h
        · exact ⟨_, _, h, fun _ hk => hk⟩
        · exact h.elim
      · split at h
        · simp only [bifF] at h ⊢; exact ⟨_, _, h.2, fun _ hk => ⟨h.1, hk⟩⟩
        · split at h
          · simp only [bifF] at h ⊢; exact ⟨_, _, h.2, fun _ hk => ⟨h.1, hk⟩⟩
          · exact h.elim
      · split at h
        · simp only [bifF] at h ⊢; exact ⟨_, _, h.2, fun _ hk => ⟨h.1, hk⟩⟩
        · split at h
          · simp only [bifF] at h ⊢; exact ⟨_, _, h.2, fun _ hk => ⟨h.1, hk⟩⟩
          · exact h.elim
      · exact (by simp [isQ] at hq)
      · exact (by simp [isQ] at hq)
      · exact h.elim
    all_goals exact (by simp [isQ] at hq)
  all_goals exact (by simp [isQ] at hq)
end Go.Pv
