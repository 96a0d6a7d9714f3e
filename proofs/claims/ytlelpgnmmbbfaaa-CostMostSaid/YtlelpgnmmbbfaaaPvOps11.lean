/-
  Pv, part 15: slices of slices, of strings, of arrays.
-/
import Derived.Test.YtlelpgnmmbbfaaaPvOps10
namespace Go.Pv
open Go
set_option linter.all false

def sval (x : Option Addr) (cap i j size : Nat) : Value := .slice (if cap = i then x else x.map (·.add (i * size))) (j - i) (cap - i)

theorem sl_sub {w : World} {Y : Nat → Prop} {σ : Sg} {sz i j len cap : Nat} {es : List (List PV)} {full full' : Bool} {x : Option Addr} (h : Rep w Y σ (.sl sz es full) (.slice x len cap)) (h1 : i ≤ j) (h2 : j ≤ es.length) (hf : full' = true → full = true ∧ j = es.length) :
    Rep w Y σ (.sl sz ((es.drop i).take (j - i)) full') (sval x cap i j sz) := by
  unfold Rep at h ⊢
  obtain ⟨x', len', cap', e, hl, hc, hfu, hr⟩ := h
  cases e
  refine ⟨_, _, _, rfl, ?_, by omega, ?_, ?_⟩
  · rw [List.length_take, List.length_drop]; omega
  · intro h'; obtain ⟨g1, g2⟩ := hf h'; have := hfu g1; omega
  · by_cases hij : i = j
    · left; rw [hij]; simp
    · rcases hr with hr | ⟨b, o, rfl, hy, hr⟩
      · left; rw [hr]; simp
      · right
        rw [if_neg (by omega)]
        exact ⟨b, o + i * sz, by simp [addr_add], hy, (hr.drop i _ _).take _ _ _⟩

theorem os_sub {w : World} {Y : Nat → Prop} {σ : Sg} {b r n i j cap len size : Nat} {x : Option Addr} (h : Rep w Y σ (.os b r n) (.slice x len cap)) (h1 : i ≤ j) (h2 : j ≤ n) (hs : ∀ l, σ b = some l → l.sz = size) :
    Rep w Y σ (.os b (r + i) (j - i)) (sval x cap i j size) := by
  unfold Rep at h ⊢
  rcases h with ⟨l, cap', hl, e, hn, ht, hr⟩ | ⟨rfl, x', e⟩
  · cases e
    have hsz := hs l hl
    by_cases hc : cap = i
    · right
      refine ⟨by omega, some ⟨l.cb, l.co + r * l.sz, none⟩, ?_⟩
      simp only [sval, hc, if_true]
      have e1 : j - i = 0 := by omega
      have e2 : i - i = 0 := by omega
      rw [e1, e2]
    · left
      refine ⟨l, cap - i, hl, ?_, by omega, ?_, by omega⟩
      · simp only [sval, hc, if_false, Option.map_some, addr_add]
        rw [← hsz, Nat.add_mul, Nat.add_assoc]
      · rw [← ht]
        have : i ≤ cap := by omega
        rw [Nat.add_mul, Nat.sub_mul]
        have := Nat.mul_le_mul_right l.sz this
        omega
  · cases e
    right
    have hi : i = 0 := by omega
    have hj : j = 0 := by omega
    subst hi; subst hj
    exact ⟨rfl, x, by simp [sval]⟩

theorem sliceBounds_run {P : Program} {w : World} {len cap : Nat} {lo hi : Option Value} {i j : Nat} (hlo : lo = none ∧ i = 0 ∨ ∃ k, lo = some (.int k (i : Int))) (hhi : hi = none ∧ j = len ∨ ∃ k, hi = some (.int k (j : Int))) (h1 : i ≤ j) (h2 : j ≤ cap) (b : Bool) :
    (Instr.sliceBounds b len cap lo hi none).run P w = .ok (i, j, cap) w := by
  have e1 : (0 : Int) ≤ (i : Int) ∧ (i : Int) ≤ (j : Int) := by omega
  have e2 : (0 : Int) ≤ (j : Int) ∧ (j : Int) ≤ (cap : Int) := by omega
  rcases hlo with ⟨rfl, rfl⟩ | ⟨k, rfl⟩ <;> rcases hhi with ⟨rfl, rfl⟩ | ⟨k', rfl⟩
  · simp [Instr.sliceBounds]
  · simp [Instr.sliceBounds, Instr.sliceBound, run_asIntOf, h2]
  · simp [Instr.sliceBounds, Instr.sliceBound, run_asIntOf, h1]
  · simp [Instr.sliceBounds, Instr.sliceBound, run_asIntOf, h1, h2]

theorem slice_run {P : Program} {w : World} {t e : TypeId} {x : Option Addr} {len cap i j : Nat} {lo hi : Option Value} (hu : P.underlying t = some (.slice e)) (hinf : P.info? e ≠ none)
    (hlo : lo = none ∧ i = 0 ∨ ∃ k, lo = some (.int k (i : Int))) (hhi : hi = none ∧ j = len ∨ ∃ k, hi = some (.int k (j : Int))) (h1 : i ≤ j) (h2 : j ≤ cap) :
    (Instr.sliceAt t (.slice x len cap) lo hi none).run P w = .ok (sval x cap i j (P.cellsOf e)) w := by
  simp only [Instr.sliceAt, Sem.run_bind, run_und hu, Result.andThen, Instr.slice, sliceBounds_run hlo hhi h1 h2, run_sizeOf hinf, Sem.run_pure]
  rfl

theorem plain_rep {S : Sig} {w : World} {Y : Nat → Prop} {σ : Sg} : ∀ (ps : List PV) (vs : List Value) (r : List PV × Dl), pur S (fun _ => none) ps = some r → RepL w Y σ ps vs → RepL w Y noSg ps vs
  | [], vs, _, _, h => by unfold RepL at h ⊢; exact h
  | p :: ps, vs, r, hp, h => by
    unfold RepL at h
    obtain ⟨v, vs', rfl, h1, h2⟩ := h
    unfold pur at hp
    cases hq : pur S (fun _ => none) ps with
    | none => rw [hq] at hp; cases hp
    | some q =>
      rw [hq] at hp
      simp only at hp
      have ih := plain_rep ps vs' q hq h2
      have fin : Rep w Y noSg p v → RepL w Y noSg (p :: ps) (v :: vs') := fun h => by unfold RepL; exact ⟨v, vs', rfl, h, ih⟩
      cases p
      case os => simp at hp
      case fn f cs =>
        cases cs with
        | nil => exact fin (by unfold Rep at h1 ⊢; obtain ⟨ws, e, hr⟩ := h1; exact ⟨ws, e, by unfold RepL at hr ⊢; exact hr⟩)
        | cons _ _ => simp at hp
      all_goals first
        | (simp at hp; done)
        | exact fin (by unfold Rep at h1 ⊢; exact h1)

theorem str_run {P : Program} {w : World} {t : TypeId} {s : ByteArray} {i j : Nat} {lo hi : Option Value} (hu : P.underlying t = some .string)
    (hlo : lo = none ∧ i = 0 ∨ ∃ k, lo = some (.int k (i : Int))) (hhi : hi = none ∧ j = s.size ∨ ∃ k, hi = some (.int k (j : Int))) (h1 : i ≤ j) (h2 : j ≤ s.size) :
    (Instr.sliceAt t (.string s) lo hi none).run P w = .ok (.string (s.extract i j)) w := by
  simp only [Instr.sliceAt, Sem.run_bind, run_und hu, Result.andThen, Instr.slice, Option.isSome_none, Bool.false_eq_true, if_false, sliceBounds_run hlo hhi h1 h2, Sem.run_pure]
theorem arr_run {P : Program} {w : World} {t e : TypeId} {m b o : Nat} (hu : P.underlying t = some (.array m e)) (hinf : P.info? e ≠ none) :
    (Instr.sliceAt t (.pointer (some ⟨b, o, none⟩)) none none none).run P w = .ok (.slice (some ⟨b, o, none⟩) m m) w := by
  have hb := sliceBounds_run (P := P) (w := w) (len := m) (cap := m) (lo := none) (hi := none) (i := 0) (j := m) (.inl ⟨rfl, rfl⟩) (.inl ⟨rfl, rfl⟩) (by omega) (by omega) false
  simp only [Instr.sliceAt, Sem.run_bind, run_und hu, Result.andThen, Instr.sureAddr, Sem.run_pure, hb, run_sizeOf hinf, Nat.zero_mul, addr_add]
  simp
theorem three_run {P : Program} {w : World} {t e : TypeId} {x : Option Addr} {len cap : Nat} {k k' : IntKind} (hu : P.underlying t = some (.slice e)) (hinf : P.info? e ≠ none) :
    (Instr.sliceAt t (.slice x len cap) none (some (.int k 0)) (some (.int k' 0))).run P w = .ok (.slice x 0 0) w := by
  have c1 : (0 : Int) ≤ 0 ∧ (0 : Int) ≤ (cap : Int) := by omega
  simp [Instr.sliceAt, run_und hu, Instr.slice, Instr.sliceBounds, Instr.sliceBound, run_asIntOf, run_sizeOf hinf]

section
variable {P : Program} {T : Tab} (hT : TabOK P T) {C : Ctx T} {o : Oper} {a : Act} {w : World} {Y : Nat → Prop} {σ : Sg} {ps : List PV} {st : St} {n id : Nat} {K : PV → Dl → Prop} {lk : Nat → Option Blk}
  (H : SW C w Y σ ps a.tmps.toList st n) (hlk : ∀ b x, lk b = some x → lkS st b = some x) (hid : σ id = none ∧ T.pas ≤ id) (hU : UndOK P)

theorem evO_cases {T : Tab} {C : Ctx T} {w : World} {Y : Nat → Prop} {σ : Sg} {ps : List PV} {a : Act} {st : St} {n : Nat} (h : SW C w Y σ ps a.tmps.toList st n) (x : Option Operand) :
    (evO T ps x = none ∧ x.map a.eval = none) ∨ ∃ p v, evO T ps x = some p ∧ x.map a.eval = some v ∧ Rep w Y σ p v := by
  cases x with
  | none => exact .inl ⟨rfl, rfl⟩
  | some x => exact .inr ⟨_, _, rfl, rfl, ev_rep h x⟩

include hT H hlk in
theorem op_slice {t : TypeId} {x : Operand} {lo hi mx : Option Operand} (ho : o.op = .slice t x lo hi mx) (hid : σ id = none ∧ T.pas ≤ id) (h : opE T (Sig.std P T) (.slice t x lo hi mx) ps lk id K) : Res P C o a w σ ps st n id K := by
  have hx := ev_rep H x
  have hlo := evO_cases H lo
  have hhi := evO_cases H hi
  have hmx := evO_cases H mx
  have run : ∀ {r : Result Value}, (Instr.sliceAt t (a.eval x) (lo.map a.eval) (hi.map a.eval) (mx.map a.eval)).run P w = r → (execOp a.eval o).run P w = r.andThen fun v w' => .ok (.value v) w' := by
    intro r hr
    simp only [execOp, ho, Sem.run_bind, hr, Sem.run_pure]
  generalize lo.map a.eval = vlo at hlo run
  generalize hi.map a.eval = vhi at hhi run
  generalize mx.map a.eval = vmx at hmx run
  simp only [opE] at h
  generalize evO T ps lo = plo at hlo h
  generalize evO T ps hi = phi at hhi h
  generalize evO T ps mx = pmx at hmx h
  generalize evL T ps x = p at hx h
  have bound : ∀ {q : Option PV} {v : Option Value} {r : PV} {k : IntKind} {i : Nat}, ((q = none ∧ v = none) ∨ ∃ p u, q = some p ∧ v = some u ∧ Rep w Y σ p u) → q = some r → intV r = some (k, (i : Int)) → ∃ k, v = some (.int k (i : Int)) := by
    intro q v r k i hq e1 e2
    rcases hq with ⟨e, _⟩ | ⟨p, u, e, e', hr⟩
    · rw [e] at e1; cases e1
    · rw [e] at e1; cases e1
      exact ⟨k, by rw [e', rep_intV hr e2]⟩
  have nope : ∀ {q : Option PV} {v : Option Value}, ((q = none ∧ v = none) ∨ ∃ p u, q = some p ∧ v = some u ∧ Rep w Y σ p u) → q = none → v = none := by
    intro q v hq e
    rcases hq with ⟨_, e'⟩ | ⟨p, u, e', _⟩
    · exact e'
    · rw [e] at e'; cases e'
  split at h
  · rename_i agg size z plain esz bytes z' sz es full e
    obtain ⟨et, hu, rfl, _, _⟩ := tab_slice hT e
    have hm := nope hmx rfl
    subst hm
    cases hb : (isPos (P.cellsOf et) && Nat.beq sz (P.cellsOf et)) with
    | false => rw [hb] at h; exact h.elim
    | true =>
      rw [hb] at h
      simp only [cond_true] at h
      rw [Bool.and_eq_true] at hb
      have hinf := info_of_pos hb.1
      have hsz := Nat.eq_of_beq_eq_true hb.2
      subst hsz
      have hx' := hx
      unfold Rep at hx'
      obtain ⟨y, len, cap, ex, hl, hc, _, _⟩ := hx'
      rw [ex] at hx run
      have fin : ∀ (i j : Nat) (full' : Bool), (vlo = none ∧ i = 0 ∨ ∃ k, vlo = some (.int k (i : Int))) → (vhi = none ∧ j = len ∨ ∃ k, vhi = some (.int k (j : Int))) → i ≤ j → j ≤ es.length → (full' = true → full = true ∧ j = es.length) →
          K (.sl (P.cellsOf et) ((es.drop i).take (j - i)) full') [] → Res P C o a w σ ps st n id K := by
        intro i j full' g1 g2 g3 g4 g5 hK
        exact Res.quiet H (by rw [run (slice_run hu hinf g1 g2 g3 (by omega))]; rfl) (sl_sub hx g3 g4 g5) hK
      split at h
      · have hv := nope hhi rfl
        split at h
        · have hv2 := nope hlo rfl
          refine fin 0 len full (.inl ⟨hv2, rfl⟩) (.inl ⟨hv, rfl⟩) (by omega) (by omega) (fun h => ⟨h, hl⟩) ?_
          rw [hl]; simpa using h
        · split at h
          · rename_i hint
            obtain ⟨i, j, rfl, e2, g1, g2, h⟩ := h
            have : j = es.length := by have : ((es.length : Nat) : Int) = (j : Int) := e2; omega
            subst this
            exact fin i es.length full (.inr (bound hlo rfl hint)) (.inl ⟨hv, hl.symm⟩) g1 (Nat.le_refl _) (fun h => ⟨h, rfl⟩) h
          · exact h.elim
      · split at h
        · rename_i hint
          split at h
          · have hv2 := nope hlo rfl
            obtain ⟨i, j, e1, rfl, g1, g2, h⟩ := h
            have : i = 0 := by omega
            subst this
            exact fin 0 j false (.inl ⟨hv2, rfl⟩) (.inr (bound hhi rfl hint)) g1 g2 (fun h => by cases h) h
          · split at h
            · rename_i hint2
              obtain ⟨i, j, rfl, rfl, g1, g2, h⟩ := h
              exact fin i j false (.inr (bound hlo rfl hint2)) (.inr (bound hhi rfl hint)) g1 g2 (fun h => by cases h) h
            · exact h.elim
        · exact h.elim
  · rename_i agg size z plain esz bytes z' b r m e
    obtain ⟨et, hu, rfl, _, _⟩ := tab_slice hT e
    have hm := nope hmx rfl
    subst hm
    split at h
    · rename_i ro sz rows hbk
      cases hb : (isPos (P.cellsOf et) && Nat.beq sz (P.cellsOf et)) with
      | false => rw [hb] at h; exact h.elim
      | true =>
        rw [hb] at h
        simp only [cond_true] at h
        rw [Bool.and_eq_true] at hb
        have hinf := info_of_pos hb.1
        have hsz := Nat.eq_of_beq_eq_true hb.2
        have hls : ∀ l, σ b = some l → l.sz = P.cellsOf et := by
          intro l hl
          have hB := BlkRep.of_lk H hlk hbk hl
          unfold BlkRep at hB
          rw [hB.2.1, hsz]
        have hx' : ∃ y cap, a.eval x = .slice y m cap ∧ m ≤ cap := by
          unfold Rep at hx
          rcases hx with ⟨l, cap, _, e, hn, _⟩ | ⟨rfl, y, e⟩
          · exact ⟨_, cap, e, hn⟩
          · exact ⟨y, 0, e, Nat.le_refl _⟩
        obtain ⟨y, cap, ex, hmc⟩ := hx'
        rw [ex] at hx run
        have fin : ∀ (i j : Nat), (vlo = none ∧ i = 0 ∨ ∃ k, vlo = some (.int k (i : Int))) → (vhi = none ∧ j = m ∨ ∃ k, vhi = some (.int k (j : Int))) → i ≤ j → j ≤ m → K (.os b (r + i) (j - i)) [] → Res P C o a w σ ps st n id K := by
          intro i j g1 g2 g3 g4 hK
          exact Res.quiet H (by rw [run (slice_run hu hinf g1 g2 g3 (by omega))]; rfl) (os_sub hx g3 g4 hls) hK
        split at h
        · have hv := nope hhi rfl
          split at h
          · have hv2 := nope hlo rfl
            exact fin 0 m (.inl ⟨hv2, rfl⟩) (.inl ⟨hv, rfl⟩) (by omega) (by omega) h
          · split at h
            · rename_i hint
              obtain ⟨i, j, rfl, e2, g1, g2, h⟩ := h
              have : j = m := by have : (m : Int) = (j : Int) := e2; omega
              subst this
              exact fin i j (.inr (bound hlo rfl hint)) (.inl ⟨hv, rfl⟩) g1 g2 h
            · exact h.elim
        · split at h
          · rename_i hint
            split at h
            · have hv2 := nope hlo rfl
              obtain ⟨i, j, e1, rfl, g1, g2, h⟩ := h
              have : i = 0 := by omega
              subst this
              exact fin 0 j (.inl ⟨hv2, rfl⟩) (.inr (bound hhi rfl hint)) g1 g2 h
            · split at h
              · rename_i hint2
                obtain ⟨i, j, rfl, rfl, g1, g2, h⟩ := h
                exact fin i j (.inr (bound hlo rfl hint2)) (.inr (bound hhi rfl hint)) g1 g2 h
              · exact h.elim
          · exact h.elim
    · exact h.elim
  · rename_i agg size z plain esz bytes z' sz es full k1 k2 e
    obtain ⟨et, hu, rfl, _, _⟩ := tab_slice hT e
    cases hb : isPos (P.cellsOf et) with
    | false => rw [hb] at h; exact h.elim
    | true =>
      rw [hb] at h
      have hinf := info_of_pos hb
      have hl := nope hlo rfl
      subst hl
      rcases hhi with ⟨e1, _⟩ | ⟨p1, v1, e1, rfl, r1⟩
      · cases e1
      · cases e1
        rcases hmx with ⟨e1, _⟩ | ⟨p2, v2, e2, rfl, r2⟩
        · cases e1
        · cases e2
          rw [rep_int r1, rep_int r2] at run
          unfold Rep at hx
          obtain ⟨y, len, cap, ex, _⟩ := hx
          rw [ex] at run
          refine Res.quiet H (by rw [run (three_run hu hinf)]; rfl) ?_ h
          unfold Rep
          exact ⟨y, 0, 0, rfl, rfl, Nat.le_refl _, fun _ => rfl, .inl rfl⟩
  · rename_i agg size z plain esz bytes z' b r m k1 k2 e
    obtain ⟨et, hu, rfl, _, _⟩ := tab_slice hT e
    cases hb : isPos (P.cellsOf et) with
    | false => rw [hb] at h; exact h.elim
    | true =>
      rw [hb] at h
      have hinf := info_of_pos hb
      have hl := nope hlo rfl
      subst hl
      rcases hhi with ⟨e1, _⟩ | ⟨p1, v1, e1, rfl, r1⟩
      · cases e1
      · cases e1
        rcases hmx with ⟨e1, _⟩ | ⟨p2, v2, e2, rfl, r2⟩
        · cases e1
        · cases e2
          rw [rep_int r1, rep_int r2] at run
          have hx' : ∃ y cap, a.eval x = .slice y m cap := by
            unfold Rep at hx
            rcases hx with ⟨l, cap, _, e, _⟩ | ⟨rfl, y, e⟩
            · exact ⟨_, cap, e⟩
            · exact ⟨y, 0, e⟩
          obtain ⟨y, cap, ex⟩ := hx'
          rw [ex] at run
          refine Res.quiet H (by rw [run (three_run hu hinf)]; rfl) ?_ h
          unfold Rep
          exact ⟨y, 0, 0, rfl, rfl, Nat.le_refl _, fun _ => rfl, .inl rfl⟩
  · rename_i agg size z plain s e
    have hu := tab_str hT e
    have hm := nope hmx rfl
    subst hm
    rw [rep_str hx] at run
    have fin : ∀ (i j : Nat), (vlo = none ∧ i = 0 ∨ ∃ k, vlo = some (.int k (i : Int))) → (vhi = none ∧ j = s.size ∨ ∃ k, vhi = some (.int k (j : Int))) → i ≤ j → j ≤ s.size → K (.str (s.extract i j)) [] → Res P C o a w σ ps st n id K := by
      intro i j g1 g2 g3 g4 hK
      exact Res.quiet H (cv := .string (s.extract i j)) (by rw [run (str_run hu g1 g2 g3 g4)]; rfl) (by simp [Rep]) hK
    split at h
    · have hv2 := nope hlo rfl
      split at h
      · have hv := nope hhi rfl
        refine fin 0 s.size (.inl ⟨hv2, rfl⟩) (.inl ⟨hv, rfl⟩) (by omega) (by omega) ?_
        simpa using h
      · split at h
        · rename_i hint
          obtain ⟨i, j, e1, rfl, g1, g2, h⟩ := h
          have : i = 0 := by omega
          subst this
          exact fin 0 j (.inl ⟨hv2, rfl⟩) (.inr (bound hhi rfl hint)) g1 g2 h
        · exact h.elim
    · split at h
      · rename_i hint
        split at h
        · have hv := nope hhi rfl
          obtain ⟨i, j, rfl, e2, g1, g2, h⟩ := h
          have : j = s.size := by have : ((s.size : Nat) : Int) = (j : Int) := e2; omega
          subst this
          exact fin i s.size (.inr (bound hlo rfl hint)) (.inl ⟨hv, rfl⟩) g1 g2 h
        · split at h
          · rename_i hint2
            obtain ⟨i, j, rfl, rfl, g1, g2, h⟩ := h
            exact fin i j (.inr (bound hlo rfl hint)) (.inr (bound hhi rfl hint2)) g1 g2 h
          · exact h.elim
      · exact h.elim
  · rename_i agg size z plain m esz ag b c e
    obtain ⟨et, hu, rfl, _, _⟩ := tab_arr hT e
    have hm := nope hmx rfl; have hv := nope hhi rfl; have hl := nope hlo rfl
    subst hm; subst hv; subst hl
    split at h
    · rename_i ro row hbk
      cases hb : (isPos (P.cellsOf et) && Nat.ble (c + m * P.cellsOf et) (lenL row)) with
      | false => rw [hb] at h; exact h.elim
      | true =>
        rw [hb] at h
        simp only [cond_true] at h
        rw [Bool.and_eq_true] at hb
        have hinf := info_of_pos hb.1
        have hle := Nat.le_of_ble_eq_true hb.2
        rw [lenL_eq] at hle
        split at h
        · rename_i pr hpur
          unfold Rep at hx
          obtain ⟨l, hs, ex⟩ := hx
          rw [ex] at run
          obtain ⟨Y1, H1, hn1, hy1⟩ := H.freeze (hlk _ _ hbk) (x' := .var true row) (.inl ⟨ro, row, rfl, rfl⟩)
          have hB := BlkRep.of_lk H1 (lk := lkS (inS st b (some (.var true row)))) (fun _ _ h => h) (by rw [lkS_inS, if_pos rfl]) hs
          have hlt := hB.lt
          unfold BlkRep at hB
          obtain ⟨vs, hr, hcell⟩ := hB.2.2.2.1.vals
          have hr' := plain_rep _ _ _ hpur hr
          have hrc := (RepC.of_vals row vs l.co hr' hcell).drop c _ _
          refine ⟨_, _, .slice (some ⟨l.cb, l.co + c, none⟩) m m, w, Y1, σ, h, .inl ?_, ?_, ?_, Off.refl _ _⟩
          · rw [run (arr_run hu hinf)]; rfl
          · simp only [applyD, nextI]
            exact H1.mono (by omega)
          · unfold Rep
            refine ⟨_, _, _, rfl, by rw [chunks_length], Nat.le_refl _, fun _ => rfl, .inr ⟨l.cb, _, rfl, ⟨hlt, hn1 l hs⟩, ?_⟩⟩
            rw [dropL_eq]
            refine RepC.chunks m _ _ hrc ?_ (by rw [List.length_drop]; omega)
            have := (pur_cell row _ _ hpur).2
            rw [allCell_iff] at this ⊢; exact fun p hp => this p (List.mem_of_mem_drop hp)
        · exact h.elim
    · exact h.elim
  · rename_i agg size z plain m esz ag cs e
    obtain ⟨et, hu, rfl, _, _⟩ := tab_arr hT e
    have hm := nope hmx rfl; have hv := nope hhi rfl; have hl := nope hlo rfl
    subst hm; subst hv; subst hl
    cases hb : (isPos (P.cellsOf et) && allCell cs && Nat.ble (m * P.cellsOf et) (lenL cs)) with
    | false => rw [hb] at h; exact h.elim
    | true =>
      rw [hb] at h
      simp only [cond_true] at h
      rw [Bool.and_eq_true, Bool.and_eq_true] at hb
      have hinf := info_of_pos hb.1.1
      have hle := Nat.le_of_ble_eq_true hb.2
      rw [lenL_eq] at hle
      unfold Rep at hx
      obtain ⟨b, o', ex, hy, hr⟩ := hx
      rw [ex] at run
      refine Res.quiet H (by rw [run (arr_run hu hinf)]; rfl) ?_ h
      unfold Rep
      exact ⟨_, _, _, rfl, by rw [chunks_length], Nat.le_refl _, fun _ => rfl, .inr ⟨b, o', rfl, hy, RepC.chunks m cs o' hr hb.1.2 hle⟩⟩
  · exact h.elim
end
end Go.Pv
