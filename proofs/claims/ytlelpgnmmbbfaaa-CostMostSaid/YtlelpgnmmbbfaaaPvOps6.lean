/-
  Pv, part 10: parts of values, lengths, arithmetic and comparisons.
-/
import Derived.Test.YtlelpgnmmbbfaaaPvOps5
import Derived.Laws.StructEq
import Derived.ChangeKeysEq
namespace Go.Pv
open Go
set_option linter.all false

/-- a part of a struct or array by value -/
theorem part_rep {P : Program} {w : World} {Y : Nat → Prop} {σ : Sg} {t : TypeId} {c size : Nat} {cs : List PV} {vs : List Value} {agg : Bool} {K : PV → Prop}
    (hinfo : P.info? t ≠ none) (hsize : size = P.cellsOf t) (hagg : agg = isAggT P t) (hund : ∃ d, P.underlying t = some d)
    (hr : RepL w Y σ cs vs) (h : loadRow agg size cs c K) :
    ∃ v cv, K v ∧ (part t vs.toArray c).run P w = .ok cv w ∧ Rep w Y σ v cv := by
  obtain ⟨d, hu⟩ := hund
  unfold loadRow at h
  have hlen := hr.length
  cases agg with
  | true =>
    simp only [cond_true] at h
    cases hb : Nat.ble (c + size) (lenL cs) with
    | false => simp only [hb, cond_false] at h
    | true =>
      simp only [hb, cond_true, takeL_eq, dropL_eq] at h
      have hle : c + size ≤ cs.length := by simpa using Nat.le_of_ble_eq_true hb
      refine ⟨_, .agg ((vs.drop c).take size).toArray, h, ?_, ?_⟩
      · simp only [part, Sem.run_bind, run_isAgg hu, ← hagg, Result.andThen, if_true, run_sizeOf hinfo, ← hsize]
        simp only [Sem.run_pure]
        congr 2
        apply Array.ext'
        simp [List.extract_eq_take_drop]
      · unfold Rep
        refine ⟨_, rfl, ?_⟩
        clear h hb hle hlen
        have drop : ∀ (n : Nat) (cs : List PV) (vs : List Value), RepL w Y σ cs vs → RepL w Y σ (cs.drop n) (vs.drop n) := by
          intro n; induction n with
          | zero => intro cs vs h; simpa using h
          | succ n ih =>
            intro cs vs h
            cases cs with
            | nil => unfold RepL at h; subst h; simp [RepL]
            | cons c cs => unfold RepL at h; obtain ⟨v, vs', rfl, _, h2⟩ := h; simpa using ih cs vs' h2
        have take : ∀ (n : Nat) (cs : List PV) (vs : List Value), RepL w Y σ cs vs → RepL w Y σ (cs.take n) (vs.take n) := by
          intro n; induction n with
          | zero => intro cs vs h; simp [RepL]
          | succ n ih =>
            intro cs vs h
            cases cs with
            | nil => unfold RepL at h; subst h; simp [RepL]
            | cons c cs =>
              unfold RepL at h; obtain ⟨v, vs', rfl, h1, h2⟩ := h
              simp only [List.take_succ_cons]; unfold RepL; exact ⟨v, _, rfl, h1, ih cs vs' h2⟩
        exact take size _ _ (drop c _ _ hr)
  | false =>
    simp only [cond_false] at h
    cases hb : Nat.blt c (lenL cs) with
    | false => simp only [hb, cond_false] at h
    | true =>
      simp only [hb, cond_true] at h
      have hlt : c < vs.length := by rw [hlen]; simpa [Nat.blt_eq] using hb
      have hg := hr.get _ _ c
      rw [List.getD_eq_getElem?_getD, List.getElem?_eq_getElem hlt] at hg
      refine ⟨_, vs[c], h, ?_, hg⟩
      simp only [part, Sem.run_bind, run_isAgg hu, ← hagg, Result.andThen]
      simp [hlt]

/-- every known type has an underlying one, where the program is well formed -/
def UndOK (P : Program) : Prop := ∀ t, P.info? t ≠ none → ∃ d, P.underlying t = some d

section
variable {P : Program} {T : Tab} (hT : TabOK P T) {C : Ctx T} {o : Oper} {a : Act} {w : World} {Y : Nat → Prop} {σ : Sg} {ps : List PV} {st : St} {n id : Nat} {K : PV → Dl → Prop} {lk : Nat → Option Blk}
  (H : SW C w Y σ ps a.tmps.toList st n) (hlk : ∀ b x, lk b = some x → lkS st b = some x) (hid : σ id = none ∧ T.pas ≤ id) (hU : UndOK P)

include hT H hU in
theorem op_field {t : TypeId} {x : Operand} {f : Nat} (ho : o.op = .field t x f) (h : opE T (Sig.std P T) (.field t x f) ps lk id K) : Res P C o a w σ ps st n id K := by
  have hc := ev_rep H x
  simp only [opE] at h
  split at h
  · rename_i fs e
    obtain ⟨fl, hu, rfl, _⟩ := tab_struct hT e
    split at h
    · rename_i fd hf
      rw [fieldOf_eq, List.getElem?_map] at hf
      cases hg : fl.toList[f]? with
      | none => simp [hg] at hf
      | some g =>
        simp [hg] at hf
        subst hf
        have hg' : fl[f]? = some g := by simpa using hg
        split at h
        · rename_i cs e; rw [e] at hc
          cases hp : isPos (P.cellsOf g.type) with
          | false => simp only [hp] at h; exact h.elim
          | true =>
            simp only [hp, cond_true] at h
            have hinfo := info_of_pos hp
            unfold Rep at hc; obtain ⟨vs, e', hr⟩ := hc
            obtain ⟨v, cv, hK, hrun, hrep⟩ := part_rep hinfo rfl rfl (hU _ hinfo) hr h
            refine Res.quiet H (cv := cv) ?_ hrep hK
            simp [execOp, ho, Instr.field, run_und hu, hg', e', asAgg, hrun]
        · exact h.elim
    · exact h.elim
  · exact h.elim

include hT H hU in
theorem op_index {t : TypeId} {x i : Operand} (ho : o.op = .index t x i) (h : opE T (Sig.std P T) (.index t x i) ps lk id K) : Res P C o a w σ ps st n id K := by
  have hx := ev_rep H x
  have hi := ev_rep H i
  simp only [opE] at h
  split at h
  · rename_i agg size z plain s k m e hxe hie
    rw [hxe] at hx
    have hu := tab_str hT e
    have hiv := rep_intV hi hie
    have hxv := rep_str hx
    obtain ⟨j, c, rfl, hj, h⟩ := h
    refine Res.quiet H (cv := .int .u8 c.toNat) ?_ (by simp [Rep]) h
    simp [execOp, ho, Instr.index, hiv, hxv, run_asIntOf, run_und hu, hj]
  · rename_i agg size z plain len esz ag cs k m e hxe hie
    rw [hxe] at hx
    obtain ⟨et, hu, rfl, rfl, _⟩ := tab_arr hT e
    have hiv := rep_intV hi hie
    cases hp : isPos (P.cellsOf et) with
    | false => simp only [hp] at h; exact h.elim
    | true =>
      simp only [hp, cond_true] at h
      have hinfo := info_of_pos hp
      obtain ⟨j, rfl, hj, h⟩ := h
      unfold Rep at hx; obtain ⟨vs, ex, hr⟩ := hx
      obtain ⟨v, cv, hK, hrun, hrep⟩ := part_rep hinfo rfl rfl (hU _ hinfo) hr h
      refine Res.quiet H (cv := cv) ?_ hrep hK
      have : (0 : Int) ≤ (j : Int) ∧ (j : Int) < (len : Int) := by omega
      simp [execOp, ho, Instr.index, hiv, ex, run_asIntOf, run_und hu, this, run_sizeOf hinfo, hrun]
  · exact h.elim

end

theorem bytes_beq (a b : ByteArray) : (a.toList == b.toList) = decide (a = b) := by
  rw [Bool.eq_iff_iff]
  simp only [beq_iff_eq, decide_eq_true_eq, ByteArray.toList_eq]
  obtain ⟨⟨x⟩⟩ := a
  obtain ⟨⟨y⟩⟩ := b
  simp

/-! ### equality of structs and arrays -/
def ceq : Nat → Value → Value → Option Bool
  | 0, .int k a, .int k' b => if k = k' then some (a == b) else none
  | 1, .bool a, .bool b => some (a == b)
  | 2, .string a, .string b => some (a.toList == b.toList)
  | _, _, _ => none
def ceqs : List Nat → List Value → List Value → Option Bool
  | [], [], [] => some true
  | k :: ks, x :: xs, y :: ys => match ceq k x y with
    | none => none
    | some a => match ceqs ks xs ys with
      | none => none
      | some b => some (a && b)
  | _, _, _ => none

theorem eqC_ceq {P : Program} {T : Tab} {w : World} {Y : Nat → Prop} {σ : Sg} {k : Nat} {p q : PV} {u v : Value} {b : Bool} (h : eqC (Sig.std P T) k p q = some b) (hp : Rep w Y σ p u) (hq : Rep w Y σ q v) : ceq k u v = some b := by
  unfold eqC at h
  split at h
  · split at h
    · rename_i k1 a k2 c h1 h2
      cases hk : kindEq k1 k2 with
      | false => simp [hk] at h
      | true =>
        simp only [hk, cond_true, Option.some.injEq] at h
        have := kindEq_eq hk
        subst this
        rw [rep_intV hp h1, rep_intV hq h2]
        subst h
        have : (a == c) = decide (a = c) := by rw [Bool.eq_iff_iff]; simp
        simp [ceq, Sig.std, stdCmp, this]
    · cases h
  · split at h
    · rename_i a c h1 h2
      rw [rep_boolV hp h1, rep_boolV hq h2]
      simp only [Option.some.injEq] at h
      subst h
      simp [ceq, Sig.std]
    · cases h
  · rw [rep_str hp, rep_str hq]
    simp only [Option.some.injEq] at h
    subst h
    simp [ceq, Sig.std, stdScmp, bytes_beq]
  · cases h
theorem eqCs_ceqs {P : Program} {T : Tab} {w : World} {Y : Nat → Prop} {σ : Sg} : ∀ (ks : List Nat) (ps qs : List PV) (us vs : List Value) (b : Bool), eqCs (Sig.std P T) ks ps qs = some b → RepL w Y σ ps us → RepL w Y σ qs vs → ceqs ks us vs = some b
  | [], [], [], us, vs, b, h, hp, hq => by
    unfold RepL at hp hq; subst hp; subst hq; simp [eqCs] at h; subst h; rfl
  | k :: ks, p :: ps, q :: qs, us, vs, b, h, hp, hq => by
    unfold RepL at hp hq
    obtain ⟨u, us, rfl, hp1, hp2⟩ := hp
    obtain ⟨v, vs, rfl, hq1, hq2⟩ := hq
    simp only [eqCs] at h
    cases h1 : eqC (Sig.std P T) k p q with
    | none => rw [h1] at h; cases h
    | some a =>
      rw [h1] at h
      cases h2 : eqCs (Sig.std P T) ks ps qs with
      | none => rw [h2] at h; cases h
      | some c =>
        rw [h2] at h
        simp only [Option.some.injEq] at h
        subst h
        simp only [ceqs, eqC_ceq h1 hp1 hq1, eqCs_ceqs ks ps qs us vs c h2 hp2 hq2]
        rfl
  | [], [], _ :: _, _, _, _, h, _, _ | [], _ :: _, _, _, _, _, h, _, _ | _ :: _, [], _, _, _, _, h, _, _ | _ :: _, _ :: _, [], _, _, _, h, _, _ => by simp [eqCs] at h

theorem ceqs_len : ∀ (ks : List Nat) (us vs : List Value) (b : Bool), ceqs ks us vs = some b → us.length = ks.length ∧ vs.length = ks.length
  | [], [], [], _, _ => by simp
  | k :: ks, u :: us, v :: vs, b, h => by
    simp only [ceqs] at h
    cases h1 : ceq k u v with
    | none => rw [h1] at h; cases h
    | some a =>
      rw [h1] at h
      cases h2 : ceqs ks us vs with
      | none => rw [h2] at h; cases h
      | some c => have := ceqs_len ks us vs c h2; simp [this]
  | [], [], _ :: _, _, h | [], _ :: _, _, _, h | _ :: _, [], _, _, h | _ :: _, _ :: _, [], _, h => by simp [ceqs] at h

theorem ceqs_app : ∀ (ks ls : List Nat) (us vs : List Value) (b : Bool), ceqs (ks ++ ls) us vs = some b →
    ∃ b1 b2, ceqs ks (us.take ks.length) (vs.take ks.length) = some b1 ∧ ceqs ls (us.drop ks.length) (vs.drop ks.length) = some b2 ∧ b = (b1 && b2)
  | [], ls, us, vs, b, h => ⟨true, b, by simp [ceqs], by simpa using h, by simp⟩
  | k :: ks, ls, [], vs, b, h => by simp [ceqs] at h
  | k :: ks, ls, u :: us, [], b, h => by simp [ceqs] at h
  | k :: ks, ls, u :: us, v :: vs, b, h => by
    simp only [List.cons_append, ceqs] at h
    cases h1 : ceq k u v with
    | none => rw [h1] at h; cases h
    | some a =>
      rw [h1] at h
      cases h2 : ceqs (ks ++ ls) us vs with
      | none => rw [h2] at h; cases h
      | some c =>
        rw [h2] at h
        simp only [Option.some.injEq] at h
        obtain ⟨b1, b2, e1, e2, e3⟩ := ceqs_app ks ls us vs c h2
        refine ⟨a && b1, b2, by simp [ceqs, h1, e1], by simpa using e2, ?_⟩
        rw [← h, e3, Bool.and_assoc]

/-- a value of a type, of its cells -/
def valOf (P : Program) (t : TypeId) (us : List Value) : Value := if isAggT P t then .agg us.toArray else us.headD Go.undef

theorem part_valOf {P : Program} {w : World} {t : TypeId} (hinfo : P.info? t ≠ none) (hund : ∃ d, P.underlying t = some d) {us : List Value} {c s : Nat} (hs : s = P.cellsOf t) (hle : c + s ≤ us.length) (h1 : isAggT P t = false → s = 1) :
    (part t us.toArray c).run P w = .ok (valOf P t ((us.drop c).take s)) w := by
  obtain ⟨d, hu⟩ := hund
  simp only [part, Sem.run_bind, run_isAgg hu, Result.andThen]
  unfold valOf
  cases ha : isAggT P t with
  | true =>
    simp only [if_true, Sem.run_bind, run_sizeOf hinfo, Result.andThen, Sem.run_pure, ← hs]
    congr 2
    apply Array.ext'
    simp [List.extract_eq_take_drop]
  | false =>
    have := h1 ha
    subst this
    have hlt : c < us.length := by omega
    simp only [Bool.false_eq_true, if_false]
    rw [show us.toArray[c]? = some us[c] by simp [hlt]]
    have : (us.drop c).take 1 = [us[c]] := by rw [List.drop_eq_getElem_cons hlt]; rfl
    simp [this]

theorem plain_len {P : Program} : ∀ (d : Nat) (t : TypeId) (ks : List Nat), plainT P d t = some ks → isAggT P t = false → ks.length = 1
  | 0, _, _, h, _ => by simp [plainT] at h
  | d + 1, t, ks, h, ha => by
    unfold plainT at h
    unfold isAggT at ha
    split at h
    all_goals first
      | (cases h; done)
      | (cases h; rfl)
      | (rename_i hu; simp [hu] at ha; done)

theorem repN_length : ∀ (n : Nat) (l : List Nat), (repN n l).length = n * l.length
  | 0, l => by simp [repN]
  | n + 1, l => by simp [repN, repN_length n l, Nat.add_mul]; omega

theorem equalIn_plain {P : Program} (hU : UndOK P) : ∀ (d : Nat) (t : TypeId) (ks : List Nat), plainT P d t = some ks → ∀ (D : Nat), d ≤ D → ∀ (us vs : List Value) (b : Bool), ceqs ks us vs = some b →
    ∀ w, (Op.equalIn D t (valOf P t us) (valOf P t vs)).run P w = .ok b w
  | 0, _, _, h => by simp [plainT] at h
  | d + 1, t, ks, h => by
    intro D hD us vs b hb w
    obtain ⟨D, rfl⟩ : ∃ D', D = D' + 1 := ⟨D - 1, by omega⟩
    have hD : d ≤ D := by omega
    unfold plainT at h
    have one : ∀ k, ks = [k] → ∃ u v, us = [u] ∧ vs = [v] ∧ ceq k u v = some b := by
      intro k e
      subst e
      have hl := ceqs_len _ _ _ _ hb
      match us, vs, hl with
      | [u], [v], _ =>
        simp only [ceqs] at hb
        cases h1 : ceq k u v with
        | none => rw [h1] at hb; cases hb
        | some a => rw [h1] at hb; simp at hb; subst hb; exact ⟨u, v, rfl, rfl, h1⟩
    split at h
    · rename_i hu
      cases h
      obtain ⟨u, v, rfl, rfl, hc⟩ := one 1 rfl
      have : isAggT P t = false := by simp [isAggT, hu]
      simp only [valOf, this, Bool.false_eq_true, if_false, List.headD_cons]
      unfold ceq at hc
      split at hc
      · rename_i h0; cases h0
      · simp only [Option.some.injEq] at hc; subst hc
        exact run_equalIn_bool' w D t _ _ hu
      · rename_i h0; cases h0
      · cases hc
    · rename_i k hu
      cases h
      obtain ⟨u, v, rfl, rfl, hc⟩ := one 0 rfl
      have : isAggT P t = false := by simp [isAggT, hu]
      simp only [valOf, this, Bool.false_eq_true, if_false, List.headD_cons]
      unfold ceq at hc
      split at hc
      · split at hc
        · simp only [Option.some.injEq] at hc; subst hc
          rename_i hk; subst hk
          exact run_equalIn_int w D t _ _ _ _ hu
        · cases hc
      · rename_i h0; cases h0
      · rename_i h0; cases h0
      · cases hc
    · rename_i hu
      cases h
      obtain ⟨u, v, rfl, rfl, hc⟩ := one 2 rfl
      have : isAggT P t = false := by simp [isAggT, hu]
      simp only [valOf, this, Bool.false_eq_true, if_false, List.headD_cons]
      unfold ceq at hc
      split at hc
      · rename_i h0; cases h0
      · rename_i h0; cases h0
      · simp only [Option.some.injEq] at hc; subst hc
        exact run_equalIn_string w D t _ _ hu
      · cases hc
    · rename_i fs hu
      cases hst : P.stoodInHeld t with
      | true => rw [hst] at h; cases h
      | false =>
        simp only [hst, Bool.false_eq_true, if_false] at h
        have ha : isAggT P t = true := by simp [isAggT, hu]
        simp only [valOf, ha, if_true]
        have hf : P.fieldsOf t = fs := by simp [Program.fieldsOf, hu]
        rw [run_equalIn_struct w D t _ _ (by rw [hf]; exact hu) hst, hf]
        have key : ∀ (l : List Field) (off : Nat) (ks : List Nat) (b : Bool), plainFs P (plainT P d) l off = some ks → ceqs ks (us.drop off) (vs.drop off) = some b →
            (Op.eqFields D us.toArray vs.toArray l).run P w = .ok b w := by
          intro l
          induction l with
          | nil =>
            intro off ks b h hb
            simp [plainFs] at h
            subst h
            have hb' : b = true := by
              generalize us.drop off = x at hb; generalize vs.drop off = y at hb
              cases x <;> cases y <;> simp [ceqs] at hb
              exact hb
            subst hb'
            simp [Op.eqFields]
          | cons f l ih =>
            intro off ks b h hb
            unfold plainFs at h
            split at h
            · rename_i hc
              obtain ⟨ho, hn, hi⟩ := hc
              cases hs : plainT P d f.type with
              | none => rw [hs] at h; cases h
              | some s =>
                rw [hs] at h
                simp only at h
                split at h
                · rename_i hsz0
                  obtain ⟨hsz, hpos⟩ := hsz0
                  cases hr : plainFs P (plainT P d) l (off + s.length) with
                  | none => rw [hr] at h; cases h
                  | some r =>
                    rw [hr] at h
                    simp only [Option.some.injEq] at h
                    subst h
                    obtain ⟨b1, b2, e1, e2, rfl⟩ := ceqs_app _ _ _ _ _ hb
                    rw [List.drop_drop, List.drop_drop] at e2
                    have hl := ceqs_len _ _ _ _ e1
                    have hle1 : off + s.length ≤ us.length := by
                      have := hl.1; rw [List.length_take, List.length_drop] at this
                      omega
                    have hle2 : off + s.length ≤ vs.length := by
                      have := hl.2; rw [List.length_take, List.length_drop] at this
                      omega
                    have hone : isAggT P f.type = false → s.length = 1 := fun ha => plain_len d _ _ hs ha
                    subst ho
                    simp only [Op.eqFields, ne_eq, hn, not_false_eq_true, if_true, Sem.run_bind]
                    rw [part_valOf hi (hU _ hi) hsz.symm hle1 hone]
                    simp only [Result.andThen]
                    rw [part_valOf hi (hU _ hi) hsz.symm hle2 hone]
                    simp only [Result.andThen]
                    rw [equalIn_plain hU d f.type s hs D hD _ _ b1 e1 w]
                    simp only [Result.andThen]
                    cases b1
                    · simp
                    · simpa using ih _ _ b2 hr e2
                · cases h
            · cases h
        exact key fs.toList 0 ks b h (by simpa using hb)
    · rename_i n e hu
      cases hs : plainT P d e with
      | none => rw [hs] at h; cases h
      | some s =>
        rw [hs] at h
        simp only at h
        split at h
        · rename_i hc
          obtain ⟨hsz, hi⟩ := hc
          simp only [Option.some.injEq] at h
          subst h
          have ha : isAggT P t = true := by simp [isAggT, hu]
          simp only [valOf, ha, if_true]
          cases hinf : P.info? e with
          | none => exact absurd hinf hi
          | some inf =>
          rw [run_equalIn_array w D us.toArray vs.toArray hu hinf]
          have hone : isAggT P e = false → s.length = 1 := fun ha => plain_len d _ _ hs ha
          have hl := ceqs_len _ _ _ _ hb
          rw [repN_length] at hl
          have key : ∀ (m i : Nat) (b : Bool), i + m = n → ceqs (repN m s) (us.drop (i * s.length)) (vs.drop (i * s.length)) = some b →
              (Op.eqItems D e (P.cellsOf e) us.toArray vs.toArray (List.range' i m)).run P w = .ok b w := by
            intro m
            induction m with
            | zero =>
              intro i b _ hb
              have hb' : b = true := by
                simp only [repN] at hb
                generalize us.drop (i * s.length) = x at hb; generalize vs.drop (i * s.length) = y at hb
                cases x <;> cases y <;> simp [ceqs] at hb
                exact hb
              subst hb'
              simp [Op.eqItems]
            | succ m ih =>
              intro i b him hb
              simp only [repN] at hb
              obtain ⟨b1, b2, e1, e2, rfl⟩ := ceqs_app _ _ _ _ _ hb
              rw [List.drop_drop, List.drop_drop] at e2
              have hb1 : i * s.length + s.length ≤ n * s.length := by
                have := Nat.mul_le_mul_right s.length (show i + 1 ≤ n by omega)
                rw [Nat.add_mul] at this; omega
              simp only [List.range'_succ, Op.eqItems, Sem.run_bind, hsz]
              rw [part_valOf hi (hU _ hi) hsz.symm (by omega) hone]
              simp only [Result.andThen]
              rw [part_valOf hi (hU _ hi) hsz.symm (by omega) hone]
              simp only [Result.andThen]
              rw [equalIn_plain hU d e s hs D hD _ _ b1 e1 w]
              simp only [Result.andThen]
              cases b1
              · simp
              · have := ih (i + 1) b2 (by omega) (by rw [Nat.add_mul, Nat.one_mul]; exact e2)
                rw [hsz] at this
                simpa using this
          have := key n 0 b (by omega) (by simpa using hb)
          rw [List.range_eq_range']
          exact this
        · cases h
    · cases h
end Go.Pv
