/-
  Pv, part 11: binary operations; len, min, max.
-/
import Derived.Test.YtlelpgnmmbbfaaaPvOps6
namespace Go.Pv
open Go
set_option linter.all false

section
variable {P : Program} {T : Tab} (hT : TabOK P T) {C : Ctx T} {o : Oper} {a : Act} {w : World} {Y : Nat → Prop} {σ : Sg} {ps : List PV} {st : St} {n id : Nat} {K : PV → Dl → Prop} {lk : Nat → Option Blk}
  (H : SW C w Y σ ps a.tmps.toList st n) (hlk : ∀ b x, lk b = some x → lkS st b = some x) (hid : σ id = none ∧ T.pas ≤ id) (hU : UndOK P)

theorem guard_scalar {P : Program} {w : World} {op : BinOp} {t : TypeId} {x y : Operand} {u v : Value} (h : ∀ cs, u ≠ .agg cs) (h2 : u ≠ .nilIface) : (eqGuard op t x y u v).run P w = .ok () w := by
  have e : eqGuard op t x y u v = pure () := by
    cases u <;> first | exact absurd rfl (h _) | exact absurd rfl h2 | (cases op <;> rfl)
  rw [e]
  simp

theorem int_arith_run {P : Program} {w : World} {op : BinOp} {t : TypeId} {k : IntKind} {m c : Int} (h : isArith op = true) : (binOp op t (.int k m) (.int k c)).run P w = .ok (.int k (stdBin op k m c)) w := by
  cases op <;> simp [isArith] at h <;> simp [binOp, Op.intArith, Op.intBits, stdBin]
theorem int_cmp_run {P : Program} {w : World} {op : BinOp} {t : TypeId} {k : IntKind} {m c : Int} (h : isCmp op = true) : (binOp op t (.int k m) (.int k c)).run P w = .ok (.bool (stdCmp op m c)) w := by
  have e : (m == c) = decide (m = c) := by rw [Bool.eq_iff_iff]; simp
  cases op <;> simp [isCmp] at h <;> simp [binOp, Op.intCmp, stdCmp, e, bne]

theorem bool_run {P : Program} {w : World} {t : TypeId} {b c : Bool} (hu : P.underlying t = some .bool) :
    (binOp .eql t (.bool b) (.bool c)).run P w = .ok (.bool (b == c)) w ∧ (binOp .neq t (.bool b) (.bool c)).run P w = .ok (.bool (!(b == c))) w := by
  constructor <;> simp [binOp, run_equal_bool w t b c hu]

theorem plain_bool {P : Program} {t : TypeId} : ∀ {d : Nat}, plainT P d t = some [1] → isAggT P t = false → P.underlying t = some .bool
  | 0, h, _ => by simp [plainT] at h
  | d + 1, h, ha => by
    unfold plainT at h
    unfold isAggT at ha
    split at h
    all_goals first
      | assumption
      | (cases h; done)
      | (rename_i hu; simp [hu] at ha; done)

theorem beqf (b : Bool) : (b == false) = !b := by cases b <;> rfl

theorem ptr_run {P : Program} {w : World} {t e : TypeId} {p q : Option Addr} (hu : P.underlying t = some (.pointer e)) (h : p = none ∨ q = none) :
    (binOp .eql t (.pointer p) (.pointer q)).run P w = .ok (.bool (p.isNone && q.isNone)) w ∧ (binOp .neq t (.pointer p) (.pointer q)).run P w = .ok (.bool (!(p.isNone && q.isNone))) w := by
  have key : (Op.equal t (.pointer p) (.pointer q)).run P w = .ok (p.isNone && q.isNone) w := by
    unfold Op.equal Op.maxDepth
    unfold Op.equalIn
    simp only [Sem.run_bind, run_und hu, Result.andThen]
    rcases h with rfl | rfl
    · cases q <;> simp
    · cases p <;> simp
  constructor <;> simp [binOp, key]

theorem nilslice_run {P : Program} {w : World} {t e : TypeId} {x : Option Addr} {len cap : Nat} (hu : P.underlying t = some (.slice e)) :
    (binOp .eql t (.slice x len cap) (.slice none 0 0)).run P w = .ok (.bool x.isNone) w ∧ (binOp .neq t (.slice x len cap) (.slice none 0 0)).run P w = .ok (.bool (!x.isNone)) w := by
  have key : (Op.equal t (.slice x len cap) (.slice none 0 0)).run P w = .ok x.isNone w := by
    unfold Op.equal Op.maxDepth
    unfold Op.equalIn
    simp only [Sem.run_bind, run_und hu, Result.andThen]
    cases x <;> simp
  constructor <;> simp [binOp, key]
theorem nilC_eq {x : Operand} (h : nilC x = true) : x = .const (.slice none 0 0) := by
  unfold nilC at h
  split at h
  · rfl
  · cases h
include hT H hU in
theorem op_nilq {op : BinOp} {t u : TypeId} {x y : Operand} (ho : o.op = .binOp op t x y u) (hy : nilC y = true) (h : opE T (Sig.std P T) (.binOp op t x y u) ps lk id K) : Res P C o a w σ ps st n id K := by
  have hx := ev_rep H x
  have hy' := nilC_eq hy
  subst hy'
  simp only [opE] at h
  rw [hy] at h
  simp only at h
  split at h
  · rename_i agg size z plain sz bytes z' e
    obtain ⟨el, hu, _⟩ := tab_slice hT e
    split at h
    · rename_i sz' es full hp
      rw [hp] at hx
      unfold Rep at hx
      obtain ⟨ad, len, cap, ev, hl, _, _, hes⟩ := hx
      have hb := h ad.isNone (fun hn => by
        rcases hes with h | ⟨b, o', e, _⟩
        · exact h
        · rw [e] at hn; cases hn)
      have hev : a.eval (.const (.slice none 0 0)) = .slice none 0 0 := rfl
      obtain ⟨r1, r2⟩ := nilslice_run (P := P) (w := w) (x := ad) (len := len) (cap := cap) hu
      have n1 : ∀ cs, a.eval x ≠ .agg cs := by rw [ev]; intro cs e; cases e
      have n2 : a.eval x ≠ .nilIface := by rw [ev]; intro e; cases e
      have fin : ∀ {v : PV} {cv : Value}, (binOp op t (a.eval x) (a.eval (.const (.slice none 0 0)))).run P w = .ok cv w → Rep w Y σ v cv → K v [] → Res P C o a w σ ps st n id K := by
        intro v cv hr hv hK
        refine Res.quiet H (cv := cv) ?_ hv hK
        simp [execOp, ho, guard_scalar n1 n2, hr]
      unfold eqL at hb
      cases g1 : isEql op with
      | true =>
        rw [g1] at hb
        have : op = .eql := by cases op <;> simp [isEql] at g1 <;> rfl
        subst this
        exact fin (by rw [ev, hev]; exact r1) (by simp [Rep]) hb
      | false =>
        rw [g1] at hb
        cases g2 : isNeq op with
        | true =>
          rw [g2] at hb
          have : op = .neq := by cases op <;> simp [isNeq] at g2 <;> rfl
          subst this
          cases hn : ad.isNone with
          | true => rw [hn] at hb r2; exact fin (by rw [ev, hev]; exact r2) (by simp [Rep]) hb
          | false => rw [hn] at hb r2; exact fin (by rw [ev, hev]; exact r2) (by simp [Rep]) hb
        | false => rw [g2] at hb; exact hb.elim
    · exact h.elim
  · exact h.elim
include hT H hU in
theorem op_binOp {op : BinOp} {t u : TypeId} {x y : Operand} (ho : o.op = .binOp op t x y u) (h : opE T (Sig.std P T) (.binOp op t x y u) ps lk id K) : Res P C o a w σ ps st n id K := by
  cases hnil : nilC y with
  | true => exact op_nilq hT H hU ho hnil h
  | false =>
  have hx := ev_rep H x
  have hy := ev_rep H y
  simp only [opE] at h
  rw [hnil] at h
  simp only at h
  generalize evL T ps x = p at hx h
  generalize evL T ps y = q at hy h
  have fin : ∀ {v : PV} {cv : Value}, (∀ cs, a.eval x ≠ .agg cs) → a.eval x ≠ .nilIface → (binOp op t (a.eval x) (a.eval y)).run P w = .ok cv w → Rep w Y σ v cv → K v [] → Res P C o a w σ ps st n id K := by
    intro v cv h1 h2 hr hv hK
    refine Res.quiet H (cv := cv) ?_ hv hK
    simp [execOp, ho, guard_scalar h1 h2, hr]
  have special : ∀ {k k' : IntKind} {m c : Int}, a.eval x = .int k m → a.eval y = .int k' c → binS (Sig.std P T) op k m k' c (fun v => K v []) → Res P C o a w σ ps st n id K := by
    intro k k' m c e1 e2 h
    have n1 : ∀ cs, a.eval x ≠ .agg cs := by rw [e1]; intro cs e; cases e
    have n2 : a.eval x ≠ .nilIface := by rw [e1]; intro e; cases e
    unfold binS at h
    split at h
    · obtain ⟨h0, h⟩ := h
      refine fin n1 n2 ?_ (by simp [Rep]; rfl) h
      rw [e1, e2]
      have : ¬ c < 0 := by omega
      simp [binOp, Op.shift, this]
    · obtain ⟨h0, h⟩ := h
      refine fin n1 n2 ?_ (by simp [Rep]; rfl) h
      rw [e1, e2]
      have : ¬ c < 0 := by omega
      simp [binOp, Op.shift, this]
    · cases hk : kindEq k k' with
      | false => rw [hk] at h; exact h.elim
      | true =>
        rw [hk] at h
        have := kindEq_eq hk; subst this
        obtain ⟨h0, h⟩ := h
        refine fin n1 n2 ?_ (by simp [Rep]; rfl) h
        rw [e1, e2]
        simp [binOp, Op.intDiv, h0]
    · cases hk : kindEq k k' with
      | false => rw [hk] at h; exact h.elim
      | true =>
        rw [hk] at h
        have := kindEq_eq hk; subst this
        obtain ⟨h0, h⟩ := h
        refine fin n1 n2 ?_ (by simp [Rep]; rfl) h
        rw [e1, e2]
        simp [binOp, Op.intDiv, h0]
    · exact h.elim
  have intsAll : ∀ {k k' : IntKind} {m c : Int} (mk : Int → PV) (mb : Bool → PV), (∀ v, Rep w Y σ (mk v) (.int k v)) → (∀ b, Rep w Y σ (mb b) (.bool b)) → a.eval x = .int k m → a.eval y = .int k' c →
      (bif isSpec op then binS (Sig.std P T) op k m k' c (fun v => K v []) else bif kindEq k k' then (bif isArith op then K (mk (stdBin op k m c)) [] else bif isCmp op then K (mb (stdCmp op m c)) [] else False) else False) → Res P C o a w σ ps st n id K := by
    intro k k' m c mk mb h1 h2 e1 e2 h
    cases hs : isSpec op with
    | true => rw [hs] at h; exact special e1 e2 h
    | false =>
    rw [hs] at h
    simp only [cond_false] at h
    cases hk : kindEq k k' with
    | false => rw [hk] at h; exact h.elim
    | true =>
      rw [hk] at h
      have := kindEq_eq hk; subst this
      simp only [cond_true] at h
      have n1 : ∀ cs, a.eval x ≠ .agg cs := by rw [e1]; intro cs e; cases e
      have n2 : a.eval x ≠ .nilIface := by rw [e1]; intro e; cases e
      cases ha : isArith op with
      | true =>
        rw [ha] at h
        exact fin n1 n2 (by rw [e1, e2]; exact int_arith_run ha) (h1 _) h
      | false =>
        rw [ha] at h
        cases hc : isCmp op with
        | true =>
          rw [hc] at h
          exact fin n1 n2 (by rw [e1, e2]; exact int_cmp_run hc) (h2 _) h
        | false => rw [hc] at h; exact h.elim
  have eqs : ∀ {b : Bool}, (∀ {v : PV} {cv : Value}, (binOp op t (a.eval x) (a.eval y)).run P w = .ok cv w → Rep w Y σ v cv → K v [] → Res P C o a w σ ps st n id K) →
      (binOp .eql t (a.eval x) (a.eval y)).run P w = .ok (.bool b) w → (binOp .neq t (a.eval x) (a.eval y)).run P w = .ok (.bool (!b)) w → eqK (Sig.std P T) op b (fun v => K v []) → Res P C o a w σ ps st n id K := by
    intro b fin e1 e2 hh
    unfold eqK at hh
    cases h1 : isEql op with
    | true =>
      rw [h1] at hh
      have : op = .eql := by cases op <;> simp [isEql] at h1 <;> rfl
      subst this
      exact fin e1 (by simp [Rep]) hh
    | false =>
      rw [h1] at hh
      cases h2 : isNeq op with
      | true =>
        rw [h2] at hh
        have : op = .neq := by cases op <;> simp [isNeq] at h2 <;> rfl
        subst this
        exact fin e2 (by simp [Rep, Sig.std]) hh
      | false => rw [h2] at hh; exact hh.elim
  split at h
  · rename_i ti agg size z plain kind e
    unfold binE at h
    split at h
    · exact intsAll (fun v => .int _ v) (fun b => .bool b) (fun v => by simp [Rep]) (fun b => by simp [Rep]) (rep_int hx) (rep_int hy) h
    · rename_i s1 s2
      have e1 := rep_str hx; have e2 := rep_str hy
      have n1 : ∀ cs, a.eval x ≠ .agg cs := by rw [e1]; intro cs e; cases e
      have n2 : a.eval x ≠ .nilIface := by rw [e1]; intro e; cases e
      cases h1 : isAdd op with
      | true =>
        rw [h1] at h
        have : op = .add := by cases op <;> simp [isAdd] at h1 <;> rfl
        subst this
        obtain ⟨hle, h⟩ := h
        refine fin n1 n2 (cv := .string (s1 ++ s2)) ?_ (by simp [Rep]) h
        rw [e1, e2]
        have hb : ¬ (((s1.size + s2.size : Nat) : Int) > IntKind.i64.max) := by
          have : IntKind.i64.max = 9223372036854775807 := by decide
          rw [this]; omega
        simp only [binOp, Op.stringOp]
        rw [if_neg hb]
        simp
      | false =>
        rw [h1] at h
        cases h2 : isCmp op with
        | true =>
          rw [h2] at h
          refine fin n1 n2 (cv := .bool (stdScmp op s1 s2)) ?_ (by simp [Rep]; rfl) h
          rw [e1, e2]
          cases op <;> simp [isCmp] at h2 <;> simp [binOp, Op.stringOp, stdScmp, bytes_beq]
        | false => rw [h2] at h; exact h.elim
    · rename_i xs ys
      split at h
      · rename_i size z ks kind e
        split at h
        · rename_i b hb
          obtain ⟨i, d, h1, h2, h3, h4, h5, h6, h7, h8⟩ := tab_open hT e rfl
          simp only at h7 h4
          have hg : P.eqGuardType P.depth t = false := by
            cases hg : P.eqGuardType P.depth t with
            | true => rw [hg] at h7; simp at h7
            | false => rfl
          rw [hg] at h7
          simp only [Bool.false_eq_true, if_false] at h7
          unfold Rep at hx hy
          obtain ⟨us, e1, hu⟩ := hx
          obtain ⟨vs, e2, hv⟩ := hy
          have hc := eqCs_ceqs ks xs ys us vs b hb hu hv
          have heq := equalIn_plain hU 20 t ks h7.symm 10000 (by omega) us vs b hc w
          rw [show valOf P t us = .agg us.toArray by simp [valOf, ← h4], show valOf P t vs = .agg vs.toArray by simp [valOf, ← h4]] at heq
          refine eqs (b := b) (fun {v cv} hr hv hK => Res.quiet H (cv := cv) ?_ hv hK) ?_ ?_ h
          · rw [e1, e2] at hr
            simp [execOp, ho, e1, e2, run_eqGuard_agg w op t x y us.toArray vs.toArray hg, hr]
          · rw [e1, e2, run_eql_struct, heq]; rfl
          · rw [e1, e2, run_neq_struct, heq]; rfl
        · exact h.elim
      · exact h.elim
    · split at h
      · rename_i k m k' c h1 h2
        exact intsAll (fun v => .si _ v) (fun b => .sb b) (fun v => by simp [Rep]) (fun b => by simp [Rep]) (rep_intV hx h1) (rep_intV hy h2) h
      · split at h
        · rename_i b c h1 h2
          have e1 := rep_boolV hx h1; have e2 := rep_boolV hy h2
          have n1 : ∀ cs, a.eval x ≠ .agg cs := by rw [e1]; intro cs e; cases e
          have n2 : a.eval x ≠ .nilIface := by rw [e1]; intro e; cases e
          split at h
          · rename_i size2 z2 kind2 e3
            obtain ⟨i, d, g1, g2, g3, g4, g5, g6, g7, g8⟩ := tab_open hT e3 rfl
            simp only at g7 g4
            have hg : P.eqGuardType P.depth t = false := by
              cases hg : P.eqGuardType P.depth t with
              | true => rw [hg] at g7; simp at g7
              | false => rfl
            rw [hg] at g7
            simp only [Bool.false_eq_true, if_false] at g7
            have hu := plain_bool g7.symm g4.symm
            obtain ⟨r1, r2⟩ := bool_run (P := P) (w := w) (b := b) (c := c) hu
            exact eqs (b := b == c) (fun {v cv} hr hv hK => fin n1 n2 hr hv hK) (by rw [e1, e2]; exact r1) (by rw [e1, e2]; exact r2) h
          · exact h.elim
        · split at h
          · rename_i agg2 size2 z2 plain2 e3
            obtain ⟨e, hu⟩ := tab_ptr hT e3
            have nilq : ∀ (r : PV) (v : Value), isNilP r = true → Rep w Y σ r v → v = .pointer none := by
              intro r v h1 h2; cases r <;> simp [isNilP] at h1; unfold Rep at h2; exact h2
            have ptrq : ∀ (r : PV) (v : Value), isPtrP r = true → Rep w Y σ r v → ∃ x, v = .pointer (some x) := by
              intro r v h1 h2; cases r <;> simp [isPtrP] at h1 <;> unfold Rep at h2
              · obtain ⟨_, _, e⟩ := h2; exact ⟨_, e⟩
              · obtain ⟨_, _, e⟩ := h2; exact ⟨_, e⟩
              · obtain ⟨_, _, e, _⟩ := h2; exact ⟨_, e⟩
              · exact ⟨_, h2⟩
            have go : ∀ (p' q' : Option Addr) (b : Bool), a.eval x = .pointer p' → a.eval y = .pointer q' → (p' = none ∨ q' = none) → (p'.isNone && q'.isNone) = b → eqL op b (fun v => K v []) → Res P C o a w σ ps st n id K := by
              intro p' q' b e1 e2 hn hb hh
              have n1 : ∀ cs, a.eval x ≠ .agg cs := by rw [e1]; intro cs e; cases e
              have n2 : a.eval x ≠ .nilIface := by rw [e1]; intro e; cases e
              obtain ⟨r1, r2⟩ := ptr_run (P := P) (w := w) hu hn
              rw [hb] at r1 r2
              clear h
              unfold eqL at hh
              cases g1 : isEql op with
              | true =>
                rw [g1] at hh
                have : op = .eql := by cases op <;> simp [isEql] at g1 <;> rfl
                subst this
                exact fin n1 n2 (by rw [e1, e2]; exact r1) (by simp [Rep]) hh
              | false =>
                rw [g1] at hh
                cases g2 : isNeq op with
                | true =>
                  rw [g2] at hh
                  have : op = .neq := by cases op <;> simp [isNeq] at g2 <;> rfl
                  subst this
                  cases b with
                  | true => exact fin n1 n2 (by rw [e1, e2]; exact r2) (by simp [Rep]) hh
                  | false => exact fin n1 n2 (by rw [e1, e2]; exact r2) (by simp [Rep]) hh
                | false => rw [g2] at hh; exact hh.elim
            cases c1 : (isNilP p && isNilP q) with
            | true =>
              rw [c1] at h
              rw [Bool.and_eq_true] at c1
              exact go none none true (nilq _ _ c1.1 hx) (nilq _ _ c1.2 hy) (.inl rfl) rfl h
            | false =>
              rw [c1] at h
              simp only [cond_false] at h
              cases c2 : ((isNilP p && isPtrP q) || (isPtrP p && isNilP q)) with
              | true =>
                rw [c2] at h
                rw [Bool.or_eq_true, Bool.and_eq_true, Bool.and_eq_true] at c2
                rcases c2 with ⟨d1, d2⟩ | ⟨d1, d2⟩
                · obtain ⟨z, ez⟩ := ptrq _ _ d2 hy
                  exact go none (some z) false (nilq _ _ d1 hx) ez (.inl rfl) rfl h
                · obtain ⟨z, ez⟩ := ptrq _ _ d1 hx
                  exact go (some z) none false ez (nilq _ _ d2 hy) (.inr rfl) rfl h
              | false => rw [c2] at h; exact h.elim
          · exact h.elim
  · exact h.elim
end
end Go.Pv
