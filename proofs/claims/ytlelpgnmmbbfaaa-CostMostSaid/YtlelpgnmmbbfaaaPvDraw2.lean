/-
  Pv, part 20b: regions whose order is drawn: every order comes to the same.
-/
import Derived.Test.YtlelpgnmmbbfaaaPvDraw
namespace Go.Pv
open Go
set_option linter.all false

section
variable {P : Program} {T : Tab}

/-! ### the trace in the order of the text -/
structure Rec where
  e1 : List PV
  er : List PV
  lk : Nat → Option Blk
  v : PV
  δ : Dl
  id : Nat
  big : Bool
  wb : Bool
  nd : Bool

def keysD (δ : Dl) (b : Nat) : Prop := ∃ x, (b, x) ∈ δ

structure StepOK (P : Program) (T : Tab) (all : Array Oper) (o : Oper) (r : Rec) (p : List PV) (st : St) (nx : Nat) (pend : List Nat) : Prop where
  e1 : EqvL p r.e1
  er : EqvL p r.er
  gd : SemGd T all o r.e1 r.wb
  sem : r.wb = true → r.nd = false → SemX P T all o r.er r.lk r.id r.v r.δ r.big
  ndw : r.nd = true → r.wb = true ∧ r.big = true
  skip : r.wb = false → r.v = .undef
  cls : (r.big = false ∧ r.δ = [] ∧ (r.wb = true → ∀ b x, r.lk b = some x → clsO T o.op = 3 ∧ b ∉ pend ∧ lkS st b = some x)) ∨
    (r.wb = true ∧ r.big = true ∧ r.id = nx ∧ clsO T o.op = 1 ∧ (∃ x, r.δ = [(nx, some x)]) ∧ r.lk = noLk) ∨
    (r.wb = true ∧ r.big = true ∧ r.id = nx ∧ clsO T o.op = 2 ∧ (∀ b, keysD r.δ b → b < nx + 32) ∧ r.lk = lkS st)

def bump (b : Bool) (n : Nat) : Nat := match b with | true => n + 32 | false => n
def pendN (T : Tab) (o : Oper) (r : Rec) (pend : List Nat) : List Nat := match r.big with
  | false => pend
  | true => if clsO T o.op = 1 then r.id :: pend else []

def ChD (P : Program) (T : Tab) (all : Array Oper) : List Oper → List Rec → List PV → St → Nat → List Nat → List PV → St → Nat → Prop
  | [], [], p, st, nx, _, f, stf, nxf => p = f ∧ st = stf ∧ nx = nxf
  | o :: l, r :: rs, p, st, nx, pend, f, stf, nxf => StepOK P T all o r p st nx pend ∧ ChD P T all l rs (putT r.er o.dst r.v) (applyD r.δ st) (bump r.big nx) (pendN T o r pend) f stf nxf
  | _, _, _, _, _, _, _, _, _ => False

/-- what the last operation leaves -/
def FinD (P : Program) (T : Tab) (all : Array Oper) (K : Env → Prop) : List Oper → List Rec → St → List PV → St → Nat → Prop
  | o :: l, r :: rs, st, f, stf, nxf => (r.nd = true → l = [] ∧ rs = [] ∧ lastOK all = true ∧ nxf = r.id + 32 ∧ opE T (Sig.std P T) o.op r.er (lkS st) r.id (fun v δ => bif ltD (r.id + 32) δ then K ⟨putT r.er o.dst v, applyD δ st, r.id + 32⟩ else False))
    ∧ (r.nd = false → FinD P T all K l rs (applyD r.δ st) f stf nxf)
  | [], [], _, f, stf, nxf => K ⟨f, stf, nxf⟩
  | _, _, _, _, _, _ => False

theorem ltD_spec {n : Nat} : ∀ (δ : Dl), ltD n δ = true → ∀ b, keysD δ b → b < n
  | [], _, b, h => by obtain ⟨x, h⟩ := h; cases h
  | (c, y) :: δ, h, b, hb => by
    simp only [ltD, Bool.and_eq_true, Nat.blt_eq] at h
    obtain ⟨x, hb⟩ := hb
    rcases List.mem_cons.1 hb with e | hb
    · cases e; exact h.1
    · exact ltD_spec δ h.2 b ⟨x, hb⟩

theorem hideD_spec {pend : List Nat} {lk : Nat → Option Blk} {b : Nat} {x : Blk} (h : hideD pend lk b = some x) : b ∉ pend ∧ lk b = some x := by
  unfold hideD at h
  cases hb : hasN pend b with
  | true => rw [hb] at h; cases h
  | false => rw [hb] at h; exact ⟨(fun hm => by rw [(hasN_iff _ _).2 hm] at hb; cases hb), h⟩

theorem ndO_one {o : Op} {ps : List PV} {lk : Nat → Option Blk} (h : clsO T o = 1) : ndO T ps lk o = false := by cases o <;> simp [ndO, clsO] at h ⊢

theorem opsD_chain (hT : TabOK P T) (hW : PWf P) {all : Array Oper} : ∀ (l : List Oper) (pend : List Nat) (E : Env) (K : Env → Prop), opsD T (Sig.std P T) all l pend E K →
    ∃ rs f stf nxf, ChD P T all l rs E.tmps E.st E.next pend f stf nxf ∧ FinD P T all K l rs E.st f stf nxf
  | [], pend, E, K, h => ⟨[], E.tmps, E.st, E.next, ⟨rfl, rfl, rfl⟩, h⟩
  | o :: l, pend, E, K, h => by
    simp only [opsD] at h
    obtain ⟨E1, wb, h1, h2, h3, h4, h5, h6⟩ := gd_split h
    cases wb with
    | false =>
      have k5 := h6 rfl
      rw [putE_eq, h2, h3] at k5
      obtain ⟨rs, f, stf, nxf, hc, hK⟩ := opsD_chain hT hW l pend _ _ k5
      exact ⟨⟨E1.tmps, E1.tmps, noLk, .undef, [], 0, false, false, false⟩ :: rs, f, stf, nxf, ⟨⟨h1, h1, h4, (fun e => by cases e), (fun e => by cases e), (fun _ => rfl), .inl ⟨rfl, rfl, fun e => by cases e⟩⟩, hc⟩, (fun e => by cases e), fun _ => hK⟩
    | true =>
      have h5 := h5 rfl
      unfold stepL at h5
      cases hnd : ndO T E1.tmps (lkS E1.st) o.op with
      | true =>
        rw [hnd] at h5
        cases l with
        | cons _ _ => exact h5.elim
        | nil =>
            obtain ⟨hlo, h5⟩ := h5
            obtain ⟨v, δ, hk⟩ := opE_some hnd h5
            cases hi : ltD (E1.next + 32) δ with
            | false => rw [hi] at hk; exact hk.elim
            | true =>
              have hcl : clsO T o.op = 2 := by
                revert hnd
                cases o.op <;> simp [ndO, clsO]
              refine ⟨[⟨E1.tmps, E1.tmps, lkS E1.st, v, δ, E1.next, true, true, true⟩], _, _, _, ⟨⟨h1, h1, h4, (fun _ e => by cases e), (fun _ => ⟨rfl, rfl⟩), (fun e => by cases e), .inr (.inr ⟨rfl, rfl, h3, hcl, ?_, by rw [h2]⟩)⟩, rfl, rfl, rfl⟩, fun _ => ⟨rfl, rfl, hlo, by simp [bump, h3], ?_⟩, fun e => by cases e⟩
              · rw [← h3]; exact ltD_spec δ hi
              · simp only [putE_eq, h2] at h5; exact h5
      | false =>
      rw [hnd] at h5
      simp only at h5
      unfold stepD at h5
      have quiet : ∀ lk, (clsO T o.op = 0 ∧ lk = noLk ∨ clsO T o.op = 3 ∧ lk = hideD pend (lkS E1.st)) → stepQ T (Sig.std P T) o lk E1 (fun E => opsD T (Sig.std P T) all l pend E K) →
          ∃ rs f stf nxf, ChD P T all (o :: l) rs E.tmps E.st E.next pend f stf nxf ∧ FinD P T all K (o :: l) rs E.st f stf nxf := by
        intro lk hlk hs
        obtain ⟨E2, v, k1, k2, k3, k4, k5⟩ := stepQ_split hT hW (all := all) 0 hs
        rw [putE_eq, k2, k3, h2, h3] at k5
        obtain ⟨rs, f, stf, nxf, hc, hK⟩ := opsD_chain hT hW l pend _ _ k5
        refine ⟨⟨E1.tmps, E2.tmps, lk, v, [], 0, false, true, false⟩ :: rs, f, stf, nxf, ⟨⟨h1, h1.trans k1, h4, fun _ _ => k4, (fun e => by cases e), (fun e => by cases e), .inl ⟨rfl, rfl, fun _ b x hb => ?_⟩⟩, hc⟩, (fun e => by cases e), fun _ => hK⟩
        rcases hlk with ⟨c0, rfl⟩ | ⟨c3, rfl⟩
        · cases hb
        · obtain ⟨a1, a2⟩ := hideD_spec hb
          rw [h2] at a2
          exact ⟨c3, a1, a2⟩
      split at h5
      · rename_i hc; exact quiet noLk (.inl ⟨hc, rfl⟩) h5
      · rename_i hc
        obtain ⟨v, δ, hk, hf⟩ := opW_det (.inl hc) (ndO_one hc) h5
        split at hk
        · rename_i id x
          cases hi : Nat.beq id E1.next with
          | false => rw [hi] at hk; exact hk.elim
          | true =>
            rw [hi] at hk
            simp only [cond_true] at hk
            have hid := Nat.eq_of_beq_eq_true hi
            subst hid
            rw [putE_eq, h2, h3] at hk
            obtain ⟨rs, f, stf, nxf, hc2, hK⟩ := opsD_chain hT hW l _ _ _ hk
            refine ⟨⟨E1.tmps, E1.tmps, noLk, v, [(E1.next, some x)], E1.next, true, true, false⟩ :: rs, f, stf, nxf, ⟨⟨h1, h1, h4, fun _ _ => ?_, (fun e => by cases e), (fun e => by cases e), .inr (.inl ⟨rfl, rfl, h3, hc, ⟨x, by rw [h3]⟩, rfl⟩)⟩, ?_⟩, (fun e => by cases e), fun _ => ?_⟩
            · exact semX_W hT hW (fun e => by cases e) hf
            · simp only [applyD, bump, pendN, hc, if_true, h3]; exact hc2
            · simp only [applyD, h3]; exact hK
        · exact hk.elim
      · rename_i hc
        obtain ⟨v, δ, hk, hf⟩ := opW_det (.inr hc) hnd h5
        cases hi : ltD (E1.next + 32) δ with
        | false => rw [hi] at hk; exact hk.elim
        | true =>
          rw [hi] at hk
          simp only [cond_true] at hk
          rw [putE_eq, h2, h3] at hk
          obtain ⟨rs, f, stf, nxf, hc2, hK⟩ := opsD_chain hT hW l _ _ _ hk
          refine ⟨⟨E1.tmps, E1.tmps, lkS E1.st, v, δ, E1.next, true, true, false⟩ :: rs, f, stf, nxf, ⟨⟨h1, h1, h4, fun _ _ => ?_, (fun e => by cases e), (fun e => by cases e), .inr (.inr ⟨rfl, rfl, h3, hc, ?_, by rw [h2]⟩)⟩, ?_⟩, (fun e => by cases e), fun _ => hK⟩
          · exact semX_W hT hW (fun _ => rfl) hf
          · rw [← h3]; exact ltD_spec δ hi
          · simp only [bump, pendN, hc, h3]; exact hc2
      · rename_i hc; exact quiet _ (.inr ⟨hc, rfl⟩) h5
      · exact h5.elim

theorem ChD.len {all : Array Oper} : ∀ (l : List Oper) (rs : List Rec) {p : List PV} {st : St} {nx : Nat} {pend : List Nat} {f : List PV} {stf : St} {nxf : Nat}, ChD P T all l rs p st nx pend f stf nxf → rs.length = l.length ∧ f.length = p.length
  | [], [], _, _, _, _, _, _, _, h => ⟨rfl, by rw [h.1]⟩
  | o :: l, r :: rs, _, _, _, _, _, _, _, h => by
    obtain ⟨h1, h2⟩ := ChD.len l rs h.2
    exact ⟨by simp [h1], by rw [h2, putT_length, h.1.er.1]⟩
  | [], _ :: _, _, _, _, _, _, _, _, h => h.elim
  | _ :: _, [], _, _, _, _, _, _, _, h => h.elim
theorem ChD.keep {all : Array Oper} {t : Nat} : ∀ (l : List Oper) (rs : List Rec) {p : List PV} {st : St} {nx : Nat} {pend : List Nat} {f : List PV} {stf : St} {nxf : Nat}, ChD P T all l rs p st nx pend f stf nxf → (∀ o ∈ l, o.dst ≠ some t) → Eqv (getL p t) (getL f t)
  | [], [], _, _, _, _, _, _, _, h, _ => by rw [h.1]; exact Eqv.refl _
  | o :: l, r :: rs, _, _, _, _, _, _, _, h, hn => by
    have := ChD.keep l rs h.2 fun o ho => hn o (by simp [ho])
    rw [putT_ne (hn o (by simp))] at this
    exact (h.1.er.2 t).trans this
  | [], _ :: _, _, _, _, _, _, _, _, h, _ => h.elim
  | _ :: _, [], _, _, _, _, _, _, _, h, _ => h.elim

def stAt : List Rec → St → Nat → St
  | _, st, 0 => st
  | [], st, _ + 1 => st
  | r :: rs, st, i + 1 => stAt rs (applyD r.δ st) i
def nxAt : List Rec → Nat → Nat → Nat
  | _, n, 0 => n
  | [], n, _ + 1 => n
  | r :: rs, n, i + 1 => nxAt rs (bump r.big n) i
def pendAt (T : Tab) : List Oper → List Rec → List Nat → Nat → List Nat
  | _, _, pd, 0 => pd
  | o :: l, r :: rs, pd, i + 1 => pendAt T l rs (pendN T o r pd) i
  | _, _, pd, _ => pd

/-- what is known of the operation i -/
theorem ChD.get {all : Array Oper} : ∀ (l : List Oper) (rs : List Rec) {p : List PV} {st : St} {nx : Nat} {pend : List Nat} {f : List PV} {stf : St} {nxf : Nat}, ChD P T all l rs p st nx pend f stf nxf → ∀ (i : Nat) (o : Oper), l[i]? = some o →
    ∃ r q, rs[i]? = some r ∧ q.length = p.length ∧ StepOK P T all o r q (stAt rs st i) (nxAt rs nx i) (pendAt T l rs pend i) ∧
      (∀ t, (∀ j oj, j < i → l[j]? = some oj → oj.dst ≠ some t) → Eqv (getL p t) (getL q t)) ∧
      (∀ t, (∀ j oj, i ≤ j → l[j]? = some oj → oj.dst ≠ some t) → Eqv (getL q t) (getL f t)) ∧
      (∀ d, o.dst = some d → d < p.length → (∀ j oj, i < j → l[j]? = some oj → oj.dst ≠ some d) → Eqv r.v (getL f d))
  | [], _, _, _, _, _, _, _, _, _, i, o, hi => by simp at hi
  | _ :: _, [], _, _, _, _, _, _, _, h, _, _, _ => h.elim
  | o' :: l, r :: rs, p, _, _, _, f, _, _, h, 0, o, hi => by
    obtain ⟨h1, h6⟩ := h
    simp at hi; subst hi
    refine ⟨r, p, rfl, rfl, h1, fun t _ => Eqv.refl _, fun t ht => ?_, fun d hd hlt hn => ?_⟩
    · have hk := ChD.keep l rs h6 (t := t) fun o ho => by
        obtain ⟨j, hj⟩ := List.getElem?_of_mem ho
        exact ht (j + 1) o (by omega) (by simpa using hj)
      rw [putT_ne (ht 0 o' (by omega) (by simp))] at hk
      exact (h1.er.2 t).trans hk
    · have hk := ChD.keep l rs h6 (t := d) fun o ho => by
        obtain ⟨j, hj⟩ := List.getElem?_of_mem ho
        exact hn (j + 1) o (by omega) (by simpa using hj)
      rw [hd] at hk
      simp only [putT, getL_setL] at hk
      rw [if_pos ⟨trivial, by rw [← h1.er.1]; exact hlt⟩] at hk
      exact hk
  | o' :: l, r :: rs, p, _, _, _, f, _, _, h, i + 1, o, hi => by
    obtain ⟨h1, h6⟩ := h
    obtain ⟨r', q, a0, a1, a2, a6, a7, a8⟩ := ChD.get l rs h6 i o (by simpa using hi)
    have hl : (putT r.er o'.dst r.v).length = p.length := by rw [putT_length, h1.er.1]
    refine ⟨r', q, by simpa using a0, by rw [a1, hl], a2, fun t ht => ?_, fun t ht => ?_, fun d hd hlt hn => ?_⟩
    · have hk := a6 t fun j oj hj hoj => ht (j + 1) oj (by omega) (by simpa using hoj)
      rw [putT_ne (ht 0 o' (by omega) (by simp))] at hk
      exact (h1.er.2 t).trans hk
    · exact a7 t fun j oj hj hoj => ht (j + 1) oj (by omega) (by simpa using hoj)
    · exact a8 d hd (by rw [hl]; exact hlt) fun j oj hj hoj => hn (j + 1) oj (by omega) (by simpa using hoj)

theorem ChD.fin {all : Array Oper} : ∀ (l : List Oper) (rs : List Rec) {p : List PV} {st : St} {nx : Nat} {pend : List Nat} {f : List PV} {stf : St} {nxf : Nat}, ChD P T all l rs p st nx pend f stf nxf → stf = stAt rs st rs.length ∧ nxf = nxAt rs nx rs.length
  | [], [], _, _, _, _, _, _, _, h => ⟨h.2.1.symm, h.2.2.symm⟩
  | o :: l, r :: rs, _, _, _, _, _, _, _, h => ChD.fin l rs h.2
  | [], _ :: _, _, _, _, _, _, _, _, h => h.elim
  | _ :: _, [], _, _, _, _, _, _, _, h => h.elim

theorem bump_le (b : Bool) (n : Nat) : n ≤ bump b n := by cases b <;> simp [bump]
theorem nxAt_start : ∀ (rs : List Rec) (n i : Nat), n ≤ nxAt rs n i
  | _, n, 0 => by simp [nxAt]
  | [], n, i + 1 => by simp [nxAt]
  | r :: rs, n, i + 1 => by simp only [nxAt]; exact Nat.le_trans (bump_le _ _) (nxAt_start rs _ i)
theorem nxAt_succ : ∀ (rs : List Rec) (n i : Nat) (r : Rec), rs[i]? = some r → nxAt rs n (i + 1) = bump r.big (nxAt rs n i)
  | [], n, i, r, h => by simp at h
  | r :: rs, n, 0, r', h => by simp at h; subst h; cases rs <;> simp [nxAt]
  | r :: rs, n, i + 1, r', h => by simp only [nxAt]; exact nxAt_succ rs _ i r' (by simpa using h)
theorem nxAt_over : ∀ (rs : List Rec) (n i : Nat), rs.length ≤ i → nxAt rs n (i + 1) = nxAt rs n i
  | [], n, 0, _ => by simp [nxAt]
  | [], n, i + 1, _ => by simp [nxAt]
  | r :: rs, n, 0, h => by simp at h
  | r :: rs, n, i + 1, h => by simp only [nxAt]; exact nxAt_over rs _ i (by simpa using h)
theorem nxAt_mono {rs : List Rec} {n i j : Nat} (h : i ≤ j) : nxAt rs n i ≤ nxAt rs n j := by
  induction h with
  | refl => exact Nat.le_refl _
  | step h ih =>
    rename_i m
    cases hm : rs[m]? with
    | some r => rw [nxAt_succ _ _ _ _ hm]; exact Nat.le_trans ih (bump_le _ _)
    | none => rw [nxAt_over _ _ _ (by rw [List.getElem?_eq_none_iff] at hm; exact hm)]; exact ih

/-! ### what a set of operations does to the blocks -/
def lastD : Dl → Nat → Option (Option Blk)
  | [], _ => none
  | (c, x) :: δ, b => match lastD δ b with
    | some y => some y
    | none => if c = b then some x else none
theorem lk_applyD : ∀ (δ : Dl) (st : St) (b : Nat), lkS (applyD δ st) b = (match lastD δ b with | some x => x | none => lkS st b)
  | [], st, b => rfl
  | (c, x) :: δ, st, b => by
    simp only [applyD, lk_applyD δ (inS st c x) b, lastD]
    cases lastD δ b with
    | some y => rfl
    | none =>
      simp only [lkS_inS]
      by_cases h : c = b <;> simp [h]
theorem lastD_keys : ∀ (δ : Dl) (b : Nat), lastD δ b ≠ none → keysD δ b
  | [], b, h => absurd rfl h
  | (c, x) :: δ, b, h => by
    simp only [lastD] at h
    split at h
    · rename_i y hy
      obtain ⟨z, hz⟩ := lastD_keys δ b (by rw [hy]; simp)
      exact ⟨z, List.mem_cons_of_mem _ hz⟩
    · by_cases hc : c = b
      · subst hc; exact ⟨x, by simp⟩
      · rw [if_neg hc] at h; exact absurd rfl h

def lst : List Rec → (Nat → Bool) → Nat → Nat → Option (Option Blk)
  | [], _, _, _ => none
  | r :: rs, D, i, b => match lst rs D (i + 1) b with
    | some y => some y
    | none => if D i then lastD r.δ b else none
def orS (st : St) (b : Nat) : Option (Option Blk) → Option Blk
  | some x => x
  | none => lkS st b

theorem lst_agree : ∀ (rs : List Rec) (D D' : Nat → Bool) (i b : Nat), (∀ k r, rs[k]? = some r → lastD r.δ b ≠ none → D (i + k) = D' (i + k)) → lst rs D i b = lst rs D' i b
  | [], _, _, _, _, _ => rfl
  | r :: rs, D, D', i, b, h => by
    have ih := lst_agree rs D D' (i + 1) b fun k r' hr hb => by
      have := h (k + 1) r' (by simpa using hr) hb
      rwa [show i + (k + 1) = i + 1 + k by omega] at this
    simp only [lst, ih]
    split
    · rfl
    · by_cases hb : lastD r.δ b = none
      · simp [hb]
      · have := h 0 r rfl hb
        simp only [Nat.add_zero] at this
        rw [this]
theorem lst_none : ∀ (rs : List Rec) (D : Nat → Bool) (i b : Nat), (∀ k r, rs[k]? = some r → D (i + k) = true → lastD r.δ b = none) → lst rs D i b = none
  | [], _, _, _, _ => rfl
  | r :: rs, D, i, b, h => by
    have ih := lst_none rs D (i + 1) b fun k r' hr hb => h (k + 1) r' (by simpa using hr) (by rwa [show i + (k + 1) = i + 1 + k by omega])
    simp only [lst, ih]
    split
    · rename_i h0; exact h 0 r rfl (by simpa using h0)
    · rfl
theorem lst_last : ∀ (rs : List Rec) (D : Nat → Bool) (i m b : Nat) (r : Rec) (x : Option Blk), rs[m]? = some r → D (i + m) = true → lastD r.δ b = some x → (∀ k r', m < k → rs[k]? = some r' → D (i + k) = true → lastD r'.δ b = none) → lst rs D i b = some x
  | [], _, _, m, _, _, _, h, _, _, _ => by simp at h
  | r :: rs, D, i, 0, b, r', x, h, hD, hx, hl => by
    simp at h; subst h
    have := lst_none rs D (i + 1) b fun k r' hr hb => hl (k + 1) r' (by omega) (by simpa using hr) (by rwa [show i + (k + 1) = i + 1 + k by omega])
    simp only [lst, this]
    rw [if_pos (by simpa using hD)]; exact hx
  | r :: rs, D, i, m + 1, b, r', x, h, hD, hx, hl => by
    have := lst_last rs D (i + 1) m b r' x (by simpa using h) (by rwa [show i + 1 + m = i + (m + 1) by omega]) hx fun k r2 hk hr hb => hl (k + 1) r2 (by omega) (by simpa using hr) (by rwa [show i + (k + 1) = i + 1 + k by omega])
    simp only [lst, this]
/-- the blocks in the order of the text -/
theorem lk_stAt : ∀ (rs : List Rec) (st : St) (i j b : Nat), lkS (stAt rs st i) b = orS st b (lst rs (fun k => decide (k < j + i)) j b)
  | [], st, 0, j, b => rfl
  | [], st, i + 1, j, b => rfl
  | r :: rs, st, 0, j, b => by
    simp only [stAt]
    rw [lst_none _ _ _ _ fun k r' _ h => by simp at h; omega]; rfl
  | r :: rs, st, i + 1, j, b => by
    simp only [stAt, lk_stAt rs (applyD r.δ st) i (j + 1) b, lst]
    rw [show (fun k => decide (k < j + 1 + i)) = (fun k => decide (k < j + (i + 1))) from funext fun k => by congr 2; omega]
    cases lst rs (fun k => decide (k < j + (i + 1))) (j + 1) b with
    | some y => rfl
    | none =>
      simp only [orS, lk_applyD]
      rw [if_pos (by simp)]

/-! ### the check -/
theorem chkOne_spec {all : Array Oper} {i : Nat} {o : Oper} {lo : List Tmp} : ∀ (l : List Oper) (j : Nat), chkOne all i o lo l j = true → ∀ (k : Nat) (p : Oper), l[k]? = some p → pairOK all i o lo (j + k) p = true
  | [], _, _, k, p, hk => by simp at hk
  | q :: l, j, h, 0, p, hk => by simp at hk; subst hk; simp only [chkOne, Bool.and_eq_true] at h; exact h.1
  | q :: l, j, h, k + 1, p, hk => by
    simp only [chkOne, Bool.and_eq_true] at h
    have := chkOne_spec l (j + 1) h.2 k p (by simpa using hk)
    rw [show j + (k + 1) = j + 1 + k by omega]; exact this
theorem chkAll_spec {all : Array Oper} : ∀ (l : List Oper) (i : Nat), chkAll all l i = true → ∀ (k : Nat) (o : Oper), l[k]? = some o →
    (∀ e ∈ o.after, Region.binds .any e = true → e.on < i + k) ∧ ∀ (j : Nat) (p : Oper), all[j]? = some p → pairOK all (i + k) o (o.looksAt all) j p = true
  | [], _, _, k, o, hk => by simp at hk
  | q :: l, i, h, 0, o, hk => by
    simp at hk; subst hk
    simp only [chkAll, Bool.and_eq_true] at h
    refine ⟨fun e he hb => ?_, fun j p hp => ?_⟩
    · have := Array.all_eq_true_iff_forall_mem.1 h.1.1 e he
      rw [hb, Bool.not_true, Bool.false_or, Nat.blt_eq] at this; simpa using this
    · have := chkOne_spec all.toList 0 h.1.2 j p (by simpa using hp)
      simpa using this
  | q :: l, i, h, k + 1, o, hk => by
    simp only [chkAll, Bool.and_eq_true] at h
    have := chkAll_spec l (i + 1) h.2 k o (by simpa using hk)
    rw [show i + (k + 1) = i + 1 + k by omega]; exact this
theorem drawOK_spec {all : Array Oper} (h0 : drawOK T all = true) {i : Nat} {o : Oper} (hi : all[i]? = some o) :
    (∀ e ∈ o.after, Region.binds .any e = true → e.on < i) ∧ ∀ (j : Nat) (p : Oper), all[j]? = some p → j ≠ i → ∀ d, p.dst = some d → o.dst ≠ some d ∧
      (d ∈ o.looksAt all → (∃ e ∈ o.after, Region.binds .any e = true ∧ e.on = j) ∨ (∃ e ∈ p.after, Region.binds .any e = true ∧ e.on = i)) := by
  have h : chkAll all all.toList 0 = true := by unfold drawOK at h0; rw [Bool.and_eq_true] at h0; exact h0.1
  obtain ⟨h1, h2⟩ := chkAll_spec all.toList 0 h i o (by simpa using hi)
  rw [Nat.zero_add] at h1 h2
  refine ⟨h1, fun j p hp hne d hd => ?_⟩
  have := h2 j p hp
  have hij : Nat.beq i j = false := beqN fun e => hne e.symm
  simp only [pairOK, hij, hd, Bool.false_or, Bool.and_eq_true, Bool.or_eq_true, bne_iff_ne, ne_eq, Bool.not_eq_true', List.contains_eq_mem, decide_eq_false_iff_not] at this
  refine ⟨this.1, fun hm => ?_⟩
  rcases this.2 with (hh | hh) | hh
  · exact absurd hm hh
  · obtain ⟨e, he, hb⟩ := Array.any_eq_true'.1 hh
    simp only [Bool.and_eq_true] at hb
    exact .inl ⟨e, he, hb.1, Nat.eq_of_beq_eq_true hb.2⟩
  · obtain ⟨e, he, hb⟩ := Array.any_eq_true'.1 hh
    simp only [Bool.and_eq_true] at hb
    exact .inr ⟨e, he, hb.1, Nat.eq_of_beq_eq_true hb.2⟩


/-! ### what stands before what -/
inductive Bef (all : Array Oper) : Nat → Nat → Prop
  | one {i : Nat} {o : Oper} {e : Edge} : all[i]? = some o → e ∈ o.after → Region.binds .any e = true → Bef all e.on i
  | trans {i j k : Nat} : Bef all i j → Bef all j k → Bef all i k

theorem mem_unionN : ∀ (l m : List Nat) (b : Nat), b ∈ unionN l m → b ∈ l ∨ b ∈ m
  | [], m, b, h => .inr h
  | c :: l, m, b, h => by
    simp only [unionN] at h
    cases hc : hasN m c with
    | true =>
      rw [hc] at h
      rcases mem_unionN l m b h with h | h
      · exact .inl (List.mem_cons_of_mem _ h)
      · exact .inr h
    | false =>
      rw [hc] at h
      rcases mem_unionN l (c :: m) b h with h | h
      · exact .inl (List.mem_cons_of_mem _ h)
      · rcases List.mem_cons.1 h with rfl | h
        · exact .inl (by simp)
        · exact .inr h
theorem getLL_eq : ∀ (l : List (List Nat)) (i : Nat), getLL l i = l.getD i []
  | [], i => by simp [getLL]
  | x :: l, 0 => by simp [getLL]
  | x :: l, i + 1 => by simpa [getLL] using getLL_eq l i
theorem mem_befOf (acc : List (List Nat)) : ∀ (l : List Nat) (b : Nat), b ∈ befOf acc l → ∃ j ∈ l, b = j ∨ b ∈ getLL acc j
  | [], b, h => by simp [befOf] at h
  | j :: l, b, h => by
    simp only [befOf] at h
    rcases mem_unionN _ _ _ h with h | h
    · exact ⟨j, by simp, by simpa using h⟩
    · obtain ⟨j', h1, h2⟩ := mem_befOf acc l b h
      exact ⟨j', by simp [h1], h2⟩
theorem befs_sound {all : Array Oper} : ∀ (l : List Oper) (acc : List (List Nat)), (∀ k o, l[k]? = some o → all[acc.length + k]? = some o) → (∀ i b, b ∈ getLL acc i → Bef all b i) → ∀ i b, b ∈ getLL (befs l acc) i → Bef all b i
  | [], acc, _, h2 => by simpa [befs] using h2
  | o :: l, acc, h1, h2 => by
    simp only [befs]
    have hlen : (acc ++ [befOf acc (bindsOn o)]).length = acc.length + 1 := by simp
    refine befs_sound l _ (fun k o' hk => ?_) fun i b hb => ?_
    · have := h1 (k + 1) o' (by simpa using hk)
      rw [hlen, ← this]; congr 1; omega
    · rw [getLL_eq, List.getD_eq_getElem?_getD] at hb
      by_cases hi : i < acc.length
      · rw [List.getElem?_append_left hi] at hb
        exact h2 i b (by rw [getLL_eq, List.getD_eq_getElem?_getD]; exact hb)
      · rw [List.getElem?_append_right (by omega)] at hb
        have hi0 : i - acc.length = 0 := by
          by_cases h0 : i - acc.length = 0
          · exact h0
          · rw [List.getElem?_eq_none (by simp; omega)] at hb; simp at hb
        rw [hi0] at hb
        simp only [List.getElem?_cons_zero, Option.getD_some] at hb
        have hia : i = acc.length := by omega
        obtain ⟨j, hj, hb⟩ := mem_befOf acc _ _ hb
        have hall := h1 0 o rfl
        rw [Nat.add_zero] at hall
        simp only [bindsOn, List.mem_map, List.mem_filter] at hj
        obtain ⟨e, ⟨he, hbind⟩, rfl⟩ := hj
        have hone : Bef all e.on i := by rw [hia]; exact .one hall (by simpa using he) hbind
        rcases hb with rfl | hb
        · exact hone
        · exact .trans (h2 _ _ hb) hone

theorem wOne_spec {bef : List Nat} {c : Nat} : ∀ (l : List Oper) (i : Nat), wOne T bef c l i = true → ∀ k o, l[k]? = some o → clash (clsO T o.op) c = true → (i + k) ∈ bef
  | [], _, _, k, o, h, _ => by simp at h
  | q :: l, i, h, 0, o, hk, hc => by
    simp at hk; subst hk
    simp only [wOne, Bool.and_eq_true, hc, cond_true] at h
    exact (hasN_iff _ _).1 h.1
  | q :: l, i, h, k + 1, o, hk, hc => by
    simp only [wOne, Bool.and_eq_true] at h
    have := wOne_spec l (i + 1) h.2 k o (by simpa using hk) hc
    rwa [show i + 1 + k = i + (k + 1) by omega] at this
theorem wAll_spec {L : List Oper} {B : List (List Nat)} : ∀ (l : List Oper) (i : Nat), wAll T L B l i = true → ∀ k o, l[k]? = some o → wOne T (getLL B (i + k)) (clsO T o.op) (L.take (i + k)) 0 = true
  | [], _, _, k, o, h => by simp at h
  | q :: l, i, h, 0, o, hk => by
    simp at hk; subst hk
    simp only [wAll, Bool.and_eq_true] at h
    exact h.1
  | q :: l, i, h, k + 1, o, hk => by
    simp only [wAll, Bool.and_eq_true] at h
    have := wAll_spec l (i + 1) h.2 k o (by simpa using hk)
    rwa [show i + 1 + k = i + (k + 1) by omega] at this
theorem anyW_spec : ∀ (l : List Oper), anyW T l = false → ∀ o ∈ l, clsO T o.op ≠ 2
  | [], _, o, h => by cases h
  | q :: l, h, o, ho => by
    simp only [anyW, Bool.or_eq_false_iff] at h
    rcases List.mem_cons.1 ho with rfl | ho
    · intro e; rw [e] at h; simp at h
    · exact anyW_spec l h.2 o ho
/-- whatever writes is ordered against whatever looks, makes or writes -/
theorem clash_bef {all : Array Oper} (h : drawOK T all = true) {i j : Nat} {oi oj : Oper} (hij : i < j) (hi : all[i]? = some oi) (hj : all[j]? = some oj) (hc : clash (clsO T oi.op) (clsO T oj.op) = true) : Bef all i j := by
  unfold drawOK at h
  rw [Bool.and_eq_true] at h
  have h := h.2
  have hi' : all.toList[i]? = some oi := by simpa using hi
  have hj' : all.toList[j]? = some oj := by simpa using hj
  cases hw : anyW T all.toList with
  | false =>
    have h1 := anyW_spec _ hw oi (List.mem_of_getElem? hi')
    have h2 := anyW_spec _ hw oj (List.mem_of_getElem? hj')
    exfalso
    simp only [clash, Bool.or_eq_true, Bool.and_eq_true] at hc
    rcases hc with hc | hc
    · exact h1 (Nat.eq_of_beq_eq_true hc.1)
    · exact h2 (Nat.eq_of_beq_eq_true hc.1)
  | true =>
    rw [hw] at h
    simp only [cond_true] at h
    have := wAll_spec _ 0 h j oj hj'
    rw [Nat.zero_add] at this
    have := wOne_spec _ 0 this i oi (by rw [List.getElem?_take_of_lt hij]; exact hi') hc
    rw [Nat.zero_add] at this
    exact befs_sound all.toList [] (fun k o hk => by simpa using hk) (fun i b hb => by simp [getLL] at hb) j i this

/-- the slots of ps at the places looked at are those of er -/
def patch (sl : List Tmp) (er ps : List PV) : List PV := (List.range ps.length).map fun t => if t ∈ sl then getL er t else getL ps t
theorem patch_length (sl : List Tmp) (er ps : List PV) : (patch sl er ps).length = ps.length := by simp [patch]
theorem patch_get {sl : List Tmp} {er ps : List PV} {t : Nat} (h : t < ps.length) : getL (patch sl er ps) t = if t ∈ sl then getL er t else getL ps t := by
  rw [getL_eq, List.getD_eq_getElem?_getD]
  simp [patch, h]
theorem patch_eqv {sl : List Tmp} {er ps : List PV} (h : ∀ t ∈ sl, Eqv (getL ps t) (getL er t)) : EqvL ps (patch sl er ps) := by
  refine ⟨by simp [patch], fun t => ?_⟩
  by_cases ht : t < ps.length
  · rw [patch_get ht]
    split
    · rename_i hm; exact h t hm
    · exact Eqv.refl _
  · rw [getL_ge (Nat.le_of_not_lt ht), getL_ge (by rw [patch_length]; exact Nat.le_of_not_lt ht)]; exact Eqv.refl _
theorem patch_looks {sl : List Tmp} {er ps : List PV} (hl : er.length = ps.length) : ∀ t ∈ sl, getL (patch sl er ps) t = getL er t := by
  intro t hm
  by_cases ht : t < ps.length
  · rw [patch_get ht, if_pos hm]
  · rw [getL_ge (by rw [patch_length]; exact Nat.le_of_not_lt ht), getL_ge (by rw [hl]; exact Nat.le_of_not_lt ht)]


theorem Bef.listed {all : Array Oper} {listed : Array Bool} (hclosed : ∀ j o, all[j]? = some o → listed.getD j true = true → ∀ e ∈ o.after, Region.binds .any e = true → listed.getD e.on true = true) {i j : Nat} (h : Bef all i j) : listed.getD j true = true → listed.getD i true = true := by
  induction h with
  | one h1 h2 h3 => intro h; exact hclosed _ _ h1 h _ h2 h3
  | trans _ _ ih1 ih2 => intro h; exact ih1 (ih2 h)

theorem set_listed {listed : Array Bool} {i j : Nat} (hi : listed.getD i true = false) : (listed.setIfInBounds i true).getD j true = true ↔ (j = i ∨ listed.getD j true = true) := by
  have hlt : i < listed.size := by
    rcases Nat.lt_or_ge i listed.size with h | h
    · exact h
    · simp [Array.getElem?_eq_none h] at hi
  by_cases hij : i = j
  · subst hij; simp [hlt]
  · rw [getD_set_ne true hij]
    constructor
    · intro h; exact .inr h
    · rintro (h | h)
      · exact absurd h.symm hij
      · exact h


theorem Bef.ready {all : Array Oper} {listed : Array Bool} (hclosed : ∀ j o, all[j]? = some o → listed.getD j true = true → ∀ e ∈ o.after, Region.binds .any e = true → listed.getD e.on true = true)
    {i j : Nat} (h : Bef all i j) : ∀ o, all[j]? = some o → (∀ e ∈ o.after, Region.binds .any e = true → listed.getD e.on true = true) → listed.getD i true = true := by
  induction h with
  | one h1 h2 h3 => intro o ho hall; rw [h1] at ho; cases ho; exact hall _ h2 h3
  | trans h1 h2 ih1 ih2 =>
    intro o ho hall
    exact h1.listed hclosed (ih2 o ho hall)
end
end Go.Pv
