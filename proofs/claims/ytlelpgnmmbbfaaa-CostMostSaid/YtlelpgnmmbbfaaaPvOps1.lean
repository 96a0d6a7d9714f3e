/-
  Pv, part 4: each operation does what the interpreter says (quiet ones).
-/
import Derived.Test.YtlelpgnmmbbfaaaPvSig
import Derived.WalkKit
namespace Go.Pv
open Go
set_option linter.all false

theorem ofCell_rep (w : World) (Y : Nat → Prop) (σ : Sg) (v : Value) : Rep w Y σ (ofCell v) v := by
  unfold ofCell
  split
  case h_5 => unfold Rep; exact ⟨none, 0, 0, rfl, rfl, Nat.le_refl _, fun _ => rfl, .inl rfl⟩
  all_goals simp [Rep]
theorem ofCells_rep (w : World) (Y : Nat → Prop) (σ : Sg) : ∀ vs : List Value, RepL w Y σ (ofCells vs) vs
  | [] => by simp [ofCells, RepL]
  | v :: vs => by simp only [ofCells]; unfold RepL; exact ⟨v, vs, rfl, ofCell_rep w Y σ v, ofCells_rep w Y σ vs⟩
theorem ofVal_rep (w : World) (Y : Nat → Prop) (σ : Sg) (v : Value) : Rep w Y σ (ofVal v) v := by
  unfold ofVal
  split
  · unfold Rep; exact ⟨_, by simp, ofCells_rep w Y σ _⟩
  · exact ofCell_rep w Y σ v

theorem ev_rep {T : Tab} {C : Ctx T} {w : World} {Y : Nat → Prop} {σ : Sg} {ps : List PV} {a : Act} {st : St} {n : Nat} (h : SW C w Y σ ps a.tmps.toList st n) (x : Operand) : Rep w Y σ (evL T ps x) (a.eval x) := by
  cases x with
  | tmp t =>
    have := h.vals.get ps _ t
    simpa [evL, Act.eval, Array.getD_eq_getD_getElem?, List.getD_eq_getElem?_getD] using this
  | const v => exact ofVal_rep w Y σ v
  | global g =>
    simp only [evL]
    split
    · rename_i cs hg; exact Rep.keep _ ⟨fun _ _ _ => rfl, fun _ _ h => h, Nat.le_refl _, fun _ _ h => by cases h⟩ _ (h.glob g cs hg)
    · simp [Rep]
  | func f => simp only [evL, Act.eval]; unfold Rep; exact ⟨[], rfl, by simp [RepL]⟩

theorem evA_rep {T : Tab} {C : Ctx T} {w : World} {Y : Nat → Prop} {σ : Sg} {ps : List PV} {a : Act} {st : St} {n : Nat} (h : SW C w Y σ ps a.tmps.toList st n) : ∀ l : List Operand, RepL w Y σ (evA T ps l) (l.map a.eval)
  | [] => by simp [evA, RepL]
  | x :: l => by simp only [evA, List.map_cons]; unfold RepL; exact ⟨_, _, rfl, ev_rep h x, evA_rep h l⟩

def nextI : Dl → Nat → Nat → Nat
  | [], n, _ => n
  | _ :: _, n, id => max n (id + 1)

/-- what an operation comes to -/
def Res {T : Tab} (P : Program) (C : Ctx T) (o : Oper) (a : Act) (w : World) (σ : Sg) (ps : List PV) (st : St) (n id : Nat) (K : PV → Dl → Prop) : Prop :=
  ∃ v δ cv w' Y' σ', K v δ ∧ ((execOp a.eval o).run P w = .ok (.value cv) w' ∨ ((execOp a.eval o).run P w = .ok .skip w' ∧ cv = Go.undef)) ∧
    SW C w' Y' σ' ps a.tmps.toList (applyD δ st) (nextI δ n id) ∧ Rep w' Y' σ' v cv ∧ Off id σ σ'

theorem Res.quiet {T : Tab} {P : Program} {C : Ctx T} {o : Oper} {a : Act} {w : World} {Y : Nat → Prop} {σ : Sg} {ps : List PV} {st : St} {n id : Nat} {K : PV → Dl → Prop}
    (H : SW C w Y σ ps a.tmps.toList st n) {v : PV} {cv : Value} (hr : (execOp a.eval o).run P w = .ok (.value cv) w) (hv : Rep w Y σ v cv) (hK : K v []) : Res P C o a w σ ps st n id K :=
  ⟨v, [], cv, w, Y, σ, hK, .inl hr, H, hv, Off.refl _ _⟩

theorem rep_bool {w : World} {Y : Nat → Prop} {σ : Sg} {b : Bool} {v : Value} (h : Rep w Y σ (.bool b) v) : v = .bool b := by unfold Rep at h; exact h
theorem rep_sb {w : World} {Y : Nat → Prop} {σ : Sg} {b : Bool} {v : Value} (h : Rep w Y σ (.sb b) v) : v = .bool b := by unfold Rep at h; exact h
theorem rep_int {w : World} {Y : Nat → Prop} {σ : Sg} {k : IntKind} {n : Int} {v : Value} (h : Rep w Y σ (.int k n) v) : v = .int k n := by unfold Rep at h; exact h
theorem rep_si {w : World} {Y : Nat → Prop} {σ : Sg} {k : IntKind} {n : Int} {v : Value} (h : Rep w Y σ (.si k n) v) : v = .int k n := by unfold Rep at h; exact h
theorem rep_str {w : World} {Y : Nat → Prop} {σ : Sg} {s : ByteArray} {v : Value} (h : Rep w Y σ (.str s) v) : v = .string s := by unfold Rep at h; exact h
theorem rep_intV {w : World} {Y : Nat → Prop} {σ : Sg} {p : PV} {k : IntKind} {n : Int} {v : Value} (h : Rep w Y σ p v) (e : intV p = some (k, n)) : v = .int k n := by
  unfold intV at e
  split at e <;> simp at e <;> obtain ⟨rfl, rfl⟩ := e
  · exact rep_int h
  · exact rep_si h
theorem rep_boolV {w : World} {Y : Nat → Prop} {σ : Sg} {p : PV} {b : Bool} {v : Value} (h : Rep w Y σ p v) (e : boolV p = some b) : v = .bool b := by
  unfold boolV at e
  split at e <;> simp at e <;> subst e
  · exact rep_bool h
  · exact rep_sb h
theorem kindEq_eq {k k' : IntKind} (h : kindEq k k' = true) : k = k' := by cases k <;> cases k' <;> simp_all [kindEq]

section
variable {P : Program} {T : Tab} (hT : TabOK P T) {C : Ctx T} {o : Oper} {a : Act} {w : World} {Y : Nat → Prop} {σ : Sg} {ps : List PV} {st : St} {n id : Nat} {K : PV → Dl → Prop} {lk : Nat → Option Blk}
  (H : SW C w Y σ ps a.tmps.toList st n) (hlk : ∀ b x, lk b = some x → lkS st b = some x) (hid : σ id = none ∧ T.pas ≤ id)
include H

theorem op_move {x : Operand} (ho : o.op = .move x) (h : opE T (Sig.std P T) (.move x) ps lk id K) : Res P C o a w σ ps st n id K := by
  refine Res.quiet H (cv := a.eval x) ?_ (ev_rep H x) h
  simp [execOp, ho]
theorem op_assign {x : Operand} (ho : o.op = .assign x) (h : opE T (Sig.std P T) (.assign x) ps lk id K) : Res P C o a w σ ps st n id K := by
  refine Res.quiet H (cv := a.eval x) ?_ (ev_rep H x) h
  simp [execOp, ho]
theorem op_pick {c x y : Operand} (ho : o.op = .pick c x y) (h : opE T (Sig.std P T) (.pick c x y) ps lk id K) : Res P C o a w σ ps st n id K := by
  have hc := ev_rep H c
  simp only [opE] at h
  split at h
  · rename_i e; rw [e] at hc; have hc := rep_bool hc
    refine Res.quiet H (cv := a.eval x) ?_ (ev_rep H x) h
    simp [execOp, ho, hc, asBool]
  · rename_i e; rw [e] at hc; have hc := rep_bool hc
    refine Res.quiet H (cv := a.eval y) ?_ (ev_rep H y) h
    simp [execOp, ho, hc, asBool]
  · exact h.elim
theorem op_nilCheck {x : Operand} (ho : o.op = .nilCheck x) (h : opE T (Sig.std P T) (.nilCheck x) ps lk id K) : Res P C o a w σ ps st n id K := by
  have hc := ev_rep H x
  simp only [opE] at h
  split at h
  · rename_i e; rw [e] at hc
    have hc' := hc; unfold Rep at hc'; obtain ⟨l, _, e'⟩ := hc'
    refine Res.quiet H (cv := a.eval x) ?_ hc h
    rw [e']; simp [execOp, ho, e']
  · rename_i e; rw [e] at hc
    have hc' := hc; unfold Rep at hc'; obtain ⟨l, _, e'⟩ := hc'
    refine Res.quiet H (cv := a.eval x) ?_ hc h
    rw [e']; simp [execOp, ho, e']
  · rename_i e; rw [e] at hc
    have hc' := hc; unfold Rep at hc'; obtain ⟨b, o', e', _⟩ := hc'
    refine Res.quiet H (cv := a.eval x) ?_ hc h
    rw [e']; simp [execOp, ho, e']
  · rename_i e; rw [e] at hc
    have e' := hc; unfold Rep at e'
    refine Res.quiet H (cv := a.eval x) ?_ hc h
    rw [e']; simp [execOp, ho, e']
  · rename_i e; rw [e] at hc
    have hc' := hc; unfold Rep at hc'; obtain ⟨vs, e', _⟩ := hc'
    refine Res.quiet H (cv := a.eval x) ?_ hc h
    rw [e']; simp [execOp, ho, e']
  · exact h.elim
theorem op_unNot {t : TypeId} {x : Operand} (ho : o.op = .unOp .not t x) (h : opE T (Sig.std P T) (.unOp .not t x) ps lk id K) : Res P C o a w σ ps st n id K := by
  have hc := ev_rep H x
  simp only [opE] at h
  split at h
  · rename_i e; rw [e] at hc; have hc := rep_bool hc
    refine Res.quiet H (cv := .bool false) ?_ (by simp [Rep]) h
    simp [execOp, ho, hc, Op.unary]
  · rename_i e; rw [e] at hc; have hc := rep_bool hc
    refine Res.quiet H (cv := .bool true) ?_ (by simp [Rep]) h
    simp [execOp, ho, hc, Op.unary]
  · rename_i b e; rw [e] at hc; have hc := rep_sb hc
    refine Res.quiet H (cv := .bool (!b)) ?_ (by simp [Rep, Sig.std]) h
    simp [execOp, ho, hc, Op.unary]
  · exact h.elim
theorem op_unNeg {t : TypeId} {x : Operand} (ho : o.op = .unOp .neg t x) (h : opE T (Sig.std P T) (.unOp .neg t x) ps lk id K) : Res P C o a w σ ps st n id K := by
  have hc := ev_rep H x
  simp only [opE] at h
  split at h
  · rename_i k m e; rw [e] at hc; have hc := rep_int hc
    refine Res.quiet H (cv := .int k (k.wrap (0 - m))) ?_ (by simp [Rep]) h
    simp [execOp, ho, hc, Op.unary, Op.intArith]
  · rename_i k m e; rw [e] at hc; have hc := rep_si hc
    refine Res.quiet H (cv := .int k (k.wrap (0 - m))) ?_ (by simp [Rep, Sig.std]) h
    simp [execOp, ho, hc, Op.unary, Op.intArith]
  · exact h.elim
theorem op_extract {t : Operand} {i : Nat} (ho : o.op = .extract t i) (h : opE T (Sig.std P T) (.extract t i) ps lk id K) : Res P C o a w σ ps st n id K := by
  have hc := ev_rep H t
  simp only [opE] at h
  split at h
  · rename_i vs e; rw [e] at hc
    unfold Rep at hc; obtain ⟨us, e', hr⟩ := hc
    cases hb : Nat.blt i (lenL vs) with
    | false => rw [hb] at h; exact h.elim
    | true =>
      rw [hb] at h
      have hi : i < us.length := by rw [RepL.length _ _ hr]; simpa [Nat.blt_eq] using hb
      have hg := hr.get _ _ i
      rw [List.getD_eq_getElem?_getD, List.getElem?_eq_getElem hi] at hg
      refine Res.quiet H (cv := us[i]) ?_ hg h
      simp [execOp, ho, e', Instr.extract, hi]
  · exact h.elim
end
end Go.Pv
