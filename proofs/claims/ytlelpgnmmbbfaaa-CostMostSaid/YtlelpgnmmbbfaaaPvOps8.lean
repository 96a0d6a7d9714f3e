/-
  Pv, part 12: structs, arrays and slices that are built.
-/
import Derived.Test.YtlelpgnmmbbfaaaPvOps7
namespace Go.Pv
open Go
set_option linter.all false

/-- filling cells, over the model's filling -/
theorem fill_rep {w : World} {Y : Nat → Prop} {σ : Sg} (place : Nat → Option (Nat × Nat)) : ∀ (parts : List (Nat × PV)) (vparts : List (Nat × Value)) (cells : List PV) (vcells : Array Value) (cs : List PV),
    (parts.length = vparts.length ∧ ∀ (i : Nat) (p : Nat × PV) (v : Nat × Value), parts[i]? = some p → vparts[i]? = some v → p.1 = v.1 ∧ Rep w Y σ p.2 v.2) →
    RepL w Y σ cells vcells.toList → fillV place cells parts = some cs → (∀ p ∈ parts, p.2 ≠ .top) → ∃ vcs : Array Value, Instr.fill place vcells vparts = some vcs ∧ RepL w Y σ cs vcs.toList
  | [], vparts, cells, vcells, cs, hp, hc, h, _ => by
    have : vparts = [] := by have := hp.1; simp at this; exact List.eq_nil_of_length_eq_zero this.symm
    subst this
    simp [fillV] at h; subst h
    exact ⟨vcells, rfl, hc⟩
  | (i, p) :: parts, [], cells, vcells, cs, hp, hc, h, _ => by simp at hp
  | (i, p) :: parts, (j, v) :: vparts, cells, vcells, cs, hp, hc, h, hnt => by
    obtain ⟨hl, hp⟩ := hp
    have h0 := hp 0 _ _ rfl rfl
    simp only at h0
    obtain ⟨rfl, hrep⟩ := h0
    simp only [fillV] at h
    simp only [Instr.fill]
    split at h
    · cases h
    · rename_i off size hpl
      rw [hpl]
      simp only
      cases hb : (Nat.beq (lenL (cellsV p)) size && Nat.ble (off + size) (lenL cells)) with
      | false => rw [hb] at h; cases h
      | true =>
        rw [hb] at h
        simp only [cond_true] at h
        simp only [Bool.and_eq_true, lenL_eq] at hb
        have h1 := Nat.eq_of_beq_eq_true hb.1
        have h2 := Nat.le_of_ble_eq_true hb.2
        have hcv := cellsV_rep hrep (hnt (i, p) (by simp))
        have hlen := hcv.length
        have hlen2 := hc.length
        rw [Array.length_toList] at hlen hlen2
        have hcond : ¬ (v.cells.size ≠ size || decide (off + v.cells.size > vcells.size)) = true := by
          simp; omega
        rw [if_neg hcond]
        have key : ∀ (ps : List PV) (us : List Value) (k : Nat) (cells : List PV) (vcells : Array Value), RepL w Y σ ps us → RepL w Y σ cells vcells.toList →
            RepL w Y σ (writeL cells (off + k) ps) ((us.zipIdx k).foldl (fun cs (x : Value × Nat) => cs.setIfInBounds (off + x.2) x.1) vcells).toList := by
          intro ps
          induction ps with
          | nil => intro us k cells vcells h1 h2; unfold RepL at h1; subst h1; have : writeL cells (off + k) [] = cells := by cases cells <;> simp [writeL]
                   rw [this]; simpa using h2
          | cons q ps ih =>
            intro us k cells vcells h1 h2
            unfold RepL at h1; obtain ⟨u, us', rfl, h1, h3⟩ := h1
            have := ih us' (k + 1) (setL cells (off + k) q) (vcells.setIfInBounds (off + k) u) h3 (by
              rw [Array.toList_setIfInBounds]; exact RepL.set h1 _ _ _ h2)
            have e : writeL cells (off + k) (q :: ps) = writeL (setL cells (off + k) q) (off + (k + 1)) ps := by cases cells <;> rfl
            rw [e]
            simpa using this
        refine fill_rep place parts vparts _ _ cs ⟨by simpa using hl, fun n p' v' e1 e2 => hp (n + 1) p' v' (by simpa using e1) (by simpa using e2)⟩ ?_ h (fun p hp => hnt p (by simp [hp]))
        have := key (cellsV p) v.cells.toList 0 cells vcells hcv hc
        have e : v.cells.zipIdx.foldl (fun cs (x : Value × Nat) => cs.setIfInBounds (off + x.2) x.1) vcells = (v.cells.toList.zipIdx 0).foldl (fun cs (x : Value × Nat) => cs.setIfInBounds (off + x.2) x.1) vcells := by
          rw [← Array.foldl_toList, Array.toList_zipIdx]
        simp only [Nat.add_zero] at this
        rw [← e] at this
        exact this

theorem evP_spec {T : Tab} {C : Ctx T} {w : World} {Y : Nat → Prop} {σ : Sg} {ps : List PV} {a : Act} {st : St} {n : Nat} (h : SW C w Y σ ps a.tmps.toList st n) : ∀ (l : List (Nat × Operand)),
    (evP T ps l).length = (l.map fun x => (x.1, a.eval x.2)).length ∧ ∀ (i : Nat) (p : Nat × PV) (v : Nat × Value), (evP T ps l)[i]? = some p → (l.map fun x => (x.1, a.eval x.2))[i]? = some v → p.1 = v.1 ∧ Rep w Y σ p.2 v.2
  | [] => by simp [evP]
  | (j, x) :: l => by
    obtain ⟨h1, h2⟩ := evP_spec h l
    refine ⟨by simp [evP, h1], fun i p v e1 e2 => ?_⟩
    cases i with
    | zero => simp [evP] at e1 e2; subst e1; subst e2; exact ⟨rfl, ev_rep h x⟩
    | succ i => simp [evP] at e1 e2; exact h2 i p v e1 (by simpa using e2)

theorem noTop_spec : ∀ l, noTop l = true → ∀ p ∈ l, p.2 ≠ PV.top
  | [], _, p, hp => by simp at hp
  | (i, q) :: l, h, p, hp => by
    have hq : q ≠ .top := by intro e; subst e; simp [noTop] at h
    have hl : noTop l = true := by cases q <;> simp_all [noTop]
    rcases List.mem_cons.1 hp with rfl | hp
    · exact hq
    · exact noTop_spec l hl p hp
end Go.Pv
