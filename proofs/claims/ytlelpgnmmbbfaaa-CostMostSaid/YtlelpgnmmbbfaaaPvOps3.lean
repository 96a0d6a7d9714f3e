/-
  Pv, part 7: operations that write or make blocks.
-/
import Derived.Test.YtlelpgnmmbbfaaaPvSt
namespace Go.Pv
open Go
set_option linter.all false

def oneC : Value → Bool
  | .agg _ | .tuple _ => false
  | _ => true

theorem oneCell_of {w : World} {Y : Nat → Prop} {σ : Sg} {p : PV} {v : Value} (hp : isCell p = true) (h : Rep w Y σ p v) : oneC v = true := by
  cases p <;> simp [isCell] at hp <;> unfold Rep at h
  case sl => obtain ⟨_, _, _, e, _⟩ := h; subst e; rfl
  case os =>
    rcases h with ⟨_, _, _, e, _⟩ | ⟨_, _, e⟩ <;> subst e <;> rfl
  case lv => obtain ⟨_, _, e⟩ := h; subst e; rfl
  case lp => obtain ⟨_, _, e⟩ := h; subst e; rfl
  case pp => obtain ⟨_, _, e, _⟩ := h; subst e; rfl
  case fn => obtain ⟨_, e, _⟩ := h; subst e; rfl
  case ow => rcases h with ⟨_, e, _⟩ | ⟨_, _, _, e⟩ <;> subst e <;> rfl
  case bo => rcases h with ⟨_, e, _⟩ | ⟨_, _, _, e⟩ <;> subst e <;> rfl
  all_goals (subst h; rfl)
theorem cells_of_oneCell {v : Value} (h : oneC v = true) : v.cells = #[v] := by
  cases v <;> simp [oneC] at h <;> rfl

theorem allCell_one {w : World} {Y : Nat → Prop} {σ : Sg} : ∀ (ps : List PV) (vs : List Value), allCell ps = true → RepL w Y σ ps vs → ∀ v ∈ vs, oneC v = true
  | [], vs, _, h => by unfold RepL at h; subst h; simp
  | p :: ps, vs, ha, h => by
    unfold RepL at h; obtain ⟨v, vs', rfl, h1, h2⟩ := h
    simp [allCell] at ha
    intro u hu
    rcases List.mem_cons.1 hu with rfl | hu
    · exact oneCell_of ha.1 h1
    · exact allCell_one ps vs' ha.2 h2 u hu

/-- the cells of a value that is stored -/
theorem cells_rep {w : World} {Y : Nat → Prop} {σ : Sg} {p : PV} {v : Value} (h : Rep w Y σ p v) (ha : allCell (cellsV p) = true) :
    ∃ vs : List Value, v.cells = vs.toArray ∧ RepL w Y σ (cellsV p) vs ∧ ∀ u ∈ vs, oneC u = true := by
  cases p
  case agg cs =>
    simp only [cellsV] at ha ⊢
    unfold Rep at h; obtain ⟨vs, e, hr⟩ := h
    subst e
    exact ⟨vs, rfl, hr, allCell_one _ _ ha hr⟩
  all_goals
    simp only [cellsV, allCell, Bool.and_true] at ha ⊢
    have h1 := oneCell_of ha h
    refine ⟨[v], by rw [cells_of_oneCell h1], by unfold RepL; exact ⟨v, [], rfl, h, by simp [RepL]⟩, by simp [h1]⟩

theorem store_run {P : Program} {w : World} {x : Addr} {v u : Value} (hv : oneC v = true) (hc : w.cell? x = some u) (hf : w.frozen? x = false) :
    (store x v).run P w = .ok () (w.setCell x v) := by
  unfold store
  cases v <;> simp [oneC] at hv <;> simp [Sem.run, hc, hf]

theorem setCell_block {w : World} {b o : Nat} {arr : Array Value} {ty : TypeId} (h : w.heap[b]? = some (.cells arr ty (0, 0))) (v : Value) :
    (w.setCell ⟨b, o, none⟩ v).heap[b]? = some (.cells (arr.setIfInBounds o v) ty (0, 0)) := by
  simp [World.setCell, Array.getElem?_modify, h]
theorem cell_of_block {w : World} {b o : Nat} {arr : Array Value} {ty : TypeId} (h : w.heap[b]? = some (.cells arr ty (0, 0))) : w.cell? ⟨b, o, none⟩ = arr[o]? := by
  simp [World.cell?, h]
theorem frozen_of_block {w : World} {b o : Nat} {arr : Array Value} {ty : TypeId} (h : w.heap[b]? = some (.cells arr ty (0, 0))) : w.frozen? ⟨b, o, none⟩ = false := by
  simp [World.frozen?, h]

/-- a row of cells written into one block -/
structure Wrote (w w' : World) (b o : Nat) (arr : Array Value) (ty : TypeId) (vs : List Value) : Prop where
  os : w'.os = w.os
  tape : w'.tape = w.tape
  output : w'.output = w.output
  size : w'.heap.size = w.heap.size
  other : ∀ k, k ≠ b → w'.heap[k]? = w.heap[k]?
  blk : ∃ arr' : Array Value, w'.heap[b]? = some (.cells arr' ty (0, 0)) ∧ arr'.size = arr.size ∧ ∀ j, arr'[j]? = if o ≤ j ∧ j < o + vs.length then vs[j - o]? else arr[j]?

theorem storeCells_run {P : Program} {b o : Nat} {ty : TypeId} : ∀ (vs : List Value) (i : Nat) (w : World) (arr : Array Value), w.heap[b]? = some (.cells arr ty (0, 0)) → o + i + vs.length ≤ arr.size → (∀ v ∈ vs, oneC v = true) →
    ∃ w', (storeCells ⟨b, o, none⟩ vs i).run P w = .ok () w' ∧ Wrote w w' b (o + i) arr ty vs
  | [], i, w, arr, h, _, _ => ⟨w, by simp [storeCells], rfl, rfl, rfl, rfl, fun _ _ => rfl, arr, h, rfl, fun j => by simp; intro h1 h2; omega⟩
  | v :: vs, i, w, arr, h, hle, hone => by
    have hlt : o + i < arr.size := by simp at hle; omega
    have hc : w.cell? ⟨b, o + i, none⟩ = some arr[o + i] := by rw [cell_of_block h]; simp [hlt]
    have hrun := store_run (P := P) (hone v (by simp)) hc (frozen_of_block h)
    obtain ⟨w', hr, hw⟩ := storeCells_run (P := P) (o := o) vs (i + 1) (w.setCell ⟨b, o + i, none⟩ v) (arr.setIfInBounds (o + i) v) (setCell_block h v) (by simp at hle ⊢; omega) (fun u hu => hone u (by simp [hu]))
    refine ⟨w', ?_, ?_⟩
    · simp only [storeCells, Sem.run_bind, addr_add, hrun, Result.andThen]
      exact hr
    · obtain ⟨arr', h1, h2, h3⟩ := hw.blk
      refine ⟨hw.os, hw.tape, hw.output, ?_, fun k hk => ?_, arr', h1, by simpa using h2, fun j => ?_⟩
      · rw [hw.size]; simp [World.setCell]
      · rw [hw.other k hk]; simp only [World.setCell, Array.getElem?_modify]; rw [if_neg (by omega)]
      · rw [h3 j]
        simp only [List.length_cons]
        by_cases h4 : j = o + i
        · subst h4
          rw [if_neg (by omega), if_pos (by omega)]
          simp [hlt]
        · by_cases h5 : o + (i + 1) ≤ j ∧ j < o + (i + 1) + vs.length
          · rw [if_pos h5, if_pos (by omega)]
            rw [show j - (o + i) = (j - (o + (i + 1))) + 1 by omega]; simp
          · rw [if_neg h5, if_neg (by omega)]
            rw [Array.getElem?_setIfInBounds]
            rw [if_neg (by omega)]

theorem writeL_eq : ∀ (vs l : List PV) (c : Nat), writeL l c vs = l.take c ++ (vs.take (l.length - c)) ++ l.drop (c + vs.length) ∨ True := fun _ _ _ => .inr trivial

theorem writeL_len : ∀ (vs l : List PV) (c : Nat), (writeL l c vs).length = l.length
  | [], l, c => by cases l <;> simp [writeL]
  | v :: vs, [], c => by simpa [writeL, setL] using writeL_len vs [] (c + 1)
  | v :: vs, x :: l, c => by rw [writeL, writeL_len vs, setL_eq]; simp
theorem writeL_get : ∀ (vs l : List PV) (c j : Nat), c + vs.length ≤ l.length → (writeL l c vs)[j]? = if c ≤ j ∧ j < c + vs.length then vs[j - c]? else l[j]?
  | [], l, c, j, _ => by
    have : writeL l c [] = l := by cases l <;> simp [writeL]
    rw [this]; simp; intro h1 h2; omega
  | v :: vs, [], c, j, h => by simp at h
  | v :: vs, x :: l, c, j, h => by
    rw [writeL, writeL_get vs _ (c + 1) j (by rw [setL_eq]; simp at h ⊢; omega), setL_eq]
    simp only [List.length_cons]
    by_cases h4 : j = c
    · subst h4
      rw [if_neg (by omega), if_pos (by omega)]
      simp at h
      rw [List.getElem?_set]; simp; omega
    · by_cases h5 : c + 1 ≤ j ∧ j < c + 1 + vs.length
      · rw [if_pos h5, if_pos (by omega), show j - c = (j - (c + 1)) + 1 by omega]; simp
      · rw [if_neg h5, if_neg (by omega), List.getElem?_set_ne (by omega)]

/-- what it is that a row of cells stands in a block, place by place -/
theorem RepC.iff {w : World} {Y : Nat → Prop} {σ : Sg} {b : Nat} : ∀ (ps : List PV) (o : Nat), RepC w Y σ b ps o ↔ ∀ i p, ps[i]? = some p → ∃ v, w.cell? ⟨b, o + i, none⟩ = some v ∧ Rep w Y σ p v
  | [], o => by simp [RepC]
  | q :: ps, o => by
    unfold RepC
    rw [RepC.iff ps (o + 1)]
    constructor
    · rintro ⟨h1, h2⟩ i p hi
      cases i with
      | zero => simp at hi; subst hi; simpa using h1
      | succ i => rw [show o + (i + 1) = o + 1 + i by omega]; exact h2 i p (by simpa using hi)
    · intro h
      refine ⟨by simpa using h 0 q rfl, fun i p hi => ?_⟩
      rw [show o + 1 + i = o + (i + 1) by omega]; exact h (i + 1) p (by simpa using hi)

theorem RepL.get? {w : World} {Y : Nat → Prop} {σ : Sg} : ∀ {ps : List PV} {vs : List Value} {i : Nat} {p : PV}, RepL w Y σ ps vs → ps[i]? = some p → ∃ v, vs[i]? = some v ∧ Rep w Y σ p v
  | [], _, _, _, _, hi => by simp at hi
  | q :: ps, vs, 0, p, h, hi => by
    unfold RepL at h; obtain ⟨v, vs', rfl, h1, _⟩ := h
    simp at hi; subst hi; exact ⟨v, rfl, h1⟩
  | q :: ps, vs, i + 1, p, h, hi => by
    unfold RepL at h; obtain ⟨v, vs', rfl, _, h2⟩ := h
    simpa using RepL.get? h2 (by simpa using hi)

/-- cells written: what stood there and was not written still stands -/
theorem Wrote.rep {w w' : World} {Y : Nat → Prop} {σ : Sg} {b o : Nat} {arr : Array Value} {ty : TypeId} {vs : List Value} {cs row : List PV} {c : Nat} (W : Wrote w w' b (o + c) arr ty vs)
    (hb : w.heap[b]? = some (.cells arr ty (0, 0))) (hrow : RepC w Y σ b row o) (hcs : RepL w Y σ cs vs) (hle : c + cs.length ≤ row.length) (hk : ∀ p v, Rep w Y σ p v → Rep w' Y σ p v) : RepC w' Y σ b (writeL row c cs) o := by
  obtain ⟨arr', h1, h2, h3⟩ := W.blk
  have hl := hcs.length
  rw [RepC.iff] at hrow ⊢
  intro i p hi
  rw [writeL_get _ _ _ _ hle] at hi
  rw [cell_of_block h1, h3]
  by_cases h4 : c ≤ i ∧ i < c + cs.length
  · rw [if_pos h4] at hi
    rw [if_pos (by omega)]
    obtain ⟨v, hv, hr⟩ := hcs.get? hi
    exact ⟨v, by rw [← hv]; congr 1; omega, hk _ _ hr⟩
  · rw [if_neg h4] at hi
    rw [if_neg (by omega)]
    obtain ⟨v, hv, hr⟩ := hrow i p hi
    rw [cell_of_block hb] at hv
    exact ⟨v, hv, hk _ _ hr⟩

theorem storeVar_run {P : Program} {w : World} {t : TypeId} {b o size : Nat} {v : Value} {vs : List Value} {arr : Array Value} {ty : TypeId} (hinfo : P.info? t ≠ none) (hsize : size = P.cellsOf t)
    (hv : v.cells = vs.toArray) (hlen : vs.length = size) (hb : w.heap[b]? = some (.cells arr ty (0, 0))) (hle : o + vs.length ≤ arr.size) (hone : ∀ u ∈ vs, oneC u = true) :
    ∃ w', (storeVar t ⟨b, o, none⟩ v).run P w = .ok () w' ∧ Wrote w w' b o arr ty vs := by
  obtain ⟨w', hr, hw⟩ := storeCells_run (P := P) (o := o) vs 0 w arr hb (by simpa using hle) hone
  refine ⟨w', ?_, by simpa using hw⟩
  simp only [storeVar, Sem.run_bind, run_sizeOf hinfo, Result.andThen]
  rw [if_neg (by rw [hv]; simp; omega)]
  simp only [hv]
  exact hr

section
variable {P : Program} {T : Tab} (hT : TabOK P T) {C : Ctx T} {o : Oper} {a : Act} {w : World} {Y : Nat → Prop} {σ : Sg} {ps : List PV} {st : St} {n id : Nat} {K : PV → Dl → Prop} {lk : Nat → Option Blk}
  (H : SW C w Y σ ps a.tmps.toList st n) (hlk : ∀ b x, lk b = some x → lkS st b = some x) (hid : σ id = none ∧ T.pas ≤ id)

/-- storing into a variable of the call's own -/
theorem storeVar_var {vs : List Value} (H : SW C w Y σ ps vs st n) {t : TypeId} {b c size : Nat} {l : Loc} {row : List PV} {p : PV} {v : Value} {K : List PV → Prop}
    (hinfo : P.info? t ≠ none) (hsize : size = P.cellsOf t) (hst : lkS st b = some (.var false row)) (hl : σ b = some l) (hv : Rep w Y σ p v) (h : storeRow size row c p K) :
    ∃ row' w', K row' ∧ (storeVar t ⟨l.cb, l.co + c, none⟩ v).run P w = .ok () w' ∧ SW C w' Y σ ps vs (inS st b (some (.var false row'))) n := by
  unfold storeRow at h
  cases hb : (allCell (cellsV p) && Nat.beq (lenL (cellsV p)) size && Nat.ble (c + lenL (cellsV p)) (lenL row)) with
  | false => rw [hb] at h; exact h.elim
  | true =>
    rw [hb] at h
    simp only [Bool.and_eq_true, lenL_eq] at hb
    obtain ⟨⟨h1, h2⟩, h3⟩ := hb
    have h2 := Nat.eq_of_beq_eq_true h2
    have h3 := Nat.le_of_ble_eq_true h3
    obtain ⟨vs', hvs, hr, hone⟩ := cells_rep hv h1
    have hlen := hr.length
    have hB : BlkRep w Y σ l (.var false row) := by
      rcases H.store.blk b _ hst with ⟨l', hl', hB⟩ | ⟨hn, _⟩
      · rw [hl] at hl'; cases hl'; exact hB
      · rw [hl] at hn; cases hn
    unfold BlkRep at hB
    obtain ⟨⟨arr, ty, ha, has⟩, hsz, hle, hrow, hm, hr0⟩ := hB
    obtain ⟨w', hrun, W⟩ := storeVar_run (P := P) (o := l.co + c) hinfo hsize hvs (by omega) ha (by omega) hone
    refine ⟨_, w', h, hrun, SW.update H hst hl (hm rfl) W.os W.tape W.output W.size W.other (fun _ _ e => by cases e) fun hk => ?_⟩
    obtain ⟨arr', h4, h5, h6⟩ := W.blk
    unfold BlkRep
    exact ⟨⟨arr', ty, h4, by omega⟩, by rw [writeL_len]; exact hsz, by rw [writeL_len]; exact hle, W.rep ha hrow hr (by omega) hk, hm, hr0⟩
end
end Go.Pv
