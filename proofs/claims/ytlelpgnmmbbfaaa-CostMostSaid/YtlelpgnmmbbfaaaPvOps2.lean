/-
  Pv, part 5: operations that ask the types.
-/
import Derived.Test.YtlelpgnmmbbfaaaPvOps1
namespace Go.Pv
open Go
set_option linter.all false

theorem tab_open {P : Program} {T : Tab} (hT : TabOK P T) {t : TypeId} {x : TI} (h : T t = x) (ok : x.ok = true) :
    ∃ i d, P.info? t = some i ∧ P.underlying t = some d ∧ x = mkTI P t ∧ x.agg = isAggT P t ∧ x.size = i.size ∧ x.zero = zeroT P t ∧
      x.plain = (if P.eqGuardType P.depth t then none else plainT P 20 t) ∧
      x.kind = (match d with
        | .struct fs => TK.struct (fs.toList.map fun f => { off := f.offset, size := P.cellsOf f.type, agg := isAggT P f.type })
        | .array n e => .arr n (P.cellsOf e) (isAggT P e)
        | .slice e => .slice (P.cellsOf e) (P.bytesOf e) (zeroT P e)
        | .int k => .int k
        | .string => .str
        | .pointer _ => .ptr
        | _ => .oth) := by
  have e := (hT t (by rw [h]; exact ok)).1
  rw [h] at e
  subst h
  unfold mkTI at e
  split at e
  · rename_i i d h1 h2
    rw [e]
    refine ⟨i, d, h1, h2, ?_, rfl, rfl, rfl, rfl, rfl⟩
    unfold mkTI; rw [h1, h2]
  · rw [e] at ok; simp [TI.bad] at ok

theorem tab_struct {P : Program} {T : Tab} (hT : TabOK P T) {t : TypeId} {agg : Bool} {plain : Option (List Nat)} {size : Nat} {z : Option (List PV)} {fs : List FI}
    (h : T t = ⟨true, agg, size, z, plain, .struct fs⟩) : ∃ fl, P.underlying t = some (.struct fl) ∧ fs = (fl.toList.map fun f => { off := f.offset, size := P.cellsOf f.type, agg := isAggT P f.type }) ∧ z = zeroT P t := by
  obtain ⟨i, d, h1, h2, h3, h4, h5, h6, h7, h8⟩ := tab_open hT h rfl
  cases d <;> simp at h8
  rename_i fl
  exact ⟨fl, h2, h8, h6⟩
theorem tab_slice {P : Program} {T : Tab} (hT : TabOK P T) {t : TypeId} {agg : Bool} {plain : Option (List Nat)} {size sz bytes : Nat} {z z' : Option (List PV)}
    (h : T t = ⟨true, agg, size, z, plain, .slice sz bytes z'⟩) : ∃ e, P.underlying t = some (.slice e) ∧ sz = P.cellsOf e ∧ bytes = P.bytesOf e ∧ z' = zeroT P e := by
  obtain ⟨i, d, h1, h2, h3, h4, h5, h6, h7, h8⟩ := tab_open hT h rfl
  cases d <;> simp at h8
  rename_i e
  exact ⟨e, h2, h8.1, h8.2.1, h8.2.2⟩
theorem tab_arr {P : Program} {T : Tab} (hT : TabOK P T) {t : TypeId} {agg ag : Bool} {plain : Option (List Nat)} {size n sz : Nat} {z : Option (List PV)}
    (h : T t = ⟨true, agg, size, z, plain, .arr n sz ag⟩) : ∃ e, P.underlying t = some (.array n e) ∧ sz = P.cellsOf e ∧ ag = isAggT P e ∧ z = zeroT P t := by
  obtain ⟨i, d, h1, h2, h3, h4, h5, h6, h7, h8⟩ := tab_open hT h rfl
  cases d <;> simp at h8
  rename_i m e
  obtain ⟨rfl, h8⟩ := h8
  exact ⟨e, h2, h8.1, h8.2, h6⟩
theorem tab_int {P : Program} {T : Tab} (hT : TabOK P T) {t : TypeId} {agg : Bool} {plain : Option (List Nat)} {size : Nat} {z : Option (List PV)} {k : IntKind}
    (h : T t = ⟨true, agg, size, z, plain, .int k⟩) : P.underlying t = some (.int k) := by
  obtain ⟨i, d, h1, h2, h3, h4, h5, h6, h7, h8⟩ := tab_open hT h rfl
  cases d <;> simp at h8
  subst h8; exact h2
theorem tab_str {P : Program} {T : Tab} (hT : TabOK P T) {t : TypeId} {agg : Bool} {plain : Option (List Nat)} {size : Nat} {z : Option (List PV)}
    (h : T t = ⟨true, agg, size, z, plain, .str⟩) : P.underlying t = some .string := by
  obtain ⟨i, d, h1, h2, h3, h4, h5, h6, h7, h8⟩ := tab_open hT h rfl
  cases d <;> simp at h8
  exact h2
theorem tab_ptr {P : Program} {T : Tab} (hT : TabOK P T) {t : TypeId} {agg : Bool} {plain : Option (List Nat)} {size : Nat} {z : Option (List PV)}
    (h : T t = ⟨true, agg, size, z, plain, .ptr⟩) : ∃ e, P.underlying t = some (.pointer e) := by
  obtain ⟨i, d, h1, h2, h3, h4, h5, h6, h7, h8⟩ := tab_open hT h rfl
  cases d <;> simp at h8
  exact ⟨_, h2⟩
theorem tab_size {P : Program} {T : Tab} (hT : TabOK P T) {t : TypeId} {agg : Bool} {plain : Option (List Nat)} {size : Nat} {z : Option (List PV)} {k : TK}
    (h : T t = ⟨true, agg, size, z, plain, k⟩) : P.info? t ≠ none ∧ size = P.cellsOf t ∧ agg = isAggT P t ∧ ∃ d, P.underlying t = some d := by
  obtain ⟨i, d, h1, h2, h3, h4, h5, h6, h7, h8⟩ := tab_open hT h rfl
  refine ⟨by rw [h1]; simp, ?_, h4, d, h2⟩
  simp [Program.cellsOf, h1]; exact h5

theorem fieldOf_eq : ∀ (l : List FI) (n : Nat), fieldOf l n = l[n]?
  | [], n => by simp [fieldOf]
  | f :: l, 0 => by simp [fieldOf]
  | f :: l, n + 1 => by simp [fieldOf, fieldOf_eq l n]

theorem run_sizeOf {P : Program} {w : World} {t : TypeId} (h : P.info? t ≠ none) : (sizeOf t).run P w = .ok (P.cellsOf t) w := by
  cases hi : P.info? t with
  | none => exact absurd hi h
  | some i => simp [sizeOf, typeInfo, program, Sem.run, Result.andThen, hi, Program.cellsOf]
theorem run_isAgg {P : Program} {w : World} {t : TypeId} {d : TypeDesc} (h : P.underlying t = some d) : (isAgg t).run P w = .ok (isAggT P t) w := by
  have hu : (underlying t).run P w = .ok d w := by simp [underlying, program, Sem.run, Result.andThen, h]
  simp only [isAgg, isAggT, h, Sem.run_bind, hu, Result.andThen]
  cases d <;> simp
theorem run_und {P : Program} {w : World} {t : TypeId} {d : TypeDesc} (h : P.underlying t = some d) : (underlying t).run P w = .ok d w := by
  simp [underlying, program, Sem.run, Result.andThen, h]

theorem info_of_pos {P : Program} {t : TypeId} (h : isPos (P.cellsOf t) = true) : P.info? t ≠ none := by
  intro h0
  have : P.cellsOf t = 0 := by simp [Program.cellsOf, h0]
  rw [this] at h; simp [isPos] at h

theorem load_run {P : Program} {w : World} {x : Addr} {v : Value} (h : w.cell? x = some v) : (load x).run P w = .ok v w := by
  simp [load, Sem.run, h]
theorem addr_add (b o n : Nat) : (⟨b, o, none⟩ : Addr).add n = ⟨b, o + n, none⟩ := by
  unfold Addr.add
  split <;> simp [*]
theorem loadCells_run {P : Program} {w : World} {b o : Nat} : ∀ (vs : List Value) (i : Nat) (acc : Array Value), (∀ j v, vs[j]? = some v → w.cell? ⟨b, o + (i + j), none⟩ = some v) →
    (loadCellsFrom ⟨b, o, none⟩ i vs.length acc).run P w = .ok (acc ++ vs.toArray) w
  | [], i, acc, _ => by simp [loadCellsFrom]
  | v :: vs, i, acc, h => by
    have h0 := h 0 v rfl
    simp only [List.length_cons, loadCellsFrom, Sem.run_bind, addr_add]
    rw [load_run (by simpa using h0)]
    simp only [Result.andThen]
    rw [loadCells_run vs (i + 1) (acc.push v) (fun j u hu => by
      have := h (j + 1) u (by simpa using hu)
      rw [show i + 1 + j = i + (j + 1) by omega]; exact this)]
    simp

section
variable {P : Program} {T : Tab} (hT : TabOK P T) {C : Ctx T} {o : Oper} {a : Act} {w : World} {Y : Nat → Prop} {σ : Sg} {ps : List PV} {st : St} {n id : Nat} {K : PV → Dl → Prop} {lk : Nat → Option Blk}
  (H : SW C w Y σ ps a.tmps.toList st n) (hlk : ∀ b x, lk b = some x → lkS st b = some x) (hid : σ id = none ∧ T.pas ≤ id)

include hT H in
theorem op_fieldAddr {t : TypeId} {x : Operand} {f : Nat} (ho : o.op = .fieldAddr t x f) (h : opE T (Sig.std P T) (.fieldAddr t x f) ps lk id K) : Res P C o a w σ ps st n id K := by
  have hc := ev_rep H x
  simp only [opE] at h
  split at h
  · rename_i fs e
    obtain ⟨fl, hu, rfl, _⟩ := tab_struct hT e
    split at h
    · rename_i fd hf
      rw [fieldOf_eq, List.getElem?_map] at hf
      cases hg : fl.toList[f]? with
      | none => simp [hg] at hf
      | some g =>
        simp [hg] at hf
        subst hf
        have hg' : fl[f]? = some g := by simpa using hg
        cases hp : isPos (P.cellsOf g.type) with
        | false => simp only [hp] at h; exact h.elim
        | true =>
          simp only [hp] at h
          have hpos : P.cellsOf g.type ≠ 0 := by intro h0; rw [h0] at hp; simp [isPos] at hp
          have hinfo : P.info? g.type ≠ none := by intro h0; apply hpos; simp [Program.cellsOf, h0]
          have run : ∀ b off, a.eval x = .pointer (some ⟨b, off, none⟩) → (execOp a.eval o).run P w = .ok (.value (.pointer (some ⟨b, off + g.offset, none⟩))) w := by
            intro b off hx
            simp [execOp, ho, Instr.fieldAt, run_und hu, hg', hx, Instr.sureAddr, fieldPlace, run_sizeOf hinfo, hpos, addr_add]
          split at h
          · rename_i b c e; rw [e] at hc
            unfold Rep at hc; obtain ⟨l, hs, e'⟩ := hc
            refine Res.quiet H (run _ _ e') ?_ h
            unfold Rep; exact ⟨l, hs, by rw [Nat.add_assoc]⟩
          · rename_i b r c e; rw [e] at hc
            unfold Rep at hc; obtain ⟨l, hs, e'⟩ := hc
            refine Res.quiet H (run _ _ e') ?_ h
            unfold Rep; exact ⟨l, hs, by rw [Nat.add_assoc]⟩
          · rename_i b r c hh sz j k e; rw [e] at hc
            unfold Rep at hc
            refine Res.quiet H (run _ _ hc) ?_ h
            unfold Rep; rw [Nat.add_assoc]
          · rename_i cs e; rw [e] at hc
            cases hb : Nat.ble g.offset (lenL cs) with
            | false => simp only [hb] at h; exact h.elim
            | true =>
              simp only [hb] at h
              unfold Rep at hc; obtain ⟨b, o', e', hy, hr⟩ := hc
              refine Res.quiet H (run _ _ e') ?_ h
              unfold Rep; rw [dropL_eq]; exact ⟨b, _, rfl, hy, hr.drop _ _ _⟩
          · exact h.elim
    · exact h.elim
  · exact h.elim

/-- what a load hands back -/
theorem loadVar_rep {P : Program} {w : World} {Y : Nat → Prop} {σ : Sg} {t : TypeId} {b o' c : Nat} {row : List PV} {agg : Bool} {size : Nat} {K : PV → Prop}
    (hinfo : P.info? t ≠ none) (hsize : size = P.cellsOf t) (hagg : agg = isAggT P t) (hund : ∃ d, P.underlying t = some d)
    (hr : RepC w Y σ b row o') (h : loadRow agg size row c K) :
    ∃ v cv, K v ∧ (loadVar t ⟨b, o' + c, none⟩).run P w = .ok cv w ∧ Rep w Y σ v cv := by
  obtain ⟨d, hu⟩ := hund
  unfold loadRow at h
  cases agg with
  | true =>
    simp only [cond_true] at h
    cases hb : Nat.ble (c + size) (lenL row) with
    | false => simp only [hb, cond_false] at h
    | true =>
      simp only [hb, cond_true, takeL_eq, dropL_eq] at h
      have hle : c + size ≤ row.length := by simpa using Nat.le_of_ble_eq_true hb
      have hr2 := (hr.drop c _ _).take size _ _
      obtain ⟨vs, hv, hcell⟩ := hr2.vals
      refine ⟨_, .agg vs.toArray, h, ?_, by unfold Rep; exact ⟨vs, rfl, hv⟩⟩
      have hlen : vs.length = P.cellsOf t := by
        rw [RepL.length _ _ hv]; simp; omega
      simp only [loadVar, Sem.run_bind, run_isAgg hu, ← hagg, Result.andThen, if_true, run_sizeOf hinfo, loadCells]
      rw [← hlen, loadCells_run vs 0 #[] (fun j v hj => by simpa using hcell j v hj)]
      simp
  | false =>
    simp only [cond_false] at h
    cases hb : Nat.blt c (lenL row) with
    | false => simp only [hb, cond_false] at h
    | true =>
      simp only [hb, cond_true] at h
      have hlt : c < row.length := by simpa [Nat.blt_eq] using hb
      obtain ⟨v, hv, hrep⟩ := hr.get _ _ c hlt
      refine ⟨_, v, h, ?_, hrep⟩
      simp only [loadVar, Sem.run_bind, run_isAgg hu, ← hagg, Result.andThen]
      simp only [Bool.false_eq_true, if_false]
      exact load_run hv

theorem BlkRep.of_lk {T : Tab} {C : Ctx T} {w : World} {Y : Nat → Prop} {σ : Sg} {ps : List PV} {vs : List Value} {st : St} {n : Nat} (H : SW C w Y σ ps vs st n) {lk : Nat → Option Blk}
    (hlk : ∀ b x, lk b = some x → lkS st b = some x) {b : Nat} {x : Blk} {l : Loc} (h : lk b = some x) (hs : σ b = some l) : BlkRep w Y σ l x := by
  rcases H.store.blk b x (hlk _ _ h) with ⟨l', hs', hb⟩ | ⟨hs', _⟩
  · rw [hs] at hs'; cases hs'; exact hb
  · rw [hs] at hs'; cases hs'

theorem rep_noSg {w : World} {Y : Nat → Prop} {σ : Sg} {p : PV} {v : Value} (h : Rep w Y noSg p v) : Rep w Y σ p v :=
  Rep.keep p ⟨fun _ _ _ => rfl, fun _ _ h => h, Nat.le_refl _, fun _ _ h => by cases h⟩ v h

theorem getD_some {o : Option PV} {h : Hdr} {sz : Nat} {es : List (List PV)} (e : o.getD .undef = .ow h sz es) : o = some (.ow h sz es) := by
  cases o with
  | none => cases e
  | some x => simp at e; rw [e]
theorem borV_rep {P : Program} {T : Tab} {w : World} {Y : Nat → Prop} {σ : Sg} (b r c : Nat) {p : PV} {v : Value} (h : Rep w Y σ p v) : Rep w Y σ (borV (Sig.std P T) b r c p) v := by
  unfold borV
  split
  · rename_i hh sz es
    unfold Rep at h ⊢
    simp only [Sig.std]
    rcases h with ⟨h1, h2, h3⟩ | ⟨h1, h2⟩
    · exact .inl ⟨by simpa using h1, h2, h3⟩
    · exact .inr ⟨by rw [h1]; rfl, h2⟩
  · exact h
theorem borL_rep {P : Program} {T : Tab} {w : World} {Y : Nat → Prop} {σ : Sg} {bb : Nat} (b r : Nat) : ∀ (ps : List PV) (c o : Nat), RepC w Y σ bb ps o → RepC w Y σ bb (borL (Sig.std P T) b r c ps) o
  | [], c, o, h => by simpa [borL] using h
  | p :: ps, c, o, h => by
    unfold RepC at h; obtain ⟨⟨v, h1, h2⟩, h3⟩ := h
    simp only [borL]; unfold RepC; exact ⟨⟨v, h1, borV_rep b r c h2⟩, borL_rep b r ps (c + 1) (o + 1) h3⟩
include hT H hlk in
theorem op_load {t : TypeId} {x : Operand} (ho : o.op = .load t x) (h : opE T (Sig.std P T) (.load t x) ps lk id K) : Res P C o a w σ ps st n id K := by
  have hc := ev_rep H x
  simp only [opE] at h
  split at h
  · rename_i agg size z plain kind e
    obtain ⟨hinfo, hsize, hagg, hund⟩ := tab_size hT e
    have fin : ∀ (σ' : Sg) (b o' c : Nat) (row : List PV), a.eval x = .pointer (some ⟨b, o' + c, none⟩) → RepC w Y σ' b row o' → (∀ p v, Rep w Y σ' p v → Rep w Y σ p v) →
        loadRow agg size row c (fun v => K v []) → Res P C o a w σ ps st n id K := by
      intro σ' b o' c row hx hr hσ hl
      obtain ⟨v, cv, hK, hrun, hrep⟩ := loadVar_rep hinfo hsize hagg hund hr hl
      refine Res.quiet H (cv := cv) ?_ (hσ _ _ hrep) hK
      simp [execOp, ho, hx, Instr.loadAt, Instr.sureAddr, hrun]
    split at h
    · rename_i b c e; rw [e] at hc
      unfold Rep at hc; obtain ⟨l, hs, e'⟩ := hc
      split at h
      · rename_i ro row hb
        have hB := BlkRep.of_lk H hlk hb hs
        unfold BlkRep at hB
        exact fin σ _ _ _ _ e' hB.2.2.2.1 (fun _ _ h => h) h
      · exact h.elim
    · rename_i b r c e; rw [e] at hc
      unfold Rep at hc; obtain ⟨l, hs, e'⟩ := hc
      split at h
      · rename_i ro sz rows hb
        have hB := BlkRep.of_lk H hlk hb hs
        unfold BlkRep at hB
        obtain ⟨row, hrow, h⟩ := h
        have := RepR.row _ _ _ _ hB.2.2.2.2.1 hrow
        rw [← hB.2.1] at this
        exact fin noSg _ _ _ _ e' this.2 (fun _ _ h => rep_noSg h) h
      · rename_i sz rows hb
        have hB := BlkRep.of_lk H hlk hb hs
        unfold BlkRep at hB
        obtain ⟨row, hrow, h⟩ := h
        have := RepR.row _ _ _ _ hB.2.2.2.2.1 hrow
        rw [← hB.2.1] at this
        exact fin noSg _ _ _ _ e' (borL_rep b r row 0 _ this.2) (fun _ _ h => rep_noSg h) h
      · exact h.elim
    · rename_i b r c hh sz j k e; rw [e] at hc
      unfold Rep at hc
      split at h
      · rename_i sz0 rows hb
        obtain ⟨row, hrow, h⟩ := h
        split at h
        · rename_i h' sz' es ec
          cases hs : Nat.beq sz' sz with
          | false => rw [hs] at h; exact h.elim
          | true =>
            rw [hs] at h
            simp only [cond_true] at h
            have hs := Nat.eq_of_beq_eq_true hs
            subst hs
            obtain ⟨he, er, her, h⟩ := h
            subst he
            have hN := H.nest.rep b r c hh sz' es ⟨sz0, rows, row, hlk _ _ hb, hrow, by rw [getL_eq, List.getD_eq_getElem?_getD] at ec; exact getD_some ec, by rintro rfl; simp at her⟩
            exact fin noSg _ _ _ _ hc (RepR.row _ _ _ _ hN.rows her).2 (fun _ _ h => rep_noSg h) h
        · exact h.elim
      · exact h.elim
    · rename_i cs e; rw [e] at hc
      unfold Rep at hc; obtain ⟨b, o', e', hy, hr⟩ := hc
      exact fin noSg b o' 0 cs (by simpa using e') hr (fun _ _ h => rep_noSg h) h
    · exact h.elim
  · exact h.elim
end
end Go.Pv
