/-
  Pv, part 13: build, buildSlice, makeSlice, len, min, max.
-/
import Derived.Test.YtlelpgnmmbbfaaaPvOps8
namespace Go.Pv
open Go
set_option linter.all false

theorem applyD_app : ∀ (δ : Dl) (st : St) (e : Nat × Option Blk), applyD (δ ++ [e]) st = inS (applyD δ st) e.1 e.2
  | [], _, _ => rfl
  | d :: δ, st, e => by simp only [List.cons_append, applyD]; exact applyD_app δ _ e
theorem nextI_app (δ : Dl) (e : Nat × Option Blk) (n id : Nat) : nextI (δ ++ [e]) n id = max n (id + 1) := by cases δ <;> rfl

theorem repL_length : ∀ (n : Nat) (l : List PV), (repL n l).length = n * l.length
  | 0, l => by simp [repL]
  | n + 1, l => by simp [repL, repL_length n l, Nat.add_mul]; omega
theorem repL_get : ∀ (n : Nat) (l : List PV) (i : Nat), i < n * l.length → (repL n l)[i]? = l[i % l.length]?
  | 0, l, i, h => by simp at h
  | n + 1, l, i, h => by
    simp only [repL, appL_eq]
    by_cases h1 : i < l.length
    · rw [List.getElem?_append_left h1, Nat.mod_eq_of_lt h1]
    · rw [List.getElem?_append_right (by omega), repL_get n l (i - l.length) (by rw [Nat.add_mul] at h; omega)]
      congr 1
      rw [Nat.mod_eq_sub_mod (by omega : i ≥ l.length)]
theorem chunks_length (sz : Nat) : ∀ (n : Nat) (l : List PV), (chunks sz n l).length = n
  | 0, _ => rfl
  | n + 1, l => by simp [chunks, chunks_length sz n]
/-- a row of cells, cut into rows -/
theorem RepC.chunks {w : World} {Y : Nat → Prop} {σ : Sg} {b sz : Nat} : ∀ (n : Nat) (l : List PV) (o : Nat), RepC w Y σ b l o → allCell l = true → n * sz ≤ l.length → RepR w Y σ b sz (chunks sz n l) o
  | 0, l, o, _, _, _ => by simp [Pv.chunks, RepR]
  | n + 1, l, o, h, ha, hle => by
    rw [Nat.add_mul] at hle
    simp only [Pv.chunks, takeL_eq, dropL_eq]
    unfold RepR
    refine ⟨⟨by simp; omega, ?_⟩, h.take sz _ _, RepC.chunks n _ _ (h.drop sz _ _) ?_ (by simp; omega)⟩
    · rw [allCell_iff] at ha ⊢; exact fun p hp => ha p (List.mem_of_mem_take hp)
    · rw [allCell_iff] at ha ⊢; exact fun p hp => ha p (List.mem_of_mem_drop hp)

theorem fillV_len (place : Nat → Option (Nat × Nat)) : ∀ (parts : List (Nat × PV)) (cells cs : List PV), fillV place cells parts = some cs → cs.length = cells.length
  | [], cells, cs, h => by simp [fillV] at h; rw [h]
  | (i, v) :: parts, cells, cs, h => by
    simp only [fillV] at h
    split at h
    · cases h
    · rename_i off size _
      cases hb : (Nat.beq (lenL (cellsV v)) size && Nat.ble (off + size) (lenL cells)) with
      | false => rw [hb] at h; cases h
      | true =>
        rw [hb] at h
        rw [fillV_len place parts _ cs h, writeL_len]

theorem pur_len {S : Sig} {lk : Nat → Option Blk} : ∀ (ps ps' : List PV) (δ : Dl), pur S lk ps = some (ps', δ) → ps'.length = ps.length
  | [], ps', δ, h => by simp [pur] at h; simp [← h.1]
  | p :: ps, ps', δ, h => by
    unfold pur at h
    cases hp : pur S lk ps with
    | none => rw [hp] at h; cases h
    | some r =>
      obtain ⟨qs, d⟩ := r
      rw [hp] at h
      simp only at h
      have ih := pur_len ps qs d hp
      split at h
      · split at h
        · cases h; simp [ih]
        · cases h
      all_goals first
        | (cases h; done)
        | (cases h; simp [ih])

theorem pur_cell {S : Sig} {lk : Nat → Option Blk} (ps ps' : List PV) (δ : Dl) (h : pur S lk ps = some (ps', δ)) : allCell ps' = true ∧ allCell ps = true := pur_cell0 ps ps' δ h

section
variable {P : Program} {T : Tab} (hT : TabOK P T) {C : Ctx T} {o : Oper} {a : Act} {w : World} {Y : Nat → Prop} {σ : Sg} {ps : List PV} {st : St} {n id : Nat} {K : PV → Dl → Prop} {lk : Nat → Option Blk}
  (H : SW C w Y σ ps a.tmps.toList st n) (hlk : ∀ b x, lk b = some x → lkS st b = some x) (hid : σ id = none ∧ T.pas ≤ id) (hU : UndOK P)

include hT H in
theorem op_build {t : TypeId} {parts : Array (Nat × Operand)} (ho : o.op = .build t parts) (hall : ∀ fs : Array Field, P.underlying t = some (.struct fs) → ∀ f ∈ fs.toList, P.info? f.type ≠ none)
    (helem : ∀ k e, P.underlying t = some (.array k e) → P.info? e ≠ none) (h : opE T (Sig.std P T) (.build t parts) ps lk id K) : Res P C o a w σ ps st n id K := by
  have hp := evP_spec H parts.toList
  have hparts : (parts.map fun (x : Nat × Operand) => (x.1, a.eval x.2)).toList = parts.toList.map fun x => (x.1, a.eval x.2) := by simp
  simp only [opE] at h
  split at h
  · rename_i agg size z plain fs e
    obtain ⟨fl, hu, rfl, hz⟩ := tab_struct hT e
    obtain ⟨zv, hzr, hzrep⟩ := zero_rep hz.symm
    cases hb : noTop (evP T ps parts.toList) with
    | false => rw [hb] at h; exact h.elim
    | true =>
      rw [hb] at h
      simp only [cond_true] at h
      split at h
      · rename_i cs hf
        have hinf := hall fl hu
        have places : (fl.mapM fun f => (do pure (f.offset, ← sizeOf f.type) : Sem (Nat × Nat))).run P w = .ok (fl.map fun f => (f.offset, P.cellsOf f.type)) w := by
          have key : ∀ (l : List Field), (∀ f ∈ l, P.info? f.type ≠ none) → (l.mapM fun f => (do pure (f.offset, ← sizeOf f.type) : Sem (Nat × Nat))).run P w = .ok (l.map fun f => (f.offset, P.cellsOf f.type)) w := by
            intro l
            induction l with
            | nil => intro _; simp
            | cons f l ih =>
              intro hl
              rw [List.mapM_cons]
              simp only [Sem.run_bind, run_sizeOf (hl f (by simp)), Result.andThen, Sem.run_pure, ih (fun g hg => hl g (by simp [hg]))]
              simp
          rw [Array.mapM_eq_mapM_toList]
          simp only [Sem.run_bind, map_eq_pure_bind]
          rw [key fl.toList hinf]
          simp only [Result.andThen, Sem.run_pure]
          congr 1
          apply Array.ext'
          simp
        obtain ⟨vcs, hfill, hrep⟩ := fill_rep (w := w) (Y := Y) (σ := σ) _ (evP T ps parts.toList) (parts.toList.map fun x => (x.1, a.eval x.2)) z zv.cells cs hp (hzrep w Y σ) hf (noTop_spec _ hb)
        have hplace : fldPlace (fl.toList.map fun f => ({ off := f.offset, size := P.cellsOf f.type, agg := isAggT P f.type } : FI)) = ((fl.map fun f => (f.offset, P.cellsOf f.type))[·]?) := by
          funext i
          unfold fldPlace
          rw [fieldOf_eq, List.getElem?_map, Array.getElem?_map, ← Array.getElem?_toList]
          cases fl.toList[i]? <;> rfl
        rw [hplace] at hfill
        refine Res.quiet H (cv := .agg vcs) ?_ (by unfold Rep; exact ⟨vcs.toList, by simp, hrep⟩) h
        simp only [execOp, ho, Instr.build, Sem.run_bind, hzr, Result.andThen, run_und hu, places, hparts, hfill]
        simp
      · exact h.elim
  · rename_i agg size z plain k esz ag e
    obtain ⟨et, hu, rfl, _, hz⟩ := tab_arr hT e
    obtain ⟨zv, hzr, hzrep⟩ := zero_rep hz.symm
    cases hb : noTop (evP T ps parts.toList) with
    | false => rw [hb] at h; exact h.elim
    | true =>
      rw [hb] at h
      simp only [cond_true] at h
      split at h
      · rename_i cs hf
        obtain ⟨vcs, hfill, hrep⟩ := fill_rep (w := w) (Y := Y) (σ := σ) _ (evP T ps parts.toList) (parts.toList.map fun x => (x.1, a.eval x.2)) z zv.cells cs hp (hzrep w Y σ) hf (noTop_spec _ hb)
        refine Res.quiet H (cv := .agg vcs) ?_ (by unfold Rep; exact ⟨vcs.toList, by simp, hrep⟩) h
        simp only [execOp, ho, Instr.build, Sem.run_bind, hzr, Result.andThen, run_und hu, run_sizeOf (helem _ _ hu), hparts, hfill]
        simp
      · exact h.elim
  · exact h.elim

/-- new rows of the call's own -/
theorem SW.newArrX (H : SW C w Y σ ps a.tmps.toList st n) (hid : σ id = none ∧ T.pas ≤ id) {arr : Array Value} {rows : List (List PV)} {sz m : Nat} {x : Blk} (hx : x = .arr false sz rows ∨ (x = .nar sz rows ∧ ∀ (r : Nat) (row : List PV) (c : Nat) (h : Hdr) (sz' : Nat) (es : List (List PV)), rows[r]? = some row → row[c]? = some (PV.ow h sz' es) → es = []))
    (ty : TypeId) (hpos : 0 < sz) (hm : rows.length ≤ m) (harr : arr.size = m * sz)
    (hrows : ∀ (w' : World) (Y' : Nat → Prop), (∀ p v, Rep w Y noSg p v → Rep w' Y' noSg p v) → w'.heap[w.heap.size]? = some (.cells arr ty (0, 0)) → RepR w' Y' noSg w.heap.size sz rows 0) :
    ∃ Y' σ', SW C (w.alloc (.cells arr ty)) Y' σ' ps a.tmps.toList (inS st id (some x)) (max n (id + 1)) ∧ Rep (w.alloc (.cells arr ty)) Y' σ' (.os id 0 rows.length) (.slice (some ⟨w.heap.size, 0, none⟩) rows.length m) ∧ Off id σ σ' := by
  obtain ⟨Y', σ', H', hs, _, _, hoff⟩ := H.alloc hid arr ty ⟨w.heap.size, 0, sz, m * sz, rows.length⟩ rfl x (fun sz1 rows1 e => by
    rcases hx with hx | ⟨hx, hno⟩
    · rw [hx] at e; cases e
    · rw [hx] at e; cases e; exact hno) (by
    intro w' Y' σ' _ hY hb hk
    have := Nat.mul_le_mul_right sz hm
    rcases hx with hx | ⟨hx, _⟩ <;> subst hx <;> unfold BlkRep
    · exact ⟨⟨_, ty, hb, harr⟩, rfl, hpos, ⟨by simpa using this, rfl⟩, hrows w' Y' hk hb, fun _ => hY, fun h => by cases h⟩
    · exact ⟨⟨_, ty, hb, harr⟩, rfl, hpos, ⟨by simpa using this, rfl⟩, hrows w' Y' hk hb, hY⟩)
  refine ⟨Y', σ', H', ?_, hoff⟩
  unfold Rep
  refine .inl ⟨_, m, hs, by simp, hm, by simp, by simp⟩
/-- a new row of the call's own -/
theorem SW.newArr (H : SW C w Y σ ps a.tmps.toList st n) (hid : σ id = none ∧ T.pas ≤ id) {arr : Array Value} {rows : List (List PV)} {sz m : Nat} (ty : TypeId) (hpos : 0 < sz) (hm : rows.length ≤ m) (harr : arr.size = m * sz)
    (hrows : ∀ (w' : World) (Y' : Nat → Prop), (∀ p v, Rep w Y noSg p v → Rep w' Y' noSg p v) → w'.heap[w.heap.size]? = some (.cells arr ty (0, 0)) → RepR w' Y' noSg w.heap.size sz rows 0) :
    ∃ Y' σ', SW C (w.alloc (.cells arr ty)) Y' σ' ps a.tmps.toList (inS st id (some (.arr false sz rows))) (max n (id + 1)) ∧ Rep (w.alloc (.cells arr ty)) Y' σ' (.os id 0 rows.length) (.slice (some ⟨w.heap.size, 0, none⟩) rows.length m) ∧ Off id σ σ' :=
  SW.newArrX H hid (.inl rfl) ty hpos hm harr hrows

include hT H in
theorem buildSlice_core {t : TypeId} {len : Nat} {parts : Array (Nat × Operand)} {z cs : List PV} {et : TypeId} (ho : o.op = .buildSlice t len parts)
    (hu : P.underlying t = some (.slice et)) (hz : some z = zeroT P et) (hb1 : isPos (P.cellsOf et) = true) (hzl : z.length = P.cellsOf et) (hle : len * P.cellsOf et ≤ 16777216) (hb4 : noTop (evP T ps parts.toList) = true)
    (hf : fillV (fun i => some (i * P.cellsOf et, P.cellsOf et)) (repL len z) (evP T ps parts.toList) = some cs) :
    ∃ vcs : Array Value, RepL w Y σ cs vcs.toList ∧ vcs.size = len * P.cellsOf et ∧ (execOp a.eval o).run P w = .ok (.value (.slice (some ⟨w.heap.size, 0, none⟩) len len)) (w.alloc (.cells vcs et)) := by
  have hp := evP_spec H parts.toList
  have hparts : (parts.map fun (x : Nat × Operand) => (x.1, a.eval x.2)).toList = parts.toList.map fun x => (x.1, a.eval x.2) := by simp
  obtain ⟨zv, hzr, hzrep⟩ := zero_rep hz.symm
  have hinf := info_of_pos hb1
  have hpos : 0 < P.cellsOf et := by
    rcases Nat.eq_zero_or_pos (P.cellsOf et) with h0 | h0
    · rw [h0] at hb1; simp [isPos] at hb1
    · exact h0
  -- the model's zero cells
  let vz : Array Value := if len * P.cellsOf et = 0 then #[] else zv.cells
  have hz0 := hzrep w Y σ
  have hzsz : zv.cells.size = P.cellsOf et := by have := hz0.length; rw [Array.length_toList] at this; omega
  have hvz : (if len * P.cellsOf et = 0 then pure #[] else do pure (← zeroValue et).cells : Sem (Array Value)).run P w = .ok vz w := by
    by_cases h0 : len * P.cellsOf et = 0
    · simp [h0, vz]
    · simp only [h0, if_false, Sem.run_bind, hzr, Result.andThen, Sem.run_pure, vz]
  have hcells : RepL w Y σ (repL len z) ((Array.range (len * P.cellsOf et)).map (vz[· % vz.size]!)).toList := by
    by_cases h0 : len * P.cellsOf et = 0
    · have : len = 0 := by
        rcases Nat.mul_eq_zero.1 h0 with h | h
        · exact h
        · omega
      subst this
      simp [repL, RepL]
    · have hvz' : vz = zv.cells := by simp [vz, h0]
      rw [hvz']
      have key : ∀ (ps : List PV) (vs : List Value), ps.length = vs.length → (∀ (i : Nat) (p : PV) (v : Value), ps[i]? = some p → vs[i]? = some v → Rep w Y σ p v) → RepL w Y σ ps vs := by
        intro ps
        induction ps with
        | nil => intro vs hl _; have : vs = [] := List.eq_nil_of_length_eq_zero (by simpa using hl.symm); subst this; simp [RepL]
        | cons p ps ih =>
          intro vs hl hh
          cases vs with
          | nil => simp at hl
          | cons v vs => unfold RepL; exact ⟨v, vs, rfl, hh 0 p v rfl rfl, ih vs (by simpa using hl) (fun i p' v' h1 h2 => hh (i + 1) p' v' (by simpa using h1) (by simpa using h2))⟩
      refine key _ _ (by rw [repL_length]; simp [hzl]) ?_
      intro i p v h1 h2
      have hi : i < len * z.length := by
        have : i < (repL len z).length := by
          by_cases hh : i < (repL len z).length
          · exact hh
          · rw [List.getElem?_eq_none (Nat.le_of_not_lt hh)] at h1; cases h1
        rwa [repL_length] at this
      rw [repL_get len z i hi] at h1
      have hmod : i % z.length < zv.cells.size := by rw [hzsz, ← hzl]; exact Nat.mod_lt _ (by omega)
      obtain ⟨u, hu1, hu2⟩ := hz0.get? h1
      have : v = u := by
        simp at h2
        obtain ⟨i', hi', h2⟩ := h2
        have : i' = i := by
          rw [List.getElem?_range (by rw [← hzl]; exact hi)] at hi'
          exact (Option.some.inj hi').symm
        subst this
        rw [← h2]
        rw [Array.getElem?_toList] at hu1
        rw [hzsz, ← hzl]
        simp [getElem!_def, hu1]
      rw [this]; exact hu2
  obtain ⟨vcs, hfill, hrep⟩ := fill_rep (w := w) (Y := Y) (σ := σ) _ (evP T ps parts.toList) (parts.toList.map fun x => (x.1, a.eval x.2)) (repL len z) _ cs hp hcells hf (noTop_spec _ hb4)
  have hvl : vcs.size = len * P.cellsOf et := by
    have := hrep.length; rw [Array.length_toList, fillV_len _ _ _ _ hf, repL_length, hzl] at this; omega
  refine ⟨vcs, hrep, hvl, ?_⟩
  simp only [execOp, ho, Instr.buildSlice, Sem.run_bind, run_und hu, Result.andThen, run_sizeOf hinf]
  rw [if_neg (by omega)]
  by_cases h0 : len * P.cellsOf et = 0
  · have hv0 : vz = #[] := by simp [vz, h0]
    rw [hv0] at hfill
    simp only [h0, if_true, Sem.run_bind, Sem.run_pure, Result.andThen, hparts] at hfill ⊢
    rw [hfill]
    simp [newRow, newObj, Sem.run, Result.andThen]
  · have hv0 : vz = zv.cells := by simp [vz, h0]
    rw [hv0] at hfill
    simp only [h0, if_false, Sem.run_bind, hzr, Sem.run_pure, Result.andThen, hparts] at hfill ⊢
    rw [hfill]
    simp [newRow, newObj, Sem.run, Result.andThen]

include hT H hlk hid in
theorem op_buildSlice {t : TypeId} {len : Nat} {parts : Array (Nat × Operand)} (ho : o.op = .buildSlice t len parts) (h : opE T (Sig.std P T) (.buildSlice t len parts) ps lk id K) : Res P C o a w σ ps st n id K := by
  simp only [opE] at h
  split at h
  · rename_i agg size z0 plain esz bytes z e
    obtain ⟨et, hu, rfl, _, hz⟩ := tab_slice hT e
    cases hb : (isPos (P.cellsOf et) && Nat.beq (lenL z) (P.cellsOf et) && Nat.ble (len * P.cellsOf et) 16777216 && noTop (evP T ps parts.toList)) with
    | false => rw [hb] at h; exact h.elim
    | true =>
      rw [hb] at h
      simp only [cond_true] at h
      simp only [Bool.and_eq_true, lenL_eq] at hb
      obtain ⟨⟨⟨hb1, hb2⟩, hb3⟩, hb4⟩ := hb
      have hinf := info_of_pos hb1
      have hpos : 0 < P.cellsOf et := by
        rcases Nat.eq_zero_or_pos (P.cellsOf et) with h0 | h0
        · rw [h0] at hb1; simp [isPos] at hb1
        · exact h0
      have hzl := Nat.eq_of_beq_eq_true hb2
      have hle := Nat.le_of_ble_eq_true hb3
      split at h
      · rename_i cs hf
        split at h
        · rename_i cs0 δ hpur
          obtain ⟨cs', hl2, hc2, hw2, h, _⟩ := wkC_std h
          obtain ⟨vcs, hrep, hvl, hrun⟩ := buildSlice_core hT H ho hu hz hb1 hzl hle hb4 hf
          have hLk : Lk lk st := fun b ro sz rows h => ⟨ro, hlk _ _ h⟩
          obtain ⟨Y1, H1, hr1, hy1⟩ := pur_sound cs cs0 δ hpur Y st H hLk _ hrep
          have hr1 := hw2 _ _ _ _ hr1
          have hcsl : cs'.length = len * P.cellsOf et := by rw [hl2, pur_len _ _ _ hpur, fillV_len _ _ _ _ hf, repL_length, hzl]
          have hch : (chunks (P.cellsOf et) len cs').length = len := chunks_length _ _ _
          obtain ⟨Y2, σ2, H2, hrep2, hoff⟩ := SW.newArr (a := a) (m := len) (arr := vcs) (rows := chunks (P.cellsOf et) len cs') H1 hid et hpos (by omega) hvl (by
            intro w' Y' hk hb
            refine RepC.chunks len cs' 0 ?_ (hc2 (pur_cell _ _ _ hpur).1) (by omega)
            rw [RepC.iff]
            intro i p hi
            obtain ⟨v, hv, hp'⟩ := hr1.get? hi
            exact ⟨v, by rw [cell_of_block hb]; simpa using hv, hk _ _ hp'⟩)
          rw [hch] at hrep2
          refine ⟨_, _, _, _, Y2, σ2, h, .inl ?_, by rw [applyD_app, nextI_app]; exact H2, hrep2, hoff⟩
          exact hrun
        · exact h.elim
      · exact h.elim
  · exact h.elim
end
end Go.Pv
