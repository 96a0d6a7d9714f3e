/-
  Pv, part 9: allocation, addresses, parts, lengths.
-/
import Derived.Test.YtlelpgnmmbbfaaaPvOps4
namespace Go.Pv
open Go
set_option linter.all false

theorem zero_rep {P : Program} {t : TypeId} {z : List PV} (h : zeroT P t = some z) : ∃ zv, (∀ w, (zeroValue t).run P w = .ok zv w) ∧ ∀ w Y σ, RepL w Y σ z zv.cells.toList := by
  unfold zeroT at h
  split at h
  · rename_i i hi
    split at h
    · rename_i zv hz
      cases h
      refine ⟨zv, fun w => by simp [zeroValue, typeInfo, program, Sem.run, Result.andThen, hi, hz], fun w Y σ => ?_⟩
      unfold ofVal
      split
      · rename_i cs; exact ofCells_rep w Y σ _
      · rename_i hna
        have h1 : cellsV (ofCell zv) = [ofCell zv] := by unfold ofCell; split <;> rfl
        have h2 : zv.cells = #[zv] := by
          cases zv <;> first | rfl | (exact absurd rfl (hna _))
        rw [h1, h2]
        unfold RepL
        exact ⟨zv, [], rfl, ofCell_rep w Y σ zv, by simp [RepL]⟩
    · cases h
  · cases h

theorem cellsV_rep {w : World} {Y : Nat → Prop} {σ : Sg} {p : PV} {v : Value} (h : Rep w Y σ p v) (hp : p ≠ .top) : RepL w Y σ (cellsV p) v.cells.toList := by
  cases p
  case top => exact absurd rfl hp
  case agg cs => unfold Rep at h; obtain ⟨vs, rfl, hr⟩ := h; exact hr
  case os =>
    have hc : v.cells = #[v] := by
      unfold Rep at h
      rcases h with ⟨_, _, _, rfl, _⟩ | ⟨_, _, rfl⟩ <;> rfl
    rw [hc]
    simp only [cellsV]
    unfold RepL
    exact ⟨v, [], rfl, h, by simp [RepL]⟩
  case ow =>
    have hc : v.cells = #[v] := by
      unfold Rep at h
      rcases h with ⟨_, rfl, _⟩ | ⟨_, _, _, rfl⟩ <;> rfl
    rw [hc]
    simp only [cellsV]
    unfold RepL
    exact ⟨v, [], rfl, h, by simp [RepL]⟩
  case bo =>
    have hc : v.cells = #[v] := by
      unfold Rep at h
      rcases h with ⟨_, rfl, _⟩ | ⟨_, _, _, rfl⟩ <;> rfl
    rw [hc]
    simp only [cellsV]
    unfold RepL
    exact ⟨v, [], rfl, h, by simp [RepL]⟩
  all_goals
    have hc : v.cells = #[v] := by
      unfold Rep at h
      first
        | (subst h; rfl)
        | (obtain ⟨_, rfl, _⟩ := h; rfl)
        | (obtain ⟨_, _, rfl⟩ := h; rfl)
        | (obtain ⟨_, _, rfl, _⟩ := h; rfl)
        | (obtain ⟨_, _, _, rfl, _⟩ := h; rfl)
    rw [hc]
    simp only [cellsV]
    unfold RepL
    exact ⟨v, [], rfl, h, by simp [RepL]⟩

section
variable {P : Program} {T : Tab} (hT : TabOK P T) {C : Ctx T} {o : Oper} {a : Act} {w : World} {Y : Nat → Prop} {σ : Sg} {ps : List PV} {st : St} {n id : Nat} {K : PV → Dl → Prop} {lk : Nat → Option Blk}
  (H : SW C w Y σ ps a.tmps.toList st n) (hlk : ∀ b x, lk b = some x → lkS st b = some x) (hid : σ id = none ∧ T.pas ≤ id)

/-- a new variable -/
theorem SW.newVar (H : SW C w Y σ ps a.tmps.toList st n) (hid : σ id = none ∧ T.pas ≤ id) {vs : List Value} {row : List PV} (ty : TypeId) (hr : RepL w Y σ row vs) :
    ∃ Y' σ', SW C (w.alloc (.cells vs.toArray ty)) Y' σ' ps a.tmps.toList (inS st id (some (.var false row))) (max n (id + 1)) ∧ Rep (w.alloc (.cells vs.toArray ty)) Y' σ' (.lv id 0) (.pointer (some ⟨w.heap.size, 0, none⟩)) ∧ Off id σ σ' := by
  obtain ⟨Y', σ', H', hs, _, _, hoff⟩ := H.alloc hid vs.toArray ty ⟨w.heap.size, 0, row.length, vs.length, 1⟩ rfl (.var false row) (fun _ _ e => by cases e) (by
    intro w' Y' σ' hk hY hb _
    unfold BlkRep
    refine ⟨⟨_, ty, hb, by simp⟩, rfl, by simp [hr.length], ?_, fun _ => hY, fun h => by cases h⟩
    rw [RepC.iff]
    intro i p hi
    obtain ⟨v, hv, hp⟩ := hr.get? hi
    exact ⟨v, by rw [cell_of_block hb]; simpa using hv, hk _ _ hp⟩)
  refine ⟨Y', σ', H', ?_, hoff⟩
  unfold Rep
  exact ⟨_, hs, rfl⟩

include hT H hid in
theorem op_alloc {t : TypeId} (ho : o.op = .alloc t) (h : opE T (Sig.std P T) (.alloc t) ps lk id K) : Res P C o a w σ ps st n id K := by
  simp only [opE] at h
  split at h
  · rename_i agg size z plain kind e
    obtain ⟨i, d, h1, h2, h3, h4, h5, h6, h7, h8⟩ := tab_open hT e rfl
    obtain ⟨zv, hz, hr⟩ := zero_rep h6.symm
    obtain ⟨Y', σ', H', hrep, hoff⟩ := H.newVar hid t (hr w Y σ)
    refine ⟨_, _, _, _, Y', σ', h, .inl ?_, H', hrep, hoff⟩
    simp [execOp, ho, Instr.alloc, hz, newVar, newRow, newObj, Sem.run, Result.andThen]
  · exact h.elim

include H hid in
theorem op_box {t : TypeId} {x : Operand} (ho : o.op = .box t x) (h : opE T (Sig.std P T) (.box t x) ps lk id K) : Res P C o a w σ ps st n id K := by
  have hx := ev_rep H x
  simp only [opE] at h
  split at h
  · exact h.elim
  · rename_i hnt
    obtain ⟨Y', σ', H', hrep, hoff⟩ := H.newVar hid t (cellsV_rep hx hnt)
    refine ⟨_, _, _, _, Y', σ', h, .inl ?_, H', hrep, hoff⟩
    simp [execOp, ho, Instr.box, newVar, newRow, newObj, Sem.run, Result.andThen]

include H in
theorem op_makeFunc {f : FuncId} {first cap : Array Operand} (ho : o.op = .makeFunc (.func f) first cap) (h : opE T (Sig.std P T) (.makeFunc (.func f) first cap) ps lk id K) : Res P C o a w σ ps st n id K := by
  simp only [opE] at h
  split at h
  · rename_i hf
    have hf' : first = #[] := by simpa using hf
    subst hf'
    refine Res.quiet H (cv := .func (.func f) #[] (cap.map a.eval)) ?_ ?_ h
    · simp [execOp, ho, Instr.makeFunc]
    · unfold Rep
      refine ⟨cap.toList.map a.eval, ?_, evA_rep H _⟩
      congr 1
      apply Array.ext'
      simp
  · exact h.elim

theorem run_asIntOf {P : Program} {w : World} {k : IntKind} {m : Int} : (asIntOf (.int k m)).run P w = .ok (k, m) w := by simp [asIntOf]

include hT H hlk in
theorem op_indexAddr {t : TypeId} {x i : Operand} (ho : o.op = .indexAddr t x i) (h : opE T (Sig.std P T) (.indexAddr t x i) ps lk id K) : Res P C o a w σ ps st n id K := by
  have hx := ev_rep H x
  have hi := ev_rep H i
  simp only [opE] at h
  split at h
  · rename_i agg size z plain esz bytes z' e
    obtain ⟨et, hu, rfl, _, _⟩ := tab_slice hT e
    have run : ∀ (k : IntKind) (j len cap : Nat) (b off : Nat), a.eval i = .int k (j : Int) → a.eval x = .slice (some ⟨b, off, none⟩) len cap → j < len → P.info? et ≠ none →
        (execOp a.eval o).run P w = .ok (.value (.pointer (some ⟨b, off + j * P.cellsOf et, none⟩))) w := by
      intro k j len cap b off e1 e2 hj hinf
      have : (0 : Int) ≤ (j : Int) ∧ (j : Int) < (len : Int) := by omega
      simp [execOp, ho, Instr.indexAt, e1, e2, run_asIntOf, run_und hu, run_sizeOf hinf, this, addr_add]
    split at h
    · rename_i sz es full k m hxe hie
      rw [hxe] at hx
      have hiv := rep_intV hi hie
      cases hb : (isPos (P.cellsOf et) && Nat.beq sz (P.cellsOf et)) with
      | false => rw [hb] at h; exact h.elim
      | true =>
        rw [hb] at h
        rw [Bool.and_eq_true] at hb
        have hinf := info_of_pos hb.1
        have hb := Nat.eq_of_beq_eq_true hb.2
        obtain ⟨j, row, rfl, hrow, h⟩ := h
        unfold Rep at hx
        obtain ⟨a', len, cap, ex, hl, hc, _, hr⟩ := hx
        have hjlt : j < es.length := by
          by_cases hh : j < es.length
          · exact hh
          · simp [List.getElem?_eq_none (Nat.le_of_not_lt hh)] at hrow
        rcases hr with hr | ⟨b, off, rfl, hy, hr⟩
        · rw [hr] at hjlt; simp at hjlt
        · refine Res.quiet H (run k j len cap b off hiv ex (by omega) hinf) ?_ h
          unfold Rep
          refine ⟨b, _, rfl, hy, ?_⟩
          rw [← hb]
          exact (RepR.row _ _ _ _ hr hrow).2
    · rename_i b r len k m hxe hie
      rw [hxe] at hx
      have hiv := rep_intV hi hie
      split at h
      · rename_i ro sz rows hbk
        cases hb : (isPos (P.cellsOf et) && Nat.beq sz (P.cellsOf et)) with
        | false => rw [hb] at h; exact h.elim
        | true =>
          rw [hb] at h
          rw [Bool.and_eq_true] at hb
          have hinf := info_of_pos hb.1
          have hb := Nat.eq_of_beq_eq_true hb.2
          obtain ⟨j, rfl, hjlt, h⟩ := h
          unfold Rep at hx
          rcases hx with ⟨l, cap, hs, ex, hn, ht, hnr⟩ | ⟨rfl, _⟩
          · have hB := BlkRep.of_lk H hlk hbk hs
            unfold BlkRep at hB
            refine Res.quiet H (run k j len cap _ _ hiv ex hjlt hinf) ?_ h
            unfold Rep
            refine ⟨l, hs, ?_⟩
            have : l.sz = P.cellsOf et := by rw [hB.2.1, hb]
            show Value.pointer (some ⟨l.cb, l.co + r * l.sz + j * P.cellsOf et, none⟩) = Value.pointer (some ⟨l.cb, l.co + (r + j) * l.sz + 0, none⟩)
            rw [← this, Nat.add_mul]
            simp [Nat.add_assoc]
          · omega
      · rename_i sz rows hbk
        cases hb : (isPos (P.cellsOf et) && Nat.beq sz (P.cellsOf et)) with
        | false => rw [hb] at h; exact h.elim
        | true =>
          rw [hb] at h
          rw [Bool.and_eq_true] at hb
          have hinf := info_of_pos hb.1
          have hb := Nat.eq_of_beq_eq_true hb.2
          obtain ⟨j, rfl, hjlt, h⟩ := h
          unfold Rep at hx
          rcases hx with ⟨l, cap, hs, ex, hn, ht, hnr⟩ | ⟨rfl, _⟩
          · have hB := BlkRep.of_lk H hlk hbk hs
            unfold BlkRep at hB
            refine Res.quiet H (run k j len cap _ _ hiv ex hjlt hinf) ?_ h
            unfold Rep
            refine ⟨l, hs, ?_⟩
            have : l.sz = P.cellsOf et := by rw [hB.2.1, hb]
            show Value.pointer (some ⟨l.cb, l.co + r * l.sz + j * P.cellsOf et, none⟩) = Value.pointer (some ⟨l.cb, l.co + (r + j) * l.sz + 0, none⟩)
            rw [← this, Nat.add_mul]
            simp [Nat.add_assoc]
          · omega
      · exact h.elim
    · rename_i b r c hd sz len k m hxe hie
      rw [hxe] at hx
      have hiv := rep_intV hi hie
      cases hb : (isPos (P.cellsOf et) && Nat.beq sz (P.cellsOf et)) with
      | false => rw [hb] at h; exact h.elim
      | true =>
        rw [hb] at h
        rw [Bool.and_eq_true] at hb
        have hinf := info_of_pos hb.1
        have hb := Nat.eq_of_beq_eq_true hb.2
        obtain ⟨j, rfl, hjlt, h⟩ := h
        unfold Rep at hx
        rcases hx with ⟨_, ex, hn⟩ | ⟨rfl, _⟩
        · refine Res.quiet H (run k j len hd.cap _ _ hiv ex hjlt hinf) ?_ h
          unfold Rep
          rw [← hb]; rfl
        · omega
    · exact h.elim
  · rename_i agg size z plain len esz ag e
    obtain ⟨et, hu, rfl, _, _⟩ := tab_arr hT e
    cases hpos : isPos (P.cellsOf et) with
    | false => rw [hpos] at h; exact h.elim
    | true =>
    rw [hpos] at h
    simp only [cond_true] at h
    have hinf := info_of_pos hpos
    have run : ∀ (k : IntKind) (j : Nat) (b off : Nat), a.eval i = .int k (j : Int) → a.eval x = .pointer (some ⟨b, off, none⟩) → j < len →
        (execOp a.eval o).run P w = .ok (.value (.pointer (some ⟨b, off + j * P.cellsOf et, none⟩))) w := by
      intro k j b off e1 e2 hj
      have : (0 : Int) ≤ (j : Int) ∧ (j : Int) < (len : Int) := by omega
      simp [execOp, ho, Instr.indexAt, e1, e2, run_asIntOf, run_und hu, run_sizeOf hinf, this, addr_add, Instr.sureAddr]
    have fin : ∀ (k : IntKind) (j : Nat), a.eval i = .int k (j : Int) → j < len → (match evL T ps x with
        | .lv b c => K (.lv b (c + j * P.cellsOf et)) []
        | .lp b r c => K (.lp b r (c + j * P.cellsOf et)) []
        | .pp cs => bif Nat.ble (j * P.cellsOf et) (lenL cs) then K (.pp (dropL (j * P.cellsOf et) cs)) [] else False
        | _ => False) → Res P C o a w σ ps st n id K := by
      intro k j hiv hj h
      split at h
      · rename_i b c hxe; rw [hxe] at hx; unfold Rep at hx; obtain ⟨l, hs, ex⟩ := hx
        refine Res.quiet H (run k j _ _ hiv ex hj) ?_ h
        unfold Rep; exact ⟨l, hs, by rw [Nat.add_assoc]⟩
      · rename_i b r c hxe; rw [hxe] at hx; unfold Rep at hx; obtain ⟨l, hs, ex⟩ := hx
        refine Res.quiet H (run k j _ _ hiv ex hj) ?_ h
        unfold Rep; exact ⟨l, hs, by rw [Nat.add_assoc]⟩
      · rename_i cs hxe; rw [hxe] at hx; unfold Rep at hx; obtain ⟨b, off, ex, hy, hr⟩ := hx
        cases hb : Nat.ble (j * P.cellsOf et) (lenL cs) with
        | false => rw [hb] at h; exact h.elim
        | true =>
          rw [hb] at h
          refine Res.quiet H (run k j _ _ hiv ex hj) ?_ h
          unfold Rep; rw [dropL_eq]; exact ⟨b, _, rfl, hy, hr.drop _ _ _⟩
      · exact h.elim
    split at h
    · rename_i k m hie
      rw [hie] at hi
      cases hb : Nat.blt m len with
      | false => simp only [hb, cond_false] at h
      | true =>
        simp only [hb, cond_true] at h
        exact fin k m (rep_int hi) (by simpa [Nat.blt_eq] using hb) h
    · rename_i k m hie
      rw [hie] at hi
      obtain ⟨j, rfl, hj, h⟩ := h
      exact fin k j (rep_si hi) hj h
    · exact h.elim
  · exact h.elim
end
end Go.Pv
