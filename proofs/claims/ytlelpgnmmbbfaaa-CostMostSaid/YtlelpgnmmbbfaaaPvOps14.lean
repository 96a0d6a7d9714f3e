/-
  Pv, part 17b: clear as an operation.
-/
import Derived.Test.YtlelpgnmmbbfaaaPvOps13
namespace Go.Pv
open Go
set_option linter.all false

section
variable {P : Program} {T : Tab} (hT : TabOK P T) {C : Ctx T} {o : Oper} {a : Act} {w : World} {Y : Nat → Prop} {σ : Sg} {ps : List PV} {st : St} {n id : Nat} {K : PV → Dl → Prop} {lk : Nat → Option Blk}
  (H : SW C w Y σ ps a.tmps.toList st n) (hlk : ∀ b x, lk b = some x → lkS st b = some x) (hid : σ id = none ∧ T.pas ≤ id) (hU : UndOK P)

theorem array_cons1 {α : Type} {x : Array α} {t : α} {l : List α} (h : x.toList = t :: l) : x = (t :: l).toArray := by apply Array.ext'; simpa using h

include hT H hlk hid in
theorem op_clear {args : Array Operand} {ts : Array TypeId} (ho : o.op = .call { callee := .builtin .clear, args := args, argTypes := ts }) (h : opE T (Sig.std P T) (.call { callee := .builtin .clear, args := args, argTypes := ts }) ps lk id K) : Res P C o a w σ ps st n id K := by
  have hargs := evA_rep H args.toList
  simp only [opE] at h
  generalize hvs : args.toList.map a.eval = vs at hargs
  split at h
  all_goals first | (exact h.elim) | contradiction | skip
  rename_i b r m t tl hb he ht
  rw [he] at hargs
  unfold RepL at hargs
  obtain ⟨sv, vs', rfl, hs, hnil⟩ := hargs
  unfold RepL at hnil
  subst hnil
  have ht' := array_cons1 ht
  subst ht'
  split at h
  · rename_i a1 s1 z1 p1 esz bytes z e1
    obtain ⟨et, hu, rfl, rfl, hz⟩ := tab_slice hT e1
    obtain ⟨zv, hzr, hzrep⟩ := zero_rep hz.symm
    split at h
    · rename_i sz rows hbk
      cases hb : (Nat.beq sz (P.cellsOf et) && Nat.beq (lenL z) sz && isPos sz && allCell z) with
      | false => rw [hb] at h; exact h.elim
      | true =>
        rw [hb] at h
        simp only [cond_true] at h
        simp only [Bool.and_eq_true, lenL_eq] at hb
        obtain ⟨⟨⟨h1, h2⟩, h3⟩, h4⟩ := hb
        have h1 := Nat.eq_of_beq_eq_true h1
        have h2 := Nat.eq_of_beq_eq_true h2
        subst h1
        have hpos : 0 < P.cellsOf et := by
          rcases Nat.eq_zero_or_pos (P.cellsOf et) with h0 | h0
          · rw [h0] at h3; simp [isPos] at h3
          · exact h0
        have hinf := info_of_pos h3
        cases hi : P.info? et with
        | none => exact absurd hi hinf
        | some inf =>
        have hst := hlk _ _ hbk
        obtain ⟨z2, hl2, hc2, hw2, h, _⟩ := wkC_std h
        have hzrep2 : ∀ w Y σ, RepL w Y σ z2 zv.cells.toList := fun w Y σ => hw2 _ _ _ _ (hzrep w Y σ)
        have hspl : (Sig.std P T).spl rows r ((Sig.std P T).rep m z2) = rows.take r ++ List.replicate m z2 ++ rows.drop (r + m) := by simp [Sig.std]
        rw [hspl] at h
        have hzsz : zv.cells.size = P.cellsOf et := by have := (hzrep w Y σ).length; rw [Array.length_toList] at this; omega
        -- nothing to clear
        have none0 : m = 0 → ∀ x cap, sv = .slice x 0 cap → Res P C o a w σ ps st n id K := by
          intro hm x cap hsv
          subst hm
          have e0 : rows.take r ++ List.replicate 0 z2 ++ rows.drop (r + 0) = rows := by simp
          rw [e0] at h
          refine builtin_res ho (δ := _) (cv := .tuple #[]) (w' := w) (Y' := Y) (σ' := σ) (fun ty cs => ?_) ?_ ?_ (Off.refl _ _) h
          · rw [hvs, hsv]
            cases x <;> simp [builtin, Builtin.clear_, Sem.run_bind, run_und hu, Result.andThen, Sem.run_pure]
          · exact (H.ext fun c x hx => by
              simp only [applyD] at hx
              rw [lkS_inS] at hx
              by_cases hc : b = c
              · subst hc; rw [if_pos rfl] at hx; cases hx; exact hst
              · rw [if_neg hc] at hx; exact hx).mono (by simp [nextI]; omega)
          · simp [Rep, RepL]
        unfold Rep at hs
        rcases hs with ⟨l, cap, hl, e, hmc, htot, hnr⟩ | ⟨e0, sx, e⟩
        · by_cases hm0 : m = 0
          · subst hm0; exact none0 rfl _ _ e
          subst e
          have hB := BlkRep.of_lk H hlk hbk hl
          unfold BlkRep at hB
          obtain ⟨⟨arr, tyb, ha, has⟩, hlsz, _, ⟨hle, hlnr⟩, hrows, hm, _⟩ := hB
          rw [hlsz] at htot
          let zs : List Value := (Builtin.zeroCells zv.cells m).toList
          have hzs : zs.length = m * P.cellsOf et := by simp [zs, Builtin.zeroCells, hzsz]
          have hzg : ∀ i, i < m * P.cellsOf et → zs[i]? = zv.cells.toList[i % P.cellsOf et]? := by
            intro i hi2
            have hlt : i % P.cellsOf et < zv.cells.size := by rw [hzsz]; exact Nat.mod_lt _ hpos
            simp only [zs, Builtin.zeroCells, Array.getElem?_toList, Array.getElem?_map]
            rw [Array.getElem?_range, if_pos (by rw [hzsz]; exact hi2)]
            simp only [Option.map_some, hzsz]
            rw [hzsz] at hlt
            rw [← hzsz] at hlt ⊢
            simp [getElem!_def, hlt]
          have hone : ∀ v ∈ zs, oneC v = true := by
            intro v hv
            obtain ⟨i, hi2, e⟩ := List.mem_iff_getElem.1 hv
            have : zs[i]? = some v := by rw [List.getElem?_eq_getElem hi2, e]
            rw [hzg i (by rw [← hzs]; exact hi2)] at this
            exact allCell_one _ _ h4 (hzrep w Y σ) v (List.mem_of_getElem? this)
          have hrm : r + m ≤ rows.length := by omega
          have hbnd : l.co + r * P.cellsOf et + zs.length ≤ arr.size := by
            rw [has, hzs]
            have := Nat.mul_le_mul_right (P.cellsOf et) hrm
            rw [Nat.add_mul] at this
            omega
          obtain ⟨w', hrun, W⟩ := storeCells_run (P := P) (o := l.co + r * P.cellsOf et) zs 0 w arr ha (by simpa using hbnd) hone
          have W : Wrote w w' l.cb (l.co + r * P.cellsOf et) arr tyb zs := by simpa using W
          obtain ⟨arr', h5, h6, h7⟩ := W.blk
          have K0 : Keep w w' Y Y noSg noSg := ⟨fun k _ hk => W.other k (fun e => hk (e ▸ hm rfl)), fun _ _ h => h, Nat.le_of_eq W.size.symm, SgLe.refl _⟩
          have hlen : (rows.take r ++ List.replicate m z2 ++ rows.drop (r + m)).length = rows.length := by simp; omega
          refine builtin_res ho (δ := [(b, some (.arr false (P.cellsOf et) (rows.take r ++ List.replicate m z2 ++ rows.drop (r + m))))]) (v := .tup []) (cv := .tuple #[]) (w' := w') (Y' := Y) (σ' := σ) (fun ty cs => ?_) ((SW.update (x' := .arr false (P.cellsOf et) (rows.take r ++ List.replicate m z2 ++ rows.drop (r + m))) H hst hl (hm rfl) W.os W.tape W.output W.size W.other (fun _ _ e => by cases e) fun _ => ?_).mono (Nat.le_max_left _ _)) (by simp [Rep, RepL]) (Off.refl _ _) h
          · rw [hvs]
            obtain ⟨m', rfl⟩ : ∃ m', m = m' + 1 := ⟨m - 1, by omega⟩
            simp only [builtin, Builtin.clear_, List.getElem?_toArray, List.getElem?_cons_zero, Sem.run_bind, run_und hu, Result.andThen, hzr, hlsz]
            rw [show (storeCells ⟨l.cb, l.co + r * P.cellsOf et, none⟩ (Builtin.zeroCells zv.cells (m' + 1)).toList).run P w = .ok () w' from hrun]
            simp [Sem.run_pure]
          · unfold BlkRep
            refine ⟨⟨arr', tyb, h5, by omega⟩, hlsz, hpos, ⟨by rw [hlen]; exact hle, by rw [hlen]; exact hlnr⟩, ?_, hm, fun h => by cases h⟩
            rw [RepR.iff] at hrows ⊢
            intro i q hq
            by_cases hin : r ≤ i ∧ i < r + m
            · have hqz : q = z2 := by
                rw [List.append_assoc, List.getElem?_append_right (by simp; omega), List.getElem?_append_left (by simp; omega), List.getElem?_replicate] at hq
                split at hq
                · exact (Option.some.inj hq).symm
                · cases hq
              subst hqz
              refine ⟨⟨hl2.trans h2, hc2 h4⟩, ?_⟩
              rw [RepC.iff]
              intro c p hc
              obtain ⟨v, hv, hrv⟩ := (hzrep2 w' Y noSg).get? hc
              refine ⟨v, ?_, hrv⟩
              have hcl : c < P.cellsOf et := by
                rw [← h2, ← hl2]
                by_cases hh : c < q.length
                · exact hh
                · rw [List.getElem?_eq_none (Nat.le_of_not_lt hh)] at hc; cases hc
              have e1 : l.co + i * P.cellsOf et + c - (l.co + r * P.cellsOf et) = (i - r) * P.cellsOf et + c := by
                obtain ⟨d, rfl⟩ : ∃ d, i = r + d := ⟨i - r, by omega⟩
                rw [Nat.add_mul, show r + d - r = d by omega]; omega
              have e2 : (i - r) * P.cellsOf et + c < m * P.cellsOf et := by
                have := Nat.mul_le_mul_right (P.cellsOf et) (show (i - r) + 1 ≤ m by omega)
                rw [Nat.add_mul] at this; omega
              have e3 := Nat.mul_le_mul_right (P.cellsOf et) hin.1
              rw [cell_of_block h5, h7, if_pos ⟨by omega, by rw [hzs]; omega⟩, e1, hzg _ e2]
              rw [show ((i - r) * P.cellsOf et + c) % P.cellsOf et = c by rw [Nat.add_comm, Nat.add_mul_mod_self_right]; exact Nat.mod_eq_of_lt hcl]
              exact hv
            · have hq' : rows[i]? = some q := by
                by_cases hir : i < r
                · rw [List.append_assoc, List.getElem?_append_left (by simp; omega), List.getElem?_take_of_lt hir] at hq; exact hq
                · rw [List.getElem?_append_right (by simp; omega), List.getElem?_drop] at hq
                  rw [← hq]; congr 1; simp; omega
              obtain ⟨g1, g2⟩ := hrows i q hq'
              refine ⟨g1, ?_⟩
              rw [RepC.iff] at g2 ⊢
              intro c p hc
              obtain ⟨v, hv, hrv⟩ := g2 c p hc
              refine ⟨v, ?_, Rep.keep p K0 v hrv⟩
              have hcl : c < P.cellsOf et := by
                rw [← g1.1]
                by_cases hh : c < q.length
                · exact hh
                · rw [List.getElem?_eq_none (Nat.le_of_not_lt hh)] at hc; cases hc
              rw [cell_of_block ha] at hv
              rw [cell_of_block h5, h7, if_neg, hv]
              rintro ⟨g3, g4⟩
              rw [hzs] at g4
              rcases Nat.lt_or_ge i r with g5 | g5
              · have := Nat.mul_le_mul_right (P.cellsOf et) (show i + 1 ≤ r by omega)
                rw [Nat.add_mul] at this; omega
              · have := Nat.mul_le_mul_right (P.cellsOf et) (show r + m ≤ i by omega)
                rw [Nat.add_mul] at this; omega
        · subst e0
          exact none0 rfl _ _ e
    · exact h.elim
  · exact h.elim
end
end Go.Pv
