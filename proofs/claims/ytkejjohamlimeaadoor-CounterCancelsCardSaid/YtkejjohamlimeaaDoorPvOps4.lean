/-
  Pv, part 8: stores, boxes, cells that go into rows.
-/
import Derived.Test.YtkejjohamlimeaaDoorPvOps3
namespace Go.Pv
open Go
set_option linter.all false

theorem stdsub (P : Program) {T : Tab} (rows : List (List PV)) (r n : Nat) : (Sig.std P T).sub rows r n = (rows.drop r).take n := rfl

/-- the rows of an own slice, as a pure slice -/
theorem os_rows {w : World} {Y : Nat → Prop} {σ : Sg} {b r n : Nat} {ro : Bool} {sz : Nat} {rows : List (List PV)} {v : Value} (hv : Rep w Y σ (.os b r n) v)
    (hst : (∃ l, σ b = some l ∧ BlkRep w Y σ l (.arr ro sz rows)) ∨ (σ b = none ∧ ∃ ro' sz', Blk.arr ro sz rows = .arr ro' sz' [])) :
    ∃ a cap, v = .slice a n cap ∧ n ≤ cap ∧ n = ((rows.drop r).take n).length ∧ ((rows.drop r).take n = [] ∨ ∃ b' o, a = some ⟨b', o, none⟩ ∧ b' < w.heap.size ∧ (∃ l, σ b = some l ∧ b' = l.cb) ∧ RepR w Y noSg b' sz ((rows.drop r).take n) o) := by
  unfold Rep at hv
  rcases hv with ⟨l, cap, hs, rfl, hn, ht, hr⟩ | ⟨rfl, a, rfl⟩
  · rcases hst with ⟨l', hs', hB⟩ | ⟨hs', _⟩
    · rw [hs] at hs'; cases hs'
      have hlt := hB.lt
      unfold BlkRep at hB
      refine ⟨_, cap, rfl, hn, ?_, .inr ⟨l.cb, _, rfl, hlt, ⟨l, hs, rfl⟩, ?_⟩⟩
      · rw [List.length_take, List.length_drop]; have := hB.2.2.2.1.2; omega
      · rw [hB.2.1]; exact (hB.2.2.2.2.1.drop r _ _).take n _ _
    · rw [hs] at hs'; cases hs'
  · exact ⟨a, 0, rfl, Nat.le_refl _, by simp, .inl (by simp)⟩

def Lk (lk : Nat → Option Blk) (st : St) : Prop := ∀ b ro sz rows, lk b = some (.arr ro sz rows) → ∃ ro', lkS st b = some (.arr ro' sz rows)

theorem lkS_applyD {b : Nat} : ∀ (δ : Dl) (st : St), memD b δ = false → lkS (applyD δ st) b = lkS st b
  | [], st, _ => rfl
  | (c, x) :: δ, st, h => by
    simp only [memD, Bool.or_eq_false_iff] at h
    rw [applyD, lkS_applyD δ _ h.2, lkS_inS, if_neg]
    intro e; subst e; simp at h

theorem pur_sound {P : Program} {T : Tab} {C : Ctx T} {w : World} {σ : Sg} {qs : List PV} {us : List Value} {n : Nat} {lk : Nat → Option Blk} :
    ∀ (ps ps' : List PV) (δ : Dl), pur (Sig.std P T) lk ps = some (ps', δ) → ∀ (Y : Nat → Prop) (st : St), SW C w Y σ qs us st n → Lk lk st → ∀ vs, RepL w Y σ ps vs →
      ∃ Y', SW C w Y' σ qs us (applyD δ st) n ∧ RepL w Y' noSg ps' vs ∧ (∀ k, Y' k → Y k)
  | [], ps', δ, h, Y, st, H, _, vs, hv => by
    simp [pur] at h; obtain ⟨rfl, rfl⟩ := h
    unfold RepL at hv; subst hv
    exact ⟨Y, H, by simp [RepL], fun _ h => h⟩
  | p :: ps, ps', δ, h, Y, st, H, hlk, vs, hv => by
    unfold RepL at hv; obtain ⟨v, vs', rfl, h1, h2⟩ := hv
    unfold pur at h
    cases hp : pur (Sig.std P T) lk ps with
    | none => rw [hp] at h; cases h
    | some r =>
      obtain ⟨qs', δ'⟩ := r
      rw [hp] at h
      simp only at h
      have plain : ∀ (q : PV), Rep w Y noSg q v → (some (q :: qs', δ') = some (ps', δ)) → ∃ Y', SW C w Y' σ qs us (applyD δ st) n ∧ RepL w Y' noSg ps' (v :: vs') ∧ (∀ k, Y' k → Y k) := by
        intro q hq e
        cases e
        obtain ⟨Y', H', hr, hy⟩ := pur_sound ps qs' _ hp Y st H hlk vs' h2
        refine ⟨Y', H', ?_, hy⟩
        unfold RepL
        exact ⟨v, vs', rfl, Rep.keep q ⟨fun _ _ _ => rfl, fun k _ => hy k, Nat.le_refl _, SgLe.refl _⟩ v hq, hr⟩
      cases p
      case os b r m =>
        simp only at h
        split at h
        · rename_i ro sz rows hb
          cases h
          obtain ⟨ro', hst⟩ := hlk b ro sz rows hb
          obtain ⟨Y1, H1, hn1, hy1⟩ := H.freeze hst (x' := .arr true sz rows) (.inr ⟨ro', sz, rows, rfl, rfl⟩)
          have hlk1 : Lk lk (inS st b (some (.arr true sz rows))) := by
            intro c ro2 sz2 rows2 hc
            rw [lkS_inS]
            by_cases e : b = c
            · subst e; rw [hb] at hc; cases hc; exact ⟨true, by simp⟩
            · rw [if_neg e]; exact hlk c _ _ _ hc
          have K1 : Keep w w Y Y1 σ σ := ⟨fun _ _ _ => rfl, fun k _ => hy1 k, Nat.le_refl _, SgLe.refl _⟩
          obtain ⟨Y2, H2, hr2, hy2⟩ := pur_sound ps qs' δ' hp Y1 _ H1 hlk1 vs' (RepL.keep ps K1 vs' h2)
          refine ⟨Y2, H2, ?_, fun k hk => hy1 k (hy2 k hk)⟩
          unfold RepL
          refine ⟨v, vs', rfl, ?_, hr2⟩
          have hB := H1.store.blk b (.arr true sz rows) (by rw [lkS_inS, if_pos rfl])
          obtain ⟨a, cap, e1, e2, e3, e4⟩ := os_rows (Rep.keep _ K1 v h1) (hB.imp id fun ⟨x, y⟩ => ⟨x, y⟩)
          have : Rep w Y1 noSg (.sl sz ((Sig.std P T).sub rows r m) false) v := by
            unfold Rep
            refine ⟨a, m, cap, e1, e3, e2, (fun h => by cases h), ?_⟩
            rcases e4 with e4 | ⟨b', o, ea, eb, ⟨l, el, el'⟩, er⟩
            · exact .inl e4
            · exact .inr ⟨b', o, ea, ⟨eb, by rw [el']; exact hn1 l el⟩, er⟩
          exact Rep.keep _ ⟨fun _ _ _ => rfl, fun k _ => hy2 k, Nat.le_refl _, SgLe.refl _⟩ v this
        · cases h
      case fn f cs =>
        cases cs with
        | nil => exact plain _ (by unfold Rep at h1 ⊢; obtain ⟨ws, e, hr⟩ := h1; exact ⟨ws, e, by unfold RepL at hr ⊢; exact hr⟩) h
        | cons _ _ => cases h
      case bool => exact plain _ (by unfold Rep at h1 ⊢; exact h1) h
      case sb => exact plain _ (by unfold Rep at h1 ⊢; exact h1) h
      case int => exact plain _ (by unfold Rep at h1 ⊢; exact h1) h
      case si => exact plain _ (by unfold Rep at h1 ⊢; exact h1) h
      case str => exact plain _ (by unfold Rep at h1 ⊢; exact h1) h
      case sl => exact plain _ (by unfold Rep at h1 ⊢; exact h1) h
      case pp => exact plain _ (by unfold Rep at h1 ⊢; exact h1) h
      case nilp => exact plain _ (by unfold Rep at h1 ⊢; exact h1) h
      case nilf => exact plain _ (by unfold Rep at h1 ⊢; exact h1) h
      all_goals cases h

theorem rset_len (P : Program) {T : Tab} (rows : List (List PV)) (r : Nat) (row : List PV) : ((Sig.std P T).rset rows r row).length = rows.length := by simp [Sig.std]

theorem allCell_iff : ∀ l, allCell l = true ↔ ∀ p ∈ l, isCell p = true
  | [] => by simp [allCell]
  | p :: l => by simp [allCell, allCell_iff l]
theorem allCell_write : ∀ (vs l : List PV) (c : Nat), allCell l = true → allCell vs = true → allCell (writeL l c vs) = true
  | [], l, c, h, _ => by cases l <;> simpa [writeL] using h
  | v :: vs, [], c, h, hv => by
    simp only [allCell, Bool.and_eq_true] at hv
    simpa [writeL, setL] using allCell_write vs [] (c + 1) h hv.2
  | v :: vs, x :: l, c, h, hv => by
    simp only [allCell, Bool.and_eq_true] at hv
    rw [writeL]
    refine allCell_write vs _ (c + 1) ?_ hv.2
    rw [setL_eq, allCell_iff]
    rw [allCell_iff] at h
    intro p hp
    rcases List.mem_or_eq_of_mem_set hp with h1 | h1
    · exact h p h1
    · rw [h1]; exact hv.1

theorem RepR.iff {w : World} {Y : Nat → Prop} {σ : Sg} {b sz : Nat} : ∀ (rs : List (List PV)) (o : Nat), RepR w Y σ b sz rs o ↔ ∀ i r, rs[i]? = some r → (r.length = sz ∧ allCell r = true) ∧ RepC w Y σ b r (o + i * sz)
  | [], o => by simp [RepR]
  | q :: rs, o => by
    unfold RepR
    rw [RepR.iff rs (o + sz)]
    constructor
    · rintro ⟨h0, h1, h2⟩ i r hi
      cases i with
      | zero => simp at hi; subst hi; exact ⟨h0, by simpa using h1⟩
      | succ i => rw [show o + (i + 1) * sz = o + sz + i * sz by rw [Nat.add_mul]; omega]; exact h2 i r (by simpa using hi)
    · intro h
      refine ⟨(h 0 q rfl).1, by simpa using (h 0 q rfl).2, fun i r hi => ?_⟩
      rw [show o + sz + i * sz = o + (i + 1) * sz by rw [Nat.add_mul]; omega]; exact h (i + 1) r (by simpa using hi)

section
variable {P : Program} {T : Tab} (hT : TabOK P T) {C : Ctx T} {o : Oper} {a : Act} {w : World} {Y : Nat → Prop} {σ : Sg} {ps : List PV} {st : St} {n id : Nat} {K : PV → Dl → Prop} {lk : Nat → Option Blk}
  (H : SW C w Y σ ps a.tmps.toList st n) (hlk : ∀ b x, lk b = some x → lkS st b = some x) (hid : σ id = none ∧ T.pas ≤ id)

/-- storing into a row of an own array -/
theorem storeVar_arr {vs : List Value} (H : SW C w Y σ ps vs st n) {t : TypeId} {b r c size sz : Nat} {l : Loc} {rows : List (List PV)} {row cs : List PV} {v : Value} {K : List PV → Prop}
    (hinfo : P.info? t ≠ none) (hsize : size = P.cellsOf t) (hst : lkS st b = some (.arr false sz rows)) (hl : σ b = some l) (hrow : rows[r]? = some row)
    {us : List Value} (hcs : v.cells = us.toArray) (hv : RepL w Y noSg cs us) (h : storeRow size row c (.agg cs) K) :
    ∃ row' w', K row' ∧ (storeVar t ⟨l.cb, l.co + r * l.sz + c, none⟩ v).run P w = .ok () w' ∧ SW C w' Y σ ps vs (inS st b (some (.arr false sz (rows.set r row')))) n := by
  unfold storeRow at h
  simp only [cellsV] at h
  cases hb : (allCell cs && Nat.beq (lenL cs) size && Nat.ble (c + lenL cs) (lenL row)) with
  | false => rw [hb] at h; exact h.elim
  | true =>
    rw [hb] at h
    simp only [Bool.and_eq_true, lenL_eq] at hb
    obtain ⟨⟨h1, h2⟩, h3⟩ := hb
    have h2 := Nat.eq_of_beq_eq_true h2
    have h3 := Nat.le_of_ble_eq_true h3
    have hone := allCell_one _ _ h1 hv
    have hlen := hv.length
    have hB : BlkRep w Y σ l (.arr false sz rows) := by
      rcases H.store.blk b _ hst with ⟨l', hl', hB⟩ | ⟨hn, _⟩
      · rw [hl] at hl'; cases hl'; exact hB
      · rw [hl] at hn; cases hn
    unfold BlkRep at hB
    obtain ⟨⟨arr, ty, ha, has⟩, hsz, hpos, ⟨hle, hnr⟩, hrows, hm, hr0⟩ := hB
    have hr := RepR.row _ _ _ _ hrows hrow
    have hrlt : r < rows.length := by
      by_cases hh : r < rows.length
      · exact hh
      · simp [List.getElem?_eq_none (Nat.le_of_not_lt hh)] at hrow
    have hbound : r * sz + sz ≤ rows.length * sz := by
      have := Nat.mul_le_mul_right sz (show r + 1 ≤ rows.length by omega)
      rw [Nat.add_mul] at this; omega
    rw [hsz]
    obtain ⟨w', hrun, W⟩ := storeVar_run (P := P) (o := l.co + r * sz + c) hinfo hsize hcs (by omega) ha (by omega) hone
    refine ⟨_, w', h, hrun, SW.update H hst hl (hm rfl) W.os W.tape W.output W.size W.other fun _ => ?_⟩
    have K0 : Keep w w' Y Y noSg noSg := ⟨fun k _ hk => W.other k (fun e => hk (e ▸ hm rfl)), fun _ _ h => h, Nat.le_of_eq W.size.symm, SgLe.refl _⟩
    obtain ⟨arr', h4, h5, h6⟩ := W.blk
    unfold BlkRep
    refine ⟨⟨arr', ty, h4, by omega⟩, hsz, hpos, ⟨by simpa using hle, by simpa using hnr⟩, ?_, hm, hr0⟩
    rw [RepR.iff] at hrows ⊢
    intro i q hi
    rw [List.getElem?_set] at hi
    by_cases hri : r = i
    · subst hri
      rw [if_pos rfl, if_pos hrlt] at hi
      cases hi
      refine ⟨⟨by rw [writeL_len]; exact hr.1.1, allCell_write _ _ _ hr.1.2 h1⟩, ?_⟩
      exact W.rep ha hr.2 hv (by omega) (fun p v hp => Rep.keep p K0 v hp)
    · rw [if_neg hri] at hi
      obtain ⟨h7, h8⟩ := hrows i q hi
      refine ⟨h7, ?_⟩
      rw [RepC.iff] at h8 ⊢
      intro j p hj
      obtain ⟨u, hu, hp⟩ := h8 j p hj
      have hjlt : j < q.length := by
        by_cases hh : j < q.length
        · exact hh
        · simp [List.getElem?_eq_none (Nat.le_of_not_lt hh)] at hj
      refine ⟨u, ?_, Rep.keep p K0 u hp⟩
      rw [cell_of_block ha] at hu
      rw [cell_of_block h4, h6, if_neg, hu]
      rintro ⟨h9, h10⟩
      rcases Nat.lt_or_gt_of_ne hri with h11 | h11
      · have := Nat.mul_le_mul_right sz (show r + 1 ≤ i by omega)
        rw [Nat.add_mul] at this; omega
      · have := Nat.mul_le_mul_right sz (show i + 1 ≤ r by omega)
        rw [Nat.add_mul] at this; omega

include hT H hlk hid in
theorem op_store {t : TypeId} {x y : Operand} (ho : o.op = .store t x y) (h : opE T (Sig.std P T) (.store t x y) ps lk id K) : Res P C o a w σ ps st n id K := by
  have hx := ev_rep H x
  have hy := ev_rep H y
  simp only [opE] at h
  split at h
  · rename_i agg size z plain kind e
    obtain ⟨hinfo, hsize, hagg, hund⟩ := tab_size hT e
    split at h
    · rename_i b c e; rw [e] at hx
      unfold Rep at hx; obtain ⟨l, hs, e'⟩ := hx
      split at h
      · rename_i row hb
        obtain ⟨row', w', hK, hrun, H'⟩ := storeVar_var H hinfo hsize (hlk _ _ hb) hs hy h
        refine ⟨_, _, Go.undef, w', Y, σ, hK, .inr ⟨?_, rfl⟩, ?_, by simp [Rep], Off.refl _ _⟩
        · simp [execOp, ho, e', Instr.storeAt, Instr.sureAddr, hrun]
        · simp only [applyD, nextI]
          exact H'.mono (by omega)
      · exact h.elim
    · rename_i b r c e; rw [e] at hx
      unfold Rep at hx; obtain ⟨l, hs, e'⟩ := hx
      split at h
      · rename_i sz rows hb
        split at h
        · rename_i cs δ hp
          cases hm : memD b δ with
          | true => rw [hm] at h; exact h.elim
          | false =>
            rw [hm] at h
            obtain ⟨row, hrow, h⟩ := h
            have hall : allCell (cellsV (evL T ps y)) = true := by
              clear h hm hs e' hrow hb e
              generalize cellsV (evL T ps y) = l at hp
              induction l generalizing cs δ with
              | nil => rfl
              | cons p l ih =>
                unfold pur at hp
                cases hp2 : pur (Sig.std P T) lk l with
                | none => rw [hp2] at hp; cases hp
                | some r =>
                  rw [hp2] at hp
                  simp only [allCell, ih _ _ hp2, Bool.and_true]
                  cases p <;> simp [isCell] at hp ⊢
            obtain ⟨us, hcs, hr, hone⟩ := cells_rep hy hall
            have hLk : Lk lk st := fun b ro sz rows h => ⟨ro, hlk _ _ h⟩
            obtain ⟨Y', H', hr', hyy⟩ := pur_sound _ _ _ hp Y st H hLk us hr
            have hst' : lkS (applyD δ st) b = some (.arr false sz rows) := by rw [lkS_applyD δ st hm]; exact hlk _ _ hb
            obtain ⟨row', w', hK, hrun, H2⟩ := storeVar_arr (P := P) H' hinfo hsize hst' hs hrow hcs hr' h
            refine ⟨_, _, Go.undef, w', Y', σ, hK, .inr ⟨?_, rfl⟩, ?_, by simp [Rep], Off.refl _ _⟩
            · simp [execOp, ho, e', Instr.storeAt, Instr.sureAddr, hrun]
            · have : ∀ (δ : Dl) (st : St) (e : Nat × Option Blk), applyD (δ ++ [e]) st = inS (applyD δ st) e.1 e.2 := by
                intro δ; induction δ with
                | nil => intro st e; rfl
                | cons d δ ih => intro st e; simp only [List.cons_append, applyD]; exact ih _ _
              rw [this]
              have hn : n ≤ nextI (δ ++ [(b, some (.arr false sz ((Sig.std P T).rset rows r row')))]) n id := by
                cases δ <;> simp [nextI] <;> omega
              exact H2.mono hn
        · exact h.elim
      · exact h.elim
    · exact h.elim
  · exact h.elim
end
end Go.Pv
