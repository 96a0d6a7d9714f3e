/-
  Pv, part 8: stores, boxes, cells that go into rows.
-/
import Derived.Test.YtlelpgnmmbbfaaaPvOps3
namespace Go.Pv
open Go
set_option linter.all false

theorem stdsub (P : Program) {T : Tab} (rows : List (List PV)) (r n : Nat) : (Sig.std P T).sub rows r n = (rows.drop r).take n := rfl

/-- the rows of an own slice, as a pure slice -/
theorem os_rows {w : World} {Y : Nat → Prop} {σ : Sg} {b r n : Nat} {ro : Bool} {sz : Nat} {rows : List (List PV)} {v : Value} (hv : Rep w Y σ (.os b r n) v)
    (hst : (∃ l, σ b = some l ∧ BlkRep w Y σ l (.arr ro sz rows)) ∨ (σ b = none ∧ ∃ ro' sz', Blk.arr ro sz rows = .arr ro' sz' [])) :
    ∃ a cap, v = .slice a n cap ∧ n ≤ cap ∧ n = ((rows.drop r).take n).length ∧ ((rows.drop r).take n = [] ∨ ∃ b' o, a = some ⟨b', o, none⟩ ∧ b' < w.heap.size ∧ (∃ l, σ b = some l ∧ b' = l.cb) ∧ RepR w Y noSg b' sz ((rows.drop r).take n) o) := by
  unfold Rep at hv
  rcases hv with ⟨l, cap, hs, rfl, hn, ht, hr⟩ | ⟨rfl, a, rfl⟩
  · rcases hst with ⟨l', hs', hB⟩ | ⟨hs', _⟩
    · rw [hs] at hs'; cases hs'
      have hlt := hB.lt
      unfold BlkRep at hB
      refine ⟨_, cap, rfl, hn, ?_, .inr ⟨l.cb, _, rfl, hlt, ⟨l, hs, rfl⟩, ?_⟩⟩
      · rw [List.length_take, List.length_drop]; have := hB.2.2.2.1.2; omega
      · rw [hB.2.1]; exact (hB.2.2.2.2.1.drop r _ _).take n _ _
    · rw [hs] at hs'; cases hs'
  · exact ⟨a, 0, rfl, Nat.le_refl _, by simp, .inl (by simp)⟩

def Lk (lk : Nat → Option Blk) (st : St) : Prop := ∀ b ro sz rows, lk b = some (.arr ro sz rows) → ∃ ro', lkS st b = some (.arr ro' sz rows)

theorem lkS_applyD {b : Nat} : ∀ (δ : Dl) (st : St), memD b δ = false → lkS (applyD δ st) b = lkS st b
  | [], st, _ => rfl
  | (c, x) :: δ, st, h => by
    simp only [memD, Bool.or_eq_false_iff] at h
    rw [applyD, lkS_applyD δ _ h.2, lkS_inS, if_neg]
    intro e; subst e; simp at h

theorem pur_sound {P : Program} {T : Tab} {C : Ctx T} {w : World} {σ : Sg} {qs : List PV} {us : List Value} {n : Nat} {lk : Nat → Option Blk} :
    ∀ (ps ps' : List PV) (δ : Dl), pur (Sig.std P T) lk ps = some (ps', δ) → ∀ (Y : Nat → Prop) (st : St), SW C w Y σ qs us st n → Lk lk st → ∀ vs, RepL w Y σ ps vs →
      ∃ Y', SW C w Y' σ qs us (applyD δ st) n ∧ RepL w Y' noSg ps' vs ∧ (∀ k, Y' k → Y k)
  | [], ps', δ, h, Y, st, H, _, vs, hv => by
    simp [pur] at h; obtain ⟨rfl, rfl⟩ := h
    unfold RepL at hv; subst hv
    exact ⟨Y, H, by simp [RepL], fun _ h => h⟩
  | p :: ps, ps', δ, h, Y, st, H, hlk, vs, hv => by
    unfold RepL at hv; obtain ⟨v, vs', rfl, h1, h2⟩ := hv
    unfold pur at h
    cases hp : pur (Sig.std P T) lk ps with
    | none => rw [hp] at h; cases h
    | some r =>
      obtain ⟨qs', δ'⟩ := r
      rw [hp] at h
      simp only at h
      have plain : ∀ (q : PV), Rep w Y noSg q v → (some (q :: qs', δ') = some (ps', δ)) → ∃ Y', SW C w Y' σ qs us (applyD δ st) n ∧ RepL w Y' noSg ps' (v :: vs') ∧ (∀ k, Y' k → Y k) := by
        intro q hq e
        cases e
        obtain ⟨Y', H', hr, hy⟩ := pur_sound ps qs' _ hp Y st H hlk vs' h2
        refine ⟨Y', H', ?_, hy⟩
        unfold RepL
        exact ⟨v, vs', rfl, Rep.keep q ⟨fun _ _ _ => rfl, fun k _ => hy k, Nat.le_refl _, SgLe.refl _⟩ v hq, hr⟩
      cases p
      case os b r m =>
        simp only at h
        split at h
        · rename_i ro sz rows hb
          cases h
          obtain ⟨ro', hst⟩ := hlk b ro sz rows hb
          obtain ⟨Y1, H1, hn1, hy1⟩ := H.freeze hst (x' := .arr true sz rows) (.inr ⟨ro', sz, rows, rfl, rfl⟩)
          have hlk1 : Lk lk (inS st b (some (.arr true sz rows))) := by
            intro c ro2 sz2 rows2 hc
            rw [lkS_inS]
            by_cases e : b = c
            · subst e; rw [hb] at hc; cases hc; exact ⟨true, by simp⟩
            · rw [if_neg e]; exact hlk c _ _ _ hc
          have K1 : Keep w w Y Y1 σ σ := ⟨fun _ _ _ => rfl, fun k _ => hy1 k, Nat.le_refl _, SgLe.refl _⟩
          obtain ⟨Y2, H2, hr2, hy2⟩ := pur_sound ps qs' δ' hp Y1 _ H1 hlk1 vs' (RepL.keep ps K1 vs' h2)
          refine ⟨Y2, H2, ?_, fun k hk => hy1 k (hy2 k hk)⟩
          unfold RepL
          refine ⟨v, vs', rfl, ?_, hr2⟩
          have hB := H1.store.blk b (.arr true sz rows) (by rw [lkS_inS, if_pos rfl])
          obtain ⟨a, cap, e1, e2, e3, e4⟩ := os_rows (Rep.keep _ K1 v h1) (hB.imp id fun ⟨x, y⟩ => ⟨x, y⟩)
          have : Rep w Y1 noSg (.sl sz ((Sig.std P T).sub rows r m) false) v := by
            unfold Rep
            refine ⟨a, m, cap, e1, e3, e2, (fun h => by cases h), ?_⟩
            rcases e4 with e4 | ⟨b', o, ea, eb, ⟨l, el, el'⟩, er⟩
            · exact .inl e4
            · exact .inr ⟨b', o, ea, ⟨eb, by rw [el']; exact hn1 l el⟩, er⟩
          exact Rep.keep _ ⟨fun _ _ _ => rfl, fun k _ => hy2 k, Nat.le_refl _, SgLe.refl _⟩ v this
        · cases h
      case fn f cs =>
        cases cs with
        | nil => exact plain _ (by unfold Rep at h1 ⊢; obtain ⟨ws, e, hr⟩ := h1; exact ⟨ws, e, by unfold RepL at hr ⊢; exact hr⟩) h
        | cons _ _ => cases h
      case bool => exact plain _ (by unfold Rep at h1 ⊢; exact h1) h
      case sb => exact plain _ (by unfold Rep at h1 ⊢; exact h1) h
      case int => exact plain _ (by unfold Rep at h1 ⊢; exact h1) h
      case si => exact plain _ (by unfold Rep at h1 ⊢; exact h1) h
      case str => exact plain _ (by unfold Rep at h1 ⊢; exact h1) h
      case sl => exact plain _ (by unfold Rep at h1 ⊢; exact h1) h
      case pp => exact plain _ (by unfold Rep at h1 ⊢; exact h1) h
      case nilp => exact plain _ (by unfold Rep at h1 ⊢; exact h1) h
      case nilf => exact plain _ (by unfold Rep at h1 ⊢; exact h1) h
      all_goals cases h

theorem rset_len (P : Program) {T : Tab} (rows : List (List PV)) (r : Nat) (row : List PV) : ((Sig.std P T).rset rows r row).length = rows.length := by simp [Sig.std]

theorem allCell_iff : ∀ l, allCell l = true ↔ ∀ p ∈ l, isCell p = true
  | [] => by simp [allCell]
  | p :: l => by simp [allCell, allCell_iff l]
theorem allCell_write : ∀ (vs l : List PV) (c : Nat), allCell l = true → allCell vs = true → allCell (writeL l c vs) = true
  | [], l, c, h, _ => by cases l <;> simpa [writeL] using h
  | v :: vs, [], c, h, hv => by
    simp only [allCell, Bool.and_eq_true] at hv
    simpa [writeL, setL] using allCell_write vs [] (c + 1) h hv.2
  | v :: vs, x :: l, c, h, hv => by
    simp only [allCell, Bool.and_eq_true] at hv
    rw [writeL]
    refine allCell_write vs _ (c + 1) ?_ hv.2
    rw [setL_eq, allCell_iff]
    rw [allCell_iff] at h
    intro p hp
    rcases List.mem_or_eq_of_mem_set hp with h1 | h1
    · exact h p h1
    · rw [h1]; exact hv.1

theorem RepR.iff {w : World} {Y : Nat → Prop} {σ : Sg} {b sz : Nat} : ∀ (rs : List (List PV)) (o : Nat), RepR w Y σ b sz rs o ↔ ∀ i r, rs[i]? = some r → (r.length = sz ∧ allCell r = true) ∧ RepC w Y σ b r (o + i * sz)
  | [], o => by simp [RepR]
  | q :: rs, o => by
    unfold RepR
    rw [RepR.iff rs (o + sz)]
    constructor
    · rintro ⟨h0, h1, h2⟩ i r hi
      cases i with
      | zero => simp at hi; subst hi; exact ⟨h0, by simpa using h1⟩
      | succ i => rw [show o + (i + 1) * sz = o + sz + i * sz by rw [Nat.add_mul]; omega]; exact h2 i r (by simpa using hi)
    · intro h
      refine ⟨(h 0 q rfl).1, by simpa using (h 0 q rfl).2, fun i r hi => ?_⟩
      rw [show o + sz + i * sz = o + (i + 1) * sz by rw [Nat.add_mul]; omega]; exact h (i + 1) r (by simpa using hi)

section
variable {P : Program} {T : Tab} (hT : TabOK P T) {C : Ctx T} {o : Oper} {a : Act} {w : World} {Y : Nat → Prop} {σ : Sg} {ps : List PV} {st : St} {n id : Nat} {K : PV → Dl → Prop} {lk : Nat → Option Blk}
  (H : SW C w Y σ ps a.tmps.toList st n) (hlk : ∀ b x, lk b = some x → lkS st b = some x) (hid : σ id = none ∧ T.pas ≤ id)

/-- storing into a row of an own array -/
theorem storeVar_arr {vs : List Value} (H : SW C w Y σ ps vs st n) {t : TypeId} {b r c size sz : Nat} {l : Loc} {rows : List (List PV)} {row cs : List PV} {v : Value} {K : List PV → Prop}
    (hinfo : P.info? t ≠ none) (hsize : size = P.cellsOf t) (hst : lkS st b = some (.arr false sz rows)) (hl : σ b = some l) (hrow : rows[r]? = some row)
    {us : List Value} (hcs : v.cells = us.toArray) (hv : RepL w Y noSg cs us) (h : storeRow size row c (.agg cs) K) :
    ∃ row' w', K row' ∧ (storeVar t ⟨l.cb, l.co + r * l.sz + c, none⟩ v).run P w = .ok () w' ∧ SW C w' Y σ ps vs (inS st b (some (.arr false sz (rows.set r row')))) n := by
  unfold storeRow at h
  simp only [cellsV] at h
  cases hb : (allCell cs && Nat.beq (lenL cs) size && Nat.ble (c + lenL cs) (lenL row)) with
  | false => rw [hb] at h; exact h.elim
  | true =>
    rw [hb] at h
    simp only [Bool.and_eq_true, lenL_eq] at hb
    obtain ⟨⟨h1, h2⟩, h3⟩ := hb
    have h2 := Nat.eq_of_beq_eq_true h2
    have h3 := Nat.le_of_ble_eq_true h3
    have hone := allCell_one _ _ h1 hv
    have hlen := hv.length
    have hB : BlkRep w Y σ l (.arr false sz rows) := by
      rcases H.store.blk b _ hst with ⟨l', hl', hB⟩ | ⟨hn, _⟩
      · rw [hl] at hl'; cases hl'; exact hB
      · rw [hl] at hn; cases hn
    unfold BlkRep at hB
    obtain ⟨⟨arr, ty, ha, has⟩, hsz, hpos, ⟨hle, hnr⟩, hrows, hm, hr0⟩ := hB
    have hr := RepR.row _ _ _ _ hrows hrow
    have hrlt : r < rows.length := by
      by_cases hh : r < rows.length
      · exact hh
      · simp [List.getElem?_eq_none (Nat.le_of_not_lt hh)] at hrow
    have hbound : r * sz + sz ≤ rows.length * sz := by
      have := Nat.mul_le_mul_right sz (show r + 1 ≤ rows.length by omega)
      rw [Nat.add_mul] at this; omega
    rw [hsz]
    obtain ⟨w', hrun, W⟩ := storeVar_run (P := P) (o := l.co + r * sz + c) hinfo hsize hcs (by omega) ha (by omega) hone
    refine ⟨_, w', h, hrun, SW.update H hst hl (hm rfl) W.os W.tape W.output W.size W.other (fun _ _ e => by cases e) fun _ => ?_⟩
    have K0 : Keep w w' Y Y noSg noSg := ⟨fun k _ hk => W.other k (fun e => hk (e ▸ hm rfl)), fun _ _ h => h, Nat.le_of_eq W.size.symm, SgLe.refl _⟩
    obtain ⟨arr', h4, h5, h6⟩ := W.blk
    unfold BlkRep
    refine ⟨⟨arr', ty, h4, by omega⟩, hsz, hpos, ⟨by simpa using hle, by simpa using hnr⟩, ?_, hm, hr0⟩
    rw [RepR.iff] at hrows ⊢
    intro i q hi
    rw [List.getElem?_set] at hi
    by_cases hri : r = i
    · subst hri
      rw [if_pos rfl, if_pos hrlt] at hi
      cases hi
      refine ⟨⟨by rw [writeL_len]; exact hr.1.1, allCell_write _ _ _ hr.1.2 h1⟩, ?_⟩
      exact W.rep ha hr.2 hv (by omega) (fun p v hp => Rep.keep p K0 v hp)
    · rw [if_neg hri] at hi
      obtain ⟨h7, h8⟩ := hrows i q hi
      refine ⟨h7, ?_⟩
      rw [RepC.iff] at h8 ⊢
      intro j p hj
      obtain ⟨u, hu, hp⟩ := h8 j p hj
      have hjlt : j < q.length := by
        by_cases hh : j < q.length
        · exact hh
        · simp [List.getElem?_eq_none (Nat.le_of_not_lt hh)] at hj
      refine ⟨u, ?_, Rep.keep p K0 u hp⟩
      rw [cell_of_block ha] at hu
      rw [cell_of_block h4, h6, if_neg, hu]
      rintro ⟨h9, h10⟩
      rcases Nat.lt_or_gt_of_ne hri with h11 | h11
      · have := Nat.mul_le_mul_right sz (show r + 1 ≤ i by omega)
        rw [Nat.add_mul] at this; omega
      · have := Nat.mul_le_mul_right sz (show i + 1 ≤ r by omega)
        rw [Nat.add_mul] at this; omega

/-- rows in memory, one of them written -/
theorem rowsWrite {cb co tot sz r c size : Nat} {arr : Array Value} {ty : TypeId} {rows : List (List PV)} {row cs : List PV} {v : Value} {t : TypeId} {K : List PV → Prop}
    (hinfo : P.info? t ≠ none) (hsize : size = P.cellsOf t) (ha : w.heap[cb]? = some (.cells arr ty (0, 0))) (has : arr.size = tot) (hle : co + rows.length * sz ≤ tot) (hrows : RepR w Y noSg cb sz rows co) (hm : Y cb) (hrow : rows[r]? = some row)
    {us : List Value} (hcs : v.cells = us.toArray) (hv : RepL w Y noSg cs us) (h : storeRow size row c (.agg cs) K) :
    ∃ w', K (writeL row c cs) ∧ allCell cs = true ∧ c + cs.length ≤ row.length ∧ (storeVar t ⟨cb, co + r * sz + c, none⟩ v).run P w = .ok () w' ∧ (w'.os = w.os ∧ w'.tape = w.tape ∧ w'.output = w.output ∧ w'.heap.size = w.heap.size ∧ ∀ k, k ≠ cb → w'.heap[k]? = w.heap[k]?) ∧
      (∃ arr', w'.heap[cb]? = some (.cells arr' ty (0, 0)) ∧ arr'.size = tot) ∧ RepR w' Y noSg cb sz (rows.set r (writeL row c cs)) co := by
  unfold storeRow at h
  simp only [cellsV] at h
  cases hb : (allCell cs && Nat.beq (lenL cs) size && Nat.ble (c + lenL cs) (lenL row)) with
  | false => rw [hb] at h; exact h.elim
  | true =>
    rw [hb] at h
    simp only [Bool.and_eq_true, lenL_eq] at hb
    obtain ⟨⟨h1, h2⟩, h3⟩ := hb
    have h2 := Nat.eq_of_beq_eq_true h2
    have h3 := Nat.le_of_ble_eq_true h3
    have hone := allCell_one _ _ h1 hv
    have hlen := hv.length
    have hr := RepR.row _ _ _ _ hrows hrow
    have hrlt : r < rows.length := by
      by_cases hh : r < rows.length
      · exact hh
      · simp [List.getElem?_eq_none (Nat.le_of_not_lt hh)] at hrow
    have hbound : r * sz + sz ≤ rows.length * sz := by
      have := Nat.mul_le_mul_right sz (show r + 1 ≤ rows.length by omega)
      rw [Nat.add_mul] at this; omega
    obtain ⟨w', hrun, W⟩ := storeVar_run (P := P) (o := co + r * sz + c) hinfo hsize hcs (by omega) ha (by omega) hone
    obtain ⟨arr', h4, h5, h6⟩ := W.blk
    have K0 : Keep w w' Y Y noSg noSg := ⟨fun k _ hk => W.other k (fun e => hk (e ▸ hm)), fun _ _ h => h, Nat.le_of_eq W.size.symm, SgLe.refl _⟩
    refine ⟨w', h, h1, h3, hrun, ⟨W.os, W.tape, W.output, W.size, W.other⟩, ⟨arr', h4, by omega⟩, ?_⟩
    rw [RepR.iff] at hrows ⊢
    intro i q hi
    rw [List.getElem?_set] at hi
    by_cases hri : r = i
    · subst hri
      rw [if_pos rfl, if_pos hrlt] at hi
      cases hi
      refine ⟨⟨by rw [writeL_len]; exact hr.1.1, allCell_write _ _ _ hr.1.2 h1⟩, ?_⟩
      exact W.rep ha hr.2 hv (by omega) (fun p v hp => Rep.keep p K0 v hp)
    · rw [if_neg hri] at hi
      obtain ⟨h7, h8⟩ := hrows i q hi
      refine ⟨h7, ?_⟩
      rw [RepC.iff] at h8 ⊢
      intro j p hj
      obtain ⟨u, hu, hp⟩ := h8 j p hj
      have hjlt : j < q.length := by
        by_cases hh : j < q.length
        · exact hh
        · simp [List.getElem?_eq_none (Nat.le_of_not_lt hh)] at hj
      refine ⟨u, ?_, Rep.keep p K0 u hp⟩
      rw [cell_of_block ha] at hu
      rw [cell_of_block h4, h6, if_neg, hu]
      rintro ⟨h9, h10⟩
      rcases Nat.lt_or_gt_of_ne hri with h11 | h11
      · have := Nat.mul_le_mul_right sz (show r + 1 ≤ i by omega)
        rw [Nat.add_mul] at this; omega
      · have := Nat.mul_le_mul_right sz (show i + 1 ≤ r by omega)
        rw [Nat.add_mul] at this; omega

/-- the own blocks of a name written: the general law; what becomes of the slices in rows is told apart -/
theorem SW.updateN {vs : List Value} {w' : World} (H : SW C w Y σ ps vs st n) {b : Nat} {x x' : Blk} {l : Loc} {st' : St} (hx : lkS st b = some x) (hl : σ b = some l) {m : Nat} (hm : Y m) (hnb : ∀ b' y l', b' ≠ b → lkS st b' = some y → σ b' = some l' → l'.cb ≠ m) (hnm : C.w0.heap.size ≤ m ∨ C.L m)
    (hsub : ∀ c y, lkS st' c = some y → (c = b ∧ y = x') ∨ (c ≠ b ∧ lkS st c = some y))
    (hos : w'.os = w.os) (htape : w'.tape = w.tape) (hout : w'.output = w.output) (hsize : w'.heap.size = w.heap.size)
    (hother : ∀ k, k ≠ m → w'.heap[k]? = w.heap[k]?) (hnew : (∀ p v, Rep w Y noSg p v → Rep w' Y noSg p v) → BlkRep w' Y σ l x') (hnest : (∀ p v, Rep w Y noSg p v → Rep w' Y noSg p v) → Nest C.w0 C.L w' Y σ st') : SW C w' Y σ ps vs st' n := by
  have K : Keep w w' Y Y σ σ := ⟨fun k _ hk => hother k (fun e => hk (e ▸ hm)), fun _ _ h => h, Nat.le_of_eq hsize.symm, SgLe.refl _⟩
  have old : ∀ c y, lkS st' c = some y → ∃ z, lkS st c = some z := by
    intro c y h
    rcases hsub c y h with ⟨rfl, _⟩ | ⟨_, h⟩
    · exact ⟨x, hx⟩
    · exact ⟨y, h⟩
  refine ⟨RepL.keep _ K _ H.vals, ⟨?_, ?_⟩, H.next, fun k hk => by rw [hsize]; exact H.yold k hk, H.y0, H.c0, H.yshr, ?_, ?_, H.glob.keep K.none, H.fix, hnest fun p v hp => Rep.keep p K.none v hp⟩
  · intro c y h
    rcases hsub c y h with ⟨rfl, rfl⟩ | ⟨hc, h⟩
    · exact .inl ⟨l, hl, hnew fun p v hp => Rep.keep p K.none v hp⟩
    · rcases H.store.blk c y h with ⟨l', hl', hb⟩ | hn
      · exact .inl ⟨l', hl', BlkRep.keep K (hother _ (hnb c y l' hc h hl')) Iff.rfl hb⟩
      · exact .inr hn
  · intro c c' y y' l1 l2 h h' h1 h2 e
    obtain ⟨z, hz⟩ := old _ _ h
    obtain ⟨z', hz'⟩ := old _ _ h'
    exact H.store.inj c c' z z' l1 l2 hz hz' h1 h2 e
  · refine ⟨by rw [hos]; exact H.chg.os, by rw [htape]; exact H.chg.tape, by rw [hout]; exact H.chg.output, by rw [hsize]; exact H.chg.size, fun k hk hM => ?_⟩
    have hne : k ≠ m := fun e => by
      subst e
      rcases H.yshr _ hm hk with h2 | h2
      · have := H.c0 _ h2
        rcases hnm with h3 | h3
        · omega
        · exact this.2 h3
      · exact hM h2
    rw [hother k hne]; exact H.chg.block k hk hM
  · intro c y l' h h1
    obtain ⟨z, hz⟩ := old _ _ h
    exact H.own c z l' hz h1

theorem writeL_ow {row cs : List PV} {c i : Nat} {h : Hdr} {sz : Nat} {es : List (List PV)} (hle : c + cs.length ≤ row.length) (hi : (writeL row c cs)[i]? = some (.ow h sz es)) : (c ≤ i ∧ i < c + cs.length ∧ PV.ow h sz es ∈ cs) ∨ ((i < c ∨ c + cs.length ≤ i) ∧ row[i]? = some (.ow h sz es)) := by
  rw [writeL_get _ _ _ _ hle] at hi
  split at hi
  · rename_i hh; exact .inl ⟨hh.1, hh.2, List.mem_of_getElem? hi⟩
  · rename_i hh; exact .inr ⟨by omega, hi⟩

/-- a row of an array written, no slice of its own among what is written -/
theorem narWrite {vs : List Value} {w' : World} (H : SW C w Y σ ps vs st n) {b r c sz : Nat} {rows : List (List PV)} {row cs : List PV} {l : Loc} (hst : lkS st b = some (.nar sz rows)) (hs : σ b = some l) (hm : Y l.cb)
    (others : ∀ b' y l', b' ≠ b → lkS st b' = some y → σ b' = some l' → l'.cb ≠ l.cb) (hrow : rows[r]? = some row) (h2 : c + cs.length ≤ row.length) (hno : ∀ h sz es, PV.ow h sz es ∈ cs → es ≠ [] → False)
    (w1 : w'.os = w.os) (w2 : w'.tape = w.tape) (w3 : w'.output = w.output) (w4 : w'.heap.size = w.heap.size) (w5 : ∀ k, k ≠ l.cb → w'.heap[k]? = w.heap[k]?)
    (hB : (∀ p v, Rep w Y noSg p v → Rep w' Y noSg p v) → BlkRep w' Y σ l (.nar sz (rows.set r (writeL row c cs)))) : SW C w' Y σ ps vs (inS st b (some (.nar sz (rows.set r (writeL row c cs))))) n := by
  refine SW.updateN H hst hs hm others (H.own b _ l hst hs) (fun c' y' hh => ?_) w1 w2 w3 w4 w5 hB fun hk => ?_
  · rw [lkS_inS] at hh
    by_cases e1 : b = c'
    · rw [if_pos e1] at hh; cases hh; exact .inl ⟨e1.symm, rfl⟩
    · rw [if_neg e1] at hh; exact .inr ⟨fun e => e1 e.symm, hh⟩
  · have K0 : Keep w w' Y Y noSg noSg := ⟨fun k _ hy => w5 k (fun e => hy (e ▸ hm)), fun _ _ h => h, Nat.le_of_eq w4.symm, SgLe.refl _⟩
    have back : ∀ {b' r' c' h' sz2 es'}, OwAt (inS st b (some (.nar sz (rows.set r (writeL row c cs))))) b' r' c' h' sz2 es' → OwAt st b' r' c' h' sz2 es' := by
      rintro b' r' c' h' sz2 es' ⟨sz0, rs, rw0, g1, g2, g3, g4⟩
      rw [lkS_inS] at g1
      by_cases e1 : b = b'
      · subst e1
        rw [if_pos rfl] at g1
        cases g1
        rw [List.getElem?_set] at g2
        by_cases hr : r = r'
        · subst hr
          have hrlt : r < rows.length := by
            by_cases hh : r < rows.length
            · exact hh
            · simp [List.getElem?_eq_none (Nat.le_of_not_lt hh)] at hrow
          rw [if_pos rfl, if_pos hrlt] at g2
          cases g2
          rcases writeL_ow h2 g3 with ⟨k1, k2, k3⟩ | ⟨k1, k2⟩
          · exact (hno _ _ _ k3 g4).elim
          · exact ⟨sz, rows, row, hst, hrow, k2, g4⟩
        · rw [if_neg hr] at g2
          exact ⟨sz, rows, rw0, hst, g2, g3, g4⟩
      · rw [if_neg e1] at g1
        exact ⟨sz0, rs, rw0, g1, g2, g3, g4⟩
    refine H.nest.keep K0 (fun _ _ _ _ _ _ hh => back hh) (fun b' r' c' h' sz2 es' hh => w5 _ (H.nest.sep _ _ _ _ _ _ _ _ _ (back hh) hst hs).symm) (fun b' r' c' h' sz2 es' hh => (H.nest.rep _ _ _ _ _ _ (back hh)).own) fun b' r' c' h' sz2 es' b'' x l' hh hx hl' => ?_
    rw [lkS_inS] at hx
    by_cases e1 : b = b''
    · subst e1; exact H.nest.sep _ _ _ _ _ _ _ _ _ (back hh) hst hl'
    · rw [if_neg e1] at hx; exact H.nest.sep _ _ _ _ _ _ _ _ _ (back hh) hx hl'

theorem pur_cell0 {S : Sig} {lk : Nat → Option Blk} : ∀ (ps ps' : List PV) (δ : Dl), pur S lk ps = some (ps', δ) → allCell ps' = true ∧ allCell ps = true
  | [], ps', δ, h => by simp [pur] at h; obtain ⟨rfl, _⟩ := h; simp [allCell]
  | p :: ps, ps', δ, h => by
    unfold pur at h
    cases hp : pur S lk ps with
    | none => rw [hp] at h; cases h
    | some r =>
      obtain ⟨q, δ1⟩ := r
      rw [hp] at h
      obtain ⟨i1, i2⟩ := pur_cell0 ps q δ1 hp
      simp only at h
      cases p
      case os b r n =>
        simp only at h
        split at h
        · cases h; exact ⟨by simp [allCell, isCell, i1], by simp [allCell, isCell, i2]⟩
        · cases h
      case fn f cs => cases cs <;> simp only at h <;> first | contradiction | (cases h; exact ⟨by simp [allCell, isCell, i1], by simp [allCell, isCell, i2]⟩)
      all_goals (simp only at h; first | contradiction | (cases h; exact ⟨by simp [allCell, isCell, i1], by simp [allCell, isCell, i2]⟩))
theorem pur_nil {S : Sig} {lk : Nat → Option Blk} : ∀ {ps ps' : List PV} {us : List Value}, pur S lk ps = some (ps', []) → RepL w Y σ ps us → RepL w Y noSg ps' us
  | [], ps', us, h, hr => by simp [pur] at h; subst h; unfold RepL at hr ⊢; exact hr
  | p :: ps, ps', us, h, hr => by
    unfold pur at h
    cases hp : pur S lk ps with
    | none => rw [hp] at h; cases h
    | some r =>
      obtain ⟨q, δ1⟩ := r
      rw [hp] at h
      simp only at h
      unfold RepL at hr
      obtain ⟨v, vs', rfl, h1, h2⟩ := hr
      cases p
      case os b r n =>
        simp only at h
        split at h
        · cases h
        · cases h
      case fn f cs =>
        cases cs <;> simp only at h <;> first | contradiction | skip
        cases h
        unfold RepL
        refine ⟨v, vs', rfl, ?_, pur_nil hp h2⟩
        unfold Rep at h1 ⊢
        obtain ⟨zs, e1, e2⟩ := h1
        unfold RepL at e2
        subst e2
        exact ⟨[], e1, by unfold RepL; rfl⟩
      all_goals (simp only at h; first | contradiction | (cases h; unfold RepL; refine ⟨v, vs', rfl, ?_, pur_nil hp h2⟩; unfold Rep at h1 ⊢; exact h1))

theorem pur_noOw {P : Program} {T : Tab} {lk : Nat → Option Blk} : ∀ (ps ps' : List PV) (δ : Dl), pur (Sig.std P T) lk ps = some (ps', δ) → ∀ h sz es, PV.ow h sz es ∉ ps'
  | [], ps', δ, h => by simp [pur] at h; obtain ⟨rfl, _⟩ := h; simp
  | p :: ps, ps', δ, h => by
    unfold pur at h
    cases hp : pur (Sig.std P T) lk ps with
    | none => rw [hp] at h; cases h
    | some r =>
      obtain ⟨q, δ1⟩ := r
      rw [hp] at h
      have ih := pur_noOw ps q δ1 hp
      intro hh sz es hm
      have key : ∀ u δ2, some (u :: q, δ2) = some (ps', δ) → u ≠ .ow hh sz es → False := by
        intro u δ2 e hu
        cases e
        rcases List.mem_cons.1 hm with e | e
        · exact hu e.symm
        · exact ih _ _ _ e
      simp only at h
      cases p
      case os b r n =>
        simp only at h
        split at h
        · exact key _ _ h (by simp)
        · cases h
      case fn f cs => cases cs <;> simp only at h <;> first | contradiction | exact key _ _ h (by simp)
      all_goals (simp only at h; first | contradiction | exact key _ _ h (by simp))

include hT H hlk hid in
theorem op_store {t : TypeId} {x y : Operand} (ho : o.op = .store t x y) (h : opE T (Sig.std P T) (.store t x y) ps lk id K) : Res P C o a w σ ps st n id K := by
  have hx := ev_rep H x
  have hy := ev_rep H y
  simp only [opE] at h
  split at h
  · rename_i agg size z plain kind e
    obtain ⟨hinfo, hsize, hagg, hund⟩ := tab_size hT e
    split at h
    · rename_i b c e; rw [e] at hx
      unfold Rep at hx; obtain ⟨l, hs, e'⟩ := hx
      split at h
      · rename_i row hb
        obtain ⟨row', w', hK, hrun, H'⟩ := storeVar_var H hinfo hsize (hlk _ _ hb) hs hy h
        refine ⟨_, _, Go.undef, w', Y, σ, hK, .inr ⟨?_, rfl⟩, ?_, by simp [Rep], Off.refl _ _⟩
        · simp [execOp, ho, e', Instr.storeAt, Instr.sureAddr, hrun]
        · simp only [applyD, nextI]
          exact H'.mono (by omega)
      · exact h.elim
    · rename_i b r c e; rw [e] at hx
      unfold Rep at hx; obtain ⟨l, hs, e'⟩ := hx
      split at h
      · rename_i sz rows hb
        split at h
        · rename_i cs δ hp
          cases hm : memD b δ with
          | true => rw [hm] at h; exact h.elim
          | false =>
            rw [hm] at h
            have h9 := wkC_std h
            clear h
            obtain ⟨cs2, hl2, hc2, hw2, ⟨row, hrow, h⟩, h8⟩ := h9
            clear hl2 hc2 h8
            have hall : allCell (cellsV (evL T ps y)) = true := by
              clear h hm hs e' hrow hb e hw2
              generalize cellsV (evL T ps y) = l at hp
              induction l generalizing cs δ with
              | nil => rfl
              | cons p l ih =>
                unfold pur at hp
                cases hp2 : pur (Sig.std P T) lk l with
                | none => rw [hp2] at hp; cases hp
                | some r =>
                  rw [hp2] at hp
                  simp only [allCell, ih _ _ hp2, Bool.and_true]
                  cases p <;> simp [isCell] at hp ⊢
            obtain ⟨us, hcs, hr, hone⟩ := cells_rep hy hall
            have hLk : Lk lk st := fun b ro sz rows h => ⟨ro, hlk _ _ h⟩
            obtain ⟨Y', H', hr', hyy⟩ := pur_sound _ _ _ hp Y st H hLk us hr
            have hst' : lkS (applyD δ st) b = some (.arr false sz rows) := by rw [lkS_applyD δ st hm]; exact hlk _ _ hb
            obtain ⟨row', w', hK, hrun, H2⟩ := storeVar_arr (P := P) H' hinfo hsize hst' hs hrow hcs (hw2 _ _ _ _ hr') h
            refine ⟨_, _, Go.undef, w', Y', σ, hK, .inr ⟨?_, rfl⟩, ?_, by simp [Rep], Off.refl _ _⟩
            · simp [execOp, ho, e', Instr.storeAt, Instr.sureAddr, hrun]
            · have : ∀ (δ : Dl) (st : St) (e : Nat × Option Blk), applyD (δ ++ [e]) st = inS (applyD δ st) e.1 e.2 := by
                intro δ; induction δ with
                | nil => intro st e; rfl
                | cons d δ ih => intro st e; simp only [List.cons_append, applyD]; exact ih _ _
              rw [this]
              have hn : n ≤ nextI (δ ++ [(b, some (.arr false sz ((Sig.std P T).rset rows r row')))]) n id := by
                cases δ <;> simp [nextI] <;> omega
              exact H2.mono hn
        · exact h.elim
      · rename_i sz rows hb
        have hst := hlk _ _ hb
        have hB : BlkRep w Y σ l (.nar sz rows) := BlkRep.of_lk H hlk hb hs
        unfold BlkRep at hB
        obtain ⟨⟨arr, ty, ha, has⟩, hsz, hpos, ⟨hle, hnr⟩, hrows, hm⟩ := hB
        have others : ∀ b' y l', b' ≠ b → lkS st b' = some y → σ b' = some l' → l'.cb ≠ l.cb := fun b' y l' hne h1 h2 e => hne (H.store.inj b' b y _ l' l h1 hst h2 hs e)
        have blk : ∀ {w' : World} {rows' : List (List PV)} {arr' : Array Value}, rows'.length = rows.length → w'.heap[l.cb]? = some (.cells arr' ty (0, 0)) → arr'.size = l.tot → RepR w' Y noSg l.cb sz rows' l.co → BlkRep w' Y σ l (.nar sz rows') := by
          intro w' rows' arr' h1 h2 h3 h4
          unfold BlkRep
          exact ⟨⟨arr', ty, h2, h3⟩, hsz, hpos, ⟨by rw [h1]; exact hle, by rw [h1]; exact hnr⟩, h4, hm⟩
        split at h
        · rename_i id0 r0 m ey
          rw [ey] at hy
          split at h
          · rename_i sz' rows' hb2
            cases hc : (Nat.beq size 1 && Nat.beq id0 b) with
            | true => rw [hc] at h; exact h.elim
            | false =>
              rw [hc] at h
              obtain ⟨row, hrow, h⟩ := h
              have hst2 := hlk _ _ hb2
              have hne : id0 ≠ b := fun e => by rw [e] at hst2; rw [hst] at hst2; cases hst2
              unfold Rep at hy
              by_cases hm0 : m = 0
              · -- an empty slice
                subst hm0
                have hsl : ∃ a0 cap0, a.eval y = .slice a0 0 cap0 := by
                  rcases hy with ⟨l2, cap, _, ey2, _⟩ | ⟨_, a0, ey2⟩
                  · exact ⟨_, cap, ey2⟩
                  · exact ⟨a0, 0, ey2⟩
                let hd : Hdr := ⟨0, 0, 0⟩
                have h : storeRow size row c (.agg [.ow hd sz' []]) (fun row' => K PV.undef [(id0, none), (b, some (Blk.nar sz ((Sig.std P T).rset rows r row')))]) := h hd
                have hrep : RepL w Y noSg [.ow hd sz' []] [a.eval y] := by
                  unfold RepL
                  refine ⟨_, _, rfl, ?_, by unfold RepL; rfl⟩
                  unfold Rep
                  exact .inr ⟨rfl, hsl⟩
                have hcells : (a.eval y).cells = #[a.eval y] := cells_of_oneCell (by obtain ⟨a0, c0, e⟩ := hsl; rw [e]; rfl)
                obtain ⟨w', hK, h1, h2, hrun, ⟨w1, w2, w3, w4, w5⟩, ⟨arr', h5, h6⟩, h7⟩ := rowsWrite (P := P) hinfo hsize ha has hle hrows hm hrow (us := [a.eval y]) (by rw [hcells]) hrep h
                have H2 := narWrite H hst hs hm others hrow h2 (by intro h' sz2 es' hh hne; simp only [List.mem_singleton, PV.ow.injEq] at hh; exact hne hh.2.2) w1 w2 w3 w4 w5 (fun _ => blk (rows' := rows.set r (writeL row c [.ow hd sz' []])) (by simp) h5 h6 h7)
                refine ⟨_, _, Go.undef, w', Y, σ, hK, .inr ⟨?_, rfl⟩, ?_, by simp [Rep], Off.refl _ _⟩
                · rw [← hsz] at hrun
                  simp [execOp, ho, e', Instr.storeAt, Instr.sureAddr, hrun]
                · simp only [applyD]
                  refine SW.mono (n := n) ?_ (by simp [nextI]; omega)
                  refine H2.ext fun c' y' hh => ?_
                  simp only [lkS_inS] at hh ⊢
                  by_cases e1 : b = c'
                  · rw [if_pos e1] at hh ⊢; exact hh
                  · rw [if_neg e1] at hh ⊢
                    by_cases e2 : id0 = c'
                    · rw [if_pos e2] at hh; cases hh
                    · rw [if_neg e2] at hh; exact hh
              rcases hy with ⟨l2, cap, hl2, ey2, hcap, htot, hrm⟩ | ⟨hm1, a0, ey2⟩
              · have hB2 : BlkRep w Y σ l2 (.arr false sz' rows') := BlkRep.of_lk H hlk hb2 hl2
                unfold BlkRep at hB2
                obtain ⟨⟨arr2, ty2, ha2, has2⟩, hsz2, hpos2, ⟨hle2, hnr2⟩, hrows2, hm2, _⟩ := hB2
                have hm2 := hm2 rfl
                let hd : Hdr := ⟨l2.cb, l2.co + r0 * l2.sz, cap⟩
                have hlen : ((rows'.drop r0).take m).length = m := by rw [List.length_take, List.length_drop]; omega
                have h : storeRow size row c (.agg [.ow hd sz' ((rows'.drop r0).take m)]) (fun row' => K PV.undef [(id0, none), (b, some (Blk.nar sz ((Sig.std P T).rset rows r row')))]) := h hd
                have hrep : RepL w Y noSg [.ow hd sz' ((rows'.drop r0).take m)] [a.eval y] := by
                  unfold RepL
                  refine ⟨_, _, rfl, ?_, by unfold RepL; rfl⟩
                  unfold Rep
                  exact .inl ⟨fun e => by rw [e] at hlen; simp at hlen; exact hm0 hlen.symm, by rw [hlen]; exact ey2, by rw [hlen]; exact hcap⟩
                have hcells : (a.eval y).cells = #[a.eval y] := cells_of_oneCell (by rw [ey2]; rfl)
                obtain ⟨w', hK, h1, h2, hrun, ⟨w1, w2, w3, w4, w5⟩, ⟨arr', h5, h6⟩, h7⟩ := rowsWrite (P := P) hinfo hsize ha has hle hrows hm hrow (us := [a.eval y]) (by rw [hcells]) hrep h
                have look : ∀ c' y', lkS (applyD [(id0, none), (b, some (.nar sz (rows.set r (writeL row c [.ow hd sz' ((rows'.drop r0).take m)]))))] st) c' = some y' → (c' = b ∧ y' = .nar sz (rows.set r (writeL row c [.ow hd sz' ((rows'.drop r0).take m)]))) ∨ (c' ≠ b ∧ c' ≠ id0 ∧ lkS st c' = some y') := by
                  intro c' y' hh
                  simp only [applyD, lkS_inS] at hh
                  by_cases e1 : b = c'
                  · rw [if_pos e1] at hh; cases hh; exact .inl ⟨e1.symm, rfl⟩
                  · rw [if_neg e1] at hh
                    by_cases e2 : id0 = c'
                    · rw [if_pos e2] at hh; cases hh
                    · rw [if_neg e2] at hh; exact .inr ⟨fun e => e1 e.symm, fun e => e2 e.symm, hh⟩
                have hν : hd.ν = l2.cb := rfl
                have hl12 : l2.cb ≠ l.cb := others id0 _ l2 hne hst2 hl2
                -- slices in rows, after the store
                have ow : ∀ {b' r' c' h' sz2 es'}, OwAt (applyD [(id0, none), (b, some (.nar sz (rows.set r (writeL row c [.ow hd sz' ((rows'.drop r0).take m)]))))] st) b' r' c' h' sz2 es' →
                    (b' = b ∧ r' = r ∧ c' = c ∧ h' = hd ∧ sz2 = sz' ∧ es' = (rows'.drop r0).take m) ∨ (OwAt st b' r' c' h' sz2 es' ∧ ¬ (b' = b ∧ r' = r ∧ c' = c)) := by
                  rintro b' r' c' h' sz2 es' ⟨sz0, rs, rw0, g1, g2, g3, g4⟩
                  rcases look _ _ g1 with ⟨e0, g5⟩ | ⟨e1, e2, g1⟩
                  · subst e0
                    cases g5
                    rw [List.getElem?_set] at g2
                    by_cases hr : r = r'
                    · subst hr
                      have hrlt : r < rows.length := by
                        by_cases hh : r < rows.length
                        · exact hh
                        · simp [List.getElem?_eq_none (Nat.le_of_not_lt hh)] at hrow
                      rw [if_pos rfl, if_pos hrlt] at g2
                      cases g2
                      rcases writeL_ow h2 g3 with ⟨k1, k2, k3⟩ | ⟨k1, k2⟩
                      · simp only [List.mem_singleton, PV.ow.injEq] at k3
                        simp only [List.length_singleton] at k2
                        exact .inl ⟨rfl, rfl, by omega, k3.1, k3.2.1, k3.2.2⟩
                      · simp only [List.length_singleton] at k1
                        exact .inr ⟨⟨sz, rows, row, hst, hrow, k2, g4⟩, fun hh => by omega⟩
                    · rw [if_neg hr] at g2
                      exact .inr ⟨⟨sz, rows, rw0, hst, g2, g3, g4⟩, fun hh => hr hh.2.1.symm⟩
                  · exact .inr ⟨⟨sz0, rs, rw0, g1, g2, g3, g4⟩, fun hh => e1 hh.1⟩
                have H2 : SW C w' Y σ ps a.tmps.toList (applyD [(id0, none), (b, some (.nar sz (rows.set r (writeL row c [.ow hd sz' ((rows'.drop r0).take m)]))))] st) n := by
                  refine SW.updateN H hst hs hm others (H.own b _ l hst hs) (fun c' y' hh => (look c' y' hh).imp _root_.id fun hh => ⟨hh.1, hh.2.2⟩) w1 w2 w3 w4 w5 (fun _ => blk (by simp) h5 h6 h7) fun hk => ?_
                  have K0 : Keep w w' Y Y noSg noSg := ⟨fun k _ hy => w5 k (fun e => hy (e ▸ hm)), fun _ _ h => h, Nat.le_of_eq w4.symm, SgLe.refl _⟩
                  have notl : ∀ {b' r' c' h' sz2 es'}, OwAt st b' r' c' h' sz2 es' → h'.ν ≠ l.cb ∧ h'.ν ≠ l2.cb := fun hh => ⟨(H.nest.sep _ _ _ _ _ _ _ _ _ hh hst hs).symm, (H.nest.sep _ _ _ _ _ _ _ _ _ hh hst2 hl2).symm⟩
                  refine ⟨fun b' r' c' h' sz2 es' hh => ?_, fun b' r' c' h' sz2 es' hh => ?_, fun b' r' c' h' sz2 es' b'' r'' c'' h'' sz3 es'' hh hh' e => ?_, fun b' r' c' h' sz2 es' b'' x l' hh hx hl' => ?_⟩
                  · rcases ow hh with ⟨_, _, _, rfl, rfl, rfl⟩ | ⟨hh, _⟩
                    · refine ⟨hm2, hpos2, ⟨arr2, ty2, by rw [hν, w5 _ hl12]; exact ha2, by rw [has2]; show l2.tot = l2.co + r0 * l2.sz + cap * sz2; rw [← htot, hsz2]⟩, by rw [hlen]; exact hcap, ?_⟩
                      show RepR w' Y noSg l2.cb sz2 _ (l2.co + r0 * l2.sz)
                      rw [hsz2]
                      exact RepR.keep _ K0 (fun _ => w5 _ hl12) _ ((hrows2.drop r0 _ _).take m _ _)
                    · exact (H.nest.rep _ _ _ _ _ _ hh).keep K0 (w5 _ (notl hh).1) (fun h => h)
                  · rcases ow hh with ⟨_, _, _, rfl, rfl, rfl⟩ | ⟨hh, _⟩
                    · exact H.own id0 _ l2 hst2 hl2
                    · exact H.nest.old _ _ _ _ _ _ hh
                  · rcases ow hh with ⟨e1, e2, e3, e4, _⟩ | ⟨hh1, _⟩ <;> rcases ow hh' with ⟨f1, f2, f3, f4, _⟩ | ⟨hh2, _⟩
                    · exact ⟨by rw [e1, f1], by rw [e2, f2], by rw [e3, f3]⟩
                    · exact absurd (by rw [← e, e4]) (notl hh2).2
                    · exact absurd (by rw [e, f4]) (notl hh1).2
                    · exact H.nest.one _ _ _ _ _ _ _ _ _ _ _ _ hh1 hh2 e
                  · have hx2 : (b'' = b ∨ b'' ≠ b) ∧ b'' ≠ id0 ∧ ∃ z, lkS st b'' = some z := by
                      rcases look _ _ hx with ⟨rfl, _⟩ | ⟨e1, e2, hx⟩
                      · exact ⟨.inl rfl, fun e => hne e.symm, _, hst⟩
                      · exact ⟨.inr e1, e2, _, hx⟩
                    obtain ⟨_, hxi, z, hz⟩ := hx2
                    rcases ow hh with ⟨_, _, _, rfl, _⟩ | ⟨hh, _⟩
                    · exact fun e => hxi (H.store.inj b'' id0 z _ l' l2 hz hst2 hl' hl2 e)
                    · exact H.nest.sep _ _ _ _ _ _ _ _ _ hh hz hl'
                refine ⟨_, _, Go.undef, w', Y, σ, hK, .inr ⟨?_, rfl⟩, H2.mono (by simp [nextI]; omega), by simp [Rep], Off.refl _ _⟩
                rw [← hsz] at hrun
                simp [execOp, ho, e', Instr.storeAt, Instr.sureAddr, hrun]
              · exact absurd hm1 hm0
          · exact h.elim
        · split at h
          · rename_i cs hp
            have hall : allCell (cellsV (evL T ps y)) = true := (pur_cell0 _ _ _ hp).2
            obtain ⟨us, hcs, hr, hone⟩ := cells_rep hy hall
            have hLk : Lk lk st := fun b ro sz rows h => ⟨ro, hlk _ _ h⟩
            obtain ⟨row, hrow, h⟩ := h
            have hr' := pur_nil hp hr
            obtain ⟨w', hK, h1, h2, hrun, ⟨w1, w2, w3, w4, w5⟩, ⟨arr', h5, h6⟩, h7⟩ := rowsWrite (P := P) hinfo hsize ha has hle hrows hm hrow hcs hr' h
            have H2 := narWrite H hst hs hm others hrow h2 (by intro h' sz2 es' hh hne; exact absurd hh (pur_noOw _ _ _ hp _ _ _)) w1 w2 w3 w4 w5 (fun _ => blk (rows' := rows.set r (writeL row c cs)) (by simp) h5 h6 h7)
            refine ⟨_, _, Go.undef, w', Y, σ, hK, .inr ⟨?_, rfl⟩, H2.mono (by simp [nextI]; omega), by simp [Rep], Off.refl _ _⟩
            rw [← hsz] at hrun
            simp [execOp, ho, e', Instr.storeAt, Instr.sureAddr, hrun]
          · exact h.elim
      · exact h.elim
    · rename_i b r c hd sz j k e; rw [e] at hx
      unfold Rep at hx
      split at h
      · rename_i sz0 rows hb
        have hst := hlk _ _ hb
        split at h
        · rename_i cs hp
          have hall : allCell (cellsV (evL T ps y)) = true := (pur_cell0 _ _ _ hp).2
          obtain ⟨us, hcs, hr, hone⟩ := cells_rep hy hall
          have h9 := wkC_std h
          clear h
          obtain ⟨cs2, hl2, hc2, hw2, ⟨row, hrow, h⟩, h8⟩ := h9
          clear hl2 hc2 h8
          have hr' := hw2 _ _ _ _ (pur_nil hp hr)
          split at h
          · rename_i h' sz' es ec
            cases hs : Nat.beq sz' sz with
            | false => rw [hs] at h; exact h.elim
            | true =>
              rw [hs] at h
              simp only [cond_true] at h
              have hs := Nat.eq_of_beq_eq_true hs
              subst hs
              obtain ⟨he, er, her, h⟩ := h
              subst he
              have hc : row[c]? = some (.ow hd sz' es) := by rw [getL_eq, List.getD_eq_getElem?_getD] at ec; exact getD_some ec
              have hne : es ≠ [] := by rintro rfl; simp at her
              have hO : OwAt st b r c hd sz' es := ⟨sz0, rows, row, hst, hrow, hc, hne⟩
              have hN := H.nest.rep _ _ _ _ _ _ hO
              obtain ⟨arr, ty, ha, has⟩ := hN.blk
              have hle : hd.o + es.length * sz' ≤ hd.o + hd.cap * sz' := by have := Nat.mul_le_mul_right sz' hN.len; omega
              obtain ⟨w', hK, h1, h2, hrun, ⟨w1, w2, w3, w4, w5⟩, ⟨arr', h5, h6⟩, h7⟩ := rowsWrite (P := P) hinfo hsize ha has hle hN.rows hN.own her hcs hr' h
              obtain ⟨l, hl, hB⟩ : ∃ l, σ b = some l ∧ BlkRep w Y σ l (.nar sz0 rows) := by
                rcases H.store.blk b _ hst with h | ⟨_, _, _, hx⟩
                · exact h
                · cases hx
              have hlν : l.cb ≠ hd.ν := H.nest.sep _ _ _ _ _ _ _ _ _ hO hst hl
              have hclt : c < row.length := by
                by_cases hh : c < row.length
                · exact hh
                · simp [List.getElem?_eq_none (Nat.le_of_not_lt hh)] at hc
              have hrlt : r < rows.length := by
                by_cases hh : r < rows.length
                · exact hh
                · simp [List.getElem?_eq_none (Nat.le_of_not_lt hh)] at hrow
              have hne' : es.set j (writeL er k cs2) ≠ [] := by
                intro h0
                have := congrArg List.length h0
                simp at this
                exact hne this
              have ow : ∀ {b' r' c' h2 sz2 es'}, OwAt (inS st b (some (.nar sz0 (rows.set r (setL row c (.ow hd sz' (es.set j (writeL er k cs2)))))))) b' r' c' h2 sz2 es' →
                  (b' = b ∧ r' = r ∧ c' = c ∧ h2 = hd ∧ sz2 = sz' ∧ es' = es.set j (writeL er k cs2)) ∨ (OwAt st b' r' c' h2 sz2 es' ∧ ¬ (b' = b ∧ r' = r ∧ c' = c)) := by
                rintro b' r' c' h2 sz2 es' ⟨szx, rs, rw0, g1, g2, g3, g4⟩
                rw [lkS_inS] at g1
                by_cases e1 : b = b'
                · subst e1
                  rw [if_pos rfl] at g1
                  cases g1
                  rw [List.getElem?_set] at g2
                  by_cases hrr : r = r'
                  · subst hrr
                    rw [if_pos rfl, if_pos hrlt] at g2
                    cases g2
                    rw [setL_eq, List.getElem?_set] at g3
                    by_cases hcc : c = c'
                    · subst hcc
                      rw [if_pos rfl, if_pos hclt] at g3
                      cases g3
                      exact .inl ⟨rfl, rfl, rfl, rfl, rfl, rfl⟩
                    · rw [if_neg hcc] at g3
                      exact .inr ⟨⟨sz0, rows, row, hst, hrow, g3, g4⟩, fun hh => hcc hh.2.2.symm⟩
                  · rw [if_neg hrr] at g2
                    exact .inr ⟨⟨sz0, rows, rw0, hst, g2, g3, g4⟩, fun hh => hrr hh.2.1.symm⟩
                · rw [if_neg e1] at g1
                  exact .inr ⟨⟨szx, rs, rw0, g1, g2, g3, g4⟩, fun hh => e1 hh.1.symm⟩
              have H2 : SW C w' Y σ ps a.tmps.toList (inS st b (some (.nar sz0 (rows.set r (setL row c (.ow hd sz' (es.set j (writeL er k cs2)))))))) n := by
                refine SW.updateN (b := b) (x' := .nar sz0 (rows.set r (setL row c (.ow hd sz' (es.set j (writeL er k cs2)))))) H hst hl hN.own (fun b' y l' _ h1 h2 => H.nest.sep _ _ _ _ _ _ _ _ _ hO h1 h2) (H.nest.old _ _ _ _ _ _ hO) (fun c' y' hh => ?_) w1 w2 w3 w4 w5 (fun hk => ?_) fun hk => ?_
                · rw [lkS_inS] at hh
                  by_cases e1 : b = c'
                  · rw [if_pos e1] at hh; cases hh; exact .inl ⟨e1.symm, rfl⟩
                  · rw [if_neg e1] at hh; exact .inr ⟨fun e => e1 e.symm, hh⟩
                · unfold BlkRep at hB ⊢
                  obtain ⟨⟨arr0, ty0, b1, b2⟩, b3, b4, ⟨b5, b6⟩, b7, b8⟩ := hB
                  refine ⟨⟨arr0, ty0, by rw [w5 _ hlν]; exact b1, b2⟩, b3, b4, ⟨by simpa using b5, by simpa using b6⟩, ?_, b8⟩
                  have K0 : Keep w w' Y Y noSg noSg := ⟨fun k _ hy => w5 k (fun e => hy (e ▸ hN.own)), fun _ _ h => h, Nat.le_of_eq w4.symm, SgLe.refl _⟩
                  have b7 := RepR.keep rows K0 (fun _ => w5 _ hlν) _ b7
                  rw [RepR.iff] at b7 ⊢
                  intro i q hi
                  rw [List.getElem?_set] at hi
                  by_cases hri : r = i
                  · subst hri
                    rw [if_pos rfl, if_pos hrlt] at hi
                    cases hi
                    obtain ⟨⟨q1, q2⟩, q3⟩ := b7 r row hrow
                    refine ⟨⟨by rw [setL_eq]; simpa using q1, ?_⟩, ?_⟩
                    · rw [setL_eq, allCell_iff]
                      rw [allCell_iff] at q2
                      intro p hp
                      rcases List.mem_or_eq_of_mem_set hp with hh | hh
                      · exact q2 p hh
                      · rw [hh]; rfl
                    · rw [RepC.iff] at q3 ⊢
                      intro i p hi
                      rw [setL_eq, List.getElem?_set] at hi
                      by_cases hci : c = i
                      · subst hci
                        rw [if_pos rfl, if_pos hclt] at hi
                        cases hi
                        obtain ⟨v, hv, hp⟩ := q3 c _ hc
                        refine ⟨v, hv, ?_⟩
                        unfold Rep at hp ⊢
                        rcases hp with ⟨_, p2, p3⟩ | ⟨p1, _⟩
                        · exact .inl ⟨hne', by simpa using p2, by simpa using p3⟩
                        · exact absurd p1 hne
                      · rw [if_neg hci] at hi
                        exact q3 i p hi
                  · rw [if_neg hri] at hi
                    exact b7 i q hi
                · have K0 : Keep w w' Y Y noSg noSg := ⟨fun k _ hy => w5 k (fun e => hy (e ▸ hN.own)), fun _ _ h => h, Nat.le_of_eq w4.symm, SgLe.refl _⟩
                  have other : ∀ {b' r' c' h2 sz2 es'}, OwAt st b' r' c' h2 sz2 es' → ¬ (b' = b ∧ r' = r ∧ c' = c) → h2.ν ≠ hd.ν := fun hh hn e => hn (H.nest.one _ _ _ _ _ _ _ _ _ _ _ _ hh hO e)
                  refine ⟨fun b' r' c' h2 sz2 es' hh => ?_, fun b' r' c' h2 sz2 es' hh => ?_, fun b' r' c' h2 sz2 es' b'' r'' c'' h3 sz3 es'' hh hh' e => ?_, fun b' r' c' h2 sz2 es' b'' x l' hh hx hl' => ?_⟩
                  · rcases ow hh with ⟨_, _, _, rfl, rfl, rfl⟩ | ⟨hh, hn⟩
                    · exact ⟨hN.own, hN.pos, ⟨arr', ty, h5, h6⟩, by simpa using hN.len, h7⟩
                    · exact (H.nest.rep _ _ _ _ _ _ hh).keep K0 (w5 _ (other hh hn)) (fun h => h)
                  · rcases ow hh with ⟨_, _, _, rfl, rfl, rfl⟩ | ⟨hh, _⟩
                    · exact H.nest.old _ _ _ _ _ _ hO
                    · exact H.nest.old _ _ _ _ _ _ hh
                  · rcases ow hh with ⟨e1, e2, e3, e4, _⟩ | ⟨hh1, n1⟩ <;> rcases ow hh' with ⟨f1, f2, f3, f4, _⟩ | ⟨hh2, n2⟩
                    · exact ⟨by rw [e1, f1], by rw [e2, f2], by rw [e3, f3]⟩
                    · exact absurd (by rw [← e, e4]) (other hh2 n2)
                    · exact absurd (by rw [e, f4]) (other hh1 n1)
                    · exact H.nest.one _ _ _ _ _ _ _ _ _ _ _ _ hh1 hh2 e
                  · have hz : ∃ z, lkS st b'' = some z := by
                      rw [lkS_inS] at hx
                      by_cases e1 : b = b''
                      · subst e1; exact ⟨_, hst⟩
                      · rw [if_neg e1] at hx; exact ⟨_, hx⟩
                    obtain ⟨z, hz⟩ := hz
                    rcases ow hh with ⟨_, _, _, rfl, _⟩ | ⟨hh, _⟩
                    · exact H.nest.sep _ _ _ _ _ _ _ _ _ hO hz hl'
                    · exact H.nest.sep _ _ _ _ _ _ _ _ _ hh hz hl'
              refine ⟨_, _, Go.undef, w', Y, σ, hK, .inr ⟨?_, rfl⟩, H2.mono (by simp [nextI]; omega), by simp [Rep], Off.refl _ _⟩
              simp [execOp, ho, hx, Instr.storeAt, Instr.sureAddr, hrun]
          · exact h.elim
        · exact h.elim
      · exact h.elim
    · exact h.elim
  · exact h.elim
end
end Go.Pv
