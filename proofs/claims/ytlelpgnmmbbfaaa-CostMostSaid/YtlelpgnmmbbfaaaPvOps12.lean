/-
  Pv, part 16: append, copy, clear.
-/
import Derived.Test.YtlelpgnmmbbfaaaPvOps11
namespace Go.Pv
open Go
set_option linter.all false

theorem SW.drawn {T : Tab} {C : Ctx T} {w : World} {Y : Nat → Prop} {σ : Sg} {ps : List PV} {vs : List Value} {st : St} {n : Nat} (H : SW C w Y σ ps vs st n) (d : Nat) : SW C { w with drawn := d } Y σ ps vs st n := by
  have K : Keep w { w with drawn := d } Y Y σ σ := ⟨fun _ _ _ => rfl, fun _ _ h => h, Nat.le_refl _, SgLe.refl _⟩
  refine ⟨RepL.keep _ K _ H.vals, ⟨fun b x hx => ?_, H.store.inj⟩, H.next, H.yold, H.y0, H.c0, H.yshr, ⟨H.chg.os, H.chg.tape, H.chg.output, H.chg.size, H.chg.block⟩, H.own, H.glob.keep K.none, H.fix, H.nest.heap (Nat.le_refl _) (fun _ _ => rfl)⟩
  rcases H.store.blk b x hx with ⟨l, hl, hB⟩ | h
  · exact .inl ⟨l, hl, BlkRep.keep K rfl Iff.rfl hB⟩
  · exact .inr h
theorem Rep.drawn {w : World} {Y : Nat → Prop} {σ : Sg} {p : PV} {v : Value} (h : Rep w Y σ p v) (d : Nat) : Rep { w with drawn := d } Y σ p v :=
  Rep.keep (w := w) (w' := { w with drawn := d }) p ⟨fun _ _ _ => rfl, fun _ _ h => h, Nat.le_refl _, SgLe.refl _⟩ v h

/-- a name for nothing: an own slice without capacity -/
theorem SW.empty {T : Tab} {C : Ctx T} {w : World} {Y : Nat → Prop} {σ : Sg} {ps : List PV} {vs : List Value} {st : St} {n id : Nat} (H : SW C w Y σ ps vs st n) (hid : σ id = none ∧ T.pas ≤ id) (sz : Nat) : SW C w Y σ ps vs (inS st id (some (.arr false sz []))) (max n (id + 1)) := by
  have hfree := hid.1
  refine ⟨H.vals, ⟨fun b x hx => ?_, fun b b' x x' l l' hx hx' hl hl' e => ?_⟩, fun b hb => H.next b (by omega), H.yold, H.y0, H.c0, H.yshr, H.chg, fun b x l hx hl => ?_, H.glob, ⟨by have := H.fix.1; omega, H.fix.2⟩, ?_⟩
  · rw [lkS_inS] at hx
    by_cases h : id = b
    · rw [if_pos h] at hx; cases hx; subst h; exact .inr ⟨hfree, false, sz, rfl⟩
    · rw [if_neg h] at hx; exact H.store.blk b x hx
  · rw [lkS_inS] at hx hx'
    by_cases h : id = b
    · subst h; rw [hfree] at hl; cases hl
    · by_cases h' : id = b'
      · subst h'; rw [hfree] at hl'; cases hl'
      · rw [if_neg h] at hx; rw [if_neg h'] at hx'
        exact H.store.inj b b' x x' l l' hx hx' hl hl' e
  · rw [lkS_inS] at hx
    by_cases h : id = b
    · subst h; rw [hfree] at hl; cases hl
    · rw [if_neg h] at hx; exact H.own b x l hx hl
  · have back : ∀ {c r k h s es}, OwAt (inS st id (some (.arr false sz []))) c r k h s es → OwAt st c r k h s es := by
      rintro c r k h s es ⟨sz0, rows, row, h1, h2⟩
      rw [lkS_inS] at h1
      by_cases hc : id = c
      · rw [if_pos hc] at h1; cases h1
      · rw [if_neg hc] at h1; exact ⟨sz0, rows, row, h1, h2⟩
    refine H.nest.keep ⟨fun _ _ _ => rfl, fun _ _ h => h, Nat.le_refl _, SgLe.refl _⟩ (fun _ _ _ _ _ _ k => back k) (fun _ _ _ _ _ _ _ => rfl) (fun _ _ _ _ _ _ k => (H.nest.rep _ _ _ _ _ _ (back k)).own) fun c r k h s es b' x l hk hx hl => ?_
    rw [lkS_inS] at hx
    by_cases hc : id = b'
    · subst hc; rw [hfree] at hl; cases hl
    · rw [if_neg hc] at hx; exact H.nest.sep _ _ _ _ _ _ _ _ _ (back hk) hx hl

/-- the same memory under a new name, some cells written -/
theorem SW.rebase {T : Tab} {C : Ctx T} {w w' : World} {Y : Nat → Prop} {σ : Sg} {ps : List PV} {vs : List Value} {st : St} {n id b : Nat} (H : SW C w Y σ ps vs st n) (hid : σ id = none ∧ T.pas ≤ id) {x x' : Blk} {l l' : Loc}
    (hx : lkS st b = some x) (hnar : ∀ sz rows, x' ≠ .nar sz rows) (hl : σ b = some l) (hm : Y l.cb) (hcb : l'.cb = l.cb)
    (hos : w'.os = w.os) (htape : w'.tape = w.tape) (hout : w'.output = w.output) (hsize : w'.heap.size = w.heap.size) (hother : ∀ k, k ≠ l.cb → w'.heap[k]? = w.heap[k]?)
    (hnew : ∀ σ', (∀ p v, Rep w Y σ p v → Rep w' Y σ' p v) → (∀ p v, Rep w Y noSg p v → Rep w' Y noSg p v) → BlkRep w' Y σ' l' x') :
    ∃ σ', SW C w' Y σ' ps vs (inS (inS st b none) id (some x')) (max n (id + 1)) ∧ σ' id = some l' ∧ Off id σ σ' := by
  have hfree := hid.1
  let σ' : Sg := fun c => if c = id then some l' else σ c
  have hsg : SgLe σ σ' := by
    intro c m h
    show (if c = id then some l' else σ c) = some m
    by_cases hc : c = id
    · subst hc; rw [hfree] at h; cases h
    · rw [if_neg hc]; exact h
  have K : Keep w w' Y Y σ σ' := ⟨fun k _ hk => hother k (fun e => hk (e ▸ hm)), fun _ _ h => h, Nat.le_of_eq hsize.symm, hsg⟩
  have own := H.own b x l hx hl
  have look : ∀ c y, lkS (inS (inS st b none) id (some x')) c = some y → (c = id ∧ y = x') ∨ (c ≠ id ∧ c ≠ b ∧ lkS st c = some y) := by
    intro c y h
    rw [lkS_inS] at h
    by_cases hc : id = c
    · rw [if_pos hc] at h; cases h; exact .inl ⟨hc.symm, rfl⟩
    · rw [if_neg hc, lkS_inS] at h
      by_cases hc2 : b = c
      · rw [if_pos hc2] at h; cases h
      · rw [if_neg hc2] at h; exact .inr ⟨fun e => hc e.symm, fun e => hc2 e.symm, h⟩
  refine ⟨σ', ⟨RepL.keep _ K _ H.vals, ⟨?_, ?_⟩, ?_, fun k hk => by rw [hsize]; exact H.yold k hk, H.y0, H.c0, H.yshr, ?_, ?_, H.glob.keep K.none, ⟨by have := H.fix.1; omega, fun b hb => by show (if b = id then some l' else σ b) = _; rw [if_neg (by omega)]; exact H.fix.2 b hb⟩, ?_⟩, by simp [σ'], fun b hb => by show (if b = id then some l' else σ b) = _; rw [if_neg hb]⟩
  · intro c y h
    rcases look c y h with ⟨rfl, rfl⟩ | ⟨h1, h2, h3⟩
    · exact .inl ⟨l', by simp [σ'], hnew σ' (fun p v hp => Rep.keep p K v hp) (fun p v hp => Rep.keep p K.none v hp)⟩
    · rcases H.store.blk c y h3 with ⟨m, hm', hB⟩ | ⟨hn, hy⟩
      · refine .inl ⟨m, hsg _ _ hm', BlkRep.keep K (hother _ fun e => h2 ?_) Iff.rfl hB⟩
        exact H.store.inj c b y x m l h3 hx hm' hl e
      · exact .inr ⟨by simp [σ', h1, hn], hy⟩
  · intro c c' y y' m m' h h' hm1 hm2 e
    rcases look c y h with ⟨rfl, rfl⟩ | ⟨h1, h2, h3⟩ <;> rcases look c' y' h' with ⟨rfl, rfl⟩ | ⟨h1', h2', h3'⟩
    · rfl
    · exfalso
      simp [σ'] at hm1; subst hm1
      have : σ c' = some m' := by simpa [σ', h1'] using hm2
      exact h2' (H.store.inj c' b y' x m' l h3' hx this hl (by rw [← e, hcb]))
    · exfalso
      simp [σ'] at hm2; subst hm2
      have : σ c = some m := by simpa [σ', h1] using hm1
      exact h2 (H.store.inj c b y x m l h3 hx this hl (by rw [e, hcb]))
    · have e1 : σ c = some m := by simpa [σ', h1] using hm1
      have e2 : σ c' = some m' := by simpa [σ', h1'] using hm2
      exact H.store.inj c c' y y' m m' h3 h3' e1 e2 e
  · intro c hc
    show (if c = id then some l' else σ c) = none
    rw [if_neg (by omega)]; exact H.next c (by omega)
  · refine ⟨by rw [hos]; exact H.chg.os, by rw [htape]; exact H.chg.tape, by rw [hout]; exact H.chg.output, by rw [hsize]; exact H.chg.size, fun k hk hM => ?_⟩
    have hne : k ≠ l.cb := fun e => by
      subst e
      have h1 := H.away hx hl
      rcases H.yshr _ hm hk with h2 | h2
      · exact h1 h2
      · exact hM h2
    rw [hother k hne]; exact H.chg.block k hk hM
  · intro c y m h hm'
    rcases look c y h with ⟨rfl, rfl⟩ | ⟨h1, h2, h3⟩
    · simp [σ'] at hm'; subst hm'; rw [hcb]; exact own
    · exact H.own c y m h3 (by simpa [σ', h1] using hm')
  · have back : ∀ {c r k h s es}, OwAt (inS (inS st b none) id (some x')) c r k h s es → OwAt st c r k h s es := by
      rintro c r k h s es ⟨sz0, rows, row, h1, h2⟩
      rcases look _ _ h1 with ⟨_, e⟩ | ⟨_, _, h3⟩
      · exact absurd e.symm (hnar _ _)
      · exact ⟨sz0, rows, row, h3, h2⟩
    refine H.nest.keep K.none (fun _ _ _ _ _ _ k => back k) (fun c r k h s es hk => hother _ (H.nest.sep _ _ _ _ _ _ _ _ _ (back hk) hx hl).symm) (fun _ _ _ _ _ _ k => (H.nest.rep _ _ _ _ _ _ (back k)).own) fun c r k h s es b' y m hk hy hm' => ?_
    rcases look _ _ hy with ⟨e, _⟩ | ⟨h1, h2, h3⟩
    · subst e; simp [σ'] at hm'; subst hm'; rw [hcb]; exact H.nest.sep _ _ _ _ _ _ _ _ _ (back hk) hx hl
    · exact H.nest.sep _ _ _ _ _ _ _ _ _ (back hk) h3 (by simpa [σ', h1] using hm')

/-- rows in memory, as one list of cells that can be laid elsewhere -/
theorem RepR.vals {w : World} {Y : Nat → Prop} {σ : Sg} {b sz : Nat} : ∀ (rs : List (List PV)) (o : Nat), RepR w Y σ b sz rs o →
    ∃ vs : List Value, (vs.length = rs.length * sz ∧ ∀ v ∈ vs, oneC v = true) ∧ (∀ i v, vs[i]? = some v → w.cell? ⟨b, o + i, none⟩ = some v) ∧
      ∀ (w' : World) (Y' : Nat → Prop) (σ' : Sg) (b' o' : Nat), (∀ p v, Rep w Y σ p v → Rep w' Y' σ' p v) → (∀ i v, vs[i]? = some v → w'.cell? ⟨b', o' + i, none⟩ = some v) → RepR w' Y' σ' b' sz rs o'
  | [], o, _ => ⟨[], ⟨by simp, by simp⟩, by simp, fun _ _ _ _ _ _ _ => by simp [RepR]⟩
  | r :: rs, o, h => by
    unfold RepR at h
    obtain ⟨h1, h2, h3⟩ := h
    obtain ⟨us, hu1, hu2⟩ := h2.vals
    obtain ⟨vs, ⟨hv1, hone⟩, hv2, hv3⟩ := RepR.vals rs (o + sz) h3
    have hul : us.length = sz := by rw [hu1.length]; exact h1.1
    refine ⟨us ++ vs, ⟨?_, fun v hv => (List.mem_append.1 hv).elim (fun h => allCell_one _ _ h1.2 hu1 v h) (hone v)⟩, ?_, ?_⟩
    · rw [List.length_append, hv1, hul, List.length_cons, Nat.add_mul]; omega
    · intro i v hi
      by_cases hlt : i < us.length
      · rw [List.getElem?_append_left hlt] at hi; exact hu2 i v hi
      · rw [List.getElem?_append_right (by omega)] at hi
        have := hv2 (i - us.length) v hi
        rw [hul] at this
        rw [show o + i = o + sz + (i - sz) by omega]; exact this
    · intro w' Y' σ' b' o' hk hc
      unfold RepR
      refine ⟨h1, RepC.of_vals r us o' ?_ (fun i v hi => hc i v (by rw [List.getElem?_append_left]; exact hi; (by_cases hh : i < us.length; exact hh; rw [List.getElem?_eq_none (by omega)] at hi; cases hi))), hv3 w' Y' σ' b' (o' + sz) hk (fun i v hi => ?_)⟩
      · exact RepL.of_pointwise _ _ (by rw [hu1.length]) (fun i p v e1 e2 => by
          obtain ⟨v', e3, e4⟩ := hu1.get? e1
          rw [e2] at e3; cases e3
          exact hk _ _ e4)
      · have := hc (sz + i) v (by rw [List.getElem?_append_right (by omega), hul]; simpa using hi)
        rw [show o' + sz + i = o' + (sz + i) by omega]; exact this

/-- what append and copy read of their second argument -/
theorem rowsOf_read {P : Program} {T : Tab} {C : Ctx T} {w : World} {Y : Nat → Prop} {σ : Sg} {ps : List PV} {us : List Value} {st : St} {n esz : Nat} (H : SW C w Y σ ps us st n) {lk : Nat → Option Blk} (hlk : ∀ b x, lk b = some x → lkS st b = some x)
    {p : PV} {v : Value} {rows : List (List PV)} (hv : Rep w Y σ p v) (h : rowsOf (Sig.std P T) esz lk p = some rows) :
    ∃ x len cap, v = .slice x len cap ∧ len = rows.length ∧ (rows = [] ∨ ∃ b o, x = some ⟨b, o, none⟩ ∧ RepR w Y noSg b esz rows o) := by
  cases p <;> simp [rowsOf] at h
  case sl sz es full =>
    unfold Rep at hv
    obtain ⟨x, len, cap, rfl, hl, _, _, hr⟩ := hv
    cases hb : Nat.beq sz esz with
    | true =>
      rw [hb] at h
      simp only [cond_true, Option.some.injEq] at h
      subst h
      have := Nat.eq_of_beq_eq_true hb
      subst this
      exact ⟨x, len, cap, rfl, hl, hr.imp id fun ⟨b, o, e, _, hr⟩ => ⟨b, o, e, hr⟩⟩
    | false =>
      rw [hb] at h
      simp only [cond_false] at h
      cases es with
      | nil => simp at h; subst h; exact ⟨x, len, cap, rfl, hl, .inl rfl⟩
      | cons _ _ => simp at h
  case os b r m =>
    split at h
    · rename_i ro sz rows' hb
      cases hbb : Nat.beq sz esz with
      | false => rw [hbb] at h; simp at h
      | true =>
        rw [hbb] at h
        simp only [cond_true, Option.some.injEq] at h
        subst h
        have := Nat.eq_of_beq_eq_true hbb
        subst this
        obtain ⟨x, cap, rfl, hn, hl, hr⟩ := os_rows hv (H.store.blk b _ (hlk _ _ hb))
        exact ⟨x, m, cap, rfl, hl, hr.imp id fun ⟨b', o, e, _, _, hr⟩ => ⟨b', o, e, hr⟩⟩
    · cases h

theorem firstCells_run {P : Program} {w : World} {size n : Nat} {x : Option Addr} {len cap : Nat} {vs : List Value} (hl : vs.length = n * size) (h : vs = [] ∨ ∃ b o, x = some ⟨b, o, none⟩ ∧ ∀ i v, vs[i]? = some v → w.cell? ⟨b, o + i, none⟩ = some v) :
    (Builtin.firstCells size n (.slice x len cap)).run P w = .ok vs.toArray w := by
  cases x with
  | none =>
    rcases h with rfl | ⟨b, o, e, _⟩
    · simp [Builtin.firstCells]
    · exact absurd e (by simp)
  | some a =>
    rcases h with rfl | ⟨b, o, e, hc⟩
    · simp only [List.length_nil] at hl
      simp only [Builtin.firstCells, ← hl, loadCells, loadCellsFrom, Sem.run_pure]
    · obtain rfl : a = ⟨b, o, none⟩ := Option.some.inj e
      simp only [Builtin.firstCells, ← hl, loadCells]
      rw [loadCells_run vs 0 #[] (fun j v hj => by simpa using hc j v hj)]
      simp

theorem growBy_le : ∀ (rounds newLen c : Nat), c ≤ newLen + newLen / 4 + 192 → Builtin.growBy newLen rounds c ≤ newLen + newLen / 4 + 192
  | 0, newLen, c, h => by simpa [Builtin.growBy] using h
  | rounds + 1, newLen, c, h => by
    simp only [Builtin.growBy]
    split
    · exact h
    · exact growBy_le rounds newLen _ (by omega)
theorem nextcap_le {need cap : Nat} (h : ¬ need ≤ cap) : Builtin.nextslicecap need cap ≤ 2 * need + 192 := by
  unfold Builtin.nextslicecap
  split
  · omega
  · split
    · omega
    · have := growBy_le 4 need cap (by omega)
      omega

theorem cut_ge {need old : Nat} {e : TypeId} (t : Nat) : need ≤ (Question.appendCap need old e).cut t := by
  simp only [Question.cut]; omega

section
variable {P : Program} {T : Tab} (hT : TabOK P T) {C : Ctx T} {o : Oper} {a : Act} {w : World} {Y : Nat → Prop} {σ : Sg} {ps : List PV} {st : St} {n id : Nat} {K : PV → Dl → Prop} {lk : Nat → Option Blk}
  (H : SW C w Y σ ps a.tmps.toList st n) (hlk : ∀ b x, lk b = some x → lkS st b = some x) (hid : σ id = none ∧ T.pas ≤ id) (hU : UndOK P)

/-- append where the memory is made anew -/
theorem append_new (H : SW C w Y σ ps a.tmps.toList st n) (hid : σ id = none ∧ T.pas ≤ id) {t u : TypeId} {ts : List TypeId} {et : TypeId} {inf : TypeInfo} {z : List PV} {old new : List (List PV)} {x y : Option Addr} {sl sc yl yc : Nat} {ty : TypeId} {us vs : List Value} {eu : TypeId}
    (hu : P.underlying t = some (.slice et)) (hu2 : P.underlying u = some (.slice eu)) (hi : P.info? et = some inf) (hz : zeroT P et = some z) (hpos : 0 < P.cellsOf et) (hzl : z.length = P.cellsOf et)
    (hold : us.length = sl * P.cellsOf et ∧ (us = [] ∨ ∃ b o, x = some ⟨b, o, none⟩ ∧ ∀ i v, us[i]? = some v → w.cell? ⟨b, o + i, none⟩ = some v))
    (hnew : vs.length = yl * P.cellsOf et ∧ (vs = [] ∨ ∃ b o, y = some ⟨b, o, none⟩ ∧ ∀ i v, vs[i]? = some v → w.cell? ⟨b, o + i, none⟩ = some v))
    (hsl : sl = old.length) (hyl : yl = new.length)
    (hrows : ∀ (w' : World) (Y' : Nat → Prop) (b' : Nat), (∀ p v, Rep w Y noSg p v → Rep w' Y' noSg p v) → (∀ i v, (us ++ vs)[i]? = some v → w'.cell? ⟨b', 0 + i, none⟩ = some v) → RepR w' Y' noSg b' (P.cellsOf et) (old ++ new) 0)
    (hgrow : ¬ sl + yl ≤ sc) (hroom : (2 * (sl + yl) + 192) * inf.bytes ≤ 140737488355328) (hbig : sl + yl ≤ 4611686018427387904) :
    ∃ cv w' Y' σ', (Builtin.append_ (t :: u :: ts).toArray ty #[.slice x sl sc, .slice y yl yc]).run P w = .ok cv w' ∧
      SW C w' Y' σ' ps a.tmps.toList (inS st id (some (.arr false (P.cellsOf et) (old ++ new)))) (max n (id + 1)) ∧ Rep w' Y' σ' (.os id 0 (old.length + new.length)) cv ∧ Off id σ σ' := by
  obtain ⟨zv, hzr, hzrep⟩ := zero_rep hz
  have hinf : P.info? et ≠ none := by rw [hi]; simp
  -- the capacity drawn
  let wd : World := { w with drawn := w.drawn + 1 }
  obtain ⟨cap, hcap⟩ : ∃ cap, cap = (Question.appendCap (sl + yl) sc et).cut (w.tape w.drawn (Question.appendCap (sl + yl) sc et)) := ⟨_, rfl⟩
  have hge : sl + yl ≤ cap := by rw [hcap]; exact cut_ge _
  have Hd := H.drawn (w.drawn + 1)
  let rest : Array Value := Builtin.zeroCells zv.cells (cap - (sl + yl))
  let arr : Array Value := us.toArray ++ vs.toArray ++ rest
  have hzsz : zv.cells.size = P.cellsOf et := by
    have := (hzrep w Y noSg).length
    rw [Array.length_toList] at this; omega
  have harr : arr.size = cap * P.cellsOf et := by
    simp only [arr, rest, Builtin.zeroCells, Array.size_append, List.size_toArray, hold.1, hnew.1, Array.size_map, Array.size_range, hzsz]
    rw [← Nat.add_mul, ← Nat.add_mul]
    congr 1; omega
  obtain ⟨Y2, σ2, H2, hrep2, hoff⟩ := SW.newArr (a := a) (m := cap) (arr := arr) (rows := old ++ new) Hd hid et hpos (by rw [List.length_append]; omega) harr (by
    intro w' Y' hk hb
    refine hrows w' Y' _ (fun p v hp => hk p v (hp.drawn _)) (fun i v hv => ?_)
    rw [cell_of_block hb]
    have hlt : i < (us ++ vs).length := by
      by_cases hh : i < (us ++ vs).length
      · exact hh
      · rw [List.getElem?_eq_none (Nat.le_of_not_lt hh)] at hv; cases hv
    simp only [arr, Nat.zero_add]
    rw [Array.getElem?_append_left (by simpa using hlt)]
    rw [← hv]; simp)
  rw [List.length_append] at hrep2
  refine ⟨_, _, Y2, σ2, ?_, H2, hrep2, hoff⟩
  have c1 : ¬ (((sl + yl : Nat) : Int) > IntKind.i64.max ∧ (False ∨ inf.bytes = 0)) := by
    have : IntKind.i64.max = 9223372036854775807 := by decide
    rw [this]; omega
  have c2 : ¬ (Builtin.nextslicecap (sl + yl) sc * inf.bytes > 2 ^ 48) := by
    have := Nat.mul_le_mul_right inf.bytes (nextcap_le hgrow)
    omega
  have r1 := firstCells_run (P := P) (w := wd) (size := P.cellsOf et) (n := sl) (x := x) (len := sl) (cap := sc) hold.1 hold.2
  have r2 := firstCells_run (P := P) (w := wd) (size := P.cellsOf et) (n := yl) (x := y) (len := yl) (cap := yc) hnew.1 hnew.2
  have ask : ∀ k, (askRoom k).run P wd = .ok () wd := by
    intro k; unfold askRoom; split <;> simp [mark, Sem.run]
  have ch : (choose (Question.appendCap (sl + yl) sc et)).run P w = .ok cap wd := by
    rw [hcap]; simp [choose, Sem.run, Question.forced, wd]
  simp only [Builtin.append_, List.getElem?_toArray, List.getElem?_cons_zero, List.getElem?_cons_succ, Sem.run_bind, run_und hu, run_und hu2, Result.andThen, run_sizeOf hinf, Sem.run_pure]
  simp only [Bool.false_eq_true, if_false, Builtin.lenOf, Sem.run_bind, Sem.run_pure, Result.andThen]
  rw [if_neg hgrow]
  simp only [Sem.run_bind, typeInfo_run hi, Result.andThen]
  rw [if_neg c1]
  simp only [Sem.run_bind, typeInfo_run hi, Result.andThen]
  rw [if_neg c2]
  simp only [Sem.run_bind, ch, typeInfo_run hi, Result.andThen, ask, r1, Bool.not_false, if_true, r2, hzr, newRow, newObj, Sem.run_pure]
  simp only [Sem.run]
  rw [← hsl, ← hyl]
  rfl

/-- append in place -/
theorem append_place {t u : TypeId} {ts : List TypeId} {et : TypeId} {x y : Option Addr} {sl sc yl yc : Nat} {ty : TypeId} {vs : List Value} {eu : TypeId}
    (hu : P.underlying t = some (.slice et)) (hu2 : P.underlying u = some (.slice eu)) (hinf : P.info? et ≠ none)
    (hnew : vs.length = yl * P.cellsOf et ∧ (vs = [] ∨ ∃ b o, y = some ⟨b, o, none⟩ ∧ ∀ i v, vs[i]? = some v → w.cell? ⟨b, o + i, none⟩ = some v))
    (hgrow : sl + yl ≤ sc) {w' : World} (hst : ∀ b o, x = some ⟨b, o, none⟩ → (storeCells ⟨b, o + sl * P.cellsOf et, none⟩ vs).run P w = .ok () w') (hno : x = none → w' = w) (hx : ∀ a, x = some a → a.spot = none) :
    (Builtin.append_ (t :: u :: ts).toArray ty #[.slice x sl sc, .slice y yl yc]).run P w = .ok (.slice x (sl + yl) sc) w' := by
  have r2 := firstCells_run (P := P) (w := w) (size := P.cellsOf et) (n := yl) (x := y) (len := yl) (cap := yc) hnew.1 hnew.2
  simp only [Builtin.append_, List.getElem?_toArray, List.getElem?_cons_zero, List.getElem?_cons_succ, Sem.run_bind, run_und hu, run_und hu2, Result.andThen, run_sizeOf hinf, Sem.run_pure]
  simp only [Bool.false_eq_true, if_false, Builtin.lenOf, Sem.run_bind, Sem.run_pure, Result.andThen]
  rw [if_pos hgrow]
  simp only [Sem.run_bind, Bool.not_false, if_true, r2, Result.andThen]
  cases x with
  | none => simp only [Sem.run_pure]; rw [hno rfl]
  | some a =>
    obtain ⟨b, o, sp⟩ := a
    have := hx _ rfl
    simp only at this
    subst this
    simp only [Sem.run_bind, addr_add]
    have := hst b o rfl
    simp only [this, Result.andThen, Sem.run_pure]
end
end Go.Pv
