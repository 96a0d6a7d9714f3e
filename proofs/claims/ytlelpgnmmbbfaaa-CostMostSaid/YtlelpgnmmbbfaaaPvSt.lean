/-
  Pv, part 6: the call's own blocks: made, written, frozen, dropped.
-/
import Derived.Test.YtlelpgnmmbbfaaaPvOps2
namespace Go.Pv
open Go
set_option linter.all false

theorem beqN {b c : Nat} (h : ¬ b = c) : Nat.beq b c = false := by
  cases e : Nat.beq b c with
  | false => rfl
  | true => exact absurd (Nat.eq_of_beq_eq_true e) h

theorem lkS_inS (st : St) (b : Nat) (x : Option Blk) (c : Nat) : lkS (inS st b x) c = if b = c then x else lkS st c := by
  induction st with
  | nil =>
    by_cases h : b = c
    · simp [inS, lkS, h]
    · have : Nat.beq b c = false := beqN h
      simp [inS, lkS, this, h]
  | cons p st ih =>
    obtain ⟨b', y⟩ := p
    by_cases h : b' = b
    · subst h
      by_cases h2 : b' = c
      · subst h2; simp [inS, lkS]
      · have : Nat.beq b' c = false := beqN h2
        simp [inS, lkS, this, h2]
    · have h0 : Nat.beq b' b = false := beqN h
      simp only [inS, h0, cond_false, lkS]
      by_cases h2 : b' = c
      · subst h2; simp; intro e; exact absurd e.symm h
      · have : Nat.beq b' c = false := beqN h2
        simp only [this, cond_false, ih]

theorem BlkRep.keep {w w' : World} {Y Y' : Nat → Prop} {σ σ' : Sg} {l : Loc} {x : Blk} (K : Keep w w' Y Y' σ σ') (hb : w'.heap[l.cb]? = w.heap[l.cb]?) (hY : Y' l.cb ↔ Y l.cb)
    (h : BlkRep w Y σ l x) : BlkRep w' Y' σ' l x := by
  cases x with
  | var ro row =>
    unfold BlkRep at h ⊢
    obtain ⟨⟨arr, ty, h1, h2⟩, h3, h4, h5, h6, h7⟩ := h
    exact ⟨⟨arr, ty, by rw [hb]; exact h1, h2⟩, h3, h4, RepC.keep row K (fun _ => hb) _ h5, fun e => hY.2 (h6 e), fun e hy => h7 e (hY.1 hy)⟩
  | arr ro sz rows =>
    unfold BlkRep at h ⊢
    obtain ⟨⟨arr, ty, h1, h2⟩, h3, h4, h5, h6, h7, h8⟩ := h
    exact ⟨⟨arr, ty, by rw [hb]; exact h1, h2⟩, h3, h4, h5, RepR.keep rows K.none (fun _ => hb) _ h6, fun e => hY.2 (h7 e), fun e hy => h8 e (hY.1 hy)⟩
  | nar sz rows =>
    unfold BlkRep at h ⊢
    obtain ⟨⟨arr, ty, h1, h2⟩, h3, h4, h5, h6, h7⟩ := h
    exact ⟨⟨arr, ty, by rw [hb]; exact h1, h2⟩, h3, h4, h5, RepR.keep rows K.none (fun _ => hb) _ h6, hY.2 h7⟩

theorem BlkRep.lt {w : World} {Y : Nat → Prop} {σ : Sg} {l : Loc} {x : Blk} (h : BlkRep w Y σ l x) : l.cb < w.heap.size := by
  have : At w l := by cases x <;> (unfold BlkRep at h; exact h.1)
  obtain ⟨arr, ty, h1, _⟩ := this
  by_cases hb : l.cb < w.heap.size
  · exact hb
  · simp [Array.getElem?_eq_none (Nat.le_of_not_lt hb)] at h1

/-- a name's block is dropped -/
theorem SW.drop {T : Tab} {C : Ctx T} {w : World} {Y : Nat → Prop} {σ : Sg} {ps : List PV} {vs : List Value} {st : St} {n : Nat} (H : SW C w Y σ ps vs st n) (b : Nat) : SW C w Y σ ps vs (inS st b none) n := by
  have sub : ∀ c x, lkS (inS st b none) c = some x → lkS st c = some x := by
    intro c x h
    rw [lkS_inS] at h
    by_cases hb : b = c
    · rw [if_pos hb] at h; cases h
    · rw [if_neg hb] at h; exact h
  refine ⟨H.vals, ⟨fun c x h => H.store.blk c x (sub c x h), fun c c' x x' l l' h h' => H.store.inj c c' x x' l l' (sub _ _ h) (sub _ _ h')⟩, H.next, H.yold, H.y0, H.c0, H.yshr, H.chg, fun c x l h => H.own c x l (sub _ _ h), H.glob, H.fix, H.nest.sub sub⟩

/-- the same blocks under another list -/
theorem SW.ext {T : Tab} {C : Ctx T} {w : World} {Y : Nat → Prop} {σ : Sg} {ps : List PV} {vs : List Value} {st st' : St} {n : Nat} (H : SW C w Y σ ps vs st n) (h : ∀ b x, lkS st' b = some x → lkS st b = some x) : SW C w Y σ ps vs st' n :=
  ⟨H.vals, ⟨fun c x e => H.store.blk c x (h c x e), fun c c' x x' l l' e e' => H.store.inj c c' x x' l l' (h _ _ e) (h _ _ e')⟩, H.next, H.yold, H.y0, H.c0, H.yshr, H.chg, fun c x l e => H.own c x l (h _ _ e), H.glob, H.fix, H.nest.sub h⟩

/-- a block turns: only that one, and only its cells -/
theorem SW.update {T : Tab} {C : Ctx T} {w w' : World} {Y : Nat → Prop} {σ : Sg} {ps : List PV} {vs : List Value} {st : St} {n : Nat} (H : SW C w Y σ ps vs st n)
    {b : Nat} {x x' : Blk} {l : Loc} (hx : lkS st b = some x) (hl : σ b = some l) (hm : Y l.cb)
    (hos : w'.os = w.os) (htape : w'.tape = w.tape) (hout : w'.output = w.output) (hsize : w'.heap.size = w.heap.size)
    (hother : ∀ k, k ≠ l.cb → w'.heap[k]? = w.heap[k]?) (hnar : ∀ sz rows, x' ≠ .nar sz rows) (hnew : (∀ p v, Rep w Y σ p v → Rep w' Y σ p v) → BlkRep w' Y σ l x') : SW C w' Y σ ps vs (inS st b (some x')) n := by
  have K : Keep w w' Y Y σ σ := ⟨fun k _ hk => hother k (fun e => hk (e ▸ hm)), fun _ _ h => h, Nat.le_of_eq hsize.symm, SgLe.refl _⟩
  have own := H.own b x l hx hl
  refine ⟨RepL.keep _ K _ H.vals, ⟨?_, ?_⟩, H.next, fun k hk => by rw [hsize]; exact H.yold k hk, H.y0, H.c0, H.yshr, ?_, ?_, H.glob.keep K.none, H.fix, ?_⟩
  · intro c y h
    rw [lkS_inS] at h
    by_cases hc : b = c
    · rw [if_pos hc] at h; cases h; subst hc
      exact .inl ⟨l, hl, hnew fun p v hp => Rep.keep p K v hp⟩
    · rw [if_neg hc] at h
      rcases H.store.blk c y h with ⟨l', hl', hb⟩ | hn
      · refine .inl ⟨l', hl', BlkRep.keep K (hother _ fun e => hc ?_) Iff.rfl hb⟩
        exact (H.store.inj c b y x l' l h hx hl' hl e).symm
      · exact .inr hn
  · intro c c' y y' l1 l2 h h' h1 h2 e
    have old : ∀ d z, lkS (inS st b (some x')) d = some z → ∃ z', lkS st d = some z' := by
      intro d z hd
      rw [lkS_inS] at hd
      by_cases hc : b = d
      · subst hc; exact ⟨x, hx⟩
      · rw [if_neg hc] at hd; exact ⟨z, hd⟩
    obtain ⟨z, hz⟩ := old _ _ h
    obtain ⟨z', hz'⟩ := old _ _ h'
    exact H.store.inj c c' z z' l1 l2 hz hz' h1 h2 e
  · refine ⟨by rw [hos]; exact H.chg.os, by rw [htape]; exact H.chg.tape, by rw [hout]; exact H.chg.output, by rw [hsize]; exact H.chg.size, fun k hk hM => ?_⟩
    have hne : k ≠ l.cb := fun e => by
      subst e
      have h1 := H.away hx hl
      rcases H.yshr _ hm hk with h2 | h2
      · exact h1 h2
      · exact hM h2
    rw [hother k hne]; exact H.chg.block k hk hM
  · intro c y l' h h1
    rw [lkS_inS] at h
    by_cases hc : b = c
    · subst hc; rw [hl] at h1; cases h1; exact own
    · rw [if_neg hc] at h; exact H.own c y l' h h1
  · have back : ∀ {c r k h sz es}, OwAt (inS st b (some x')) c r k h sz es → OwAt st c r k h sz es := by
      rintro c r k h sz es ⟨sz0, rows, row, h1, h2⟩
      rw [lkS_inS] at h1
      by_cases hc : b = c
      · rw [if_pos hc] at h1; exact absurd (Option.some.inj h1) (hnar _ _)
      · rw [if_neg hc] at h1; exact ⟨sz0, rows, row, h1, h2⟩
    refine H.nest.keep K.none (fun _ _ _ _ _ _ k => back k) (fun c r k h sz es hk => hother _ (H.nest.sep _ _ _ _ _ _ _ _ _ (back hk) hx hl).symm) (fun c r k h sz es hk => (H.nest.rep _ _ _ _ _ _ (back hk)).own) fun c r k h sz es b' y l' hk hy hl' => ?_
    rw [lkS_inS] at hy
    by_cases hc : b = b'
    · subst hc; rw [hl] at hl'; cases hl'; exact H.nest.sep _ _ _ _ _ _ _ _ _ (back hk) hx hl
    · rw [if_neg hc] at hy; exact H.nest.sep _ _ _ _ _ _ _ _ _ (back hk) hy hl'

/-- a new block of the call's own, under a new name -/
theorem SW.alloc {T : Tab} {C : Ctx T} {w : World} {Y : Nat → Prop} {σ : Sg} {ps : List PV} {vs : List Value} {st : St} {n id : Nat} (H : SW C w Y σ ps vs st n) (hid : σ id = none ∧ T.pas ≤ id)
    (arr : Array Value) (ty : TypeId) (l : Loc) (hcb : l.cb = w.heap.size) (x : Blk) (hnar : ∀ sz rows, x = .nar sz rows → ∀ (r : Nat) (row : List PV) (c : Nat) (h : Hdr) (sz' : Nat) (es : List (List PV)), rows[r]? = some row → row[c]? = some (PV.ow h sz' es) → es = [])
    (hx : ∀ w' Y' σ', (∀ p v, Rep w Y σ p v → Rep w' Y' σ' p v) → Y' l.cb → w'.heap[l.cb]? = some (.cells arr ty (0, 0)) → (∀ p v, Rep w Y noSg p v → Rep w' Y' noSg p v) → BlkRep w' Y' σ' l x) :
    ∃ Y' σ', SW C (w.alloc (.cells arr ty)) Y' σ' ps vs (inS st id (some x)) (max n (id + 1)) ∧ σ' id = some l ∧ SgLe σ σ' ∧ (∀ p v, Rep w Y σ p v → Rep (w.alloc (.cells arr ty)) Y' σ' p v) ∧ Off id σ σ' := by
  have hfree := hid.1
  have heap : (w.alloc (.cells arr ty)).heap = w.heap.push (.cells arr ty) := rfl
  have hnew : (w.alloc (.cells arr ty)).heap[l.cb]? = some (.cells arr ty (0, 0)) := by rw [heap, hcb]; simp
  have hold : ∀ k, k < w.heap.size → (w.alloc (.cells arr ty)).heap[k]? = w.heap[k]? := by
    intro k hk; rw [heap, Array.getElem?_push, if_neg (by omega)]
  let Y' : Nat → Prop := fun k => Y k ∨ k = w.heap.size
  let σ' : Sg := fun b => if b = id then some l else σ b
  have hsg : SgLe σ σ' := by
    intro b m h
    show (if b = id then some l else σ b) = some m
    by_cases hb : b = id
    · subst hb; rw [hfree] at h; cases h
    · rw [if_neg hb]; exact h
  have hsz : (w.alloc (.cells arr ty)).heap.size = w.heap.size + 1 := by rw [heap]; simp
  have K : Keep w (w.alloc (.cells arr ty)) Y Y' σ σ' :=
    ⟨fun k hk _ => hold k hk, fun k hk h => h.resolve_right (by omega), by omega, hsg⟩
  refine ⟨Y', σ', ⟨RepL.keep _ K _ H.vals, ⟨?_, ?_⟩, ?_, ?_, fun k hk => .inl (H.y0 k hk), H.c0, ?_, ?_, ?_, H.glob.keep K.none, ⟨by have := H.fix.1; omega, fun b hb => by show (if b = id then some l else σ b) = _; rw [if_neg (by omega)]; exact H.fix.2 b hb⟩, ?_⟩, by simp [σ'], hsg, fun p v hp => Rep.keep p K v hp, fun b hb => by show (if b = id then some l else σ b) = _; rw [if_neg hb]⟩
  · intro c y h
    rw [lkS_inS] at h
    by_cases hc : id = c
    · rw [if_pos hc] at h; cases h; subst hc
      exact .inl ⟨l, by simp [σ'], hx _ Y' σ' (fun p v hp => Rep.keep p K v hp) (.inr hcb) hnew (fun p v hp => Rep.keep p K.none v hp)⟩
    · rw [if_neg hc] at h
      have hc' : c ≠ id := fun e => hc e.symm
      rcases H.store.blk c y h with ⟨l', hl', hb⟩ | ⟨hn, hx'⟩
      · have hlt := hb.lt
        exact .inl ⟨l', hsg _ _ hl', BlkRep.keep K (hold _ hlt) ⟨fun h => h.resolve_right (by omega), .inl⟩ hb⟩
      · exact .inr ⟨by simp [σ', hc', hn], hx'⟩
  · intro c c' y y' l1 l2 h h' h1 h2 e
    rw [lkS_inS] at h h'
    by_cases hc : id = c <;> by_cases hc' : id = c'
    · omega
    · exfalso
      rw [if_neg hc'] at h'
      subst hc
      simp [σ'] at h1; subst h1
      have h2' : σ c' = some l2 := by simpa [σ', show c' ≠ id from fun e => hc' e.symm] using h2
      rcases H.store.blk c' y' h' with ⟨l', hl', hb⟩ | ⟨hn, _⟩
      · rw [h2'] at hl'; cases hl'; have := hb.lt; omega
      · rw [h2'] at hn; cases hn
    · exfalso
      rw [if_neg hc] at h
      subst hc'
      simp [σ'] at h2; subst h2
      have h1' : σ c = some l1 := by simpa [σ', show c ≠ id from fun e => hc e.symm] using h1
      rcases H.store.blk c y h with ⟨l', hl', hb⟩ | ⟨hn, _⟩
      · rw [h1'] at hl'; cases hl'; have := hb.lt; omega
      · rw [h1'] at hn; cases hn
    · rw [if_neg hc] at h; rw [if_neg hc'] at h'
      have h1' : σ c = some l1 := by simpa [σ', show c ≠ id from fun e => hc e.symm] using h1
      have h2' : σ c' = some l2 := by simpa [σ', show c' ≠ id from fun e => hc' e.symm] using h2
      exact H.store.inj c c' y y' l1 l2 h h' h1' h2' e
  · intro b hb
    show (if b = id then some l else σ b) = none
    rw [if_neg (by omega)]; exact H.next b (by omega)
  · intro k hk
    rcases hk with hk | hk
    · have := H.yold k hk; omega
    · omega
  · intro k hk hlt
    rcases hk with hk | hk
    · exact H.yshr k hk hlt
    · have := H.chg.size; omega
  · refine ⟨H.chg.os, H.chg.tape, H.chg.output, by have := H.chg.size; omega, fun k hk hM => ?_⟩
    rw [hold k (by have := H.chg.size; omega)]; exact H.chg.block k hk hM
  · intro c y l' h h1
    rw [lkS_inS] at h
    by_cases hc : id = c
    · subst hc; simp [σ'] at h1; subst h1; rw [hcb]; exact .inl H.chg.size
    · rw [if_neg hc] at h
      exact H.own c y l' h (by simpa [σ', show c ≠ id from fun e => hc e.symm] using h1)
  · have back : ∀ {c r k h sz es}, OwAt (inS st id (some x)) c r k h sz es → OwAt st c r k h sz es := by
      rintro c r k h sz es ⟨sz0, rows, row, h1, h2, h3⟩
      rw [lkS_inS] at h1
      by_cases hc : id = c
      · rw [if_pos hc] at h1; exact absurd (hnar _ _ (Option.some.inj h1) _ _ _ _ _ _ h2 h3.1) h3.2
      · rw [if_neg hc] at h1; exact ⟨sz0, rows, row, h1, h2, h3⟩
    refine H.nest.keep K.none (fun _ _ _ _ _ _ k => back k) (fun c r k h sz es hk => hold _ (H.nest.rep _ _ _ _ _ _ (back hk)).lt) (fun c r k h sz es hk => .inl (H.nest.rep _ _ _ _ _ _ (back hk)).own) fun c r k h sz es b' y l' hk hy hl' => ?_
    have hlt := (H.nest.rep _ _ _ _ _ _ (back hk)).lt
    rw [lkS_inS] at hy
    by_cases hc : id = b'
    · subst hc; simp [σ'] at hl'; subst hl'; omega
    · rw [if_neg hc] at hy
      exact H.nest.sep _ _ _ _ _ _ _ _ _ (back hk) hy (by simpa [σ', show b' ≠ id from fun e => hc e.symm] using hl')

/-- a block is frozen for good -/
theorem SW.freeze {T : Tab} {C : Ctx T} {w : World} {Y : Nat → Prop} {σ : Sg} {ps : List PV} {vs : List Value} {st : St} {n : Nat} (H : SW C w Y σ ps vs st n) {b : Nat} {x x' : Blk}
    (hx : lkS st b = some x) (hx' : (∃ ro row, x = .var ro row ∧ x' = .var true row) ∨ (∃ ro sz rows, x = .arr ro sz rows ∧ x' = .arr true sz rows)) :
    ∃ Y', SW C w Y' σ ps vs (inS st b (some x')) n ∧ (∀ l, σ b = some l → ¬ Y' l.cb) ∧ (∀ k, Y' k → Y k) := by
  let Y' : Nat → Prop := fun k => Y k ∧ ∀ l, σ b = some l → k ≠ l.cb
  have K : Keep w w Y Y' σ σ := ⟨fun _ _ _ => rfl, fun _ _ h => h.1, Nat.le_refl _, SgLe.refl _⟩
  refine ⟨Y', ⟨RepL.keep _ K _ H.vals, ⟨?_, ?_⟩, H.next, fun k hk => H.yold k hk.1, ?_, H.c0, fun k hk => H.yshr k hk.1, H.chg, ?_, H.glob.keep K.none, H.fix, ?_⟩, fun l hl h => h.2 l hl rfl, fun _ h => h.1⟩
  · intro c y h
    rw [lkS_inS] at h
    by_cases hc : b = c
    · rw [if_pos hc] at h; cases h; subst hc
      rcases H.store.blk b x hx with ⟨l, hl, hb⟩ | ⟨hn, ro, sz, he⟩
      · refine .inl ⟨l, hl, ?_⟩
        rcases hx' with ⟨ro, row, rfl, rfl⟩ | ⟨ro, sz, rows, rfl, rfl⟩
        · unfold BlkRep at hb ⊢
          exact ⟨hb.1, hb.2.1, hb.2.2.1, RepC.keep row K (fun _ => rfl) _ hb.2.2.2.1, fun e => (by cases e), fun _ h => h.2 l hl rfl⟩
        · unfold BlkRep at hb ⊢
          exact ⟨hb.1, hb.2.1, hb.2.2.1, hb.2.2.2.1, RepR.keep rows K.none (fun _ => rfl) _ hb.2.2.2.2.1, fun e => (by cases e), fun _ h => h.2 l hl rfl⟩
      · rcases hx' with ⟨ro', row, rfl, rfl⟩ | ⟨ro', sz', rows, rfl, rfl⟩
        · cases he
        · cases he; exact .inr ⟨hn, true, sz, rfl⟩
    · rw [if_neg hc] at h
      rcases H.store.blk c y h with ⟨l', hl', hb⟩ | hn
      · refine .inl ⟨l', hl', BlkRep.keep K rfl ⟨fun h => h.1, fun h => ⟨h, fun l hl e => hc ?_⟩⟩ hb⟩
        exact (H.store.inj c b y x l' l ‹_› hx hl' hl e).symm
      · exact .inr hn
  · intro c c' y y' l1 l2 h h' h1 h2 e
    have old : ∀ d z, lkS (inS st b (some x')) d = some z → ∃ z', lkS st d = some z' := by
      intro d z hd
      rw [lkS_inS] at hd
      by_cases hc : b = d
      · subst hc; exact ⟨x, hx⟩
      · rw [if_neg hc] at hd; exact ⟨z, hd⟩
    obtain ⟨z, hz⟩ := old _ _ h
    obtain ⟨z', hz'⟩ := old _ _ h'
    exact H.store.inj c c' z z' l1 l2 hz hz' h1 h2 e
  · intro k hk
    refine ⟨H.y0 k hk, fun l hl e => ?_⟩
    exact H.away hx hl (e ▸ hk)
  · intro c y l' h h1
    rw [lkS_inS] at h
    by_cases hc : b = c
    · subst hc; exact H.own b x l' hx h1
    · rw [if_neg hc] at h; exact H.own c y l' h h1
  · have back : ∀ {c r k h sz es}, OwAt (inS st b (some x')) c r k h sz es → OwAt st c r k h sz es := by
      rintro c r k h sz es ⟨sz0, rows, row, h1, h2⟩
      rw [lkS_inS] at h1
      by_cases hc : b = c
      · rw [if_pos hc] at h1
        rcases hx' with ⟨_, _, _, e⟩ | ⟨_, _, _, _, e⟩ <;> (rw [e] at h1; cases h1)
      · rw [if_neg hc] at h1; exact ⟨sz0, rows, row, h1, h2⟩
    refine H.nest.keep K.none (fun _ _ _ _ _ _ k => back k) (fun _ _ _ _ _ _ _ => rfl) (fun c r k h sz es hk => ⟨(H.nest.rep _ _ _ _ _ _ (back hk)).own, fun l hl e => H.nest.sep _ _ _ _ _ _ _ _ _ (back hk) hx hl e.symm⟩) fun c r k h sz es b' y l' hk hy hl' => ?_
    rw [lkS_inS] at hy
    by_cases hc : b = b'
    · subst hc; exact H.nest.sep _ _ _ _ _ _ _ _ _ (back hk) hx hl'
    · rw [if_neg hc] at hy; exact H.nest.sep _ _ _ _ _ _ _ _ _ (back hk) hy hl'
end Go.Pv
