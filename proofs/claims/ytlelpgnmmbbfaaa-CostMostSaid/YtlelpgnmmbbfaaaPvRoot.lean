/-
  Pv, part 21b: an own slice laid anew as a whole block; an own slice that is read alone from now on; what is handed over or back as an own slice.
-/
import Derived.Test.YtlelpgnmmbbfaaaPvWp
namespace Go.Pv
open Go
set_option linter.all false

/-- a part of an own block, as a block of its own; the old name's block is dropped -/
theorem SW.reroot {T : Tab} {C : Ctx T} {w : World} {Y : Nat → Prop} {σ : Sg} {ps : List PV} {vs : List Value} {st : St} {n : Nat} (H : SW C w Y σ ps vs st n) {b r m sz : Nat} {rows : List (List PV)} {cv : Value}
    (hb : lkS st b = some (.arr false sz rows)) (hv : Rep w Y σ (.os b r m) cv) :
    ∃ σ', SW C w Y σ' ps vs (inS (inS st b none) n (some (.arr false sz ((rows.drop r).take m)))) (n + 1) ∧ Rep w Y σ' (.os n 0 m) cv ∧ SgLe σ σ' := by
  have hn := H.next n (Nat.le_refl _)
  have nb : b ≠ n ∨ σ b = none := by
    by_cases h : b = n
    · right; rw [h]; exact hn
    · exact .inl h
  have old : ∀ c x, lkS (inS st b none) c = some x → c ≠ b ∧ lkS st c = some x := by
    intro c x h
    rw [lkS_inS] at h
    by_cases hc : b = c
    · rw [if_pos hc] at h; cases h
    · rw [if_neg hc] at h; exact ⟨fun e => hc e.symm, h⟩
  have hv0 := hv
  unfold Rep at hv
  rcases hv with ⟨l, cap, hs, ev, hmc, htot, hnr⟩ | ⟨hm, a, ev⟩
  · let l' : Loc := ⟨l.cb, l.co + r * l.sz, l.sz, l.tot, m⟩
    let σ' : Sg := fun k => if k = n then some l' else σ k
    have hσ : ∀ k, k ≠ n → σ' k = σ k := fun k h => if_neg h
    have hσn : σ' n = some l' := if_pos rfl
    have hle : SgLe σ σ' := by
      intro k x h
      by_cases hk : k = n
      · rw [hk, hn] at h; cases h
      · rw [hσ k hk]; exact h
    have K : Keep w w Y Y σ σ' := ⟨fun _ _ _ => rfl, fun _ _ h => h, Nat.le_refl _, hle⟩
    have hbn : b ≠ n := by intro e; rw [e, hn] at hs; cases hs
    obtain ⟨lb, hlb, hB⟩ | ⟨hno, _⟩ := H.store.blk b _ hb
    · rw [hs] at hlb; cases hlb
      unfold BlkRep at hB
      obtain ⟨hat, hsz, hpos, ⟨hfit, hnrw⟩, hrows, hY1, hY2⟩ := hB
      have hlen : ((rows.drop r).take m).length = m := by rw [List.length_take, List.length_drop]; omega
      refine ⟨σ', ⟨RepL.keep _ K _ H.vals, ⟨?_, ?_⟩, ?_, H.yold, H.y0, H.c0, H.yshr, H.chg, ?_, H.glob, ⟨by have := H.fix.1; omega, ?_⟩, ?_⟩, ?_, hle⟩
      · intro c x hx
        rw [lkS_inS] at hx
        by_cases hc : n = c
        · rw [if_pos hc] at hx; cases hx; subst hc
          refine .inl ⟨l', hσn, ?_⟩
          unfold BlkRep
          refine ⟨⟨hat.blk⟩, hsz, hpos, ⟨?_, hlen⟩, ?_, hY1, fun h => by cases h⟩
          · rw [hlen]
            show l.co + r * l.sz + m * sz ≤ l.tot
            have : m * l.sz ≤ cap * l.sz := Nat.mul_le_mul_right _ hmc
            rw [← hsz] at *; omega
          · show RepR w Y noSg l.cb sz _ (l.co + r * l.sz)
            rw [hsz]
            exact RepR.take m _ _ (RepR.drop r _ _ hrows)
        · rw [if_neg hc] at hx
          obtain ⟨_, hx⟩ := old c x hx
          rcases H.store.blk c x hx with ⟨l2, h2, hB2⟩ | ⟨h2, h3⟩
          · exact .inl ⟨l2, hle _ _ h2, BlkRep.keep K rfl Iff.rfl hB2⟩
          · exact .inr ⟨by rw [hσ c (fun e => hc e.symm)]; exact h2, h3⟩
      · intro c c' x x' lc lc' hx hx' hl hl' e
        rw [lkS_inS] at hx hx'
        by_cases hc : n = c
        · by_cases hc' : n = c'
          · rw [← hc, ← hc']
          · rw [if_neg hc'] at hx'
            obtain ⟨hcb, hx'⟩ := old c' x' hx'
            subst hc
            rw [hσn] at hl; cases hl
            rw [hσ c' (fun e => hc' e.symm)] at hl'
            exact absurd (H.store.inj b c' _ x' l lc' hb hx' hs hl' e).symm hcb
        · rw [if_neg hc] at hx
          obtain ⟨hcb, hx⟩ := old c x hx
          rw [hσ c (fun e => hc e.symm)] at hl
          by_cases hc' : n = c'
          · subst hc'
            rw [hσn] at hl'; cases hl'
            exact absurd (H.store.inj c b x _ lc l hx hb hl hs e) hcb
          · rw [if_neg hc'] at hx'
            obtain ⟨_, hx'⟩ := old c' x' hx'
            rw [hσ c' (fun e => hc' e.symm)] at hl'
            exact H.store.inj c c' x x' lc lc' hx hx' hl hl' e
      · intro k hk
        rw [hσ k (by omega)]; exact H.next k (by omega)
      · intro c x lc hx hl
        rw [lkS_inS] at hx
        by_cases hc : n = c
        · subst hc
          rw [hσn] at hl; cases hl
          exact H.own b _ l hb hs
        · rw [if_neg hc] at hx
          obtain ⟨_, hx⟩ := old c x hx
          rw [hσ c (fun e => hc e.symm)] at hl
          exact H.own c x lc hx hl
      · intro k hk
        rw [hσ k (by have := H.fix.1; omega)]; exact H.fix.2 k hk
      · have ow : ∀ c rr cc h sz' es, OwAt (inS (inS st b none) n (some (.arr false sz ((rows.drop r).take m)))) c rr cc h sz' es → OwAt st c rr cc h sz' es := by
          rintro c rr cc h sz' es ⟨s0, rws, row, h1, h2⟩
          rw [lkS_inS] at h1
          by_cases hc : n = c
          · rw [if_pos hc] at h1; cases h1
          · rw [if_neg hc] at h1
            exact ⟨s0, rws, row, (old c _ h1).2, h2⟩
        refine ⟨fun _ _ _ _ _ _ h => H.nest.rep _ _ _ _ _ _ (ow _ _ _ _ _ _ h), fun _ _ _ _ _ _ h => H.nest.old _ _ _ _ _ _ (ow _ _ _ _ _ _ h), fun _ _ _ _ _ _ _ _ _ _ _ _ h h' => H.nest.one _ _ _ _ _ _ _ _ _ _ _ _ (ow _ _ _ _ _ _ h) (ow _ _ _ _ _ _ h'), ?_⟩
        intro c rr cc h sz' es c' x lc ho hx hl
        rw [lkS_inS] at hx
        by_cases hc : n = c'
        · subst hc
          rw [hσn] at hl; cases hl
          exact H.nest.sep _ _ _ _ _ _ b _ l (ow _ _ _ _ _ _ ho) hb hs
        · rw [if_neg hc] at hx
          rw [hσ c' (fun e => hc e.symm)] at hl
          exact H.nest.sep _ _ _ _ _ _ c' x lc (ow _ _ _ _ _ _ ho) (old c' x hx).2 hl
      · unfold Rep
        refine .inl ⟨l', cap, hσn, ?_, hmc, ?_, ?_⟩
        · rw [ev]; show Value.slice (some ⟨l.cb, l.co + r * l.sz, none⟩) m cap = Value.slice (some ⟨l.cb, l.co + r * l.sz + 0 * l.sz, none⟩) m cap
          rw [Nat.zero_mul, Nat.add_zero]
        · show l.co + r * l.sz + 0 * l.sz + cap * l.sz = l.tot
          rw [Nat.zero_mul, Nat.add_zero]; exact htot
        · show 0 + m ≤ m; omega
    · rw [hs] at hno; cases hno
  · subst hm
    have H1 := (H.drop b).empty (id := n) ⟨hn, H.fix.1⟩ sz
    have hm : max n (n + 1) = n + 1 := by omega
    rw [hm] at H1
    refine ⟨σ, by simpa using H1, ?_, SgLe.refl _⟩
    unfold Rep
    exact .inr ⟨rfl, a, ev⟩

/-! what is handed over or back as an own slice -/
section
variable {P : Program} {T T' : Tab} {C : Ctx T} {w : World} {ps : List PV} {vs : List Value}
theorem Keep.same {w : World} {Y : Nat → Prop} {σ σ' : Sg} (h : SgLe σ σ') : Keep w w Y Y σ σ' := ⟨fun _ _ _ => rfl, fun _ _ h => h, Nat.le_refl _, h⟩
theorem Keep.trans2 {w : World} {Y Y' Y2 : Nat → Prop} {σ σ' σ2 : Sg} (h : Keep w w Y Y' σ σ') (k : Keep w w Y' Y2 σ' σ2) : Keep w w Y Y2 σ σ2 := ⟨fun _ _ _ => rfl, fun c hc h2 => h.excl c hc (k.excl c hc h2), Nat.le_refl _, h.sg.trans k.sg⟩
theorem cvCell_sound (z : Nat × Bool) (v : PV) {Y : Nat → Prop} {σ : Sg} {st : St} {n : Nat} {cv : Value} (H : SW C w Y σ ps vs st n) (hv : Rep w Y σ v cv) :
    ∃ Y' σ', SW C w Y' σ' ps vs (cvCell (Sig.std P T') z v st n).2.1 (cvCell (Sig.std P T') z v st n).2.2 ∧ Rep w Y' σ' (cvCell (Sig.std P T') z v st n).1 cv ∧ Keep w w Y Y' σ σ' := by
  have same : ∃ Y' σ', SW C w Y' σ' ps vs st n ∧ Rep w Y' σ' v cv ∧ Keep w w Y Y' σ σ' := ⟨Y, σ, H, hv, Keep.same (SgLe.refl _)⟩
  obtain ⟨z, re⟩ := z
  cases z with
  | zero =>
    cases re with
    | false => exact same
    | true =>
      simp only [cvCell]
      split
      · rename_i v' hfr
        obtain ⟨Y', H', hY⟩ := SW.roS (callN [v] st) H
        have K : Keep w w Y Y' σ σ := ⟨fun _ _ _ => rfl, fun k _ => hY k, Nat.le_refl _, SgLe.refl _⟩
        have hfree : ∀ b x l, lkRo (roS st (callN [v] st)) b = some x → σ b = some l → ¬ Y' l.cb := by
          intro b x l h1 h2
          obtain ⟨h3, h4⟩ := lkRo_le h1
          rcases H'.store.blk b x h3 with ⟨l', hl', hB⟩ | ⟨hn, _⟩
          · rw [h2] at hl'; cases hl'; exact hB.notY h4
          · rw [h2] at hn; cases hn
        have hr := frz_sound (P := P) (T := T') (Y0 := Y') H'.store (fun b x h => (lkRo_le h).1) (fun _ h => h) hfree (fun b sz rows hb => by have := (lkRo_le hb).2; cases this) 6 v v' cv hfr (Rep.keep _ K _ hv)
        exact ⟨Y', σ, H', Rep.keep _ ⟨fun _ _ _ => rfl, fun _ _ h => h, Nat.le_refl _, fun b l h => by simp [noSg] at h⟩ _ hr, K⟩
      · exact same
  | succ z =>
    cases v with
    | sl sz es f =>
      cases f with
      | false => exact same
      | true =>
        cases es with
        | cons _ _ => exact same
        | nil =>
          have H1 := H.empty (id := n) ⟨H.next _ (Nat.le_refl _), H.fix.1⟩ (z + 1)
          have hm : max n (n + 1) = n + 1 := by omega
          rw [hm] at H1
          refine ⟨Y, σ, H1, ?_, Keep.same (SgLe.refl _)⟩
          show Rep w Y σ (.os n 0 0) cv
          unfold Rep at hv ⊢
          obtain ⟨sx, len, cap, e, hl, hc, hf, _⟩ := hv
          have hl : len = 0 := by simpa using hl
          have hc := hf rfl
          subst hl
          rw [e, hc]
          exact .inr ⟨rfl, sx, rfl⟩
    | os b r m =>
      cases re with
      | false => exact same
      | true =>
        show ∃ Y' σ', SW C w Y' σ' ps vs (cvCell (Sig.std P T') (z + 1, true) (.os b r m) st n).2.1 (cvCell (Sig.std P T') (z + 1, true) (.os b r m) st n).2.2 ∧ Rep w Y' σ' (cvCell (Sig.std P T') (z + 1, true) (.os b r m) st n).1 cv ∧ Keep w w Y Y' σ σ'
        simp only [cvCell]
        split
        · rename_i hb
          obtain ⟨σ', H1, h1, h2⟩ := H.reroot hb hv
          exact ⟨Y, σ', H1, h1, Keep.same h2⟩
        · exact same
    | _ => exact same
theorem cvCells_sound : ∀ (zs : List (Nat × Bool)) (cs : List PV) {Y : Nat → Prop} {σ : Sg} {st : St} {n : Nat} {cvs : List Value}, SW C w Y σ ps vs st n → RepL w Y σ cs cvs →
    ∃ Y' σ', SW C w Y' σ' ps vs (cvCells (Sig.std P T') zs cs st n).2.1 (cvCells (Sig.std P T') zs cs st n).2.2 ∧ RepL w Y' σ' (cvCells (Sig.std P T') zs cs st n).1 cvs ∧ Keep w w Y Y' σ σ'
  | z :: zs, v :: cs, Y, σ, st, n, cvs, H, hv => by
    unfold RepL at hv
    obtain ⟨c, cvs', rfl, h1, h2⟩ := hv
    obtain ⟨Y1, σ1, H1, h1, k1⟩ := cvCell_sound (P := P) (T' := T') z v H h1
    obtain ⟨Y2, σ2, H2, h2, k2⟩ := cvCells_sound zs cs H1 (RepL.keep cs k1 _ h2)
    exact ⟨Y2, σ2, H2, by show RepL w Y2 σ2 (_ :: _) _; unfold RepL; exact ⟨_, _, rfl, Rep.keep _ k2 _ h1, h2⟩, k1.trans2 k2⟩
  | [], cs, Y, σ, st, n, cvs, H, hv => by unfold cvCells; exact ⟨_, σ, H, hv, Keep.same (SgLe.refl _)⟩
  | z :: zs, [], Y, σ, st, n, cvs, H, hv => by unfold cvCells; exact ⟨_, σ, H, hv, Keep.same (SgLe.refl _)⟩
theorem cvOne_sound (zs : List (Nat × Bool)) (v : PV) {Y : Nat → Prop} {σ : Sg} {st : St} {n : Nat} {cv : Value} (H : SW C w Y σ ps vs st n) (hv : Rep w Y σ v cv) :
    ∃ Y' σ', SW C w Y' σ' ps vs (cvOne (Sig.std P T') zs v st n).2.1 (cvOne (Sig.std P T') zs v st n).2.2 ∧ Rep w Y' σ' (cvOne (Sig.std P T') zs v st n).1 cv ∧ Keep w w Y Y' σ σ' := by
  unfold cvOne
  split
  · rename_i cs
    unfold Rep at hv
    obtain ⟨vs', e, h⟩ := hv
    obtain ⟨Y1, σ1, H1, h1, k1⟩ := cvCells_sound (P := P) (T' := T') zs cs H h
    exact ⟨Y1, σ1, H1, by show Rep w Y1 σ1 (.agg _) _; unfold Rep; exact ⟨_, e, h1⟩, k1⟩
  · split
    · exact cvCell_sound _ _ H hv
    · exact ⟨_, σ, H, hv, Keep.same (SgLe.refl _)⟩
theorem cvOnes_sound : ∀ (own : List (List (Nat × Bool))) (cs : List PV) {Y : Nat → Prop} {σ : Sg} {st : St} {n : Nat} {cvs : List Value}, SW C w Y σ ps vs st n → RepL w Y σ cs cvs →
    ∃ Y' σ', SW C w Y' σ' ps vs (cvOnes (Sig.std P T') own cs st n).2.1 (cvOnes (Sig.std P T') own cs st n).2.2 ∧ RepL w Y' σ' (cvOnes (Sig.std P T') own cs st n).1 cvs ∧ Keep w w Y Y' σ σ'
  | z :: zs, v :: cs, Y, σ, st, n, cvs, H, hv => by
    unfold RepL at hv
    obtain ⟨c, cvs', rfl, h1, h2⟩ := hv
    obtain ⟨Y1, σ1, H1, h1, k1⟩ := cvOne_sound (P := P) (T' := T') z v H h1
    obtain ⟨Y2, σ2, H2, h2, k2⟩ := cvOnes_sound zs cs H1 (RepL.keep cs k1 _ h2)
    exact ⟨Y2, σ2, H2, by show RepL w Y2 σ2 (_ :: _) _; unfold RepL; exact ⟨_, _, rfl, Rep.keep _ k2 _ h1, h2⟩, k1.trans2 k2⟩
  | [], cs, Y, σ, st, n, cvs, H, hv => by unfold cvOnes; exact ⟨_, σ, H, hv, Keep.same (SgLe.refl _)⟩
  | z :: zs, [], Y, σ, st, n, cvs, H, hv => by unfold cvOnes; exact ⟨_, σ, H, hv, Keep.same (SgLe.refl _)⟩
theorem cvRet_sound (own : List (List (Nat × Bool))) (v : PV) {Y : Nat → Prop} {σ : Sg} {st : St} {n : Nat} {cv : Value} (H : SW C w Y σ ps vs st n) (hv : Rep w Y σ v cv) :
    ∃ Y' σ' n', SW C w Y' σ' ps vs (cvRet (Sig.std P T') own v st n).2.1 n' ∧ Rep w Y' σ' (cvRet (Sig.std P T') own v st n).1 cv := by
  unfold cvRet
  split
  · rename_i cs
    unfold Rep at hv
    obtain ⟨vs', e, h⟩ := hv
    obtain ⟨Y1, σ1, H1, h1, _⟩ := cvOnes_sound (P := P) (T' := T') own cs H h
    exact ⟨Y1, σ1, _, H1, by show Rep w Y1 σ1 (.tup _) _; unfold Rep; exact ⟨_, e, h1⟩⟩
  · split
    · obtain ⟨Y1, σ1, H1, h1, _⟩ := cvOne_sound (P := P) (T' := T') _ _ H hv
      exact ⟨Y1, σ1, _, H1, h1⟩
    · exact ⟨Y, σ, _, H, hv⟩
end
end Go.Pv
