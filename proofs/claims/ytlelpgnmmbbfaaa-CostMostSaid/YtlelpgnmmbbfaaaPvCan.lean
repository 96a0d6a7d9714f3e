/-
  Pv, part 18a: names laid anew; calls to which blocks are handed over.
-/
import Derived.Test.YtlelpgnmmbbfaaaPvFrz
namespace Go.Pv
open Go
set_option linter.all false

/-! ### the lists of names, in Lean's words -/
theorem hasN_iff : ∀ (l : List Nat) (c : Nat), hasN l c = true ↔ c ∈ l
  | [], c => by simp [hasN]
  | b :: l, c => by
    simp only [hasN]
    by_cases h : b = c
    · subst h; simp
    · rw [beqN h]; simp only [cond_false, hasN_iff l c, List.mem_cons]
      constructor
      · intro hh; exact .inr hh
      · rintro (hh | hh)
        · exact absurd hh.symm h
        · exact hh
theorem snocN_eq : ∀ (l : List Nat) (c : Nat), snocN l c = l ++ [c]
  | [], c => rfl
  | b :: l, c => by simp [snocN, snocN_eq l c]
theorem lenNs_eq : ∀ l : List Nat, lenNs l = l.length
  | [] => rfl
  | _ :: l => by simp [lenNs, lenNs_eq l]
theorem getNs_eq : ∀ (l : List Nat) (i : Nat), getNs l i = l[i]?
  | [], i => by simp [getNs]
  | b :: l, 0 => by simp [getNs]
  | b :: l, i + 1 => by simp [getNs, getNs_eq l i]
theorem appN_eq : ∀ l m : List Nat, appN l m = l ++ m
  | [], m => rfl
  | b :: l, m => by simp [appN, appN_eq l m]
theorem upN_get : ∀ (n i j : Nat), (upN i n)[j]? = if j < n then some (i + j) else none
  | 0, i, j => by simp [upN]
  | n + 1, i, 0 => by simp [upN]
  | n + 1, i, j + 1 => by
    simp only [upN, List.getElem?_cons_succ, upN_get n (i + 1) j]
    by_cases h : j < n
    · rw [if_pos h, if_pos (by omega)]; congr 1; omega
    · rw [if_neg h, if_neg (by omega)]
theorem upN_len : ∀ (n i : Nat), (upN i n).length = n
  | 0, i => rfl
  | n + 1, i => by simp [upN, upN_len n (i + 1)]
theorem upN_mem {n i b : Nat} (h : b ∈ upN i n) : i ≤ b ∧ b < i + n := by
  obtain ⟨j, hj⟩ := List.getElem?_of_mem h
  rw [upN_get] at hj
  split at hj
  · cases hj; omega
  · cases hj
theorem upN_nodup : ∀ (n i : Nat), (upN i n).Nodup
  | 0, i => by simp [upN]
  | n + 1, i => by
    simp only [upN, List.nodup_cons]
    exact ⟨fun h => by have := upN_mem h; omega, upN_nodup n (i + 1)⟩
theorem nodN_nodup : ∀ l : List Nat, nodN l = true → l.Nodup
  | [], _ => by simp
  | b :: l, h => by
    simp only [nodN] at h
    cases hb : hasN l b with
    | true => rw [hb] at h; cases h
    | false =>
      rw [hb] at h
      rw [List.nodup_cons]
      exact And.intro (fun hm => by rw [(hasN_iff l b).2 hm] at hb; cases hb) (nodN_nodup l h)
theorem ixN_get : ∀ (l : List Nat) (b i : Nat), ixN l b = some i → l[i]? = some b
  | [], b, i, h => by simp [ixN] at h
  | c :: l, b, i, h => by
    simp only [ixN] at h
    by_cases hc : c = b
    · subst hc; simp at h; subst h; simp
    · rw [beqN hc] at h
      simp only [cond_false] at h
      split at h
      · rename_i j hj; cases h; simpa using ixN_get l b j hj
      · cases h
theorem mapV_eq (f : PV → PV) : ∀ l, mapV f l = l.map f
  | [] => rfl
  | x :: l => by simp [mapV, mapV_eq f l]
theorem nodup_get {l : List Nat} (h : l.Nodup) {i j b : Nat} (hi : l[i]? = some b) (hj : l[j]? = some b) : i = j := by
  have h1 : i < l.length := by
    by_cases hh : i < l.length
    · exact hh
    · rw [List.getElem?_eq_none (Nat.le_of_not_lt hh)] at hi; cases hi
  exact (List.getElem?_inj h1 h).1 (by rw [hi, hj])

theorem foldN_ok {f : List Nat → PV → List Nat} (hf : ∀ acc v, acc.Nodup → (f acc v).Nodup ∧ ∃ s, f acc v = acc ++ s) : ∀ (vs : List PV) (acc : List Nat), acc.Nodup → (foldN f acc vs).Nodup ∧ ∃ s, foldN f acc vs = acc ++ s
  | [], acc, h => ⟨h, [], by simp [foldN]⟩
  | v :: vs, acc, h => by
    obtain ⟨h1, s, h2⟩ := hf acc v h
    obtain ⟨h3, s', h4⟩ := foldN_ok hf vs (f acc v) h1
    exact ⟨h3, s ++ s', by simp only [foldN]; rw [h4, h2, List.append_assoc]⟩
theorem namV_ok (st : St) : ∀ (d : Nat) (acc : List Nat) (v : PV), acc.Nodup → (namV st d acc v).Nodup ∧ ∃ s, namV st d acc v = acc ++ s
  | 0, acc, v, h => ⟨h, [], by simp [namV]⟩
  | d + 1, acc, v, h => by
    have fold := fun (vs : List PV) (acc : List Nat) (h : acc.Nodup) => foldN_ok (f := namV st d) (fun acc v => namV_ok st d acc v) vs acc h
    have one : ∀ b, (bif hasN acc b then acc else snocN acc b).Nodup ∧ ∃ s, (bif hasN acc b then acc else snocN acc b) = acc ++ s := by
      intro b
      cases hb : hasN acc b with
      | true => exact ⟨h, [], by simp⟩
      | false =>
        simp only [cond_false, snocN_eq]
        exact ⟨by rw [List.nodup_append]; exact ⟨h, by simp, fun a ha c hc => by simp at hc; subst hc; intro e; subst e; rw [(hasN_iff acc a).2 ha] at hb; cases hb⟩, [b], rfl⟩
    unfold namV
    split
    · exact one _
    · exact one _
    · exact one _
    · exact one _
    · rename_i b c
      have h1 := one b
      cases hb : hasN acc b with
      | true => exact ⟨h, [], by simp⟩
      | false =>
        rw [hb] at h1
        simp only [cond_false] at h1 ⊢
        split
        · rename_i row _
          obtain ⟨h2, s, h3⟩ := fold row _ h1.1
          obtain ⟨_, s', h4⟩ := h1
          exact ⟨h2, s' ++ s, by rw [h3, h4, List.append_assoc]⟩
        · exact h1
    · exact fold _ _ h
    · exact fold _ _ h
    · exact fold _ _ h
    · exact ⟨h, [], by simp⟩
theorem rowsN_ok (st : St) : ∀ (l acc : List Nat), acc.Nodup → (rowsN st acc l).Nodup ∧ ∃ s, rowsN st acc l = acc ++ s
  | [], acc, h => ⟨h, [], by simp [rowsN]⟩
  | b :: l, acc, h => by
    unfold rowsN
    split
    · rename_i ro row _
      obtain ⟨h1, s, h2⟩ := foldN_ok (f := namV st 8) (fun acc v => namV_ok st 8 acc v) row acc h
      obtain ⟨h3, s', h4⟩ := rowsN_ok st l _ h1
      exact ⟨h3, s ++ s', by rw [h4, h2, List.append_assoc]⟩
    · exact rowsN_ok st l acc h
theorem seenN_ok (m : Nat) (st : St) (vs : List PV) : (seenN m st vs).Nodup ∧ (∀ i, i < m → (seenN m st vs)[i]? = some i) ∧ m ≤ (seenN m st vs).length := by
  obtain ⟨h1, s, h2⟩ := rowsN_ok st (upN 0 m) (upN 0 m) (upN_nodup m 0)
  obtain ⟨h3, s', h4⟩ := foldN_ok (f := namV st 8) (fun acc v => namV_ok st 8 acc v) vs _ h1
  have e : seenN m st vs = upN 0 m ++ (s ++ s') := by unfold seenN; rw [h4, h2, List.append_assoc]
  refine ⟨h3, fun i hi => ?_, ?_⟩
  · rw [e, List.getElem?_append_left (by rw [upN_len]; exact hi), upN_get, if_pos hi]; simp
  · rw [e, List.length_append, upN_len]; omega

/-! ### values under other names -/
theorem RepL.map {w : World} {Y : Nat → Prop} {σ σ' : Sg} {f : PV → PV} (hf : ∀ p v, Rep w Y σ p v → Rep w Y σ' (f p) v) : ∀ (ps : List PV) (vs : List Value), RepL w Y σ ps vs → RepL w Y σ' (ps.map f) vs
  | [], vs, h => by unfold RepL at h; subst h; simp [RepL]
  | p :: ps, vs, h => by
    unfold RepL at h; obtain ⟨v, vs', rfl, h1, h2⟩ := h
    simp only [List.map_cons]; unfold RepL; exact ⟨v, vs', rfl, hf _ _ h1, RepL.map hf ps vs' h2⟩
theorem RepC.map {w : World} {Y : Nat → Prop} {σ σ' : Sg} {b : Nat} {f : PV → PV} (hf : ∀ p v, Rep w Y σ p v → Rep w Y σ' (f p) v) : ∀ (ps : List PV) (o : Nat), RepC w Y σ b ps o → RepC w Y σ' b (ps.map f) o
  | [], o, h => by simp [RepC]
  | p :: ps, o, h => by
    unfold RepC at h; obtain ⟨⟨v, hc, h1⟩, h2⟩ := h
    simp only [List.map_cons]; unfold RepC; exact ⟨⟨v, hc, hf _ _ h1⟩, RepC.map hf ps (o + 1) h2⟩
theorem renV_sound {w : World} {Y : Nat → Prop} {σ σ' : Sg} {f : Nat → Option Nat} (hf : ∀ b i l, f b = some i → σ b = some l → σ' i = some l) : ∀ (d : Nat) (p : PV) (v : Value), Rep w Y σ p v → Rep w Y σ' (renV f d p) v
  | 0, p, v, _ => by simp [renV, Rep]
  | d + 1, p, v, h => by
    have ih := renV_sound (w := w) (Y := Y) hf d
    unfold renV
    cases p
    case os b r n =>
      simp only
      cases e : f b with
      | none => simp [Rep]
      | some i =>
        unfold Rep at h ⊢
        rcases h with ⟨l, cap, hl, h⟩ | h
        · exact .inl ⟨l, cap, hf _ _ _ e hl, h⟩
        · exact .inr h
    case lv b c =>
      simp only
      cases e : f b with
      | none => simp [Rep]
      | some i => unfold Rep at h ⊢; obtain ⟨l, hl, h⟩ := h; exact ⟨l, hf _ _ _ e hl, h⟩
    case lp b r c =>
      simp only
      cases e : f b with
      | none => simp [Rep]
      | some i => unfold Rep at h ⊢; obtain ⟨l, hl, h⟩ := h; exact ⟨l, hf _ _ _ e hl, h⟩
    case bo b r c hd sz n =>
      simp only
      cases e : f b with
      | none => simp [Rep]
      | some i => unfold Rep at h ⊢; exact h
    case np b r c hd sz j k =>
      simp only
      cases e : f b with
      | none => simp [Rep]
      | some i => unfold Rep at h ⊢; exact h
    case agg cs => simp only [mapV_eq]; unfold Rep at h ⊢; obtain ⟨vs, e, h⟩ := h; exact ⟨vs, e, h.map ih⟩
    case tup cs => simp only [mapV_eq]; unfold Rep at h ⊢; obtain ⟨vs, e, h⟩ := h; exact ⟨vs, e, h.map ih⟩
    case fn k cs => simp only [mapV_eq]; unfold Rep at h ⊢; obtain ⟨vs, e, h⟩ := h; exact ⟨vs, e, h.map ih⟩
    all_goals (simp only; unfold Rep at h ⊢; exact h)
theorem renB_sound {w : World} {Y : Nat → Prop} {σ σ' : Sg} {f : Nat → Option Nat} (hf : ∀ b i l, f b = some i → σ b = some l → σ' i = some l) {l : Loc} {x y : Blk} (hx : renB f (some x) = some y) (h : BlkRep w Y σ l x) : BlkRep w Y σ' l y := by
  cases x with
  | var ro row =>
    simp only [renB, Option.some.injEq] at hx; subst hx
    unfold BlkRep at h ⊢
    rw [mapV_eq]
    obtain ⟨h1, h2, h3, h4, h5⟩ := h
    exact ⟨h1, by simpa using h2, by simpa using h3, h4.map (renV_sound hf 8) _ _, h5⟩
  | arr ro sz rows =>
    simp only [renB, Option.some.injEq] at hx; subst hx
    unfold BlkRep at h ⊢; exact h
  | nar sz rows =>
    simp only [renB, Option.some.injEq] at hx; subst hx
    unfold BlkRep at h ⊢; exact h
theorem renB_nar {f : Nat → Option Nat} {x : Blk} {sz : Nat} {rows : List (List PV)} (h : renB f (some x) = some (.nar sz rows)) : x = .nar sz rows := by
  cases x with
  | var ro row => simp [renB] at h
  | arr ro s rs => simp [renB] at h
  | nar s rs => simpa [renB] using h
theorem renB_arr {f : Nat → Option Nat} {ro : Bool} {sz : Nat} : ∀ {x y : Blk}, renB f (some x) = some y → x = .arr ro sz [] → y = .arr ro sz [] := by
  intro x y h e; subst e; simp [renB] at h; exact h.symm
theorem renB_some {f : Nat → Option Nat} {o : Option Blk} {y : Blk} (h : renB f o = some y) : ∃ x, o = some x := by
  cases o with
  | none => simp [renB] at h
  | some x => exact ⟨x, rfl⟩

theorem lkS_renS (f : Nat → Option Nat) (st : St) : ∀ (ρ : List Nat) (i j : Nat), lkS (renS f st i ρ) j = if i ≤ j then (match ρ[j - i]? with | some b => renB f (lkS st b) | none => none) else none
  | [], i, j => by simp [renS, lkS]
  | b :: ρ, i, j => by
    simp only [renS, lkS]
    by_cases h : i = j
    · subst h; simp
    · rw [beqN h]
      simp only [cond_false, lkS_renS f st ρ (i + 1) j]
      by_cases h2 : i ≤ j
      · rw [if_pos h2, if_pos (by omega), show j - i = (j - (i + 1)) + 1 by omega]; simp
      · rw [if_neg h2, if_neg (by omega)]

/-- the same state, under other names -/
theorem SW.canR {T : Tab} {C : Ctx T} {w : World} {Y : Nat → Prop} {σ : Sg} {ps : List PV} {vs : List Value} {st : St} {n : Nat} (H : SW C w Y σ ps vs st n) {ρ : List Nat} (hnd : ρ.Nodup) (hpre : ∀ i, i < T.pas → ρ[i]? = some i) (hlen : T.pas ≤ ρ.length) :
    ∃ σ', SW C w Y σ' (mapV (renV (ixN ρ) 8) ps) vs (renS (ixN ρ) st 0 ρ) (lenNs ρ) ∧ ∀ p v d, Rep w Y σ p v → Rep w Y σ' (renV (ixN ρ) d p) v := by
  let σ' : Sg := fun i => match ρ[i]? with | some b => σ b | none => none
  have hf : ∀ b i l, ixN ρ b = some i → σ b = some l → σ' i = some l := by
    intro b i l h1 h2
    show (match ρ[i]? with | some b => σ b | none => none) = some l
    rw [ixN_get _ _ _ h1]; exact h2
  have look : ∀ i x, lkS (renS (ixN ρ) st 0 ρ) i = some x → ∃ b y, ρ[i]? = some b ∧ lkS st b = some y ∧ renB (ixN ρ) (some y) = some x ∧ σ' i = σ b := by
    intro i x hx
    rw [lkS_renS, if_pos (Nat.zero_le _), Nat.sub_zero] at hx
    split at hx
    · rename_i b hb
      obtain ⟨y, hy⟩ := renB_some hx
      rw [hy] at hx
      refine ⟨b, y, hb, hy, hx, ?_⟩
      show (match ρ[i]? with | some b => σ b | none => none) = _
      rw [hb]
    · cases hx
  refine ⟨σ', ⟨by rw [mapV_eq]; exact H.vals.map (renV_sound hf 8), ⟨fun i x hx => ?_, fun i i' x x' l l' hx hx' hl hl' e => ?_⟩, fun i hi => ?_, H.yold, H.y0, H.c0, H.yshr, H.chg, fun i x l hx hl => ?_, H.glob, ?_, ?_⟩, fun p v d h => renV_sound hf d p v h⟩
  · obtain ⟨b, y, h1, h2, h3, h4⟩ := look i x hx
    rcases H.store.blk b y h2 with ⟨l, hl, hB⟩ | ⟨hn, ro, sz, hy⟩
    · exact .inl ⟨l, by rw [h4]; exact hl, renB_sound hf h3 hB⟩
    · exact .inr ⟨by rw [h4]; exact hn, ro, sz, renB_arr h3 hy⟩
  · obtain ⟨b, y, h1, h2, h3, h4⟩ := look i x hx
    obtain ⟨b', y', h1', h2', h3', h4'⟩ := look i' x' hx'
    rw [h4] at hl; rw [h4'] at hl'
    have := H.store.inj b b' y y' l l' h2 h2' hl hl' e
    subst this
    exact nodup_get hnd h1 h1'
  · show (match ρ[i]? with | some b => σ b | none => none) = none
    rw [List.getElem?_eq_none (by rw [lenNs_eq] at hi; exact hi)]
  · obtain ⟨b, y, h1, h2, h3, h4⟩ := look i x hx
    rw [h4] at hl
    exact H.own b y l h2 hl
  · refine ⟨by rw [lenNs_eq]; exact hlen, fun b hb => ?_⟩
    show (match ρ[b]? with | some b => σ b | none => none) = _
    rw [hpre b hb]; exact H.fix.2 b hb
  · have ow : ∀ {i r c h sz es}, OwAt (renS (ixN ρ) st 0 ρ) i r c h sz es → ∃ b, ρ[i]? = some b ∧ OwAt st b r c h sz es := by
      rintro i r c h sz es ⟨sz0, rows, row, h1, h2⟩
      obtain ⟨b, y, g1, g2, g3, _⟩ := look i _ h1
      have := renB_nar g3
      subst this
      exact ⟨b, g1, sz0, rows, row, g2, h2⟩
    refine ⟨fun i r c h sz es hk => ?_, fun i r c h sz es hk => ?_, fun i r c h sz es i' r' c' h' sz' es' hk hk' e => ?_, fun i r c h sz es i' x l hk hx hl => ?_⟩
    · obtain ⟨b, _, hb⟩ := ow hk; exact H.nest.rep _ _ _ _ _ _ hb
    · obtain ⟨b, _, hb⟩ := ow hk; exact H.nest.old _ _ _ _ _ _ hb
    · obtain ⟨b, h1, hb⟩ := ow hk
      obtain ⟨b', h1', hb'⟩ := ow hk'
      obtain ⟨e1, e2, e3⟩ := H.nest.one _ _ _ _ _ _ _ _ _ _ _ _ hb hb' e
      subst e1
      exact ⟨nodup_get hnd h1 h1', e2, e3⟩
    · obtain ⟨b, _, hb⟩ := ow hk
      obtain ⟨b', y, _, g2, _, g4⟩ := look i' x hx
      rw [g4] at hl
      exact H.nest.sep _ _ _ _ _ _ _ _ _ hb g2 hl

theorem maskL_rep {w : World} {Y : Nat → Prop} {σ : Sg} : ∀ (ps : List PV) (keep : List Nat) (i : Nat) (vs : List Value), RepL w Y σ ps vs → RepL w Y σ (maskL keep i ps) vs
  | [], keep, i, vs, h => by simpa [maskL] using h
  | p :: ps, [], i, vs, h => by
    unfold RepL at h; obtain ⟨v, vs', rfl, h1, h2⟩ := h
    simp only [maskL]; unfold RepL; exact ⟨v, vs', rfl, by simp [Rep], maskL_rep ps [] _ vs' h2⟩
  | p :: ps, k :: ks, i, vs, h => by
    unfold RepL at h; obtain ⟨v, vs', rfl, h1, h2⟩ := h
    simp only [maskL]
    cases Nat.beq k i with
    | true => simp only [cond_true]; unfold RepL; exact ⟨v, vs', rfl, h1, maskL_rep ps ks _ vs' h2⟩
    | false => simp only [cond_false]; unfold RepL; exact ⟨v, vs', rfl, by simp [Rep], maskL_rep ps (k :: ks) _ vs' h2⟩
/-- the canonical form -/
theorem ent_canE {T : Tab} (keep : List Nat) (E : Env) : Ent T E (canE T.pas keep E) := by
  intro C a w hA
  obtain ⟨⟨Y, σ, H⟩, hd⟩ := hA
  have H1 := H.vals' (maskL_rep _ keep 0 _ H.vals)
  obtain ⟨h1, h2, h3⟩ := seenN_ok T.pas E.st (maskL keep 0 E.tmps)
  obtain ⟨σ', H2, _⟩ := H1.canR h1 h2 h3
  exact ⟨⟨Y, σ', H2⟩, hd⟩

/-! ### a call to which blocks are handed over -/
theorem lkS_bakO (f : Nat → Option Nat) (st1 : St) : ∀ (τ : List Nat) (i : Nat) (st : St) (b : Nat), τ.Nodup → (∀ j, τ[j]? = some b → lkS (bakO f st1 i τ st) b = renB f (lkS st1 (i + j))) ∧ (b ∉ τ → lkS (bakO f st1 i τ st) b = lkS st b)
  | [], i, st, b, _ => ⟨fun j h => by simp at h, fun _ => rfl⟩
  | c :: τ, i, st, b, h => by
    rw [List.nodup_cons] at h
    obtain ⟨h1, h2⟩ := lkS_bakO f st1 τ (i + 1) (inS st c (renB f (lkS st1 i))) b h.2
    simp only [bakO]
    refine ⟨fun j hj => ?_, fun hb => ?_⟩
    · cases j with
      | zero =>
        simp at hj; subst hj
        rw [h2 h.1, lkS_inS, if_pos rfl]; rfl
      | succ j =>
        rw [h1 j (by simpa using hj)]; congr 2; omega
    · simp only [List.mem_cons, not_or] at hb
      rw [h2 hb.2, lkS_inS, if_neg fun e => hb.1 e.symm]

theorem ltN_spec {n : Nat} : ∀ l, ltN n l = true → ∀ b ∈ l, b < n
  | [], _, b, h => by cases h
  | c :: l, h, b, hb => by
    simp only [ltN, Bool.and_eq_true, Nat.blt_eq] at h
    rcases List.mem_cons.1 hb with rfl | hb
    · exact h.1
    · exact ltN_spec l h.2 b hb

theorem call_W {P : Program} {T : Tab} {C : Ctx T} {w : World} {Y : Nat → Prop} {σ : Sg} {E : Env} {vs : List Value} {n0 N : Nat} (H : SW C w Y σ E.tmps vs E.st n0) {k : Nat} {args : List PV} {cargs : List Value} {ρ : List Nat} {v : PV} {st1 : St} {n1 : Nat}
    (hnd : nodN ρ = true) (hlt : ltN E.next ρ = true) (hnn : noNar (renS (ixN ρ) E.st 0 ρ) = true) (hid : T.pas ≤ E.next) (hwin : ∀ b, E.next ≤ b → b < E.next + (n1 - lenNs ρ) → σ b = none) (hN : E.next + (n1 - lenNs ρ) ≤ N ∧ n0 ≤ N) (hr : RepL w Y σ args cargs)
    (hF : FnS P T.gl k (mapV (renV (ixN ρ) 8) args) (renS (ixN ρ) E.st 0 ρ) (lenNs ρ) (fun u st n => u = v ∧ st = st1 ∧ n = n1)) :
    (callFunc k cargs.toArray).run P w = .ok (.enter k cargs.toArray) w ∧
    Calls P k cargs.toArray w fun e w' => ∃ cv Y' σ', e = .returned cv ∧ SW C w' Y' σ' E.tmps vs (bakE ρ E st1 n1).st N ∧ Rep w' Y' σ' (renV (bakN ρ E.next) 8 v) cv ∧ ∀ b, (b < E.next ∨ n1 ≤ lenNs ρ + (b - E.next)) → σ' b = σ b := by
  have hnd := nodN_nodup _ hnd
  have hlt := ltN_spec _ hlt
  let σc : Sg := fun i => match ρ[i]? with | some b => σ b | none => none
  have hσc : ∀ i b, ρ[i]? = some b → σc i = σ b := by
    intro i b h
    show (match ρ[i]? with | some b => σ b | none => none) = _
    rw [h]
  have hf : ∀ b i l, ixN ρ b = some i → σ b = some l → σc i = some l := by
    intro b i l h1 h2
    rw [hσc _ _ (ixN_get _ _ _ h1)]; exact h2
  have look : ∀ i x, lkS (renS (ixN ρ) E.st 0 ρ) i = some x → ∃ b y, ρ[i]? = some b ∧ lkS E.st b = some y ∧ renB (ixN ρ) (some y) = some x ∧ σc i = σ b := by
    intro i x hx
    rw [lkS_renS, if_pos (Nat.zero_le _), Nat.sub_zero] at hx
    split at hx
    · rename_i b hb
      obtain ⟨y, hy⟩ := renB_some hx
      rw [hy] at hx
      exact ⟨b, y, hb, hy, hx, hσc _ _ hb⟩
    · cases hx
  have hst0 : StRep w Y σc (renS (ixN ρ) E.st 0 ρ) := by
    refine ⟨fun i x hx => ?_, fun i i' x x' l l' hx hx' hl hl' e => ?_⟩
    · obtain ⟨b, y, h1, h2, h3, h4⟩ := look i x hx
      rcases H.store.blk b y h2 with ⟨l, hl, hB⟩ | ⟨hn, ro, sz, hy⟩
      · exact .inl ⟨l, by rw [h4]; exact hl, renB_sound hf h3 hB⟩
      · exact .inr ⟨by rw [h4]; exact hn, ro, sz, renB_arr h3 hy⟩
    · obtain ⟨b, y, h1, h2, h3, h4⟩ := look i x hx
      obtain ⟨b', y', h1', h2', h3', h4'⟩ := look i' x' hx'
      rw [h4] at hl; rw [h4'] at hl'
      have := H.store.inj b b' y y' l l' h2 h2' hl hl' e
      subst this
      exact nodup_get hnd h1 h1'
  have hnext : ∀ b, lenNs ρ ≤ b → σc b = none := by
    intro i hi
    show (match ρ[i]? with | some b => σ b | none => none) = none
    rw [List.getElem?_eq_none (by rw [lenNs_eq] at hi; exact hi)]
  -- a block of the store that is handed over has its name in the list
  have inst : ∀ k, InSt σc (renS (ixN ρ) E.st 0 ρ) k → ∃ b y l, b ∈ ρ ∧ lkS E.st b = some y ∧ σ b = some l ∧ l.cb = k := by
    rintro k ⟨i, x, l, hx, hl, rfl⟩
    obtain ⟨b, y, h1, h2, h3, h4⟩ := look i x hx
    exact ⟨b, y, l, List.mem_of_getElem? h1, h2, by rw [← h4]; exact hl, rfl⟩
  obtain ⟨hent, hcall⟩ := hF w Y σc cargs H.glob H.yold hnext (by rw [mapV_eq]; exact hr.map (renV_sound hf 8)) hst0 hnn
  refine ⟨hent, Calls.mono hcall fun e w' hh => ?_⟩
  obtain ⟨cv, u, st', n', Y', σ', rfl, ⟨rfl, rfl, rfl⟩, H'⟩ := hh
  have hm : lenNs ρ ≤ n' := H'.fix.1
  have hfix : ∀ i, i < lenNs ρ → σ' i = σc i := H'.fix.2
  have hlen := lenNs_eq ρ
  let σn : Sg := fun b => if b < E.next ∨ n' ≤ lenNs ρ + (b - E.next) then σ b else σ' (lenNs ρ + (b - E.next))
  have hout : ∀ b, (b < E.next ∨ n' ≤ lenNs ρ + (b - E.next)) → σn b = σ b := fun b h => by
    show (if _ then σ b else _) = _
    rw [if_pos h]
  have hbak : ∀ i b, i < n' → bakN ρ E.next i = some b → σn b = σ' i := by
    intro i b hin h
    unfold bakN at h
    rw [getNs_eq] at h
    split at h
    · rename_i c hc
      have hcb := Option.some.inj h
      subst hcb
      have hi : i < lenNs ρ := by
        rw [hlen]
        by_cases hh : i < ρ.length
        · exact hh
        · rw [List.getElem?_eq_none (Nat.le_of_not_lt hh)] at hc; cases hc
      rw [hout c (.inl (hlt c (List.mem_of_getElem? hc))), hfix i hi, hσc i c hc]
    · rename_i hc
      cases h
      have hi : lenNs ρ ≤ i := by
        rw [hlen]
        by_cases hh : i < ρ.length
        · rw [List.getElem?_eq_getElem hh] at hc; cases hc
        · omega
      show (if _ then _ else σ' _) = _
      rw [if_neg (by omega)]; congr 1; omega
  have hin' : ∀ i l, σ' i = some l → i < n' := fun i l h => by
    by_cases hh : i < n'
    · exact hh
    · rw [H'.next i (by omega)] at h; cases h
  have hfb : ∀ i b l, bakN ρ E.next i = some b → σ' i = some l → σn b = some l := fun i b l h1 h2 => by rw [hbak i b (hin' i l h2) h1]; exact h2
  have excl : ∀ k, k < w.heap.size → Y' k → Y k := by
    intro k hk hy
    rcases H'.yshr k hy hk with h | h
    · exact h.1
    · exact h.1
  have K : Keep w w' Y Y' σ σn := by
    refine ⟨fun k hk hy => H'.chg.block k hk fun h => hy h.1, excl, H'.chg.size, fun b l hl => ?_⟩
    rw [hout b ?_]; · exact hl
    by_cases hh : b < E.next ∨ n' ≤ lenNs ρ + (b - E.next)
    · exact hh
    · rw [hwin b (by omega) (by omega)] at hl; cases hl
  -- the store
  have hτ : (ρ ++ upN E.next (n' - lenNs ρ)).Nodup := by
    rw [List.nodup_append]
    refine ⟨hnd, upN_nodup _ _, fun a ha b hb e => ?_⟩
    have := hlt a ha
    have := (upN_mem hb).1
    omega
  have hτi : ∀ i b, (ρ ++ upN E.next (n' - lenNs ρ))[i]? = some b → bakN ρ E.next i = some b := by
    intro i b h
    unfold bakN
    rw [getNs_eq]
    by_cases hh : i < ρ.length
    · rw [List.getElem?_append_left hh] at h; rw [h]
    · rw [List.getElem?_append_right (by omega), upN_get] at h
      rw [List.getElem?_eq_none (by omega)]
      split at h
      · cases h; rw [hlen]
      · cases h
  have hnot : ∀ b, b ∉ (ρ ++ upN E.next (n' - lenNs ρ)) → b ∉ ρ ∧ (b < E.next ∨ n' ≤ lenNs ρ + (b - E.next)) := by
    intro b hb
    rw [List.mem_append, not_or] at hb
    refine ⟨hb.1, ?_⟩
    by_cases h1 : b < E.next
    · exact .inl h1
    · refine .inr ?_
      by_cases h2 : b - E.next < n' - lenNs ρ
      · exact absurd (List.mem_of_getElem? (i := b - E.next) (by rw [upN_get, if_pos h2]; congr 1; omega)) hb.2
      · omega
  have lk : ∀ b x, lkS (bakE ρ E st' n').st b = some x → (∃ i y, bakN ρ E.next i = some b ∧ lkS st' i = some y ∧ renB (bakN ρ E.next) (some y) = some x ∧ σn b = σ' i) ∨
      (b ∉ ρ ∧ (b < E.next ∨ n' ≤ lenNs ρ + (b - E.next)) ∧ lkS E.st b = some x) := by
    intro b x hx
    simp only [bakE, appN_eq] at hx
    obtain ⟨h1, h2⟩ := lkS_bakO (bakN ρ E.next) st' (ρ ++ upN E.next (n' - lenNs ρ)) 0 E.st b hτ
    by_cases hb : b ∈ ρ ++ upN E.next (n' - lenNs ρ)
    · obtain ⟨i, hi⟩ := List.getElem?_of_mem hb
      rw [h1 i hi, Nat.zero_add] at hx
      obtain ⟨y, hy⟩ := renB_some hx
      rw [hy] at hx
      have hil : i < n' := by
        have hl : i < (ρ ++ upN E.next (n' - lenNs ρ)).length := by
          by_cases hh : i < (ρ ++ upN E.next (n' - lenNs ρ)).length
          · exact hh
          · rw [List.getElem?_eq_none (Nat.le_of_not_lt hh)] at hi; cases hi
        rw [List.length_append, upN_len] at hl; omega
      exact .inl ⟨i, y, hτi i b hi, hy, hx, hbak i b hil (hτi i b hi)⟩
    · rw [h2 hb] at hx
      exact .inr ⟨(hnot b hb).1, (hnot b hb).2, hx⟩
  have nin : ∀ b x l, b ∉ ρ → lkS E.st b = some x → σ b = some l → ¬ InSt σc (renS (ixN ρ) E.st 0 ρ) l.cb := by
    intro b x l hb hx hl hi
    obtain ⟨b', y, l', h1, h2, h3, h4⟩ := inst _ hi
    have := H.store.inj b' b y x l' l h2 hx h3 hl h4
    subst this; exact hb h1
  have getσ : ∀ b l, (b < E.next ∨ n' ≤ lenNs ρ + (b - E.next)) → σn b = some l → σ b = some l := by
    intro b l h6 hl
    rw [hout b h6] at hl; exact hl
  have owc : ∀ {b r c h sz es}, OwAt (bakE ρ E st' n').st b r c h sz es → (∃ i, bakN ρ E.next i = some b ∧ OwAt st' i r c h sz es) ∨ OwAt E.st b r c h sz es := by
    rintro b r c h sz es ⟨sz0, rows, row, h1, h2⟩
    rcases lk b _ h1 with ⟨i, y, g1, g2, g3, _⟩ | ⟨_, _, g3⟩
    · have := renB_nar g3
      subst this
      exact .inl ⟨i, g1, sz0, rows, row, g2, h2⟩
    · exact .inr ⟨sz0, rows, row, g3, h2⟩
  have notIn : ∀ {b r c h sz es}, OwAt E.st b r c h sz es → ¬ InSt σc (renS (ixN ρ) E.st 0 ρ) h.ν := by
    intro b r c h sz es hk hi
    obtain ⟨b', y, l', h1, h2, h3, h4⟩ := inst _ hi
    exact H.nest.sep _ _ _ _ _ _ _ _ _ hk h2 h3 h4
  have cross : ∀ {i r c h sz es b r' c' h' sz' es'}, OwAt st' i r c h sz es → OwAt E.st b r' c' h' sz' es' → h.ν ≠ h'.ν := by
    intro i r c h sz es b r' c' h' sz' es' hk hk' e
    rcases H'.nest.old _ _ _ _ _ _ hk with g | g
    · have g : w.heap.size ≤ h.ν := g
      have := (H.nest.rep _ _ _ _ _ _ hk').lt
      omega
    · rw [e] at g; exact notIn hk' g
  have nest : Nest C.w0 C.L w' Y' σn (bakE ρ E st' n').st := by
    refine ⟨fun b r c h sz es hk => ?_, fun b r c h sz es hk => ?_, fun b r c h sz es b' r' c' h' sz' es' hk hk' e => ?_, fun b r c h sz es b' x l hk hx hl => ?_⟩
    · rcases owc hk with ⟨i, _, hk⟩ | hk
      · exact H'.nest.rep _ _ _ _ _ _ hk
      · have hN := H.nest.rep _ _ _ _ _ _ hk
        exact hN.keep K.none (H'.chg.block _ hN.lt fun h => notIn hk h.2) (fun h => H'.y0 _ ⟨h, notIn hk⟩)
    · rcases owc hk with ⟨i, _, hk⟩ | hk
      · rcases H'.nest.old _ _ _ _ _ _ hk with h | h
        · exact .inl (Nat.le_trans H.chg.size h)
        · obtain ⟨b', y', l', h5, h6, h7, h8⟩ := inst _ h
          rw [← h8]; exact H.own b' y' l' h6 h7
      · exact H.nest.old _ _ _ _ _ _ hk
    · rcases owc hk with ⟨i, g, hk⟩ | hk <;> rcases owc hk' with ⟨i', g', hk'⟩ | hk'
      · obtain ⟨e1, e2, e3⟩ := H'.nest.one _ _ _ _ _ _ _ _ _ _ _ _ hk hk' e
        subst e1; rw [g] at g'; cases g'
        exact ⟨rfl, e2, e3⟩
      · exact absurd e (cross hk hk')
      · exact absurd e.symm (cross hk' hk)
      · exact H.nest.one _ _ _ _ _ _ _ _ _ _ _ _ hk hk' e
    · rcases owc hk with ⟨i, g, hk⟩ | hk <;> rcases lk b' x hx with ⟨i', y, g1, g2, g3, g4⟩ | ⟨g1, g2, g3⟩
      · exact H'.nest.sep _ _ _ _ _ _ _ _ _ hk g2 (by rw [← g4]; exact hl)
      · have hσ := getσ b' l g2 hl
        intro e
        have hlt' : l.cb < w.heap.size := by
          rcases H.store.blk b' x g3 with ⟨l2, hl2, hB⟩ | ⟨hn, _⟩
          · rw [hσ] at hl2; cases hl2; exact hB.lt
          · rw [hσ] at hn; cases hn
        rcases H'.nest.old _ _ _ _ _ _ hk with h | h
        · have h : w.heap.size ≤ _ := h
          omega
        · rw [← e] at h; exact nin b' x l g1 g3 hσ h
      · intro e
        rcases H'.own i' y l g2 (by rw [← g4]; exact hl) with h | h
        · have h : w.heap.size ≤ l.cb := h
          have := (H.nest.rep _ _ _ _ _ _ hk).lt
          omega
        · rw [e] at h; exact notIn hk h
      · exact H.nest.sep _ _ _ _ _ _ _ _ _ hk g3 (getσ b' l g2 hl)
  refine ⟨cv, Y', σn, rfl, ⟨RepL.keep _ K _ H.vals, ⟨fun b x hx => ?_, fun b b' x x' l l' hx hx' hl hl' e => ?_⟩, fun b hb => ?_, H'.yold, fun k hk => ?_, H.c0, fun k hk hlt => ?_, ?_, fun b x l hx hl => ?_, H'.glob, ?_, nest⟩, ?_⟩
  · rcases lk b x hx with ⟨i, y, h1, h2, h3, h4⟩ | ⟨h1, h2, h3⟩
    · rcases H'.store.blk i y h2 with ⟨l, hl, hB⟩ | ⟨hn, ro, sz, hy⟩
      · exact .inl ⟨l, by rw [h4]; exact hl, renB_sound hfb h3 hB⟩
      · exact .inr ⟨by rw [h4]; exact hn, ro, sz, renB_arr h3 hy⟩
    · rcases H.store.blk b x h3 with ⟨l, hl, hB⟩ | ⟨hn, ro, sz, hy⟩
      · have hni := nin b x l h1 h3 hl
        refine .inl ⟨l, K.sg b l hl, BlkRep.keep K (H'.chg.block _ hB.lt fun h => hni h.2) ⟨excl _ hB.lt, fun h => H'.y0 _ ⟨h, hni⟩⟩ hB⟩
      · exact .inr ⟨by rw [hout b h2]; exact hn, ro, sz, hy⟩
  · have side : ∀ b b' x x' l l', (∃ i y, bakN ρ E.next i = some b ∧ lkS st' i = some y ∧ renB (bakN ρ E.next) (some y) = some x ∧ σn b = σ' i) → (b' ∉ ρ ∧ (b' < E.next ∨ n' ≤ lenNs ρ + (b' - E.next)) ∧ lkS E.st b' = some x') →
        σn b = some l → σn b' = some l' → l.cb = l'.cb → False := by
      rintro b b' x x' l l' ⟨i, y, h1, h2, h3, h4⟩ ⟨h5, h6, h7⟩ hl hl' e
      have hσ : σ b' = some l' := getσ b' l' h6 hl'
      have hlt' : l'.cb < w.heap.size := by
        rcases H.store.blk b' x' h7 with ⟨l2, hl2, hB⟩ | ⟨hn, _⟩
        · rw [hσ] at hl2; cases hl2; exact hB.lt
        · rw [hσ] at hn; cases hn
      rcases H'.own i y l h2 (by rw [← h4]; exact hl) with h | h
      · have h : w.heap.size ≤ l.cb := h
        omega
      · rw [e] at h
        exact nin b' x' l' h5 h7 hσ h
    rcases lk b x hx with h | h <;> rcases lk b' x' hx' with h' | h'
    · obtain ⟨i, y, h1, h2, h3, h4⟩ := h
      obtain ⟨i', y', h1', h2', h3', h4'⟩ := h'
      have := H'.store.inj i i' y y' l l' h2 h2' (by rw [← h4]; exact hl) (by rw [← h4']; exact hl') e
      subst this
      rw [h1] at h1'; cases h1'; rfl
    · exact (side b b' x x' l l' h h' hl hl' e).elim
    · exact (side b' b x' x l' l h' h hl' hl e.symm).elim
    · have get : ∀ b x l, (b ∉ ρ ∧ (b < E.next ∨ n' ≤ lenNs ρ + (b - E.next)) ∧ lkS E.st b = some x) → σn b = some l → σ b = some l := by
        rintro b x l ⟨_, h6, _⟩ hl
        exact getσ b l h6 hl
      exact H.store.inj b b' x x' l l' h.2.2 h'.2.2 (get b x l h hl) (get b' x' l' h' hl') e
  · rw [hout b (by omega)]; exact H.next b (by omega)
  · refine H'.y0 k ⟨H.y0 k hk, fun hi => ?_⟩
    obtain ⟨b, y, l, h1, h2, h3, rfl⟩ := inst k hi
    exact H.away h2 h3 hk
  · exact H.yshr k (excl k (Nat.lt_of_lt_of_le hlt H.chg.size) hk) hlt
  · refine ⟨by rw [H'.chg.os]; exact H.chg.os, by rw [H'.chg.tape]; exact H.chg.tape, by rw [H'.chg.output]; exact H.chg.output, Nat.le_trans H.chg.size H'.chg.size, fun k hk hM => ?_⟩
    rw [H'.chg.block k (Nat.lt_of_lt_of_le hk H.chg.size) fun h => ?_]
    · exact H.chg.block k hk hM
    · obtain ⟨h1, h2⟩ := h
      rcases H.yshr k h1 hk with h3 | h3
      · obtain ⟨b, y, l, h4, h5, h6, rfl⟩ := inst k h2
        exact H.away h5 h6 h3
      · exact hM h3
  · rcases lk b x hx with ⟨i, y, h1, h2, h3, h4⟩ | ⟨h1, h2, h3⟩
    · rcases H'.own i y l h2 (by rw [← h4]; exact hl) with h | h
      · exact .inl (Nat.le_trans H.chg.size h)
      · obtain ⟨b', y', l', h5, h6, h7, h8⟩ := inst _ h
        rw [← h8]; exact H.own b' y' l' h6 h7
    · exact H.own b x l h3 (getσ b l h2 hl)
  · refine ⟨by have := H.fix.1; omega, fun b hb => ?_⟩
    rw [hout b (.inl (by omega))]; exact H.fix.2 b hb
  · have := H'.vals
    unfold RepL at this
    obtain ⟨c, cs, e, h1, h2⟩ := this
    cases e
    exact ⟨renV_sound hfb 8 _ _ h1, hout⟩

theorem call_S {P : Program} {T : Tab} {C : Ctx T} {w : World} {Y : Nat → Prop} {σ : Sg} {E : Env} {vs : List Value} (H : SW C w Y σ E.tmps vs E.st E.next) {k : Nat} {args : List PV} {cargs : List Value} {ρ : List Nat} {v : PV} {st1 : St} {n1 : Nat}
    (hnd : nodN ρ = true) (hlt : ltN E.next ρ = true) (hnn : noNar (renS (ixN ρ) E.st 0 ρ) = true) (hr : RepL w Y σ args cargs)
    (hF : FnS P T.gl k (mapV (renV (ixN ρ) 8) args) (renS (ixN ρ) E.st 0 ρ) (lenNs ρ) (fun u st n => u = v ∧ st = st1 ∧ n = n1)) :
    (callFunc k cargs.toArray).run P w = .ok (.enter k cargs.toArray) w ∧
    Calls P k cargs.toArray w fun e w' => ∃ cv Y' σ', e = .returned cv ∧ SW C w' Y' σ' E.tmps vs (bakE ρ E st1 n1).st (bakE ρ E st1 n1).next ∧ Rep w' Y' σ' (renV (bakN ρ E.next) 8 v) cv := by
  obtain ⟨h1, h2⟩ := call_W (N := E.next + (n1 - lenNs ρ)) H hnd hlt hnn H.fix.1 (fun b hb _ => H.next b hb) ⟨Nat.le_refl _, Nat.le_add_right _ _⟩ hr hF
  refine ⟨h1, Calls.mono h2 fun e w' hh => ?_⟩
  obtain ⟨cv, Y', σ', e1, h3, h4, _⟩ := hh
  exact ⟨cv, Y', σ', e1, h3, h4⟩

theorem lkRo_le {st : St} {b : Nat} {x : Blk} (h : lkRo st b = some x) : lkS st b = some x ∧ x.ro = true := by
  unfold lkRo at h
  split at h
  · rename_i e; cases h; exact ⟨e, rfl⟩
  · rename_i e; cases h; exact ⟨e, rfl⟩
  · cases h
theorem BlkRep.notY {w : World} {Y : Nat → Prop} {σ : Sg} {l : Loc} {x : Blk} (h : BlkRep w Y σ l x) (hr : x.ro = true) : ¬ Y l.cb := by
  cases x with
  | var ro row => unfold BlkRep at h; exact h.2.2.2.2.2 hr
  | arr ro sz rows => unfold BlkRep at h; exact h.2.2.2.2.2.2 hr
  | nar sz rows => cases hr
theorem call_ro {P : Program} {T : Tab} {C : Ctx T} {w : World} {Y : Nat → Prop} {σ : Sg} {ps : List PV} {vs : List Value} {st : St} {n : Nat} (H : SW C w Y σ ps vs st n) {lk : Nat → Option Blk} (hlk : ∀ b x, lk b = some x → lkS st b = some x ∧ x.ro = true)
    {k d : Nat} {args as : List PV} {cargs : List Value} {v : PV}
    (hm : mapO (frz (Sig.std P T) lk d) args = some as) (hr : RepL w Y σ args cargs) (hF : Fn P T.gl k as (fun u => u = v)) : CallSem P k C Y σ w cargs ps vs st n v := by
  have hfree : ∀ b x l, lk b = some x → σ b = some l → ¬ Y l.cb := by
    intro b x l h1 h2
    obtain ⟨h3, h4⟩ := hlk b x h1
    rcases H.store.blk b x h3 with ⟨l', hl', hB⟩ | ⟨hn, _⟩
    · rw [h2] at hl'; cases hl'; exact hB.notY h4
    · rw [h2] at hn; cases hn
  obtain ⟨h1, h2⟩ := hF w Y cargs H.glob H.yold (mapO_frz H.store (fun b x h => (hlk b x h).1) (fun _ h => h) hfree (fun b sz rows hb => by have := (hlk _ _ hb).2; cases this) hm hr)
  refine ⟨h1, Calls.mono h2 fun e w' h => ?_⟩
  obtain ⟨cv, u, rfl, rfl, hrep, hchg⟩ := h
  exact ⟨cv, rfl, H.chgd hchg, hrep.of_no⟩
theorem SW.roS {T : Tab} {C : Ctx T} {w : World} {σ : Sg} {ps : List PV} {vs : List Value} {n : Nat} : ∀ (ρ : List Nat) {Y : Nat → Prop} {st : St}, SW C w Y σ ps vs st n → ∃ Y', SW C w Y' σ ps vs (Pv.roS st ρ) n ∧ ∀ k, Y' k → Y k
  | [], Y, st, H => ⟨Y, H, fun _ h => h⟩
  | b :: l, Y, st, H => by
    unfold Pv.roS
    split
    · rename_i ro row hb
      obtain ⟨Y1, H1, _, h1⟩ := H.freeze hb (.inl ⟨ro, row, rfl, rfl⟩)
      obtain ⟨Y2, H2, h2⟩ := SW.roS l H1
      exact ⟨Y2, H2, fun k h => h1 k (h2 k h)⟩
    · rename_i ro sz rows hb
      obtain ⟨Y1, H1, _, h1⟩ := H.freeze hb (.inr ⟨ro, sz, rows, rfl, rfl⟩)
      obtain ⟨Y2, H2, h2⟩ := SW.roS l H1
      exact ⟨Y2, H2, fun k h => h1 k (h2 k h)⟩
    · exact SW.roS l H

theorem callE_sound {P : Program} {T : Tab} {k : Nat} {args : List PV} {E : Env} {K : PV → Env → Prop} (h : callE (Sig.std P T) k args E K) : CallT P T k args E K := by
  unfold callE at h
  split at h
  · rename_i as hm
    rcases h with ⟨v, hF, hK⟩ | ⟨v, st1, n1, hF, hK⟩ | h
    · exact CallT.of_sem hK fun C Y σ w vs cargs H hr => call_ro H (fun b x h => lkRo_le h) hm hr hF
    · intro C Y σ w vs cargs H hr
      have hfree : ∀ b x l, lkRo E.st b = some x → σ b = some l → ¬ Y l.cb := by
        intro b x l h1 h2
        obtain ⟨h3, h4⟩ := lkRo_le h1
        rcases H.store.blk b x h3 with ⟨l', hl', hB⟩ | ⟨hn, _⟩
        · rw [h2] at hl'; cases hl'; exact hB.notY h4
        · rw [h2] at hn; cases hn
      have hr0 := mapO_frz (P := P) (T := T) H.store (fun b x h => (lkRo_le h).1) (fun _ h => h) hfree (fun b sz rows hb => by have := (lkRo_le hb).2; cases this) hm hr
      have hr1 : RepL w Y σ as cargs := RepL.keep as (σ := noSg) (σ' := σ) ⟨fun _ _ _ => rfl, fun _ _ h => h, Nat.le_refl _, fun b l h => by simp [noSg] at h⟩ _ hr0
      obtain ⟨h3, h4⟩ := call_S (ρ := []) (v := v) (st1 := st1) (n1 := n1) H rfl rfl rfl hr1 hF
      refine ⟨h3, Calls.mono h4 fun e w' hh => ?_⟩
      obtain ⟨cv, Y', σ', rfl, H2, hv⟩ := hh
      exact ⟨cv, _, _, Y', σ', rfl, hK, H2, hv⟩
    · exact h
  · rcases h with ⟨bs, v, hm, hF, hf, hK⟩ | ⟨bs, v, hm, hF, hK⟩ | ⟨v, st1, n1, h1, h2, h0, hF, hK⟩ | h
    · exact CallT.of_sem hK fun C Y σ w vs cargs H hr => call_flat H (fun _ _ h => h) hm hr hF hf
    · intro C Y σ w vs cargs H hr
      obtain ⟨Y', H', hY⟩ := SW.roS (callN args E.st) H
      have K0 : Keep w w Y Y' σ σ := ⟨fun _ _ _ => rfl, fun k _ => hY k, Nat.le_refl _, SgLe.refl _⟩
      obtain ⟨h1, h2⟩ := call_ro H' (fun b x h => lkRo_le h) hm (RepL.keep _ K0 _ hr) hF
      refine ⟨h1, Calls.mono h2 fun e w' hh => ?_⟩
      obtain ⟨cv, rfl, H2, hv⟩ := hh
      exact ⟨cv, v, _, Y', σ, rfl, hK, H2, hv⟩
    · intro C Y σ w vs cargs H hr
      obtain ⟨h3, h4⟩ := call_S H h1 h2 h0 hr hF
      refine ⟨h3, Calls.mono h4 fun e w' hh => ?_⟩
      obtain ⟨cv, Y', σ', rfl, H2, hv⟩ := hh
      exact ⟨cv, _, _, Y', σ', rfl, hK, H2, hv⟩
    · exact h
end Go.Pv
