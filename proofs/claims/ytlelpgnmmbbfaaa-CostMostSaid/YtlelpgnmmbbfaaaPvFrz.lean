/-
  Pv, part 18: values made pure; what a call hands over.
-/
import Derived.Test.YtlelpgnmmbbfaaaPvOps14
namespace Go.Pv
open Go
set_option linter.all false

theorem mapO_some {f : PV → Option PV} : ∀ {cs ds : List PV}, mapO f cs = some ds → cs.length = ds.length ∧ ∀ (i : Nat) (c d : PV), cs[i]? = some c → ds[i]? = some d → f c = some d
  | [], ds, h => by simp [mapO] at h; subst h; simp
  | c :: cs, ds, h => by
    unfold mapO at h
    split at h
    · cases h
    · rename_i d hd
      split at h
      · cases h
      · rename_i ds' hds
        cases h
        obtain ⟨h1, h2⟩ := mapO_some hds
        refine ⟨by simp [h1], fun i c' d' e1 e2 => ?_⟩
        cases i with
        | zero => simp at e1 e2; subst e1; subst e2; exact hd
        | succ i => exact h2 i c' d' (by simpa using e1) (by simpa using e2)

/-- rows whose own slices are read alone from now on -/
theorem fz_rows {w : World} {Y0 : Nat → Prop} {b sz : Nat} : ∀ {rows : List (List PV)}, (∀ row ∈ rows, ∀ (c : Nat) (h : Hdr) (sz' : Nat) (es : List (List PV)), row[c]? = some (.ow h sz' es) → es ≠ [] → (h.ν < w.heap.size ∧ ¬ Y0 h.ν) ∧ RepR w Y0 noSg h.ν sz' es h.o) →
    ∀ (o : Nat), RepR w Y0 noSg b sz rows o → RepR w Y0 noSg b sz (rows.map fun row => row.map fzC) o := by
  intro rows hall o hr
  rw [RepR.iff] at hr ⊢
  intro i q hi
  rw [List.getElem?_map] at hi
  cases hq : rows[i]? with
  | none => rw [hq] at hi; cases hi
  | some row =>
    rw [hq] at hi
    simp only [Option.map_some, Option.some.injEq] at hi
    subst hi
    obtain ⟨⟨h1, h2⟩, h3⟩ := hr i row hq
    refine ⟨⟨by simpa using h1, ?_⟩, ?_⟩
    · rw [allCell_iff] at h2 ⊢
      intro p hp
      obtain ⟨p0, hp0, rfl⟩ := List.mem_map.1 hp
      have := h2 p0 hp0
      unfold fzC
      split
      · rfl
      · exact this
    · rw [RepC.iff] at h3 ⊢
      intro c p hc
      rw [List.getElem?_map] at hc
      cases hp0 : row[c]? with
      | none => rw [hp0] at hc; cases hc
      | some p0 =>
        rw [hp0] at hc
        simp only [Option.map_some, Option.some.injEq] at hc
        subst hc
        obtain ⟨v, hv, hp⟩ := h3 c p0 hp0
        refine ⟨v, hv, ?_⟩
        unfold fzC
        split
        · rename_i h sz' es
          unfold Rep at hp ⊢
          rcases hp with ⟨hne, p2, p3⟩ | ⟨p1, a, cap, p2⟩
          · obtain ⟨g1, g2⟩ := hall row (List.mem_of_getElem? hq) c h sz' es hp0 hne
            exact ⟨_, _, _, p2, rfl, p3, (fun h => by cases h), .inr ⟨_, _, rfl, g1, g2⟩⟩
          · subst p1
            exact ⟨a, 0, cap, p2, rfl, Nat.zero_le _, (fun h => by cases h), .inl rfl⟩
        · exact hp

theorem frz_sound {P : Program} {T : Tab} {w : World} {Y Y0 : Nat → Prop} {σ : Sg} {st : St} {lk : Nat → Option Blk} (hst : StRep w Y σ st) (hlk : ∀ b x, lk b = some x → lkS st b = some x)
    (hY : ∀ k, Y0 k → Y k) (hfree : ∀ b x l, lk b = some x → σ b = some l → ¬ Y0 l.cb) (hnest : ∀ b sz rows, lk b = some (.nar sz rows) → ∀ (r : Nat) (row : List PV) (c : Nat) (h : Hdr) (sz' : Nat) (es : List (List PV)), rows[r]? = some row → row[c]? = some (.ow h sz' es) → es ≠ [] → (h.ν < w.heap.size ∧ ¬ Y0 h.ν) ∧ RepR w Y noSg h.ν sz' es h.o) : ∀ (d : Nat) (p q : PV) (v : Value), frz (Sig.std P T) lk d p = some q → Rep w Y σ p v → Rep w Y0 noSg q v
  | 0, _, _, _, h, _ => by simp [frz] at h
  | d + 1, p, q, v, h, hp => by
    have K0 : Keep w w Y Y0 noSg noSg := ⟨fun _ _ _ => rfl, fun k _ => hY k, Nat.le_refl _, SgLe.refl _⟩
    have list : ∀ {cs ds : List PV} {vs : List Value}, mapO (frz (Sig.std P T) lk d) cs = some ds → RepL w Y σ cs vs → RepL w Y0 noSg ds vs := by
      intro cs ds vs hm hr
      obtain ⟨h1, h2⟩ := mapO_some hm
      refine RepL.of_pointwise _ _ (by rw [hr.length, h1]) (fun i e u e1 e2 => ?_)
      have hlt : i < cs.length := by
        rw [h1]
        by_cases hh : i < ds.length
        · exact hh
        · rw [List.getElem?_eq_none (Nat.le_of_not_lt hh)] at e1; cases e1
      have hc : cs[i]? = some cs[i] := List.getElem?_eq_getElem hlt
      obtain ⟨u', e3, e4⟩ := hr.get? hc
      rw [e2] at e3; cases e3
      exact frz_sound hst hlk hY hfree hnest d _ _ _ (h2 i _ _ hc e1) e4
    unfold frz at h
    cases p
    case bool b => cases h; unfold Rep at hp ⊢; exact hp
    case sb b => cases h; unfold Rep at hp ⊢; exact hp
    case int k n => cases h; unfold Rep at hp ⊢; exact hp
    case si k n => cases h; unfold Rep at hp ⊢; exact hp
    case str s => cases h; unfold Rep at hp ⊢; exact hp
    case nilp => cases h; unfold Rep at hp ⊢; exact hp
    case nilf => cases h; unfold Rep at hp ⊢; exact hp
    case sl sz es full =>
      cases h
      have h2 : Rep w Y noSg (.sl sz es false) v := by
        unfold Rep at hp ⊢
        obtain ⟨a, len, cap, e, hl, hc, _, hr⟩ := hp
        exact ⟨a, len, cap, e, hl, hc, (fun h => by cases h), hr⟩
      exact Rep.keep _ K0 v h2
    case pp cs =>
      cases h
      have h2 : Rep w Y noSg (.pp cs) v := by unfold Rep at hp ⊢; exact hp
      exact Rep.keep _ K0 v h2
    case agg cs =>
      simp only at h
      split at h
      · rename_i ds hd; cases h
        unfold Rep at hp ⊢; obtain ⟨vs, e, hr⟩ := hp; exact ⟨vs, e, list hd hr⟩
      · cases h
    case tup cs =>
      simp only at h
      split at h
      · rename_i ds hd; cases h
        unfold Rep at hp ⊢; obtain ⟨vs, e, hr⟩ := hp; exact ⟨vs, e, list hd hr⟩
      · cases h
    case fn f cs =>
      simp only at h
      split at h
      · rename_i ds hd; cases h
        unfold Rep at hp ⊢; obtain ⟨vs, e, hr⟩ := hp; exact ⟨vs, e, list hd hr⟩
      · cases h
    case lv b c =>
      simp only at h
      split at h
      · rename_i ro row hb
        split at h
        · rename_i ds hd; cases h
          unfold Rep at hp
          obtain ⟨l, hl, e⟩ := hp
          rcases hst.blk b _ (hlk _ _ hb) with ⟨l', hl', hB⟩ | ⟨hn, _⟩
          · rw [hl] at hl'; cases hl'
            have hlt := hB.lt
            unfold BlkRep at hB
            rw [dropL_eq] at hd
            obtain ⟨vs, hr, hcell⟩ := (hB.2.2.2.1.drop c _ _).vals
            unfold Rep
            refine ⟨l.cb, l.co + c, e, ⟨hlt, hfree b _ l hb hl⟩, RepC.of_vals _ _ _ (list hd hr) hcell⟩
          · rw [hl] at hn; cases hn
        · cases h
      · cases h
    case os b r n =>
      simp only at h
      split at h
      · rename_i ro sz rows hb
        cases h
        obtain ⟨a, cap, e1, e2, e3, e4⟩ := os_rows hp (hst.blk b _ (hlk _ _ hb))
        unfold Rep
        refine ⟨a, n, cap, e1, e3, e2, (fun h => by cases h), ?_⟩
        rcases e4 with e4 | ⟨b', o, ea, eb, ⟨l, el, el'⟩, er⟩
        · exact .inl e4
        · refine .inr ⟨b', o, ea, ⟨eb, by rw [el']; exact hfree b _ l hb el⟩, ?_⟩
          exact RepR.keep _ K0 (fun _ => rfl) _ er
      · rename_i sz rows hb
        cases h
        unfold Rep at hp
        rcases hp with ⟨l, cap, hl, e, hcap, htot, hrn⟩ | ⟨rfl, a, e⟩
        · rcases hst.blk b _ (hlk _ _ hb) with ⟨l', hl', hB⟩ | ⟨hn, _⟩
          · rw [hl] at hl'; cases hl'
            have hlt := hB.lt
            unfold BlkRep at hB
            have hlen : (((rows.drop r).take n).map fun row => row.map fzC).length = n := by rw [List.length_map, List.length_take, List.length_drop]; omega
            unfold Rep
            refine ⟨_, n, cap, e, ?_, hcap, (fun h => by cases h), .inr ⟨l.cb, _, rfl, ⟨hlt, hfree b _ l hb hl⟩, ?_⟩⟩
            · exact hlen.symm
            · rw [hB.2.1]
              have hr := RepR.keep _ K0 (fun _ => rfl) _ ((hB.2.2.2.2.1.drop r _ _).take n _ _)
              refine fz_rows ?_ _ hr
              intro row hrow c h sz' es hc hne
              have hm := List.mem_of_mem_drop (List.mem_of_mem_take hrow)
              obtain ⟨i, hi⟩ := List.getElem?_of_mem hm
              obtain ⟨h1, h2⟩ := hnest b sz rows hb i row c h sz' es hi hc hne
              exact ⟨h1, RepR.keep es K0 (fun _ => rfl) _ h2⟩
          · rw [hl] at hn; cases hn
        · unfold Rep
          refine ⟨a, 0, 0, e, ?_, Nat.le_refl _, (fun h => by cases h), .inl ?_⟩
          · show 0 = (((rows.drop r).take 0).map fun row => row.map fzC).length; simp
          · show ((rows.drop r).take 0).map (fun row => row.map fzC) = []; simp
      · cases h
    all_goals cases h


theorem mapO_frz {P : Program} {T : Tab} {w : World} {Y Y0 : Nat → Prop} {σ : Sg} {st : St} {lk : Nat → Option Blk} (hst : StRep w Y σ st) (hlk : ∀ b x, lk b = some x → lkS st b = some x)
    (hY : ∀ k, Y0 k → Y k) (hfree : ∀ b x l, lk b = some x → σ b = some l → ¬ Y0 l.cb) (hnest : ∀ b sz rows, lk b = some (.nar sz rows) → ∀ (r : Nat) (row : List PV) (c : Nat) (h : Hdr) (sz' : Nat) (es : List (List PV)), rows[r]? = some row → row[c]? = some (.ow h sz' es) → es ≠ [] → (h.ν < w.heap.size ∧ ¬ Y0 h.ν) ∧ RepR w Y noSg h.ν sz' es h.o) {d : Nat} {cs ds : List PV} {vs : List Value} (hm : mapO (frz (Sig.std P T) lk d) cs = some ds) (hr : RepL w Y σ cs vs) : RepL w Y0 noSg ds vs := by
  obtain ⟨h1, h2⟩ := mapO_some hm
  refine RepL.of_pointwise _ _ (by rw [hr.length, h1]) (fun i e u e1 e2 => ?_)
  have hlt : i < cs.length := by
    rw [h1]
    by_cases hh : i < ds.length
    · exact hh
    · rw [List.getElem?_eq_none (Nat.le_of_not_lt hh)] at e1; cases e1
  have hc : cs[i]? = some cs[i] := List.getElem?_eq_getElem hlt
  obtain ⟨u', e3, e4⟩ := hr.get? hc
  rw [e2] at e3; cases e3
  exact frz_sound hst hlk hY hfree hnest d _ _ _ (h2 i _ _ hc e1) e4

theorem mapO_frz0 {P : Program} {T : Tab} {w : World} {Y : Nat → Prop} {σ : Sg} {d : Nat} {cs ds : List PV} {vs : List Value} (hm : mapO (frz (Sig.std P T) (fun _ => none) d) cs = some ds) (hr : RepL w Y σ cs vs) : RepL w Y noSg ds vs :=
  mapO_frz (st := []) ⟨fun b x h => by simp [lkS] at h, fun b b' x x' l l' h => by simp [lkS] at h⟩ (fun _ _ h => by cases h) (fun _ h => h) (fun _ _ _ h => by cases h) (fun _ _ _ h => by cases h) hm hr

theorem flat_rep {w w' : World} {Y Y' : Nat → Prop} {σ σ' : Sg} : ∀ (d : Nat) (p : PV) (v : Value), flatV d p = true → Rep w Y σ p v → Rep w' Y' σ' p v
  | 0, _, _, h, _ => by simp [flatV] at h
  | d + 1, p, v, h, hp => by
    have list : ∀ (cs : List PV) (vs : List Value), flatL (flatV d) cs = true → RepL w Y σ cs vs → RepL w' Y' σ' cs vs := by
      intro cs
      induction cs with
      | nil => intro vs _ hr; unfold RepL at hr ⊢; exact hr
      | cons c cs ih =>
        intro vs hf hr
        simp only [flatL, Bool.and_eq_true] at hf
        unfold RepL at hr ⊢
        obtain ⟨u, us, e, h1, h2⟩ := hr
        exact ⟨u, us, e, flat_rep d c u hf.1 h1, ih us hf.2 h2⟩
    unfold flatV at h
    cases p
    case agg cs => unfold Rep at hp ⊢; obtain ⟨vs, e, hr⟩ := hp; exact ⟨vs, e, list _ _ h hr⟩
    case tup cs => unfold Rep at hp ⊢; obtain ⟨vs, e, hr⟩ := hp; exact ⟨vs, e, list _ _ h hr⟩
    all_goals first | (cases h; done) | (unfold Rep at hp ⊢; exact hp)

/-- a call that wrote into no block that there was -/
theorem Keep.of_chg {w w' : World} {Y : Nat → Prop} {σ : Sg} (h : Chg w w') : Keep w w' Y Y σ σ := ⟨fun k hk _ => h.block k hk, fun _ _ h => h, h.size, SgLe.refl _⟩
theorem SW.chgd {T : Tab} {C : Ctx T} {w w' : World} {Y : Nat → Prop} {σ : Sg} {ps : List PV} {vs : List Value} {st : St} {n : Nat} (H : SW C w Y σ ps vs st n) (h : Chg w w') : SW C w' Y σ ps vs st n := by
  have K : Keep w w' Y Y σ σ := Keep.of_chg h
  refine ⟨RepL.keep _ K _ H.vals, ⟨fun b x hb => ?_, H.store.inj⟩, H.next, fun k hk => Nat.lt_of_lt_of_le (H.yold k hk) h.size, H.y0, H.c0, H.yshr, ?_, H.own, H.glob.keep K.none, H.fix, H.nest.heap h.size h.block⟩
  · rcases H.store.blk b x hb with ⟨l, hl, hB⟩ | hn
    · exact .inl ⟨l, hl, BlkRep.keep K (h.block _ hB.lt) Iff.rfl hB⟩
    · exact .inr hn
  · exact ⟨by rw [h.os]; exact H.chg.os, by rw [h.tape]; exact H.chg.tape, by rw [h.output]; exact H.chg.output, Nat.le_trans H.chg.size h.size, fun k hk hM => by rw [h.block k (Nat.lt_of_lt_of_le hk H.chg.size)]; exact H.chg.block k hk hM⟩

theorem Rep.of_no {w : World} {Y : Nat → Prop} {σ : Sg} {p : PV} {v : Value} (h : Rep w Y noSg p v) : Rep w Y σ p v :=
  Rep.keep p ⟨fun _ _ _ => rfl, fun _ _ h => h, Nat.le_refl _, fun _ _ h => by cases h⟩ v h

/-- the meaning of a call with pure arguments, at any state -/
def CallSem {T : Tab} (P : Program) (k : Nat) (C : Ctx T) (Y : Nat → Prop) (σ : Sg) (w : World) (cargs : List Value) (ps : List PV) (vs : List Value) (st : St) (n : Nat) (v : PV) : Prop :=
  (callFunc k cargs.toArray).run P w = .ok (.enter k cargs.toArray) w ∧
  Calls P k cargs.toArray w fun e w' => ∃ cv, e = .returned cv ∧ SW C w' Y σ ps vs st n ∧ Rep w' Y σ v cv

theorem call_pure {P : Program} {T : Tab} {C : Ctx T} {w : World} {Y : Nat → Prop} {σ : Sg} {ps : List PV} {vs : List Value} {st : St} {n : Nat} (H : SW C w Y σ ps vs st n) {k d : Nat} {args as : List PV} {cargs : List Value} {v : PV}
    (hm : mapO (frz (Sig.std P T) (fun _ => none) d) args = some as) (hr : RepL w Y σ args cargs) (hF : Fn P T.gl k as (fun u => u = v)) : CallSem P k C Y σ w cargs ps vs st n v := by
  obtain ⟨h1, h2⟩ := hF w Y cargs H.glob H.yold (mapO_frz0 hm hr)
  refine ⟨h1, Calls.mono h2 fun e w' h => ?_⟩
  obtain ⟨cv, u, rfl, rfl, hrep, hchg⟩ := h
  exact ⟨cv, rfl, H.chgd hchg, hrep.of_no⟩

theorem call_flat {P : Program} {T : Tab} {C : Ctx T} {w : World} {Y : Nat → Prop} {σ : Sg} {ps : List PV} {vs : List Value} {st : St} {n : Nat} (H : SW C w Y σ ps vs st n) {lk : Nat → Option Blk} (hlk : ∀ b x, lk b = some x → lkS st b = some x) {k d : Nat} {args as : List PV} {cargs : List Value} {v : PV}
    (hm : mapO (frz (Sig.std P T) lk d) args = some as) (hr : RepL w Y σ args cargs) (hF : Fn P T.gl k as (fun u => u = v)) {f : Nat} (hf : flatV f v = true) : CallSem P k C Y σ w cargs ps vs st n v := by
  obtain ⟨h1, h2⟩ := hF w (fun _ => False) cargs (H.glob.keep ⟨fun _ _ _ => rfl, fun _ _ h => h.elim, Nat.le_refl _, SgLe.refl _⟩) (fun _ h => h.elim) (mapO_frz H.store hlk (fun _ h => h.elim) (fun _ _ _ _ _ h => h) (fun b sz rows hb r row c h sz' es h1 h2 h3 => by
    have hO := H.nest.rep _ _ _ _ _ _ ⟨sz, rows, row, hlk _ _ hb, h1, h2, h3⟩
    exact ⟨⟨hO.lt, fun h => h⟩, hO.rows⟩) hm hr)
  refine ⟨h1, Calls.mono h2 fun e w' h => ?_⟩
  obtain ⟨cv, u, rfl, rfl, hrep, hchg⟩ := h
  exact ⟨cv, rfl, H.chgd hchg, flat_rep f _ _ hf hrep⟩

theorem CallT.of_sem {P : Program} {T : Tab} {k : Nat} {args : List PV} {E : Env} {K : PV → Env → Prop} {v : PV} (hK : K v E)
    (h : ∀ (C : Ctx T) Y σ w vs cargs, SW C w Y σ E.tmps vs E.st E.next → RepL w Y σ args cargs → CallSem P k C Y σ w cargs E.tmps vs E.st E.next v) : CallT P T k args E K := by
  intro C Y σ w vs cargs H hr
  obtain ⟨h1, h2⟩ := h C Y σ w vs cargs H hr
  refine ⟨h1, Calls.mono h2 fun e w' hh => ?_⟩
  obtain ⟨cv, rfl, H', hv⟩ := hh
  exact ⟨cv, v, E, Y, σ, rfl, hK, H', hv⟩

end Go.Pv
