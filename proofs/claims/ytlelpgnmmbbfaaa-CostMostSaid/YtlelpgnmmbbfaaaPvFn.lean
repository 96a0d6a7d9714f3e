/-
  Pv, part 22: functions: what a body returns; what a call hands over; loops.
-/
import Derived.Test.YtlelpgnmmbbfaaaPvRoot
namespace Go.Pv
open Go
set_option linter.all false

def retS (tmps : Array Value) : ResultVar → Sem Value
  | .tmp t => pure (tmps.getD t Go.undef)
  | .cell a t => do loadVar t (← asAddr (tmps.getD a Go.undef))
theorem results_eq (fn : Func) (tmps : Array Value) : results fn tmps = (do let vs ← fn.results.mapM (retS tmps); pure (if h : vs.size = 1 then vs[0] else .tuple vs)) := by
  unfold results
  congr 1

theorem retVs_sound {P : Program} {T : Tab} (hT : TabOK P T) {C : Ctx T} {w : World} {Y : Nat → Prop} {σ : Sg} {E : Env} {tmps : Array Value} (H : SW C w Y σ E.tmps tmps.toList E.st E.next) :
    ∀ (rs : List ResultVar) (vs : List PV), retVs T E rs = some vs →
      ∃ cvs : List Value, (rs.mapM (retS tmps)).run P w = .ok cvs w ∧ RepL w Y σ vs cvs
  | [], vs, h => by simp [retVs] at h; subst h; exact ⟨[], by simp, by simp [RepL]⟩
  | r :: rs, vs, h => by
    unfold retVs at h
    split at h
    · cases h
    · rename_i v hv
      split at h
      · cases h
      · rename_i vs' hvs
        cases h
        obtain ⟨cvs, hrun, hr⟩ := retVs_sound hT H rs vs' hvs
        have gd : ∀ t, tmps.getD t Go.undef = tmps.toList.getD t Go.undef := by intro t; simp [Array.getD_eq_getD_getElem?, List.getD_eq_getElem?_getD]
        have one : ∃ cv, (retS tmps r).run P w = .ok cv w ∧ Rep w Y σ v cv := by
          cases r with
          | tmp t =>
            simp [retV] at hv; subst hv
            exact ⟨tmps.getD t Go.undef, by simp [retS], by rw [gd]; exact H.vals.get _ _ t⟩
          | cell c t =>
            simp only [retV] at hv
            split at hv
            · rename_i b off agg size z plain kind e1 e2
              obtain ⟨hinfo, hsize, hagg, hund⟩ := tab_size hT e2
              have hc := H.vals.get _ _ c
              rw [e1] at hc
              unfold Rep at hc
              obtain ⟨l, hl, ec⟩ := hc
              split at hv
              · rename_i ro row hb
                have hB := BlkRep.of_lk H (fun _ _ h => h) hb hl
                unfold BlkRep at hB
                have hld : loadRow agg size row off (fun u => u = v) := by
                  unfold loadRow
                  cases agg with
                  | true =>
                    simp only [cond_true] at hv ⊢
                    cases hh : Nat.ble (off + size) (lenL row) with
                    | true => rw [hh] at hv; simp only [cond_true] at hv ⊢; exact Option.some.inj hv
                    | false => rw [hh] at hv; cases hv
                  | false =>
                    simp only [cond_false] at hv ⊢
                    cases hh : Nat.blt off (lenL row) with
                    | true => rw [hh] at hv; simp only [cond_true] at hv ⊢; exact Option.some.inj hv
                    | false => rw [hh] at hv; cases hv
                obtain ⟨u, cv, rfl, hrun', hrep⟩ := loadVar_rep hinfo hsize hagg hund hB.2.2.2.1 hld
                refine ⟨cv, ?_, hrep⟩
                simp only [retS]
                rw [gd, ec]
                simp only [asAddr, Sem.run_bind, Sem.run_pure, Result.andThen]
                exact hrun'
              · cases hv
            · cases hv
        obtain ⟨cv, hrun1, hr1⟩ := one
        refine ⟨cv :: cvs, ?_, by unfold RepL; exact ⟨cv, cvs, rfl, hr1, hr⟩⟩
        rw [List.mapM_cons]
        simp only [Sem.run_bind, hrun1, Result.andThen, hrun, Sem.run_pure]

/-- what is handed back, as one value -/
theorem ret_sound {P : Program} {T : Tab} (hT : TabOK P T) {C : Ctx T} {w : World} {Y : Nat → Prop} {σ : Sg} {E : Env} {tmps : Array Value} {fn : Func} (H : SW C w Y σ E.tmps tmps.toList E.st E.next) {vs : List PV} (h : retVs T E fn.results.toList = some vs) :
    ∃ cv, (results fn tmps).run P w = .ok cv w ∧ Rep w Y σ (retOne vs) cv := by
  obtain ⟨cvs, hrun, hrep⟩ := retVs_sound hT H _ _ h
  have hl := hrep.length
  have mapArr : (results fn tmps).run P w = .ok (if h : cvs.toArray.size = 1 then cvs.toArray[0] else .tuple cvs.toArray) w := by
    rw [results_eq, Array.mapM_eq_mapM_toList]
    simp only [Sem.run_bind, map_eq_pure_bind, hrun, Result.andThen, Sem.run_pure]
  by_cases h1 : cvs.length = 1
  · rw [h1] at hl
    match vs, hl, hrep with
    | [x], _, hrep =>
      obtain ⟨cv, rfl, hcv⟩ := evA_one hrep
      exact ⟨cv, by rw [mapArr]; simp, hcv⟩
  · have hn1 : ¬ cvs.toArray.size = 1 := by simpa using h1
    refine ⟨.tuple cvs.toArray, by rw [mapArr, dif_neg hn1], ?_⟩
    have : retOne vs = .tup vs := by
      match vs, hl with
      | [], _ => rfl
      | [x], hl => exact absurd hl h1
      | _ :: _ :: _, _ => rfl
    rw [this]
    unfold Rep; exact ⟨cvs, rfl, hrep⟩

theorem noNar_spec : ∀ (st : St), noNar st = true → ∀ b sz rows, lkS st b ≠ some (.nar sz rows)
  | [], _, b, sz, rows, h => by simp [lkS] at h
  | (c, x) :: st, h, b, sz, rows, hb => by
    have h1 : noNar st = true ∧ ∀ sz rows, x ≠ some (.nar sz rows) := by
      cases x with
      | none => exact ⟨by simpa [noNar] using h, by simp⟩
      | some y => cases y <;> simp_all [noNar]
    simp only [lkS] at hb
    cases hc : Nat.beq c b with
    | true => rw [hc] at hb; exact h1.2 _ _ hb
    | false => rw [hc] at hb; exact noNar_spec st h1.1 b sz rows hb
theorem undefs_rep {w : World} {Y : Nat → Prop} {σ : Sg} : ∀ n, RepL w Y σ (undefs n) (List.replicate n Go.undef)
  | 0 => by simp [undefs, RepL]
  | n + 1 => by simp only [undefs, List.replicate_succ]; unfold RepL; exact ⟨_, _, rfl, by simp [Rep], undefs_rep n⟩

/-- a function, from its body's reading -/
theorem fn_of_body {P : Program} {T : Tab} (hT : TabOK P T) (hp : T.pas = 0) (hW : PWf P) {k : Nat} {fn : Func} {c : Code} (hf : P.funcs[k]? = some fn) (hb : fn.body = some c)
    (hcall : ∀ args w, (callFunc k args).run P w = .ok (.enter k args) w) {args : List PV} {R : PV → Prop} {m : Nat} (hm : fn.ntmps - args.length = m)
    (h : ∀ S, S = Sig.std P T → pwp T S c (retQ T S fn.results.toList R) ⟨appL args (undefs m), [], 0⟩) : Fn P T.gl k args R := by
  intro w Y cargs hG hY hargs
  refine ⟨hcall _ _, ?_⟩
  let C : Ctx T := ⟨w, Y, fun _ => False, fun _ => False, noSg⟩
  have hlen := hargs.length
  have H0 : SW C w Y noSg (appL args (undefs m)) ((cargs.toArray ++ Array.replicate (fn.ntmps - cargs.toArray.size) Go.undef).toList) [] 0 := by
    refine ⟨?_, ⟨fun b x h => by simp [lkS] at h, fun b b' x x' l l' h => by simp [lkS] at h⟩, fun _ _ => rfl, hY, fun _ h => h, fun k h => ⟨hY k h, fun h => h⟩, fun k h _ => .inl h, ChgM.refl _ w, fun b x l h => by simp [lkS] at h, hG, ⟨by omega, fun _ _ => rfl⟩, Nest.none (fun b sz rows h => by simp [lkS] at h)⟩
    have : (cargs.toArray ++ Array.replicate (fn.ntmps - cargs.toArray.size) Go.undef).toList = cargs ++ List.replicate m Go.undef := by simp [hlen, hm]
    rw [this]
    exact RepL.app _ _ _ _ hargs (undefs_rep m)
  have hwp := pwp_sound hT hW c _ _ (h _ rfl) C { tmps := cargs.toArray ++ Array.replicate (fn.ntmps - cargs.toArray.size) Go.undef, defers := [] } w ⟨⟨Y, noSg, H0⟩, rfl⟩
  refine calls_of_wp hf hb (wp_mono hwp ?_)
  have key : ∀ (a : Act) (w' : World), (∃ E, ActRep C E a w' ∧ retE T (Sig.std P T) fn.results.toList E R) → a.defers = [] ∧ ∃ v, (results fn a.tmps).run P w' = .ok v w' ∧ ∃ cv u, Ending.returned v = .returned cv ∧ R u ∧ Rep w' Y noSg u cv ∧ Chg w w' := by
    rintro a w' ⟨E, ⟨⟨Y', σ', H⟩, hd⟩, hr⟩
    refine ⟨hd, ?_⟩
    unfold retE at hr
    split at hr
    · rename_i vs hv
      split at hr
      · rename_i u hu
        obtain ⟨cv, hrun, hrep⟩ := ret_sound hT H hv
        exact ⟨cv, hrun, cv, u, rfl, hr, frz_sound H.store (fun _ _ h => h) H.y0 (fun b x l hx hl => H.away hx hl) (fun b sz rows hb r row c h sz' es h1 h2 h3 => by
          have hO : OwAt E.st b r c h sz' es := ⟨sz, rows, row, hb, h1, h2, h3⟩
          have hN := H.nest.rep _ _ _ _ _ _ hO
          refine ⟨⟨hN.lt, fun hy => ?_⟩, hN.rows⟩
          have := H.c0 _ hy
          rcases H.nest.old _ _ _ _ _ _ hO with g | g
          · omega
          · exact this.2 g) _ _ _ _ hu hrep, H.chg.chg fun _ h => h⟩
      · exact hr.elim
    · exact hr.elim
  intro e a w' hq
  cases e with
  | normal => exact key a w' hq
  | ret => exact key a w' hq
  | exit n => obtain ⟨E, _, hq⟩ := hq; exact hq.elim
  | _ => exact hq.elim

/-- a function to which blocks are handed over, from its body's reading -/
theorem fnS_of_body {P : Program} {T : Tab} (hT : TabOK P T) (hW : PWf P) {k : Nat} {fn : Func} {c : Code} (hf : P.funcs[k]? = some fn) (hb : fn.body = some c)
    (hcall : ∀ args w, (callFunc k args).run P w = .ok (.enter k args) w) {args : List PV} {st : St} {R : PV → St → Nat → Prop} {m : Nat} (hm : fn.ntmps - args.length = m)
    (h : ∀ S, S = Sig.std P T → pwp T S c (retSQ T S fn.results.toList R) ⟨appL args (undefs m), st, T.pas⟩) : FnS P T.gl k args st T.pas R := by
  intro w Y σ cargs hG hY hn hargs hst hnn
  refine ⟨hcall _ _, ?_⟩
  have hlen := hargs.length
  let C : Ctx T := ctxS T w Y σ st
  have H0 : SW C w Y σ (appL args (undefs m)) ((cargs.toArray ++ Array.replicate (fn.ntmps - cargs.toArray.size) Go.undef).toList) st T.pas := by
    refine ⟨?_, hst, hn, hY, fun _ h => h.1, fun k h => ⟨hY k h.1, h.2⟩, fun k h _ => ?_, ChgM.refl _ w, fun b x l h1 h2 => .inr ⟨b, x, l, h1, h2, rfl⟩, hG, ⟨Nat.le_refl _, fun _ _ => rfl⟩, Nest.none (noNar_spec st hnn)⟩
    · have : (cargs.toArray ++ Array.replicate (fn.ntmps - cargs.toArray.size) Go.undef).toList = cargs ++ List.replicate m Go.undef := by simp [hlen, hm]
      rw [this]
      exact RepL.app _ _ _ _ hargs (undefs_rep m)
    · by_cases hi : InSt σ st k
      · exact .inr ⟨h, hi⟩
      · exact .inl ⟨h, hi⟩
  have hwp := pwp_sound hT hW c _ _ (h _ rfl) C { tmps := cargs.toArray ++ Array.replicate (fn.ntmps - cargs.toArray.size) Go.undef, defers := [] } w ⟨⟨Y, σ, H0⟩, rfl⟩
  refine calls_of_wp hf hb (wp_mono hwp ?_)
  have key : ∀ (a : Act) (w' : World), (∃ E, ActRep C E a w' ∧ retSE T (Sig.std P T) fn.results.toList E R) → a.defers = [] ∧ ∃ v, (results fn a.tmps).run P w' = .ok v w' ∧
      ∃ cv u st' n' Y' σ', Ending.returned v = .returned cv ∧ R u st' n' ∧ SW (ctxS ⟨fun _ => .bad, T.gl, T.pas, [], 0, [], []⟩ w Y σ st) w' Y' σ' [u] [cv] st' n' := by
    rintro a w' ⟨E, ⟨⟨Y', σ', H⟩, hd⟩, hr⟩
    refine ⟨hd, ?_⟩
    unfold retSE at hr
    split at hr
    · rename_i vs hv
      obtain ⟨cv, hrun, hrep⟩ := ret_sound hT H hv
      have H1 : SW C w' Y' σ' [retOne vs] [cv] E.st E.next := H.vals' (by unfold RepL; exact ⟨_, _, rfl, hrep, by unfold RepL; rfl⟩)
      obtain ⟨Y1, σ1, n', H2, hrep2⟩ := cvRet_sound (P := P) (T' := T) T.own (retOne vs) H1 hrep
      have H3 := H2.vals' (show RepL w' Y1 σ1 [(cvRet (Sig.std P T) T.own (retOne vs) E.st E.next).1] [cv] by unfold RepL; exact ⟨_, _, rfl, hrep2, by unfold RepL; rfl⟩)
      split at hr
      rename_i v st2 n2 he
      rw [he] at H3
      obtain ⟨h1, h2, h3⟩ := seenN_ok T.pas st2 [v]
      obtain ⟨σ2, H4, _⟩ := H3.canR h1 h2 h3
      refine ⟨cv, hrun, cv, _, _, _, Y1, σ2, rfl, hr, ⟨?_, H4.store, H4.next, H4.yold, H4.y0, H4.c0, H4.yshr, H4.chg, H4.own, H4.glob, H4.fix, H4.nest⟩⟩
      simpa only [mapV] using H4.vals
    · exact hr.elim
  intro e a w' hq
  cases e with
  | normal => exact key a w' hq
  | ret => exact key a w' hq
  | exit n => obtain ⟨E, _, hq⟩ := hq; exact hq.elim
  | _ => exact hq.elim
end Go.Pv
