/-
  Pv, part 22: functions: what a body returns; what a call hands over; loops.
-/
import Derived.Test.YtkejjohamlimeaaPvWp
namespace Go.Pv
open Go
set_option linter.all false

def retS (tmps : Array Value) : ResultVar → Sem Value
  | .tmp t => pure (tmps.getD t Go.undef)
  | .cell a t => do loadVar t (← asAddr (tmps.getD a Go.undef))
theorem results_eq (fn : Func) (tmps : Array Value) : results fn tmps = (do let vs ← fn.results.mapM (retS tmps); pure (if h : vs.size = 1 then vs[0] else .tuple vs)) := by
  unfold results
  congr 1

theorem retVs_sound {P : Program} {T : Tab} (hT : TabOK P T) {C : Ctx} {w : World} {Y : Nat → Prop} {σ : Sg} {E : Env} {tmps : Array Value} (H : SW C w Y σ E.tmps tmps.toList E.st E.next) :
    ∀ (rs : List ResultVar) (vs : List PV), retVs T E rs = some vs →
      ∃ cvs : List Value, (rs.mapM (retS tmps)).run P w = .ok cvs w ∧ RepL w Y σ vs cvs
  | [], vs, h => by simp [retVs] at h; subst h; exact ⟨[], by simp, by simp [RepL]⟩
  | r :: rs, vs, h => by
    unfold retVs at h
    split at h
    · cases h
    · rename_i v hv
      split at h
      · cases h
      · rename_i vs' hvs
        cases h
        obtain ⟨cvs, hrun, hr⟩ := retVs_sound hT H rs vs' hvs
        have gd : ∀ t, tmps.getD t Go.undef = tmps.toList.getD t Go.undef := by intro t; simp [Array.getD_eq_getD_getElem?, List.getD_eq_getElem?_getD]
        have one : ∃ cv, (retS tmps r).run P w = .ok cv w ∧ Rep w Y σ v cv := by
          cases r with
          | tmp t =>
            simp [retV] at hv; subst hv
            exact ⟨tmps.getD t Go.undef, by simp [retS], by rw [gd]; exact H.vals.get _ _ t⟩
          | cell c t =>
            simp only [retV] at hv
            split at hv
            · rename_i b off agg size z plain kind e1 e2
              obtain ⟨hinfo, hsize, hagg, hund⟩ := tab_size hT e2
              have hc := H.vals.get _ _ c
              rw [e1] at hc
              unfold Rep at hc
              obtain ⟨l, hl, ec⟩ := hc
              split at hv
              · rename_i ro row hb
                have hB := BlkRep.of_lk H (fun _ _ h => h) hb hl
                unfold BlkRep at hB
                have hld : loadRow agg size row off (fun u => u = v) := by
                  unfold loadRow
                  cases agg with
                  | true =>
                    simp only [cond_true] at hv ⊢
                    cases hh : Nat.ble (off + size) (lenL row) with
                    | true => rw [hh] at hv; simp only [cond_true] at hv ⊢; exact Option.some.inj hv
                    | false => rw [hh] at hv; cases hv
                  | false =>
                    simp only [cond_false] at hv ⊢
                    cases hh : Nat.blt off (lenL row) with
                    | true => rw [hh] at hv; simp only [cond_true] at hv ⊢; exact Option.some.inj hv
                    | false => rw [hh] at hv; cases hv
                obtain ⟨u, cv, rfl, hrun', hrep⟩ := loadVar_rep hinfo hsize hagg hund hB.2.2.2.1 hld
                refine ⟨cv, ?_, hrep⟩
                simp only [retS]
                rw [gd, ec]
                simp only [asAddr, Sem.run_bind, Sem.run_pure, Result.andThen]
                exact hrun'
              · cases hv
            · cases hv
        obtain ⟨cv, hrun1, hr1⟩ := one
        refine ⟨cv :: cvs, ?_, by unfold RepL; exact ⟨cv, cvs, rfl, hr1, hr⟩⟩
        rw [List.mapM_cons]
        simp only [Sem.run_bind, hrun1, Result.andThen, hrun, Sem.run_pure]

/-- a function, from its body's reading -/
theorem fn_of_body {P : Program} {T : Tab} (hT : TabOK P T) (hW : PWf P) {k : Nat} {fn : Func} {c : Code} (hf : P.funcs[k]? = some fn) (hb : fn.body = some c)
    (hcall : ∀ args w, (callFunc k args).run P w = .ok (.enter k args) w) {args : List PV} {R : PV → Prop} {m : Nat} (hm : fn.ntmps - args.length = m)
    (h : ∀ S, S = Sig.std P → pwp T S c (retQ T S fn.results.toList R) ⟨appL args (undefs m), [], 0⟩) : Fn P k args R := by
  intro w Y cargs hY hargs
  refine ⟨hcall _ _, ?_⟩
  let C : Ctx := ⟨w, Y⟩
  have hlen := hargs.length
  have hund : ∀ n, RepL w Y noSg (undefs n) (List.replicate n Go.undef) := by
    intro n; induction n with
    | zero => simp [undefs, RepL]
    | succ n ih => simp only [undefs, List.replicate_succ]; unfold RepL; exact ⟨_, _, rfl, by simp [Rep], ih⟩
  have H0 : SW C w Y noSg (appL args (undefs m)) ((cargs.toArray ++ Array.replicate (fn.ntmps - cargs.toArray.size) Go.undef).toList) [] 0 := by
    refine ⟨?_, ⟨fun b x h => by simp [lkS] at h, fun b b' x x' l l' h => by simp [lkS] at h⟩, fun _ _ => rfl, hY, fun _ h => h, hY, Chg.refl w, fun b x l h => by simp [lkS] at h⟩
    have : (cargs.toArray ++ Array.replicate (fn.ntmps - cargs.toArray.size) Go.undef).toList = cargs ++ List.replicate m Go.undef := by simp [hlen, hm]
    rw [this]
    exact RepL.app _ _ _ _ hargs (hund m)
  have hwp := pwp_sound hT hW c _ _ (h _ rfl) C { tmps := cargs.toArray ++ Array.replicate (fn.ntmps - cargs.toArray.size) Go.undef, defers := [] } w ⟨⟨Y, noSg, H0⟩, rfl⟩
  refine calls_of_wp hf hb (wp_mono hwp ?_)
  have key : ∀ (a : Act) (w' : World), (∃ E, ActRep C E a w' ∧ retE T (Sig.std P) fn.results.toList E R) → a.defers = [] ∧ ∃ v, (results fn a.tmps).run P w' = .ok v w' ∧ ∃ cv u, Ending.returned v = .returned cv ∧ R u ∧ Rep w' Y noSg u cv ∧ Chg w w' := by
    rintro a w' ⟨E, ⟨⟨Y', σ', H⟩, hd⟩, hr⟩
    refine ⟨hd, ?_⟩
    unfold retE at hr
    have mapArr : ∀ cvs : List Value, (fn.results.toList.mapM (retS a.tmps)).run P w' = .ok cvs w' →
        (results fn a.tmps).run P w' = .ok (if h : cvs.toArray.size = 1 then cvs.toArray[0] else .tuple cvs.toArray) w' := by
      intro cvs hrun
      rw [results_eq, Array.mapM_eq_mapM_toList]
      simp only [Sem.run_bind, map_eq_pure_bind, hrun, Result.andThen, Sem.run_pure]
    have fz : ∀ {p q : PV} {v : Value} {d : Nat}, frz (Sig.std P) (lkS E.st) d p = some q → Rep w' Y' σ' p v → Rep w' Y noSg q v := by
      intro p q v d h1 h2
      refine frz_sound H.store (fun _ _ h => h) H.y0 (fun b x l hx hl hy => ?_) d p q v h1 h2
      have h3 := H.own b x l hx hl
      have h4 : l.cb < w.heap.size := hY _ hy
      have h5 : w.heap.size ≤ l.cb := h3
      omega
    split at hr
    · rename_i v hv
      split at hr
      · rename_i u hu
        obtain ⟨cvs, hrun, hrep⟩ := retVs_sound hT H _ _ hv
        obtain ⟨cv, rfl, hcv⟩ := evA_one hrep
        exact ⟨cv, by rw [mapArr _ hrun]; simp, cv, u, rfl, hr, fz hu hcv, H.chg⟩
      · exact hr.elim
    · rename_i vs hne hv
      split at hr
      · rename_i u hu
        obtain ⟨cvs, hrun, hrep⟩ := retVs_sound hT H _ _ hv
        have hl := hrep.length
        have hn1 : ¬ cvs.toArray.size = 1 := by
          intro h1
          have h1 : cvs.length = 1 := by simpa using h1
          rw [h1] at hl
          match vs, hl with
          | [x], _ => exact hne x rfl
        refine ⟨.tuple cvs.toArray, by rw [mapArr _ hrun]; rw [dif_neg hn1], .tuple cvs.toArray, u, rfl, hr, fz hu ?_, H.chg⟩
        unfold Rep; exact ⟨cvs, rfl, hrep⟩
      · exact hr.elim
    · exact hr.elim
  intro e a w' hq
  cases e with
  | normal => exact key a w' hq
  | ret => exact key a w' hq
  | exit n => obtain ⟨E, _, hq⟩ := hq; exact hq.elim
  | _ => exact hq.elim
end Go.Pv
