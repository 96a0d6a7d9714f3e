import Derived.Test.YtddcpnlflncahaaP02
set_option linter.all false
namespace Go.Pv
open Go
section
variable {P : Program} {T : Tab} (hT : TabOK P T) {C : Ctx T} {o : Oper} {a : Act} {w : World} {Y : Nat → Prop} {σ : Sg} {ps : List PV} {st : St} {n id : Nat} {K : PV → Dl → Prop} {lk : Nat → Option Blk}
  (H : SW C w Y σ ps a.tmps.toList st n) (hlk : ∀ b x, lk b = some x → lkS st b = some x) (hid : σ id = none ∧ T.pas ≤ id) (hU : UndOK P)
theorem array_cons1 {α : Type} {x : Array α} {t : α} {l : List α} (h : x.toList = t :: l) : x = (t :: l).toArray := by apply Array.ext'; simpa using h
include hT H hlk hid in
theorem op_clear {args : Array Operand} {ts : Array TypeId} (ho : o.op = .call { callee := .builtin .clear, args := args, argTypes := ts }) (h : opE T (Sig.std P T) (.call { callee := .builtin .clear, args := args, argTypes := ts }) ps lk id K) : Res P C o a w σ ps st n id K := by
  have hargs := evA_rep H args.toList
  simp only [opE] at h
  generalize hvs : args.toList.map a.eval = vs at hargs
  split at h
  all_goals first | (exact h.elim) | contradiction | skip
  rename_i b r m t tl hb he ht
  rw [he] at hargs
  unfold RepL at hargs
  obtain ⟨sv, vs', rfl, hs, hnil⟩ := hargs
  unfold RepL at hnil
  subst hnil
  have ht' := array_cons1 ht
  subst ht'
  split at h
  · rename_i a1 s1 z1 p1 esz bytes z e1
    obtain ⟨et, hu, rfl, rfl, hz⟩ := tab_slice hT e1
    obtain ⟨zv, hzr, hzrep⟩ := zero_rep hz.symm
    split at h
    · rename_i sz rows hbk
      cases hb : (Nat.beq sz (P.cellsOf et) && Nat.beq (lenL z) sz && isPos sz && allCell z) with
      | false => rw [hb] at h; exact h.elim
      | true =>
        rw [hb] at h
        simp only [cond_true] at h
        simp only [Bool.and_eq_true, lenL_eq] at hb
        obtain ⟨⟨⟨h1, h2⟩, h3⟩, h4⟩ := hb
        have h1 := Nat.eq_of_beq_eq_true h1
        have h2 := Nat.eq_of_beq_eq_true h2
        subst h1
        have hpos : 0 < P.cellsOf et := by
          rcases Nat.eq_zero_or_pos (P.cellsOf et) with h0 | h0
          · rw [h0] at h3; simp [isPos] at h3
          · exact h0
        have hinf := info_of_pos h3
        cases hi : P.info? et with
        | none => exact absurd hi hinf
        | some inf =>
        have hst := hlk _ _ hbk
        obtain ⟨z2, hl2, hc2, hw2, h, _⟩ := wkC_std h
        have hzrep2 : ∀ w Y σ, RepL w Y σ z2 zv.cells.toList := fun w Y σ => hw2 _ _ _ _ (hzrep w Y σ)
        have hspl : (Sig.std P T).spl rows r ((Sig.std P T).rep m z2) = rows.take r ++ List.replicate m z2 ++ rows.drop (r + m) := by simp [Sig.std]
        rw [hspl] at h
        have hzsz : zv.cells.size = P.cellsOf et := by have := (hzrep w Y σ).length; rw [Array.length_toList] at this; omega
        have none0 : m = 0 → ∀ x cap, sv = .slice x 0 cap → Res P C o a w σ ps st n id K := by
          intro hm x cap hsv
          subst hm
          have e0 : rows.take r ++ List.replicate 0 z2 ++ rows.drop (r + 0) = rows := by simp
          rw [e0] at h
          refine builtin_res ho (δ := _) (cv := .tuple #[]) (w' := w) (Y' := Y) (σ' := σ) (fun ty cs => ?_) ?_ ?_ (Off.refl _ _) h
          · rw [hvs, hsv]
            cases x <;> simp [builtin, Builtin.clear_, Sem.run_bind, run_und hu, Result.andThen, Sem.run_pure]
          · exact (H.ext fun c x hx => by
              simp only [applyD] at hx
              rw [lkS_inS] at hx
              by_cases hc : b = c
              · subst hc; rw [if_pos rfl] at hx; cases hx; exact hst
              · rw [if_neg hc] at hx; exact hx).mono (by simp [nextI]; omega)
          · simp [Rep, RepL]
        unfold Rep at hs
        rcases hs with ⟨l, cap, hl, e, hmc, htot, hnr⟩ | ⟨e0, sx, e⟩
        · by_cases hm0 : m = 0
          · subst hm0; exact none0 rfl _ _ e
          subst e
          have hB := BlkRep.of_lk H hlk hbk hl
          unfold BlkRep at hB
          obtain ⟨⟨arr, tyb, ha, has⟩, hlsz, _, ⟨hle, hlnr⟩, hrows, hm, _⟩ := hB
          rw [hlsz] at htot
          let zs : List Value := (Builtin.zeroCells zv.cells m).toList
          have hzs : zs.length = m * P.cellsOf et := by simp [zs, Builtin.zeroCells, hzsz]
          have hzg : ∀ i, i < m * P.cellsOf et → zs[i]? = zv.cells.toList[i % P.cellsOf et]? := by
            intro i hi2
            have hlt : i % P.cellsOf et < zv.cells.size := by rw [hzsz]; exact Nat.mod_lt _ hpos
            simp only [zs, Builtin.zeroCells, Array.getElem?_toList, Array.getElem?_map]
            rw [Array.getElem?_range, if_pos (by rw [hzsz]; exact hi2)]
            simp only [Option.map_some, hzsz]
            rw [hzsz] at hlt
            rw [← hzsz] at hlt ⊢
            simp [getElem!_def, hlt]
          have hone : ∀ v ∈ zs, oneC v = true := by
            intro v hv
            obtain ⟨i, hi2, e⟩ := List.mem_iff_getElem.1 hv
            have : zs[i]? = some v := by rw [List.getElem?_eq_getElem hi2, e]
            rw [hzg i (by rw [← hzs]; exact hi2)] at this
            exact allCell_one _ _ h4 (hzrep w Y σ) v (List.mem_of_getElem? this)
          have hrm : r + m ≤ rows.length := by omega
          have hbnd : l.co + r * P.cellsOf et + zs.length ≤ arr.size := by
            rw [has, hzs]
            have := Nat.mul_le_mul_right (P.cellsOf et) hrm
            rw [Nat.add_mul] at this
            omega
          obtain ⟨w', hrun, W⟩ := storeCells_run (P := P) (o := l.co + r * P.cellsOf et) zs 0 w arr ha (by simpa using hbnd) hone
          have W : Wrote w w' l.cb (l.co + r * P.cellsOf et) arr tyb zs := by simpa using W
          obtain ⟨arr', h5, h6, h7⟩ := W.blk
          have K0 : Keep w w' Y Y noSg noSg := ⟨fun k _ hk => W.other k (fun e => hk (e ▸ hm rfl)), fun _ _ h => h, Nat.le_of_eq W.size.symm, SgLe.refl _⟩
          have hlen : (rows.take r ++ List.replicate m z2 ++ rows.drop (r + m)).length = rows.length := by simp; omega
          refine builtin_res ho (δ := [(b, some (.arr false (P.cellsOf et) (rows.take r ++ List.replicate m z2 ++ rows.drop (r + m))))]) (v := .tup []) (cv := .tuple #[]) (w' := w') (Y' := Y) (σ' := σ) (fun ty cs => ?_) ((SW.update (x' := .arr false (P.cellsOf et) (rows.take r ++ List.replicate m z2 ++ rows.drop (r + m))) H hst hl (hm rfl) W.os W.tape W.output W.size W.other (fun _ _ e => by cases e) fun _ => ?_).mono (Nat.le_max_left _ _)) (by simp [Rep, RepL]) (Off.refl _ _) h
          · rw [hvs]
            obtain ⟨m', rfl⟩ : ∃ m', m = m' + 1 := ⟨m - 1, by omega⟩
            simp only [builtin, Builtin.clear_, List.getElem?_toArray, List.getElem?_cons_zero, Sem.run_bind, run_und hu, Result.andThen, hzr, hlsz]
            rw [show (storeCells ⟨l.cb, l.co + r * P.cellsOf et, none⟩ (Builtin.zeroCells zv.cells (m' + 1)).toList).run P w = .ok () w' from hrun]
            simp [Sem.run_pure]
          · unfold BlkRep
            refine ⟨⟨arr', tyb, h5, by omega⟩, hlsz, hpos, ⟨by rw [hlen]; exact hle, by rw [hlen]; exact hlnr⟩, ?_, hm, fun h => by cases h⟩
            rw [RepR.iff] at hrows ⊢
            intro i q hq
            by_cases hin : r ≤ i ∧ i < r + m
            · have hqz : q = z2 := by
                rw [List.append_assoc, List.getElem?_append_right (by simp; omega), List.getElem?_append_left (by simp; omega), List.getElem?_replicate] at hq
                split at hq
                · exact (Option.some.inj hq).symm
                · cases hq
              subst hqz
              refine ⟨⟨hl2.trans h2, hc2 h4⟩, ?_⟩
              rw [RepC.iff]
              intro c p hc
              obtain ⟨v, hv, hrv⟩ := (hzrep2 w' Y noSg).get? hc
              refine ⟨v, ?_, hrv⟩
              have hcl : c < P.cellsOf et := by
                rw [← h2, ← hl2]
                by_cases hh : c < q.length
                · exact hh
                · rw [List.getElem?_eq_none (Nat.le_of_not_lt hh)] at hc; cases hc
              have e1 : l.co + i * P.cellsOf et + c - (l.co + r * P.cellsOf et) = (i - r) * P.cellsOf et + c := by
                obtain ⟨d, rfl⟩ : ∃ d, i = r + d := ⟨i - r, by omega⟩
                rw [Nat.add_mul, show r + d - r = d by omega]; omega
              have e2 : (i - r) * P.cellsOf et + c < m * P.cellsOf et := by
                have := Nat.mul_le_mul_right (P.cellsOf et) (show (i - r) + 1 ≤ m by omega)
                rw [Nat.add_mul] at this; omega
              have e3 := Nat.mul_le_mul_right (P.cellsOf et) hin.1
              rw [cell_of_block h5, h7, if_pos ⟨by omega, by rw [hzs]; omega⟩, e1, hzg _ e2]
              rw [show ((i - r) * P.cellsOf et + c) % P.cellsOf et = c by rw [Nat.add_comm, Nat.add_mul_mod_self_right]; exact Nat.mod_eq_of_lt hcl]
              exact hv
            · have hq' : rows[i]? = some q := by
                by_cases hir : i < r
                · rw [List.append_assoc, List.getElem?_append_left (by simp; omega), List.getElem?_take_of_lt hir] at hq; exact hq
                · rw [List.getElem?_append_right (by simp; omega), List.getElem?_drop] at hq
                  rw [← hq]; congr 1; simp; omega
              obtain ⟨g1, g2⟩ := hrows i q hq'
              refine ⟨g1, ?_⟩
              rw [RepC.iff] at g2 ⊢
              intro c p hc
              obtain ⟨v, hv, hrv⟩ := g2 c p hc
              refine ⟨v, ?_, Rep.keep p K0 v hrv⟩
              have hcl : c < P.cellsOf et := by
                rw [← g1.1]
                by_cases hh : c < q.length
                · exact hh
                · rw [List.getElem?_eq_none (Nat.le_of_not_lt hh)] at hc; cases hc
              rw [cell_of_block ha] at hv
              rw [cell_of_block h5, h7, if_neg, hv]
              rintro ⟨g3, g4⟩
              rw [hzs] at g4
              rcases Nat.lt_or_ge i r with g5 | g5
              · have := Nat.mul_le_mul_right (P.cellsOf et) (show i + 1 ≤ r by omega)
                rw [Nat.add_mul] at this; omega
              · have := Nat.mul_le_mul_right (P.cellsOf et) (show r + m ≤ i by omega)
                rw [Nat.add_mul] at this; omega
        · subst e0
          exact none0 rfl _ _ e
    · exact h.elim
  · exact h.elim
end
end Go.Pv
namespace Go.Pv
open Go
theorem mapO_some {f : PV → Option PV} : ∀ {cs ds : List PV}, mapO f cs = some ds → cs.length = ds.length ∧ ∀ (i : Nat) (c d : PV), cs[i]? = some c → ds[i]? = some d → f c = some d
  | [], ds, h => by simp [mapO] at h; subst h; simp
  | c :: cs, ds, h => by
    unfold mapO at h
    split at h
    · cases h
    · rename_i d hd
      split at h
      · cases h
      · rename_i ds' hds
        cases h
        obtain ⟨h1, h2⟩ := mapO_some hds
        refine ⟨by simp [h1], fun i c' d' e1 e2 => ?_⟩
        cases i with
        | zero => simp at e1 e2; subst e1; subst e2; exact hd
        | succ i => exact h2 i c' d' (by simpa using e1) (by simpa using e2)
theorem fz_rows {w : World} {Y0 : Nat → Prop} {b sz : Nat} : ∀ {rows : List (List PV)}, (∀ row ∈ rows, ∀ (c : Nat) (h : Hdr) (sz' : Nat) (es : List (List PV)), row[c]? = some (.ow h sz' es) → es ≠ [] → (h.ν < w.heap.size ∧ ¬ Y0 h.ν) ∧ RepR w Y0 noSg h.ν sz' es h.o) →
    ∀ (o : Nat), RepR w Y0 noSg b sz rows o → RepR w Y0 noSg b sz (rows.map fun row => row.map fzC) o := by
  intro rows hall o hr
  rw [RepR.iff] at hr ⊢
  intro i q hi
  rw [List.getElem?_map] at hi
  cases hq : rows[i]? with
  | none => rw [hq] at hi; cases hi
  | some row =>
    rw [hq] at hi
    simp only [Option.map_some, Option.some.injEq] at hi
    subst hi
    obtain ⟨⟨h1, h2⟩, h3⟩ := hr i row hq
    refine ⟨⟨by simpa using h1, ?_⟩, ?_⟩
    · rw [allCell_iff] at h2 ⊢
      intro p hp
      obtain ⟨p0, hp0, rfl⟩ := List.mem_map.1 hp
      have := h2 p0 hp0
      unfold fzC
      split
      · rfl
      · exact this
    · rw [RepC.iff] at h3 ⊢
      intro c p hc
      rw [List.getElem?_map] at hc
      cases hp0 : row[c]? with
      | none => rw [hp0] at hc; cases hc
      | some p0 =>
        rw [hp0] at hc
        simp only [Option.map_some, Option.some.injEq] at hc
        subst hc
        obtain ⟨v, hv, hp⟩ := h3 c p0 hp0
        refine ⟨v, hv, ?_⟩
        unfold fzC
        split
        · rename_i h sz' es
          unfold Rep at hp ⊢
          rcases hp with ⟨hne, p2, p3⟩ | ⟨p1, a, cap, p2⟩
          · obtain ⟨g1, g2⟩ := hall row (List.mem_of_getElem? hq) c h sz' es hp0 hne
            exact ⟨_, _, _, p2, rfl, p3, (fun h => by cases h), .inr ⟨_, _, rfl, g1, g2⟩⟩
          · subst p1
            exact ⟨a, 0, cap, p2, rfl, Nat.zero_le _, (fun h => by cases h), .inl rfl⟩
        · exact hp
theorem frz_sound {P : Program} {T : Tab} {w : World} {Y Y0 : Nat → Prop} {σ : Sg} {st : St} {lk : Nat → Option Blk} (hst : StRep w Y σ st) (hlk : ∀ b x, lk b = some x → lkS st b = some x)
    (hY : ∀ k, Y0 k → Y k) (hfree : ∀ b x l, lk b = some x → σ b = some l → ¬ Y0 l.cb) (hnest : ∀ b sz rows, lk b = some (.nar sz rows) → ∀ (r : Nat) (row : List PV) (c : Nat) (h : Hdr) (sz' : Nat) (es : List (List PV)), rows[r]? = some row → row[c]? = some (.ow h sz' es) → es ≠ [] → (h.ν < w.heap.size ∧ ¬ Y0 h.ν) ∧ RepR w Y noSg h.ν sz' es h.o) : ∀ (d : Nat) (p q : PV) (v : Value), frz (Sig.std P T) lk d p = some q → Rep w Y σ p v → Rep w Y0 noSg q v
  | 0, _, _, _, h, _ => by simp [frz] at h
  | d + 1, p, q, v, h, hp => by
    have K0 : Keep w w Y Y0 noSg noSg := ⟨fun _ _ _ => rfl, fun k _ => hY k, Nat.le_refl _, SgLe.refl _⟩
    have list : ∀ {cs ds : List PV} {vs : List Value}, mapO (frz (Sig.std P T) lk d) cs = some ds → RepL w Y σ cs vs → RepL w Y0 noSg ds vs := by
      intro cs ds vs hm hr
      obtain ⟨h1, h2⟩ := mapO_some hm
      refine RepL.of_pointwise _ _ (by rw [hr.length, h1]) (fun i e u e1 e2 => ?_)
      have hlt : i < cs.length := by
        rw [h1]
        by_cases hh : i < ds.length
        · exact hh
        · rw [List.getElem?_eq_none (Nat.le_of_not_lt hh)] at e1; cases e1
      have hc : cs[i]? = some cs[i] := List.getElem?_eq_getElem hlt
      obtain ⟨u', e3, e4⟩ := hr.get? hc
      rw [e2] at e3; cases e3
      exact frz_sound hst hlk hY hfree hnest d _ _ _ (h2 i _ _ hc e1) e4
    unfold frz at h
    cases p
    case bool b => cases h; unfold Rep at hp ⊢; exact hp
    case sb b => cases h; unfold Rep at hp ⊢; exact hp
    case int k n => cases h; unfold Rep at hp ⊢; exact hp
    case si k n => cases h; unfold Rep at hp ⊢; exact hp
    case str s => cases h; unfold Rep at hp ⊢; exact hp
    case nilp => cases h; unfold Rep at hp ⊢; exact hp
    case nilf => cases h; unfold Rep at hp ⊢; exact hp
    case sl sz es full =>
      cases h
      have h2 : Rep w Y noSg (.sl sz es false) v := by
        unfold Rep at hp ⊢
        obtain ⟨a, len, cap, e, hl, hc, _, hr⟩ := hp
        exact ⟨a, len, cap, e, hl, hc, (fun h => by cases h), hr⟩
      exact Rep.keep _ K0 v h2
    case pp cs =>
      cases h
      have h2 : Rep w Y noSg (.pp cs) v := by unfold Rep at hp ⊢; exact hp
      exact Rep.keep _ K0 v h2
    case agg cs =>
      simp only at h
      split at h
      · rename_i ds hd; cases h
        unfold Rep at hp ⊢; obtain ⟨vs, e, hr⟩ := hp; exact ⟨vs, e, list hd hr⟩
      · cases h
    case tup cs =>
      simp only at h
      split at h
      · rename_i ds hd; cases h
        unfold Rep at hp ⊢; obtain ⟨vs, e, hr⟩ := hp; exact ⟨vs, e, list hd hr⟩
      · cases h
    case fn f cs =>
      simp only at h
      split at h
      · rename_i ds hd; cases h
        unfold Rep at hp ⊢; obtain ⟨vs, e, hr⟩ := hp; exact ⟨vs, e, list hd hr⟩
      · cases h
    case lv b c =>
      simp only at h
      split at h
      · rename_i ro row hb
        split at h
        · rename_i ds hd; cases h
          unfold Rep at hp
          obtain ⟨l, hl, e⟩ := hp
          rcases hst.blk b _ (hlk _ _ hb) with ⟨l', hl', hB⟩ | ⟨hn, _⟩
          · rw [hl] at hl'; cases hl'
            have hlt := hB.lt
            unfold BlkRep at hB
            rw [dropL_eq] at hd
            obtain ⟨vs, hr, hcell⟩ := (hB.2.2.2.1.drop c _ _).vals
            unfold Rep
            refine ⟨l.cb, l.co + c, e, ⟨hlt, hfree b _ l hb hl⟩, RepC.of_vals _ _ _ (list hd hr) hcell⟩
          · rw [hl] at hn; cases hn
        · cases h
      · cases h
    case os b r n =>
      simp only at h
      split at h
      · rename_i ro sz rows hb
        cases h
        obtain ⟨a, cap, e1, e2, e3, e4⟩ := os_rows hp (hst.blk b _ (hlk _ _ hb))
        unfold Rep
        refine ⟨a, n, cap, e1, e3, e2, (fun h => by cases h), ?_⟩
        rcases e4 with e4 | ⟨b', o, ea, eb, ⟨l, el, el'⟩, er⟩
        · exact .inl e4
        · refine .inr ⟨b', o, ea, ⟨eb, by rw [el']; exact hfree b _ l hb el⟩, ?_⟩
          exact RepR.keep _ K0 (fun _ => rfl) _ er
      · rename_i sz rows hb
        cases h
        unfold Rep at hp
        rcases hp with ⟨l, cap, hl, e, hcap, htot, hrn⟩ | ⟨rfl, a, e⟩
        · rcases hst.blk b _ (hlk _ _ hb) with ⟨l', hl', hB⟩ | ⟨hn, _⟩
          · rw [hl] at hl'; cases hl'
            have hlt := hB.lt
            unfold BlkRep at hB
            have hlen : (((rows.drop r).take n).map fun row => row.map fzC).length = n := by rw [List.length_map, List.length_take, List.length_drop]; omega
            unfold Rep
            refine ⟨_, n, cap, e, ?_, hcap, (fun h => by cases h), .inr ⟨l.cb, _, rfl, ⟨hlt, hfree b _ l hb hl⟩, ?_⟩⟩
            · exact hlen.symm
            · rw [hB.2.1]
              have hr := RepR.keep _ K0 (fun _ => rfl) _ ((hB.2.2.2.2.1.drop r _ _).take n _ _)
              refine fz_rows ?_ _ hr
              intro row hrow c h sz' es hc hne
              have hm := List.mem_of_mem_drop (List.mem_of_mem_take hrow)
              obtain ⟨i, hi⟩ := List.getElem?_of_mem hm
              obtain ⟨h1, h2⟩ := hnest b sz rows hb i row c h sz' es hi hc hne
              exact ⟨h1, RepR.keep es K0 (fun _ => rfl) _ h2⟩
          · rw [hl] at hn; cases hn
        · unfold Rep
          refine ⟨a, 0, 0, e, ?_, Nat.le_refl _, (fun h => by cases h), .inl ?_⟩
          · show 0 = (((rows.drop r).take 0).map fun row => row.map fzC).length; simp
          · show ((rows.drop r).take 0).map (fun row => row.map fzC) = []; simp
      · cases h
    all_goals cases h
theorem mapO_frz {P : Program} {T : Tab} {w : World} {Y Y0 : Nat → Prop} {σ : Sg} {st : St} {lk : Nat → Option Blk} (hst : StRep w Y σ st) (hlk : ∀ b x, lk b = some x → lkS st b = some x)
    (hY : ∀ k, Y0 k → Y k) (hfree : ∀ b x l, lk b = some x → σ b = some l → ¬ Y0 l.cb) (hnest : ∀ b sz rows, lk b = some (.nar sz rows) → ∀ (r : Nat) (row : List PV) (c : Nat) (h : Hdr) (sz' : Nat) (es : List (List PV)), rows[r]? = some row → row[c]? = some (.ow h sz' es) → es ≠ [] → (h.ν < w.heap.size ∧ ¬ Y0 h.ν) ∧ RepR w Y noSg h.ν sz' es h.o) {d : Nat} {cs ds : List PV} {vs : List Value} (hm : mapO (frz (Sig.std P T) lk d) cs = some ds) (hr : RepL w Y σ cs vs) : RepL w Y0 noSg ds vs := by
  obtain ⟨h1, h2⟩ := mapO_some hm
  refine RepL.of_pointwise _ _ (by rw [hr.length, h1]) (fun i e u e1 e2 => ?_)
  have hlt : i < cs.length := by
    rw [h1]
    by_cases hh : i < ds.length
    · exact hh
    · rw [List.getElem?_eq_none (Nat.le_of_not_lt hh)] at e1; cases e1
  have hc : cs[i]? = some cs[i] := List.getElem?_eq_getElem hlt
  obtain ⟨u', e3, e4⟩ := hr.get? hc
  rw [e2] at e3; cases e3
  exact frz_sound hst hlk hY hfree hnest d _ _ _ (h2 i _ _ hc e1) e4
theorem flat_rep {w w' : World} {Y Y' : Nat → Prop} {σ σ' : Sg} : ∀ (d : Nat) (p : PV) (v : Value), flatV d p = true → Rep w Y σ p v → Rep w' Y' σ' p v
  | 0, _, _, h, _ => by simp [flatV] at h
  | d + 1, p, v, h, hp => by
    have list : ∀ (cs : List PV) (vs : List Value), flatL (flatV d) cs = true → RepL w Y σ cs vs → RepL w' Y' σ' cs vs := by
      intro cs
      induction cs with
      | nil => intro vs _ hr; unfold RepL at hr ⊢; exact hr
      | cons c cs ih =>
        intro vs hf hr
        simp only [flatL, Bool.and_eq_true] at hf
        unfold RepL at hr ⊢
        obtain ⟨u, us, e, h1, h2⟩ := hr
        exact ⟨u, us, e, flat_rep d c u hf.1 h1, ih us hf.2 h2⟩
    unfold flatV at h
    cases p
    case agg cs => unfold Rep at hp ⊢; obtain ⟨vs, e, hr⟩ := hp; exact ⟨vs, e, list _ _ h hr⟩
    case tup cs => unfold Rep at hp ⊢; obtain ⟨vs, e, hr⟩ := hp; exact ⟨vs, e, list _ _ h hr⟩
    all_goals first | (cases h; done) | (unfold Rep at hp ⊢; exact hp)
theorem Keep.of_chg {w w' : World} {Y : Nat → Prop} {σ : Sg} (h : Chg w w') : Keep w w' Y Y σ σ := ⟨fun k hk _ => h.block k hk, fun _ _ h => h, h.size, SgLe.refl _⟩
theorem SW.chgd {T : Tab} {C : Ctx T} {w w' : World} {Y : Nat → Prop} {σ : Sg} {ps : List PV} {vs : List Value} {st : St} {n : Nat} (H : SW C w Y σ ps vs st n) (h : Chg w w') : SW C w' Y σ ps vs st n := by
  have K : Keep w w' Y Y σ σ := Keep.of_chg h
  refine ⟨RepL.keep _ K _ H.vals, ⟨fun b x hb => ?_, H.store.inj⟩, H.next, fun k hk => Nat.lt_of_lt_of_le (H.yold k hk) h.size, H.y0, H.c0, H.yshr, ?_, H.own, H.glob.keep K.none, H.fix, H.nest.heap h.size h.block⟩
  · rcases H.store.blk b x hb with ⟨l, hl, hB⟩ | hn
    · exact .inl ⟨l, hl, BlkRep.keep K (h.block _ hB.lt) Iff.rfl hB⟩
    · exact .inr hn
  · exact ⟨by rw [h.os]; exact H.chg.os, by rw [h.tape]; exact H.chg.tape, by rw [h.output]; exact H.chg.output, Nat.le_trans H.chg.size h.size, fun k hk hM => by rw [h.block k (Nat.lt_of_lt_of_le hk H.chg.size)]; exact H.chg.block k hk hM⟩
theorem Rep.of_no {w : World} {Y : Nat → Prop} {σ : Sg} {p : PV} {v : Value} (h : Rep w Y noSg p v) : Rep w Y σ p v :=
  Rep.keep p ⟨fun _ _ _ => rfl, fun _ _ h => h, Nat.le_refl _, fun _ _ h => by cases h⟩ v h
def CallSem {T : Tab} (P : Program) (k : Nat) (C : Ctx T) (Y : Nat → Prop) (σ : Sg) (w : World) (cargs : List Value) (ps : List PV) (vs : List Value) (st : St) (n : Nat) (v : PV) : Prop :=
  (callFunc k cargs.toArray).run P w = .ok (.enter k cargs.toArray) w ∧
  Calls P k cargs.toArray w fun e w' => ∃ cv, e = .returned cv ∧ SW C w' Y σ ps vs st n ∧ Rep w' Y σ v cv
theorem call_flat {P : Program} {T : Tab} {C : Ctx T} {w : World} {Y : Nat → Prop} {σ : Sg} {ps : List PV} {vs : List Value} {st : St} {n : Nat} (H : SW C w Y σ ps vs st n) {lk : Nat → Option Blk} (hlk : ∀ b x, lk b = some x → lkS st b = some x) {k d : Nat} {args as : List PV} {cargs : List Value} {v : PV}
    (hm : mapO (frz (Sig.std P T) lk d) args = some as) (hr : RepL w Y σ args cargs) (hF : Fn P T.gl k as (fun u => u = v)) {f : Nat} (hf : flatV f v = true) : CallSem P k C Y σ w cargs ps vs st n v := by
  obtain ⟨h1, h2⟩ := hF w (fun _ => False) cargs (H.glob.keep ⟨fun _ _ _ => rfl, fun _ _ h => h.elim, Nat.le_refl _, SgLe.refl _⟩) (fun _ h => h.elim) (mapO_frz H.store hlk (fun _ h => h.elim) (fun _ _ _ _ _ h => h) (fun b sz rows hb r row c h sz' es h1 h2 h3 => by
    have hO := H.nest.rep _ _ _ _ _ _ ⟨sz, rows, row, hlk _ _ hb, h1, h2, h3⟩
    exact ⟨⟨hO.lt, fun h => h⟩, hO.rows⟩) hm hr)
  refine ⟨h1, Calls.mono h2 fun e w' h => ?_⟩
  obtain ⟨cv, u, rfl, rfl, hrep, hchg⟩ := h
  exact ⟨cv, rfl, H.chgd hchg, flat_rep f _ _ hf hrep⟩
theorem CallT.of_sem {P : Program} {T : Tab} {k : Nat} {args : List PV} {E : Env} {K : PV → Env → Prop} {v : PV} (hK : K v E)
    (h : ∀ (C : Ctx T) Y σ w vs cargs, SW C w Y σ E.tmps vs E.st E.next → RepL w Y σ args cargs → CallSem P k C Y σ w cargs E.tmps vs E.st E.next v) : CallT P T k args E K := by
  intro C Y σ w vs cargs H hr
  obtain ⟨h1, h2⟩ := h C Y σ w vs cargs H hr
  refine ⟨h1, Calls.mono h2 fun e w' hh => ?_⟩
  obtain ⟨cv, rfl, H', hv⟩ := hh
  exact ⟨cv, v, E, Y, σ, rfl, hK, H', hv⟩
end Go.Pv
namespace Go.Pv
open Go
theorem hasN_iff : ∀ (l : List Nat) (c : Nat), hasN l c = true ↔ c ∈ l
  | [], c => by simp [hasN]
  | b :: l, c => by
    simp only [hasN]
    by_cases h : b = c
    · subst h; simp
    · rw [beqN h]; simp only [cond_false, hasN_iff l c, List.mem_cons]
      constructor
      · intro hh; exact .inr hh
      · rintro (hh | hh)
        · exact absurd hh.symm h
        · exact hh
theorem snocN_eq : ∀ (l : List Nat) (c : Nat), snocN l c = l ++ [c]
  | [], c => rfl
  | b :: l, c => by simp [snocN, snocN_eq l c]
theorem lenNs_eq : ∀ l : List Nat, lenNs l = l.length
  | [] => rfl
  | _ :: l => by simp [lenNs, lenNs_eq l]
theorem getNs_eq : ∀ (l : List Nat) (i : Nat), getNs l i = l[i]?
  | [], i => by simp [getNs]
  | b :: l, 0 => by simp [getNs]
  | b :: l, i + 1 => by simp [getNs, getNs_eq l i]
theorem appN_eq : ∀ l m : List Nat, appN l m = l ++ m
  | [], m => rfl
  | b :: l, m => by simp [appN, appN_eq l m]
theorem upN_get : ∀ (n i j : Nat), (upN i n)[j]? = if j < n then some (i + j) else none
  | 0, i, j => by simp [upN]
  | n + 1, i, 0 => by simp [upN]
  | n + 1, i, j + 1 => by
    simp only [upN, List.getElem?_cons_succ, upN_get n (i + 1) j]
    by_cases h : j < n
    · rw [if_pos h, if_pos (by omega)]; congr 1; omega
    · rw [if_neg h, if_neg (by omega)]
theorem upN_len : ∀ (n i : Nat), (upN i n).length = n
  | 0, i => rfl
  | n + 1, i => by simp [upN, upN_len n (i + 1)]
theorem upN_mem {n i b : Nat} (h : b ∈ upN i n) : i ≤ b ∧ b < i + n := by
  obtain ⟨j, hj⟩ := List.getElem?_of_mem h
  rw [upN_get] at hj
  split at hj
  · cases hj; omega
  · cases hj
theorem upN_nodup : ∀ (n i : Nat), (upN i n).Nodup
  | 0, i => by simp [upN]
  | n + 1, i => by
    simp only [upN, List.nodup_cons]
    exact ⟨fun h => by have := upN_mem h; omega, upN_nodup n (i + 1)⟩
theorem nodN_nodup : ∀ l : List Nat, nodN l = true → l.Nodup
  | [], _ => by simp
  | b :: l, h => by
    simp only [nodN] at h
    cases hb : hasN l b with
    | true => rw [hb] at h; cases h
    | false =>
      rw [hb] at h
      rw [List.nodup_cons]
      exact And.intro (fun hm => by rw [(hasN_iff l b).2 hm] at hb; cases hb) (nodN_nodup l h)
theorem ixN_get : ∀ (l : List Nat) (b i : Nat), ixN l b = some i → l[i]? = some b
  | [], b, i, h => by simp [ixN] at h
  | c :: l, b, i, h => by
    simp only [ixN] at h
    by_cases hc : c = b
    · subst hc; simp at h; subst h; simp
    · rw [beqN hc] at h
      simp only [cond_false] at h
      split at h
      · rename_i j hj; cases h; simpa using ixN_get l b j hj
      · cases h
theorem mapV_eq (f : PV → PV) : ∀ l, mapV f l = l.map f
  | [] => rfl
  | x :: l => by simp [mapV, mapV_eq f l]
theorem nodup_get {l : List Nat} (h : l.Nodup) {i j b : Nat} (hi : l[i]? = some b) (hj : l[j]? = some b) : i = j := by
  have h1 : i < l.length := by
    by_cases hh : i < l.length
    · exact hh
    · rw [List.getElem?_eq_none (Nat.le_of_not_lt hh)] at hi; cases hi
  exact (List.getElem?_inj h1 h).1 (by rw [hi, hj])
theorem foldN_ok {f : List Nat → PV → List Nat} (hf : ∀ acc v, acc.Nodup → (f acc v).Nodup ∧ ∃ s, f acc v = acc ++ s) : ∀ (vs : List PV) (acc : List Nat), acc.Nodup → (foldN f acc vs).Nodup ∧ ∃ s, foldN f acc vs = acc ++ s
  | [], acc, h => ⟨h, [], by simp [foldN]⟩
  | v :: vs, acc, h => by
    obtain ⟨h1, s, h2⟩ := hf acc v h
    obtain ⟨h3, s', h4⟩ := foldN_ok hf vs (f acc v) h1
    exact ⟨h3, s ++ s', by simp only [foldN]; rw [h4, h2, List.append_assoc]⟩
theorem namV_ok (st : St) : ∀ (d : Nat) (acc : List Nat) (v : PV), acc.Nodup → (namV st d acc v).Nodup ∧ ∃ s, namV st d acc v = acc ++ s
  | 0, acc, v, h => ⟨h, [], by simp [namV]⟩
  | d + 1, acc, v, h => by
    have fold := fun (vs : List PV) (acc : List Nat) (h : acc.Nodup) => foldN_ok (f := namV st d) (fun acc v => namV_ok st d acc v) vs acc h
    have one : ∀ b, (bif hasN acc b then acc else snocN acc b).Nodup ∧ ∃ s, (bif hasN acc b then acc else snocN acc b) = acc ++ s := by
      intro b
      cases hb : hasN acc b with
      | true => exact ⟨h, [], by simp⟩
      | false =>
        simp only [cond_false, snocN_eq]
        exact ⟨by rw [List.nodup_append]; exact ⟨h, by simp, fun a ha c hc => by simp at hc; subst hc; intro e; subst e; rw [(hasN_iff acc a).2 ha] at hb; cases hb⟩, [b], rfl⟩
    unfold namV
    split
    · exact one _
    · exact one _
    · exact one _
    · exact one _
    · rename_i b c
      have h1 := one b
      cases hb : hasN acc b with
      | true => exact ⟨h, [], by simp⟩
      | false =>
        rw [hb] at h1
        simp only [cond_false] at h1 ⊢
        split
        · rename_i row _
          obtain ⟨h2, s, h3⟩ := fold row _ h1.1
          obtain ⟨_, s', h4⟩ := h1
          exact ⟨h2, s' ++ s, by rw [h3, h4, List.append_assoc]⟩
        · exact h1
    · exact fold _ _ h
    · exact fold _ _ h
    · exact fold _ _ h
    · exact ⟨h, [], by simp⟩
theorem rowsN_ok (st : St) : ∀ (l acc : List Nat), acc.Nodup → (rowsN st acc l).Nodup ∧ ∃ s, rowsN st acc l = acc ++ s
  | [], acc, h => ⟨h, [], by simp [rowsN]⟩
  | b :: l, acc, h => by
    unfold rowsN
    split
    · rename_i ro row _
      obtain ⟨h1, s, h2⟩ := foldN_ok (f := namV st 8) (fun acc v => namV_ok st 8 acc v) row acc h
      obtain ⟨h3, s', h4⟩ := rowsN_ok st l _ h1
      exact ⟨h3, s ++ s', by rw [h4, h2, List.append_assoc]⟩
    · exact rowsN_ok st l acc h
theorem seenN_ok (m : Nat) (st : St) (vs : List PV) : (seenN m st vs).Nodup ∧ (∀ i, i < m → (seenN m st vs)[i]? = some i) ∧ m ≤ (seenN m st vs).length := by
  obtain ⟨h1, s, h2⟩ := rowsN_ok st (upN 0 m) (upN 0 m) (upN_nodup m 0)
  obtain ⟨h3, s', h4⟩ := foldN_ok (f := namV st 8) (fun acc v => namV_ok st 8 acc v) vs _ h1
  have e : seenN m st vs = upN 0 m ++ (s ++ s') := by unfold seenN; rw [h4, h2, List.append_assoc]
  refine ⟨h3, fun i hi => ?_, ?_⟩
  · rw [e, List.getElem?_append_left (by rw [upN_len]; exact hi), upN_get, if_pos hi]; simp
  · rw [e, List.length_append, upN_len]; omega
theorem RepL.map {w : World} {Y : Nat → Prop} {σ σ' : Sg} {f : PV → PV} (hf : ∀ p v, Rep w Y σ p v → Rep w Y σ' (f p) v) : ∀ (ps : List PV) (vs : List Value), RepL w Y σ ps vs → RepL w Y σ' (ps.map f) vs
  | [], vs, h => by unfold RepL at h; subst h; simp [RepL]
  | p :: ps, vs, h => by
    unfold RepL at h; obtain ⟨v, vs', rfl, h1, h2⟩ := h
    simp only [List.map_cons]; unfold RepL; exact ⟨v, vs', rfl, hf _ _ h1, RepL.map hf ps vs' h2⟩
theorem RepC.map {w : World} {Y : Nat → Prop} {σ σ' : Sg} {b : Nat} {f : PV → PV} (hf : ∀ p v, Rep w Y σ p v → Rep w Y σ' (f p) v) : ∀ (ps : List PV) (o : Nat), RepC w Y σ b ps o → RepC w Y σ' b (ps.map f) o
  | [], o, h => by simp [RepC]
  | p :: ps, o, h => by
    unfold RepC at h; obtain ⟨⟨v, hc, h1⟩, h2⟩ := h
    simp only [List.map_cons]; unfold RepC; exact ⟨⟨v, hc, hf _ _ h1⟩, RepC.map hf ps (o + 1) h2⟩
theorem renV_sound {w : World} {Y : Nat → Prop} {σ σ' : Sg} {f : Nat → Option Nat} (hf : ∀ b i l, f b = some i → σ b = some l → σ' i = some l) : ∀ (d : Nat) (p : PV) (v : Value), Rep w Y σ p v → Rep w Y σ' (renV f d p) v
  | 0, p, v, _ => by simp [renV, Rep]
  | d + 1, p, v, h => by
    have ih := renV_sound (w := w) (Y := Y) hf d
    unfold renV
    cases p
    case os b r n =>
      simp only
      cases e : f b with
      | none => simp [Rep]
      | some i =>
        unfold Rep at h ⊢
        rcases h with ⟨l, cap, hl, h⟩ | h
        · exact .inl ⟨l, cap, hf _ _ _ e hl, h⟩
        · exact .inr h
    case lv b c =>
      simp only
      cases e : f b with
      | none => simp [Rep]
      | some i => unfold Rep at h ⊢; obtain ⟨l, hl, h⟩ := h; exact ⟨l, hf _ _ _ e hl, h⟩
    case lp b r c =>
      simp only
      cases e : f b with
      | none => simp [Rep]
      | some i => unfold Rep at h ⊢; obtain ⟨l, hl, h⟩ := h; exact ⟨l, hf _ _ _ e hl, h⟩
    case bo b r c hd sz n =>
      simp only
      cases e : f b with
      | none => simp [Rep]
      | some i => unfold Rep at h ⊢; exact h
    case np b r c hd sz j k =>
      simp only
      cases e : f b with
      | none => simp [Rep]
      | some i => unfold Rep at h ⊢; exact h
    case agg cs => simp only [mapV_eq]; unfold Rep at h ⊢; obtain ⟨vs, e, h⟩ := h; exact ⟨vs, e, h.map ih⟩
    case tup cs => simp only [mapV_eq]; unfold Rep at h ⊢; obtain ⟨vs, e, h⟩ := h; exact ⟨vs, e, h.map ih⟩
    case fn k cs => simp only [mapV_eq]; unfold Rep at h ⊢; obtain ⟨vs, e, h⟩ := h; exact ⟨vs, e, h.map ih⟩
    all_goals (simp only; unfold Rep at h ⊢; exact h)
theorem renB_sound {w : World} {Y : Nat → Prop} {σ σ' : Sg} {f : Nat → Option Nat} (hf : ∀ b i l, f b = some i → σ b = some l → σ' i = some l) {l : Loc} {x y : Blk} (hx : renB f (some x) = some y) (h : BlkRep w Y σ l x) : BlkRep w Y σ' l y := by
  cases x with
  | var ro row =>
    simp only [renB, Option.some.injEq] at hx; subst hx
    unfold BlkRep at h ⊢
    rw [mapV_eq]
    obtain ⟨h1, h2, h3, h4, h5⟩ := h
    exact ⟨h1, by simpa using h2, by simpa using h3, h4.map (renV_sound hf 8) _ _, h5⟩
  | arr ro sz rows =>
    simp only [renB, Option.some.injEq] at hx; subst hx
    unfold BlkRep at h ⊢; exact h
  | nar sz rows =>
    simp only [renB, Option.some.injEq] at hx; subst hx
    unfold BlkRep at h ⊢; exact h
theorem renB_nar {f : Nat → Option Nat} {x : Blk} {sz : Nat} {rows : List (List PV)} (h : renB f (some x) = some (.nar sz rows)) : x = .nar sz rows := by
  cases x with
  | var ro row => simp [renB] at h
  | arr ro s rs => simp [renB] at h
  | nar s rs => simpa [renB] using h
theorem renB_arr {f : Nat → Option Nat} {ro : Bool} {sz : Nat} : ∀ {x y : Blk}, renB f (some x) = some y → x = .arr ro sz [] → y = .arr ro sz [] := by
  intro x y h e; subst e; simp [renB] at h; exact h.symm
theorem renB_some {f : Nat → Option Nat} {o : Option Blk} {y : Blk} (h : renB f o = some y) : ∃ x, o = some x := by
  cases o with
  | none => simp [renB] at h
  | some x => exact ⟨x, rfl⟩
theorem lkS_renS (f : Nat → Option Nat) (st : St) : ∀ (ρ : List Nat) (i j : Nat), lkS (renS f st i ρ) j = if i ≤ j then (match ρ[j - i]? with | some b => renB f (lkS st b) | none => none) else none
  | [], i, j => by simp [renS, lkS]
  | b :: ρ, i, j => by
    simp only [renS, lkS]
    by_cases h : i = j
    · subst h; simp
    · rw [beqN h]
      simp only [cond_false, lkS_renS f st ρ (i + 1) j]
      by_cases h2 : i ≤ j
      · rw [if_pos h2, if_pos (by omega), show j - i = (j - (i + 1)) + 1 by omega]; simp
      · rw [if_neg h2, if_neg (by omega)]
theorem SW.canR {T : Tab} {C : Ctx T} {w : World} {Y : Nat → Prop} {σ : Sg} {ps : List PV} {vs : List Value} {st : St} {n : Nat} (H : SW C w Y σ ps vs st n) {ρ : List Nat} (hnd : ρ.Nodup) (hpre : ∀ i, i < T.pas → ρ[i]? = some i) (hlen : T.pas ≤ ρ.length) :
    ∃ σ', SW C w Y σ' (mapV (renV (ixN ρ) 8) ps) vs (renS (ixN ρ) st 0 ρ) (lenNs ρ) ∧ ∀ p v d, Rep w Y σ p v → Rep w Y σ' (renV (ixN ρ) d p) v := by
  let σ' : Sg := fun i => match ρ[i]? with | some b => σ b | none => none
  have hf : ∀ b i l, ixN ρ b = some i → σ b = some l → σ' i = some l := by
    intro b i l h1 h2
    show (match ρ[i]? with | some b => σ b | none => none) = some l
    rw [ixN_get _ _ _ h1]; exact h2
  have look : ∀ i x, lkS (renS (ixN ρ) st 0 ρ) i = some x → ∃ b y, ρ[i]? = some b ∧ lkS st b = some y ∧ renB (ixN ρ) (some y) = some x ∧ σ' i = σ b := by
    intro i x hx
    rw [lkS_renS, if_pos (Nat.zero_le _), Nat.sub_zero] at hx
    split at hx
    · rename_i b hb
      obtain ⟨y, hy⟩ := renB_some hx
      rw [hy] at hx
      refine ⟨b, y, hb, hy, hx, ?_⟩
      show (match ρ[i]? with | some b => σ b | none => none) = _
      rw [hb]
    · cases hx
  refine ⟨σ', ⟨by rw [mapV_eq]; exact H.vals.map (renV_sound hf 8), ⟨fun i x hx => ?_, fun i i' x x' l l' hx hx' hl hl' e => ?_⟩, fun i hi => ?_, H.yold, H.y0, H.c0, H.yshr, H.chg, fun i x l hx hl => ?_, H.glob, ?_, ?_⟩, fun p v d h => renV_sound hf d p v h⟩
  · obtain ⟨b, y, h1, h2, h3, h4⟩ := look i x hx
    rcases H.store.blk b y h2 with ⟨l, hl, hB⟩ | ⟨hn, ro, sz, hy⟩
    · exact .inl ⟨l, by rw [h4]; exact hl, renB_sound hf h3 hB⟩
    · exact .inr ⟨by rw [h4]; exact hn, ro, sz, renB_arr h3 hy⟩
  · obtain ⟨b, y, h1, h2, h3, h4⟩ := look i x hx
    obtain ⟨b', y', h1', h2', h3', h4'⟩ := look i' x' hx'
    rw [h4] at hl; rw [h4'] at hl'
    have := H.store.inj b b' y y' l l' h2 h2' hl hl' e
    subst this
    exact nodup_get hnd h1 h1'
  · show (match ρ[i]? with | some b => σ b | none => none) = none
    rw [List.getElem?_eq_none (by rw [lenNs_eq] at hi; exact hi)]
  · obtain ⟨b, y, h1, h2, h3, h4⟩ := look i x hx
    rw [h4] at hl
    exact H.own b y l h2 hl
  · refine ⟨by rw [lenNs_eq]; exact hlen, fun b hb => ?_⟩
    show (match ρ[b]? with | some b => σ b | none => none) = _
    rw [hpre b hb]; exact H.fix.2 b hb
  · have ow : ∀ {i r c h sz es}, OwAt (renS (ixN ρ) st 0 ρ) i r c h sz es → ∃ b, ρ[i]? = some b ∧ OwAt st b r c h sz es := by
      rintro i r c h sz es ⟨sz0, rows, row, h1, h2⟩
      obtain ⟨b, y, g1, g2, g3, _⟩ := look i _ h1
      have := renB_nar g3
      subst this
      exact ⟨b, g1, sz0, rows, row, g2, h2⟩
    refine ⟨fun i r c h sz es hk => ?_, fun i r c h sz es hk => ?_, fun i r c h sz es i' r' c' h' sz' es' hk hk' e => ?_, fun i r c h sz es i' x l hk hx hl => ?_⟩
    · obtain ⟨b, _, hb⟩ := ow hk; exact H.nest.rep _ _ _ _ _ _ hb
    · obtain ⟨b, _, hb⟩ := ow hk; exact H.nest.old _ _ _ _ _ _ hb
    · obtain ⟨b, h1, hb⟩ := ow hk
      obtain ⟨b', h1', hb'⟩ := ow hk'
      obtain ⟨e1, e2, e3⟩ := H.nest.one _ _ _ _ _ _ _ _ _ _ _ _ hb hb' e
      subst e1
      exact ⟨nodup_get hnd h1 h1', e2, e3⟩
    · obtain ⟨b, _, hb⟩ := ow hk
      obtain ⟨b', y, _, g2, _, g4⟩ := look i' x hx
      rw [g4] at hl
      exact H.nest.sep _ _ _ _ _ _ _ _ _ hb g2 hl
theorem maskL_rep {w : World} {Y : Nat → Prop} {σ : Sg} : ∀ (ps : List PV) (keep : List Nat) (i : Nat) (vs : List Value), RepL w Y σ ps vs → RepL w Y σ (maskL keep i ps) vs
  | [], keep, i, vs, h => by simpa [maskL] using h
  | p :: ps, [], i, vs, h => by
    unfold RepL at h; obtain ⟨v, vs', rfl, h1, h2⟩ := h
    simp only [maskL]; unfold RepL; exact ⟨v, vs', rfl, by simp [Rep], maskL_rep ps [] _ vs' h2⟩
  | p :: ps, k :: ks, i, vs, h => by
    unfold RepL at h; obtain ⟨v, vs', rfl, h1, h2⟩ := h
    simp only [maskL]
    cases Nat.beq k i with
    | true => simp only [cond_true]; unfold RepL; exact ⟨v, vs', rfl, h1, maskL_rep ps ks _ vs' h2⟩
    | false => simp only [cond_false]; unfold RepL; exact ⟨v, vs', rfl, by simp [Rep], maskL_rep ps (k :: ks) _ vs' h2⟩
theorem ent_canE {T : Tab} (keep : List Nat) (E : Env) : Ent T E (canE T.pas keep E) := by
  intro C a w hA
  obtain ⟨⟨Y, σ, H⟩, hd⟩ := hA
  have H1 := H.vals' (maskL_rep _ keep 0 _ H.vals)
  obtain ⟨h1, h2, h3⟩ := seenN_ok T.pas E.st (maskL keep 0 E.tmps)
  obtain ⟨σ', H2, _⟩ := H1.canR h1 h2 h3
  exact ⟨⟨Y, σ', H2⟩, hd⟩
theorem lkS_bakO (f : Nat → Option Nat) (st1 : St) : ∀ (τ : List Nat) (i : Nat) (st : St) (b : Nat), τ.Nodup → (∀ j, τ[j]? = some b → lkS (bakO f st1 i τ st) b = renB f (lkS st1 (i + j))) ∧ (b ∉ τ → lkS (bakO f st1 i τ st) b = lkS st b)
  | [], i, st, b, _ => ⟨fun j h => by simp at h, fun _ => rfl⟩
  | c :: τ, i, st, b, h => by
    rw [List.nodup_cons] at h
    obtain ⟨h1, h2⟩ := lkS_bakO f st1 τ (i + 1) (inS st c (renB f (lkS st1 i))) b h.2
    simp only [bakO]
    refine ⟨fun j hj => ?_, fun hb => ?_⟩
    · cases j with
      | zero =>
        simp at hj; subst hj
        rw [h2 h.1, lkS_inS, if_pos rfl]; rfl
      | succ j =>
        rw [h1 j (by simpa using hj)]; congr 2; omega
    · simp only [List.mem_cons, not_or] at hb
      rw [h2 hb.2, lkS_inS, if_neg fun e => hb.1 e.symm]
theorem ltN_spec {n : Nat} : ∀ l, ltN n l = true → ∀ b ∈ l, b < n
  | [], _, b, h => by cases h
  | c :: l, h, b, hb => by
    simp only [ltN, Bool.and_eq_true, Nat.blt_eq] at h
    rcases List.mem_cons.1 hb with rfl | hb
    · exact h.1
    · exact ltN_spec l h.2 b hb
theorem call_W {P : Program} {T : Tab} {C : Ctx T} {w : World} {Y : Nat → Prop} {σ : Sg} {E : Env} {vs : List Value} {n0 N : Nat} (H : SW C w Y σ E.tmps vs E.st n0) {k : Nat} {args : List PV} {cargs : List Value} {ρ : List Nat} {v : PV} {st1 : St} {n1 : Nat}
    (hnd : nodN ρ = true) (hlt : ltN E.next ρ = true) (hnn : noNar (renS (ixN ρ) E.st 0 ρ) = true) (hid : T.pas ≤ E.next) (hwin : ∀ b, E.next ≤ b → b < E.next + (n1 - lenNs ρ) → σ b = none) (hN : E.next + (n1 - lenNs ρ) ≤ N ∧ n0 ≤ N) (hr : RepL w Y σ args cargs)
    (hF : FnS P T.gl k (mapV (renV (ixN ρ) 8) args) (renS (ixN ρ) E.st 0 ρ) (lenNs ρ) (fun u st n => u = v ∧ st = st1 ∧ n = n1)) :
    (callFunc k cargs.toArray).run P w = .ok (.enter k cargs.toArray) w ∧
    Calls P k cargs.toArray w fun e w' => ∃ cv Y' σ', e = .returned cv ∧ SW C w' Y' σ' E.tmps vs (bakE ρ E st1 n1).st N ∧ Rep w' Y' σ' (renV (bakN ρ E.next) 8 v) cv ∧ ∀ b, (b < E.next ∨ n1 ≤ lenNs ρ + (b - E.next)) → σ' b = σ b := by
  have hnd := nodN_nodup _ hnd
  have hlt := ltN_spec _ hlt
  let σc : Sg := fun i => match ρ[i]? with | some b => σ b | none => none
  have hσc : ∀ i b, ρ[i]? = some b → σc i = σ b := by
    intro i b h
    show (match ρ[i]? with | some b => σ b | none => none) = _
    rw [h]
  have hf : ∀ b i l, ixN ρ b = some i → σ b = some l → σc i = some l := by
    intro b i l h1 h2
    rw [hσc _ _ (ixN_get _ _ _ h1)]; exact h2
  have look : ∀ i x, lkS (renS (ixN ρ) E.st 0 ρ) i = some x → ∃ b y, ρ[i]? = some b ∧ lkS E.st b = some y ∧ renB (ixN ρ) (some y) = some x ∧ σc i = σ b := by
    intro i x hx
    rw [lkS_renS, if_pos (Nat.zero_le _), Nat.sub_zero] at hx
    split at hx
    · rename_i b hb
      obtain ⟨y, hy⟩ := renB_some hx
      rw [hy] at hx
      exact ⟨b, y, hb, hy, hx, hσc _ _ hb⟩
    · cases hx
  have hst0 : StRep w Y σc (renS (ixN ρ) E.st 0 ρ) := by
    refine ⟨fun i x hx => ?_, fun i i' x x' l l' hx hx' hl hl' e => ?_⟩
    · obtain ⟨b, y, h1, h2, h3, h4⟩ := look i x hx
      rcases H.store.blk b y h2 with ⟨l, hl, hB⟩ | ⟨hn, ro, sz, hy⟩
      · exact .inl ⟨l, by rw [h4]; exact hl, renB_sound hf h3 hB⟩
      · exact .inr ⟨by rw [h4]; exact hn, ro, sz, renB_arr h3 hy⟩
    · obtain ⟨b, y, h1, h2, h3, h4⟩ := look i x hx
      obtain ⟨b', y', h1', h2', h3', h4'⟩ := look i' x' hx'
      rw [h4] at hl; rw [h4'] at hl'
      have := H.store.inj b b' y y' l l' h2 h2' hl hl' e
      subst this
      exact nodup_get hnd h1 h1'
  have hnext : ∀ b, lenNs ρ ≤ b → σc b = none := by
    intro i hi
    show (match ρ[i]? with | some b => σ b | none => none) = none
    rw [List.getElem?_eq_none (by rw [lenNs_eq] at hi; exact hi)]
  have inst : ∀ k, InSt σc (renS (ixN ρ) E.st 0 ρ) k → ∃ b y l, b ∈ ρ ∧ lkS E.st b = some y ∧ σ b = some l ∧ l.cb = k := by
    rintro k ⟨i, x, l, hx, hl, rfl⟩
    obtain ⟨b, y, h1, h2, h3, h4⟩ := look i x hx
    exact ⟨b, y, l, List.mem_of_getElem? h1, h2, by rw [← h4]; exact hl, rfl⟩
  obtain ⟨hent, hcall⟩ := hF w Y σc cargs H.glob H.yold hnext (by rw [mapV_eq]; exact hr.map (renV_sound hf 8)) hst0 hnn
  refine ⟨hent, Calls.mono hcall fun e w' hh => ?_⟩
  obtain ⟨cv, u, st', n', Y', σ', rfl, ⟨rfl, rfl, rfl⟩, H'⟩ := hh
  have hm : lenNs ρ ≤ n' := H'.fix.1
  have hfix : ∀ i, i < lenNs ρ → σ' i = σc i := H'.fix.2
  have hlen := lenNs_eq ρ
  let σn : Sg := fun b => if b < E.next ∨ n' ≤ lenNs ρ + (b - E.next) then σ b else σ' (lenNs ρ + (b - E.next))
  have hout : ∀ b, (b < E.next ∨ n' ≤ lenNs ρ + (b - E.next)) → σn b = σ b := fun b h => by
    show (if _ then σ b else _) = _
    rw [if_pos h]
  have hbak : ∀ i b, i < n' → bakN ρ E.next i = some b → σn b = σ' i := by
    intro i b hin h
    unfold bakN at h
    rw [getNs_eq] at h
    split at h
    · rename_i c hc
      have hcb := Option.some.inj h
      subst hcb
      have hi : i < lenNs ρ := by
        rw [hlen]
        by_cases hh : i < ρ.length
        · exact hh
        · rw [List.getElem?_eq_none (Nat.le_of_not_lt hh)] at hc; cases hc
      rw [hout c (.inl (hlt c (List.mem_of_getElem? hc))), hfix i hi, hσc i c hc]
    · rename_i hc
      cases h
      have hi : lenNs ρ ≤ i := by
        rw [hlen]
        by_cases hh : i < ρ.length
        · rw [List.getElem?_eq_getElem hh] at hc; cases hc
        · omega
      show (if _ then _ else σ' _) = _
      rw [if_neg (by omega)]; congr 1; omega
  have hin' : ∀ i l, σ' i = some l → i < n' := fun i l h => by
    by_cases hh : i < n'
    · exact hh
    · rw [H'.next i (by omega)] at h; cases h
  have hfb : ∀ i b l, bakN ρ E.next i = some b → σ' i = some l → σn b = some l := fun i b l h1 h2 => by rw [hbak i b (hin' i l h2) h1]; exact h2
  have excl : ∀ k, k < w.heap.size → Y' k → Y k := by
    intro k hk hy
    rcases H'.yshr k hy hk with h | h
    · exact h.1
    · exact h.1
  have K : Keep w w' Y Y' σ σn := by
    refine ⟨fun k hk hy => H'.chg.block k hk fun h => hy h.1, excl, H'.chg.size, fun b l hl => ?_⟩
    rw [hout b ?_]; · exact hl
    by_cases hh : b < E.next ∨ n' ≤ lenNs ρ + (b - E.next)
    · exact hh
    · rw [hwin b (by omega) (by omega)] at hl; cases hl
  have hτ : (ρ ++ upN E.next (n' - lenNs ρ)).Nodup := by
    rw [List.nodup_append]
    refine ⟨hnd, upN_nodup _ _, fun a ha b hb e => ?_⟩
    have := hlt a ha
    have := (upN_mem hb).1
    omega
  have hτi : ∀ i b, (ρ ++ upN E.next (n' - lenNs ρ))[i]? = some b → bakN ρ E.next i = some b := by
    intro i b h
    unfold bakN
    rw [getNs_eq]
    by_cases hh : i < ρ.length
    · rw [List.getElem?_append_left hh] at h; rw [h]
    · rw [List.getElem?_append_right (by omega), upN_get] at h
      rw [List.getElem?_eq_none (by omega)]
      split at h
      · cases h; rw [hlen]
      · cases h
  have hnot : ∀ b, b ∉ (ρ ++ upN E.next (n' - lenNs ρ)) → b ∉ ρ ∧ (b < E.next ∨ n' ≤ lenNs ρ + (b - E.next)) := by
    intro b hb
    rw [List.mem_append, not_or] at hb
    refine ⟨hb.1, ?_⟩
    by_cases h1 : b < E.next
    · exact .inl h1
    · refine .inr ?_
      by_cases h2 : b - E.next < n' - lenNs ρ
      · exact absurd (List.mem_of_getElem? (i := b - E.next) (by rw [upN_get, if_pos h2]; congr 1; omega)) hb.2
      · omega
  have lk : ∀ b x, lkS (bakE ρ E st' n').st b = some x → (∃ i y, bakN ρ E.next i = some b ∧ lkS st' i = some y ∧ renB (bakN ρ E.next) (some y) = some x ∧ σn b = σ' i) ∨
      (b ∉ ρ ∧ (b < E.next ∨ n' ≤ lenNs ρ + (b - E.next)) ∧ lkS E.st b = some x) := by
    intro b x hx
    simp only [bakE, appN_eq] at hx
    obtain ⟨h1, h2⟩ := lkS_bakO (bakN ρ E.next) st' (ρ ++ upN E.next (n' - lenNs ρ)) 0 E.st b hτ
    by_cases hb : b ∈ ρ ++ upN E.next (n' - lenNs ρ)
    · obtain ⟨i, hi⟩ := List.getElem?_of_mem hb
      rw [h1 i hi, Nat.zero_add] at hx
      obtain ⟨y, hy⟩ := renB_some hx
      rw [hy] at hx
      have hil : i < n' := by
        have hl : i < (ρ ++ upN E.next (n' - lenNs ρ)).length := by
          by_cases hh : i < (ρ ++ upN E.next (n' - lenNs ρ)).length
          · exact hh
          · rw [List.getElem?_eq_none (Nat.le_of_not_lt hh)] at hi; cases hi
        rw [List.length_append, upN_len] at hl; omega
      exact .inl ⟨i, y, hτi i b hi, hy, hx, hbak i b hil (hτi i b hi)⟩
    · rw [h2 hb] at hx
      exact .inr ⟨(hnot b hb).1, (hnot b hb).2, hx⟩
  have nin : ∀ b x l, b ∉ ρ → lkS E.st b = some x → σ b = some l → ¬ InSt σc (renS (ixN ρ) E.st 0 ρ) l.cb := by
    intro b x l hb hx hl hi
    obtain ⟨b', y, l', h1, h2, h3, h4⟩ := inst _ hi
    have := H.store.inj b' b y x l' l h2 hx h3 hl h4
    subst this; exact hb h1
  have getσ : ∀ b l, (b < E.next ∨ n' ≤ lenNs ρ + (b - E.next)) → σn b = some l → σ b = some l := by
    intro b l h6 hl
    rw [hout b h6] at hl; exact hl
  have owc : ∀ {b r c h sz es}, OwAt (bakE ρ E st' n').st b r c h sz es → (∃ i, bakN ρ E.next i = some b ∧ OwAt st' i r c h sz es) ∨ OwAt E.st b r c h sz es := by
    rintro b r c h sz es ⟨sz0, rows, row, h1, h2⟩
    rcases lk b _ h1 with ⟨i, y, g1, g2, g3, _⟩ | ⟨_, _, g3⟩
    · have := renB_nar g3
      subst this
      exact .inl ⟨i, g1, sz0, rows, row, g2, h2⟩
    · exact .inr ⟨sz0, rows, row, g3, h2⟩
  have notIn : ∀ {b r c h sz es}, OwAt E.st b r c h sz es → ¬ InSt σc (renS (ixN ρ) E.st 0 ρ) h.ν := by
    intro b r c h sz es hk hi
    obtain ⟨b', y, l', h1, h2, h3, h4⟩ := inst _ hi
    exact H.nest.sep _ _ _ _ _ _ _ _ _ hk h2 h3 h4
  have cross : ∀ {i r c h sz es b r' c' h' sz' es'}, OwAt st' i r c h sz es → OwAt E.st b r' c' h' sz' es' → h.ν ≠ h'.ν := by
    intro i r c h sz es b r' c' h' sz' es' hk hk' e
    rcases H'.nest.old _ _ _ _ _ _ hk with g | g
    · have g : w.heap.size ≤ h.ν := g
      have := (H.nest.rep _ _ _ _ _ _ hk').lt
      omega
    · rw [e] at g; exact notIn hk' g
  have nest : Nest C.w0 C.L w' Y' σn (bakE ρ E st' n').st := by
    refine ⟨fun b r c h sz es hk => ?_, fun b r c h sz es hk => ?_, fun b r c h sz es b' r' c' h' sz' es' hk hk' e => ?_, fun b r c h sz es b' x l hk hx hl => ?_⟩
    · rcases owc hk with ⟨i, _, hk⟩ | hk
      · exact H'.nest.rep _ _ _ _ _ _ hk
      · have hN := H.nest.rep _ _ _ _ _ _ hk
        exact hN.keep K.none (H'.chg.block _ hN.lt fun h => notIn hk h.2) (fun h => H'.y0 _ ⟨h, notIn hk⟩)
    · rcases owc hk with ⟨i, _, hk⟩ | hk
      · rcases H'.nest.old _ _ _ _ _ _ hk with h | h
        · exact .inl (Nat.le_trans H.chg.size h)
        · obtain ⟨b', y', l', h5, h6, h7, h8⟩ := inst _ h
          rw [← h8]; exact H.own b' y' l' h6 h7
      · exact H.nest.old _ _ _ _ _ _ hk
    · rcases owc hk with ⟨i, g, hk⟩ | hk <;> rcases owc hk' with ⟨i', g', hk'⟩ | hk'
      · obtain ⟨e1, e2, e3⟩ := H'.nest.one _ _ _ _ _ _ _ _ _ _ _ _ hk hk' e
        subst e1; rw [g] at g'; cases g'
        exact ⟨rfl, e2, e3⟩
      · exact absurd e (cross hk hk')
      · exact absurd e.symm (cross hk' hk)
      · exact H.nest.one _ _ _ _ _ _ _ _ _ _ _ _ hk hk' e
    · rcases owc hk with ⟨i, g, hk⟩ | hk <;> rcases lk b' x hx with ⟨i', y, g1, g2, g3, g4⟩ | ⟨g1, g2, g3⟩
      · exact H'.nest.sep _ _ _ _ _ _ _ _ _ hk g2 (by rw [← g4]; exact hl)
      · have hσ := getσ b' l g2 hl
        intro e
        have hlt' : l.cb < w.heap.size := by
          rcases H.store.blk b' x g3 with ⟨l2, hl2, hB⟩ | ⟨hn, _⟩
          · rw [hσ] at hl2; cases hl2; exact hB.lt
          · rw [hσ] at hn; cases hn
        rcases H'.nest.old _ _ _ _ _ _ hk with h | h
        · have h : w.heap.size ≤ _ := h
          omega
        · rw [← e] at h; exact nin b' x l g1 g3 hσ h
      · intro e
        rcases H'.own i' y l g2 (by rw [← g4]; exact hl) with h | h
        · have h : w.heap.size ≤ l.cb := h
          have := (H.nest.rep _ _ _ _ _ _ hk).lt
          omega
        · rw [e] at h; exact notIn hk h
      · exact H.nest.sep _ _ _ _ _ _ _ _ _ hk g3 (getσ b' l g2 hl)
  refine ⟨cv, Y', σn, rfl, ⟨RepL.keep _ K _ H.vals, ⟨fun b x hx => ?_, fun b b' x x' l l' hx hx' hl hl' e => ?_⟩, fun b hb => ?_, H'.yold, fun k hk => ?_, H.c0, fun k hk hlt => ?_, ?_, fun b x l hx hl => ?_, H'.glob, ?_, nest⟩, ?_⟩
  · rcases lk b x hx with ⟨i, y, h1, h2, h3, h4⟩ | ⟨h1, h2, h3⟩
    · rcases H'.store.blk i y h2 with ⟨l, hl, hB⟩ | ⟨hn, ro, sz, hy⟩
      · exact .inl ⟨l, by rw [h4]; exact hl, renB_sound hfb h3 hB⟩
      · exact .inr ⟨by rw [h4]; exact hn, ro, sz, renB_arr h3 hy⟩
    · rcases H.store.blk b x h3 with ⟨l, hl, hB⟩ | ⟨hn, ro, sz, hy⟩
      · have hni := nin b x l h1 h3 hl
        refine .inl ⟨l, K.sg b l hl, BlkRep.keep K (H'.chg.block _ hB.lt fun h => hni h.2) ⟨excl _ hB.lt, fun h => H'.y0 _ ⟨h, hni⟩⟩ hB⟩
      · exact .inr ⟨by rw [hout b h2]; exact hn, ro, sz, hy⟩
  · have side : ∀ b b' x x' l l', (∃ i y, bakN ρ E.next i = some b ∧ lkS st' i = some y ∧ renB (bakN ρ E.next) (some y) = some x ∧ σn b = σ' i) → (b' ∉ ρ ∧ (b' < E.next ∨ n' ≤ lenNs ρ + (b' - E.next)) ∧ lkS E.st b' = some x') →
        σn b = some l → σn b' = some l' → l.cb = l'.cb → False := by
      rintro b b' x x' l l' ⟨i, y, h1, h2, h3, h4⟩ ⟨h5, h6, h7⟩ hl hl' e
      have hσ : σ b' = some l' := getσ b' l' h6 hl'
      have hlt' : l'.cb < w.heap.size := by
        rcases H.store.blk b' x' h7 with ⟨l2, hl2, hB⟩ | ⟨hn, _⟩
        · rw [hσ] at hl2; cases hl2; exact hB.lt
        · rw [hσ] at hn; cases hn
      rcases H'.own i y l h2 (by rw [← h4]; exact hl) with h | h
      · have h : w.heap.size ≤ l.cb := h
        omega
      · rw [e] at h
        exact nin b' x' l' h5 h7 hσ h
    rcases lk b x hx with h | h <;> rcases lk b' x' hx' with h' | h'
    · obtain ⟨i, y, h1, h2, h3, h4⟩ := h
      obtain ⟨i', y', h1', h2', h3', h4'⟩ := h'
      have := H'.store.inj i i' y y' l l' h2 h2' (by rw [← h4]; exact hl) (by rw [← h4']; exact hl') e
      subst this
      rw [h1] at h1'; cases h1'; rfl
    · exact (side b b' x x' l l' h h' hl hl' e).elim
    · exact (side b' b x' x l' l h' h hl' hl e.symm).elim
    · have get : ∀ b x l, (b ∉ ρ ∧ (b < E.next ∨ n' ≤ lenNs ρ + (b - E.next)) ∧ lkS E.st b = some x) → σn b = some l → σ b = some l := by
        rintro b x l ⟨_, h6, _⟩ hl
        exact getσ b l h6 hl
      exact H.store.inj b b' x x' l l' h.2.2 h'.2.2 (get b x l h hl) (get b' x' l' h' hl') e
  · rw [hout b (by omega)]; exact H.next b (by omega)
  · refine H'.y0 k ⟨H.y0 k hk, fun hi => ?_⟩
    obtain ⟨b, y, l, h1, h2, h3, rfl⟩ := inst k hi
    exact H.away h2 h3 hk
  · exact H.yshr k (excl k (Nat.lt_of_lt_of_le hlt H.chg.size) hk) hlt
  · refine ⟨by rw [H'.chg.os]; exact H.chg.os, by rw [H'.chg.tape]; exact H.chg.tape, by rw [H'.chg.output]; exact H.chg.output, Nat.le_trans H.chg.size H'.chg.size, fun k hk hM => ?_⟩
    rw [H'.chg.block k (Nat.lt_of_lt_of_le hk H.chg.size) fun h => ?_]
    · exact H.chg.block k hk hM
    · obtain ⟨h1, h2⟩ := h
      rcases H.yshr k h1 hk with h3 | h3
      · obtain ⟨b, y, l, h4, h5, h6, rfl⟩ := inst k h2
        exact H.away h5 h6 h3
      · exact hM h3
  · rcases lk b x hx with ⟨i, y, h1, h2, h3, h4⟩ | ⟨h1, h2, h3⟩
    · rcases H'.own i y l h2 (by rw [← h4]; exact hl) with h | h
      · exact .inl (Nat.le_trans H.chg.size h)
      · obtain ⟨b', y', l', h5, h6, h7, h8⟩ := inst _ h
        rw [← h8]; exact H.own b' y' l' h6 h7
    · exact H.own b x l h3 (getσ b l h2 hl)
  · refine ⟨by have := H.fix.1; omega, fun b hb => ?_⟩
    rw [hout b (.inl (by omega))]; exact H.fix.2 b hb
  · have := H'.vals
    unfold RepL at this
    obtain ⟨c, cs, e, h1, h2⟩ := this
    cases e
    exact ⟨renV_sound hfb 8 _ _ h1, hout⟩
theorem call_S {P : Program} {T : Tab} {C : Ctx T} {w : World} {Y : Nat → Prop} {σ : Sg} {E : Env} {vs : List Value} (H : SW C w Y σ E.tmps vs E.st E.next) {k : Nat} {args : List PV} {cargs : List Value} {ρ : List Nat} {v : PV} {st1 : St} {n1 : Nat}
    (hnd : nodN ρ = true) (hlt : ltN E.next ρ = true) (hnn : noNar (renS (ixN ρ) E.st 0 ρ) = true) (hr : RepL w Y σ args cargs)
    (hF : FnS P T.gl k (mapV (renV (ixN ρ) 8) args) (renS (ixN ρ) E.st 0 ρ) (lenNs ρ) (fun u st n => u = v ∧ st = st1 ∧ n = n1)) :
    (callFunc k cargs.toArray).run P w = .ok (.enter k cargs.toArray) w ∧
    Calls P k cargs.toArray w fun e w' => ∃ cv Y' σ', e = .returned cv ∧ SW C w' Y' σ' E.tmps vs (bakE ρ E st1 n1).st (bakE ρ E st1 n1).next ∧ Rep w' Y' σ' (renV (bakN ρ E.next) 8 v) cv := by
  obtain ⟨h1, h2⟩ := call_W (N := E.next + (n1 - lenNs ρ)) H hnd hlt hnn H.fix.1 (fun b hb _ => H.next b hb) ⟨Nat.le_refl _, Nat.le_add_right _ _⟩ hr hF
  refine ⟨h1, Calls.mono h2 fun e w' hh => ?_⟩
  obtain ⟨cv, Y', σ', e1, h3, h4, _⟩ := hh
  exact ⟨cv, Y', σ', e1, h3, h4⟩
theorem lkRo_le {st : St} {b : Nat} {x : Blk} (h : lkRo st b = some x) : lkS st b = some x ∧ x.ro = true := by
  unfold lkRo at h
  split at h
  · rename_i e; cases h; exact ⟨e, rfl⟩
  · rename_i e; cases h; exact ⟨e, rfl⟩
  · cases h
theorem BlkRep.notY {w : World} {Y : Nat → Prop} {σ : Sg} {l : Loc} {x : Blk} (h : BlkRep w Y σ l x) (hr : x.ro = true) : ¬ Y l.cb := by
  cases x with
  | var ro row => unfold BlkRep at h; exact h.2.2.2.2.2 hr
  | arr ro sz rows => unfold BlkRep at h; exact h.2.2.2.2.2.2 hr
  | nar sz rows => cases hr
theorem call_ro {P : Program} {T : Tab} {C : Ctx T} {w : World} {Y : Nat → Prop} {σ : Sg} {ps : List PV} {vs : List Value} {st : St} {n : Nat} (H : SW C w Y σ ps vs st n) {lk : Nat → Option Blk} (hlk : ∀ b x, lk b = some x → lkS st b = some x ∧ x.ro = true)
    {k d : Nat} {args as : List PV} {cargs : List Value} {v : PV}
    (hm : mapO (frz (Sig.std P T) lk d) args = some as) (hr : RepL w Y σ args cargs) (hF : Fn P T.gl k as (fun u => u = v)) : CallSem P k C Y σ w cargs ps vs st n v := by
  have hfree : ∀ b x l, lk b = some x → σ b = some l → ¬ Y l.cb := by
    intro b x l h1 h2
    obtain ⟨h3, h4⟩ := hlk b x h1
    rcases H.store.blk b x h3 with ⟨l', hl', hB⟩ | ⟨hn, _⟩
    · rw [h2] at hl'; cases hl'; exact hB.notY h4
    · rw [h2] at hn; cases hn
  obtain ⟨h1, h2⟩ := hF w Y cargs H.glob H.yold (mapO_frz H.store (fun b x h => (hlk b x h).1) (fun _ h => h) hfree (fun b sz rows hb => by have := (hlk _ _ hb).2; cases this) hm hr)
  refine ⟨h1, Calls.mono h2 fun e w' h => ?_⟩
  obtain ⟨cv, u, rfl, rfl, hrep, hchg⟩ := h
  exact ⟨cv, rfl, H.chgd hchg, hrep.of_no⟩
theorem SW.roS {T : Tab} {C : Ctx T} {w : World} {σ : Sg} {ps : List PV} {vs : List Value} {n : Nat} : ∀ (ρ : List Nat) {Y : Nat → Prop} {st : St}, SW C w Y σ ps vs st n → ∃ Y', SW C w Y' σ ps vs (Pv.roS st ρ) n ∧ ∀ k, Y' k → Y k
  | [], Y, st, H => ⟨Y, H, fun _ h => h⟩
  | b :: l, Y, st, H => by
    unfold Pv.roS
    split
    · rename_i ro row hb
      obtain ⟨Y1, H1, _, h1⟩ := H.freeze hb (.inl ⟨ro, row, rfl, rfl⟩)
      obtain ⟨Y2, H2, h2⟩ := SW.roS l H1
      exact ⟨Y2, H2, fun k h => h1 k (h2 k h)⟩
    · rename_i ro sz rows hb
      obtain ⟨Y1, H1, _, h1⟩ := H.freeze hb (.inr ⟨ro, sz, rows, rfl, rfl⟩)
      obtain ⟨Y2, H2, h2⟩ := SW.roS l H1
      exact ⟨Y2, H2, fun k h => h1 k (h2 k h)⟩
    · exact SW.roS l H
theorem callE_sound {P : Program} {T : Tab} {k : Nat} {args : List PV} {E : Env} {K : PV → Env → Prop} (h : callE (Sig.std P T) k args E K) : CallT P T k args E K := by
  unfold callE at h
  split at h
  · rename_i as hm
    rcases h with ⟨v, hF, hK⟩ | ⟨v, st1, n1, hF, hK⟩ | h
    · exact CallT.of_sem hK fun C Y σ w vs cargs H hr => call_ro H (fun b x h => lkRo_le h) hm hr hF
    · intro C Y σ w vs cargs H hr
      have hfree : ∀ b x l, lkRo E.st b = some x → σ b = some l → ¬ Y l.cb := by
        intro b x l h1 h2
        obtain ⟨h3, h4⟩ := lkRo_le h1
        rcases H.store.blk b x h3 with ⟨l', hl', hB⟩ | ⟨hn, _⟩
        · rw [h2] at hl'; cases hl'; exact hB.notY h4
        · rw [h2] at hn; cases hn
      have hr0 := mapO_frz (P := P) (T := T) H.store (fun b x h => (lkRo_le h).1) (fun _ h => h) hfree (fun b sz rows hb => by have := (lkRo_le hb).2; cases this) hm hr
      have hr1 : RepL w Y σ as cargs := RepL.keep as (σ := noSg) (σ' := σ) ⟨fun _ _ _ => rfl, fun _ _ h => h, Nat.le_refl _, fun b l h => by simp [noSg] at h⟩ _ hr0
      obtain ⟨h3, h4⟩ := call_S (ρ := []) (v := v) (st1 := st1) (n1 := n1) H rfl rfl rfl hr1 hF
      refine ⟨h3, Calls.mono h4 fun e w' hh => ?_⟩
      obtain ⟨cv, Y', σ', rfl, H2, hv⟩ := hh
      exact ⟨cv, _, _, Y', σ', rfl, hK, H2, hv⟩
    · exact h
  · rcases h with ⟨bs, v, hm, hF, hf, hK⟩ | ⟨bs, v, hm, hF, hK⟩ | ⟨v, st1, n1, h1, h2, h0, hF, hK⟩ | h
    · exact CallT.of_sem hK fun C Y σ w vs cargs H hr => call_flat H (fun _ _ h => h) hm hr hF hf
    · intro C Y σ w vs cargs H hr
      obtain ⟨Y', H', hY⟩ := SW.roS (callN args E.st) H
      have K0 : Keep w w Y Y' σ σ := ⟨fun _ _ _ => rfl, fun k _ => hY k, Nat.le_refl _, SgLe.refl _⟩
      obtain ⟨h1, h2⟩ := call_ro H' (fun b x h => lkRo_le h) hm (RepL.keep _ K0 _ hr) hF
      refine ⟨h1, Calls.mono h2 fun e w' hh => ?_⟩
      obtain ⟨cv, rfl, H2, hv⟩ := hh
      exact ⟨cv, v, _, Y', σ, rfl, hK, H2, hv⟩
    · intro C Y σ w vs cargs H hr
      obtain ⟨h3, h4⟩ := call_S H h1 h2 h0 hr hF
      refine ⟨h3, Calls.mono h4 fun e w' hh => ?_⟩
      obtain ⟨cv, Y', σ', rfl, H2, hv⟩ := hh
      exact ⟨cv, _, _, Y', σ', rfl, hK, H2, hv⟩
    · exact h
end Go.Pv
namespace Go.Pv
open Go
structure PWf (P : Program) : Prop where
  und : UndOK P
  flds : ∀ t fs, t < P.types.size → P.underlying t = some (.struct fs) → ∀ f ∈ fs.toList, P.info? f.type ≠ none
  elem : ∀ t k e, t < P.types.size → P.underlying t = some (.array k e) → P.info? e ≠ none
  mixed : P.follows .mixedOrders = true
theorem build_ok {T : Tab} {S : Sig} {t : TypeId} {parts : Array (Nat × Operand)} {ps : List PV} {lk : Nat → Option Blk} {id : Nat} {K : PV → Dl → Prop} (h : opE T S (.build t parts) ps lk id K) : (T t).ok = true := by
  simp only [opE] at h
  split at h
  · rename_i e; rw [e]
  · rename_i e; rw [e]
  · exact h.elim
section
variable {P : Program} {T : Tab} (hT : TabOK P T) (hW : PWf P) {C : Ctx T} {o : Oper} {a : Act} {w : World} {Y : Nat → Prop} {σ : Sg} {ps : List PV} {st : St} {n id : Nat} {K : PV → Dl → Prop} {lk : Nat → Option Blk}
  (H : SW C w Y σ ps a.tmps.toList st n) (hlk : ∀ b x, lk b = some x → lkS st b = some x) (hid : σ id = none ∧ T.pas ≤ id)
include hT hW H hlk hid in
theorem opE_res (h : opE T (Sig.std P T) o.op ps lk id K) : Res P C o a w σ ps st n id K := by
  cases ho : o.op with
  | move x => rw [ho] at h; exact op_move H ho h
  | assign x => rw [ho] at h; exact op_assign H ho h
  | pick c x y => rw [ho] at h; exact op_pick H ho h
  | alloc t => rw [ho] at h; exact op_alloc hT H hid ho h
  | box t x => rw [ho] at h; exact op_box H hid ho h
  | build t parts => rw [ho] at h; exact op_build hT H ho (fun fs hu => hW.flds t fs (hT t (build_ok h)).2 hu) (fun k e hu => hW.elem t k e (hT t (build_ok h)).2 hu) h
  | buildSlice t len parts => rw [ho] at h; exact op_buildSlice hT H hlk hid ho h
  | load t x => rw [ho] at h; exact op_load hT H hlk ho h
  | store t x y => rw [ho] at h; exact op_store hT H hlk hid ho h
  | nilCheck x => rw [ho] at h; exact op_nilCheck H ho h
  | binOp op t x y u => rw [ho] at h; exact op_binOp hT H hW.und ho h
  | unOp op t x =>
    rw [ho] at h
    cases op with
    | not => exact op_unNot H ho h
    | neg => exact op_unNeg H ho h
    | _ => exact (by simp [opE] at h)
  | convert s d x => rw [ho] at h; exact op_convert hT H hlk ho h
  | makeFunc fn first cap =>
    rw [ho] at h
    cases fn with
    | func f => exact op_makeFunc H ho h
    | _ => exact (by simp [opE] at h)
  | makeSlice t x y => rw [ho] at h; exact op_makeSlice hT H hid ho h
  | slice t x lo hi mx => rw [ho] at h; exact op_slice hT H hlk ho hid h
  | fieldAddr t x f => rw [ho] at h; exact op_fieldAddr hT H ho h
  | field t x f => rw [ho] at h; exact op_field hT H hW.und ho h
  | indexAddr t x i => rw [ho] at h; exact op_indexAddr hT H hlk ho h
  | index t x i => rw [ho] at h; exact op_index hT H hW.und ho h
  | extract t i => rw [ho] at h; exact op_extract H ho h
  | call c =>
    rw [ho] at h
    obtain ⟨callee, args, ts⟩ := c
    cases callee with
    | builtin b =>
      cases b with
      | len => exact op_len hT H ho h
      | min => exact op_min hT H ho h
      | max => exact op_max hT H ho h
      | append => exact op_append hT H hlk hid ho h
      | clear => exact op_clear hT H hlk hid ho h
      | _ => exact (by simp [opE] at h)
    | _ => exact (by simp [opE] at h)
  | _ => rw [ho] at h; exact (by simp [opE] at h)
end
theorem RepL.setSame {w : World} {Y : Nat → Prop} {σ : Sg} {p : PV} : ∀ (ps : List PV) (vs : List Value) (t : Nat), RepL w Y σ ps vs → Rep w Y σ p (vs.getD t Go.undef) → RepL w Y σ (setL ps t p) vs
  | [], vs, t, h, _ => by simpa [setL] using h
  | q :: ps, vs, 0, h, hp => by
    unfold RepL at h; obtain ⟨v, vs', rfl, h1, h2⟩ := h
    simp only [setL]; unfold RepL; exact ⟨v, vs', rfl, by simpa using hp, h2⟩
  | q :: ps, vs, t + 1, h, hp => by
    unfold RepL at h; obtain ⟨v, vs', rfl, h1, h2⟩ := h
    simp only [setL]; unfold RepL; exact ⟨v, vs', rfl, h1, RepL.setSame ps vs' t h2 (by simpa using hp)⟩
theorem SW.setSame {T : Tab} {C : Ctx T} {w : World} {Y : Nat → Prop} {σ : Sg} {ps : List PV} {vs : List Value} {st : St} {n : Nat} (H : SW C w Y σ ps vs st n) {d : Nat} {b : Bool} (hb : getL ps d = .sb b) (c : Bool) (hc : b = c) : SW C w Y σ (setL ps d (.bool c)) vs st n := by
  refine (H.vals' ?_)
  refine RepL.setSame _ _ _ H.vals ?_
  have := H.vals.get _ _ d
  rw [hb] at this
  rw [rep_sb this, hc]
  simp [Rep]
theorem ActRep.setSame {T : Tab} {C : Ctx T} {E : Env} {a : Act} {w : World} (h : ActRep C E a w) {d : Nat} {b : Bool} (hb : getL E.tmps d = .sb b) (c : Bool) (hc : b = c) : ActRep C (putE E (some d) (.bool c)) a w := by
  obtain ⟨⟨Y, σ, H⟩, hd⟩ := h
  refine ⟨⟨Y, σ, (H.vals' ?_)⟩, hd⟩
  refine RepL.setSame _ _ _ H.vals ?_
  have := H.vals.get _ _ d
  rw [hb] at this
  rw [rep_sb this, hc]
  simp [Rep]
theorem ActRep.put {T : Tab} {C : Ctx T} {w : World} {Y : Nat → Prop} {σ : Sg} {a : Act} {ps : List PV} {st : St} {n : Nat} (H : SW C w Y σ ps a.tmps.toList st n) (hd : a.defers = []) {v : PV} {cv : Value} (hv : Rep w Y σ v cv) (d : Option Nat) :
    ActRep C (putE ⟨ps, st, n⟩ d v) (a.put d cv) w := by
  cases d with
  | none => exact ⟨⟨Y, σ, H⟩, hd⟩
  | some d =>
    refine ⟨⟨Y, σ, (H.vals' ?_)⟩, hd⟩
    simp only [Act.put, putE, Array.toList_setIfInBounds]
    exact RepL.set hv _ _ _ H.vals
def OpT (P : Program) (T : Tab) (o : Oper) (E : Env) (K : Env → Prop) : Prop :=
  ∀ (C : Ctx T) a w, ActRep C E a w → ∀ next Q, (∀ E' a' w', ActRep C E' a' w' → K E' → next a' w') → o.wp P a w next Q
theorem opE_OpT {P : Program} {T : Tab} (hT : TabOK P T) (hW : PWf P) {o : Oper} {E : Env} {K : Env → Prop}
    (h : opE T (Sig.std P T) o.op E.tmps (lkS E.st) E.next fun v δ => K (putE ⟨E.tmps, applyD δ E.st, nextD δ E.next⟩ o.dst v)) : OpT P T o E K := by
  intro C a w hA next Q hnext
  obtain ⟨⟨Y, σ, H⟩, hd⟩ := hA
  obtain ⟨v, δ, cv, w', Y', σ', hK, hrun, H', hv, _⟩ := opE_res hT hW H (fun _ _ h => h) ⟨H.next _ (Nat.le_refl _), H.fix.1⟩ h
  have hn : nextI δ E.next E.next = nextD δ E.next := by cases δ <;> simp [nextI, nextD]
  rw [hn] at H'
  have := hnext _ _ _ (ActRep.put H' hd hv o.dst) hK
  unfold Oper.wp
  rcases hrun with hrun | ⟨hrun, rfl⟩
  · rw [hrun]; exact this
  · rw [hrun]; exact this
theorem stepO_OpT {P : Program} {T : Tab} (hT : TabOK P T) (hW : PWf P) {o : Oper} {E : Env} {K : Env → Prop} (h : stepO T (Sig.std P T) o E K) : OpT P T o E K := by
  unfold stepO at h
  split at h
  ·
    rename_i f args ts ho
    split at h
    · rename_i k caps hf
      intro C a w hA next Q hnext
      obtain ⟨⟨Y, σ, H⟩, hd⟩ := hA
      have hfv := ev_rep H f
      rw [hf] at hfv
      unfold Rep at hfv
      obtain ⟨cs, ef, hcs⟩ := hfv
      have hargs := evA_rep H args.toList
      have hall := RepL.app _ _ _ _ hargs hcs
      obtain ⟨hent, hcall⟩ := callE_sound h C Y σ w a.tmps.toList _ H hall
      unfold Oper.wp
      have hrun : (execOp a.eval o).run P w = .ok (.enter k (args.toList.map a.eval ++ cs).toArray) w := by
        have hmap : args.map a.eval = (args.toList.map a.eval).toArray := by apply Array.ext'; simp
        simp only [execOp, ho, resolve, ef, Deferred.ofValue, Sem.run_bind, Sem.run_pure, Result.andThen, invoke, hmap]
        have : (#[] ++ (args.toList.map a.eval).toArray ++ cs.toArray) = (args.toList.map a.eval ++ cs).toArray := by apply Array.ext'; simp
        rw [this]
        exact hent
      rw [hrun]
      refine Calls.mono hcall fun e w' hh => ?_
      obtain ⟨cv, v, E', Y', σ', rfl, hK, H', hv⟩ := hh
      exact hnext _ _ _ (ActRep.put H' hd hv o.dst) hK
    · exact h.elim
  · split at h
    · rename_i c x y ho
      split at h
      · rename_i t hc
        obtain ⟨ht, hf⟩ := h
        intro C a w hA next Q hnext
        obtain ⟨⟨Y, σ, H⟩, hd⟩ := hA
        have hcv := H.vals.get _ _ c
        rw [hc] at hcv
        have hcv := rep_sb hcv
        have hcv' : a.eval (.tmp c) = .bool t := by
          rw [← hcv]; simp [Act.eval, Array.getD_eq_getD_getElem?, List.getD_eq_getElem?_getD]
        have hrun : (execOp a.eval o).run P w = .ok (.value (if t then a.eval x else a.eval y)) w := by
          simp [execOp, ho, hcv', asBool]
        unfold Oper.wp
        rw [hrun]
        cases t with
        | true => exact hnext _ _ _ (ActRep.put (H.setSame hc true rfl) hd (v := evL T E.tmps x) (ev_rep H x) o.dst) (ht rfl)
        | false => exact hnext _ _ _ (ActRep.put (H.setSame hc false rfl) hd (v := evL T E.tmps y) (ev_rep H y) o.dst) (hf rfl)
      · exact opE_OpT hT hW (by rw [ho]; exact h)
    · exact opE_OpT hT hW h
theorem gd_sound {P : Program} {T : Tab} {all : Array Oper} {o : Oper} {E : Env} {run skip : Env → Prop} (h : gd (Sig.std P T) all o.guard E run skip) {T : Tab} {C : Ctx T} {a : Act} {w : World} (hA : ActRep C E a w) :
    ∃ E', ActRep C E' a w ∧ ((Region.wanted o (yielded all a.tmps) = true ∧ run E') ∨ (Region.wanted o (yielded all a.tmps) = false ∧ skip E')) := by
  unfold gd at h
  split at h
  · rename_i hg
    exact ⟨E, hA, .inl ⟨by simp [Region.wanted, hg], h⟩⟩
  · rename_i j want hg
    split at h
    · rename_i oj hj
      split at h
      · rename_i d hd
        have hval : ∀ b, a.tmps.toList.getD d Go.undef = .bool b → yielded all a.tmps j = some b := by
          intro b hb
          rw [List.getD_eq_getElem?_getD] at hb
          unfold yielded
          simp only [hj, Option.bind_some, hd]
          cases hx : a.tmps[d]? with
          | none => rw [Array.getElem?_toList, hx] at hb; cases hb
          | some v => rw [Array.getElem?_toList, hx] at hb; simp at hb; subst hb; rfl
        have hundef : a.tmps.toList.getD d Go.undef = Go.undef → yielded all a.tmps j = none := by
          intro hb
          rw [List.getD_eq_getElem?_getD] at hb
          unfold yielded
          simp only [hj, Option.bind_some, hd]
          cases hx : a.tmps[d]? with
          | none => rfl
          | some v => rw [Array.getElem?_toList, hx] at hb; simp at hb; subst hb; rfl
        have wantb : ∀ b, yielded all a.tmps j = some b → Region.wanted o (yielded all a.tmps) = (b == want) := by
          intro b hb; simp [Region.wanted, hg, hb]
        have hA' := hA
        obtain ⟨⟨Y, σ, H⟩, hdef⟩ := hA'
        have hg2 := H.vals.get _ _ d
        split at h
        · rename_i e; rw [e] at hg2
          have hw := wantb true (hval true (rep_bool hg2))
          refine ⟨E, hA, ?_⟩
          rw [hw]
          cases want with
          | true => exact .inl ⟨rfl, h⟩
          | false => exact .inr ⟨rfl, h⟩
        · rename_i e; rw [e] at hg2
          have hw := wantb false (hval false (rep_bool hg2))
          refine ⟨E, hA, ?_⟩
          rw [hw]
          cases want with
          | true => exact .inr ⟨rfl, h⟩
          | false => exact .inl ⟨rfl, h⟩
        · rename_i b e
          have hg3 := hg2
          rw [e] at hg3
          have hw := wantb b (hval b (rep_sb hg3))
          obtain ⟨h1, h2⟩ := h
          refine ⟨putE E (some d) (.bool b), ⟨⟨Y, σ, H.setSame e b rfl⟩, hdef⟩, ?_⟩
          rw [hw]
          cases b with
          | true =>
            have h1 := h1 rfl
            cases want with
            | true => exact .inl ⟨rfl, h1⟩
            | false => exact .inr ⟨rfl, h1⟩
          | false =>
            have h2 := h2 rfl
            cases want with
            | true => exact .inr ⟨rfl, h2⟩
            | false => exact .inl ⟨rfl, h2⟩
        · rename_i e; rw [e] at hg2
          have hy := hundef (by unfold Rep at hg2; exact hg2)
          exact ⟨E, hA, .inr ⟨by simp [Region.wanted, hg, hy], h⟩⟩
        · exact h.elim
      · exact h.elim
    · exact h.elim
theorem opsE_sound {P : Program} {T : Tab} (hT : TabOK P T) (hW : PWf P) {all : Array Oper} {Q : Exit → Act → World → Prop} {C : Ctx T} : ∀ (l : List Oper) (E : Env) (K : Env → Prop), opsE T (Sig.std P T) all l E K →
    ∀ a w, ActRep C E a w → (∀ E' a' w', ActRep C E' a' w' → K E' → Q .normal a' w') → wpList P all Q l a w
  | [], E, K, h, a, w, hA, hQ => hQ E a w hA h
  | o :: l, E, K, h, a, w, hA, hQ => by
    simp only [opsE] at h
    obtain ⟨E', hA', hh⟩ := gd_sound h hA
    unfold wpList
    rcases hh with ⟨hw, hh⟩ | ⟨hw, hh⟩
    · rw [if_pos hw]
      refine .inl (stepO_OpT hT hW hh C a w hA' _ _ fun E2 a2 w2 hA2 hK2 => ?_)
      exact opsE_sound hT hW l E2 K hK2 a2 w2 hA2 hQ
    · rw [if_neg (by rw [hw]; simp)]
      obtain ⟨⟨Y, σ, H⟩, hd⟩ := hA'
      exact opsE_sound hT hW l _ K hh _ w (ActRep.put H hd (v := .undef) (cv := Go.undef) (by simp [Rep]) o.dst) hQ
end Go.Pv
namespace Go.Pv
open Go
theorem evA_congr {T : Tab} {ps qs : List PV} : ∀ (l : List Operand), (∀ x ∈ l, evL T ps x = evL T qs x) → evA T ps l = evA T qs l
  | [], _ => rfl
  | x :: l, h => by simp only [evA]; rw [h x (by simp), evA_congr l fun y hy => h y (by simp [hy])]
theorem evP_congr {T : Tab} {ps qs : List PV} : ∀ (l : List (Nat × Operand)), (∀ x ∈ l, evL T ps x.2 = evL T qs x.2) → evP T ps l = evP T qs l
  | [], _ => rfl
  | (i, x) :: l, h => by simp only [evP]; rw [h (i, x) (by simp), evP_congr l fun y hy => h y (by simp [hy])]
theorem evO_congr {T : Tab} {ps qs : List PV} (l : Option Operand) (h : ∀ x, l = some x → evL T ps x = evL T qs x) : evO T ps l = evO T qs l := by
  cases l with
  | none => rfl
  | some x => simp only [evO]; rw [h x rfl]
theorem opE_congr {T : Tab} {S : Sig} {o : Op} {ps qs : List PV} {lk : Nat → Option Blk} {id : Nat} {K : PV → Dl → Prop} (h : ∀ x ∈ o.operands, evL T ps x = evL T qs x) :
    opE T S o ps lk id K = opE T S o qs lk id K := by
  cases o
  case build t parts =>
    have := evP_congr (ps := ps) (qs := qs) parts.toList fun x hx => h x.2 (by simp only [Op.operands, List.mem_toArray, List.mem_map]; exact ⟨x, hx, rfl⟩)
    simp only [opE, this]
  case buildSlice t len parts =>
    have := evP_congr (ps := ps) (qs := qs) parts.toList fun x hx => h x.2 (by simp only [Op.operands, List.mem_toArray, List.mem_map]; exact ⟨x, hx, rfl⟩)
    simp only [opE, this]
  case makeFunc fn first cap =>
    cases fn
    case func f =>
      have := evA_congr (ps := ps) (qs := qs) cap.toList fun x hx => h x (by simp only [Op.operands, Array.mem_append]; exact .inr (by simpa using hx))
      simp only [opE, this]
    all_goals simp only [opE]
  case slice t x lo hi mx =>
    have h0 := h x (by simp [Op.operands])
    have h1 := evO_congr (ps := ps) (qs := qs) lo fun y hy => h y (by subst hy; simp [Op.operands])
    have h2 := evO_congr (ps := ps) (qs := qs) hi fun y hy => h y (by subst hy; simp [Op.operands])
    have h3 := evO_congr (ps := ps) (qs := qs) mx fun y hy => h y (by subst hy; simp [Op.operands])
    simp only [opE, h0, h1, h2, h3]
  case call c =>
    obtain ⟨callee, args, ts⟩ := c
    cases callee
    case builtin b =>
      have := evA_congr (ps := ps) (qs := qs) args.toList fun x hx => h x (by simp only [Op.operands, Call.operands]; simpa using hx)
      simp only [opE, this]
    all_goals simp only [opE]
  case unOp op t x =>
    have h0 := h x (by simp [Op.operands])
    cases op <;> simp only [opE, h0]
  all_goals (simp only [Op.operands, List.mem_toArray, List.mem_cons, List.not_mem_nil, or_false, forall_eq_or_imp, forall_eq] at h; simp only [opE, h])
theorem bifF {b : Bool} {p : Prop} : (bif b then p else False) = (b = true ∧ p) := by cases b <;> simp
theorem loadRow_det {agg : Bool} {size : Nat} {row : List PV} {c : Nat} {K : PV → Prop} (h : loadRow agg size row c K) : ∃ v, K v ∧ ∀ K' : PV → Prop, K' v → loadRow agg size row c K' := by
  unfold loadRow at h ⊢
  cases agg <;> simp only [cond_true, cond_false, bifF] at h ⊢
  all_goals exact ⟨_, h.2, fun K' hk => ⟨h.1, hk⟩⟩
theorem binE_det {P : Program} {T : Tab} {op : BinOp} {t : TypeId} {x y : PV} {K : PV → Prop} (h : binE T (Sig.std P T) op t x y K) : ∃ v, K v ∧ ∀ K' : PV → Prop, K' v → binE T (Sig.std P T) op t x y K' := by
  have spec : ∀ {k k' : IntKind} {a b : Int}, binS (Sig.std P T) op k a k' b K → ∃ v, K v ∧ ∀ K' : PV → Prop, K' v → binS (Sig.std P T) op k a k' b K' := by
    intro k k' a b h
    cases op <;> simp only [binS, bifF, Sig.std] at h ⊢
    case shl => exact ⟨_, h.2, fun K' hk => ⟨h.1, hk⟩⟩
    case shr => exact ⟨_, h.2, fun K' hk => ⟨h.1, hk⟩⟩
    case quo => exact ⟨_, h.2.2, fun K' hk => ⟨h.1, h.2.1, hk⟩⟩
    case rem => exact ⟨_, h.2.2, fun K' hk => ⟨h.1, h.2.1, hk⟩⟩
  have eqk : ∀ {b : Bool}, eqK (Sig.std P T) op b K → ∃ v, K v ∧ ∀ K' : PV → Prop, K' v → eqK (Sig.std P T) op b K' := by
    intro b h
    unfold eqK at h ⊢
    cases h1 : isEql op <;> simp only [h1, cond_true, cond_false] at h ⊢
    · cases h2 : isNeq op <;> simp only [h2, cond_true, cond_false] at h ⊢
      exact ⟨_, h, fun K' hk => hk⟩
    · exact ⟨_, h, fun K' hk => hk⟩
  have eql : ∀ {b : Bool}, eqL op b K → ∃ v, K v ∧ ∀ K' : PV → Prop, K' v → eqL op b K' := by
    intro b h
    unfold eqL at h ⊢
    cases h1 : isEql op <;> simp only [h1, cond_true, cond_false] at h ⊢
    · cases h2 : isNeq op <;> simp only [h2, cond_true, cond_false] at h ⊢
      cases b <;> exact ⟨_, h, fun K' hk => hk⟩
    · exact ⟨_, h, fun K' hk => hk⟩
  have ints : ∀ {k k' : IntKind} {a b : Int} {v u : PV}, (bif isSpec op then binS (Sig.std P T) op k a k' b K
      else bif kindEq k k' then (bif isArith op then K v else bif isCmp op then K u else False) else False) →
      ∃ r, K r ∧ ∀ K' : PV → Prop, K' r → (bif isSpec op then binS (Sig.std P T) op k a k' b K'
      else bif kindEq k k' then (bif isArith op then K' v else bif isCmp op then K' u else False) else False) := by
    intro k k' a b v u h
    cases h1 : isSpec op <;> simp only [h1, cond_true, cond_false] at h ⊢
    · cases h2 : kindEq k k' <;> simp only [h2, cond_true, cond_false] at h ⊢
      cases h3 : isArith op <;> simp only [h3, cond_true, cond_false] at h ⊢
      · cases h4 : isCmp op <;> simp only [h4, cond_true, cond_false] at h ⊢
        exact ⟨_, h, fun K' hk => hk⟩
      · exact ⟨_, h, fun K' hk => hk⟩
    · exact spec h
  unfold binE at h ⊢
  split at h
  · exact ints h
  · cases h1 : isAdd op <;> simp only [h1, cond_true, cond_false] at h ⊢
    · cases h2 : isCmp op <;> simp only [h2, cond_true, cond_false] at h ⊢
      exact ⟨_, h, fun K' hk => hk⟩
    · simp only [Sig.std] at h ⊢
      exact ⟨_, h.2, fun K' hk => ⟨h.1, hk⟩⟩
  · split at h
    · split at h
      · exact eqk h
      · exact h.elim
    · exact h.elim
  · split at h
    · exact ints h
    · split at h
      · split at h
        · exact eqk h
        · exact h.elim
      · split at h
        · cases h1 : (isNilP x && isNilP y) <;> simp only [h1, cond_true, cond_false] at h ⊢
          · cases h2 : ((isNilP x && isPtrP y) || (isPtrP x && isNilP y)) <;> simp only [h2, cond_true, cond_false] at h ⊢
            exact eql h
          · exact eql h
        · exact h.elim
theorem opE_det {P : Program} {T : Tab} {o : Op} {ps : List PV} {lk : Nat → Option Blk} {id : Nat} {K : PV → Dl → Prop} (hq : isQ o = true) (h : opE T (Sig.std P T) o ps lk id K) :
    ∃ v δ, K v δ ∧ ∀ K' : PV → Dl → Prop, K' v δ → opE T (Sig.std P T) o ps lk id K' := by
  cases o
  case move x => exact ⟨_, _, h, fun _ hk => hk⟩
  case assign x => exact ⟨_, _, h, fun _ hk => hk⟩
  case pick c a b =>
    simp only [opE] at h ⊢
    split at h
    · exact ⟨_, _, h, fun _ hk => hk⟩
    · exact ⟨_, _, h, fun _ hk => hk⟩
    · exact h.elim
  case nilCheck x =>
    simp only [opE] at h ⊢
    split at h
    all_goals first | exact ⟨_, _, h, fun _ hk => hk⟩ | exact h.elim
  case extract t i =>
    simp only [opE] at h ⊢
    split at h
    · simp only [bifF] at h ⊢; exact ⟨_, _, h.2, fun _ hk => ⟨h.1, hk⟩⟩
    · exact h.elim
  case convert s d x =>
    simp only [opE] at h ⊢
    split at h
    · split at h
      · obtain ⟨h1, b, h2, h3⟩ := h
        exact ⟨_, _, h3, fun _ hk => ⟨h1, b, h2, hk⟩⟩
      · exact h.elim
    · split at h
      all_goals first | exact ⟨_, _, h, fun _ hk => hk⟩ | exact h.elim
    · exact h.elim
  case makeFunc fn first cap =>
    cases fn
    case func f =>
      simp only [opE] at h ⊢
      split at h
      all_goals first | exact ⟨_, _, h, fun _ hk => hk⟩ | exact h.elim
    all_goals exact (by simp [opE] at h)
  case unOp op t x =>
    cases op
    case not =>
      simp only [opE] at h ⊢
      split at h
      all_goals first | exact ⟨_, _, h, fun _ hk => hk⟩ | exact h.elim
    case neg =>
      simp only [opE] at h ⊢
      split at h
      all_goals first | exact ⟨_, _, h, fun _ hk => hk⟩ | exact h.elim
    all_goals exact (by simp [opE] at h)
  case fieldAddr t x f =>
    simp only [opE] at h ⊢
    split at h
    · split at h
      · simp only [bifF] at h ⊢
        obtain ⟨h0, h⟩ := h
        split at h
        · exact ⟨_, _, h, fun _ hk => ⟨h0, hk⟩⟩
        · exact ⟨_, _, h, fun _ hk => ⟨h0, hk⟩⟩
        · exact ⟨_, _, h, fun _ hk => ⟨h0, hk⟩⟩
        · exact ⟨_, _, h.2, fun _ hk => ⟨h0, h.1, hk⟩⟩
        · exact h.elim
      · exact h.elim
    · exact h.elim
  case field t x f =>
    simp only [opE] at h ⊢
    split at h
    · split at h
      · split at h
        · simp only [bifF] at h ⊢
          obtain ⟨v, h1, h2⟩ := loadRow_det h.2
          exact ⟨v, _, h1, fun _ hk => ⟨h.1, h2 _ hk⟩⟩
        · exact h.elim
      · exact h.elim
    · exact h.elim
  case load t x =>
    simp only [opE] at h ⊢
    split at h
    · split at h
      · split at h
        · obtain ⟨v, h1, h2⟩ := loadRow_det h
          exact ⟨v, _, h1, fun _ hk => h2 _ hk⟩
        · exact h.elim
      · split at h
        · simp only [Sig.std] at h ⊢
          obtain ⟨row, h0, h⟩ := h
          obtain ⟨v, h1, h2⟩ := loadRow_det h
          exact ⟨v, _, h1, fun _ hk => ⟨row, h0, h2 _ hk⟩⟩
        · simp only [Sig.std] at h ⊢
          obtain ⟨row, h0, h⟩ := h
          obtain ⟨v, h1, h2⟩ := loadRow_det h
          exact ⟨v, _, h1, fun _ hk => ⟨row, h0, h2 _ hk⟩⟩
        · exact h.elim
      · split at h
        · simp only [Sig.std, bifF] at h ⊢
          obtain ⟨row, h0, h⟩ := h
          split at h
          · rename_i h' sz' es he
            obtain ⟨h3, h4, er, h5, h⟩ := h
            obtain ⟨v, h1, h2⟩ := loadRow_det h
            refine ⟨v, _, h1, fun _ hk => ⟨row, h0, ?_⟩⟩
            rw [he]
            exact ⟨h3, h4, er, h5, h2 _ hk⟩
          · exact h.elim
        · exact h.elim
      · obtain ⟨v, h1, h2⟩ := loadRow_det h
        exact ⟨v, _, h1, fun _ hk => h2 _ hk⟩
      · exact h.elim
    · exact h.elim
  case binOp op t x y u =>
    have hn : nilC y = false := by
      cases hn : nilC y with
      | true => simp only [isQ, hn] at hq; cases hq
      | false => rfl
    simp only [opE] at h ⊢
    rw [hn] at h ⊢
    simp only at h ⊢
    split at h
    · obtain ⟨v, h1, h2⟩ := binE_det h
      exact ⟨v, _, h1, fun _ hk => h2 _ hk⟩
    · exact h.elim
  case indexAddr t x i =>
    simp only [opE] at h ⊢
    split at h
    · split at h
      · simp only [bifF] at h ⊢
        obtain ⟨h0, j, row, h1, h2, h⟩ := h
        exact ⟨_, _, h, fun _ hk => ⟨h0, j, row, h1, h2, hk⟩⟩
      · split at h
        · simp only [bifF] at h ⊢
          obtain ⟨h0, j, h1, h2, h⟩ := h
          exact ⟨_, _, h, fun _ hk => ⟨h0, j, h1, h2, hk⟩⟩
        · simp only [bifF] at h ⊢
          obtain ⟨h0, j, h1, h2, h⟩ := h
          exact ⟨_, _, h, fun _ hk => ⟨h0, j, h1, h2, hk⟩⟩
        · exact h.elim
      · simp only [bifF] at h ⊢
        obtain ⟨h0, j, h1, h2, h⟩ := h
        exact ⟨_, _, h, fun _ hk => ⟨h0, j, h1, h2, hk⟩⟩
      · exact h.elim
    · simp only [bifF] at h ⊢
      obtain ⟨h0, h⟩ := h
      split at h
      · obtain ⟨h1, h⟩ := h
        split at h
        · exact ⟨_, _, h, fun _ hk => ⟨h0, h1, hk⟩⟩
        · exact ⟨_, _, h, fun _ hk => ⟨h0, h1, hk⟩⟩
        · exact ⟨_, _, h.2, fun _ hk => ⟨h0, h1, h.1, hk⟩⟩
        · exact h.elim
      · obtain ⟨j, h1, h2, h⟩ := h
        split at h
        · exact ⟨_, _, h, fun _ hk => ⟨h0, j, h1, h2, hk⟩⟩
        · exact ⟨_, _, h, fun _ hk => ⟨h0, j, h1, h2, hk⟩⟩
        · exact ⟨_, _, h.2, fun _ hk => ⟨h0, j, h1, h2, h.1, hk⟩⟩
        · exact h.elim
      · exact h.elim
    · exact h.elim
  case index t x i =>
    simp only [opE] at h ⊢
    split at h
    · simp only [Sig.std] at h ⊢
      obtain ⟨j, c, h1, h2, h⟩ := h
      exact ⟨_, _, h, fun _ hk => ⟨j, c, h1, h2, hk⟩⟩
    · simp only [bifF] at h ⊢
      obtain ⟨h0, j, h1, h2, h⟩ := h
      obtain ⟨v, h3, h4⟩ := loadRow_det h
      exact ⟨v, _, h3, fun _ hk => ⟨h0, j, h1, h2, h4 _ hk⟩⟩
    · exact h.elim
  case build t parts =>
    simp only [opE] at h ⊢
    split at h
    · simp only [bifF] at h ⊢
      obtain ⟨h0, h⟩ := h
      split at h
      · exact ⟨_, _, h, fun _ hk => ⟨h0, hk⟩⟩
      · exact h.elim
    · simp only [bifF] at h ⊢
      obtain ⟨h0, h⟩ := h
      split at h
      · exact ⟨_, _, h, fun _ hk => ⟨h0, hk⟩⟩
      · exact h.elim
    · exact h.elim
  case call c =>
    obtain ⟨callee, args, ts⟩ := c
    cases callee
    case builtin b =>
      simp only [opE] at h ⊢
      split at h
      · split at h
        · exact ⟨_, _, h, fun _ hk => hk⟩
        · exact h.elim
      · split at h
        · exact ⟨_, _, h, fun _ hk => hk⟩
        · exact h.elim
      · split at h
        · exact ⟨_, _, h, fun _ hk => hk⟩
        · exact h.elim
      · split at h
        · exact ⟨_, _, h, fun _ hk => hk⟩
        · exact h.elim
      · split at h
        · simp only [bifF] at h ⊢; exact ⟨_, _, h.2, fun _ hk => ⟨h.1, hk⟩⟩
        · split at h
          · simp only [bifF] at h ⊢; exact ⟨_, _, h.2, fun _ hk => ⟨h.1, hk⟩⟩
          · exact h.elim
      · split at h
        · simp only [bifF] at h ⊢; exact ⟨_, _, h.2, fun _ hk => ⟨h.1, hk⟩⟩
        · split at h
          · simp only [bifF] at h ⊢; exact ⟨_, _, h.2, fun _ hk => ⟨h.1, hk⟩⟩
          · exact h.elim
      · exact (by simp [isQ] at hq)
      · exact (by simp [isQ] at hq)
      · exact h.elim
    all_goals exact (by simp [isQ] at hq)
  all_goals exact (by simp [isQ] at hq)
end Go.Pv
