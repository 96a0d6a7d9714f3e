/-
  Pv, part 17: append, copy, clear as operations.
-/
import Derived.Test.YtlelpgnmmbbfaaaPvOps12
import Derived.Laws.BytesString
namespace Go.Pv
open Go
set_option linter.all false

section
variable {P : Program} {T : Tab} (hT : TabOK P T) {C : Ctx T} {o : Oper} {a : Act} {w : World} {Y : Nat → Prop} {σ : Sg} {ps : List PV} {st : St} {n id : Nat} {K : PV → Dl → Prop} {lk : Nat → Option Blk}
  (H : SW C w Y σ ps a.tmps.toList st n) (hlk : ∀ b x, lk b = some x → lkS st b = some x) (hid : σ id = none ∧ T.pas ≤ id) (hU : UndOK P)


/-- the bytes of rows that hold one byte each -/
theorem byteR_cell {w : World} {Y : Nat → Prop} {b : Nat} : ∀ (rows : List (List PV)) (ns : List (Option Int)) (o : Nat), RepR w Y noSg b 1 rows o → rows.map byteR = ns → ∀ (j : Nat) (n : Int), ns[j]? = some (some n) → w.cell? ⟨b, o + j, none⟩ = some (.int .u8 n)
  | [], ns, o, _, e, j, n, h => by subst e; simp at h
  | r :: rows, ns, o, hR, e, j, n, h => by
    subst e
    unfold RepR at hR
    obtain ⟨_, h2, h3⟩ := hR
    cases j with
    | zero =>
      simp only [List.map_cons, List.getElem?_cons_zero, Option.some.injEq] at h
      unfold byteR at h
      split at h
      · cases h
        unfold RepC at h2
        obtain ⟨⟨v, hc, hv⟩, _⟩ := h2
        rw [Nat.add_zero, hc, rep_si hv]
      · cases h
        unfold RepC at h2
        obtain ⟨⟨v, hc, hv⟩, _⟩ := h2
        rw [Nat.add_zero, hc, rep_int hv]
      · cases h
    | succ j =>
      have := byteR_cell rows _ (o + 1) h3 rfl j n (by simpa using h)
      rw [show o + (j + 1) = o + 1 + j by omega]; exact this
theorem fold_bytes : ∀ (l : List UInt8) (r : ByteArray), ((l.map (fun c => (c.toNat : Int))).foldl (fun r n => r.push (UInt8.ofNat n.toNat)) r) = ⟨r.data ++ l.toArray⟩
  | [], r => by cases r; simp
  | c :: l, r => by
    simp only [List.map_cons, List.foldl_cons]
    rw [fold_bytes l]
    cases r
    simp [ByteArray.push]

theorem array_cons2 {α : Type} {x : Array α} {t u : α} {l : List α} (h : x.toList = t :: u :: l) : x = (t :: u :: l).toArray := by apply Array.ext'; simpa using h

/-- a builtin's call, whatever it does -/
theorem builtin_res {b : Builtin} {args : Array Operand} {ts : Array TypeId} {v : PV} {δ : Dl} {cv : Value} {w' : World} {Y' : Nat → Prop} {σ' : Sg} (ho : o.op = .call { callee := .builtin b, args := args, argTypes := ts })
    (hr : ∀ ty cs, (builtin b ts ty cs (args.toList.map a.eval).toArray).run P w = .ok (.value cv) w') (H' : SW C w' Y' σ' ps a.tmps.toList (applyD δ st) (nextI δ n id)) (hv : Rep w' Y' σ' v cv) (hoff : Off id σ σ') (hK : K v δ) : Res P C o a w σ ps st n id K := by
  have hmap : args.map a.eval = (args.toList.map a.eval).toArray := by apply Array.ext'; simp
  refine ⟨v, δ, cv, w', Y', σ', hK, .inl ?_, H', hv, hoff⟩
  simp only [execOp, ho, resolve, hmap, Sem.run_bind, Sem.run_pure, Result.andThen, invoke]
  exact hr _ _

include hT H hlk hid in
theorem op_append {args : Array Operand} {ts : Array TypeId} (ho : o.op = .call { callee := .builtin .append, args := args, argTypes := ts }) (h : opE T (Sig.std P T) (.call { callee := .builtin .append, args := args, argTypes := ts }) ps lk id K) : Res P C o a w σ ps st n id K := by
  have hargs := evA_rep H args.toList
  simp only [opE] at h
  generalize hvs : args.toList.map a.eval = vs at hargs
  split at h
  all_goals first | (exact h.elim) | skip
  · contradiction
  · contradiction
  · contradiction
  · contradiction
  · contradiction
  · contradiction
  · rename_i s x t u tl hb he ht
    rw [he] at hargs
    obtain ⟨sv, xv, rfl, hs, hx⟩ := evA_twoX hargs
    have ht' := array_cons2 ht
    subst ht'
    split at h
    · rename_i a1 s1 z1 p1 esz bytes z a2 s2 z2 p2 k1 k2 k3 e1 e2
      obtain ⟨et, hu, rfl, rfl, hz⟩ := tab_slice hT e1
      obtain ⟨eu, hu2, _⟩ := tab_slice hT e2
      cases hb : (isPos (P.cellsOf et) && Nat.beq (lenL z) (P.cellsOf et)) with
      | false => rw [hb] at h; exact h.elim
      | true =>
        rw [hb] at h
        simp only [cond_true] at h
        rw [Bool.and_eq_true, lenL_eq] at hb
        have hinf := info_of_pos hb.1
        have hzl := Nat.eq_of_beq_eq_true hb.2
        have hpos : 0 < P.cellsOf et := by
          rcases Nat.eq_zero_or_pos (P.cellsOf et) with h0 | h0
          · have := hb.1; rw [h0] at this; simp [isPos] at this
          · exact h0
        cases hi : P.info? et with
        | none => exact absurd hi hinf
        | some inf =>
        have hbe := bytesOf_eq hi
        -- what is appended
        have rd : ∀ {new : List (List PV)}, rowsOf (Sig.std P T) (P.cellsOf et) lk x = some new → ∃ y yc vs, xv = .slice y new.length yc ∧ (vs.length = new.length * P.cellsOf et ∧ (vs = [] ∨ ∃ b o, y = some ⟨b, o, none⟩ ∧ ∀ i v, vs[i]? = some v → w.cell? ⟨b, o + i, none⟩ = some v)) ∧ (∀ v ∈ vs, oneC v = true) ∧
            (∀ (w' : World) (Y' : Nat → Prop) (b' o' : Nat), (∀ p v, Rep w Y noSg p v → Rep w' Y' noSg p v) → (∀ i v, vs[i]? = some v → w'.cell? ⟨b', o' + i, none⟩ = some v) → RepR w' Y' noSg b' (P.cellsOf et) new o') := by
          intro new hn
          obtain ⟨y, len, yc, rfl, rfl, hr⟩ := rowsOf_read H hlk hx hn
          rcases hr with rfl | ⟨b, o', rfl, hr⟩
          · exact ⟨y, yc, [], rfl, ⟨by simp, .inl rfl⟩, by simp, fun _ _ _ _ _ _ => by simp [RepR]⟩
          · obtain ⟨vs, ⟨g1, g1'⟩, g2, g3⟩ := hr.vals
            exact ⟨_, yc, vs, rfl, ⟨g1, .inr ⟨b, o', rfl, g2⟩⟩, g1', fun w' Y' b' o' hk hc => g3 w' Y' noSg b' o' hk hc⟩
        -- appended to nothing
        have fresh : ∀ {st0 : St} {sx : Option Addr} {new : List (List PV)} {δ : Dl} {ty : TypeId}, SW C w Y σ ps a.tmps.toList st0 n → rowsOf (Sig.std P T) (P.cellsOf et) lk x = some new → sv = .slice sx 0 0 →
            (2 * new.length + 192) * P.bytesOf et ≤ 140737488355328 → new.length ≤ 4611686018427387904 → applyD δ st = inS st0 id (some (.arr false (P.cellsOf et) new)) → nextI δ n id = max n (id + 1) → K (.os id 0 new.length) δ → Res P C o a w σ ps st n id K := by
          intro st0 sx new δ ty H0 hn hsv hroom hbig hδ hnx hK
          obtain ⟨y, yc, vs, rfl, hvs2, hone, htr⟩ := rd hn
          subst hsv
          by_cases h0 : new.length = 0
          · have hnil : new = [] := List.eq_nil_of_length_eq_zero h0
            subst hnil
            have hvn : vs = [] := List.eq_nil_of_length_eq_zero (by simpa using hvs2.1)
            refine builtin_res ho (δ := δ) (cv := .slice sx 0 0) (w' := w) (Y' := Y) (σ' := σ) (fun ty cs => ?_) (by rw [hδ, hnx]; exact H0.empty hid _) ?_ (Off.refl _ _) hK
            · rw [hvs]
              have r2 := firstCells_run (P := P) (w := w) (size := P.cellsOf et) (n := 0) (x := y) (len := 0) (cap := yc) (vs := []) (by simp) (.inl rfl)
              simp only [builtin, Builtin.append_, List.getElem?_toArray, List.getElem?_cons_zero, List.getElem?_cons_succ, Sem.run_bind, run_und hu, run_und hu2, Result.andThen, run_sizeOf hinf, Sem.run_pure, List.length_nil]
              simp only [Bool.false_eq_true, if_false, Builtin.lenOf, Sem.run_bind, Sem.run_pure, Result.andThen]
              rw [if_pos (Nat.le_refl _)]
              simp only [Sem.run_bind, Bool.not_false, if_true, r2, Result.andThen]
              cases sx <;> simp [storeCells]
            · unfold Rep; exact .inr ⟨rfl, sx, rfl⟩
          · obtain ⟨cv, w', Y', σ', hrun, H', hrep, hoff⟩ := append_new (P := P) (a := a) (ty := ty) (x := sx) (sc := 0) (us := []) (vs := vs) (old := []) (new := new) (ts := tl) (yc := yc) H0 hid hu hu2 hi hz.symm hpos hzl (sl := 0) (by simp) hvs2 (by simp) rfl
              (fun w' Y' b' hk hc => by simpa using htr w' Y' b' 0 hk (fun i v hv => hc i v (by simpa using hv))) (by omega) (by rw [hbe] at hroom; simpa using hroom) (by omega)
            refine builtin_res ho (δ := δ) (cv := cv) (w' := w') (Y' := Y') (σ' := σ') (fun ty' cs => ?_) (by rw [hδ, hnx]; simpa using H') (by simpa using hrep) hoff hK
            rw [hvs]
            simp only [builtin, Sem.run_bind]
            have : Builtin.append_ (t :: u :: tl).toArray ty' [Value.slice sx 0 0, Value.slice y new.length yc].toArray = Builtin.append_ (t :: u :: tl).toArray ty #[Value.slice sx 0 0, Value.slice y new.length yc] := rfl
            rw [this, hrun]
            rfl
        split at h
        · rename_i sz new hn
          obtain ⟨g1, g2, h⟩ := h
          unfold Rep at hs
          obtain ⟨sx, len, cap, rfl, hl, hc, hf, _⟩ := hs
          have : len = 0 := by simpa using hl
          subst this
          have : cap = 0 := hf rfl
          subst this
          exact fresh (ty := 0) H hn rfl g1 g2 rfl rfl h
        · rename_i b r m new hn
          split at h
          · rename_i sz rows hbk
            cases hsz : Nat.beq sz (P.cellsOf et) with
            | false => rw [hsz] at h; exact h.elim
            | true =>
              rw [hsz] at h
              simp only [cond_true] at h
              have hsz := Nat.eq_of_beq_eq_true hsz
              subst hsz
              obtain ⟨g1, g2, h⟩ := h
              have g1 : (2 * (m + new.length) + 192) * P.bytesOf et ≤ 140737488355328 := g1
              have g2 : m + new.length ≤ 4611686018427387904 := g2
              have hst := hlk _ _ hbk
              have hBS := H.store.blk b _ hst
              obtain ⟨sx, cap, rfl, hmc, hml, hr⟩ := os_rows hs hBS
              have hsub : (Sig.std P T).sub rows r m = (rows.drop r).take m := rfl
              have happ : (Sig.std P T).app ((Sig.std P T).sub rows r m) new = (rows.drop r).take m ++ new := rfl
              rw [happ] at h
              obtain ⟨y, yc, vs, rfl, hvs2, hone, htr⟩ := rd hn
              by_cases hgrow : m + new.length ≤ cap
              · -- in place
                unfold Rep at hs
                rcases hs with ⟨l, cap', hl, e, _, htot, hnr⟩ | ⟨rfl, sx', e⟩
                · cases e
                  have hB := BlkRep.of_lk H hlk hbk hl
                  unfold BlkRep at hB
                  obtain ⟨⟨arr, tyb, ha, has⟩, hlsz, _, ⟨hle, hlnr⟩, hrows, hm, _⟩ := hB
                  rw [hlsz] at htot
                  have hbnd : l.co + r * P.cellsOf et + (m + new.length) * P.cellsOf et ≤ arr.size := by
                    rw [has, ← htot]
                    have := Nat.mul_le_mul_right (P.cellsOf et) hgrow
                    omega
                  obtain ⟨w', hrun, W⟩ := storeCells_run (P := P) (o := l.co + r * P.cellsOf et + m * P.cellsOf et) vs 0 w arr ha (by rw [hvs2.1]; rw [Nat.add_mul] at hbnd; omega) hone
                  have W : Wrote w w' l.cb (l.co + r * P.cellsOf et + m * P.cellsOf et) arr tyb vs := by simpa using W
                  obtain ⟨arr', h4, h5, h6⟩ := W.blk
                  have hml' : ((rows.drop r).take m ++ new).length = m + new.length := by rw [List.length_append, ← hml]
                  obtain ⟨σ', H', hid', hoff⟩ := H.rebase hid (x' := .arr false (P.cellsOf et) ((rows.drop r).take m ++ new)) (l' := ⟨l.cb, l.co + r * P.cellsOf et, P.cellsOf et, l.tot, m + new.length⟩) hst (fun _ _ e => by cases e) hl (hm rfl) rfl W.os W.tape W.output W.size W.other (by
                    intro σ' _ hk
                    unfold BlkRep
                    refine ⟨⟨arr', tyb, h4, by rw [h5, has]⟩, rfl, hpos, ⟨by rw [hml']; show l.co + r * P.cellsOf et + (m + new.length) * P.cellsOf et ≤ l.tot; omega, hml'⟩, ?_, fun _ => hm rfl, fun h => by cases h⟩
                    refine RepR.app _ _ _ ?_ ?_
                    · obtain ⟨us, ⟨u1, _⟩, u2, u3⟩ := ((hrows.drop r _ _).take m _ _).vals
                      refine u3 w' Y noSg l.cb _ hk (fun i v hv => ?_)
                      have hc := u2 i v hv
                      rw [cell_of_block ha] at hc
                      have hilt : i < us.length := by
                        by_cases hh : i < us.length
                        · exact hh
                        · rw [List.getElem?_eq_none (Nat.le_of_not_lt hh)] at hv; cases hv
                      rw [u1, ← hml] at hilt
                      show w'.cell? ⟨l.cb, l.co + r * P.cellsOf et + i, none⟩ = some v
                      rw [cell_of_block h4, h6, if_neg (by omega)]
                      exact hc
                    · refine htr w' Y l.cb _ hk (fun i v hv => ?_)
                      have hilt : i < vs.length := by
                        by_cases hh : i < vs.length
                        · exact hh
                        · rw [List.getElem?_eq_none (Nat.le_of_not_lt hh)] at hv; cases hv
                      show w'.cell? ⟨l.cb, l.co + r * P.cellsOf et + ((rows.drop r).take m).length * P.cellsOf et + i, none⟩ = some v
                      rw [← hml, cell_of_block h4, h6, if_pos (by omega)]
                      rw [show l.co + r * P.cellsOf et + m * P.cellsOf et + i - (l.co + r * P.cellsOf et + m * P.cellsOf et) = i by omega]
                      exact hv)
                  refine builtin_res ho (δ := _) (cv := .slice (some ⟨l.cb, l.co + r * l.sz, none⟩) (m + new.length) cap) (w' := w') (Y' := Y) (σ' := σ') (fun ty cs => ?_) (by simp only [applyD, nextI]; exact H') ?_ hoff h
                  · rw [hvs]
                    have := append_place (P := P) (w := w) (ts := tl) (ty := ty) (x := some ⟨l.cb, l.co + r * l.sz, none⟩) (sl := m) (sc := cap) (yc := yc) (w' := w') hu hu2 hinf hvs2 hgrow (fun b o e => by cases e; rw [hlsz]; exact hrun) (fun h => by cases h) (fun a h => by cases h; rfl)
                    simp only [builtin, Sem.run_bind]
                    rw [this]
                    rfl
                  · unfold Rep
                    refine .inl ⟨_, cap, hid', ?_, hgrow, ?_, ?_⟩
                    · rw [hlsz]; simp; rfl
                    · simp; omega
                    · show 0 + (m + new.length) ≤ m + new.length; omega
                · cases e
                  have hn0 : new.length = 0 := by omega
                  have hn0' : new = [] := List.eq_nil_of_length_eq_zero hn0
                  subst hn0'
                  refine fresh (st0 := inS st b none) (ty := 0) (δ := [(b, none), (id, some (.arr false (P.cellsOf et) ((rows.drop r).take 0 ++ [])))]) (H.drop b) hn rfl (by simpa using g1) (by simp) (by simp [applyD]) rfl ?_
                  exact h
              · -- made anew
                have hold : ∃ us : List Value, (us.length = m * P.cellsOf et ∧ (us = [] ∨ ∃ b o, sx = some ⟨b, o, none⟩ ∧ ∀ i v, us[i]? = some v → w.cell? ⟨b, o + i, none⟩ = some v)) ∧
                    (∀ (w' : World) (Y' : Nat → Prop) (b' o' : Nat), (∀ p v, Rep w Y noSg p v → Rep w' Y' noSg p v) → (∀ i v, us[i]? = some v → w'.cell? ⟨b', o' + i, none⟩ = some v) → RepR w' Y' noSg b' (P.cellsOf et) ((rows.drop r).take m) o') := by
                  rcases hr with hr | ⟨b', o', e, _, _, hr⟩
                  · rw [hr] at hml ⊢
                    refine ⟨[], ⟨by rw [hml]; simp, .inl rfl⟩, fun _ _ _ _ _ _ => by simp [RepR]⟩
                  · obtain ⟨us, ⟨u1, _⟩, u2, u3⟩ := hr.vals
                    exact ⟨us, ⟨by rw [u1, ← hml], .inr ⟨b', o', e, u2⟩⟩, fun w' Y' b' o' hk hc => u3 w' Y' noSg b' o' hk hc⟩
                obtain ⟨us, hus, hutr⟩ := hold
                obtain ⟨cv, w', Y', σ', hrun, H', hrep, hoff⟩ := append_new (P := P) (a := a) (ty := 0) (x := sx) (sc := cap) (us := us) (vs := vs) (old := (rows.drop r).take m) (new := new) (ts := tl) (yc := yc) (H.drop b) hid hu hu2 hi hz.symm hpos hzl (sl := m) hus hvs2 hml rfl
                  (fun w' Y' b' hk hc => by
                    refine RepR.app _ _ _ (hutr w' Y' b' 0 hk (fun i v hv => hc i v ?_)) (htr w' Y' b' _ hk (fun i v hv => ?_))
                    · rw [List.getElem?_append_left]
                      · exact hv
                      · by_cases hh : i < us.length
                        · exact hh
                        · rw [List.getElem?_eq_none (Nat.le_of_not_lt hh)] at hv; cases hv
                    · have := hc (us.length + i) v (by rw [List.getElem?_append_right (by omega)]; simpa using hv)
                      rw [hus.1] at this
                      rw [← hml]; simpa using this) hgrow (by rw [hbe] at g1; exact g1) g2
                refine builtin_res ho (δ := _) (cv := cv) (w' := w') (Y' := Y') (σ' := σ') (fun ty' cs => ?_) (by simp only [applyD, nextI]; exact H') (by rw [← hml] at hrep; exact hrep) hoff h
                rw [hvs]
                simp only [builtin, Sem.run_bind]
                have : Builtin.append_ (t :: u :: tl).toArray ty' [Value.slice sx m cap, Value.slice y new.length yc].toArray = Builtin.append_ (t :: u :: tl).toArray 0 #[Value.slice sx m cap, Value.slice y new.length yc] := rfl
                rw [this, hrun]
                rfl
          · exact h.elim
        · exact h.elim
    · exact h.elim
  all_goals contradiction
include hT H hlk in
theorem op_convert {s d : TypeId} {x : Operand} (ho : o.op = .convert s d x) (h : opE T (Sig.std P T) (.convert s d x) ps lk id K) : Res P C o a w σ ps st n id K := by
  have hc := ev_rep H x
  simp only [opE] at h
  split at h
  · rename_i e1 e
    obtain ⟨_, hs, _⟩ := tab_slice hT e1
    have hd := tab_str hT e
    split at h
    · rename_i rows hr
      obtain ⟨⟨el, hs2, he⟩, s', hb, hK⟩ := h
      obtain ⟨x', len, cap, ev, hl, hrep⟩ := rowsOf_read H hlk hc hr
      refine Res.quiet H (cv := .string s') ?_ (by simp [Rep]) hK
      have hlen : rows.length = s'.data.toList.length := by simpa using congrArg List.length hb
      have hrun : (Conv.bytesToString (.slice x' len cap)).run P w = .ok (.string s') w := by
        cases x' with
        | none =>
          rcases hrep with rfl | ⟨b, o', e0, _⟩
          · have : s' = ByteArray.empty := by
              have : s'.data.toList = [] := by
                cases hh : s'.data.toList with
                | nil => rfl
                | cons _ _ => rw [hh] at hlen; simp at hlen
              cases s' with
              | mk d => simp at this; subst this; rfl
            subst this
            simp [Conv.bytesToString]
          · cases e0
        | some ad =>
          have hcells : (loadCells ad len).run P w = .ok ((s'.data.toList.map (fun c => (c.toNat : Int))).map (Value.int .u8)).toArray w := by
            rcases hrep with rfl | ⟨b, o', e0, hR⟩
            · have h0 : s'.data.toList = [] := by
                cases hh : s'.data.toList with
                | nil => rfl
                | cons _ _ => rw [hh] at hlen; simp at hlen
              rw [hl, h0]; simp [loadCells, loadCellsFrom]
            · cases e0
              have hlen2 : len = ((s'.data.toList.map (fun c => (c.toNat : Int))).map (Value.int .u8)).length := by rw [hl, hlen]; simp
              rw [hlen2, loadCells]
              rw [loadCells_run _ 0 #[] (fun j v hj => by
                obtain ⟨c, hc1, hc2⟩ : ∃ c, s'.data.toList[j]? = some c ∧ v = .int .u8 (c.toNat : Int) := by
                  rw [List.getElem?_map, List.getElem?_map] at hj
                  cases hh : s'.data.toList[j]? with
                  | none => rw [hh] at hj; cases hj
                  | some c => rw [hh] at hj; exact ⟨c, rfl, by simpa using hj.symm⟩
                have := byteR_cell rows _ o' hR hb j (c.toNat : Int) (by rw [List.getElem?_map, hc1]; rfl)
                rw [hc2, Nat.zero_add]; exact this)]
              simp
          rw [run_bytesToString w ad len cap _ hcells, fold_bytes]
          cases s' with
          | mk d => rw [show ByteArray.empty.data ++ d.toList.toArray = d from by show #[] ++ d.toList.toArray = d; rw [Array.empty_append, Array.toArray_toList]]
      simp only [execOp, ho, ev, Sem.run_bind]
      rw [run_convert_bytes_string w s d el x' len cap hs2 he hd, hrun]
      simp [Result.andThen]
    · exact h.elim
  · rename_i k e1 e
    obtain ⟨_, u, _, hs, _⟩ := tab_open hT e1 rfl
    have hd := tab_int hT e
    split at h
    · rename_i e; rw [e] at hc; have hc := rep_int hc
      refine Res.quiet H (cv := .int k (k.wrap _)) ?_ (by simp [Rep]; rfl) h
      simp [execOp, ho, hc, convert, run_und hs, run_und hd, Conv.intToInt]
    · rename_i e; rw [e] at hc; have hc := rep_si hc
      refine Res.quiet H (cv := .int k (k.wrap _)) ?_ (by simp [Rep, Sig.std]; rfl) h
      simp [execOp, ho, hc, convert, run_und hs, run_und hd, Conv.intToInt]
    · exact h.elim
  · exact h.elim
end
end Go.Pv
