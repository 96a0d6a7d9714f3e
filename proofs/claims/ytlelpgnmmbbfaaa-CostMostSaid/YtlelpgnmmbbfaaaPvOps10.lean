/-
  Pv, part 14: makeSlice, len, min, max, slices of slices.
-/
import Derived.Test.YtlelpgnmmbbfaaaPvOps9
namespace Go.Pv
open Go
set_option linter.all false

section
variable {P : Program} {T : Tab} (hT : TabOK P T) {C : Ctx T} {o : Oper} {a : Act} {w : World} {Y : Nat → Prop} {σ : Sg} {ps : List PV} {st : St} {n id : Nat} {K : PV → Dl → Prop} {lk : Nat → Option Blk}
  (H : SW C w Y σ ps a.tmps.toList st n) (hlk : ∀ b x, lk b = some x → lkS st b = some x) (hid : σ id = none ∧ T.pas ≤ id) (hU : UndOK P)

theorem RepL.of_pointwise {w : World} {Y : Nat → Prop} {σ : Sg} : ∀ (ps : List PV) (vs : List Value), ps.length = vs.length → (∀ (i : Nat) (p : PV) (v : Value), ps[i]? = some p → vs[i]? = some v → Rep w Y σ p v) → RepL w Y σ ps vs
  | [], vs, hl, _ => by have : vs = [] := List.eq_nil_of_length_eq_zero (by simpa using hl.symm); subst this; simp [RepL]
  | p :: ps, [], hl, _ => by simp at hl
  | p :: ps, v :: vs, hl, hh => by
    unfold RepL
    exact ⟨v, vs, rfl, hh 0 p v rfl rfl, RepL.of_pointwise ps vs (by simpa using hl) (fun i p' v' h1 h2 => hh (i + 1) p' v' (by simpa using h1) (by simpa using h2))⟩

theorem typeInfo_run {P : Program} {w : World} {t : TypeId} {i : TypeInfo} (h : P.info? t = some i) : (typeInfo t).run P w = .ok i w := by
  simp [typeInfo, program, Sem.run, Result.andThen, h]
theorem bytesOf_eq {P : Program} {t : TypeId} {i : TypeInfo} (h : P.info? t = some i) : P.bytesOf t = i.bytes := by simp [Program.bytesOf, h]
theorem wrap_i64 {m : Int} (h0 : 0 ≤ m) (h1 : m ≤ 9223372036854775807) : IntKind.i64.wrap m = m := by
  have e1 : IntKind.i64.bits = 64 := rfl
  have e2 : IntKind.i64.signed = true := rfl
  unfold IntKind.wrap
  rw [e1, e2]
  have h2 : m % (2 : Int) ^ 64 = m := Int.emod_eq_of_lt h0 (by omega)
  simp only [h2, Bool.true_and]
  rw [if_neg]
  simp
  omega

theorem ofCells_noOw : ∀ (vs : List Value) (h : Hdr) (sz : Nat) (es : List (List PV)), PV.ow h sz es ∉ ofCells vs
  | [], _, _, _ => by simp [ofCells]
  | v :: vs, h, sz, es => by
    simp only [ofCells, List.mem_cons, not_or]
    refine ⟨?_, ofCells_noOw vs h sz es⟩
    unfold ofCell
    split <;> simp
theorem zero_noOw {P : Program} {e : TypeId} {z : List PV} (hz : zeroT P e = some z) (h : Hdr) (sz : Nat) (es : List (List PV)) : PV.ow h sz es ∉ z := by
  unfold zeroT at hz
  split at hz
  · split at hz
    · rename_i zv _
      cases hz
      unfold ofVal
      split
      · exact ofCells_noOw _ _ _ _
      · unfold ofCell
        split <;> simp [cellsV]
    · cases hz
  · cases hz
theorem newB_cases {P : Program} {T : Tab} {e : TypeId} {z z2 : List PV} {sz j : Nat} (hz : zeroT P e = some z) (hn : ∀ n, T.nar = n + 1 → hasSl z = true → z2 = owZ n z) : newB T.nar sz z ((Sig.std P T).rep j z2) = .arr false sz ((Sig.std P T).rep j z2) ∨ (newB T.nar sz z ((Sig.std P T).rep j z2) = .nar sz ((Sig.std P T).rep j z2) ∧
    ∀ (r : Nat) (row : List PV) (c : Nat) (h : Hdr) (sz' : Nat) (es : List (List PV)), ((Sig.std P T).rep j z2)[r]? = some row → row[c]? = some (PV.ow h sz' es) → es = []) := by
  unfold newB
  cases hnar : T.nar with
  | zero => exact .inl rfl
  | succ n =>
    cases hs : hasSl z with
    | false => exact .inl rfl
    | true =>
      obtain rfl := hn n hnar hs
      refine .inr ⟨rfl, fun r row c h sz' es hr hc => ?_⟩
      have : row = owZ n z := by
        have hr : (List.replicate j (owZ n z))[r]? = some row := hr
        rw [List.getElem?_replicate] at hr
        split at hr
        · cases hr; rfl
        · cases hr
      subst this
      exact owZ_empty (fun h sz es => zero_noOw hz h sz es) c hc
include hT H hid in
theorem op_makeSlice {t : TypeId} {x y : Operand} (ho : o.op = .makeSlice t x y) (h : opE T (Sig.std P T) (.makeSlice t x y) ps lk id K) : Res P C o a w σ ps st n id K := by
  have hx := ev_rep H x
  have hy := ev_rep H y
  simp only [opE] at h
  split at h
  · rename_i agg size z0 plain esz bytes z k1 m1 k2 m2 e hxe hye
    obtain ⟨et, hu, rfl, rfl, hz⟩ := tab_slice hT e
    obtain ⟨zv, hzr, hzrep⟩ := zero_rep hz.symm
    have hxv := rep_intV hx hxe
    have hyv := rep_intV hy hye
    cases hb : (isPos (P.cellsOf et) && Nat.beq (lenL z) (P.cellsOf et) && allCell z) with
    | false => rw [hb] at h; exact h.elim
    | true =>
      rw [hb] at h
      simp only [cond_true] at h
      simp only [Bool.and_eq_true, lenL_eq] at hb
      have hbz := hb.2
      have hb := hb.1
      have hinf := info_of_pos hb.1
      have hpos : 0 < P.cellsOf et := by
        rcases Nat.eq_zero_or_pos (P.cellsOf et) with h0 | h0
        · have := hb.1; rw [h0] at this; simp [isPos] at this
        · exact h0
      have hzl := Nat.eq_of_beq_eq_true hb.2
      obtain ⟨j, rfl, hle, hby, hmax, h⟩ := h
      obtain ⟨z2, hl2, hc2, hw2, h, hn2, _⟩ := wkN_std h
      have hzrep2 : ∀ w Y σ, RepL w Y σ z2 zv.cells.toList := fun w Y σ => hw2 _ _ _ _ (hzrep w Y σ)
      obtain ⟨m, rfl⟩ : ∃ m : Nat, m2 = (m : Int) := ⟨m2.toNat, by omega⟩
      cases hi : P.info? et with
      | none => exact absurd hi hinf
      | some inf =>
      have hbe := bytesOf_eq hi
      rw [hbe] at hby
      have hz0 := hzrep w Y σ
      have hzsz : zv.cells.size = P.cellsOf et := by have := hz0.length; rw [Array.length_toList] at this; omega
      let arr : Array Value := (Array.range (m * P.cellsOf et)).map (zv.cells[· % zv.cells.size]!)
      have harr : arr.size = m * P.cellsOf et := by simp [arr]
      have hrepl : ((Sig.std P T).rep j z2).length = j := by simp [Sig.std]
      obtain ⟨Y2, σ2, H2, hrep2, hoff⟩ := SW.newArrX (a := a) (m := m) (arr := arr) (rows := (Sig.std P T).rep j z2) (x := newB T.nar (P.cellsOf et) z ((Sig.std P T).rep j z2)) H hid (newB_cases hz.symm hn2) et hpos (by rw [hrepl]; omega) harr (by
        intro w' Y' hk hbl
        rw [RepR.iff]
        intro i r hr
        have hr' : r = z2 ∧ i < j := by
          have : (Sig.std P T).rep j z2 = List.replicate j z2 := rfl
          rw [this, List.getElem?_replicate] at hr
          split at hr
          · cases hr; exact ⟨rfl, ‹_›⟩
          · cases hr
        obtain ⟨rfl, hij⟩ := hr'
        refine ⟨⟨hl2.trans hzl, hc2 hbz⟩, ?_⟩
        rw [RepC.iff]
        intro c p hc
        obtain ⟨v, hv, _⟩ := (hzrep2 w Y noSg).get? hc
        have hrv := (hzrep2 w Y noSg).get? hc
        obtain ⟨v, hv, hrv⟩ := hrv
        refine ⟨v, ?_, hk _ _ hrv⟩
        rw [cell_of_block hbl]
        have hcl : c < P.cellsOf et := by
          rw [← hzl, ← hl2]
          by_cases hh : c < r.length
          · exact hh
          · rw [List.getElem?_eq_none (Nat.le_of_not_lt hh)] at hc; cases hc
        have hlt : 0 + i * P.cellsOf et + c < m * P.cellsOf et := by
          have := Nat.mul_le_mul_right (P.cellsOf et) (show i + 1 ≤ m by omega)
          rw [Nat.add_mul] at this; omega
        simp only [arr]
        rw [Array.getElem?_map, Array.getElem?_range, if_pos hlt]
        simp only [Option.map_some]
        congr 1
        rw [hzsz]
        have : (0 + i * P.cellsOf et + c) % P.cellsOf et = c := by
          rw [Nat.zero_add, Nat.add_comm, Nat.add_mul_mod_self_right]; exact Nat.mod_eq_of_lt hcl
        rw [this]
        rw [Array.getElem?_toList] at hv
        simp [getElem!_def, hv])
      rw [hrepl] at hrep2
      refine ⟨_, _, _, _, Y2, σ2, h, .inl ?_, H2, hrep2, hoff⟩
      have w1 : IntKind.i64.wrap (j : Int) = (j : Int) := wrap_i64 (by omega) (by omega)
      have w2 : IntKind.i64.wrap (m : Int) = (m : Int) := wrap_i64 (by omega) (by omega)
      have c1 : ¬ ((((m : Int) < 0 || decide ((inf.bytes : Int) * m > 2 ^ 48)) || decide ((j : Int) < 0) || decide ((j : Int) > m)) = true) := by
        simp; omega
      have c3 : ¬ (m * inf.bytes > roomBytes) := by
        unfold roomBytes
        have : ((inf.bytes * m : Nat) : Int) ≤ 140737488355328 := by simpa using hby
        rw [Nat.mul_comm]; omega
      simp only [execOp, ho, Instr.makeSlice, Sem.run_bind, run_und hu, Result.andThen, hxv, hyv, asInt, run_asIntOf, Sem.run_pure, typeInfo_run hi, w1, w2]
      rw [if_neg c1]
      simp only [askRoom, Int.toNat_natCast]
      rw [if_neg c3]
      simp only [Sem.run_bind, Sem.run_pure, Result.andThen, run_sizeOf hinf]
      by_cases h0 : m * P.cellsOf et = 0
      · have : arr = #[] := by simp [arr, h0]
        rw [if_pos h0]
        simp only [h0, Sem.run_pure, Sem.run_bind, Result.andThen, newRow, newObj]
        rw [show (Array.range 0).map ((#[] : Array Value)[· % (#[] : Array Value).size]!) = arr by rw [this]; simp]
        simp [Sem.run]
      · rw [if_neg h0]
        simp only [Sem.run_bind, hzr, Sem.run_pure, Result.andThen, newRow, newObj]
        simp [Sem.run, arr]
  · exact h.elim

theorem goInt_eq (m : Int) : goInt m = .int .i64 m := rfl

include H in
/-- a builtin's call, once its arguments are known -/
theorem builtin_quiet {b : Builtin} {args : Array Operand} {ts : Array TypeId} {v : PV} {cv : Value} (ho : o.op = .call { callee := .builtin b, args := args, argTypes := ts })
    (hr : ∀ ty cs, (builtin b ts ty cs (args.toList.map a.eval).toArray).run P w = .ok (.value cv) w) (hv : Rep w Y σ v cv) (hK : K v []) : Res P C o a w σ ps st n id K := by
  have hmap : args.map a.eval = (args.toList.map a.eval).toArray := by apply Array.ext'; simp
  refine Res.quiet H (cv := cv) ?_ hv hK
  simp only [execOp, ho, resolve, hmap, Sem.run_bind, Sem.run_pure, Result.andThen, invoke]
  exact hr _ _

theorem evA_two {w : World} {Y : Nat → Prop} {σ : Sg} {p q : PV} {l : List PV} {vs : List Value} (h : RepL w Y σ (p :: q :: l) vs) : ∃ u v vs', vs = u :: v :: vs' ∧ Rep w Y σ p u ∧ Rep w Y σ q v ∧ RepL w Y σ l vs' := by
  unfold RepL at h; obtain ⟨u, vs1, rfl, h1, h2⟩ := h
  unfold RepL at h2; obtain ⟨v, vs2, rfl, h3, h4⟩ := h2
  exact ⟨u, v, vs2, rfl, h1, h3, h4⟩
theorem evA_one {w : World} {Y : Nat → Prop} {σ : Sg} {p : PV} {vs : List Value} (h : RepL w Y σ [p] vs) : ∃ u, vs = [u] ∧ Rep w Y σ p u := by
  unfold RepL at h; obtain ⟨u, vs1, rfl, h1, h2⟩ := h
  unfold RepL at h2; subst h2
  exact ⟨u, rfl, h1⟩
theorem evA_twoX {w : World} {Y : Nat → Prop} {σ : Sg} {p q : PV} {vs : List Value} (h : RepL w Y σ [p, q] vs) : ∃ u v, vs = [u, v] ∧ Rep w Y σ p u ∧ Rep w Y σ q v := by
  obtain ⟨u, v, vs', rfl, h1, h2, h3⟩ := evA_two h
  unfold RepL at h3; subst h3
  exact ⟨u, v, rfl, h1, h2⟩

theorem array_one {α : Type} {x : Array α} {t : α} (h : x.toList = [t]) : x = #[t] := by apply Array.ext'; simpa using h

include hT H in
theorem op_len {args : Array Operand} {ts : Array TypeId} (ho : o.op = .call { callee := .builtin .len, args := args, argTypes := ts }) (h : opE T (Sig.std P T) (.call { callee := .builtin .len, args := args, argTypes := ts }) ps lk id K) : Res P C o a w σ ps st n id K := by
  have hargs := evA_rep H args.toList
  simp only [opE] at h
  generalize hvs : args.toList.map a.eval = vs at hargs
  split at h
  all_goals first | (exact h.elim) | skip
  · rename_i s t hb he ht
    rw [he] at hargs
    obtain ⟨u, rfl, hu⟩ := evA_one hargs
    have ht' := array_one ht
    subst ht'
    split at h
    · rename_i e
      refine builtin_quiet H ho (cv := .int .i64 s.size) (fun ty cs => ?_) (by simp [Rep, Sig.std]) h
      rw [hvs, rep_str hu]
      simp [builtin, Builtin.len_, run_und (tab_str hT e), goInt_eq]
    · exact h.elim
  · rename_i sz es full t hb he ht
    rw [he] at hargs
    obtain ⟨u, rfl, hu⟩ := evA_one hargs
    have ht' := array_one ht
    subst ht'
    split at h
    · rename_i e
      obtain ⟨et, hund, _⟩ := tab_slice hT e
      unfold Rep at hu
      obtain ⟨x, len, cap, rfl, hl, _⟩ := hu
      refine builtin_quiet H ho (cv := .int .i64 es.length) (fun ty cs => ?_) (by simp [Rep, Sig.std]) h
      rw [hvs]
      simp [builtin, Builtin.len_, run_und hund, goInt_eq, hl]
    · exact h.elim
  · rename_i b r c hd sz m t hb he ht
    rw [he] at hargs
    obtain ⟨u, rfl, hu⟩ := evA_one hargs
    have ht' := array_one ht
    subst ht'
    split at h
    · rename_i e
      obtain ⟨et, hund, _⟩ := tab_slice hT e
      have : ∃ x c, u = .slice x m c := by
        unfold Rep at hu
        rcases hu with ⟨_, rfl, _⟩ | ⟨rfl, x, c, rfl⟩
        · exact ⟨_, _, rfl⟩
        · exact ⟨_, _, rfl⟩
      obtain ⟨x, c, rfl⟩ := this
      refine builtin_quiet H ho (cv := .int .i64 m) (fun ty cs => ?_) (by simp [Rep, Sig.std]) h
      rw [hvs]
      simp [builtin, Builtin.len_, run_und hund, goInt_eq]
    · exact h.elim
  · rename_i b r m t hb he ht
    rw [he] at hargs
    obtain ⟨u, rfl, hu⟩ := evA_one hargs
    have ht' := array_one ht
    subst ht'
    split at h
    · rename_i e
      obtain ⟨et, hund, _⟩ := tab_slice hT e
      have : ∃ x c, u = .slice x m c := by
        unfold Rep at hu
        rcases hu with ⟨l, cap, _, rfl, _⟩ | ⟨rfl, x, rfl⟩
        · exact ⟨_, _, rfl⟩
        · exact ⟨_, _, rfl⟩
      obtain ⟨x, c, rfl⟩ := this
      refine builtin_quiet H ho (cv := .int .i64 m) (fun ty cs => ?_) (by simp [Rep, Sig.std]) h
      rw [hvs]
      simp [builtin, Builtin.len_, run_und hund, goInt_eq]
    · exact h.elim
  all_goals contradiction

theorem mm_run {P : Program} {w : World} {ts : Array TypeId} {ty : TypeId} {k : IntKind} {m c : Int} :
    (Builtin.min_ ts ty #[.int k m, .int k c]).run P w = .ok (.int k (if c < m then c else m)) w ∧ (Builtin.max_ ts ty #[.int k m, .int k c]).run P w = .ok (.int k (if c > m then c else m)) w := by
  constructor
  · simp [Builtin.min_, Builtin.min2]
  · simp [Builtin.max_, Builtin.max2]

include hT H in
theorem op_min {args : Array Operand} {ts : Array TypeId} (ho : o.op = .call { callee := .builtin .min, args := args, argTypes := ts }) (h : opE T (Sig.std P T) (.call { callee := .builtin .min, args := args, argTypes := ts }) ps lk id K) : Res P C o a w σ ps st n id K := by
  have hargs := evA_rep H args.toList
  simp only [opE] at h
  generalize hvs : args.toList.map a.eval = vs at hargs
  split at h
  all_goals first | (exact h.elim) | skip
  · contradiction
  · contradiction
  · contradiction
  · contradiction
  · rename_i p q l hb he
    rw [he] at hargs
    obtain ⟨u, v, rfl, hu, hv⟩ := evA_twoX hargs
    have fin : ∀ {k k' : IntKind} {m c : Int} (mk : Int → PV), (∀ z, Rep w Y σ (mk z) (.int k z)) → u = .int k m → v = .int k' c → (bif kindEq k k' then K (mk (if c < m then c else m)) [] else False) → Res P C o a w σ ps st n id K := by
      intro k k' m c mk h1 e1 e2 hh
      cases hk : kindEq k k' with
      | false => rw [hk] at hh; exact hh.elim
      | true =>
        rw [hk] at hh
        have := kindEq_eq hk; subst this
        refine builtin_quiet H ho (cv := .int k (if c < m then c else m)) (fun ty cs => ?_) (h1 _) hh
        rw [hvs, e1, e2]
        have := (mm_run (P := P) (w := w) (ts := ts) (ty := ty) (k := k) (m := m) (c := c)).1
        simp only [builtin, Sem.run_bind, this, Result.andThen, Sem.run_pure]
    split at h
    · exact fin (fun z => .int _ z) (fun z => by simp [Rep]) (rep_int hu) (rep_int hv) h
    · split at h
      · rename_i h1 h2
        exact fin (fun z => .si _ z) (fun z => by simp [Rep]) (rep_intV hu h1) (rep_intV hv h2) h
      · exact h.elim
  all_goals contradiction

include hT H in
theorem op_max {args : Array Operand} {ts : Array TypeId} (ho : o.op = .call { callee := .builtin .max, args := args, argTypes := ts }) (h : opE T (Sig.std P T) (.call { callee := .builtin .max, args := args, argTypes := ts }) ps lk id K) : Res P C o a w σ ps st n id K := by
  have hargs := evA_rep H args.toList
  simp only [opE] at h
  generalize hvs : args.toList.map a.eval = vs at hargs
  split at h
  all_goals first | (exact h.elim) | skip
  · contradiction
  · contradiction
  · contradiction
  · contradiction
  · contradiction
  · rename_i p q l hb he
    rw [he] at hargs
    obtain ⟨u, v, rfl, hu, hv⟩ := evA_twoX hargs
    have fin : ∀ {k k' : IntKind} {m c : Int} (mk : Int → PV), (∀ z, Rep w Y σ (mk z) (.int k z)) → u = .int k m → v = .int k' c → (bif kindEq k k' then K (mk (if m < c then c else m)) [] else False) → Res P C o a w σ ps st n id K := by
      intro k k' m c mk h1 e1 e2 hh
      cases hk : kindEq k k' with
      | false => rw [hk] at hh; exact hh.elim
      | true =>
        rw [hk] at hh
        have := kindEq_eq hk; subst this
        refine builtin_quiet H ho (cv := .int k (if m < c then c else m)) (fun ty cs => ?_) (h1 _) hh
        rw [hvs, e1, e2]
        have := (mm_run (P := P) (w := w) (ts := ts) (ty := ty) (k := k) (m := m) (c := c)).2
        simp only [builtin, Sem.run_bind, this, Result.andThen, Sem.run_pure]
    split at h
    · exact fin (fun z => .int _ z) (fun z => by simp [Rep]) (rep_int hu) (rep_int hv) h
    · split at h
      · rename_i h1 h2
        exact fin (fun z => .si _ z) (fun z => by simp [Rep]) (rep_intV hu h1) (rep_intV hv h2) h
      · exact h.elim
  all_goals contradiction
end
end Go.Pv
