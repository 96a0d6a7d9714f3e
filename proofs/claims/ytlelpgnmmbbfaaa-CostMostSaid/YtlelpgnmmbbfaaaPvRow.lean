/-
  Pv, part 26: a law's row, from its function's contract.
-/
import Derived.Test.YtlelpgnmmbbfaaaPvRead
import Derived.Carry
import Derived.Handed
namespace Go.Pv
open Go
set_option linter.all false

inductive ShpVL (P : Program) : List TypeId → List PV → Prop
  | nil : ShpVL P [] []
  | cons {t : TypeId} {ts : List TypeId} {p : PV} {ps : List PV} : ShpV P t p → ShpVL P ts ps → ShpVL P (t :: ts) (p :: ps)

section
variable {H : Type} {enc : TypeId × Value → H} {P : Program} {w : World} {base : Nat} {sp : Nat → Bool} {held : Bool}

theorem value_shp {ts : List TypeId} (hts : layAll P ts ts = true) {t : TypeId} (hmem : t ∈ ts) {v : Value} {d : DataW H} {pl : List MemPlace} {r : Reach} {b0 : Nat} (hval : Value.okWide P w r b0 t v) (h : DataW.Trod enc P w base sp held t v d pl) :
    ∃ p, Rep w NoY noSg p v ∧ ShpV P t p := by
  obtain ⟨fuel, h⟩ := h
  obtain ⟨ps, hr, hs, _⟩ := trod_shp hts fuel t _ _ hmem h
  have hl := layAll_spec ts hts t hmem
  have agg : (∃ cs, v = .agg cs) → isAggT P t = true → ∃ p, Rep w NoY noSg p v ∧ ShpV P t p := by
    rintro ⟨cs, rfl⟩ ha
    refine ⟨.agg ps, ?_, .agg hs ha⟩
    unfold Rep
    exact ⟨cs.toList, by simp, by simpa [Value.cells] using hr⟩
  have one : v.cells.toList = [v] → isAggT P t = false → ∃ p, Rep w NoY noSg p v ∧ ShpV P t p := by
    intro hv ha
    rw [hv] at hr
    have hlen := hr.length
    match ps, hr, hs, hlen with
    | [p], hr, hs, _ =>
      obtain ⟨u, e, hp⟩ := evA_one hr
      cases e
      exact ⟨p, hp, .one hs ha⟩
  unfold lay1 at hl
  unfold Value.okWide at hval
  split at hl
  · rename_i hu
    rw [hu] at hval
    obtain ⟨b, hb, _⟩ := DataW.trod_bool hu h
    refine one ?_ (by simp [isAggT, hu])
    cases v <;> simp_all [Value.cells, Cell.okWide, Cell.ok]
  · rename_i k hu
    rw [hu] at hval
    obtain ⟨b, hb, _⟩ := DataW.trod_int hu h
    refine one ?_ (by simp [isAggT, hu])
    cases v <;> simp_all [Value.cells, Cell.okWide, Cell.ok]
  · rename_i hu
    rw [hu] at hval
    obtain ⟨b, hb, _⟩ := DataW.trod_string hu h
    refine one ?_ (by simp [isAggT, hu])
    cases v <;> simp_all [Value.cells, Cell.okWide, Cell.ok]
  · rename_i e hu
    rw [hu] at hval
    refine one ?_ (by simp [isAggT, hu])
    cases v <;> simp_all [Value.cells, Cell.okWide, Cell.ok]
  · rename_i e hu
    rw [hu] at hval
    refine one ?_ (by simp [isAggT, hu])
    cases v <;> simp_all [Value.cells, Cell.okWide, Cell.ok]
  · rename_i fs hu
    rw [hu] at hval
    obtain ⟨cs, hc, _⟩ := hval
    exact agg ⟨cs, hc⟩ (by simp [isAggT, hu])
  · rename_i n e hu
    rw [hu] at hval
    obtain ⟨cs, hc, _⟩ := hval
    exact agg ⟨cs, hc⟩ (by simp [isAggT, hu])
  · cases hl

theorem args_shp {ts : List TypeId} (hts : layAll P ts ts = true) {r : Reach} {b0 : Nat} : ∀ (params : List TypeId) (vs : List Value) (ds : List (DataW H)) (pl : List MemPlace), (∀ t ∈ params, t ∈ ts) →
    (∀ (j : Nat) t v, params[j]? = some t → vs[j]? = some v → Value.okWide P w r b0 t v) → DataW.TrodAll enc P w base sp held params vs ds pl →
    ∃ ps, RepL w NoY noSg ps vs ∧ ShpVL P params ps ∧ ds.length = params.length
  | [], [], [], _, _, _, _ => ⟨[], by simp [RepL], .nil, rfl⟩
  | t :: params, v :: vs, d :: ds, pl, hm, hval, h => by
    obtain ⟨p, q, h1, h2, _⟩ := h
    obtain ⟨x, hx, hs⟩ := value_shp hts (hm t (by simp)) (hval 0 t v rfl rfl) h1
    obtain ⟨xs, hxs, hss, hl⟩ := args_shp hts params vs ds q (fun t ht => hm t (by simp [ht])) (fun j t v h1 h2 => hval (j + 1) t v (by simpa using h1) (by simpa using h2)) h2
    exact ⟨x :: xs, by unfold RepL; exact ⟨v, vs, rfl, hx, hxs⟩, .cons hs hss, by simp [hl]⟩
  | [], _ :: _, _, _, _, _, h => h.elim
  | [], [], _ :: _, _, _, _, h => h.elim
  | _ :: _, [], _, _, _, _, h => h.elim
  | _ :: _, _ :: _, [], _, _, _, h => h.elim

theorem args_stay {W W' : World} (hl : laidOutB P = true) (hb : RowKit.Below W.heap.size W W') : ∀ (params : List TypeId) (vs : List Value) (ds : List (DataW H)) (pl : List MemPlace), (∀ t ∈ params, P.readableRec t = true ∧ t < P.types.size) →
    (∀ x ∈ pl, x.block < W.heap.size) → DataW.TrodAll enc P W 0 (fun _ => true) true params vs ds pl → DataW.TrodAll enc P W' 0 (fun b => decide (b < W.heap.size)) true params vs ds pl
  | [], [], [], _, _, _, h => h
  | t :: params, v :: vs, d :: ds, pl, hm, hlt, h => by
    obtain ⟨p, q, h1, h2, e⟩ := h
    subst e
    exact ⟨p, q, RowKit.Below.trod hl (hm t (by simp)).1 (hm t (by simp)).2 h1 hb (fun x hx => hlt x (by simp [hx])), args_stay hl hb params vs ds q (fun t ht => hm t (by simp [ht])) (fun x hx => hlt x (by simp [hx])) h2, rfl⟩
  | [], _ :: _, _, _, _, _, h => h.elim
  | [], [], _ :: _, _, _, _, h => h.elim
  | _ :: _, [], _, _, _, _, h => h.elim
  | _ :: _, _ :: _, [], _, _, _, h => h.elim

/-- what is checked of a law's parameters: closed facts -/
def lawB (P : Program) (ts params : List TypeId) : Bool := laidOutB P && layAll P ts ts && params.all fun t => ts.contains t && P.readableRec t && Nat.blt t P.types.size

theorem law_calls {f : FuncId} {fn : Func} {s : ChangeSpec} {apart : Bool} {ts : List TypeId} (hB : lawB P ts fn.params.toList = true) (hvars : s.vars = []) {tb : TypeId} (hres : fn.resultTypes = #[tb]) (hb : P.underlying tb = some .bool)
    (hspec : ∀ (ds : List (DataW H)), ds.length = fn.params.toList.length → (s.fn H ds).results = [.lit (.bool true)] ∧ (s.fn H ds).args = ds ∧ (s.fn H ds).vars = [])
    {G : Nat → Option (List PV)} (hFn : ∀ pvs, ShpVL P fn.params.toList pvs → Fn P G f pvs (fun u => u = .sb true))
    (W : World) (hG : Glob G W NoY) (base : Nat) (args : Array Value) (ds gs : List (DataW H)) (before : List MemPlace)
    (hval : ∀ (j : Nat) t v, fn.params[j]? = some t → args[j]? = some v → Value.okWide P W .any base t v)
    (hW : DataW.Whole enc P fn.params.toList s.vars apart W args.toList ds gs before) :
    Calls P f args W fun e W' => ∃ v, e = .returned v ∧ s.post enc P fn apart true false false W args v W' := by
  unfold lawB at hB
  simp only [Bool.and_eq_true, List.all_eq_true] at hB
  obtain ⟨⟨hl, hts⟩, hp⟩ := hB
  have hp : ∀ t ∈ fn.params.toList, t ∈ ts ∧ P.readableRec t = true ∧ t < P.types.size := fun t ht => by
    have := hp t ht
    rw [Nat.blt_eq] at this
    exact ⟨by simpa using this.1.1, this.1.2, this.2⟩
  have hW0 := hW
  obtain ⟨pa, pv, hA, hV, hbef, _, _⟩ := hW
  obtain ⟨pvs, hr, hs, hlen⟩ := args_shp hts fn.params.toList args.toList ds pa (fun t ht => (hp t ht).1) (fun j t v h1 h2 => hval j t v (by simpa using h1) (by simpa using h2)) hA
  obtain ⟨_, hcalls⟩ := hFn pvs hs W NoY args.toList hG (fun _ h => h.elim) hr
  refine Calls.mono hcalls fun e W' h => ?_
  obtain ⟨cv, v, rfl, rfl, hrep, hchg⟩ := h
  have hcv := rep_sb hrep
  subst hcv
  refine ⟨.bool true, rfl, ?_⟩
  rw [hvars] at hV
  have hgs : gs = [] ∧ pv = [] := by
    cases gs with
    | nil => exact ⟨rfl, hV⟩
    | cons g gs => exact hV.elim
  obtain ⟨rfl, rfl⟩ := hgs
  obtain ⟨s1, s2, s3⟩ := hspec ds hlen
  have hbefore : ∀ p ∈ before, p.block < W.heap.size := fun p hp => by simpa using hW0.lt p hp
  unfold ChangeSpec.post
  refine ⟨ds, [], before, [], pa, [], hW0, ?_, ?_, ?_, hchg.below.frame _, fun h => by cases h⟩
  · rw [List.append_nil, s1, hres]
    refine ⟨[], [], ⟨1, ?_⟩, rfl, rfl⟩
    simp [DataW.trod, hb, Value.cells]
  · rw [List.append_nil, s2]
    exact args_stay hl hchg.below _ _ _ _ (fun t ht => (hp t ht).2) (fun x hx => hbefore x (by rw [hbef]; simp [hx])) hA
  · rw [List.append_nil, s3, hvars]
    rfl
end

/-! ### shapes, taken apart -/
section
variable {P : Program} {t e : TypeId} {cs : List PV} {p : PV}
theorem Shp.inv_int {k : IntKind} (hu : P.underlying t = some (.int k)) (h : Shp P t cs) : ∃ n, cs = [.si k n] ∧ (Lit.int k n).wf = true := by
  cases h with
  | int h1 h2 => rw [hu] at h1; cases h1; exact ⟨_, rfl, h2⟩
  | _ => simp_all
theorem Shp.inv_bool (hu : P.underlying t = some .bool) (h : Shp P t cs) : ∃ b, cs = [.sb b] := by
  cases h with
  | bool h1 => exact ⟨_, rfl⟩
  | _ => simp_all
theorem Shp.inv_str (hu : P.underlying t = some .string) (h : Shp P t cs) : ∃ s, cs = [.str s] ∧ s.size ≤ maxLen := by
  cases h with
  | str h1 h2 => exact ⟨_, rfl, h2⟩
  | _ => simp_all
theorem Shp.inv_slice (hu : P.underlying t = some (.slice e)) (h : Shp P t cs) : ∃ es, cs = [.sl (P.cellsOf e) es false] ∧ (∀ r ∈ es, Shp P e r) ∧ es.length ≤ maxLen := by
  cases h with
  | sl h1 h2 h3 => rw [hu] at h1; cases h1; exact ⟨_, rfl, h2, h3⟩
  | _ => simp_all
theorem Shp.inv_ptr (hu : P.underlying t = some (.pointer e)) (h : Shp P t cs) : cs = [.nilp] ∨ ∃ ds, cs = [.pp ds] ∧ Shp P e ds := by
  cases h with
  | nilp h1 => exact .inl rfl
  | pp h1 h2 => rw [hu] at h1; cases h1; exact .inr ⟨_, rfl, h2⟩
  | _ => simp_all
theorem Shp.inv_struct {fs : Array Field} (hu : P.underlying t = some (.struct fs)) (h : Shp P t cs) : ShpL P (fs.toList.map (·.type)) cs := by
  cases h with
  | struct h1 h2 => rw [hu] at h1; cases h1; exact h2
  | _ => simp_all
theorem Shp.inv_arr {n : Nat} (hu : P.underlying t = some (.array n e)) (h : Shp P t cs) : ShpL P (List.replicate n e) cs := by
  cases h with
  | arr h1 h2 => rw [hu] at h1; cases h1; exact h2
  | _ => simp_all
theorem ShpL.inv_cons {ts : List TypeId} (h : ShpL P (t :: ts) cs) : ∃ a b, cs = a ++ b ∧ Shp P t a ∧ ShpL P ts b := by
  cases h with
  | cons h1 h2 => exact ⟨_, _, rfl, h1, h2⟩
theorem ShpL.inv_nil (h : ShpL P [] cs) : cs = [] := by cases h; rfl
theorem ShpV.inv_agg (ha : isAggT P t = true) (h : ShpV P t p) : ∃ cs, p = .agg cs ∧ Shp P t cs := by
  cases h with
  | one h1 h2 => rw [ha] at h2; cases h2
  | agg h1 h2 => exact ⟨_, rfl, h1⟩
theorem ShpV.inv_one (ha : isAggT P t = false) (h : ShpV P t p) : Shp P t [p] := by
  cases h with
  | one h1 h2 => exact h1
  | agg h1 h2 => rw [ha] at h2; cases h2
theorem ShpVL.inv_cons {ts : List TypeId} {ps : List PV} (h : ShpVL P (t :: ts) ps) : ∃ a b, ps = a :: b ∧ ShpV P t a ∧ ShpVL P ts b := by
  cases h with
  | cons h1 h2 => exact ⟨_, _, rfl, h1, h2⟩
theorem ShpVL.inv_nil {ps : List PV} (h : ShpVL P [] ps) : ps = [] := by cases h; rfl
end
end Go.Pv
