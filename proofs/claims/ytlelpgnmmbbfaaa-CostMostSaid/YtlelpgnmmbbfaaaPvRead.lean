/-
  Pv, part 25: what the reading of a call's arguments says of their cells: abstract values of the arguments' shape.
-/
import Derived.Test.YtlelpgnmmbbfaaaPvLoop
import Derived.OpenShut
import Derived.DataReads
namespace Go.Pv
open Go
set_option linter.all false

mutual
inductive Shp (P : Program) : TypeId → List PV → Prop
  | int {t : TypeId} {k : IntKind} {n : Int} : P.underlying t = some (.int k) → (Lit.int k n).wf = true → Shp P t [.si k n]
  | bool {t : TypeId} {b : Bool} : P.underlying t = some .bool → Shp P t [.sb b]
  | str {t : TypeId} {s : ByteArray} : P.underlying t = some .string → s.size ≤ maxLen → Shp P t [.str s]
  | nilp {t e : TypeId} : P.underlying t = some (.pointer e) → Shp P t [.nilp]
  | pp {t e : TypeId} {cs : List PV} : P.underlying t = some (.pointer e) → Shp P e cs → Shp P t [.pp cs]
  | sl {t e : TypeId} {es : List (List PV)} : P.underlying t = some (.slice e) → (∀ r ∈ es, Shp P e r) → es.length ≤ maxLen → Shp P t [.sl (P.cellsOf e) es false]
  | struct {t : TypeId} {fs : Array Field} {cs : List PV} : P.underlying t = some (.struct fs) → ShpL P (fs.toList.map (·.type)) cs → Shp P t cs
  | arr {t e : TypeId} {n : Nat} {cs : List PV} : P.underlying t = some (.array n e) → ShpL P (List.replicate n e) cs → Shp P t cs
inductive ShpL (P : Program) : List TypeId → List PV → Prop
  | nil : ShpL P [] []
  | cons {t : TypeId} {ts : List TypeId} {a b : List PV} : Shp P t a → ShpL P ts b → ShpL P (t :: ts) (a ++ b)
end

/-- fields without gaps; every part's type is in the list -/
def contig (P : Program) (ts : List TypeId) : List Field → Nat → Option Nat
  | [], n => some n
  | f :: fs, n => bif Nat.beq f.offset n && ts.contains f.type then contig P ts fs (n + P.cellsOf f.type) else none
def lay1 (P : Program) (ts : List TypeId) (t : TypeId) : Bool :=
  match P.underlying t with
  | some .bool | some (.int _) | some .string => Nat.beq (P.cellsOf t) 1
  | some (.pointer e) => Nat.beq (P.cellsOf t) 1 && Nat.blt 0 (P.cellsOf e) && ts.contains e
  | some (.slice e) => Nat.beq (P.cellsOf t) 1 && Nat.blt 0 (P.cellsOf e) && ts.contains e
  | some (.struct fs) => match contig P ts fs.toList 0 with | some n => Nat.beq n (P.cellsOf t) | none => false
  | some (.array n e) => Nat.beq (P.cellsOf t) (n * P.cellsOf e) && ts.contains e
  | _ => false
def layAll (P : Program) (ts : List TypeId) : List TypeId → Bool
  | [] => true
  | t :: l => lay1 P ts t && layAll P ts l
theorem layAll_spec {P : Program} {ts : List TypeId} : ∀ (l : List TypeId), layAll P ts l = true → ∀ t ∈ l, lay1 P ts t = true
  | [], _, t, h => by simp at h
  | u :: l, h, t, ht => by
    simp only [layAll, Bool.and_eq_true] at h
    rcases List.mem_cons.1 ht with rfl | ht
    · exact h.1
    · exact layAll_spec l h.2 t ht

section
variable {H : Type} {enc : TypeId × Value → H} {P : Program} {w : World} {base : Nat} {sp : Nat → Bool} {held : Bool}

def NoY : Nat → Prop := fun _ => False

theorem allCell_app : ∀ (a b : List PV), allCell a = true → allCell b = true → allCell (a ++ b) = true
  | [], b, _, h => by simpa using h
  | x :: a, b, h, k => by
    simp only [allCell, Bool.and_eq_true, List.cons_append] at h ⊢
    exact ⟨h.1, allCell_app a b h.2 k⟩

mutual
theorem Shp.cells {t : TypeId} {cs : List PV} : Shp P t cs → allCell cs = true
  | .int _ _ => rfl
  | .bool _ => rfl
  | .str _ _ => rfl
  | .nilp _ => rfl
  | .pp _ _ => rfl
  | .sl _ _ _ => rfl
  | .struct _ h => ShpL.cells h
  | .arr _ h => ShpL.cells h
theorem ShpL.cells {ts : List TypeId} {cs : List PV} : ShpL P ts cs → allCell cs = true
  | .nil => rfl
  | .cons h k => allCell_app _ _ (Shp.cells h) (ShpL.cells k)
end

theorem RepL.append {Y : Nat → Prop} {σ : Sg} {a b : List PV} {vs us : List Value} (h : RepL w Y σ a vs) (k : RepL w Y σ b us) : RepL w Y σ (a ++ b) (vs ++ us) := by
  have := RepL.app a b vs us h k
  rwa [appL_eq] at this

theorem spot_of_cell {a : Addr} {v : Value} (h : w.cell? a = some v) : a.spot = none := by
  unfold World.cell? at h
  split at h
  · split at h
    · cases h
    · rename_i hs
      cases hh : a.spot with
      | none => rfl
      | some s => rw [hh] at hs; simp at hs
  · cases h

theorem row_of_cells {b : Nat} {o : Nat} {n : Nat} {vs : List Value} {ps : List PV} (hc : w.cells? base ⟨b, o, none⟩ n = some vs) (hr : RepL w NoY noSg ps vs) : RepC w NoY noSg b ps o := by
  obtain ⟨_, hl, hg⟩ := World.cells?_some hc
  refine RepC.of_vals _ _ _ hr fun i v hv => ?_
  have hi : i < n := by
    rw [← hl]
    by_cases h : i < vs.length
    · exact h
    · rw [List.getElem?_eq_none (Nat.le_of_not_lt h)] at hv; cases hv
  have := hg i hi
  rw [hv] at this
  unfold Addr.add at this
  by_cases h0 : i = 0
  · subst h0; simpa using this
  · rw [if_neg h0] at this; exact this

theorem addr_plus {a : Addr} (h : a.spot = none) (n : Nat) : a.add n = ⟨a.block, a.off + n, none⟩ := by
  unfold Addr.add
  by_cases h0 : n = 0
  · subst h0; simp; cases a; simp at h; simp [h]
  · rw [if_neg h0]

theorem fields_read {ts : List TypeId} {cs : List Value} {xs : Nat → Option (DataW H × List MemPlace)} {m : Nat}
    (ih : ∀ (t : TypeId) (cs : List Value) x, t ∈ ts → DataW.trod enc P w base sp held m t cs = some x → ∃ ps, RepL w NoY noSg ps cs ∧ Shp P t ps ∧ cs.length = P.cellsOf t) :
    ∀ (fs : List Field) (n k : Nat), contig P ts fs n = some cs.length → n ≤ cs.length →
      (∀ (i : Nat) (f : Field), fs[i]? = some f → DataW.trod enc P w base sp held m f.type ((cs.drop f.offset).take (P.cellsOf f.type)) = xs (k + i) ∧ ∃ y, xs (k + i) = some y) →
      ∃ ps, RepL w NoY noSg ps (cs.drop n) ∧ ShpL P (fs.map (·.type)) ps
  | [], n, k, hc, hn, _ => by
    simp only [contig, Option.some.injEq] at hc
    subst hc
    exact ⟨[], by simp [RepL], .nil⟩
  | f :: fs, n, k, hc, hn, hx => by
    simp only [contig] at hc
    cases hb : (Nat.beq f.offset n && ts.contains f.type) with
    | false => rw [hb] at hc; cases hc
    | true =>
      rw [hb] at hc
      simp only [cond_true] at hc
      simp only [Bool.and_eq_true] at hb
      have hoff := Nat.eq_of_beq_eq_true hb.1
      obtain ⟨h1, y, h2⟩ := hx 0 f rfl
      rw [h2, hoff] at h1
      obtain ⟨ps, hr, hs, hl⟩ := ih _ _ _ (by simpa using hb.2) h1
      have hle : n + P.cellsOf f.type ≤ cs.length := by
        rw [List.length_take, List.length_drop] at hl
        omega
      obtain ⟨qs, hr2, hs2⟩ := fields_read ih fs (n + P.cellsOf f.type) (k + 1) hc hle fun i g hg => by
        have := hx (i + 1) g (by simpa using hg)
        rw [show k + (i + 1) = k + 1 + i by omega] at this
        exact this
      refine ⟨ps ++ qs, ?_, by simpa using ShpL.cons hs hs2⟩
      have := hr.append hr2
      rwa [← List.drop_drop, List.take_append_drop] at this

theorem elems_read {e : TypeId} {cs : List Value} {m sz : Nat} {xs : Nat → Option (DataW H × List MemPlace)}
    (ih : ∀ (cs : List Value) x, DataW.trod enc P w base sp held m e cs = some x → ∃ ps, RepL w NoY noSg ps cs ∧ Shp P e ps ∧ cs.length = P.cellsOf e) (hsz : sz = P.cellsOf e) :
    ∀ (k s : Nat), cs.length = (s + k) * sz → (∀ i, i < s + k → DataW.trod enc P w base sp held m e ((cs.drop (i * sz)).take sz) = xs i ∧ ∃ y, xs i = some y) →
      ∃ ps, RepL w NoY noSg ps (cs.drop (s * sz)) ∧ ShpL P (List.replicate k e) ps
  | 0, s, hl, _ => by
    refine ⟨[], ?_, .nil⟩
    rw [List.drop_eq_nil_of_le (by rw [hl]; simp)]
    simp [RepL]
  | k + 1, s, hl, hx => by
    obtain ⟨h1, y, h2⟩ := hx s (by omega)
    rw [h2] at h1
    obtain ⟨ps, hr, hs, hl2⟩ := ih _ _ h1
    obtain ⟨qs, hr2, hs2⟩ := elems_read ih hsz k (s + 1) (by rw [hl]; congr 1; omega) fun i hi => hx i (by omega)
    refine ⟨ps ++ qs, ?_, by rw [List.replicate_succ]; exact .cons hs hs2⟩
    have := hr.append hr2
    rwa [show (s + 1) * sz = s * sz + sz by rw [Nat.add_mul]; omega, ← List.drop_drop, List.take_append_drop] at this

theorem rows_read {e : TypeId} {m : Nat} {a : Addr} {xs : Nat → Option (DataW H × List MemPlace)} (hspot : a.spot = none)
    (ih : ∀ (cs : List Value) x, DataW.trod enc P w base sp held m e cs = some x → ∃ ps, RepL w NoY noSg ps cs ∧ Shp P e ps ∧ cs.length = P.cellsOf e) :
    ∀ (k s : Nat), (∀ i, i < s + k → (w.cells? base (a.add (i * P.cellsOf e)) (P.cellsOf e)).bind (DataW.trod enc P w base sp held m e) = xs i ∧ ∃ y, xs i = some y) →
      ∃ es, RepR w NoY noSg a.block (P.cellsOf e) es (a.off + s * P.cellsOf e) ∧ (∀ r ∈ es, Shp P e r) ∧ es.length = k
  | 0, s, _ => ⟨[], by simp [RepR], by simp, rfl⟩
  | k + 1, s, hx => by
    obtain ⟨h1, y, h2⟩ := hx s (by omega)
    rw [h2] at h1
    obtain ⟨vs, hv, ht⟩ := Option.bind_eq_some_iff.1 h1
    obtain ⟨ps, hr, hs, hl⟩ := ih _ _ ht
    obtain ⟨es, hr2, hs2, hl2⟩ := rows_read hspot ih k (s + 1) fun i hi => hx i (by omega)
    rw [addr_plus hspot] at hv
    refine ⟨ps :: es, ?_, ?_, by simp [hl2]⟩
    · unfold RepR
      refine ⟨⟨by rw [← hr.length, hl], hs.cells⟩, row_of_cells hv hr, ?_⟩
      rw [show a.off + s * P.cellsOf e + P.cellsOf e = a.off + (s + 1) * P.cellsOf e by rw [Nat.add_mul]; omega]
      exact hr2
    · intro r hr'
      rcases List.mem_cons.1 hr' with rfl | h
      · exact hs
      · exact hs2 r h

theorem first_cell {a : Addr} {n : Nat} {vs : List Value} (hn : 0 < n) (h : w.cells? base a n = some vs) : a.spot = none ∧ a.block < w.heap.size := by
  obtain ⟨_, hl, hg⟩ := World.cells?_some h
  have h0 := hg 0 hn
  have : vs[0]? = some vs[0] := List.getElem?_eq_getElem (by omega)
  rw [this] at h0
  have ha : a.add 0 = a := by simp [Addr.add]
  rw [ha] at h0
  refine ⟨spot_of_cell h0, ?_⟩
  unfold World.cell? at h0
  by_cases hb : a.block < w.heap.size
  · exact hb
  · simp [Array.getElem?_eq_none (Nat.le_of_not_lt hb)] at h0

theorem trod_shp {ts : List TypeId} (hts : layAll P ts ts = true) : ∀ (fuel : Nat) (t : TypeId) (cs : List Value) (x : DataW H × List MemPlace), t ∈ ts →
    DataW.trod enc P w base sp held fuel t cs = some x → ∃ ps, RepL w NoY noSg ps cs ∧ Shp P t ps ∧ cs.length = P.cellsOf t
  | 0, t, cs, x, _, h => by simp [DataW.trod] at h
  | m + 1, t, cs, x, hmem, h => by
    have hl := layAll_spec ts hts t hmem
    have ih := trod_shp hts m
    have one : ∀ {p : PV} {v : Value}, Rep w NoY noSg p v → RepL w NoY noSg [p] [v] := fun h => by unfold RepL; exact ⟨_, _, rfl, h, by unfold RepL; rfl⟩
    unfold lay1 at hl
    split at hl
    · rename_i hu
      obtain ⟨b, rfl, _⟩ := DataW.trod_bool hu h
      exact ⟨[.sb b], one (by simp [Rep]), .bool hu, (Nat.eq_of_beq_eq_true hl).symm⟩
    · rename_i k hu
      obtain ⟨n, rfl, _, hw⟩ := DataW.trod_int hu h
      exact ⟨[.si k n], one (by simp [Rep]), .int hu hw, (Nat.eq_of_beq_eq_true hl).symm⟩
    · rename_i hu
      obtain ⟨s, rfl, _, hs⟩ := DataW.trod_string hu h
      exact ⟨[.str s], one (by simp [Rep]), .str hu hs, (Nat.eq_of_beq_eq_true hl).symm⟩
    · rename_i e hu
      simp only [Bool.and_eq_true, Nat.blt_eq] at hl
      obtain ⟨⟨h1, h2⟩, h3⟩ := hl
      have h3 : e ∈ ts := by simpa using h3
      have h1 := (Nat.eq_of_beq_eq_true h1).symm
      rcases DataW.trod_pointer hu h with ⟨rfl, _⟩ | ⟨a, cs', y, n, hf, rfl, _, hc, ht⟩
      · exact ⟨[.nilp], one (by simp [Rep]), .nilp hu, h1⟩
      · cases hf
        obtain ⟨ps, hr, hs, _⟩ := ih e _ _ h3 ht
        obtain ⟨hsp, hlt⟩ := first_cell h2 hc
        refine ⟨[.pp ps], one ?_, .pp hu hs, h1⟩
        have ha : a = ⟨a.block, a.off, none⟩ := by cases a; simp at hsp; simp [hsp]
        rw [ha] at hc
        unfold Rep
        exact ⟨a.block, a.off, by rw [← ha], ⟨hlt, fun h => h⟩, row_of_cells hc hr⟩
    · rename_i e hu
      simp only [Bool.and_eq_true, Nat.blt_eq] at hl
      obtain ⟨⟨h1, h2⟩, h3⟩ := hl
      have h3 : e ∈ ts := by simpa using h3
      have h1 := (Nat.eq_of_beq_eq_true h1).symm
      rcases DataW.trod_slice hu h with ⟨rfl, _⟩ | ⟨a, len, cap, elems, rest, n, hf, rfl, _, _, hle, hmax, hlen, hel, _⟩
      · refine ⟨[.sl (P.cellsOf e) [] false], one ?_, .sl hu (by simp) (by simp), h1⟩
        unfold Rep
        exact ⟨none, 0, 0, rfl, rfl, Nat.le_refl _, (fun h => by cases h), .inl rfl⟩
      · cases hf
        by_cases h0 : len = 0
        · subst h0
          refine ⟨[.sl (P.cellsOf e) [] false], one ?_, .sl hu (by simp) (by simp), h1⟩
          unfold Rep
          exact ⟨some a, 0, cap, rfl, rfl, hle, (fun h => by cases h), .inl rfl⟩
        · have hx : ∀ i, i < len → ∃ y, elems[i]? = some y := fun i hi => ⟨_, List.getElem?_eq_getElem (by omega)⟩
          obtain ⟨y, hy⟩ := hx 0 (by omega)
          have he0 := hel 0 (by omega)
          rw [hy] at he0
          obtain ⟨vs, hv, _⟩ := Option.bind_eq_some_iff.1 he0
          obtain ⟨hsp, hlt⟩ := first_cell h2 hv
          rw [Nat.zero_mul, show a.add 0 = a by simp [Addr.add]] at hsp hlt
          obtain ⟨es, hr, hs, hl2⟩ := rows_read (xs := fun i => elems[i]?) hsp (fun cs x hx => ih e cs x h3 hx) len 0 fun i hi => ⟨hel i (by omega), hx i (by omega)⟩
          refine ⟨[.sl (P.cellsOf e) es false], one ?_, .sl hu hs (by rw [hl2]; omega), h1⟩
          have ha : a = ⟨a.block, a.off, none⟩ := by cases a; simp at hsp; simp [hsp]
          unfold Rep
          refine ⟨some a, len, cap, rfl, hl2.symm, hle, (fun h => by cases h), .inr ⟨a.block, a.off, by rw [← ha], ⟨hlt, fun h => h⟩, ?_⟩⟩
          simpa using hr
    · rename_i fs hu
      split at hl
      · rename_i n hc
        obtain ⟨xs, n', hf, _, hcl, hxl, hx⟩ := DataW.trod_struct hu h
        cases hf
        have hn := Nat.eq_of_beq_eq_true hl
        obtain ⟨ps, hr, hs⟩ := fields_read (ts := ts) (xs := fun i => xs[i]?) (fun t cs x => ih t cs x) fs.toList 0 0 (by rw [hc, hn, hcl]) (Nat.zero_le _) fun i f hi => by
          have hi' : fs[i]? = some f := by simpa using hi
          have hlt : i < fs.size := by
            by_cases h : i < fs.size
            · exact h
            · rw [Array.getElem?_eq_none (Nat.le_of_not_lt h)] at hi'; cases hi'
          refine ⟨by simpa using hx i f hi', _, by rw [Nat.zero_add]; exact List.getElem?_eq_getElem (by omega)⟩
        exact ⟨ps, by simpa using hr, .struct hu hs, hcl⟩
      · cases hl
    · rename_i n e hu
      simp only [Bool.and_eq_true] at hl
      have h3 : e ∈ ts := by simpa using hl.2
      obtain ⟨xs, m', hf, _, hcl, hxl, hx⟩ := DataW.trod_array hu h
      cases hf
      obtain ⟨ps, hr, hs⟩ := elems_read (xs := fun i => xs[i]?) (fun cs x hx => ih e cs x h3 hx) rfl n 0 (by rw [hcl, Nat.zero_add]; exact Nat.eq_of_beq_eq_true hl.1) fun i hi => ⟨hx i (by omega), _, List.getElem?_eq_getElem (by omega)⟩
      exact ⟨ps, by simpa using hr, .arr hu hs, hcl⟩
    · cases hl

/-- a value of an argument's type, as one abstract value: its cells, or the one cell itself -/
inductive ShpV (P : Program) (t : TypeId) : PV → Prop
  | one {p : PV} : Shp P t [p] → isAggT P t = false → ShpV P t p
  | agg {cs : List PV} : Shp P t cs → isAggT P t = true → ShpV P t (.agg cs)
end
end Go.Pv
