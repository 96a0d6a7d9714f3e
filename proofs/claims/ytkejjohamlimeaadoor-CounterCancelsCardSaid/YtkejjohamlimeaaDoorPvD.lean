/-
  The shapes of the statements' arguments; what the condition on the package-level variable gives.
-/
import Derived.Test.YtkejjohamlimeaaDoorPvC
import Derived.Test.YtkejjohamlimeaaDoorPvRow
import Derived.LaidMore
import Derived.Stop.Joined
namespace Go.Proofs.YtkejjohamlimeaaDoor
open Go Go.Pv
set_option linter.all false
theorem shpI {cs : List PV} (h : Shp Tryd.prog 3 cs) : ∃ n, cs = [.si .i64 n] := by
  obtain ⟨n, e, _⟩ := h.inv_int Tryd.underlying3
  exact ⟨n, e⟩
theorem shpVI {p : PV} (h : ShpV Tryd.prog 3 p) : ∃ n, p = .si .i64 n := by
  obtain ⟨n, e⟩ := shpI (h.inv_one (by kernel_rfl))
  cases e
  exact ⟨n, rfl⟩
theorem shpVS {p : PV} (h : ShpV Tryd.prog 9 p) : ∃ s, p = .str s := by
  obtain ⟨s, e, _⟩ := (h.inv_one (by kernel_rfl)).inv_str Tryd.underlying9
  cases e
  exact ⟨s, rfl⟩
theorem shpVC {p : PV} (h : ShpV Tryd.prog 22 p) : ∃ c, p = cv1 c := by
  obtain ⟨cs, rfl, h2⟩ := h.inv_agg (by kernel_rfl)
  have h := h2.inv_arr Tryd.underlying22
  obtain ⟨a0, b0, rfl, k0, h⟩ := h.inv_cons
  obtain ⟨a1, b1, rfl, k1, h⟩ := h.inv_cons
  obtain ⟨a2, b2, rfl, k2, h⟩ := h.inv_cons
  obtain rfl := h.inv_nil
  obtain ⟨n0, rfl⟩ := shpI k0
  obtain ⟨n1, rfl⟩ := shpI k1
  obtain ⟨n2, rfl⟩ := shpI k2
  exact ⟨(n0, n1, n2), rfl⟩

theorem gNames : Tryd.prog.globalNamed "cardgame/counter.names" = some 0 := by kernel_rfl
theorem tNames : (Tryd.prog.globals[0]?).map (·.type) = some 39 := by kernel_rfl
abbrev laid1 : List (String × DataW Unit) := [("cardgame/counter.names", Rows.laid_cardgame_counter_names)]
theorem bytes_eq {s : ByteArray} {l : List UInt8} (h : s.data.toList = l) : s = ⟨l.toArray⟩ := by
  cases s with | mk d => simp at h; subst h; simp
/-- The variable holds the three names. -/
theorem glob_of {W : World} (h : laidMetH Tryd.prog laid1 W) : Glob tab.gl W NoY := by
  rw [MakeChecks.laidMetH_plain _ _ _ (by kernel_rfl)] at h
  obtain ⟨ps, ⟨g0, t0, cs0, f0, p0, q0, hg0, ht0, hv0, hd0, _, _⟩, _, _⟩ := h
  obtain rfl := Option.some.inj (gNames.symm.trans hg0)
  obtain rfl := Option.some.inj (tNames.symm.trans ht0)
  obtain ⟨xs, m1, rfl, hx1, hlen, hn3, hel⟩ := DataW.trod_array Tryd.underlying39 hd0
  have c9 : Tryd.prog.cellsOf 9 = 1 := by kernel_rfl
  have c39 : Tryd.prog.cellsOf 39 = 3 := by kernel_rfl
  rw [c39] at hlen
  have e0 := hel 0 (by decide)
  have e1 := hel 1 (by decide)
  have e2 := hel 2 (by decide)
  obtain ⟨l0⟩ := cs0
  rw [c9] at e0 e1 e2
  match l0, hlen with
  | [a, b, c], _ =>
    match xs, hn3 with
    | [x0, x1, x2], _ =>
      simp only [Prod.mk.injEq, Rows.laid_cardgame_counter_names, DataW.agg.injEq, List.map_cons, List.map_nil, List.cons.injEq] at hx1
      obtain ⟨⟨y0, y1, y2, _⟩, _⟩ := hx1
      obtain ⟨s0, z0, w0, _⟩ := DataW.trod_string Tryd.underlying9 (show DataW.trod _ Tryd.prog W 0 _ false m1 9 [a] = some x0 from e0)
      obtain ⟨s1, z1, w1, _⟩ := DataW.trod_string Tryd.underlying9 (show DataW.trod _ Tryd.prog W 0 _ false m1 9 [b] = some x1 from e1)
      obtain ⟨s2, z2, w2, _⟩ := DataW.trod_string Tryd.underlying9 (show DataW.trod _ Tryd.prog W 0 _ false m1 9 [c] = some x2 from e2)
      simp only [List.cons.injEq, and_true] at z0 z1 z2
      subst z0 z1 z2
      rw [w0] at y0; rw [w1] at y1; rw [w2] at y2
      simp only [DataW.lit.injEq, Lit.string.injEq] at y0 y1 y2
      have q0 := bytes_eq y0.symm
      have q1 := bytes_eq y1.symm
      have q2 := bytes_eq y2.symm
      subst q0 q1 q2
      have k0 := World.var?_cell hg0 hv0 0
      have k1 := World.var?_cell hg0 hv0 1
      have k2 := World.var?_cell hg0 hv0 2
      intro g cs hg
      match g with
      | 0 =>
        simp only [tab, glF, Option.some.injEq] at hg
        subst hg
        unfold Rep
        refine ⟨0, 0, rfl, ⟨heap_of_cell k0, fun h => h⟩, ?_⟩
        simp only [names, RepC, Rep]
        exact ⟨⟨_, k0, rfl⟩, ⟨_, k1, rfl⟩, ⟨_, k2, rfl⟩, trivial⟩
      | g + 1 => simp [tab, glF] at hg

theorem own : ownKnob Tryd.prog.godebug = none := by kernel_rfl
theorem door_met (os : Os) (args : Array Value) : laidMetH Tryd.prog laid1 ((World.doorLaid Tryd.prog 400 os).forCall (fun _ _ => 0) ⟨#[], args, []⟩).memory :=
  laidMetH_of_parts3 (fuel := 8) (laidMet_of_run' 8 (by kernel_rfl) (by kernel_rfl)) (by kernel_rfl) (by kernel_rfl)
end Go.Proofs.YtkejjohamlimeaaDoor
