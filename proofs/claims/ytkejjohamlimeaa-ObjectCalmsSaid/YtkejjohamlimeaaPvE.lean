/-
  The shapes of the statements' arguments.
-/
import Derived.Test.YtkejjohamlimeaaPvD
import Derived.Test.YtkejjohamlimeaaPvRow
namespace Go.Proofs.Ytkejjohamlimeaa
open Go Go.Pv
set_option linter.all false
theorem shpI {cs : List PV} (h : Shp Try.prog 3 cs) : ∃ n, cs = [.si .i64 n] := by
  obtain ⟨n, e, _⟩ := h.inv_int Try.underlying3
  exact ⟨n, e⟩
theorem shpB {cs : List PV} (h : Shp Try.prog 4 cs) : ∃ b, cs = [.sb b] := h.inv_bool Try.underlying4
theorem shpVI {p : PV} (h : ShpV Try.prog 3 p) : ∃ n, p = .si .i64 n := by
  obtain ⟨n, e⟩ := shpI (h.inv_one (by kernel_rfl))
  cases e
  exact ⟨n, rfl⟩
theorem shp22 {cs : List PV} (h : Shp Try.prog 22 cs) : ∃ n0 n1 n2, cs = [.si .i64 n0, .si .i64 n1, .si .i64 n2] := by
  have h := h.inv_arr Try.underlying22
  obtain ⟨a0, b0, rfl, k0, h⟩ := h.inv_cons
  obtain ⟨a1, b1, rfl, k1, h⟩ := h.inv_cons
  obtain ⟨a2, b2, rfl, k2, h⟩ := h.inv_cons
  obtain rfl := h.inv_nil
  obtain ⟨n0, rfl⟩ := shpI k0
  obtain ⟨n1, rfl⟩ := shpI k1
  obtain ⟨n2, rfl⟩ := shpI k2
  exact ⟨n0, n1, n2, rfl⟩
theorem shpV22 {p : PV} (h : ShpV Try.prog 22 p) : ∃ n0 n1 n2, p = .agg [.si .i64 n0, .si .i64 n1, .si .i64 n2] := by
  obtain ⟨cs, rfl, h2⟩ := h.inv_agg (by kernel_rfl)
  obtain ⟨n0, n1, n2, rfl⟩ := shp22 h2
  exact ⟨n0, n1, n2, rfl⟩
theorem shp25 {cs : List PV} (h : Shp Try.prog 25 cs) : ∃ n0 n1 n2 n3, cs = [.si .i64 n0, .si .i64 n1, .si .i64 n2, .si .i64 n3] := by
  have h := h.inv_arr Try.underlying25
  obtain ⟨a0, b0, rfl, k0, h⟩ := h.inv_cons
  obtain ⟨a1, b1, rfl, k1, h⟩ := h.inv_cons
  obtain ⟨a2, b2, rfl, k2, h⟩ := h.inv_cons
  obtain ⟨a3, b3, rfl, k3, h⟩ := h.inv_cons
  obtain rfl := h.inv_nil
  obtain ⟨n0, rfl⟩ := shpI k0
  obtain ⟨n1, rfl⟩ := shpI k1
  obtain ⟨n2, rfl⟩ := shpI k2
  obtain ⟨n3, rfl⟩ := shpI k3
  exact ⟨n0, n1, n2, n3, rfl⟩
theorem shpV25 {p : PV} (h : ShpV Try.prog 25 p) : ∃ n0 n1 n2 n3, p = .agg [.si .i64 n0, .si .i64 n1, .si .i64 n2, .si .i64 n3] := by
  obtain ⟨cs, rfl, h2⟩ := h.inv_agg (by kernel_rfl)
  obtain ⟨n0, n1, n2, n3, rfl⟩ := shp25 h2
  exact ⟨n0, n1, n2, n3, rfl⟩
theorem shp33 {cs : List PV} (h : Shp Try.prog 33 cs) : ∃ n0 n1, cs = [.si .i64 n0, .si .i64 n1] := by
  have h := h.inv_arr Try.underlying33
  obtain ⟨a0, b0, rfl, k0, h⟩ := h.inv_cons
  obtain ⟨a1, b1, rfl, k1, h⟩ := h.inv_cons
  obtain rfl := h.inv_nil
  obtain ⟨n0, rfl⟩ := shpI k0
  obtain ⟨n1, rfl⟩ := shpI k1
  exact ⟨n0, n1, rfl⟩
theorem shpV33 {p : PV} (h : ShpV Try.prog 33 p) : ∃ n0 n1, p = .agg [.si .i64 n0, .si .i64 n1] := by
  obtain ⟨cs, rfl, h2⟩ := h.inv_agg (by kernel_rfl)
  obtain ⟨n0, n1, rfl⟩ := shp33 h2
  exact ⟨n0, n1, rfl⟩
theorem shpO {p : PV} (h : ShpV Try.prog 24 p) : ∃ o : Obj, p = o.pv := by
  obtain ⟨cs, rfl, h2⟩ := h.inv_agg (by kernel_rfl)
  have h := h2.inv_struct Try.underlying24
  obtain ⟨a0, b0, rfl, k0, h⟩ := h.inv_cons
  obtain ⟨a1, b1, rfl, k1, h⟩ := h.inv_cons
  obtain ⟨a2, b2, rfl, k2, h⟩ := h.inv_cons
  obtain ⟨a3, b3, rfl, k3, h⟩ := h.inv_cons
  obtain ⟨a4, b4, rfl, k4, h⟩ := h.inv_cons
  obtain ⟨a5, b5, rfl, k5, h⟩ := h.inv_cons
  obtain ⟨a6, b6, rfl, k6, h⟩ := h.inv_cons
  obtain ⟨a7, b7, rfl, k7, h⟩ := h.inv_cons
  obtain ⟨a8, b8, rfl, k8, h⟩ := h.inv_cons
  obtain ⟨a9, b9, rfl, k9, h⟩ := h.inv_cons
  obtain ⟨a10, b10, rfl, k10, h⟩ := h.inv_cons
  obtain ⟨a11, b11, rfl, k11, h⟩ := h.inv_cons
  obtain ⟨a12, b12, rfl, k12, h⟩ := h.inv_cons
  obtain ⟨a13, b13, rfl, k13, h⟩ := h.inv_cons
  obtain ⟨a14, b14, rfl, k14, h⟩ := h.inv_cons
  obtain ⟨a15, b15, rfl, k15, h⟩ := h.inv_cons
  obtain ⟨a16, b16, rfl, k16, h⟩ := h.inv_cons
  obtain rfl := h.inv_nil
  obtain ⟨x0, rfl⟩ := shpI k0
  obtain ⟨x1, rfl⟩ := shpI k1
  obtain ⟨x2, rfl⟩ := shpI k2
  obtain ⟨x3, rfl⟩ := shpI k3
  obtain ⟨x4, rfl⟩ := shpI k4
  obtain ⟨x5, rfl⟩ := shpB k5
  obtain ⟨x6, rfl⟩ := shpB k6
  obtain ⟨x7, rfl⟩ := shpB k7
  obtain ⟨x8, rfl⟩ := shpB k8
  obtain ⟨x9, rfl⟩ := shpI k9
  obtain ⟨c0, c1, c2, rfl⟩ := shp22 k10
  obtain ⟨x11, rfl⟩ := shpI k11
  obtain ⟨x12, rfl⟩ := shpI k12
  obtain ⟨x13, rfl⟩ := shpI k13
  obtain ⟨x14, rfl⟩ := shpB k14
  obtain ⟨x15, rfl⟩ := shpI k15
  obtain ⟨x16, rfl⟩ := shpI k16
  exact ⟨⟨x0, x1, x2, x3, x4, x5, x6, x7, x8, x9, c0, c1, c2, x11, x12, x13, x14, x15, x16⟩, rfl⟩
end Go.Proofs.Ytkejjohamlimeaa
