/-
  The shapes of the statements' arguments.
-/
import Derived.Test.YtlelpgnmmbbfaaaPvShp
import Derived.Test.YtlelpgnmmbbfaaaW9a
import Derived.Test.YtlelpgnmmbbfaaaLa
namespace Go.Proofs.Ytlelpgnmmbbfaaa
open Go Go.Pv
set_option linter.all false
def ok3 (x : Int) : Prop := (Lit.int .i64 x).wf = true
theorem sT3 {cs : List PV} (h : Shp Try.prog 3 cs) : ∃ x : Int, cs = (eI .i64) x ∧ ok3 x := by
  obtain ⟨n, e, hw⟩ := h.inv_int Try.underlying3
  exact ⟨n, e, hw⟩
def ok23 (x : Arr6 Int) : Prop := ok3 x.a0 ∧ ok3 x.a1 ∧ ok3 x.a2 ∧ ok3 x.a3 ∧ ok3 x.a4 ∧ ok3 x.a5
theorem sT23 {cs : List PV} (h : Shp Try.prog 23 cs) : ∃ x : Arr6 Int, cs = (eArr6 (eI .i64)) x ∧ ok23 x := by
  have h := h.inv_arr Try.underlying23
  obtain ⟨a0, b0, rfl, k0, h⟩ := h.inv_cons
  obtain ⟨a1, b1, rfl, k1, h⟩ := h.inv_cons
  obtain ⟨a2, b2, rfl, k2, h⟩ := h.inv_cons
  obtain ⟨a3, b3, rfl, k3, h⟩ := h.inv_cons
  obtain ⟨a4, b4, rfl, k4, h⟩ := h.inv_cons
  obtain ⟨a5, b5, rfl, k5, h⟩ := h.inv_cons
  obtain rfl := h.inv_nil
  obtain ⟨n0, rfl, w0⟩ := sT3 k0
  obtain ⟨n1, rfl, w1⟩ := sT3 k1
  obtain ⟨n2, rfl, w2⟩ := sT3 k2
  obtain ⟨n3, rfl, w3⟩ := sT3 k3
  obtain ⟨n4, rfl, w4⟩ := sT3 k4
  obtain ⟨n5, rfl, w5⟩ := sT3 k5
  exact ⟨⟨n0, n1, n2, n3, n4, n5⟩, rfl, w0, w1, w2, w3, w4, w5⟩
def ok24 (x : Arr5 Int) : Prop := ok3 x.a0 ∧ ok3 x.a1 ∧ ok3 x.a2 ∧ ok3 x.a3 ∧ ok3 x.a4
theorem sT24 {cs : List PV} (h : Shp Try.prog 24 cs) : ∃ x : Arr5 Int, cs = (eArr5 (eI .i64)) x ∧ ok24 x := by
  have h := h.inv_arr Try.underlying24
  obtain ⟨a0, b0, rfl, k0, h⟩ := h.inv_cons
  obtain ⟨a1, b1, rfl, k1, h⟩ := h.inv_cons
  obtain ⟨a2, b2, rfl, k2, h⟩ := h.inv_cons
  obtain ⟨a3, b3, rfl, k3, h⟩ := h.inv_cons
  obtain ⟨a4, b4, rfl, k4, h⟩ := h.inv_cons
  obtain rfl := h.inv_nil
  obtain ⟨n0, rfl, w0⟩ := sT3 k0
  obtain ⟨n1, rfl, w1⟩ := sT3 k1
  obtain ⟨n2, rfl, w2⟩ := sT3 k2
  obtain ⟨n3, rfl, w3⟩ := sT3 k3
  obtain ⟨n4, rfl, w4⟩ := sT3 k4
  exact ⟨⟨n0, n1, n2, n3, n4⟩, rfl, w0, w1, w2, w3, w4⟩
def ok26 (x : GCost) : Prop := ok3 x.generic ∧ ok3 x.x ∧ ok24 x.color
theorem sT26 {cs : List PV} (h : Shp Try.prog 26 cs) : ∃ x : GCost, cs = (eGCost mapE) x ∧ ok26 x := by
  have h := h.inv_struct Try.underlying26
  obtain ⟨a0, b0, rfl, k0, h⟩ := h.inv_cons
  obtain ⟨a1, b1, rfl, k1, h⟩ := h.inv_cons
  obtain ⟨a2, b2, rfl, k2, h⟩ := h.inv_cons
  obtain rfl := h.inv_nil
  obtain ⟨n0, rfl, w0⟩ := sT3 k0
  obtain ⟨n1, rfl, w1⟩ := sT3 k1
  obtain ⟨n2, rfl, w2⟩ := sT24 k2
  exact ⟨⟨n0, n1, n2⟩, rfl, w0, w1, w2⟩
theorem sV23 {p : PV} (h : ShpV Try.prog 23 p) : ∃ x : Arr6 Int, p = .agg ((eArr6 (eI .i64)) x) ∧ ok23 x := by
  obtain ⟨cs, rfl, h2⟩ := h.inv_agg (by kernel_rfl)
  obtain ⟨x, rfl, hx⟩ := sT23 h2
  exact ⟨x, rfl, hx⟩
theorem sV26 {p : PV} (h : ShpV Try.prog 26 p) : ∃ x : GCost, p = .agg ((eGCost mapE) x) ∧ ok26 x := by
  obtain ⟨cs, rfl, h2⟩ := h.inv_agg (by kernel_rfl)
  obtain ⟨x, rfl, hx⟩ := sT26 h2
  exact ⟨x, rfl, hx⟩
end Go.Proofs.Ytlelpgnmmbbfaaa
