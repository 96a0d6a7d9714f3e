/-
  The shapes of the statements' arguments.
-/
import Derived.Test.YtjdakjnobladaaaPvShp
import Derived.Test.YtjdakjnobladaaaW10a
import Derived.Test.YtjdakjnobladaaaLd
namespace Go.Proofs.Ytjdakjnobladaaa
open Go Go.Pv
set_option linter.all false
def ok3 (x : Int) : Prop := (Lit.int .i64 x).wf = true
theorem sT3 {cs : List PV} (h : Shp Try.prog 3 cs) : ∃ x : Int, cs = (eI .i64) x ∧ ok3 x := by
  obtain ⟨n, e, hw⟩ := h.inv_int Try.underlying3
  exact ⟨n, e, hw⟩
def ok22 (l : List Int) : Prop := l.length ≤ maxLen ∧ ∀ x ∈ l, ok3 x
theorem sT22 {cs : List PV} (h : Shp Try.prog 22 cs) : ∃ x : List Int, cs = [.sl 1 (mapE.m Int (eI .i64) x) false] ∧ ok22 x := by
  obtain ⟨es, e, h1, h2⟩ := h.inv_slice Try.underlying22
  have hc : Try.prog.cellsOf 3 = 1 := by kernel_rfl
  rw [hc] at e
  obtain ⟨l, e2, h3, h4⟩ := rows_of fun r hr => sT3 (h1 r hr)
  exact ⟨l, by rw [e, e2]; rfl, by omega, h3⟩
def ok4 (_ : Bool) : Prop := True
theorem sT4 {cs : List PV} (h : Shp Try.prog 4 cs) : ∃ x : Bool, cs = eB x ∧ ok4 x := by
  obtain ⟨n, e⟩ := h.inv_bool Try.underlying4
  exact ⟨n, e, trivial⟩
def ok31 (l : List Bool) : Prop := l.length ≤ maxLen ∧ ∀ x ∈ l, ok4 x
theorem sT31 {cs : List PV} (h : Shp Try.prog 31 cs) : ∃ x : List Bool, cs = [.sl 1 (mapE.m Bool eB x) false] ∧ ok31 x := by
  obtain ⟨es, e, h1, h2⟩ := h.inv_slice Try.underlying31
  have hc : Try.prog.cellsOf 4 = 1 := by kernel_rfl
  rw [hc] at e
  obtain ⟨l, e2, h3, h4⟩ := rows_of fun r hr => sT4 (h1 r hr)
  exact ⟨l, by rw [e, e2]; rfl, by omega, h3⟩
def ok23 (l : List (List Bool)) : Prop := l.length ≤ maxLen ∧ ∀ x ∈ l, ok31 x
theorem sT23 {cs : List PV} (h : Shp Try.prog 23 cs) : ∃ x : List (List Bool), cs = [.sl 1 (mapE.m (List Bool) (eL mapE 1 eB) x) false] ∧ ok23 x := by
  obtain ⟨es, e, h1, h2⟩ := h.inv_slice Try.underlying23
  have hc : Try.prog.cellsOf 31 = 1 := by kernel_rfl
  rw [hc] at e
  obtain ⟨l, e2, h3, h4⟩ := rows_of fun r hr => sT31 (h1 r hr)
  exact ⟨l, by rw [e, e2]; rfl, by omega, h3⟩
theorem sV22 {p : PV} (h : ShpV Try.prog 22 p) : ∃ x : List Int, p = .sl 1 (mapE.m Int (eI .i64) x) false ∧ ok22 x := by
  obtain ⟨x, e, hx⟩ := sT22 (h.inv_one (by kernel_rfl))
  cases e
  exact ⟨x, rfl, hx⟩
theorem sV23 {p : PV} (h : ShpV Try.prog 23 p) : ∃ x : List (List Bool), p = .sl 1 (mapE.m (List Bool) (eL mapE 1 eB) x) false ∧ ok23 x := by
  obtain ⟨x, e, hx⟩ := sT23 (h.inv_one (by kernel_rfl))
  cases e
  exact ⟨x, rfl, hx⟩
end Go.Proofs.Ytjdakjnobladaaa
