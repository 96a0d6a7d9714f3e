/-
  Pv, part 33: arguments by their shapes, as values of Lean's types.
-/
import Derived.Test.YtlelpgnmmbbfaaaPvRow
import Derived.Test.YtlelpgnmmbbfaaaPvOk
namespace Go.Pv
open Go
set_option linter.all false
theorem rows_of {α : Type} {enc : α → List PV} {ok : α → Prop} : ∀ {es : List (List PV)}, (∀ r ∈ es, ∃ x, r = enc x ∧ ok x) → ∃ l : List α, es = l.map enc ∧ (∀ x ∈ l, ok x) ∧ l.length = es.length
  | [], _ => ⟨[], rfl, by simp, rfl⟩
  | r :: es, h => by
    obtain ⟨x, e, hx⟩ := h r (by simp)
    obtain ⟨l, e2, h2, h3⟩ := rows_of fun r hr => h r (List.mem_cons_of_mem _ hr)
    refine ⟨x :: l, by rw [e, e2]; rfl, fun y hy => ?_, by simp [h3]⟩
    rcases List.mem_cons.1 hy with rfl | hy
    · exact hx
    · exact h2 y hy
end Go.Pv
