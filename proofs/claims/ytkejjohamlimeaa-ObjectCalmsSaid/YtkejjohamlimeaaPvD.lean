/-
  The chapter's examples and the six statements' functions: each returns true.
-/
import Derived.Test.YtkejjohamlimeaaPvC
namespace Go.Proofs.Ytkejjohamlimeaa
open Go Go.Pv
set_option linter.all false
set_option linter.unusedSimpArgs false
set_option maxRecDepth 100000
set_option maxHeartbeats 4000000

def obj1 : Obj := ⟨7, 2, 1, 1, 0, false, true, false, false, 0, 2, 0, 0, 9, -1, 0, false, 0, 0⟩
def obj2 : Obj := ⟨8, 2, 1, 1, 3, false, false, false, false, 0, 0, 0, 0, 10, -1, -1, false, 0, 0⟩
def obj3 : Obj := ⟨9, 2, 1, 0, 0, false, false, true, false, 0, 0, 0, 0, 11, -1, -1, false, 0, 0⟩
theorem is1 : true = true ↔ IsO obj1 3 2 := ⟨fun _ => by constructor <;> decide, fun _ => rfl⟩
theorem is2 : true = true ↔ IsO obj2 3 2 := ⟨fun _ => by constructor <;> decide, fun _ => rfl⟩
theorem is3 : false = true ↔ IsO obj2 2 2 := by
  constructor
  · intro h; cases h
  · intro h; have := h.a3; simp [obj2] at this
theorem fn13 : Pv.Fn Try.prog tab.gl 13 [] (fun u => u = .sb true) := by
  refine fn_of tabOK rfl wf Try.func13 rfl Try.call13 rfl ?_
  intro S R hS hR
  cbv
  refine l_callq hS (fn9 _ _ _ _ _) ?_
  cbv
  refine l_callq hS (fn11 obj1 8 3 0 10 obj2 rfl) ?_
  cbv
  refine l_callq hS (fn11 obj2 9 0 0 11 obj3 rfl) ?_
  cbv
  repeat' (first
    | (refine l_brT hS (by subst hS; simp [Sig.std, stdCmp]; done) ?_; cbv)
    | (refine l_callq hS (fn18 obj1 3 2 true is1) ?_; cbv)
    | (refine l_callq hS (fn18 obj2 3 2 true is2) ?_; cbv)
    | (refine l_callq hS (fn18 obj2 2 2 false is3) ?_; cbv)
    | (refine l_callq hS (fn16 obj1) ?_; cbv))
  refine hR _ ?_
  subst hS
  simp [Sig.std, stdCmp]

theorem isO_ex (o : Obj) (cards players : Int) : ∃ x : Bool, (x = true ↔ IsO o cards players) := by
  classical
  exact ⟨decide (IsO o cards players), by simp⟩
theorem isO_moved {o : Obj} {cards players id zone control stamp : Int} (h : IsO o cards players) (h1 : 1 ≤ id) (h2 : 0 ≤ zone) (h3 : zone ≤ 5) (h4 : 0 ≤ control) (h5 : control < players) (h6 : 0 ≤ stamp) (h7 : stamp ≤ 1000000) :
    IsO (movedO o id zone control stamp) cards players := by
  obtain ⟨a1, a2, a3, a4, a5, a6, a7, a8, a9, b1, b2, b3, b4, b5, b6, b7, b8, c1, d1, d2, d3, d4, e1⟩ := h
  constructor <;> simp only [movedO, newO]
  all_goals first
    | omega
    | decide
    | (split <;> omega)
    | skip
  by_cases hz : zone = 0
  · exact .inl hz
  · exact .inr (by simp [hz])
theorem isO_ended {o : Obj} {cards players : Int} (h : IsO o cards players) : IsO (endedO o) cards players := by
  obtain ⟨a1, a2, a3, a4, a5, a6, a7, a8, a9, b1, b2, b3, b4, b5, b6, b7, b8, c1, d1, d2, d3, d4, e1⟩ := h
  constructor <;> simp only [endedO]
  all_goals first
    | omega
    | assumption
    | skip
  rcases e1 with e1 | e1
  · exact .inl e1
  · exact .inr (by simp [e1])
theorem isO_calm {o : Obj} {cards players : Int} (h : IsO o cards players) : IsO (calmO o) cards players := by
  obtain ⟨a1, a2, a3, a4, a5, a6, a7, a8, a9, b1, b2, b3, b4, b5, b6, b7, b8, c1, d1, d2, d3, d4, e1⟩ := h
  constructor <;> simp only [calmO]
  all_goals first
    | omega
    | assumption
    | skip
  rcases e1 with e1 | e1
  · exact .inl e1
  · exact .inr (by simp [e1])

theorem fn3 (o : Obj) (n0 n1 n2 n3 : Int) : Pv.Fn Try.prog tab.gl 3 [o.pv, .agg [.si .i64 n0, .si .i64 n1, .si .i64 n2, .si .i64 n3]] (fun u => u = .sb true) := by
  obtain ⟨x, hx⟩ : ∃ x, x = movedO o n0 n1 n2 n3 := ⟨_, rfl⟩
  refine fn_of tabOK rfl wf Try.func3 rfl Try.call3 rfl ?_
  intro S R hS hR
  cbv
  repeat' (first
    | (refine l_brT hS (by subst hS; simp [Sig.std, stdCmp]; done) ?_; cbv)
    | (refine l_order hS (by kernel_rfl) ?_; cbv)
    | (refine l_callq hS (fn9 _ _ _ _ _) ?_; cbv)
    | (refine l_callq hS (fn10 _ _ _ _ _) ?_; cbv)
    | (refine l_callq hS (fn11 _ _ _ _ _ x hx) ?_; cbv)
    | (refine l_callq hS (fn12 _ _ _ _ _ x hx) ?_; cbv)
    | (refine l_callq hS fn13 ?_; cbv))
  exact hR _ rfl
theorem fn4 (o : Obj) : Pv.Fn Try.prog tab.gl 4 [o.pv] (fun u => u = .sb true) := by
  refine fn_of tabOK rfl wf Try.func4 rfl Try.call4 rfl ?_
  intro S R hS hR
  cbv
  repeat' (first
    | (refine l_brT hS (by subst hS; simp [Sig.std, stdCmp]; done) ?_; cbv)
    | (refine l_order hS (by kernel_rfl) ?_; cbv)
    | (refine l_callq hS (fn14 _) ?_; cbv)
    | (refine l_callq hS (fn15 _) ?_; cbv)
    | (refine l_callq hS (fn16 _) ?_; cbv)
    | (refine l_callq hS (fn17 _) ?_; cbv)
    | (refine l_callq hS fn13 ?_; cbv))
  exact hR _ rfl
theorem fn5 (o : Obj) (cards players : Int) : Pv.Fn Try.prog tab.gl 5 [o.pv, .si .i64 cards, .si .i64 players] (fun u => u = .sb true) := by
  obtain ⟨x, hx⟩ := isO_ex o cards players
  refine fn_of tabOK rfl wf Try.func5 rfl Try.call5 rfl ?_
  intro S R hS hR
  cbv
  repeat' (first
    | (refine l_brT hS (by subst hS; simp [Sig.std, stdCmp]; done) ?_; cbv)
    | (refine l_order hS (by kernel_rfl) ?_; cbv)
    | (refine l_callq hS (fn18 _ _ _ x hx) ?_; cbv)
    | (refine l_callq hS (fn19 _ _ _ x hx) ?_; cbv)
    | (refine l_callq hS fn13 ?_; cbv))
  exact hR _ rfl
theorem fn7 (o : Obj) (n0 n1 n2 n3 : Int) : Pv.Fn Try.prog tab.gl 7 [o.pv, .agg [.si .i64 n0, .si .i64 n1, .si .i64 n2, .si .i64 n3]] (fun u => u = .sb true) := by
  obtain ⟨x, hx⟩ : ∃ x, x = movedO o n0 n1 n2 n3 := ⟨_, rfl⟩
  refine fn_of tabOK rfl wf Try.func7 rfl Try.call7 rfl ?_
  intro S R hS hR
  cbv
  repeat' (first
    | (refine l_brT hS (by subst hS; simp [Sig.std, stdCmp, hx, movedO, newO]; done) ?_; cbv)
    | (refine l_order hS (by kernel_rfl) ?_; cbv)
    | (refine l_callq hS (fn11 _ _ _ _ _ x hx) ?_; cbv)
    | (refine l_callq hS (fn14 x) ?_; cbv)
    | (refine l_callq hS (fn16 x) ?_; cbv)
    | (refine l_callq hS fn13 ?_; cbv))
  exact hR _ rfl
theorem fn8 (o : Obj) (n0 n1 n2 n3 s0 s1 : Int) : Pv.Fn Try.prog tab.gl 8 [o.pv, .agg [.si .i64 n0, .si .i64 n1, .si .i64 n2, .si .i64 n3], .agg [.si .i64 s0, .si .i64 s1]] (fun u => u = .sb true) := by
  obtain ⟨x, hx⟩ := isO_ex o s0 s1
  obtain ⟨y, hy⟩ : ∃ y, y = movedO o n0 n1 n2 n3 := ⟨_, rfl⟩
  refine fn_of tabOK rfl wf Try.func8 rfl Try.call8 rfl ?_
  intro S R hS hR
  cbv
  refine l_callq hS (fn18 _ _ _ x hx) ?_
  cbv
  repeat' (first
    | (exact hR _ rfl)
    | (refine l_callq hS fn13 ?_; cbv)
    | (refine l_order hS (by kernel_rfl) ?_; cbv)
    | (refine l_callq hS (fn11 _ _ _ _ _ y hy) ?_; cbv)
    | (refine l_callq hS (fn14 o) ?_; cbv)
    | (refine l_callq hS (fn16 o) ?_; cbv)
    | (refine l_callq hS (fn18 y s0 s1 true (iff_of_true rfl (by
         subst hS hy
         simp [Sig.std, stdCmp] at *
         exact isO_moved (hx.1 (by assumption)) (by omega) (by omega) (by omega) (by omega) (by omega) (by omega) (by omega)))) ?_; cbv)
    | (refine l_callq hS (fn18 (endedO o) s0 s1 true (iff_of_true rfl (by
         subst hS
         simp [Sig.std, stdCmp] at *
         exact isO_ended (hx.1 (by assumption))))) ?_; cbv)
    | (refine l_callq hS (fn18 (calmO o) s0 s1 true (iff_of_true rfl (by
         subst hS
         simp [Sig.std, stdCmp] at *
         exact isO_calm (hx.1 (by assumption))))) ?_; cbv)
    | (refine l_brT hS rfl ?_; cbv)
    | (refine l_br hS ?_ ?_ <;> (intro _; cbv)))
end Go.Proofs.Ytkejjohamlimeaa
