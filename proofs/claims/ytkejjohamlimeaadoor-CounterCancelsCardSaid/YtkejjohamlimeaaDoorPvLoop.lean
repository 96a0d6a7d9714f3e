/-
  Pv, part 24: loops.
-/
import Derived.Test.YtkejjohamlimeaaDoorPvSeat
import Derived.LoopN
namespace Go.Pv
open Go
set_option linter.all false

def rndE (T : Tab) (S : Sig) (b : Code) (Q : Post) : Nat → Env → Prop
  | 0, _ => False
  | n + 1, E => pwp T S b (seqQ (fun E => rndE T S b Q n E) Q) E

theorem lift_rounds {P : Program} {T : Tab} {C : Ctx T} {b : Code} {Q : Post} {nx : Env → Prop} {n : Nat} (hb : ∀ E a w, ActRep C E a w → nx E → Code.rounds P b (lift C Q) n a w) : ∀ e a w, lift C (seqQ nx Q) e a w → Exit.then (Code.rounds P b (lift C Q) n) (lift C Q) e a w := by
  intro e a w h
  cases e with
  | normal => obtain ⟨E, hA, hq⟩ := h; exact hb E a w hA hq
  | ret => obtain ⟨E, hA, hq⟩ := h; exact ⟨E, hA, hq⟩
  | exit n => obtain ⟨E, hA, hq⟩ := h; exact ⟨E, hA, hq⟩
  | _ => exact h.elim

theorem rndE_sound {P : Program} {T : Tab} (hT : TabOK P T) (hW : PWf P) {b : Code} {Q : Post} : ∀ (n : Nat) (E : Env), rndE T (Sig.std P T) b Q n E → ∀ (C : Ctx T) a w, ActRep C E a w → Code.rounds P b (lift C Q) n a w
  | 0, E, h, _, _, _, _ => h.elim
  | n + 1, E, h, C, a, w, hA => by
    unfold Code.rounds
    exact wp_mono (pwp_sound hT hW b _ E h C a w hA) (lift_rounds fun E' a' w' hA' hq => rndE_sound hT hW n E' hq C a' w' hA')

theorem inv_rounds {P : Program} {T : Tab} (hT : TabOK P T) (hW : PWf P) {b : Code} {Q : Post} {ι : Type} (keep : List Nat) (I : ι → Env) (μ : ι → Nat)
    (step : ∀ i, pwp T (Sig.std P T) b (seqQ (fun E' => ∃ j, μ j < μ i ∧ canE T.pas keep E' = I j) Q) (I i)) : ∀ (n : Nat) (i : ι), μ i < n → ∀ (C : Ctx T) a w, ActRep C (I i) a w → Code.rounds P b (lift C Q) n a w
  | 0, i, h, _, _, _, _ => by omega
  | n + 1, i, h, C, a, w, hA => by
    unfold Code.rounds
    refine wp_mono (pwp_sound hT hW b _ _ (step i) C a w hA) (lift_rounds fun E' a' w' hA' hq => ?_)
    obtain ⟨j, hj, he⟩ := hq
    exact inv_rounds hT hW keep I μ step n j (by omega) C a' w' (he ▸ ent_canE keep E' C a' w' hA')

section
variable {P : Program} {T : Tab} (hT : TabOK P T) (hW : PWf P) {S : Sig} (hS : S = Sig.std P T)
include hT hW hS
theorem l_rounds (n : Nat) {b : Code} {Q : Post} {E : Env} (h : rndE T S b Q n E) : S.loop b Q E := by
  subst hS
  intro C a w hA
  exact wp_loop_rounds n (rndE_sound hT hW n E h C a w hA)
/-- a loop by an invariant: a family of states in canonical form; what is not kept is forgotten -/
theorem l_loop {ι : Type} (keep : List Nat) (I : ι → Env) (μ : ι → Nat) {b : Code} {Q : Post} {E : Env} (i : ι) (he : canE T.pas keep E = I i) (step : ∀ i, pwp T S b (seqQ (fun E' => ∃ j, μ j < μ i ∧ canE T.pas keep E' = I j) Q) (I i)) : S.loop b Q E := by
  subst hS
  intro C a w hA
  exact wp_loop_rounds (μ i + 1) (inv_rounds hT hW keep I μ step _ i (by omega) C a w (he ▸ ent_canE keep E C a w hA))
end
end Go.Pv
