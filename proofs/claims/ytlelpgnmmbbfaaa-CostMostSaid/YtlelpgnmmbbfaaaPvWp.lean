/-
  Pv, part 21: pieces of code do what the interpreter says.
-/
import Derived.Test.YtlelpgnmmbbfaaaPvDraw3
namespace Go.Pv
open Go
set_option linter.all false

theorem lift_seq {T : Tab} {C : Ctx T} {P : Program} {b : Code} {Q : Post} {nx : Env → Prop} (hb : ∀ E a w, ActRep C E a w → nx E → b.wp P (lift C Q) a w) : ∀ e a w, lift C (seqQ nx Q) e a w → Exit.then (b.wp P (lift C Q)) (lift C Q) e a w := by
  intro e a w h
  cases e with
  | normal => obtain ⟨E, hA, hq⟩ := h; exact hb E a w hA hq
  | ret => obtain ⟨E, hA, hq⟩ := h; exact ⟨E, hA, hq⟩
  | exit n => obtain ⟨E, hA, hq⟩ := h; exact ⟨E, hA, hq⟩
  | _ => exact h.elim

theorem lift_ent {T : Tab} {C : Ctx T} {Q Q' : Post} (h : ∀ n E, Q n E → ∃ F, Ent T E F ∧ Q' n F) : ∀ e a w, lift C Q e a w → lift C Q' e a w := by
  intro e a w hq
  have go : ∀ n, (∃ E, ActRep C E a w ∧ Q n E) → ∃ E, ActRep C E a w ∧ Q' n E := by
    rintro n ⟨E, hA, hq⟩
    obtain ⟨F, h1, h2⟩ := h n E hq
    exact ⟨F, h1 C a w hA, h2⟩
  cases e with
  | normal => exact go 0 hq
  | ret => exact go 1 hq
  | exit n => exact go (n + 2) hq
  | _ => exact hq.elim

theorem pwp_sound {P : Program} {T : Tab} (hT : TabOK P T) (hW : PWf P) : ∀ (c : Code) (Q : Post) (E : Env), pwp T (Sig.std P T) c Q E → TripleC P T c Q E := by
  intro c
  induction c with
  | skip => intro Q E h C a w hA; exact wp_skip ⟨E, hA, h⟩
  | region id l dr =>
    intro Q E h C a w hA
    cases dr with
    | true =>
      obtain ⟨h1, h2⟩ := h
      cases hl : ltS E.next E.st with
      | false => rw [hl] at h2; exact h2.elim
      | true => rw [hl] at h2; exact draw_sound hT hW h1 hl h2 C a w hA _ fun E' a' w' hA' hK => ⟨E', hA', hK⟩
    | false => exact wp_region_list (opsE_sound hT hW l.toList E _ h a w hA fun E' a' w' hA' hK => ⟨E', hA', hK⟩)
  | seq x y ihx ihy =>
    intro Q E h C a w hA
    simp only [pwp] at h
    cases hs : goesOn T.cut x y with
    | true =>
      rw [hs] at h
      exact wp_seq (wp_mono (ihx _ E h C a w hA) (lift_seq fun E' a' w' hA' hq => ihy Q E' hq C a' w' hA'))
    | false =>
      rw [hs] at h
      obtain ⟨Q', h1, h2⟩ := h
      refine wp_seq (wp_mono (wp_mono (ihx Q' E h1 C a w hA) (lift_ent h2)) (lift_seq fun E' a' w' hA' hq => ihy Q E' hq C a' w' hA'))
  | cond c x y ihx ihy =>
    intro Q E h C a w hA
    cases c with
    | tmp c =>
      simp only [pwp] at h
      have hA' := hA
      obtain ⟨⟨Y, σ, H⟩, hd⟩ := hA'
      have hg := H.vals.get _ _ c
      have hev : a.eval (.tmp c) = a.tmps.toList.getD c Go.undef := by simp [Act.eval, Array.getD_eq_getD_getElem?, List.getD_eq_getElem?_getD]
      split at h
      · rename_i e; rw [e] at hg
        exact wp_cond_true (by rw [hev]; exact rep_bool hg) (ihx Q E h C a w hA)
      · rename_i e; rw [e] at hg
        exact wp_cond_false (by rw [hev]; exact rep_bool hg) (ihy Q E h C a w hA)
      · rename_i t e
        have hg2 := hg
        rw [e] at hg2
        refine wp_cond_split (t := t) (by rw [hev]; exact rep_sb hg2) (fun ht => ?_) (fun ht => ?_)
        · exact ihx Q _ (h.1 ht) C a w ⟨⟨Y, σ, H.setSame e true ht⟩, hd⟩
        · exact ihy Q _ (h.2 ht) C a w ⟨⟨Y, σ, H.setSame e false ht⟩, hd⟩
      · exact h.elim
    | const v =>
      cases v with
      | bool b =>
        cases b with
        | true => exact wp_cond_true rfl (ihx Q E h C a w hA)
        | false => exact wp_cond_false rfl (ihy Q E h C a w hA)
      | _ => exact (by simp [pwp] at h)
    | _ => exact (by simp [pwp] at h)
  | block id b ih =>
    intro Q E h C a w hA
    refine wp_block (wp_mono (ih _ E h C a w hA) fun e a' w' hq => ?_)
    cases e with
    | normal => exact hq
    | ret => exact hq
    | exit n =>
      obtain ⟨E', hA', hq⟩ := hq
      simp only [Exit.inBlock]
      have hq : (bif Nat.beq n id then Q 0 E' else Q (n + 2) E') := hq
      by_cases hn : n = id
      · rw [if_pos hn]
        subst hn
        simp only [Nat.beq_refl, cond_true] at hq
        exact ⟨E', hA', hq⟩
      · rw [if_neg hn]
        rw [beqN hn] at hq
        exact ⟨E', hA', hq⟩
    | _ => exact hq.elim
  | loop b ih => intro Q E h; exact h
  | exit n => intro Q E h C a w hA; exact wp_exit ⟨E, hA, h⟩
  | ret => intro Q E h C a w hA; exact wp_ret ⟨E, hA, h⟩
  | _ => intro Q E h; exact (by simp [pwp] at h)
end Go.Pv
