/-
  Pv, part 24: loops.
-/
import Derived.Test.YtlelpgnmmbbfaaaPvSeat
import Derived.LoopN
namespace Go.Pv
open Go
set_option linter.all false

def rndE (T : Tab) (S : Sig) (b : Code) (Q : Post) : Nat → Env → Prop
  | 0, _ => False
  | n + 1, E => pwp T S b (seqQ (fun E => rndE T S b Q n E) Q) E

theorem lift_rounds {P : Program} {T : Tab} {C : Ctx T} {b : Code} {Q : Post} {nx : Env → Prop} {n : Nat} (hb : ∀ E a w, ActRep C E a w → nx E → Code.rounds P b (lift C Q) n a w) : ∀ e a w, lift C (seqQ nx Q) e a w → Exit.then (Code.rounds P b (lift C Q) n) (lift C Q) e a w := by
  intro e a w h
  cases e with
  | normal => obtain ⟨E, hA, hq⟩ := h; exact hb E a w hA hq
  | ret => obtain ⟨E, hA, hq⟩ := h; exact ⟨E, hA, hq⟩
  | exit n => obtain ⟨E, hA, hq⟩ := h; exact ⟨E, hA, hq⟩
  | _ => exact h.elim

theorem rndE_sound {P : Program} {T : Tab} (hT : TabOK P T) (hW : PWf P) {b : Code} {Q : Post} : ∀ (n : Nat) (E : Env), rndE T (Sig.std P T) b Q n E → ∀ (C : Ctx T) a w, ActRep C E a w → Code.rounds P b (lift C Q) n a w
  | 0, E, h, _, _, _, _ => h.elim
  | n + 1, E, h, C, a, w, hA => by
    unfold Code.rounds
    exact wp_mono (pwp_sound hT hW b _ E h C a w hA) (lift_rounds fun E' a' w' hA' hq => rndE_sound hT hW n E' hq C a' w' hA')

theorem inv_rounds {P : Program} {T : Tab} (hT : TabOK P T) (hW : PWf P) {b : Code} {Q : Post} {ι : Type} (keep : List Nat) (I : ι → Env) (μ : ι → Nat)
    (step : ∀ i, pwp T (Sig.std P T) b (seqQ (fun E' => ∃ j, μ j < μ i ∧ canE T.pas keep E' = I j) Q) (I i)) : ∀ (n : Nat) (i : ι), μ i < n → ∀ (C : Ctx T) a w, ActRep C (I i) a w → Code.rounds P b (lift C Q) n a w
  | 0, i, h, _, _, _, _ => by omega
  | n + 1, i, h, C, a, w, hA => by
    unfold Code.rounds
    refine wp_mono (pwp_sound hT hW b _ _ (step i) C a w hA) (lift_rounds fun E' a' w' hA' hq => ?_)
    obtain ⟨j, hj, he⟩ := hq
    exact inv_rounds hT hW keep I μ step n j (by omega) C a' w' (he ▸ ent_canE keep E' C a' w' hA')

/-- an empty slice without room, as an own slice -/
def nilO (t z : Nat) (E : Env) : Env := match getL E.tmps t with
  | .sl _ [] true => ⟨setL E.tmps t (.os E.next 0 0), inS E.st E.next (some (.arr false z [])), E.next + 1⟩
  | _ => E
def nilOs : List (Nat × Nat) → Env → Env
  | [], E => E
  | (t, z) :: l, E => nilOs l (nilO t z E)
theorem ent_nilO {T : Tab} (t z : Nat) (E : Env) : Ent T E (nilO t z E) := by
  unfold nilO
  split
  · rename_i sz hg
    intro C a w hA
    obtain ⟨⟨Y, σ, H⟩, hd⟩ := hA
    have H1 := H.empty (id := E.next) ⟨H.next _ (Nat.le_refl _), H.fix.1⟩ z
    refine ⟨⟨Y, σ, ?_⟩, hd⟩
    have hm : max E.next (E.next + 1) = E.next + 1 := by omega
    rw [hm] at H1
    refine H1.vals' (RepL.setSame _ _ _ H.vals ?_)
    have := H.vals.get _ _ t
    rw [hg] at this
    unfold Rep at this ⊢
    obtain ⟨sx, len, cap, e, hl, hc, hf, _⟩ := this
    have hl : len = 0 := by simpa using hl
    have hc := hf rfl
    subst hl
    rw [e, hc]
    exact .inr ⟨rfl, sx, rfl⟩
  · exact Ent.refl E
/-- constants, as symbols -/
def wkV : PV → PV
  | .int k n => .si k n
  | .bool b => .sb b
  | v => v
def wkB : Option Blk → Option Blk
  | some (.var ro row) => some (.var ro (mapV wkV row))
  | x => x
def wkS : St → St
  | [] => []
  | (b, x) :: l => (b, wkB x) :: wkS l
def wkE (E : Env) : Env := ⟨mapV wkV E.tmps, wkS E.st, E.next⟩
theorem lkS_wkS (c : Nat) : ∀ st : St, lkS (wkS st) c = wkB (lkS st c)
  | [] => rfl
  | (b, x) :: l => by
    simp only [wkS, lkS]
    cases Nat.beq b c with
    | true => rfl
    | false => exact lkS_wkS c l
theorem wkV_rep {w : World} {Y : Nat → Prop} {σ : Sg} (p : PV) (v : Value) (h : Rep w Y σ p v) : Rep w Y σ (wkV p) v := by
  cases p <;> first | exact h | (unfold wkV; unfold Rep at h ⊢; exact h)
theorem wkL_rep {w : World} {Y : Nat → Prop} {σ : Sg} : ∀ (ps : List PV) (vs : List Value), RepL w Y σ ps vs → RepL w Y σ (mapV wkV ps) vs
  | [], vs, h => h
  | p :: ps, vs, h => by
    unfold RepL at h
    obtain ⟨v, vs', rfl, h1, h2⟩ := h
    simp only [mapV]
    unfold RepL
    exact ⟨v, vs', rfl, wkV_rep p v h1, wkL_rep ps vs' h2⟩
/-- rows that stand for less -/
theorem SW.stLe {T : Tab} {C : Ctx T} {w : World} {Y : Nat → Prop} {σ : Sg} {ps : List PV} {vs : List Value} {st st' : St} {n : Nat} (H : SW C w Y σ ps vs st n)
    (h : ∀ b, lkS st' b = lkS st b ∨ ∃ ro row row', lkS st b = some (.var ro row) ∧ lkS st' b = some (.var ro row') ∧ row'.length = row.length ∧ ∀ cb o, RepC w Y σ cb row o → RepC w Y σ cb row' o) : SW C w Y σ ps vs st' n := by
  have some' : ∀ b x, lkS st' b = some x → ∃ y, lkS st b = some y := by
    intro b x hx
    rcases h b with e | ⟨ro, row, row', e1, e2, _⟩
    · exact ⟨x, by rw [← e]; exact hx⟩
    · exact ⟨_, e1⟩
  have ow : ∀ b r c h' sz es, OwAt st' b r c h' sz es → OwAt st b r c h' sz es := by
    rintro b r c h' sz es ⟨sz0, rows, row, h1, h2⟩
    rcases h b with e | ⟨ro, row1, row', e1, e2, _⟩
    · exact ⟨sz0, rows, row, by rw [← e]; exact h1, h2⟩
    · rw [e2] at h1; cases h1
  refine ⟨H.vals, ⟨?_, ?_⟩, H.next, H.yold, H.y0, H.c0, H.yshr, H.chg, ?_, H.glob, H.fix, ⟨?_, ?_, ?_, ?_⟩⟩
  · intro b x hx
    rcases h b with e | ⟨ro, row, row', e1, e2, e3, e4⟩
    · exact H.store.blk b x (by rw [← e]; exact hx)
    · rw [e2] at hx; cases hx
      rcases H.store.blk b _ e1 with ⟨l, hl, hB⟩ | ⟨_, _, _, hx⟩
      · refine .inl ⟨l, hl, ?_⟩
        unfold BlkRep at hB ⊢
        exact ⟨hB.1, by rw [e3]; exact hB.2.1, by rw [e3]; exact hB.2.2.1, e4 _ _ hB.2.2.2.1, hB.2.2.2.2⟩
      · cases hx
  · intro b b' x x' l l' hx hx' hl hl' e
    obtain ⟨y, hy⟩ := some' b x hx
    obtain ⟨y', hy'⟩ := some' b' x' hx'
    exact H.store.inj b b' y y' l l' hy hy' hl hl' e
  · intro b x l hx hl
    obtain ⟨y, hy⟩ := some' b x hx
    exact H.own b y l hy hl
  · intro b r c h' sz es ho; exact H.nest.rep _ _ _ _ _ _ (ow _ _ _ _ _ _ ho)
  · intro b r c h' sz es ho; exact H.nest.old _ _ _ _ _ _ (ow _ _ _ _ _ _ ho)
  · intro b r c h' sz es b' r' c' h2 sz' es' ho ho' e; exact H.nest.one _ _ _ _ _ _ _ _ _ _ _ _ (ow _ _ _ _ _ _ ho) (ow _ _ _ _ _ _ ho') e
  · intro b r c h' sz es b' x l ho hx hl
    obtain ⟨y, hy⟩ := some' b' x hx
    exact H.nest.sep _ _ _ _ _ _ b' y l (ow _ _ _ _ _ _ ho) hy hl
theorem ent_wkE {T : Tab} (E : Env) : Ent T E (wkE E) := by
  intro C a w hA
  obtain ⟨⟨Y, σ, H⟩, hd⟩ := hA
  refine ⟨⟨Y, σ, (H.vals' (wkL_rep _ _ H.vals)).stLe fun b => ?_⟩, hd⟩
  have hk : lkS (wkE E).st b = wkB (lkS E.st b) := lkS_wkS b E.st
  rw [hk]
  cases hb : lkS E.st b with
  | none => exact .inl rfl
  | some x =>
    cases x with
    | var ro row =>
      refine .inr ⟨ro, row, mapV wkV row, rfl, rfl, by rw [mapV_eq]; simp, fun cb o h => ?_⟩
      rw [mapV_eq]
      exact RepC.map wkV_rep row o h
    | _ => exact .inl rfl
theorem RepC.setSame {w : World} {Y : Nat → Prop} {σ : Sg} {b : Nat} {p : PV} : ∀ (ps : List PV) (o t : Nat), (∀ v, Rep w Y σ (getL ps t) v → Rep w Y σ p v) → RepC w Y σ b ps o → RepC w Y σ b (setL ps t p) o
  | [], o, t, _, h => by simpa [setL] using h
  | q :: ps, o, 0, hp, h => by
    unfold RepC at h; obtain ⟨⟨v, h1, h2⟩, h3⟩ := h
    simp only [setL]; unfold RepC; exact ⟨⟨v, h1, hp v h2⟩, h3⟩
  | q :: ps, o, t + 1, hp, h => by
    unfold RepC at h; obtain ⟨h1, h3⟩ := h
    simp only [setL]; unfold RepC; exact ⟨h1, RepC.setSame ps (o + 1) t hp h3⟩
/- an empty slice without room, as an own slice or as one that is read alone: in a temporary, in a variable's cell -/
inductive Cv where
  | tO (t z : Nat)
  | tS (t z : Nat)
  | cO (b c z : Nat)
  | cS (b c z : Nat)
  /- a part of an own block as a block of its own; an own slice that is read alone from now on -/
  | tR (t : Nat)
  | tF (t : Nat)
  | cF (b c : Nat)
def cvS (z : Nat) (v : PV) : PV :=
  match v with
  | .sl a es f => (match f with
    | true => (match es with
      | [] => .sl z [] false
      | _ :: _ => .sl a es f)
    | false => .sl a es f)
  | v => v
theorem cvS_rep {w : World} {Y : Nat → Prop} {σ : Sg} (z : Nat) (p : PV) (v : Value) (h : Rep w Y σ p v) : Rep w Y σ (cvS z p) v := by
  unfold cvS
  split
  · split
    · split
      · unfold Rep at h ⊢
        obtain ⟨a, len, cap, e, hl, hc, _, _⟩ := h
        exact ⟨a, len, cap, e, hl, hc, (fun h => by cases h), .inl rfl⟩
      · exact h
    · exact h
  · exact h
def cvO (z n : Nat) (v : PV) : Option PV :=
  match v with
  | .sl _ es f => (match f with
    | true => (match es with
      | [] => some (.os n 0 0)
      | _ :: _ => none)
    | false => none)
  | _ => none
theorem cvO_rep {w : World} {Y : Nat → Prop} {σ : Sg} {z n : Nat} {p q : PV} (e : cvO z n p = some q) (v : Value) (h : Rep w Y σ p v) : Rep w Y σ q v := by
  unfold cvO at e
  split at e
  · split at e
    · split at e
      · cases e
        unfold Rep at h ⊢
        obtain ⟨sx, len, cap, e, hl, hc, hf, _⟩ := h
        have hl : len = 0 := by simpa using hl
        have hc := hf rfl
        subst hl
        rw [e, hc]
        exact .inr ⟨rfl, sx, rfl⟩
      · cases e
    · cases e
  · cases e
def cv1 (S : Sig) : Cv → Env → Env
  | .tO t z, E => (match cvO z E.next (getL E.tmps t) with
    | some v => ⟨setL E.tmps t v, inS E.st E.next (some (.arr false z [])), E.next + 1⟩
    | none => E)
  | .tS t z, E => ⟨setL E.tmps t (cvS z (getL E.tmps t)), E.st, E.next⟩
  | .cO b c z, E => (match lkS E.st b with
    | some (.var ro row) => (match cvO z E.next (getL row c) with
      | some v => ⟨E.tmps, inS (inS E.st b (some (.var ro (setL row c v)))) E.next (some (.arr false z [])), E.next + 1⟩
      | none => E)
    | _ => E)
  | .cS b c z, E => (match lkS E.st b with
    | some (.var ro row) => ⟨E.tmps, inS E.st b (some (.var ro (setL row c (cvS z (getL row c))))), E.next⟩
    | _ => E)
  | .tR t, E => (match getL E.tmps t with
    | .os b r m => (match lkS E.st b with
      | some (.arr false sz rows) => ⟨setL E.tmps t (.os E.next 0 m), inS (inS E.st b none) E.next (some (.arr false sz (S.sub rows r m))), E.next + 1⟩
      | _ => E)
    | _ => E)
  | .tF t, E => (match getL E.tmps t with
    | .os b r m => (match lkS E.st b with
      | some (.arr _ sz rows) => ⟨setL E.tmps t (.sl sz (S.sub rows r m) false), inS E.st b (some (.arr true sz rows)), E.next⟩
      | _ => E)
    | _ => E)
  | .cF b c, E => (match lkS E.st b with
    | some (.var ro row) => (match getL row c with
      | .os b' r m => (match lkS E.st b' with
        | some (.arr _ sz rows) => ⟨E.tmps, inS (inS E.st b' (some (.arr true sz rows))) b (some (.var ro (setL row c (.sl sz (S.sub rows r m) false)))), E.next⟩
        | _ => E)
      | _ => E)
    | _ => E)
def cvE (S : Sig) : List Cv → Env → Env
  | [], E => E
  | c :: l, E => cvE S l (cv1 S c E)
theorem cv1_sw {P : Program} {T T' : Tab} {C : Ctx T} {w : World} {Y : Nat → Prop} {σ : Sg} {vs : List Value} (c : Cv) (E : Env) (H : SW C w Y σ E.tmps vs E.st E.next) : ∃ Y' σ', SW C w Y' σ' (cv1 (Sig.std P T') c E).tmps vs (cv1 (Sig.std P T') c E).st (cv1 (Sig.std P T') c E).next ∧ Keep w w Y Y' σ σ' := by
  have K0 : Keep w w Y Y σ σ := Keep.same (SgLe.refl _)
  have H1 : ∀ z, SW C w Y σ E.tmps vs (inS E.st E.next (some (.arr false z []))) (E.next + 1) := by
    intro z
    have H1 := H.empty (id := E.next) ⟨H.next _ (Nat.le_refl _), H.fix.1⟩ z
    have hm : max E.next (E.next + 1) = E.next + 1 := by omega
    rw [hm] at H1; exact H1
  cases c with
  | tO t z =>
    simp only [cv1]
    split
    · rename_i v he
      exact ⟨Y, σ, (H1 z).vals' (RepL.setSame _ _ _ H.vals (cvO_rep he _ (H.vals.get _ _ t))), K0⟩
    · exact ⟨Y, σ, H, K0⟩
  | tS t z => exact ⟨Y, σ, H.vals' (RepL.setSame _ _ _ H.vals (cvS_rep z _ _ (H.vals.get _ _ t))), K0⟩
  | cO b c z =>
    simp only [cv1]
    split
    · rename_i ro row hb
      split
      · rename_i v he
        refine ⟨Y, σ, (H1 z).stLe fun b' => ?_, K0⟩
        have hne : ¬ E.next = b := by
          intro e
          rcases H.store.blk b _ hb with ⟨l, hl, _⟩ | ⟨_, _, _, hx⟩
          · rw [H.next b (by omega)] at hl; cases hl
          · cases hx
        simp only [lkS_inS]
        by_cases h1 : E.next = b'
        · exact .inl (by simp [h1])
        · by_cases h2 : b = b'
          · subst h2
            exact .inr ⟨ro, row, setL row c v, by simp [h1, hb], by simp [h1], by simp [setL_eq], fun cb o h => RepC.setSame _ _ _ (fun v => cvO_rep he v) h⟩
          · exact .inl (by simp [h1, h2])
      · exact ⟨Y, σ, H, K0⟩
    · exact ⟨Y, σ, H, K0⟩
  | cS b c z =>
    simp only [cv1]
    split
    · rename_i ro row hb
      refine ⟨Y, σ, H.stLe fun b' => ?_, K0⟩
      simp only [lkS_inS]
      by_cases h2 : b = b'
      · subst h2
        exact .inr ⟨ro, row, setL row c (cvS z (getL row c)), hb, by simp, by simp [setL_eq], fun cb o h => RepC.setSame _ _ _ (fun v => cvS_rep z _ v) h⟩
      · exact .inl (by simp [h2])
    · exact ⟨Y, σ, H, K0⟩
  | tR t =>
    simp only [cv1]
    have hg := H.vals.get _ _ t
    split
    · rename_i b r m hp
      rw [hp] at hg
      split
      · rename_i sz rows hb
        obtain ⟨σ', H1, h1, k1⟩ := H.reroot hb hg
        exact ⟨Y, σ', H1.vals' (RepL.setSame _ _ _ H1.vals h1), Keep.same k1⟩
      · exact ⟨Y, σ, H, K0⟩
    · exact ⟨Y, σ, H, K0⟩
  | tF t =>
    simp only [cv1]
    split
    · rename_i b r m hp
      split
      · rename_i ro sz rows hb
        obtain ⟨Y', H1, hfr, hY⟩ := H.freeze hb (.inr ⟨ro, sz, rows, rfl, rfl⟩)
        refine ⟨Y', σ, H1.vals' (RepL.setSame _ _ _ H1.vals ?_), ⟨fun _ _ _ => rfl, fun k _ => hY k, Nat.le_refl _, SgLe.refl _⟩⟩
        have hg := H1.vals.get _ _ t
        rw [hp] at hg
        have hb' : lkS (inS E.st b (some (.arr true sz rows))) b = some (.arr true sz rows) := by rw [lkS_inS, if_pos rfl]
        obtain ⟨x, cap, ev, hn, hl, hr⟩ := os_rows hg (H1.store.blk b _ hb')
        show Rep w Y' σ (.sl sz ((rows.drop r).take m) false) _
        unfold Rep
        refine ⟨x, m, cap, ev, hl, hn, (fun h => by cases h), hr.imp id fun ⟨b', o, e, hlt, ⟨l, hl2, e2⟩, hR⟩ => ⟨b', o, e, ⟨hlt, by rw [e2]; exact hfr l hl2⟩, hR⟩⟩
      · exact ⟨Y, σ, H, K0⟩
    · exact ⟨Y, σ, H, K0⟩
  | cF b c =>
    simp only [cv1]
    split
    · rename_i ro row hbv
      split
      · rename_i b' r m hp
        split
        · rename_i ro' sz rows hb
          obtain ⟨Y', H1, hfr, hY⟩ := H.freeze hb (.inr ⟨ro', sz, rows, rfl, rfl⟩)
          refine ⟨Y', σ, H1.stLe fun d => ?_, ⟨fun _ _ _ => rfl, fun k _ => hY k, Nat.le_refl _, SgLe.refl _⟩⟩
          have hne : ¬ b' = b := by intro e; rw [e, hbv] at hb; cases hb
          rw [lkS_inS]
          by_cases h2 : b = d
          · subst h2
            refine .inr ⟨ro, row, setL row c (.sl sz ((Sig.std P T').sub rows r m) false), by rw [lkS_inS, if_neg hne]; exact hbv, by rw [if_pos rfl], by simp [setL_eq], fun cb o h => RepC.setSame _ _ _ (fun v hv => ?_) h⟩
            rw [hp] at hv
            have hb' : lkS (inS E.st b' (some (.arr true sz rows))) b' = some (.arr true sz rows) := by rw [lkS_inS, if_pos rfl]
            obtain ⟨x, cap, ev, hn, hl, hr⟩ := os_rows hv (H1.store.blk b' _ hb')
            show Rep w Y' σ (.sl sz ((rows.drop r).take m) false) _
            unfold Rep
            refine ⟨x, m, cap, ev, hl, hn, (fun h => by cases h), hr.imp id fun ⟨b2, o, e, hlt, ⟨l, hl2, e2⟩, hR⟩ => ⟨b2, o, e, ⟨hlt, by rw [e2]; exact hfr l hl2⟩, hR⟩⟩
          · exact .inl (by rw [if_neg h2])
        · exact ⟨Y, σ, H, K0⟩
      · exact ⟨Y, σ, H, K0⟩
    · exact ⟨Y, σ, H, K0⟩
theorem cvE_sw {P : Program} {T T' : Tab} {C : Ctx T} {w : World} {vs : List Value} : ∀ (l : List Cv) (E : Env) {Y : Nat → Prop} {σ : Sg}, SW C w Y σ E.tmps vs E.st E.next → ∃ Y' σ', SW C w Y' σ' (cvE (Sig.std P T') l E).tmps vs (cvE (Sig.std P T') l E).st (cvE (Sig.std P T') l E).next ∧ Keep w w Y Y' σ σ'
  | [], E, Y, σ, H => ⟨Y, σ, H, Keep.same (SgLe.refl _)⟩
  | c :: l, E, Y, σ, H => by
    obtain ⟨Y1, σ1, H1, k1⟩ := cv1_sw (P := P) (T' := T') c E H
    obtain ⟨Y2, σ2, H2, k2⟩ := cvE_sw (P := P) (T' := T') l _ H1
    exact ⟨Y2, σ2, H2, k1.trans2 k2⟩
theorem ent_cv1 {P : Program} {T T' : Tab} (c : Cv) (E : Env) : Ent T E (cv1 (Sig.std P T') c E) := by
  intro C a w hA
  obtain ⟨⟨Y, σ, H⟩, hd⟩ := hA
  obtain ⟨Y', σ', H', _⟩ := cv1_sw (P := P) (T' := T') c E H
  exact ⟨⟨Y', σ', H'⟩, hd⟩
theorem ent_cvE {P : Program} {T T' : Tab} : ∀ (l : List Cv) (E : Env), Ent T E (cvE (Sig.std P T') l E)
  | [], E => Ent.refl E
  | c :: l, E => fun C a w h => ent_cvE l _ C a w (ent_cv1 c E C a w h)
/-- n temporaries from the i-th on, forgotten but for those that are listed (in order) -/
def tpsL : Nat → Nat → List (Nat × PV) → List PV
  | _, 0, _ => []
  | i, n + 1, [] => .top :: tpsL (i + 1) n []
  | i, n + 1, (k, v) :: l => bif Nat.beq k i then v :: tpsL (i + 1) n l else .top :: tpsL (i + 1) n ((k, v) :: l)
theorem Ent.trans {T : Tab} {E F G : Env} (h : Ent T E F) (k : Ent T F G) : Ent T E G := fun C a w x => k C a w (h C a w x)
theorem ent_nilOs {T : Tab} : ∀ (l : List (Nat × Nat)) (E : Env), Ent T E (nilOs l E)
  | [], E => Ent.refl E
  | (t, z) :: l, E => (ent_nilO t z E).trans (ent_nilOs l _)

section
variable {P : Program} {T : Tab} (hT : TabOK P T) (hW : PWf P) {S : Sig} (hS : S = Sig.std P T)
include hT hW hS
theorem l_rounds (n : Nat) {b : Code} {Q : Post} {E : Env} (h : rndE T S b Q n E) : S.loop b Q E := by
  subst hS
  intro C a w hA
  exact wp_loop_rounds n (rndE_sound hT hW n E h C a w hA)
/-- a loop by an invariant: a family of states in canonical form; what is not kept is forgotten -/
theorem l_loop {ι : Type} (keep : List Nat) (I : ι → Env) (μ : ι → Nat) {b : Code} {Q : Post} {E : Env} (i : ι) (he : canE T.pas keep E = I i) (step : ∀ i, pwp T S b (seqQ (fun E' => ∃ j, μ j < μ i ∧ canE T.pas keep E' = I j) Q) (I i)) : S.loop b Q E := by
  subst hS
  intro C a w hA
  exact wp_loop_rounds (μ i + 1) (inv_rounds hT hW keep I μ step _ i (by omega) C a w (he ▸ ent_canE keep E C a w hA))
/-- the same; the temporaries `nils` may hold empty slices without room at the start -/
theorem l_loopV {ι : Type} (nils : List (Nat × Nat)) (keep : List Nat) (F : ι → Env) (Inv : ι → Prop) (μ : ι → Nat) {b : Code} {Q : Post} {E : Env} (i0 : ι) (h0 : Inv i0) (he : canE T.pas keep (wkE (nilOs nils E)) = F i0)
    (step : ∀ (I : ι → Env) (N : ι → Prop) (i : ι), (∀ i, I i = F i) → (∀ j, Inv j → μ j < μ i → N j) → Inv i → ∀ e, e = F i → pwp T S b (seqQ (fun E' => ∃ j, N j ∧ canE T.pas keep (wkE E') = I j) Q) e) : S.loop b Q E := by
  subst hS
  intro C a w hA
  have key : ∀ (n : Nat) (i : ι), μ i < n → Inv i → ∀ (C : Ctx T) a w, ActRep C (F i) a w → Code.rounds P b (lift C Q) n a w := by
    intro n
    induction n with
    | zero => intro i h; omega
    | succ n ih =>
      intro i h hi C a w hA
      unfold Code.rounds
      refine wp_mono (pwp_sound hT hW b _ _ (step F (fun j => Inv j ∧ μ j < μ i) i (fun _ => rfl) (fun j h1 h2 => ⟨h1, h2⟩) hi _ rfl) C a w hA) (lift_rounds fun E' a' w' hA' hq => ?_)
      obtain ⟨j, ⟨hj, hlt⟩, he⟩ := hq
      exact ih j (by omega) hj C a' w' (he ▸ ent_canE keep _ C a' w' (ent_wkE _ C a' w' hA'))
  exact wp_loop_rounds (μ i0 + 1) (key _ i0 (by omega) h0 C a w (he ▸ ent_canE keep _ C a w (ent_wkE _ C a w (ent_nilOs nils E C a w hA))))
theorem l_loopN {ι : Type} (nils : List (Nat × Nat)) (keep : List Nat) (I : ι → Env) (μ : ι → Nat) {b : Code} {Q : Post} {E : Env} (i : ι) (he : canE T.pas keep (nilOs nils E) = I i) (step : ∀ i, pwp T S b (seqQ (fun E' => ∃ j, μ j < μ i ∧ canE T.pas keep E' = I j) Q) (I i)) : S.loop b Q E := by
  subst hS
  intro C a w hA
  exact wp_loop_rounds (μ i + 1) (inv_rounds hT hW keep I μ step _ i (by omega) C a w (he ▸ ent_canE keep _ C a w (ent_nilOs nils E C a w hA)))
end
end Go.Pv
