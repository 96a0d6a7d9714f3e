/-
  What the functions of dependence compute: the matrix of what leads to what, and the ready elements.
-/
import Derived.Test.YtjdakjnobladaaaLa
namespace Go.Proofs.Ytjdakjnobladaaa
open Go Go.Pv
set_option linter.all false
/-! ### tables of rows -/
def RowsAre (R : List (List Bool)) (n : Nat) (g : Nat → List Bool → Prop) : Prop := R.length = n ∧ ∀ (a : Nat) (row : List Bool), R[a]? = some row → g a row
theorem RowsAre.set {R : List (List Bool)} {n : Nat} {g g' : Nat → List Bool → Prop} (h : RowsAre R n g) (a : Nat) (row : List Bool) (h1 : ∀ b r, b ≠ a → b < n → g b r → g' b r) (h2 : g' a row) : RowsAre (R.set a row) n g' := by
  obtain ⟨hl, h⟩ := h
  refine ⟨by simp [hl], fun b r hb => ?_⟩
  by_cases e : a = b
  · subst e
    rw [List.getElem?_set_self'] at hb
    cases hr : R[a]? with
    | none => rw [hr] at hb; cases hb
    | some r0 => rw [hr] at hb; cases hb; exact h2
  · rw [List.getElem?_set_ne e] at hb
    have hbn : b < n := by rw [List.getElem?_eq_some_iff] at hb; obtain ⟨h3, _⟩ := hb; omega
    exact h1 b r (fun h => e h.symm) hbn (h b r hb)
/-- a row of n, by a function -/
def RowIs (n : Nat) (f : Nat → Bool) (row : List Bool) : Prop := row.length = n ∧ ∀ (b : Nat) (v : Bool), row[b]? = some v → v = f b
theorem RowIs.set {n : Nat} {f f' : Nat → Bool} {row : List Bool} (h : RowIs n f row) (b : Nat) (h1 : ∀ c, c ≠ b → f' c = f c) : RowIs n f' (row.set b (f' b)) := by
  obtain ⟨hl, h⟩ := h
  refine ⟨by simp [hl], fun c v hc => ?_⟩
  by_cases e : b = c
  · subst e
    rw [List.getElem?_set_self'] at hc
    cases hr : row[b]? with
    | none => rw [hr] at hc; cases hc
    | some r0 => rw [hr] at hc; cases hc; rfl
  · rw [List.getElem?_set_ne e] at hc
    rw [h1 c (fun h => e h.symm)]; exact h c v hc
def lg (l : List Int) (a : Nat) : Int := l.getD a 0
theorem lg_eq {l : List Int} {a : Nat} (h : a < l.length) : l[a] = lg l a := by simp [lg, h]
theorem lg_mem {l : List Int} {a : Nat} (h : a < l.length) : lg l a ∈ l := by rw [← lg_eq h]; exact List.getElem_mem h
/-- a table by a function -/
def Mat (n : Nat) (f : Nat → Nat → Bool) (R : List (List Bool)) : Prop := RowsAre R n fun a row => RowIs n (f a) row
/-- a way from a to b by steps below k -/
inductive PK (e : Nat → Nat → Prop) (k : Nat) : Nat → Nat → Prop
  | one (a b : Nat) : e a b → PK e k a b
  | step (a c b : Nat) : e a c → c < k → PK e k c b → PK e k a b
theorem PK.split {e : Nat → Nat → Prop} {k a b : Nat} (h : PK e (k + 1) a b) : PK e k a b ∨ (PK e k a k ∧ PK e k k b) := by
  induction h with
  | one a b h => exact .inl (.one _ _ h)
  | step a c b h hc _ ih =>
    by_cases hck : c = k
    · subst hck
      rcases ih with ih | ih
      · exact .inr ⟨.one _ _ h, ih⟩
      · exact .inr ⟨.one _ _ h, ih.2⟩
    · have : c < k := by omega
      rcases ih with ih | ih
      · exact .inl (.step _ _ _ h this ih)
      · exact .inr ⟨.step _ _ _ h this ih.1, ih.2⟩
def edge (l : List Int) (needs : List (List Bool)) (a b : Nat) : Prop := a < l.length ∧ b < l.length ∧ nd needs (lg l a) (lg l b) = true
theorem tc_pk {l : List Int} {needs : List (List Bool)} {i j : Int} (h : TC l needs i j) : ∀ a b, a < l.length → b < l.length → lg l a = i → lg l b = j → PK (edge l needs) l.length a b := by
  induction h with
  | one i j hi hj h => intro a b ha hb e1 e2; subst e1 e2; exact .one _ _ ⟨ha, hb, h⟩
  | step i k j hi hk h _ ih =>
    intro a b ha hb e1 e2
    obtain ⟨c, hc, e⟩ := List.getElem_of_mem hk
    rw [lg_eq hc] at e
    subst e1 e
    exact .step _ c _ ⟨ha, hc, h⟩ hc (ih c b hc hb rfl e2)
theorem Mat.get {n : Nat} {f : Nat → Nat → Bool} {R : List (List Bool)} (h : Mat n f R) {a b : Nat} (ha : a < n) (hb : b < n) : ∃ (h1 : a < R.length) (h2 : b < (R[a]).length), (R[a])[b] = f a b := by
  obtain ⟨hl, h⟩ := h
  have h1 : a < R.length := by omega
  obtain ⟨h2, h3⟩ := h a _ (List.getElem?_eq_getElem h1)
  have h4 : b < (R[a]).length := by omega
  exact ⟨h1, h4, h3 b _ (List.getElem?_eq_getElem h4)⟩
def upM (f : Nat → Nat → Bool) (a b : Nat) (v : Bool) (i j : Nat) : Bool := if i = a ∧ j = b then v else f i j
theorem Mat.set {n : Nat} {f : Nat → Nat → Bool} {R : List (List Bool)} (h : Mat n f R) {a : Nat} (b : Nat) (h1 : a < R.length) (v : Bool) : Mat n (upM f a b v) (R.set a ((R[a]).set b v)) := by
  have hr := h.2 a _ (List.getElem?_eq_getElem h1)
  refine RowsAre.set h a _ (fun i r hi _ hr => ?_) ?_
  · have : upM f a b v i = f i := by funext j; simp [upM, hi]
    rw [this]; exact hr
  · have e : v = upM f a b v a b := by simp [upM]
    have := RowIs.set (f' := upM f a b v a) hr b (fun c hc => by simp [upM, hc])
    rw [← e] at this; exact this
theorem leads_ok (l : List Int) (needs : List (List Bool)) (hl : l.length ≤ 24) (h0 : ∀ x ∈ l, 0 ≤ x) :
    Ok (fun r => r.1 = l ∧ ∃ f, Mat l.length f r.2 ∧ ∀ a b, a < l.length → b < l.length → (f a b = true ↔ TC l needs (lg l a) (lg l b))) (depend_leads l needs) := by
  unfold depend_leads
  refine ok_mks (n := l.length) rfl rfl (by omega) (by omega) ?_
  refine ok_for 0 l.length (fun n R => RowsAre R l.length fun a row => a < n → RowIs l.length (fun b => nd needs (lg l a) (lg l b)) row) 0 rfl (Nat.zero_le _) (by omega) ⟨by simp, fun _ _ _ h => by omega⟩ ?_ ?_
  · rintro a R k ha hI hk
    unfold depend_leads_l5
    refine ok_lt (ok_brd (fun _ => ?_) fun h => absurd (show (a : Int) < lenI (List.replicate l.length ([] : List Bool)) by simp [lenI]; omega) h)
    refine ok_mks (n := l.length) rfl rfl (by omega) (by omega) (ok_lt ?_)
    have haR : a < R.length := by rw [hI.1]; exact ha
    refine ok_ixO a rfl haR (ok_get haR ?_)
    refine ok_for 0 l.length (fun n R => RowsAre R l.length fun c row => (c < a → RowIs l.length (fun b => nd needs (lg l c) (lg l b)) row) ∧ (c = a → row.length = l.length ∧ ∀ b v, b < n → row[b]? = some v → v = nd needs (lg l a) (lg l b))) 0 rfl (Nat.zero_le _) (by omega) ?_ ?_ ?_
    · refine RowsAre.set hI a _ (fun b r hb _ h => ⟨h, fun e => absurd e hb⟩) ⟨fun h => by omega, fun _ => ⟨by simp, fun b v h => by omega⟩⟩
    · rintro b R' k' hb hI' hk'
      unfold depend_leads_l1
      have haR' : a < R'.length := by rw [hI'.1]; exact ha
      have hrow := (hI'.2 a _ (List.getElem?_eq_getElem haR')).2 rfl
      have hb' : b < (R'[a]).length := by rw [hrow.1]; exact hb
      refine ok_brd (fun _ => ok_ixO a rfl haR' (ok_get haR' (ok_ixL a rfl ha (ok_ixL b rfl hb (ok_bnde (needed_ok _ _ _) (ok_ixO b rfl hb' (ok_get haR' (ok_get hb' (hk' _ ?_))))))))) fun h => absurd (show (b : Int) < (l.length : Int) by omega) h
      refine RowsAre.set hI' a _ (fun c r hc _ h => ⟨h.1, fun e => absurd e hc⟩) ⟨fun h => by omega, fun _ => ⟨by simp [hrow.1], fun c v hc hv => ?_⟩⟩
      rw [lg_eq ha, lg_eq hb] at hv
      by_cases e : b = c
      · subst e
        rw [List.getElem?_set_self hb'] at hv; cases hv; rfl
      · rw [List.getElem?_set_ne e] at hv
        exact hrow.2 c v (by omega) hv
    · rintro R' k' hI'
      unfold depend_leads_l1
      refine ok_brd (fun h => absurd h (by show ¬ (l.length : Int) < (l.length : Int); omega)) fun _ => hk _ ⟨hI'.1, fun c row hc h => ?_⟩
      have := hI'.2 c row hc
      by_cases e : c = a
      · subst e
        obtain ⟨h1, h2⟩ := this.2 rfl
        refine ⟨h1, fun b v hv => h2 b v ?_ hv⟩
        rw [List.getElem?_eq_some_iff] at hv
        obtain ⟨h3, _⟩ := hv; omega
      · exact this.1 (by omega)
  · rintro R k hI
    unfold depend_leads_l5
    refine ok_lt (ok_brd (fun h => absurd h (by simp [lenI])) fun _ => ?_)
    have hM : Mat l.length (fun a b => nd needs (lg l a) (lg l b)) R := ⟨hI.1, fun a row ha => hI.2 a row ha (by
      rw [List.getElem?_eq_some_iff] at ha
      obtain ⟨h3, _⟩ := ha; rw [← hI.1]; exact h3)⟩
    refine ok_for 0 l.length (fun n R => ∃ f, Mat l.length f R ∧ (∀ a b, a < l.length → b < l.length → f a b = true → TC l needs (lg l a) (lg l b)) ∧ ∀ a b, a < l.length → b < l.length → PK (edge l needs) n a b → f a b = true) 0 rfl (Nat.zero_le _) (by omega) ?_ ?_ ?_
    · refine ⟨_, hM, fun a b ha hb h => .one _ _ (lg_mem ha) (lg_mem hb) h, fun a b ha hb h => ?_⟩
      cases h with
      | one _ _ h => exact h.2.2
      | step _ c _ _ h _ => omega
    · rintro K R' k1 hK ⟨f, hM', hs, hc⟩ hk1
      unfold depend_leads_l4
      refine ok_brd (fun _ => ?_) fun h => absurd (show (K : Int) < (l.length : Int) by omega) h
      refine ok_for 0 l.length (fun n R => ∃ f, Mat l.length f R ∧ (∀ a b, a < l.length → b < l.length → f a b = true → TC l needs (lg l a) (lg l b)) ∧ (∀ a b, a < l.length → b < l.length → PK (edge l needs) K a b → f a b = true) ∧
          ∀ a b, a < n → b < l.length → PK (edge l needs) K a K → PK (edge l needs) K K b → f a b = true) 0 rfl (Nat.zero_le _) (by omega) ⟨f, hM', hs, hc, fun a b h => by omega⟩ ?_ ?_
      · rintro A R2 k2 hA ⟨f2, hM2, hs2, hc2, hd2⟩ hk2
        unfold depend_leads_l3
        refine ok_brd (fun _ => ?_) fun h => absurd (show (A : Int) < (l.length : Int) by omega) h
        refine ok_for 0 l.length (fun n R => ∃ f, Mat l.length f R ∧ (∀ a b, a < l.length → b < l.length → f a b = true → TC l needs (lg l a) (lg l b)) ∧ (∀ a b, a < l.length → b < l.length → PK (edge l needs) K a b → f a b = true) ∧
          (∀ a b, a < A → b < l.length → PK (edge l needs) K a K → PK (edge l needs) K K b → f a b = true) ∧ ∀ b, b < n → PK (edge l needs) K A K → PK (edge l needs) K K b → f A b = true) 0 rfl (Nat.zero_le _) (by omega) ⟨f2, hM2, hs2, hc2, hd2, fun b h => by omega⟩ ?_ ?_
        · rintro B R3 k3 hB ⟨f3, hM3, hs3, hc3, hd3, he3⟩ hk3
          unfold depend_leads_l2
          refine ok_brd (fun _ => ok_jn (fun s => ∃ f, Mat l.length f s ∧ f = if f3 A K = true ∧ f3 K B = true then upM f3 A B true else f3) ?_ ?_) fun h => absurd (show (B : Int) < (l.length : Int) by omega) h
          · intro k4 h4
            obtain ⟨g1, g2, g3⟩ := hM3.get hA hK
            obtain ⟨g4, g5, g6⟩ := hM3.get hK hB
            obtain ⟨_, g8, g9⟩ := hM3.get hA hB
            refine ok_jn (fun s => s = (f3 A K && f3 K B)) ?_ ?_
            · intro k5 h5
              refine ok_ixO A rfl g1 (ok_get g1 (ok_ixO K rfl g2 (ok_get g1 (ok_get g2 ?_))))
              rw [g3]
              refine ok_br (fun h => ?_) fun h => h5 _ (by simp [h])
              refine ok_ixO K rfl g4 (ok_get g4 (ok_ixO B rfl g5 (ok_get g4 (ok_get g5 ?_))))
              rw [g6]
              exact h5 _ (by simp [h])
            · rintro s rfl
              refine ok_br (fun h => ?_) fun h => h4 _ ⟨f3, hM3, ?_⟩
              · rw [Bool.and_eq_true] at h
                refine ok_ixO A rfl g1 (ok_get g1 (ok_ixO B rfl g8 (ok_lt (ok_get g1 (ok_get g8 (h4 _ ⟨_, hM3.set B g1 true, ?_⟩))))))
                rw [if_pos h]
              · rw [if_neg]; intro h2; simp [h2.1, h2.2] at h
          · rintro s ⟨f4, hM4, e⟩
            have hle : ∀ a b, f3 a b = true → f4 a b = true := by
              intro a b h; rw [e]; split
              · unfold upM; split <;> simp [h]
              · exact h
            refine hk3 _ ⟨f4, hM4, ?_, fun a b ha hb h => hle _ _ (hc3 a b ha hb h), fun a b ha hb h1 h2 => hle _ _ (hd3 a b ha hb h1 h2), ?_⟩
            · intro a b ha hb h
              rw [e] at h
              split at h
              · rename_i h2
                unfold upM at h
                split at h
                · rename_i h3; obtain ⟨rfl, rfl⟩ := h3
                  exact (hs3 _ _ ha hK h2.1).trans (hs3 _ _ hK hb h2.2)
                · exact hs3 a b ha hb h
              · exact hs3 a b ha hb h
            · intro b hb h1 h2
              by_cases hbB : b = B
              · subst hbB
                rw [e, if_pos ⟨hc3 _ _ hA hK h1, hc3 _ _ hK hB h2⟩]
                simp [upM]
              · exact hle _ _ (he3 b (by omega) h1 h2)
        · rintro R3 k3 ⟨f3, hM3, hs3, hc3, hd3, he3⟩
          unfold depend_leads_l2
          refine ok_brd (fun h => absurd h (by show ¬ (l.length : Int) < (l.length : Int); omega)) fun _ => hk2 _ ⟨f3, hM3, hs3, hc3, fun a b ha hb h1 h2 => ?_⟩
          by_cases haA : a = A
          · subst haA; exact he3 b hb h1 h2
          · exact hd3 a b (by omega) hb h1 h2
      · rintro R2 k2 ⟨f2, hM2, hs2, hc2, hd2⟩
        unfold depend_leads_l3
        refine ok_brd (fun h => absurd h (by show ¬ (l.length : Int) < (l.length : Int); omega)) fun _ => hk1 _ ⟨f2, hM2, hs2, fun a b ha hb h => ?_⟩
        rcases h.split with h | ⟨h1, h2⟩
        · exact hc2 a b ha hb h
        · exact hd2 a b ha hb h1 h2
    · rintro R' k1 ⟨f, hM', hs, hc⟩
      unfold depend_leads_l4
      refine ok_brd (fun h => absurd h (by show ¬ (l.length : Int) < (l.length : Int); omega)) fun _ => ok_some ⟨rfl, f, hM', fun a b ha hb => ⟨hs a b ha hb, fun h => hc a b ha hb (tc_pk h a b ha hb rfl rfl)⟩⟩

/-! ### what is ready -/
open Classical in
noncomputable def tcB (l : List Int) (needs : List (List Bool)) (i j : Int) : Bool := decide (TC l needs i j)
theorem tcB_iff {l : List Int} {needs : List (List Bool)} {i j : Int} : tcB l needs i j = true ↔ TC l needs i j := by unfold tcB; simp
noncomputable def blkB (l : List Int) (needs : List (List Bool)) (i j : Int) : Bool := decide (j ≠ i) && (nd needs i j && !tcB l needs j i)
noncomputable def rdyB (l : List Int) (needs : List (List Bool)) (i : Int) : Bool := !(l.any (blkB l needs i))
noncomputable def readyF (l : List Int) (needs : List (List Bool)) : List Int := l.filter (rdyB l needs)
theorem leads1_ok (l : List Int) (needs : List (List Bool)) (hl : l.length ≤ 24) (i j : Int) (hi : i ∈ l) (hj : j ∈ l) (R : List (List Bool)) (f : Nat → Nat → Bool) (hM : Mat l.length f R) (hf : ∀ a b, a < l.length → b < l.length → (f a b = true ↔ TC l needs (lg l a) (lg l b))) :
    depend_leads_1 i j l R = some (tcB l needs i j) := by
  unfold depend_leads_1
  refine ok_eq (ok_bnd (index_ok l i (by omega)) ?_)
  rintro y1 (⟨h, _⟩ | ⟨a, rfl, ha⟩)
  · exact absurd hi h
  refine ok_bnd (index_ok l j (by omega)) ?_
  rintro y2 (⟨h, _⟩ | ⟨b, rfl, hb⟩)
  · exact absurd hj h
  rw [List.getElem?_eq_some_iff] at ha hb
  obtain ⟨ha, e1⟩ := ha
  obtain ⟨hb, e2⟩ := hb
  refine ok_brd (fun _ => ok_brd (fun _ => ?_) fun h => absurd (by omega) h) fun h => absurd (by omega) h
  obtain ⟨g1, g2, g3⟩ := hM.get ha hb
  refine ok_ixL a rfl g1 (ok_ixL b rfl g2 (ok_some ?_))
  rw [g3, ← e1, ← e2]
  have := hf a b ha hb
  rw [← lg_eq ha, ← lg_eq hb, ← tcB_iff] at this
  rw [Bool.eq_iff_iff]; exact this
theorem indexF_ok (s : List Int) (f : Int → Option Bool) (p : Int → Bool) (hs : s.length < 1000) (hf : ∀ x ∈ s, f x = some (p x)) : Ok (fun r => ((∀ x ∈ s, p x = false) ∧ r = -1) ∨ ∃ n : Nat, r = (n : Int) ∧ (∀ x ∈ s.take n, p x = false) ∧ ∃ x, s[n]? = some x ∧ p x = true) (slices_IndexFunc_int s f) := by
  unfold slices_IndexFunc_int
  refine ok_for1 0 s.length (fun n => ∀ x ∈ s.take n, p x = false) 0 rfl (Nat.zero_le _) (by omega) (by simp) ?_ ?_
  · intro i k hi hI hk
    unfold slices_IndexFunc_int_l1
    refine ok_brd (fun _ => ok_ixL i rfl hi (ok_bnde (hf _ (List.getElem_mem hi)) (ok_br (fun e => ?_) fun e => hk ?_))) fun h => absurd (show (i : Int) < (s.length : Int) by omega) h
    · exact ok_some (.inr ⟨i, rfl, hI, _, List.getElem?_eq_getElem hi, e⟩)
    · intro x hx
      rw [take_succ_get s i hi] at hx
      rcases List.mem_append.1 hx with h | h
      · exact hI x h
      · rw [List.mem_singleton.1 h]; exact e
  · intro k hI
    unfold slices_IndexFunc_int_l1
    rw [take_all] at hI
    refine ok_brd (fun h => absurd h (by show ¬ (s.length : Int) < (s.length : Int); omega)) fun _ => ok_some (.inl ⟨hI, rfl⟩)
theorem containsF_ok (s : List Int) (f : Int → Option Bool) (p : Int → Bool) (hs : s.length < 1000) (hf : ∀ x ∈ s, f x = some (p x)) : slices_ContainsFunc_int s f = some (s.any p) := by
  unfold slices_ContainsFunc_int
  refine ok_eq (ok_bnd (indexF_ok s f p hs hf) ?_)
  rintro r (⟨h, rfl⟩ | ⟨n, rfl, h1, x, h2, h3⟩)
  · refine ok_some ?_
    have : s.any p = false := by rw [List.any_eq_false]; intro x hx; simp [h x hx]
    rw [this]; rfl
  · refine ok_some ?_
    have : s.any p = true := List.any_eq_true.2 ⟨x, List.mem_of_getElem? h2, h3⟩
    rw [this]; simp
theorem ready_ok (left : List Int) (needs : List (List Bool)) (hl : left.length ≤ 24) : depend_Ready left needs = some (readyF (elF left) needs) := by
  unfold depend_Ready
  have hlen : (elF left).length ≤ 24 := Nat.le_trans (el_len left) hl
  refine ok_eq (ok_bnde (elements_ok left hl) (ok_bnd (leads_ok (elF left) needs hlen fun x hx => ((el_mem left x).1 hx).2) ?_))
  rintro ⟨l', R⟩ ⟨e, f, hM, hf⟩
  simp only at e hM; subst e
  generalize hE : elF left = l at *
  refine ok_for 0 l.length (fun n t => t = (l.take n).filter (rdyB l needs)) 0 rfl (Nat.zero_le _) (by omega) (by simp) ?_ ?_
  · rintro a t k ha hI hk
    have hlt : t.length ≤ 24 := by have := List.length_filter_le (rdyB l needs) (l.take a); rw [← hI] at this; simp at this; omega
    have hs : (l.take (a + 1)).filter (rdyB l needs) = t ++ (if rdyB l needs l[a] = true then [l[a]] else []) := by
      rw [take_succ_get l a ha, List.filter_append, ← hI]; congr 1
      by_cases h : rdyB l needs l[a] = true <;> simp [h]
    unfold depend_Ready_l1
    refine ok_brd (fun _ => ok_jn (fun s => s = (l.take (a + 1)).filter (rdyB l needs)) ?_ fun s hs => hk s hs) fun h => absurd (show (a : Int) < (l.length : Int) by omega) h
    intro k7 h7
    refine ok_ixL a rfl ha (ok_bnde (containsF_ok l _ (blkB l needs l[a]) (by omega) fun x hx => ?_) (ok_br (fun h => ?_) fun h => ?_))
    · unfold depend_Ready_1
      refine ok_eq (ok_brn (fun h => ok_bnde (needed_ok _ _ _) (ok_br (fun h2 => ok_bnde (leads1_ok l needs hlen x _ hx (List.getElem_mem ha) R f hM hf) (ok_some ?_)) fun h2 => ok_some ?_)) fun h => ok_some ?_)
      · unfold blkB; simp only [h2, ne_eq, h, not_false_eq_true, decide_true, Bool.true_and]; cases tcB l needs x l[a] <;> rfl
      · unfold blkB; simp [h2]
      · unfold blkB; simp [h]
    · have h2 : rdyB l needs l[a] = true := by unfold rdyB; cases hh : l.any (blkB l needs l[a]) <;> simp_all
      refine ok_room (by show (2 * (t.length + 1) + 192) * 8 ≤ _; omega) (by show t.length + 1 ≤ _; omega) (h7 _ ?_)
      rw [hs, if_pos h2]
    · have h2 : ¬ rdyB l needs l[a] = true := by unfold rdyB; cases hh : l.any (blkB l needs l[a]) <;> simp_all
      refine h7 _ ?_
      rw [hs, if_neg h2]; simp
  · rintro t k hI
    unfold depend_Ready_l1
    rw [take_all] at hI
    refine ok_brd (fun h => absurd h (by show ¬ (l.length : Int) < (l.length : Int); omega)) fun _ => ok_some hI
theorem ready2_ok (left : List Int) (needs : List (List Bool)) (hl : left.length ≤ 24) : r07_Ready left needs = some (readyF (elF left) needs) := by
  unfold r07_Ready
  have hlen : (elF left).length ≤ 24 := Nat.le_trans (el_len left) hl
  refine ok_eq (ok_bnde (elements2_ok left hl) ?_)
  have h0 : ∀ x ∈ elF left, 0 ≤ x := fun x hx => ((el_mem left x).1 hx).2
  have hnd := el_nodup left
  generalize hE : elF left = l at *
  refine ok_for 0 l.length (fun n t => t = (l.take n).filter (rdyB l needs)) 0 rfl (Nat.zero_le _) (by omega) (by simp) ?_ ?_
  · rintro a t k ha hI hk
    have hlt : t.length ≤ 24 := by have := List.length_filter_le (rdyB l needs) (l.take a); rw [← hI] at this; simp at this; omega
    have hs : (l.take (a + 1)).filter (rdyB l needs) = t ++ (if rdyB l needs l[a] = true then [l[a]] else []) := by
      rw [take_succ_get l a ha, List.filter_append, ← hI]; congr 1
      by_cases h : rdyB l needs l[a] = true <;> simp [h]
    unfold r07_Ready_l2
    refine ok_brd (fun _ => ok_jn (fun s => s = (l.take (a + 1)).filter (rdyB l needs)) ?_ fun s hs => hk s hs) fun h => absurd (show (a : Int) < (l.length : Int) by omega) h
    intro k6 h6
    refine ok_forr 0 l.length (fun n c => c = !((l.take n).any (blkB l needs l[a]))) 0 rfl (Nat.zero_le _) (by omega) (by simp) ?_ ?_
    · rintro b c k9 hb hc hk9
      have hs2 : (!((l.take (b + 1)).any (blkB l needs l[a]))) = (c && !blkB l needs l[a] l[b]) := by
        rw [take_succ_get l b hb, List.any_append, hc]; simp
      unfold r07_Ready_l1
      refine ok_brd (fun _ => ok_jn (fun s => s = (c && !blkB l needs l[a] l[b])) ?_ fun s hs => hk9 s (by rw [hs2]; exact hs)) fun h => absurd (show (b : Int) < (l.length : Int) by omega) h
      intro k12 h12
      refine ok_jn (fun s => s = blkB l needs l[a] l[b]) ?_ ?_
      · intro k15 h15
        refine ok_brn (fun h => ?_) fun h => ?_
        · have hab : b ≠ a := by simp only at h; omega
          have hne : l[b] ≠ l[a] := fun e => hab ((List.getElem_inj hnd).1 e)
          refine ok_ixL a rfl ha (ok_ixL b rfl hb (ok_bnde (need_ok _ _ _ (h0 _ (List.getElem_mem ha)) (h0 _ (List.getElem_mem hb))) (ok_br (fun h2 => ?_) fun h2 => h15 _ (by unfold blkB; simp [h2]))))
          refine ok_ixL b rfl hb (ok_bnd (reached_ok l needs _ hlen hnd h0 (List.getElem_mem hb)) ?_)
          rintro r ⟨hr, hr2⟩
          refine ok_ixL a rfl ha (ok_bnde (has_ok r _ (by omega)) (h15 _ ?_))
          have hx : decide (l[a] ∈ r) = tcB l needs l[b] l[a] := by
            rw [Bool.eq_iff_iff, tcB_iff, decide_eq_true_iff]; exact hr2 _
          rw [hx]; unfold blkB
          simp only [h2, ne_eq, hne, not_false_eq_true, decide_true, Bool.true_and]; cases tcB l needs l[b] l[a] <;> rfl
        · have hab : b = a := by simp only at h; omega
          subst hab
          exact h15 _ (by unfold blkB; simp)
      · rintro s rfl
        refine ok_br (fun h => h12 _ (by simp [h])) fun h => h12 _ (by simp [h])
    · rintro c k9 hc
      rw [take_all] at hc
      unfold r07_Ready_l1
      refine ok_brd (fun h => absurd h (by show ¬ (l.length : Int) < (l.length : Int); omega)) fun _ => ?_
      have hc2 : c = rdyB l needs l[a] := hc
      refine ok_br (fun h => ?_) fun h => h6 _ ?_
      · have h' : rdyB l needs l[a] = true := hc2 ▸ h
        refine ok_ixL a rfl ha (ok_room (by show (2 * (t.length + 1) + 192) * 8 ≤ _; omega) (by show t.length + 1 ≤ _; omega) (h6 _ ?_))
        rw [hs, if_pos h']
      · have h' : ¬ rdyB l needs l[a] = true := by rw [← hc2]; simp [show c = false from h]
        rw [hs, if_neg h']; simp
  · rintro t k hI
    unfold r07_Ready_l2
    rw [take_all] at hI
    refine ok_brd (fun h => absurd h (by show ¬ (l.length : Int) < (l.length : Int); omega)) fun _ => ok_some hI
end Go.Proofs.Ytjdakjnobladaaa
