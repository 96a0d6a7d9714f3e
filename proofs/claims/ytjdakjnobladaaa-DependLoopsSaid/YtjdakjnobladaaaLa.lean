/-
  What the functions of dependence compute: elements, needs, what leads to what.
-/
import Derived.Test.YtjdakjnobladaaaPvOk
import Derived.Test.YtjdakjnobladaaaWF
namespace Go.Proofs.Ytjdakjnobladaaa
open Go Go.Pv
set_option linter.all false
theorem nodup_len : ∀ (a l : List Int), a.Nodup → (∀ x ∈ a, x ∈ l) → a.length ≤ l.length
  | [], _, _, _ => by simp
  | x :: a, l, h, hs => by
    have h1 : x ∈ l := hs x (by simp)
    rw [List.nodup_cons] at h
    have := nodup_len a (l.erase x) h.2 fun y hy => by
      have hne : y ≠ x := fun e => h.1 (e ▸ hy)
      exact (List.mem_erase_of_ne hne).2 (hs y (by simp [hy]))
    rw [List.length_erase_of_mem h1] at this
    have := List.length_pos_of_mem h1
    simp only [List.length_cons]; omega
theorem take_succ_get {α : Type} (l : List α) (n : Nat) (h : n < l.length) : l.take (n + 1) = l.take n ++ [l[n]] := by
  rw [List.take_succ, List.getElem?_eq_getElem h]; rfl
theorem take_all {α : Type} (l : List α) : l.take l.length = l := List.take_of_length_le (Nat.le_refl _)

/-! ### search -/
theorem index_ok (s : List Int) (v : Int) (hs : s.length < 1000) : Ok (fun r => (v ∉ s ∧ r = -1) ∨ ∃ n : Nat, r = (n : Int) ∧ s[n]? = some v) (slices_Index_int s v) := by
  unfold slices_Index_int
  refine ok_for1 0 s.length (fun n => v ∉ s.take n) 0 rfl (Nat.zero_le _) (by omega) (by simp) ?_ ?_
  · intro i k hi hI hk
    unfold slices_Index_int_l1
    refine ok_brd (fun _ => ok_ixL i rfl hi (ok_brd (fun e => ?_) fun e => hk ?_)) fun h => absurd (show (i : Int) < (s.length : Int) by omega) h
    · exact ok_some (.inr ⟨i, rfl, by rw [List.getElem?_eq_getElem hi, e]⟩)
    · rw [take_succ_get s i hi]; simp only [List.mem_append, List.mem_singleton]; exact fun h => h.elim hI e
  · intro k hI
    unfold slices_Index_int_l1
    refine ok_brd (fun h => absurd h (by show ¬ (s.length : Int) < (s.length : Int); omega)) fun _ => ok_some (.inl ⟨by rwa [take_all] at hI, rfl⟩)
theorem contains_ok (s : List Int) (v : Int) (hs : s.length < 1000) : slices_Contains_int s v = some (decide (v ∈ s)) := by
  unfold slices_Contains_int
  refine ok_eq (ok_bnd (index_ok s v hs) ?_)
  rintro r (⟨h, rfl⟩ | ⟨n, rfl, h⟩)
  · exact ok_some (by simp [h])
  · have : v ∈ s := List.mem_of_getElem? h
    exact ok_some (by simp [this])
theorem has_ok (s : List Int) (v : Int) (hs : s.length < 1000) : r07_has s v = some (decide (v ∈ s)) := by
  unfold r07_has
  refine ok_eq (ok_for1 0 s.length (fun n => v ∉ s.take n) 0 rfl (Nat.zero_le _) (by omega) (by simp) ?_ ?_)
  · intro i k hi hI hk
    unfold r07_has_l1
    refine ok_brd (fun _ => ok_ixL i rfl hi (ok_brd (fun e => ?_) fun e => hk ?_)) fun h => absurd (show (i : Int) < (s.length : Int) by omega) h
    · have : v ∈ s := e ▸ List.getElem_mem hi
      exact ok_some (by simp [this])
    · rw [take_succ_get s i hi]; simp only [List.mem_append, List.mem_singleton]; exact fun h => h.elim hI fun h => e h.symm
  · intro k hI
    unfold r07_has_l1
    rw [take_all] at hI
    refine ok_brd (fun h => absurd h (by show ¬ (s.length : Int) < (s.length : Int); omega)) fun _ => ok_some (by simp [hI])

/-! ### elements -/
def addE (acc : List Int) (x : Int) : List Int := if 0 ≤ x ∧ x ∉ acc then acc ++ [x] else acc
def elF (l : List Int) : List Int := l.foldl addE []
theorem elF_take (l : List Int) (i : Nat) (hi : i < l.length) : elF (l.take (i + 1)) = addE (elF (l.take i)) l[i] := by
  rw [take_succ_get l i hi]; unfold elF; rw [List.foldl_append]; rfl
theorem elF_len : ∀ (l acc : List Int), (l.foldl addE acc).length ≤ acc.length + l.length
  | [], acc => by simp
  | x :: l, acc => by
    have := elF_len l (addE acc x)
    simp only [List.foldl_cons, List.length_cons]
    have h2 : (addE acc x).length ≤ acc.length + 1 := by unfold addE; split <;> simp
    omega
theorem elF_nodup : ∀ (l acc : List Int), acc.Nodup → (l.foldl addE acc).Nodup
  | [], acc, h => h
  | x :: l, acc, h => by
    simp only [List.foldl_cons]
    refine elF_nodup l _ ?_
    unfold addE; split
    · rename_i h2
      rw [List.nodup_append]
      exact ⟨h, by simp, fun a ha b hb e => by simp only [List.mem_singleton] at hb; subst hb; subst e; exact h2.2 ha⟩
    · exact h
theorem elF_mem : ∀ (l acc : List Int) (x : Int), x ∈ l.foldl addE acc ↔ x ∈ acc ∨ (x ∈ l ∧ 0 ≤ x)
  | [], acc, x => by simp
  | y :: l, acc, x => by
    simp only [List.foldl_cons, elF_mem l, List.mem_cons]
    unfold addE; split
    · rename_i h; simp only [List.mem_append, List.mem_singleton]
      constructor
      · rintro ((h1 | h1) | h1)
        · exact .inl h1
        · exact .inr ⟨.inl h1, h1 ▸ h.1⟩
        · exact .inr ⟨.inr h1.1, h1.2⟩
      · rintro (h1 | ⟨h1 | h1, h2⟩)
        · exact .inl (.inl h1)
        · exact .inl (.inr h1)
        · exact .inr ⟨h1, h2⟩
    · rename_i h
      constructor
      · rintro (h1 | h1)
        · exact .inl h1
        · exact .inr ⟨.inr h1.1, h1.2⟩
      · rintro (h1 | ⟨h1 | h1, h2⟩)
        · exact .inl h1
        · subst h1
          refine .inl (Classical.byContradiction fun hn => h ⟨h2, hn⟩)
        · exact .inr ⟨h1, h2⟩
theorem el_len (l : List Int) : (elF l).length ≤ l.length := by have := elF_len l []; simpa [elF] using this
theorem el_nodup (l : List Int) : (elF l).Nodup := elF_nodup l [] (by simp)
theorem el_mem (l : List Int) (x : Int) : x ∈ elF l ↔ x ∈ l ∧ 0 ≤ x := by have := elF_mem l [] x; simpa [elF] using this
theorem el_self (l : List Int) (h : l.Nodup) (h0 : ∀ x ∈ l, 0 ≤ x) : elF l = l := by
  have : ∀ (l acc : List Int), (acc ++ l).Nodup → (∀ x ∈ l, 0 ≤ x) → l.foldl addE acc = acc ++ l := by
    intro l
    induction l with
    | nil => intro acc _ _; simp
    | cons x l ih =>
      intro acc h h0
      have h1 : x ∉ acc := fun hx => by
        rw [List.nodup_append] at h
        exact h.2.2 x hx x (by simp) rfl
      have : addE acc x = acc ++ [x] := by unfold addE; rw [if_pos ⟨h0 x (by simp), h1⟩]
      rw [List.foldl_cons, this, ih _ (by simpa using h) fun y hy => h0 y (by simp [hy])]
      simp
  exact (this l [] (by simpa using h) h0).trans (by simp)
theorem elements_ok (l : List Int) (hl : l.length ≤ 24) : depend_elements l = some (elF l) := by
  unfold depend_elements
  refine ok_eq (ok_for 0 l.length (fun n t => t = elF (l.take n)) 0 rfl (Nat.zero_le _) (by omega) (by simp [elF]) ?_ ?_)
  · rintro i t k hi hI hk
    have hlen : t.length ≤ 24 := by have := el_len (l.take i); rw [← hI] at this; simp at this; omega
    unfold depend_elements_l1
    refine ok_brd (fun _ => ok_jn (fun s => s = addE t l[i]) ?_ fun s hs => hk s (by rw [elF_take l i hi, ← hI]; exact hs)) fun h => absurd (show (i : Int) < (l.length : Int) by omega) h
    intro k5 h5
    refine ok_ixL i rfl hi (ok_jn (fun s => s = decide (0 ≤ l[i] ∧ l[i] ∉ t)) ?_ ?_)
    · intro k9 h9
      refine ok_brd (fun h0 => ok_bnde (contains_ok t _ (by omega)) (h9 _ ?_)) fun h0 => h9 _ ?_
      · by_cases hx : l[i] ∈ t <;> simp [hx, h0]
      · simp [h0]
    · rintro s rfl
      refine ok_brd (fun h => ok_room (by show (2 * (t.length + 1) + 192) * 8 ≤ _; omega) (by show t.length + 1 ≤ _; omega) (h5 _ (by unfold addE; rw [if_pos h]))) fun h => h5 _ (by unfold addE; rw [if_neg h])
  · rintro t k hI
    unfold depend_elements_l1
    rw [take_all] at hI
    refine ok_brd (fun h => absurd h (by show ¬ (l.length : Int) < (l.length : Int); omega)) fun _ => ok_some hI
theorem elements2_ok (l : List Int) (hl : l.length ≤ 24) : r07_elements l = some (elF l) := by
  unfold r07_elements
  refine ok_eq (ok_for 0 l.length (fun n t => t = elF (l.take n)) 0 rfl (Nat.zero_le _) (by omega) (by simp [elF]) ?_ ?_)
  · rintro i t k hi hI hk
    have hlen : t.length ≤ 24 := by have := el_len (l.take i); rw [← hI] at this; simp at this; omega
    unfold r07_elements_l1
    refine ok_brd (fun _ => ok_jn (fun s => s = addE t l[i]) ?_ fun s hs => hk s (by rw [elF_take l i hi, ← hI]; exact hs)) fun h => absurd (show (i : Int) < (l.length : Int) by omega) h
    intro k5 h5
    refine ok_jn (fun s => s = decide (0 ≤ l[i] ∧ l[i] ∉ t)) ?_ ?_
    · intro k9 h9
      refine ok_ixL i rfl hi (ok_brd (fun h0 => ok_ixL i rfl hi (ok_bnde (has_ok t _ (by omega)) (h9 _ ?_))) fun h0 => h9 _ ?_)
      · by_cases hx : l[i] ∈ t <;> simp [hx, h0]
      · simp [h0]
    · rintro s rfl
      refine ok_brd (fun h => ok_ixL i rfl hi (ok_room (by show (2 * (t.length + 1) + 192) * 8 ≤ _; omega) (by show t.length + 1 ≤ _; omega) (h5 _ (by unfold addE; rw [if_pos h])))) fun h => h5 _ (by unfold addE; rw [if_neg h])
  · rintro t k hI
    unfold r07_elements_l1
    rw [take_all] at hI
    refine ok_brd (fun h => absurd h (by show ¬ (l.length : Int) < (l.length : Int); omega)) fun _ => ok_some hI

/-! ### needs -/
def nd (needs : List (List Bool)) (i j : Int) : Bool := decide (0 ≤ i) && (decide (0 ≤ j) && ((needs[i.toNat]?.bind fun r => r[j.toNat]?).getD false))
theorem need_ok (needs : List (List Bool)) (i j : Int) (hi : 0 ≤ i) (hj : 0 ≤ j) : r07_need needs i j = some (nd needs i j) := by
  obtain ⟨a, rfl⟩ := Int.eq_ofNat_of_zero_le hi
  obtain ⟨b, rfl⟩ := Int.eq_ofNat_of_zero_le hj
  unfold r07_need nd
  refine ok_eq (ok_brd (fun h => ?_) fun h => ?_)
  · have ha : a < needs.length := by unfold lenI at h; omega
    refine ok_ixL a rfl ha (ok_brd (fun h2 => ?_) fun h2 => ?_)
    · have hb : b < (needs[a]).length := by unfold lenI at h2; omega
      exact ok_ixL a rfl ha (ok_ixL b rfl hb (ok_some (by simp [ha, hb])))
    · have hb : (needs[a]).length ≤ b := by unfold lenI at h2; omega
      exact ok_some (by simp [ha, List.getElem?_eq_none hb])
  · have ha : needs.length ≤ a := by unfold lenI at h; omega
    exact ok_some (by simp [List.getElem?_eq_none ha])
theorem needed_ok (needs : List (List Bool)) (i j : Int) : depend_needed needs i j = some (nd needs i j) := by
  unfold depend_needed
  refine ok_eq (ok_brd (fun hi => ok_brd (fun hj => ?_) fun hj => ?_) fun hi => ?_)
  · exact ok_of (need_ok needs i j hi hj) rfl
  · exact ok_some (by unfold nd; simp [hj])
  · exact ok_some (by unfold nd; simp [hi])
theorem lneed_ok (needs : List (List Bool)) (i j : Int) : law07_need needs i j = some (nd needs i j) := needed_ok needs i j

/-! ### what leads to what -/
inductive TC (l : List Int) (needs : List (List Bool)) : Int → Int → Prop
  | one (i j : Int) : i ∈ l → j ∈ l → nd needs i j = true → TC l needs i j
  | step (i k j : Int) : i ∈ l → k ∈ l → nd needs i k = true → TC l needs k j → TC l needs i j
theorem TC.r {l : List Int} {needs : List (List Bool)} {i j : Int} (h : TC l needs i j) : j ∈ l := by
  induction h with
  | one _ _ _ h _ => exact h
  | step _ _ _ _ _ _ _ ih => exact ih
theorem TC.l {l : List Int} {needs : List (List Bool)} {i j : Int} (h : TC l needs i j) : i ∈ l := by
  cases h with
  | one _ _ h _ _ => exact h
  | step _ _ _ h _ _ _ => exact h
theorem TC.trans {l : List Int} {needs : List (List Bool)} {i j k : Int} (h : TC l needs i j) (h2 : TC l needs j k) : TC l needs i k := by
  induction h with
  | one _ _ a b c => exact .step _ _ _ a b c h2
  | step _ _ _ a b c _ ih => exact .step _ _ _ a b c (ih h2)
theorem TC.congr {l l' : List Int} {needs : List (List Bool)} (hl : ∀ x, x ∈ l → x ∈ l') {i j : Int} (h : TC l needs i j) : TC l' needs i j := by
  induction h with
  | one _ _ a b c => exact .one _ _ (hl _ a) (hl _ b) c
  | step _ _ _ a b c _ ih => exact .step _ _ _ (hl _ a) (hl _ b) c ih
theorem reached_ok (l : List Int) (needs : List (List Bool)) (i : Int) (hl : l.length ≤ 24) (hn : l.Nodup) (h0 : ∀ x ∈ l, 0 ≤ x) (hi : i ∈ l) :
    Ok (fun r => r.length ≤ 24 ∧ ∀ x, x ∈ r ↔ TC l needs i x) (r07_reached l needs i) := by
  unfold r07_reached
  refine ok_for 0 l.length (fun n t => t = (l.take n).filter (nd needs i)) 0 rfl (Nat.zero_le _) (by omega) (by simp) ?_ ?_
  · rintro a t k ha hI hk
    have hlen : t.length ≤ 24 := by have := List.length_filter_le (nd needs i) (l.take a); rw [← hI] at this; simp at this; omega
    have hs : (l.take (a + 1)).filter (nd needs i) = t ++ (if nd needs i l[a] = true then [l[a]] else []) := by
      rw [take_succ_get l a ha, List.filter_append, ← hI]; congr 1
      by_cases h : nd needs i l[a] = true <;> simp [h]
    unfold r07_reached_l3
    refine ok_brd (fun _ => ok_jn (fun s => s = (l.take (a + 1)).filter (nd needs i)) ?_ fun s hs => hk s hs) fun h => absurd (show (a : Int) < (l.length : Int) by omega) h
    intro k5 h5
    refine ok_ixL a rfl ha (ok_bnde (need_ok _ _ _ (h0 i hi) (h0 _ (List.getElem_mem ha))) (ok_br (fun h => ?_) fun h => ?_))
    · refine ok_ixL a rfl ha (ok_room (by show (2 * (t.length + 1) + 192) * 8 ≤ _; omega) (by show t.length + 1 ≤ _; omega) (h5 _ ?_))
      rw [hs, if_pos h]
    · refine h5 _ ?_
      rw [hs, if_neg (by simp [h])]; simp
  · rintro t k hI
    rw [take_all] at hI
    unfold r07_reached_l3
    refine ok_brd (fun h => absurd h (by show ¬ (l.length : Int) < (l.length : Int); omega)) fun _ => ?_
    refine ok_loop (fun s => ∃ a : Nat, s.1 = (a : Int) ∧ a ≤ s.2.length ∧ s.2.Nodup ∧ (∀ x ∈ s.2, TC l needs i x) ∧ (∀ x ∈ l, nd needs i x = true → x ∈ s.2) ∧ ∀ m y, m < a → y ∈ l → (∀ z, s.2[m]? = some z → nd needs z y = true → y ∈ s.2))
      (fun s => 25 - s.1.toNat) ⟨0, rfl, Nat.zero_le _, ?_, ?_, ?_, fun m y h => by omega⟩ (by show 25 - _ < 18446744073709551616; omega) ?_
    · subst hI; exact List.Pairwise.filter _ hn
    · subst hI; intro x hx; rw [List.mem_filter] at hx; exact .one _ _ hi hx.1 hx.2
    · subst hI; intro x hx h; rw [List.mem_filter]; exact ⟨hx, h⟩
    rintro ⟨a', t'⟩ k ⟨a, e, ha, hnd, htc, hfst, hdone⟩ hk
    simp only at e ha hnd htc hfst hdone; subst e
    have hlen : t'.length ≤ 24 := Nat.le_trans (nodup_len t' l hnd fun x hx => (htc x hx).r) hl
    unfold r07_reached_l2
    refine ok_brd (fun h => ?_) fun h => ?_
    · have ha2 : a < t'.length := by simp only [lenI] at h; omega
      refine ok_for 0 l.length (fun n (u : List Int) => u.Nodup ∧ (∀ x ∈ u, TC l needs i x) ∧ (∀ (m : Nat) (z : Int), t'[m]? = some z → u[m]? = some z) ∧ (∀ x ∈ t', x ∈ u) ∧ ∀ y ∈ l.take n, nd needs t'[a] y = true → y ∈ u) 0 rfl (Nat.zero_le _) (by omega) ⟨hnd, htc, fun _ _ h => h, fun _ h => h, by simp⟩ ?_ ?_
      · rintro b u k' hb ⟨hu1, hu2, hu3, hu4, hu5⟩ hk'
        have hulen : u.length ≤ 24 := Nat.le_trans (nodup_len u l hu1 fun x hx => (hu2 x hx).r) hl
        have hua : u[a]? = some t'[a] := hu3 a _ (List.getElem?_eq_getElem ha2)
        have hua2 : a < u.length := by rw [List.getElem?_eq_some_iff] at hua; exact hua.1
        have hua3 : u[a] = t'[a] := by rw [List.getElem?_eq_getElem hua2] at hua; exact Option.some.inj hua
        unfold r07_reached_l1
        refine ok_brd (fun _ => ok_jn (fun s => s = if nd needs t'[a] l[b] = true ∧ l[b] ∉ u then u ++ [l[b]] else u) ?_ fun s hs => hk' s ?_) fun h => absurd (show (b : Int) < (l.length : Int) by omega) h
        · intro k17 h17
          refine ok_jn (fun s => s = decide (nd needs t'[a] l[b] = true ∧ l[b] ∉ u)) ?_ ?_
          · intro k20 h20
            refine ok_ixO a rfl hua2 (ok_get hua2 (ok_ixL b rfl hb ?_))
            rw [hua3]
            refine ok_bnde (need_ok _ _ _ (h0 _ (htc _ (List.getElem_mem ha2)).r) (h0 _ (List.getElem_mem hb))) (ok_br (fun h => ?_) fun h => ?_)
            · refine ok_ixL b rfl hb (ok_bnde (has_ok u _ (by omega)) (h20 _ ?_))
              by_cases hx : l[b] ∈ u <;> simp [hx, h]
            · exact h20 _ (by simp [h])
          · rintro s rfl
            refine ok_brd (fun h => ok_ixL b rfl hb (ok_room (by show (2 * (u.length + 1) + 192) * 8 ≤ _; omega) (by show u.length + 1 ≤ _; omega) (h17 _ (by rw [if_pos h])))) fun h => h17 _ (by rw [if_neg h])
        · have hb2 : ∀ y ∈ l.take (b + 1), y ∈ l.take b ∨ y = l[b] := by intro y hy; rw [take_succ_get l b hb] at hy; exact (List.mem_append.1 hy).imp id List.mem_singleton.1
          by_cases h : nd needs t'[a] l[b] = true ∧ l[b] ∉ u
          · rw [if_pos h] at hs; subst hs
            refine ⟨?_, ?_, ?_, ?_, ?_⟩
            · rw [List.nodup_append]
              exact ⟨hu1, by simp, fun x hx y hy e => by simp only [List.mem_singleton] at hy; subst hy; subst e; exact h.2 hx⟩
            · intro x hx
              simp only [List.mem_append, List.mem_singleton] at hx
              rcases hx with hx | hx
              · exact hu2 x hx
              · subst hx
                have h1 := htc _ (List.getElem_mem ha2)
                exact h1.trans (.one _ _ h1.r (List.getElem_mem hb) h.1)
            · intro m z hm
              have := hu3 m z hm
              rw [List.getElem?_append_left]
              · exact this
              · rw [List.getElem?_eq_some_iff] at this; exact this.1
            · intro x hx; simp [hu4 x hx]
            · intro y hy hny
              rcases hb2 y hy with hy | hy
              · simp [hu5 y hy hny]
              · simp [hy]
          · rw [if_neg h] at hs; subst hs
            refine ⟨hu1, hu2, hu3, hu4, fun y hy hny => ?_⟩
            rcases hb2 y hy with hy | hy
            · exact hu5 y hy hny
            · subst hy; exact Classical.byContradiction fun hn => h ⟨hny, hn⟩
      · rintro u k' ⟨hu1, hu2, hu3, hu4, hu5⟩
        have hulen : u.length ≤ 24 := Nat.le_trans (nodup_len u l hu1 fun x hx => (hu2 x hx).r) hl
        rw [take_all] at hu5
        unfold r07_reached_l1
        have hau : a < u.length := by have := hu3 a _ (List.getElem?_eq_getElem ha2); rw [List.getElem?_eq_some_iff] at this; exact this.1
        refine ok_brd (fun h => absurd h (by show ¬ (l.length : Int) < (l.length : Int); omega)) fun _ => ?_
        rw [addI_nat (by omega)]
        refine hk (_, u) ⟨a + 1, rfl, hau, hu1, hu2, fun x hx h => hu4 x (hfst x hx h), ?_⟩ (by show 25 - (((a + 1 : Nat) : Int)).toNat < 25 - ((a : Int)).toNat; omega)
        intro m y hm hy z hz hzy
        by_cases hma : m = a
        · subst hma
          have := hu3 m _ (List.getElem?_eq_getElem ha2)
          have hz' : u[m]? = some z := hz
          rw [this] at hz'
          cases hz'
          exact hu5 y hy hzy
        · have hml : m < t'.length := by omega
          have hz2 : t'[m]? = some z := by
            have h1 := hu3 m _ (List.getElem?_eq_getElem hml)
            have hz' : u[m]? = some z := hz
            rw [h1] at hz'; cases hz'
            exact List.getElem?_eq_getElem hml
          exact hu4 y (hdone m y (by omega) hy z hz2 hzy)
    · have hae : a = t'.length := by simp only [lenI] at h; omega
      refine ok_some ⟨hlen, fun x => ⟨htc x, fun hx => ?_⟩⟩
      have hall : ∀ z ∈ t', ∀ y ∈ l, nd needs z y = true → y ∈ t' := by
        intro z hz y hy h
        obtain ⟨m, hm, rfl⟩ := List.getElem_of_mem hz
        exact hdone m y (by omega) hy _ (List.getElem?_eq_getElem hm) h
      have key : ∀ a x, TC l needs a x → (a = i ∨ a ∈ t') → x ∈ t' := by
        intro a x h
        induction h with
        | one p q hp hq h =>
          rintro (rfl | h1)
          · exact hfst _ hq h
          · exact hall _ h1 _ hq h
        | step p q r hp hq h _ ih =>
          rintro (rfl | h1)
          · exact ih (.inr (hfst _ hq h))
          · exact ih (.inr (hall _ h1 _ hq h))
      exact key _ _ hx (.inl rfl)
end Go.Proofs.Ytjdakjnobladaaa
